import PyProof.Rows.All
import Wide.All
import OpenK.AllK
import Wide.FinOn
import HandS.ForMost
import HandS.ForExc
import PyProof.TupleIter
import HandS.TupAny
import HandS.IsInst
import HandS.RaiseMore
import HandS.Deep
import HandS.TupLe
import HandS.Style
import HandS.ExcOwn
import HandS.TupMul
import HandS.Text
import HandS.More
import PyProof.ListStr
import HandS.Walk
import HandS.Zip
import KE.GoesEnum
import HandS.TupSets
import KE.KeyNested
import HandS.SetFor
import HandS.Replace
import HandS.SortRule
import KE.SortData
import PyProof.ListNew
import KE.KDictZip
import HandS.Conv
import HandS.DictComp
import KE.KDictKeyed
import HandS.Defaults
import HandS.HeadHook2
import HandS.WordsExc
import HandS.HeadWalk
import HandS.Head0
import HandS.Head1
import HandS.Head2
import PySem.Challenge.RW_wordsrest_k81_whole_systems_smaller_by_o
set_option Elab.async false
set_option linter.all false
set_option maxRecDepth 100000
set_option maxHeartbeats 2000000
/-! Plain data for the values of the program; how the heap bears them; what a run of plain data asks of the heap. -/
namespace R
open PySem PySem.Spec PyProof.Rows L2

/-- plain data: texts by their codes; `mut` is the one list that is changed in place through calls -/
inductive Dat where
  | non | bl (b : Bool) | int (i : Int) | str (s : List Nat)
  | tup (xs : List Dat) | lst (xs : List Dat)
  | fn (i : Nat) | cup
  | kl (xs : List Dat)
  | dct (ks vs : List Dat) | own (d : Dat)
  | fdc (ks vs : List Dat)

mutual
/-- no list, no dict within -/
def flatD : Dat → Bool
  | .non => true
  | .bl _ => true
  | .int _ => true
  | .str _ => true
  | .fn _ => true
  | .tup xs => flatL xs
  | _ => false
def flatL : List Dat → Bool
  | [] => true
  | x :: xs => flatD x && flatL xs
end
inductive Res (α : Type) where
  | ok (a : α) (g : List Dat)
  | exc (c : Nat) (g : List Dat)
  | bad
abbrev Mo (α : Type) := List Dat → Res α
def Res.bind {α β : Type} (r : Res α) (k : α → Mo β) : Res β := match r with
  | .ok a g => k a g
  | .exc c g => .exc c g
  | .bad => .bad

structure Cfg where
  K : PySem.W.Frag
  fa : Nat → Addr
  ex : Nat → Value
  fr : Nat → Bool
  cup : Option Addr
  M : List Addr

def KTup (K : PySem.W.Frag) (a : Addr) (xs : List V) : Prop :=
  ∃ (o : Obj) (its : Array Value) (n : Nat), K.lookup a = some o ∧ o.cls = .type "tuple" ∧ o.data = .seq its n ∧ its.size ≤ sizeLine ∧ Vals xs its.toList
/-- a text as the machine can lay it -/
def SOk (x : Str) : Prop := x.length ≤ sizeLine ∧ ∀ c ∈ x.cps.toList, c < 1114112
def TupAt (C : Cfg) (H : Hp) (a : Addr) (xs : List V) : Prop := (H a = some (.tup xs) ∧ C.cup ≠ some a ∧ a ∉ C.M) ∨ KTup C.K a xs
def KLst (K : PySem.W.Frag) (a : Addr) (xs : List V) : Prop :=
  ∃ (o : Obj) (its : Array Value) (n : Nat), K.lookup a = some o ∧ o.cls = .type "list" ∧ o.dict = none ∧ o.data = .seq its n ∧ its.size ≤ sizeLine ∧ Vals xs its.toList
def LstAt (C : Cfg) (H : Hp) (a : Addr) (xs : List V) : Prop := L2.Rd H a (.lst xs) ∧ C.cup ≠ some a ∧ a ∉ C.M
theorem TupAt.sq {C : Cfg} {H : Hp} {a : Addr} {xs : List V} (h : TupAt C H a xs) : SqT C.K H a xs := by
  rcases h with ⟨h, _⟩ | h
  · exact SqT.of h
  · exact .inr h
theorem LstAt.sq {C : Cfg} {K : PySem.W.Frag} {H : Hp} {a : Addr} {xs : List V} (h : LstAt C H a xs) : SqL K H a xs := .inl h.1

def DctAt (H : Hp) (C : Cfg) (a : Addr) (kvs : List (Key × V)) : Prop := H a = some (.dK kvs) ∧ C.cup ≠ some a ∧ a ∉ C.M
/-- a dict that is changed no more: this very object -/
def FdcAt (H : Hp) (C : Cfg) (a : Addr) (o : Obj) (kvs : List (Key × V)) : Prop := H a = some (.frz o (.dK kvs)) ∧ C.cup ≠ some a ∧ a ∉ C.M
/-- this very dict, its keys at these places -/
structure PinAt (H : Hp) (C : Cfg) (a : Addr) (o : Obj) (ks : List Addr) : Prop where
  at_ : H a = some (.ext fun h => h.get? a = some o)
  ex : o.ExactDict
  data : ∃ es ep, o.data = .dict es ep ∧ es.toList.map (·.key) = ks.map Value.ref
  sys : (a == sysModules) = false
  cup : C.cup ≠ some a
  nm : a ∉ C.M
/-- a key of a dict as data -/
def keyD : Key → Dat
  | .inl i => .int i
  | .inr x => .str x.cps.toList
def KeyOk : Key → Prop
  | .inl _ => True
  | .inr x => SOk x
mutual
/-- the value bears the data -/
inductive Rp (C : Cfg) (H : Hp) : V → Dat → Prop
  | non : Rp C H .non .non
  | bl (b : Bool) : Rp C H (.bl b) (.bl b)
  | int (i : Int) : Rp C H (.int i) (.int i)
  | str (x : Str) : SOk x → Rp C H (.str x) (.str x.cps.toList)
  | tup {a : Addr} {vs : List V} {ds : List Dat} : TupAt C H a vs → ds.length ≤ sizeLine → RpL C H vs ds → Rp C H (.ref a) (.tup ds)
  | lst {a : Addr} {vs : List V} {ds : List Dat} : LstAt C H a vs → ds.length ≤ sizeLine → RpL C H vs ds → Rp C H (.ref a) (.lst ds)
  | fn (i : Nat) : Rp C H (.ref (C.fa i)) (.fn i)
  | cup {a : Addr} : C.cup = some a → Rp C H (.ref a) .cup
  | kl {a : Addr} {vs : List V} {ds : List Dat} : KLst C.K a vs → ds.length ≤ sizeLine → RpL C H vs ds → Rp C H (.ref a) (.kl ds)
  | dct {a : Addr} {ks : List Key} {vs : List V} {ds : List Dat} : ks.length ≤ sizeLine → ks.length = vs.length → DctAt H C a (ks.zip vs) → (∀ k ∈ ks, KeyOk k) → RpL C H vs ds → Rp C H (.ref a) (.dct (ks.map keyD) ds)
  | fdc {a : Addr} {o : Obj} {ks : List Key} {vs : List V} {ds : List Dat} : ks.length ≤ sizeLine → ks.length = vs.length → FdcAt H C a o (ks.zip vs) → (∀ k ∈ ks, KeyOk k) → RpL C H vs ds → Rp C H (.ref a) (.fdc (ks.map keyD) ds)
  | fdn {a : Addr} {o : Obj} {ks : List Addr} {ds : List Dat} : PinAt H C a o ks → ds ≠ [] → ds.length ≤ sizeLine → RpL C H (ks.map V.ref) ds → Rp C H (.ref a) (.fdc ds [])
inductive RpL (C : Cfg) (H : Hp) : List V → List Dat → Prop
  | nil : RpL C H [] []
  | cons {v : V} {vs : List V} {d : Dat} {ds : List Dat} : Rp C H v d → RpL C H vs ds → RpL C H (v :: vs) (d :: ds)
end

/-- the cup's contents: flat data -/
structure RpG (C : Cfg) (H : Hp) (vs : List V) (g : List Dat) : Prop where
  rp : RpL C H vs g
  fl : flatL g = true
/-- the cup's contents; what is changed in place is tracked -/
def GR (C : Cfg) (g : List Dat) (H : Hp) : Prop := (∀ a ∈ C.M, H a ≠ none) ∧ ∀ a, C.cup = some a → ∃ vs, H a = some (.lst vs) ∧ RpG C H vs g
/-- all but the cup stands as it stood -/
def Ext (C : Cfg) (H H' : Hp) : Prop := ∀ a o, H a = some o → C.cup ≠ some a → H' a = some o
/-- all but what is changed in place stands as it stood -/
def ExtM (C : Cfg) (H H' : Hp) : Prop := ∀ a o, H a = some o → C.cup ≠ some a → a ∉ C.M → H' a = some o
theorem Ext.refl {C : Cfg} {H : Hp} : Ext C H H := fun _ _ h _ => h
theorem Ext.trans {C : Cfg} {H H1 H2 : Hp} (a : Ext C H H1) (b : Ext C H1 H2) : Ext C H H2 := fun c o h n => b c o (a c o h n) n
theorem Ext.m {C : Cfg} {H H' : Hp} (e : Ext C H H') : ExtM C H H' := fun a o h n _ => e a o h n
theorem ExtM.tup {C : Cfg} {H H' : Hp} {a : Addr} {xs : List V} (e : ExtM C H H') (h : TupAt C H a xs) : TupAt C H' a xs := by
  rcases h with ⟨h, n⟩ | h
  · exact .inl ⟨e _ _ h n.1 n.2, n⟩
  · exact .inr h
theorem ExtM.dct {C : Cfg} {H H' : Hp} {a : Addr} {xs : List (Key × V)} (e : ExtM C H H') (h : DctAt H C a xs) : DctAt H' C a xs := ⟨e _ _ h.1 h.2.1 h.2.2, h.2⟩
theorem ExtM.fdc {C : Cfg} {H H' : Hp} {a : Addr} {o : Obj} {xs : List (Key × V)} (e : ExtM C H H') (h : FdcAt H C a o xs) : FdcAt H' C a o xs := ⟨e _ _ h.1 h.2.1 h.2.2, h.2⟩
theorem ExtM.pin {C : Cfg} {H H' : Hp} {a : Addr} {o : Obj} {ks : List Addr} (e : ExtM C H H') (h : PinAt H C a o ks) : PinAt H' C a o ks := { h with at_ := e _ _ h.at_ h.cup h.nm }
theorem ExtM.lst {C : Cfg} {H H' : Hp} {a : Addr} {xs : List V} (e : ExtM C H H') (h : LstAt C H a xs) : LstAt C H' a xs := by
  rcases h with ⟨h | ⟨o, h⟩, n⟩
  · exact ⟨.inl (e _ _ h n.1 n.2), n⟩
  · exact ⟨.inr ⟨o, e _ _ h n.1 n.2⟩, n⟩
mutual
theorem Rp.extM {C : Cfg} {H H' : Hp} (e : ExtM C H H') : ∀ {v : V} {d : Dat}, Rp C H v d → Rp C H' v d
  | _, _, .non => .non
  | _, _, .bl b => .bl b
  | _, _, .int i => .int i
  | _, _, .str x h => .str x h
  | _, _, .tup h z r => .tup (e.tup h) z (RpL.extM e r)
  | _, _, .lst h z r => .lst (e.lst h) z (RpL.extM e r)
  | _, _, .fn i => .fn i
  | _, _, .cup h => .cup h
  | _, _, .kl h z r => .kl h z (RpL.extM e r)
  | _, _, .dct z hl h k r => .dct z hl (e.dct h) k (RpL.extM e r)
  | _, _, .fdc z hl h k r => .fdc z hl (e.fdc h) k (RpL.extM e r)
  | _, _, .fdn h n z r => .fdn (e.pin h) n z (RpL.extM e r)
theorem RpL.extM {C : Cfg} {H H' : Hp} (e : ExtM C H H') : ∀ {vs : List V} {ds : List Dat}, RpL C H vs ds → RpL C H' vs ds
  | _, _, .nil => .nil
  | _, _, .cons r rr => .cons (Rp.extM e r) (RpL.extM e rr)
end
theorem Rp.ext {C : Cfg} {H H' : Hp} (e : Ext C H H') {v : V} {d : Dat} (r : Rp C H v d) : Rp C H' v d := r.extM e.m
theorem RpL.ext {C : Cfg} {H H' : Hp} (e : Ext C H H') {v : List V} {d : List Dat} (r : RpL C H v d) : RpL C H' v d := r.extM e.m
theorem RpG.ext {C : Cfg} {H H' : Hp} (e : Ext C H H') {v : List V} {d : List Dat} (r : RpG C H v d) : RpG C H' v d := ⟨r.rp.ext e, r.fl⟩
theorem RpG.extM {C : Cfg} {H H' : Hp} (e : ExtM C H H') {v : List V} {d : List Dat} (r : RpG C H v d) : RpG C H' v d := ⟨r.rp.extM e, r.fl⟩
theorem RpL.len {C : Cfg} {H : Hp} : ∀ {vs : List V} {ds : List Dat}, RpL C H vs ds → vs.length = ds.length
  | _, _, .nil => rfl
  | _, _, .cons _ r => by simp [RpL.len r]
theorem RpG.len {C : Cfg} {H : Hp} {vs : List V} {ds : List Dat} (h : RpG C H vs ds) : vs.length = ds.length := h.rp.len
theorem RpL.get {C : Cfg} {H : Hp} : ∀ {vs : List V} {ds : List Dat} {i : Nat} {d : Dat}, RpL C H vs ds → ds[i]? = some d → ∃ v, vs[i]? = some v ∧ Rp C H v d
  | _, _, _, _, .nil, e => by simp at e
  | _, _, 0, _, .cons r _, e => by simp at e; subst e; exact ⟨_, rfl, r⟩
  | _, _, i + 1, _, .cons _ r, e => by
    obtain ⟨v, h1, h2⟩ := RpL.get (i := i) r (by simpa using e)
    exact ⟨v, by simpa using h1, h2⟩
theorem RpL.get' {C : Cfg} {H : Hp} : ∀ {vs : List V} {ds : List Dat} {i : Nat} {v : V}, RpL C H vs ds → vs[i]? = some v → ∃ d, ds[i]? = some d ∧ Rp C H v d
  | _, _, _, _, .nil, e => by simp at e
  | _, _, 0, _, .cons r _, e => by simp at e; subst e; exact ⟨_, rfl, r⟩
  | _, _, i + 1, _, .cons _ r, e => by
    obtain ⟨v, h1, h2⟩ := RpL.get' (i := i) r (by simpa using e)
    exact ⟨v, by simpa using h1, h2⟩
theorem RpL.append {C : Cfg} {H : Hp} : ∀ {vs ws : List V} {ds es : List Dat}, RpL C H vs ds → RpL C H ws es → RpL C H (vs ++ ws) (ds ++ es)
  | _, _, _, _, .nil, s => s
  | _, _, _, _, .cons r t, s => .cons r (RpL.append t s)
theorem RpL.take {C : Cfg} {H : Hp} : ∀ (n : Nat) {vs : List V} {ds : List Dat}, RpL C H vs ds → RpL C H (vs.take n) (ds.take n)
  | 0, _, _, _ => by rw [List.take_zero, List.take_zero]; exact .nil
  | _ + 1, _, _, .nil => .nil
  | n + 1, _, _, .cons r t => .cons r (RpL.take n t)
theorem RpL.drop {C : Cfg} {H : Hp} : ∀ (n : Nat) {vs : List V} {ds : List Dat}, RpL C H vs ds → RpL C H (vs.drop n) (ds.drop n)
  | 0, _, _, r => r
  | _ + 1, _, _, .nil => .nil
  | n + 1, _, _, .cons _ t => RpL.drop n t
theorem RpL.reverse {C : Cfg} {H : Hp} : ∀ {vs : List V} {ds : List Dat}, RpL C H vs ds → RpL C H vs.reverse ds.reverse
  | _, _, .nil => .nil
  | _, _, .cons r t => by
    rw [List.reverse_cons, List.reverse_cons]
    exact RpL.append (RpL.reverse t) (.cons r .nil)
theorem RpL.set {C : Cfg} {H : Hp} {v : V} {d : Dat} (r : Rp C H v d) : ∀ (i : Nat) {vs : List V} {ds : List Dat}, RpL C H vs ds → RpL C H (vs.set i v) (ds.set i d)
  | _, _, _, .nil => .nil
  | 0, _, _, .cons _ t => .cons r t
  | i + 1, _, _, .cons q t => .cons q (RpL.set r i t)
/-- a new object at a free place -/
theorem Ext.new {C : Cfg} {H : Hp} {p : Addr} {o : HO} (h : H p = none) : Ext C H (upd H p o) := fun a u e _ => by
  rw [upd_ne (ne_of_none e h)]; exact e
theorem GR.ext {C : Cfg} {g : List Dat} {H H' : Hp} (G : GR C g H) (e : Ext C H H') (hc : ∀ a, C.cup = some a → H' a = H a) : GR C g H' := by
  refine ⟨fun a ha => ?_, fun a h => ?_⟩
  · by_cases hcu : C.cup = some a
    · rw [hc a hcu]; exact G.1 a ha
    · cases q : H a with
      | none => exact absurd q (G.1 a ha)
      | some o => rw [e a o q hcu]; exact fun z => nomatch z
  · obtain ⟨vs, h1, h2⟩ := G.2 a h
    exact ⟨vs, (hc a h).trans h1, h2.ext e⟩
theorem GR.ne {C : Cfg} {g : List Dat} {H : Hp} (G : GR C g H) {p : Addr} (h : H p = none) : C.cup ≠ some p ∧ p ∉ C.M := ⟨fun e => (by
  obtain ⟨vs, h1, _⟩ := G.2 p e
  rw [h] at h1; cases h1), fun e => G.1 p e h⟩
theorem GR.new {C : Cfg} {g : List Dat} {H : Hp} {p : Addr} {o : HO} (G : GR C g H) (h : H p = none) : GR C g (upd H p o) :=
  G.ext (Ext.new h) fun a e => upd_ne fun z => by subst z; exact (G.ne h).1 e

/-- the frame: the slots hold what the plain slots tell -/
abbrev Sl := List (Option Dat)
def EnvR (C : Cfg) (H : Hp) (σ : L2.St) (ρ : Sl) : Prop := σ.length = ρ.length ∧ ∀ (i : Nat) (d : Dat), ρ[i]? = some (some d) → ∃ v, σ[i]? = some (some v) ∧ Rp C H v d
theorem EnvR.ext {C : Cfg} {H H' : Hp} {σ : L2.St} {ρ : Sl} (e : Ext C H H') (h : EnvR C H σ ρ) : EnvR C H' σ ρ :=
  ⟨h.1, fun i d q => let ⟨v, h1, h2⟩ := h.2 i d q; ⟨v, h1, h2.ext e⟩⟩
theorem EnvR.set {C : Cfg} {H : Hp} {σ : L2.St} {ρ : Sl} {i : Nat} {v : V} {d : Dat} (h : EnvR C H σ ρ) (r : Rp C H v d) : EnvR C H (σ.set i (some v)) (ρ.set i (some d)) := by
  refine ⟨by simp [h.1], fun j e q => ?_⟩
  by_cases hj : i = j
  · subst hj
    have hl : i < ρ.length := by
      have := (List.getElem?_eq_some_iff.mp q).1
      simpa using this
    rw [List.getElem?_set_self hl] at q
    cases q
    exact ⟨v, by rw [List.getElem?_set_self (by rw [h.1]; exact hl)], r⟩
  · rw [List.getElem?_set_ne hj] at q
    obtain ⟨w, h1, h2⟩ := h.2 j e q
    exact ⟨w, by rw [List.getElem?_set_ne hj]; exact h1, h2⟩
def wipeD (ρ : Sl) : List Nat → Sl
  | [] => ρ
  | v :: vs => (wipeD ρ vs).set v none
theorem EnvR.wipe1 {C : Cfg} {H : Hp} {σ : L2.St} {ρ : Sl} (i : Nat) (h : EnvR C H σ ρ) : EnvR C H (σ.set i none) (ρ.set i none) := by
  refine ⟨by simp [h.1], fun j e q => ?_⟩
  by_cases hj : i = j
  · subst hj
    have hl : i < ρ.length := by
      have := (List.getElem?_eq_some_iff.mp q).1
      simpa using this
    rw [List.getElem?_set_self hl] at q
    cases q
  · rw [List.getElem?_set_ne hj] at q
    obtain ⟨w, h1, h2⟩ := h.2 j e q
    exact ⟨w, by rw [List.getElem?_set_ne hj]; exact h1, h2⟩
theorem EnvR.wipe {C : Cfg} {H : Hp} {σ : L2.St} {ρ : Sl} (h : EnvR C H σ ρ) : ∀ vs : List Nat, EnvR C H (L2.wipe σ vs) (wipeD ρ vs)
  | [] => h
  | v :: vs => by
    unfold L2.wipe wipeD
    exact (EnvR.wipe h vs).wipe1 v

/-- what a run of plain data asks -/
def RunE (C : Cfg) (W : WX) (r : Res Dat) (σ : L2.St) (H : Hp) (Q : VK) : Prop := match r with
  | .ok d g => ∀ v H', Ext C H H' → GR C g H' → Rp C H' v d → Q v H'
  | .exc c g => ∀ H', Ext C H H' → GR C g H' → W (C.ex c) none σ H'
  | .bad => False
/-- the reading of an expression that does as the plain function -/
def tD (C : Cfg) (W : WX) (f : Sl → Mo Dat) : TE := fun σ H Q => ∃ ρ g, EnvR C H σ ρ ∧ GR C g H ∧ RunE C W (f ρ g) σ H Q
def RunB (C : Cfg) (W : WX) (r : Res Bool) (σ : L2.St) (H : Hp) (Q : Bool → Hp → Prop) : Prop := match r with
  | .ok b g => ∀ H', Ext C H H' → GR C g H' → Q b H'
  | .exc c g => ∀ H', Ext C H H' → GR C g H' → W (C.ex c) none σ H'
  | .bad => False
def tT (C : Cfg) (W : WX) (f : Sl → Mo Bool) : TT := fun σ H Q => ∃ ρ g, EnvR C H σ ρ ∧ GR C g H ∧ RunB C W (f ρ g) σ H Q
def RunL (C : Cfg) (W : WX) (r : Res (List Dat)) (σ : L2.St) (H : Hp) (Q : List V → Hp → Prop) : Prop := match r with
  | .ok ds g => ∀ vs H', Ext C H H' → GR C g H' → RpL C H' vs ds → Q vs H'
  | .exc c g => ∀ H', Ext C H H' → GR C g H' → W (C.ex c) none σ H'
  | .bad => False
def tA (C : Cfg) (W : WX) (f : Sl → Mo (List Dat)) : TA := fun σ H Q => ∃ ρ g, EnvR C H σ ρ ∧ GR C g H ∧ RunL C W (f ρ g) σ H Q

theorem RunE.ext {C : Cfg} {W : WX} {r : Res Dat} {σ : L2.St} {H H1 : Hp} {Q : VK} (h : RunE C W r σ H Q) (e : Ext C H H1) : RunE C W r σ H1 Q := by
  cases r with
  | ok d g => exact fun v H' e1 => h v H' (e.trans e1)
  | exc c g => exact fun H' e1 => h H' (e.trans e1)
  | bad => exact h
theorem RunB.ext {C : Cfg} {W : WX} {r : Res Bool} {σ : L2.St} {H H1 : Hp} {Q : Bool → Hp → Prop} (h : RunB C W r σ H Q) (e : Ext C H H1) : RunB C W r σ H1 Q := by
  cases r with
  | ok d g => exact fun H' e1 => h H' (e.trans e1)
  | exc c g => exact fun H' e1 => h H' (e.trans e1)
  | bad => exact h
theorem RunL.ext {C : Cfg} {W : WX} {r : Res (List Dat)} {σ : L2.St} {H H1 : Hp} {Q : List V → Hp → Prop} (h : RunL C W r σ H Q) (e : Ext C H H1) : RunL C W r σ H1 Q := by
  cases r with
  | ok d g => exact fun v H' e1 => h v H' (e.trans e1)
  | exc c g => exact fun H' e1 => h H' (e.trans e1)
  | bad => exact h

/-- first an expression, then what goes on with its value -/
theorem tD_then {α : Type} {C : Cfg} {W : WX} {fa : Sl → Mo Dat} {σ : L2.St} {H : Hp} {Q : VK} {ρ : Sl} {g : List Dat} (k : Dat → Mo α) (P : Res α → Hp → Prop)
    (E : EnvR C H σ ρ) (G : GR C g H) (h : P ((fa ρ g).bind k) H)
    (hx : ∀ c g', P (.exc c g') H → ∀ H', Ext C H H' → GR C g' H' → W (C.ex c) none σ H') (hb : P .bad H → False)
    (hk : ∀ d g' v H', Ext C H H' → EnvR C H' σ ρ → GR C g' H' → Rp C H' v d → P (k d g') H → Q v H') : tD C W fa σ H Q := by
  refine ⟨ρ, g, E, G, ?_⟩
  revert h
  cases fa ρ g with
  | ok d g' => exact fun h v H' e G' r => hk d g' v H' e (E.ext e) G' r h
  | exc c g' => exact fun h => hx c g' h
  | bad => exact fun h => hb h
theorem tA_then {α : Type} {C : Cfg} {W : WX} {fa : Sl → Mo (List Dat)} {σ : L2.St} {H : Hp} {Q : List V → Hp → Prop} {ρ : Sl} {g : List Dat} (k : List Dat → Mo α) (P : Res α → Hp → Prop)
    (E : EnvR C H σ ρ) (G : GR C g H) (h : P ((fa ρ g).bind k) H)
    (hx : ∀ c g', P (.exc c g') H → ∀ H', Ext C H H' → GR C g' H' → W (C.ex c) none σ H') (hb : P .bad H → False)
    (hk : ∀ d g' v H', Ext C H H' → EnvR C H' σ ρ → GR C g' H' → RpL C H' v d → P (k d g') H → Q v H') : tA C W fa σ H Q := by
  refine ⟨ρ, g, E, G, ?_⟩
  revert h
  cases fa ρ g with
  | ok d g' => exact fun h v H' e G' r => hk d g' v H' e (E.ext e) G' r h
  | exc c g' => exact fun h => hx c g' h
  | bad => exact fun h => hb h
theorem tT_then {α : Type} {C : Cfg} {W : WX} {fa : Sl → Mo Bool} {σ : L2.St} {H : Hp} {Q : Bool → Hp → Prop} {ρ : Sl} {g : List Dat} (k : Bool → Mo α) (P : Res α → Hp → Prop)
    (E : EnvR C H σ ρ) (G : GR C g H) (h : P ((fa ρ g).bind k) H)
    (hx : ∀ c g', P (.exc c g') H → ∀ H', Ext C H H' → GR C g' H' → W (C.ex c) none σ H') (hb : P .bad H → False)
    (hk : ∀ d g' H', Ext C H H' → EnvR C H' σ ρ → GR C g' H' → P (k d g') H → Q d H') : tT C W fa σ H Q := by
  refine ⟨ρ, g, E, G, ?_⟩
  revert h
  cases fa ρ g with
  | ok d g' => exact fun h H' e G' => hk d g' H' e (E.ext e) G' h
  | exc c g' => exact fun h => hx c g' h
  | bad => exact fun h => hb h

theorem pe_mono {X : Cx} {e : Expr} {t t' : TE} (h : PE X e t) (w : ∀ σ H Q, t' σ H Q → t σ H Q) : PE X e t' := ⟨fun pins s σ H Q I q => h.run pins s σ H Q I (w σ H Q q)⟩
theorem pt_mono {X : Cx} {e : Expr} {t t' : TT} (h : PT X e t) (w : ∀ σ H Q, t' σ H Q → t σ H Q) : PT X e t' := ⟨fun pins s σ H Q I q => h.run pins s σ H Q I (w σ H Q q)⟩
theorem pa_mono {X : Cx} {e : List Expr} {t t' : TA} (h : PA X e t) (w : ∀ σ H Q, t' σ H Q → t σ H Q) : PA X e t' := ⟨fun pos pins s σ H Q I q => h.run pos pins s σ H Q I (w σ H Q q)⟩
theorem ps_mono {X : Cx} {e : Stmt} {t t' : TS} (h : PS X e t) (w : ∀ D σ H, t' D σ H → t D σ H) : PS X e t' := ⟨fun pins s σ H D I q => h.run pins s σ H D I (w D σ H q)⟩
theorem pss_mono {X : Cx} {e : List Stmt} {t t' : TS} (h : PSs X e t) (w : ∀ D σ H, t' D σ H → t D σ H) : PSs X e t' := ⟨fun pins s σ H D I q => h.run pins s σ H D I (w D σ H q)⟩
end R
set_option Elab.async false
set_option linter.all false
set_option maxRecDepth 100000
set_option maxHeartbeats 4000000
/-! A list taken apart into names. -/
namespace R
open PySem PySem.Spec PyProof.Rows L2
section
variable {prog : Program} {w : World} {A : Around} {E : Value → Shared → Prop} {s : Shared}
theorem draw_lst {it t : Addr} {items : Array Value} (hne : t ≠ it) : ∀ (n i : Nat) (s : Shared) (Q : List Value → Shared → Prop), s.heap.IsListIter it t i → s.heap.IsList t items → i + n ≤ items.size →
    (∀ h', h'.IsListIter it t (i + n) → Heap.SameBut it s.heap h' → Q ((items.toList.drop i).take n) { s with heap := h' }) → wpAny (model prog w) A (draw (.ref it) n) Q E s
  | 0, i, s, Q, hit, _, _, hQ => by
    show wpAny _ _ (pure []) Q E s
    exact wpAny_pure (by simpa using hQ s.heap hit (Heap.SameBut.refl ..))
  | n + 1, i, s, Q, hit, ht, hle, hQ => by
    have hlt : i < items.size := by omega
    show wpAny _ _ (pyNext (.ref it) >>= _) Q E s
    refine wpAny_bind (wpAny_pyNext_list_item hit ht (x := items[i]) (by simp [hlt]) fun h₁ hit₁ hs₁ => ?_)
    refine wpAny_bind (wpAny_holding (draw_lst hne n (i + 1) _ _ hit₁ (ht.extBut hs₁.extBut hne) (by omega) fun h₂ hit₂ hs₂ => wpAny_pure ?_))
    have hd : items.toList.drop i = items[i] :: items.toList.drop (i + 1) := by simp [List.drop_eq_getElem_cons, hlt]
    have := hQ h₂ (by rw [show i + (n + 1) = i + 1 + n by omega]; exact hit₂) (hs₁.trans hs₂)
    rw [hd, List.take_succ_cons] at this
    exact this
theorem unpackItems_lst {t : Addr} {items : Array Value} {Q : List Value → Shared → Prop} (hh : A.handled = none) (ht : s.heap.IsList t items)
    (hQ : ∀ h', Heap.ExtBut s.heap.objs.size s.heap h' → Q items.toList { s with heap := h' }) : wpAny (model prog w) A (unpackItems (.ref t) items.size none) Q E s := by
  have hlt : t ≠ s.heap.objs.size := by obtain ⟨o, ho, _⟩ := ht; exact Nat.ne_of_lt (Heap.lt_size ho)
  unfold unpackItems
  refine wpAny_bind ?_
  · unfold notIterableAtAll
    refine wpAny_bind (wpAny_specialOf ht.typeIs PySem.slot_list_iter.lookup ?_)
    refine wpAny_pure ?_
    simp only [Bool.false_eq_true, if_false]
    refine wpAny_bind (wpAny_holding (wpAny_pyIter_list ht ?_))
    refine wpAny_bind (wpAny_holding (draw_lst hlt items.size 0 _ _ ⟨_, Heap.get?_push_size _ rfl, rfl, rfl⟩ (ht.push _) (by omega) fun h₁ hit₁ hs₁ => ?_))
    have hall : List.take items.size (List.drop 0 items.toList) = items.toList := by
      rw [List.drop_zero]; exact List.take_of_length_le (by simp)
    rw [hall]
    rw [if_neg (by simp)]
    have ht₁ : h₁.IsList t items := (ht.push _).extBut hs₁.extBut hlt
    refine wpAny_bind (wpAny_holding (wpAny_pyNext_list_end hh hit₁ ht₁ (by simp) fun h₂ he₂ => ?_))
    simp only [Option.isSome_none, Bool.false_eq_true, if_false]
    refine wpAny_pure (hQ h₂ fun b o hb e => he₂ b o hb (hs₁.extBut b o hb (Heap.get?_push_of_some _ e)))
theorem assign_Tuple_lst {env : Env} {elts : List Expr} {x1} {pos : Pos} {t : Addr} {items : Array Value} {Q : Unit → Shared → Prop} (hh : A.handled = none) (ht : s.heap.IsList t items)
    (hn : (assignEach elts env).length = items.size) (hstar : (assignEach elts env).findIdx? (·.1) = none)
    (h : ∀ h', Heap.ExtBut s.heap.objs.size s.heap h' → wpAny (model prog w) A (assignInOrder ((assignEach elts env).map (·.2)) items.toList) Q E { s with heap := h' }) :
    wpAny (model prog w) A (assign (.Tuple elts x1 pos) env (.ref t)) Q E s := by
  rw [arm_assign_Tuple]
  refine wpAny_bind (wpAny_standAt ?_)
  unfold unpack
  rw [hn, hstar]
  exact wpAny_bind (wpAny_holding (unpackItems_lst hh ht h))
end
section
variable {X : Cx}
/-- (a, b, ..) = a tuple or a list of that length -/
def gSeq (K : PySem.W.Frag) (n : Nat) (t : TGs) : TG := fun v σ H Q => ∃ a xs, v = .ref a ∧ (SqT K H a xs ∨ SqL K H a xs) ∧ xs.length = n ∧ t xs σ H Q
theorem pg_seq {es : List Expr} {k : Nat} {t : TGs} {n : Nat} {pos : Pos} (hc : X.calm = true) (h : PGs X es t)
    (hn : (assignEach es X.env).length = n) (hst : (assignEach es X.env).findIdx? (·.1) = none) : PG X (.Tuple es k pos) (gSeq X.K n t) := by
  refine ⟨fun pins s σ H v u Q I r hw => ?_⟩
  obtain ⟨a, xs, e1, hq, hl, hw⟩ := hw
  rcases hq with hq | hq
  · exact (pg_tup hc h hn hst).run pins s σ H v u Q I r ⟨a, xs, e1, hq, hl, hw⟩
  · subst e1
    cases r
    obtain ⟨its, rv, ht, hz⟩ := I.list hq
    refine assign_Tuple_lst (I.ok.hd hc) ht.isList (by simp [hn, ← hl, rv.length]) hst fun h' hx => ?_
    have I1 : Inv X pins σ H { s with heap := h' } := I.kept (t' := s.toks) fun b o e => hx b o (Nat.ne_of_lt (Heap.lt_size e)) e
    exact h.run pins _ σ H xs _ Q I1 (by simpa using rv) hw
end
end R
set_option Elab.async false
set_option linter.all false
set_option maxRecDepth 100000
set_option maxHeartbeats 2000000
/-! What the expressions and statements of the program do to plain data. -/
namespace R
open PySem

inductive Op where | add | sub | mul | fdiv | mod | pow
inductive Cp where | eq | ne | lt | le | gt | ge | is | isnot | isin | notin
inductive Ty where | int | bool | str | tuple | list
inductive Bi where | len | tuple | list | all | any | max | min | sum | abs | int | str | sorted
inductive Me where | join | endswith | startswith | index
inductive Tg where | nm (i : Nat) | tp (ts : List Tg)

inductive Ex where
  | var (i : Nat) | con (d : Dat)
  | op (o : Op) (a b : Ex) | neg (a : Ex) | asInt (a : Ex)
  | cmp (o : Cp) (a b : Ex) | chain (o p : Cp) (a b c : Ex)
  | and (a b : Ex) | or (a b : Ex) | not (a : Ex) | ifx (t a b : Ex)
  | tup (es : List Ex) | lst (es : List Ex)
  | ix (a b : Ex) | sl (a lo hi : Ex) | rev (a : Ex)
  | call (i : Nat) (es : List Ex)
  | bi (b : Bi) (a : Ex) | me (m : Me) (a b : Ex)
  | isi (a : Ex) (t : Ty)
  | rng (es : List Ex)
  | lc (elt : Ex) (tg : Tg) (src cond : Ex) (own : List Nat)
  | zip (a b : Ex) | enum (a : Ex)
  | lenset (a : Ex)
  | lc2 (elt : Ex) (tg : Tg) (src cond : Ex) (tg1 : Tg) (src1 cond1 : Ex) (own own1 : List Nat)
  | dc (kx vx : Ex) (n : Bool) (tg : Tg) (src cond : Ex) (own : List Nat)

/-- how a value is taken: apart from one's own; flat; new and one's own -/
inductive PM where | er | fl | nw
inductive Sm where
  | set (t : Tg) (e : Ex) | setF (t : Tg) (e : Ex)
  | new (i : Nat) (e : Ex)
  | app (i : Nat) (e : Ex) | appF (i : Nat) (e : Ex) | aug (i : Nat) (e : Ex)
  | frz (i : Nat)
  | putIx (i : Nat) (e : Ex) (v : Ex)
  | expr (e : Ex) | ret (e : Ex) | retL (es : List Ex)
  | ifs (t : Ex) (a b : List Sm) | fors (tg : Tg) (src : Ex) (b : List Sm)
  | whl (n : Nat) (t : Ex) (b : List Sm)
  | par (is : List Nat) (ms : List PM) (es : List Ex)
  | raise (c : Nat) | pass | cont | brk

/-! ### the operators -/
def line : Nat := 16777216
mutual
/-- == of Python (one that is no data is nowhere asked) -/
def eqB : Dat → Dat → Bool
  | .non, .non => true
  | .bl a, .bl b => a == b
  | .bl a, .int j => (if a then 1 else 0) == j
  | .int i, .bl b => i == (if b then 1 else 0)
  | .int i, .int j => i == j
  | .str x, .str y => x == y
  | .lst xs, .lst ys => eqAllB xs ys
  | .tup xs, .tup ys => eqAllB xs ys
  | _, _ => false
def eqAllB : List Dat → List Dat → Bool
  | [], [] => true
  | x :: xs, y :: ys => eqB x y && eqAllB xs ys
  | _, _ => false
end
mutual
/-- data that is told apart by ==, no deeper than n -/
def okB : Dat → Nat → Bool
  | .lst xs, n + 1 => okAllB xs n
  | .tup xs, n + 1 => okAllB xs n
  | .lst _, 0 => false
  | .tup _, 0 => false
  | .fn _, _ => false
  | .cup, _ => false
  | .kl _, _ => false
  | .dct _ _, _ => false
  | .fdc _ _, _ => false
  | .own _, _ => false
  | _, _ => true
def okAllB : List Dat → Nat → Bool
  | [], _ => true
  | x :: xs, n => okB x n && okAllB xs n
end
/-- the one text stands in the other -/
def infixB (y : List Nat) : List Nat → Bool
  | [] => y.isEmpty
  | c :: r => y.isPrefixOf (c :: r) || infixB y r
/-- order of lists of codes -/
def ltB : List Nat → List Nat → Bool
  | [], [] => false
  | [], _ :: _ => true
  | _ :: _, [] => false
  | x :: xs, y :: ys => if x = y then ltB xs ys else decide (x < y)
def mulOkB (i j : Int) : Bool := (i.natAbs < 18446744073709551616) || (j.natAbs < 18446744073709551616)
def opD : Op → Dat → Dat → Option Dat
  | .add, .int i, .int j => some (.int (i + j))
  | .add, .str x, .str y => if x.length + y.length ≤ line then some (.str (x ++ y)) else none
  | .add, .tup x, .tup y => if x.length + y.length ≤ line then some (.tup (x ++ y)) else none
  | .add, .lst x, .lst y => if x.length + y.length ≤ line then some (.lst (x ++ y)) else none
  | .sub, .int i, .int j => some (.int (i - j))
  | .mul, .int i, .int j => if mulOkB i j then some (.int (i * j)) else none
  | .mul, .str x, .int j => if x.length * j.toNat ≤ line && decide (j ≤ line) && decide (-line ≤ j) then some (.str (List.replicate j.toNat x).flatten) else none
  | .mul, .tup x, .int j => if !x.isEmpty && decide (2 ≤ j) && decide (j ≤ 1000) && decide (x.length ≤ 1000) then some (.tup (List.replicate j.toNat x).flatten) else none
  | .fdiv, .int i, .int j => if j ≠ 0 && decide (j.natAbs < 1073741824) then some (.int (i.fdiv j)) else none
  | .mod, .int i, .int j => if j ≠ 0 then some (.int (i.fmod j)) else none
  | .pow, .int i, .int j => if 0 ≤ j && decide (j ≤ 1000000) && decide (i.natAbs < 18446744073709551616) then some (.int (i ^ j.toNat)) else none
  | _, _, _ => none
def isNonB : Dat → Bool
  | .non => true
  | _ => false
def isD : Dat → Dat → Option Bool
  | x, .non => some (isNonB x)
  | .bl a, .bl b => some (a == b)
  | _, _ => none
def eqD (a b : Dat) : Option Bool := if okB a 64 && okB b 64 then some (eqB a b) else none
def inD : Dat → Dat → Option Bool
  | .str x, .str y => some (infixB x y)
  | x, .lst ys => if okB x 64 && okAllB ys 63 then some (ys.any fun z => eqB z x) else none
  | x, .tup ys => if okB x 64 && okAllB ys 63 then some (ys.any fun z => eqB z x) else none
  | _, _ => none
def ltD : Dat → Dat → Option Bool
  | .int i, .int j => some (decide (i < j))
  | .str x, .str y => some (ltB x y)
  | _, _ => none
def cpD : Cp → Dat → Dat → Option Bool
  | .eq, a, b => eqD a b
  | .ne, a, b => (eqD a b).map (!·)
  | .lt, a, b => ltD a b
  | .gt, a, b => ltD b a
  | .le, a, b => (ltD b a).map (!·)
  | .ge, a, b => (ltD a b).map (!·)
  | .is, a, b => isD a b
  | .isnot, a, b => (isD a b).map (!·)
  | .isin, a, b => inD a b
  | .notin, a, b => (inD a b).map (!·)
/-- the place of an index, of any sign -/
def ixD (n : Nat) (i : Int) : Option Nat := if 0 ≤ i then (if i < n then some i.toNat else none) else if -(n : Int) ≤ i then some (i + n).toNat else none
def atD {α : Type} (xs : List α) (i : Int) : Option α := (ixD xs.length i).bind fun j => xs[j]?
def bndD (n d : Nat) : Dat → Option Nat
  | .non => some d
  | .int v => some (if v < 0 then (v + (n : Int)).toNat else min v.toNat n)
  | _ => none
def cutD {α : Type} (xs : List α) (lo hi : Dat) : Option (List α) :=
  (bndD xs.length 0 lo).bind fun i => (bndD xs.length xs.length hi).map fun j => (xs.drop i).take (j - i)
def getD : Dat → Dat → List Dat → Option Dat
  | .tup xs, .int i, _ => atD xs i
  | .lst xs, .int i, _ => atD xs i
  | .str s, .int i, _ => (atD s i).map fun c => .str [c]
  | .cup, .int i, g => atD g i
  | _, _, _ => none
def sliceD : Dat → Dat → Dat → Option Dat
  | .tup xs, lo, hi => (cutD xs lo hi).map .tup
  | .lst xs, lo, hi => (cutD xs lo hi).map .lst
  | .str xs, lo, hi => (cutD xs lo hi).map .str
  | _, _, _ => none
def partsD : Dat → Option (List Dat)
  | .tup xs => some xs
  | .lst xs => some xs
  | .str s => some (s.map fun c => .str [c])
  | _ => none
def itemsD : Dat → Option (List Dat)
  | .fdc ks _ => some ks
  | .tup xs => some xs
  | .lst xs => some xs
  | .str s => some (s.map fun c => .str [c])
  | _ => none
def boolsD : List Dat → Option (List Bool)
  | [] => some []
  | .bl b :: r => (boolsD r).map (b :: ·)
  | _ => none
def intsD : List Dat → Option (List Int)
  | [] => some []
  | .int b :: r => (intsD r).map (b :: ·)
  | _ => none
def strsD : List Dat → Option (List (List Nat))
  | [] => some []
  | .str b :: r => (strsD r).map (b :: ·)
  | _ => none
def maxI : List Int → Option Int
  | [] => none
  | x :: r => some (r.foldl (fun a b => if a < b then b else a) x)
def minI : List Int → Option Int
  | [] => none
  | x :: r => some (r.foldl (fun a b => if b < a then b else a) x)
/-! ### how many different ones, in order, where -/
/-- an int, a text -/
def atomB : Dat → Bool
  | .int _ => true
  | .str _ => true
  | _ => false
mutual
/-- a nested key, no deeper than n -/
def nkB : Dat → Nat → Bool
  | .non, _ => true
  | .bl _, _ => true
  | .int _, _ => true
  | .str _, _ => true
  | .tup xs, n + 1 => nkLB xs n
  | _, _ => false
def nkLB : List Dat → Nat → Bool
  | [], _ => true
  | x :: xs, n => nkB x n && nkLB xs n
end
def isTupB : Dat → Bool
  | .tup _ => true
  | _ => false
def cntGoD : List Dat → List Dat → Nat
  | _, [] => 0
  | seen, x :: r => (if seen.any (fun y => eqB y x) then 0 else 1) + cntGoD (seen ++ [x]) r
def cntD (l : List Dat) : Nat := cntGoD [] l
def seqD : Dat → Option (List Dat)
  | .tup xs => some xs
  | .lst xs => some xs
  | _ => none
def lenSetD (x : Dat) : Option Nat := (seqD x).bind fun ds =>
  if ds.all atomB && decide (ds.length ≤ 4000) then some (cntD ds)
  else if ds.all isTupB && ds.all (nkB · 8) && decide (ds.length < 64) then some (cntD ds) else none
mutual
/-- x < y, for data of one kind at each place -/
def dltB : Dat → Dat → Bool
  | .int i, .int j => decide (i < j)
  | .str x, .str y => ltB x y
  | .tup xs, .tup ys => dltLB xs ys
  | _, _ => false
def dltLB : List Dat → List Dat → Bool
  | [], [] => false
  | [], _ :: _ => true
  | _ :: _, [] => false
  | x :: xs, y :: ys => if eqB x y then dltLB xs ys else dltB x y
end
mutual
/-- of one kind, place by place -/
def likeB : Dat → Dat → Bool
  | .int _, .int _ => true
  | .str _, .str _ => true
  | .tup xs, .tup ys => likeLB xs ys
  | _, _ => false
def likeLB : List Dat → List Dat → Bool
  | [], _ => true
  | _ :: _, [] => true
  | x :: xs, y :: ys => likeB x y && likeLB xs ys
end
def insD (x : Dat) : List Dat → List Dat
  | [] => [x]
  | y :: r => if dltB y x then y :: insD x r else x :: y :: r
/-- sorted, equal ones in their order -/
def sortL : List Dat → List Dat
  | [] => []
  | x :: r => insD x (sortL r)
/-- what may be sorted: ints, texts, tuples that are not empty, each place of one kind -/
def sortOkB (ds : List Dat) : Bool := (ds.all atomB || ds.all fun d => match d with
  | .tup (_ :: _) => true
  | _ => false) && ds.all (nkB · 8) && ds.all fun d => ds.all (likeB d)
def sortedD : Dat → Option (List Dat)
  | .lst xs => if sortOkB xs then some (sortL xs) else none
  | _ => none
def findT (y : List Nat) : List Nat → Nat → Option Nat
  | [], k => if y.isEmpty then some k else none
  | c :: r, k => if y.isPrefixOf (c :: r) then some k else findT y r (k + 1)
def biD : Bi → Dat → Option Dat
  | .len, .tup xs => some (.int xs.length)
  | .len, .lst xs => some (.int xs.length)
  | .len, .str xs => some (.int xs.length)
  | .tuple, .tup xs => some (.tup xs)
  | .tuple, .lst xs => some (.tup xs)
  | .list, .tup xs => some (.lst xs)
  | .list, .lst xs => some (.lst xs)
  | .list, .kl xs => some (.lst xs)
  | .list, .str s => some (.lst (s.map fun c => .str [c]))
  | .all, .lst xs => (boolsD xs).map fun bs => .bl (bs.all id)
  | .any, .lst xs => (boolsD xs).map fun bs => .bl (bs.any id)
  | .max, .lst xs => (intsD xs).bind fun bs => (maxI bs).map .int
  | .min, .lst xs => (intsD xs).bind fun bs => (minI bs).map .int
  | .sum, .lst xs => (intsD xs).map fun bs => .int bs.sum
  | .abs, .int i => some (.int (if i < 0 then -i else i))
  | .int, .int i => some (.int i)
  | .int, .bl b => some (.int (if b then 1 else 0))
  | .str, .str s => some (.str s)
  | .sorted, x => (sortedD x).map .lst
  | _, _ => none
def glueD (sep : List Nat) : List (List Nat) → List Nat
  | [] => []
  | [x] => x
  | x :: y :: r => x ++ (sep ++ glueD sep (y :: r))
def meD : Me → Dat → Dat → Option Dat
  | .join, .str s, .lst xs => (strsD xs).bind fun ss => if (ss.map List.length).sum + ss.length * s.length ≤ line then some (.str (glueD s ss)) else none
  | .endswith, .str x, .str y => some (.bl (decide (y.length ≤ x.length) && (x.drop (x.length - y.length) == y)))
  | .startswith, .str x, .str y => some (.bl (y.isPrefixOf x))
  | .index, .str x, .str y => (findT y x 0).map fun (n : Nat) => Dat.int (n : Int)
  | _, _, _ => none
def isiD : Dat → Ty → Option Bool
  | .int _, .int => some true
  | .int _, _ => some false
  | .bl _, .int => some true
  | .bl _, .bool => some true
  | .bl _, _ => some false
  | .non, _ => some false
  | .str _, .str => some true
  | .str _, _ => some false
  | .tup _, .tuple => some true
  | .tup _, _ => some false
  | .lst _, .list => some true
  | .lst _, _ => some false
  | _, _ => none
/-- lo, lo + c, .. : the ints of a range (c = 1 or -1) -/
def rngD : List Dat → Option (List Dat)
  | [.int n] => if decide (n ≤ line) && decide (-line ≤ n) then some ((List.range n.toNat).map fun k => .int (0 + (k : Nat))) else none
  | [.int a, .int b] => if decide (b - a ≤ line) && decide (-line ≤ a) && decide (a ≤ line) && decide (-line ≤ b) && decide (b ≤ line) then some ((List.range (b - a).toNat).map fun k => .int (a + (k : Nat))) else none
  | [.int a, .int b, .int c] => if decide (c = -1) && decide (a - b ≤ line) && decide (-line ≤ a) && decide (a ≤ line) && decide (-line ≤ b) && decide (b ≤ line) then some ((List.range (a - b).toNat).map fun k => .int (a + (k : Nat) * -1)) else none
  | _ => none
mutual
def bindT : Tg → Dat → Sl → Option Sl
  | .nm i, d, ρ => some (ρ.set i (some d))
  | .tp ts, .tup ds, ρ => bindTs ts ds ρ
  | .tp ts, .lst ds, ρ => bindTs ts ds ρ
  | _, _, _ => none
def bindTs : List Tg → List Dat → Sl → Option Sl
  | [], [], ρ => some ρ
  | t :: ts, d :: ds, ρ => (bindT t d ρ).bind fun ρ1 => bindTs ts ds ρ1
  | _, _, _ => none
end

/-- the pairs of a zip -/
def pairsD (xs ys : List Dat) : List Dat := List.zipWith (fun a b => Dat.tup [a, b]) xs ys
def zipD (x y : Dat) : Option (List Dat) := (partsD x).bind fun xs => (partsD y).map fun ys => pairsD xs ys
def enumD (x : Dat) : Option (List Dat) := (partsD x).map fun xs => pairsD ((List.range xs.length).map fun (k : Nat) => Dat.int (k : Int)) xs
/-! ### dicts: keys and values, in the order of the first stores -/
def keyB : Dat → Bool
  | .int _ => true
  | .str _ => true
  | _ => false
def anyK (ks : List Dat) (y : Dat) : Bool := ks.any fun k => eqB k y
def putAtD (ks vs : List Dat) (y z : Dat) : List Dat := List.zipWith (fun k v => if eqB k y then z else v) ks vs
/-- keys that are ints or texts -/
def putKD (y z : Dat) (ks vs : List Dat) : Option (List Dat × List Dat) := if keyB y && decide (ks.length < line) then some (if anyK ks y then (ks, putAtD ks vs y z) else (ks ++ [y], vs ++ [z])) else none
/-- keys that are tuples of any depth, of which nothing is kept but that they are there -/
def putND (y z : Dat) (ks _vs : List Dat) : Option (List Dat × List Dat) := match y, z with
  | .tup t, .bl true => if nkB (.tup t) 8 && decide (ks.length < line) then some (if anyK ks (.tup t) then ks else ks ++ [.tup t], []) else none
  | _, _ => none
/-! ### runs -/
def ofO {α : Type} : Option α → Mo α
  | some a => fun g => .ok a g
  | none => fun _ => .bad
def Res.noexc {α : Type} : Res α → Res α
  | .ok a g => .ok a g
  | _ => .bad
def asB (d : Dat) : Mo Bool := match d with
  | .bl b => fun g => .ok b g
  | _ => fun _ => .bad
/-- the turns of a comprehension -/
def lcGo (step : Dat → Mo (Option Dat)) : List Dat → List Dat → Mo (List Dat)
  | acc, [] => fun g => .ok acc g
  | acc, d :: ds => fun g => (step d g).noexc.bind fun o g1 => match o with
    | some y => lcGo step (acc ++ [y]) ds g1
    | none => lcGo step acc ds g1
/-- the turns of an inner clause: no more than the line has room for -/
def lcGoC (step : Dat → Mo (Option Dat)) : List Dat → List Dat → Mo (List Dat)
  | acc, [] => fun g => .ok acc g
  | acc, d :: ds => fun g => (step d g).noexc.bind fun o g1 => match o with
    | some y => if acc.length < line then lcGoC step (acc ++ [y]) ds g1 else .bad
    | none => lcGoC step acc ds g1
def lcGo2 (step : List Dat → Dat → Mo (List Dat)) : List Dat → List Dat → Mo (List Dat)
  | acc, [] => fun g => .ok acc g
  | acc, d :: ds => fun g => (step acc d g).noexc.bind fun acc2 g1 => lcGo2 step acc2 ds g1
/-- the turns of a dict's comprehension -/
def dcGo (put : Dat → Dat → List Dat → List Dat → Option (List Dat × List Dat)) (step : Dat → Mo (Option (Dat × Dat))) : List Dat → List Dat → List Dat → Mo (List Dat × List Dat)
  | ks, vs, [] => fun g => .ok (ks, vs) g
  | ks, vs, d :: ds => fun g => (step d g).noexc.bind fun o g1 => match o with
    | some yz => match put yz.1 yz.2 ks vs with
      | some kv => dcGo put step kv.1 kv.2 ds g1
      | none => .bad
    | none => dcGo put step ks vs ds g1
section
variable (F : Nat → List Dat → Mo Dat)
mutual
def den : Ex → Sl → Mo Dat
  | .var i, ρ => ofO (ρ.getD i none)
  | .con d, _ => fun g => .ok d g
  | .op o a b, ρ => fun g => (den a ρ g).bind fun x g => (den b ρ g).bind fun y g => ofO (opD o x y) g
  | .neg a, ρ => fun g => (den a ρ g).bind fun x g => match x with
    | .int i => .ok (.int (-i)) g
    | _ => .bad
  | .asInt a, ρ => fun g => (den a ρ g).bind fun x g => match x with
    | .int i => .ok (.int i) g
    | _ => .bad
  | .cmp o a b, ρ => fun g => (den a ρ g).bind fun x g => (den b ρ g).bind fun y g => ofO ((cpD o x y).map .bl) g
  | .chain o p a b c, ρ => fun g => (den a ρ g).bind fun x g => (den b ρ g).bind fun y g => (ofO (cpD o x y) g).bind fun k g => match k with
    | false => .ok (.bl false) g
    | true => (den c ρ g).bind fun z g => ofO ((cpD p y z).map .bl) g
  | .and a b, ρ => fun g => (den a ρ g).bind fun x g => (asB x g).bind fun k g => match k with
    | true => den b ρ g
    | false => .ok (.bl false) g
  | .or a b, ρ => fun g => (den a ρ g).bind fun x g => (asB x g).bind fun k g => match k with
    | true => .ok (.bl true) g
    | false => den b ρ g
  | .not a, ρ => fun g => (den a ρ g).bind fun x g => (asB x g).bind fun k g => .ok (.bl (!k)) g
  | .ifx t a b, ρ => fun g => (den t ρ g).bind fun x g => (asB x g).bind fun k g => match k with
    | true => den a ρ g
    | false => den b ρ g
  | .tup es, ρ => fun g => (denL es ρ g).bind fun xs g => .ok (.tup xs) g
  | .lst es, ρ => fun g => (denL es ρ g).bind fun xs g => .ok (.lst xs) g
  | .ix a b, ρ => fun g => (den a ρ g).bind fun x g => (den b ρ g).bind fun y g => ofO (getD x y g) g
  | .sl a lo hi, ρ => fun g => (den a ρ g).bind fun x g => (den lo ρ g).bind fun l g => (den hi ρ g).bind fun h g => ofO (sliceD x l h) g
  | .rev a, ρ => fun g => (den a ρ g).bind fun x g => match x with
    | .lst xs => .ok (.lst xs.reverse) g
    | _ => .bad
  | .call i es, ρ => fun g => (denL es ρ g).bind fun xs g => F i xs g
  | .bi b a, ρ => fun g => (den a ρ g).bind fun x g => ofO (biD b x) g
  | .me m a b, ρ => fun g => (den a ρ g).bind fun x g => match x with
    | .str s => (den b ρ g).bind fun y g => ofO (meD m (.str s) y) g
    | _ => .bad
  | .isi a t, ρ => fun g => (den a ρ g).bind fun x g => ofO ((isiD x t).map .bl) g
  | .rng es, ρ => fun g => (denL es ρ g).bind fun xs g => ofO ((rngD xs).map .lst) g
  | .zip a b, ρ => fun g => (den a ρ g).bind fun x g => (den b ρ g).bind fun y g => ofO ((zipD x y).map .lst) g
  | .enum a, ρ => fun g => (den a ρ g).bind fun x g => ofO ((enumD x).map .lst) g
  | .lc elt tg src cond own, ρ => fun g => (den src ρ g).bind fun x g => (ofO (itemsD x) g).bind fun ds g =>
    (lcGo (fun d g => match bindT tg d (wipeD ρ own) with
      | none => .bad
      | some ρ2 => (den cond ρ2 g).bind fun x g => (asB x g).bind fun k g => match k with
        | true => (den elt ρ2 g).bind fun y g => .ok (some y) g
        | false => .ok none g) [] ds g).bind fun ys g => .ok (.lst ys) g
  | .lenset a, ρ => fun g => (den a ρ g).bind fun x g => ofO ((lenSetD x).map fun (n : Nat) => Dat.int (n : Int)) g
  | .lc2 elt tg src cond tg1 src1 cond1 own own1, ρ => fun g => (den src ρ g).bind fun x g => (ofO (itemsD x) g).bind fun ds g =>
    (lcGo2 (fun acc d g => match bindT tg d (wipeD ρ own) with
      | none => .bad
      | some ρ2 => (den cond ρ2 g).bind fun x g => (asB x g).bind fun k g => match k with
        | true => (den src1 ρ2 g).bind fun x g => (ofO (itemsD x) g).bind fun ds1 g => lcGoC (fun d g => match bindT tg1 d (wipeD ρ2 own1) with
          | none => .bad
          | some ρ3 => (den cond1 ρ3 g).bind fun x g => (asB x g).bind fun k g => match k with
            | true => (den elt ρ3 g).bind fun y g => .ok (some y) g
            | false => .ok none g) acc ds1 g
        | false => .ok acc g) [] ds g).bind fun ys g => .ok (.lst ys) g
  | .dc kx vx n tg src cond own, ρ => fun g => (den src ρ g).bind fun x g => (ofO (itemsD x) g).bind fun ds g =>
    (dcGo (if n then putND else putKD) (fun d g => match bindT tg d (wipeD ρ own) with
      | none => .bad
      | some ρ2 => (den cond ρ2 g).bind fun x g => (asB x g).bind fun k g => match k with
        | true => (den kx ρ2 g).bind fun y g => (den vx ρ2 g).bind fun z g => .ok (some (y, z)) g
        | false => .ok none g) [] [] ds g).bind fun kv g => if n && kv.1.isEmpty then .bad else .ok (.fdc kv.1 kv.2) g
def denL : List Ex → Sl → Mo (List Dat)
  | [], _ => fun g => .ok [] g
  | e :: es, ρ => fun g => (den e ρ g).bind fun x g => (denL es ρ g).bind fun xs g => .ok (x :: xs) g
end
def denB (e : Ex) (ρ : Sl) : Mo Bool := fun g => (den F e ρ g).bind asB

inductive Out where | nx (ρ : Sl) | rt (d : Dat) (fresh : Bool) | bk (ρ : Sl) | ct (ρ : Sl)
/-- a slot apart from this frame's own objects; a slot as it is read -/
def era : Option Dat → Option Dat
  | some (.own _) => none
  | x => x
def stp : Option Dat → Option Dat
  | some (.own d) => some d
  | x => x
def erase (ρ : Sl) : Sl := ρ.map era
def strip (ρ : Sl) : Sl := ρ.map stp
/-- the turns of a for -/
def forGo (tg : Tg) (body : Sl → Mo Out) : List Dat → Sl → Mo Out
  | [], ρ => fun g => .ok (.nx ρ) g
  | d :: ds, ρ => fun g => match bindT tg d ρ with
    | none => .bad
    | some ρ1 => (body ρ1 g).bind fun o g => match o with
      | .nx ρ2 => forGo tg body ds ρ2 g
      | .ct ρ2 => forGo tg body ds ρ2 g
      | .bk ρ2 => .ok (.nx ρ2) g
      | .rt d f => .ok (.rt d f) g
/-- the turns of a while, n of them at most -/
def whlGo (test : Sl → Mo Bool) (body : Sl → Mo Out) : Nat → Sl → Mo Out
  | 0, _ => fun _ => .bad
  | n + 1, ρ => fun g => (test ρ g).bind fun k g => match k with
    | false => .ok (.nx ρ) g
    | true => (body ρ g).bind fun o g => match o with
      | .nx ρ2 => whlGo test body n ρ2 g
      | .ct ρ2 => whlGo test body n ρ2 g
      | .bk ρ2 => .ok (.nx ρ2) g
      | .rt d f => .ok (.rt d f) g
mutual
/-- no slot of the target is one's own -/
def freeT : Tg → Sl → Bool
  | .nm i, ρ => match ρ.getD i none with
    | some (.own _) => false
    | _ => true
  | .tp ts, ρ => freeTs ts ρ
def freeTs : List Tg → Sl → Bool
  | [], _ => true
  | t :: ts, ρ => freeT t ρ && freeTs ts ρ
end
def storeD (t : Tg) (x : Dat) (ρ : Sl) : Mo Out := fun g => match bindT t x ρ with
  | some ρ1 => .ok (.nx ρ1) g
  | none => .bad
def appD (i : Nat) (x : Dat) (ρ : Sl) : Mo Out := fun g => match ρ.getD i none with
  | some (.own (.lst xs)) => if xs.length < line then .ok (.nx (ρ.set i (some (.own (.lst (xs ++ [x])))))) g else .bad
  | _ => .bad
def augD (i : Nat) (x : Dat) (ρ : Sl) : Mo Out := fun g => match x with
  | .lst ys => match ρ.getD i none with
    | some (.own (.lst xs)) => if xs.length + ys.length < line then .ok (.nx (ρ.set i (some (.own (.lst (xs ++ ys)))))) g else .bad
    | _ => .bad
  | _ => .bad
def isDatum : Dat → Bool
  | .own _ => false
  | _ => true
def ownL (o : Option Dat) : Bool := match o with
  | some (.own (.lst _)) => true
  | _ => false
def newD (i : Nat) (x : Dat) (ρ : Sl) : Mo Out := fun g => match x with
  | .lst xs => .ok (.nx (ρ.set i (some (.own (.lst xs))))) g
  | _ => .bad
def frzD (i : Nat) (ρ : Sl) : Mo Out := fun g => match ρ.getD i none with
  | some (.own d) => .ok (.nx (ρ.set i (some d))) g
  | _ => .ok (.nx ρ) g
def putIxD (i : Nat) (ρ : Sl) (y x : Dat) : Mo Out := fun g => match y with
  | .int k => match ixD g.length k with
    | some j => if flatD x then .ok (.nx ρ) (g.set j x) else .bad
    | none => .bad
  | _ => .bad
def isCup (o : Option Dat) : Bool := match o with
  | some .cup => true
  | _ => false
def comp1 (m : PM) (e : Ex) (ρ : Sl) : Mo Dat := match m with
  | .er => den F e (erase ρ)
  | .fl => fun g => (den F e (strip ρ) g).bind fun x g => if flatD x then .ok x g else .bad
  | .nw => fun g => (den F e (erase ρ) g).bind fun x g => match x with
    | .lst xs => .ok (.own (.lst xs)) g
    | _ => .bad
def parGo : List PM → List Ex → Sl → Mo (List Dat)
  | m :: ms, e :: es, ρ => fun g => (comp1 F m e ρ g).bind fun x g => (parGo ms es ρ g).bind fun xs g => .ok (x :: xs) g
  | _, _, _ => fun g => .ok [] g
def setAll {α : Type} : List Nat → List α → List (Option α) → List (Option α)
  | i :: is, x :: xs, l => setAll is xs (l.set i (some x))
  | _, _, l => l
mutual
def run : Sm → Sl → Mo Out
  | .par is ms es, ρ => fun g => (parGo F ms es ρ g).bind fun xs g => .ok (.nx (setAll is xs ρ)) g
  | .set t e, ρ => fun g => (den F e (erase ρ) g).bind fun x g => storeD t x ρ g
  | .setF t e, ρ => fun g => (den F e (strip ρ) g).bind fun x g => if flatD x then storeD t x ρ g else .bad
  | .new i e, ρ => fun g => (den F e (erase ρ) g).bind fun x g => newD i x ρ g
  | .app i e, ρ => fun g => if ownL (ρ.getD i none) then (den F e (erase ρ) g).bind fun x g => appD i x ρ g else .bad
  | .appF i e, ρ => fun g => if ownL (ρ.getD i none) then (den F e (strip ρ) g).bind fun x g => if flatD x then appD i x ρ g else .bad else .bad
  | .aug i e, ρ => fun g => if ownL (ρ.getD i none) then (den F e (erase ρ) g).bind fun x g => augD i x ρ g else .bad
  | .frz i, ρ => fun g => frzD i ρ g
  | .putIx i e v, ρ => fun g => (den F v (strip ρ) g).bind fun x g => if isCup (ρ.getD i none) then (den F e (strip ρ) g).bind fun y g => putIxD i ρ y x g else .bad
  | .expr e, ρ => fun g => (den F e (strip ρ) g).bind fun _ g => .ok (.nx ρ) g
  | .ret e, ρ => fun g => (den F e (strip ρ) g).bind fun x g => .ok (.rt x false) g
  | .retL es, ρ => fun g => (denL F es (strip ρ) g).bind fun xs g => .ok (.rt (.lst xs) true) g
  | .ifs t a b, ρ => fun g => (denB F t (strip ρ) g).bind fun k g => match k with
    | true => runs a ρ g
    | false => runs b ρ g
  | .fors tg src b, ρ => fun g => (den F src (erase ρ) g).bind fun x g => (ofO (itemsD x) g).bind fun ds g => forGo tg (fun ρ g => runs b ρ g) ds ρ g
  | .whl n t b, ρ => fun g => whlGo (fun ρ g => denB F t (strip ρ) g) (fun ρ g => runs b ρ g) n ρ g
  | .raise c, _ => fun g => .exc c g
  | .pass, ρ => fun g => .ok (.nx ρ) g
  | .cont, ρ => fun g => .ok (.ct ρ) g
  | .brk, ρ => fun g => .ok (.bk ρ) g
def runs : List Sm → Sl → Mo Out
  | [], ρ => fun g => .ok (.nx ρ) g
  | s :: ss, ρ => fun g => (run s ρ g).bind fun o g => match o with
    | .nx ρ1 => runs ss ρ1 g
    | o => .ok o g
end
end

/-- a def: how many parameters, how many slots, its body -/
structure Df where
  fr : Bool := false
  np : Nat
  ns : Nat
  body : List Sm
abbrev Pg := List Df
/-- the calls, k deep -/
def callK (P : Pg) : Nat → Nat → List Dat → Mo Dat
  | 0, _, _ => fun _ => .bad
  | k + 1, i, ds => fun g => match P[i]? with
    | none => .bad
    | some f => if ds.length = f.np then (runs (callK P k) f.body (ds.map some ++ List.replicate (f.ns - f.np) none) g).bind fun o g => match o with
        | .nx _ => .ok .non g
        | .rt d fr => if f.fr && !fr then .bad else .ok d g
        | _ => .bad
      else .bad
end R
set_option Elab.async false
set_option linter.all false
set_option maxRecDepth 100000
set_option maxHeartbeats 4000000
/-! Expressions: each construct does as `den` tells. -/
namespace R
open PySem PySem.Spec PyProof.Rows L2

structure Ctx where
  N : List Str
  sc : Scope
  blk : Option Scope
  fns : List (Str × (Nat × Nat))
  exs : List (Str × Nat)
  glo : List (Str × Dat)

def RunF (C : Cfg) (fresh : Bool) (r : Res Dat) (H : Hp) (Q : VK) (E : XK) : Prop := match r with
  | .ok d g => ∀ v H', Ext C H H' → GR C g H' → Rp C H' v d → (fresh = true → ∀ p, v = .ref p → ∃ vs, H' p = some (.lst vs)) → Q v H'
  | .exc c g => ∀ H', Ext C H H' → GR C g H' → E (C.ex c) none H'
  | .bad => False
/-- a def's promise: it does as the plain function -/
def spD (C : Cfg) (np : Nat) (fresh : Bool) (f : List Dat → Mo Dat) : Sp := fun vs H Q E => vs.length = np ∧
  ∃ cup M ds g, RpL { C with cup := cup, M := M } H vs ds ∧ GR { C with cup := cup, M := M } g H ∧ RunF { C with cup := cup, M := M } fresh (f ds g) H Q E

def biNames : List Str := ["len", "tuple", "list", "all", "any", "max", "min", "sum", "abs", "int", "str", "bool", "range", "isinstance", "zip", "enumerate", "set", "sorted", "dict"]

structure Mt (X : Cx) (c : Ctx) (C : Cfg) (W : WX) (F : Nat → List Dat → Mo Dat) (k : Nat) : Prop where
  N : X.N = c.N
  nd : c.N.Nodup
  sc : X.env.scope = c.sc
  calm : X.calm = true
  K : X.K = C.K
  room : Room k X.A
  tk : Takes X W
  fn : ∀ x, (match c.blk with | none => true | some s => s.names.lookup x == some .cell) = true → X.fn x = true
  fns : ∀ x i n, c.fns.lookup x = some (i, n) → X.mg x = some (.ref (C.fa i)) ∧ PySem.W.keepIn X.K (.ref (C.fa i)) = true ∧
    ∃ fd ps, ps.length = n ∧ FnOk X.prog X.w X.K X.mg X.base (L2.CX X.prog X.w) k (C.fa i) fd ps (spD C n (C.fr i) (F i)) ∧ Binds X.K fd ps []
  glo : ∀ x d, c.glo.lookup x = some d → ∃ u v, X.mg x = some u ∧ RelV v u ∧ ∀ (cup : Option Addr) (M : List Addr) (H : Hp), Rp { C with cup := cup, M := M } H v d
  bi : ∀ x ∈ biNames, X.mg x = none
  ex : ∀ x j, c.exs.lookup x = some j → ∃ Cx : Addr, X.mg x = some (.ref Cx) ∧ C.ex j = .ref Cx ∧ PySem.W.excIn X.K Cx [.type "ValueError", .type "Exception", .type "BaseException", .type "object"] "ValueError.__new__" = true ∧
    PySem.W.keepIn X.K (.ref Cx) = true ∧ PySem.W.subIn X.K (.ref Cx) (.type "BaseException") = some true ∧ PySem.W.typeIn X.K (.ref Cx) = some (.type "type")

def plainE : Expr → Bool
  | .Starred .. => false
  | _ => true
theorem star_plain {e : Expr} {es : List Expr} {env : Env} (h : plainE e = true) : starEach (e :: es) env = (false, eval e env) :: starEach es env := by
  cases e <;> first | rfl | exact absurd (show false = true from h) Bool.false_ne_true

structure Sem (c : Ctx) (e : Expr) (e' : Ex) : Prop where
  run : ∀ X C W F k, Mt X c C W F k → PE X e (tD C W (den F e'))
  plain : plainE e = true
def SemT (c : Ctx) (e : Expr) (e' : Ex) : Prop := ∀ X C W F k, Mt X c C W F k → PT X e (tT C W (denB F e'))
structure SemL (c : Ctx) (es : List Expr) (es' : List Ex) : Prop where
  run : ∀ X C W F k, Mt X c C W F k → PA X es (tA C W (denL F es'))
  plain : ∀ (env : Env) (pos : Pos), (backTo pos (starEach es env)).any (·.1) = false

/-! ### names, constants -/
def kindB (sc : Scope) (x : Str) : Option NameKind := sc.names.lookup x
def visB (sc : Scope) (x : Str) : Bool := match kindB sc x with
  | some .local => true
  | some .cell => true
  | some .free => true
  | _ => false
def dbgB (x : Str) : Bool := (x == ("__debug__" : Str)) || (x == ("__classdict__" : Str)) || (x == ("__name__" : Str))
theorem vis_of {sc : Scope} {x : Str} (h : visB sc x = true) : Vis sc x := by
  unfold visB kindB at h
  unfold Vis
  split at h
  · rename_i e; exact .inl e
  · rename_i e; exact .inr (.inl e)
  · rename_i e; exact .inr (.inr e)
  · cases h
theorem dbg_of {x : Str} (h : dbgB x = false) : (x == ("__debug__" : Str)) = false ∧ (x == ("__classdict__" : Str)) = false ∧ x ≠ "__name__" := by
  unfold dbgB at h
  simp only [Bool.or_eq_false_iff] at h
  exact ⟨h.1.1, h.1.2, fun e => by
    have z := h.2
    rw [e] at z
    exact absurd z (by simp)⟩
theorem sem_var {c : Ctx} {x : Str} {i : Nat} {pos : Pos} (hN : c.N[i]? = some x) (hv : visB c.sc x = true) (hd : dbgB x = false) : Sem c (.Name x pos) (.var i) := by
  refine ⟨fun X C W F k M => ?_, rfl⟩
  obtain ⟨d1, d2, d3⟩ := dbg_of hd
  refine pe_mono (pe_var (i := i) (by rw [M.N]; exact hN) (by rw [M.sc]; exact vis_of hv) d1 d2) fun σ H Q ⟨ρ, g, E, G, h⟩ => ?_
  unfold den at h
  show ∃ v, σ[i]? = some (some v) ∧ Q v H
  cases e : ρ[i]? with
  | none =>
    rw [List.getD_eq_getElem?_getD, e] at h
    exact h.elim
  | some o =>
    rw [List.getD_eq_getElem?_getD, e] at h
    cases o with
    | none => exact h.elim
    | some d =>
      obtain ⟨v, h1, h2⟩ := E.2 i d e
      exact ⟨v, h1, h v H Ext.refl G h2⟩
theorem tC_of {C : Cfg} {W : WX} {F : Nat → List Dat → Mo Dat} {v : V} {d : Dat} (h : ∀ (C : Cfg) H, Rp C H v d) {σ : L2.St} {H : Hp} {Q : VK} (q : tD C W (den F (.con d)) σ H Q) : tC v σ H Q := by
  obtain ⟨ρ, g, E, G, q⟩ := q
  unfold den at q
  exact q v H Ext.refl G (h C H)
theorem sem_int {c : Ctx} {i : Int} {j : Nat} {pos : Pos} : Sem c (.Constant (.int i) j pos) (.con (.int i)) := ⟨fun X C W F k M => pe_mono pe_int fun _ _ _ q => tC_of (fun _ _ => .int i) q, rfl⟩
theorem sem_bool {c : Ctx} {i : Bool} {j : Nat} {pos : Pos} : Sem c (.Constant (.bool i) j pos) (.con (.bl i)) := ⟨fun X C W F k M => pe_mono pe_bl fun _ _ _ q => tC_of (fun _ _ => .bl i) q, rfl⟩
theorem sem_none {c : Ctx} {j : Nat} {pos : Pos} : Sem c (.Constant .none j pos) (.con .non) := ⟨fun X C W F k M => pe_mono pe_non fun _ _ _ q => tC_of (fun _ _ => .non) q, rfl⟩
def sOkB (x : Str) : Bool := decide (x.cps.size ≤ 16777216) && x.cps.toList.all (fun c => decide (c < 1114112))
theorem sOk_of {x : Str} (h : sOkB x = true) : SOk x := by
  unfold sOkB at h
  simp only [Bool.and_eq_true, decide_eq_true_eq, List.all_eq_true] at h
  exact ⟨by rw [sizeLine_eq]; exact h.1, h.2⟩
theorem sem_str {c : Ctx} {x : Str} {j : Nat} {pos : Pos} (h : sOkB x = true) : Sem c (.Constant (.str x) j pos) (.con (.str x.cps.toList)) :=
  ⟨fun X C W F k M => pe_mono pe_str fun _ _ _ q => tC_of (fun _ _ => .str x (sOk_of h)) q, rfl⟩
theorem sem_glo {c : Ctx} {x : Str} {d : Dat} {pos : Pos} (hg : kindB c.sc x = some .globalImplicit) (hl : c.glo.lookup x = some d) (hd : dbgB x = false) : Sem c (.Name x pos) (.con d) := by
  refine ⟨fun X C W F k M => ?_, rfl⟩
  obtain ⟨d1, d2, d3⟩ := dbg_of hd
  obtain ⟨u, v, h1, h2, h3⟩ := M.glo x d hl
  refine pe_mono (pe_glob (v := v) (show X.env.scope.names.lookup x = some .globalImplicit by rw [M.sc]; exact hg) h1 h2 d1) fun σ H Q q => ?_
  obtain ⟨ρ, g, E, G, q⟩ := q
  unfold den at q
  exact q v H Ext.refl G (h3 C.cup C.M H)

/-! ### operators on two values -/
theorem run_ofO {C : Cfg} {W : WX} {σ : L2.St} {H : Hp} {Q : VK} {o : Option Dat} {g : List Dat} (h : RunE C W (ofO o g) σ H Q) : ∃ d, o = some d ∧ RunE C W (.ok d g) σ H Q := by
  cases o with
  | none => exact h.elim
  | some d => exact ⟨d, rfl, h⟩
/-- what an operator's own reading asks, from the plain operator -/
def OpF (C : Cfg) (r : R2) (f : Dat → Dat → Option Dat) : Prop := ∀ (d1 d2 d : Dat) (g : List Dat) (x y : V) (H : Hp) (Q : VK), f d1 d2 = some d → Rp C H x d1 → Rp C H y d2 → GR C g H →
  (∀ v H', Ext C H H' → GR C g H' → Rp C H' v d → Q v H') → r x y H Q
theorem tOp_of {C : Cfg} {W : WX} {r : R2} {f : Dat → Dat → Option Dat} {fa fb : Sl → Mo Dat} (hf : OpF C r f) {σ : L2.St} {H : Hp} {Q : VK}
    (q : tD C W (fun ρ g => (fa ρ g).bind fun x g => (fb ρ g).bind fun y g => ofO (f x y) g) σ H Q) : tOp r (tD C W fa) (tD C W fb) σ H Q := by
  obtain ⟨ρ, g, E, G, h⟩ := q
  refine tD_then _ (fun r H => RunE C W r σ H Q) E G h (fun _ _ p => p) id fun d1 g1 x H1 e1 E1 G1 r1 h1 => ?_
  refine tD_then _ (fun r H => RunE C W r σ H Q) E1 G1 (h1.ext e1) (fun _ _ p => p) id fun d2 g2 y H2 e2 E2 G2 r2 h2 => ?_
  obtain ⟨d, hd, hq⟩ := run_ofO (h2.ext e2)
  exact hf d1 d2 d g2 x y H2 Q hd (r1.ext e2) r2 G2 hq
theorem tT_tD {C : Cfg} {W : WX} {f : Sl → Mo Dat} {σ : L2.St} {H : Hp} {Q : Bool → Hp → Prop} (q : tT C W (fun ρ g => (f ρ g).bind asB) σ H Q) : tD C W f σ H fun x H' => ∃ k, x = .bl k ∧ Q k H' := by
  obtain ⟨ρ, g, E, G, h⟩ := q
  refine ⟨ρ, g, E, G, ?_⟩
  revert h
  dsimp only
  cases f ρ g with
  | ok d g1 =>
    intro h v H' e G' r
    cases d with
    | bl b => cases r; exact ⟨b, rfl, h H' e G'⟩
    | _ => exact h.elim
  | exc c g1 => exact fun h => h
  | bad => exact fun h => h
theorem tOpT_of {C : Cfg} {W : WX} {r : R2} {f : Dat → Dat → Option Dat} {fa fb : Sl → Mo Dat} (hf : OpF C r f) {σ : L2.St} {H : Hp} {Q : Bool → Hp → Prop}
    (q : tT C W (fun ρ g => ((fa ρ g).bind fun x g => (fb ρ g).bind fun y g => ofO (f x y) g).bind asB) σ H Q) : tTest (tOp r (tD C W fa) (tD C W fb)) σ H Q := tOp_of hf (tT_tD q)
theorem sem_op {c : Ctx} {o : Operator} {o' : Op} {a b : Expr} {a' b' : Ex} {pos : Pos} (ho : ∀ X C W F k, Mt X c C W F k → ∃ r, OpR X (binaryOp o) r ∧ OpF C r (opD o'))
    (ha : Sem c a a') (hb : Sem c b b') : Sem c (.BinOp a o b pos) (.op o' a' b') := by
  refine ⟨fun X C W F k M => ?_, rfl⟩
  obtain ⟨r, h1, h2⟩ := ho X C W F k M
  refine pe_mono (pe_op h1 (ha.run X C W F k M) (hb.run X C W F k M)) fun σ H Q q => tOp_of h2 ?_
  unfold den at q
  exact q
theorem Rp.int_inv {C : Cfg} {H : Hp} {v : V} {i : Int} (h : Rp C H v (.int i)) : v = .int i := by cases h; rfl
theorem Rp.bl_inv {C : Cfg} {H : Hp} {v : V} {i : Bool} (h : Rp C H v (.bl i)) : v = .bl i := by cases h; rfl
theorem Rp.str_inv {C : Cfg} {H : Hp} {v : V} {s : List Nat} (h : Rp C H v (.str s)) : ∃ x : Str, v = .str x ∧ s = x.cps.toList ∧ SOk x := by cases h with | str x hx => exact ⟨x, rfl, rfl, hx⟩
theorem Rp.tup_inv {C : Cfg} {H : Hp} {v : V} {s : List Dat} (h : Rp C H v (.tup s)) : ∃ a vs, v = .ref a ∧ TupAt C H a vs ∧ s.length ≤ sizeLine ∧ RpL C H vs s := by cases h with | tup h z r => exact ⟨_, _, rfl, h, z, r⟩
theorem Rp.lst_inv {C : Cfg} {H : Hp} {v : V} {s : List Dat} (h : Rp C H v (.lst s)) : ∃ a vs, v = .ref a ∧ LstAt C H a vs ∧ s.length ≤ sizeLine ∧ RpL C H vs s := by cases h with | lst h z r => exact ⟨_, _, rfl, h, z, r⟩
theorem Rp.non_inv {C : Cfg} {H : Hp} {v : V} (h : Rp C H v .non) : v = .non := by cases h; rfl
/-- a new tuple, a new list -/
theorem Rp.newT {C : Cfg} {H : Hp} {p : Addr} {g : List Dat} {vs : List V} {ds : List Dat} (G : GR C g H) (hp : H p = none) (hz : ds.length ≤ sizeLine) (r : RpL C H vs ds) : Rp C (upd H p (.tup vs)) (.ref p) (.tup ds) :=
  .tup (.inl ⟨upd_same, G.ne hp⟩) hz (r.ext (Ext.new hp))
theorem Rp.newL {C : Cfg} {H : Hp} {p : Addr} {g : List Dat} {vs : List V} {ds : List Dat} (G : GR C g H) (hp : H p = none) (hz : ds.length ≤ sizeLine) (r : RpL C H vs ds) : Rp C (upd H p (.lst vs)) (.ref p) (.lst ds) :=
  .lst ⟨.inl upd_same, G.ne hp⟩ hz (r.ext (Ext.new hp))
theorem line_eq : line = sizeLine := by rw [sizeLine_eq]; rfl
theorem sOk_append {x y : Str} (hx : SOk x) (hy : SOk y) (hz : x.length + y.length ≤ sizeLine) : SOk (x ++ y) := by
  have e : (x ++ y).cps.toList = x.cps.toList ++ y.cps.toList := TL.tl_append x y
  refine ⟨?_, fun c hc => ?_⟩
  · show (x ++ y).cps.size ≤ _
    rw [← Array.length_toList, e, List.length_append, Array.length_toList, Array.length_toList]
    exact hz
  · rw [e] at hc
    rcases List.mem_append.mp hc with h | h
    · exact hx.2 c h
    · exact hy.2 c h
theorem sOk_sub {x : Str} {l : List Nat} (hx : SOk x) (hz : l.length ≤ x.length) (hm : ∀ c ∈ l, c ∈ x.cps.toList) : SOk ⟨l.toArray⟩ := by
  refine ⟨Nat.le_trans (by show l.toArray.size ≤ _; simpa using hz) hx.1, fun c hc => hx.2 c (hm c (by simpa using hc))⟩
theorem Rp.strL {C : Cfg} {H : Hp} {l : List Nat} (h : SOk ⟨l.toArray⟩) : Rp C H (.str ⟨l.toArray⟩) (.str l) := by
  have := Rp.str (C := C) (H := H) ⟨l.toArray⟩ h
  simpa using this
theorem Rp.strE {C : Cfg} {H : Hp} {x : Str} {l : List Nat} (h : SOk x) (e : x.cps.toList = l) : Rp C H (.str x) (.str l) := by
  subst e; exact .str x h
theorem strlen (x : Str) : x.length = x.cps.toList.length := by simp [Str.length]
end R
set_option Elab.async false
set_option linter.all false
set_option maxRecDepth 100000
set_option maxHeartbeats 4000000
/-! Operators and comparisons. -/
namespace R
open PySem PySem.Spec PyProof.Rows L2
section
variable {C : Cfg}

/-! ### + - * // % ** -/
theorem LstAt.heap {X : Cx} {pins : List (Addr × Obj)} {σ : L2.St} {H : Hp} {s : Shared} {a : Addr} {xs : List V} (I : Inv X pins σ H s) (h : LstAt C H a xs) :
    ∃ (its : List Value) (n : Nat), Vals xs its ∧ s.heap.get? a = some { cls := .type "list", data := .seq its.toArray n } ∧ xs.length ≤ sizeLine := by
  rcases h.1 with h | ⟨o, h⟩
  · obtain ⟨z, its, n, r, e⟩ := I.hok a _ h
    exact ⟨its, n, r, e, z⟩
  · obtain ⟨e, z, its, n, r, e2⟩ := I.hok a _ h
    exact ⟨its, n, r, e2, z⟩
def rCatL (C : Cfg) : R2 := fun x y H Q => ∃ l b xs zs, x = .ref l ∧ y = .ref b ∧ LstAt C H l xs ∧ LstAt C H b zs ∧ xs.length + zs.length ≤ sizeLine ∧ ∀ p, H p = none → Q (.ref p) (upd H p (.lst (xs ++ zs)))
theorem op_catL {X : Cx} : OpR X (binaryOp .Add) (rCatL C) := by
  intro pins s σ H x y v u Q I rx ry h
  obtain ⟨l, b, xs, zs, rfl, rfl, hH, hB, hz, q⟩ := h
  cases rx
  cases ry
  obtain ⟨its, n, r, e, z⟩ := hH.heap I
  obtain ⟨its2, n2, r2, e2, z2⟩ := hB.heap I
  have hl := r.length
  have hl2 := r2.length
  refine PySem.P.add_list e e2 ?_ (by rw [List.size_toArray, List.size_toArray]; omega)
  have ea : its.toArray ++ its2.toArray = (its ++ its2).toArray := by simp
  rw [ea]
  exact ⟨.ref _, _, I.lnew (t' := s.toks) (r.append r2) (by rw [List.length_append]; omega), rfl, q _ I.fresh⟩
theorem mul_rep (x : Str) (n : Int) : (Txt.mul x n).cps.toList = (List.replicate n.toNat x.cps.toList).flatten := by
  have fold : ∀ (k : Nat) (acc : Array Nat), ((List.replicate k x.cps).foldl (· ++ ·) acc).toList = acc.toList ++ (List.replicate k x.cps.toList).flatten := by
    intro k
    induction k with
    | zero => intro acc; simp
    | succ k ih =>
      intro acc
      rw [List.replicate_succ, List.foldl_cons, ih, List.replicate_succ, List.flatten_cons, Array.toList_append, List.append_assoc]
  unfold Txt.mul
  by_cases h1 : n < 1
  · rw [if_pos h1]
    have e : n.toNat = 0 := by omega
    rw [e]
    rfl
  · rw [if_neg h1]
    by_cases h2 : (n == 1 || x.length == 0) = true
    · rw [if_pos h2]
      simp only [Bool.or_eq_true, beq_iff_eq] at h2
      rcases h2 with h2 | h2
      · subst h2
        simp
      · have e : x.cps.toList = [] := by
          have : x.cps.size = 0 := h2
          rw [← Array.length_toList] at this
          exact List.eq_nil_of_length_eq_zero this
        rw [e]
        simp
    · rw [if_neg h2]
      have := fold n.toNat #[]
      simpa using this
theorem op_mul_str {X : Cx} : OpR X (binaryOp .Mult) (fun x y H Q => ∃ z n, x = .str z ∧ y = .int n ∧ z.length ≤ sizeLine ∧ z.length * n.toNat ≤ sizeLine ∧ n ≤ 16777216 ∧ -16777216 ≤ n ∧ Q (.str (Txt.mul z n)) H) := by
  intro pins s σ H x y v u Q I rx ry h
  obtain ⟨z, n, rfl, rfl, hl, hz, h1, h2, q⟩ := h
  obtain ⟨t, rfl⟩ := rx
  obtain ⟨t', rfl⟩ := ry
  have hs : sizeLine = 16777216 := sizeLine_eq
  have hp : (2 : Int) ^ 63 = 9223372036854775808 := by decide
  refine SB.mul ⟨?_, fun h3 _ => ?_, fun h3 _ => ?_⟩ fun t' k => ⟨.str (Txt.mul z n), H, I.tok _, ⟨_, rfl⟩, q⟩
  · rw [hp]
    simp only [Bool.or_eq_false_iff, decide_eq_false_iff_not]
    constructor <;> omega
  · intro z2
    rw [hp] at z2
    have : (9223372036854775808 - 1 : Int) / n ≥ 549755813887 := by
      refine (Int.le_ediv_iff_mul_le (by omega)).mpr ?_
      omega
    omega
  · exact decide_eq_false (by omega)
theorem flat_rep_len (l : List Nat) (k : Nat) : (List.replicate k l).flatten.length = l.length * k := by
  induction k with
  | zero => simp
  | succ k ih => rw [List.replicate_succ, List.flatten_cons, List.length_append, ih, Nat.mul_succ]; omega
theorem mem_rep {l : List Nat} {c : Nat} : ∀ {k : Nat}, c ∈ (List.replicate k l).flatten → c ∈ l := fun {k} h => by
  obtain ⟨m, hm, hc⟩ := List.mem_flatten.mp h
  rw [(List.mem_replicate.mp hm).2] at hc
  exact hc

theorem ite_some {α : Type} {c : Bool} {a b : α} (h : (if c = true then some a else none) = some b) : c = true ∧ a = b := by
  split at h
  · rename_i e; exact ⟨e, Option.some.inj h⟩
  · cases h
theorem opf_add (X : Cx) (hK : X.K = C.K) : ∃ r, OpR X (binaryOp .Add) r ∧ OpF C r (opD .add) := by
  refine ⟨_, op_add.or (op_add_str.or ((op_catA (X := X)).or (op_catL (C := C)))), ?_⟩
  intro d1 d2 d g x y H Q hd r1 r2 G q
  have hs := line_eq
  cases d1 <;> cases d2 <;> simp only [opD] at hd <;> try cases hd
  · rename_i i j
    exact .inl ⟨i, j, r1.int_inv, r2.int_inv, q _ H Ext.refl G (.int _)⟩
  · rename_i a b
    split at hd
    · rename_i hz
      cases hd
      obtain ⟨x1, rfl, rfl, h1⟩ := r1.str_inv
      obtain ⟨y1, rfl, rfl, h2⟩ := r2.str_inv
      rw [← strlen, ← strlen, hs] at hz
      refine .inr (.inl ⟨x1, y1, rfl, rfl, hz, q _ H Ext.refl G ?_⟩)
      exact .strE (sOk_append h1 h2 hz) (TL.tl_append x1 y1)
    · cases hd
  · rename_i a b
    split at hd
    · rename_i hz
      cases hd
      obtain ⟨p1, v1, rfl, t1, z1, l1⟩ := r1.tup_inv
      obtain ⟨p2, v2, rfl, t2, z2, l2⟩ := r2.tup_inv
      have e1 := l1.len
      have e2 := l2.len
      rw [hs] at hz
      refine .inr (.inr (.inl ⟨p1, p2, v1, v2, rfl, rfl, by rw [hK]; exact t1.sq, by rw [hK]; exact t2.sq, by omega, fun h => ?_, fun _ h => ?_, fun _ _ p hp => ?_⟩))
      · subst h
        have : a = [] := List.eq_nil_of_length_eq_zero (by simpa using e1.symm)
        subst this
        exact q _ H Ext.refl G (.tup t2 z2 l2)
      · subst h
        have : b = [] := List.eq_nil_of_length_eq_zero (by simpa using e2.symm)
        subst this
        rw [List.append_nil] at q
        exact q _ H Ext.refl G (.tup t1 z1 l1)
      · exact q _ _ (Ext.new hp) (G.new hp) (.newT G hp (by rw [List.length_append]; exact hz) (l1.append l2))
    · cases hd
  · rename_i a b
    split at hd
    · rename_i hz
      cases hd
      obtain ⟨p1, v1, rfl, t1, z1, l1⟩ := r1.lst_inv
      obtain ⟨p2, v2, rfl, t2, z2, l2⟩ := r2.lst_inv
      have e1 := l1.len
      have e2 := l2.len
      rw [hs] at hz
      refine .inr (.inr (.inr ⟨p1, p2, v1, v2, rfl, rfl, t1, t2, by omega, fun p hp => ?_⟩))
      exact q _ _ (Ext.new hp) (G.new hp) (.newL G hp (by rw [List.length_append]; exact hz) (l1.append l2))
    · cases hd
theorem opf_sub (X : Cx) (hK : X.K = C.K) : ∃ r, OpR X (binaryOp .Sub) r ∧ OpF C r (opD .sub) := by
  refine ⟨_, op_sub, ?_⟩
  intro d1 d2 d g x y H Q hd r1 r2 G q
  cases d1 <;> cases d2 <;> simp only [opD] at hd <;> try cases hd
  rename_i i j
  exact ⟨i, j, r1.int_inv, r2.int_inv, q _ H Ext.refl G (.int _)⟩
theorem RpL.rep {C : Cfg} {H : Hp} {vs : List V} {ds : List Dat} (r : RpL C H vs ds) : ∀ n : Nat, RpL C H (List.replicate n vs).flatten (List.replicate n ds).flatten
  | 0 => .nil
  | n + 1 => by
    rw [List.replicate_succ, List.replicate_succ, List.flatten_cons, List.flatten_cons]
    exact r.append (RpL.rep r n)
theorem rep_len {α : Type} (l : List α) (k : Nat) : (List.replicate k l).flatten.length = l.length * k := by
  induction k with
  | zero => simp
  | succ k ih => rw [List.replicate_succ, List.flatten_cons, List.length_append, ih, Nat.mul_succ]; omega
theorem opf_mul (X : Cx) (hK : X.K = C.K) : ∃ r, OpR X (binaryOp .Mult) r ∧ OpF C r (opD .mul) := by
  refine ⟨_, op_mul.or (op_mul_str.or (op_repT (X := X))), ?_⟩
  intro d1 d2 d g x y H Q hd r1 r2 G q
  have hs := line_eq
  have h64 : (2 : Int) ^ 64 = 18446744073709551616 := by decide
  cases d1 <;> cases d2 <;> simp only [opD] at hd <;> try cases hd
  · rename_i i j
    obtain ⟨hc, rfl⟩ := ite_some hd
    refine .inl ⟨i, j, r1.int_inv, r2.int_inv, ?_, q _ H Ext.refl G (.int _)⟩
    unfold mulOkB at hc
    simp only [Bool.or_eq_true, decide_eq_true_eq] at hc
    unfold CMul
    rw [h64]
    omega
  · rename_i a j
    split at hd
    · rename_i hc
      cases hd
      simp only [Bool.and_eq_true, decide_eq_true_eq] at hc
      obtain ⟨⟨c1, c2⟩, c3⟩ := hc
      obtain ⟨x1, rfl, rfl, h1⟩ := r1.str_inv
      have hl : (line : Int) = 16777216 := rfl
      rw [← strlen] at c1
      refine .inr (.inl ⟨x1, j, rfl, r2.int_inv, h1.1, by rw [← hs]; exact c1, by omega, by omega, q _ H Ext.refl G ?_⟩)
      refine .strE ⟨?_, fun c hc => ?_⟩ (mul_rep x1 j)
      · rw [strlen, mul_rep, flat_rep_len, ← strlen, ← hs]; exact c1
      · rw [mul_rep] at hc
        exact h1.2 c (mem_rep hc)
    · cases hd
  · rename_i a j
    split at hd
    · rename_i hc
      cases hd
      simp only [Bool.and_eq_true, decide_eq_true_eq, Bool.not_eq_true', List.isEmpty_eq_false_iff] at hc
      obtain ⟨⟨⟨c0, c1⟩, c2⟩, c3⟩ := hc
      obtain ⟨p1, v1, rfl, t1, z1, l1⟩ := r1.tup_inv
      have e1 := l1.len
      have hne : v1 ≠ [] := fun h => by
        rw [h] at e1
        exact c0 (List.eq_nil_of_length_eq_zero (by simpa using e1.symm))
      have hz : a.length * j.toNat ≤ 1000 * 1000 := Nat.mul_le_mul c3 (by omega)
      have hsl : sizeLine = 16777216 := sizeLine_eq
      refine .inr (.inr ⟨p1, j, v1, rfl, r2.int_inv, by rw [hK]; exact t1.sq, hne, c1, c2, by omega, fun p hp => ?_⟩)
      exact q _ _ (Ext.new hp) (G.new hp) (.newT G hp (by rw [rep_len]; omega) (l1.rep _))
    · cases hd
theorem opf_fdiv (X : Cx) (hK : X.K = C.K) : ∃ r, OpR X (binaryOp .FloorDiv) r ∧ OpF C r (opD .fdiv) := by
  refine ⟨_, op_fdivN, ?_⟩
  intro d1 d2 d g x y H Q hd r1 r2 G q
  cases d1 <;> cases d2 <;> simp only [opD] at hd <;> try cases hd
  rename_i i j
  split at hd
  · rename_i hc
    cases hd
    simp only [Bool.and_eq_true, decide_eq_true_eq, bne_iff_ne, ne_eq] at hc
    exact ⟨i, j, r1.int_inv, r2.int_inv, hc, q _ H Ext.refl G (.int _)⟩
  · cases hd
theorem opf_mod (X : Cx) (hK : X.K = C.K) : ∃ r, OpR X (binaryOp .Mod) r ∧ OpF C r (opD .mod) := by
  refine ⟨_, op_modN, ?_⟩
  intro d1 d2 d g x y H Q hd r1 r2 G q
  cases d1 <;> cases d2 <;> simp only [opD] at hd <;> try cases hd
  rename_i i j
  split at hd
  · rename_i hc
    cases hd
    exact ⟨i, j, r1.int_inv, r2.int_inv, hc, q _ H Ext.refl G (.int _)⟩
  · cases hd
theorem opf_pow (X : Cx) (hK : X.K = C.K) : ∃ r, OpR X (binaryOp .Pow) r ∧ OpF C r (opD .pow) := by
  refine ⟨_, op_pow, ?_⟩
  intro d1 d2 d g x y H Q hd r1 r2 G q
  have h64 : (2 : Nat) ^ 64 = 18446744073709551616 := by decide
  cases d1 <;> cases d2 <;> simp only [opD] at hd <;> try cases hd
  rename_i i j
  split at hd
  · rename_i hc
    cases hd
    simp only [Bool.and_eq_true, decide_eq_true_eq] at hc
    refine ⟨i, j, r1.int_inv, r2.int_inv, ⟨hc.1.1, hc.1.2, ?_⟩, q _ H Ext.refl G (.int _)⟩
    rw [h64]; exact hc.2
  · cases hd
end
def opOf : Operator → Option Op
  | .Add => some .add
  | .Sub => some .sub
  | .Mult => some .mul
  | .FloorDiv => some .fdiv
  | .Mod => some .mod
  | .Pow => some .pow
  | _ => none
theorem sem_binop {c : Ctx} {o : Operator} {o' : Op} {a b : Expr} {a' b' : Ex} {pos : Pos} (h : opOf o = some o') (ha : Sem c a a') (hb : Sem c b b') : Sem c (.BinOp a o b pos) (.op o' a' b') := by
  refine sem_op (fun X C W F k M => ?_) ha hb
  cases o <;> simp only [opOf] at h <;> cases h
  · exact opf_add X M.K
  · exact opf_sub X M.K
  · exact opf_mul X M.K
  · exact opf_mod X M.K
  · exact opf_pow X M.K
  · exact opf_fdiv X M.K
end R
set_option Elab.async false
set_option linter.all false
set_option maxRecDepth 100000
set_option maxHeartbeats 4000000
/-! Comparisons. -/
namespace R
open PySem PySem.Spec PyProof.Rows L2

mutual
def toPy : Dat → PyData
  | .non => .none
  | .bl b => .bool b
  | .int i => .int i
  | .str s => .str ⟨s.toArray⟩
  | .tup xs => .tuple (toPyL xs)
  | .lst xs => .list (toPyL xs)
  | .fn _ => .none
  | .cup => .none
  | .kl _ => .none
  | .dct _ _ => .none
  | .fdc _ _ => .none
  | .own _ => .none
def toPyL : List Dat → List PyData
  | [] => []
  | x :: xs => toPy x :: toPyL xs
end
theorem str_eqB (a b : List Nat) : ((⟨a.toArray⟩ : Str) == ⟨b.toArray⟩) = (a == b) := by
  rw [Bool.eq_iff_iff]
  simp only [beq_iff_eq]
  constructor
  · intro h
    injection h with h
    simpa using h
  · intro h; subst h; rfl
mutual
theorem eqv_toPy : ∀ (a b : Dat) (n m : Nat), okB a n = true → okB b m = true → PyData.eqv (toPy a) (toPy b) = eqB a b
  | .non, b, n, m, _, hb => by cases b <;> simp_all [toPy, PyData.eqv, eqB, okB]
  | .bl x, b, n, m, _, hb => by cases b <;> simp_all [toPy, PyData.eqv, eqB, okB]
  | .int i, b, n, m, _, hb => by cases b <;> simp_all [toPy, PyData.eqv, eqB, okB]
  | .str s, b, n, m, _, hb => by
    cases b <;> simp_all [toPy, PyData.eqv, eqB, okB]
    exact str_eqB _ _
  | .tup xs, b, n, m, ha, hb => by
    cases b with
    | tup ys =>
      cases n with
      | zero => simp [okB] at ha
      | succ n =>
        cases m with
        | zero => simp [okB] at hb
        | succ m =>
          simp only [okB] at ha hb
          simp only [toPy, PyData.eqv, eqB]
          exact eqv_toPyL xs ys n m ha hb
    | fn i => simp [okB] at hb
    | cup => simp [okB] at hb
    | kl _ => simp [okB] at hb
    | dct _ _ => simp [okB] at hb
    | fdc _ _ => simp [okB] at hb
    | own _ => simp [okB] at hb
    | _ => simp [toPy, PyData.eqv, eqB]
  | .lst xs, b, n, m, ha, hb => by
    cases b with
    | lst ys =>
      cases n with
      | zero => simp [okB] at ha
      | succ n =>
        cases m with
        | zero => simp [okB] at hb
        | succ m =>
          simp only [okB] at ha hb
          simp only [toPy, PyData.eqv, eqB]
          exact eqv_toPyL xs ys n m ha hb
    | fn i => simp [okB] at hb
    | cup => simp [okB] at hb
    | kl _ => simp [okB] at hb
    | dct _ _ => simp [okB] at hb
    | fdc _ _ => simp [okB] at hb
    | own _ => simp [okB] at hb
    | _ => simp [toPy, PyData.eqv, eqB]
  | .fn i, b, n, m, ha, hb => by simp [okB] at ha
  | .cup, b, n, m, ha, hb => by simp [okB] at ha
  | .kl _, b, n, m, ha, hb => by simp [okB] at ha
  | .dct _ _, b, n, m, ha, hb => by simp [okB] at ha
  | .fdc _ _, b, n, m, ha, hb => by simp [okB] at ha
  | .own _, b, n, m, ha, hb => by simp [okB] at ha
theorem eqv_toPyL : ∀ (a b : List Dat) (n m : Nat), okAllB a n = true → okAllB b m = true → PyData.eqvAll (toPyL a) (toPyL b) = eqAllB a b
  | [], [], _, _, _, _ => by simp [toPyL, PyData.eqvAll, eqAllB]
  | [], _ :: _, _, _, _, _ => by simp [toPyL, PyData.eqvAll, eqAllB]
  | _ :: _, [], _, _, _, _ => by simp [toPyL, PyData.eqvAll, eqAllB]
  | x :: xs, y :: ys, n, m, ha, hb => by
    simp only [okAllB, Bool.and_eq_true] at ha hb
    simp only [toPyL, PyData.eqvAll, eqAllB]
    rw [eqv_toPy x y n m ha.1 hb.1, eqv_toPyL xs ys n m ha.2 hb.2]
end
mutual
theorem Rp.dp {C : Cfg} {H : Hp} : ∀ (d : Dat) (v : V) (n : Nat), Rp C H v d → okB d n = true → Dp C.K H v (toPy d) ∧ (toPy d).canLay0 = true ∧ (toPy d).depth ≤ n
  | .non, v, n, r, _ => by cases r; exact ⟨.non, by simp [toPy, PyData.canLay0], by simp [toPy, PyData.depth]⟩
  | .bl b, v, n, r, _ => by cases r; exact ⟨.bl b, by simp [toPy, PyData.canLay0], by simp [toPy, PyData.depth]⟩
  | .int b, v, n, r, _ => by cases r; exact ⟨.int b, by simp [toPy, PyData.canLay0], by simp [toPy, PyData.depth]⟩
  | .str s, v, n, r, _ => by
    obtain ⟨x, rfl, rfl, h⟩ := r.str_inv
    refine ⟨?_, ?_, by simp [toPy, PyData.depth]⟩
    · simp only [toPy]
      exact .str x
    · simp only [toPy, PyData.canLay0, PyData.strOk, List.all_toArray, List.all_eq_true, decide_eq_true_eq]
      intro c hc
      exact h.2 c hc
  | .tup xs, v, n, r, ho => by
    obtain ⟨a, vs, rfl, t, z, l⟩ := r.tup_inv
    cases n with
    | zero => simp [okB] at ho
    | succ n =>
      simp only [okB] at ho
      obtain ⟨h1, h2, h3⟩ := RpL.dp xs vs n l ho
      exact ⟨.tup t.sq h1, by simpa [toPy, PyData.canLay0] using h2, by simp only [toPy, PyData.depth]; omega⟩
  | .lst xs, v, n, r, ho => by
    obtain ⟨a, vs, rfl, t, z, l⟩ := r.lst_inv
    cases n with
    | zero => simp [okB] at ho
    | succ n =>
      simp only [okB] at ho
      obtain ⟨h1, h2, h3⟩ := RpL.dp xs vs n l ho
      exact ⟨.lst t.sq h1, by simpa [toPy, PyData.canLay0] using h2, by simp only [toPy, PyData.depth]; omega⟩
  | .fn i, v, n, r, ho => by simp [okB] at ho
  | .cup, v, n, r, ho => by simp [okB] at ho
  | .kl _, v, n, r, ho => by simp [okB] at ho
  | .dct _ _, v, n, r, ho => by simp [okB] at ho
  | .fdc _ _, v, n, r, ho => by simp [okB] at ho
  | .own _, v, n, r, ho => by simp [okB] at ho
theorem RpL.dp {C : Cfg} {H : Hp} : ∀ (ds : List Dat) (vs : List V) (n : Nat), RpL C H vs ds → okAllB ds n = true → DpAll C.K H vs (toPyL ds) ∧ PyData.canLayAll0 (toPyL ds) = true ∧ PyData.depthAll (toPyL ds) ≤ n
  | [], vs, n, r, _ => by cases r; exact ⟨.nil, by simp [toPyL, PyData.canLayAll0], by simp [toPyL, PyData.depthAll]⟩
  | d :: ds, vs, n, r, ho => by
    cases r with
    | cons r rr =>
      simp only [okAllB, Bool.and_eq_true] at ho
      obtain ⟨a1, a2, a3⟩ := Rp.dp d _ n r ho.1
      obtain ⟨b1, b2, b3⟩ := RpL.dp ds _ n rr ho.2
      exact ⟨.cons a1 b1, by simp [toPyL, PyData.canLayAll0, a2, b2], by simp only [toPyL, PyData.depthAll]; omega⟩
end
theorem Rp.shaped {C : Cfg} {H : Hp} {d : Dat} {v : V} (r : Rp C H v d) (h : okB d 64 = true) : Dp C.K H v (toPy d) ∧ SeqAt.shaped (toPy d) = true := by
  obtain ⟨h1, h2, h3⟩ := Rp.dp d v 64 r h
  exact ⟨h1, by unfold SeqAt.shaped; rw [h2, decide_eq_true h3]; rfl⟩
theorem any_toPyL (x : Dat) (hx : okB x 64 = true) : ∀ (ys : List Dat) (n : Nat), okAllB ys n = true → ((toPyL ys).any fun z => PyData.eqv z (toPy x)) = ys.any fun z => eqB z x
  | [], _, _ => rfl
  | y :: ys, n, h => by
    simp only [okAllB, Bool.and_eq_true] at h
    simp only [toPyL, List.any_cons]
    rw [eqv_toPy y x n 64 h.1 hx, any_toPyL x hx ys n h.2]
/-! ### text in text -/
theorem sub_iff (x y : Str) (i : Nat) : (i + y.length ≤ x.length ∧ Builtin.Str.subAt x y i = true) ↔ i + y.cps.toList.length ≤ x.cps.toList.length ∧ (x.cps.toList.drop i).take y.cps.toList.length = y.cps.toList := by
  rw [strlen, strlen]
  have e : Builtin.Str.subAt x y i = true ↔ (x.cps.toList.drop i).take y.cps.toList.length = y.cps.toList := by
    unfold Builtin.Str.subAt
    rw [beq_iff_eq, ← Array.toList_inj, Array.toList_extract, List.extract_eq_take_drop, strlen]
    have : i + y.cps.toList.length - i = y.cps.toList.length := by omega
    rw [this]
  exact and_congr_right fun _ => e
theorem infix_iff (y : List Nat) : ∀ x : List Nat, infixB y x = true ↔ ∃ i, i + y.length ≤ x.length ∧ (x.drop i).take y.length = y
  | [] => by
    unfold infixB
    constructor
    · intro h
      have : y = [] := by simpa using h
      subst this
      exact ⟨0, by simp⟩
    · rintro ⟨i, h1, h2⟩
      simp at h1
      simp [h1.2]
  | c :: r => by
    unfold infixB
    rw [Bool.or_eq_true, infix_iff y r, List.isPrefixOf_iff_prefix, List.prefix_iff_eq_take]
    constructor
    · rintro (h | ⟨i, h1, h2⟩)
      · refine ⟨0, ?_, by simpa using h.symm⟩
        have := congrArg List.length h
        rw [List.length_take] at this
        omega
      · exact ⟨i + 1, by simp only [List.length_cons]; omega, by simpa using h2⟩
    · rintro ⟨i, h1, h2⟩
      cases i with
      | zero => exact .inl (by simpa using h2.symm)
      | succ i => exact .inr ⟨i, by simp only [List.length_cons] at h1; omega, by simpa using h2⟩
theorem occ_infix (x y : Str) : (!(Builtin.Str.occurrences x y 0 x.length 1).isEmpty) = infixB y.cps.toList x.cps.toList := by
  rw [Bool.eq_iff_iff]
  rw [PySem.StrLaws.found_iff, infix_iff]
  exact exists_congr fun i => sub_iff x y i
theorem lt_ltB : ∀ (x y : List Nat), decide (x < y) = ltB x y
  | [], [] => by simp [ltB]
  | [], _ :: _ => by simp [ltB]
  | _ :: _, [] => by simp [ltB]
  | a :: x, b :: y => by
    unfold ltB
    by_cases h : a = b
    · subst h
      rw [if_pos rfl, ← lt_ltB x y]
      simp
    · rw [if_neg h]
      simp [List.cons_lt_cons_iff, h]
end R
set_option Elab.async false
set_option linter.all false
set_option maxRecDepth 100000
set_option maxHeartbeats 4000000
/-! Comparisons, and, or, not, if. -/
namespace R
open PySem PySem.Spec PyProof.Rows L2
section
variable {C : Cfg} {X : Cx}
def OpB (C : Cfg) (r : R2) (f : Dat → Dat → Option Bool) : Prop := OpF C r fun a b => (f a b).map .bl
theorem OpB.mk {r : R2} {f : Dat → Dat → Option Bool} (h : ∀ (d1 d2 : Dat) (b : Bool) (x y : V) (H : Hp) (Q : VK), f d1 d2 = some b → Rp C H x d1 → Rp C H y d2 → Q (.bl b) H → r x y H Q) : OpB C r f := by
  intro d1 d2 d g x y H Q hd r1 r2 G q
  obtain ⟨b, hb, rfl⟩ := Option.map_eq_some_iff.mp hd
  exact h d1 d2 b x y H Q hb r1 r2 (q _ H Ext.refl G (.bl b))
theorem room_u {k : Nat} (h : Room k X.A) : X.A.units + 65 < cLine := by have := h.un; omega
theorem eqD_inv {a b : Dat} {k : Bool} (h : eqD a b = some k) : okB a 64 = true ∧ okB b 64 = true ∧ k = eqB a b := by
  unfold eqD at h
  split at h
  · rename_i e
    rw [Bool.and_eq_true] at e
    exact ⟨e.1, e.2, (Option.some.inj h).symm⟩
  · cases h
theorem opb_eq (hK : X.K = C.K) {k : Nat} (hr : Room k X.A) : ∃ r, OpR X (compareOp .Eq) r ∧ OpB C r (cpD .eq) := by
  refine ⟨_, op_eqD (by have := room_u hr; omega), OpB.mk fun d1 d2 b x y H Q h r1 r2 q => ?_⟩
  obtain ⟨o1, o2, rfl⟩ := eqD_inv h
  obtain ⟨p1, s1⟩ := r1.shaped o1
  obtain ⟨p2, s2⟩ := r2.shaped o2
  rw [← hK] at p1 p2
  exact ⟨_, _, p1, p2, s1, s2, by rw [eqv_toPy d1 d2 64 64 o1 o2]; exact q⟩
theorem opb_ne (hK : X.K = C.K) {k : Nat} (hr : Room k X.A) : ∃ r, OpR X (compareOp .NotEq) r ∧ OpB C r (cpD .ne) := by
  refine ⟨_, op_neD (by have := room_u hr; omega), OpB.mk fun d1 d2 b x y H Q h r1 r2 q => ?_⟩
  obtain ⟨b', h2x, rfl⟩ := Option.map_eq_some_iff.mp (show (eqD d1 d2).map (!·) = some b from h)
  obtain ⟨o1, o2, rfl⟩ := eqD_inv h2x
  obtain ⟨p1, s1⟩ := r1.shaped o1
  obtain ⟨p2, s2⟩ := r2.shaped o2
  rw [← hK] at p1 p2
  exact ⟨_, _, p1, p2, s1, s2, by rw [eqv_toPy d1 d2 64 64 o1 o2]; exact q⟩
theorem ltD_inv {a b : Dat} {k : Bool} (h : ltD a b = some k) : (∃ i j, a = .int i ∧ b = .int j ∧ k = decide (i < j)) ∨ (∃ x y, a = .str x ∧ b = .str y ∧ k = ltB x y) := by
  cases a <;> cases b <;> simp only [ltD] at h <;> try cases h
  · exact .inl ⟨_, _, rfl, rfl, rfl⟩
  · exact .inr ⟨_, _, rfl, rfl, rfl⟩
theorem opb_lt : ∃ r, OpR X (compareOp .Lt) r ∧ OpB C r (cpD .lt) := by
  refine ⟨_, op_lt.or op_lt_str, OpB.mk fun d1 d2 b x y H Q h r1 r2 q => ?_⟩
  rcases ltD_inv h with ⟨i, j, rfl, rfl, rfl⟩ | ⟨a, c, rfl, rfl, rfl⟩
  · exact .inl ⟨i, j, r1.int_inv, r2.int_inv, q⟩
  · obtain ⟨x1, rfl, rfl, h1⟩ := r1.str_inv
    obtain ⟨y1, rfl, rfl, h2⟩ := r2.str_inv
    exact .inr ⟨x1, y1, rfl, rfl, by rw [lt_ltB]; exact q⟩
theorem opb_gt : ∃ r, OpR X (compareOp .Gt) r ∧ OpB C r (cpD .gt) := by
  refine ⟨_, op_gt.or op_gt_str, OpB.mk fun d1 d2 b x y H Q h r1 r2 q => ?_⟩
  rcases ltD_inv h with ⟨i, j, rfl, rfl, rfl⟩ | ⟨a, c, rfl, rfl, rfl⟩
  · exact .inl ⟨j, i, r1.int_inv, r2.int_inv, q⟩
  · obtain ⟨x1, rfl, rfl, h1⟩ := r1.str_inv
    obtain ⟨y1, rfl, rfl, h2⟩ := r2.str_inv
    exact .inr ⟨x1, y1, rfl, rfl, by rw [lt_ltB]; exact q⟩
theorem opb_le : ∃ r, OpR X (compareOp .LtE) r ∧ OpB C r (cpD .le) := by
  refine ⟨_, op_le.or op_le_str, OpB.mk fun d1 d2 b x y H Q h r1 r2 q => ?_⟩
  obtain ⟨b', h2x, rfl⟩ := Option.map_eq_some_iff.mp (show (ltD d2 d1).map (!·) = some b from h)
  rcases ltD_inv h2x with ⟨i, j, rfl, rfl, rfl⟩ | ⟨a, c, rfl, rfl, rfl⟩
  · refine .inl ⟨j, i, r1.int_inv, r2.int_inv, ?_⟩
    have e : decide (j ≤ i) = !decide (i < j) := by
      by_cases hij : i < j
      · rw [decide_eq_true hij, decide_eq_false (by omega)]; rfl
      · rw [decide_eq_false hij, decide_eq_true (by omega)]; rfl
    show Q (.bl (decide (j ≤ i))) H
    rw [e]; exact q
  · obtain ⟨x1, rfl, rfl, h1⟩ := r1.str_inv
    obtain ⟨y1, rfl, rfl, h2⟩ := r2.str_inv
    exact .inr ⟨x1, y1, rfl, rfl, by rw [lt_ltB]; exact q⟩
theorem opb_ge : ∃ r, OpR X (compareOp .GtE) r ∧ OpB C r (cpD .ge) := by
  refine ⟨_, op_ge.or op_ge_str, OpB.mk fun d1 d2 b x y H Q h r1 r2 q => ?_⟩
  obtain ⟨b', h2x, rfl⟩ := Option.map_eq_some_iff.mp (show (ltD d1 d2).map (!·) = some b from h)
  rcases ltD_inv h2x with ⟨i, j, rfl, rfl, rfl⟩ | ⟨a, c, rfl, rfl, rfl⟩
  · refine .inl ⟨i, j, r1.int_inv, r2.int_inv, ?_⟩
    have e : decide (j ≤ i) = !decide (i < j) := by
      by_cases hij : i < j
      · rw [decide_eq_true hij, decide_eq_false (by omega)]; rfl
      · rw [decide_eq_false hij, decide_eq_true (by omega)]; rfl
    show Q (.bl (decide (j ≤ i))) H
    rw [e]; exact q
  · obtain ⟨x1, rfl, rfl, h1⟩ := r1.str_inv
    obtain ⟨y1, rfl, rfl, h2⟩ := r2.str_inv
    exact .inr ⟨x1, y1, rfl, rfl, by rw [lt_ltB]; exact q⟩
theorem Rp.isNon {H : Hp} {x : V} {d : Dat} (r : Rp C H x d) : decide (x = .non) = isNonB d := by
  cases r <;> simp [isNonB]
theorem isD_inv {a b : Dat} {k : Bool} (h : isD a b = some k) : (b = .non ∧ k = isNonB a) ∨ (∃ i j, a = .bl i ∧ b = .bl j ∧ k = (i == j)) := by
  cases b with
  | non => simp only [isD] at h; exact .inl ⟨rfl, (Option.some.inj h).symm⟩
  | bl j =>
    cases a <;> simp only [isD] at h <;> try cases h
    exact .inr ⟨_, _, rfl, rfl, rfl⟩
  | _ => cases a <;> simp [isD] at h
theorem opb_is : ∃ r, OpR X (compareOp .Is) r ∧ OpB C r (cpD .is) := by
  refine ⟨_, op_isN.or op_is_bl, OpB.mk fun d1 d2 b x y H Q h r1 r2 q => ?_⟩
  rcases isD_inv h with ⟨rfl, rfl⟩ | ⟨i, j, rfl, rfl, rfl⟩
  · exact .inl ⟨r2.non_inv, by rw [r1.isNon]; exact q⟩
  · exact .inr ⟨i, j, r1.bl_inv, r2.bl_inv, by rw [← Bool.beq_eq_decide_eq]; exact q⟩
theorem opb_isnot : ∃ r, OpR X (compareOp .IsNot) r ∧ OpB C r (cpD .isnot) := by
  refine ⟨_, op_notN.or op_isnot_bl, OpB.mk fun d1 d2 b x y H Q h r1 r2 q => ?_⟩
  obtain ⟨b', h2x, rfl⟩ := Option.map_eq_some_iff.mp (show (isD d1 d2).map (!·) = some b from h)
  rcases isD_inv h2x with ⟨rfl, rfl⟩ | ⟨i, j, rfl, rfl, rfl⟩
  · exact .inl ⟨r2.non_inv, by rw [r1.isNon]; exact q⟩
  · exact .inr ⟨i, j, r1.bl_inv, r2.bl_inv, by rw [← Bool.beq_eq_decide_eq]; exact q⟩
def rInC (K : PySem.W.Frag) (neg : Bool) : R2 := fun x y H Q => ∃ d ds, Dp K H x d ∧ (Dp K H y (.list ds) ∨ Dp K H y (.tuple ds)) ∧ SeqAt.shaped d = true ∧ PyData.canLayAll0 ds = true ∧
  Q (.bl (if neg then !(ds.any fun z => PyData.eqv z d) else ds.any fun z => PyData.eqv z d)) H
theorem op_inC {k : Nat} (hr : Room k X.A) : OpR X (compareOp .In) (rInC X.K false) := by
  intro pins s σ H x y v u Q I rx ry h
  obtain ⟨d, ds, hd, he, sd, se, q⟩ := h
  have hu := room_u hr
  have hd2 := SeqAt.depth_of_shaped sd
  obtain ⟨as, r1⟩ := Dp.reads I d x v hd rx
  have hroom : X.A.units + 1 + min (PyData.depthAll ds) d.depth < cLine := by
    have : min (PyData.depthAll ds) d.depth ≤ d.depth := Nat.min_le_right _ _
    omega
  rcases he with he | he
  · obtain ⟨bs, r2⟩ := Dp.reads I (.list ds) y u he ry
    exact SeqAt.in_list_reads r2 r1 se (SeqAt.canLay_of_shaped sd) hroom ⟨.bl _, H, I, rfl, q⟩
  · obtain ⟨bs, r2⟩ := Dp.reads I (.tuple ds) y u he ry
    exact SeqAt.in_tuple_reads r2 r1 se (SeqAt.canLay_of_shaped sd) hroom ⟨.bl _, H, I, rfl, q⟩
theorem op_notInC {k : Nat} (hr : Room k X.A) : OpR X (compareOp .NotIn) (rInC X.K true) := by
  intro pins s σ H x y v u Q I rx ry h
  obtain ⟨d, ds, hd, he, sd, se, q⟩ := h
  have hu := room_u hr
  have hd2 := SeqAt.depth_of_shaped sd
  obtain ⟨as, r1⟩ := Dp.reads I d x v hd rx
  have hroom : X.A.units + 1 + min (PyData.depthAll ds) d.depth < cLine := by
    have : min (PyData.depthAll ds) d.depth ≤ d.depth := Nat.min_le_right _ _
    omega
  rcases he with he | he
  · obtain ⟨bs, r2⟩ := Dp.reads I (.list ds) y u he ry
    exact SeqAt.notIn_list_reads r2 r1 se (SeqAt.canLay_of_shaped sd) hroom ⟨.bl _, H, I, rfl, q⟩
  · obtain ⟨bs, r2⟩ := Dp.reads I (.tuple ds) y u he ry
    exact SeqAt.notIn_tuple_reads r2 r1 se (SeqAt.canLay_of_shaped sd) hroom ⟨.bl _, H, I, rfl, q⟩
theorem inD_inv {a b : Dat} {k : Bool} (h : inD a b = some k) : (∃ x y, a = .str x ∧ b = .str y ∧ k = infixB x y) ∨
    (∃ ys, (b = .lst ys ∨ b = .tup ys) ∧ okB a 64 = true ∧ okAllB ys 63 = true ∧ k = ys.any fun z => eqB z a) := by
  cases b with
  | str y =>
    cases a <;> simp only [inD] at h <;> try cases h
    exact .inl ⟨_, _, rfl, rfl, rfl⟩
  | lst ys =>
    refine .inr ⟨ys, .inl rfl, ?_⟩
    have h : (if okB a 64 && okAllB ys 63 then some (ys.any fun z => eqB z a) else none) = some k := by cases a <;> exact h
    split at h
    · rename_i e
      rw [Bool.and_eq_true] at e
      exact ⟨e.1, e.2, (Option.some.inj h).symm⟩
    · cases h
  | tup ys =>
    refine .inr ⟨ys, .inr rfl, ?_⟩
    have h : (if okB a 64 && okAllB ys 63 then some (ys.any fun z => eqB z a) else none) = some k := by cases a <;> exact h
    split at h
    · rename_i e
      rw [Bool.and_eq_true] at e
      exact ⟨e.1, e.2, (Option.some.inj h).symm⟩
    · cases h
  | _ => cases a <;> simp [inD] at h
theorem Rp.seqDp {H : Hp} {y : V} {b : Dat} {ys : List Dat} (r : Rp C H y b) (hb : b = .lst ys ∨ b = .tup ys) (ho : okAllB ys 63 = true) :
    (Dp C.K H y (.list (toPyL ys)) ∨ Dp C.K H y (.tuple (toPyL ys))) ∧ PyData.canLayAll0 (toPyL ys) = true := by
  rcases hb with rfl | rfl
  · obtain ⟨a, vs, rfl, t, z, l⟩ := r.lst_inv
    obtain ⟨h1, h2, _⟩ := RpL.dp ys vs 63 l ho
    exact ⟨.inl (.lst t.sq h1), h2⟩
  · obtain ⟨a, vs, rfl, t, z, l⟩ := r.tup_inv
    obtain ⟨h1, h2, _⟩ := RpL.dp ys vs 63 l ho
    exact ⟨.inr (.tup t.sq h1), h2⟩
theorem opb_in (hK : X.K = C.K) {k : Nat} (hr : Room k X.A) : ∃ r, OpR X (compareOp .In) r ∧ OpB C r (cpD .isin) := by
  refine ⟨_, op_in_str.or (op_inC hr), OpB.mk fun d1 d2 b x y H Q h r1 r2 q => ?_⟩
  rcases inD_inv h with ⟨a, c, rfl, rfl, rfl⟩ | ⟨ys, hb, o1, o2, rfl⟩
  · obtain ⟨x1, rfl, rfl, h1⟩ := r1.str_inv
    obtain ⟨y1, rfl, rfl, h2⟩ := r2.str_inv
    exact .inl ⟨x1, y1, rfl, rfl, by rw [occ_infix]; exact q⟩
  · obtain ⟨p1, s1⟩ := r1.shaped o1
    obtain ⟨p2, s2⟩ := r2.seqDp hb o2
    rw [← hK] at p1 p2
    exact .inr ⟨_, _, p1, p2, s1, s2, by rw [any_toPyL d1 o1 ys 63 o2]; exact q⟩
theorem opb_notin (hK : X.K = C.K) {k : Nat} (hr : Room k X.A) : ∃ r, OpR X (compareOp .NotIn) r ∧ OpB C r (cpD .notin) := by
  refine ⟨_, L2.op_notin_str.or (op_notInC hr), OpB.mk fun d1 d2 b x y H Q h r1 r2 q => ?_⟩
  obtain ⟨b', h2x, rfl⟩ := Option.map_eq_some_iff.mp (show (inD d1 d2).map (!·) = some b from h)
  rcases inD_inv h2x with ⟨a, c, rfl, rfl, rfl⟩ | ⟨ys, hb, o1, o2, rfl⟩
  · obtain ⟨x1, rfl, rfl, h1⟩ := r1.str_inv
    obtain ⟨y1, rfl, rfl, h2⟩ := r2.str_inv
    exact .inl ⟨x1, y1, rfl, rfl, by rw [occ_infix]; exact q⟩
  · obtain ⟨p1, s1⟩ := r1.shaped o1
    obtain ⟨p2, s2⟩ := r2.seqDp hb o2
    rw [← hK] at p1 p2
    exact .inr ⟨_, _, p1, p2, s1, s2, by rw [any_toPyL d1 o1 ys 63 o2]; exact q⟩
end
def cpOf : CmpOp → Cp
  | .Eq => .eq
  | .NotEq => .ne
  | .Lt => .lt
  | .LtE => .le
  | .Gt => .gt
  | .GtE => .ge
  | .Is => .is
  | .IsNot => .isnot
  | .In => .isin
  | .NotIn => .notin
theorem opb {X : Cx} {C : Cfg} (o : CmpOp) (hK : X.K = C.K) {k : Nat} (hr : Room k X.A) : ∃ r, OpR X (compareOp o) r ∧ OpB C r (cpD (cpOf o)) := by
  cases o with
  | Eq => exact opb_eq hK hr
  | NotEq => exact opb_ne hK hr
  | Lt => exact opb_lt
  | LtE => exact opb_le
  | Gt => exact opb_gt
  | GtE => exact opb_ge
  | Is => exact opb_is
  | IsNot => exact opb_isnot
  | In => exact opb_in hK hr
  | NotIn => exact opb_notin hK hr
def noSet : Expr → Bool
  | .Set .. => false
  | _ => true
theorem noMark {o : CmpOp} {e : Expr} (h : noSet e = true) : behindInMarks o e = false := by
  cases e <;> first | rfl | exact absurd (show false = true from h) Bool.false_ne_true
theorem sem_cmp {c : Ctx} {o : CmpOp} {a b : Expr} {a' b' : Ex} {pos : Pos} (ha : Sem c a a') (hb : Sem c b b') (hs : noSet b = true) : Sem c (.Compare a [o] [b] pos) (.cmp (cpOf o) a' b') := by
  refine ⟨fun X C W F k M => ?_, rfl⟩
  obtain ⟨r, h1, h2⟩ := opb (X := X) (C := C) o M.K M.room
  refine pe_mono (pe_cmpR h1 (ha.run X C W F k M) (hb.run X C W F k M) (noMark hs)) fun σ H Q q => tOp_of h2 ?_
  unfold den at q
  exact q
theorem semT_cmp {c : Ctx} {o : CmpOp} {a b : Expr} {a' b' : Ex} {pos : Pos} (ha : Sem c a a') (hb : Sem c b b') (hs : noSet b = true) : SemT c (.Compare a [o] [b] pos) (.cmp (cpOf o) a' b') := by
  intro X C W F k M
  obtain ⟨r, h1, h2⟩ := opb (X := X) (C := C) o M.K M.room
  refine pt_mono (pt_cmpR h1 (ha.run X C W F k M) (hb.run X C W F k M) (noMark hs)) fun σ H Q q => tOpT_of h2 ?_
  unfold denB den at q
  exact q
theorem tChain_of {C : Cfg} {W : WX} {r r' : R2} {f f' : Dat → Dat → Option Bool} {fa fb fc : Sl → Mo Dat} (hf : OpB C r f) (hf' : OpB C r' f') {σ : L2.St} {H : Hp} {Q : VK}
    (q : tD C W (fun ρ g => (fa ρ g).bind fun x g => (fb ρ g).bind fun y g => (ofO (f x y) g).bind fun k g => match k with
    | false => .ok (.bl false) g
    | true => (fc ρ g).bind fun z g => ofO ((f' y z).map .bl) g) σ H Q) : tChain r r' (tD C W fa) (tD C W fb) (tD C W fc) σ H Q := by
  obtain ⟨ρ, g, E, G, h⟩ := q
  refine tD_then _ (fun r H => RunE C W r σ H Q) E G h (fun _ _ p => p) id fun d1 g1 x H1 e1 E1 G1 r1 h1 => ?_
  refine tD_then _ (fun r H => RunE C W r σ H Q) E1 G1 (h1.ext e1) (fun _ _ p => p) id fun d2 g2 y H2 e2 E2 G2 r2 h2 => ?_
  have h2 := h2.ext e2
  revert h2
  cases hb : f d1 d2 with
  | none => exact fun h => h.elim
  | some b =>
    intro h2
    refine hf d1 d2 (.bl b) g2 x y H2 _ (by dsimp only; rw [hb]; rfl) (r1.ext e2) r2 G2 fun v H3 e3 G3 r3 => ?_
    cases r3
    refine ⟨b, rfl, ?_⟩
    have h3 := h2.ext e3
    cases b with
    | false => exact h3 _ H3 Ext.refl G3 (.bl false)
    | true =>
      show tD C W fc σ H3 _
      refine tD_then _ (fun r H => RunE C W r σ H Q) (E2.ext e3) G3 h3 (fun _ _ p => p) id fun d4 g4 z H4 e4 E4 G4 r4 h4 => ?_
      obtain ⟨d, hd, hq⟩ := run_ofO (h4.ext e4)
      exact hf' d2 d4 d g4 y z H4 Q hd ((r2.ext e3).ext e4) r4 G4 hq
theorem lastNo {o p : CmpOp} {a b : Expr} (h : noSet b = true) : lastMarks [o, p] [a, b] = false := by
  show behindInMarks p b = false
  exact noMark h
theorem sem_chain {c : Ctx} {o p : CmpOp} {a b d : Expr} {a' b' d' : Ex} {pos : Pos} (ha : Sem c a a') (hb : Sem c b b') (hd : Sem c d d') (hs : noSet d = true) : Sem c (.Compare a [o, p] [b, d] pos) (.chain (cpOf o) (cpOf p) a' b' d') := by
  refine ⟨fun X C W F k M => ?_, rfl⟩
  obtain ⟨r, h1, h2⟩ := opb (X := X) (C := C) o M.K M.room
  obtain ⟨r', h1', h2'⟩ := opb (X := X) (C := C) p M.K M.room
  refine pe_mono (pe_chain h1 h1' (ha.run X C W F k M) (hb.run X C W F k M) (hd.run X C W F k M) (lastNo hs)) fun σ H Q q => tChain_of h2 h2' ?_
  unfold den at q
  exact q
theorem semT_chain {c : Ctx} {o p : CmpOp} {a b d : Expr} {a' b' d' : Ex} {pos : Pos} (ha : Sem c a a') (hb : Sem c b b') (hd : Sem c d d') (hs : noSet d = true) : SemT c (.Compare a [o, p] [b, d] pos) (.chain (cpOf o) (cpOf p) a' b' d') := by
  intro X C W F k M
  obtain ⟨r, h1, h2⟩ := opb (X := X) (C := C) o M.K M.room
  obtain ⟨r', h1', h2'⟩ := opb (X := X) (C := C) p M.K M.room
  refine pt_mono (pt_chain h1 h1' (ha.run X C W F k M) (hb.run X C W F k M) (hd.run X C W F k M) (lastNo hs)) fun σ H Q q => ?_
  show tChain _ _ _ _ _ σ H _
  refine tChain_of h2 h2' (tT_tD ?_)
  unfold denB den at q
  exact q
end R
set_option Elab.async false
set_option linter.all false
set_option maxRecDepth 100000
set_option maxHeartbeats 4000000
/-! and, or, not, if; displays; arguments; calls of defs. -/
namespace R
open PySem PySem.Spec PyProof.Rows L2

/-! ### tests -/
theorem RunB_of {C : Cfg} {W : WX} {σ : L2.St} {H : Hp} {Q : Bool → Hp → Prop} {r : Res Dat} (h : RunB C W (r.bind asB) σ H Q) : RunE C W r σ H fun x H' => ∃ k, x = .bl k ∧ Q k H' := by
  cases r with
  | ok d g1 =>
    intro v H' e G' r
    cases d with
    | bl b => cases r; exact ⟨b, rfl, h H' e G'⟩
    | _ => exact h.elim
  | exc c g1 => exact h
  | bad => exact h
theorem asB_inv {C : Cfg} {W : WX} {σ : L2.St} {H : Hp} {Q : VK} {d : Dat} {g : List Dat} {k : Bool → Mo Dat} (h : RunE C W ((asB d g).bind k) σ H Q) : ∃ b, d = .bl b ∧ RunE C W (k b g) σ H Q := by
  cases d with
  | bl b => exact ⟨b, rfl, h⟩
  | _ => exact h.elim
theorem asB_invB {C : Cfg} {W : WX} {σ : L2.St} {H : Hp} {Q : Bool → Hp → Prop} {d : Dat} {g : List Dat} {k : Bool → Mo Bool} (h : RunB C W ((asB d g).bind k) σ H Q) : ∃ b, d = .bl b ∧ RunB C W (k b g) σ H Q := by
  cases d with
  | bl b => exact ⟨b, rfl, h⟩
  | _ => exact h.elim
/-- an expression with a bool, as a test -/
theorem semT_val {c : Ctx} {e : Expr} {e' : Ex} (h : Sem c e e') (he : ∀ env whole, isTrue e env whole = (do let v ← whole; standAt e.pos; holding [v] (truthy v))) : SemT c e e' := by
  intro X C W F k M
  exact pt_mono (pt_val (h.run X C W F k M) (he _)) fun σ H Q q => tT_tD q
def isBoolE : Expr → Bool
  | .UnaryOp .Not _ _ => true
  | .BoolOp .. => true
  | .IfExp .. => true
  | .Compare .. => true
  | _ => false
theorem isTrue_val {e : Expr} (h : isBoolE e = false) : ∀ env whole, isTrue e env whole = (do let v ← whole; standAt e.pos; holding [v] (truthy v)) := by
  intro env whole
  cases e with
  | UnaryOp op x pos => cases op <;> first | rfl | exact absurd (show true = false from h) (by decide)
  | BoolOp => exact absurd (show true = false from h) (by decide)
  | IfExp => exact absurd (show true = false from h) (by decide)
  | Compare => exact absurd (show true = false from h) (by decide)
  | _ => rfl
theorem sem_not {c : Ctx} {a : Expr} {a' : Ex} {pos : Pos} (ha : Sem c a a') : Sem c (.UnaryOp .Not a pos) (.not a') := by
  refine ⟨fun X C W F k M => ?_, rfl⟩
  refine pe_mono (pe_not (ha.run X C W F k M)) fun σ H Q ⟨ρ, g, E, G, h⟩ => ?_
  unfold den at h
  refine tD_then _ (fun r H => RunE C W r σ H Q) E G h (fun _ _ p => p) id fun d1 g1 x H1 e1 E1 G1 r1 h1 => ?_
  obtain ⟨b, rfl, h1⟩ := asB_inv h1
  exact ⟨b, r1.bl_inv, (h1.ext e1) _ H1 Ext.refl G1 (.bl _)⟩
theorem semT_not {c : Ctx} {a : Expr} {a' : Ex} {pos : Pos} (ha : SemT c a a') : SemT c (.UnaryOp .Not a pos) (.not a') := by
  intro X C W F k M
  refine pt_mono (pt_not (ha X C W F k M)) fun σ H Q ⟨ρ, g, E, G, h⟩ => ?_
  unfold denB den at h
  refine ⟨ρ, g, E, G, ?_⟩
  unfold denB
  revert h
  cases den F a' ρ g with
  | ok d g1 => cases d <;> exact fun h => h
  | exc c g1 => exact fun h => h
  | bad => exact fun h => h
theorem sem_and {c : Ctx} {a b : Expr} {rest : List Expr} {a' b' : Ex} {pos : Pos} (ha : Sem c a a') (hb : Sem c (.BoolOp .And (b :: rest) pos) b') : Sem c (.BoolOp .And (a :: b :: rest) pos) (.and a' b') := by
  refine ⟨fun X C W F k M => ?_, rfl⟩
  refine pe_mono (pe_and (ha.run X C W F k M) (hb.run X C W F k M)) fun σ H Q ⟨ρ, g, E, G, h⟩ => ?_
  unfold den at h
  refine tD_then _ (fun r H => RunE C W r σ H Q) E G h (fun _ _ p => p) id fun d1 g1 x H1 e1 E1 G1 r1 h1 => ?_
  obtain ⟨b, rfl, h1⟩ := asB_inv h1
  refine ⟨b, r1.bl_inv, ?_⟩
  cases b with
  | true => exact ⟨ρ, g1, E1, G1, h1.ext e1⟩
  | false => exact (h1.ext e1) _ H1 Ext.refl G1 (.bl _)
theorem sem_or {c : Ctx} {a b : Expr} {rest : List Expr} {a' b' : Ex} {pos : Pos} (ha : Sem c a a') (hb : Sem c (.BoolOp .Or (b :: rest) pos) b') : Sem c (.BoolOp .Or (a :: b :: rest) pos) (.or a' b') := by
  refine ⟨fun X C W F k M => ?_, rfl⟩
  refine pe_mono (pe_or (ha.run X C W F k M) (hb.run X C W F k M)) fun σ H Q ⟨ρ, g, E, G, h⟩ => ?_
  unfold den at h
  refine tD_then _ (fun r H => RunE C W r σ H Q) E G h (fun _ _ p => p) id fun d1 g1 x H1 e1 E1 G1 r1 h1 => ?_
  obtain ⟨b, rfl, h1⟩ := asB_inv h1
  refine ⟨b, r1.bl_inv, ?_⟩
  cases b with
  | false => exact ⟨ρ, g1, E1, G1, h1.ext e1⟩
  | true => exact (h1.ext e1) _ H1 Ext.refl G1 (.bl _)
theorem sem_bop1 {c : Ctx} {o : BoolOp} {a : Expr} {a' : Ex} {pos : Pos} (ha : Sem c a a') : Sem c (.BoolOp o [a] pos) a' := ⟨fun X C W F k M => pe_one (ha.run X C W F k M), rfl⟩
/-- a chain of and, or as a test -/
def SemW (c : Ctx) (e : Expr) (e' : Ex) : Prop := ∀ X C W F k, Mt X c C W F k → PW X e (tT C W (denB F e'))
theorem pw_mono {X : Cx} {e : Expr} {t t' : TT} (h : PW X e t) (w : ∀ σ H Q, t' σ H Q → t σ H Q) : PW X e t' := ⟨fun wh pins s σ H Q I q => h.run wh pins s σ H Q I (w σ H Q q)⟩
theorem semW_and1 {c : Ctx} {a : Expr} {a' : Ex} {pos : Pos} (ha : SemT c a a') : SemW c (.BoolOp .And [a] pos) a' := fun X C W F k M => pw_and1 (ha X C W F k M)
theorem semW_or1 {c : Ctx} {a : Expr} {a' : Ex} {pos : Pos} (ha : SemT c a a') : SemW c (.BoolOp .Or [a] pos) a' := fun X C W F k M => pw_or1 (ha X C W F k M)
theorem denB_ok {F : Nat → List Dat → Mo Dat} {a : Ex} {ρ : Sl} {g : List Dat} : denB F a ρ g = (den F a ρ g).bind asB := rfl
theorem semW_and {c : Ctx} {a b : Expr} {rest : List Expr} {a' b' : Ex} {pos : Pos} (ha : SemT c a a') (hb : SemW c (.BoolOp .And (b :: rest) pos) b') : SemW c (.BoolOp .And (a :: b :: rest) pos) (.and a' b') := by
  intro X C W F k M
  refine pw_mono (pw_and (ha X C W F k M) (hb X C W F k M)) fun σ H Q ⟨ρ, g, E, G, h⟩ => ?_
  have h : RunB C W ((denB F a' ρ g).bind fun k g => if k = true then denB F b' ρ g else .ok false g) σ H Q := by
    unfold denB den at h
    unfold denB
    revert h
    cases den F a' ρ g with
    | ok d g1 =>
      cases d with
      | bl b => cases b <;> exact fun h => h
      | _ => exact fun h => h
    | exc c g1 => exact fun h => h
    | bad => exact fun h => h
  refine tT_then _ (fun r H => RunB C W r σ H Q) E G h (fun _ _ p => p) id fun d1 g1 H1 e1 E1 G1 h1 => ?_
  cases d1 with
  | true => exact ⟨ρ, g1, E1, G1, h1.ext e1⟩
  | false => exact (h1.ext e1) H1 Ext.refl G1
theorem semW_or {c : Ctx} {a b : Expr} {rest : List Expr} {a' b' : Ex} {pos : Pos} (ha : SemT c a a') (hb : SemW c (.BoolOp .Or (b :: rest) pos) b') : SemW c (.BoolOp .Or (a :: b :: rest) pos) (.or a' b') := by
  intro X C W F k M
  refine pw_mono (pw_or (ha X C W F k M) (hb X C W F k M)) fun σ H Q ⟨ρ, g, E, G, h⟩ => ?_
  have h : RunB C W ((denB F a' ρ g).bind fun k g => if k = true then .ok true g else denB F b' ρ g) σ H Q := by
    unfold denB den at h
    unfold denB
    revert h
    cases den F a' ρ g with
    | ok d g1 =>
      cases d with
      | bl b => cases b <;> exact fun h => h
      | _ => exact fun h => h
    | exc c g1 => exact fun h => h
    | bad => exact fun h => h
  refine tT_then _ (fun r H => RunB C W r σ H Q) E G h (fun _ _ p => p) id fun d1 g1 H1 e1 E1 G1 h1 => ?_
  cases d1 with
  | false => exact ⟨ρ, g1, E1, G1, h1.ext e1⟩
  | true => exact (h1.ext e1) H1 Ext.refl G1
theorem semT_W {c : Ctx} {e : Expr} {e' : Ex} (h : SemW c e e') : SemT c e e' := fun X C W F k M => (h X C W F k M).pt
theorem sem_ifx {c : Ctx} {t a b : Expr} {t' a' b' : Ex} {pos : Pos} (ht : SemT c t t') (ha : Sem c a a') (hb : Sem c b b') : Sem c (.IfExp t a b pos) (.ifx t' a' b') := by
  refine ⟨fun X C W F k M => ?_, rfl⟩
  refine pe_mono (pe_ifExp (ht X C W F k M) (ha.run X C W F k M) (hb.run X C W F k M)) fun σ H Q ⟨ρ, g, E, G, h⟩ => ?_
  have h : RunE C W ((denB F t' ρ g).bind fun k g => if k = true then den F a' ρ g else den F b' ρ g) σ H Q := by
    unfold den at h
    unfold denB
    revert h
    cases den F t' ρ g with
    | ok d g1 =>
      cases d with
      | bl b => cases b <;> exact fun h => h
      | _ => exact fun h => h
    | exc c g1 => exact fun h => h
    | bad => exact fun h => h
  refine tT_then _ (fun r H => RunE C W r σ H Q) E G h (fun _ _ p => p) id fun d1 g1 H1 e1 E1 G1 h1 => ?_
  cases d1 with
  | true => exact ⟨ρ, g1, E1, G1, h1.ext e1⟩
  | false => exact ⟨ρ, g1, E1, G1, h1.ext e1⟩

/-! ### argument lists, displays -/
theorem semL_nil {c : Ctx} : SemL c [] [] := by
  refine ⟨fun X C W F k M => ?_, fun _ _ => rfl⟩
  refine pa_mono pa_nil fun σ H Q ⟨ρ, g, E, G, h⟩ => ?_
  unfold denL at h
  exact h [] H Ext.refl G .nil
theorem semL_cons {c : Ctx} {e : Expr} {es : List Expr} {e' : Ex} {es' : List Ex} (h1 : Sem c e e') (h2 : SemL c es es') : SemL c (e :: es) (e' :: es') := by
  refine ⟨fun X C W F k M => ?_, fun env pos => ?_⟩
  · refine pa_mono (pa_cons (h1.run X C W F k M) (h2.run X C W F k M) (star_plain h1.plain)) fun σ H Q ⟨ρ, g, E, G, h⟩ => ?_
    unfold denL at h
    refine tD_then _ (fun r H => RunL C W r σ H Q) E G h (fun _ _ p => p) id fun d1 g1 x H1 e1 E1 G1 r1 h1 => ?_
    refine tA_then _ (fun r H => RunL C W r σ H Q) E1 G1 (h1.ext e1) (fun _ _ p => p) id fun d2 g2 y H2 e2 E2 G2 r2 h2 => ?_
    exact (h2.ext e2) _ H2 Ext.refl G2 (.cons (r1.ext e2) r2)
  · rw [star_plain h1.plain]
    show (backTo pos (starEach es env)).any (·.1) = false
    exact h2.plain env pos
theorem sem_tup {c : Ctx} {es : List Expr} {es' : List Ex} {n : Nat} {pos : Pos} (h : SemL c es es') (hz : es'.length ≤ 16777216) : Sem c (.Tuple es n pos) (.tup es') := by
  refine ⟨fun X C W F k M => ?_, rfl⟩
  refine pe_mono (pe_tup (h.run X C W F k M)) fun σ H Q ⟨ρ, g, E, G, h⟩ => ?_
  unfold den at h
  have hlen : ∀ (es : List Ex) (ρ : Sl) (g : List Dat) (ds : List Dat) (g' : List Dat), denL F es ρ g = .ok ds g' → ds.length = es.length := by
    intro es
    induction es with
    | nil => intro ρ g ds g' h; unfold denL at h; cases h; rfl
    | cons e es ih =>
      intro ρ g ds g' h
      unfold denL at h
      cases h1 : den F e ρ g with
      | ok d g1 =>
        rw [h1] at h
        cases h2 : denL F es ρ g1 with
        | ok ds1 g2 =>
          have h : ((denL F es ρ g1).bind fun xs g => Res.ok (d :: xs) g) = .ok ds g' := h
          rw [h2] at h
          cases h
          simp [ih _ _ _ _ h2]
        | exc c g2 => have h : ((denL F es ρ g1).bind fun xs g => Res.ok (d :: xs) g) = .ok ds g' := h; rw [h2] at h; cases h
        | bad => have h : ((denL F es ρ g1).bind fun xs g => Res.ok (d :: xs) g) = .ok ds g' := h; rw [h2] at h; cases h
      | exc c g1 => rw [h1] at h; cases h
      | bad => rw [h1] at h; cases h
  refine ⟨ρ, g, E, G, ?_⟩
  revert h
  cases hd : denL F es' ρ g with
  | ok ds g1 =>
    intro h vs H1 e1 G1 r1
    have hl := hlen es' ρ g ds g1 hd
    have e := r1.len
    have hs : sizeLine = 16777216 := sizeLine_eq
    refine ⟨by omega, fun p hp => ?_⟩
    exact h _ _ (e1.trans (Ext.new hp)) (G1.new hp) (.newT G1 hp (by omega) r1)
  | exc c g1 => exact fun h => h
  | bad => exact fun h => h
theorem denL_len {F : Nat → List Dat → Mo Dat} : ∀ {es : List Ex} {ρ : Sl} {g : List Dat} {ds : List Dat} {g' : List Dat}, denL F es ρ g = .ok ds g' → ds.length = es.length := by
  intro es
  induction es with
  | nil => intro ρ g ds g' h; unfold denL at h; cases h; rfl
  | cons e es ih =>
    intro ρ g ds g' h
    unfold denL at h
    cases h1 : den F e ρ g with
    | ok d g1 =>
      rw [h1] at h
      cases h2 : denL F es ρ g1 with
      | ok ds1 g2 =>
        have h : ((denL F es ρ g1).bind fun xs g => Res.ok (d :: xs) g) = .ok ds g' := h
        rw [h2] at h
        cases h
        simp [ih h2]
      | exc c g2 => have h : ((denL F es ρ g1).bind fun xs g => Res.ok (d :: xs) g) = .ok ds g' := h; rw [h2] at h; cases h
      | bad => have h : ((denL F es ρ g1).bind fun xs g => Res.ok (d :: xs) g) = .ok ds g' := h; rw [h2] at h; cases h
    | exc c g1 => rw [h1] at h; cases h
    | bad => rw [h1] at h; cases h
/-- a list display, told to be new -/
theorem tLst_new {X : Cx} {C : Cfg} {W : WX} {F : Nat → List Dat → Mo Dat} {es' : List Ex} {σ : L2.St} {H : Hp} {Q : VK} {ρ : Sl} {g : List Dat} (hz : es'.length ≤ 16777216) (E : EnvR C H σ ρ) (G : GR C g H)
    (h : match denL F es' ρ g with
      | .ok ds g1 => ∀ p H1 vs, Ext C H H1 → GR C g1 H1 → RpL C H1 vs ds → H1 p = none → ds.length ≤ sizeLine → Q (.ref p) (upd H1 p (.lst vs))
      | .exc c g1 => ∀ H', Ext C H H' → GR C g1 H' → W (C.ex c) none σ H'
      | .bad => False) : tLst (tA C W (denL F es')) σ H Q := by
  refine ⟨ρ, g, E, G, ?_⟩
  revert h
  cases hd : denL F es' ρ g with
  | ok ds g1 =>
    intro h vs H1 e1 G1 r1
    have hl := denL_len hd
    have e := r1.len
    have hs : sizeLine = 16777216 := sizeLine_eq
    exact ⟨by omega, fun p hp => h p H1 vs e1 G1 r1 hp (by omega)⟩
  | exc c g1 => exact fun h => h
  | bad => exact fun h => h
theorem sem_lst {c : Ctx} {es : List Expr} {es' : List Ex} {pos : Pos} (h : SemL c es es') (hz : es'.length ≤ 16777216) : Sem c (.List es pos) (.lst es') := by
  refine ⟨fun X C W F k M => ?_, rfl⟩
  refine pe_mono (pe_lst (h.run X C W F k M)) fun σ H Q ⟨ρ, g, E, G, h⟩ => tLst_new (X := X) hz E G ?_
  unfold den at h
  revert h
  cases hd : denL F es' ρ g with
  | ok ds g1 => exact fun h p H1 vs e1 G1 r1 hp hl => h _ _ (e1.trans (Ext.new hp)) (G1.new hp) (.newL G1 hp hl r1)
  | exc c g1 => exact fun h => h
  | bad => exact fun h => h

/-! ### a def called -/
theorem sp_call {X : Cx} {C : Cfg} {W : WX} {F : Nat → List Dat → Mo Dat} {i n : Nat} {fresh : Bool} {es' : List Ex} {σ : L2.St} {H : Hp} {Q : VK} {ρ : Sl} {g : List Dat} (hn : es'.length = n) (E : EnvR C H σ ρ) (G : GR C g H)
    (h : RunE C W ((denL F es' ρ g).bind fun xs g => F i xs g) σ H Q) : tCallS (spD C n fresh (F i)) (WE W) (tA C W (denL F es')) σ H Q := by
  refine ⟨ρ, g, E, G, ?_⟩
  revert h
  cases hd : denL F es' ρ g with
  | ok ds g1 =>
    intro h vs H1 e1 G1 r1
    have hl := denL_len hd
    have e := r1.len
    refine ⟨by omega, C.cup, C.M, ds, g1, r1, G1, ?_⟩
    have h1 : RunE C W (F i ds g1) σ H1 Q := RunE.ext h e1
    revert h1
    show RunE C W (F i ds g1) σ H1 Q → RunF C fresh (F i ds g1) H1 Q (WE W σ)
    cases F i ds g1 with
    | ok d g2 => exact fun h v H' e G' r _ => h v H' e G' r
    | exc c g2 => exact fun h H' e G' => h H' e G'
    | bad => exact fun h => h
  | exc c g1 => exact fun h => h
  | bad => exact fun h => h
theorem sem_call {c : Ctx} {x : Str} {i n : Nat} {e : Expr} {es : List Expr} {e' : Ex} {es' : List Ex} {p pos : Pos} (hg : kindB c.sc x = some .globalImplicit) (hl : c.fns.lookup x = some (i, n)) (hd : dbgB x = false) (hn : (e' :: es').length = n)
    (h1 : Sem c e e') (h2 : SemL c es es') : Sem c (.Call (.Name x p) (e :: es) [] pos) (.call i (e' :: es')) := by
  refine ⟨fun X C W F k M => ?_, rfl⟩
  obtain ⟨d1, d2, d3⟩ := dbg_of hd
  obtain ⟨m1, m2, fd, ps, hp, fo, hb⟩ := M.fns x i n hl
  have ha := (semL_cons h1 h2).run X C W F k M
  refine pe_mono (pe_callS fo M.room (show X.env.scope.names.lookup x = some .globalImplicit by rw [M.sc]; exact hg) m1 m2 hb (fun σ => passAt M.tk σ) ha d1 (star_plain h1.plain) (h2.plain _ _)) fun σ H Q ⟨ρ, g, E, G, h⟩ => ?_
  unfold den at h
  exact sp_call (X := X) hn E G h
end R
set_option Elab.async false
set_option linter.all false
set_option maxRecDepth 100000
set_option maxHeartbeats 4000000
/-! Subscripts, slices, built-in functions, methods, isinstance. -/
namespace R
open PySem PySem.Spec PyProof.Rows L2

/-! ### a[b] -/
def noSlice : Expr → Bool
  | .Slice .. => false
  | _ => true
theorem plainIx {b : Expr} (h : noSlice b = true) : PlainIx b := by
  intro o i
  cases b <;> first | rfl | exact absurd (show false = true from h) Bool.false_ne_true
theorem ixD_eq (n : Nat) (i : Int) : ixD n i = ixN n i := rfl
theorem RpL.atI {C : Cfg} {H : Hp} {vs : List V} {ds : List Dat} (r : RpL C H vs ds) {i : Int} {d : Dat} (h : atD ds i = some d) : ∃ v, L2.atI vs i = some v ∧ Rp C H v d := by
  unfold atD at h
  unfold L2.atI
  rw [ixD_eq] at h
  rw [r.len]
  cases e : ixN ds.length i with
  | none => rw [e] at h; cases h
  | some j =>
    rw [e] at h
    exact r.get (show ds[j]? = some d from h)
/-- a subscript's reading: what GR tells of the cup is needed -/
theorem sem_ix {c : Ctx} {a b : Expr} {a' b' : Ex} {pos : Pos} (ha : Sem c a a') (hb : Sem c b b') (hs : noSlice b = true) : Sem c (.Subscript a b pos) (.ix a' b') := by
  refine ⟨fun X C W F k M => ?_, rfl⟩
  refine pe_mono (pe_ix ix_seq (ha.run X C W F k M) (hb.run X C W F k M) (plainIx hs)) fun σ H Q q => ?_
  unfold den at q
  obtain ⟨ρ, g, E, G, h⟩ := q
  refine tD_then _ (fun r H => RunE C W r σ H Q) E G h (fun _ _ p => p) id fun d1 g1 x H1 e1 E1 G1 r1 h1 => ?_
  refine tD_then _ (fun r H => RunE C W r σ H Q) E1 G1 (h1.ext e1) (fun _ _ p => p) id fun d2 g2 y H2 e2 E2 G2 r2 h2 => ?_
  obtain ⟨d, hd, hq⟩ := run_ofO (h2.ext e2)
  have r1 := r1.ext e2
  have hK := M.K
  cases d2 with
  | int i =>
    cases d1 with
    | tup xs =>
      obtain ⟨p, vs, rfl, t, z, l⟩ := r1.tup_inv
      obtain ⟨v, hv, rv⟩ := l.atI (show atD xs i = some d from hd)
      exact .inr (.inl ⟨p, vs, i, v, rfl, r2.int_inv, by rw [hK]; exact t.sq, hv, hq v H2 Ext.refl G2 rv⟩)
    | lst xs =>
      obtain ⟨p, vs, rfl, t, z, l⟩ := r1.lst_inv
      obtain ⟨v, hv, rv⟩ := l.atI (show atD xs i = some d from hd)
      exact .inl ⟨p, vs, i, v, rfl, r2.int_inv, by rw [hK]; exact t.sq, hv, hq v H2 Ext.refl G2 rv⟩
    | str s =>
      obtain ⟨x1, rfl, rfl, hs1⟩ := r1.str_inv
      obtain ⟨c, hc, rfl⟩ := Option.map_eq_some_iff.mp (show (atD x1.cps.toList i).map (fun c => Dat.str [c]) = some d from hd)
      have hm : c ∈ x1.cps.toList := by
        unfold atD at hc
        cases e : ixD x1.cps.toList.length i with
        | none => rw [e] at hc; cases hc
        | some j => rw [e] at hc; exact List.mem_of_getElem? hc
      refine .inr (.inr ⟨x1, i, c, rfl, r2.int_inv, hs1.1, hc, hq _ H2 Ext.refl G2 (.strL (l := [c]) ?_)⟩)
      refine ⟨by rw [sizeLine_eq]; show 1 ≤ _; decide, fun c' hc' => ?_⟩
      have : c' = c := by simpa using hc'
      subst this
      exact hs1.2 _ hm
    | cup =>
      cases r1 with
      | @cup a hcup =>
        obtain ⟨vs, h3, l, _⟩ := G2.2 a hcup
        obtain ⟨v, hv, rv⟩ := l.atI (show atD g2 i = some d from hd)
        exact .inl ⟨a, vs, i, v, rfl, r2.int_inv, SqL.of h3, hv, hq v H2 Ext.refl G2 rv⟩
    | _ => cases hd
  | _ => cases d1 <;> cases hd

/-! ### a[lo:hi] -/
inductive PtR : Option Int → Dat → Prop
  | none : PtR none .non
  | some (i : Int) : PtR (some i) (.int i)
def tPt (C : Cfg) (W : WX) (f : Sl → Mo Dat) : TO := fun σ H Q => tD C W f σ H fun x H1 => ∃ i, x = .int i ∧ Q (some i) H1
/-- a slice's part: none is written, or an int -/
def SemP (c : Ctx) (e : Option Expr) (e' : Ex) : Prop := ∀ X C W F k, Mt X c C W F k → PO X e fun σ H Q => ∃ ρ g, EnvR C H σ ρ ∧ GR C g H ∧ match den F e' ρ g with
  | .ok d g1 => ∀ o H1, Ext C H H1 → GR C g1 H1 → PtR o d → Q o H1
  | .exc c g1 => ∀ H', Ext C H H' → GR C g1 H' → W (C.ex c) none σ H'
  | .bad => False
theorem po_mono {X : Cx} {e : Option Expr} {t t' : TO} (h : PO X e t) (w : ∀ σ H Q, t' σ H Q → t σ H Q) : PO X e t' := ⟨fun pins s σ H Q I q => h.run pins s σ H Q I (w σ H Q q)⟩
theorem semP_none {c : Ctx} : SemP c none (.con .non) := by
  intro X C W F k M
  refine po_mono po_none fun σ H Q ⟨ρ, g, E, G, h⟩ => ?_
  unfold den at h
  exact h none H Ext.refl G .none
theorem semP_some {c : Ctx} {e : Expr} {e' : Ex} (h : Sem c e e') : SemP c (some e) (.asInt e') := by
  intro X C W F k M
  refine po_mono (po_some (h.run X C W F k M)) fun σ H Q ⟨ρ, g, E, G, h⟩ => ?_
  unfold den at h
  show tD C W (den F e') σ H fun x H1 => ∃ i, x = .int i ∧ Q (some i) H1
  refine ⟨ρ, g, E, G, ?_⟩
  revert h
  cases den F e' ρ g with
  | ok d g1 =>
    intro h v H1 e1 G1 r1
    cases d with
    | int i => exact ⟨i, r1.int_inv, h (some i) H1 e1 G1 (.some i)⟩
    | _ => exact h.elim
  | exc c g1 => exact fun h => h
  | bad => exact fun h => h
theorem bndD_sIx {n d : Nat} {o : Option Int} {x : Dat} (p : PtR o x) : bndD n d x = some (HT.sIx n d o) := by
  cases p <;> rfl
theorem cutD_eq {α : Type} {xs : List α} {l h : Option Int} {lo hi : Dat} (pl : PtR l lo) (ph : PtR h hi) : cutD xs lo hi = some ((xs.drop (HT.sIx xs.length 0 l)).take (HT.sIx xs.length xs.length h - HT.sIx xs.length 0 l)) := by
  unfold cutD
  rw [bndD_sIx pl, bndD_sIx ph]
  rfl
theorem RpL.cut {C : Cfg} {H : Hp} {vs : List V} {ds : List Dat} (r : RpL C H vs ds) (l h : Option Int) :
    RpL C H (cutV vs l h) ((ds.drop (HT.sIx ds.length 0 l)).take (HT.sIx ds.length ds.length h - HT.sIx ds.length 0 l)) := by
  unfold cutV
  rw [r.len]
  exact (r.drop _).take _
theorem sem_sl {c : Ctx} {a : Expr} {lo hi : Option Expr} {a' lo' hi' : Ex} {p pos : Pos} (ha : Sem c a a') (hl : SemP c lo lo') (hh : SemP c hi hi') : Sem c (.Subscript a (.Slice lo hi none p) pos) (.sl a' lo' hi') := by
  refine ⟨fun X C W F k M => ?_, rfl⟩
  refine pe_mono (pe_slice (sl_list.or ((sl_tupA (X := X)).or sl_str)) (ha.run X C W F k M) (hl X C W F k M) (hh X C W F k M)) fun σ H Q q => ?_
  unfold den at q
  obtain ⟨ρ, g, E, G, h⟩ := q
  refine tD_then _ (fun r H => RunE C W r σ H Q) E G h (fun _ _ p => p) id fun d1 g1 x H1 e1 E1 G1 r1 h1 => ?_
  have h1 := h1.ext e1
  refine ⟨ρ, g1, E1, G1, ?_⟩
  revert h1
  cases den F lo' ρ g1 with
  | bad => exact fun h => h
  | exc c g => exact fun h => h
  | ok dl g2 =>
    intro h1 l H2 e2 G2 pl
    have E2 := E1.ext e2
    have h2 := RunE.ext h1 e2
    refine ⟨ρ, g2, E2, G2, ?_⟩
    revert h2
    show RunE C W ((den F hi' ρ g2).bind fun h g => ofO (sliceD d1 dl h) g) σ H2 Q → _
    cases den F hi' ρ g2 with
    | bad => exact fun h => h
    | exc c g => exact fun h => h
    | ok dh g3 =>
      intro h2 u H3 e3 G3 ph
      obtain ⟨d, hd, hq⟩ := run_ofO (o := sliceD d1 dl dh) (RunE.ext h2 e3)
      have r1 := (r1.ext e2).ext e3
      have hK := M.K
      cases d1 with
      | tup xs =>
        obtain ⟨p, vs, rfl, t, z, r⟩ := r1.tup_inv
        have hd : (cutD xs dl dh).map Dat.tup = some d := hd
        rw [cutD_eq pl ph] at hd
        cases hd
        refine .inr (.inl ⟨p, vs, rfl, by rw [hK]; exact t.sq, fun hw => ?_, fun hw q hp => ?_⟩)
        · have hrc := r.cut l u
          rw [r.len] at hw
          rw [hw.1, hw.2] at hq
          refine hq _ H3 Ext.refl G3 (.tup t (by simp only [List.drop_zero, Nat.sub_zero, List.take_length]; exact z) ?_)
          simp only [List.drop_zero, Nat.sub_zero, List.take_length]
          exact r
        · exact hq _ _ (Ext.new hp) (G3.new hp) (.newT G3 hp (by rw [List.length_take, List.length_drop]; omega) (r.cut l u))
      | lst xs =>
        obtain ⟨p, vs, rfl, t, z, r⟩ := r1.lst_inv
        have hd : (cutD xs dl dh).map Dat.lst = some d := hd
        rw [cutD_eq pl ph] at hd
        cases hd
        refine .inl ⟨p, vs, rfl, by rw [hK]; exact t.sq, fun q hp => ?_⟩
        exact hq _ _ (Ext.new hp) (G3.new hp) (.newL G3 hp (by rw [List.length_take, List.length_drop]; omega) (r.cut l u))
      | str s =>
        obtain ⟨x1, rfl, rfl, hs1⟩ := r1.str_inv
        have hd : (cutD x1.cps.toList dl dh).map Dat.str = some d := hd
        rw [cutD_eq pl ph] at hd
        cases hd
        refine .inr (.inr ⟨x1, rfl, hs1.1, ?_⟩)
        refine hq _ H3 Ext.refl G3 (.strE ?_ ?_)
        · exact ⟨Nat.le_trans (cutS_length x1 l u) hs1.1, fun c hc => hs1.2 c (List.mem_of_mem_drop (List.mem_of_mem_take (show c ∈ _ from hc)))⟩
        · show (cutS x1 l u).cps.toList = _
          unfold cutS
          rw [strlen]
      | _ => cases hd
theorem sem_rev {c : Ctx} {a : Expr} {a' : Ex} {k : Nat} {p1 p2 p3 pos : Pos} (ha : Sem c a a') : Sem c (.Subscript a (.Slice none none (some (.UnaryOp .USub (.Constant (.int 1) k p1) p2)) p3) pos) (.rev a') := by
  refine ⟨fun X C W F k M => ?_, rfl⟩
  refine pe_mono (pe_revL (ha.run X C W F k M)) fun σ H Q ⟨ρ, g, E, G, h⟩ => ?_
  unfold den at h
  refine tD_then _ (fun r H => RunE C W r σ H Q) E G h (fun _ _ p => p) id fun d1 g1 x H1 e1 E1 G1 r1 h1 => ?_
  have h1 := h1.ext e1
  cases d1 with
  | lst xs =>
    obtain ⟨p, vs, rfl, t, z, r⟩ := r1.lst_inv
    refine ⟨p, vs, rfl, by rw [M.K]; exact t.sq, fun q hp => ?_⟩
    exact h1 _ _ (Ext.new hp) (G1.new hp) (.newL G1 hp (by rw [List.length_reverse]; exact z) r.reverse)
  | _ => exact h1.elim
theorem sem_neg {c : Ctx} {a : Expr} {a' : Ex} {pos : Pos} (ha : Sem c a a') : Sem c (.UnaryOp .USub a pos) (.neg a') := by
  refine ⟨fun X C W F k M => ?_, rfl⟩
  refine pe_mono (pe_un un_neg (ha.run X C W F k M)) fun σ H Q ⟨ρ, g, E, G, h⟩ => ?_
  unfold den at h
  refine tD_then _ (fun r H => RunE C W r σ H Q) E G h (fun _ _ p => p) id fun d1 g1 x H1 e1 E1 G1 r1 h1 => ?_
  have h1 := h1.ext e1
  cases d1 with
  | int i => exact ⟨i, r1.int_inv, h1 _ H1 Ext.refl G1 (.int _)⟩
  | _ => exact h1.elim

/-! ### built-in functions of one argument -/
/-- what the call's own reading asks, from the plain function -/
def BiF (C : Cfg) (r : List V → Hp → VK → Prop) (f : Dat → Option Dat) : Prop := ∀ (d1 d : Dat) (g : List Dat) (x : V) (H : Hp) (Q : VK), f d1 = some d → Rp C H x d1 → GR C g H →
  (∀ v H', Ext C H H' → GR C g H' → Rp C H' v d → Q v H') → r [x] H Q
theorem tCB_of {X : Cx} {C : Cfg} {W : WX} {r : List V → Hp → VK → Prop} {f : Dat → Option Dat} {F : Nat → List Dat → Mo Dat} {a' : Ex} (hf : BiF C r f) {σ : L2.St} {H : Hp} {Q : VK}
    (q : tD C W (fun ρ g => (den F a' ρ g).bind fun x g => ofO (f x) g) σ H Q) : tCB r (tA C W (denL F [a'])) σ H Q := by
  obtain ⟨ρ, g, E, G, h⟩ := q
  refine ⟨ρ, g, E, G, ?_⟩
  unfold denL denL
  revert h
  dsimp only
  cases den F a' ρ g with
  | ok d1 g1 =>
    intro h vs H1 e1 G1 l1
    cases l1 with
    | cons r1 l2 =>
      cases l2
      obtain ⟨d, hd, hq⟩ := run_ofO (o := f d1) (RunE.ext h e1)
      exact hf d1 d g1 _ H1 Q hd r1 G1 hq
  | exc c g1 => exact fun h => h
  | bad => exact fun h => h
theorem semL_one {c : Ctx} {e : Expr} {e' : Ex} (h : Sem c e e') : SemL c [e] [e'] := semL_cons h semL_nil
theorem sem_bi {c : Ctx} {b : Bi} {x : Str} {id : String} {a : Expr} {a' : Ex} {p pos : Pos} (hg : kindB c.sc x = some .globalImplicit) (hx : x ∈ biNames) (hd : dbgB x = false) (hv : bootBuiltins x = some (.builtin id))
    (ha : Sem c a a') (h : ∀ X C W F k, Mt X c C W F k → ∃ r, CallR X (.builtin id) r ∧ BiF C r (biD b)) : Sem c (.Call (.Name x p) [a] [] pos) (.bi b a') := by
  refine ⟨fun X C W F k M => ?_, rfl⟩
  obtain ⟨d1, d2, d3⟩ := dbg_of hd
  obtain ⟨r, h1, h2⟩ := h X C W F k M
  refine pe_mono (pe_callB h1 (show X.env.scope.names.lookup x = some .globalImplicit by rw [M.sc]; exact hg) (M.bi x hx) hv ((semL_one ha).run X C W F k M) d3 d1 (star_plain ha.plain) rfl) fun σ H Q q => tCB_of (X := X) h2 ?_
  unfold den at q
  exact q
theorem sem_biT {c : Ctx} {b : Bi} {x : Str} {T : String} {a : Expr} {a' : Ex} {p pos : Pos} (hg : kindB c.sc x = some .globalImplicit) (hx : x ∈ biNames) (hd : dbgB x = false) (hv : bootBuiltins x = some (.type T))
    (ha : Sem c a a') (h : ∀ X C W F k, Mt X c C W F k → ∃ r, CallR X (.type T) r ∧ BiF C r (biD b)) : Sem c (.Call (.Name x p) [a] [] pos) (.bi b a') := by
  refine ⟨fun X C W F k M => ?_, rfl⟩
  obtain ⟨d1, d2, d3⟩ := dbg_of hd
  obtain ⟨r, h1, h2⟩ := h X C W F k M
  refine pe_mono (pe_callTy h1 (show X.env.scope.names.lookup x = some .globalImplicit by rw [M.sc]; exact hg) (M.bi x hx) hv ((semL_one ha).run X C W F k M) d3 d1 (star_plain ha.plain) rfl) fun σ H Q q => tCB_of (X := X) h2 ?_
  unfold den at q
  exact q
section
variable {C : Cfg} {X : Cx}
theorem bif_len (hK : X.K = C.K) : ∃ r, CallR X (.builtin "len") r ∧ BiF C r (biD .len) := by
  refine ⟨_, call_len, fun d1 d g x H Q hd r1 G q => ?_⟩
  cases d1 <;> simp only [biD] at hd <;> try cases hd
  · obtain ⟨x1, rfl, rfl, h1⟩ := r1.str_inv
    exact ⟨_, _, rfl, ⟨h1.1, rfl⟩, by rw [strlen]; exact q _ H Ext.refl G (.int _)⟩
  · obtain ⟨p, vs, rfl, t, z, l⟩ := r1.tup_inv
    exact ⟨_, _, rfl, .inr ⟨vs, by rw [hK]; exact t.sq, rfl⟩, by rw [l.len]; exact q _ H Ext.refl G (.int _)⟩
  · obtain ⟨p, vs, rfl, t, z, l⟩ := r1.lst_inv
    exact ⟨_, _, rfl, .inl ⟨vs, t.sq, rfl⟩, by rw [l.len]; exact q _ H Ext.refl G (.int _)⟩
theorem bif_tuple (hK : X.K = C.K) : ∃ r, CallR X (.type "tuple") r ∧ BiF C r (biD .tuple) := by
  refine ⟨_, call_tuple_of, fun d1 d g x H Q hd r1 G q => ?_⟩
  cases d1 <;> simp only [biD] at hd <;> try cases hd
  · obtain ⟨p, vs, rfl, t, z, l⟩ := r1.tup_inv
    exact ⟨p, vs, rfl, .inr ⟨by rw [hK]; exact t.sq, q _ H Ext.refl G r1⟩⟩
  · obtain ⟨p, vs, rfl, t, z, l⟩ := r1.lst_inv
    exact ⟨p, vs, rfl, .inl ⟨t.sq, fun l' hp => q _ _ (Ext.new hp) (G.new hp) (.newT G hp z l)⟩⟩
theorem call_listStr (hc : X.calm = true) : CallR X (.type "list") (fun xs H Q => ∃ z : Str, xs = [.str z] ∧ z.length ≤ sizeLine ∧ ∀ l, H l = none → Q (.ref l) (upd H l (.lst (z.cps.toList.map fun c => V.str ⟨#[c]⟩)))) := by
  intro pins s σ H xs us Q I r h
  obtain ⟨z, rfl, hz, q⟩ := h
  obtain ⟨u, rfl, t, rfl⟩ := vals1 r
  refine call_list_str (I.ok.hd hc) z t (hn := hz) fun h' tk acc' c' hk hS' hacc => ?_
  have hv : Vals (z.cps.toList.map fun c => V.str ⟨#[c]⟩) acc'.toList := by
    have key : ∀ (cs : List Nat) (us : List Value), us.length = cs.length → (∀ (j : Nat) (v : Value), us[j]? = some v → ∃ (c : Nat) (u : Tok), cs[j]? = some c ∧ v = Value.str ⟨#[c]⟩ u) → Vals (cs.map fun c => V.str ⟨#[c]⟩) us := by
      intro cs
      induction cs with
      | nil => intro us hl _; cases us with | nil => exact .nil | cons _ _ => simp at hl
      | cons c cs ih =>
        intro us hl hj
        cases us with
        | nil => simp at hl
        | cons v us =>
          obtain ⟨c', u, e1, e2⟩ := hj 0 v rfl
          have e1 : c = c' := by simpa using e1
          subst e1
          exact .cons ⟨u, e2⟩ (ih us (by simpa using hl) fun j w hw => by simpa using hj (j + 1) w (by simpa using hw))
    refine key _ _ (by rw [Array.length_toList, hacc.1, Array.length_toList]) fun j v hv => ?_
    obtain ⟨c, u, hc, e⟩ := hacc.2 j v (by rw [← Array.getElem?_toList]; exact hv)
    exact ⟨c, u, by rw [Array.getElem?_toList]; exact hc, e⟩
  refine ⟨.ref s.heap.objs.size, _, I.laid (t' := tk) hk (Nat.le_refl _) (show ObjOk X.prog X.w _ h' _ (.lst _) from ⟨?_, acc'.toList, c', hv, by rw [Array.toArray_toList]; exact hS'⟩), rfl, q _ (I.hok.fresh (Nat.le_refl _))⟩
  rw [List.length_map, ← strlen]; exact hz
theorem RpL.signs {H : Hp} {x : Str} (h : SOk x) : RpL C H (x.cps.toList.map fun c => V.str ⟨#[c]⟩) (x.cps.toList.map fun c => Dat.str [c]) := by
  have key : ∀ l : List Nat, (∀ c ∈ l, c < 1114112) → RpL C H (l.map fun c => V.str ⟨#[c]⟩) (l.map fun c => Dat.str [c]) := by
    intro l
    induction l with
    | nil => intro _; exact .nil
    | cons c l ih =>
      intro hl
      refine .cons (.strL (l := [c]) ⟨by rw [sizeLine_eq]; show 1 ≤ _; decide, fun c' hc' => ?_⟩) (ih fun c' hc' => hl c' (List.mem_cons_of_mem _ hc'))
      have : c' = c := by simpa using hc'
      subst this
      exact hl _ List.mem_cons_self
  exact key _ h.2
theorem bif_list (hK : X.K = C.K) (hc : X.calm = true) : ∃ r, CallR X (.type "list") r ∧ BiF C r (biD .list) := by
  refine ⟨_, call_list_of.or (call_listStr hc), fun d1 d g x H Q hd r1 G q => ?_⟩
  cases d1 <;> simp only [biD] at hd <;> try cases hd
  · obtain ⟨x1, rfl, rfl, h1⟩ := r1.str_inv
    exact .inr ⟨x1, rfl, h1.1, fun p hp => q _ _ (Ext.new hp) (G.new hp) (.newL G hp (by rw [List.length_map, ← strlen]; exact h1.1) (RpL.signs h1))⟩
  · obtain ⟨p, vs, rfl, t, z, l⟩ := r1.tup_inv
    exact .inl ⟨p, vs, rfl, .inr (by rw [hK]; exact t.sq), fun l' hp => q _ _ (Ext.new hp) (G.new hp) (.newL G hp z l)⟩
  · obtain ⟨p, vs, rfl, t, z, l⟩ := r1.lst_inv
    exact .inl ⟨p, vs, rfl, .inl t.sq, fun l' hp => q _ _ (Ext.new hp) (G.new hp) (.newL G hp z l)⟩
  · cases r1 with
    | @kl p vs _ t z l =>
    exact .inl ⟨p, vs, rfl, .inl (by rw [hK]; exact .inr t), fun l' hp => q _ _ (Ext.new hp) (G.new hp) (.newL G hp z l)⟩
theorem bools_inv {H : Hp} : ∀ {ds : List Dat} {bs : List Bool} {vs : List V}, boolsD ds = some bs → RpL C H vs ds → vs = bs.map V.bl
  | [], bs, vs, h, r => by cases h; cases r; rfl
  | d :: ds, bs, vs, h, r => by
    cases r with
    | cons r rr =>
      cases d with
      | bl b =>
        obtain ⟨bs', hb, rfl⟩ := Option.map_eq_some_iff.mp (show (boolsD ds).map (b :: ·) = some bs from h)
        rw [List.map_cons, ← bools_inv hb rr, r.bl_inv]
      | _ => cases h
theorem ints_inv {H : Hp} : ∀ {ds : List Dat} {bs : List Int} {vs : List V}, intsD ds = some bs → RpL C H vs ds → vs = bs.map V.int
  | [], bs, vs, h, r => by cases h; cases r; rfl
  | d :: ds, bs, vs, h, r => by
    cases r with
    | cons r rr =>
      cases d with
      | int b =>
        obtain ⟨bs', hb, rfl⟩ := Option.map_eq_some_iff.mp (show (intsD ds).map (b :: ·) = some bs from h)
        rw [List.map_cons, ← ints_inv hb rr, r.int_inv]
      | _ => cases h
theorem strs_inv {H : Hp} : ∀ {ds : List Dat} {bs : List (List Nat)} {vs : List V}, strsD ds = some bs → RpL C H vs ds → ∃ xs : List Str, vs = xs.map V.str ∧ bs = xs.map (·.cps.toList) ∧ ∀ x ∈ xs, SOk x
  | [], bs, vs, h, r => by cases h; cases r; exact ⟨[], rfl, rfl, fun x h => nomatch h⟩
  | d :: ds, bs, vs, h, r => by
    cases r with
    | cons r rr =>
      cases d with
      | str b =>
        obtain ⟨bs', hb, rfl⟩ := Option.map_eq_some_iff.mp (show (strsD ds).map (b :: ·) = some bs from h)
        obtain ⟨xs, rfl, rfl, hx⟩ := strs_inv hb rr
        obtain ⟨x, rfl, rfl, h1⟩ := r.str_inv
        exact ⟨x :: xs, rfl, rfl, fun y hy => (List.mem_cons.mp hy).elim (fun e => e ▸ h1) (hx y)⟩
      | _ => cases h
theorem bif_all (hc : X.calm = true) : ∃ r, CallR X (.builtin "all") r ∧ BiF C r (biD .all) := by
  refine ⟨_, cr_all hc, fun d1 d g x H Q hd r1 G q => ?_⟩
  cases d1 <;> simp only [biD] at hd <;> try cases hd
  obtain ⟨bs, hb, rfl⟩ := Option.map_eq_some_iff.mp hd
  obtain ⟨p, vs, rfl, t, z, l⟩ := r1.lst_inv
  rw [bools_inv hb l] at t
  exact ⟨p, bs, rfl, t.sq, q _ H Ext.refl G (.bl _)⟩
theorem bif_any (hc : X.calm = true) : ∃ r, CallR X (.builtin "any") r ∧ BiF C r (biD .any) := by
  refine ⟨_, cr_any hc, fun d1 d g x H Q hd r1 G q => ?_⟩
  cases d1 <;> simp only [biD] at hd <;> try cases hd
  obtain ⟨bs, hb, rfl⟩ := Option.map_eq_some_iff.mp hd
  obtain ⟨p, vs, rfl, t, z, l⟩ := r1.lst_inv
  rw [bools_inv hb l] at t
  exact ⟨p, bs, rfl, t.sq, q _ H Ext.refl G (.bl _)⟩
theorem bif_sum (hc : X.calm = true) : ∃ r, CallR X (.builtin "sum") r ∧ BiF C r (biD .sum) := by
  refine ⟨_, cr_sum hc, fun d1 d g x H Q hd r1 G q => ?_⟩
  cases d1 <;> simp only [biD] at hd <;> try cases hd
  obtain ⟨bs, hb, rfl⟩ := Option.map_eq_some_iff.mp hd
  obtain ⟨p, vs, rfl, t, z, l⟩ := r1.lst_inv
  rw [ints_inv hb l] at t
  exact ⟨p, bs, rfl, t.sq, q _ H Ext.refl G (.int _)⟩
theorem max_fold : ∀ (r : List Int) (x : Int), (∀ y ∈ x :: r, y ≤ r.foldl (fun a b => if a < b then b else a) x) ∧ r.foldl (fun a b => if a < b then b else a) x ∈ x :: r
  | [], x => by simp
  | z :: r, x => by
    rw [List.foldl_cons]
    by_cases h : x < z
    · rw [if_pos h]
      obtain ⟨h1, h2⟩ := max_fold r z
      have hz := h1 z List.mem_cons_self
      refine ⟨fun y hy => ?_, List.mem_cons_of_mem _ h2⟩
      rcases List.mem_cons.mp hy with rfl | hy
      · omega
      · exact h1 y hy
    · rw [if_neg h]
      obtain ⟨h1, h2⟩ := max_fold r x
      have hx := h1 x List.mem_cons_self
      refine ⟨fun y hy => ?_, ?_⟩
      · rcases List.mem_cons.mp hy with rfl | hy
        · exact hx
        · rcases List.mem_cons.mp hy with rfl | hy
          · omega
          · exact h1 y (List.mem_cons_of_mem _ hy)
      · rcases List.mem_cons.mp h2 with e | e
        · rw [e]; exact List.mem_cons_self
        · exact List.mem_cons_of_mem _ (List.mem_cons_of_mem _ e)
theorem min_fold : ∀ (r : List Int) (x : Int), (∀ y ∈ x :: r, r.foldl (fun a b => if b < a then b else a) x ≤ y) ∧ r.foldl (fun a b => if b < a then b else a) x ∈ x :: r
  | [], x => by simp
  | z :: r, x => by
    rw [List.foldl_cons]
    by_cases h : z < x
    · rw [if_pos h]
      obtain ⟨h1, h2⟩ := min_fold r z
      have hz := h1 z List.mem_cons_self
      refine ⟨fun y hy => ?_, List.mem_cons_of_mem _ h2⟩
      rcases List.mem_cons.mp hy with rfl | hy
      · omega
      · exact h1 y hy
    · rw [if_neg h]
      obtain ⟨h1, h2⟩ := min_fold r x
      have hx := h1 x List.mem_cons_self
      refine ⟨fun y hy => ?_, ?_⟩
      · rcases List.mem_cons.mp hy with rfl | hy
        · exact hx
        · rcases List.mem_cons.mp hy with rfl | hy
          · omega
          · exact h1 y (List.mem_cons_of_mem _ hy)
      · rcases List.mem_cons.mp h2 with e | e
        · rw [e]; exact List.mem_cons_self
        · exact List.mem_cons_of_mem _ (List.mem_cons_of_mem _ e)
theorem bif_max (hc : X.calm = true) : ∃ r, CallR X (.builtin "max") r ∧ BiF C r (biD .max) := by
  refine ⟨_, cr_max hc, fun d1 d g x H Q hd r1 G q => ?_⟩
  cases d1 <;> simp only [biD] at hd <;> try cases hd
  obtain ⟨bs, hb, hm⟩ := Option.bind_eq_some_iff.mp hd
  obtain ⟨m, hm, rfl⟩ := Option.map_eq_some_iff.mp hm
  obtain ⟨p, vs, rfl, t, z, l⟩ := r1.lst_inv
  rw [ints_inv hb l] at t
  cases bs with
  | nil => cases hm
  | cons b bs =>
    cases hm
    obtain ⟨h1, h2⟩ := max_fold bs b
    refine ⟨p, b :: bs, rfl, t.sq, by simp, fun m hm hle => ?_⟩
    have e : m = bs.foldl (fun a b => if a < b then b else a) b := Int.le_antisymm (h1 m hm) (hle _ h2)
    rw [e]
    exact q _ H Ext.refl G (.int _)
theorem bif_min (hc : X.calm = true) : ∃ r, CallR X (.builtin "min") r ∧ BiF C r (biD .min) := by
  refine ⟨_, cr_min hc, fun d1 d g x H Q hd r1 G q => ?_⟩
  cases d1 <;> simp only [biD] at hd <;> try cases hd
  obtain ⟨bs, hb, hm⟩ := Option.bind_eq_some_iff.mp hd
  obtain ⟨m, hm, rfl⟩ := Option.map_eq_some_iff.mp hm
  obtain ⟨p, vs, rfl, t, z, l⟩ := r1.lst_inv
  rw [ints_inv hb l] at t
  cases bs with
  | nil => cases hm
  | cons b bs =>
    cases hm
    obtain ⟨h1, h2⟩ := min_fold bs b
    refine ⟨p, b :: bs, rfl, t.sq, by simp, fun m hm hle => ?_⟩
    have e : m = bs.foldl (fun a b => if b < a then b else a) b := Int.le_antisymm (hle _ h2) (h1 m hm)
    rw [e]
    exact q _ H Ext.refl G (.int _)
theorem bif_abs : ∃ r, CallR X (.builtin "abs") r ∧ BiF C r (biD .abs) := by
  refine ⟨_, call_abs, fun d1 d g x H Q hd r1 G q => ?_⟩
  cases d1 <;> simp only [biD] at hd <;> try cases hd
  exact ⟨_, by rw [r1.int_inv], q _ H Ext.refl G (.int _)⟩
theorem bif_int : ∃ r, CallR X (.type "int") r ∧ BiF C r (biD .int) := by
  refine ⟨_, call_int1, fun d1 d g x H Q hd r1 G q => ?_⟩
  cases d1 <;> simp only [biD] at hd <;> try cases hd
  · exact .inr ⟨_, by rw [r1.bl_inv], q _ H Ext.refl G (.int _)⟩
  · exact .inl ⟨_, by rw [r1.int_inv], q _ H Ext.refl G (.int _)⟩
theorem bif_str : ∃ r, CallR X (.type "str") r ∧ BiF C r (biD .str) := by
  refine ⟨_, SkE.call_str_str, fun d1 d g x H Q hd r1 G q => ?_⟩
  cases d1 <;> simp only [biD] at hd <;> try cases hd
  obtain ⟨x1, rfl, rfl, h1⟩ := r1.str_inv
  exact ⟨x1, rfl, q _ H Ext.refl G (.str _ h1)⟩
end
end R
set_option Elab.async false
set_option linter.all false
set_option maxRecDepth 100000
set_option maxHeartbeats 4000000
/-! Methods of texts, isinstance. -/
namespace R
open PySem PySem.Spec PyProof.Rows L2
def baseB : Expr → Bool
  | .Call .. => false
  | _ => true
theorem base_of {o : Expr} {name : Str} {env : Env} (h : baseB o = true) : attributeBase o name env (eval o env) = eval o env := by
  cases o <;> first | rfl | exact absurd (show false = true from h) Bool.false_ne_true
/-- what a method's own reading asks, from the plain method -/
def MeF (C : Cfg) (r : V → List V → Hp → VK → Prop) (m : Me) : Prop := ∀ (x : Str) (d2 d : Dat) (g : List Dat) (y : V) (H : Hp) (Q : VK), meD m (.str x.cps.toList) d2 = some d → SOk x → Rp C H y d2 → GR C g H →
  (∀ v H', Ext C H H' → GR C g H' → Rp C H' v d → Q v H') → r (.str x) [y] H Q
theorem sem_me {c : Ctx} {m : Me} {id : String} {name : Str} {o e : Expr} {o' e' : Ex} {apos pos : Pos} (slot : Slot "str" name id) (ty : typeOf (.builtin id) = pure (.type "method_descriptor"))
    (hm : ∀ X C, X.K = C.K → ∃ r, MtR X id r ∧ MeF C r m) (ho : Sem c o o') (he : Sem c e e') (hb : baseB o = true) (hline : (apos.endLine == pos.line) = true) : Sem c (.Call (.Attribute o name apos) [e] [] pos) (.me m o' e') := by
  refine ⟨fun X C W F k M => ?_, rfl⟩
  obtain ⟨r, h1, h2'⟩ := hm X C M.K
  refine pe_mono (pe_m1 slot ty h1 (ho.run X C W F k M) (he.run X C W F k M) (star_plain he.plain) (base_of hb) hline) fun σ H Q ⟨ρ, g, E, G, h⟩ => ?_
  unfold den at h
  -- the receiver's value decides the method's: it is a text
  refine ⟨ρ, g, E, G, ?_⟩
  revert h
  cases den F o' ρ g with
  | bad => exact fun h => h
  | exc c g => exact fun h => h
  | ok d1 g1 =>
    intro h x H1 e1 G1 r1
    have E1 := E.ext e1
    have h := RunE.ext h e1
    cases d1 with
    | str s =>
      obtain ⟨x1, rfl, rfl, hs1⟩ := r1.str_inv
      refine ⟨⟨x1, rfl⟩, ?_⟩
      refine tD_then (fa := den F e') _ (fun r H => RunE C W r σ H Q) E1 G1 h (fun _ _ p => p) (fun z => z) fun d2 g2 y H2 e2 E2 G2 r2 h2 => ?_
      obtain ⟨d, hd, hq⟩ := run_ofO (h2.ext e2)
      exact h2' x1 d2 d g2 y H2 Q hd hs1 r2 G2 hq
    | _ => exact h.elim
section
variable {X : Cx} {C : Cfg}
theorem sub_at (x y : Str) (i : Nat) : Builtin.Str.subAt x y i = ((x.cps.toList.drop i).take y.cps.toList.length == y.cps.toList) := by
  unfold Builtin.Str.subAt
  rw [Bool.eq_iff_iff, beq_iff_eq, beq_iff_eq, ← Array.toList_inj, Array.toList_extract, List.extract_eq_take_drop, strlen]
  have : i + y.cps.toList.length - i = y.cps.toList.length := by omega
  rw [this]
theorem mef_endswith : ∃ r, MtR X "str.endswith" r ∧ MeF C r .endswith := by
  refine ⟨_, mt_endswith, fun x d2 d g y H Q hd hx r2 G q => ?_⟩
  cases d2 <;> simp only [meD] at hd <;> try cases hd
  obtain ⟨y1, rfl, rfl, hy⟩ := r2.str_inv
  refine ⟨x, y1, rfl, rfl, ?_⟩
  have e : Txt.endswith x y1 = (decide (y1.cps.toList.length ≤ x.cps.toList.length) && (x.cps.toList.drop (x.cps.toList.length - y1.cps.toList.length) == y1.cps.toList)) := by
    unfold Txt.endswith
    rw [sub_at, strlen, strlen, Nat.zero_add]
    by_cases h : y1.cps.toList.length ≤ x.cps.toList.length
    · rw [List.take_of_length_le (by rw [List.length_drop]; omega)]
    · rw [decide_eq_false h, Bool.false_and, Bool.false_and]
  rw [e]
  exact q _ H Ext.refl G (.bl _)
theorem mef_startswith : ∃ r, MtR X "str.startswith" r ∧ MeF C r .startswith := by
  refine ⟨_, mt_startswith, fun x d2 d g y H Q hd hx r2 G q => ?_⟩
  cases d2 <;> simp only [meD] at hd <;> try cases hd
  obtain ⟨y1, rfl, rfl, hy⟩ := r2.str_inv
  refine ⟨x, y1, rfl, rfl, ?_⟩
  have e : Txt.startswith x y1 = y1.cps.toList.isPrefixOf x.cps.toList := by
    unfold Txt.startswith
    rw [sub_at, strlen, strlen, Nat.zero_add, List.drop_zero, Bool.eq_iff_iff, List.isPrefixOf_iff_prefix, List.prefix_iff_eq_take, Bool.and_eq_true, decide_eq_true_eq, beq_iff_eq]
    constructor
    · exact fun h => h.2.symm
    · intro h
      refine ⟨?_, h.symm⟩
      have := congrArg List.length h
      rw [List.length_take] at this
      omega
  rw [e]
  exact q _ H Ext.refl G (.bl _)
theorem glue_join (s : List Nat) : ∀ l : List (List Nat), glueD s l = TL.joinL s l
  | [] => rfl
  | [_] => rfl
  | x :: y :: r => by
    show x ++ (s ++ glueD s (y :: r)) = x ++ (s ++ TL.joinL s (y :: r))
    rw [glue_join s (y :: r)]
theorem glue_len (s : List Nat) : ∀ l : List (List Nat), (glueD s l).length ≤ (l.map List.length).sum + l.length * s.length
  | [] => by simp [glueD]
  | [x] => by simp [glueD]
  | x :: y :: r => by
    have ih := glue_len s (y :: r)
    simp only [glueD, List.length_append, List.map_cons, List.sum_cons, List.length_cons, Nat.add_mul, Nat.one_mul] at ih ⊢
    omega
theorem glue_mem (s : List Nat) {c : Nat} : ∀ l : List (List Nat), c ∈ glueD s l → c ∈ s ∨ ∃ x ∈ l, c ∈ x
  | [], h => by cases h
  | [x], h => .inr ⟨x, List.mem_cons_self, h⟩
  | x :: y :: r, h => by
    rcases List.mem_append.mp h with h | h
    · exact .inr ⟨x, List.mem_cons_self, h⟩
    · rcases List.mem_append.mp h with h | h
      · exact .inl h
      · rcases glue_mem s (y :: r) h with h | ⟨z, hz, h⟩
        · exact .inl h
        · exact .inr ⟨z, List.mem_cons_of_mem _ hz, h⟩
theorem mef_join (hK : X.K = C.K) : ∃ r, MtR X "str.join" r ∧ MeF C r .join := by
  refine ⟨_, mt_join, fun x d2 d g y H Q hd hx r2 G q => ?_⟩
  cases d2 <;> simp only [meD] at hd <;> first | (cases hd; done) | skip
  obtain ⟨ss, h1, h2⟩ := Option.bind_eq_some_iff.mp hd
  split at h2
  · rename_i hz
    cases h2
    obtain ⟨p, vs, rfl, t, z, l⟩ := r2.lst_inv
    obtain ⟨xs, rfl, rfl, hxs⟩ := strs_inv h1 l
    have e : (Txt.join x xs).cps.toList = glueD x.cps.toList (xs.map (·.cps.toList)) := by
      rw [glue_join, TL.join_eq]
      exact TL.tl_join x xs
    have e1 : (xs.map (·.length)).sum = ((xs.map (·.cps.toList)).map List.length).sum := by
      rw [List.map_map]
      congr 1
    have hs := line_eq
    have hs2 : sizeLine = 16777216 := sizeLine_eq
    rw [List.length_map] at hz
    refine ⟨x, p, xs, rfl, rfl, .inl t.sq, by rw [e1, strlen]; rw [← hs2, ← hs]; exact hz, q _ H Ext.refl G (.strE ?_ e)⟩
    refine ⟨?_, fun c hc => ?_⟩
    · rw [strlen, e]
      refine Nat.le_trans (glue_len _ _) ?_
      rw [List.length_map, ← hs]
      exact hz
    · rw [e] at hc
      rcases glue_mem _ _ hc with h | ⟨w, hw, h⟩
      · exact hx.2 c h
      · obtain ⟨y, hy, rfl⟩ := List.mem_map.mp hw
        exact (hxs y hy).2 c h
  · cases h2
end
theorem sem_join {c : Ctx} {o e : Expr} {o' e' : Ex} {apos pos : Pos} (ho : Sem c o o') (he : Sem c e e') (hb : baseB o = true) (hline : (apos.endLine == pos.line) = true) : Sem c (.Call (.Attribute o "join" apos) [e] [] pos) (.me .join o' e') :=
  sem_me F.slot_str_join F.type_str_join (fun X C h => mef_join h) ho he hb hline
theorem sem_endswith {c : Ctx} {o e : Expr} {o' e' : Ex} {apos pos : Pos} (ho : Sem c o o') (he : Sem c e e') (hb : baseB o = true) (hline : (apos.endLine == pos.line) = true) : Sem c (.Call (.Attribute o "endswith" apos) [e] [] pos) (.me .endswith o' e') :=
  sem_me F.slot_str_endswith F.type_str_endswith (fun X C h => mef_endswith) ho he hb hline
theorem sem_startswith {c : Ctx} {o e : Expr} {o' e' : Ex} {apos pos : Pos} (ho : Sem c o o') (he : Sem c e e') (hb : baseB o = true) (hline : (apos.endLine == pos.line) = true) : Sem c (.Call (.Attribute o "startswith" apos) [e] [] pos) (.me .startswith o' e') :=
  sem_me F.slot_str_startswith F.type_str_startswith (fun X C h => mef_startswith) ho he hb hline

/-! ### isinstance -/
def tyName : Ty → String
  | .int => "int"
  | .bool => "bool"
  | .str => "str"
  | .tuple => "tuple"
  | .list => "list"
theorem kit_tyB {K : PySem.W.Frag} {a : String} {t : Ty} {r : Bool} (h : kitB a (tyName t) = some r) : PySem.W.kitOne K (.type a) (.type (tyName t)) = some r := kit_ty h
theorem isi_ty {C : Cfg} {K : PySem.W.Frag} {H : Hp} {v : V} {d : Dat} {t : Ty} {b : Bool} (hK : K = C.K) (r : Rp C H v d) (h : isiD d t = some b) : ∃ ty, TyX K H v ty ∧ PySem.W.kitOne K ty (.type (tyName t)) = some b := by
  subst hK
  cases d with
  | non =>
    cases r
    refine ⟨_, .base .non, ?_⟩
    cases t <;> cases h <;> exact kit_tyB (by decide +kernel)
  | bl x =>
    cases r
    refine ⟨_, .base (.bl x), ?_⟩
    cases t <;> cases h <;> exact kit_tyB (by decide +kernel)
  | int x =>
    cases r
    refine ⟨_, .base (.int x), ?_⟩
    cases t <;> cases h <;> exact kit_tyB (by decide +kernel)
  | str x =>
    obtain ⟨x1, rfl, rfl, hs1⟩ := r.str_inv
    refine ⟨_, .base (.str x1), ?_⟩
    cases t <;> cases h <;> exact kit_tyB (by decide +kernel)
  | tup xs =>
    obtain ⟨p, vs, rfl, t', z, l⟩ := r.tup_inv
    have key : PySem.W.kitOne C.K (.type "tuple") (.type (tyName t)) = some b := by
      cases t <;> cases h <;> exact kit_tyB (by decide +kernel)
    rcases t' with ⟨t', _⟩ | ⟨o, its, n, hk, hc, _⟩
    · exact ⟨_, .base (.tup t'), key⟩
    · exact ⟨_, .kTuple hk hc, key⟩
  | lst xs =>
    obtain ⟨p, vs, rfl, t', z, l⟩ := r.lst_inv
    have key : PySem.W.kitOne C.K (.type "list") (.type (tyName t)) = some b := by
      cases t <;> cases h <;> exact kit_tyB (by decide +kernel)
    rcases t'.1 with t' | ⟨o, t'⟩
    · exact ⟨_, .base (.lst t'), key⟩
    · exact ⟨_, .base (.frz t'), key⟩
  | _ => cases h
theorem sem_isi {c : Ctx} {a : Expr} {a' : Ex} {t : Ty} {x : Str} {p p2 pos : Pos} (hg : kindB c.sc "isinstance" = some .globalImplicit) (hx : kindB c.sc x = some .globalImplicit) (hm : x ∈ biNames) (hd : dbgB x = false) (hv : bootBuiltins x = some (.type (tyName t)))
    (ha : Sem c a a') : Sem c (.Call (.Name "isinstance" p) [a, .Name x p2] [] pos) (.isi a' t) := by
  refine ⟨fun X C W F k M => ?_, rfl⟩
  obtain ⟨d1, d2, d3⟩ := dbg_of hd
  have hT : PE X (.Name x p2) (tC (.ty (tyName t))) := pe_bltn (show X.env.scope.names.lookup x = some .globalImplicit by rw [M.sc]; exact hx) (M.bi x hm) hv rfl d3 d1
  refine pe_mono (pe_callB call_isi (show X.env.scope.names.lookup ("isinstance" : Str) = some .globalImplicit by rw [M.sc]; exact hg) (M.bi _ (by decide)) boot_isinstance (pa_cons (ha.run X C W F k M) (pa_cons hT pa_nil rfl) (star_plain ha.plain)) (by decide) (by decide) (star_plain ha.plain) rfl) fun σ H Q ⟨ρ, g, E, G, h⟩ => ?_
  unfold den at h
  show tD C W (den F a') σ H _
  refine tD_then _ (fun r H => RunE C W r σ H Q) E G h (fun _ _ p => p) id fun d1 g1 x H1 e1 E1 G1 r1 h1 => ?_
  obtain ⟨d, hd, hq⟩ := run_ofO (h1.ext e1)
  obtain ⟨b, hb, rfl⟩ := Option.map_eq_some_iff.mp hd
  obtain ⟨ty, h3, h4⟩ := isi_ty M.K r1 hb
  exact ⟨x, _, ty, _, b, rfl, .ty _, h3, h4, hq _ H1 Ext.refl G1 (.bl b)⟩
end R
set_option Elab.async false
set_option linter.all false
set_option maxRecDepth 100000
set_option maxHeartbeats 4000000
/-! Going over the keys of a dict that is changed no more, whatever the keys are. -/
namespace R
open PySem PySem.Spec PyProof.Rows L2
/-- this very object -/
abbrev pinO (a : Addr) (o : Obj) : HO := .ext fun h => h.get? a = some o
/-- the keys of the dict at a: what stands at these places -/
def ItP (a : Addr) (o : Obj) (ks : List Addr) : It :=
  ⟨fun i H => H a = some (pinO a o) ∧ i < ks.length, fun i H x H' => H' = H ∧ ∃ p, ks[i]? = some p ∧ x = .ref p, fun i H => H a = some (pinO a o) ∧ ks.length ≤ i⟩
section
variable {P : Program} {w : World} {K : PySem.W.Frag} {tg : Expr} {a : Addr} {o : Obj} {es : Array DictEntry} {ep : Nat} {ks : List Addr}
theorem pin_at {X : Cx} {pins : List (Addr × Obj)} {σ : L2.St} {H : Hp} {s : Shared} (I : Inv X pins σ H s) (h : H a = some (pinO a o)) : s.heap.get? a = some o := (I.hok _ _ h).1
theorem turn_pin (it : Addr) (hd : o.data = .dict es ep) (hk : es.toList.map (·.key) = ks.map Value.ref) : Turn P w K tg (ItP a o ks) [it] it (fun i h => h.IsKeyIter it a i ks.length ep) where
  mem := by simp
  obj := fun i h ⟨oi, e, c, dd⟩ b hb => by
    obtain rfl : b = it := by simpa using hb
    exact ⟨oi, e, fun v z => by rw [dd] at z; cases z⟩
  keep := fun i h h' st k => st.at fun oi e => k it (by simp) oi e
  item := by
    intro X hP hw hK hc i pins s σ H E I hf st ⟨hg, hi⟩
    subst hP hw hK
    obtain ⟨f0, f1, _, f3, f4, f5⟩ := hf it (by simp)
    have hsz : es.size = ks.length := by
      have := congrArg List.length hk
      rw [List.length_map, List.length_map] at this
      simpa using this
    have hlt : i < es.size := by omega
    have hkey : es[i].key = .ref ks[i] := by
      have e := congrArg (fun l => l[i]?) hk
      simp only [List.getElem?_map, Array.getElem?_toList, Array.getElem?_eq_getElem hlt, List.getElem?_eq_getElem hi, Option.map_some] at e
      exact Option.some.inj e
    refine next_key_item st (pin_at I hg) hd hsz (Array.getElem?_eq_getElem hlt) fun h' st' sb => ?_
    have I1 : Inv X pins σ H { s with heap := h' } := I.turned (t' := s.toks) (fun b ob hb e => (sb.2 b hb).trans e) f0 f1 f3 f4 f5
    obtain ⟨oi, e, c, dd⟩ := id st'
    exact ⟨_, rfl, go_of (s := { s with heap := h' }) e c dd (by decide) ⟨.ref ks[i], H, I1, hkey, ⟨rfl, _, List.getElem?_eq_getElem hi, rfl⟩, st', fun b hb => (hf b hb).1⟩⟩
  done := by
    intro X hP hw hK hc i pins s σ H E I hf st ⟨hg, hi⟩
    subst hP hw hK
    obtain ⟨f0, f1, _, f3, f4, f5⟩ := hf it (by simp)
    have hsz : es.size = ks.length := by
      have := congrArg List.length hk
      rw [List.length_map, List.length_map] at this
      simpa using this
    exact next_key_end (I.ok.hd hc) st (pin_at I hg) hd hsz hi fun h' eb => ⟨rfl, I.turned (t' := s.toks) (fun b ob hb e => eb b ob hb e) f0 f1 f3 f4 f5⟩
  self := fun A i s Q E st h => wpAny_pyIter_keyiter st h
end
def iPin (td : TE) : TI := fun σ H R => td σ H fun x H1 => (∃ (a : Addr) (o : Obj) (kvs : List (Key × V)), x = .ref a ∧ H1 a = some (.frz o (.dK kvs)) ∧ R (Itk a o kvs) H1) ∨ ∃ (a : Addr) (o : Obj) (ks : List Addr), x = .ref a ∧ H1 a = some (pinO a o) ∧ o.ExactDict ∧ (∃ es ep, o.data = .dict es ep ∧ es.toList.map (·.key) = ks.map Value.ref) ∧ (a == sysModules) = false ∧ R (ItP a o ks) H1
theorem pi_pin {X : Cx} {tg e : Expr} {td : TE} (he : PE X e td) : PI X tg e (iPin td) := by
  refine ⟨fun pins s σ H R I h => ?_⟩
  refine thn (he.run pins s σ H _ I h) fun u s1 ⟨x, H1, I1, rx, q⟩ => ?_
  rcases q with ⟨a, o, kvs, ex, hd, q⟩ | ⟨a, o, ks, ex, hp, hx, ⟨es, ep, hd, hk⟩, hs, q⟩
  · subst ex
    obtain rfl : u = Value.ref a := rx
    obtain ⟨sy, at_, ed, es, ep, us, dat, sz, _⟩ := I1.frzK hd
    refine iter_keys sy at_ ed dat (pi_one (tk := s1.toks) I1 _ (turn_keys _ dat) ⟨_, Heap.get?_push_size _ rfl, rfl, ?_⟩ q)
    rw [sz] <;> rfl
  subst ex
  obtain rfl : u = Value.ref a := rx
  have hsz : es.size = ks.length := by
    have := congrArg List.length hk
    rw [List.length_map, List.length_map] at this
    simpa using this
  refine iter_keys hs (pin_at I1 hp) hx hd (pi_one (tk := s1.toks) I1 _ (turn_pin _ hd hk) ⟨_, Heap.get?_push_size _ rfl, rfl, ?_⟩ q)
  rw [hsz] <;> rfl
theorem walk_pin {a : Addr} {o : Obj} {ks : List Addr} : Walk (ItP a o ks) ks.length (fun H => H a = some (pinO a o)) (fun i H x H' => H' = H ∧ ∃ p, ks[i]? = some p ∧ x = .ref p) :=
  ⟨fun i H hi h => ⟨h, hi⟩, fun H h => ⟨h, Nat.le_refl _⟩, fun i H v H' hi h y => y⟩
end R
set_option Elab.async false
set_option linter.all false
set_option maxRecDepth 100000
set_option maxHeartbeats 4000000
/-! Targets, what is walked, list comprehensions. -/
namespace R
open PySem PySem.Spec PyProof.Rows L2

/-! ### targets -/
mutual
def slots : Tg → List Nat
  | .nm i => [i]
  | .tp ts => slotsL ts
def slotsL : List Tg → List Nat
  | [] => []
  | t :: ts => slots t ++ slotsL ts
end
theorem wipe_get {σ : L2.St} (j : Nat) : ∀ vs : List Nat, (L2.wipe σ vs)[j]? = if j ∈ vs then (σ[j]?).map (fun _ => none) else σ[j]?
  | [] => by simp [L2.wipe]
  | v :: vs => by
    unfold L2.wipe
    by_cases hv : v = j
    · subst hv
      rw [if_pos List.mem_cons_self]
      have ih := wipe_get v (σ := σ) vs
      by_cases hl : v < σ.length
      · rw [List.getElem?_set_self (by rw [L2.wipe_length]; exact hl), List.getElem?_eq_getElem hl]
        rfl
      · rw [List.getElem?_eq_none (by rw [List.length_set, L2.wipe_length]; omega), List.getElem?_eq_none (by omega)]
        rfl
    · rw [List.getElem?_set_ne hv, wipe_get j vs]
      have e : (j ∈ v :: vs) ↔ j ∈ vs := by
        rw [List.mem_cons]
        exact ⟨fun h => h.resolve_left fun e => hv e.symm, .inr⟩
      simp only [e]
theorem wipe_set {σ : L2.St} {i : Nat} {x : Option V} {own : List Nat} (h : i ∈ own) : L2.wipe (σ.set i x) own = L2.wipe σ own := by
  apply List.ext_getElem?
  intro j
  rw [wipe_get, wipe_get]
  by_cases hj : j ∈ own
  · rw [if_pos hj, if_pos hj]
    by_cases e : i = j
    · subst e
      by_cases hl : i < σ.length
      · rw [List.getElem?_set_self hl, List.getElem?_eq_getElem hl]; rfl
      · rw [List.getElem?_eq_none (by simpa using hl), List.getElem?_eq_none (by simpa using hl)]
    · rw [List.getElem?_set_ne e]
  · rw [if_neg hj, if_neg hj]
    rw [List.getElem?_set_ne (by intro e; subst e; exact hj h)]
/-- some slots are set, each to a value that bears its data -/
inductive Sets (C : Cfg) (H : Hp) (σ : L2.St) (ρ : Sl) : L2.St → Sl → Prop
  | refl : Sets C H σ ρ σ ρ
  | step {σ1 : L2.St} {ρ1 : Sl} {i : Nat} {v : V} {d : Dat} : Sets C H σ ρ σ1 ρ1 → Rp C H v d → Sets C H σ ρ (σ1.set i (some v)) (ρ1.set i (some d))
theorem Sets.trans {C : Cfg} {H : Hp} {σ σ1 σ2 : L2.St} {ρ ρ1 ρ2 : Sl} (a : Sets C H σ ρ σ1 ρ1) (b : Sets C H σ1 ρ1 σ2 ρ2) : Sets C H σ ρ σ2 ρ2 := by
  induction b with
  | refl => exact a
  | step _ r ih => exact .step ih r
theorem Sets.env {C : Cfg} {H : Hp} {σ σ1 : L2.St} {ρ ρ1 : Sl} (a : Sets C H σ ρ σ1 ρ1) (E : EnvR C H σ ρ) : EnvR C H σ1 ρ1 := by
  induction a with
  | refl => exact E
  | step _ r ih => exact ih.set r
def tG (C : Cfg) (tg : Tg) : TG := fun v σ H Q => ∃ d ρ ρ', Rp C H v d ∧ bindT tg d ρ = some ρ' ∧ ∀ σ', Sets C H σ ρ σ' ρ' → (∀ own : List Nat, (∀ i ∈ slots tg, i ∈ own) → L2.wipe σ' own = L2.wipe σ own) → Q σ' H
def tGs (C : Cfg) (ts : List Tg) : TGs := fun vs σ H Q => ∃ ds ρ ρ', RpL C H vs ds ∧ bindTs ts ds ρ = some ρ' ∧ ∀ σ', Sets C H σ ρ σ' ρ' → (∀ own : List Nat, (∀ i ∈ slotsL ts, i ∈ own) → L2.wipe σ' own = L2.wipe σ own) → Q σ' H
def SemG (c : Ctx) (e : Expr) (tg : Tg) : Prop := (∀ X C W F k, Mt X c C W F k → PG X e (tG C tg)) ∧ plainE e = true
def SemGs (c : Ctx) (es : List Expr) (ts : List Tg) : Prop := (∀ X C W F k, Mt X c C W F k → PGs X es (tGs C ts)) ∧ es.length = ts.length ∧ ∀ env, (assignEach es env).length = es.length ∧ (assignEach es env).findIdx? (·.1) = none
theorem pg_mono {X : Cx} {e : Expr} {t t' : TG} (h : PG X e t) (w : ∀ v σ H Q, t' v σ H Q → t v σ H Q) : PG X e t' := ⟨fun pins s σ H v u Q I r q => h.run pins s σ H v u Q I r (w v σ H Q q)⟩
theorem pgs_mono {X : Cx} {e : List Expr} {t t' : TGs} (h : PGs X e t) (w : ∀ v σ H Q, t' v σ H Q → t v σ H Q) : PGs X e t' := ⟨fun pins s σ H v u Q I r q => h.run pins s σ H v u Q I r (w v σ H Q q)⟩
/-- a name that may be stored in this block -/
def locB (c : Ctx) (x : Str) : Bool := match kindB c.sc x with
  | some .local => true
  | some .cell => match c.blk with
    | none => true
    | some s => s.names.lookup x == some .cell
  | _ => false
theorem loc_of {c : Ctx} {x : Str} (h : locB c x = true) {X : Cx} {C : Cfg} {W : WX} {F : Nat → List Dat → Mo Dat} {k : Nat} (M : Mt X c C W F k) : Loc X.env.scope x ∧ (X.fn x = true ∨ X.env.scope.names.lookup x = some .local) := by
  unfold locB kindB at h
  split at h
  · rename_i e
    rw [M.sc]
    exact ⟨.inl e, .inr e⟩
  · rename_i e
    rw [M.sc]
    refine ⟨.inr e, .inl (M.fn x ?_)⟩
    exact h
  · cases h
theorem semG_name {c : Ctx} {x : Str} {i : Nat} {pos : Pos} (hN : c.N[i]? = some x) (hl : locB c x = true) : SemG c (.Name x pos) (.nm i) := by
  refine ⟨fun X C W F k M => ?_, rfl⟩
  obtain ⟨h1, h2⟩ := loc_of hl M
  refine pg_mono (pg_name (i := i) (by rw [M.N]; exact M.nd) (by rw [M.N]; exact hN) h1 h2) fun v σ H Q ⟨d, ρ, ρ', r, hb, q⟩ => ?_
  unfold bindT at hb
  cases hb
  exact q _ (.step .refl r) fun own ho => wipe_set (ho i (by unfold slots; exact List.mem_cons_self))
theorem semGs_nil {c : Ctx} : SemGs c [] [] := by
  refine ⟨fun X C W F k M => ?_, rfl, fun env => ⟨rfl, rfl⟩⟩
  refine pgs_mono pgs_nil fun v σ H Q ⟨ds, ρ, ρ', r, hb, q⟩ => ?_
  cases ds with
  | nil =>
    cases r
    unfold bindTs at hb
    cases hb
    exact ⟨rfl, q σ .refl fun _ _ => rfl⟩
  | cons d ds => unfold bindTs at hb; cases hb
theorem asg_plain {e : Expr} {es : List Expr} {env : Env} (h : plainE e = true) : assignEach (e :: es) env = (false, assign e env) :: assignEach es env := by
  cases e <;> first | rfl | exact absurd (show false = true from h) Bool.false_ne_true
theorem semGs_cons {c : Ctx} {e : Expr} {es : List Expr} {t : Tg} {ts : List Tg} (h1 : SemG c e t) (h2 : SemGs c es ts) : SemGs c (e :: es) (t :: ts) := by
  obtain ⟨h1, p1⟩ := h1
  obtain ⟨h2, hl, p2⟩ := h2
  refine ⟨fun X C W F k M => ?_, by simp [hl], fun env => ?_⟩
  · refine pgs_mono (pgs_cons (h1 X C W F k M) (h2 X C W F k M) (by rw [asg_plain p1]; rfl)) fun vs σ H Q ⟨ds, ρ, ρ', r, hb, q⟩ => ?_
    cases ds with
    | nil => unfold bindTs at hb; cases hb
    | cons d ds =>
      cases r with
      | cons r rr =>
        unfold bindTs at hb
        obtain ⟨ρ1, hb1, hb2⟩ := Option.bind_eq_some_iff.mp hb
        refine ⟨_, _, rfl, d, ρ, ρ1, r, hb1, fun σ1 E1 hw1 => ?_⟩
        refine ⟨ds, ρ1, ρ', rr, hb2, fun σ2 E2 hw2 => q σ2 (E1.trans E2) fun own ho => ?_⟩
        unfold slotsL at ho
        rw [hw2 own fun i hi => ho i (List.mem_append_right _ hi), hw1 own fun i hi => ho i (List.mem_append_left _ hi)]
  · obtain ⟨a1, a2⟩ := p2 env
    rw [asg_plain p1]
    refine ⟨by simp [a1], ?_⟩
    rw [List.findIdx?_cons, a2]
    rfl
theorem bindTs_len : ∀ (ts : List Tg) (ds : List Dat) (ρ ρ' : Sl), bindTs ts ds ρ = some ρ' → ts.length = ds.length := by
  intro ts
  induction ts with
  | nil => intro ds ρ ρ' h; cases ds with | nil => rfl | cons _ _ => unfold bindTs at h; cases h
  | cons t ts ih =>
    intro ds ρ ρ' h
    cases ds with
    | nil => unfold bindTs at h; cases h
    | cons d ds =>
      unfold bindTs at h
      obtain ⟨ρ1, _, hb2⟩ := Option.bind_eq_some_iff.mp h
      simp [ih ds ρ1 ρ' hb2]
theorem semG_tup {c : Ctx} {es : List Expr} {ts : List Tg} {n : Nat} {pos : Pos} (h : SemGs c es ts) : SemG c (.Tuple es n pos) (.tp ts) := by
  obtain ⟨h, hl, hp⟩ := h
  refine ⟨fun X C W F k M => ?_, rfl⟩
  refine pg_mono (pg_seq M.calm (h X C W F k M) (n := es.length) (hp _).1 (hp _).2) fun v σ H Q ⟨d, ρ, ρ', r, hb, q⟩ => ?_
  cases d with
  | tup ds =>
    unfold bindT at hb
    obtain ⟨a, vs, rfl, t, z, l⟩ := r.tup_inv
    refine ⟨a, vs, rfl, .inl (by rw [M.K]; exact t.sq), by rw [l.len, hl, bindTs_len ts ds ρ ρ' hb], ds, ρ, ρ', l, hb, fun σ' E' hw => q σ' E' fun own ho => hw own ?_⟩
    unfold slots at ho
    exact ho
  | lst ds =>
    unfold bindT at hb
    obtain ⟨a, vs, rfl, t, z, l⟩ := r.lst_inv
    refine ⟨a, vs, rfl, .inr t.sq, by rw [l.len, hl, bindTs_len ts ds ρ ρ' hb], ds, ρ, ρ', l, hb, fun σ' E' hw => q σ' E' fun own ho => hw own ?_⟩
    unfold slots at ho
    exact ho
  | _ => unfold bindT at hb; cases hb

/-! ### what is walked -/
def WalkD (C : Cfg) (J : It) (ds : List Dat) (H0 : Hp) : Prop := ds.length ≤ sizeLine ∧ ∀ M' : List Addr, (∀ a ∈ C.M, a ∈ M') → (∀ a ∈ M', a ∉ C.M → H0 a = none) →
  Walk J ds.length (fun H => ExtM { C with M := M' } H0 H) fun i H x H' => ∀ g, GR { C with M := M' } g H → Ext { C with M := M' } H H' ∧ GR { C with M := M' } g H' ∧ ∃ d, ds[i]? = some d ∧ Rp { C with M := M' } H' x d
def tI (C : Cfg) (W : WX) (f : Sl → Mo Dat) : TI := fun σ H R => ∃ ρ g, EnvR C H σ ρ ∧ GR C g H ∧ match f ρ g with
  | .ok d g1 => match itemsD d with
    | none => False
    | some ds => ∀ J H1, Ext C H H1 → GR C g1 H1 → WalkD C J ds H1 → R J H1
  | .exc c g1 => ∀ H', Ext C H H' → GR C g1 H' → W (C.ex c) none σ H'
  | .bad => False
structure SemI (c : Ctx) (tgE it : Expr) (e' : Ex) : Prop where
  run : ∀ X C W F k, Mt X c C W F k → PI X tgE it (tI C W (den F e'))
  ns : ∀ (env : Env) x, foldedSetIterable it env x = pure x
theorem pi_mono {X : Cx} {tg e : Expr} {t t' : TI} (h : PI X tg e t) (w : ∀ σ H Q, t' σ H Q → t σ H Q) : PI X tg e t' := ⟨fun pins s σ H Q I q => h.run pins s σ H Q I (w σ H Q q)⟩
theorem pi_or {X : Cx} {tg e : Expr} {t t' : TI} (h : PI X tg e t) (h' : PI X tg e t') : PI X tg e (fun σ H R => t σ H R ∨ t' σ H R) := ⟨fun pins s σ H Q I q => q.elim (fun q => h.run pins s σ H Q I q) (fun q => h'.run pins s σ H Q I q)⟩
/-- fewer places are changed in place -/
theorem TupAt.more {C : Cfg} {M' : List Addr} {H : Hp} {a : Addr} {xs : List V} (h : TupAt C H a xs) (hn : ∀ a ∈ M', a ∉ C.M → H a = none) : TupAt { C with M := M' } H a xs := by
  rcases h with ⟨h, n⟩ | h
  · exact .inl ⟨h, n.1, fun hm => by have := hn a hm n.2; rw [h] at this; cases this⟩
  · exact .inr h
theorem LstAt.more {C : Cfg} {M' : List Addr} {H : Hp} {a : Addr} {xs : List V} (h : LstAt C H a xs) (hn : ∀ a ∈ M', a ∉ C.M → H a = none) : LstAt { C with M := M' } H a xs := by
  obtain ⟨h, n⟩ := h
  refine ⟨h, n.1, fun hm => ?_⟩
  have z := hn a hm n.2
  rcases h with h | ⟨o, h⟩ <;> rw [h] at z <;> cases z
theorem DctAt.more {C : Cfg} {M' : List Addr} {H : Hp} {a : Addr} {xs : List (Key × V)} (h : DctAt H C a xs) (hn : ∀ a ∈ M', a ∉ C.M → H a = none) : DctAt H { C with M := M' } a xs := by
  obtain ⟨h, n⟩ := h
  refine ⟨h, n.1, fun hm => ?_⟩
  have z := hn a hm n.2
  rw [h] at z; cases z
theorem FdcAt.more {C : Cfg} {M' : List Addr} {H : Hp} {a : Addr} {o : Obj} {xs : List (Key × V)} (h : FdcAt H C a o xs) (hn : ∀ a ∈ M', a ∉ C.M → H a = none) : FdcAt H { C with M := M' } a o xs := by
  obtain ⟨h, n⟩ := h
  refine ⟨h, n.1, fun hm => ?_⟩
  have z := hn a hm n.2
  rw [h] at z; cases z
theorem PinAt.more {C : Cfg} {M' : List Addr} {H : Hp} {a : Addr} {o : Obj} {ks : List Addr} (h : PinAt H C a o ks) (hn : ∀ a ∈ M', a ∉ C.M → H a = none) : PinAt H { C with M := M' } a o ks :=
  { at_ := h.at_, ex := h.ex, data := h.data, sys := h.sys, cup := h.cup, nm := fun hm => by
      have z := hn a hm h.nm
      rw [h.at_] at z; cases z }
mutual
theorem Rp.more {C : Cfg} {M' : List Addr} {H : Hp} (hn : ∀ a ∈ M', a ∉ C.M → H a = none) : ∀ {v : V} {d : Dat}, Rp C H v d → Rp { C with M := M' } H v d
  | _, _, .non => .non
  | _, _, .bl b => .bl b
  | _, _, .int i => .int i
  | _, _, .str x h => .str x h
  | _, _, .tup h z r => .tup (h.more hn) z (RpL.more hn r)
  | _, _, .lst h z r => .lst (h.more hn) z (RpL.more hn r)
  | _, _, .fn i => .fn (C := { C with M := M' }) i
  | _, _, .cup h => .cup h
  | _, _, .kl h z r => .kl (C := { C with M := M' }) h z (RpL.more hn r)
  | _, _, .dct z hl h k r => .dct (C := { C with M := M' }) z hl (h.more hn) k (RpL.more hn r)
  | _, _, .fdc z hl h k r => .fdc (C := { C with M := M' }) z hl (h.more hn) k (RpL.more hn r)
  | _, _, .fdn h n z r => .fdn (C := { C with M := M' }) (h.more hn) n z (RpL.more hn r)
theorem RpL.more {C : Cfg} {M' : List Addr} {H : Hp} (hn : ∀ a ∈ M', a ∉ C.M → H a = none) : ∀ {vs : List V} {ds : List Dat}, RpL C H vs ds → RpL { C with M := M' } H vs ds
  | _, _, .nil => .nil
  | _, _, .cons r rr => .cons (Rp.more hn r) (RpL.more hn rr)
end
theorem TupAt.less {C : Cfg} {M' : List Addr} {H : Hp} {a : Addr} {xs : List V} (h : TupAt { C with M := M' } H a xs) (hn : ∀ a ∈ C.M, a ∈ M') : TupAt C H a xs := by
  rcases h with ⟨h, n⟩ | h
  · exact .inl ⟨h, n.1, fun hm => n.2 (hn a hm)⟩
  · exact .inr h
theorem LstAt.less {C : Cfg} {M' : List Addr} {H : Hp} {a : Addr} {xs : List V} (h : LstAt { C with M := M' } H a xs) (hn : ∀ a ∈ C.M, a ∈ M') : LstAt C H a xs :=
  ⟨h.1, h.2.1, fun hm => h.2.2 (hn a hm)⟩
theorem FdcAt.less {C : Cfg} {M' : List Addr} {H : Hp} {a : Addr} {o : Obj} {xs : List (Key × V)} (h : FdcAt H { C with M := M' } a o xs) (hn : ∀ a ∈ C.M, a ∈ M') : FdcAt H C a o xs :=
  ⟨h.1, h.2.1, fun hm => h.2.2 (hn a hm)⟩
theorem PinAt.less {C : Cfg} {M' : List Addr} {H : Hp} {a : Addr} {o : Obj} {ks : List Addr} (h : PinAt H { C with M := M' } a o ks) (hn : ∀ a ∈ C.M, a ∈ M') : PinAt H C a o ks :=
  { at_ := h.at_, ex := h.ex, data := h.data, sys := h.sys, cup := h.cup, nm := fun hm => h.nm (hn a hm) }
theorem DctAt.less {C : Cfg} {M' : List Addr} {H : Hp} {a : Addr} {xs : List (Key × V)} (h : DctAt H { C with M := M' } a xs) (hn : ∀ a ∈ C.M, a ∈ M') : DctAt H C a xs :=
  ⟨h.1, h.2.1, fun hm => h.2.2 (hn a hm)⟩
mutual
theorem Rp.less {C : Cfg} {M' : List Addr} {H : Hp} (hn : ∀ a ∈ C.M, a ∈ M') : ∀ {v : V} {d : Dat}, Rp { C with M := M' } H v d → Rp C H v d
  | _, _, .non => .non
  | _, _, .bl b => .bl b
  | _, _, .int i => .int i
  | _, _, .str x h => .str x h
  | _, _, .tup h z r => .tup (h.less hn) z (RpL.less hn r)
  | _, _, .lst h z r => .lst (h.less hn) z (RpL.less hn r)
  | _, _, .fn i => .fn (C := C) i
  | _, _, .cup h => .cup h
  | _, _, .kl h z r => .kl (C := C) h z (RpL.less hn r)
  | _, _, .dct z hl h k r => .dct (C := C) z hl (h.less hn) k (RpL.less hn r)
  | _, _, .fdc z hl h k r => .fdc (C := C) z hl (h.less hn) k (RpL.less hn r)
  | _, _, .fdn h n z r => .fdn (C := C) (h.less hn) n z (RpL.less hn r)
theorem RpL.less {C : Cfg} {M' : List Addr} {H : Hp} (hn : ∀ a ∈ C.M, a ∈ M') : ∀ {vs : List V} {ds : List Dat}, RpL { C with M := M' } H vs ds → RpL C H vs ds
  | _, _, .nil => .nil
  | _, _, .cons r rr => .cons (Rp.less hn r) (RpL.less hn rr)
end
theorem RpG.more {C : Cfg} {M' : List Addr} {H : Hp} (hn : ∀ a ∈ M', a ∉ C.M → H a = none) {vs : List V} {ds : List Dat} (h : RpG C H vs ds) : RpG { C with M := M' } H vs ds := ⟨RpL.more hn h.rp, h.fl⟩
theorem RpG.less {C : Cfg} {M' : List Addr} {H : Hp} (hn : ∀ a ∈ C.M, a ∈ M') {vs : List V} {ds : List Dat} (h : RpG { C with M := M' } H vs ds) : RpG C H vs ds := ⟨RpL.less hn h.rp, h.fl⟩
theorem EnvR.more {C : Cfg} {M' : List Addr} {H : Hp} {σ : L2.St} {ρ : Sl} (hn : ∀ a ∈ M', a ∉ C.M → H a = none) (h : EnvR C H σ ρ) : EnvR { C with M := M' } H σ ρ :=
  ⟨h.1, fun i d q => let ⟨v, h1, h2⟩ := h.2 i d q; ⟨v, h1, h2.more hn⟩⟩
theorem EnvR.extM {C : Cfg} {H H' : Hp} {σ : L2.St} {ρ : Sl} (e : ExtM C H H') (h : EnvR C H σ ρ) : EnvR C H' σ ρ :=
  ⟨h.1, fun i d q => let ⟨v, h1, h2⟩ := h.2 i d q; ⟨v, h1, h2.extM e⟩⟩

theorem walkD_at {C : Cfg} {J : It} {ds : List Dat} {vs : List V} {H0 : Hp} {G : Hp → Prop} (hz : ds.length ≤ sizeLine) (r : RpL C H0 vs ds) (w : Walk J vs.length G (YAt vs)) (hG : ∀ M' H, (∀ a ∈ M', a ∉ C.M → H0 a = none) → ExtM { C with M := M' } H0 H → G H) : WalkD C J ds H0 := by
  refine ⟨hz, fun M' h1 h2 => ?_⟩
  rw [← r.len]
  refine w.mono (fun H e => hG M' H h2 e) fun i H x H' hi e y g G' => ?_
  obtain ⟨rfl, hx⟩ := y
  obtain ⟨d, hd, rd⟩ := r.get' hx
  exact ⟨Ext.refl, G', d, hd, (rd.more h2).extM e⟩
theorem keys_rp {C : Cfg} {H : Hp} : ∀ {ks : List Key}, (∀ k ∈ ks, KeyOk k) → RpL C H (ks.map kV) (ks.map keyD)
  | [], _ => .nil
  | .inl i :: ks, h => .cons (.int i) (keys_rp fun k hk => h k (List.mem_cons_of_mem _ hk))
  | .inr x :: ks, h => .cons (.str x (h _ List.mem_cons_self)) (keys_rp fun k hk => h k (List.mem_cons_of_mem _ hk))
theorem Rp.fdc_inv {C : Cfg} {H : Hp} {v : V} {ks vs : List Dat} (r : Rp C H v (.fdc ks vs)) : (∃ (a : Addr) (o : Obj) (kk : List Key) (us : List V), v = .ref a ∧ ks = kk.map keyD ∧ kk.length ≤ sizeLine ∧ kk.length = us.length ∧ FdcAt H C a o (kk.zip us) ∧ (∀ k ∈ kk, KeyOk k) ∧ RpL C H us vs) ∨
    ∃ (a : Addr) (o : Obj) (as : List Addr), v = .ref a ∧ vs = [] ∧ ks ≠ [] ∧ PinAt H C a o as ∧ ks.length ≤ sizeLine ∧ RpL C H (as.map V.ref) ks := by
  cases r with
  | fdc z l h k r => exact .inl ⟨_, _, _, _, rfl, rfl, z, l, h, k, r⟩
  | fdn h n z r => exact .inr ⟨_, _, _, rfl, rfl, n, h, z, r⟩
theorem semI_val {c : Ctx} {tgE it : Expr} {e' : Ex} (h : Sem c it e') (hs : noSet it = true) : SemI c tgE it e' := by
  refine ⟨fun X C W F k M => ?_, fun env x => ?_⟩
  · refine pi_mono (pi_or (pi_list (h.run X C W F k M)) (pi_or (pi_tup (h.run X C W F k M)) (pi_or (pi_str (h.run X C W F k M)) (pi_pin (h.run X C W F k M))))) fun σ H R ⟨ρ, g, E, G, q⟩ => ?_
    cases hd : den F e' ρ g with
    | bad => rw [hd] at q; exact q.elim
    | exc c g1 =>
      rw [hd] at q
      refine .inl ⟨ρ, g, E, G, ?_⟩
      rw [hd]
      exact q
    | ok d g1 =>
      rw [hd] at q
      have hK := M.K
      cases d with
      | lst ds =>
        refine .inl ⟨ρ, g, E, G, ?_⟩
        rw [hd]
        intro v H1 e1 G1 r1
        obtain ⟨a, vs, rfl, t, z, l⟩ := r1.lst_inv
        refine ⟨a, rfl, ⟨vs, t.sq⟩, q _ H1 e1 G1 (walkD_at z l walk_list fun M' H2 h2 e2 => ?_)⟩
        exact (e2.lst (t.more h2)).sq
      | tup ds =>
        refine .inr (.inl ⟨ρ, g, E, G, ?_⟩)
        rw [hd]
        intro v H1 e1 G1 r1
        obtain ⟨a, vs, rfl, t, z, l⟩ := r1.tup_inv
        refine ⟨a, rfl, ⟨vs, by rw [hK]; exact t.sq⟩, q _ H1 e1 G1 (walkD_at z l walk_tup fun M' H2 h2 e2 => ?_)⟩
        rw [hK]
        exact (e2.tup (t.more h2)).sq
      | str s =>
        refine .inr (.inr (.inl ⟨ρ, g, E, G, ?_⟩))
        rw [hd]
        intro v H1 e1 G1 r1
        obtain ⟨x, rfl, rfl, hx⟩ := r1.str_inv
        refine ⟨x, rfl, q _ H1 e1 G1 (walkD_at (vs := x.cps.toList.map fun c => V.str ⟨#[c]⟩) (G := fun _ => True) (by rw [List.length_map, ← strlen]; exact hx.1) (RpL.signs hx) ?_ fun _ _ _ _ => True.intro)⟩
        have w := walk_str (z := x)
        rw [List.length_map, Array.length_toList]
        refine w.mono (fun _ h => h) fun i H v H' hi _ y => ?_
        obtain ⟨e, c, hc, rfl⟩ := y
        refine ⟨e, ?_⟩
        rw [List.getElem?_map, Array.getElem?_toList, hc]
        rfl
      | fdc ks ws =>
        refine .inr (.inr (.inr ⟨ρ, g, E, G, ?_⟩))
        rw [hd]
        intro v H1 e1 G1 r1
        rcases r1.fdc_inv with ⟨a, o, kk, us, rfl, rfl, z, l, t, hk, _⟩ | ⟨a, o, as, rfl, rfl, _, t, z, l⟩
        · refine .inl ⟨a, o, kk.zip us, rfl, t.1, q _ H1 e1 G1 (walkD_at (vs := kk.map kV) (G := fun H => H a = some (.frz o (.dK (kk.zip us)))) (by rw [List.length_map]; exact z) (keys_rp hk) ?_ fun M' H2 h2 e2 => ?_)⟩
          · have hl : (kk.map kV).length = (kk.zip us).length := by rw [List.length_map, List.length_zip, ← l, Nat.min_self]
            rw [hl]
            refine walk_keys.mono (fun _ h => h) fun i H v H' hi _ y => ?_
            obtain ⟨e, k, u, hku, rfl⟩ := y
            refine ⟨e, ?_⟩
            rw [List.getElem?_map]
            rw [List.getElem?_zip_eq_some] at hku
            rw [hku.1]
            rfl
          · exact (e2.fdc (t.more h2)).1
        · refine .inr ⟨a, o, as, rfl, t.at_, t.ex, t.data, t.sys, q _ H1 e1 G1 (walkD_at (G := fun H => H a = some (pinO a o)) z l ?_ fun M' H2 h2 e2 => ?_)⟩
          · rw [List.length_map]
            refine walk_pin.mono (fun _ h => h) fun i H v H' hi _ y => ?_
            obtain ⟨e, p, hp, rfl⟩ := y
            exact ⟨e, by rw [List.getElem?_map, hp]; rfl⟩
          · exact (e2.pin (t.more h2)).at_
      | _ => exact q.elim
  · cases it <;> first | rfl | exact absurd (show false = true from hs) Bool.false_ne_true

/-! ### ranges -/
theorem rng_RpL {C : Cfg} {H : Hp} (f : Nat → Int) (n : Nat) : RpL C H ((List.range n).map fun k => V.int (f k)) ((List.range n).map fun k => Dat.int (f k)) := by
  have key : ∀ l : List Nat, RpL C H (l.map fun k => V.int (f k)) (l.map fun k => Dat.int (f k)) := by
    intro l
    induction l with
    | nil => exact .nil
    | cons k l ih => exact .cons (.int _) ih
  exact key _
theorem walkD_rng {C : Cfg} {J : It} {H0 : Hp} {f : Nat → Int} {n : Nat} (hz : n ≤ sizeLine) (w : Walk J n (fun _ => True) (YFn fun i => .int (f i))) : WalkD C J ((List.range n).map fun k => Dat.int (f k)) H0 := by
  refine walkD_at (G := fun _ => True) (by simpa using hz) (rng_RpL f n) ?_ fun _ _ _ _ => True.intro
  rw [List.length_map, List.length_range]
  refine w.mono (fun _ h => h) fun i H x H' hi _ y => ?_
  obtain ⟨e, rfl⟩ := y
  refine ⟨e, ?_⟩
  rw [List.getElem?_map, List.getElem?_range hi]
  rfl
theorem tA_rng {X : Cx} {C : Cfg} {W : WX} {F : Nat → List Dat → Mo Dat} {es' : List Ex} {σ : L2.St} {H : Hp} {R : It → Hp → Prop} {P : List V → Hp → Prop} (q : tI C W (den F (.rng es')) σ H R)
    (h : ∀ xs ds g1 vs H1, xs.length = es'.length → rngD xs = some ds → RpL C H1 vs xs → Ext C H H1 → GR C g1 H1 → (∀ J H1', Ext C H H1' → GR C g1 H1' → WalkD C J ds H1' → R J H1') → P vs H1) : tA C W (denL F es') σ H P := by
  obtain ⟨ρ, g, E, G, q⟩ := q
  refine ⟨ρ, g, E, G, ?_⟩
  unfold den at q
  revert q
  cases hd : denL F es' ρ g with
  | bad => exact fun q => q
  | exc c g1 => exact fun q => q
  | ok xs g1 =>
    intro q vs H1 e1 G1 l1
    cases hr : rngD xs with
    | none =>
      have q : (match (ofO ((rngD xs).map Dat.lst) g1 : Res Dat) with | .ok d g1 => (match itemsD d with | none => False | some ds => ∀ J H1, Ext C H H1 → GR C g1 H1 → WalkD C J ds H1 → R J H1) | .exc c g1 => ∀ H', Ext C H H' → GR C g1 H' → W (C.ex c) none σ H' | .bad => False) := q
      rw [hr] at q
      exact q.elim
    | some ds =>
      have q : (match (ofO ((rngD xs).map Dat.lst) g1 : Res Dat) with | .ok d g1 => (match itemsD d with | none => False | some ds => ∀ J H1, Ext C H H1 → GR C g1 H1 → WalkD C J ds H1 → R J H1) | .exc c g1 => ∀ H', Ext C H H' → GR C g1 H' → W (C.ex c) none σ H' | .bad => False) := q
      rw [hr] at q
      exact h xs ds g1 vs H1 (denL_len hd) hr l1 e1 G1 q
theorem pow62 : (2 : Int) ^ 62 = 4611686018427387904 := by decide
theorem semI_rng1 {c : Ctx} {tgE a : Expr} {a' : Ex} {p pos : Pos} (hg : kindB c.sc "range" = some .globalImplicit) (ha : Sem c a a') : SemI c tgE (.Call (.Name "range" p) [a] [] pos) (.rng [a']) := by
  refine ⟨fun X C W F k M => ?_, fun _ _ => rfl⟩
  refine pi_mono (pi_range1 (show X.env.scope.names.lookup ("range" : Str) = some .globalImplicit by rw [M.sc]; exact hg) (M.bi _ (by decide)) ((semL_one ha).run X C W F k M) (star_plain ha.plain)) fun σ H R q => ?_
  refine tA_rng (X := X) q fun xs ds g1 vs H1 hn hr l e1 G1 q => ?_
  have hs := line_eq
  have hp := pow62
  have hl : (line : Int) = 16777216 := rfl
  match xs, l, hr, hn with
  | [.int n], .cons r .nil, hr, _ =>
    unfold rngD at hr
    obtain ⟨hc, rfl⟩ := ite_some hr
    simp only [Bool.and_eq_true, decide_eq_true_eq] at hc
    exact ⟨n, by rw [r.int_inv], by omega, by omega, q _ H1 e1 G1 (walkD_rng (f := fun i => 0 + (i : Int)) (by rw [← hs]; unfold line; omega) walk_range)⟩
theorem semI_rng2 {c : Ctx} {tgE a b : Expr} {a' b' : Ex} {p pos : Pos} (hg : kindB c.sc "range" = some .globalImplicit) (ha : Sem c a a') (hb : Sem c b b') : SemI c tgE (.Call (.Name "range" p) [a, b] [] pos) (.rng [a', b']) := by
  refine ⟨fun X C W F k M => ?_, fun _ _ => rfl⟩
  refine pi_mono (pi_range2 (show X.env.scope.names.lookup ("range" : Str) = some .globalImplicit by rw [M.sc]; exact hg) (M.bi _ (by decide)) ((semL_cons ha (semL_one hb)).run X C W F k M) (by rw [star_plain ha.plain, star_plain hb.plain]; rfl) (by rw [star_plain hb.plain]; rfl)) fun σ H R q => ?_
  refine tA_rng (X := X) q fun xs ds g1 vs H1 hn hr l e1 G1 q => ?_
  have hs := line_eq
  have hp := pow62
  have hl : (line : Int) = 16777216 := rfl
  match xs, l, hr, hn with
  | [.int n, .int m], .cons r (.cons r2 .nil), hr, _ =>
    unfold rngD at hr
    obtain ⟨hc, rfl⟩ := ite_some hr
    simp only [Bool.and_eq_true, decide_eq_true_eq] at hc
    exact ⟨n, m, by rw [r.int_inv, r2.int_inv], ⟨by omega, by omega, by omega, by omega⟩, q _ H1 e1 G1 (walkD_rng (f := fun i => n + (i : Int)) (by rw [← hs]; unfold line; omega) walk_range)⟩
theorem semI_rng3 {c : Ctx} {tgE a b d : Expr} {a' b' d' : Ex} {p pos : Pos} (hg : kindB c.sc "range" = some .globalImplicit) (ha : Sem c a a') (hb : Sem c b b') (hd : Sem c d d') : SemI c tgE (.Call (.Name "range" p) [a, b, d] [] pos) (.rng [a', b', d']) := by
  refine ⟨fun X C W F k M => ?_, fun _ _ => rfl⟩
  have s1 : ∀ env, starEach [a, b, d] env = [(false, eval a env), (false, eval b env), (false, eval d env)] := fun env => by rw [star_plain ha.plain, star_plain hb.plain, star_plain hd.plain]; rfl
  have s2 : ∀ env, starEach [b, d] env = [(false, eval b env), (false, eval d env)] := fun env => by rw [star_plain hb.plain, star_plain hd.plain]; rfl
  refine pi_mono (pi_range3 (show X.env.scope.names.lookup ("range" : Str) = some .globalImplicit by rw [M.sc]; exact hg) (M.bi _ (by decide)) ((semL_cons ha (semL_cons hb (semL_one hd))).run X C W F k M) (star_plain ha.plain) ((semL_cons hb (semL_one hd)).plain _ _)) fun σ H R q => ?_
  refine tA_rng (X := X) q fun xs ds g1 vs H1 hn hr l e1 G1 q => ?_
  have hs := line_eq
  have hp := pow62
  have hl : (line : Int) = 16777216 := rfl
  match xs, l, hr, hn with
  | [.int n, .int m, .int z], .cons r (.cons r2 (.cons r3 .nil)), hr, _ =>
    unfold rngD at hr
    obtain ⟨hc, rfl⟩ := ite_some hr
    simp only [Bool.and_eq_true, decide_eq_true_eq] at hc
    obtain ⟨⟨⟨⟨⟨hz, h1⟩, h2⟩, h3⟩, h4⟩, h5⟩ := hc
    subst hz
    exact ⟨n, m, -1, (n - m).toNat, by rw [r.int_inv, r2.int_inv, r3.int_inv], RgC.neg (by omega) (by omega) (by omega) (by omega), q _ H1 e1 G1 (walkD_rng (f := fun i => n + (i : Int) * -1) (by rw [← hs]; unfold line; omega) walk_rangeC)⟩
end R
set_option Elab.async false
set_option linter.all false
set_option maxRecDepth 100000
set_option maxHeartbeats 4000000
/-! List comprehensions of one clause. -/
namespace R
open PySem PySem.Spec PyProof.Rows L2

def Ctx.inBlk (c : Ctx) (scope : Scope) : Ctx := { c with sc := relS scope c.sc, blk := some scope }
abbrev WNo : WX := fun _ _ _ _ => False
theorem mt_blk {X : Cx} {c : Ctx} {C : Cfg} {W : WX} {F : Nat → List Dat → Mo Dat} {k : Nat} (M : Mt X c C W F k) (s : Shared) (H : Hp) (scope : Scope) (Cc : Addr) (cl : List (Str × Addr)) (fp : List Addr) (M' : List Addr) :
    Mt (X.blk s H scope (compEnvC scope cl Cc X.env) fp) (c.inBlk scope) { C with M := M' } WNo F k where
  N := M.N
  nd := M.nd
  sc := by show relS scope X.env.scope = relS scope c.sc; rw [M.sc]
  calm := M.calm
  K := M.K
  room := M.room
  tk := fun u s' x => by
    obtain ⟨_, _, _, _, _, _, _, _, _, _, _, _, _, _, _, _, z⟩ := x
    exact z.elim
  fn := fun x h => h
  fns := M.fns
  glo := M.glo
  bi := M.bi
  ex := M.ex
/-- a clause's tests: none, or one -/
def SemC (c : Ctx) (ifs : List Expr) (e' : Ex) : Prop := ∀ X C W F k, Mt X c C W F k → PTs X ifs (tT C W (denB F e'))
theorem semC_nil {c : Ctx} : SemC c [] (.con (.bl true)) := by
  intro X C W F k M
  refine ⟨fun pins s σ H Q I ⟨ρ, g, E, G, h⟩ => ?_⟩
  exact pts_nil.run pins s σ H Q I (show Q true H from h H Ext.refl G)
theorem semC_one {c : Ctx} {e : Expr} {e' : Ex} (h : SemT c e e') : SemC c [e] e' := fun X C W F k M => pts_one (h X C W F k M)

theorem noexc_ok {α β : Type} {r : Res α} {k : α → Mo β} {P : Res β → Prop} (hb : P .bad → False) (h : P (r.noexc.bind k)) : ∃ a g, r = .ok a g ∧ P (k a g) := by
  cases r with
  | ok a g => exact ⟨a, g, rfl, h⟩
  | exc c g => exact (hb h).elim
  | bad => exact (hb h).elim
/-- one turn -/
def lcStep (F : Nat → List Dat → Mo Dat) (elt : Ex) (tg : Tg) (cond : Ex) (ρ0 : Sl) (d : Dat) : Mo (Option Dat) := fun g => match bindT tg d ρ0 with
  | none => .bad
  | some ρ2 => (den F cond ρ2 g).bind fun x g => (asB x g).bind fun k g => match k with
    | true => (den F elt ρ2 g).bind fun y g => .ok (some y) g
    | false => .ok none g
theorem den_lc {F : Nat → List Dat → Mo Dat} {elt : Ex} {tg : Tg} {src cond : Ex} {own : List Nat} {ρ : Sl} {g : List Dat} :
    den F (.lc elt tg src cond own) ρ g = (den F src ρ g).bind fun x g => (ofO (itemsD x) g).bind fun ds g => (lcGo (lcStep F elt tg cond (wipeD ρ own)) [] ds g).bind fun ys g => .ok (.lst ys) g := by
  conv => lhs; unfold den
  rfl
/-- the goal of a comprehension's rest -/
def LcEnd (C : Cfg) (H1 : Hp) (Q : VK) (r : Res (List Dat)) : Prop := match r with
  | .ok ys g => ∀ (D : Addr) (H' : Hp) (vs : List V), H1 D = none → H' D = some (.lst vs) → RpL { C with M := D :: C.M } H' vs ys → ys.length ≤ sizeLine → Ext C H1 H' → GR C g H' → Q (.ref D) H'
  | _ => False
theorem lcGo_cons {step : Dat → Mo (Option Dat)} {acc : List Dat} {d : Dat} {ds g : List Dat} : lcGo step acc (d :: ds) g = (step d g).noexc.bind fun o g1 => match o with
    | some y => lcGo step (acc ++ [y]) ds g1
    | none => lcGo step acc ds g1 := rfl
def gB (C : Cfg) (tg : Tg) : TG := fun v σ H Q => ∃ M, tG { C with M := M } tg v σ H Q
def ttB (C : Cfg) (F : Nat → List Dat → Mo Dat) (cond : Ex) : TT := fun σ H Q => ∃ M, tT { C with M := M } WNo (denB F cond) σ H Q
def teB (C : Cfg) (F : Nat → List Dat → Mo Dat) (elt : Ex) : TE := fun σ H Q => ∃ M, tD { C with M := M } WNo (den F elt) σ H Q
theorem wipe_wipe (σ : L2.St) (own : List Nat) : L2.wipe (L2.wipe σ own) own = L2.wipe σ own := by
  apply List.ext_getElem?
  intro j
  rw [wipe_get]
  by_cases h : j ∈ own
  · rw [if_pos h, wipe_get, if_pos h]
    cases σ[j]? <;> rfl
  · rw [if_neg h]
/-- the turns of a comprehension, D the new list -/
theorem lc_run {X : Cx} {C : Cfg} {F : Nat → List Dat → Mo Dat} {elt cond : Ex} {tg : Tg} {own : List Nat} {J : It} {ds : List Dat} {H1 : Hp} {σ : L2.St} {ρ : Sl} {g : List Dat} {Q : VK} {D : Addr}
    (hw : WalkD C J ds H1) (E : EnvR C H1 σ ρ) (G : GR C g H1) (hD : H1 D = none) (htg : ∀ i ∈ slots tg, i ∈ own) (h : LcEnd C H1 Q (lcGo (lcStep F elt tg cond (wipeD ρ own)) [] ds g)) :
    ∃ W : Nat → Nat → Hp → Prop, (∃ m, W 0 m (upd H1 D (.lst []))) ∧ ∀ i m H, W i m H →
  (J.stop i H ∧ Q (.ref D) H) ∨ (J.go i H ∧ ∃ Nx : Hp → Prop, (∀ H', Nx H' → ∃ m', m' < m ∧ W (i + 1) m' H') ∧ ∀ x H', J.yld i H x H' → gB C tg x (L2.wipe σ own) H' fun σ2 H2 => L2.wipe σ2 own = L2.wipe σ own ∧
    ttB C F cond σ2 H2 fun b H3 =>
    if b = true then teB C F elt σ2 H3 fun y H4 => ∃ acc, H4 D = some (.lst acc) ∧ acc.length < sizeLine ∧ Nx (upd H4 D (.lst (acc ++ [y]))) else Nx H3) := by
  obtain ⟨hz, hw⟩ := hw
  have hDn := G.ne hD
  have hM : ∀ a ∈ D :: C.M, a ∉ C.M → H1 a = none := fun a ha hn => by
    rcases List.mem_cons.mp ha with rfl | ha
    · exact hD
    · exact absurd ha hn
  have hW := hw (D :: C.M) (fun a ha => List.mem_cons_of_mem _ ha) hM
  generalize hC : ({ C with M := D :: C.M } : Cfg) = C' at hW
  have hcup : C'.cup = C.cup := by rw [← hC]
  have hMe : C'.M = D :: C.M := by rw [← hC]
  have extC : ∀ {A B : Hp}, Ext C' A B → Ext C A B := fun e a o h n => e a o h (by rw [hcup]; exact n)
  -- what holds between the turns
  refine lc_it (g := gB C tg) (tt := ttB C F cond) (te := teB C F elt) (vs := own) (σ := σ) (H1 := H1) (D := D) (Qd := fun H => Q (.ref D) H) hW (fun i H => ∃ (vs : List V) (acc g : List Dat), H D = some (.lst vs) ∧ RpL C' H vs acc ∧ GR C' g H ∧ ExtM C' H1 H ∧ Ext C H1 H ∧ EnvR C' H (L2.wipe σ own) (wipeD ρ own) ∧ acc.length ≤ i ∧
      LcEnd C H1 Q (lcGo (lcStep F elt tg cond (wipeD ρ own)) acc (ds.drop i) g)) ?_ ?_ ?_ ?_
  · have e0 : Ext C H1 (upd H1 D (.lst [])) := Ext.new hD
    have e1 : ExtM C' H1 (upd H1 D (.lst [])) := fun a o ha _ _ => e0.m a o ha (by
      intro z; obtain ⟨vs, h1, _⟩ := G.2 a z
      rw [← hcup] at z; exact absurd z (by assumption)) (by
      intro z; rename_i h2; exact h2 (by rw [hMe]; exact List.mem_cons_of_mem _ z))
    refine ⟨[], [], g, upd_same, .nil, ?_, e1, e0, ?_, Nat.le_refl _, by rw [List.drop_zero]; exact h⟩
    · refine ⟨fun a ha => ?_, fun a ha => ?_⟩
      · rw [hMe] at ha
        rcases List.mem_cons.mp ha with rfl | hm
        · rw [upd_same]; exact fun z => nomatch z
        · rw [upd_ne (fun z => by subst z; exact hDn.2 hm)]
          exact G.1 a hm
      · rw [hcup] at ha
        obtain ⟨vs, h1, h2⟩ := G.2 a ha
        have hne : a ≠ D := fun z => by subst z; exact hDn.1 ha
        refine ⟨vs, by rw [upd_ne hne]; exact h1, ?_⟩
        have h3 := RpG.more (M' := D :: C.M) hM h2
        rw [hC] at h3
        exact h3.extM e1
    · have h3 := (E.wipe own).more (M' := D :: C.M) hM
      rw [hC] at h3
      exact h3.extM e1
  · rintro i H hi ⟨vs, acc, g, _, _, _, e, _⟩
    exact e
  · rintro i x H H' hi ⟨vs, acc, g, h1, h2, h3, h4, h5, h6, h7, h8⟩ y
    obtain ⟨e1, G1, d, hd, rd⟩ := y g h3
    have hds : ds.drop i = d :: ds.drop (i + 1) := by
      have := List.drop_eq_getElem_cons hi
      rw [this]
      congr 1
      rw [List.getElem?_eq_getElem hi] at hd
      exact Option.some.inj hd
    rw [hds, lcGo_cons] at h8
    obtain ⟨o, g2, hstep, h8⟩ := noexc_ok (fun z => z) h8
    unfold lcStep at hstep
    have E1 : EnvR C' H' (L2.wipe σ own) (wipeD ρ own) := h6.ext e1
    have hDH : H' D = some (.lst vs) := e1 D _ h1 (by rw [hcup]; exact hDn.1)
    cases hb : bindT tg d (wipeD ρ own) with
    | none => rw [hb] at hstep; cases hstep
    | some ρ2 =>
      rw [hb] at hstep
      have hstep : ((den F cond ρ2 g).bind fun x g => (asB x g).bind fun k g => match k with
        | true => (den F elt ρ2 g).bind fun y g => Res.ok (some y) g
        | false => .ok none g) = .ok o g2 := hstep
      refine ⟨C'.M, ?_⟩
      have hCM : ({ C with M := C'.M } : Cfg) = C' := by rw [hMe, hC]
      rw [hCM]
      refine ⟨d, _, ρ2, rd, hb, fun σ2 S2 hw2 => ⟨by rw [hw2 own htg]; exact wipe_wipe σ own, C'.M, ?_⟩⟩
      have E2 := S2.env E1
      rw [hCM]
      refine ⟨ρ2, g, E2, G1, ?_⟩
      revert hstep
      unfold denB
      cases den F cond ρ2 g with
      | bad => exact fun z => nomatch z
      | exc c g => exact fun z => nomatch z
      | ok dc g3 =>
        intro hstep
        cases dc with
        | bl b =>
          intro H3 e3 G3
          have E3 := E2.ext e3
          have hD3 := e3 D _ hDH (by rw [hcup]; exact hDn.1)
          cases b with
          | false =>
            injection hstep with ho hg
            subst ho hg
            rw [if_neg Bool.false_ne_true]
            refine ⟨vs, acc, g3, hD3, (h2.ext e1).ext e3, G3, fun a o ha hc hm => e3 a o (e1 a o (h4 a o ha hc hm) hc) hc, (h5.trans (extC e1)).trans (extC e3), (E1.ext e3), by omega, h8⟩
          | true =>
            rw [if_pos rfl]
            refine ⟨C'.M, ?_⟩
            rw [hCM]
            refine ⟨ρ2, g3, E3, G3, ?_⟩
            have hstep : ((den F elt ρ2 g3).bind fun y g => Res.ok (some y) g) = .ok o g2 := hstep
            revert hstep
            cases den F elt ρ2 g3 with
            | bad => exact fun z => nomatch z
            | exc c g => exact fun z => nomatch z
            | ok y g4 =>
              intro hstep v H4 e4 G4 r4
              injection hstep with ho hg
              subst ho hg
              have hD4 := e4 D _ hD3 (by rw [hcup]; exact hDn.1)
              have l4 := ((h2.ext e1).ext e3).ext e4
              have hl := l4.len
              have em : ExtM C' H4 (upd H4 D (.lst (vs ++ [v]))) := fun a o ha hc hm => by
                rw [upd_ne (fun z => by subst z; exact hm (by rw [hMe]; exact List.mem_cons_self))]
                exact ha
              refine ⟨vs, hD4, by omega, vs ++ [v], acc ++ [y], g4, upd_same, (l4.append (.cons r4 .nil)).extM em, ?_, ?_, ?_, ((E1.ext e3).ext e4).extM em, by rw [List.length_append, List.length_singleton]; omega, h8⟩
              · refine ⟨fun a ha => ?_, fun a ha => ?_⟩
                · by_cases z : a = D
                  · subst z; rw [upd_same]; exact fun z => nomatch z
                  · rw [upd_ne z]; exact G4.1 a ha
                · obtain ⟨ws, w1, w2⟩ := G4.2 a ha
                  refine ⟨ws, by rw [upd_ne (fun z => by subst z; rw [hcup] at ha; exact hDn.1 ha)]; exact w1, w2.extM em⟩
              · intro a o ha hc hm
                exact em a o (e4 a o (e3 a o (e1 a o (h4 a o ha hc hm) hc) hc) hc) hc hm
              · intro a o ha hc
                have z : a ≠ D := fun z => by subst z; rw [hD] at ha; cases ha
                rw [upd_ne z]
                exact extC e4 a o (extC e3 a o (extC e1 a o (h5 a o ha hc) hc) hc) hc
        | _ => exact nomatch hstep
  · rintro H ⟨vs, acc, g, h1, h2, h3, h4, h5, h6, h7, h8⟩
    rw [List.drop_length] at h8
    have h8 : ∀ (D : Addr) (H' : Hp) (vs : List V), H1 D = none → H' D = some (.lst vs) → RpL { C with M := D :: C.M } H' vs acc → acc.length ≤ sizeLine → Ext C H1 H' → GR C g H' → Q (.ref D) H' := h8
    have less : ∀ a ∈ C.M, a ∈ D :: C.M := fun a ha => List.mem_cons_of_mem _ ha
    rw [← hC] at h2 h3
    refine h8 D H vs hD h1 h2 (by omega) h5 ⟨fun a ha => h3.1 a (less a ha), fun a ha => ?_⟩
    obtain ⟨ws, w1, w2⟩ := h3.2 a ha
    exact ⟨ws, w1, w2.less less⟩
end R
namespace R
open PySem PySem.Spec PyProof.Rows L2
theorem lcGo_exc {step : Dat → Mo (Option Dat)} : ∀ (ds acc g : List Dat) (c : Nat) (g' : List Dat), lcGo step acc ds g ≠ .exc c g'
  | [], acc, g, c, g' => fun h => by unfold lcGo at h; cases h
  | d :: ds, acc, g, c, g' => fun h => by
    rw [lcGo_cons] at h
    cases hs : step d g with
    | ok o g1 =>
      rw [hs] at h
      cases o with
      | none => exact lcGo_exc ds acc g1 c g' h
      | some y => exact lcGo_exc ds (acc ++ [y]) g1 c g' h
    | exc c g1 => rw [hs] at h; cases h
    | bad => rw [hs] at h; cases h
theorem lc_reading {X : Cx} {C : Cfg} {W : WX} {F : Nat → List Dat → Mo Dat} {elt src cond : Ex} {tg : Tg} {own : List Nat} {σ : L2.St} {H : Hp} {Q : VK} (htg : ∀ i ∈ slots tg, i ∈ own)
    (q : tD C W (den F (.lc elt tg src cond own)) σ H Q) : tLc (tI C W (den F src)) (gB C tg) (ttB C F cond) (teB C F elt) own σ H Q := by
  obtain ⟨ρ, g, E, G, q⟩ := q
  rw [den_lc] at q
  refine ⟨ρ, g, E, G, ?_⟩
  revert q
  cases den F src ρ g with
  | bad => exact fun q => q
  | exc c g1 => exact fun q => q
  | ok d g1 =>
    intro q
    have q : RunE C W ((ofO (itemsD d) g1).bind fun ds g => (lcGo (lcStep F elt tg cond (wipeD ρ own)) [] ds g).bind fun ys g => .ok (.lst ys) g) σ H Q := q
    show match itemsD d with | none => False | some ds => _
    cases hi : itemsD d with
    | none => rw [hi] at q; exact q.elim
    | some ds =>
      rw [hi] at q
      intro J H1 e1 G1 hw D hD
      refine lc_run (X := X) hw (E.ext e1) G1 hD htg ?_
      have q : RunE C W ((lcGo (lcStep F elt tg cond (wipeD ρ own)) [] ds g1).bind fun ys g => .ok (.lst ys) g) σ H Q := q
      have hne := lcGo_exc (step := lcStep F elt tg cond (wipeD ρ own)) ds [] g1
      revert q hne
      cases lcGo (lcStep F elt tg cond (wipeD ρ own)) [] ds g1 with
      | ok ys g2 => exact fun q _ D H' vs hD hv hl hz e G => q _ H' (e1.trans e) G (.lst ⟨.inl hv, G1.ne hD⟩ hz (hl.less fun a ha => List.mem_cons_of_mem _ ha))
      | exc c g2 => exact fun _ hne => (hne c g2 rfl).elim
      | bad => exact fun q _ => q
structure LcOk (c : Ctx) (elt tgE iter : Expr) (ifs : List Expr) (scope : Scope) (own : List (Str × Nat)) (elt' : Ex) (tg : Tg) (src cond : Ex) : Prop where
  hi : SemI c tgE iter src
  ok : blkC c.N c.sc scope own = true
  hg : SemG (c.inBlk scope) tgE tg
  hc : SemC (c.inBlk scope) ifs cond
  he : Sem (c.inBlk scope) elt elt'
  hs : (slots tg).all (fun i => (own.map (·.2)).contains i) = true
theorem LcOk.sub {c : Ctx} {elt tgE iter : Expr} {ifs : List Expr} {scope : Scope} {own : List (Str × Nat)} {elt' : Ex} {tg : Tg} {src cond : Ex} (L : LcOk c elt tgE iter ifs scope own elt' tg src cond) : ∀ i ∈ slots tg, i ∈ own.map (·.2) := fun i hi => by
  have := List.all_eq_true.mp L.hs i hi
  simpa using this
section
variable {c : Ctx} {elt tgE iter : Expr} {ifs : List Expr} {scope : Scope} {own : List (Str × Nat)} {elt' : Ex} {tg : Tg} {src cond : Ex} {X : Cx} {C : Cfg} {W : WX} {F : Nat → List Dat → Mo Dat} {k : Nat}
theorem LcOk.pg (L : LcOk c elt tgE iter ifs scope own elt' tg src cond) (M : Mt X c C W F k) : ∀ (s : Shared) (H : Hp) (Cc : Addr) (cl : List (Str × Addr)) (fp : List Addr), PG (X.blk s H scope (compEnvC scope cl Cc X.env) fp) tgE (gB C tg) := fun s H Cc cl fp =>
  ⟨fun pins s' σ H' v u Q I r ⟨M', q⟩ => (L.hg.1 _ _ _ _ _ (mt_blk M s H scope Cc cl fp M')).run pins s' σ H' v u Q I r q⟩
theorem LcOk.pt (L : LcOk c elt tgE iter ifs scope own elt' tg src cond) (M : Mt X c C W F k) : ∀ (s : Shared) (H : Hp) (Cc : Addr) (cl : List (Str × Addr)) (fp : List Addr), PTs (X.blk s H scope (compEnvC scope cl Cc X.env) fp) ifs (ttB C F cond) := fun s H Cc cl fp =>
  ⟨fun pins s' σ H' Q I ⟨M', q⟩ => (L.hc _ _ _ _ _ (mt_blk M s H scope Cc cl fp M')).run pins s' σ H' Q I q⟩
theorem LcOk.pe (L : LcOk c elt tgE iter ifs scope own elt' tg src cond) (M : Mt X c C W F k) : ∀ (s : Shared) (H : Hp) (Cc : Addr) (cl : List (Str × Addr)) (fp : List Addr), PE (X.blk s H scope (compEnvC scope cl Cc X.env) fp) elt (teB C F elt') := fun s H Cc cl fp =>
  ⟨fun pins s' σ H' Q I ⟨M', q⟩ => (L.he.run _ _ _ _ _ (mt_blk M s H scope Cc cl fp M')).run pins s' σ H' Q I q⟩
theorem LcOk.blk (L : LcOk c elt tgE iter ifs scope own elt' tg src cond) (M : Mt X c C W F k) : BlkOk X.N X.env.scope scope own := by
  rw [M.N, M.sc]
  exact blkOk_by L.ok
theorem sem_lc (L : LcOk c elt tgE iter ifs scope own elt' tg src cond) {pos : Pos} : Sem c (.ListComp elt [⟨tgE, iter, ifs, 0⟩] scope pos) (.lc elt' tg src cond (own.map (·.2))) :=
  ⟨fun X C W F k M => pe_mono (pe_lc M.calm (by rw [M.N]; exact M.nd) (L.hi.run X C W F k M) (L.blk M) (L.pg M) (L.pt M) (L.pe M) (L.hi.ns _)) fun σ H Q q => lc_reading (X := X) L.sub q, rfl⟩
end
end R
set_option Elab.async false
set_option linter.all false
set_option maxRecDepth 100000
set_option maxHeartbeats 4000000
/-! Pairs as what is walked. -/
namespace R
open PySem PySem.Spec PyProof.Rows L2

theorem pairsD_get {xs ys : List Dat} {i : Nat} {x y : Dat} (h1 : xs[i]? = some x) (h2 : ys[i]? = some y) : (pairsD xs ys)[i]? = some (.tup [x, y]) := by
  unfold pairsD
  rw [List.getElem?_zipWith, h1, h2]
theorem pairsD_len {xs ys : List Dat} : (pairsD xs ys).length = min xs.length ys.length := by
  unfold pairsD
  rw [List.length_zipWith]
theorem walkD_pair {C : Cfg} {J : It} {xs ys : List Dat} {vs ws : List V} {H0 : Hp} {G : Hp → Prop} (hz : xs.length ≤ sizeLine) (r : RpL C H0 vs xs) (s : RpL C H0 ws ys) (w : Walk J (min vs.length ws.length) G (YPair (fun i => vs[i]?) (fun i => ws[i]?)))
    (hG : ∀ M' H, (∀ a ∈ M', a ∉ C.M → H0 a = none) → ExtM { C with M := M' } H0 H → G H) : WalkD C J (pairsD xs ys) H0 := by
  refine ⟨by rw [pairsD_len]; omega, fun M' h1 h2 => ?_⟩
  rw [pairsD_len, ← r.len, ← s.len]
  refine w.mono (fun H e => hG M' H h2 e) fun i H x H' hi e y g G' => ?_
  obtain ⟨T, x1, y1, rfl, hT, rfl, hx, hy⟩ := y
  obtain ⟨d1, k1, rd1⟩ := r.get' hx
  obtain ⟨d2, k2, rd2⟩ := s.get' hy
  have e2 : Ext { C with M := M' } H (upd H T (.tup [x1, y1])) := Ext.new hT
  refine ⟨e2, G'.new hT, .tup [d1, d2], pairsD_get k1 k2, .tup (.inl ⟨upd_same, G'.ne hT⟩) (by show 2 ≤ sizeLine; decide) (.cons (((rd1.more h2).extM e).ext e2) (.cons (((rd2.more h2).extM e).ext e2) .nil))⟩
end R
set_option Elab.async false
set_option linter.all false
set_option maxRecDepth 100000
set_option maxHeartbeats 4000000
/-! enumerate and zip over lists, tuples, texts. -/
namespace R
open PySem PySem.Spec PyProof.Rows L2

/-- what is gone over -/
inductive Sk where
  | lst (a : Addr) | tup (a : Addr) | str (x : Str)
def Sk.v : Sk → V
  | .lst a => .ref a
  | .tup a => .ref a
  | .str x => .str x
def Sk.u : Sk → Tok → Value
  | .lst a, _ => .ref a
  | .tup a, _ => .ref a
  | .str x, t => .str x t
def Sk.ob : Sk → Tok → Obj
  | .lst a, _ => { cls := .type "list_iterator", data := .fields #[.ref a, .int 0 0] }
  | .tup a, _ => { cls := .type "tuple_iterator", data := .fields #[.ref a, .int 0 0] }
  | .str x, t => { cls := .type (strIterType x), data := .fields #[.str x t, .int 0 0] }
def Sk.fp : Sk → List Addr
  | .lst a => [a]
  | .tup a => [a]
  | .str _ => []
def Sk.it : Sk → Tok → Addr → Nat → Heap → Prop
  | .lst a, _, I, i, h => h.IsListIter I a i
  | .tup a, _, I, i, h => h.IsTupleIter I a i
  | .str x, t, I, i, h => h.IsStrIter I (strIterType x) x t i
def Sk.has (K : PySem.W.Frag) : Sk → Hp → List V → Prop
  | .lst a, H, vs => SqL K H a vs
  | .tup a, H, vs => SqT K H a vs
  | .str x, _, vs => vs = x.cps.toList.map fun c => V.str ⟨#[c]⟩
theorem Sk.rel {k : Sk} {u : Value} (r : RelV k.v u) : ∃ t, u = k.u t := by
  cases k with
  | lst a => exact ⟨0, r⟩
  | tup a => exact ⟨0, r⟩
  | str x => exact r
theorem Sk.it_obj {k : Sk} {t : Tok} {I : Addr} {i : Nat} {h : Heap} (x : k.it t I i h) : ∃ o, h.get? I = some o ∧ ∃ vs, o.data = .fields vs := by
  cases k with
  | lst a => obtain ⟨o, ho, _, hd⟩ := x; exact ⟨o, ho, _, hd⟩
  | tup a => obtain ⟨o, ho, _, hd⟩ := x; exact ⟨o, ho, _, hd⟩
  | str a => obtain ⟨o, ho, _, hd⟩ := x; exact ⟨o, ho, _, hd⟩
theorem Sk.it_at {k : Sk} {t : Tok} {I : Addr} {i : Nat} {h h' : Heap} (x : k.it t I i h) (e : ∀ o, h.get? I = some o → h'.get? I = some o) : k.it t I i h' := by
  cases k with
  | lst a => obtain ⟨o, ho, r⟩ := x; exact ⟨o, e o ho, r⟩
  | tup a => obtain ⟨o, ho, r⟩ := x; exact ⟨o, e o ho, r⟩
  | str a => obtain ⟨o, ho, r⟩ := x; exact ⟨o, e o ho, r⟩
theorem Sk.it_new {k : Sk} {t : Tok} {I : Addr} {h : Heap} (e : h.get? I = some (k.ob t)) : k.it t I 0 h := by
  cases k with
  | lst a => exact ⟨_, e, rfl, rfl⟩
  | tup a => exact ⟨_, e, rfl, rfl⟩
  | str a => exact ⟨_, e, rfl, rfl⟩
section
variable {X : Cx} {pins : List (Addr × Obj)} {σ : L2.St} {H : Hp} {s : Shared} {vs : List V}
theorem vals_back {vs : List V} {us : List Value} (r : Vals vs us) {i : Nat} {u : Value} (h : us[i]? = some u) : ∃ x, vs[i]? = some x ∧ RelV x u := by
  have hl : i < vs.length := by
    have := (List.getElem?_eq_some_iff.mp h).1
    rw [r.length]; exact this
  obtain ⟨u', h1, h2⟩ := r.get (List.getElem?_eq_getElem hl)
  rw [h] at h1
  cases h1
  exact ⟨_, List.getElem?_eq_getElem hl, h2⟩
theorem Sk.inj {k : Sk} (I : Inv X pins σ H s) {vs ws : List V} (h1 : k.has X.K H vs) (h2 : k.has X.K H ws) : vs = ws := by
  cases k with
  | lst a => exact I.list_inj h1 h2
  | tup a => exact I.tuple_inj h1 h2
  | str a => exact h1.trans h2.symm
/-- the model's iterator over it, one step -/
theorem Sk.draws {k : Sk} {A : Around} (hh : A.handled = none) (I : Inv X pins σ H s) (hk : k.has X.K H vs) (t : Tok) (it : Addr) (hn : it ∉ k.fp) :
    ∃ (Pv : Nat → Value → Prop) (St : Nat → Heap → Prop), Draws X.prog X.w A it (it :: k.fp) vs.length Pv St ∧ (∀ i, k.it t it i s.heap → St i s.heap) ∧ (∀ i h, St i h → k.it t it i h) ∧ ∀ i v, Pv i v → ∃ x, vs[i]? = some x ∧ RelV x v := by
  cases k with
  | lst a =>
    obtain ⟨its, rv, p, hz⟩ := I.list hk
    have hl := rv.length
    have D := Draws.list (prog := X.prog) (w := X.w) hh it a (fun e => hn (by rw [← e]; exact List.mem_cons_self)) its.toArray
    rw [List.size_toArray, ← hl] at D
    refine ⟨_, _, D, fun i h => ⟨h, p.isList⟩, fun i h q => q.1, fun i v hv => ?_⟩
    have hv : its[i]? = some v := by simpa using hv
    exact vals_back rv hv
  | tup a =>
    obtain ⟨its, rv, p, hz⟩ := I.tuple hk
    have hl := rv.length
    have D := Draws.tuple (prog := X.prog) (w := X.w) hh it a (fun e => hn (by rw [← e]; exact List.mem_cons_self)) its.toArray
    rw [List.size_toArray, ← hl] at D
    refine ⟨_, _, D, fun i h => ⟨h, p⟩, fun i h q => q.1, fun i v hv => ?_⟩
    have hv : its[i]? = some v := by simpa using hv
    exact vals_back rv hv
  | str x =>
    have D := Draws.text (prog := X.prog) (w := X.w) hh it x t
    have hl : x.cps.size = vs.length := by rw [show vs = _ from hk]; simp
    rw [hl] at D
    refine ⟨_, _, D, fun i h => h, fun i h q => q, fun i v hv => ?_⟩
    obtain ⟨c, u, h1, rfl⟩ := hv
    refine ⟨.str ⟨#[c]⟩, ?_, u, rfl⟩
    rw [show vs = _ from hk, List.getElem?_map, Array.getElem?_toList, h1] <;> rfl
end

/-! ### enumerate -/
def IteK (K : PySem.W.Frag) (k : Sk) : It :=
  ⟨fun i H => ∃ xs x, k.has K H xs ∧ xs[i]? = some x,
    fun i H v H' => ∃ T x, v = .ref T ∧ H T = none ∧ H' = upd H T (.tup [.int (i : Nat), x]) ∧ ∀ xs, k.has K H xs → xs[i]? = some x,
    fun i H => ∃ xs, k.has K H xs ∧ xs.length = i⟩
theorem turn_enumK {P : Program} {w : World} {K : PySem.W.Frag} {elts : List Expr} {kk : Nat} {tpos : Pos} (k : Sk) (t : Tok) (e it : Addr) (hei : e ≠ it) (hef : e ∉ k.fp) (hif : it ∉ k.fp) :
    Turn P w K (.Tuple elts kk tpos) (IteK K k) [e, it] e (fun i h => (∃ old, IsEnum h e it ((i : Nat) : Int) old) ∧ k.it t it i h) where
  mem := by simp
  obj := fun i h st b hb => by
    obtain ⟨⟨old, he⟩, hi⟩ := st
    have e' : b = e ∨ b = it := by simpa using hb
    rcases e' with z | z
    · rw [z]; exact ⟨_, he, fun v q => nomatch q⟩
    · obtain ⟨o, ho, vs, hd⟩ := Sk.it_obj hi
      rw [z]; exact ⟨o, ho, fun v q => by rw [hd] at q; cases q⟩
  keep := fun i h h' st c => let ⟨⟨old, he⟩, hi⟩ := st; ⟨⟨old, c e (by simp) _ he⟩, Sk.it_at hi fun o q => c it (by simp) o q⟩
  item := by
    intro X hP hw hK hc i pins s σ H E I hf st hg
    subst hP hw hK
    obtain ⟨⟨old, he⟩, hit⟩ := st
    obtain ⟨xs, x, hq, hx⟩ := hg
    obtain ⟨Pv, St, D, d1, d2, d3⟩ := Sk.draws (A := X.A.in1) (by rw [Around.in1_handled]; exact I.ok.hd hc) I hq t it hif
    have hlt : i < xs.length := (List.getElem?_eq_some_iff.mp hx).1
    have hel : e < s.heap.objs.size := Heap.lt_size he
    have hil : it < s.heap.objs.size := by obtain ⟨_, q, _⟩ := Sk.it_obj hit; exact Heap.lt_size q
    refine wpAny_pyNext_enum_itemD D he (d1 i hit) hlt hei (by simp [hei, hef]) fun u h' tk hu ho hst hT hsz hkeep => ?_
    obtain ⟨x', hx', ru⟩ := d3 i u hu
    obtain rfl : x = x' := Option.some.inj (hx.symm.trans hx')
    have hit' := d2 _ _ hst
    refine ⟨_, rfl, wpAny_letOwnedTupleGo_enum (s := { s with heap := h', toks := tk + 1 }) ho fun h'' he' sb => ?_⟩
    have hT2 : h''.get? s.heap.objs.size = some { cls := .type "tuple", data := .seq #[.int i tk, u] } := (sb.2 _ (Nat.ne_of_gt hel)).trans hT
    have new : ObjOk X.prog X.w (upd H s.heap.objs.size (.tup [.int (i : Nat), x])) h'' s.heap.objs.size (.tup [.int (i : Nat), x]) :=
      ⟨by show 2 ≤ sizeLine; decide, [.int i tk, u], .cons ⟨_, rfl⟩ (.cons ru .nil), ⟨_, hT2, rfl, _, rfl⟩⟩
    have I1 : Inv X pins σ (upd H s.heap.objs.size (.tup [.int (i : Nat), x])) { s with heap := h'', toks := tk + 1 } :=
      I.turnedNew (ch := [e, it]) (fun b ob hb q => (sb.2 b (fun z => hb (by simp [z]))).trans (hkeep b ob (fun z => hb (by simp [z])) (fun z => hb (by simp [z])) q)) hf (Nat.le_refl _) new
    refine ⟨.ref s.heap.objs.size, _, I1, rfl, ⟨_, x, rfl, I.hok.fresh (Nat.le_refl _), rfl, fun ys hy => by rw [Sk.inj I hy hq]; exact hx⟩, ⟨⟨u, ?_⟩, Sk.it_at hit' fun o q => (sb.2 it (Ne.symm hei)).trans q⟩, fun b hb => ?_⟩
    · have e1 : ((i + 1 : Nat) : Int) = (i : Int) + 1 := by omega
      rw [e1]; exact he'
    · have hb' : b < s.heap.objs.size := by
        have e' : b = e ∨ b = it := by simpa using hb
        rcases e' with z | z
        · rw [z]; exact hel
        · rw [z]; exact hil
      rw [upd_ne (Nat.ne_of_lt hb')]
      exact (hf b hb).1
  done := by
    intro X hP hw hK hc i pins s σ H E I hf st hg
    subst hP hw hK
    obtain ⟨⟨old, he⟩, hit⟩ := st
    obtain ⟨xs, hq, rfl⟩ := hg
    obtain ⟨Pv, St, D, d1, d2, d3⟩ := Sk.draws (A := X.A.in1) (by rw [Around.in1_handled]; exact I.ok.hd hc) I hq t it hif
    obtain ⟨f0, f1, f2, f3, f4, f5⟩ := hf it (by simp)
    exact wpAny_pyNext_enum_endD D he (d1 _ hit) fun h' eb => ⟨rfl, I.turned (t' := s.toks) (fun b o hb q => eb b o hb q) f0 f1 f3 f4 f5⟩
  self := fun A i s Q E st h => let ⟨⟨_, he⟩, _⟩ := st; wpAny_pyIter_enum he h
theorem Sk.begins (k : Sk) (t : Tok) {X : Cx} {pins : List (Addr × Obj)} {σ : L2.St} {H : Hp} {s : Shared} {vs : List V} (I : Inv X pins σ H s) (hk : k.has X.K H vs) : ∃ Hh : Heap → Prop, Begins (k.u t) (k.ob t) Hh ∧ Hh s.heap ∧ ∀ b ∈ k.fp, b < s.heap.objs.size := by
  cases k with
  | lst a =>
    obtain ⟨its, rv, p, hz⟩ := I.list hk
    exact ⟨_, begins_list a its.toArray, p.isList, fun b hb => by rw [List.mem_singleton.mp hb]; exact p.lt⟩
  | tup a =>
    obtain ⟨its, rv, p, hz⟩ := I.tuple hk
    exact ⟨_, begins_tuple a its.toArray, p, fun b hb => by rw [List.mem_singleton.mp hb]; obtain ⟨o, ho, _⟩ := p; exact Heap.lt_size ho⟩
  | str x => exact ⟨_, begins_text x t, trivial, fun b hb => nomatch hb⟩
set_option maxHeartbeats 1000000 in
theorem enum_new1 {v : Value} {o : Obj} {Hh : Heap → Prop} (B : Begins v o Hh) :
    Meets (Builtin.«enumerate.__new__» ⟨[.type "enumerate", v], []⟩) (fun _ R s => Hh s.heap ∧
      R (.ok (.ret (.ref (s.heap.push o).objs.size))) { s with heap := (s.heap.push o).push { cls := .type "enumerate", data := .fields #[.none, .bool false, .ref s.heap.objs.size, rawInt 0, .none, .none] } }) :=
  .of_wp fun prog w A R s h => by
    obtain ⟨hp, g, d, tk, os⟩ := s
    obtain ⟨h1, h⟩ := h
    have hsub := sub_enumerate
    have q1 : ∀ {A' : Around} {E : Value → Shared → Prop} {Q : Value → Shared → Prop}, Q (.ref hp.objs.size) ⟨hp.push o, g, d, tk, os⟩ → wpAny (model prog w) A' (pyIter v) Q E ⟨hp, g, d, tk, os⟩ :=
      fun q => B.iter prog w _ _ ⟨hp, g, d, tk, os⟩ _ h1 q
    wp_walk using q1
    refine wpAny_stack_any fun st => wpAny_pure ?_
    split
    · rename_i c _ _ _ _ _
      cases (c == Value.type "enumerate") <;> (wp_walk using q1; exact ⟨_, rfl, h⟩)
    · wp_walk using q1
      exact ⟨_, rfl, h⟩
theorem enum_call1 {prog : Program} {w : World} {A : Around} {E : Value → Shared → Prop} {s : Shared} {v : Value} {o : Obj} {Hh : Heap → Prop} {Q : Value → Shared → Prop} (B : Begins v o Hh) (h1 : Hh s.heap)
    (h : ∀ h', IsEnum h' (s.heap.objs.size + 1) s.heap.objs.size 0 .none → h'.get? s.heap.objs.size = some o → (∀ b o, s.heap.get? b = some o → h'.get? b = some o) → Q (.ref (s.heap.objs.size + 1)) { s with heap := h' }) :
    wpAny (model prog w) A (call (.type "enumerate") [v]) Q E s := by
  refine callType_new F.called_enumerate (by decide) (F.typeCall_enumerate_1 _) (F.newCall_enumerate_1 _) (fun obj => F.args_object_init_2 obj _) F.entry_enumerate_new (enum_new1 B) ⟨h1, ?_⟩
  have hz : (s.heap.push o).objs.size = s.heap.objs.size + 1 := Heap.size_push ..
  show _ ∧ _
  rw [hz]
  have he : IsEnum ((s.heap.push o).push { cls := .type "enumerate", data := .fields #[.none, .bool false, .ref s.heap.objs.size, rawInt 0, .none, .none] }) (s.heap.objs.size + 1) s.heap.objs.size 0 .none := by
    have q := Heap.get?_push_size (s.heap.push o) (o := { cls := .type "enumerate", data := .fields #[.none, .bool false, .ref s.heap.objs.size, rawInt 0, .none, .none] }) rfl
    rw [hz] at q
    exact q
  exact ⟨⟨_, he, rfl⟩, h _ he (Heap.get?_push_of_some _ (Heap.get?_push_size _ B.free)) fun b o x => Heap.get?_push_of_some _ (Heap.get?_push_of_some _ x)⟩
def iEnumK (K : PySem.W.Frag) (ta : TA) : TI := fun σ H R => ta σ H fun vs H1 => ∃ (k : Sk) (xs : List V), vs = [k.v] ∧ k.has K H1 xs ∧ R (IteK K k) H1
theorem pi_enumK {X : Cx} {e : Expr} {ta : TA} {p pos tpos : Pos} {elts : List Expr} {kk : Nat} (hg : Gl X "enumerate") (hm : X.mg "enumerate" = none) (ha : PA X [e] ta) (hs : starEach [e] X.env = [(false, eval e X.env)]) :
    PI X (.Tuple elts kk tpos) (.Call (.Name "enumerate" p) [e] [] pos) (iEnumK X.K ta) := by
  refine ⟨fun pins s σ H R I h => ?_⟩
  refine Call_ (ld_blt I hg hm boot_enumerate (PyProof.Rows.callWith_type1 (thn (ha.run pos pins s σ H _ I h) fun us s1 ⟨vs, H1, I1, r1, q1⟩ => ?_) hs rfl))
  obtain ⟨k, xs, ex, hq, q⟩ := q1
  subst ex
  cases r1 with
  | cons r rr =>
    cases rr
    obtain ⟨t, rfl⟩ := Sk.rel r
    obtain ⟨Hh, B, b1, b2⟩ := k.begins t I1 hq
    refine enum_call1 B b1 fun h' he hob hk => wpAny_pyIter_enum he ?_
    have I2 : Inv X pins σ H1 { s1 with heap := h' } := I1.kept (t' := s1.toks) hk
    refine ⟨s1.heap.objs.size + 1, [s1.heap.objs.size + 1, s1.heap.objs.size], _, _, H1, rfl, I2, turn_enumK k t (s1.heap.objs.size + 1) s1.heap.objs.size (Nat.succ_ne_self _) (fun z => absurd (b2 _ z) (Nat.not_lt_of_le (Nat.le_succ _))) (fun z => absurd (b2 _ z) (Nat.lt_irrefl _)), ⟨⟨.none, he⟩, Sk.it_new hob⟩, fun b hb => ?_, q⟩
    have e' : b = s1.heap.objs.size + 1 ∨ b = s1.heap.objs.size := by simpa using hb
    have hle : s1.heap.objs.size ≤ b := by
      rcases e' with z | z
      · rw [z]; exact Nat.le_add_right _ _
      · rw [z]; exact Nat.le_refl _
    exact I1.fpOk hle (I1.hok.fresh hle)

/-! ### zip -/
def ItzK (K : PySem.W.Frag) (k l : Sk) : It :=
  ⟨fun i H => ∃ (xs ys : List V) (x y : V), k.has K H xs ∧ l.has K H ys ∧ xs[i]? = some x ∧ ys[i]? = some y,
    fun i H v H' => ∃ T x y, v = .ref T ∧ H T = none ∧ H' = upd H T (.tup [x, y]) ∧ (∀ xs, k.has K H xs → xs[i]? = some x) ∧ ∀ ys, l.has K H ys → ys[i]? = some y,
    fun i H => ∃ xs ys : List V, k.has K H xs ∧ l.has K H ys ∧ i = min xs.length ys.length⟩
theorem turn_zipK {P : Program} {w : World} {K : PySem.W.Frag} {elts : List Expr} {kk : Nat} {tpos : Pos} (k l : Sk) (t u : Tok) {z TI TO i1 i2 : Addr} (S : ZipSep2 z TI TO i1 i2 (i1 :: k.fp) (i2 :: l.fp)) (h1 : i1 ∉ k.fp) (h2 : i2 ∉ l.fp) :
    Turn P w K (.Tuple elts kk tpos) (ItzK K k l) [z, TI, TO, i1, i2] z (fun i h => IsZip h z TI TO .none ∧ IsTupOf2 h TI (.ref i1) (.ref i2) ∧ (∃ x y, IsTupOf2 h TO x y) ∧ k.it t i1 i h ∧ l.it u i2 i h) where
  mem := by simp
  obj := fun i h st c hc => by
    obtain ⟨hz, hTI, ⟨x, y, hTO⟩, q1, q2⟩ := st
    have e' : c = z ∨ c = TI ∨ c = TO ∨ c = i1 ∨ c = i2 := by simpa using hc
    rcases e' with q | q | q | q | q
    · rw [q]; exact ⟨_, hz, fun v q => nomatch q⟩
    · rw [q]; exact ⟨_, hTI, fun v q => nomatch q⟩
    · rw [q]; exact ⟨_, hTO, fun v q => nomatch q⟩
    · obtain ⟨o, ho, vs, hd⟩ := Sk.it_obj q1
      rw [q]; exact ⟨o, ho, fun v q => by rw [hd] at q; cases q⟩
    · obtain ⟨o, ho, vs, hd⟩ := Sk.it_obj q2
      rw [q]; exact ⟨o, ho, fun v q => by rw [hd] at q; cases q⟩
  keep := fun i h h' st c => by
    obtain ⟨hz, hTI, ⟨x, y, hTO⟩, q1, q2⟩ := st
    exact ⟨c z (by simp) _ hz, c TI (by simp) _ hTI, ⟨x, y, c TO (by simp) _ hTO⟩, Sk.it_at q1 fun o q => c i1 (by simp) o q, Sk.it_at q2 fun o q => c i2 (by simp) o q⟩
  item := by
    intro X hP hw hK hc i pins s σ H E I hf st hg
    subst hP hw hK
    obtain ⟨hz, hTI, ⟨x0, y0, hTO⟩, q1, q2⟩ := st
    obtain ⟨xs, ys, x, y, hqx, hqy, hx, hy⟩ := hg
    have hh : X.A.in1.handled = none := by rw [Around.in1_handled]; exact I.ok.hd hc
    obtain ⟨P1, S1, D1, a1, a2, a3⟩ := Sk.draws hh I hqx t i1 h1
    obtain ⟨P2, S2, D2, c1, c2, c3⟩ := Sk.draws hh I hqy u i2 h2
    have l1 : i < xs.length := (List.getElem?_eq_some_iff.mp hx).1
    have l2 : i < ys.length := (List.getElem?_eq_some_iff.mp hy).1
    have hzl : z < s.heap.objs.size := Heap.lt_size hz
    refine wpAny_pyNext_zipD2_item S D1 D2 hz hTI hTO (a1 i q1) (c1 i q2) l1 l2 fun u1 u2 h' tk w1 w2 z' TO' s1' s2' hT hsz hk => ?_
    obtain ⟨x', hx', r1⟩ := a3 i u1 w1
    obtain rfl : x = x' := Option.some.inj (hx.symm.trans hx')
    obtain ⟨y', hy', r2⟩ := c3 i u2 w2
    obtain rfl : y = y' := Option.some.inj (hy.symm.trans hy')
    have q1' := a2 _ _ s1'
    have q2' := c2 _ _ s2'
    refine ⟨_, rfl, wpAny_letOwnedTupleGo_zip (s := { s with heap := h', toks := tk }) z' fun h'' z'' sb => ?_⟩
    have hT2 : h''.get? s.heap.objs.size = some { cls := .type "tuple", data := .seq #[u1, u2] } := (sb.2 _ (Nat.ne_of_gt hzl)).trans hT
    have new : ObjOk X.prog X.w (upd H s.heap.objs.size (.tup [x, y])) h'' s.heap.objs.size (.tup [x, y]) :=
      ⟨by show 2 ≤ sizeLine; decide, [u1, u2], .cons r1 (.cons r2 .nil), ⟨_, hT2, rfl, _, rfl⟩⟩
    have I1 : Inv X pins σ (upd H s.heap.objs.size (.tup [x, y])) { s with heap := h'', toks := tk } :=
      I.turnedNew (ch := [z, TI, TO, i1, i2]) (fun c o hb q => (sb.2 c (fun q' => hb (by simp [q']))).trans (hk c o (fun q' => hb (by simp [q'])) (fun q' => hb (by simp [q'])) (fun q' => hb (by simp [q'])) (fun q' => hb (by simp [q'])) q)) hf (Nat.le_refl _) new
    refine ⟨.ref s.heap.objs.size, _, I1, rfl, ⟨_, x, y, rfl, I.hok.fresh (Nat.le_refl _), rfl, fun l hl => by rw [Sk.inj I hl hqx]; exact hx, fun l hl => by rw [Sk.inj I hl hqy]; exact hy⟩, ⟨z'', ?_, ⟨u1, u2, ?_⟩, ?_, ?_⟩, fun c hcm => ?_⟩
    · exact (sb.2 _ S.TIz).trans (hk _ _ S.TIz S.TITO S.TIi1 S.TIi2 hTI)
    · exact (sb.2 _ S.TOz).trans TO'
    · exact Sk.it_at q1' fun o q => (sb.2 _ (Ne.symm S.zi1)).trans q
    · exact Sk.it_at q2' fun o q => (sb.2 _ (Ne.symm S.zi2)).trans q
    · have hlt : c < s.heap.objs.size := by
        have e' : c = z ∨ c = TI ∨ c = TO ∨ c = i1 ∨ c = i2 := by simpa using hcm
        rcases e' with q | q | q | q | q
        · rw [q]; exact hzl
        · rw [q]; exact Heap.lt_size hTI
        · rw [q]; exact Heap.lt_size hTO
        · rw [q]; obtain ⟨_, e1, _⟩ := Sk.it_obj q1; exact Heap.lt_size e1
        · rw [q]; obtain ⟨_, e2, _⟩ := Sk.it_obj q2; exact Heap.lt_size e2
      rw [upd_ne (Nat.ne_of_lt hlt)]
      exact (hf c hcm).1
  done := by
    intro X hP hw hK hc i pins s σ H E I hf st hg
    subst hP hw hK
    obtain ⟨hz, hTI, ⟨x0, y0, hTO⟩, q1, q2⟩ := st
    obtain ⟨xs, ys, hqx, hqy, hend⟩ := hg
    have hh : X.A.in1.handled = none := by rw [Around.in1_handled]; exact I.ok.hd hc
    obtain ⟨P1, S1, D1, a1, a2, a3⟩ := Sk.draws hh I hqx t i1 h1
    obtain ⟨P2, S2, D2, c1, c2, c3⟩ := Sk.draws hh I hqy u i2 h2
    exact wpAny_pyNext_zipD2_end S D1 D2 hz hTI hTO (a1 i q1) (c1 i q2) (by omega) (by omega) (by omega) fun h' tk hk => ⟨rfl, I.turnedL (t' := tk) (ch := [z, TI, TO, i1, i2]) (fun c o hb q =>
      hk c o (fun q' => hb (by simp [q'])) (fun q' => hb (by simp [q'])) (fun q' => hb (by simp [q'])) (fun q' => hb (by simp [q'])) q) hf⟩
  self := fun A i s Q E st h => wpAny_pyIter_zip st.1 h
def iZipK (K : PySem.W.Frag) (ta : TA) : TI := fun σ H R => ta σ H fun vs H1 => ∃ (k l : Sk) (xs ys : List V), vs = [k.v, l.v] ∧ k.has K H1 xs ∧ l.has K H1 ys ∧ R (ItzK K k l) H1
theorem pi_zipK {X : Cx} {e e2 : Expr} {ta : TA} {p pos tpos : Pos} {elts : List Expr} {kk : Nat} (hg : Gl X "zip") (hm : X.mg "zip" = none) (ha : PA X [e, e2] ta)
    (hs : starEach [e, e2] X.env = (false, eval e X.env) :: starEach [e2] X.env) (hpl : (backTo pos (starEach [e2] X.env)).any (·.1) = false) :
    PI X (.Tuple elts kk tpos) (.Call (.Name "zip" p) [e, e2] [] pos) (iZipK X.K ta) := by
  refine ⟨fun pins s σ H R I h => ?_⟩
  refine Call_ (ld_blt I hg hm PyProof.Rows.boot_zip (PyProof.Rows.callWith_type1 (thn (ha.run pos pins s σ H _ I h) fun us s1 ⟨vs, H1, I1, r1, q1⟩ => ?_) hs hpl))
  obtain ⟨k, l, xs, ys, ex, hqx, hqy, q⟩ := q1
  subst ex
  cases r1 with
  | cons r rr =>
    cases rr with
    | cons r' rr =>
      cases rr
      obtain ⟨t, rfl⟩ := Sk.rel r
      obtain ⟨u, rfl⟩ := Sk.rel r'
      obtain ⟨H1h, B1, b1, b1l⟩ := k.begins t I1 hqx
      obtain ⟨H2h, B2, b2, b2l⟩ := l.begins u I1 hqy
      refine zip_begins2 B1 B2 b1 b2 fun h' hz hTI hTO o1 o2 hsz hk => wpAny_pyIter_zip hz ?_
      have I2 : Inv X pins σ H1 { s1 with heap := h' } := I1.kept (t' := s1.toks) hk
      refine ⟨s1.heap.objs.size + 4, [s1.heap.objs.size + 4, s1.heap.objs.size + 2, s1.heap.objs.size + 3, s1.heap.objs.size, s1.heap.objs.size + 1], _, _, H1, rfl, I2, turn_zipK k l t u (zip_sep2 b1l b2l) (fun z => absurd (b1l _ z) (Nat.lt_irrefl _)) (fun z => absurd (b2l _ z) (Nat.not_lt_of_le (Nat.le_succ _))), ⟨hz, hTI, ⟨_, _, hTO⟩, Sk.it_new o1, Sk.it_new o2⟩, fun c hcm => ?_, q⟩
      have e' : c = s1.heap.objs.size + 4 ∨ c = s1.heap.objs.size + 2 ∨ c = s1.heap.objs.size + 3 ∨ c = s1.heap.objs.size ∨ c = s1.heap.objs.size + 1 := by simpa using hcm
      have hle : s1.heap.objs.size ≤ c := by
        rcases e' with z | z | z | z | z <;> rw [z] <;> first | exact Nat.le_add_right _ _ | exact Nat.le_refl _
      exact I1.fpOk hle (I1.hok.fresh hle)

/-! ### as sources of the plain data -/
theorem walk_enumK {K : PySem.W.Frag} {k : Sk} {xs : List V} {ws : List V} (hw : ws = (List.range xs.length).map fun (i : Nat) => V.int (i : Int)) : Walk (IteK K k) (min ws.length xs.length) (fun H => k.has K H xs) (YPair (fun i => ws[i]?) (fun i => xs[i]?)) := by
  have hl : ws.length = xs.length := by rw [hw]; simp
  refine ⟨fun i _ hi q => ⟨xs, xs[i]'(by omega), q, by simp⟩, fun _ q => ⟨xs, q, by omega⟩, fun i H v H' hi q y => ?_⟩
  obtain ⟨T, x, h1, h2, h3, h4⟩ := y
  refine ⟨T, .int (i : Nat), x, h1, h2, h3, ?_, h4 xs q⟩
  show ws[i]? = _
  rw [hw, List.getElem?_map, List.getElem?_range (by omega)] <;> rfl
theorem walk_zipK {K : PySem.W.Frag} {k l : Sk} {xs ys : List V} : Walk (ItzK K k l) (min xs.length ys.length) (fun H => k.has K H xs ∧ l.has K H ys) (YPair (fun i => xs[i]?) (fun i => ys[i]?)) := by
  refine ⟨fun i _ hi q => ?_, fun _ q => ⟨xs, ys, q.1, q.2, rfl⟩, fun i H v H' _ q y => ?_⟩
  · have h1 : i < xs.length := by omega
    have h2 : i < ys.length := by omega
    exact ⟨xs, ys, xs[i], ys[i], q.1, q.2, by simp [h1], by simp [h2]⟩
  · obtain ⟨T, x, z, h1, h2, h3, h4, h5⟩ := y
    exact ⟨T, x, z, h1, h2, h3, h4 xs q.1, h5 ys q.2⟩
/-- the value bears data whose items are ds: it is one of what is gone over, and stays so -/
theorem Rp.src {C : Cfg} {H : Hp} {v : V} {d : Dat} {ds : List Dat} (r : Rp C H v d) (h : partsD d = some ds) : ∃ (k : Sk) (xs : List V), v = k.v ∧ k.has C.K H xs ∧ RpL C H xs ds ∧ ds.length ≤ sizeLine ∧ ∀ M' H', (∀ a ∈ M', a ∉ C.M → H a = none) → ExtM { C with M := M' } H H' → k.has C.K H' xs := by
  cases d with
  | lst xs =>
    obtain ⟨a, vs, rfl, t, z, l⟩ := r.lst_inv
    cases h
    exact ⟨.lst a, vs, rfl, t.sq, l, z, fun M' H' h2 e => (e.lst (t.more h2)).sq⟩
  | tup xs =>
    obtain ⟨a, vs, rfl, t, z, l⟩ := r.tup_inv
    cases h
    exact ⟨.tup a, vs, rfl, t.sq, l, z, fun M' H' h2 e => (e.tup (t.more h2)).sq⟩
  | str s =>
    obtain ⟨x, rfl, rfl, hs⟩ := r.str_inv
    cases h
    have key : ∀ l : List Nat, (∀ c ∈ l, c ∈ x.cps.toList) → RpL C H (l.map fun c => V.str ⟨#[c]⟩) (l.map fun c => Dat.str [c]) := by
      intro l
      induction l with
      | nil => exact fun _ => .nil
      | cons c l ih =>
        intro hl
        refine .cons (.strL (l := [c]) ⟨by rw [sizeLine_eq]; show 1 ≤ _; decide, fun c' hc' => ?_⟩) (ih fun y hy => hl y (List.mem_cons_of_mem _ hy))
        have e : c' = c := by simpa using hc'
        rw [e]
        exact hs.2 c (hl c List.mem_cons_self)
    refine ⟨.str x, _, rfl, rfl, key x.cps.toList fun _ h => h, ?_, fun _ _ _ _ => rfl⟩
    rw [List.length_map, ← strlen]
    exact hs.1
  | _ => cases h
theorem ints_rp {C : Cfg} {H : Hp} : ∀ l : List Nat, RpL C H (l.map fun (i : Nat) => V.int (i : Int)) (l.map fun (i : Nat) => Dat.int (i : Int))
  | [] => .nil
  | i :: l => .cons (.int _) (ints_rp l)
theorem semI_enum {c : Ctx} {elts : List Expr} {kk : Nat} {tpos : Pos} {a : Expr} {a' : Ex} {p pos : Pos} (hg : kindB c.sc "enumerate" = some .globalImplicit) (ha : Sem c a a') : SemI c (.Tuple elts kk tpos) (.Call (.Name "enumerate" p) [a] [] pos) (.enum a') := by
  refine ⟨fun X C W F k M => ?_, fun _ _ => rfl⟩
  refine pi_mono (pi_enumK (show X.env.scope.names.lookup ("enumerate" : Str) = some .globalImplicit by rw [M.sc]; exact hg) (M.bi _ (by decide)) ((semL_one ha).run X C W F k M) (star_plain ha.plain)) fun σ H R ⟨ρ, g, E, G, q⟩ => ?_
  refine ⟨ρ, g, E, G, ?_⟩
  have hK := M.K
  revert q
  unfold den
  simp only [denL]
  cases den F a' ρ g with
  | bad => exact fun q => q
  | exc c g1 => exact fun q => q
  | ok x g1 =>
    intro q vs H1 e1 G1 l
    have q : (match (ofO ((enumD x).map Dat.lst) g1 : Res Dat) with | .ok d g1 => (match itemsD d with | none => False | some ds => ∀ J H1, Ext C H H1 → GR C g1 H1 → WalkD C J ds H1 → R J H1) | .exc c g1 => ∀ H', Ext C H H' → GR C g1 H' → W (C.ex c) none σ H' | .bad => False) := q
    unfold enumD at q
    cases hi : partsD x with
    | none => rw [hi] at q; exact q.elim
    | some xs =>
      rw [hi] at q
      have q : ∀ J H1, Ext C H H1 → GR C g1 H1 → WalkD C J (pairsD ((List.range xs.length).map fun (k : Nat) => Dat.int (k : Int)) xs) H1 → R J H1 := q
      cases l with
      | cons r1 l =>
        cases l
        obtain ⟨k, ys, rfl, hh, l1, z1, st⟩ := r1.src hi
        refine ⟨k, ys, rfl, by rw [hK]; exact hh, ?_⟩
        rw [hK]
        have hl := l1.len
        exact q _ H1 e1 G1 (walkD_pair (by simp; exact z1) (ints_rp _) l1 (walk_enumK (by rw [hl])) fun M' H2 h2 e2 => st M' H2 h2 e2)
theorem semI_zipK {c : Ctx} {elts : List Expr} {kk : Nat} {tpos : Pos} {a b : Expr} {a' b' : Ex} {p pos : Pos} (hg : kindB c.sc "zip" = some .globalImplicit) (ha : Sem c a a') (hb : Sem c b b') : SemI c (.Tuple elts kk tpos) (.Call (.Name "zip" p) [a, b] [] pos) (.zip a' b') := by
  refine ⟨fun X C W F k M => ?_, fun _ _ => rfl⟩
  refine pi_mono (pi_zipK (show X.env.scope.names.lookup ("zip" : Str) = some .globalImplicit by rw [M.sc]; exact hg) (M.bi _ (by decide)) ((semL_cons ha (semL_one hb)).run X C W F k M) (star_plain ha.plain) ((semL_one hb).plain _ _)) fun σ H R ⟨ρ, g, E, G, q⟩ => ?_
  refine ⟨ρ, g, E, G, ?_⟩
  have hK := M.K
  revert q
  unfold den
  simp only [denL]
  cases den F a' ρ g with
  | bad => exact fun q => q
  | exc c g1 => exact fun q => q
  | ok x g1 =>
    dsimp only [Res.bind]
    cases den F b' ρ g1 with
    | bad => exact fun q => q
    | exc c g1 => exact fun q => q
    | ok y g2 =>
      intro q vs H1 e1 G1 l
      have q : (match (ofO ((zipD x y).map Dat.lst) g2 : Res Dat) with | .ok d g1 => (match itemsD d with | none => False | some ds => ∀ J H1, Ext C H H1 → GR C g1 H1 → WalkD C J ds H1 → R J H1) | .exc c g1 => ∀ H', Ext C H H' → GR C g1 H' → W (C.ex c) none σ H' | .bad => False) := q
      unfold zipD at q
      cases hi : partsD x with
      | none => rw [hi] at q; exact q.elim
      | some xs =>
        cases hj : partsD y with
        | none => rw [hi, hj] at q; exact q.elim
        | some ys =>
          rw [hi, hj] at q
          have q : ∀ J H1, Ext C H H1 → GR C g2 H1 → WalkD C J (pairsD xs ys) H1 → R J H1 := q
          cases l with
          | cons r1 l =>
            cases l with
            | cons r2 l =>
              cases l
              obtain ⟨k, us, rfl, hh1, l1, z1, st1⟩ := r1.src hi
              obtain ⟨k2, ws, rfl, hh2, l2, z2, st2⟩ := r2.src hj
              refine ⟨k, k2, us, ws, rfl, by rw [hK]; exact hh1, by rw [hK]; exact hh2, ?_⟩
              rw [hK]
              exact q _ H1 e1 G1 (walkD_pair z1 l1 l2 walk_zipK fun M' H2 h2 e2 => ⟨st1 M' H2 h2 e2, st2 M' H2 h2 e2⟩)
end R
set_option Elab.async false
set_option linter.all false
set_option maxRecDepth 100000
set_option maxHeartbeats 4000000
/-! List comprehensions of two clauses. -/
namespace R
open PySem PySem.Spec PyProof.Rows L2

/-- one turn of the outer clause -/
def lcStep2 (F : Nat → List Dat → Mo Dat) (elt : Ex) (tg : Tg) (cond : Ex) (tg1 : Tg) (src1 cond1 : Ex) (own1 : List Nat) (ρ0 : Sl) (acc : List Dat) (d : Dat) : Mo (List Dat) := fun g => match bindT tg d ρ0 with
  | none => .bad
  | some ρ2 => (den F cond ρ2 g).bind fun x g => (asB x g).bind fun k g => match k with
    | true => (den F src1 ρ2 g).bind fun x g => (ofO (itemsD x) g).bind fun ds1 g => lcGoC (lcStep F elt tg1 cond1 (wipeD ρ2 own1)) acc ds1 g
    | false => .ok acc g
theorem den_lcc {F : Nat → List Dat → Mo Dat} {elt : Ex} {tg : Tg} {src cond : Ex} {tg1 : Tg} {src1 cond1 : Ex} {own own1 : List Nat} {ρ : Sl} {g : List Dat} :
    den F (.lc2 elt tg src cond tg1 src1 cond1 own own1) ρ g = (den F src ρ g).bind fun x g => (ofO (itemsD x) g).bind fun ds g => (lcGo2 (lcStep2 F elt tg cond tg1 src1 cond1 own1 (wipeD ρ own)) [] ds g).bind fun ys g => .ok (.lst ys) g := by
  conv => lhs; unfold den
  rfl
theorem lcGo2_cons {step : List Dat → Dat → Mo (List Dat)} {acc : List Dat} {d : Dat} {ds g : List Dat} : lcGo2 step acc (d :: ds) g = (step acc d g).noexc.bind fun a g1 => lcGo2 step a ds g1 := rfl
theorem lcGoC_cons {step : Dat → Mo (Option Dat)} {acc : List Dat} {d : Dat} {ds g : List Dat} : lcGoC step acc (d :: ds) g = (step d g).noexc.bind fun o g1 => match o with
    | some y => if acc.length < line then lcGoC step (acc ++ [y]) ds g1 else .bad
    | none => lcGoC step acc ds g1 := rfl
theorem lcGoC_exc {step : Dat → Mo (Option Dat)} : ∀ (ds acc g : List Dat) (c : Nat) (g' : List Dat), lcGoC step acc ds g ≠ .exc c g'
  | [], acc, g, c, g' => fun h => by unfold lcGoC at h; cases h
  | d :: ds, acc, g, c, g' => fun h => by
    rw [lcGoC_cons] at h
    cases hs : step d g with
    | ok o g1 =>
      rw [hs] at h
      cases o with
      | none => exact lcGoC_exc ds acc g1 c g' h
      | some y =>
        have h : (if acc.length < line then lcGoC step (acc ++ [y]) ds g1 else .bad) = Res.exc c g' := h
        split at h
        · exact lcGoC_exc ds (acc ++ [y]) g1 c g' h
        · cases h
    | exc c g1 => rw [hs] at h; cases h
    | bad => rw [hs] at h; cases h
theorem lcGo2_exc {step : List Dat → Dat → Mo (List Dat)} : ∀ (ds acc g : List Dat) (c : Nat) (g' : List Dat), lcGo2 step acc ds g ≠ .exc c g'
  | [], acc, g, c, g' => fun h => by unfold lcGo2 at h; cases h
  | d :: ds, acc, g, c, g' => fun h => by
    rw [lcGo2_cons] at h
    cases hs : step acc d g with
    | ok o g1 => rw [hs] at h; exact lcGo2_exc ds o g1 c g' h
    | exc c g1 => rw [hs] at h; cases h
    | bad => rw [hs] at h; cases h
def tIB (C : Cfg) (F : Nat → List Dat → Mo Dat) (src : Ex) : TI := fun σ H Q => ∃ M, tI { C with M := M } WNo (den F src) σ H Q
/-- what holds while the list D is filled: C' with D among what is changed -/
structure LcInv (C C' : Cfg) (H1 : Hp) (D : Addr) (H : Hp) (vs : List V) (acc g : List Dat) : Prop where
  at_ : H D = some (.lst vs)
  rp : RpL C' H vs acc
  gr : GR C' g H
  em : ExtM C' H1 H
  ex : Ext C H1 H
section
variable {C C' : Cfg} {H1 : Hp} {D : Addr}
theorem LcInv.ext {H H' : Hp} {vs : List V} {acc g g' : List Dat} (hC : ({ C with M := D :: C.M } : Cfg) = C') (hDn : C.cup ≠ some D) (J : LcInv C C' H1 D H vs acc g) (e : Ext C' H H') (G' : GR C' g' H') : LcInv C C' H1 D H' vs acc g' := by
  have hcup : C'.cup = C.cup := by rw [← hC]
  refine ⟨e D _ J.at_ (by rw [hcup]; exact hDn), J.rp.ext e, G', fun a o ha hc hm => e a o (J.em a o ha hc hm) hc, J.ex.trans fun a o ha hc => e a o ha (by rw [hcup]; exact hc)⟩
theorem LcInv.app {H : Hp} {vs : List V} {acc g : List Dat} {v : V} {y : Dat} (hC : ({ C with M := D :: C.M } : Cfg) = C') (hDn : C.cup ≠ some D) (hD : H1 D = none) (J : LcInv C C' H1 D H vs acc g) (r : Rp C' H v y) :
    LcInv C C' H1 D (upd H D (.lst (vs ++ [v]))) (vs ++ [v]) (acc ++ [y]) g ∧ ExtM C' H (upd H D (.lst (vs ++ [v]))) := by
  have hcup : C'.cup = C.cup := by rw [← hC]
  have hMe : C'.M = D :: C.M := by rw [← hC]
  have em : ExtM C' H (upd H D (.lst (vs ++ [v]))) := fun a o ha hc hm => by
    rw [upd_ne (fun z => by subst z; exact hm (by rw [hMe]; exact List.mem_cons_self))]
    exact ha
  refine ⟨⟨upd_same, (J.rp.append (.cons r .nil)).extM em, ⟨fun a ha => ?_, fun a ha => ?_⟩, fun a o ha hc hm => em a o (J.em a o ha hc hm) hc hm, fun a o ha hc => ?_⟩, em⟩
  · by_cases z : a = D
    · subst z; rw [upd_same]; exact fun z => nomatch z
    · rw [upd_ne z]; exact J.gr.1 a ha
  · obtain ⟨ws, w1, w2⟩ := J.gr.2 a ha
    refine ⟨ws, by rw [upd_ne (fun z => by subst z; rw [hcup] at ha; exact hDn ha)]; exact w1, w2.extM em⟩
  · have z : a ≠ D := fun z => by subst z; rw [hD] at ha; cases ha
    rw [upd_ne z]
    exact J.ex a o ha hc
/-- the start: the new list is empty -/
theorem LcInv.start {g : List Dat} (hC : ({ C with M := D :: C.M } : Cfg) = C') (G : GR C g H1) (hD : H1 D = none) : LcInv C C' H1 D (upd H1 D (.lst [])) [] [] g ∧ ExtM C' H1 (upd H1 D (.lst [])) := by
  have hDn := G.ne hD
  have hcup : C'.cup = C.cup := by rw [← hC]
  have hMe : C'.M = D :: C.M := by rw [← hC]
  have hM : ∀ a ∈ D :: C.M, a ∉ C.M → H1 a = none := fun a ha hn => by
    rcases List.mem_cons.mp ha with rfl | ha
    · exact hD
    · exact absurd ha hn
  have e0 : Ext C H1 (upd H1 D (.lst [])) := Ext.new hD
  have e1 : ExtM C' H1 (upd H1 D (.lst [])) := fun a o ha h2 h3 => e0 a o ha (by rw [← hcup]; exact h2)
  refine ⟨⟨upd_same, .nil, ⟨fun a ha => ?_, fun a ha => ?_⟩, e1, e0⟩, e1⟩
  · rw [hMe] at ha
    rcases List.mem_cons.mp ha with rfl | hm
    · rw [upd_same]; exact fun z => nomatch z
    · rw [upd_ne (fun z => by subst z; exact hDn.2 hm)]
      exact G.1 a hm
  · rw [hcup] at ha
    obtain ⟨vs, h1, h2⟩ := G.2 a ha
    have hne : a ≠ D := fun z => by subst z; exact hDn.1 ha
    refine ⟨vs, by rw [upd_ne hne]; exact h1, ?_⟩
    have h3 := RpG.more (M' := D :: C.M) hM h2
    rw [hC] at h3
    exact h3.extM e1
theorem LcInv.done {H : Hp} {vs : List V} {acc g : List Dat} {Q : VK} (hC : ({ C with M := D :: C.M } : Cfg) = C') (hDn : C.cup ≠ some D ∧ D ∉ C.M) (hDf : H1 D = none) (J : LcInv C C' H1 D H vs acc g) (hz : acc.length ≤ sizeLine) (q : LcEnd C H1 Q (.ok acc g)) : Q (.ref D) H := by
  have q : ∀ (D : Addr) (H' : Hp) (vs : List V), H1 D = none → H' D = some (.lst vs) → RpL { C with M := D :: C.M } H' vs acc → acc.length ≤ sizeLine → Ext C H1 H' → GR C g H' → Q (.ref D) H' := q
  have less : ∀ a ∈ C.M, a ∈ D :: C.M := fun a ha => List.mem_cons_of_mem _ ha
  have h2 := J.rp
  have h3 := J.gr
  rw [← hC] at h2 h3
  refine q D H vs hDf J.at_ h2 hz J.ex ⟨fun a ha => h3.1 a (less a ha), fun a ha => ?_⟩
  obtain ⟨ws, w1, w2⟩ := h3.2 a ha
  exact ⟨ws, w1, w2.less less⟩
end
theorem drop_at {α : Type} {ds : List α} {i : Nat} {d : α} (h : ds[i]? = some d) : ds.drop i = d :: ds.drop (i + 1) := by
  obtain ⟨hi, e⟩ := List.getElem?_eq_some_iff.mp h
  rw [List.drop_eq_getElem_cons hi, e]
theorem lc2_run {X : Cx} {C : Cfg} {F : Nat → List Dat → Mo Dat} {elt cond src1 cond1 : Ex} {tg tg1 : Tg} {own own1 : List Nat} {J : It} {ds : List Dat} {H1 : Hp} {σ : L2.St} {ρ : Sl} {g : List Dat} {Q : VK} {D : Addr}
    (hw : WalkD C J ds H1) (E : EnvR C H1 σ ρ) (G : GR C g H1) (hD : H1 D = none) (htg : ∀ i ∈ slots tg, i ∈ own) (htg1 : ∀ i ∈ slots tg1, i ∈ own1) (h : LcEnd C H1 Q (lcGo2 (lcStep2 F elt tg cond tg1 src1 cond1 own1 (wipeD ρ own)) [] ds g)) :
    ∃ W : Nat → Nat → Hp → Prop, (∃ m, W 0 m (upd H1 D (.lst []))) ∧ ∀ i m H, W i m H →
  (J.stop i H ∧ Q (.ref D) H) ∨ (J.go i H ∧ ∃ Nx : Hp → Prop, (∀ H', Nx H' → ∃ m', m' < m ∧ W (i + 1) m' H') ∧ ∀ x H', J.yld i H x H' → gB C tg x (L2.wipe σ own) H' fun σ2 H2 => L2.wipe σ2 own = L2.wipe σ own ∧
    ttB C F cond σ2 H2 fun b H3 =>
    if b = true then tIB C F src1 σ2 H3 fun J1 H4 => ∃ W1 : Nat → Nat → Hp → Prop, (∃ m, W1 0 m H4) ∧ ∀ j k H, W1 j k H →
      (J1.stop j H ∧ Nx H) ∨ (J1.go j H ∧ ∃ Nx1 : Hp → Prop, (∀ H', Nx1 H' → ∃ k', k' < k ∧ W1 (j + 1) k' H') ∧ ∀ x H', J1.yld j H x H' → gB C tg1 x (L2.wipe σ2 own1) H' fun σ3 H5 => L2.wipe σ3 own1 = L2.wipe σ2 own1 ∧ ttB C F cond1 σ3 H5 fun b H6 =>
        if b = true then teB C F elt σ3 H6 fun y H7 => ∃ acc, H7 D = some (.lst acc) ∧ acc.length < sizeLine ∧ Nx1 (upd H7 D (.lst (acc ++ [y]))) else Nx1 H6)
    else Nx H3) := by
  obtain ⟨hz, hw⟩ := hw
  have hDn := G.ne hD
  have hM : ∀ a ∈ D :: C.M, a ∉ C.M → H1 a = none := fun a ha hn => by
    rcases List.mem_cons.mp ha with rfl | ha
    · exact hD
    · exact absurd ha hn
  have hW := hw (D :: C.M) (fun a ha => List.mem_cons_of_mem _ ha) hM
  obtain ⟨C', hC⟩ : ∃ C', ({ C with M := D :: C.M } : Cfg) = C' := ⟨_, rfl⟩
  rw [hC] at hW
  have hMe : C'.M = D :: C.M := by rw [← hC]
  have hCM : ({ C with M := C'.M } : Cfg) = C' := by rw [hMe, hC]
  obtain ⟨S0, em0⟩ := LcInv.start hC G hD
  refine ⟨fun i m H => m = ds.length - i ∧ i ≤ ds.length ∧ ∃ vs acc g, LcInv C C' H1 D H vs acc g ∧ acc.length ≤ sizeLine ∧ EnvR C' H (L2.wipe σ own) (wipeD ρ own) ∧ LcEnd C H1 Q (lcGo2 (lcStep2 F elt tg cond tg1 src1 cond1 own1 (wipeD ρ own)) acc (ds.drop i) g),
    ⟨_, rfl, Nat.zero_le _, [], [], g, S0, Nat.zero_le _, ?_, by rw [List.drop_zero]; exact h⟩, ?_⟩
  · have h3 := (E.wipe own).more (M' := D :: C.M) hM
    rw [hC] at h3
    exact h3.extM em0
  rintro i m H ⟨rfl, hi, vs, acc, g, S, hza, E0, q⟩
  by_cases hlt : i < ds.length
  · refine .inr ⟨hW.goes i H hlt S.em, fun H => ∃ vs acc g, LcInv C C' H1 D H vs acc g ∧ acc.length ≤ sizeLine ∧ EnvR C' H (L2.wipe σ own) (wipeD ρ own) ∧ LcEnd C H1 Q (lcGo2 (lcStep2 F elt tg cond tg1 src1 cond1 own1 (wipeD ρ own)) acc (ds.drop (i + 1)) g), fun H' hn => ⟨_, by omega, rfl, hlt, hn⟩, fun x H' y => ?_⟩
    obtain ⟨e1, G1, d, hd, rd⟩ := hW.yields i H x H' hlt S.em y g S.gr
    have S1 := S.ext hC hDn.1 e1 G1
    have E1 := E0.ext e1
    rw [drop_at hd, lcGo2_cons] at q
    obtain ⟨a2, g2, hstep, q⟩ := noexc_ok (fun z => z) q
    unfold lcStep2 at hstep
    cases hb : bindT tg d (wipeD ρ own) with
    | none => rw [hb] at hstep; cases hstep
    | some ρ2 =>
      rw [hb] at hstep
      have hstep : ((den F cond ρ2 g).bind fun x g => (asB x g).bind fun k g => match k with
        | true => (den F src1 ρ2 g).bind fun x g => (ofO (itemsD x) g).bind fun ds1 g => lcGoC (lcStep F elt tg1 cond1 (wipeD ρ2 own1)) acc ds1 g
        | false => .ok acc g) = .ok a2 g2 := hstep
      refine ⟨C'.M, ?_⟩
      rw [hCM]
      refine ⟨d, _, ρ2, rd, hb, fun σ2 S2 hw2 => ⟨by rw [hw2 own htg]; exact wipe_wipe σ own, C'.M, ?_⟩⟩
      have E2 := S2.env E1
      rw [hCM]
      refine ⟨ρ2, g, E2, G1, ?_⟩
      revert hstep
      unfold denB
      cases den F cond ρ2 g with
      | bad => exact fun z => nomatch z
      | exc c g => exact fun z => nomatch z
      | ok dc g3 =>
        intro hstep
        cases dc with
        | bl b =>
          intro H3 e3 G3
          have S3 := S1.ext hC hDn.1 e3 G3
          cases b with
          | false =>
            injection hstep with ho hg
            subst ho hg
            rw [if_neg Bool.false_ne_true]
            exact ⟨vs, acc, g3, S3, hza, E1.ext e3, q⟩
          | true =>
            rw [if_pos rfl]
            refine ⟨C'.M, ?_⟩
            rw [hCM]
            refine ⟨ρ2, g3, E2.ext e3, G3, ?_⟩
            have hstep : ((den F src1 ρ2 g3).bind fun x g => (ofO (itemsD x) g).bind fun ds1 g => lcGoC (lcStep F elt tg1 cond1 (wipeD ρ2 own1)) acc ds1 g) = .ok a2 g2 := hstep
            revert hstep
            cases den F src1 ρ2 g3 with
            | bad => exact fun z => nomatch z
            | exc c g => exact fun z => nomatch z
            | ok x1 g4 =>
              intro hstep
              cases hi1 : itemsD x1 with
              | none =>
                have hstep : ((ofO (itemsD x1) g4).bind fun ds1 g => lcGoC (lcStep F elt tg1 cond1 (wipeD ρ2 own1)) acc ds1 g) = .ok a2 g2 := hstep
                rw [hi1] at hstep; cases hstep
              | some ds1 =>
                have hstep : ((ofO (itemsD x1) g4).bind fun ds1 g => lcGoC (lcStep F elt tg1 cond1 (wipeD ρ2 own1)) acc ds1 g) = .ok a2 g2 := hstep
                rw [hi1] at hstep
                have hstep : lcGoC (lcStep F elt tg1 cond1 (wipeD ρ2 own1)) acc ds1 g4 = .ok a2 g2 := hstep
                show match itemsD x1 with | none => False | some ds => _
                rw [hi1]
                intro J1 H4 e4 G4 hw1
                obtain ⟨hz1, hw1⟩ := hw1
                have hW1 := hw1 C'.M (fun _ h => h) (fun _ h1 h2 => absurd h1 h2)
                have hCC : ({ C' with M := C'.M } : Cfg) = C' := rfl
                rw [hCC] at hW1
                have S4 := S3.ext hC hDn.1 e4 G4
                have E4 := (E2.ext e3).ext e4
                refine ⟨fun j k H => k = ds1.length - j ∧ j ≤ ds1.length ∧ ∃ vs acc g, LcInv C C' H1 D H vs acc g ∧ ExtM C' H4 H ∧ acc.length ≤ sizeLine ∧ EnvR C' H (L2.wipe σ own) (wipeD ρ own) ∧ EnvR C' H (L2.wipe σ2 own1) (wipeD ρ2 own1) ∧ lcGoC (lcStep F elt tg1 cond1 (wipeD ρ2 own1)) acc (ds1.drop j) g = .ok a2 g2,
                  ⟨_, rfl, Nat.zero_le _, vs, acc, g4, S4, fun _ _ h _ _ => h, hza, (E1.ext e3).ext e4, E4.wipe own1, by rw [List.drop_zero]; exact hstep⟩, ?_⟩
                rintro j k H5 ⟨rfl, hj, vs5, acc5, g5, S5, em5, hz5, E5, F5, q5⟩
                by_cases hlt1 : j < ds1.length
                · refine .inr ⟨hW1.goes j H5 hlt1 em5, fun H => ∃ vs acc g, LcInv C C' H1 D H vs acc g ∧ ExtM C' H4 H ∧ acc.length ≤ sizeLine ∧ EnvR C' H (L2.wipe σ own) (wipeD ρ own) ∧ EnvR C' H (L2.wipe σ2 own1) (wipeD ρ2 own1) ∧ lcGoC (lcStep F elt tg1 cond1 (wipeD ρ2 own1)) acc (ds1.drop (j + 1)) g = .ok a2 g2, fun H' hn => ⟨_, by omega, rfl, hlt1, hn⟩, fun x6 H6 y6 => ?_⟩
                  obtain ⟨e6, G6, d6, hd6, rd6⟩ := hW1.yields j H5 x6 H6 hlt1 em5 y6 g5 S5.gr
                  have S6 := S5.ext hC hDn.1 e6 G6
                  have em6 : ExtM C' H4 H6 := fun a o ha hc hm => e6 a o (em5 a o ha hc hm) hc
                  rw [drop_at hd6, lcGoC_cons] at q5
                  cases hs6 : lcStep F elt tg1 cond1 (wipeD ρ2 own1) d6 g5 with
                  | bad => rw [hs6] at q5; cases q5
                  | exc c g => rw [hs6] at q5; cases q5
                  | ok o6 g7 =>
                    rw [hs6] at q5
                    unfold lcStep at hs6
                    cases hb6 : bindT tg1 d6 (wipeD ρ2 own1) with
                    | none => rw [hb6] at hs6; cases hs6
                    | some ρ3 =>
                      rw [hb6] at hs6
                      have hs6 : ((den F cond1 ρ3 g5).bind fun x g => (asB x g).bind fun k g => match k with
                        | true => (den F elt ρ3 g).bind fun y g => Res.ok (some y) g
                        | false => .ok none g) = .ok o6 g7 := hs6
                      refine ⟨C'.M, ?_⟩
                      rw [hCM]
                      refine ⟨d6, _, ρ3, rd6, hb6, fun σ3 S3' hw3 => ⟨by rw [hw3 own1 htg1]; exact wipe_wipe σ2 own1, C'.M, ?_⟩⟩
                      have E6 := S3'.env (F5.ext e6)
                      rw [hCM]
                      refine ⟨ρ3, g5, E6, G6, ?_⟩
                      revert hs6
                      unfold denB
                      cases den F cond1 ρ3 g5 with
                      | bad => exact fun z => nomatch z
                      | exc c g => exact fun z => nomatch z
                      | ok dc g8 =>
                        intro hs6
                        cases dc with
                        | bl b =>
                          intro H8 e8 G8
                          have S8 := S6.ext hC hDn.1 e8 G8
                          have em8 : ExtM C' H4 H8 := fun a o ha hc hm => e8 a o (em6 a o ha hc hm) hc
                          cases b with
                          | false =>
                            injection hs6 with ho hg
                            subst ho hg
                            rw [if_neg Bool.false_ne_true]
                            exact ⟨vs5, acc5, g8, S8, em8, hz5, (E5.ext e6).ext e8, (F5.ext e6).ext e8, q5⟩
                          | true =>
                            rw [if_pos rfl]
                            refine ⟨C'.M, ?_⟩
                            rw [hCM]
                            refine ⟨ρ3, g8, E6.ext e8, G8, ?_⟩
                            have hs6 : ((den F elt ρ3 g8).bind fun y g => Res.ok (some y) g) = .ok o6 g7 := hs6
                            revert hs6
                            cases den F elt ρ3 g8 with
                            | bad => exact fun z => nomatch z
                            | exc c g => exact fun z => nomatch z
                            | ok y9 g9 =>
                              intro hs6 v9 H9 e9 G9 r9
                              injection hs6 with ho hg
                              subst ho hg
                              have q5 : (if acc5.length < line then lcGoC (lcStep F elt tg1 cond1 (wipeD ρ2 own1)) (acc5 ++ [y9]) (ds1.drop (j + 1)) g9 else .bad) = .ok a2 g2 := q5
                              by_cases hroom : acc5.length < line
                              · rw [if_pos hroom] at q5
                                rw [line_eq] at hroom
                                have S9 := S8.ext hC hDn.1 e9 G9
                                obtain ⟨S10, em10⟩ := S9.app hC hDn.1 hD r9
                                have hl := S9.rp.len
                                refine ⟨vs5, S9.at_, by omega, vs5 ++ [v9], acc5 ++ [y9], g9, S10, fun a o ha hc hm => em10 a o (e9 a o (em8 a o ha hc hm) hc) hc hm, by rw [List.length_append, List.length_singleton]; omega, ((((E5.ext e6).ext e8).ext e9).extM em10), ((((F5.ext e6).ext e8).ext e9).extM em10), q5⟩
                              · rw [if_neg hroom] at q5; cases q5
                        | _ => exact nomatch hs6
                · have hje : j = ds1.length := by omega
                  subst hje
                  rw [List.drop_length] at q5
                  have q5 : (Res.ok acc5 g5 : Res (List Dat)) = .ok a2 g2 := q5
                  injection q5 with ho hg
                  subst ho hg
                  exact .inl ⟨hW1.stops H5 em5, vs5, acc5, g5, S5, hz5, E5, q⟩
        | _ => exact nomatch hstep
  · have hie : i = ds.length := by omega
    subst hie
    rw [List.drop_length] at q
    exact .inl ⟨hW.stops H S.em, S.done hC hDn hD hza q⟩
theorem lc2_reading {X : Cx} {C : Cfg} {W : WX} {F : Nat → List Dat → Mo Dat} {elt src cond src1 cond1 : Ex} {tg tg1 : Tg} {own own1 : List Nat} {σ : L2.St} {H : Hp} {Q : VK} (htg : ∀ i ∈ slots tg, i ∈ own) (htg1 : ∀ i ∈ slots tg1, i ∈ own1)
    (q : tD C W (den F (.lc2 elt tg src cond tg1 src1 cond1 own own1)) σ H Q) : tLc2 (tI C W (den F src)) (gB C tg) (ttB C F cond) (tIB C F src1) (gB C tg1) (ttB C F cond1) (teB C F elt) own own1 σ H Q := by
  obtain ⟨ρ, g, E, G, q⟩ := q
  rw [den_lcc] at q
  refine ⟨ρ, g, E, G, ?_⟩
  revert q
  cases den F src ρ g with
  | bad => exact fun q => q
  | exc c g1 => exact fun q => q
  | ok d g1 =>
    intro q
    have q : RunE C W ((ofO (itemsD d) g1).bind fun ds g => (lcGo2 (lcStep2 F elt tg cond tg1 src1 cond1 own1 (wipeD ρ own)) [] ds g).bind fun ys g => .ok (.lst ys) g) σ H Q := q
    show match itemsD d with | none => False | some ds => _
    cases hi : itemsD d with
    | none => rw [hi] at q; exact q.elim
    | some ds =>
      rw [hi] at q
      intro J H1 e1 G1 hw D hD
      refine lc2_run (X := X) hw (E.ext e1) G1 hD htg htg1 ?_
      have q : RunE C W ((lcGo2 (lcStep2 F elt tg cond tg1 src1 cond1 own1 (wipeD ρ own)) [] ds g1).bind fun ys g => .ok (.lst ys) g) σ H Q := q
      have hne := lcGo2_exc (step := lcStep2 F elt tg cond tg1 src1 cond1 own1 (wipeD ρ own)) ds [] g1
      revert q hne
      cases lcGo2 (lcStep2 F elt tg cond tg1 src1 cond1 own1 (wipeD ρ own)) [] ds g1 with
      | ok ys g2 => exact fun q _ D H' vs hD hv hl hz e G => q _ H' (e1.trans e) G (.lst ⟨.inl hv, G1.ne hD⟩ hz (hl.less fun a ha => List.mem_cons_of_mem _ ha))
      | exc c g2 => exact fun _ hne => (hne c g2 rfl).elim
      | bad => exact fun q _ => q
structure LcOk2 (c : Ctx) (elt tgE iter : Expr) (ifs : List Expr) (tgE1 iter1 : Expr) (ifs1 : List Expr) (scope : Scope) (own : List (Str × Nat)) (own1 : List Nat) (elt' : Ex) (tg : Tg) (src cond : Ex) (tg1 : Tg) (src1 cond1 : Ex) : Prop where
  hi : SemI c tgE iter src
  ok : blkC c.N c.sc scope own = true
  hg : SemG (c.inBlk scope) tgE tg
  hc : SemC (c.inBlk scope) ifs cond
  hi1 : SemI (c.inBlk scope) tgE1 iter1 src1
  hg1 : SemG (c.inBlk scope) tgE1 tg1
  hc1 : SemC (c.inBlk scope) ifs1 cond1
  he : Sem (c.inBlk scope) elt elt'
  hs : (slots tg).all (fun i => (own.map (·.2)).contains i) = true
  hs1 : (slots tg1).all (fun i => own1.contains i) = true
  hv : own1.all (fun i => (own.map (·.2)).contains i) = true
section
variable {c : Ctx} {elt tgE iter tgE1 iter1 : Expr} {ifs ifs1 : List Expr} {scope : Scope} {own : List (Str × Nat)} {own1 : List Nat} {elt' : Ex} {tg : Tg} {src cond : Ex} {tg1 : Tg} {src1 cond1 : Ex} {X : Cx} {C : Cfg} {W : WX} {F : Nat → List Dat → Mo Dat} {k : Nat}
theorem LcOk2.sub (L : LcOk2 c elt tgE iter ifs tgE1 iter1 ifs1 scope own own1 elt' tg src cond tg1 src1 cond1) : ∀ i ∈ slots tg, i ∈ own.map (·.2) := fun i hi => by
  have := List.all_eq_true.mp L.hs i hi
  simpa using this
theorem LcOk2.sub1 (L : LcOk2 c elt tgE iter ifs tgE1 iter1 ifs1 scope own own1 elt' tg src cond tg1 src1 cond1) : ∀ i ∈ slots tg1, i ∈ own1 := fun i hi => by
  have := List.all_eq_true.mp L.hs1 i hi
  simpa using this
theorem LcOk2.vs1 (L : LcOk2 c elt tgE iter ifs tgE1 iter1 ifs1 scope own own1 elt' tg src cond tg1 src1 cond1) : ∀ i ∈ own1, i ∈ own.map (·.2) := fun i hi => by
  have := List.all_eq_true.mp L.hv i hi
  simpa using this
theorem pgB {t : Expr} {tg : Tg} {scope : Scope} (h : SemG (c.inBlk scope) t tg) (M : Mt X c C W F k) : ∀ (s : Shared) (H : Hp) (Cc : Addr) (cl : List (Str × Addr)) (fp : List Addr), PG (X.blk s H scope (compEnvC scope cl Cc X.env) fp) t (gB C tg) := fun s H Cc cl fp =>
  ⟨fun pins s' σ H' v u Q I r ⟨M', q⟩ => (h.1 _ _ _ _ _ (mt_blk M s H scope Cc cl fp M')).run pins s' σ H' v u Q I r q⟩
theorem ptB {e : List Expr} {e' : Ex} {scope : Scope} (h : SemC (c.inBlk scope) e e') (M : Mt X c C W F k) : ∀ (s : Shared) (H : Hp) (Cc : Addr) (cl : List (Str × Addr)) (fp : List Addr), PTs (X.blk s H scope (compEnvC scope cl Cc X.env) fp) e (ttB C F e') := fun s H Cc cl fp =>
  ⟨fun pins s' σ H' Q I ⟨M', q⟩ => (h _ _ _ _ _ (mt_blk M s H scope Cc cl fp M')).run pins s' σ H' Q I q⟩
theorem peB {e : Expr} {e' : Ex} {scope : Scope} (h : Sem (c.inBlk scope) e e') (M : Mt X c C W F k) : ∀ (s : Shared) (H : Hp) (Cc : Addr) (cl : List (Str × Addr)) (fp : List Addr), PE (X.blk s H scope (compEnvC scope cl Cc X.env) fp) e (teB C F e') := fun s H Cc cl fp =>
  ⟨fun pins s' σ H' Q I ⟨M', q⟩ => (h.run _ _ _ _ _ (mt_blk M s H scope Cc cl fp M')).run pins s' σ H' Q I q⟩
theorem piB {t i : Expr} {e' : Ex} {scope : Scope} (h : SemI (c.inBlk scope) t i e') (M : Mt X c C W F k) : ∀ (s : Shared) (H : Hp) (Cc : Addr) (cl : List (Str × Addr)) (fp : List Addr), PI (X.blk s H scope (compEnvC scope cl Cc X.env) fp) t i (tIB C F e') := fun s H Cc cl fp =>
  ⟨fun pins s' σ H' Q I ⟨M', q⟩ => (h.run _ _ _ _ _ (mt_blk M s H scope Cc cl fp M')).run pins s' σ H' Q I q⟩
theorem sem_lc2 (L : LcOk2 c elt tgE iter ifs tgE1 iter1 ifs1 scope own own1 elt' tg src cond tg1 src1 cond1) {pos : Pos} : Sem c (.ListComp elt [⟨tgE, iter, ifs, 0⟩, ⟨tgE1, iter1, ifs1, 0⟩] scope pos) (.lc2 elt' tg src cond tg1 src1 cond1 (own.map (·.2)) own1) :=
  ⟨fun X C W F k M => pe_mono (pe_lc2 M.calm (by rw [M.N]; exact M.nd) (L.hi.run X C W F k M) (by rw [M.N, M.sc]; exact blkOk_by L.ok) L.vs1 (pgB L.hg M) (ptB L.hc M) (piB L.hi1 M) (pgB L.hg1 M) (ptB L.hc1 M) (peB L.he M) (L.hi.ns _) L.hi1.ns) fun σ H Q q => lc2_reading (X := X) L.sub L.sub1 q, rfl⟩
end
end R
set_option Elab.async false
set_option linter.all false
set_option maxRecDepth 100000
set_option maxHeartbeats 4000000
/-! Sets of tuples of any nested kind of key (fewer than 64): how the model's table takes them. -/
namespace R
open PySem PySem.Spec PyProof.Rows L2
abbrev nh (w : World) (k : NestedKey) : Int := k.hash w
/-- the tuple at b is the key k -/
structure IsN (h : Heap) (k : NestedKey) (b : Addr) : Prop where
  is : NestedIs h k (.ref b)
  dep : k.depth ≤ 8
section
variable {P : Program} {w : World} {A : Around} {E : Value → Shared → Prop} {s : Shared}
/-! ### small questions about keys -/
mutual
theorem aclass_key : ∀ (k : NestedKey) (v : Value) (n : Nat) (s : Shared) (Q : Bool → Shared → Prop), NestedIs s.heap k v → k.depth ≤ n → Q false s → wpAny (model P w) A (ofAClassStatement n v) Q E s
  | .none, _, n, s, Q, x, _, q => by
    cases x
    cases n <;> exact wpAny_pure q
  | .num i, _, n, s, Q, x, _, q => by
    cases x <;> cases n <;> exact wpAny_pure q
  | .text y, _, n, s, Q, x, _, q => by
    cases x
    cases n <;> exact wpAny_pure q
  | .tup ks, _, n, s, Q, x, hn, q => by
    cases x with
    | @tup b o vs m _ hg hc hd hk =>
      simp only [NestedKey.depth] at hn
      cases n with
      | zero => omega
      | succ n =>
        have hT : s.TypeIs (.ref b) "tuple" := ⟨o, hg, hc⟩
        unfold ofAClassStatement
        refine wpAny_bind (wpAny_typeOf hT ?_)
        dsimp only
        have et : (("tuple" : String) == "tuple") = true := by decide
        simp only [et, if_true, Bool.not_true, Bool.false_eq_true, if_false]
        try refine wpAny_bind (wpAny_pure ?_)
        try simp only [Bool.not_true, Bool.false_eq_true, if_false]
        show wpAny _ _ (seqItems? (.ref b) >>= _) _ _ s
        refine wpAny_bind (wpAny_seqItems hg hd ?_)
        dsimp only
        refine wpAny_bind ?_
        show wpAny _ _ (forIn vs _ _) _ _ s
        rw [← Array.forIn_toList]
        refine wpAny_forIn_list _ (fun l r s' => r.1 = none ∧ s' = s ∧ ∀ v ∈ l, v ∈ vs.toList) _ ?_ ?_ _ _ ⟨rfl, rfl, fun _ h => h⟩
        · rintro v l r s' ⟨hr, rfl, hl⟩
          refine wpAny_bind (aclass_keys ks vs.toList n s' hk (by omega) v (hl v List.mem_cons_self) _ ?_)
          simp only [Bool.false_eq_true, if_false]
          exact wpAny_pure ⟨rfl, rfl, fun u hu => hl u (List.mem_cons_of_mem _ hu)⟩
        · rintro ⟨r1, r2⟩ s' ⟨hr, rfl, _⟩
          simp only at hr
          subst hr
          exact wpAny_pure q
theorem aclass_keys : ∀ (ks : List NestedKey) (vs : List Value) (n : Nat) (s : Shared), NestedAll s.heap ks vs → NestedKey.depthAll ks ≤ n → ∀ v ∈ vs, ∀ (Q : Bool → Shared → Prop), Q false s → wpAny (model P w) A (ofAClassStatement n v) Q E s
  | [], _, n, s, x, _, v, hv, _, _ => by cases x; cases hv
  | k :: ks, _, n, s, x, hn, v, hv, Q, q => by
    cases x with
    | cons x1 x2 =>
      simp only [NestedKey.depthAll] at hn
      rcases List.mem_cons.mp hv with e | hv
      · rw [e]; exact aclass_key k _ n s Q x1 (by omega) q
      · exact aclass_keys ks _ n s x2 (by omega) v hv Q q
end
mutual
theorem byval_key : ∀ (k : NestedKey) (v : Value) (n : Nat) (s : Shared) (Q : Bool → Shared → Prop), NestedIs s.heap k v → k.depth ≤ n → (∀ b, Q b s) → wpAny (model P w) A (hashByValue n v) Q E s
  | .none, _, n, s, Q, x, _, q => by
    cases x
    cases n <;> exact wpAny_pure (q _)
  | .num i, _, n, s, Q, x, _, q => by
    cases x <;> cases n <;> exact wpAny_pure (q _)
  | .text y, _, n, s, Q, x, _, q => by
    cases x
    cases n <;> exact wpAny_pure (q _)
  | .tup ks, _, n, s, Q, x, hn, q => by
    cases x with
    | @tup b o vs m _ hg hc hd hk =>
      simp only [NestedKey.depth] at hn
      cases n with
      | zero => omega
      | succ n =>
        have hT : s.TypeIs (.ref b) "tuple" := ⟨o, hg, hc⟩
        unfold hashByValue
        refine wpAny_bind (wpAny_specialOf hT F.slot_tuple_hash.lookup ?_)
        show wpAny _ _ (seqItems? (.ref b) >>= _) _ _ s
        refine wpAny_bind (wpAny_seqItems hg hd ?_)
        refine wpAny_bind ?_
        show wpAny _ _ (forIn vs _ _) _ _ s
        rw [← Array.forIn_toList]
        refine wpAny_forIn_list _ (fun l r s' => r.1 = none ∧ s' = s ∧ ∀ v ∈ l, v ∈ vs.toList) _ ?_ ?_ _ _ ⟨rfl, rfl, fun _ h => h⟩
        · rintro v l r s' ⟨hr, rfl, hl⟩
          refine wpAny_bind (byval_keys ks vs.toList n s' hk (by omega) v (hl v List.mem_cons_self) _ fun b => ?_)
          cases b with
          | true =>
            simp only [Bool.not_true, Bool.false_eq_true, if_false]
            exact wpAny_pure ⟨rfl, rfl, fun u hu => hl u (List.mem_cons_of_mem _ hu)⟩
          | false =>
            simp only [Bool.not_false, if_true]
            exact wpAny_pure (wpAny_pure (q _))
        · rintro ⟨r1, r2⟩ s' ⟨hr, rfl, _⟩
          simp only at hr
          subst hr
          exact wpAny_pure (q _)
theorem byval_keys : ∀ (ks : List NestedKey) (vs : List Value) (n : Nat) (s : Shared), NestedAll s.heap ks vs → NestedKey.depthAll ks ≤ n → ∀ v ∈ vs, ∀ (Q : Bool → Shared → Prop), (∀ b, Q b s) → wpAny (model P w) A (hashByValue n v) Q E s
  | [], _, n, s, x, _, v, hv, _, _ => by cases x; cases hv
  | k :: ks, _, n, s, x, hn, v, hv, Q, q => by
    cases x with
    | cons x1 x2 =>
      simp only [NestedKey.depthAll] at hn
      rcases List.mem_cons.mp hv with e | hv
      · rw [e]; exact byval_key k _ n s Q x1 (by omega) q
      · exact byval_keys ks _ n s x2 (by omega) v hv Q q
end
theorem IsN.eq {x y : NestedKey} {b c : Addr} {Q : Bool → Shared → Prop} (hu : A.units + 8 < cLine) (hx : IsN s.heap x b) (hy : IsN s.heap y c) (q : Q (decide (x = y)) s) : wpAny (model P w) A (eqBool (.ref b) (.ref c)) Q E s :=
  (nestedKind P w).eqBool hu ⟨hx.is, hx.dep⟩ ⟨hy.is, hy.dep⟩ q
theorem IsN.hash {x : NestedKey} {b : Addr} {Q : Int → Shared → Prop} (hu : A.units + 8 < cLine) (hx : IsN s.heap x b) (q : Q (nh w x) { s with toks := s.toks + x.draws }) : wpAny (model P w) A (pyHash (.ref b)) Q E s :=
  (nestedKind P w).pyHash hu ⟨hx.is, hx.dep⟩ q
theorem IsN.keep {h h' : Heap} {x : NestedKey} {b : Addr} (hx : IsN h x b) (hk : ∀ c o, h.get? c = some o → h'.get? c = some o) : IsN h' x b := ⟨NestedIs.at (fun c o _ _ e _ => hk c o e) x _ hx.is, hx.dep⟩
/-- another object than a set is changed: the keys stand -/
theorem IsN.same {h h' : Heap} {x : NestedKey} {a b : Addr} {o : Obj} {es : Array (Int × Value)} {ep : Nat} {t : SetTable} (hx : IsN h x b) (ho : h.get? a = some o) (hd : o.data = .set es ep t) (hs : Heap.SameBut a h h') : IsN h' x b :=
  ⟨NestedIs.at (fun c oc vs n e ec => (hs.2 c fun z => by
    subst z
    rw [ho] at e
    cases e
    rw [hd] at ec
    cases ec).trans e) x _ hx.is, hx.dep⟩
/-- what the search could show of such keys: nothing -/
theorem unseen {k : NestedKey} {b : Addr} {Q : Bool → Shared → Prop} (hk : IsN s.heap k b) {ys : List Value} (hy : ∀ y ∈ ys, ∃ k' c, y = Value.ref c ∧ IsN s.heap k' c) (q : Q false s) : wpAny (model P w) A (searchCouldBeSeen (.ref b) ys) Q E s := by
  unfold searchCouldBeSeen
  refine wpAny_bind ?_
  refine wpAny_forIn_list _ (fun l r s' => r.1 = none ∧ s' = s ∧ ∀ y ∈ l, ∃ k' c, y = Value.ref c ∧ IsN s.heap k' c) _ ?_ ?_ _ _ ⟨rfl, rfl, hy⟩
  · rintro v l r s' ⟨hr, rfl, hl⟩
    obtain ⟨k', c, rfl, hc⟩ := hl v List.mem_cons_self
    have hl' : ∀ y ∈ l, ∃ k' c, y = Value.ref c ∧ IsN s'.heap k' c := fun u hu => hl u (List.mem_cons_of_mem _ hu)
    dsimp only
    by_cases hv : (b == c || (carriedByValue (.ref b) && carriedByValue (.ref c))) = true
    · exact wp_if_pos hv (wpAny_pure ⟨rfl, rfl, hl'⟩)
    · refine wp_if_neg hv ?_
      refine wpAny_bind (quiet_key k _ 8 s' hk.is hk.dep _ _ _ ?_)
      simp only [Bool.not_true, Bool.false_eq_true, if_false]
      refine wpAny_bind (quiet_key k' _ 8 s' hc.is hc.dep _ _ _ ?_)
      simp only [Bool.not_true, Bool.false_eq_true, if_false]
      refine wpAny_bind (aclass_key k _ 8 s' _ hk.is hk.dep ?_)
      simp only [Bool.false_eq_true, if_false]
      refine wpAny_bind (aclass_key k' _ 8 s' _ hc.is hc.dep ?_)
      simp only [Bool.false_eq_true, if_false]
      exact wpAny_pure ⟨rfl, rfl, hl'⟩
  · rintro ⟨r1, r2⟩ s' ⟨hr, rfl, _⟩
    simp only at hr
    subst hr
    exact wpAny_pure q

/-! ### the set -/
abbrev AK := Addr × NestedKey
def rowN (w : World) (L : List AK) : List (Int × Value) := L.map fun p => (nh w p.2, Value.ref p.1)
theorem rowN_len (L : List AK) : (rowN w L).length = L.length := List.length_map ..
structure SetN (w : World) (h : Heap) (a : Addr) (L : List AK) (es : Array (Int × Value)) (ep : Nat) (t : SetTable) : Prop where
  ob : ∃ o, h.get? a = some o ∧ o.ExactSet ∧ o.data = .set es ep t
  row : es.toList = rowN w L
  tab : TabOk t (L.map fun p => nh w p.2)
  nd : (L.map (·.2)).Nodup
  key : ∀ p ∈ L, IsN h p.2 p.1
  led : w.params.followText "set-order" = true ∨ t.led = true
  room : L.length * 5 < t.mask * 3
  few : L.length < 64
variable {a : Addr} {L : List AK} {es : Array (Int × Value)} {ep : Nat} {t : SetTable}
theorem size_of_row {es : Array (Int × Value)} (h : es.toList = rowN w L) : es.size = L.length := by
  rw [← Array.length_toList, h, rowN_len]
theorem fits_of {t : SetTable} {n : Nat} (h1 : t.place.size = n) (h2 : t.dummies = #[]) (h3 : n ≤ t.mask) : t.fits n = true := by
  unfold SetTable.fits SetTable.fill
  rw [h2, Bool.and_eq_true, beq_iff_eq, decide_eq_true_eq]
  exact ⟨h1, by show t.place.size + 0 ≤ t.mask; omega⟩
theorem SetN.fits (R : SetN w s.heap a L es ep t) : t.fits es.size = true := by
  have h1 := R.tab.sz
  have h3 := R.room
  rw [List.length_map] at h1
  exact fits_of (h1.trans (size_of_row R.row).symm) R.tab.dm (by rw [size_of_row R.row]; omega)
theorem row_at (h : es.toList = rowN w L) {i : Nat} {p : AK} (hp : L[i]? = some p) : es[i]? = some (nh w p.2, Value.ref p.1) := by
  rw [← Array.getElem?_toList, h]
  unfold rowN
  rw [List.getElem?_map, hp] <;> rfl
/-- the states of a search -/
abbrev wy (w : World) (t : SetTable) (k : NestedKey) (c : Nat) : SetTable.Probe := nth t.mask (runAt t.mask (SetTable.bits (nh w k) % (t.mask + 1)) (SetTable.bits (nh w k))) c
theorem wy_dummy (k : NestedKey) (c : Nat) : (wy w t k c).dummy = none := by
  have gen : ∀ (n : Nat) (p : SetTable.Probe), p.dummy = none → (nth t.mask p n).dummy = none := by
    intro n
    induction n with
    | zero => exact fun p h => h
    | succ n ih =>
      intro p h
      refine ih (adv t.mask p) ?_
      unfold adv
      split <;> exact h
  exact gen c _ rfl
theorem wy_add (k : NestedKey) (c q : Nat) : nth t.mask (wy w t k c) q = wy w t k (c + q) := (nth_add t.mask c _ q).symm
/-- the search for a key, from the c-th state on -/
theorem find_from (R : SetN w s.heap a L es ep t) {x : Addr} {k : NestedKey} (hx : IsN s.heap k x) (hu : A.units + 8 < cLine) {K : Nat} (hKf : K < 10 * SetTable.turns t.mask)
    (hK : way t.mask (nh w k) K ∉ t.place.toList) (hKb : ∀ c, c < K → way t.mask (nh w k) c ∈ t.place.toList) {Q : SetFound → Shared → Prop}
    (qin : k ∈ L.map (·.2) → Q (.there none) s) (qout : k ∉ L.map (·.2) → Q (.free (way t.mask (nh w k) K) false) s) :
    ∀ (f c : Nat) (stand : Option SetTable.Probe), stand.getD (t.probeStart (nh w k)) = wy w t k c → c ≤ K → K - c < f →
      (∀ (i : Nat) p, L[i]? = some p → p.2 = k → ∃ c', c ≤ c' ∧ c' < K ∧ t.place.toList[i]? = some (way t.mask (nh w k) c')) →
      wpAny (model P w) A (setSearchFrom a (.ref x) (nh w k) true f stand) Q E s
  | 0, _, _, _, _, hf, _ => absurd hf (Nat.not_lt_zero _)
  | f + 1, c, stand, hst, hc, hf, hre => by
    obtain ⟨o, ho, hex, hd⟩ := R.ob
    have jj : ∀ q, (nth t.mask (wy w t k c) q).j = way t.mask (nh w k) (c + q) := fun q => congrArg SetTable.Probe.j (wy_add k c q)
    have spec := go_spec t R.tab.ris R.tab.dm (fun i => (es[i]?.map (·.1)).getD 0) (nh w k) (10 * SetTable.turns t.mask) (K - c) _ (wy_dummy k c) (by omega)
      (fun q hq => by rw [jj]; exact hKb (c + q) (by omega)) (by rw [jj, show c + (K - c) = K by omega]; exact hK)
    have hashes : ∀ (i : Nat) p, L[i]? = some p → (fun i => (es[i]?.map (·.1)).getD 0) i = nh w p.2 := fun i p hp => by
      show (es[i]?.map (·.1)).getD 0 = _
      rw [row_at R.row hp] <;> rfl
    rw [setSearchFrom_succ]
    refine wpAny_bind (wpAny_setState_of ho hd R.fits ?_)
    dsimp only
    refine wp_if_neg (by unfold SetTable.gaveWay; rw [mask_odd R.tab.mok]; decide) ?_
    try refine wpAny_bind (wpAny_pure ?_)
    rcases spec with ⟨q, i, hq, hi, hh, hno, hpr⟩ | ⟨hno, hpr⟩
    · have hpr' : t.probe (fun i => (es[i]?.map (·.1)).getD 0) (nh w k) (stand.getD (t.probeStart (nh w k))) = some (.candidate (way t.mask (nh w k) (c + q)) i (wy w t k (c + (q + 1)))) := by
        rw [hst, ← jj, ← wy_add]
        exact hpr
      rw [hpr']
      dsimp only
      rw [jj] at hi
      have hil : i < L.length := by
        have h1 : i < t.place.toList.length := (List.getElem?_eq_some_iff.mp hi).1
        have h2 := R.tab.sz
        rw [List.length_map] at h2
        rw [Array.length_toList] at h1
        omega
      obtain ⟨p, hp⟩ : ∃ p, L[i]? = some p := ⟨_, List.getElem?_eq_getElem hil⟩
      have hmem : p ∈ L := List.mem_of_getElem? hp
      have hsl : t.slot (way t.mask (nh w k) (c + q)) = .live i := slot_live R.tab.ris hi
      have goOn : wpAny (model P w) A (searchRest a (.ref x) (nh w k) true f es t (way t.mask (nh w k) (c + q)) i (wy w t k (c + (q + 1)))) Q E s := by
        unfold searchRest
        rw [row_at R.row hp]
        dsimp only
        refine wpAny_bind (wpAny_holding (IsN.eq hu (R.key p hmem) hx ?_))
        refine wpAny_bind (wpAny_setState_of ho hd R.fits ?_)
        dsimp only
        by_cases hkk : p.2 = k
        · exact wp_if_pos (by simp [hkk]) (wpAny_pure (qin (List.mem_map.mpr ⟨p, hmem, hkk⟩)))
        · refine wp_if_neg (by simp [hkk]) ?_
          try refine wpAny_bind (wpAny_pure ?_)
          rw [sameMem]
          dsimp only
          simp only [if_true, hsl, row_at R.row hp]
          refine wpAny_bind (wpAny_isSame_ref_self (wpAny_bind (wpAny_pure ?_)))
          simp only [if_true]
          refine wp_if_neg (by simp [hkk]) ?_
          refine find_from R hx hu hKf hK hKb qin qout f (c + (q + 1)) _ rfl (by omega) (by omega) fun i0 p0 h0 hk0 => ?_
          obtain ⟨c', a1, a2, a3⟩ := hre i0 p0 h0 hk0
          refine ⟨c', ?_, a2, a3⟩
          by_cases z : c' < c + q
          · exact (hno (c' - c) i0 (by omega) (by rw [jj, show c + (c' - c) = c' by omega]; exact a3) ((hashes i0 p0 h0).trans (congrArg (nh w) hk0))).elim
          · by_cases y : c + q < c'
            · omega
            · exfalso
              have ec : c' = c + q := by omega
              rw [ec] at a3
              have s0 := slot_live R.tab.ris a3
              rw [hsl] at s0
              injection s0 with s0
              rw [← s0, hp] at h0
              exact hkk ((congrArg Prod.snd (Option.some.inj h0)).trans hk0)
      by_cases hl : t.led = true
      · refine wp_if_neg (by simp [hl]) ?_
        try refine wpAny_bind (wpAny_pure ?_)
        exact goOn
      · refine wp_if_pos (by simp [hl]) ?_
        refine wpAny_bind (unseen hx (fun y hy => ?_) ?_)
        · obtain ⟨e, he, ee⟩ := List.mem_map.mp hy
          have he2 : e ∈ es.toList := by
            have : e ∈ es ∧ e.1 = nh w k := by simpa using he
            simpa using this.1
          rw [R.row] at he2
          obtain ⟨p2, hp2, e2⟩ := List.mem_map.mp he2
          exact ⟨p2.2, p2.1, by rw [← ee, ← e2], R.key p2 hp2⟩
        · refine wp_if_neg (by decide) ?_
          try refine wpAny_bind (wpAny_pure ?_)
          exact goOn
    · have hpr' : t.probe (fun i => (es[i]?.map (·.1)).getD 0) (nh w k) (stand.getD (t.probeStart (nh w k))) = some (.empty (way t.mask (nh w k) K) none) := by
        have e2 : way t.mask (nh w k) K = (nth t.mask (wy w t k c) (K - c)).j := by
          rw [jj, show c + (K - c) = K by omega]
        rw [hst, e2]
        exact hpr
      rw [hpr']
      dsimp only
      refine wpAny_pure (qout fun hm => ?_)
      obtain ⟨p0, h0, hk0⟩ := List.mem_map.mp hm
      obtain ⟨i0, hi0, e0⟩ := List.getElem_of_mem h0
      have h00 : L[i0]? = some p0 := by rw [List.getElem?_eq_getElem hi0, e0]
      obtain ⟨c', a1, a2, a3⟩ := hre i0 p0 h00 hk0
      exact hno (c' - c) i0 (by omega) (by rw [jj, show c + (c' - c) = c' by omega]; exact a3) ((hashes i0 p0 h00).trans (congrArg (nh w) hk0))
theorem find_at (R : SetN w s.heap a L es ep t) {x : Addr} {k : NestedKey} (hx : IsN s.heap k x) (hu : A.units + 8 < cLine) {Q : SetFound → Shared → Prop} (qin : k ∈ L.map (·.2) → Q (.there none) s)
    (qout : ∀ K, k ∉ L.map (·.2) → way t.mask (nh w k) K ∉ t.place.toList → (∀ c, c < K → way t.mask (nh w k) c ∈ t.place.toList) → Q (.free (way t.mask (nh w k) K) false) s) :
    wpAny (model P w) A (setSearch a (.ref x) (nh w k) true) Q E s := by
  have hr := R.room
  obtain ⟨K, hKf, hK, hKb⟩ := R.tab.first (by rw [List.length_map]; omega) (nh w k)
  have hbig : K < 100000 := by
    have : 10 * SetTable.turns t.mask ≤ 1420 := by
      unfold SetTable.turns
      rcases R.tab.mok with e | e | e <;> omega
    omega
  unfold setSearch
  refine find_from R hx hu hKf hK hKb qin (fun hn => qout K hn hK hKb) 100000 0 none rfl (Nat.zero_le _) (by omega) fun i p hp hk => ?_
  have hi : (L.map fun p => nh w p.2)[i]? = some (nh w k) := by rw [List.getElem?_map, hp, ← hk] <;> rfl
  have hil : i < t.place.toList.length := by
    have h1 : i < L.length := (List.getElem?_eq_some_iff.mp hp).1
    have h2 := R.tab.sz
    rw [List.length_map] at h2
    rw [Array.length_toList]
    omega
  have hj := List.getElem?_eq_getElem hil
  obtain ⟨c, hc, e⟩ := R.tab.before hK hi hj
  exact ⟨c, Nat.zero_le _, hc, by rw [hj, e]⟩

/-! ### adding -/
theorem rowN_ins (L : List AK) (p : Nat) (x : Addr) (k : NestedKey) : rowN w (L.take p ++ (x, k) :: L.drop p) = (rowN w L).take p ++ (nh w k, Value.ref x) :: (rowN w L).drop p := by
  unfold rowN
  rw [List.map_append, List.map_cons, List.map_take, List.map_drop]
theorem range_pick {α : Type} (L : List α) : (List.range L.length).filterMap (fun i => L[i]?) = L := by
  induction L with
  | nil => rfl
  | cons x L ih =>
    rw [List.length_cons, List.range_succ_eq_map, List.filterMap_cons, List.filterMap_map]
    exact congrArg (x :: ·) ih
/-- the rows in another order -/
theorem rows_turned (L : List AK) (es : Array (Int × Value)) (order : Array Nat) (hr : es.toList = rowN w L) (hp : order.toList.Perm (List.range L.length)) :
    ∃ L2, (order.filterMap (es[·]?)).toList = rowN w L2 ∧ L2.Perm L ∧ (L2.map fun p => nh w p.2) = order.toList.map fun i => (es.map (·.1)).getD i 0 := by
  have hsz := size_of_row hr
  have key : ∀ l : List Nat, (∀ i ∈ l, i < L.length) → ∃ L2 : List AK, l.filterMap (fun i => es[i]?) = rowN w L2 ∧ L2 = l.filterMap (fun i => L[i]?) ∧ (L2.map fun p => nh w p.2) = l.map fun i => (es.map (·.1)).getD i 0 := by
    intro l
    induction l with
    | nil => intro _; exact ⟨[], rfl, rfl, rfl⟩
    | cons i l ih =>
      intro hl
      have hi := hl i List.mem_cons_self
      have ent := row_at hr (List.getElem?_eq_getElem hi)
      obtain ⟨L2, e1, e2, e3⟩ := ih fun j hj => hl j (List.mem_cons_of_mem _ hj)
      refine ⟨L[i] :: L2, ?_, ?_, ?_⟩
      · rw [List.filterMap_cons_some ent, e1] <;> rfl
      · rw [List.filterMap_cons_some (List.getElem?_eq_getElem hi), e2]
      · rw [List.map_cons, List.map_cons, e3]
        have e5 : (es.map (·.1))[i]? = some (nh w (L[i]).2) := by rw [Array.getElem?_map, ent] <;> rfl
        have e4 : (es.map (·.1)).getD i 0 = nh w (L[i]).2 := by simp [Array.getD_eq_getD_getElem?, e5]
        rw [e4]
  obtain ⟨L2, e1, e2, e3⟩ := key order.toList fun i hi => List.mem_range.mp (hp.mem_iff.mp hi)
  refine ⟨L2, by first | (rw [Array.toList_filterMap]; exact e1) | simpa using e1, ?_, e3⟩
  have h1 : L2.Perm ((List.range L.length).filterMap fun i => L[i]?) := by
    rw [e2]
    exact hp.filterMap _
  rw [range_pick] at h1
  exact h1
/-- the table is laid anew, larger -/
theorem relay_n {o : Obj} (ho : s.heap.get? a = some o) (hex : o.ExactSet) (hd : o.data = .set es ep t) (hr : es.toList = rowN w L) (hsz : t.place.size = es.size) (hdm : t.dummies = #[]) (hfl : es.size ≤ t.mask)
    (nd : (L.map (·.2)).Nodup) (key : ∀ p ∈ L, IsN s.heap p.2 p.1) (ld : w.params.followText "set-order" = true ∨ t.led = true) (few : L.length < 64) {wanted M : Nat}
    (hw : SetTable.sizeAbove wanted - 1 = M) (hM : MaskOk M) (hw2 : SetTable.sizeAbove wanted ≤ 128) (hn : L.length * 5 < M * 3) {Q : Unit → Shared → Prop}
    (q : ∀ h' L' es' ep' t', Heap.SameBut a s.heap h' → SetN w h' a L' es' ep' t' → L'.Perm L → Q () { s with heap := h' }) : wpAny (model P w) A (setRelay a wanted) Q E s := by
  have hsl := size_of_row hr
  obtain ⟨t', order, e, hp, T, em, el, ep', ed⟩ := relaid_ok t (hs := es.map (·.1)) (wanted := wanted) hw hM (by rw [Array.size_map, hsl]; omega)
  rw [Array.size_map, hsl] at hp
  obtain ⟨L2, r1, r2, r3⟩ := rows_turned L es order hr hp
  rw [← r3] at T
  have hs2 : (order.filterMap (es[·]?)).size = es.size := by rw [size_of_row r1, r2.length_eq, hsl]
  rw [setRelay_eq]
  refine wpAny_bind (wpAny_setState_of ho hd (fits_of hsz hdm hfl) ?_)
  dsimp only
  refine wp_if_neg (by rw [sizeLine_eq]; omega) ?_
  try refine wpAny_bind (wpAny_pure ?_)
  rw [e]
  dsimp only
  refine wpAny_bind ?_
  refine wp_if_neg (by rw [hs2]; simp) ?_
  try refine wpAny_bind (wpAny_pure ?_)
  refine wpAny_pure ?_
  dsimp only
  refine wpAny_storeSet_of ho hd ?_ (by rw [hs2, hsl, sizeLine_eq]; omega)
  have sb : Heap.SameBut a s.heap (s.heap.update a (Obj.putSet (order.filterMap (es[·]?)) t')) := Heap.SameBut.update ..
  refine q _ L2 (order.filterMap (es[·]?)) (ep + 1) t' sb ⟨⟨_, store_at ho hd, ⟨hex.1, hex.2.1, hex.2.2⟩, rfl⟩, r1, T, (r2.map (·.2)).nodup_iff.mpr nd, fun p hpm => (key p (r2.mem_iff.mp hpm)).same ho hd sb, by rw [el]; exact ld, by rw [r2.length_eq, em]; exact hn, by rw [r2.length_eq]; exact few⟩ r2
/-- one key is put in -/
theorem add_n (R : SetN w s.heap a L es ep t) {x : Addr} {k : NestedKey} (hx : IsN s.heap k x) (hu : A.units + 8 < cLine) (hfew : L.length + 1 < 64) {Q : Bool → Shared → Prop}
    (q : ∀ b h' L' es' ep' t', Heap.SameBut a s.heap h' → SetN w h' a L' es' ep' t' → (k ∈ L.map (·.2) → L' = L) → (k ∉ L.map (·.2) → L'.Perm ((x, k) :: L)) → Q b { s with heap := h' }) :
    wpAny (model P w) A (setAddHashed a (.ref x) (nh w k)) Q E s := by
  obtain ⟨o, ho, hex, hd⟩ := R.ob
  have hsl := size_of_row R.row
  have hroom := R.room
  unfold setAddHashed
  refine wpAny_holding ?_
  rw [show (100000 : Nat) = 99999 + 1 from rfl, setAddHashedIn_succ]
  refine wpAny_bind (wpAny_setState_of ho hd R.fits ?_)
  dsimp only
  refine wp_if_neg (by simp [byScan, Value.scannable]) ?_
  try refine wpAny_bind (wpAny_pure ?_)
  refine wpAny_bind (find_at R hx hu (fun hm => ?_) fun K hm hK hb => ?_)
  · dsimp only
    exact wpAny_pure (q false s.heap L es ep t (Heap.SameBut.refl a s.heap) R (fun _ => rfl) fun z => absurd hm z)
  · dsimp only
    refine wpAny_bind (wpAny_setState_of ho hd R.fits ?_)
    dsimp only
    obtain ⟨q1, q2, q3, q4, q5, q6, q7, q8, q9⟩ := R.tab.put hK hb
    generalize t.put (way t.mask (nh w k) K) = pt at q1 q3 q4 q5 q6 q7 q8 q9 ⊢
    obtain ⟨t0, p⟩ := pt
    dsimp only at q1 q3 q4 q5 q6 q7 q8 q9 ⊢
    subst q1
    have told : ∀ (kk : Bool → PySem.Sem Bool) (Q' : Bool → Shared → Prop), (∀ b, wpAny (model P w) A (kk b) Q' E s) → wpAny (model P w) A (if t0.plain = true then (hashByValue 8 (Value.ref x) >>= kk) else (pure true >>= kk)) Q' E s := fun kk Q' q' => by
      by_cases hp : t0.plain = true
      · exact wp_if_pos hp (wpAny_bind (byval_key k _ 8 s _ hx.is hx.dep q'))
      · exact wp_if_neg hp (wpAny_bind (wpAny_pure (q' _)))
    refine told _ _ fun b => ?_
    have same : ∃ t1 : SetTable, (if b = true then t0 else { t0 with plain := false }) = t1 ∧ t1.mask = t0.mask ∧ t1.led = t0.led ∧ t1.fill = t0.fill ∧ t1.dummies = t0.dummies ∧ t1.place = t0.place ∧ (∀ hs, TabOk t0 hs → TabOk t1 hs) := by
      cases b with
      | true => exact ⟨_, rfl, rfl, rfl, rfl, rfl, rfl, fun _ h => h⟩
      | false => exact ⟨_, rfl, rfl, rfl, rfl, rfl, rfl, fun hs h => by
          obtain ⟨a1, a2, a3, a4, a5, a6⟩ := h
          exact ⟨a1, a2, a3, a4, a5, a6⟩⟩
    obtain ⟨t1, e0, m1, m2, m3, m4, m5, m6⟩ := same
    rw [e0]
    replace q3 := m6 _ q3
    rw [← m1] at q4
    rw [← m2] at q5
    rw [← m3] at q9
    have hin : (SetTable.insertAt es (SetTable.below t.place (way t.mask (nh w k) K)) (nh w k, Value.ref x)).toList = rowN w (L.take (SetTable.below t.place (way t.mask (nh w k) K)) ++ (x, k) :: L.drop (SetTable.below t.place (way t.mask (nh w k) K))) := by
      rw [SetTable.toList_insertAt, rowN_ins, R.row]
    generalize SetTable.below t.place (way t.mask (nh w k) K) = p at q2 q3 hin ⊢
    have pm := put_perm L p (x, k)
    have hlen : (L.take p ++ (x, k) :: L.drop p).length = L.length + 1 := pm.length_eq
    have hhs : (L.take p ++ (x, k) :: L.drop p).map (fun p => nh w p.2) = (L.map fun p => nh w p.2).take p ++ nh w k :: (L.map fun p => nh w p.2).drop p := by
      rw [List.map_append, List.map_cons, List.map_take, List.map_drop]
    rw [← hhs] at q3
    have nd1 : ((L.take p ++ (x, k) :: L.drop p).map (·.2)).Nodup := (pm.map (·.2)).nodup_iff.mpr (by
      rw [List.map_cons]
      exact List.nodup_cons.mpr ⟨hm, R.nd⟩)
    have hes := size_of_row hin
    rw [hlen] at hes
    generalize SetTable.insertAt es p (nh w k, Value.ref x) = es1 at hin hes ⊢
    generalize L.take p ++ (x, k) :: L.drop p = L1 at pm hlen q3 nd1 hin
    refine wpAny_bind (wpAny_storeSet_of ho hd ?_ (by rw [hes, sizeLine_eq]; omega))
    have sb : Heap.SameBut a s.heap (s.heap.update a (Obj.putSet es1 t1)) := Heap.SameBut.update ..
    have ho1 := store_at (es' := es1) (t' := t1) ho hd
    generalize s.heap.update a (Obj.putSet es1 t1) = h1 at sb ho1 ⊢
    have key1 : ∀ p ∈ L1, IsN h1 p.2 p.1 := fun p hp => by
      rcases List.mem_cons.mp (pm.mem_iff.mp hp) with e | hp
      · rw [e]; exact hx.same ho hd sb
      · exact (R.key p hp).same ho hd sb
    have ld1 : w.params.followText "set-order" = true ∨ t1.led = true := by rw [q5]; exact R.led
    have hfl : t1.tooFull = decide ((L.length + 1) * 5 ≥ t1.mask * 3) := by
      unfold SetTable.tooFull
      rw [q9, List.length_map]
    by_cases hf : t1.tooFull = true
    · first
        | (refine wpAny_bind ?_; refine wp_if_pos (by simp [hf]) ?_)
        | (refine wp_if_pos (by simp [hf]) ?_; refine wpAny_bind ?_)
      rw [hfl, decide_eq_true_eq] at hf
      rw [hsl]
      have hsz1 : t1.place.size = es1.size := by
        have h := q3.sz
        rw [List.length_map, hlen] at h
        rw [h, hes]
      have two : (t.mask = 7 ∧ L.length = 4) ∨ (t.mask = 31 ∧ L.length = 18) := by
        rw [q4] at hf
        rcases R.tab.mok with e | e | e <;> rw [e] at hf hroom
        · exact .inl ⟨e, by omega⟩
        · exact .inr ⟨e, by omega⟩
        · omega
      have go : ∀ M, SetTable.sizeAbove (SetTable.grown (L.length + 1)) - 1 = M → MaskOk M → SetTable.sizeAbove (SetTable.grown (L.length + 1)) ≤ 128 → (L.length + 1) * 5 < M * 3 →
          wpAny (model P w) A (setRelay a (SetTable.grown (L.length + 1))) (fun _ s' => wpAny (model P w) A (pure true) Q E s') E { s with heap := h1 } := fun M z1 z2 z3 z4 =>
        relay_n (s := { s with heap := h1 }) ho1 ⟨hex.1, hex.2.1, hex.2.2⟩ rfl hin hsz1 q3.dm (by rw [hes, q4]; omega) nd1 key1 ld1 (by rw [hlen]; exact hfew) z1 z2 z3 (by rw [hlen]; exact z4) fun h2 L2 es2 ep2 t2 sb2 R2 pm2 =>
          wpAny_pure (q true h2 L2 es2 ep2 t2 (sb.trans sb2) R2 (fun z => absurd z hm) fun _ => pm2.trans pm)
      rcases two with ⟨_, e2⟩ | ⟨_, e2⟩
      · exact go 31 (by rw [e2, size_20]) (.inr (.inl rfl)) (by rw [e2, size_20]; decide) (by omega)
      · exact go 127 (by rw [e2, size_76]) (.inr (.inr rfl)) (by rw [e2, size_76]; decide) (by omega)
    · first
        | refine wp_if_neg (by simp [hf]) ?_
        | (refine wpAny_bind ?_; refine wp_if_neg (by simp [hf]) ?_; refine wpAny_pure ?_)
      rw [hfl, decide_eq_true_eq] at hf
      exact wpAny_pure (q true h1 L1 es1 (ep + 1) t1 sb ⟨⟨_, ho1, ⟨hex.1, hex.2.1, hex.2.2⟩, rfl⟩, hin, q3, nd1, key1, ld1, by rw [hlen]; omega, by rw [hlen]; exact hfew⟩ (fun z => absurd z hm) fun _ => pm)

/-! ### set(xs) -/
/-- what the first i of the keys have made -/
structure GotN (ks : List AK) (i : Nat) (L : List AK) : Prop where
  all : ∀ k, k ∈ (ks.take i).map (·.2) ↔ k ∈ L.map (·.2)
  len : L.length ≤ i
  sub : ∀ p ∈ L, p ∈ ks.take i
theorem GotN.next {ks L L' : List AK} {i : Nat} {x : AK} (g : GotN ks i L) (h : ks[i]? = some x) (c : (x.2 ∈ L.map (·.2) ∧ L' = L) ∨ L'.Perm (x :: L)) : GotN ks (i + 1) L' := by
  have ht : ks.take (i + 1) = ks.take i ++ [x] := by rw [List.take_succ, h] <;> rfl
  rcases c with ⟨hm, rfl⟩ | pm
  · refine ⟨fun k => ?_, Nat.le_succ_of_le g.len, fun p hp => by rw [ht]; exact List.mem_append_left _ (g.sub p hp)⟩
    rw [ht, List.map_append, List.mem_append, g.all k]
    refine ⟨fun z => z.elim id fun z => ?_, .inl⟩
    have : k = x.2 := by simpa using z
    rw [this]; exact hm
  · refine ⟨fun k => ?_, ?_, fun p hp => ?_⟩
    · rw [(pm.map (·.2)).mem_iff, List.map_cons, List.mem_cons, ht, List.map_append, List.mem_append, g.all k]
      simp
      exact Or.comm
    · rw [pm.length_eq, List.length_cons]
      exact Nat.succ_le_succ g.len
    · rw [ht]
      rcases List.mem_cons.mp (pm.mem_iff.mp hp) with e | z
      · rw [e]; exact List.mem_append_right _ List.mem_cons_self
      · exact List.mem_append_left _ (g.sub p z)
theorem SetN.keep {h h' : Heap} (R : SetN w h a L es ep t) (ha : ∀ o, h.get? a = some o → h'.get? a = some o) (hk : ∀ p ∈ L, IsN h' p.2 p.1) : SetN w h' a L es ep t := by
  obtain ⟨o, ho, r⟩ := R.ob
  exact ⟨⟨o, ha o ho, r⟩, R.row, R.tab, R.nd, hk, R.led, R.room, R.few⟩
abbrev newSet (w : World) : Obj := { cls := .type "set", dict := none, data := .set #[] 0 (.fresh 0 0 (!w.params.followText "set-order")) }
theorem setN_new {h : Heap} (ho : h.get? a = some (newSet w)) : SetN w h a [] #[] 0 (.fresh 0 0 (!w.params.followText "set-order")) where
  ob := ⟨_, ho, ⟨rfl, rfl, rfl⟩, rfl⟩
  row := rfl
  tab := ⟨List.Pairwise.nil, rfl, rfl, .inl rfl, fun x hx => (by cases hx), fun i h j hi => (by simp at hi)⟩
  nd := List.nodup_nil
  key := fun p hp => (by cases hp)
  led := by
    show _ ∨ (!w.params.followText "set-order") = true
    cases w.params.followText "set-order"
    · exact .inr rfl
    · exact .inl rfl
  room := (by decide : 0 * 5 < 7 * 3)
  few := (by decide : 0 < 64)
end
end R
set_option Elab.async false
set_option linter.all false
set_option maxRecDepth 100000
set_option maxHeartbeats 4000000
/-! set(xs) over a list or a tuple, and how many there are in it. -/
namespace R
open PySem PySem.Spec PyProof.Rows L2

/-! ### how many different ones -/
section
variable {κ : Type} [DecidableEq κ]
def cntGo : List κ → List κ → Nat
  | _, [] => 0
  | seen, x :: r => (if x ∈ seen then 0 else 1) + cntGo (seen ++ [x]) r
def cntK (l : List κ) : Nat := cntGo [] l
theorem cntGo_snoc (x : κ) : ∀ (l seen : List κ), cntGo seen (l ++ [x]) = cntGo seen l + if x ∈ seen ++ l then 0 else 1
  | [], seen => by simp [cntGo]
  | y :: l, seen => by
    rw [List.cons_append]
    unfold cntGo
    rw [cntGo_snoc x l (seen ++ [y]), List.append_assoc, List.singleton_append, Nat.add_assoc]
theorem cntK_snoc (l : List κ) (x : κ) : cntK (l ++ [x]) = cntK l + if x ∈ l then 0 else 1 := by
  unfold cntK
  rw [cntGo_snoc, List.nil_append]
theorem cntGo_le : ∀ (l seen : List κ), cntGo seen l ≤ l.length
  | [], _ => Nat.le_refl _
  | x :: l, seen => by
    unfold cntGo
    have := cntGo_le l (seen ++ [x])
    rw [List.length_cons]
    split <;> omega
def memB (l : List κ) (k : κ) : Bool := decide (k ∈ l)
theorem memB_snoc (l : List κ) (x : κ) : (fun k => memB l k || decide (k = x)) = memB (l ++ [x]) := by
  funext k
  unfold memB
  by_cases a : k ∈ l <;> by_cases b : k = x <;> simp [a, b]
theorem cntK_memB (l : List κ) (x : κ) : (if memB l x = true then cntK l else cntK l + 1) = cntK (l ++ [x]) := by
  rw [cntK_snoc]
  unfold memB
  by_cases a : x ∈ l <;> simp [a]
theorem memB_nil (k : κ) : memB ([] : List κ) k = false := by simp [memB]
theorem take_snoc {l : List κ} {i : Nat} {x : κ} (h : l[i]? = some x) : l.take (i + 1) = l.take i ++ [x] := by rw [List.take_succ, h] <;> rfl
end

section
variable {P : Program} {w : World} {A : Around} {E : Value → Shared → Prop} {s : Shared}
/-- the loop that puts in one by one: Inv is kept by each -/
theorem set_loop {I : Addr} {fp wr : List Addr} {G : Array GenState → Array GenState → Prop} {n : Nat} {Pv : Nat → Value → Prop} {St : Nat → Shared → Prop} {R : Result → Shared → Prop}
    (W : WalksS P w A.in1 I fp wr G n Pv St) (S : Addr) (hSf : S ∉ fp) (h0 : Heap) (hw0 : ∀ b ∈ wr, h0.get? b = none) (hS0 : h0.get? S = none) (Inv : Nat → Heap → Prop)
    (stay : ∀ i h h', Inv i h → (∀ b o, h0.get? b = some o → h'.get? b = some o) → (∀ o, h.get? S = some o → h'.get? S = some o) → Inv i h')
    (step : ∀ (i : Nat) (v : Value) (s : Shared) (Q : Bool → Shared → Prop) (E : Value → Shared → Prop), i < n → Pv i v → (∀ b o, h0.get? b = some o → s.heap.get? b = some o) → Inv i s.heap →
      (∀ b h' tk, s.toks ≤ tk → Heap.SameBut S s.heap h' → Inv (i + 1) h' → Q b { s with heap := h', toks := tk }) → wpAny (model P w) A.in1 (setAdd S v) Q E s) :
    ∀ (k i : Nat) (s : Shared), n - i = k → i ≤ n → St i s → (∀ b o, h0.get? b = some o → s.heap.get? b = some o) → Inv i s.heap →
      (∀ s', Moved (S :: wr) G s s' → Inv n s'.heap → (∀ b o, h0.get? b = some o → s'.heap.get? b = some o) → R (.ok (.ret .none)) s') →
      codeAny (model P w) A (.builtin "set.update.loop" ⟨[.ref S, .ref I], []⟩) R s := by
  have hSw : S ∉ wr := fun h => hSf (W.sub _ h)
  have hsub : ∀ b ∈ wr, b ∈ S :: wr := fun b hb => List.mem_cons_of_mem _ hb
  have keepM : ∀ {s s' : Shared}, Moved wr G s s' → (∀ b o, h0.get? b = some o → s.heap.get? b = some o) → ∀ b o, h0.get? b = some o → s'.heap.get? b = some o := fun hm hkp b o e =>
    hm.heap b o (fun hb => by rw [hw0 b hb] at e; cases e) (hkp b o e)
  intro k
  induction k with
  | zero =>
    intro i s hk' hi hst hkp hI hR
    obtain rfl : i = n := by omega
    refine codeAny_builtin F.entry_set_update_loop ?_
    rw [Around.under_plainId F.plain_set_update_loop _]
    show wpAny _ A.in1 (pyNext (.ref I) >>= _) _ _ s
    refine wpAny_bind (W.done s _ _ hst fun s' hm => ?_)
    show wpAny _ A.in1 (ret Value.none) _ _ s'
    have hkp' := keepM hm hkp
    exact wpAny_pure (hR s' (hm.mono hsub) (stay _ _ _ hI hkp' fun o e => hm.heap S o hSw e) hkp')
  | succ k ih =>
    intro i s hk' hi hst hkp hI hR
    have hlt : i < n := by omega
    refine codeAny_builtin F.entry_set_update_loop ?_
    rw [Around.under_plainId F.plain_set_update_loop _]
    show wpAny _ A.in1 (pyNext (.ref I) >>= _) _ _ s
    refine wpAny_bind (W.item i s _ _ hlt hst fun v s' hP hst' hm => ?_)
    have hkp' := keepM hm hkp
    have hI' := stay _ _ _ hI hkp' fun o e => hm.heap S o hSw e
    show wpAny _ A.in1 (holding [v] (setAdd S v) >>= _) _ _ s'
    refine wpAny_bind (wpAny_holding ?_)
    refine step i v s' _ _ hlt hP hkp' hI' fun b h' tk htk hsb hI2 => ?_
    have hkp2 : ∀ b o, h0.get? b = some o → h'.get? b = some o := fun b o e => (hsb.2 b (fun z => by rw [z, hS0] at e; cases e)).trans (hkp' b o e)
    refine wpAny_pure ⟨plainId_quiet F.plain_set_update_loop _, ih (i + 1) _ (by omega) hlt (W.frame _ s' _ _ hst' htk fun b hb o e => ?_) hkp2 hI2 fun s'' hm'' hI'' hkp'' => ?_⟩
    · rw [hsb.2 b (fun h : b = S => hSf (by rw [← h]; exact hb))]; exact e
    · refine hR s'' (Moved.trans W.gtrans ((hm.mono hsub).then_heap htk fun b o hb e => ?_) hm'') hI'' hkp''
      rw [hsb.2 b (fun h : b = S => hb (by rw [h]; exact List.mem_cons_self))]; exact e

theorem none_above {h : Heap} {b : Addr} (hb : h.objs.size ≤ b) : h.get? b = none := by
  cases q : h.get? b with
  | none => rfl
  | some o => exact absurd (Nat.lt_of_lt_of_le (Heap.lt_size q) hb) (Nat.lt_irrefl _)
/-- what is asked of a walk that fills the set at S -/
def Fills (P : Program) (w : World) (A : Around) (S : Addr) (h0 : Heap) (vs : Array Value) (Inv : Nat → Heap → Prop) : Prop :=
  (∀ i h h', Inv i h → (∀ b o, h0.get? b = some o → h'.get? b = some o) → (∀ o, h.get? S = some o → h'.get? S = some o) → Inv i h') ∧
  (∀ (i : Nat) (v : Value) (s : Shared) (Q : Bool → Shared → Prop) (E : Value → Shared → Prop), i < vs.size → vs[i]? = some v → (∀ b o, h0.get? b = some o → s.heap.get? b = some o) → Inv i s.heap →
      (∀ b h' tk, s.toks ≤ tk → Heap.SameBut S s.heap h' → Inv (i + 1) h' → Q b { s with heap := h', toks := tk }) → wpAny (model P w) A (setAdd S v) Q E s) ∧
  (∀ h, h.get? S = some (newSet w) → (∀ b o, h0.get? b = some o → h.get? b = some o) → Inv 0 h)
set_option maxHeartbeats 8000000 in
/-- set(xs), xs a list -/
theorem set_of_list {l : Addr} {vs : Array Value} {Q : Value → Shared → Prop} {Inv : Nat → Heap → Prop} (hh : A.handled = none) (hl : s.heap.IsList l vs) (hF : ∀ B : Around, B.units ≤ A.units + 8 → Fills P w B s.heap.objs.size s.heap vs Inv)
    (q : ∀ (h' : Heap) (tk : Nat), Inv vs.size h' → (∀ b o, s.heap.get? b = some o → h'.get? b = some o) → Q (.ref s.heap.objs.size) { s with heap := h', toks := tk }) :
    wpAny (model P w) A (call (.type "set") [.ref l]) Q E s := by
  obtain ⟨c, tl, hmro⟩ := F.called_set.mro
  have hmade := F.called_set.made
  have hsub := F.called_set.sub
  refine wpAny_call (codeAny_of_tree ?_)
  show wpAny _ _ (callAny (.type "set") _) _ _ _
  refine wpAny_pure ⟨Code.quiet_builtin _ (by decide +kernel), codeAny_builtin F.entry_type_call ?_⟩
  rw [Around.under_plain (weight_type_call_type "set" [.ref l] []) rfl]
  have h1 := F.called_set.notType
  have h2 := F.called_set.canCreate
  have hct := F.typeCall_set_1 (.ref l)
  repeat (any_goals (first | assumption | wp_step))
  refine codeAny_mono (code_set_led1 (.ref l) (E := E) (Q₁ := fun obj s₁ => obj = .ref s.heap.objs.size ∧ s₁ = { s with heap := s.heap.push (newSet w) }) ⟨rfl, rfl⟩) fun r s₁ hr => ?_
  cases r with
  | error e => exact hr
  | ok fl =>
    cases fl with
    | ret obj =>
      obtain ⟨rfl, rfl⟩ := hr
      have hS : (s.heap.push (newSet w)).get? s.heap.objs.size = some (newSet w) := Heap.get?_push_size _ rfl
      have hT : Shared.TypeIs { s with heap := s.heap.push (newSet w) } (.ref s.heap.objs.size) "set" := ⟨_, hS, rfl⟩
      have hli := F.called_set.init.lookup
      have hbi := F.called_set.init.bind (.ref s.heap.objs.size)
      repeat (any_goals (first | assumption | wp_step))
      refine codeAny_mono (codeAny_call_builtin (R := wants (fun r s₂ => r = .none ∧ ∃ h' tk, s₂ = { s with heap := h', toks := tk } ∧ Inv vs.size h' ∧ (∀ b o, s.heap.get? b = some o → h'.get? b = some o)) E) F.called_set.init.plain F.entry_set_init (check_set_init_1 hT ?_)) fun r₂ s₂ hr₂ => ?_
      · obtain ⟨⟨ocls, odict, odata, oslots⟩, hol, hcl, nl, hdl⟩ := hl
        simp only at hcl hdl
        subst hcl hdl
        have k1 : ∀ b o, s.heap.get? b = some o → (s.heap.push (newSet w)).get? b = some o := fun b o e => Heap.get?_push_of_some _ e
        have hol' := k1 _ _ hol
        have hsls := F.sub_list_set
        have hslf := F.sub_list_frozenset
        have hne : (Value.type "list" == Value.type "dict") = false := by decide
        have hl1 : (s.heap.push (newSet w)).IsList l vs := ⟨_, hol', rfl, nl, rfl⟩
        unfold Builtin.«set.__init__» noKeywords Builtin.Frozenset.updateFrom
        generalize hPI : pyIter = PI
        wp_walk
        subst hPI
        refine wpAny_pyIter_list hl1 ?_
        refine wpAny_bind (wpAny_runValue ?_)
        have hlS : l < s.heap.objs.size := Heap.lt_size hol
        have hh3 : A.in1.in1.in1.handled = none := by simp [hh]
        have hsz : (s.heap.push (newSet w)).objs.size = s.heap.objs.size + 1 := Heap.size_push ..
        obtain ⟨f1, f2, f3⟩ := hF A.in1.in1.in1 (by simp only [Around.in1_units]; omega)
        refine set_loop (Walks.list hh3 _ l (by rw [hsz]; exact Nat.ne_of_lt (Nat.lt_succ_of_lt hlS)) vs).toS s.heap.objs.size (by rw [hsz]; simp only [List.mem_cons, List.not_mem_nil, or_false, not_or]; exact ⟨Nat.ne_of_lt (Nat.lt_succ_self _), Nat.ne_of_gt hlS⟩) s.heap (fun b hb => none_above (by rw [List.mem_singleton.mp hb, hsz]; omega)) (none_above (Nat.le_refl _)) Inv f1 f2
          (vs.size - 0) 0 _ rfl (Nat.zero_le _) ⟨⟨_, Heap.get?_push_size _ rfl, rfl, rfl⟩, hl1.push _⟩ (fun b o e => Heap.get?_push_of_some _ (k1 b o e)) (f3 _ (Heap.get?_push_of_some _ hS) fun b o e => Heap.get?_push_of_some _ (k1 b o e)) ?_
        intro s' hm hI' hkp
        obtain ⟨h', g2, d', tk', os'⟩ := s'
        have eg : g2 = s.gens := hm.gens
        have ed : d' = s.drawn := hm.drawn
        have eo : os' = s.os := hm.os
        subst eg ed eo
        show wpAny _ _ _ _ _ _
        refine wpAny_pure ?_
        show wpAny _ _ (ret Value.none) _ _ _
        exact wpAny_pure ⟨rfl, h', tk', rfl, hI', hkp⟩
      · cases r₂ with
        | error e => exact hr₂
        | ok fl₂ =>
          cases fl₂ with
          | ret r =>
            obtain ⟨rfl, h', tk, rfl, hI', hk'⟩ := hr₂
            repeat (any_goals (first | assumption | wp_step))
            exact q _ _ hI' hk'
          | _ => exact hr₂.elim
    | _ => exact hr.elim
set_option maxHeartbeats 8000000 in
/-- set(xs), xs a tuple -/
theorem set_of_tuple {l : Addr} {vs : Array Value} {Q : Value → Shared → Prop} {Inv : Nat → Heap → Prop} (hh : A.handled = none) (hl : s.heap.IsTuple l vs) (hF : ∀ B : Around, B.units ≤ A.units + 8 → Fills P w B s.heap.objs.size s.heap vs Inv)
    (q : ∀ (h' : Heap) (tk : Nat), Inv vs.size h' → (∀ b o, s.heap.get? b = some o → h'.get? b = some o) → Q (.ref s.heap.objs.size) { s with heap := h', toks := tk }) :
    wpAny (model P w) A (call (.type "set") [.ref l]) Q E s := by
  obtain ⟨c, tl, hmro⟩ := F.called_set.mro
  have hmade := F.called_set.made
  have hsub := F.called_set.sub
  refine wpAny_call (codeAny_of_tree ?_)
  show wpAny _ _ (callAny (.type "set") _) _ _ _
  refine wpAny_pure ⟨Code.quiet_builtin _ (by decide +kernel), codeAny_builtin F.entry_type_call ?_⟩
  rw [Around.under_plain (weight_type_call_type "set" [.ref l] []) rfl]
  have h1 := F.called_set.notType
  have h2 := F.called_set.canCreate
  have hct := F.typeCall_set_1 (.ref l)
  repeat (any_goals (first | assumption | wp_step))
  refine codeAny_mono (code_set_led1 (.ref l) (E := E) (Q₁ := fun obj s₁ => obj = .ref s.heap.objs.size ∧ s₁ = { s with heap := s.heap.push (newSet w) }) ⟨rfl, rfl⟩) fun r s₁ hr => ?_
  cases r with
  | error e => exact hr
  | ok fl =>
    cases fl with
    | ret obj =>
      obtain ⟨rfl, rfl⟩ := hr
      have hS : (s.heap.push (newSet w)).get? s.heap.objs.size = some (newSet w) := Heap.get?_push_size _ rfl
      have hT : Shared.TypeIs { s with heap := s.heap.push (newSet w) } (.ref s.heap.objs.size) "set" := ⟨_, hS, rfl⟩
      have hli := F.called_set.init.lookup
      have hbi := F.called_set.init.bind (.ref s.heap.objs.size)
      repeat (any_goals (first | assumption | wp_step))
      refine codeAny_mono (codeAny_call_builtin (R := wants (fun r s₂ => r = .none ∧ ∃ h' tk, s₂ = { s with heap := h', toks := tk } ∧ Inv vs.size h' ∧ (∀ b o, s.heap.get? b = some o → h'.get? b = some o)) E) F.called_set.init.plain F.entry_set_init (check_set_init_1 hT ?_)) fun r₂ s₂ hr₂ => ?_
      · obtain ⟨⟨ocls, odict, odata, oslots⟩, hol, hcl, nl, hdl⟩ := hl
        simp only at hcl hdl
        subst hcl hdl
        have k1 : ∀ b o, s.heap.get? b = some o → (s.heap.push (newSet w)).get? b = some o := fun b o e => Heap.get?_push_of_some _ e
        have hol' := k1 _ _ hol
        have hsls := PySem.F.sub_tuple_set
        have hslf := PySem.F.sub_tuple_frozenset
        have hne : (Value.type "tuple" == Value.type "dict") = false := by decide
        have hl1 : (s.heap.push (newSet w)).IsTuple l vs := ⟨_, hol', rfl, nl, rfl⟩
        unfold Builtin.«set.__init__» noKeywords Builtin.Frozenset.updateFrom
        generalize hPI : pyIter = PI
        wp_walk
        subst hPI
        refine wpAny_pyIter_tuple hl1 ?_
        refine wpAny_bind (wpAny_runValue ?_)
        have hlS : l < s.heap.objs.size := Heap.lt_size hol
        have hh3 : A.in1.in1.in1.handled = none := by simp [hh]
        have hsz : (s.heap.push (newSet w)).objs.size = s.heap.objs.size + 1 := Heap.size_push ..
        obtain ⟨f1, f2, f3⟩ := hF A.in1.in1.in1 (by simp only [Around.in1_units]; omega)
        refine set_loop (Walks.tuple hh3 _ l (by rw [hsz]; exact Nat.ne_of_lt (Nat.lt_succ_of_lt hlS)) vs).toS s.heap.objs.size (by rw [hsz]; simp only [List.mem_cons, List.not_mem_nil, or_false, not_or]; exact ⟨Nat.ne_of_lt (Nat.lt_succ_self _), Nat.ne_of_gt hlS⟩) s.heap (fun b hb => none_above (by rw [List.mem_singleton.mp hb, hsz]; omega)) (none_above (Nat.le_refl _)) Inv f1 f2
          (vs.size - 0) 0 _ rfl (Nat.zero_le _) ⟨⟨_, Heap.get?_push_size _ rfl, rfl, rfl⟩, hl1.at fun o e => Heap.get?_push_of_some _ e⟩ (fun b o e => Heap.get?_push_of_some _ (k1 b o e)) (f3 _ (Heap.get?_push_of_some _ hS) fun b o e => Heap.get?_push_of_some _ (k1 b o e)) ?_
        intro s' hm hI' hkp
        obtain ⟨h', g2, d', tk', os'⟩ := s'
        have eg : g2 = s.gens := hm.gens
        have ed : d' = s.drawn := hm.drawn
        have eo : os' = s.os := hm.os
        subst eg ed eo
        show wpAny _ _ _ _ _ _
        refine wpAny_pure ?_
        show wpAny _ _ (ret Value.none) _ _ _
        exact wpAny_pure ⟨rfl, h', tk', rfl, hI', hkp⟩
      · cases r₂ with
        | error e => exact hr₂
        | ok fl₂ =>
          cases fl₂ with
          | ret r =>
            obtain ⟨rfl, h', tk, rfl, hI', hk'⟩ := hr₂
            repeat (any_goals (first | assumption | wp_step))
            exact q _ _ hI' hk'
          | _ => exact hr₂.elim
    | _ => exact hr.elim

/-! ### the two kinds of items -/
/-- ints and texts -/
theorem fills_mix {S : Addr} {h0 : Heap} {vs : Array Value} {ks : List Key} (hz : ks.length = vs.size) (hb : ks.length + 1 < scanBound) (hk : ∀ (i : Nat) (v : Value), vs[i]? = some v → ∃ k, ks[i]? = some k ∧ keyIs k v = true) :
    Fills P w A S h0 vs fun i h => h.SetOf (mixKind P w) S (memB (ks.take i)) (cntK (ks.take i)) := by
  refine ⟨fun i h h' ⟨o, es, ep, t, ho, r⟩ _ hS => ⟨o, es, ep, t, hS o ho, r⟩, fun i v s Q E hi hv hkp hI q => ?_, fun h hS _ => ?_⟩
  · obtain ⟨k, hki, hkv⟩ := hk i v hv
    have hc : cntK (ks.take i) ≤ ks.length := Nat.le_trans (cntGo_le _ _) (by rw [List.length_take]; omega)
    have sc : v.scannable = true := by
      rcases keyIs_shape hkv with ⟨i, t, rfl, rfl⟩ | ⟨x, t, rfl, rfl⟩ <;> rfl
    unfold setAdd
    refine wpAny_holding ?_
    refine wpAny_bind ((mixKind P w).pyHash (k := k) hkv ?_)
    refine wpAny_setAddHashed_of (knd := mixKind P w) (s := { s with toks := s.toks + 1 }) hkv sc hI (by omega) fun h' hsb hS' => q _ h' _ (Nat.le_succ _) hsb ?_
    rw [memB_snoc, cntK_memB, ← take_snoc hki] at hS'
    exact hS'
  · refine ⟨_, #[], 0, _, hS, ⟨rfl, rfl, rfl⟩, rfl, fun e he => by simp at he, fun k => by rw [List.take_zero, memB_nil]; simp, by decide, by rfl, rfl⟩
/-- tuples of keys -/
theorem fills_nest {S : Addr} {h0 : Heap} {vs : Array Value} {ks : List AK} (hu : A.units + 8 < cLine) (hz : ks.length = vs.size) (hb : ks.length < 64) (hv : ∀ (i : Nat) (v : Value), vs[i]? = some v → ∃ p, ks[i]? = some p ∧ v = .ref p.1) (hk : ∀ p ∈ ks, IsN h0 p.2 p.1) :
    Fills P w A S h0 vs fun i h => ∃ L es ep t, SetN w h S L es ep t ∧ GotN ks i L ∧ L.length = cntK ((ks.take i).map (·.2)) := by
  refine ⟨fun i h h' ⟨L, es, ep, t, R, g, e⟩ hkp hS => ⟨L, es, ep, t, R.keep hS fun p hp => (hk p (List.mem_of_mem_take (g.sub p hp))).keep hkp, g, e⟩, fun i v s Q E hi hvi hkp ⟨L, es, ep, t, R, g, e⟩ q => ?_, fun h hS _ => ?_⟩
  · obtain ⟨p, hp, rfl⟩ := hv i v hvi
    have hx : IsN s.heap p.2 p.1 := (hk p (List.mem_of_getElem? hp)).keep hkp
    have ht : (ks.take (i + 1)).map (·.2) = (ks.take i).map (·.2) ++ [p.2] := by
      have : ks.take (i + 1) = ks.take i ++ [p] := by rw [List.take_succ, hp] <;> rfl
      rw [this, List.map_append] <;> rfl
    unfold setAdd
    refine wpAny_holding ?_
    refine wpAny_bind (hx.hash hu ?_)
    refine add_n (s := { s with toks := s.toks + p.2.draws }) R hx hu (by have := g.len; omega) fun b h' L' es' ep' t' hsb R' c1 c2 => q _ h' _ (Nat.le_add_right _ _) hsb ?_
    by_cases c : p.2 ∈ L.map (·.2)
    · have hL := c1 c
      subst hL
      refine ⟨_, _, _, _, R', g.next hp (.inl ⟨c, rfl⟩), ?_⟩
      rw [ht, cntK_snoc, if_pos ((g.all _).mpr c), e] <;> rfl
    · refine ⟨_, _, _, _, R', g.next hp (.inr (c2 c)), ?_⟩
      rw [ht, cntK_snoc, if_neg (fun z => c ((g.all _).mp z)), (c2 c).length_eq, List.length_cons, e]
  · exact ⟨[], #[], 0, _, setN_new hS, ⟨fun k => by simp, Nat.le_refl _, fun p hp => nomatch hp⟩, rfl⟩
end
end R
set_option Elab.async false
set_option linter.all false
set_option maxRecDepth 100000
set_option maxHeartbeats 4000000
/-! len(set(x)), sorted(x), x.index(y). -/
namespace R
open PySem PySem.Spec PyProof.Rows L2

/-! ### x.index(y) -/
theorem findT_spec (y : List Nat) : ∀ (x : List Nat) (k i : Nat), findT y x k = some i → ∃ j, i = k + j ∧ (j + y.length ≤ x.length ∧ (x.drop j).take y.length = y) ∧ ∀ m, m < j → ¬ (m + y.length ≤ x.length ∧ (x.drop m).take y.length = y)
  | [], k, i, h => by
    unfold findT at h
    split at h
    · rename_i e
      have : y = [] := by simpa using e
      subst this
      cases h
      exact ⟨0, rfl, by simp, fun m hm => absurd hm (Nat.not_lt_zero _)⟩
    · cases h
  | c :: r, k, i, h => by
    unfold findT at h
    split at h
    · rename_i e
      cases h
      rw [List.isPrefixOf_iff_prefix, List.prefix_iff_eq_take] at e
      refine ⟨0, rfl, ⟨?_, by simpa using e.symm⟩, fun m hm => absurd hm (Nat.not_lt_zero _)⟩
      have := congrArg List.length e
      rw [List.length_take] at this
      omega
    · rename_i e
      obtain ⟨j, rfl, ⟨h1, h2⟩, h3⟩ := findT_spec y r (k + 1) i h
      refine ⟨j + 1, by omega, ⟨by rw [List.length_cons]; omega, by simpa using h2⟩, fun m hm hh => ?_⟩
      cases m with
      | zero =>
        refine e ?_
        rw [List.isPrefixOf_iff_prefix, List.prefix_iff_eq_take]
        simpa using hh.2.symm
      | succ m =>
        refine h3 m (by omega) ⟨?_, by simpa using hh.2⟩
        have := hh.1
        rw [List.length_cons] at this
        omega
theorem occ_find {x y : Str} {i : Nat} (h : findT y.cps.toList x.cps.toList 0 = some i) : ∃ rest, Builtin.Str.occurrences x y 0 x.length 1 = i :: rest := by
  obtain ⟨j, e, h1, h2⟩ := findT_spec _ _ _ _ h
  obtain rfl : i = j := by omega
  rcases PySem.StrLaws.occ_head x y 1 (Nat.le_refl _) with ⟨_, hn⟩ | ⟨m, r, eo, hm, hn⟩
  · exact absurd ((sub_iff x y i).mpr h1) (hn i)
  · have : m = i := by
      by_cases a : m < i
      · exact absurd ((sub_iff x y m).mp hm) (h2 m a)
      · by_cases b : i < m
        · exact absurd ((sub_iff x y i).mpr h1) (hn i b)
        · omega
    subst this
    exact ⟨r, eo⟩
theorem mef_index {C : Cfg} {X : Cx} : ∃ r, MtR X "str.index" r ∧ MeF C r .index := by
  refine ⟨_, mt_sindex, fun x d2 d g y H Q hd hx r2 G q => ?_⟩
  cases d2 <;> simp only [meD] at hd <;> try cases hd
  obtain ⟨y1, rfl, rfl, hy⟩ := r2.str_inv
  obtain ⟨i, hi, rfl⟩ := Option.map_eq_some_iff.mp hd
  obtain ⟨rest, e⟩ := occ_find hi
  exact ⟨x, y1, i, rest, rfl, rfl, e, q _ H Ext.refl G (.int _)⟩
theorem sem_index {c : Ctx} {o e : Expr} {o' e' : Ex} {apos pos : Pos} (ho : Sem c o o') (he : Sem c e e') (hb : baseB o = true) (hl : (apos.endLine == pos.line) = true) : Sem c (.Call (.Attribute o "index" apos) [e] [] pos) (.me .index o' e') :=
  sem_me PySem.F.slot_str_index PySem.F.type_str_index (fun _ _ _ => mef_index) ho he hb hl

/-! ### keys -/
mutual
def toNK : Dat → NestedKey
  | .bl b => .num (if b then 1 else 0)
  | .int i => .num i
  | .str s => .text ⟨s.toArray⟩
  | .tup xs => .tup (toNKL xs)
  | _ => .none
def toNKL : List Dat → List NestedKey
  | [] => []
  | x :: xs => toNK x :: toNKL xs
end
theorem str_decEq (a b : List Nat) : decide ((⟨a.toArray⟩ : Str) = ⟨b.toArray⟩) = (a == b) := by
  rw [Bool.eq_iff_iff]
  simp only [decide_eq_true_eq, beq_iff_eq]
  constructor
  · intro h
    injection h with h
    simpa using h
  · intro h; subst h; rfl
theorem int_decEq (a b : Int) : decide (a = b) = (a == b) := by
  by_cases h : a = b <;> simp [h]
mutual
theorem nk_beq : ∀ (a b : Dat) (n m : Nat), nkB a n = true → nkB b m = true → NestedKey.beq (toNK a) (toNK b) = eqB a b
  | .non, b, n, m, _, hb => by cases b <;> simp_all [toNK, NestedKey.beq, eqB, nkB]
  | .bl x, b, n, m, _, hb => by
    cases b <;> simp_all [toNK, NestedKey.beq, eqB, nkB]
    · rename_i y
      cases x <;> cases y <;> rfl
    · cases x <;> exact int_decEq _ _
  | .int i, b, n, m, _, hb => by
    cases b <;> simp_all [toNK, NestedKey.beq, eqB, nkB]
    · rename_i y
      cases y <;> exact int_decEq _ _
    · exact int_decEq _ _
  | .str s, b, n, m, _, hb => by
    cases b <;> simp_all [toNK, NestedKey.beq, eqB, nkB]
    rename_i s'
    have h := str_decEq s s'
    rw [Bool.eq_iff_iff, decide_eq_true_eq, beq_iff_eq] at h
    rw [Bool.eq_iff_iff]
    simp only [decide_eq_true_eq, beq_iff_eq]
  | .tup xs, b, n, m, ha, hb => by
    cases b with
    | tup ys =>
      cases n with
      | zero => simp [nkB] at ha
      | succ n =>
        cases m with
        | zero => simp [nkB] at hb
        | succ m =>
          simp only [nkB] at ha hb
          simp only [toNK, NestedKey.beq, eqB]
          exact nk_beqL xs ys n m ha hb
    | lst _ => simp [nkB] at hb
    | fn i => simp [nkB] at hb
    | cup => simp [nkB] at hb
    | kl _ => simp [nkB] at hb
    | dct _ _ => simp [nkB] at hb
    | fdc _ _ => simp [nkB] at hb
    | own _ => simp [nkB] at hb
    | _ => simp [toNK, NestedKey.beq, eqB]
  | .lst _, _, _, _, ha, _ => by simp [nkB] at ha
  | .fn _, _, _, _, ha, _ => by simp [nkB] at ha
  | .cup, _, _, _, ha, _ => by simp [nkB] at ha
  | .kl _, _, _, _, ha, _ => by simp [nkB] at ha
  | .dct _ _, _, _, _, ha, _ => by simp [nkB] at ha
  | .fdc _ _, _, _, _, ha, _ => by simp [nkB] at ha
  | .own _, _, _, _, ha, _ => by simp [nkB] at ha
theorem nk_beqL : ∀ (a b : List Dat) (n m : Nat), nkLB a n = true → nkLB b m = true → NestedKey.beqAll (toNKL a) (toNKL b) = eqAllB a b
  | [], [], _, _, _, _ => by simp [toNKL, NestedKey.beqAll, eqAllB]
  | [], _ :: _, _, _, _, _ => by simp [toNKL, NestedKey.beqAll, eqAllB]
  | _ :: _, [], _, _, _, _ => by simp [toNKL, NestedKey.beqAll, eqAllB]
  | x :: xs, y :: ys, n, m, ha, hb => by
    simp only [nkLB, Bool.and_eq_true] at ha hb
    simp only [toNKL, NestedKey.beqAll, eqAllB]
    rw [nk_beq x y n m ha.1 hb.1, nk_beqL xs ys n m ha.2 hb.2]
end
mutual
theorem nk_depth : ∀ (d : Dat) (n : Nat), nkB d n = true → (toNK d).depth ≤ n
  | .tup xs, n, h => by
    cases n with
    | zero => simp [nkB] at h
    | succ n =>
      simp only [nkB] at h
      simp only [toNK, NestedKey.depth]
      exact Nat.succ_le_succ (nkL_depth xs n h)
  | .non, n, _ => by simp [toNK, NestedKey.depth]
  | .bl _, n, _ => by simp [toNK, NestedKey.depth]
  | .int _, n, _ => by simp [toNK, NestedKey.depth]
  | .str _, n, _ => by simp [toNK, NestedKey.depth]
  | .lst _, n, h => by simp [nkB] at h
  | .fn _, n, h => by simp [nkB] at h
  | .cup, n, h => by simp [nkB] at h
  | .kl _, n, h => by simp [nkB] at h
  | .dct _ _, n, h => by simp [nkB] at h
  | .fdc _ _, n, h => by simp [nkB] at h
  | .own _, n, h => by simp [nkB] at h
theorem nkL_depth : ∀ (d : List Dat) (n : Nat), nkLB d n = true → NestedKey.depthAll (toNKL d) ≤ n
  | [], n, _ => by simp [toNKL, NestedKey.depthAll]
  | x :: xs, n, h => by
    simp only [nkLB, Bool.and_eq_true] at h
    simp only [toNKL, NestedKey.depthAll]
    have h1 := nk_depth x n h.1
    have h2 := nkL_depth xs n h.2
    omega
end
section
variable {X : Cx} {pins : List (Addr × Obj)} {σ : L2.St} {H : Hp} {s : Shared} {C : Cfg}
mutual
theorem nk_is (I : Inv X pins σ H s) (hK : C.K = X.K) : ∀ (d : Dat) (n : Nat) (v : V) (u : Value), nkB d n = true → Rp C H v d → RelV v u → NestedIs s.heap (toNK d) u
  | .non, n, v, u, _, r, ru => by cases r; cases ru; exact .none
  | .bl b, n, v, u, _, r, ru => by
    cases r; cases ru
    unfold toNK
    exact .bool (by cases b <;> rfl)
  | .int i, n, v, u, _, r, ru => by
    cases r
    obtain ⟨t, rfl⟩ := ru
    unfold toNK
    exact .int _ _
  | .str x, n, v, u, _, r, ru => by
    obtain ⟨y, rfl, rfl, _⟩ := r.str_inv
    obtain ⟨t, rfl⟩ := ru
    unfold toNK
    exact .text y t
  | .tup xs, n, v, u, h, r, ru => by
    obtain ⟨a, vs, rfl, t, z, l⟩ := r.tup_inv
    cases ru
    cases n with
    | zero => simp [nkB] at h
    | succ n =>
      simp only [nkB] at h
      have sq := t.sq
      rw [hK] at sq
      obtain ⟨its, rv, ⟨o, ho, hc, m, hd⟩, hz⟩ := I.tuple sq
      unfold toNK
      exact .tup ho hc hd (by simpa using nk_isL I hK xs n vs its h l rv)
  | .lst _, _, _, _, h, _, _ => by simp [nkB] at h
  | .fn _, _, _, _, h, _, _ => by simp [nkB] at h
  | .cup, _, _, _, h, _, _ => by simp [nkB] at h
  | .kl _, _, _, _, h, _, _ => by simp [nkB] at h
  | .dct _ _, _, _, _, h, _, _ => by simp [nkB] at h
  | .fdc _ _, _, _, _, h, _, _ => by simp [nkB] at h
  | .own _, _, _, _, h, _, _ => by simp [nkB] at h
theorem nk_isL (I : Inv X pins σ H s) (hK : C.K = X.K) : ∀ (ds : List Dat) (n : Nat) (vs : List V) (us : List Value), nkLB ds n = true → RpL C H vs ds → Vals vs us → NestedAll s.heap (toNKL ds) us
  | [], n, vs, us, _, r, ru => by cases r; cases ru; exact .nil
  | d :: ds, n, vs, us, h, r, ru => by
    simp only [nkLB, Bool.and_eq_true] at h
    cases r with
    | cons r1 r2 =>
      cases ru with
      | cons u1 u2 => exact .cons (nk_is I hK d n _ _ h.1 r1 u1) (nk_isL I hK ds n _ _ h.2 r2 u2)
end
end
/-! ### len(set(x)) -/
theorem cnt_map {κ : Type} [DecidableEq κ] (f : Dat → κ) (p : Dat → Prop) (hf : ∀ x y, p x → p y → eqB y x = decide (f y = f x)) : ∀ (l seen : List Dat), (∀ x ∈ l, p x) → (∀ x ∈ seen, p x) → cntGoD seen l = cntGo (seen.map f) (l.map f)
  | [], _, _, _ => rfl
  | x :: l, seen, hl, hs => by
    have hx := hl x List.mem_cons_self
    unfold cntGoD
    rw [List.map_cons]
    unfold cntGo
    rw [cnt_map f p hf l (seen ++ [x]) (fun y hy => hl y (List.mem_cons_of_mem _ hy)) (fun y hy => by
      rcases List.mem_append.mp hy with h | h
      · exact hs y h
      · rw [List.mem_singleton.mp h]; exact hx), List.map_append]
    congr 1
    have e : seen.any (fun y => eqB y x) = decide (f x ∈ seen.map f) := by
      rw [Bool.eq_iff_iff, List.any_eq_true, decide_eq_true_eq, List.mem_map]
      constructor
      · rintro ⟨y, hy, e⟩
        rw [hf x y hx (hs y hy), decide_eq_true_eq] at e
        exact ⟨y, hy, e⟩
      · rintro ⟨y, hy, e⟩
        exact ⟨y, hy, by rw [hf x y hx (hs y hy), decide_eq_true_eq]; exact e⟩
    rw [e]
    by_cases h : f x ∈ seen.map f <;> simp [h]
theorem cntD_map {κ : Type} [DecidableEq κ] (f : Dat → κ) (p : Dat → Prop) (hf : ∀ x y, p x → p y → eqB y x = decide (f y = f x)) (l : List Dat) (hl : ∀ x ∈ l, p x) : cntD l = cntK (l.map f) :=
  cnt_map f p hf l [] hl fun x hx => nomatch hx
def toKey : Dat → Key
  | .int i => .inl i
  | .str s => .inr ⟨s.toArray⟩
  | _ => .inl 0
theorem key_eq (x y : Dat) (hx : atomB x = true) (hy : atomB y = true) : eqB y x = decide (toKey y = toKey x) := by
  cases x <;> simp [atomB] at hx <;> cases y <;> simp [atomB] at hy <;> simp only [eqB, toKey]
  · exact (key_ll _ _).symm
  · exact (key_rl _ _).symm
  · exact (key_lr _ _).symm
  · exact ((key_rr _ _).trans (str_decEq _ _)).symm
theorem nk_eq (x y : Dat) (hx : nkB x 8 = true) (hy : nkB y 8 = true) : eqB y x = decide (toNK y = toNK x) := by
  rw [NestedKey.decide_eq, nk_beq y x 8 8 hy hx]
def tLenset (K : PySem.W.Frag) (ta : TE) : TE := fun σ H Q => ta σ H fun x H1 => ∃ (C : Cfg) (d : Dat) (n : Nat), C.K = K ∧ Rp C H1 x d ∧ lenSetD d = some n ∧ Q (.int (n : Int)) H1
theorem zip_at {C : Cfg} {H : Hp} {vs : List V} {us : List Value} {ds : List Dat} (r : RpL C H vs ds) (rv : Vals vs us) {i : Nat} {u : Value} (h : us[i]? = some u) : ∃ v d, ds[i]? = some d ∧ Rp C H v d ∧ RelV v u := by
  obtain ⟨v, h1, h2⟩ := vals_back rv h
  obtain ⟨d, h3, h4⟩ := r.get' h1
  exact ⟨v, d, h3, h4, h2⟩
theorem vals_at {vs : List V} {us : List Value} (rv : Vals vs us) {i : Nat} {v : V} (h : vs[i]? = some v) : ∃ u, us[i]? = some u ∧ RelV v u := rv.get h
section
variable {X : Cx} {pins : List (Addr × Obj)} {σ : L2.St} {H : Hp} {s : Shared} {C : Cfg}
theorem lenset_end {l : Addr} {its : List Value} {vs : List V} {ds : List Dat} {n : Nat} {t : Bool} {Q : VK} (hc : X.calm = true) (hu : X.A.units + 64 < cLine) (hK : C.K = X.K) (I : Inv X pins σ H s) (hl : if t = true then s.heap.IsTuple l its.toArray else s.heap.IsList l its.toArray) (rv : Vals vs its) (r : RpL C H vs ds)
    (hn : lenSetD (.lst ds) = some n) (q : Q (.int (n : Int)) H) : wpAny (model X.prog X.w) X.A (call (.type "set") [.ref l]) (fun v s' => wpAny (model X.prog X.w) X.A (call (.builtin "len") [v]) (EP X pins σ Q) X.xe s') X.xe s := by
  have hlen : ds.length = its.length := by rw [← r.len, rv.length]
  have go : ∀ {Inv' : Nat → Heap → Prop}, (∀ B : Around, B.units ≤ X.A.units + 8 → Fills X.prog X.w B s.heap.objs.size s.heap its.toArray Inv') → (∀ h, Inv' its.length h → ∃ o es ep t, h.get? s.heap.objs.size = some o ∧ o.ExactSet ∧ o.data = .set es ep t ∧ t.fits es.size = true ∧ es.size = n ∧ n < 2 ^ 62) →
      wpAny (model X.prog X.w) X.A (call (.type "set") [.ref l]) (fun v s' => wpAny (model X.prog X.w) X.A (call (.builtin "len") [v]) (EP X pins σ Q) X.xe s') X.xe s := by
    intro Inv' hF hend
    have fin : ∀ (h' : Heap) (tk : Nat), Inv' its.toArray.size h' → (∀ b o, s.heap.get? b = some o → h'.get? b = some o) → wpAny (model X.prog X.w) X.A (call (.builtin "len") [.ref s.heap.objs.size]) (EP X pins σ Q) X.xe { s with heap := h', toks := tk } := fun h' tk hI hk => by
      rw [List.size_toArray] at hI
      obtain ⟨o, es, ep, t, ho, hex, hd, hf, hz, hb⟩ := hend h' hI
      have I2 : Inv X pins σ H { s with heap := h', toks := tk } := I.kept fun b o e => hk b o e
      refine call_len_set ho hex hd hf (by rw [hz]; omega) ⟨.int n, H, I2.tok _, ⟨_, by rw [hz]⟩, q⟩
    cases t with
    | false => exact set_of_list (I.ok.hd hc) (by simpa using hl) hF fin
    | true => exact set_of_tuple (I.ok.hd hc) (by simpa using hl) hF fin
  unfold lenSetD seqD at hn
  rw [Option.bind_some] at hn
  split at hn
  · rename_i h
    simp only [Bool.and_eq_true, List.all_eq_true, decide_eq_true_eq] at h
    obtain ⟨ha, hz⟩ := h
    cases hn
    refine go (fun B _ => fills_mix (ks := ds.map toKey) (by simpa using hlen) (by rw [List.length_map]; show _ < 4096; omega) fun i v hv => ?_) fun h hI => ?_
    · obtain ⟨w, d, h1, h2, h3⟩ := zip_at r rv (show its[i]? = some v by simpa using hv)
      refine ⟨toKey d, by rw [List.getElem?_map, h1] <;> rfl, ?_⟩
      have hd := ha d (List.mem_of_getElem? h1)
      cases d <;> simp [atomB] at hd
      · cases h2
        obtain ⟨t, rfl⟩ := h3
        exact keyIs_int _ _
      · obtain ⟨y, rfl, rfl, _⟩ := h2.str_inv
        obtain ⟨t, rfl⟩ := h3
        exact keyIs_str y t
    · obtain ⟨o, es, ep, t, ho, hex, hd, _, _, hb, hf, hz2⟩ := hI
      have e : (ds.map toKey).take its.length = ds.map toKey := List.take_of_length_le (by simp; omega)
      rw [e, ← cntD_map toKey (fun d => atomB d = true) key_eq ds ha] at hz2
      have hb : es.size < 4096 := hb
      exact ⟨o, es, ep, t, ho, hex, hd, hf, hz2, by omega⟩
  · split at hn
    · rename_i h
      simp only [Bool.and_eq_true, List.all_eq_true, decide_eq_true_eq] at h
      obtain ⟨⟨ht, ha⟩, hz⟩ := h
      cases hn
      have adr : ∀ u ∈ its, ∃ a, u = Value.ref a := fun u hu => by
        obtain ⟨i, hi⟩ := List.mem_iff_getElem?.mp hu
        obtain ⟨w, d, h1, h2, h3⟩ := zip_at r rv hi
        have hd := ht d (List.mem_of_getElem? h1)
        cases d <;> simp [isTupB] at hd
        obtain ⟨a, vs, rfl, _⟩ := h2.tup_inv
        exact ⟨a, h3⟩
      have ks : ∃ ks : List AK, ks.map (·.2) = ds.map toNK ∧ its = ks.map fun p => Value.ref p.1 := by
        have key : ∀ (us : List Value) (ds : List Dat), us.length = ds.length → (∀ u ∈ us, ∃ a, u = Value.ref a) → ∃ ks : List AK, ks.map (·.2) = ds.map toNK ∧ us = ks.map fun p => Value.ref p.1 := by
          intro us
          induction us with
          | nil => intro ds h _; cases ds with | nil => exact ⟨[], rfl, rfl⟩ | cons _ _ => cases h
          | cons u us ih =>
            intro ds h hu
            cases ds with
            | nil => cases h
            | cons d ds =>
              obtain ⟨ks, e1, e2⟩ := ih ds (by simpa using h) fun x hx => hu x (List.mem_cons_of_mem _ hx)
              obtain ⟨a, rfl⟩ := hu u List.mem_cons_self
              exact ⟨(a, toNK d) :: ks, by rw [List.map_cons, List.map_cons, e1], by rw [List.map_cons, ← e2]⟩
        exact key its ds hlen.symm adr
      obtain ⟨ks, e1, e2⟩ := ks
      have hkl : ks.length = ds.length := by
        have := congrArg List.length e1
        simpa using this
      refine go (fun B hB => fills_nest (ks := ks) (by omega) (by rw [List.size_toArray]; omega) (by omega) (fun i v hv => ?_) fun p hp => ?_) fun h hI => ?_
      · have hv : its[i]? = some v := by simpa using hv
        rw [e2, List.getElem?_map] at hv
        cases hq : ks[i]? with
        | none => rw [hq] at hv; cases hv
        | some p => rw [hq] at hv; exact ⟨p, rfl, (Option.some.inj hv).symm⟩
      · obtain ⟨i, hi⟩ := List.mem_iff_getElem?.mp hp
        have h1 : its[i]? = some (.ref p.1) := by rw [e2, List.getElem?_map, hi] <;> rfl
        obtain ⟨w, d, h2, h3, h4⟩ := zip_at r rv h1
        have h5 : (ks.map (·.2))[i]? = some p.2 := by rw [List.getElem?_map, hi] <;> rfl
        rw [e1, List.getElem?_map, h2] at h5
        have h5 : toNK d = p.2 := Option.some.inj h5
        have hd := ha d (List.mem_of_getElem? h2)
        rw [← h5]
        exact ⟨nk_is I hK d 8 w _ hd h3 h4, nk_depth d 8 hd⟩
      · obtain ⟨L, es, ep, t, R, g, e⟩ := hI
        obtain ⟨o, ho, hex, hd⟩ := R.ob
        have et : ks.take its.length = ks := List.take_of_length_le (by omega)
        rw [et, e1, ← cntD_map toNK (fun d => nkB d 8 = true) nk_eq ds ha] at e
        exact ⟨o, es, ep, t, ho, hex, hd, SetN.fits (s := { s with heap := h }) R, by rw [size_of_row R.row, e], by have := R.few; omega⟩
    · cases hn
end
theorem pe_lenset {X : Cx} {a : Expr} {ta : TE} {p p2 q pos : Pos} (hc : X.calm = true) (hu : X.A.units + 64 < cLine) (hg : Gl X "len") (hm : X.mg "len" = none) (hg2 : Gl X "set") (hm2 : X.mg "set" = none) (ha : PE X a ta)
    (na : starEach [a] X.env = (false, eval a X.env) :: starEach [] X.env) : PE X (.Call (.Name "len" p) [.Call (.Name "set" p2) [a] [] q] [] pos) (tLenset X.K ta) := by
  refine ⟨fun pins s σ H Q I h => ?_⟩
  refine Call_ (ld_blt I hg hm boot_len ?_)
  refine PyProof.Rows.callWith_builtin1 (PyProof.Rows.args_cons ?_ rfl) rfl rfl
  refine Call_ (ld_blt I hg2 hm2 boot_set ?_)
  refine PyProof.Rows.callWith_type1 (PyProof.Rows.args_cons (thn (ha.run pins s σ H _ I h) fun v s1 ⟨x, H1, I1, r1, q1⟩ => PyProof.Rows.args_nil ?_) na) na rfl
  obtain ⟨C, d, n, hK, r, hn, q1⟩ := q1
  have fin : ∀ {u : Value}, RelV x u → wpAny (model X.prog X.w) X.A (call (.type "set") [u]) (fun v s' => wpAny (model X.prog X.w) X.A (call (.builtin "len") [v]) (EP X pins σ Q) X.xe s') X.xe s1 := by
    intro u ru
    cases d with
    | lst ds =>
      obtain ⟨a, vs, rfl, t, z, l⟩ := r.lst_inv
      cases ru
      obtain ⟨its, m, rv, e, _⟩ := t.heap I1
      exact lenset_end (t := false) hc hu hK I1 ⟨_, e, rfl, m, rfl⟩ rv l hn q1
    | tup ds =>
      obtain ⟨a, vs, rfl, t, z, l⟩ := r.tup_inv
      cases ru
      have sq := t.sq
      rw [hK] at sq
      obtain ⟨its, rv, p, _⟩ := I1.tuple sq
      exact lenset_end (t := true) hc hu hK I1 (show s1.heap.IsTuple a its.toArray from p) rv l (show lenSetD (.lst ds) = some n from hn) q1
    | _ => simp [lenSetD, seqD] at hn
  refine thn (fin r1) fun w s2 hw => ?_
  exact PyProof.Rows.args_nil hw
theorem sem_lenset {c : Ctx} {a : Expr} {a' : Ex} {p p2 q pos : Pos} (hg : kindB c.sc "len" = some .globalImplicit) (hg2 : kindB c.sc "set" = some .globalImplicit) (ha : Sem c a a') : Sem c (.Call (.Name "len" p) [.Call (.Name "set" p2) [a] [] q] [] pos) (.lenset a') := by
  refine ⟨fun X C W F k M => ?_, rfl⟩
  refine pe_mono (pe_lenset M.calm M.room.units (show X.env.scope.names.lookup ("len" : Str) = some .globalImplicit by rw [M.sc]; exact hg) (M.bi _ (by decide)) (show X.env.scope.names.lookup ("set" : Str) = some .globalImplicit by rw [M.sc]; exact hg2) (M.bi _ (by decide)) (ha.run X C W F k M) (star_plain ha.plain)) fun σ H Q ⟨ρ, g, E, G, h⟩ => ?_
  unfold den at h
  refine tD_then _ (fun r H => RunE C W r σ H Q) E G h (fun _ _ p => p) id fun d g1 x H1 e1 E1 G1 r1 h1 => ?_
  obtain ⟨z, hz, hq⟩ := run_ofO (h1.ext e1)
  obtain ⟨n, hn, rfl⟩ := Option.map_eq_some_iff.mp hz
  exact ⟨C, d, n, M.K.symm, r1, hn, hq _ H1 Ext.refl G1 (.int _)⟩
end R
set_option Elab.async false
set_option linter.all false
set_option maxRecDepth 100000
set_option maxHeartbeats 4000000
/-! list(zip(a, b)): the pairs stay, so the zip makes a tuple anew each time. -/
namespace R
open PySem PySem.Spec PyProof.Rows L2

/-! ### a list made of an iterator, by an invariant -/
section
variable {prog : Program} {w : World} {A : Around} {R : Result → Shared → Prop}
theorem list_turns {S it : Addr} {res : Value} {n : Nat} (J : Nat → Shared → Prop)
    (row : ∀ i s, i < n → J i s → ∃ acc c, s.heap.get? S = some { cls := .type "list", dict := none, data := .seq acc c, slots := #[] } ∧ acc.size + 1 ≤ sizeLine)
    (next : ∀ i s (Q : Option Value → Shared → Prop) (E : Value → Shared → Prop), i < n → J i s → (∀ v s', s'.heap.get? S = s.heap.get? S → J (i + 1) { s' with heap := s'.heap.update S (Obj.mapSeq (·.push v)) } → Q (some v) s') → wpAny (model prog w) A.in1 (pyNext (.ref it)) Q E s)
    (last : ∀ s (Q : Option Value → Shared → Prop) (E : Value → Shared → Prop), J n s → (∀ s', R (.ok (.ret res)) s' → Q none s') → wpAny (model prog w) A.in1 (pyNext (.ref it)) Q E s) :
    ∀ (k i : Nat) (s : Shared), n - i = k → i ≤ n → J i s → codeAny (model prog w) A (.builtin "list.extend.loop" ⟨[.ref S, .ref it, res], []⟩) R s
  | 0, i, s, e, hi, j => by
    obtain rfl : i = n := by omega
    refine codeAny_builtin F.entry_extend_loop ?_
    rw [Around.under_plainId F.plain_extend_loop _]
    exact (show wpAny _ A.in1 (pyNext (.ref it) >>= _) _ _ s from wpAny_bind (last s _ _ j fun s' r => wpAny_pure r))
  | k + 1, i, s, e, hi, j => by
    have hlt : i < n := by omega
    refine codeAny_builtin F.entry_extend_loop ?_
    rw [Around.under_plainId F.plain_extend_loop _]
    refine (show wpAny _ A.in1 (pyNext (.ref it) >>= _) _ _ s from wpAny_bind (next i s _ _ hlt j fun v s' hS j' => ?_))
    obtain ⟨acc, c, g, hz⟩ := row i s hlt j
    refine (show wpAny _ A.in1 (updateSeq S (·.push v) >>= _) _ _ s' from wpAny_bind ?_)
    refine wpAny_updateSeq (hS.trans g) rfl (wpAny_pure ⟨plainId_quiet F.plain_extend_loop _, list_turns J row next last k (i + 1) _ (by omega) hlt j'⟩) (by omega) ?_
    show (acc.push v).size ≤ sizeLine + 1
    rw [Array.size_push]; omega
theorem list_start {E : Value → Shared → Prop} {s : Shared} {T : String} {r : Addr} {o : Obj} {Q : Value → Shared → Prop} (hr : s.heap.get? r = some o) (hc : o.cls = .type T)
    (hT : (T == "list") = false) (hT2 : (T == "tuple") = false) (n1 : typeLookup (.type T) "__len__" = pure none) (n2 : typeLookup (.type T) "__length_hint__" = pure none)
    (self : ∀ (A : Around) (h' : Heap) (Q : Value → Shared → Prop) (E : Value → Shared → Prop), (h'.get? r = some o) → Q (.ref r) { s with heap := h' } → wpAny (model prog w) A (pyIter (.ref r)) Q E { s with heap := h' })
    (go : ∀ h' c, (∀ b u, s.heap.get? b = some u → h'.get? b = some u) → h'.get? s.heap.objs.size = some { cls := .type "list", data := .seq #[] c } →
      codeAny (model prog w) A.in1 (.builtin "list.extend.loop" ⟨[.ref s.heap.objs.size, .ref r, .none], []⟩) (fun q s' => q = .ok (.ret .none) ∧ Q (.ref s.heap.objs.size) s') { s with heap := h' }) :
    wpAny (model prog w) A (call (.type "list") [.ref r]) Q E s := by
  have hrs : r < s.heap.objs.size := Heap.lt_size hr
  refine callType_codes (Q₁ := fun ob s1 => ob = .ref s.heap.objs.size ∧ s1 = { s with heap := s.heap.push { cls := .type "list", data := .seq #[] } }) F.called_list (F.typeCall_list_1 _) F.entry_list_init (code_list_new _ ⟨rfl, rfl⟩) fun ob s1 q => ?_
  obtain ⟨rfl, rfl⟩ := q
  have g0 : (s.heap.push { cls := .type "list", data := .seq #[] }).get? s.heap.objs.size = some { cls := .type "list", data := .seq #[] } := Heap.get?_push_size _ rfl
  refine ⟨⟨_, g0, rfl⟩, F.args_list_init_2 _ _, ?_⟩
  show wpAny _ _ (Builtin.List.listItems (.ref s.heap.objs.size) >>= fun old => Builtin.List.listUpdate (.ref s.heap.objs.size) (fun _ => #[]) >>= fun _ => letGo old.toList.reverse >>= fun _ => Builtin.List.listExtendWith (.ref s.heap.objs.size) (.ref r) .none) _ _ _
  refine wpAny_bind ?_
  unfold Builtin.List.listItems
  refine wpAny_bind (wpAny_seqItems g0 rfl (wpAny_pure ?_))
  refine wpAny_bind (wpAny_updateSeq g0 rfl ?_)
  have g1 := Heap.get?_update_self (Obj.mapSeq (fun _ => (#[] : Array Value))) g0 rfl
  have k1 : ∀ b u, s.heap.get? b = some u → ((s.heap.push { cls := .type "list", data := .seq #[] }).update s.heap.objs.size (Obj.mapSeq (fun _ => (#[] : Array Value)))).get? b = some u := fun b u e =>
    (Heap.get?_update_other _ _ (Nat.ne_of_gt (Heap.lt_size e))).trans (Heap.get?_push_of_some _ e)
  refine wpAny_bind (wpAny_letGo ?_)
  generalize (s.heap.push { cls := .type "list", data := .seq #[] }).update s.heap.objs.size (Obj.mapSeq (fun _ => (#[] : Array Value))) = h1 at g1 k1
  have hT1 : ∀ h', h'.get? r = some o → ({ s with heap := h' } : Shared).TypeIs (.ref r) T := fun h' e => ⟨o, e, hc⟩
  unfold Builtin.List.listExtendWith
  refine wpAny_bind (wpAny_typeOf (hT1 h1 (k1 r o hr)) ?_)
  have q1 : Builtin.List.listSameRef (.ref s.heap.objs.size) (.ref r) = false := by simp [Builtin.List.listSameRef, Nat.ne_of_gt hrs]
  have q2 : (Value.type T == Value.type "list") = false := by
    rw [beq_eq_false_iff_ne] at hT ⊢
    exact fun z => hT (by injection z)
  have q3 : (Value.type T == Value.type "tuple") = false := by
    rw [beq_eq_false_iff_ne] at hT2 ⊢
    exact fun z => hT2 (by injection z)
  simp only [q1, q2, q3, Bool.or_false, Bool.false_eq_true, if_false]
  refine wpAny_bind (self _ h1 _ _ (k1 r o hr) ?_)
  refine wpAny_bind (wpAny_holding ?_)
  unfold Builtin.List.listLengthHint
  refine wpAny_bind (wpAny_specialOf (hT1 h1 (k1 r o hr)) n1 ?_)
  refine (show wpAny _ _ (specialOf (Value.ref r) (Str.ofString "__length_hint__") >>= _) _ _ _ from wpAny_bind (wpAny_specialOf (hT1 h1 (k1 r o hr)) n2 ?_))
  refine wpAny_pure ?_
  show wpAny _ _ (rule "list.extend.makes-room" >>= fun _ => Builtin.List.listTouch (.ref s.heap.objs.size) >>= fun _ => again (.builtin "list.extend.loop" ⟨[.ref s.heap.objs.size, .ref r, .none], []⟩)) _ _ _
  refine wpAny_bind (wpAny_rule (wpAny_bind ?_))
  show wpAny _ _ (updateSeq s.heap.objs.size (·.push .none) >>= fun _ => updateSeq s.heap.objs.size (·.pop)) _ _ _
  refine wpAny_bind (wpAny_updateSeq g1 rfl ?_)
  have g2 := Heap.get?_update_self (Obj.mapSeq (·.push Value.none)) g1 rfl
  refine wpAny_updateSeq (hz := by seq_fits) g2 rfl ?_
  have g3 := Heap.get?_update_self (Obj.mapSeq (·.pop)) g2 rfl
  refine wpAny_pure ⟨plainId_quiet F.plain_extend_loop _, codeAny_mono (go _ _ (fun b u e => ?_) g3) fun q s' ⟨e, hq⟩ => by subst e; exact ⟨rfl, hq⟩⟩
  have hb : s.heap.objs.size ≠ b := Nat.ne_of_gt (Heap.lt_size e)
  exact (Heap.get?_update_other _ _ hb).trans ((Heap.get?_update_other _ _ hb).trans (k1 b u e))
end

/-! ### the next pair, the one before being held -/
section
variable {prog : Program} {w : World} {A : Around} {E : Value → Shared → Prop} {s : Shared} {z TI TO i1 i2 T : Addr} {fp1 fp2 : List Addr} {n1 n2 i : Nat} {P1 P2 : Nat → Value → Prop} {St1 St2 : Nat → Heap → Prop} {f : Bool} {oT : Obj}
theorem heldZ_item {Q : Value → Shared → Prop} (S : ZipSep2 z TI TO i1 i2 fp1 fp2) (D1 : Draws prog w A i1 fp1 n1 P1 St1) (D2 : Draws prog w A i2 fp2 n2 P2 St2)
    (hz : IsZipHeld s.heap z TI TO T f) (hT : s.heap.get? T = some oT) (hTI : IsTupOf2 s.heap TI (.ref i1) (.ref i2)) (st1 : St1 i s.heap) (st2 : St2 i s.heap) (l1 : i < n1) (l2 : i < n2)
    (hQ : ∀ x y h' tk, P1 i x → P2 i y → IsZipHeld h' z TI TO T true → St1 (i + 1) h' → St2 (i + 1) h' → IsTupOf2 h' s.heap.objs.size x y → h'.objs.size = s.heap.objs.size + 1 →
      (∀ c o, c ≠ z → c ≠ i1 → c ≠ i2 → s.heap.get? c = some o → h'.get? c = some o) → Q (.ref s.heap.objs.size) { s with heap := h', toks := tk }) :
    wpAny (model prog w) A (Builtin.«zip.__next__» ⟨[.ref z], []⟩) (fun fin s' => ∃ v, fin = .done (.ret v) ∧ Q v s') E s := by
  obtain ⟨hp, gn, dr, tk0, os⟩ := s
  have z0 : IsZipHeld hp z TI TO T f := hz
  refine (show wpAny _ _ (field (.ref z) 2 >>= _) _ _ _ from wpAny_bind (wpAny_field hz rfl (x := .bool false) rfl ?_))
  refine (show wpAny _ _ (field (.ref z) 3 >>= _) _ _ _ from wpAny_bind (wpAny_field hz rfl (x := .ref TI) rfl ?_))
  refine wpAny_bind (wpAny_seqItems hTI rfl ?_)
  refine (show wpAny _ _ (Builtin.SmallTypes.ownedTupleIsFree (.ref z) >>= _) _ _ _ from wpAny_bind (wpAny_tupleHeld_zip hz hT fun p0 z1 b0 => ?_))
  replace b0 : Heap.SameBut z hp p0 := b0
  simp only [Bool.false_eq_true, if_false]
  refine wpAny_bind ?_
  rw [← Array.forIn_toList]
  simp only [List.forIn_cons, List.forIn_nil]
  refine wpAny_bind (wpAny_bind (wpAny_holding (show wpAny _ _ (Builtin.SmallTypes.nextOf (.ref i1) >>= _) _ _ _ from ?_)))
  refine wpAny_bind (D1.item i ⟨p0, gn, dr, tk0, os⟩ _ _ l1 (D1.over st1 b0 S.zf1) fun x p1 tk1 hx sn1 b1 => wpAny_pure (wpAny_pure ?_))
  replace b1 : Heap.SameBut i1 p0 p1 := b1
  refine wpAny_bind (wpAny_bind (wpAny_holding (show wpAny _ _ (Builtin.SmallTypes.nextOf (.ref i2) >>= _) _ _ _ from ?_)))
  refine wpAny_bind (D2.item i ⟨p1, gn, dr, tk1, os⟩ _ _ l2 (D2.over (D2.over st2 b0 S.zf2) b1 S.sep1_2) fun y p2 tk2 hy sn2 b2 => wpAny_pure (wpAny_pure (wpAny_pure ?_)))
  replace b2 : Heap.SameBut i2 p1 p2 := b2
  refine (show wpAny _ _ (newTuple [x, y] >>= _) _ _ _ from wpAny_bind (wpAny_newTuple ?_))
  have hsz : p2.objs.size = hp.objs.size := by rw [b2.1, b1.1, b0.1]
  have zz : IsZipHeld p2 z TI TO T true := b2.extBut _ _ S.zi2 (b1.extBut _ _ S.zi1 z1)
  have kk : ∀ c o, c ≠ z → c ≠ i1 → c ≠ i2 → hp.get? c = some o → p2.get? c = some o := fun c o cz c1 c2 e => b2.extBut _ _ c2 (b1.extBut _ _ c1 (b0.extBut _ _ cz e))
  refine wpAny_pure ⟨_, rfl, ?_⟩
  show Q (.ref p2.objs.size) _
  have hp2 : IsTupOf2 (p2.push { cls := .type "tuple", data := .seq #[x, y] }) p2.objs.size x y := Heap.get?_push_size _ rfl
  have hz4 : (p2.push { cls := .type "tuple", data := .seq #[x, y] }).objs.size = p2.objs.size + 1 := Heap.size_push ..
  have hpu : ∀ c o, p2.get? c = some o → (p2.push { cls := .type "tuple", data := .seq #[x, y] }).get? c = some o := fun c o e => Heap.get?_push_of_some _ e
  rw [hsz] at hp2 hz4 ⊢
  exact hQ x y _ tk2 hx hy (hpu _ _ zz) (D1.frame _ _ _ (D1.over sn1 b2 S.sep2_1) fun b _ o e => hpu b o e) (D2.frame _ _ _ sn2 fun b _ o e => hpu b o e) hp2 hz4 fun c o cz c1 c2 e => hpu c o (kk c o cz c1 c2 e)
theorem heldZ_end {Q : PySem.Fin → Shared → Prop} (S : ZipSep2 z TI TO i1 i2 fp1 fp2) (D1 : Draws prog w A i1 fp1 n1 P1 St1) (D2 : Draws prog w A i2 fp2 n2 P2 St2)
    (hz : IsZipHeld s.heap z TI TO T f) (hT : s.heap.get? T = some oT) (hTI : IsTupOf2 s.heap TI (.ref i1) (.ref i2)) (st1 : St1 i s.heap) (st2 : St2 i s.heap) (le1 : i ≤ n1) (le2 : i ≤ n2) (hend : i = n1 ∨ i = n2)
    (hE : ∀ h' tk e, (∀ c o, c ≠ z → c ≠ i1 → c ≠ i2 → s.heap.get? c = some o → h'.get? c = some o) → (∃ o, h'.get? e = some o ∧ o.cls = .type "StopIteration") → E (.ref e) { s with heap := h', toks := tk }) :
    wpAny (model prog w) A (Builtin.«zip.__next__» ⟨[.ref z], []⟩) Q E s := by
  obtain ⟨hp, gn, dr, tk0, os⟩ := s
  refine (show wpAny _ _ (field (.ref z) 2 >>= _) _ _ _ from wpAny_bind (wpAny_field hz rfl (x := .bool false) rfl ?_))
  refine (show wpAny _ _ (field (.ref z) 3 >>= _) _ _ _ from wpAny_bind (wpAny_field hz rfl (x := .ref TI) rfl ?_))
  refine wpAny_bind (wpAny_seqItems hTI rfl ?_)
  refine (show wpAny _ _ (Builtin.SmallTypes.ownedTupleIsFree (.ref z) >>= _) _ _ _ from wpAny_bind (wpAny_tupleHeld_zip hz hT fun p0 z1 b0 => ?_))
  replace b0 : Heap.SameBut z hp p0 := b0
  simp only [Bool.false_eq_true, if_false]
  refine wpAny_bind ?_
  rw [← Array.forIn_toList]
  simp only [List.forIn_cons, List.forIn_nil]
  refine wpAny_bind (wpAny_bind (wpAny_holding (show wpAny _ _ (Builtin.SmallTypes.nextOf (.ref i1) >>= _) _ _ _ from ?_)))
  by_cases l1 : i < n1
  · refine wpAny_bind (D1.item i ⟨p0, gn, dr, tk0, os⟩ _ _ l1 (D1.over st1 b0 S.zf1) fun x p1 tk1 hx sn1 b1 => wpAny_pure (wpAny_pure ?_))
    replace b1 : Heap.SameBut i1 p0 p1 := b1
    obtain rfl : i = n2 := by omega
    refine wpAny_bind (wpAny_bind (wpAny_holding (show wpAny _ _ (Builtin.SmallTypes.nextOf (.ref i2) >>= _) _ _ _ from ?_)))
    refine wpAny_bind (D2.done ⟨p1, gn, dr, tk1, os⟩ _ _ (D2.over (D2.over st2 b0 S.zf2) b1 S.sep1_2) fun q e hq he => ?_)
    replace hq : Heap.ExtBut i2 p1 q := hq
    exact hE q tk1 e (fun c o cz c1 c2 x => hq _ _ c2 (b1.extBut _ _ c1 (b0.extBut _ _ cz x))) he
  · obtain rfl : i = n1 := by omega
    refine wpAny_bind (D1.done ⟨p0, gn, dr, tk0, os⟩ _ _ (D1.over st1 b0 S.zf1) fun q e hq he => ?_)
    replace hq : Heap.ExtBut i1 p0 q := hq
    exact hE q tk0 e (fun c o cz c1 c2 x => hq _ _ c1 (b0.extBut _ _ cz x)) he
theorem heldZ_next {Q : Option Value → Shared → Prop} (S : ZipSep2 z TI TO i1 i2 fp1 fp2) (D1 : Draws prog w A.in1 i1 fp1 n1 P1 St1) (D2 : Draws prog w A.in1 i2 fp2 n2 P2 St2)
    (hz : IsZipHeld s.heap z TI TO T f) (hT : s.heap.get? T = some oT) (hTI : IsTupOf2 s.heap TI (.ref i1) (.ref i2)) (st1 : St1 i s.heap) (st2 : St2 i s.heap) (l1 : i < n1) (l2 : i < n2)
    (hQ : ∀ x y h' tk, P1 i x → P2 i y → IsZipHeld h' z TI TO T true → St1 (i + 1) h' → St2 (i + 1) h' → IsTupOf2 h' s.heap.objs.size x y → h'.objs.size = s.heap.objs.size + 1 →
      (∀ c o, c ≠ z → c ≠ i1 → c ≠ i2 → s.heap.get? c = some o → h'.get? c = some o) → Q (some (.ref s.heap.objs.size)) { s with heap := h', toks := tk }) :
    wpAny (model prog w) A (pyNext (.ref z)) Q E s := by
  have ty : s.TypeIs (.ref z) "zip" := ⟨_, hz, rfl⟩
  unfold pyNext
  exact wpAny_bind (wpAny_attempt (wpAny_callSpecial?_slot (name := Str.ofString "__next__") ty F.slot_zip_next (wpAny_call_entry F.slot_zip_next ty F.entry_zip_next
    (heldZ_item S D1 D2 hz hT hTI st1 st2 l1 l2 fun x y h' tk a1 a2 a3 a4 a5 a6 a7 a8 => wpAny_pure (hQ x y h' tk a1 a2 a3 a4 a5 a6 a7 a8)) (F.args_zip_next_1 _))))
theorem heldZ_stop {Q : Option Value → Shared → Prop} (S : ZipSep2 z TI TO i1 i2 fp1 fp2) (D1 : Draws prog w A.in1 i1 fp1 n1 P1 St1) (D2 : Draws prog w A.in1 i2 fp2 n2 P2 St2)
    (hz : IsZipHeld s.heap z TI TO T f) (hT : s.heap.get? T = some oT) (hTI : IsTupOf2 s.heap TI (.ref i1) (.ref i2)) (st1 : St1 i s.heap) (st2 : St2 i s.heap) (le1 : i ≤ n1) (le2 : i ≤ n2) (hend : i = n1 ∨ i = n2)
    (hQ : ∀ h' tk, (∀ c o, c ≠ z → c ≠ i1 → c ≠ i2 → s.heap.get? c = some o → h'.get? c = some o) → Q none { s with heap := h', toks := tk }) :
    wpAny (model prog w) A (pyNext (.ref z)) Q E s := by
  have ty : s.TypeIs (.ref z) "zip" := ⟨_, hz, rfl⟩
  unfold pyNext
  refine wpAny_bind (wpAny_attempt (wpAny_callSpecial?_slot (name := Str.ofString "__next__") ty F.slot_zip_next (wpAny_call_entry F.slot_zip_next ty F.entry_zip_next
    (heldZ_end S D1 D2 hz hT hTI st1 st2 le1 le2 hend fun h' tk e hk he => ?_) (F.args_zip_next_1 _))))
  obtain ⟨o, ho, hc⟩ := he
  exact wpAny_bind (wpAny_isInstance (T := "StopIteration") (b := true) ⟨o, ho, hc⟩ isSubtype_stop (wpAny_pure (hQ _ _ hk)))
end
/-! ### the call -/
def ExtA (H H' : Hp) : Prop := ∀ b o, H b = some o → H' b = some o
theorem ExtA.trans {H H1 H2 : Hp} (a : ExtA H H1) (b : ExtA H1 H2) : ExtA H H2 := fun c o h => b c o (a c o h)
/-- the tuples of the pairs -/
def PairsAt (H : Hp) (xs ys : List V) (as : List Addr) : Prop := ∀ (j : Nat) (a : Addr), as[j]? = some a → ∃ x y, xs[j]? = some x ∧ ys[j]? = some y ∧ H a = some (.tup [x, y])
section
variable {X : Cx} {pins : List (Addr × Obj)} {σ : L2.St} {H : Hp} {s0 : Shared} {xs ys : List V}
/-- the zip: no tuple out, or one that stands -/
def ZState (h : Heap) (z TI TO : Addr) (Hi : Hp) (i : Nat) : Prop := (i = 0 ∧ IsZip h z TI TO .none ∧ ∃ x y, IsTupOf2 h TO x y) ∨ ∃ T f vs, IsZipHeld h z TI TO T f ∧ Hi T = some (.tup vs)
structure ZJ (X : Cx) (pins : List (Addr × Obj)) (σ : L2.St) (H : Hp) (k l : Sk) (t u : Tok) (xs ys : List V) (z TI TO i1 i2 S : Addr) (i : Nat) (s : Shared) : Prop where
  h : ∃ Hi as, Inv X pins σ Hi s ∧ Hi S = some (.lst (as.map V.ref)) ∧ as.length = i ∧ PairsAt Hi xs ys as ∧ ZState s.heap z TI TO Hi i ∧ IsTupOf2 s.heap TI (.ref i1) (.ref i2) ∧ k.it t i1 i s.heap ∧ l.it u i2 i s.heap ∧
    (∀ b ∈ [z, TI, TO, i1, i2], Hi b = none) ∧ ExtA H Hi ∧ (∀ a ∈ as, H a = none)
theorem pe_zipl {k l : Sk} {t u : Tok} {z TI TO i1 i2 : Addr} {s : Shared} {Q : VK} (hc : X.calm = true) (I0 : Inv X pins σ H s0) (I : Inv X pins σ H s) (lo : s0.heap.objs.size ≤ s.heap.objs.size)
    (hk : ∀ H', ExtA H H' → k.has X.K H' xs ∧ l.has X.K H' ys) (hz1 : xs.length ≤ sizeLine)
    (Sp : ZipSep2 z TI TO i1 i2 (i1 :: k.fp) (i2 :: l.fp)) (n1 : i1 ∉ k.fp) (n2 : i2 ∉ l.fp) (ge : ∀ b ∈ [z, TI, TO, i1, i2], s0.heap.objs.size ≤ b)
    (hz : IsZip s.heap z TI TO .none) (hTI : IsTupOf2 s.heap TI (.ref i1) (.ref i2)) (hTO : ∃ x y, IsTupOf2 s.heap TO x y) (q1 : k.it t i1 0 s.heap) (q2 : l.it u i2 0 s.heap)
    (q : ∀ S as H2, ExtA H H2 → H S = none → H2 S = some (.lst (as.map V.ref)) → as.length = min xs.length ys.length → PairsAt H2 xs ys as → (∀ a ∈ as, H a = none) → Q (.ref S) H2) :
    wpAny (model X.prog X.w) X.A (call (.type "list") [.ref z]) (EP X pins σ Q) X.xe s := by
  have hh : X.A.in1.in1.in1.handled = none := by simp only [Around.in1_handled]; exact I.ok.hd hc
  have free0 : ∀ b ∈ [z, TI, TO, i1, i2], H b = none := fun b hb => I0.hok.fresh (ge b hb)
  refine list_start (o := { cls := .type "zip", dict := none, data := .fields #[.none, .bool false, .bool false, .ref TI, .ref TO], slots := #[] }) hz rfl (by decide) (by decide) (by rw [typeLookup_type, builtinLookup_eq_fast]; kernel_rfl) (by rw [typeLookup_type, builtinLookup_eq_fast]; kernel_rfl)
    (fun A h' Q' E' g hq => wpAny_pyIter_zip (s := { s with heap := h' }) g hq) fun h' c keep hS => ?_
  have hSn : H s.heap.objs.size = none := I.hok.fresh (Nat.le_refl _)
  have chS : ∀ b ∈ [z, TI, TO, i1, i2], b ≠ s.heap.objs.size := by
    have l0 : z < s.heap.objs.size := Heap.lt_size hz
    have l1 : TI < s.heap.objs.size := Heap.lt_size hTI
    have l2 : TO < s.heap.objs.size := by obtain ⟨x, y, e⟩ := hTO; exact Heap.lt_size e
    have l3 : i1 < s.heap.objs.size := by obtain ⟨_, e, _⟩ := Sk.it_obj q1; exact Heap.lt_size e
    have l4 : i2 < s.heap.objs.size := by obtain ⟨_, e, _⟩ := Sk.it_obj q2; exact Heap.lt_size e
    intro b hb
    have hb : b = z ∨ b = TI ∨ b = TO ∨ b = i1 ∨ b = i2 := by simpa using hb
    rcases hb with e | e | e | e | e <;> rw [e] <;> exact Nat.ne_of_lt (by assumption)
  have start : ZJ X pins σ H k l t u xs ys z TI TO i1 i2 s.heap.objs.size 0 { s with heap := h' } := by
    have I1 : Inv X pins σ (upd H s.heap.objs.size (.lst [])) { s with heap := h' } := I.laid (t' := s.toks) keep (Nat.le_refl _) (show ObjOk X.prog X.w _ h' _ (.lst []) from ⟨by simp, [], c, .nil, hS⟩)
    refine ⟨_, [], I1, upd_same, rfl, fun j a e => by simp at e, .inl ⟨rfl, keep _ _ hz, let ⟨x, y, e⟩ := hTO; ⟨x, y, keep _ _ e⟩⟩, keep _ _ hTI, Sk.it_at q1 fun o e => keep _ _ e, Sk.it_at q2 fun o e => keep _ _ e, fun b hb => ?_, fun b o e => ?_, fun a ha => nomatch ha⟩
    · rw [upd_ne (chS b hb)]; exact free0 b hb
    · rw [upd_ne (ne_of_none e hSn)]; exact e
  refine list_turns (n := min xs.length ys.length) (ZJ X pins σ H k l t u xs ys z TI TO i1 i2 s.heap.objs.size) (fun i s1 hi j => ?_) (fun i s1 Q' E' hi j hq => ?_) (fun s1 Q' E' j hq => ?_) (min xs.length ys.length) 0 _ (Nat.sub_zero _) (Nat.zero_le _) start
  · obtain ⟨Hi, as, J, jS, jl, _⟩ := j
    obtain ⟨zz, its, n, rv, e⟩ := J.hok _ _ jS
    have hl := rv.length
    rw [List.length_map] at hl
    refine ⟨its.toArray, n, e, ?_⟩
    rw [List.size_toArray]
    omega
  · obtain ⟨Hi, as, J, jS, jl, jp, jz, jTI, ji1, ji2, jf, je, ja⟩ := j
    obtain ⟨hk1, hk2⟩ := hk Hi je
    obtain ⟨P1, S1, D1, a1, a2, a3⟩ := Sk.draws (A := X.A.in1.in1.in1) hh J hk1 t i1 n1
    obtain ⟨P2, S2, D2, c1, c2, c3⟩ := Sk.draws (A := X.A.in1.in1.in1) hh J hk2 u i2 n2
    have l1 : i < xs.length := by omega
    have l2 : i < ys.length := by omega
    have jSl : s.heap.objs.size < s1.heap.objs.size := (J.hok _ _ jS).lt
    have TSne : s1.heap.objs.size ≠ s.heap.objs.size := Nat.ne_of_gt jSl
    -- what each road leaves behind
    have fin : ∀ (x y : Value) (h2 : Heap) (tk : Nat), P1 i x → P2 i y → (∃ f, IsZipHeld h2 z TI TO s1.heap.objs.size f) ∨ (∃ T f vs, IsZipHeld h2 z TI TO T f ∧ Hi T = some (.tup vs)) → S1 (i + 1) h2 → S2 (i + 1) h2 → IsTupOf2 h2 s1.heap.objs.size x y →
        (∀ c o, c ≠ z → c ≠ TO → c ≠ i1 → c ≠ i2 → s1.heap.get? c = some o → h2.get? c = some o) → Q' (some (.ref s1.heap.objs.size)) { s1 with heap := h2, toks := tk } := by
      intro x y h2 tk hx hy hzz sn1 sn2 hT hkeep
      obtain ⟨vx, hvx, rx⟩ := a3 i x hx
      obtain ⟨vy, hvy, ry⟩ := c3 i y hy
      have hkc : ∀ c o, c ∉ [z, TI, TO, i1, i2] → s1.heap.get? c = some o → h2.get? c = some o := fun c o hc e => hkeep c o (fun q => hc (by simp [q])) (fun q => hc (by simp [q])) (fun q => hc (by simp [q])) (fun q => hc (by simp [q])) e
      have hSc : s.heap.objs.size ∉ [z, TI, TO, i1, i2] := fun hm => chS _ hm rfl
      obtain ⟨zz, its, n, rv, eS⟩ := J.hok _ _ jS
      have eS2 := hkc _ _ hSc eS
      refine hq (.ref s1.heap.objs.size) _ (eS2.trans eS.symm) ?_
      have new : ObjOk X.prog X.w (upd Hi s1.heap.objs.size (.tup [vx, vy])) h2 s1.heap.objs.size (.tup [vx, vy]) :=
        ⟨by show 2 ≤ sizeLine; decide, [x, y], .cons rx (.cons ry .nil), ⟨_, hT, rfl, _, rfl⟩⟩
      have J1 : Inv X pins σ (upd Hi s1.heap.objs.size (.tup [vx, vy])) { s1 with heap := h2, toks := tk } :=
        J.turnedNew (ch := [z, TI, TO, i1, i2]) hkc (fun b hb => I0.fpOk (ge b hb) (jf b hb)) (Nat.le_refl _) new
      have jn : Hi s1.heap.objs.size = none := J.hok.fresh (Nat.le_refl _)
      have eU := Heap.get?_update_self (Obj.mapSeq (·.push (Value.ref s1.heap.objs.size))) eS2 rfl
      have oth : ∀ b o, b ≠ s.heap.objs.size → h2.get? b = some o → (h2.update s.heap.objs.size (Obj.mapSeq (·.push (Value.ref s1.heap.objs.size)))).get? b = some o := fun b o hb e => (Heap.get?_update_other _ _ (Ne.symm hb)).trans e
      have J2 : Inv X pins σ (upd (upd Hi s1.heap.objs.size (.tup [vx, vy])) s.heap.objs.size (.lst ((as ++ [s1.heap.objs.size]).map V.ref))) { s1 with heap := h2.update s.heap.objs.size (Obj.mapSeq (·.push (Value.ref s1.heap.objs.size))), toks := tk } := by
        refine J1.write (t' := tk) (e := s.heap.objs.size) (by rw [upd_ne (Ne.symm TSne), jS]; exact True.intro) (.inl rfl) oth ⟨_, eU⟩ ?_
        have hl := rv.length
        rw [List.length_map] at hl
        refine (show ObjOk X.prog X.w _ _ _ (.lst _) from ⟨by rw [List.length_map, List.length_append, List.length_singleton]; omega, its.concat (.ref s1.heap.objs.size), _, ?_, eU⟩)
        rw [List.map_append, List.concat_eq_append]
        exact Vals.append rv (.cons rfl .nil)
      refine ⟨_, as ++ [s1.heap.objs.size], J2, upd_same, by rw [List.length_append, jl]; rfl, fun j a e => ?_, ?_, ?_, ?_, ?_, fun b hb => ?_, fun b o e => ?_, fun a ha => ?_⟩
      · rcases Nat.lt_trichotomy j as.length with hj | hj | hj
        · rw [List.getElem?_append_left hj] at e
          obtain ⟨x', y', g1, g2, g3⟩ := jp j a e
          have n1 : a ≠ s.heap.objs.size := fun q => by rw [q, jS] at g3; cases g3
          exact ⟨x', y', g1, g2, by rw [upd_ne n1, upd_ne (ne_of_none g3 jn)]; exact g3⟩
        · subst hj
          have ea : s1.heap.objs.size = a := by simpa using e
          subst ea
          exact ⟨vx, vy, by rw [jl]; exact hvx, by rw [jl]; exact hvy, by rw [upd_ne TSne]; exact upd_same⟩
        · rw [List.getElem?_eq_none (by rw [List.length_append, List.length_singleton]; omega)] at e
          cases e
      · have zS : z ≠ s.heap.objs.size := chS z (by simp)
        rcases hzz with ⟨f, g⟩ | ⟨T, f, vs, g, gT⟩
        · exact .inr ⟨_, f, [vx, vy], oth _ _ zS g, by rw [upd_ne TSne]; exact upd_same⟩
        · have n1 : T ≠ s.heap.objs.size := fun q => by rw [q, jS] at gT; cases gT
          exact .inr ⟨T, f, vs, oth _ _ zS g, by rw [upd_ne n1, upd_ne (ne_of_none gT jn)]; exact gT⟩
      · exact oth _ _ (chS TI (by simp)) (hkeep _ _ Sp.TIz Sp.TITO Sp.TIi1 Sp.TIi2 jTI)
      · exact Sk.it_at (a2 _ _ sn1) fun o g => oth _ _ (chS i1 (by simp)) g
      · exact Sk.it_at (c2 _ _ sn2) fun o g => oth _ _ (chS i2 (by simp)) g
      · have hb2 : s1.heap.objs.size ≠ b := fun q => by
          have hb3 : b = z ∨ b = TI ∨ b = TO ∨ b = i1 ∨ b = i2 := by simpa using hb
          have hlt : b < s1.heap.objs.size := by
            rcases hb3 with e | e | e | e | e
            · rw [e]; rcases jz with ⟨_, g, _⟩ | ⟨_, _, _, g, _⟩ <;> exact Heap.lt_size g
            · rw [e]; exact Heap.lt_size jTI
            · have : TO < s.heap.objs.size := by obtain ⟨x, y, e⟩ := hTO; exact Heap.lt_size e
              rw [e]; exact Nat.lt_trans this jSl
            · rw [e]; obtain ⟨_, g, _⟩ := Sk.it_obj ji1; exact Heap.lt_size g
            · rw [e]; obtain ⟨_, g, _⟩ := Sk.it_obj ji2; exact Heap.lt_size g
          exact absurd hlt (by rw [q]; exact Nat.lt_irrefl _)
        rw [upd_ne (chS b hb), upd_ne (Ne.symm hb2)]
        exact jf b hb
      · have g := je b o e
        have n1 : b ≠ s.heap.objs.size := fun q => by rw [q, hSn] at e; cases e
        rw [upd_ne n1, upd_ne (ne_of_none g jn)]
        exact g
      · rcases List.mem_append.mp ha with ha | ha
        · exact ja a ha
        · rw [List.mem_singleton.mp ha]
          exact I.hok.fresh (Nat.le_of_lt jSl)
    rcases jz with ⟨_, g, x0, y0, gO⟩ | ⟨T, f, vs, g, gT⟩
    · exact wpAny_pyNext_zipD2_item Sp D1 D2 g jTI gO (a1 i ji1) (c1 i ji2) l1 l2 fun x y h2 tk w1 w2 z' _ s1' s2' hT _ hk2 => fin x y h2 tk w1 w2 (.inl ⟨false, z'⟩) s1' s2' hT hk2
    · have hT : ∃ oT, s1.heap.get? T = some oT := by
        obtain ⟨_, its, _, o, e, _⟩ := J.hok _ _ gT
        exact ⟨_, e⟩
      obtain ⟨oT, hT⟩ := hT
      exact heldZ_next Sp D1 D2 g hT jTI (a1 i ji1) (c1 i ji2) l1 l2 fun x y h2 tk w1 w2 z' s1' s2' hT _ hk2 => fin x y h2 tk w1 w2 (.inr ⟨T, true, vs, z', gT⟩) s1' s2' hT fun c o cz _ c1 c2 e => hk2 c o cz c1 c2 e
  · obtain ⟨Hi, as, J, jS, jl, jp, jz, jTI, ji1, ji2, jf, je, ja⟩ := j
    obtain ⟨hk1, hk2⟩ := hk Hi je
    obtain ⟨P1, S1, D1, a1, a2, a3⟩ := Sk.draws (A := X.A.in1.in1.in1) hh J hk1 t i1 n1
    obtain ⟨P2, S2, D2, c1, c2, c3⟩ := Sk.draws (A := X.A.in1.in1.in1) hh J hk2 u i2 n2
    have fin : ∀ (h2 : Heap) (tk : Nat), (∀ c o, c ≠ z → c ≠ TO → c ≠ i1 → c ≠ i2 → s1.heap.get? c = some o → h2.get? c = some o) → Q' none { s1 with heap := h2, toks := tk } := by
      intro h2 tk hkeep
      have hkc : ∀ c o, c ∉ [z, TI, TO, i1, i2] → s1.heap.get? c = some o → h2.get? c = some o := fun c o hc e => hkeep c o (fun q => hc (by simp [q])) (fun q => hc (by simp [q])) (fun q => hc (by simp [q])) (fun q => hc (by simp [q])) e
      have J1 : Inv X pins σ Hi { s1 with heap := h2, toks := tk } := J.turnedL (ch := [z, TI, TO, i1, i2]) hkc fun b hb => I0.fpOk (ge b hb) (jf b hb)
      exact hq _ ⟨rfl, .ref s.heap.objs.size, Hi, J1, rfl, q _ as Hi je hSn jS jl jp ja⟩
    rcases jz with ⟨e0, g, x0, y0, gO⟩ | ⟨T, f, vs, g, gT⟩
    · exact wpAny_pyNext_zipD2_end Sp D1 D2 g jTI gO (a1 _ ji1) (c1 _ ji2) (by omega) (by omega) (by omega) fun h2 tk hk2 => fin h2 tk hk2
    · obtain ⟨oT, hT⟩ : ∃ oT, s1.heap.get? T = some oT := by
        obtain ⟨_, its, _, o, e, _⟩ := J.hok _ _ gT
        exact ⟨_, e⟩
      exact heldZ_stop Sp D1 D2 g hT jTI (a1 _ ji1) (c1 _ ji2) (by omega) (by omega) (by omega) fun h2 tk hk2 => fin h2 tk fun c o cz _ c1 c2 e => hk2 c o cz c1 c2 e
end
/-- list(zip(a, b)) -/
def tZipL (K : PySem.W.Frag) (ta : TA) : TE := fun σ H Q => ta σ H fun vs H1 => ∃ (k l : Sk) (xs ys : List V), vs = [k.v, l.v] ∧ (∀ H', ExtA H1 H' → k.has K H' xs ∧ l.has K H' ys) ∧ xs.length ≤ sizeLine ∧
  ∀ S as H2, ExtA H1 H2 → H1 S = none → H2 S = some (.lst (as.map V.ref)) → as.length = min xs.length ys.length → PairsAt H2 xs ys as → (∀ a ∈ as, H1 a = none) → Q (.ref S) H2
theorem pe_listZip {X : Cx} {e e2 : Expr} {ta : TA} {p p2 pos q : Pos} (hc : X.calm = true) (hgl : Gl X "list") (hml : X.mg "list" = none) (hg : Gl X "zip") (hm : X.mg "zip" = none) (ha : PA X [e, e2] ta)
    (hs : starEach [e, e2] X.env = (false, eval e X.env) :: starEach [e2] X.env) (hpl : (backTo q (starEach [e2] X.env)).any (·.1) = false) : PE X (.Call (.Name "list" p) [.Call (.Name "zip" p2) [e, e2] [] q] [] pos) (tZipL X.K ta) := by
  refine ⟨fun pins s σ H Q I h => ?_⟩
  refine Call_ (ld_blt I hgl hml boot_list ?_)
  refine PyProof.Rows.callWith_type1 (PyProof.Rows.args_cons ?_ rfl) rfl rfl
  refine Call_ (ld_blt I hg hm PyProof.Rows.boot_zip (PyProof.Rows.callWith_type1 (thn (ha.run q pins s σ H _ I h) fun us s1 ⟨vs, H1, I1, r1, q1⟩ => ?_) hs hpl))
  obtain ⟨k, l, xs, ys, ex, hk, hz1, q1⟩ := q1
  subst ex
  cases r1 with
  | cons r rr =>
    cases rr with
    | cons r' rr =>
      cases rr
      obtain ⟨t, rfl⟩ := Sk.rel r
      obtain ⟨u, rfl⟩ := Sk.rel r'
      obtain ⟨hq1, hq2⟩ := hk H1 fun _ _ e => e
      obtain ⟨H1h, B1, b1, b1l⟩ := k.begins t I1 hq1
      obtain ⟨H2h, B2, b2, b2l⟩ := l.begins u I1 hq2
      refine zip_begins2 B1 B2 b1 b2 fun h' hz hTI hTO o1 o2 hsz hkp => PyProof.Rows.args_nil ?_
      have I2 : Inv X pins σ H1 { s1 with heap := h' } := I1.kept (t' := s1.toks) hkp
      refine pe_zipl (k := k) (l := l) (t := t) (u := u) (s := { s1 with heap := h' }) (i1 := s1.heap.objs.size) (i2 := s1.heap.objs.size + 1) hc I1 I2 (by show _ ≤ h'.objs.size; omega) hk hz1 (zip_sep2 b1l b2l) (fun z => absurd (b1l _ z) (Nat.lt_irrefl _)) (fun z => absurd (b2l _ z) (Nat.not_lt_of_le (Nat.le_succ _))) (fun c hcm => ?_) hz hTI ⟨_, _, hTO⟩ (Sk.it_new o1) (Sk.it_new o2) q1
      have e' : c = s1.heap.objs.size + 4 ∨ c = s1.heap.objs.size + 2 ∨ c = s1.heap.objs.size + 3 ∨ c = s1.heap.objs.size ∨ c = s1.heap.objs.size + 1 := by simpa using hcm
      rcases e' with z | z | z | z | z <;> rw [z] <;> first | exact Nat.le_add_right _ _ | exact Nat.le_refl _
theorem pairs_rp {C : Cfg} {H H2 : Hp} {g : List Dat} (G : GR C g H) (e : Ext C H H2) : ∀ {as : List Addr} {vs ws : List V} {xs ys : List Dat}, RpL C H vs xs → RpL C H ws ys → as.length = min vs.length ws.length → PairsAt H2 vs ws as → (∀ a ∈ as, H a = none) → RpL C H2 (as.map V.ref) (pairsD xs ys)
  | as, [], ws, _, ys, .nil, _, hl, _, _ => by
    have : as = [] := List.length_eq_zero_iff.mp (by simpa using hl)
    subst this
    exact .nil
  | as, v :: vs, [], _, _, .cons _ _, .nil, hl, _, _ => by
    have : as = [] := List.length_eq_zero_iff.mp (by simpa using hl)
    subst this
    exact .nil
  | [], v :: vs, w :: ws, _, _, .cons _ _, .cons _ _, hl, _, _ => by
    simp only [List.length_nil, List.length_cons] at hl
    omega
  | a :: as, v :: vs, w :: ws, _, _, .cons r rr, .cons s ss, hl, hp, hn => by
    obtain ⟨x, y, h1, h2, h3⟩ := hp 0 a rfl
    cases h1
    cases h2
    refine .cons (.tup (.inl ⟨h3, G.ne (hn a List.mem_cons_self)⟩) (by show 2 ≤ sizeLine; decide) (.cons (r.ext e) (.cons (s.ext e) .nil))) (pairs_rp G e rr ss (by simp only [List.length_cons] at hl; omega) (fun j b hj => ?_) fun b hb => hn b (List.mem_cons_of_mem _ hb))
    obtain ⟨x, y, g1, g2, g3⟩ := hp (j + 1) b (by simpa using hj)
    exact ⟨x, y, by simpa using g1, by simpa using g2, g3⟩
theorem sem_lzip {c : Ctx} {a b : Expr} {a' b' : Ex} {p p2 q pos : Pos} (hgl : kindB c.sc "list" = some .globalImplicit) (hg : kindB c.sc "zip" = some .globalImplicit) (ha : Sem c a a') (hb : Sem c b b') :
    Sem c (.Call (.Name "list" p) [.Call (.Name "zip" p2) [a, b] [] q] [] pos) (.zip a' b') := by
  refine ⟨fun X C W F k M => ?_, rfl⟩
  refine pe_mono (pe_listZip M.calm (show X.env.scope.names.lookup ("list" : Str) = some .globalImplicit by rw [M.sc]; exact hgl) (M.bi _ (by decide)) (show X.env.scope.names.lookup ("zip" : Str) = some .globalImplicit by rw [M.sc]; exact hg) (M.bi _ (by decide)) ((semL_cons ha (semL_one hb)).run X C W F k M) (star_plain ha.plain) ((semL_one hb).plain _ _)) fun σ H Q ⟨ρ, g, E, G, h⟩ => ?_
  refine ⟨ρ, g, E, G, ?_⟩
  have hK := M.K
  revert h
  unfold den
  simp only [denL]
  cases den F a' ρ g with
  | bad => exact fun q => q
  | exc c g1 => exact fun q => q
  | ok x g1 =>
    dsimp only [Res.bind]
    cases den F b' ρ g1 with
    | bad => exact fun q => q
    | exc c g1 => exact fun q => q
    | ok y g2 =>
      intro h vs H1 e1 G1 l
      obtain ⟨z, hz, hq⟩ := run_ofO (h.ext e1)
      obtain ⟨ps, hps, rfl⟩ := Option.map_eq_some_iff.mp hz
      unfold zipD at hps
      obtain ⟨xs, hx, hps⟩ := Option.bind_eq_some_iff.mp hps
      obtain ⟨ys, hy, rfl⟩ := Option.map_eq_some_iff.mp hps
      cases l with
      | cons r1 l =>
        cases l with
        | cons r2 l =>
          cases l
          obtain ⟨k, us, rfl, hh1, l1, z1, st1⟩ := r1.src hx
          obtain ⟨k2, ws, rfl, hh2, l2, z2, st2⟩ := r2.src hy
          have stay : ∀ H', ExtA H1 H' → k.has X.K H' us ∧ k2.has X.K H' ws := fun H' eA => by
            rw [hK]
            exact ⟨st1 C.M H' (fun a h1 h2 => absurd h1 h2) fun a o e _ _ => eA a o e, st2 C.M H' (fun a h1 h2 => absurd h1 h2) fun a o e _ _ => eA a o e⟩
          have eE : ∀ H2, ExtA H1 H2 → Ext C H1 H2 := fun H2 eA a o e _ => eA a o e
          refine ⟨k, k2, us, ws, rfl, stay, by rw [l1.len]; exact z1, fun S as H2 eA hS h2S hal hp hn => hq _ H2 (eE H2 eA) (G1.ext (eE H2 eA) fun a ha => ?_) (.lst ⟨.inl h2S, G1.ne hS⟩ ?_ (pairs_rp G1 (eE H2 eA) l1 l2 hal hp hn))⟩
          · obtain ⟨vs, h1, _⟩ := G1.2 a ha
            rw [h1]
            exact eA _ _ h1
          · unfold pairsD
            rw [List.length_zipWith]
            omega
end R
set_option Elab.async false
set_option linter.all false
set_option maxRecDepth 100000
set_option maxHeartbeats 4000000
/-! list(range(..)). -/
namespace R
open PySem PySem.Spec PyProof.Rows L2
theorem rgV_rp {C : Cfg} {H : Hp} (a b : Int) : RpL C H (rgV a b) ((List.range (b - a).toNat).map fun k => Dat.int (a + (k : Nat))) := by
  have key : ∀ l : List Nat, RpL C H (l.map fun i => V.int (a + (i : Nat))) (l.map fun k => Dat.int (a + (k : Nat))) := by
    intro l
    induction l with
    | nil => exact .nil
    | cons i l ih => exact .cons (.int _) ih
  exact key _
theorem lrng_end {C : Cfg} {W : WX} {σ : L2.St} {H : Hp} {Q : VK} {g : List Dat} {a b : Int} (G : GR C g H) (hl : (b - a).toNat ≤ 16777216) (h : RunE C W (.ok (.lst ((List.range (b - a).toNat).map fun k => .int (a + (k : Nat)))) g) σ H Q) :
    ∀ q, H q = none → Q (.ref q) (upd H q (.lst (rgV a b))) := fun q hq =>
  h _ _ (Ext.new hq) (G.new hq) (.newL G hq (by rw [List.length_map, List.length_range, sizeLine_eq]; exact hl) (rgV_rp a b))
theorem sem_lrng1 {c : Ctx} {a : Expr} {a' : Ex} {p p2 q pos : Pos} (hgl : kindB c.sc "list" = some .globalImplicit) (hg : kindB c.sc "range" = some .globalImplicit) (ha : Sem c a a') :
    Sem c (.Call (.Name "list" p) [.Call (.Name "range" p2) [a] [] q] [] pos) (.rng [a']) := by
  refine ⟨fun X C W F k M => ?_, rfl⟩
  refine pe_mono (pe_listRg M.calm (show X.env.scope.names.lookup ("list" : Str) = some .globalImplicit by rw [M.sc]; exact hgl) (M.bi _ (by decide)) (prg_1 (show X.env.scope.names.lookup ("range" : Str) = some .globalImplicit by rw [M.sc]; exact hg) (M.bi _ (by decide)) (ha.run X C W F k M) (star_plain ha.plain)) rfl) fun σ H Q ⟨ρ, g, E, G, h⟩ => ?_
  unfold den at h
  simp only [denL] at h
  have hb : ∀ (r : Res Dat) (k : Dat → Mo (List Dat)) (m : List Dat → Mo Dat), (r.bind k).bind m = r.bind fun x g => (k x g).bind m := fun r k m => by cases r <;> rfl
  rw [hb] at h
  refine tD_then _ (fun r H => RunE C W r σ H Q) E G h (fun _ _ p => p) id fun d g1 x H1 e1 E1 G1 r1 h1 => ?_
  have h1 : RunE C W (ofO ((rngD [d]).map .lst) g1) σ H Q := h1
  obtain ⟨z, hz, hq⟩ := run_ofO (h1.ext e1)
  obtain ⟨ds, hr, rfl⟩ := Option.map_eq_some_iff.mp hz
  cases d with
  | int n =>
    unfold rngD at hr
    obtain ⟨hc, rfl⟩ := ite_some hr
    simp only [Bool.and_eq_true, decide_eq_true_eq] at hc
    have hl : (line : Int) = 16777216 := rfl
    refine ⟨n, r1.int_inv, ⟨by omega, by omega, by omega, by omega, by omega⟩, lrng_end (W := W) (σ := σ) G1 (by omega) ?_⟩
    rw [show n - 0 = n by omega]
    exact hq
  | _ => cases hr
theorem sem_lrng2 {c : Ctx} {a b : Expr} {a' b' : Ex} {p p2 q pos : Pos} (hgl : kindB c.sc "list" = some .globalImplicit) (hg : kindB c.sc "range" = some .globalImplicit) (ha : Sem c a a') (hb : Sem c b b') :
    Sem c (.Call (.Name "list" p) [.Call (.Name "range" p2) [a, b] [] q] [] pos) (.rng [a', b']) := by
  refine ⟨fun X C W F k M => ?_, rfl⟩
  refine pe_mono (pe_listRg M.calm (show X.env.scope.names.lookup ("list" : Str) = some .globalImplicit by rw [M.sc]; exact hgl) (M.bi _ (by decide)) (prg_2 (show X.env.scope.names.lookup ("range" : Str) = some .globalImplicit by rw [M.sc]; exact hg) (M.bi _ (by decide)) (ha.run X C W F k M) (hb.run X C W F k M) (by rw [star_plain ha.plain]) (star_plain hb.plain) (by rw [star_plain hb.plain]; rfl)) rfl) fun σ H Q ⟨ρ, g, E, G, h⟩ => ?_
  unfold den at h
  simp only [denL] at h
  have h : RunE C W ((den F a' ρ g).bind fun x g => (den F b' ρ g).bind fun y g => ofO ((rngD [x, y]).map .lst) g) σ H Q := by
    revert h
    cases den F a' ρ g with
    | ok x g1 =>
      dsimp only [Res.bind]
      cases den F b' ρ g1 <;> exact id
    | _ => exact id
  refine tD_then _ (fun r H => RunE C W r σ H _) E G h (fun _ _ p => p) id fun d g1 x H1 e1 E1 G1 r1 h1 => ?_
  refine tD_then _ (fun r H => RunE C W r σ H _) E1 G1 (h1.ext e1) (fun _ _ p => p) id fun d2 g2 x2 H2 e2 E2 G2 r2 h2 => ?_
  have h2 : RunE C W (ofO ((rngD [d, d2]).map .lst) g2) σ H1 Q := h2
  obtain ⟨z, hz, hq⟩ := run_ofO (h2.ext e2)
  obtain ⟨ds, hr, rfl⟩ := Option.map_eq_some_iff.mp hz
  cases d with
  | int n =>
    cases d2 with
    | int m =>
      unfold rngD at hr
      obtain ⟨hc, rfl⟩ := ite_some hr
      simp only [Bool.and_eq_true, decide_eq_true_eq] at hc
      have hl : (line : Int) = 16777216 := rfl
      exact ⟨n, m, r1.int_inv, r2.int_inv, ⟨by omega, by omega, by omega, by omega, by omega⟩, lrng_end G2 (by omega) hq⟩
    | _ => cases hr
  | _ => cases hr
end R
set_option Elab.async false
set_option linter.all false
set_option maxRecDepth 100000
set_option maxHeartbeats 4000000
/-! Dicts whose keys are tuples of any depth: the object, a store. -/
namespace R
open PySem PySem.Spec PyProof.Rows L2

abbrev NEnt := NestedKey × Addr × Value
/-- the dict's own object, by its entries -/
def rawD (P : Program) (w : World) (D : Addr) (xs : List NEnt) : Heap → Prop := fun h =>
  (D == sysModules) = false ∧ ∃ o es ep, h.get? D = some o ∧ o.ExactDict ∧ o.data = .dict es ep ∧ es.toList = xs.map (entryOfKey (nestedKind P w)) ∧ (xs.map (·.1)).Nodup
def nD (P : Program) (w : World) (D : Addr) (xs : List NEnt) : HO := .ext (rawD P w D xs)
theorem rawD_stay {P : Program} {w : World} {D : Addr} {xs : List NEnt} {h h' : Heap} (x : rawD P w D xs h) (k : ∀ o, h.get? D = some o → h'.get? D = some o) : rawD P w D xs h' := by
  obtain ⟨hd, o, es, ep, ho, r⟩ := x
  exact ⟨hd, o, es, ep, k _ ho, r⟩
theorem nD_ok {P : Program} {w : World} {H : Hp} {h : Heap} {D : Addr} {xs : List NEnt} (x : rawD P w D xs h) : ObjOk P w H h D (nD P w D xs) := by
  obtain ⟨hd, o, es, ep, ho, r⟩ := id x
  exact ⟨x, ⟨o, ho⟩, fun h1 h2 a b => rawD_stay a b⟩
theorem nD_empty {P : Program} {w : World} {H : Hp} (h : Heap) (hb : sysModules < h.objs.size) : ObjOk P w H (h.push { cls := .type "dict", data := .dict #[] }) h.objs.size (nD P w h.objs.size []) :=
  nD_ok ⟨beq_eq_false_iff_ne.mpr (Ne.symm (Nat.ne_of_lt hb)), _, #[], 0, Heap.get?_push_size _ rfl, ⟨rfl, rfl, rfl⟩, rfl, rfl, List.nodup_nil⟩
section
variable {X : Cx} {pins : List (Addr × Obj)} {σ : L2.St} {H : Hp} {s : Shared} {C : Cfg}
/-- a key's address and its data -/
def KeyD (C : Cfg) (H : Hp) (k : NestedKey) (a : Addr) (d : Dat) : Prop := Rp C H (.ref a) d ∧ nkB d 8 = true ∧ toNK d = k
theorem KeyD.is (I : Inv X pins σ H s) (hK : C.K = X.K) {k : NestedKey} {a : Addr} {d : Dat} (h : KeyD C H k a d) : (nestedKind X.prog X.w).is s.heap k a := by
  obtain ⟨h1, h2, rfl⟩ := h
  exact ⟨nk_is I hK d 8 _ _ h2 h1 rfl, nk_depth d 8 h2⟩
theorem nD_at (I : Inv X pins σ H s) {D : Addr} {xs : List NEnt} (hD : H D = some (nD X.prog X.w D xs)) : rawD X.prog X.w D xs s.heap := by
  obtain ⟨x, _⟩ := I.hok _ _ hD
  exact x
theorem nD_dict (I : Inv X pins σ H s) (hK : C.K = X.K) {D : Addr} {xs : List NEnt} (hD : H D = some (nD X.prog X.w D xs)) (hk : ∀ x ∈ xs, ∃ d, KeyD C H x.1 x.2.1 d) : s.heap.DictOfH (nestedKind X.prog X.w) D xs := by
  obtain ⟨_, o, es, ep, ho, hc, hd, he, hn⟩ := nD_at I hD
  exact ⟨o, es, ep, ho, hc, hd, he, fun x hx => let ⟨d, h⟩ := hk x hx; h.is I hK, hn⟩
/-- D[k] = v -/
theorem d_putN {E : Value → Shared → Prop} {D a : Addr} {xs : List NEnt} {k : NestedKey} {v : Value} {d : Dat} {Q : Unit → Shared → Prop} (I : Inv X pins σ H s) (hK : C.K = X.K) (hu : X.A.units + 64 < cLine) (hD : H D = some (nD X.prog X.w D xs)) (hk : ∀ x ∈ xs, ∃ d, KeyD C H x.1 x.2.1 d) (hkey : KeyD C H k a d) (hz : xs.length ≤ sizeLine)
    (h : ∀ s', Inv X pins σ (upd H D (nD X.prog X.w D (storedH xs k a v))) s' → Q () s') : wpAny (model X.prog X.w) X.A (dictSet D (.ref a) v) Q E s := by
  have hm := nD_dict I hK hD hk
  have hsys := (nD_at I hD).1
  refine wpAny_dictSet_heap (hsz := hz) (show X.A.units + 8 < cLine by omega) (hkey.is I hK) hm fun h' hm' hs => h _ ?_
  obtain ⟨o, es, ep, ho, hc, hd, he, _, hn⟩ := hm'
  exact d_write I (by rw [hD]; exact True.intro) hs ⟨o, ho⟩ (nD_ok ⟨hsys, o, es, ep, ho, hc, hd, he, hn⟩)
end
/-! ### a comprehension -/
section
variable {X : Cx}
/-- {k: b for target in iter if ..}, keys tuples, b a bool: D the new dict -/
def tDcN (P : Program) (w : World) (K : PySem.W.Frag) (wi : TI) (g : TG) (tt : TT) (tk tv : TE) (vs : List Nat) : TE := fun σ H Q => wi σ H fun J H1 => ∀ D, H1 D = none → ∃ W : Nat → Nat → Hp → Prop, (∃ m, W 0 m (upd H1 D (nD P w D []))) ∧ ∀ i m H, W i m H →
  (J.stop i H ∧ Q (.ref D) H) ∨ (J.go i H ∧ ∃ Nx : Hp → Prop, (∀ H', Nx H' → ∃ m', m' < m ∧ W (i + 1) m' H') ∧ ∀ x H', J.yld i H x H' → g x (wipe σ vs) H' fun σ2 H2 => wipe σ2 vs = wipe σ vs ∧ tt σ2 H2 fun b H3 =>
    if b = true then tk σ2 H3 fun y H4 => tv σ2 H4 fun z H5 => ∃ (C : Cfg) (xs : List NEnt) (k : NestedKey) (a : Addr) (d : Dat) (t : Bool), C.K = K ∧ y = .ref a ∧ z = .bl t ∧ H5 D = some (nD P w D xs) ∧ (∀ x ∈ xs, ∃ d, KeyD C H5 x.1 x.2.1 d) ∧ KeyD C H5 k a d ∧ xs.length ≤ sizeLine ∧ Nx (upd H5 D (nD P w D (storedH xs k a (.bool t)))) else Nx H3)
end
end R
set_option Elab.async false
set_option linter.all false
set_option maxRecDepth 100000
set_option maxHeartbeats 4000000
/-! {k: v for target in iter if ..} over any way to store: what the new dict is, what a store does to it. -/
namespace R
open PySem PySem.Spec PyProof.Rows L2

/-- a way to store: the empty dict, and what a store makes of the heap -/
structure Way (P : Program) (w : World) (K : PySem.W.Frag) where
  nw : Addr → HO
  put : Addr → V → V → Hp → Hp → Prop
  ok : ∀ (H : Hp) (h : Heap), sysModules < h.objs.size → ObjOk P w H (h.push { cls := .type "dict", data := .dict #[] }) h.objs.size (nw h.objs.size)
  st : ∀ (X : Cx) (pins : List (Addr × Obj)) (σ : L2.St) (H H' : Hp) (s : Shared) (E : Value → Shared → Prop) (D : Addr) (y z : V) (u r : Value) (Q : Unit → Shared → Prop), X.prog = P → X.w = w → X.K = K → X.A.units + 64 < cLine → Inv X pins σ H s → RelV y u → RelV z r → put D y z H H' →
    (∀ s', Inv X pins σ H' s' → Q () s') → wpAny (model X.prog X.w) X.A (dictSet D u r) Q E s
/-- the reading of a dict's comprehension -/
def tDcW {P : Program} {w : World} {K : PySem.W.Frag} (Y : Way P w K) (wi : TI) (g : TG) (tt : TT) (tk tv : TE) (vs : List Nat) : TE := fun σ H Q => wi σ H fun J H1 => ∀ D, H1 D = none → ∃ W : Nat → Nat → Hp → Prop, (∃ m, W 0 m (upd H1 D (Y.nw D))) ∧ ∀ i m H, W i m H →
  (J.stop i H ∧ Q (.ref D) H) ∨ (J.go i H ∧ ∃ Nx : Hp → Prop, (∀ H', Nx H' → ∃ m', m' < m ∧ W (i + 1) m' H') ∧ ∀ x H', J.yld i H x H' → g x (L2.wipe σ vs) H' fun σ2 H2 => L2.wipe σ2 vs = L2.wipe σ vs ∧ tt σ2 H2 fun b H3 =>
    if b = true then tk σ2 H3 fun y H4 => tv σ2 H4 fun z H5 => ∃ H6, Y.put D y z H5 H6 ∧ Nx H6 else Nx H3)
section
variable {X : Cx} {pins : List (Addr × Obj)} {s : Shared} {σ : L2.St} {H : Hp}
theorem dcw_run {Q : VK} {ke ve te it : Expr} {cs : List Expr} {sc : Scope} {own : List (Str × Nat)} {p1 p2 : Pos} {wi : TI} {g : TG} {tt : TT} {tk tv : TE} {use : Option (Value → PySem.Sem Unit)} {Qf : Value → Shared → Prop} (Y : Way X.prog X.w X.K)
    (hc : X.calm = true) (hu : X.A.units + 64 < cLine) (hN : X.N.Nodup) (I : Inv X pins σ H s) (hi : PI X te it wi) (ok : BlkOk X.N X.env.scope sc own)
    (hg : ∀ (s : Shared) (H : Hp) (C : Addr) (cl : List (Str × Addr)) (fp : List Addr), PG (X.blk s H sc (compEnvC sc cl C X.env) fp) te g)
    (ht : ∀ (s : Shared) (H : Hp) (C : Addr) (cl : List (Str × Addr)) (fp : List Addr), PTs (X.blk s H sc (compEnvC sc cl C X.env) fp) cs tt)
    (hk : ∀ (s : Shared) (H : Hp) (C : Addr) (cl : List (Str × Addr)) (fp : List Addr), PE (X.blk s H sc (compEnvC sc cl C X.env) fp) ke tk)
    (hv : ∀ (s : Shared) (H : Hp) (C : Addr) (cl : List (Str × Addr)) (fp : List Addr), PE (X.blk s H sc (compEnvC sc cl C X.env) fp) ve tv) (hs : ∀ x, foldedSetIterable it X.env x = pure x)
    (h : tDcW Y wi g tt tk tv (own.map (·.2)) σ H Q)
    (fin : ∀ D C s' m H', Inv X pins σ H' s' → Q (.ref D) H' → s'.heap.Ns C m → FpOk X pins H' C → compPost (model X.prog X.w) X.A X.xe use Qf (.ref D) C (.ok .next) s') :
    wpAny (model X.prog X.w) X.A (comprehension (.DictComp ke ve [⟨te, it, cs, 0⟩] sc p1) sc X.env p2 newDict false (eval it X.env) use) Qf X.xe s := by
  have hfree : ∀ y ∈ sc.names, y.2 = .free → ∃ c, X.env.cells.lookup y.1 = some c := fun y hy e => (ok.free y hy e).elim (fun k => I.ok.has _ (.inl k)) fun k => I.ok.has _ (.inr k)
  refine wpAny_comprehension_free (use := use) rfl hs (closure_ok hfree) ok.kind (fun y hy e => by rw [ok.uniq y hy, e]) (thn (hi.run pins s σ H _ I h) fun _ s1 hx => thn hx fun _ s2 ⟨ir, fp, tn, J, H2, e, I2, T, st2, f2, q⟩ => ?_)
  subst e
  refine wpAny_newObj_type (newEnv_comp ?_)
  obtain ⟨D, hD⟩ : ∃ D, s2.heap.objs.size = D := ⟨_, rfl⟩
  have free0 : H2 D = none := I2.hok.fresh (Nat.le_of_eq hD)
  rw [hD]
  obtain ⟨W, ⟨m0, w0⟩, turn⟩ := q D free0
  generalize hs3 : ({ s2 with heap := s2.heap.push { cls := .type "dict", data := .dict #[] } } : Shared) = s3
  have hp3 : s3.heap = s2.heap.push { cls := .type "dict", data := .dict #[] } := by rw [← hs3]
  have up3 : ∀ b o, s2.heap.get? b = some o → s3.heap.get? b = some o := fun b o e => by rw [hp3]; exact Heap.get?_push_of_some _ e
  have I3 : Inv X pins σ (upd H2 D (Y.nw D)) s3 := by
    subst hs3
    exact I2.laid (t' := s2.toks) up3 (Nat.le_of_eq hD) (by rw [← hD]; exact Y.ok _ s2.heap I2.big)
  have f3 : ∀ b ∈ fp, FpOk X pins (upd H2 D (Y.nw D)) b ∧ b < s3.heap.objs.size := fun b hb => by
    obtain ⟨o, e, _⟩ := T.obj _ _ st2 b hb
    have lt2 : b < D := by rw [← hD]; exact Heap.lt_size e
    exact ⟨⟨by rw [upd_ne (Nat.ne_of_lt lt2)]; exact (f2 b hb).1, (f2 b hb).2⟩, Heap.lt_size (up3 _ _ e)⟩
  have st3 : tn 0 s3.heap := T.keep _ _ _ st2 fun b _ o e => up3 b o e
  have I4 := block_start I3 ok hN f3
  generalize hCl : cellsFrom (s3.heap.objs.size + 1) sc.names (cloFrom X.env.cells sc.names []) = cl at I4
  have pg := hg s3 (upd H2 D (Y.nw D)) s3.heap.objs.size cl fp
  have pt := ht s3 (upd H2 D (Y.nw D)) s3.heap.objs.size cl fp
  have pk := hk s3 (upd H2 D (Y.nw D)) s3.heap.objs.size cl fp
  have pv := hv s3 (upd H2 D (Y.nw D)) s3.heap.objs.size cl fp
  show codeAny _ _ (.compStart (.DictComp ke ve [⟨te, it, cs, 0⟩] sc p1) 0 (.ref ir) (.ref D) (compEnvC sc cl s3.heap.objs.size X.env)) (compPost (model X.prog X.w) X.A X.xe use Qf (.ref D) s3.heap.objs.size) { s3 with heap := pushCells (s3.heap.push { cls := .type "dict", data := .dict #[] }) sc.names }
  have nfp : ∀ b ∈ fp, (upd H2 D (Y.nw D)) b = none := fun b hb => (f3 b hb).1.1
  generalize hce : compEnvC sc cl s3.heap.objs.size X.env = ce at I4 pg pt pk pv ⊢
  have cL : ce.locals = s3.heap.objs.size := by subst hce; rfl
  generalize hH3 : upd H2 D (Y.nw D) = H3 at I3 I4 pg pt pk pv w0 nfp f3
  generalize hs4 : ({ s3 with heap := pushCells (s3.heap.push { cls := .type "dict", data := .dict #[] }) sc.names } : Shared) = s4 at I4 ⊢
  have st4 : tn 0 s4.heap := T.keep _ _ _ st3 fun b _ o e => by rw [← hs4]; exact pushCells_keeps _ _ _ _ (Heap.get?_push_of_some _ e)
  -- the turns
  have still : ∀ {σ' : L2.St} {H' : Hp} {s' : Shared}, Inv (X.blk s3 H3 sc ce fp) [] σ' H' s' → (∀ b ∈ fp, H' b = none) → ∀ b ∈ fp, FpOk (X.blk s3 H3 sc ce fp) [] H' b := fun I' hn b hb =>
    ⟨hn b hb, (I'.ok.exf b hb).1, I'.ok.exfs b hb, .inl hb, fun x c e => (I'.ok.exf b hb).2 x c e, fun p hp => absurd (show p ∈ ([] : List (Addr × Obj)) ++ [] from hp) (by simp)⟩
  have loop : codeAny (model X.prog X.w) X.A (.compLoop (.DictComp ke ve [⟨te, it, cs, 0⟩] sc p1) 0 (.ref ir) (.ref D) ce) (compPost (model X.prog X.w) X.A X.xe use Qf (.ref D) s3.heap.objs.size) s4 := by
    refine compLoop_anyD (fun n s' => ∃ i H', Inv (X.blk s3 H3 sc ce fp) [] (L2.wipe σ (own.map (·.2))) H' s' ∧ tn i s'.heap ∧ (∀ b ∈ fp, H' b = none) ∧ W i n H') ?_ m0 ⟨0, H3, I4, st4, nfp, w0⟩
    rintro n s5 ⟨i, H5, I5, st5, n5, w5⟩
    rcases turn i n H5 w5 with ⟨stop, qq⟩ | ⟨go, Nx, hNx, step⟩
    · refine thnF (T.done (X.blk s3 H3 sc ce fp) rfl rfl rfl hc i [] s5 _ H5 (fun _ _ => False) I5 (still I5 n5) st5 stop) fun r s6 ⟨hr, I6⟩ => ?_
      subst hr
      have I7 : Inv X pins σ H5 s6 := I3.call' (ch := fp) I6.os I6.base I6.hok I6.bare fun b hb => ⟨(f3 b hb).1.2.2.2.1, (f3 b hb).1.2.1, (f3 b hb).1.2.2.2.2.1, (f3 b hb).1.2.2.2.2.2⟩
      have nC : H5 s3.heap.objs.size = none := by rw [← cL]; exact I6.free
      obtain ⟨m, hn, _⟩ := I6.loc
      have hn : s6.heap.Ns ce.locals m := hn
      exact fin D s3.heap.objs.size s6 m H5 I7 qq (by rw [← cL]; exact hn) (I3.fpOk (Nat.le_refl _) nC)
    · refine thnF (T.item (X.blk s3 H3 sc ce fp) rfl rfl rfl hc i [] s5 _ H5 (fun _ _ => False) I5 (still I5 n5) st5 go) fun r s6 ⟨u, hr, h6⟩ => ?_
      subst hr
      refine thnF h6 fun _ s7 ⟨x, H7, I7, r7, y7, st7, n7⟩ => ?_
      have J7 := I7.pinned (still I7 n7) (T.obj _ _ st7)
      refine thnF (pg.run _ s7 _ H7 x u _ J7 r7 (step x H7 y7)) fun _ s8 ⟨σ8, H8, I8, hw8, q8⟩ => ?_
      refine thnF (pt.run _ s8 σ8 H8 _ I8 q8) fun b s9 ⟨H9, I9, q9⟩ => ?_
      have on : ∀ {s' : Shared} {H' : Hp}, Inv (X.blk s3 H3 sc ce fp) ([] ++ pinsAt fp s7.heap) σ8 H' s' → Nx H' → ∃ m, m < n ∧ ∃ i H', Inv (X.blk s3 H3 sc ce fp) [] (L2.wipe σ (own.map (·.2))) H' s' ∧ tn i s'.heap ∧ (∀ b ∈ fp, H' b = none) ∧ W i m H' := fun {s' H'} I' nx => by
        obtain ⟨m', hm, w'⟩ := hNx H' nx
        have pin' : ∀ b ∈ fp, ∀ o, s7.heap.get? b = some o → s'.heap.get? b = some o ∧ H' b = none := fun b hb o e =>
          have z := I'.pin (b, o) (List.mem_append_right _ (List.mem_append_right _ (mem_pinsAt hb e)))
          ⟨z.1, z.2.1⟩
        refine ⟨m', hm, i + 1, H', (I'.unpinned (pins := [])).weak (by rw [← hw8, wipe_length]) (fun j v e => ?_), T.keep _ _ _ st7 fun b hb o e => (pin' b hb o e).1, fun b hb => ?_, w'⟩
        · rw [← hw8] at e
          exact (wipe_some e).1
        · obtain ⟨o, e, _⟩ := T.obj _ _ st7 b hb
          exact (pin' b hb o e).2
      cases b with
      | false => exact on I9 q9
      | true =>
        refine thnF (pk.run _ s9 σ8 H9 _ I9 q9) fun z s10 ⟨yk, H10, I10, r10, q10⟩ => ?_
        refine thnF (pv.run _ s10 σ8 H10 _ I10 q10) fun z2 s11 ⟨yv, H11, I11, r11, H12, put, nx⟩ => ?_
        exact Y.st (X.blk s3 H3 sc ce fp) _ _ _ _ _ _ _ _ _ _ _ _ rfl rfl rfl hu I11 r10 r11 put fun s12 I12 => on I12 nx
  exact codeAny_compStart_dict loop (T.self X.A 0 _ _ _ st4 loop)
/-- as a value -/
theorem pe_dcw {ke ve te it : Expr} {cs : List Expr} {sc : Scope} {own : List (Str × Nat)} {p1 : Pos} {wi : TI} {g : TG} {tt : TT} {tk tv : TE} (Y : Way X.prog X.w X.K)
    (hc : X.calm = true) (hu : X.A.units + 64 < cLine) (hN : X.N.Nodup) (hi : PI X te it wi) (ok : BlkOk X.N X.env.scope sc own)
    (hg : ∀ (s : Shared) (H : Hp) (C : Addr) (cl : List (Str × Addr)) (fp : List Addr), PG (X.blk s H sc (compEnvC sc cl C X.env) fp) te g)
    (ht : ∀ (s : Shared) (H : Hp) (C : Addr) (cl : List (Str × Addr)) (fp : List Addr), PTs (X.blk s H sc (compEnvC sc cl C X.env) fp) cs tt)
    (hk : ∀ (s : Shared) (H : Hp) (C : Addr) (cl : List (Str × Addr)) (fp : List Addr), PE (X.blk s H sc (compEnvC sc cl C X.env) fp) ke tk)
    (hv : ∀ (s : Shared) (H : Hp) (C : Addr) (cl : List (Str × Addr)) (fp : List Addr), PE (X.blk s H sc (compEnvC sc cl C X.env) fp) ve tv) (hs : ∀ x, foldedSetIterable it X.env x = pure x) :
    PE X (.DictComp ke ve [⟨te, it, cs, 0⟩] sc p1) (tDcW Y wi g tt tk tv (own.map (·.2))) := by
  refine ⟨fun pins s σ H Q I h => ?_⟩
  rw [arm_eval_DictComp]
  refine dcw_run Y hc hu hN I hi ok hg ht hk hv hs h fun D C s' m H' I' q hn ⟨f0, f1, f2, f3, f4, f5⟩ => ⟨m, hn, fun h'' sb => ?_⟩
  exact ⟨.ref D, H', I'.turned (t' := s'.toks) (fun b o hb e => (sb.2 b hb).trans e) f0 f1 f3 f4 f5, rfl, q⟩
end
end R
set_option Elab.async false
set_option linter.all false
set_option maxRecDepth 100000
set_option maxHeartbeats 4000000
/-! A dict's comprehension on plain data: keys ints and texts, or tuples of any depth. -/
namespace R
open PySem PySem.Spec PyProof.Rows L2

/-- how a way to store does on plain data -/
structure DKind {P : Program} {w : World} {K : PySem.W.Frag} (Y : Way P w K) (put : Dat → Dat → List Dat → List Dat → Option (List Dat × List Dat)) where
  inv : Cfg → Hp → Addr → List Dat → List Dat → Prop
  start : ∀ (C : Cfg) (H : Hp) (D : Addr), inv C (upd H D (Y.nw D)) D [] []
  ext : ∀ (C : Cfg) (H H' : Hp) (D : Addr) (ks vs : List Dat), inv C H D ks vs → ExtM C H H' → H' D = H D → inv C H' D ks vs
  step : ∀ (C : Cfg) (H : Hp) (D : Addr) (y z : V) (dk dv : Dat) (ks vs ks' vs' : List Dat), C.K = K → D ∈ C.M → inv C H D ks vs → Rp C H y dk → Rp C H z dv → put dk dv ks vs = some (ks', vs') → ∃ o, Y.put D y z H (upd H D o) ∧ inv C (upd H D o) D ks' vs'
  there : ∀ (C : Cfg) (H : Hp) (D : Addr) (ks vs : List Dat), inv C H D ks vs → ∃ o, H D = some o
def dcStep (F : Nat → List Dat → Mo Dat) (kx vx : Ex) (tg : Tg) (cond : Ex) (ρ0 : Sl) (d : Dat) : Mo (Option (Dat × Dat)) := fun g => match bindT tg d ρ0 with
  | none => .bad
  | some ρ2 => (den F cond ρ2 g).bind fun x g => (asB x g).bind fun k g => match k with
    | true => (den F kx ρ2 g).bind fun y g => (den F vx ρ2 g).bind fun z g => .ok (some (y, z)) g
    | false => .ok none g
theorem den_dc {F : Nat → List Dat → Mo Dat} {kx vx : Ex} {n : Bool} {tg : Tg} {src cond : Ex} {own : List Nat} {ρ : Sl} {g : List Dat} :
    den F (.dc kx vx n tg src cond own) ρ g = (den F src ρ g).bind fun x g => (ofO (itemsD x) g).bind fun ds g => (dcGo (if n then putND else putKD) (dcStep F kx vx tg cond (wipeD ρ own)) [] [] ds g).bind fun kv g => if n && kv.1.isEmpty then .bad else .ok (.fdc kv.1 kv.2) g := by
  conv => lhs; unfold den
  rfl
theorem dcGo_cons {put : Dat → Dat → List Dat → List Dat → Option (List Dat × List Dat)} {step : Dat → Mo (Option (Dat × Dat))} {ks vs : List Dat} {d : Dat} {ds g : List Dat} : dcGo put step ks vs (d :: ds) g = (step d g).noexc.bind fun o g1 => match o with
    | some yz => match put yz.1 yz.2 ks vs with
      | some kv => dcGo put step kv.1 kv.2 ds g1
      | none => .bad
    | none => dcGo put step ks vs ds g1 := rfl
theorem dcGo_exc {put : Dat → Dat → List Dat → List Dat → Option (List Dat × List Dat)} {step : Dat → Mo (Option (Dat × Dat))} : ∀ (ds ks vs g : List Dat) (c : Nat) (g' : List Dat), dcGo put step ks vs ds g ≠ .exc c g'
  | [], ks, vs, g, c, g' => fun h => by unfold dcGo at h; cases h
  | d :: ds, ks, vs, g, c, g' => fun h => by
    rw [dcGo_cons] at h
    cases hs : step d g with
    | ok o g1 =>
      rw [hs] at h
      cases o with
      | none => exact dcGo_exc ds ks vs g1 c g' h
      | some yz =>
        have h : (match put yz.1 yz.2 ks vs with | some kv => dcGo put step kv.1 kv.2 ds g1 | none => .bad) = Res.exc c g' := h
        cases hp : put yz.1 yz.2 ks vs with
        | none => rw [hp] at h; cases h
        | some kv => rw [hp] at h; exact dcGo_exc ds kv.1 kv.2 g1 c g' h
    | exc c g1 => rw [hs] at h; cases h
    | bad => rw [hs] at h; cases h
/-- what the end asks: the dict is D, changed as C' lets -/
def DcEnd {P : Program} {w : World} {K : PySem.W.Frag} {Y : Way P w K} {put : Dat → Dat → List Dat → List Dat → Option (List Dat × List Dat)} (Dk : DKind Y put) (C C' : Cfg) (H1 : Hp) (D : Addr) (Q : VK) (r : Res (List Dat × List Dat)) : Prop := match r with
  | .ok kv g => ∀ H, Ext C H1 H → ExtM C' H1 H → GR C' g H → Dk.inv C' H D kv.1 kv.2 → Q (.ref D) H
  | .exc _ _ => False
  | .bad => False
theorem dc_run {X : Cx} {K : PySem.W.Frag} {Y : Way X.prog X.w K} {put : Dat → Dat → List Dat → List Dat → Option (List Dat × List Dat)} (Dk : DKind Y put) {C C' : Cfg} {F : Nat → List Dat → Mo Dat} {kx vx cond : Ex} {tg : Tg} {own : List Nat} {J : It} {ds : List Dat} {H1 : Hp} {σ : L2.St} {ρ : Sl} {g : List Dat} {Q : VK} {D : Addr}
    (hCK : C.K = K) (hC : ({ C with M := D :: C.M } : Cfg) = C') (hw : WalkD C J ds H1) (E : EnvR C H1 σ ρ) (G : GR C g H1) (hD : H1 D = none) (htg : ∀ i ∈ slots tg, i ∈ own) (h : DcEnd Dk C C' H1 D Q (dcGo put (dcStep F kx vx tg cond (wipeD ρ own)) [] [] ds g)) :
    ∃ W : Nat → Nat → Hp → Prop, (∃ m, W 0 m (upd H1 D (Y.nw D))) ∧ ∀ i m H, W i m H →
  (J.stop i H ∧ Q (.ref D) H) ∨ (J.go i H ∧ ∃ Nx : Hp → Prop, (∀ H', Nx H' → ∃ m', m' < m ∧ W (i + 1) m' H') ∧ ∀ x H', J.yld i H x H' → gB C tg x (L2.wipe σ own) H' fun σ2 H2 => L2.wipe σ2 own = L2.wipe σ own ∧
    ttB C F cond σ2 H2 fun b H3 =>
    if b = true then teB C F kx σ2 H3 fun y H4 => teB C F vx σ2 H4 fun z H5 => ∃ H6, Y.put D y z H5 H6 ∧ Nx H6 else Nx H3) := by
  obtain ⟨hz, hw⟩ := hw
  have hDn := G.ne hD
  have hM : ∀ a ∈ D :: C.M, a ∉ C.M → H1 a = none := fun a ha hn => by
    rcases List.mem_cons.mp ha with rfl | ha
    · exact hD
    · exact absurd ha hn
  have hW := hw (D :: C.M) (fun a ha => List.mem_cons_of_mem _ ha) hM
  rw [hC] at hW
  have hcup : C'.cup = C.cup := by rw [← hC]
  have hMe : C'.M = D :: C.M := by rw [← hC]
  have hK' : C'.K = K := by rw [← hC]; exact hCK
  have hCM : ({ C with M := C'.M } : Cfg) = C' := by rw [hMe, hC]
  have hDM : D ∈ C'.M := by rw [hMe]; exact List.mem_cons_self
  have extC : ∀ {A B : Hp}, Ext C' A B → Ext C A B := fun e a o h n => e a o h (by rw [hcup]; exact n)
  let S := fun (rest : List Dat) (H : Hp) => ∃ ks vs g, Dk.inv C' H D ks vs ∧ GR C' g H ∧ ExtM C' H1 H ∧ Ext C H1 H ∧ EnvR C' H (L2.wipe σ own) (wipeD ρ own) ∧ DcEnd Dk C C' H1 D Q (dcGo put (dcStep F kx vx tg cond (wipeD ρ own)) ks vs rest g)
  -- a store changes nothing else
  have store : ∀ {H : Hp} {o : HO} {g : List Dat}, GR C' g H → ExtM C' H1 H → Ext C H1 H → (∃ o, H D = some o) → ExtM C' H (upd H D o) ∧ GR C' g (upd H D o) ∧ ExtM C' H1 (upd H D o) ∧ Ext C H1 (upd H D o) := by
    intro H o g G' e1 e2 hh
    have em : ExtM C' H (upd H D o) := fun a u ha hc hm => by
      rw [upd_ne (fun z => by subst z; exact hm hDM)]
      exact ha
    refine ⟨em, ⟨fun a ha => ?_, fun a ha => ?_⟩, fun a u ha hc hm => em a u (e1 a u ha hc hm) hc hm, fun a u ha hc => ?_⟩
    · by_cases z : a = D
      · subst z; rw [upd_same]; exact fun z => nomatch z
      · rw [upd_ne z]; exact G'.1 a ha
    · obtain ⟨ws, w1, w2⟩ := G'.2 a ha
      exact ⟨ws, by rw [upd_ne (fun z => by subst z; rw [hcup] at ha; exact hDn.1 ha)]; exact w1, w2.extM em⟩
    · rw [upd_ne (fun z => by subst z; rw [hD] at ha; cases ha)]
      exact e2 a u ha hc
  have still : ∀ {H H' : Hp} {ks vs : List Dat}, Dk.inv C' H D ks vs → Ext C' H H' → Dk.inv C' H' D ks vs := by
    intro H H' ks vs i e
    obtain ⟨o, ho⟩ := Dk.there _ _ _ _ _ i
    exact Dk.ext _ _ _ _ _ _ i e.m ((e D o ho (by rw [hcup]; exact hDn.1)).trans ho.symm)
  refine ⟨fun i m H => m = ds.length - i ∧ i ≤ ds.length ∧ S (ds.drop i) H, ⟨_, rfl, Nat.zero_le _, ?_⟩, ?_⟩
  · have e0 : Ext C H1 (upd H1 D (Y.nw D)) := Ext.new hD
    have e1 : ExtM C' H1 (upd H1 D (Y.nw D)) := fun a o ha hc _ => e0 a o ha (by rw [← hcup]; exact hc)
    refine ⟨[], [], g, Dk.start C' H1 D, ⟨fun a ha => ?_, fun a ha => ?_⟩, e1, e0, ?_, by rw [List.drop_zero]; exact h⟩
    · rw [hMe] at ha
      rcases List.mem_cons.mp ha with rfl | hm
      · rw [upd_same]; exact fun z => nomatch z
      · rw [upd_ne (fun z => by subst z; exact hDn.2 hm)]
        exact G.1 a hm
    · rw [hcup] at ha
      obtain ⟨vs, h1, h2⟩ := G.2 a ha
      refine ⟨vs, by rw [upd_ne (fun z => by subst z; exact hDn.1 ha)]; exact h1, ?_⟩
      have h3 := RpG.more (M' := D :: C.M) hM h2
      rw [hC] at h3
      exact h3.extM e1
    · have h3 := (E.wipe own).more (M' := D :: C.M) hM
      rw [hC] at h3
      exact h3.extM e1
  rintro i m H ⟨rfl, hi, ks, vs, g, i1, G1, m1, e1, E1, q⟩
  by_cases hlt : i < ds.length
  · refine .inr ⟨hW.goes i H hlt m1, S (ds.drop (i + 1)), fun H' hn => ⟨_, by omega, rfl, hlt, hn⟩, fun x H2 y => ?_⟩
    obtain ⟨e2, G2, d, hd, rd⟩ := hW.yields i H x H2 hlt m1 y g G1
    rw [drop_at hd, dcGo_cons] at q
    obtain ⟨o, g2, hstep, q⟩ := noexc_ok (fun z => z) q
    unfold dcStep at hstep
    cases hb : bindT tg d (wipeD ρ own) with
    | none => rw [hb] at hstep; cases hstep
    | some ρ2 =>
      rw [hb] at hstep
      have hstep : ((den F cond ρ2 g).bind fun x g => (asB x g).bind fun k g => match k with
        | true => (den F kx ρ2 g).bind fun y g => (den F vx ρ2 g).bind fun z g => Res.ok (some (y, z)) g
        | false => .ok none g) = .ok o g2 := hstep
      refine ⟨C'.M, ?_⟩
      rw [hCM]
      refine ⟨d, _, ρ2, rd, hb, fun σ2 S2 hw2 => ⟨by rw [hw2 own htg]; exact wipe_wipe σ own, C'.M, ?_⟩⟩
      have E2 := S2.env (E1.ext e2)
      rw [hCM]
      refine ⟨ρ2, g, E2, G2, ?_⟩
      revert hstep
      unfold denB
      cases den F cond ρ2 g with
      | bad => exact fun z => nomatch z
      | exc c g => exact fun z => nomatch z
      | ok dcv g3 =>
        intro hstep
        cases dcv with
        | bl b =>
          intro H3 e3 G3
          have m3 : ExtM C' H1 H3 := fun a o ha hc hm => e3 a o (e2 a o (m1 a o ha hc hm) hc) hc
          have x3 : Ext C H1 H3 := (e1.trans (extC e2)).trans (extC e3)
          have i3 := still (still i1 e2) e3
          cases b with
          | false =>
            injection hstep with ho hg
            subst ho hg
            rw [if_neg Bool.false_ne_true]
            exact ⟨ks, vs, g3, i3, G3, m3, x3, (E1.ext e2).ext e3, q⟩
          | true =>
            rw [if_pos rfl]
            refine ⟨C'.M, ?_⟩
            rw [hCM]
            refine ⟨ρ2, g3, E2.ext e3, G3, ?_⟩
            have hstep : ((den F kx ρ2 g3).bind fun y g => (den F vx ρ2 g).bind fun z g => Res.ok (some (y, z)) g) = .ok o g2 := hstep
            revert hstep
            cases den F kx ρ2 g3 with
            | bad => exact fun z => nomatch z
            | exc c g => exact fun z => nomatch z
            | ok dk g4 =>
              intro hstep y4 H4 e4 G4 r4
              refine ⟨C'.M, ?_⟩
              rw [hCM]
              refine ⟨ρ2, g4, (E2.ext e3).ext e4, G4, ?_⟩
              have hstep : ((den F vx ρ2 g4).bind fun z g => Res.ok (some (dk, z)) g) = .ok o g2 := hstep
              revert hstep
              cases den F vx ρ2 g4 with
              | bad => exact fun z => nomatch z
              | exc c g => exact fun z => nomatch z
              | ok dv g5 =>
                intro hstep y5 H5 e5 G5 r5
                injection hstep with ho hg
                subst ho hg
                have i5 := still (still i3 e4) e5
                have m5 : ExtM C' H1 H5 := fun a o ha hc hm => e5 a o (e4 a o (m3 a o ha hc hm) hc) hc
                have x5 : Ext C H1 H5 := (x3.trans (extC e4)).trans (extC e5)
                have q : DcEnd Dk C C' H1 D Q (match put dk dv ks vs with | some kv => dcGo put (dcStep F kx vx tg cond (wipeD ρ own)) kv.1 kv.2 (ds.drop (i + 1)) g5 | none => .bad) := q
                cases hp : put dk dv ks vs with
                | none => rw [hp] at q; exact q.elim
                | some kv =>
                  rw [hp] at q
                  obtain ⟨o6, p6, i6⟩ := Dk.step C' H5 D y4 y5 dk dv ks vs kv.1 kv.2 hK' hDM i5 (r4.ext e5) r5 hp
                  obtain ⟨em, G6, m6, x6⟩ := store (o := o6) G5 m5 x5 (Dk.there _ _ _ _ _ i5)
                  exact ⟨_, p6, kv.1, kv.2, g5, i6, G6, m6, x6, ((((E1.ext e2).ext e3).ext e4).ext e5).extM em, q⟩
        | _ => exact nomatch hstep
  · have e : i = ds.length := by omega
    subst e
    rw [List.drop_length] at q
    have q : ∀ H, Ext C H1 H → ExtM C' H1 H → GR C' g H → Dk.inv C' H D ks vs → Q (.ref D) H := q
    exact .inl ⟨hW.stops H m1, q H e1 m1 G1 i1⟩
end R
set_option Elab.async false
set_option linter.all false
set_option maxRecDepth 100000
set_option maxHeartbeats 4000000
/-! The two ways to store, and the dict that is changed no more. -/
namespace R
open PySem PySem.Spec PyProof.Rows L2

/-! ### keys ints and texts -/
def wayK (P : Program) (w : World) (K : PySem.W.Frag) : Way P w K where
  nw := fun _ => .dK []
  put := fun D y z H H' => ∃ kvs k, y = kV k ∧ H D = some (.dK kvs) ∧ kvs.length < sizeLine ∧ H' = upd H D (.dK (putK kvs k z))
  ok := fun H h hb => dk_empty h hb
  st := by
    rintro X pins σ H H' s E D y z u r Q rfl rfl rfl hu I ry rz ⟨kvs, k, rfl, hD, hz, rfl⟩ h
    exact d_dictSet I hD hz ry rz h
/-- the dict at D bears these keys and values -/
def DkInv (C : Cfg) (H : Hp) (D : Addr) (ks vs : List Dat) : Prop := ∃ (kk : List Key) (us : List V), ks = kk.map keyD ∧ kk.length ≤ sizeLine ∧ kk.length = us.length ∧ H D = some (.dK (kk.zip us)) ∧ (∀ k ∈ kk, KeyOk k) ∧ RpL C H us vs
theorem keyD_eq : ∀ a b : Key, eqB (keyD a) (keyD b) = decide (a = b)
  | .inl i, .inl j => by
    show (i == j) = _
    rw [Bool.eq_iff_iff, beq_iff_eq, decide_eq_true_eq]
    exact ⟨fun h => by rw [h], fun h => Sum.inl.inj h⟩
  | .inr x, .inr y => by
    show (x.cps.toList == y.cps.toList) = _
    rw [Bool.eq_iff_iff, beq_iff_eq, decide_eq_true_eq]
    refine ⟨fun h => ?_, fun h => by rw [Sum.inr.inj h]⟩
    obtain ⟨x⟩ := x
    obtain ⟨y⟩ := y
    congr
    exact Array.toList_inj.mp h
  | .inl i, .inr y => by
    rw [decide_eq_false (by exact fun h => nomatch h)]
    rfl
  | .inr x, .inl j => by
    rw [decide_eq_false (by exact fun h => nomatch h)]
    rfl
theorem key_of_dat {C : Cfg} {H : Hp} {v : V} {d : Dat} (r : Rp C H v d) (h : keyB d = true) : ∃ k : Key, d = keyD k ∧ v = kV k ∧ KeyOk k := by
  cases d with
  | int i => exact ⟨.inl i, rfl, r.int_inv, True.intro⟩
  | str s =>
    obtain ⟨x, rfl, rfl, hx⟩ := r.str_inv
    exact ⟨.inr x, rfl, rfl, hx⟩
  | _ => cases h
theorem anyK_key (kk : List Key) (k : Key) : anyK (kk.map keyD) (keyD k) = kk.any fun x => decide (x = k) := by
  unfold anyK
  rw [List.any_map]
  congr 1
  funext x
  exact keyD_eq x k
theorem zip_any {us : List V} : ∀ {kk : List Key} (_ : kk.length = us.length) (k : Key), ((kk.zip us).any fun kv => decide (kv.1 = k)) = kk.any fun x => decide (x = k) := by
  induction us with
  | nil => intro kk h k; cases kk with | nil => rfl | cons _ _ => simp at h
  | cons u us ih =>
    intro kk h k
    cases kk with
    | nil => simp at h
    | cons x kk =>
      rw [List.zip_cons_cons, List.any_cons, List.any_cons, ih (by simpa using h)]
theorem zip_put (k : Key) (v : V) : ∀ (kk : List Key) (us : List V), ((kk.zip us).map fun kv => if kv.1 = k then (kv.1, v) else kv) = kk.zip (List.zipWith (fun x u => if x = k then v else u) kk us)
  | [], _ => rfl
  | _ :: _, [] => rfl
  | x :: kk, u :: us => by
    rw [List.zip_cons_cons, List.map_cons, List.zipWith_cons_cons, List.zip_cons_cons, zip_put k v kk us]
    by_cases h : x = k <;> simp [h]
theorem rp_put {C : Cfg} {H : Hp} {v : V} {d : Dat} (r : Rp C H v d) (k : Key) : ∀ {kk : List Key} {us : List V} {vs : List Dat}, RpL C H us vs → RpL C H (List.zipWith (fun x u => if x = k then v else u) kk us) (putAtD (kk.map keyD) vs (keyD k) d)
  | [], _, _, _ => by unfold putAtD; exact .nil
  | _ :: _, [], [], .nil => by unfold putAtD; exact .nil
  | x :: kk, u :: us, w :: vs, .cons q qq => by
    have ih := rp_put r k (kk := kk) qq
    unfold putAtD at ih ⊢
    rw [List.zipWith_cons_cons, List.map_cons, List.zipWith_cons_cons, keyD_eq]
    refine .cons ?_ ih
    by_cases h : x = k <;> simp [h]
    · exact r
    · exact q
theorem DkInv.ext {C : Cfg} {H H' : Hp} {D : Addr} {ks vs : List Dat} (i : DkInv C H D ks vs) (e : ExtM C H H') (h : H' D = H D) : DkInv C H' D ks vs := by
  obtain ⟨kk, us, e1, z, l, at_, ok, r⟩ := i
  exact ⟨kk, us, e1, z, l, h.trans at_, ok, r.extM e⟩
theorem DkInv.put {C : Cfg} {H : Hp} {D : Addr} {y z : V} {dk dv : Dat} {ks vs ks' vs' : List Dat} (hD : D ∈ C.M) (i : DkInv C H D ks vs) (ry : Rp C H y dk) (rz : Rp C H z dv) (h : putKD dk dv ks vs = some (ks', vs')) :
    ∃ kvs k, y = kV k ∧ H D = some (.dK kvs) ∧ kvs.length < sizeLine ∧ DkInv C (upd H D (.dK (putK kvs k z))) D ks' vs' := by
  obtain ⟨kk, us, rfl, hz, hl, at_, ok, r⟩ := i
  unfold putKD at h
  split at h
  · rename_i hc
    rw [Bool.and_eq_true, decide_eq_true_eq, List.length_map, line_eq] at hc
    obtain ⟨k, rfl, rfl, hk⟩ := key_of_dat ry hc.1
    have em : ∀ o, ExtM C H (upd H D o) := fun o a u ha hcu hm => by
      rw [upd_ne (fun z => by subst z; exact hm hD)]
      exact ha
    have hzl : (kk.zip us).length = kk.length := by rw [List.length_zip, ← hl, Nat.min_self]
    refine ⟨_, k, rfl, at_, by rw [hzl]; exact hc.2, ?_⟩
    have h := Option.some.inj h
    rw [anyK_key] at h
    unfold putK
    rw [zip_any hl]
    split at h
    · rename_i ha
      rw [if_pos ha, zip_put]
      cases h
      refine ⟨kk, _, rfl, hz, by rw [List.length_zipWith, ← hl, Nat.min_self], upd_same, ok, ?_⟩
      exact (rp_put rz k r).extM (em _)
    · rename_i ha
      rw [if_neg ha]
      cases h
      refine ⟨kk ++ [k], us ++ [z], by rw [List.map_append]; rfl, by rw [List.length_append, List.length_singleton]; omega, by rw [List.length_append, List.length_append, hl]; rfl, ?_, fun x hx => ?_, (r.append (.cons rz .nil)).extM (em _)⟩
      · rw [upd_same, List.zip_append hl]
        rfl
      · rcases List.mem_append.mp hx with hx | hx
        · exact ok x hx
        · rw [List.mem_singleton.mp hx]; exact hk
  · cases h
def dkindK (P : Program) (w : World) (K : PySem.W.Frag) : DKind (wayK P w K) putKD where
  inv := DkInv
  start := fun C H D => ⟨[], [], rfl, Nat.zero_le _, rfl, upd_same, (fun _ h => nomatch h), .nil⟩
  ext := fun C H H' D ks vs i e h => i.ext e h
  step := fun C H D y z dk dv ks vs ks' vs' _ hD i ry rz h =>
    let ⟨kvs, k, e, at_, hz, i'⟩ := i.put hD ry rz h
    ⟨_, ⟨kvs, k, e, at_, hz, rfl⟩, i'⟩
  there := fun C H D ks vs ⟨_, _, _, _, _, h, _⟩ => ⟨_, h⟩

/-! ### keys tuples of any depth -/
def wayN (P : Program) (w : World) (K : PySem.W.Frag) : Way P w K where
  nw := fun D => nD P w D []
  put := fun D y z H H' => ∃ (C : Cfg) (xs : List NEnt) (k : NestedKey) (a : Addr) (d : Dat) (t : Bool), C.K = K ∧ y = .ref a ∧ z = .bl t ∧ H D = some (nD P w D xs) ∧ (∀ x ∈ xs, ∃ d, KeyD C H x.1 x.2.1 d) ∧ KeyD C H k a d ∧ xs.length ≤ sizeLine ∧ H' = upd H D (nD P w D (storedH xs k a (.bool t)))
  ok := fun H h hb => nD_empty h hb
  st := by
    rintro X pins σ H H' s E D y z u r Q rfl rfl rfl hu I ry rz ⟨C, xs, k, a, d, t, hK, rfl, rfl, hD, hk, hkey, hz, rfl⟩ h
    obtain rfl : u = Value.ref a := ry
    obtain rfl : r = Value.bool t := rz
    exact d_putN I hK hu hD hk hkey hz h
/-- the dict at D has these keys, each with True -/
def DnInv (P : Program) (w : World) (C : Cfg) (H : Hp) (D : Addr) (ks vs : List Dat) : Prop := ∃ xs : List NEnt, vs = [] ∧ ks.length ≤ sizeLine ∧ H D = some (nD P w D xs) ∧ RpL C H (xs.map fun x => V.ref x.2.1) ks ∧ (∀ d ∈ ks, nkB d 8 = true) ∧ xs.map (·.1) = ks.map toNK
theorem DnInv.keys {P : Program} {w : World} {C : Cfg} {H : Hp} {ks : List Dat} {xs : List NEnt} (r : RpL C H (xs.map fun x => V.ref x.2.1) ks) (hn : ∀ d ∈ ks, nkB d 8 = true) (e : xs.map (·.1) = ks.map toNK) : ∀ x ∈ xs, ∃ d, KeyD C H x.1 x.2.1 d := by
  intro x hx
  obtain ⟨i, hi⟩ := List.mem_iff_getElem?.mp hx
  obtain ⟨d, hd, rd⟩ := r.get' (i := i) (v := .ref x.2.1) (by rw [List.getElem?_map, hi]; rfl)
  have e2 := congrArg (fun l => l[i]?) e
  simp only [List.getElem?_map, hi, hd, Option.map_some] at e2
  exact ⟨d, rd, hn d (List.mem_of_getElem? hd), (Option.some.inj e2).symm⟩
theorem anyK_nest {ks : List Dat} {y : Dat} (hn : ∀ d ∈ ks, nkB d 8 = true) (hy : nkB y 8 = true) : anyK ks y = (ks.map toNK).any fun k => decide (k = toNK y) := by
  unfold anyK
  rw [List.any_map]
  induction ks with
  | nil => rfl
  | cons d ks ih =>
    rw [List.any_cons, List.any_cons, ih fun x hx => hn x (List.mem_cons_of_mem _ hx), nk_eq y d hy (hn d List.mem_cons_self)]
    rfl
def dkindN (P : Program) (w : World) (K : PySem.W.Frag) : DKind (wayN P w K) putND where
  inv := DnInv P w
  start := fun C H D => ⟨[], rfl, Nat.zero_le _, upd_same, .nil, (fun _ h => nomatch h), rfl⟩
  ext := fun C H H' D ks vs ⟨xs, e1, z, at_, r, hn, e2⟩ e h => ⟨xs, e1, z, h.trans at_, r.extM e, hn, e2⟩
  step := by
    rintro C H D y z dk dv ks vs ks' vs' hK hD ⟨xs, rfl, hz, at_, r, hn, e⟩ ry rz h
    unfold putND at h
    split at h
    · rename_i t
      split at h
      · rename_i hc
        rw [Bool.and_eq_true, decide_eq_true_eq, line_eq] at hc
        have em : ∀ o, ExtM C H (upd H D o) := fun o a u ha hcu hm => by
          rw [upd_ne (fun z => by subst z; exact hm hD)]
          exact ha
        obtain ⟨a, us, rfl, _, _, _⟩ := ry.tup_inv
        obtain rfl := rz.bl_inv
        have hl : xs.length = ks.length := by
          have := congrArg List.length e
          simpa using this
        refine ⟨_, ⟨C, xs, toNK (.tup t), a, .tup t, true, hK, rfl, rfl, at_, DnInv.keys (P := P) (w := w) r hn e, ⟨ry, hc.1, rfl⟩, by omega, rfl⟩, ?_⟩
        have h := Option.some.inj h
        rw [anyK_nest hn hc.1, ← e] at h
        have hat : (atKey xs (toNK (.tup t))).isSome = (xs.map (·.1)).any fun k => decide (k = toNK (.tup t)) := by
          clear h at_ r hn e hl hz
          induction xs with
          | nil => rfl
          | cons x xs ih =>
            rw [List.map_cons, List.any_cons, ← ih]
            unfold atKey
            by_cases hx : x.1 = toNK (.tup t)
            · simp [List.find?_cons, hx]
            · simp [List.find?_cons, hx]
        split at h
        · rename_i ha
          cases h
          unfold storedH
          rw [hat, if_pos ha]
          have m1 : ((xs.map (putAt (toNK (.tup t)) (.bool true))).map fun x => V.ref x.2.1) = xs.map fun x => V.ref x.2.1 := by
            rw [List.map_map]
            refine List.map_congr_left fun x _ => ?_
            simp only [Function.comp, putAt]
            split <;> rfl
          have m2 : ((xs.map (putAt (toNK (.tup t)) (.bool true))).map (·.1)) = xs.map (·.1) := by
            rw [List.map_map]
            refine List.map_congr_left fun x _ => ?_
            simp only [Function.comp, putAt]
            split <;> rfl
          exact ⟨_, rfl, hz, upd_same, by rw [m1]; exact r.extM (em _), hn, by rw [m2]; exact e⟩
        · rename_i ha
          cases h
          unfold storedH
          rw [hat, if_neg ha]
          refine ⟨_, rfl, by rw [List.length_append, List.length_singleton]; omega, upd_same, ?_, fun d hd => ?_, ?_⟩
          · rw [List.map_append]
            exact (r.append (.cons ry .nil)).extM (em _)
          · rcases List.mem_append.mp hd with hd | hd
            · exact hn d hd
            · rw [List.mem_singleton.mp hd]; exact hc.1
          · rw [List.map_append, List.map_append, e]
            rfl
      · cases h
    · cases h
  there := fun C H D ks vs ⟨_, _, _, h, _⟩ => ⟨_, h⟩
end R
set_option Elab.async false
set_option linter.all false
set_option maxRecDepth 100000
set_option maxHeartbeats 4000000
/-! A dict's comprehension as a value: from now on it is this very object. -/
namespace R
open PySem PySem.Spec PyProof.Rows L2
/-- the new dict is changed no more -/
def FixAt (X : Cx) (v : V) (H1 : Hp) (Q : VK) : Prop := (∃ (D : Addr) (kvs : List (Key × V)), v = .ref D ∧ H1 D = some (.dK kvs) ∧ ∀ o, Q v (upd H1 D (.frz o (.dK kvs)))) ∨
  ∃ (D : Addr) (xs : List NEnt), v = .ref D ∧ H1 D = some (nD X.prog X.w D xs) ∧ ∀ o : Obj, o.ExactDict → (∃ es ep, o.data = .dict es ep ∧ es.toList.map (·.key) = (xs.map fun x => x.2.1).map Value.ref) → (D == sysModules) = false → Q v (upd H1 D (pinO D o))
theorem fix_at {X : Cx} {pins : List (Addr × Obj)} {σ : L2.St} {H1 : Hp} {s : Shared} {v : V} {u : Value} {Q : VK} (I : Inv X pins σ H1 s) (r : RelV v u) (h : FixAt X v H1 Q) : EP X pins σ Q u s := by
  rcases h with ⟨D, kvs, rfl, hD, q⟩ | ⟨D, xs, rfl, hD, q⟩
  · obtain ⟨z, sy, vs, kv, dd⟩ := dk_of I.hok hD
    have dd2 := dd
    obtain ⟨o, es, ep, ho, _⟩ := dd2
    have I1 : Inv X pins σ (upd H1 D (.frz o (.dK kvs))) { s with heap := s.heap } := I.write (t' := s.toks) (e := D) (by rw [hD]; exact True.intro) (.inl rfl) (fun b u _ e => e) ⟨o, ho⟩ ⟨ho, z, sy, vs, kv, dd⟩
    exact ⟨_, _, I1, r, q o⟩
  · obtain ⟨sy, o, es, ep, ho, ex, hd, he, hn⟩ := nD_at I hD
    have I1 : Inv X pins σ (upd H1 D (pinO D o)) { s with heap := s.heap } := I.write (t' := s.toks) (e := D) (by rw [hD]; exact True.intro) (.inl rfl) (fun b u _ e => e) ⟨o, ho⟩ ⟨ho, ⟨o, ho⟩, fun h1 h2 a b => b o a⟩
    refine ⟨_, _, I1, r, q o ex ⟨es, ep, hd, ?_⟩ sy⟩
    rw [he, List.map_map, List.map_map]
    rfl
theorem pe_fix {X : Cx} {e : Expr} {t : TE} (h : PE X e t) : PE X e (fun σ H Q => t σ H fun v H1 => FixAt X v H1 Q) :=
  ⟨fun pins s σ H Q I q => thn (h.run pins s σ H _ I q) fun u s1 ⟨v, H1, I1, r, q1⟩ => fix_at I1 r q1⟩
structure DcOk (c : Ctx) (kE vE tgE iter : Expr) (ifs : List Expr) (scope : Scope) (own : List (Str × Nat)) (kx vx : Ex) (tg : Tg) (src cond : Ex) : Prop where
  hi : SemI c tgE iter src
  ok : blkC c.N c.sc scope own = true
  hg : SemG (c.inBlk scope) tgE tg
  hc : SemC (c.inBlk scope) ifs cond
  hk : Sem (c.inBlk scope) kE kx
  hv : Sem (c.inBlk scope) vE vx
  hs : (slots tg).all (fun i => (own.map (·.2)).contains i) = true
theorem DcOk.sub {c : Ctx} {kE vE tgE iter : Expr} {ifs : List Expr} {scope : Scope} {own : List (Str × Nat)} {kx vx : Ex} {tg : Tg} {src cond : Ex} (L : DcOk c kE vE tgE iter ifs scope own kx vx tg src cond) : ∀ i ∈ slots tg, i ∈ own.map (·.2) := fun i hi => by
  have := List.all_eq_true.mp L.hs i hi
  simpa using this
/-- the end of one kind -/
theorem dc_end {C C' : Cfg} {H1 H H2 : Hp} {g : List Dat} {D : Addr} {o : HO} (hC : ({ C with M := D :: C.M } : Cfg) = C') (hD : H1 D = none) (hDn : C.cup ≠ some D ∧ D ∉ C.M) (e : Ext C H1 H) (G : GR C' g H) (hf : ∃ u, H D = some u) :
    ExtM C' H (upd H D o) ∧ Ext C H1 (upd H D o) ∧ GR C g (upd H D o) := by
  have hMe : C'.M = D :: C.M := by rw [← hC]
  have hcup : C'.cup = C.cup := by rw [← hC]
  have em : ExtM C' H (upd H D o) := fun a u ha hc hm => by
    rw [upd_ne (fun z => by subst z; exact hm (by rw [hMe]; exact List.mem_cons_self))]
    exact ha
  refine ⟨em, fun a u ha hc => ?_, fun a ha => ?_, fun a ha => ?_⟩
  · rw [upd_ne (fun z => by subst z; rw [hD] at ha; cases ha)]
    exact e a u ha hc
  · rw [upd_ne (fun z => by subst z; exact hDn.2 ha)]
    exact G.1 a (by rw [hMe]; exact List.mem_cons_of_mem _ ha)
  · obtain ⟨ws, w1, w2⟩ := G.2 a (by rw [hcup]; exact ha)
    refine ⟨ws, by rw [upd_ne (fun z => by subst z; exact hDn.1 ha)]; exact w1, ?_⟩
    have w3 := w2.extM em
    rw [← hC] at w3
    exact w3.less fun x hx => List.mem_cons_of_mem _ hx
section
variable {c : Ctx} {kE vE tgE iter : Expr} {ifs : List Expr} {scope : Scope} {own : List (Str × Nat)} {kx vx : Ex} {tg : Tg} {src cond : Ex}
theorem dc_read {X : Cx} {C : Cfg} {W : WX} {F : Nat → List Dat → Mo Dat} {own : List Nat} {n : Bool} {σ : L2.St} {H : Hp} {Q : VK} {Y : Way X.prog X.w X.K} (Dk : DKind Y (if n then putND else putKD)) (hK : C.K = X.K) (htg : ∀ i ∈ slots tg, i ∈ own)
    (fin : ∀ (C' : Cfg) (H1 H : Hp) (D : Addr) (ks vs g : List Dat), ({ C with M := D :: C.M } : Cfg) = C' → H1 D = none → C.cup ≠ some D ∧ D ∉ C.M → Ext C H1 H → GR C' g H → Dk.inv C' H D ks vs → (if n && ks.isEmpty then False else ∀ v H', Ext C H1 H' → GR C g H' → Rp C H' v (.fdc ks vs) → Q v H') → FixAt X (.ref D) H Q)
    (q : tD C W (den F (.dc kx vx n tg src cond own)) σ H Q) : tDcW Y (tI C W (den F src)) (gB C tg) (ttB C F cond) (teB C F kx) (teB C F vx) own σ H (fun v H1 => FixAt X v H1 Q) := by
  obtain ⟨ρ, g, E, G, q⟩ := q
  rw [den_dc] at q
  refine ⟨ρ, g, E, G, ?_⟩
  revert q
  cases den F src ρ g with
  | bad => exact fun q => q
  | exc c g1 => exact fun q => q
  | ok d g1 =>
    intro q
    have q : RunE C W ((ofO (itemsD d) g1).bind fun ds g => (dcGo (if n then putND else putKD) (dcStep F kx vx tg cond (wipeD ρ own)) [] [] ds g).bind fun kv g => if n && kv.1.isEmpty then .bad else .ok (.fdc kv.1 kv.2) g) σ H Q := q
    show match itemsD d with | none => False | some ds => _
    cases hi : itemsD d with
    | none => rw [hi] at q; exact q.elim
    | some ds =>
      rw [hi] at q
      intro J H1 e1 G1 hw D hD
      refine dc_run (X := X) (F := F) (kx := kx) (vx := vx) (cond := cond) (Q := fun v H1 => FixAt X v H1 Q) Dk hK rfl hw (E.ext e1) G1 hD htg ?_
      have q : RunE C W ((dcGo (if n then putND else putKD) (dcStep F kx vx tg cond (wipeD ρ own)) [] [] ds g1).bind fun kv g => if n && kv.1.isEmpty then .bad else .ok (.fdc kv.1 kv.2) g) σ H Q := q
      have hne := dcGo_exc (put := if n then putND else putKD) (step := dcStep F kx vx tg cond (wipeD ρ own)) ds [] [] g1
      revert q hne
      cases dcGo (if n then putND else putKD) (dcStep F kx vx tg cond (wipeD ρ own)) [] [] ds g1 with
      | ok kv g2 =>
        intro q _ H2 x2 m2 G2 i2
        refine fin _ H1 H2 D kv.1 kv.2 g2 rfl hD (G1.ne hD) x2 G2 i2 ?_
        have q : RunE C W (if n && kv.1.isEmpty then .bad else .ok (.fdc kv.1 kv.2) g2) σ H Q := q
        split
        · rename_i hb
          rw [if_pos hb] at q
          exact q
        · rename_i hb
          rw [if_neg hb] at q
          exact fun v H' e => q v H' (e1.trans e)
      | exc c g2 => exact fun _ hne => (hne c g2 rfl).elim
      | bad => exact fun q _ => q
theorem dcK_read {X : Cx} {C : Cfg} {W : WX} {F : Nat → List Dat → Mo Dat} {own : List Nat} {σ : L2.St} {H : Hp} {Q : VK} (hK : C.K = X.K) (htg : ∀ i ∈ slots tg, i ∈ own) (q : tD C W (den F (.dc kx vx false tg src cond own)) σ H Q) :
    tDcW (wayK X.prog X.w X.K) (tI C W (den F src)) (gB C tg) (ttB C F cond) (teB C F kx) (teB C F vx) own σ H (fun v H1 => FixAt X v H1 Q) := by
  refine dc_read (n := false) (dkindK X.prog X.w X.K) hK htg (fun C' H1 H D ks vs g hC hD hDn e G i q => ?_) q
  obtain ⟨kk, us, rfl, z, l, at_, ok, r⟩ := i
  refine .inl ⟨D, _, rfl, at_, fun o => ?_⟩
  obtain ⟨em, e2, G2⟩ := dc_end (o := .frz o (.dK (kk.zip us))) (H2 := H) hC hD hDn e G ⟨_, at_⟩
  have r2 := r.extM em
  rw [← hC] at r2
  exact q _ _ e2 G2 (.fdc z l ⟨upd_same, hDn⟩ ok (r2.less fun x hx => List.mem_cons_of_mem _ hx))
theorem dcN_read {X : Cx} {C : Cfg} {W : WX} {F : Nat → List Dat → Mo Dat} {own : List Nat} {σ : L2.St} {H : Hp} {Q : VK} (hK : C.K = X.K) (htg : ∀ i ∈ slots tg, i ∈ own) (q : tD C W (den F (.dc kx vx true tg src cond own)) σ H Q) :
    tDcW (wayN X.prog X.w X.K) (tI C W (den F src)) (gB C tg) (ttB C F cond) (teB C F kx) (teB C F vx) own σ H (fun v H1 => FixAt X v H1 Q) := by
  refine dc_read (n := true) (dkindN X.prog X.w X.K) hK htg (fun C' H1 H D ks vs g hC hD hDn e G i q => ?_) q
  obtain ⟨xs, rfl, z, at_, r, hn, ek⟩ := i
  refine .inr ⟨D, xs, rfl, at_, fun o ex dt sy => ?_⟩
  obtain ⟨em, e2, G2⟩ := dc_end (o := pinO D o) (H2 := H) hC hD hDn e G ⟨_, at_⟩
  have r2 := r.extM em
  rw [← hC] at r2
  have r3 := r2.less (fun x hx => List.mem_cons_of_mem D hx)
  cases ks with
  | nil => exact q.elim
  | cons k ks =>
    refine q _ _ e2 G2 (.fdn (ks := xs.map fun x => x.2.1) ⟨upd_same, ex, dt, sy, hDn.1, hDn.2⟩ (fun h => nomatch h) z ?_)
    rw [List.map_map]
    exact r3
theorem sem_dcK (L : DcOk c kE vE tgE iter ifs scope own kx vx tg src cond) {pos : Pos} : Sem c (.DictComp kE vE [⟨tgE, iter, ifs, 0⟩] scope pos) (.dc kx vx false tg src cond (own.map (·.2))) :=
  ⟨fun X C W F k M => pe_mono (pe_fix (pe_dcw (wayK X.prog X.w X.K) M.calm M.room.units (by rw [M.N]; exact M.nd) (L.hi.run X C W F k M) (by rw [M.N, M.sc]; exact blkOk_by L.ok) (pgB L.hg M) (ptB L.hc M) (peB L.hk M) (peB L.hv M) (L.hi.ns _))) fun σ H Q q => dcK_read M.K.symm L.sub q, rfl⟩
theorem sem_dcN (L : DcOk c kE vE tgE iter ifs scope own kx vx tg src cond) {pos : Pos} : Sem c (.DictComp kE vE [⟨tgE, iter, ifs, 0⟩] scope pos) (.dc kx vx true tg src cond (own.map (·.2))) :=
  ⟨fun X C W F k M => pe_mono (pe_fix (pe_dcw (wayN X.prog X.w X.K) M.calm M.room.units (by rw [M.N]; exact M.nd) (L.hi.run X C W F k M) (by rw [M.N, M.sc]; exact blkOk_by L.ok) (pgB L.hg M) (ptB L.hc M) (peB L.hk M) (peB L.hv M) (L.hi.ns _))) fun σ H Q q => dcN_read M.K.symm L.sub q, rfl⟩
end
end R
set_option Elab.async false
set_option linter.all false
set_option maxRecDepth 100000
set_option maxHeartbeats 4000000
/-! sorted(x), x a list of alike data. -/
namespace R
open PySem PySem.Spec PyProof.Rows L2

/-! ### one sort is another -/
section
variable {α β : Type}
def insG (lt : α → α → Bool) (x : α) : List α → List α
  | [] => [x]
  | y :: r => if lt y x then y :: insG lt x r else x :: y :: r
def sortG (lt : α → α → Bool) : List α → List α
  | [] => []
  | x :: r => insG lt x (sortG lt r)
theorem mem_insG {lt : α → α → Bool} {x z : α} : ∀ {l : List α}, z ∈ insG lt x l ↔ z = x ∨ z ∈ l
  | [] => by simp [insG]
  | y :: r => by
    unfold insG
    split
    · rw [List.mem_cons, mem_insG, List.mem_cons]
      constructor
      · rintro (h | h | h)
        · exact .inr (.inl h)
        · exact .inl h
        · exact .inr (.inr h)
      · rintro (h | h | h)
        · exact .inr (.inl h)
        · exact .inl h
        · exact .inr (.inr h)
    · rw [List.mem_cons]
theorem mem_sortG {lt : α → α → Bool} {z : α} : ∀ {l : List α}, z ∈ sortG lt l ↔ z ∈ l
  | [] => by simp [sortG]
  | y :: r => by
    unfold sortG
    rw [mem_insG, mem_sortG, List.mem_cons]
theorem insG_map {f : α → β} {lt : α → α → Bool} {mt : β → β → Bool} {x : α} : ∀ {l : List α}, (∀ y ∈ l, lt y x = mt (f y) (f x)) → (insG lt x l).map f = insG mt (f x) (l.map f)
  | [], _ => rfl
  | y :: r, h => by
    rw [List.map_cons]
    unfold insG
    rw [← h y List.mem_cons_self]
    by_cases c : lt y x = true
    · rw [if_pos c, if_pos c, List.map_cons, insG_map fun z hz => h z (List.mem_cons_of_mem _ hz)]
    · rw [if_neg c, if_neg c, List.map_cons, List.map_cons]
theorem sortG_map {f : α → β} {lt : α → α → Bool} {mt : β → β → Bool} : ∀ {l : List α}, (∀ x ∈ l, ∀ y ∈ l, lt x y = mt (f x) (f y)) → (sortG lt l).map f = sortG mt (l.map f)
  | [], _ => rfl
  | x :: r, h => by
    rw [List.map_cons]
    unfold sortG
    rw [insG_map fun y hy => h y (List.mem_cons_of_mem _ (mem_sortG.mp hy)) x List.mem_cons_self, sortG_map fun y hy z hz => h y (List.mem_cons_of_mem _ hy) z (List.mem_cons_of_mem _ hz)]
variable {lt : α → α → Bool} {le : α → α → Bool}
theorem insG_pw (T : PySem.W.TotalLe le) (e : ∀ a b, le a b = !lt b a) {x : α} : ∀ {l : List α}, l.Pairwise (fun a b => le a b = true) → (insG lt x l).Pairwise (fun a b => le a b = true)
  | [], _ => by simp [insG]
  | y :: r, h => by
    rw [List.pairwise_cons] at h
    unfold insG
    by_cases c : lt y x = true
    · rw [if_pos c, List.pairwise_cons]
      refine ⟨fun z hz => ?_, insG_pw T e h.2⟩
      rcases mem_insG.mp hz with rfl | hz
      · rcases T.total y z with q | q
        · exact q
        · rw [e, c] at q; cases q
      · exact h.1 z hz
    · rw [if_neg c, List.pairwise_cons]
      have q : le x y = true := by rw [e, Bool.eq_false_iff.mpr c] <;> rfl
      refine ⟨fun z hz => ?_, List.pairwise_cons.mpr h⟩
      rcases List.mem_cons.mp hz with rfl | hz
      · exact q
      · exact T.trans _ _ _ q (h.1 z hz)
theorem insG_cls (T : PySem.W.TotalLe le) (e : ∀ a b, le a b = !lt b a) {x c : α} : ∀ {l : List α}, (insG lt x l).filter (PySem.W.sameRank le c) = (x :: l).filter (PySem.W.sameRank le c)
  | [] => rfl
  | y :: r => by
    unfold insG
    by_cases d : lt y x = true
    · rw [if_pos d, List.filter_cons, insG_cls T e, List.filter_cons, List.filter_cons, List.filter_cons]
      by_cases p : PySem.W.sameRank le c x = true
      · have q : PySem.W.sameRank le c y = false := by
          rw [Bool.eq_false_iff]
          intro q
          unfold PySem.W.sameRank at p q
          rw [Bool.and_eq_true] at p q
          have := T.trans _ _ _ p.2 q.1
          rw [e, d] at this
          cases this
        rw [q]
        simp [p]
      · simp [p]
    · rw [if_neg d]
theorem sortG_merge (T : PySem.W.TotalLe le) (e : ∀ a b, le a b = !lt b a) (l : List α) : sortG lt l = l.mergeSort le := by
  refine PySem.W.sort_unique T ?_ fun c => ?_
  · induction l with
    | nil => exact List.Pairwise.nil
    | cons x r ih => exact insG_pw T e ih
  · induction l with
    | nil => rfl
    | cons x r ih =>
      unfold sortG
      rw [insG_cls T e, List.filter_cons, List.filter_cons, ih]
end
theorem insD_eq (x : Dat) : ∀ l : List Dat, insD x l = insG dltB x l
  | [] => rfl
  | y :: r => by unfold insD insG; rw [insD_eq x r]
theorem sortL_eq : ∀ l : List Dat, sortL l = sortG dltB l
  | [] => rfl
  | x :: r => by unfold sortL sortG; rw [insD_eq, sortL_eq r]
/-! ### the order -/
theorem ltB_lt : ∀ x y : List Nat, ltB x y = decide (x < y)
  | [], [] => by simp [ltB]
  | [], y :: ys => by simp [ltB]
  | x :: xs, [] => by simp [ltB]
  | x :: xs, y :: ys => by
    unfold ltB
    by_cases h : x = y
    · rw [if_pos h, ltB_lt xs ys]
      simp [h, List.cons_lt_cons_iff]
    · rw [if_neg h]
      simp [h, List.cons_lt_cons_iff]
mutual
theorem nk_ok : ∀ (d : Dat) (n : Nat), nkB d n = true → okB d n = true
  | .tup xs, n, h => by
    cases n with
    | zero => simp [nkB] at h
    | succ n =>
      simp only [nkB] at h
      simp only [okB]
      exact nkL_ok xs n h
  | .non, n, _ => by simp [okB]
  | .bl _, n, _ => by simp [okB]
  | .int _, n, _ => by simp [okB]
  | .str _, n, _ => by simp [okB]
  | .lst _, n, h => by simp [nkB] at h
  | .fn _, n, h => by simp [nkB] at h
  | .cup, n, h => by simp [nkB] at h
  | .kl _, n, h => by simp [nkB] at h
  | .dct _ _, n, h => by simp [nkB] at h
  | .fdc _ _, n, h => by simp [nkB] at h
  | .own _, n, h => by simp [nkB] at h
theorem nkL_ok : ∀ (d : List Dat) (n : Nat), nkLB d n = true → okAllB d n = true
  | [], n, _ => by simp [okAllB]
  | x :: xs, n, h => by
    simp only [nkLB, Bool.and_eq_true] at h
    simp only [okAllB, Bool.and_eq_true]
    exact ⟨nk_ok x n h.1, nkL_ok xs n h.2⟩
end
mutual
theorem like_py : ∀ (a b : Dat), likeB a b = true → PySem.W.alike (toPy a) (toPy b) = true
  | .int _, .int _, _ => by simp [toPy, PySem.W.alike]
  | .str _, .str _, _ => by simp [toPy, PySem.W.alike]
  | .tup xs, .tup ys, h => by
    simp only [likeB] at h
    simp only [toPy, PySem.W.alike]
    exact likeL_py xs ys h
  | .int _, .tup _, h => by simp [likeB] at h
  | .int _, .str _, h => by simp [likeB] at h
  | .int _, .non, h => by simp [likeB] at h
  | .int _, .bl _, h => by simp [likeB] at h
  | .int _, .lst _, h => by simp [likeB] at h
  | .int _, .fn _, h => by simp [likeB] at h
  | .int _, .cup, h => by simp [likeB] at h
  | .int _, .kl _, h => by simp [likeB] at h
  | .int _, .dct _ _, h => by simp [likeB] at h
  | .int _, .fdc _ _, h => by simp [likeB] at h
  | .int _, .own _, h => by simp [likeB] at h
  | .str _, .tup _, h => by simp [likeB] at h
  | .str _, .int _, h => by simp [likeB] at h
  | .str _, .non, h => by simp [likeB] at h
  | .str _, .bl _, h => by simp [likeB] at h
  | .str _, .lst _, h => by simp [likeB] at h
  | .str _, .fn _, h => by simp [likeB] at h
  | .str _, .cup, h => by simp [likeB] at h
  | .str _, .kl _, h => by simp [likeB] at h
  | .str _, .dct _ _, h => by simp [likeB] at h
  | .str _, .fdc _ _, h => by simp [likeB] at h
  | .str _, .own _, h => by simp [likeB] at h
  | .tup _, .int _, h => by simp [likeB] at h
  | .tup _, .str _, h => by simp [likeB] at h
  | .tup _, .non, h => by simp [likeB] at h
  | .tup _, .bl _, h => by simp [likeB] at h
  | .tup _, .lst _, h => by simp [likeB] at h
  | .tup _, .fn _, h => by simp [likeB] at h
  | .tup _, .cup, h => by simp [likeB] at h
  | .tup _, .kl _, h => by simp [likeB] at h
  | .tup _, .dct _ _, h => by simp [likeB] at h
  | .tup _, .fdc _ _, h => by simp [likeB] at h
  | .tup _, .own _, h => by simp [likeB] at h
  | .non, _, h => by simp [likeB] at h
  | .bl _, _, h => by simp [likeB] at h
  | .lst _, _, h => by simp [likeB] at h
  | .fn _, _, h => by simp [likeB] at h
  | .cup, _, h => by simp [likeB] at h
  | .kl _, _, h => by simp [likeB] at h
  | .dct _ _, _, h => by simp [likeB] at h
  | .fdc _ _, _, h => by simp [likeB] at h
  | .own _, _, h => by simp [likeB] at h
theorem likeL_py : ∀ (a b : List Dat), likeLB a b = true → PySem.W.alikeAll (toPyL a) (toPyL b) = true
  | [], _, _ => by simp [toPyL, PySem.W.alikeAll]
  | _ :: _, [], _ => by simp [toPyL, PySem.W.alikeAll]
  | x :: xs, y :: ys, h => by
    simp only [likeLB, Bool.and_eq_true] at h
    simp only [toPyL, PySem.W.alikeAll, Bool.and_eq_true]
    exact ⟨like_py x y h.1, likeL_py xs ys h.2⟩
end
theorem lt_nil_nil : PySem.W.rowLt [] [] = false := lex_irrefl _
theorem lt_nil_cons (y : PyData) (ys : List PyData) : PySem.W.rowLt [] (y :: ys) = true := by
  unfold PySem.W.rowLt
  rw [PySem.W.toks_all_cons]
  simp only [PySem.W.keyToksAll]
  rw [lex_diff (O := itemOrd) (by simp)]
  rfl
theorem lt_cons_nil (y : PyData) (ys : List PyData) : PySem.W.rowLt (y :: ys) [] = false := by
  unfold PySem.W.rowLt
  rw [PySem.W.toks_all_cons]
  simp only [PySem.W.keyToksAll]
  rw [lex_diff (O := itemOrd) (by simp)]
  rfl
mutual
theorem dlt_py : ∀ (a b : Dat) (n m : Nat), nkB a n = true → nkB b m = true → likeB a b = true → PySem.W.dataLt (toPy a) (toPy b) = dltB a b
  | .int i, b, n, m, ha, hb, h => by
    cases b <;> simp [likeB] at h
    simp only [toPy, PySem.W.dataLt_int, dltB]
  | .str i, b, n, m, ha, hb, h => by
    cases b <;> simp [likeB] at h
    simp only [toPy, PySem.W.dataLt_str, dltB, ltB_lt]
  | .tup xs, b, n, m, ha, hb, h => by
    cases b with
    | tup ys =>
      cases n with
      | zero => simp [nkB] at ha
      | succ n =>
        cases m with
        | zero => simp [nkB] at hb
        | succ m =>
          simp only [nkB] at ha hb
          simp only [likeB] at h
          simp only [toPy, dltB]
          rw [PySem.W.dataLt_tuple]
          exact dlt_pyL xs ys n m ha hb h
    | _ => simp [likeB] at h
  | .non, _, _, _, _, _, h => by simp [likeB] at h
  | .bl _, _, _, _, _, _, h => by simp [likeB] at h
  | .lst _, _, _, _, _, _, h => by simp [likeB] at h
  | .fn _, _, _, _, _, _, h => by simp [likeB] at h
  | .cup, _, _, _, _, _, h => by simp [likeB] at h
  | .kl _, _, _, _, _, _, h => by simp [likeB] at h
  | .dct _ _, _, _, _, _, _, h => by simp [likeB] at h
  | .fdc _ _, _, _, _, _, _, h => by simp [likeB] at h
  | .own _, _, _, _, _, _, h => by simp [likeB] at h
theorem dlt_pyL : ∀ (a b : List Dat) (n m : Nat), nkLB a n = true → nkLB b m = true → likeLB a b = true → PySem.W.rowLt (toPyL a) (toPyL b) = dltLB a b
  | [], [], _, _, _, _, _ => by simp only [toPyL, dltLB, lt_nil_nil]
  | [], _ :: _, _, _, _, _, _ => by simp only [toPyL, dltLB, lt_nil_cons]
  | _ :: _, [], _, _, _, _, _ => by simp only [toPyL, dltLB, lt_cons_nil]
  | x :: xs, y :: ys, n, m, ha, hb, h => by
    simp only [nkLB, Bool.and_eq_true] at ha hb
    simp only [likeLB, Bool.and_eq_true] at h
    simp only [toPyL, dltLB]
    unfold PySem.W.rowLt
    rw [PySem.W.dataLt_cons (like_py x y h.1), eqv_toPy x y n m (nk_ok x n ha.1) (nk_ok y m hb.1), dlt_py x y n m ha.1 hb.1 h.1]
    have := dlt_pyL xs ys n m ha.2 hb.2 h.2
    unfold PySem.W.rowLt at this
    rw [this]
end
/-! ### sorted -/
theorem toPyL_map : ∀ ds : List Dat, toPyL ds = ds.map toPy
  | [] => rfl
  | x :: xs => by unfold toPyL; rw [toPyL_map xs] <;> rfl
def rSorted (C : Cfg) : List V → Hp → VK → Prop := fun vs H Q => ∃ (a : Addr) (xs : List V) (ds : List Dat), vs = [V.ref a] ∧ SqL C.K H a xs ∧ RpL C H xs ds ∧ sortOkB ds = true ∧ ds.length ≤ line ∧
  ∀ ys p, RpL C H ys (sortL ds) → H p = none → Q (.ref p) (upd H p (.lst ys))
theorem each_zip {C : Cfg} {H : Hp} : ∀ {vs : List V} {us : List Value} {ds : List Dat}, RpL C H vs ds → Vals vs us → PySem.W.EachIs (fun u (p : V × Dat) => RelV p.1 u ∧ Rp C H p.1 p.2) us (vs.zip ds)
  | [], _, _, r, rv => by cases r; cases rv; exact .nil
  | v :: vs, _, _, r, rv => by
    cases r with
    | cons r1 r2 =>
      cases rv with
      | cons u1 u2 => exact .cons ⟨u1, r1⟩ (each_zip r2 u2)
theorem each_back {C : Cfg} {H : Hp} : ∀ {us : List Value} {ps : List (V × Dat)}, PySem.W.EachIs (fun u (p : V × Dat) => RelV p.1 u ∧ Rp C H p.1 p.2) us ps → Vals (ps.map (·.1)) us ∧ RpL C H (ps.map (·.1)) (ps.map (·.2))
  | _, _, .nil => ⟨.nil, .nil⟩
  | _, _, .cons h t => ⟨.cons h.1 (each_back t).1, .cons h.2 (each_back t).2⟩
theorem zip_snd : ∀ {vs : List V} {ds : List Dat}, vs.length = ds.length → (vs.zip ds).map (·.2) = ds
  | [], [], _ => rfl
  | [], _ :: _, h => by cases h
  | _ :: _, [], h => by cases h
  | v :: vs, d :: ds, h => by rw [List.zip_cons_cons, List.map_cons, zip_snd (by simpa using h)]
theorem sortOk_spec {ds : List Dat} (h : sortOkB ds = true) : ((∀ d ∈ ds, atomB d = true) ∨ ∀ d ∈ ds, ∃ x r, d = .tup (x :: r)) ∧ (∀ d ∈ ds, nkB d 8 = true) ∧ ∀ d ∈ ds, ∀ d' ∈ ds, likeB d d' = true := by
  unfold sortOkB at h
  simp only [Bool.and_eq_true, Bool.or_eq_true, List.all_eq_true] at h
  refine ⟨h.1.1.imp id fun q d hd => ?_, h.1.2, h.2⟩
  have := q d hd
  cases d with
  | tup xs =>
    cases xs with
    | nil => simp at this
    | cons x r => exact ⟨x, r, rfl⟩
  | _ => simp at this
section
variable {X : Cx} {C : Cfg}
theorem cr_sorted (hu : X.A.units + 64 < cLine) (hK : C.K = X.K) : CallR X (.builtin "sorted") (rSorted C) := by
  intro pins s σ H vs us Q I r h
  obtain ⟨a, xs, ds, rfl, hs, hx, hok, hz, q⟩ := h
  rw [hK] at hs
  obtain ⟨its, rv, hl, hz2⟩ := I.list hs
  obtain ⟨u, rfl, ru⟩ := vals1 r
  obtain rfl : u = Value.ref a := ru
  obtain ⟨h1, h2, h3⟩ := sortOk_spec hok
  have hsn : (xs.zip ds).map (·.2) = ds := zip_snd hx.len
  have hm : (xs.zip ds).map (fun p => toPy p.2) = ds.map toPy := by
    have : (xs.zip ds).map (fun p => toPy p.2) = ((xs.zip ds).map (·.2)).map toPy := by rw [List.map_map] <;> rfl
    rw [this, hsn]
  have hmem : ∀ p ∈ xs.zip ds, p.2 ∈ ds := fun p hp => by
    rw [← hsn]
    exact List.mem_map.mpr ⟨p, hp, rfl⟩
  have e := each_zip hx rv
  have hle : ∀ x ∈ xs.zip ds, ∀ y ∈ xs.zip ds, PySem.W.dataLt (toPy x.2) (toPy y.2) = dltB x.2 y.2 := fun x hx y hy => dlt_py _ _ 8 8 (h2 _ (hmem x hx)) (h2 _ (hmem y hy)) (h3 _ (hmem x hx) _ (hmem y hy))
  have hL : (xs.zip ds).length ≤ sizeLine := by
    rw [← e.length, ← rv.length]
    exact hz2
  refine PySem.W.sorted_data (enc := fun p : V × Dat => toPy p.2) hl.isList e ((PySem.W.each_mem e).mono fun u p hp => ?_) ?_ ?_ hL (fun p hp => ?_) fun out ho eo => ?_
  · obtain ⟨⟨ru, rp⟩, hp⟩ := hp
    have rp := (Rp.dp p.2 p.1 8 rp (nk_ok _ 8 (h2 _ (hmem p hp)))).1
    rw [hK] at rp
    exact rp.reads I _ _ u ru
  · rw [hm]
    intro d hd d' hd'
    obtain ⟨x, hx, rfl⟩ := List.mem_map.mp hd
    obtain ⟨y, hy, rfl⟩ := List.mem_map.mp hd'
    exact like_py _ _ (h3 x hx y hy)
  · rw [hm]
    rcases h1 with h1 | h1
    · refine .inr fun d hd => ?_
      obtain ⟨x, hx, rfl⟩ := List.mem_map.mp hd
      have := h1 x hx
      cases x <;> simp [atomB] at this <;> simp [toPy]
    · refine .inl fun d hd => ?_
      obtain ⟨x, hx, rfl⟩ := List.mem_map.mp hd
      obtain ⟨y, r, rfl⟩ := h1 x hx
      exact ⟨toPy y, toPyL r, by simp only [toPy, toPyL]⟩
  · obtain ⟨u, hu2⟩ : ∃ u, Rp C H p.1 p.2 := by
      obtain ⟨i, hi⟩ := List.mem_iff_getElem?.mp hp
      rw [List.getElem?_zip_eq_some] at hi
      obtain ⟨d, e1, e2⟩ := hx.get' hi.1
      rw [hi.2] at e1
      cases e1
      exact ⟨trivial, e2⟩
    have := (Rp.dp p.2 p.1 8 hu2 (nk_ok _ 8 (h2 _ (hmem p hp)))).2.2
    show X.A.units + 2 + (toPy p.2).depth < cLine
    omega
  · have es : (xs.zip ds).mergeSort (PySem.W.dataLe false fun p : V × Dat => toPy p.2) = sortG (fun x y : V × Dat => PySem.W.dataLt (toPy x.2) (toPy y.2)) (xs.zip ds) :=
      (sortG_merge (PySem.W.sortLe_total (listOrd itemOrd) false fun p : V × Dat => PySem.W.keyToks (toPy p.2)) (fun a b => rfl) _).symm
    rw [es] at eo
    obtain ⟨rv2, rp2⟩ := each_back eo
    have e3 : (sortG (fun x y : V × Dat => PySem.W.dataLt (toPy x.2) (toPy y.2)) (xs.zip ds)).map (·.2) = sortL ds := by
      rw [sortG_map hle, hsn, sortL_eq]
    rw [e3] at rp2
    obtain ⟨n, hn⟩ := PyProof.Rows.sortedAll_at s.heap its (List.toArray out)
    refine ⟨.ref (s.heap.objs.size + 1), upd H (s.heap.objs.size + 1) (.lst ((sortG (fun x y : V × Dat => PySem.W.dataLt (toPy x.2) (toPy y.2)) (xs.zip ds)).map (·.1))), I.laid (t' := s.toks) (fun b o hb => PyProof.Rows.sortedAll_old hb) (Nat.le_succ _) ⟨?_, out, n, rv2, hn⟩, rfl, q _ _ rp2 (I.hok.fresh (Nat.le_succ _))⟩
    rw [rv2.length, ho]
    exact hL
theorem sortL_len : ∀ ds : List Dat, (sortL ds).length = ds.length
  | [] => rfl
  | x :: r => by
    have key : ∀ l : List Dat, (insD x l).length = l.length + 1 := by
      intro l
      induction l with
      | nil => rfl
      | cons y l ih =>
        unfold insD
        split
        · rw [List.length_cons, ih, List.length_cons]
        · rfl
    unfold sortL
    rw [key, sortL_len r, List.length_cons]
theorem bif_sorted (hu : X.A.units + 64 < cLine) (hK : X.K = C.K) : ∃ r, CallR X (.builtin "sorted") r ∧ BiF C r (biD .sorted) := by
  refine ⟨_, cr_sorted (C := C) hu hK.symm, fun d1 d g x H Q hd r1 G q => ?_⟩
  cases d1 <;> simp only [biD, sortedD] at hd <;> try cases hd
  · rename_i ds
    obtain ⟨p, vs, rfl, t, z, l⟩ := r1.lst_inv
    split at hd
    · rename_i hok
      cases hd
      exact ⟨p, vs, ds, rfl, t.sq, l, hok, z, fun ys p hy hp => q _ _ (Ext.new hp) (G.new hp) (.newL G hp (by rw [sortL_len]; exact z) hy)⟩
    · cases hd
end
end R
set_option Elab.async false
set_option linter.all false
set_option maxRecDepth 100000
set_option maxHeartbeats 4000000
/-! Statements: the frame's own objects, what a run of statements asks. -/
namespace R
open PySem PySem.Spec PyProof.Rows L2

/-- A: this frame's own objects -/
abbrev Cfg.w (C : Cfg) (A : List Addr) : Cfg := { C with M := A ++ C.M }
/-- what is one's own: a list, a dict -/
def OwnK (H : Hp) (a : Addr) : Prop := (∃ vs, H a = some (.lst vs)) ∨ ∃ kvs, H a = some (.dK kvs)
theorem OwnK.ntup {H : Hp} {a : Addr} {xs : List V} (h : OwnK H a) : H a ≠ some (.tup xs) := by
  rcases h with ⟨vs, h⟩ | ⟨vs, h⟩ <;> rw [h] <;> exact fun z => nomatch z
theorem OwnK.some {H : Hp} {a : Addr} (h : OwnK H a) : H a ≠ none := by
  rcases h with ⟨vs, h⟩ | ⟨vs, h⟩ <;> rw [h] <;> exact fun z => nomatch z
inductive OwnAt (C : Cfg) (H : Hp) (a : Addr) : Dat → Prop
  | lst {vs : List V} {ds : List Dat} : H a = some (.lst vs) → ds.length ≤ sizeLine → RpL C H vs ds → OwnAt C H a (.lst ds)
  | dct {ks : List Key} {vs : List V} {ds : List Dat} : ks.length ≤ sizeLine → ks.length = vs.length → H a = some (.dK (ks.zip vs)) → (∀ k ∈ ks, KeyOk k) → RpL C H vs ds → OwnAt C H a (.dct (ks.map keyD) ds)
theorem OwnAt.k {C : Cfg} {H : Hp} {a : Addr} {d : Dat} (h : OwnAt C H a d) : OwnK H a := by
  cases h with
  | lst h _ _ => exact .inl ⟨_, h⟩
  | dct _ _ h _ _ => exact .inr ⟨_, h⟩
theorem OwnAt.ext {C : Cfg} {H H' : Hp} {a : Addr} {d : Dat} (h : OwnAt C H a d) (e : ExtM C H H') (ha : H' a = H a) : OwnAt C H' a d := by
  cases h with
  | lst h z r => exact .lst (ha.trans h) z (r.extM e)
  | dct z l h k r => exact .dct z l (ha.trans h) k (r.extM e)
theorem OwnAt.less {C : Cfg} {M' : List Addr} {H : Hp} {a : Addr} {d : Dat} (h : OwnAt { C with M := M' } H a d) (hn : ∀ a ∈ C.M, a ∈ M') : OwnAt C H a d := by
  cases h with
  | lst h z r => exact .lst h z (r.less hn)
  | dct z l h k r => exact .dct z l h k (r.less hn)
theorem OwnAt.more {C : Cfg} {M' : List Addr} {H : Hp} {a : Addr} {d : Dat} (h : OwnAt C H a d) (hn : ∀ a ∈ M', a ∉ C.M → H a = none) : OwnAt { C with M := M' } H a d := by
  cases h with
  | lst h z r => exact .lst h z (r.more hn)
  | dct z l h k r => exact .dct z l h k (r.more hn)
theorem OwnAt.rp {C : Cfg} {H : Hp} {a : Addr} {d : Dat} (h : OwnAt C H a d) (hn : C.cup ≠ some a ∧ a ∉ C.M) : Rp C H (.ref a) d := by
  cases h with
  | lst h z r => exact .lst ⟨.inl h, hn⟩ z r
  | dct z l h k r => exact .dct z l ⟨h, hn⟩ k r
theorem flatL_cons {d : Dat} {ds : List Dat} : flatL (d :: ds) = (flatD d && flatL ds) := by simp only [flatL]
theorem flatD_tup {ds : List Dat} : flatD (.tup ds) = flatL ds := by simp only [flatD]
mutual
theorem Rp.flat {C : Cfg} {A : List Addr} {H : Hp} (hA : ∀ a ∈ A, OwnK H a) : ∀ {v : V} {d : Dat}, Rp C H v d → flatD d = true → Rp (C.w A) H v d
  | _, _, .non, _ => .non
  | _, _, .bl b, _ => .bl b
  | _, _, .int i, _ => .int i
  | _, _, .str x h, _ => .str x h
  | _, _, .tup h z r, hf => .tup (h.elim (fun q => .inl ⟨q.1, q.2.1, fun hm => (List.mem_append.mp hm).elim (fun z => (hA _ z).ntup q.1) q.2.2⟩) .inr) z (RpL.flat hA r (flatD_tup.symm.trans hf))
  | _, _, .fn i, _ => .fn (C := C.w A) i
  | _, _, .lst _ _ _, hf => by simp only [flatD] at hf; cases hf
  | _, _, .cup _, hf => by simp only [flatD] at hf; cases hf
  | _, _, .kl _ _ _, hf => by simp only [flatD] at hf; cases hf
  | _, _, .dct _ _ _ _ _, hf => by simp only [flatD] at hf; cases hf
  | _, _, .fdc _ _ _ _ _, hf => by simp only [flatD] at hf; cases hf
  | _, _, .fdn _ _ _ _, hf => by simp only [flatD] at hf; cases hf
theorem RpL.flat {C : Cfg} {A : List Addr} {H : Hp} (hA : ∀ a ∈ A, OwnK H a) : ∀ {vs : List V} {ds : List Dat}, RpL C H vs ds → flatL ds = true → RpL (C.w A) H vs ds
  | _, _, .nil, _ => .nil
  | _, _, .cons r rr, hf => .cons (Rp.flat hA r (Bool.and_eq_true_iff.mp (flatL_cons.symm.trans hf)).1) (RpL.flat hA rr (Bool.and_eq_true_iff.mp (flatL_cons.symm.trans hf)).2)
end
theorem GR.w {C : Cfg} {A : List Addr} {g : List Dat} {H : Hp} (G : GR C g H) (hA : ∀ a ∈ A, OwnK H a) : GR (C.w A) g H := by
  refine ⟨fun a ha => (List.mem_append.mp ha).elim (fun z => (hA a z).some) (G.1 a), fun a ha => ?_⟩
  obtain ⟨vs, h1, h2⟩ := G.2 a ha
  exact ⟨vs, h1, h2.rp.flat hA h2.fl, h2.fl⟩
theorem inW {C : Cfg} {A : List Addr} : ∀ a ∈ C.M, a ∈ A ++ C.M := fun a ha => List.mem_append_right _ ha
theorem GR.un {C : Cfg} {A : List Addr} {g : List Dat} {H : Hp} (G : GR (C.w A) g H) : GR C g H := by
  refine ⟨fun a ha => G.1 a (inW a ha), fun a ha => ?_⟩
  obtain ⟨vs, h1, h2⟩ := G.2 a ha
  exact ⟨vs, h1, h2.less inW⟩
/-- a slot's data -/
inductive SlotR (C : Cfg) (A : List Addr) (H : Hp) : V → Dat → Prop
  | own {a : Addr} {d : Dat} : a ∈ A → OwnAt (C.w A) H a d → SlotR C A H (.ref a) (.own d)
  | rp {v : V} {d : Dat} : Rp (C.w A) H v d → SlotR C A H v d
structure EnvO (C : Cfg) (A : List Addr) (H : Hp) (σ : L2.St) (ρ : Sl) : Prop where
  len : σ.length = ρ.length
  all : ∀ (i : Nat) (d : Dat), ρ[i]? = some (some d) → ∃ v, σ[i]? = some (some v) ∧ SlotR C A H v d
  ne : ∀ (i j : Nat) (d e : Dat) (a : Addr), i ≠ j → ρ[i]? = some (some (.own d)) → ρ[j]? = some (some (.own e)) → σ[i]? = some (some (.ref a)) → σ[j]? ≠ some (some (.ref a))
  out : ∀ a ∈ A, C.cup ≠ some a ∧ a ∉ C.M
  kind : ∀ a ∈ A, OwnK H a
theorem EnvO.strip {C : Cfg} {A : List Addr} {H : Hp} {σ : L2.St} {ρ : Sl} (E : EnvO C A H σ ρ) : EnvR C H σ (strip ρ) := by
  refine ⟨by unfold R.strip; simp [E.len], fun i d h => ?_⟩
  unfold R.strip at h
  rw [List.getElem?_map] at h
  cases hi : ρ[i]? with
  | none => rw [hi] at h; cases h
  | some o =>
    rw [hi] at h
    have h : stp o = some d := Option.some.inj h
    cases o with
    | none => cases h
    | some d0 =>
      obtain ⟨v, h1, h2⟩ := E.all i d0 hi
      cases h2 with
      | own ha ho =>
        have h : some _ = some d := h
        cases h
        exact ⟨_, h1, (ho.less inW).rp (E.out _ ha)⟩
      | rp r =>
        have hd : d0 = d := by
          cases r <;> exact Option.some.inj h
        subst hd
        exact ⟨v, h1, r.less inW⟩
theorem EnvO.erase {C : Cfg} {A : List Addr} {H : Hp} {σ : L2.St} {ρ : Sl} (E : EnvO C A H σ ρ) : EnvR (C.w A) H σ (erase ρ) := by
  refine ⟨by unfold R.erase; simp [E.len], fun i d h => ?_⟩
  unfold R.erase at h
  rw [List.getElem?_map] at h
  cases hi : ρ[i]? with
  | none => rw [hi] at h; cases h
  | some o =>
    rw [hi] at h
    have h : era o = some d := Option.some.inj h
    cases o with
    | none => cases h
    | some d0 =>
      obtain ⟨v, h1, h2⟩ := E.all i d0 hi
      cases h2 with
      | own ha ho => cases h
      | rp r =>
        have hd : d0 = d := by
          cases r <;> exact Option.some.inj h
        subst hd
        exact ⟨v, h1, r⟩
theorem Ext.w {C : Cfg} {A : List Addr} {H H' : Hp} (e : Ext C H H') : Ext (C.w A) H H' := e
theorem EnvO.ext {C : Cfg} {A : List Addr} {H H' : Hp} {σ : L2.St} {ρ : Sl} (E : EnvO C A H σ ρ) (e : Ext C H H') : EnvO C A H' σ ρ := by
  have same : ∀ a ∈ A, H' a = H a := fun a ha => by
    cases q : H a with
    | none => exact absurd q (E.kind a ha).some
    | some o => exact e a o q (E.out a ha).1
  refine ⟨E.len, fun i d h => ?_, E.ne, E.out, fun a ha => ?_⟩
  · obtain ⟨v, h1, h2⟩ := E.all i d h
    cases h2 with
    | own ha ho => exact ⟨_, h1, .own ha (ho.ext (Ext.m (C := C.w A) e) (same _ ha))⟩
    | rp r => exact ⟨v, h1, .rp (Rp.ext (C := C.w A) e r)⟩
  · have h := E.kind a ha
    rcases h with ⟨vs, h⟩ | ⟨vs, h⟩
    · exact .inl ⟨vs, (same a ha).trans h⟩
    · exact .inr ⟨vs, (same a ha).trans h⟩
theorem EnvO.of {C : Cfg} {H : Hp} {σ : L2.St} {ρ : Sl} (E : EnvR C H σ ρ) : EnvO C [] H σ ρ := by
  refine ⟨E.1, fun i d h => ?_, fun i j d e a _ h => ?_, fun a h => absurd h (by simp), fun a h => absurd h (by simp)⟩
  · obtain ⟨v, h1, h2⟩ := E.2 i d h
    exact ⟨v, h1, .rp h2⟩
  · obtain ⟨v, h1, h2⟩ := E.2 i _ h
    cases h2
theorem EnvO.set {C : Cfg} {A : List Addr} {H : Hp} {σ : L2.St} {ρ : Sl} {i : Nat} {v : V} {d : Dat} (E : EnvO C A H σ ρ) (r : Rp (C.w A) H v d) : EnvO C A H (σ.set i (some v)) (ρ.set i (some d)) := by
  refine ⟨by simp [E.len], fun j e h => ?_, fun j k e f a hne h1 h2 h3 => ?_, E.out, E.kind⟩
  · by_cases hj : i = j
    · subst hj
      have hl : i < ρ.length := by
        have := (List.getElem?_eq_some_iff.mp h).1
        simpa using this
      rw [List.getElem?_set_self hl] at h
      cases h
      exact ⟨v, by rw [List.getElem?_set_self (by rw [E.len]; exact hl)], .rp r⟩
    · rw [List.getElem?_set_ne hj] at h
      obtain ⟨w, h1, h2⟩ := E.all j e h
      exact ⟨w, by rw [List.getElem?_set_ne hj]; exact h1, h2⟩
  · have key : ∀ (m : Nat) (x : Dat), (ρ.set i (some d))[m]? = some (some (.own x)) → i ≠ m := fun m x h hm => by
      subst hm
      have hl : i < ρ.length := by
        have := (List.getElem?_eq_some_iff.mp h).1
        simpa using this
      rw [List.getElem?_set_self hl] at h
      cases h
      cases r
    have k1 := key j e h1
    have k2 := key k f h2
    rw [List.getElem?_set_ne k1] at h1 h3
    rw [List.getElem?_set_ne k2] at h2 ⊢
    exact E.ne j k e f a hne h1 h2 h3
theorem EnvO.sets {C : Cfg} {A : List Addr} {H : Hp} {σ σ1 : L2.St} {ρ ρ1 : Sl} (E : EnvO C A H σ ρ) (s : Sets (C.w A) H σ ρ σ1 ρ1) : EnvO C A H σ1 ρ1 := by
  induction s with
  | refl => exact E
  | step _ r ih => exact ih.set r
/-- from one point of a run to another -/
structure Chg (C : Cfg) (A : List Addr) (H H' : Hp) (A' : List Addr) : Prop where
  keep : ∀ a o, H a = some o → C.cup ≠ some a → a ∉ A → H' a = some o
  new : ∀ a ∈ A', a ∈ A ∨ H a = none
  dom : ∀ a, H a ≠ none → H' a ≠ none
  kind : ∀ a ∈ A, OwnK H a → OwnK H' a
theorem Chg.refl {C : Cfg} {A : List Addr} {H : Hp} : Chg C A H H A := ⟨fun _ _ h _ _ => h, fun _ h => .inl h, fun _ h => h, fun _ _ h => h⟩
theorem Chg.trans {C : Cfg} {A A1 A2 : List Addr} {H H1 H2 : Hp} (a : Chg C A H H1 A1) (b : Chg C A1 H1 H2 A2) (hA : ∀ a ∈ A, OwnK H a) (hc : ∀ a ∈ A, C.cup ≠ some a) : Chg C A H H2 A2 := by
  refine ⟨fun x o h c n => ?_, fun x h => ?_, fun x h => b.dom x (a.dom x h), fun x h k => ?_⟩
  · refine b.keep x o (a.keep x o h c n) c fun z => ?_
    rcases a.new x z with z | z
    · exact n z
    · rw [h] at z; cases z
  · rcases b.new x h with z | z
    · exact a.new x z
    · by_cases q : H x = none
      · exact .inr q
      · exact absurd z (a.dom x q)
  · have k1 := a.kind x h k
    by_cases hx : x ∈ A1
    · exact b.kind x hx k1
    · rcases k1 with ⟨vs, q⟩ | ⟨vs, q⟩
      · exact .inl ⟨vs, b.keep x _ q (hc x h) hx⟩
      · exact .inr ⟨vs, b.keep x _ q (hc x h) hx⟩
theorem Chg.ext {C : Cfg} {A : List Addr} {H H' : Hp} {g : List Dat} (e : Ext C H H') (hA : ∀ a ∈ A, C.cup ≠ some a) (G : GR C g H') : Chg C A H H' A := by
  refine ⟨fun a o h c _ => e a o h c, fun a h => .inl h, fun a h => ?_, fun a ha k => ?_⟩
  · by_cases hc : C.cup = some a
    · obtain ⟨vs, h1, _⟩ := G.2 a hc
      rw [h1]; exact fun z => nomatch z
    · cases q : H a with
      | none => exact absurd q h
      | some o => rw [e a o q hc]; exact fun z => nomatch z
  · rcases k with ⟨vs, h⟩ | ⟨vs, h⟩
    · exact .inl ⟨vs, e a _ h (hA a ha)⟩
    · exact .inr ⟨vs, e a _ h (hA a ha)⟩
theorem Chg.nil {C : Cfg} {A A' : List Addr} {H H' : Hp} (a : Chg C A H H' A') : Chg C A H H' [] := ⟨a.keep, fun _ h => absurd h (by simp), a.dom, a.kind⟩
def RunS (C : Cfg) (W : WX) (A : List Addr) (H : Hp) (r : Res Out) (D : Ends) : Prop := match r with
  | .ok (.nx ρ) g => ∀ σ' H' A', Chg C A H H' A' → EnvO C A' H' σ' ρ → GR C g H' → D.nx σ' H'
  | .ok (.bk ρ) g => ∀ σ' H' A', Chg C A H H' A' → EnvO C A' H' σ' ρ → GR C g H' → D.bk σ' H'
  | .ok (.ct ρ) g => ∀ σ' H' A', Chg C A H H' A' → EnvO C A' H' σ' ρ → GR C g H' → D.ct σ' H'
  | .ok (.rt d fresh) g => ∀ v H', Chg C A H H' [] → GR C g H' → Rp C H' v d → (fresh = true → ∀ p, v = .ref p → ∃ vs, H' p = some (.lst vs)) → D.rt v H'
  | .exc c g => ∀ σ' H', Chg C A H H' [] → GR C g H' → W (C.ex c) none σ' H'
  | .bad => False
theorem RunS.chg {C : Cfg} {W : WX} {A A1 : List Addr} {H H1 : Hp} {r : Res Out} {D : Ends} (h : RunS C W A H r D) (a : Chg C A H H1 A1) (hA : ∀ a ∈ A, OwnK H a) (hc : ∀ a ∈ A, C.cup ≠ some a) : RunS C W A1 H1 r D := by
  cases r with
  | bad => exact h
  | exc c g => exact fun σ' H' b => h σ' H' (a.trans b hA hc)
  | ok o g =>
    cases o with
    | nx ρ => exact fun σ' H' A' b => h σ' H' A' (a.trans b hA hc)
    | bk ρ => exact fun σ' H' A' b => h σ' H' A' (a.trans b hA hc)
    | ct ρ => exact fun σ' H' A' b => h σ' H' A' (a.trans b hA hc)
    | rt d f => exact fun v H' b => h v H' (a.trans b hA hc)
theorem RunS.chgE {C : Cfg} {W : WX} {A A1 : List Addr} {H H1 : Hp} {r : Res Out} {D : Ends} {σ : L2.St} {ρ : Sl} (h : RunS C W A H r D) (E : EnvO C A H σ ρ) (a : Chg C A H H1 A1) : RunS C W A1 H1 r D := h.chg a E.kind fun x hx => (E.out x hx).1
def tS (C : Cfg) (W : WX) (f : Sl → Mo Out) : TS := fun D σ H => ∃ A ρ g, EnvO C A H σ ρ ∧ GR C g H ∧ RunS C W A H (f ρ g) D
structure MtS (X : Cx) (c : Ctx) (C : Cfg) (W : WX) (F : Nat → List Dat → Mo Dat) (k : Nat) : Prop extends Mt X c C W F k where
  po : PassesOwn (model X.prog X.w) X.A X.env X.xe
theorem Mt.w {X : Cx} {c : Ctx} {C : Cfg} {W : WX} {F : Nat → List Dat → Mo Dat} {k : Nat} (M : Mt X c C W F k) (M' : List Addr) : Mt X c { C with M := M' } W F k :=
  { N := M.N, nd := M.nd, sc := M.sc, calm := M.calm, K := M.K, room := M.room, tk := M.tk, fn := M.fn, fns := M.fns, glo := M.glo, bi := M.bi, ex := M.ex }
def SemS (c : Ctx) (st : Stmt) (s' : Sm) : Prop := ∀ X C W F k, MtS X c C W F k → PS X st (tS C W (run F s'))
def SemB (c : Ctx) (st : List Stmt) (s' : List Sm) : Prop := ∀ X C W F k, MtS X c C W F k → PSs X st (tS C W (runs F s'))
end R
set_option Elab.async false
set_option linter.all false
set_option maxRecDepth 100000
set_option maxHeartbeats 4000000
/-! Statements, one by one. -/
namespace R
open PySem PySem.Spec PyProof.Rows L2

theorem EnvO.nc {C : Cfg} {A : List Addr} {H : Hp} {σ : L2.St} {ρ : Sl} (E : EnvO C A H σ ρ) : ∀ a ∈ A, C.cup ≠ some a := fun a ha => (E.out a ha).1
/-- an expression first, as it is read -/
theorem tD_S {C : Cfg} {W : WX} {fa : Sl → Mo Dat} {A : List Addr} {σ : L2.St} {H : Hp} {D : Ends} {Q : VK} {ρ : Sl} {g : List Dat} (k : Dat → Mo Out) (E : EnvO C A H σ ρ) (G : GR C g H) (h : RunS C W A H ((fa (strip ρ) g).bind k) D)
    (hk : ∀ d g' v H', Ext C H H' → EnvO C A H' σ ρ → GR C g' H' → Rp C H' v d → RunS C W A H' (k d g') D → Q v H') : tD C W fa σ H Q :=
  tD_then k (fun r H => RunS C W A H r D) E.strip G h (fun _ _ p H' e G' => p σ H' (Chg.ext e E.nc G').nil G') id fun d g' v H' e E' G' r h' => hk d g' v H' e (E.ext e) G' r (h'.chgE E (Chg.ext e E.nc G'))
/-- .. apart from what is one's own -/
theorem tD_W {C : Cfg} {W : WX} {fa : Sl → Mo Dat} {A : List Addr} {σ : L2.St} {H : Hp} {D : Ends} {Q : VK} {ρ : Sl} {g : List Dat} (k : Dat → Mo Out) (E : EnvO C A H σ ρ) (G : GR C g H) (h : RunS C W A H ((fa (erase ρ) g).bind k) D)
    (hk : ∀ d g' v H', Ext C H H' → EnvO C A H' σ ρ → GR C g' H' → Rp (C.w A) H' v d → RunS C W A H' (k d g') D → Q v H') : tD (C.w A) W fa σ H Q :=
  tD_then (C := C.w A) k (fun r H => RunS C W A H r D) E.erase (G.w E.kind) h (fun _ _ p H' e G' => p σ H' (Chg.ext (C := C) e E.nc G'.un).nil G'.un) id fun d g' v H' e E' G' r h' => hk d g' v H' e (E.ext e) G'.un r (h'.chgE E (Chg.ext (C := C) e E.nc G'.un))
theorem tT_S {C : Cfg} {W : WX} {fa : Sl → Mo Bool} {A : List Addr} {σ : L2.St} {H : Hp} {D : Ends} {Q : Bool → Hp → Prop} {ρ : Sl} {g : List Dat} (k : Bool → Mo Out) (E : EnvO C A H σ ρ) (G : GR C g H) (h : RunS C W A H ((fa (strip ρ) g).bind k) D)
    (hk : ∀ d g' H', Ext C H H' → EnvO C A H' σ ρ → GR C g' H' → RunS C W A H' (k d g') D → Q d H') : tT C W fa σ H Q :=
  tT_then k (fun r H => RunS C W A H r D) E.strip G h (fun _ _ p H' e G' => p σ H' (Chg.ext e E.nc G').nil G') id fun d g' H' e E' G' h' => hk d g' H' e (E.ext e) G' (h'.chgE E (Chg.ext e E.nc G'))
def tDW (C : Cfg) (W : WX) (f : Sl → Mo Dat) : TE := fun σ H Q => ∃ A, tD (C.w A) W f σ H Q
theorem Sem.w {c : Ctx} {e : Expr} {e' : Ex} (h : Sem c e e') {X : Cx} {C : Cfg} {W : WX} {F : Nat → List Dat → Mo Dat} {k : Nat} (M : Mt X c C W F k) : PE X e (tDW C W (den F e')) :=
  ⟨fun pins s σ H Q I ⟨A, q⟩ => (h.run X (C.w A) W F k (M.w _)).run pins s σ H Q I q⟩
def tGW (C : Cfg) (tg : Tg) : TG := fun v σ H Q => ∃ A, tG (C.w A) tg v σ H Q
theorem SemG.w {c : Ctx} {t : Expr} {tg : Tg} (h : SemG c t tg) {X : Cx} {C : Cfg} {W : WX} {F : Nat → List Dat → Mo Dat} {k : Nat} (M : Mt X c C W F k) : PG X t (tGW C tg) :=
  ⟨fun pins s σ H v u Q I r ⟨A, q⟩ => (h.1 X (C.w A) W F k (M.w _)).run pins s σ H v u Q I r q⟩
def tIW (C : Cfg) (W : WX) (f : Sl → Mo Dat) : TI := fun σ H R => ∃ A, tI (C.w A) W f σ H R
theorem SemI.w {c : Ctx} {t it : Expr} {e' : Ex} (h : SemI c t it e') {X : Cx} {C : Cfg} {W : WX} {F : Nat → List Dat → Mo Dat} {k : Nat} (M : Mt X c C W F k) : PI X t it (tIW C W (den F e')) :=
  ⟨fun pins s σ H Q I ⟨A, q⟩ => (h.run X (C.w A) W F k (M.w _)).run pins s σ H Q I q⟩
def noComp : Expr → Bool
  | .ListComp .. => false
  | .SetComp .. => false
  | .DictComp .. => false
  | _ => true
theorem noSwap {e : Expr} (h : noComp e = true) (t : Option Expr) (n : Nat) (env : Env) : swapsWith e t n env = pure false := by
  cases e <;> first | rfl | exact absurd (show false = true from h) Bool.false_ne_true
/-- a store of data apart from one's own -/
theorem storeD_ok {C : Cfg} {W : WX} {A : List Addr} {H : Hp} {D : Ends} {t : Tg} {x : Dat} {ρ : Sl} {g : List Dat} (h : RunS C W A H (storeD t x ρ g) D) : ∃ ρ1, bindT t x ρ = some ρ1 ∧ RunS C W A H (.ok (.nx ρ1) g) D := by
  unfold storeD at h
  cases hb : bindT t x ρ with
  | none => rw [hb] at h; exact h.elim
  | some ρ1 => rw [hb] at h; exact ⟨ρ1, rfl, h⟩
theorem semS_expr {c : Ctx} {e : Expr} {e' : Ex} {pos : Pos} (h : Sem c e e') (hn : noComp e = true) : SemS c (.Expr e pos) (.expr e') := by
  intro X C W F k M
  refine ps_mono (ps_expr (h.run X C W F k M.toMt) (noSwap hn _ _ _)) fun D σ H ⟨A, ρ, g, E, G, q⟩ => ?_
  unfold run at q
  exact tD_S _ E G q fun d g' v H' e E' G' r q' => q' σ H' A .refl E' G'
theorem semS_ret {c : Ctx} {e : Expr} {e' : Ex} {pos : Pos} (h : Sem c e e') : SemS c (.Return (some e) pos) (.ret e') := by
  intro X C W F k M
  refine ps_mono (ps_ret (h.run X C W F k M.toMt)) fun D σ H ⟨A, ρ, g, E, G, q⟩ => ?_
  unfold run at q
  exact tD_S _ E G q fun d g' v H' e E' G' r q' => q' v H' Chg.refl.nil G' r fun z => nomatch z
theorem semS_retL {c : Ctx} {es : List Expr} {es' : List Ex} {pos pos' : Pos} (h : SemL c es es') (hz : es'.length ≤ 16777216) : SemS c (.Return (some (.List es pos)) pos') (.retL es') := by
  intro X C W F k M
  refine ps_mono (ps_ret (pe_lst (h.run X C W F k M.toMt))) fun D σ H ⟨A, ρ, g, E, G, q⟩ => ?_
  unfold run at q
  refine tLst_new (X := X) hz E.strip G ?_
  revert q
  cases denL F es' (strip ρ) g with
  | ok ds g1 =>
    intro q p H1 vs e1 G1 r1 hp hl
    exact q _ _ (Chg.ext (e1.trans (Ext.new hp)) E.nc (G1.new hp)).nil (G1.new hp) (.newL G1 hp hl r1) fun _ p' e => (by cases e; exact ⟨_, upd_same⟩)
  | exc c g1 => exact fun q H' e G' => q σ H' (Chg.ext e E.nc G').nil G'
  | bad => exact fun q => q
theorem semS_pass {c : Ctx} {pos : Pos} : SemS c (.Pass pos) .pass := by
  intro X C W F k M
  refine ps_mono ps_pass fun D σ H ⟨A, ρ, g, E, G, q⟩ => ?_
  unfold run at q
  exact q σ H A .refl E G
theorem semS_cont {c : Ctx} {pos : Pos} : SemS c (.Continue pos) .cont := by
  intro X C W F k M
  refine ps_mono ps_continue fun D σ H ⟨A, ρ, g, E, G, q⟩ => ?_
  unfold run at q
  exact q σ H A .refl E G
theorem semS_brk {c : Ctx} {pos : Pos} : SemS c (.Break pos) .brk := by
  intro X C W F k M
  refine ps_mono ps_break fun D σ H ⟨A, ρ, g, E, G, q⟩ => ?_
  unfold run at q
  exact q σ H A .refl E G
theorem semB_nil {c : Ctx} : SemB c [] [] := by
  intro X C W F k M
  refine pss_mono pss_nil fun D σ H ⟨A, ρ, g, E, G, q⟩ => ?_
  unfold runs at q
  exact q σ H A .refl E G
theorem semB_cons {c : Ctx} {st : Stmt} {sts : List Stmt} {s' : Sm} {ss' : List Sm} (h1 : SemS c st s') (h2 : SemB c sts ss') : SemB c (st :: sts) (s' :: ss') := by
  intro X C W F k M
  refine pss_mono (pss_cons (h1 X C W F k M) (h2 X C W F k M)) fun D σ H ⟨A, ρ, g, E, G, q⟩ => ?_
  unfold runs at q
  refine ⟨A, ρ, g, E, G, ?_⟩
  revert q
  cases run F s' ρ g with
  | bad => exact fun q => q
  | exc c g1 => exact fun q => q
  | ok o g1 =>
    cases o with
    | nx ρ1 =>
      intro q σ' H' A' e E' G'
      exact ⟨A', ρ1, g1, E', G', RunS.chgE (show RunS C W A H (runs F ss' ρ1 g1) D from q) E e⟩
    | bk ρ1 => exact fun q => q
    | ct ρ1 => exact fun q => q
    | rt d f => exact fun q => q
theorem semS_if {c : Ctx} {t : Expr} {a b : List Stmt} {t' : Ex} {a' b' : List Sm} {pos : Pos} (ht : SemT c t t') (ha : SemB c a a') (hb : SemB c b b') : SemS c (.If t a b pos) (.ifs t' a' b') := by
  intro X C W F k M
  refine ps_mono (ps_if (ht X C W F k M.toMt) (ha X C W F k M) (hb X C W F k M)) fun D σ H ⟨A, ρ, g, E, G, q⟩ => ?_
  unfold run at q
  refine tT_S _ E G q fun d g' H' e E' G' q' => ?_
  cases d with
  | true => exact ⟨A, ρ, g', E', G', q'⟩
  | false => exact ⟨A, ρ, g', E', G', q'⟩
/-- x = e, a name -/
theorem semS_set {c : Ctx} {x : Str} {i : Nat} {e : Expr} {e' : Ex} {p pos : Pos} (hN : c.N[i]? = some x) (hl : locB c x = true) (h : Sem c e e') (hn : noComp e = true) : SemS c (.Assign [.Name x p] e pos) (.set (.nm i) e') := by
  intro X C W F k M
  obtain ⟨h1, h2⟩ := loc_of hl M.toMt
  refine ps_mono (ps_set (i := i) (by rw [M.N]; exact M.nd) (by rw [M.N]; exact hN) h1 (h.w M.toMt) (noSwap hn _ _ _) h2) fun D σ H ⟨A, ρ, g, E, G, q⟩ => ?_
  unfold run at q
  refine ⟨A, tD_W _ E G q fun d g' v H' e E' G' r q' => ?_⟩
  obtain ⟨ρ1, hb, q'⟩ := storeD_ok q'
  unfold bindT at hb
  cases hb
  exact q' _ H' A .refl (E'.set r) G'
theorem semS_setF {c : Ctx} {x : Str} {i : Nat} {e : Expr} {e' : Ex} {p pos : Pos} (hN : c.N[i]? = some x) (hl : locB c x = true) (h : Sem c e e') (hn : noComp e = true) : SemS c (.Assign [.Name x p] e pos) (.setF (.nm i) e') := by
  intro X C W F k M
  obtain ⟨h1, h2⟩ := loc_of hl M.toMt
  refine ps_mono (ps_set (i := i) (by rw [M.N]; exact M.nd) (by rw [M.N]; exact hN) h1 (h.run X C W F k M.toMt) (noSwap hn _ _ _) h2) fun D σ H ⟨A, ρ, g, E, G, q⟩ => ?_
  unfold run at q
  refine tD_S _ E G q fun d g' v H' e E' G' r q' => ?_
  cases hf : flatD d with
  | false => rw [hf] at q'; exact q'.elim
  | true =>
    rw [hf] at q'
    obtain ⟨ρ1, hb, q'⟩ := storeD_ok (show RunS C W A H' (storeD (.nm i) d ρ g') D from q')
    unfold bindT at hb
    cases hb
    exact q' _ H' A .refl (E'.set (r.flat E'.kind hf)) G'
theorem semS_setLc {c : Ctx} {x : Str} {i : Nat} {p pos spos : Pos} {elt tgE iter : Expr} {ifs : List Expr} {scope : Scope} {own : List (Str × Nat)} {elt' : Ex} {tg : Tg} {src cond : Ex} (L : LcOk c elt tgE iter ifs scope own elt' tg src cond)
    (hN : c.N[i]? = some x) (hl : kindB c.sc x = some .local) (hk : c.sc.kind = .function) (hline : (p.line == pos.line) = true) (ha : (scope.names.any fun (n, k) => n == x && (k == .local || k == .cell)) = false) :
    SemS c (.Assign [.Name x p] (.ListComp elt [⟨tgE, iter, ifs, 0⟩] scope pos) spos) (.set (.nm i) (.lc elt' tg src cond (own.map (·.2)))) := by
  intro X C W F k M
  have hX : X.env.scope.names.lookup x = some .local := by rw [M.sc]; exact hl
  refine ps_mono (ps_setLc (i := i) M.calm (by rw [M.N]; exact M.nd) (by rw [M.N]; exact hN) hX (sw_true (by rw [M.sc]; exact hk) hX hline ha) (L.hi.w M.toMt) (L.blk M.toMt) (L.pg M.toMt) (L.pt M.toMt) (L.pe M.toMt) (L.hi.ns _)) fun D σ H ⟨A, ρ, g, E, G, q⟩ => ?_
  unfold run at q
  refine ⟨A, lc_reading (X := X) (C := C.w A) (Q := fun x H1 => gName i x σ H1 D.nx) L.sub (tD_W _ E G q fun d g' v H' e E' G' r q' => ?_)⟩
  obtain ⟨ρ1, hb, q'⟩ := storeD_ok q'
  unfold bindT at hb
  cases hb
  exact q' _ H' A .refl (E'.set r) G'
def noTup : Expr → Bool
  | .Tuple .. => false
  | _ => true
theorem noSwapped {e t : Expr} (h : noTup e = true) (env : Env) : swappedStores [t] e env = pure none := by
  cases t <;> cases e <;> first | rfl | exact absurd (show false = true from h) Bool.false_ne_true
/-- a, b = e -/
theorem semS_unp {c : Ctx} {t : Expr} {tg : Tg} {e : Expr} {e' : Ex} {pos : Pos} (ht : SemG c t tg) (h : Sem c e e') (hn : noComp e = true) (hn2 : noTup e = true) : SemS c (.Assign [t] e pos) (.set tg e') := by
  intro X C W F k M
  refine ps_mono (ps_asg (h.w M.toMt) (ht.w M.toMt) (noSwap hn _ _ _) (noSwapped hn2 _) (by rw [asg_plain ht.2]; rfl)) fun D σ H ⟨A, ρ, g, E, G, q⟩ => ?_
  unfold run at q
  refine ⟨A, tD_W _ E G q fun d g' v H' e E' G' r q' => ?_⟩
  obtain ⟨ρ1, hb, q'⟩ := storeD_ok q'
  exact ⟨A, d, ρ, ρ1, r, hb, fun σ' S _ => q' σ' H' A .refl (E'.sets S) G'⟩
/-- o[i] = e, o the cup -/
theorem semS_put {c : Ctx} {x : Str} {i : Nat} {ie e : Expr} {ie' e' : Ex} {p p2 pos : Pos} (hN : c.N[i]? = some x) (hv : visB c.sc x = true) (hd : dbgB x = false) (hi : Sem c ie ie') (h : Sem c e e') (hn : noComp e = true) (hn2 : noTup e = true) (hs : noSlice ie = true) :
    SemS c (.Assign [.Subscript (.Name x p) ie p2] e pos) (.putIx i ie' e') := by
  intro X C W F k M
  have ho := (sem_var (pos := p) hN hv hd).run X C W F k M.toMt
  refine ps_mono (ps_asg (h.run X C W F k M.toMt) (pg_sub ho (hi.run X C W F k M.toMt) set_list (by intro v; cases ie <;> first | rfl | exact absurd (show false = true from hs) Bool.false_ne_true)) (noSwap hn (some (.Subscript (.Name x p) ie p2)) pos.line X.env) (noSwapped hn2 _) rfl) fun D σ H ⟨A, ρ, g, E, G, q⟩ => ?_
  unfold run at q
  refine tD_S _ E G q fun d g' v H' e E' G' r q' => ?_
  cases hr : ρ.getD i none with
  | none => rw [hr] at q'; exact q'.elim
  | some o =>
    rw [hr] at q'
    cases o with
    | cup =>
      have q' : RunS C W A H' ((den F ie' (R.strip ρ) g').bind fun y g => putIxD i ρ y d g) D := q'
      refine ⟨R.strip ρ, g', E'.strip, G', ?_⟩
      have hr2 : (R.strip ρ).getD i none = some .cup := by
        unfold R.strip
        rw [List.getD_eq_getElem?_getD, List.getElem?_map]
        rw [List.getD_eq_getElem?_getD] at hr
        cases hq : ρ[i]? with
        | none => rw [hq] at hr; cases hr
        | some z => rw [hq] at hr; cases hr; rfl
      unfold den
      rw [hr2]
      intro vo H1 e1 G1 ro
      cases ro with
      | @cup a hcup =>
        have E1 := E'.ext e1
        refine tD_S _ E1 G1 (q'.chgE E' (Chg.ext e1 E'.nc G1)) fun y g2 vi H2 e2 E2 G2 ri q2 => ?_
        cases y with
        | int k =>
          have q2 : RunS C W A H2 (match ixD g2.length k with | some j => if flatD d then .ok (.nx ρ) (g2.set j d) else .bad | none => .bad) D := q2
          cases hj : ixD g2.length k with
          | none => rw [hj] at q2; exact q2.elim
          | some j =>
            rw [hj] at q2
            cases hf : flatD d with
            | false => rw [hf] at q2; exact q2.elim
            | true =>
              rw [hf] at q2
              obtain ⟨vs, h1, h2⟩ := G2.2 a hcup
              refine ⟨a, vs, k, j, rfl, ri.int_inv, h1, by rw [← ixD_eq, h2.len]; exact hj, ?_⟩
              have e3 : Ext C H2 (upd H2 a (.lst (vs.set j v))) := fun b o hb hc => by
                rw [upd_ne (fun z => hc (by rw [z]; exact hcup))]; exact hb
              have G3 : GR C (g2.set j d) (upd H2 a (.lst (vs.set j v))) := by
                refine ⟨fun b hb => ?_, fun b hb => ?_⟩
                · by_cases z : b = a
                  · subst z; rw [upd_same]; exact fun z => nomatch z
                  · rw [upd_ne z]; exact G2.1 b hb
                · have z : b = a := Option.some.inj (hb.symm.trans hcup)
                  subst z
                  refine ⟨_, upd_same, (RpL.set ((r.ext e1).ext e2) j h2.rp).ext e3, ?_⟩
                  have key : ∀ (l : List Dat) (j : Nat), flatL l = true → flatL (l.set j d) = true := by
                    intro l
                    induction l with
                    | nil => intro j h; exact h
                    | cons x l ih =>
                      intro j h
                      rw [flatL_cons, Bool.and_eq_true] at h
                      cases j with
                      | zero => rw [List.set_cons_zero, flatL_cons, hf, h.2]; rfl
                      | succ j => rw [List.set_cons_succ, flatL_cons, h.1, ih j h.2]; rfl
                  exact key g2 j h2.fl
              exact RunS.chgE (show RunS C W A H2 (.ok (.nx ρ) (g2.set j d)) D from q2) E2 (Chg.ext e3 E2.nc G3) σ _ A .refl (E2.ext e3) G3
        | _ => exact q2.elim
    | _ => exact q'.elim
end R
set_option Elab.async false
set_option linter.all false
set_option maxRecDepth 100000
set_option maxHeartbeats 4000000
/-! x = {k: v for ..}. -/
namespace R
open PySem PySem.Spec PyProof.Rows L2
theorem fix_inv {X : Cx} {pins : List (Addr × Obj)} {σ : L2.St} {H1 : Hp} {s : Shared} {D : Addr} {Q : VK} (I : Inv X pins σ H1 s) (h : FixAt X (.ref D) H1 Q) : ∃ H2, Inv X pins σ H2 s ∧ Q (.ref D) H2 ∧ ∀ b, H1 b = none → H2 b = none := by
  rcases h with ⟨D', kvs, e, hD, q⟩ | ⟨D', xs, e, hD, q⟩
  · cases e
    obtain ⟨z, sy, vs, kv, dd⟩ := dk_of I.hok hD
    have dd2 := dd
    obtain ⟨o, es, ep, ho, _⟩ := dd2
    have I1 : Inv X pins σ (upd H1 D (.frz o (.dK kvs))) { s with heap := s.heap } := I.write (t' := s.toks) (e := D) (by rw [hD]; exact True.intro) (.inl rfl) (fun b u _ e => e) ⟨o, ho⟩ ⟨ho, z, sy, vs, kv, dd⟩
    exact ⟨_, I1, q o, fun b hb => by rw [upd_ne (fun z => by subst z; rw [hD] at hb; cases hb)]; exact hb⟩
  · cases e
    obtain ⟨sy, o, es, ep, ho, ex, hd, he, hn⟩ := nD_at I hD
    have I1 : Inv X pins σ (upd H1 D (pinO D o)) { s with heap := s.heap } := I.write (t' := s.toks) (e := D) (by rw [hD]; exact True.intro) (.inl rfl) (fun b u _ e => e) ⟨o, ho⟩ ⟨ho, ⟨o, ho⟩, fun h1 h2 a b => b o a⟩
    refine ⟨_, I1, q o ex ⟨es, ep, hd, ?_⟩ sy, fun b hb => by rw [upd_ne (fun z => by subst z; rw [hD] at hb; cases hb)]; exact hb⟩
    rw [he, List.map_map, List.map_map]
    rfl
theorem sw_trueD {ke ve : Expr} {gs : List Comprehension} {scope : Scope} {pos py : Pos} {y : Str} {l : Nat} {env : Env} (hk : env.scope.kind = .function) (hy : env.scope.names.lookup y = some .local) (hl : (py.line == pos.line) = true)
    (ha : (scope.names.any fun (n, k) => n == y && (k == .local || k == .cell)) = false) : swapsWith (.DictComp ke ve gs scope pos) (some (.Name y py)) l env = pure true := by
  have k1 : env.kindOf y = some .local := hy
  have k2 : env.blockKind = .function := by unfold Env.blockKind; rw [hk]; rfl
  unfold swapsWith
  simp only [k2, k1, ha, Expr.pos, hl]
  rfl
section
variable {X : Cx}
theorem ps_setDc {i : Nat} {y : Str} {py : Pos} {ke ve te it : Expr} {cs : List Expr} {sc : Scope} {own : List (Str × Nat)} {p1 spos : Pos} {wi : TI} {g : TG} {tt : TT} {tk tv : TE} (Y : Way X.prog X.w X.K) (hc : X.calm = true) (hu : X.A.units + 64 < cLine) (hN : X.N.Nodup) (hy : X.N[i]? = some y)
    (hyl : X.env.scope.names.lookup y = some .local) (hsw : swapsWith (.DictComp ke ve [⟨te, it, cs, 0⟩] sc p1) (some (.Name y py)) spos.line X.env = pure true) (hi : PI X te it wi) (ok : BlkOk X.N X.env.scope sc own)
    (hg : ∀ (s : Shared) (H : Hp) (C : Addr) (cl : List (Str × Addr)) (fp : List Addr), PG (X.blk s H sc (compEnvC sc cl C X.env) fp) te g)
    (ht : ∀ (s : Shared) (H : Hp) (C : Addr) (cl : List (Str × Addr)) (fp : List Addr), PTs (X.blk s H sc (compEnvC sc cl C X.env) fp) cs tt)
    (hk : ∀ (s : Shared) (H : Hp) (C : Addr) (cl : List (Str × Addr)) (fp : List Addr), PE (X.blk s H sc (compEnvC sc cl C X.env) fp) ke tk)
    (hv : ∀ (s : Shared) (H : Hp) (C : Addr) (cl : List (Str × Addr)) (fp : List Addr), PE (X.blk s H sc (compEnvC sc cl C X.env) fp) ve tv) (hs : ∀ x, foldedSetIterable it X.env x = pure x) :
    PS X (.Assign [.Name y py] (.DictComp ke ve [⟨te, it, cs, 0⟩] sc p1) spos) (tAsg (fun σ H Q => tDcW Y wi g tt tk tv (own.map (·.2)) σ H fun v H1 => FixAt X v H1 Q) (gName i)) := by
  refine ⟨fun pins s σ H D I h => ?_⟩
  rw [exec_Assign_Name_used _ _ _ _ hsw]
  refine wpAny_bind (wpAny_standAt (wpAny_bind ?_))
  have h : tDcW Y wi g tt tk tv (own.map (·.2)) σ H (fun x H1 => FixAt X x H1 fun x H1 => gName i x σ H1 D.nx) := h
  show wpAny _ X.A (do let _ ← comprehension (.DictComp ke ve [⟨te, it, cs, 0⟩] sc p1) sc X.env (firstIterPos [⟨te, it, cs, 0⟩] p1) newDict false (eval it X.env) (some (assign (.Name y py) X.env))) _ _ s
  refine wpAny_bind (thn (dcw_run (Qf := fun _ s' => SP X pins D .next s') Y hc hu hN I hi ok hg ht hk hv hs h fun L C s' m H' I' q hn f => ?_) fun _ s' hq => wpAny_pure (wpAny_pure hq))
  obtain ⟨H2, I2, q2, fr⟩ := fix_inv I' q
  refine (show wpAny _ _ (assign (.Name y py) X.env (.ref L)) _ _ _ from wpAny_assign_Name (store_ok2 (v := V.ref L) I2 hN hy (.inl hyl) rfl (fun s3 I3 ⟨a, sb, ha⟩ => ?_) (.inr hyl)))
  obtain ⟨f0, f1, f2, f3, f4, f5⟩ := f
  have hCa : C ≠ a := ha.elim (fun z => by rw [z]; exact f1) fun z e => f4 y a z e.symm
  exact ⟨m, hn.sameBut sb hCa, fun h3 sb3 => ⟨_, H2, I3.turned (t' := s3.toks) (fun b o hb e => (sb3.2 b hb).trans e) (fr _ f0) f1 f3 f4 f5, q2⟩⟩
end
theorem store_read {C : Cfg} {W : WX} {F : Nat → List Dat → Mo Dat} {i : Nat} {e' : Ex} {D : Ends} {σ : L2.St} {H : Hp} (q : tS C W (run F (.set (.nm i) e')) D σ H) : ∃ A, tD (C.w A) W (den F e') σ H (fun v H1 => gName i v σ H1 D.nx) := by
  obtain ⟨A, ρ, g, E, G, q⟩ := q
  unfold run at q
  refine ⟨A, tD_W _ E G q fun d g' v H' e E' G' r q' => ?_⟩
  obtain ⟨ρ1, hb, q'⟩ := storeD_ok q'
  unfold bindT at hb
  cases hb
  exact q' _ H' A .refl (E'.set r) G'
theorem semS_setDcK {c : Ctx} {x : Str} {i : Nat} {p pos spos : Pos} {kE vE tgE iter : Expr} {ifs : List Expr} {scope : Scope} {own : List (Str × Nat)} {kx vx : Ex} {tg : Tg} {src cond : Ex} (L : DcOk c kE vE tgE iter ifs scope own kx vx tg src cond)
    (hN : c.N[i]? = some x) (hl : kindB c.sc x = some .local) (hk : c.sc.kind = .function) (hline : (p.line == pos.line) = true) (ha : (scope.names.any fun (n, k) => n == x && (k == .local || k == .cell)) = false) :
    SemS c (.Assign [.Name x p] (.DictComp kE vE [⟨tgE, iter, ifs, 0⟩] scope pos) spos) (.set (.nm i) (.dc kx vx false tg src cond (own.map (·.2)))) := by
  intro X C W F k M
  have hX : X.env.scope.names.lookup x = some .local := by rw [M.sc]; exact hl
  refine ps_mono (ps_setDc (i := i) (wayK X.prog X.w X.K) M.calm M.room.units (by rw [M.N]; exact M.nd) (by rw [M.N]; exact hN) hX (sw_trueD (by rw [M.sc]; exact hk) hX hline ha) (L.hi.w M.toMt) (by rw [M.N, M.sc]; exact blkOk_by L.ok) (pgB L.hg M.toMt) (ptB L.hc M.toMt) (peB L.hk M.toMt) (peB L.hv M.toMt) (L.hi.ns _)) fun D σ H q => ?_
  obtain ⟨A, q⟩ := store_read q
  exact ⟨A, dcK_read (X := X) (C := C.w A) (Q := fun v H1 => gName i v σ H1 D.nx) M.K.symm L.sub q⟩
theorem semS_setDcN {c : Ctx} {x : Str} {i : Nat} {p pos spos : Pos} {kE vE tgE iter : Expr} {ifs : List Expr} {scope : Scope} {own : List (Str × Nat)} {kx vx : Ex} {tg : Tg} {src cond : Ex} (L : DcOk c kE vE tgE iter ifs scope own kx vx tg src cond)
    (hN : c.N[i]? = some x) (hl : kindB c.sc x = some .local) (hk : c.sc.kind = .function) (hline : (p.line == pos.line) = true) (ha : (scope.names.any fun (n, k) => n == x && (k == .local || k == .cell)) = false) :
    SemS c (.Assign [.Name x p] (.DictComp kE vE [⟨tgE, iter, ifs, 0⟩] scope pos) spos) (.set (.nm i) (.dc kx vx true tg src cond (own.map (·.2)))) := by
  intro X C W F k M
  have hX : X.env.scope.names.lookup x = some .local := by rw [M.sc]; exact hl
  refine ps_mono (ps_setDc (i := i) (wayN X.prog X.w X.K) M.calm M.room.units (by rw [M.N]; exact M.nd) (by rw [M.N]; exact hN) hX (sw_trueD (by rw [M.sc]; exact hk) hX hline ha) (L.hi.w M.toMt) (by rw [M.N, M.sc]; exact blkOk_by L.ok) (pgB L.hg M.toMt) (ptB L.hc M.toMt) (peB L.hk M.toMt) (peB L.hv M.toMt) (L.hi.ns _)) fun D σ H q => ?_
  obtain ⟨A, q⟩ := store_read q
  exact ⟨A, dcN_read (X := X) (C := C.w A) (Q := fun v H1 => gName i v σ H1 D.nx) M.K.symm L.sub q⟩
end R
set_option Elab.async false
set_option linter.all false
set_option maxRecDepth 100000
set_option maxHeartbeats 4000000
/-! for, while, raise, one's own lists. -/
namespace R
open PySem PySem.Spec PyProof.Rows L2

theorem forGo_cons {tg : Tg} {body : Sl → Mo Out} {d : Dat} {ds : List Dat} {ρ ρ1 : Sl} {g : List Dat} (h : bindT tg d ρ = some ρ1) : forGo tg body (d :: ds) ρ g = (body ρ1 g).bind fun o g => match o with
      | .nx ρ2 => forGo tg body ds ρ2 g
      | .ct ρ2 => forGo tg body ds ρ2 g
      | .bk ρ2 => .ok (.nx ρ2) g
      | .rt d f => .ok (.rt d f) g := by
  rw [forGo, h] <;> rfl
/-- what is walked, while one's own change -/
theorem walk_own {C : Cfg} {A : List Addr} {J : It} {ds : List Dat} {H1 : Hp} (w : WalkD (C.w A) J ds H1) (hk : ∀ a ∈ A, OwnK H1 a) : Walk J ds.length (fun H => ExtM (C.w A) H1 H) fun i H x H' => ∀ A2 g, Chg C A H1 H A2 → GR C g H → (∀ a ∈ A2, OwnK H a) →
    Ext C H H' ∧ GR C g H' ∧ ∃ d, ds[i]? = some d ∧ Rp (C.w A2) H' x d := by
  have w0 := w.2 (C.w A).M (fun _ h => h) (fun a h1 h2 => absurd h1 h2)
  refine ⟨w0.goes, w0.stops, fun i H x H' hi e y A2 g ch G k2 => ?_⟩
  have hfresh : ∀ a ∈ A2 ++ (A ++ C.M), a ∉ A ++ C.M → H1 a = none := fun a ha hn => by
    rcases List.mem_append.mp ha with h | h
    · rcases ch.new a h with z | z
      · exact absurd (List.mem_append_left _ z) hn
      · exact z
    · exact absurd h hn
  have w2 := w.2 (A2 ++ (A ++ C.M)) (fun a h => List.mem_append_right _ h) hfresh
  have e2 : ExtM { C.w A with M := A2 ++ (A ++ C.M) } H1 H := fun a o h c n => e a o h c fun z => n (List.mem_append_right _ z)
  have kk : ∀ a ∈ A2 ++ A, OwnK H a := fun a ha => (List.mem_append.mp ha).elim (k2 a) fun z => ch.kind a z (hk a z)
  have G2 : GR { C.w A with M := A2 ++ (A ++ C.M) } g H := by
    have := GR.w (A := A2 ++ A) G kk
    rw [show ({ C.w A with M := A2 ++ (A ++ C.M) } : Cfg) = C.w (A2 ++ A) by simp [List.append_assoc]]
    exact this
  obtain ⟨h1, h2, d, h3, h4⟩ := w2.yields i H x H' hi e2 y g G2
  refine ⟨h1, ?_, d, h3, ?_⟩
  · rw [show ({ C.w A with M := A2 ++ (A ++ C.M) } : Cfg) = C.w (A2 ++ A) by simp [List.append_assoc]] at h2
    exact h2.un
  · exact Rp.less (C := C.w A2) (M' := A2 ++ (A ++ C.M)) (fun a ha => (List.mem_append.mp ha).elim (List.mem_append_left _) fun z => List.mem_append_right _ (List.mem_append_right _ z)) h4
theorem Chg.m {C : Cfg} {A A' : List Addr} {H H' : Hp} (a : Chg C A H H' A') : ExtM (C.w A) H H' := fun x o h c n => a.keep x o h c fun z => n (List.mem_append_left _ z)
theorem semS_for {c : Ctx} {t it : Expr} {tg : Tg} {src : Ex} {b : List Stmt} {b' : List Sm} {pos : Pos} (ht : SemG c t tg) (hi : SemI c t it src) (hb : SemB c b b') : SemS c (.For t it b [] pos) (.fors tg src b') := by
  intro X C W F k M
  refine ps_mono (ps_for M.po M.calm (hi.w M.toMt) (ht.w M.toMt) (hb X C W F k M) (hi.ns _)) fun D σ H ⟨A, ρ, g, E, G, q⟩ => ?_
  unfold run at q
  refine ⟨A, R.erase ρ, g, E.erase, G.w E.kind, ?_⟩
  revert q
  cases hd : den F src (R.erase ρ) g with
  | bad => exact fun q => q
  | exc c1 g1 => exact fun q H' e G' => q σ H' (Chg.ext (C := C) e E.nc G'.un).nil G'.un
  | ok d g1 =>
    intro q
    have q : RunS C W A H ((ofO (itemsD d) g1).bind fun ds g => forGo tg (fun ρ g => runs F b' ρ g) ds ρ g) D := q
    dsimp only
    revert q
    cases itemsD d with
    | none => exact fun q => q
    | some ds =>
      intro q J H1 e1 G1 w
      have E1 : EnvO C A H1 σ ρ := E.ext e1
      have c1 : Chg C A H H1 A := Chg.ext (C := C) e1 E.nc G1.un
      have q : RunS C W A H1 (forGo tg (fun ρ g => runs F b' ρ g) ds ρ g1) D := RunS.chgE (show RunS C W A H (forGo tg (fun ρ g => runs F b' ρ g) ds ρ g1) D from q) E c1
      refine for_it (walk_own w E1.kind) (fun i σ H => ∃ A2 ρ g, Chg C A H1 H A2 ∧ EnvO C A2 H σ ρ ∧ GR C g H ∧ RunS C W A2 H (forGo tg (fun ρ g => runs F b' ρ g) (ds.drop i) ρ g) D) ⟨A, ρ, g1, .refl, E1, G1.un, q⟩ (fun i σ H _ ⟨_, _, _, ch, _⟩ => ch.m) ?_ ?_
      · rintro i x σ2 H2 H3 hlt ⟨A2, ρ2, g2, ch, E2, G2, q2⟩ y
        obtain ⟨e3, G3, d, hd, rd⟩ := y A2 g2 ch G2 E2.kind
        have hdr : ds.drop i = d :: ds.drop (i + 1) := by
          rw [List.drop_eq_getElem_cons hlt]
          rw [List.getElem?_eq_getElem hlt] at hd
          rw [Option.some.inj hd]
        rw [hdr] at q2
        have c3 : Chg C A2 H2 H3 A2 := Chg.ext e3 E2.nc G3
        have q2 := q2.chgE E2 c3
        have E3 := E2.ext e3
        cases hbt : bindT tg d ρ2 with
        | none => rw [forGo, hbt] at q2; exact q2.elim
        | some ρ3 =>
          rw [forGo_cons hbt] at q2
          refine ⟨A2, d, ρ2, ρ3, rd, hbt, fun σ3 S _ => ⟨A2, ρ3, g2, E3.sets S, G3, ?_⟩⟩
          have E4 := E3.sets S
          have c13 : Chg C A H1 H3 A2 := ch.trans c3 E1.kind E1.nc
          revert q2
          cases runs F b' ρ3 g2 with
          | bad => exact fun q => q
          | exc c1 g3 => exact fun q => q
          | ok o g3 =>
            cases o with
            | nx ρ4 =>
              intro q2 σ4 H4 A4 e4 E5 G4
              exact ⟨A4, ρ4, g3, c13.trans e4 E1.kind E1.nc, E5, G4, RunS.chgE (show RunS C W A2 H3 (forGo tg (fun ρ g => runs F b' ρ g) (ds.drop (i + 1)) ρ4 g3) D from q2) E4 e4⟩
            | ct ρ4 =>
              intro q2 σ4 H4 A4 e4 E5 G4
              exact ⟨A4, ρ4, g3, c13.trans e4 E1.kind E1.nc, E5, G4, RunS.chgE (show RunS C W A2 H3 (forGo tg (fun ρ g => runs F b' ρ g) (ds.drop (i + 1)) ρ4 g3) D from q2) E4 e4⟩
            | bk ρ4 => exact fun q2 σ4 H4 A4 e4 E5 G4 => q2 σ4 H4 A4 e4 E5 G4
            | rt d f => exact fun q2 => q2
      · rintro σ2 H2 ⟨A2, ρ2, g2, ch, E2, G2, q2⟩
        rw [List.drop_eq_nil_of_le (Nat.le_refl _), forGo] at q2
        exact q2 σ2 H2 A2 .refl E2 G2
/-- raise X('m') -/
theorem semS_raise {c : Ctx} {x m : Str} {i j : Nat} {p p2 pos pos2 : Pos} (hl : c.exs.lookup x = some i) (hg : kindB c.sc x = some .globalImplicit) (hd : dbgB x = false) : SemS c (.Raise (some (.Call (.Name x p) [.Constant (.str m) j p2] [] pos)) none pos2) (.raise i) := by
  intro X C W F k M
  obtain ⟨Cx, h1, h2, h3, h4, h5, h6⟩ := M.ex x i hl
  obtain ⟨d1, d2, d3⟩ := dbg_of hd
  refine ps_mono (ps_raise M.calm M.tk (pmk_own PySem.F.excBase_ValueError h3 h1 h4 (raises_own h5 h6) (show X.env.scope.names.lookup x = some .globalImplicit by rw [M.sc]; exact hg) d1)) fun D σ H ⟨A, ρ, g, E, G, q⟩ => ?_
  unfold run at q
  have := q σ H Chg.refl.nil G
  rw [h2] at this
  exact this
/-- what is not told: nothing is promised -/
def stuckE : Ex := .neg (.con .non)
theorem stuck_den {F : Nat → List Dat → Mo Dat} {ρ : Sl} {g : List Dat} : den F stuckE ρ g = .bad := by
  unfold stuckE
  simp only [den]
  rfl
theorem semS_stuck {c : Ctx} {st : Stmt} : SemS c st (.expr stuckE) := by
  intro X C W F k M
  refine ⟨fun pins s σ H D I ⟨A, ρ, g, E, G, q⟩ => ?_⟩
  unfold run at q
  rw [stuck_den] at q
  exact q.elim
/-! ### while -/
theorem semS_while {c : Ctx} {t : Expr} {t' : Ex} {b : List Stmt} {b' : List Sm} {n : Nat} {pos : Pos} (ht : SemT c t t') (hb : SemB c b b') : SemS c (.While t b [] pos) (.whl n t' b') := by
  intro X C W F k M
  refine ps_mono (ps_while M.po (ht X C W F k M.toMt) (hb X C W F k M)) fun D σ H ⟨A, ρ, g, E, G, q⟩ => ?_
  unfold run at q
  refine ⟨fun m σ H => ∃ A ρ g, EnvO C A H σ ρ ∧ GR C g H ∧ RunS C W A H (whlGo (fun ρ g => denB F t' (R.strip ρ) g) (fun ρ g => runs F b' ρ g) m ρ g) D, ⟨n, A, ρ, g, E, G, q⟩, ?_⟩
  rintro m σ H ⟨A, ρ, g, E, G, q⟩
  cases m with
  | zero => rw [whlGo] at q; exact q.elim
  | succ m =>
    rw [whlGo] at q
    refine tT_S _ E G q fun kb g' H' e E' G' q' => ?_
    cases kb with
    | false => exact q' σ H' A .refl E' G'
    | true =>
      refine ⟨fun σ' H' => ∃ A ρ g, EnvO C A H' σ' ρ ∧ GR C g H' ∧ RunS C W A H' (whlGo (fun ρ g => denB F t' (R.strip ρ) g) (fun ρ g => runs F b' ρ g) m ρ g) D, fun σ' H' h => ⟨m, Nat.lt_succ_self m, h⟩, A, ρ, g', E', G', ?_⟩
      have q' : RunS C W A H' ((runs F b' ρ g').bind fun o g => match o with
        | .nx ρ2 => whlGo (fun ρ g => denB F t' (R.strip ρ) g) (fun ρ g => runs F b' ρ g) m ρ2 g
        | .ct ρ2 => whlGo (fun ρ g => denB F t' (R.strip ρ) g) (fun ρ g => runs F b' ρ g) m ρ2 g
        | .bk ρ2 => .ok (.nx ρ2) g
        | .rt d f => .ok (.rt d f) g) D := q'
      revert q'
      cases runs F b' ρ g' with
      | bad => exact fun q => q
      | exc c1 g3 => exact fun q => q
      | ok o g3 =>
        cases o with
        | nx ρ4 => exact fun q2 σ4 H4 A4 e4 E5 G4 => ⟨A4, ρ4, g3, E5, G4, RunS.chgE (show RunS C W A H' (whlGo (fun ρ g => denB F t' (R.strip ρ) g) (fun ρ g => runs F b' ρ g) m ρ4 g3) D from q2) E' e4⟩
        | ct ρ4 => exact fun q2 σ4 H4 A4 e4 E5 G4 => ⟨A4, ρ4, g3, E5, G4, RunS.chgE (show RunS C W A H' (whlGo (fun ρ g => denB F t' (R.strip ρ) g) (fun ρ g => runs F b' ρ g) m ρ4 g3) D from q2) E' e4⟩
        | bk ρ4 => exact fun q2 σ4 H4 A4 e4 E5 G4 => q2 σ4 H4 A4 e4 E5 G4
        | rt d f => exact fun q2 => q2
end R
set_option Elab.async false
set_option linter.all false
set_option maxRecDepth 100000
set_option maxHeartbeats 4000000
/-! One's own lists: made, grown, given up. -/
namespace R
open PySem PySem.Spec PyProof.Rows L2

theorem getD_some {ρ : Sl} {i : Nat} {d : Dat} (h : ρ.getD i none = some d) : ρ[i]? = some (some d) := by
  rw [List.getD_eq_getElem?_getD] at h
  cases hq : ρ[i]? with
  | none => rw [hq] at h; cases h
  | some z => rw [hq] at h; rw [show z = some d from h]
/-- given up: from now on it is not changed -/
theorem EnvO.frz {C : Cfg} {A : List Addr} {H : Hp} {σ : L2.St} {ρ : Sl} {i : Nat} {d : Dat} (E : EnvO C A H σ ρ) (h : ρ[i]? = some (some (.own d))) : ∃ A', Chg C A H H A' ∧ EnvO C A' H σ (ρ.set i (some d)) := by
  obtain ⟨v, h1, h2⟩ := E.all i _ h
  cases h2 with
  | rp r => cases r
  | @own a _ ha ho =>
    have sub : ∀ x ∈ A.filter (fun b => decide (b ≠ a)), x ∈ A := fun x hx => (List.mem_filter.mp hx).1
    have subW : ∀ x ∈ A.filter (fun b => decide (b ≠ a)) ++ C.M, x ∈ A ++ C.M := fun x hx => (List.mem_append.mp hx).elim (fun z => List.mem_append_left _ (sub x z)) (List.mem_append_right _)
    refine ⟨A.filter (fun b => decide (b ≠ a)), ⟨fun _ _ h _ _ => h, fun x hx => .inl (sub x hx), fun _ h => h, fun _ _ h => h⟩, by simp [E.len], fun j e hj => ?_, fun j k e f b hne q1 q2 q3 => ?_, fun x hx => E.out x (sub x hx), fun x hx => E.kind x (sub x hx)⟩
    · by_cases hij : i = j
      · subst hij
        have hl : i < ρ.length := (List.getElem?_eq_some_iff.mp h).1
        rw [List.getElem?_set_self hl] at hj
        cases hj
        refine ⟨_, h1, .rp ((OwnAt.less (C := C.w (A.filter (fun b => decide (b ≠ a)))) (M' := A ++ C.M) ho subW).rp ⟨(E.out a ha).1, fun hm => ?_⟩)⟩
        rcases List.mem_append.mp hm with z | z
        · have := (List.mem_filter.mp z).2
          simp at this
        · exact (E.out a ha).2 z
      · rw [List.getElem?_set_ne hij] at hj
        obtain ⟨w, w1, w2⟩ := E.all j e hj
        refine ⟨w, w1, ?_⟩
        cases w2 with
        | rp r => exact .rp (Rp.less (C := C.w (A.filter (fun b => decide (b ≠ a)))) (M' := A ++ C.M) subW r)
        | @own b e' hb ho2 =>
          refine .own (List.mem_filter.mpr ⟨hb, ?_⟩) (OwnAt.less (C := C.w (A.filter (fun b => decide (b ≠ a)))) (M' := A ++ C.M) ho2 subW)
          have : b ≠ a := fun z => by
            subst z
            exact E.ne i j _ _ _ hij h hj h1 w1
          simpa using this
    · have key : ∀ (m : Nat) (x : Dat), (ρ.set i (some d))[m]? = some (some (.own x)) → i ≠ m := fun m x hx hm => by
        subst hm
        have hl : i < ρ.length := (List.getElem?_eq_some_iff.mp h).1
        rw [List.getElem?_set_self hl] at hx
        cases hx
        cases ho
      have k1 := key j e q1
      have k2 := key k f q2
      rw [List.getElem?_set_ne k1] at q1
      rw [List.getElem?_set_ne k2] at q2
      exact E.ne j k e f b hne q1 q2 q3
theorem semB_frz {c : Ctx} {sts : List Stmt} {ss' : List Sm} {i : Nat} (h : SemB c sts ss') : SemB c sts (.frz i :: ss') := by
  intro X C W F k M
  refine pss_mono (h X C W F k M) fun D σ H ⟨A, ρ, g, E, G, q⟩ => ?_
  unfold runs run frzD at q
  revert q
  cases hr : ρ.getD i none with
  | none => exact fun q => ⟨A, ρ, g, E, G, q⟩
  | some o =>
    cases o with
    | own d =>
      intro q
      obtain ⟨A', ch, E'⟩ := E.frz (getD_some hr)
      exact ⟨A', _, g, E', G, RunS.chgE (show RunS C W A H (runs F ss' (ρ.set i (some d)) g) D from q) E ch⟩
    | _ => exact fun q => ⟨A, ρ, g, E, G, q⟩
/-- what stands at p is new and one's own -/
theorem EnvO.newAt {C : Cfg} {A : List Addr} {H H' : Hp} {g g' : List Dat} {σ : L2.St} {ρ : Sl} {i : Nat} {p : Addr} {d0 : Dat} (E : EnvO C A H σ ρ) (G : GR C g H) (hp : H p = none) (x : Ext C H H') (G' : GR C g' H') (ho0 : OwnAt (C.w (p :: A)) H' p d0) :
    Chg C A H H' (p :: A) ∧ EnvO C (p :: A) H' (σ.set i (some (.ref p))) (ρ.set i (some (.own d0))) := by
  have hn : ∀ a ∈ (p :: A) ++ C.M, a ∉ A ++ C.M → H a = none := fun a ha hm => by
    rcases List.mem_cons.mp ha with z | z
    · rw [z]; exact hp
    · exact absurd z hm
  have e : ExtM (C.w (p :: A)) H H' := Ext.m (C := C.w (p :: A)) x
  have hAe : ∀ a ∈ A, H' a = H a := fun a ha => by
    cases q : H a with
    | none => exact absurd q (E.kind a ha).some
    | some o => exact x a o q (E.out a ha).1
  have hpa : ∀ a ∈ A, a ≠ p := fun a ha z => by
    subst z
    exact (E.kind a ha).some hp
  refine ⟨⟨fun a o h hc _ => x a o h hc, fun a ha => (List.mem_cons.mp ha).elim (fun z => .inr (by rw [z]; exact hp)) .inl, fun a h => ?_, fun a ha k => ?_⟩, by simp [E.len], fun j d hj => ?_, fun j k d f b hne q1 q2 q3 => ?_, fun a ha => ?_, fun a ha => ?_⟩
  · by_cases hcu : C.cup = some a
    · obtain ⟨ws, w1, _⟩ := G'.2 a hcu
      rw [w1]; exact fun z => nomatch z
    · cases q : H a with
      | none => exact absurd q h
      | some o => rw [x a o q hcu]; exact fun z => nomatch z
  · rcases k with ⟨ws, k⟩ | ⟨ws, k⟩
    · exact .inl ⟨ws, by rw [hAe a ha]; exact k⟩
    · exact .inr ⟨ws, by rw [hAe a ha]; exact k⟩
  · by_cases hij : i = j
    · subst hij
      have hl : i < ρ.length := by
        have := (List.getElem?_eq_some_iff.mp hj).1
        simpa using this
      rw [List.getElem?_set_self hl] at hj
      cases hj
      exact ⟨_, by rw [List.getElem?_set_self (by rw [E.len]; exact hl)], .own List.mem_cons_self ho0⟩
    · rw [List.getElem?_set_ne hij] at hj
      obtain ⟨w, w1, w2⟩ := E.all j d hj
      refine ⟨w, by rw [List.getElem?_set_ne hij]; exact w1, ?_⟩
      cases w2 with
      | rp r2 => exact .rp ((Rp.more (C := C.w A) (M' := (p :: A) ++ C.M) hn r2).extM e)
      | @own a d' ha ho => exact .own (List.mem_cons_of_mem _ ha) ((OwnAt.more (C := C.w A) (M' := (p :: A) ++ C.M) ho hn).ext e (hAe a ha))
  · -- the new place is no other's
    have addr : ∀ (m : Nat) (x : Dat) (b : Addr), i ≠ m → ρ[m]? = some (some (.own x)) → σ[m]? = some (some (.ref b)) → b ≠ p := fun m x b _ h1 h2 => by
      obtain ⟨w, w1, w2⟩ := E.all m _ h1
      rw [h2] at w1
      cases w1
      cases w2 with
      | rp r => cases r
      | own ha _ => exact hpa _ ha
    have hl : ∀ m x, (ρ.set i (some (.own d0)))[m]? = some x → i = m → i < ρ.length := fun m x h z => by
      subst z
      have := (List.getElem?_eq_some_iff.mp h).1
      simpa using this
    by_cases hij : i = j
    · have hik : i ≠ k := fun z => hne (hij.symm.trans z)
      have hl1 := hl j _ q1 hij
      subst hij
      rw [List.getElem?_set_self (by rw [E.len]; exact hl1)] at q3
      cases q3
      rw [List.getElem?_set_ne hik] at q2 ⊢
      exact fun z => addr k f p hik q2 z rfl
    · rw [List.getElem?_set_ne hij] at q1 q3
      by_cases hik : i = k
      · have hl1 := hl k _ q2 hik
        subst hik
        rw [List.getElem?_set_self (by rw [E.len]; exact hl1)]
        intro z
        cases z
        exact addr j d p hij q1 q3 rfl
      · rw [List.getElem?_set_ne hik] at q2 ⊢
        exact E.ne j k d f b hne q1 q2 q3
  · rcases List.mem_cons.mp ha with z | z
    · rw [z]; exact G.ne hp
    · exact E.out a z
  · rcases List.mem_cons.mp ha with z | z
    · rw [z]; exact ho0.k
    · rcases E.kind a z with ⟨ws, k⟩ | ⟨ws, k⟩
      · exact .inl ⟨ws, by rw [hAe a z]; exact k⟩
      · exact .inr ⟨ws, by rw [hAe a z]; exact k⟩
theorem EnvO.new {C : Cfg} {A : List Addr} {H : Hp} {g : List Dat} {σ : L2.St} {ρ : Sl} {i : Nat} {p : Addr} {vs : List V} {ds : List Dat} (E : EnvO C A H σ ρ) (G : GR C g H) (hp : H p = none) (hz : ds.length ≤ sizeLine) (r : RpL (C.w A) H vs ds) :
    Chg C A H (upd H p (.lst vs)) (p :: A) ∧ EnvO C (p :: A) (upd H p (.lst vs)) (σ.set i (some (.ref p))) (ρ.set i (some (.own (.lst ds)))) := by
  have hn : ∀ a ∈ (p :: A) ++ C.M, a ∉ A ++ C.M → H a = none := fun a ha hm => by
    rcases List.mem_cons.mp ha with z | z
    · rw [z]; exact hp
    · exact absurd z hm
  have e : ExtM (C.w (p :: A)) H (upd H p (.lst vs)) := (Ext.new (C := C.w (p :: A)) hp).m
  exact E.newAt G hp (Ext.new hp) (G.new hp) (.lst upd_same hz ((RpL.more (C := C.w A) (M' := (p :: A) ++ C.M) hn r).extM e))

def tAW (C : Cfg) (W : WX) (f : Sl → Mo (List Dat)) : TA := fun σ H Q => ∃ A, tA (C.w A) W f σ H Q
theorem SemL.w {c : Ctx} {es : List Expr} {es' : List Ex} (h : SemL c es es') {X : Cx} {C : Cfg} {W : WX} {F : Nat → List Dat → Mo Dat} {k : Nat} (M : Mt X c C W F k) : PA X es (tAW C W (denL F es')) :=
  ⟨fun pos pins s σ H Q I ⟨A, q⟩ => (h.run X (C.w A) W F k (M.w _)).run pos pins s σ H Q I q⟩
/-- x = [..]: one's own from now on -/
theorem semS_newL {c : Ctx} {x : Str} {i : Nat} {es : List Expr} {es' : List Ex} {p p2 pos : Pos} (hN : c.N[i]? = some x) (hl : locB c x = true) (h : SemL c es es') (hz : es'.length ≤ 16777216) : SemS c (.Assign [.Name x p] (.List es p2) pos) (.new i (.lst es')) := by
  intro X C W F k M
  obtain ⟨h1, h2⟩ := loc_of hl M.toMt
  refine ps_mono (ps_set (i := i) (by rw [M.N]; exact M.nd) (by rw [M.N]; exact hN) h1 (pe_lst (h.w M.toMt)) rfl h2) fun D σ H ⟨A, ρ, g, E, G, q⟩ => ?_
  unfold run den at q
  refine ⟨A, tLst_new (X := X) (C := C.w A) (W := W) (F := F) (Q := fun x H1 => gName i x σ H1 D.nx) hz E.erase (G.w E.kind) ?_⟩
  revert q
  cases denL F es' (R.erase ρ) g with
  | ok ds g1 =>
    intro q p H1 vs e1 G1 r1 hp hl
    have E1 : EnvO C A H1 σ ρ := E.ext e1
    have G1 : GR C g1 H1 := G1.un
    obtain ⟨c2, E2⟩ := E1.new (i := i) G1 hp hl r1
    have q : RunS C W A H (.ok (.nx (ρ.set i (some (.own (.lst ds))))) g1) D := q
    exact q _ _ _ ((Chg.ext (C := C) e1 E.nc G1).trans c2 E.kind E.nc) E2 (G1.new hp)
  | exc c g1 => exact fun q H' e G' => q σ H' (Chg.ext (C := C) e E.nc G'.un).nil G'.un
  | bad => exact fun q => q
theorem ownL_inv {ρ : Sl} {i : Nat} (h : ownL (ρ.getD i none) = true) : ∃ xs, ρ.getD i none = some (.own (.lst xs)) := by
  unfold ownL at h
  split at h
  · exact ⟨_, by assumption⟩
  · cases h
/-- one's own list grows -/
theorem EnvO.app {C : Cfg} {A : List Addr} {H : Hp} {g : List Dat} {σ : L2.St} {ρ : Sl} {i : Nat} {v : V} {d : Dat} {xs : List Dat} (E : EnvO C A H σ ρ) (G : GR C g H) (h : ρ[i]? = some (some (.own (.lst xs)))) (hz : xs.length < sizeLine) (r : Rp (C.w A) H v d) :
    ∃ a vs, σ[i]? = some (some (.ref a)) ∧ H a = some (.lst vs) ∧ vs.length < sizeLine ∧ Chg C A H (upd H a (.lst (vs ++ [v]))) A ∧ EnvO C A (upd H a (.lst (vs ++ [v]))) σ (ρ.set i (some (.own (.lst (xs ++ [d]))))) ∧ GR C g (upd H a (.lst (vs ++ [v]))) := by
  obtain ⟨w, h1, h2⟩ := E.all i _ h
  cases h2 with
  | rp r => cases r
  | @own a _ ha ho =>
    cases ho with
    | @lst vs _ hv hl rl =>
      have hlen := rl.len
      have e : ExtM (C.w A) H (upd H a (.lst (vs ++ [v]))) := fun b o hb _ hm => by
        rw [upd_ne (fun z => hm (by rw [z]; exact List.mem_append_left _ ha))]; exact hb
      have kk : ∀ b, OwnK H b → OwnK (upd H a (.lst (vs ++ [v]))) b := fun b k => by
        by_cases z : b = a
        · rw [z]; exact .inl ⟨_, upd_same⟩
        · rcases k with ⟨ws, k⟩ | ⟨ws, k⟩
          · exact .inl ⟨ws, by rw [upd_ne z]; exact k⟩
          · exact .inr ⟨ws, by rw [upd_ne z]; exact k⟩
      have dom : ∀ b, H b ≠ none → upd H a (.lst (vs ++ [v])) b ≠ none := fun b hb => by
        by_cases z : b = a
        · rw [z, upd_same]; exact fun z => nomatch z
        · rw [upd_ne z]; exact hb
      refine ⟨a, vs, h1, hv, by omega, ⟨fun b o hb _ hm => by rw [upd_ne (fun z => hm (by rw [z]; exact ha))]; exact hb, fun b hb => .inl hb, dom, fun b _ k => kk b k⟩, ⟨by simp [E.len], fun j e' hj => ?_, fun j k d' f b hne q1 q2 q3 => ?_, E.out, fun b hb => kk b (E.kind b hb)⟩, fun b hb => dom b (G.1 b hb), fun b hb => ?_⟩
      · by_cases hij : i = j
        · subst hij
          have hlt : i < ρ.length := (List.getElem?_eq_some_iff.mp h).1
          rw [List.getElem?_set_self hlt] at hj
          cases hj
          exact ⟨_, h1, .own ha (.lst upd_same (by rw [List.length_append]; exact hz) ((RpL.append rl (.cons r .nil)).extM e))⟩
        · rw [List.getElem?_set_ne hij] at hj
          obtain ⟨w, w1, w2⟩ := E.all j e' hj
          refine ⟨w, w1, ?_⟩
          cases w2 with
          | rp r2 => exact .rp (r2.extM e)
          | @own b d' hb ho2 =>
            have : b ≠ a := fun z => by
              subst z
              exact E.ne i j _ _ _ hij h hj h1 w1
            exact .own hb (ho2.ext e (upd_ne this))
      · have key : ∀ (m : Nat) (x : Dat), (ρ.set i (some (.own (.lst (xs ++ [d])))))[m]? = some (some (.own x)) → ∃ y, ρ[m]? = some (some (.own y)) := fun m x hx => by
          by_cases hm : i = m
          · subst hm; exact ⟨_, h⟩
          · rw [List.getElem?_set_ne hm] at hx; exact ⟨x, hx⟩
        obtain ⟨y1, z1⟩ := key j d' q1
        obtain ⟨y2, z2⟩ := key k f q2
        exact E.ne j k y1 y2 b hne z1 z2 q3
      · obtain ⟨ws, w1, w2⟩ := G.2 b hb
        have hba : b ≠ a := fun z => (E.out a ha).1 (by rw [← z]; exact hb)
        refine ⟨ws, by rw [upd_ne hba]; exact w1, ?_, w2.fl⟩
        have w3 := w2.rp.flat E.kind w2.fl
        exact (w3.extM e).less inW
theorem semS_app {c : Ctx} {x : Str} {i : Nat} {e : Expr} {e' : Ex} {p apos cpos pos : Pos} (hN : c.N[i]? = some x) (hv : visB c.sc x = true) (hd : dbgB x = false) (h : Sem c e e') (hline : (apos.endLine == cpos.line) = true) :
    SemS c (.Expr (.Call (.Attribute (.Name x p) "append" apos) [e] [] cpos) pos) (.app i e') := by
  intro X C W F k M
  obtain ⟨d1, d2, d3⟩ := dbg_of hd
  have ho : PE X (.Name x p) (tVar i) := pe_var (by rw [M.N]; exact hN) (by rw [M.sc]; exact vis_of hv) d1 d2
  refine ps_mono (ps_expr (pe_bm PySem.F.plainAttrs_list PySem.F.slot_list_append PySem.F.type_list_append mt_append ho (pa_cons (h.w M.toMt) pa_nil (star_plain h.plain)) rfl (by rw [star_plain h.plain]; rfl) hline (star_plain h.plain) rfl) rfl) fun D σ H ⟨A, ρ, g, E, G, q⟩ => ?_
  unfold run at q
  cases ho : ownL (ρ.getD i none) with
  | false => rw [ho] at q; exact q.elim
  | true =>
    rw [ho] at q
    obtain ⟨xs, hr⟩ := ownL_inv ho
    have hr2 := getD_some hr
    obtain ⟨w, h1, h2⟩ := E.all i _ hr2
    cases h2 with
    | rp r => cases r
    | @own a _ ha ho' =>
      cases ho' with
      | @lst vs _ hv' hl rl =>
        refine ⟨.ref a, h1, .inl ⟨rfl, _, SqL.of hv'⟩, A, ?_⟩
        refine tD_W (fun x g => appD i x ρ g) E G q fun d g' v H' e1 E' G' r q' => ?_
        unfold appD at q'
        rw [hr] at q'
        dsimp only at q'
        by_cases hz : xs.length < line
        · rw [if_pos hz] at q'
          obtain ⟨a2, vs2, g1, g2, g3, c1, E2, G2⟩ := E'.app G' hr2 (by rw [← line_eq]; exact hz) r
          rw [h1] at g1
          cases g1
          exact ⟨_, _, _, rfl, rfl, g2, g3, q' σ _ A c1 E2 G2⟩
        · rw [if_neg hz] at q'
          exact q'.elim
theorem semS_appF {c : Ctx} {x : Str} {i : Nat} {e : Expr} {e' : Ex} {p apos cpos pos : Pos} (hN : c.N[i]? = some x) (hv : visB c.sc x = true) (hd : dbgB x = false) (h : Sem c e e') (hline : (apos.endLine == cpos.line) = true) :
    SemS c (.Expr (.Call (.Attribute (.Name x p) "append" apos) [e] [] cpos) pos) (.appF i e') := by
  intro X C W F k M
  obtain ⟨d1, d2, d3⟩ := dbg_of hd
  have ho : PE X (.Name x p) (tVar i) := pe_var (by rw [M.N]; exact hN) (by rw [M.sc]; exact vis_of hv) d1 d2
  refine ps_mono (ps_expr (pe_bm PySem.F.plainAttrs_list PySem.F.slot_list_append PySem.F.type_list_append mt_append ho (pa_cons (h.run X C W F k M.toMt) pa_nil (star_plain h.plain)) rfl (by rw [star_plain h.plain]; rfl) hline (star_plain h.plain) rfl) rfl) fun D σ H ⟨A, ρ, g, E, G, q⟩ => ?_
  unfold run at q
  cases ho : ownL (ρ.getD i none) with
  | false => rw [ho] at q; exact q.elim
  | true =>
    rw [ho] at q
    obtain ⟨xs, hr⟩ := ownL_inv ho
    have hr2 := getD_some hr
    obtain ⟨w, h1, h2⟩ := E.all i _ hr2
    cases h2 with
    | rp r => cases r
    | @own a _ ha ho' =>
      cases ho' with
      | @lst vs _ hv' hl rl =>
        refine ⟨.ref a, h1, .inl ⟨rfl, _, SqL.of hv'⟩, ?_⟩
        refine tD_S (fun x g => if flatD x then appD i x ρ g else .bad) E G q fun d g' v H' e1 E' G' r q' => ?_
        cases hf : flatD d with
        | false => rw [hf] at q'; exact q'.elim
        | true =>
          rw [hf] at q'
          have q' : RunS C W A H' (appD i d ρ g') D := q'
          unfold appD at q'
          rw [hr] at q'
          dsimp only at q'
          by_cases hz : xs.length < line
          · rw [if_pos hz] at q'
            obtain ⟨a2, vs2, g1, g2, g3, c1, E2, G2⟩ := E'.app G' hr2 (by rw [← line_eq]; exact hz) (r.flat E'.kind hf)
            rw [h1] at g1
            cases g1
            exact ⟨_, _, _, rfl, rfl, g2, g3, q' σ _ A c1 E2 G2⟩
          · rw [if_neg hz] at q'
            exact q'.elim
end R
set_option Elab.async false
set_option linter.all false
set_option maxRecDepth 100000
set_option maxHeartbeats 4000000
/-! xs += ys, xs one's own list; x = [.. two clauses ..]. -/
namespace R
open PySem PySem.Spec PyProof.Rows L2

/-- one's own list grows by many -/
theorem EnvO.exts {C : Cfg} {A : List Addr} {H : Hp} {g : List Dat} {σ : L2.St} {ρ : Sl} {i : Nat} {ws : List V} {ds : List Dat} {xs : List Dat} (E : EnvO C A H σ ρ) (G : GR C g H) (h : ρ[i]? = some (some (.own (.lst xs)))) (hz : xs.length + ds.length < sizeLine) (r : RpL (C.w A) H ws ds) :
    ∃ a vs, σ[i]? = some (some (.ref a)) ∧ H a = some (.lst vs) ∧ vs.length + ws.length ≤ sizeLine ∧ Chg C A H (upd H a (.lst (vs ++ ws))) A ∧ EnvO C A (upd H a (.lst (vs ++ ws))) σ (ρ.set i (some (.own (.lst (xs ++ ds))))) ∧ GR C g (upd H a (.lst (vs ++ ws))) := by
  obtain ⟨w, h1, h2⟩ := E.all i _ h
  cases h2 with
  | rp r => cases r
  | @own a _ ha ho =>
    cases ho with
    | @lst vs _ hv hl rl =>
      have hlen := rl.len
      have hlen2 := r.len
      have e : ExtM (C.w A) H (upd H a (.lst (vs ++ ws))) := fun b o hb _ hm => by
        rw [upd_ne (fun z => hm (by rw [z]; exact List.mem_append_left _ ha))]; exact hb
      have kk : ∀ b, OwnK H b → OwnK (upd H a (.lst (vs ++ ws))) b := fun b k => by
        by_cases z : b = a
        · rw [z]; exact .inl ⟨_, upd_same⟩
        · rcases k with ⟨ws, k⟩ | ⟨ws, k⟩
          · exact .inl ⟨ws, by rw [upd_ne z]; exact k⟩
          · exact .inr ⟨ws, by rw [upd_ne z]; exact k⟩
      have dom : ∀ b, H b ≠ none → upd H a (.lst (vs ++ ws)) b ≠ none := fun b hb => by
        by_cases z : b = a
        · rw [z, upd_same]; exact fun z => nomatch z
        · rw [upd_ne z]; exact hb
      refine ⟨a, vs, h1, hv, by omega, ⟨fun b o hb _ hm => by rw [upd_ne (fun z => hm (by rw [z]; exact ha))]; exact hb, fun b hb => .inl hb, dom, fun b _ k => kk b k⟩, ⟨by simp [E.len], fun j e' hj => ?_, fun j k d' f b hne q1 q2 q3 => ?_, E.out, fun b hb => kk b (E.kind b hb)⟩, fun b hb => dom b (G.1 b hb), fun b hb => ?_⟩
      · by_cases hij : i = j
        · subst hij
          have hlt : i < ρ.length := (List.getElem?_eq_some_iff.mp h).1
          rw [List.getElem?_set_self hlt] at hj
          cases hj
          exact ⟨_, h1, .own ha (.lst upd_same (by rw [List.length_append]; omega) ((RpL.append rl r).extM e))⟩
        · rw [List.getElem?_set_ne hij] at hj
          obtain ⟨w, w1, w2⟩ := E.all j e' hj
          refine ⟨w, w1, ?_⟩
          cases w2 with
          | rp r2 => exact .rp (r2.extM e)
          | @own b d' hb ho2 =>
            have : b ≠ a := fun z => by
              subst z
              exact E.ne i j _ _ _ hij h hj h1 w1
            exact .own hb (ho2.ext e (upd_ne this))
      · have key : ∀ (m : Nat) (x : Dat), (ρ.set i (some (.own (.lst (xs ++ ds)))))[m]? = some (some (.own x)) → ∃ y, ρ[m]? = some (some (.own y)) := fun m x hx => by
          by_cases hm : i = m
          · subst hm; exact ⟨_, h⟩
          · rw [List.getElem?_set_ne hm] at hx; exact ⟨x, hx⟩
        obtain ⟨y1, z1⟩ := key j d' q1
        obtain ⟨y2, z2⟩ := key k f q2
        exact E.ne j k y1 y2 b hne z1 z2 q3
      · obtain ⟨ws, w1, w2⟩ := G.2 b hb
        have hba : b ≠ a := fun z => (E.out a ha).1 (by rw [← z]; exact hb)
        refine ⟨ws, by rw [upd_ne hba]; exact w1, ?_, w2.fl⟩
        have w3 := w2.rp.flat E.kind w2.fl
        exact (w3.extM e).less inW

def ipExt : TIp := fun x y H Q => ∃ (C : Cfg) (l b : Addr) (xs zs : List V), x = .ref l ∧ y = .ref b ∧ H l = some (.lst xs) ∧ LstAt C H b zs ∧ xs.length + zs.length ≤ sizeLine ∧ Q (.ref l) (upd H l (.lst (xs ++ zs)))
theorem ip_ext {X : Cx} : PIp X .Add ipExt := by
  intro pins s σ H x y v u Q I rx ry h
  obtain ⟨C, l, b, xs, zs, rfl, rfl, hH, hB, hz, q⟩ := h
  cases rx
  cases ry
  obtain ⟨z, its, n, r, hl, e⟩ := I.lstM hH
  obtain ⟨its2, n2, r2, e2, _⟩ := hB.heap I
  have hl2 := r2.length
  have hsz : its.toArray.size + its2.toArray.size ≤ sizeLine := by rw [List.size_toArray, List.size_toArray]; omega
  have hlong : ¬ (!its.toArray.isEmpty && Builtin.List.listTooLong (its.toArray.size + its2.toArray.size)) = true := by
    rw [notLongL hsz, Bool.and_false]
    exact Bool.false_ne_true
  refine iadd_road ⟨_, e, rfl⟩ ⟨_, e2, rfl⟩ (call_meets PySem.F.slot_list_iadd ⟨_, e, rfl⟩ PySem.F.entry_list_iadd (PySem.F.args_list_iadd_2 _ _)
    (AutoSeq1.list___iadd___list_list_0 l its.toArray n b its2.toArray n2 hlong (by rw [List.size_toArray]; omega) (by omega)) ⟨e, e2, ?_⟩)
  refine ⟨.ref l, _, I.lset (its' := its ++ its2) (t' := s.toks) hH e (by simp) (r.append r2) ?_, rfl, q⟩
  rw [List.length_append]
  omega
theorem semS_aug {c : Ctx} {x : Str} {i : Nat} {e : Expr} {e' : Ex} {p pos : Pos} (hN : c.N[i]? = some x) (hl : locB c x = true) (h : Sem c e e') : SemS c (.AugAssign (.Name x p) .Add e pos) (.aug i e') := by
  intro X C W F k M
  obtain ⟨h1, h2⟩ := loc_of hl M.toMt
  refine ps_mono (ps_aug (i := i) (by rw [M.N]; exact M.nd) (by rw [M.N]; exact hN) h1 (h.w M.toMt) ip_ext h2) fun D σ H ⟨A, ρ, g, E, G, q⟩ => ?_
  unfold run at q
  cases ho : ownL (ρ.getD i none) with
  | false => rw [ho] at q; exact q.elim
  | true =>
    rw [ho] at q
    obtain ⟨xs, hr⟩ := ownL_inv ho
    have hr2 := getD_some hr
    obtain ⟨w, h1, h2⟩ := E.all i _ hr2
    cases h2 with
    | rp r => cases r
    | @own a _ ha ho' =>
      cases ho' with
      | @lst vs _ hv' hl rl =>
        refine ⟨.ref a, h1, A, ?_⟩
        refine tD_W (fun x g => augD i x ρ g) E G q fun d g' v H' e1 E' G' r q' => ?_
        unfold augD at q'
        cases d with
        | lst ys =>
          dsimp only at q'
          rw [hr] at q'
          dsimp only at q'
          by_cases hz : xs.length + ys.length < line
          · rw [if_pos hz] at q'
            obtain ⟨b, ws, rfl, t, z, l⟩ := r.lst_inv
            obtain ⟨a2, vs2, g1, g2, g3, c1, E2, G2⟩ := E'.exts G' hr2 (by rw [← line_eq]; exact hz) l
            rw [h1] at g1
            cases g1
            have es : (σ.set i (some (V.ref a))) = σ := List.ext_getElem? fun j => by
              by_cases hij : i = j
              · subst hij
                rw [List.getElem?_set_self (List.getElem?_eq_some_iff.mp h1).1, h1]
              · rw [List.getElem?_set_ne hij]
            refine ⟨C.w A, _, _, _, _, rfl, rfl, g2, t, g3, ?_⟩
            show D.nx (σ.set i (some (V.ref a))) _
            rw [es]
            exact q' σ _ A c1 E2 G2
          · rw [if_neg hz] at q'
            exact q'.elim
        | _ => exact q'.elim
theorem semS_setLc2 {c : Ctx} {x : Str} {i : Nat} {p pos spos : Pos} {elt tgE iter tgE1 iter1 : Expr} {ifs ifs1 : List Expr} {scope : Scope} {own : List (Str × Nat)} {own1 : List Nat} {elt' : Ex} {tg : Tg} {src cond : Ex} {tg1 : Tg} {src1 cond1 : Ex} (L : LcOk2 c elt tgE iter ifs tgE1 iter1 ifs1 scope own own1 elt' tg src cond tg1 src1 cond1)
    (hN : c.N[i]? = some x) (hl : kindB c.sc x = some .local) (hk : c.sc.kind = .function) (hline : (p.line == pos.line) = true) (ha : (scope.names.any fun (n, k) => n == x && (k == .local || k == .cell)) = false) :
    SemS c (.Assign [.Name x p] (.ListComp elt [⟨tgE, iter, ifs, 0⟩, ⟨tgE1, iter1, ifs1, 0⟩] scope pos) spos) (.set (.nm i) (.lc2 elt' tg src cond tg1 src1 cond1 (own.map (·.2)) own1)) := by
  intro X C W F k M
  have hX : X.env.scope.names.lookup x = some .local := by rw [M.sc]; exact hl
  refine ps_mono (ps_setLc2 (i := i) M.calm (by rw [M.N]; exact M.nd) (by rw [M.N]; exact hN) hX (sw_true (by rw [M.sc]; exact hk) hX hline ha) (L.hi.w M.toMt) (by rw [M.N, M.sc]; exact blkOk_by L.ok) L.vs1 (pgB L.hg M.toMt) (ptB L.hc M.toMt) (piB L.hi1 M.toMt) (pgB L.hg1 M.toMt) (ptB L.hc1 M.toMt) (peB L.he M.toMt) (L.hi.ns _) L.hi1.ns) fun D σ H ⟨A, ρ, g, E, G, q⟩ => ?_
  unfold run at q
  refine ⟨A, lc2_reading (X := X) (C := C.w A) (Q := fun x H1 => gName i x σ H1 D.nx) L.sub L.sub1 (tD_W _ E G q fun d g' v H' e E' G' r q' => ?_)⟩
  obtain ⟨ρ1, hb, q'⟩ := storeD_ok q'
  unfold bindT at hb
  cases hb
  exact q' _ H' A .refl (E'.set r) G'
/-! x = a + b, two lists: one's own from now on -/
theorem tCat_new {C : Cfg} {W : WX} {fa fb : Sl → Mo Dat} {σ : L2.St} {H : Hp} {Q : VK} {ρ : Sl} {g : List Dat} (E : EnvR C H σ ρ) (G : GR C g H)
    (h : match (fa ρ g).bind fun x g => (fb ρ g).bind fun y g => ofO (opD .add x y) g with
      | .ok (.lst ds) g1 => ∀ p H1 vs, Ext C H H1 → GR C g1 H1 → RpL C H1 vs ds → H1 p = none → ds.length ≤ sizeLine → Q (.ref p) (upd H1 p (.lst vs))
      | .ok _ _ => False
      | .exc c g1 => ∀ H', Ext C H H' → GR C g1 H' → W (C.ex c) none σ H'
      | .bad => False) : tOp (fun x y H Q => ∃ p1 p2 v1 v2, x = .ref p1 ∧ y = .ref p2 ∧ LstAt C H p1 v1 ∧ LstAt C H p2 v2 ∧ v1.length + v2.length ≤ sizeLine ∧ ∀ p, H p = none → Q (.ref p) (upd H p (.lst (v1 ++ v2)))) (tD C W fa) (tD C W fb) σ H Q := by
  refine ⟨ρ, g, E, G, ?_⟩
  revert h
  cases fa ρ g with
  | bad => exact fun h => h
  | exc c g1 => exact fun h => h
  | ok d1 g1 =>
    intro h v1 H1 e1 G1 r1
    refine ⟨ρ, g1, E.ext e1, G1, ?_⟩
    have h : match (fb ρ g1).bind fun y g => ofO (opD .add d1 y) g with
      | .ok (.lst ds) g1 => ∀ p H1 vs, Ext C H H1 → GR C g1 H1 → RpL C H1 vs ds → H1 p = none → ds.length ≤ sizeLine → Q (.ref p) (upd H1 p (.lst vs))
      | .ok _ _ => False
      | .exc c g1 => ∀ H', Ext C H H' → GR C g1 H' → W (C.ex c) none σ H'
      | .bad => False := h
    revert h
    cases fb ρ g1 with
    | bad => exact fun h => h
    | exc c g2 => exact fun h H' e G' => h H' (e1.trans e) G'
    | ok d2 g2 =>
      intro h v2 H2 e2 G2 r2
      have h : match ofO (opD .add d1 d2) g2 with
        | .ok (.lst ds) g1 => ∀ p H1 vs, Ext C H H1 → GR C g1 H1 → RpL C H1 vs ds → H1 p = none → ds.length ≤ sizeLine → Q (.ref p) (upd H1 p (.lst vs))
        | .ok _ _ => False
        | .exc c g1 => ∀ H', Ext C H H' → GR C g1 H' → W (C.ex c) none σ H'
        | .bad => False := h
      have hs := line_eq
      cases ho : opD .add d1 d2 with
      | none => rw [ho] at h; exact h.elim
      | some d =>
        rw [ho] at h
        cases d with
        | lst ds =>
          have h : ∀ p H1 vs, Ext C H H1 → GR C g2 H1 → RpL C H1 vs ds → H1 p = none → ds.length ≤ sizeLine → Q (.ref p) (upd H1 p (.lst vs)) := h
          cases d1 <;> cases d2 <;> simp only [opD] at ho <;> try cases ho
          · split at ho <;> cases ho
          · split at ho <;> cases ho
          · rename_i a b
            split at ho
            · rename_i hz
              cases ho
              obtain ⟨p1, w1, rfl, t1, z1, l1⟩ := (r1.ext e2).lst_inv
              obtain ⟨p2, w2, rfl, t2, z2, l2⟩ := r2.lst_inv
              have q1 := l1.len
              have q2 := l2.len
              rw [hs] at hz
              exact ⟨p1, p2, w1, w2, rfl, rfl, t1, t2, by omega, fun p hp => h p H2 _ (e1.trans e2) G2 (l1.append l2) hp (by rw [List.length_append]; exact hz)⟩
            · cases ho
        | _ => exact h.elim
theorem semS_newAdd {c : Ctx} {x : Str} {i : Nat} {a b : Expr} {a' b' : Ex} {p bpos pos : Pos} (hN : c.N[i]? = some x) (hl : locB c x = true) (ha : Sem c a a') (hb : Sem c b b') : SemS c (.Assign [.Name x p] (.BinOp a .Add b bpos) pos) (.new i (.op .add a' b')) := by
  intro X C W F k M
  obtain ⟨h1, h2⟩ := loc_of hl M.toMt
  have hp : PE X (.BinOp a .Add b bpos) (fun σ H Q => ∃ A, tOp (fun x y H Q => ∃ p1 p2 v1 v2, x = .ref p1 ∧ y = .ref p2 ∧ LstAt (C.w A) H p1 v1 ∧ LstAt (C.w A) H p2 v2 ∧ v1.length + v2.length ≤ sizeLine ∧ ∀ p, H p = none → Q (.ref p) (upd H p (.lst (v1 ++ v2)))) (tD (C.w A) W (den F a')) (tD (C.w A) W (den F b')) σ H Q) :=
    ⟨fun pins s σ H Q I ⟨A, q⟩ => (pe_op (op_catL (C := C.w A)) (ha.run X (C.w A) W F k (M.toMt.w _)) (hb.run X (C.w A) W F k (M.toMt.w _))).run pins s σ H Q I q⟩
  refine ps_mono (ps_set (i := i) (by rw [M.N]; exact M.nd) (by rw [M.N]; exact hN) h1 hp (noSwap rfl _ _ _) h2) fun D σ H ⟨A, ρ, g, E, G, q⟩ => ?_
  unfold run den at q
  refine ⟨A, tCat_new (C := C.w A) (W := W) (Q := fun x H1 => gName i x σ H1 D.nx) E.erase (G.w E.kind) ?_⟩
  revert q
  cases (den F a' (R.erase ρ) g).bind fun x g => (den F b' (R.erase ρ) g).bind fun y g => ofO (opD .add x y) g with
  | ok d g1 =>
    cases d with
    | lst ds =>
      intro q p H1 vs e1 G1 r1 hp hl
      have E1 : EnvO C A H1 σ ρ := E.ext e1
      have G1 : GR C g1 H1 := G1.un
      obtain ⟨c2, E2⟩ := E1.new (i := i) G1 hp hl r1
      have q : RunS C W A H (.ok (.nx (ρ.set i (some (.own (.lst ds))))) g1) D := q
      exact q _ _ _ ((Chg.ext (C := C) e1 E.nc G1).trans c2 E.kind E.nc) E2 (G1.new hp)
    | _ => exact fun q => q.elim
  | exc c g1 => exact fun q H' e G' => q σ H' (Chg.ext (C := C) e E.nc G'.un).nil G'.un
  | bad => exact fun q => q
def rCatAny : R2 := fun x y H Q => ∃ (C1 C2 : Cfg) (l b : Addr) (xs zs : List V), x = .ref l ∧ y = .ref b ∧ LstAt C1 H l xs ∧ LstAt C2 H b zs ∧ xs.length + zs.length ≤ sizeLine ∧ ∀ p, H p = none → Q (.ref p) (upd H p (.lst (xs ++ zs)))
theorem op_catAny {X : Cx} : OpR X (binaryOp .Add) rCatAny := by
  intro pins s σ H x y v u Q I rx ry h
  obtain ⟨C1, C2, l, b, xs, zs, rfl, rfl, hH, hB, hz, q⟩ := h
  exact op_catL (C := { C1 with M := [], cup := none }) pins s σ H _ _ v u Q I rx ry ⟨l, b, xs, zs, rfl, rfl, ⟨hH.1, (fun h => nomatch h), fun h => nomatch h⟩, ⟨hB.1, (fun h => nomatch h), fun h => nomatch h⟩, hz, q⟩
/-- x = x + b, x one's own list: as x grows -/
theorem semS_catOwn {c : Ctx} {x : Str} {i : Nat} {b : Expr} {b' : Ex} {p p1 bpos pos : Pos} (hN : c.N[i]? = some x) (hl : locB c x = true) (hv : visB c.sc x = true) (hd : dbgB x = false) (hb : Sem c b b') : SemS c (.Assign [.Name x p] (.BinOp (.Name x p1) .Add b bpos) pos) (.aug i b') := by
  intro X C W F k M
  obtain ⟨h1, h2⟩ := loc_of hl M.toMt
  obtain ⟨d1, d2, d3⟩ := dbg_of hd
  have ho : PE X (.Name x p1) (tVar i) := pe_var (by rw [M.N]; exact hN) (by rw [M.sc]; exact vis_of hv) d1 d2
  refine ps_mono (ps_set (i := i) (by rw [M.N]; exact M.nd) (by rw [M.N]; exact hN) h1 (pe_op op_catAny ho (hb.w M.toMt)) (noSwap rfl _ _ _) h2) fun D σ H ⟨A, ρ, g, E, G, q⟩ => ?_
  unfold run at q
  cases ho : ownL (ρ.getD i none) with
  | false => rw [ho] at q; exact q.elim
  | true =>
    rw [ho] at q
    obtain ⟨xs, hr⟩ := ownL_inv ho
    have hr2 := getD_some hr
    obtain ⟨w, h1, h2⟩ := E.all i _ hr2
    cases h2 with
    | rp r => cases r
    | @own a _ ha ho' =>
      refine ⟨.ref a, h1, A, ?_⟩
      refine tD_W (fun x g => augD i x ρ g) E G q fun d g' v H' e1 E' G' r q' => ?_
      unfold augD at q'
      cases d with
      | lst ys =>
        dsimp only at q'
        rw [hr] at q'
        dsimp only at q'
        by_cases hz : xs.length + ys.length < line
        · rw [if_pos hz] at q'
          obtain ⟨b, ws, rfl, t, z, l⟩ := r.lst_inv
          obtain ⟨w', w1, w2⟩ := E'.all i _ hr2
          rw [h1] at w1
          cases w1
          cases w2 with
          | rp r => cases r
          | own ha2 ho2 =>
            cases ho2 with
            | @lst vs2 _ hv2 hl2 rl2 =>
              have q1 := rl2.len
              have q2 := l.len
              have hs := line_eq
              refine ⟨{ C with M := [], cup := none }, C.w A, a, b, vs2, ws, rfl, rfl, ⟨.inl hv2, (fun h => nomatch h), fun h => nomatch h⟩, t, by omega, fun p hp => ?_⟩
              obtain ⟨c2, E2⟩ := E'.new (i := i) G' hp (by rw [List.length_append]; omega) (rl2.append l)
              exact q' _ _ _ c2 E2 (G'.new hp)
        · rw [if_neg hz] at q'
          exact q'.elim
      | _ => exact q'.elim
/-- (a, b) = e, e a comprehension too -/
theorem semS_unpT {c : Ctx} {es : List Expr} {k0 : Nat} {p0 : Pos} {tg : Tg} {e : Expr} {e' : Ex} {pos : Pos} (ht : SemG c (.Tuple es k0 p0) tg) (h : Sem c e e') (hn2 : noTup e = true) : SemS c (.Assign [.Tuple es k0 p0] e pos) (.set tg e') := by
  intro X C W F k M
  refine ps_mono (ps_asg (h.w M.toMt) (ht.w M.toMt) (by cases e <;> rfl) (noSwapped hn2 _) (by rw [asg_plain ht.2]; rfl)) fun D σ H ⟨A, ρ, g, E, G, q⟩ => ?_
  unfold run at q
  refine ⟨A, tD_W _ E G q fun d g' v H' e E' G' r q' => ?_⟩
  obtain ⟨ρ1, hb, q'⟩ := storeD_ok q'
  exact ⟨A, d, ρ, ρ1, r, hb, fun σ' S _ => q' σ' H' A .refl (E'.sets S) G'⟩
theorem semS_unpF {c : Ctx} {es : List Expr} {k0 : Nat} {p0 : Pos} {tg : Tg} {e : Expr} {e' : Ex} {pos : Pos} (ht : SemG c (.Tuple es k0 p0) tg) (h : Sem c e e') (hn2 : noTup e = true) : SemS c (.Assign [.Tuple es k0 p0] e pos) (.setF tg e') := by
  intro X C W F k M
  refine ps_mono (ps_asg (h.run X C W F k M.toMt) (ht.w M.toMt) (by cases e <;> rfl) (noSwapped hn2 _) (by rw [asg_plain ht.2]; rfl)) fun D σ H ⟨A, ρ, g, E, G, q⟩ => ?_
  unfold run at q
  refine tD_S _ E G q fun d g' v H' e E' G' r q' => ?_
  cases hf : flatD d with
  | false => rw [hf] at q'; exact q'.elim
  | true =>
    rw [hf] at q'
    obtain ⟨ρ1, hb, q'⟩ := storeD_ok (show RunS C W A H' (storeD tg d ρ g') D from q')
    exact ⟨A, d, ρ, ρ1, r.flat E'.kind hf, hb, fun σ' S _ => q' σ' H' A .refl (E'.sets S) G'⟩
end R
set_option Elab.async false
set_option linter.all false
set_option maxRecDepth 100000
set_option maxHeartbeats 4000000
/-! x = [.. for ..], a list that is one's own from now on. -/
namespace R
open PySem PySem.Spec PyProof.Rows L2
/-- what the end of a comprehension asks, the list being new -/
theorem lc_newReading {X : Cx} {C : Cfg} {W : WX} {F : Nat → List Dat → Mo Dat} {elt src cond : Ex} {tg : Tg} {own : List Nat} {σ : L2.St} {ρ : Sl} {g : List Dat} {H : Hp} {Q : VK} (htg : ∀ i ∈ slots tg, i ∈ own) (E : EnvR C H σ ρ) (G : GR C g H)
    (q : match den F (.lc elt tg src cond own) ρ g with
      | .ok d g1 => ∀ ys, d = .lst ys → ∀ (D : Addr) (H1 H' : Hp) (vs : List V), Ext C H H1 → GR C g1 H' → H1 D = none → (∃ g0, GR C g0 H1) → H' D = some (.lst vs) → RpL { C with M := D :: C.M } H' vs ys → ys.length ≤ sizeLine → Ext C H1 H' → Q (.ref D) H'
      | .exc c g1 => ∀ H', Ext C H H' → GR C g1 H' → W (C.ex c) none σ H'
      | .bad => False) : tLc (tI C W (den F src)) (gB C tg) (ttB C F cond) (teB C F elt) own σ H Q := by
  rw [den_lc] at q
  refine ⟨ρ, g, E, G, ?_⟩
  revert q
  cases den F src ρ g with
  | bad => exact fun q => q
  | exc c g1 => exact fun q => q
  | ok d g1 =>
    intro q
    show match itemsD d with | none => False | some ds => _
    cases hi : itemsD d with
    | none => dsimp only [Res.bind] at q; rw [hi] at q; exact q.elim
    | some ds =>
      dsimp only [Res.bind] at q
      rw [hi] at q
      intro J H1 e1 G1 hw D hD
      refine lc_run (X := X) hw (E.ext e1) G1 hD htg ?_
      have hne := lcGo_exc (step := lcStep F elt tg cond (wipeD ρ own)) ds [] g1
      revert q hne
      dsimp only [ofO]
      cases lcGo (lcStep F elt tg cond (wipeD ρ own)) [] ds g1 with
      | ok ys g2 => exact fun q _ D H' vs hD hv hl hz e G => q ys rfl D H1 H' vs e1 G hD ⟨_, G1⟩ hv hl hz e
      | exc c g2 => exact fun _ hne => (hne c g2 rfl).elim
      | bad => exact fun q _ => q
theorem semS_newLc {c : Ctx} {x : Str} {i : Nat} {p pos spos : Pos} {elt tgE iter : Expr} {ifs : List Expr} {scope : Scope} {own : List (Str × Nat)} {elt' : Ex} {tg : Tg} {src cond : Ex} (L : LcOk c elt tgE iter ifs scope own elt' tg src cond)
    (hN : c.N[i]? = some x) (hl : kindB c.sc x = some .local) (hk : c.sc.kind = .function) (hline : (p.line == pos.line) = true) (ha : (scope.names.any fun (n, k) => n == x && (k == .local || k == .cell)) = false) :
    SemS c (.Assign [.Name x p] (.ListComp elt [⟨tgE, iter, ifs, 0⟩] scope pos) spos) (.new i (.lc elt' tg src cond (own.map (·.2)))) := by
  intro X C W F k M
  have hX : X.env.scope.names.lookup x = some .local := by rw [M.sc]; exact hl
  refine ps_mono (ps_setLc (i := i) M.calm (by rw [M.N]; exact M.nd) (by rw [M.N]; exact hN) hX (sw_true (by rw [M.sc]; exact hk) hX hline ha) (L.hi.w M.toMt) (L.blk M.toMt) (L.pg M.toMt) (L.pt M.toMt) (L.pe M.toMt) (L.hi.ns _)) fun D σ H ⟨A, ρ, g, E, G, q⟩ => ?_
  unfold run at q
  refine ⟨A, lc_newReading (X := X) (C := C.w A) (W := W) (F := F) (Q := fun x H1 => gName i x σ H1 D.nx) L.sub E.erase (G.w E.kind) ?_⟩
  revert q
  cases den F (.lc elt' tg src cond (own.map (·.2))) (R.erase ρ) g with
  | bad => exact fun q => q
  | exc c g1 => exact fun q H' e G' => q σ H' (Chg.ext (C := C) e E.nc G'.un).nil G'.un
  | ok d g1 =>
    intro q ys hd a H1 H' vs e1 G' ha ⟨g0, G1⟩ hv hl2 hz e2
    subst hd
    have E1 : EnvO C A H1 σ ρ := E.ext e1
    obtain ⟨c2, E2⟩ := E1.newAt (i := i) G1.un ha e2 G'.un (.lst hv hz hl2)
    have q : RunS C W A H (.ok (.nx (ρ.set i (some (.own (.lst ys))))) g1) D := q
    exact q _ _ _ ((Chg.ext (C := C) e1 E.nc G1.un).trans c2 E.kind E.nc) E2 G'.un
end R
set_option Elab.async false
set_option linter.all false
set_option maxRecDepth 100000
set_option maxHeartbeats 4000000
/-! a, b = e1, e2: values put beside the frame, then moved into it. -/
namespace R
open PySem PySem.Spec PyProof.Rows L2

/-- a frame whose slots come out of another's -/
theorem EnvO.sub {C : Cfg} {A : List Addr} {H : Hp} {σ σ' : L2.St} {ρ ρ' : Sl} (E : EnvO C A H σ ρ) (hl : σ'.length = ρ'.length) (φ : Nat → Nat) (hφ : ∀ m d, ρ'[m]? = some (some d) → ρ[φ m]? = some (some d) ∧ σ'[m]? = σ[φ m]?) (inj : ∀ m n, φ m = φ n → m = n) : EnvO C A H σ' ρ' := by
  refine ⟨hl, fun i d h => ?_, fun i j d e a hne h1 h2 h3 => ?_, E.out, E.kind⟩
  · obtain ⟨h1, h2⟩ := hφ i d h
    obtain ⟨v, h3, h4⟩ := E.all _ d h1
    exact ⟨v, by rw [h2]; exact h3, h4⟩
  · obtain ⟨q1, q2⟩ := hφ i _ h1
    obtain ⟨q3, q4⟩ := hφ j _ h2
    rw [q4]
    rw [q2] at h3
    exact E.ne _ _ d e a (fun z => hne (inj _ _ z)) q1 q3 h3
theorem EnvO.pre {C : Cfg} {A : List Addr} {H : Hp} {σ σx : L2.St} {ρ ρx : Sl} (E : EnvO C A H (σ ++ σx) (ρ ++ ρx)) (hl : σ.length = ρ.length) : EnvO C A H σ ρ :=
  E.sub hl (fun m => m) (fun m d h => by
    have hm := (List.getElem?_eq_some_iff.mp h).1
    exact ⟨by rw [List.getElem?_append_left hm]; exact h, by rw [List.getElem?_append_left (by omega)]⟩) fun _ _ h => h
theorem EnvO.none {C : Cfg} {A : List Addr} {H : Hp} {σ : L2.St} {ρ : Sl} (E : EnvO C A H σ ρ) : EnvO C A H (σ ++ [Option.none]) (ρ ++ [Option.none]) :=
  E.sub (by simp [E.len]) (fun m => m) (fun m d h => by
    by_cases hm : m < ρ.length
    · rw [List.getElem?_append_left hm] at h
      exact ⟨h, by rw [List.getElem?_append_left (by rw [E.len]; exact hm)]⟩
    · rw [List.getElem?_append_right (by omega)] at h
      cases hq : m - ρ.length with
      | zero => rw [hq] at h; cases h
      | succ z => rw [hq] at h; cases h) fun _ _ h => h
theorem set_last {α : Type} (l : List α) (x y : α) : (l ++ [x]).set l.length y = l ++ [y] := by
  rw [List.set_append_right _ _ (Nat.le_refl _), Nat.sub_self]; rfl
theorem EnvO.push {C : Cfg} {A : List Addr} {H : Hp} {σ : L2.St} {ρ : Sl} {v : V} {d : Dat} (E : EnvO C A H σ ρ) (r : Rp (C.w A) H v d) : EnvO C A H (σ ++ [some v]) (ρ ++ [some d]) := by
  have h := E.none.set (i := ρ.length) r
  rw [set_last] at h
  rw [← E.len, set_last] at h
  exact h
theorem EnvO.pushNew {C : Cfg} {A : List Addr} {H : Hp} {g : List Dat} {σ : L2.St} {ρ : Sl} {p : Addr} {vs : List V} {ds : List Dat} (E : EnvO C A H σ ρ) (G : GR C g H) (hp : H p = Option.none) (hz : ds.length ≤ sizeLine) (r : RpL (C.w A) H vs ds) :
    Chg C A H (upd H p (.lst vs)) (p :: A) ∧ EnvO C (p :: A) (upd H p (.lst vs)) (σ ++ [some (.ref p)]) (ρ ++ [some (.own (.lst ds))]) := by
  obtain ⟨h1, h2⟩ := E.none.new (i := ρ.length) G hp hz r
  rw [set_last] at h2
  rw [← E.len, set_last] at h2
  exact ⟨h1, h2⟩
def shiftIx (n i m : Nat) : Nat := if m < n then (if m = i then n else m) else m + 1
theorem shift_get {α : Type} (l lx : List α) (x : α) (i m : Nat) : (l.set i x ++ lx)[m]? = (l ++ x :: lx)[shiftIx l.length i m]? := by
  unfold shiftIx
  by_cases hm : m < l.length
  · rw [if_pos hm, List.getElem?_append_left (by rw [List.length_set]; exact hm)]
    by_cases hi : m = i
    · subst hi
      rw [if_pos rfl, List.getElem?_set_self hm, List.getElem?_append_right (Nat.le_refl _), Nat.sub_self]
      rfl
    · rw [if_neg hi, List.getElem?_set_ne (fun z => hi z.symm), List.getElem?_append_left hm]
  · rw [if_neg hm, List.getElem?_append_right (by rw [List.length_set]; omega), List.getElem?_append_right (by omega), List.length_set, show m + 1 - l.length = (m - l.length) + 1 by omega]
    rfl
theorem shiftIx_inj {n i a b : Nat} (h : shiftIx n i a = shiftIx n i b) : a = b := by
  unfold shiftIx at h
  by_cases ha : a < n
  · rw [if_pos ha] at h
    by_cases hb : b < n
    · rw [if_pos hb] at h
      by_cases h1 : a = i
      · rw [if_pos h1] at h
        by_cases h2 : b = i
        · omega
        · rw [if_neg h2] at h; omega
      · rw [if_neg h1] at h
        by_cases h2 : b = i
        · rw [if_pos h2] at h; omega
        · rw [if_neg h2] at h; omega
    · rw [if_neg hb] at h
      by_cases h1 : a = i
      · rw [if_pos h1] at h; omega
      · rw [if_neg h1] at h; omega
  · rw [if_neg ha] at h
    by_cases hb : b < n
    · rw [if_pos hb] at h
      by_cases h2 : b = i
      · rw [if_pos h2] at h; omega
      · rw [if_neg h2] at h; omega
    · rw [if_neg hb] at h; omega
/-- the first of those beside goes into the frame -/
theorem EnvO.shift {C : Cfg} {A : List Addr} {H : Hp} {σ σx : L2.St} {ρ ρx : Sl} {v : Option V} {d : Option Dat} (i : Nat) (E : EnvO C A H (σ ++ v :: σx) (ρ ++ d :: ρx)) (hl : σ.length = ρ.length) : EnvO C A H (σ.set i v ++ σx) (ρ.set i d ++ ρx) := by
  have hlx := E.len
  simp at hlx
  refine E.sub (by simp; omega) (shiftIx ρ.length i) (fun m x h => ?_) fun m n h => shiftIx_inj h
  rw [shift_get] at h
  refine ⟨h, ?_⟩
  rw [shift_get, hl]
theorem EnvO.setAll {C : Cfg} {A : List Addr} {H : Hp} : ∀ {is : List Nat} {vs : List V} {ds : List Dat} {σ : L2.St} {ρ : Sl}, EnvO C A H (σ ++ vs.map some) (ρ ++ ds.map some) → σ.length = ρ.length → EnvO C A H (R.setAll is vs σ) (R.setAll is ds ρ)
  | [], vs, ds, σ, ρ, E, hl => by
    cases vs <;> cases ds <;> exact E.pre hl
  | i :: is, [], ds, σ, ρ, E, hl => by
    have h2 := E.len
    simp at h2
    have hds : ds = [] := List.eq_nil_of_length_eq_zero (by omega)
    subst hds
    exact E.pre hl
  | i :: is, v :: vs, [], σ, ρ, E, hl => by
    have h2 := E.len
    simp at h2
    omega
  | i :: is, v :: vs, d :: ds, σ, ρ, E, hl => by
    have h2 := EnvO.shift (σx := vs.map some) (ρx := ds.map some) (v := some v) (d := some d) i E hl
    show EnvO C A H (R.setAll is vs (σ.set i (some v))) (R.setAll is ds (ρ.set i (some d)))
    exact EnvO.setAll h2 (by simp [hl])

def RunP1 (C : Cfg) (W : WX) (A : List Addr) (H : Hp) (σ σx : L2.St) (ρ ρx : Sl) (r : Res Dat) (Q : VK) : Prop := match r with
  | .ok d g => ∀ v H' A', Chg C A H H' A' → EnvO C A' H' (σ ++ (σx ++ [some v])) (ρ ++ (ρx ++ [some d])) → GR C g H' → Q v H'
  | .exc c g => ∀ H', Chg C A H H' [] → GR C g H' → W (C.ex c) Option.none σ H'
  | .bad => False
def tP1 (C : Cfg) (W : WX) (f : Sl → Mo Dat) : TE := fun σ H Q => ∃ A ρ g σx ρx, EnvO C A H (σ ++ σx) (ρ ++ ρx) ∧ σ.length = ρ.length ∧ GR C g H ∧ RunP1 C W A H σ σx ρ ρx (f ρ g) Q
def SemP1 (c : Ctx) (m : PM) (e : Expr) (e' : Ex) : Prop := ∀ X C W F k, Mt X c C W F k → PE X e (tP1 C W (comp1 F m e'))
theorem semP1_er {c : Ctx} {e : Expr} {e' : Ex} (h : Sem c e e') : SemP1 c .er e e' := by
  intro X C W F k M
  refine pe_mono (h.w M) fun σ H Q ⟨A, ρ, g, σx, ρx, E, hl, G, q⟩ => ⟨A, R.erase ρ, g, (E.pre hl).erase, G.w E.kind, ?_⟩
  revert q
  show RunP1 C W A H σ σx ρ ρx (den F e' (R.erase ρ) g) Q → _
  cases den F e' (R.erase ρ) g with
  | ok d g1 =>
    intro q v H' e1 G' r
    have E1 : EnvO C A H' (σ ++ σx) (ρ ++ ρx) := E.ext e1
    have E2 := E1.push r
    rw [List.append_assoc, List.append_assoc] at E2
    exact q v H' A (Chg.ext (C := C) e1 E.nc G'.un) E2 G'.un
  | exc c g1 => exact fun q H' e1 G' => q H' (Chg.ext (C := C) e1 E.nc G'.un).nil G'.un
  | bad => exact fun q => q
theorem semP1_fl {c : Ctx} {e : Expr} {e' : Ex} (h : Sem c e e') : SemP1 c .fl e e' := by
  intro X C W F k M
  refine pe_mono (h.run X C W F k M) fun σ H Q ⟨A, ρ, g, σx, ρx, E, hl, G, q⟩ => ⟨R.strip ρ, g, (E.pre hl).strip, G, ?_⟩
  revert q
  show RunP1 C W A H σ σx ρ ρx ((den F e' (R.strip ρ) g).bind fun x g => if flatD x then .ok x g else .bad) Q → _
  cases den F e' (R.strip ρ) g with
  | ok d g1 =>
    intro q v H' e1 G' r
    have E1 : EnvO C A H' (σ ++ σx) (ρ ++ ρx) := E.ext e1
    have q : RunP1 C W A H σ σx ρ ρx (if flatD d then .ok d g1 else .bad) Q := q
    cases hf : flatD d with
    | false => rw [hf] at q; exact q.elim
    | true =>
      rw [hf] at q
      have E2 := E1.push (r.flat E1.kind hf)
      rw [List.append_assoc, List.append_assoc] at E2
      exact q v H' A (Chg.ext e1 E.nc G') E2 G'
  | exc c g1 => exact fun q H' e1 G' => q H' (Chg.ext e1 E.nc G').nil G'
  | bad => exact fun q => q
theorem semP1_nw {c : Ctx} {es : List Expr} {es' : List Ex} {pos : Pos} (h : SemL c es es') (hz : es'.length ≤ 16777216) : SemP1 c .nw (.List es pos) (.lst es') := by
  intro X C W F k M
  refine pe_mono (pe_lst (h.w M)) fun σ H Q ⟨A, ρ, g, σx, ρx, E, hl, G, q⟩ => ⟨A, tLst_new (X := X) (C := C.w A) (W := W) (F := F) (Q := Q) hz (E.pre hl).erase (G.w E.kind) ?_⟩
  revert q
  show RunP1 C W A H σ σx ρ ρx ((den F (.lst es') (R.erase ρ) g).bind _) Q → _
  unfold den
  cases denL F es' (R.erase ρ) g with
  | ok ds g1 =>
    intro q p H1 vs e1 G1 r1 hp hl2
    have E1 : EnvO C A H1 (σ ++ σx) (ρ ++ ρx) := E.ext e1
    obtain ⟨c2, E2⟩ := E1.pushNew G1.un hp hl2 r1
    rw [List.append_assoc, List.append_assoc] at E2
    exact q _ _ _ ((Chg.ext (C := C) e1 E.nc G1.un).trans c2 E.kind E.nc) E2 (G1.un.new hp)
  | exc c g1 => exact fun q H' e1 G' => q H' (Chg.ext (C := C) e1 E.nc G'.un).nil G'.un
  | bad => exact fun q => q
def RunP (C : Cfg) (W : WX) (A : List Addr) (H : Hp) (σ σx : L2.St) (ρ ρx : Sl) (r : Res (List Dat)) (Q : List V → Hp → Prop) : Prop := match r with
  | .ok ds g => ∀ vs H' A', Chg C A H H' A' → EnvO C A' H' (σ ++ (σx ++ vs.map some)) (ρ ++ (ρx ++ ds.map some)) → vs.length = ds.length → GR C g H' → Q vs H'
  | .exc c g => ∀ H', Chg C A H H' [] → GR C g H' → W (C.ex c) Option.none σ H'
  | .bad => False
def tP (C : Cfg) (W : WX) (f : Sl → Mo (List Dat)) : TA := fun σ H Q => ∃ A ρ g σx ρx, EnvO C A H (σ ++ σx) (ρ ++ ρx) ∧ σ.length = ρ.length ∧ GR C g H ∧ RunP C W A H σ σx ρ ρx (f ρ g) Q
structure SemPs (c : Ctx) (ms : List PM) (es : List Expr) (es' : List Ex) : Prop where
  run : ∀ X C W F k, Mt X c C W F k → PA X es (tP C W (parGo F ms es'))
  plain : ∀ (env : Env) (pos : Pos), (backTo pos (starEach es env)).any (·.1) = false
  len : es.length = es'.length
theorem semPs_nil {c : Ctx} : SemPs c [] [] [] := by
  refine ⟨fun X C W F k M => pa_mono pa_nil fun σ H Q ⟨A, ρ, g, σx, ρx, E, hl, G, q⟩ => ?_, fun _ _ => rfl, rfl⟩
  have q : RunP C W A H σ σx ρ ρx (.ok [] g) Q := q
  exact q [] H A .refl (by simpa using E) rfl G
theorem semPs_cons {c : Ctx} {m : PM} {ms : List PM} {e : Expr} {es : List Expr} {e' : Ex} {es' : List Ex} (hp : plainE e = true) (h1 : SemP1 c m e e') (h2 : SemPs c ms es es') : SemPs c (m :: ms) (e :: es) (e' :: es') := by
  refine ⟨fun X C W F k M => ?_, fun env pos => ?_, by simp [h2.len]⟩
  · refine pa_mono (pa_cons (h1 X C W F k M) (h2.run X C W F k M) (star_plain hp)) fun σ H Q ⟨A, ρ, g, σx, ρx, E, hl, G, q⟩ => ⟨A, ρ, g, σx, ρx, E, hl, G, ?_⟩
    revert q
    show RunP C W A H σ σx ρ ρx ((comp1 F m e' ρ g).bind fun x g => (parGo F ms es' ρ g).bind fun xs g => .ok (x :: xs) g) Q → _
    cases comp1 F m e' ρ g with
    | bad => exact fun q => q
    | exc c g1 => exact fun q => q
    | ok d g1 =>
      intro q v H1 A1 c1 E1 G1
      refine ⟨A1, ρ, g1, σx ++ [some v], ρx ++ [some d], E1, hl, G1, ?_⟩
      have q : RunP C W A H σ σx ρ ρx ((parGo F ms es' ρ g1).bind fun xs g => .ok (d :: xs) g) Q := q
      revert q
      cases parGo F ms es' ρ g1 with
      | bad => exact fun q => q
      | exc c g2 => exact fun q H' c2 G' => q H' (c1.trans c2 E.kind E.nc) G'
      | ok ds g2 =>
        intro q vs H' A' c2 E2 hl2 G'
        refine q (v :: vs) H' A' (c1.trans c2 E.kind E.nc) ?_ (by simp [hl2]) G'
        simpa [List.append_assoc] using E2
  · rw [star_plain hp]
    show (backTo pos (starEach es env)).any (·.1) = false
    exact h2.plain env pos
/-! ### the targets: names -/
def tNames (is : List Nat) : TGs := fun vs σ H Q => vs.length = is.length ∧ Q (setAll is vs σ) H
/-- names that may be stored -/
structure NamesOk (c : Ctx) (es : List Expr) (is : List Nat) : Prop where
  run : ∀ X C W F k, Mt X c C W F k → PGs X es (tNames is)
  len : es.length = is.length
  plain : ∀ env, (assignEach es env).length = es.length ∧ (assignEach es env).findIdx? (·.1) = Option.none
theorem names_nil {c : Ctx} : NamesOk c [] [] := by
  refine ⟨fun X C W F k M => pgs_mono pgs_nil fun vs σ H Q ⟨hl, q⟩ => ?_, rfl, fun _ => ⟨rfl, rfl⟩⟩
  have : vs = [] := List.eq_nil_of_length_eq_zero hl
  subst this
  exact ⟨rfl, q⟩
theorem names_cons {c : Ctx} {x : Str} {i : Nat} {pos : Pos} {es : List Expr} {is : List Nat} (hN : c.N[i]? = some x) (hl : locB c x = true) (h : NamesOk c es is) : NamesOk c (.Name x pos :: es) (i :: is) := by
  refine ⟨fun X C W F k M => ?_, by simp [h.len], fun env => ?_⟩
  · obtain ⟨h1, h2⟩ := loc_of hl M
    refine pgs_mono (pgs_cons (pg_name (i := i) (by rw [M.N]; exact M.nd) (by rw [M.N]; exact hN) h1 h2) (h.run X C W F k M) (by rw [asg_plain rfl]; rfl)) fun vs σ H Q ⟨hl, q⟩ => ?_
    cases vs with
    | nil => cases hl
    | cons v vs => exact ⟨v, vs, rfl, by simpa using hl, q⟩
  · obtain ⟨a1, a2⟩ := h.plain env
    rw [asg_plain rfl]
    refine ⟨by simp [a1], ?_⟩
    rw [List.findIdx?_cons, a2]
    rfl
/-- the tuple of the right side is made, then taken apart -/
theorem semS_par {c : Ctx} {ts es : List Expr} {is : List Nat} {ms : List PM} {es' : List Ex} {k1 k2 : Nat} {p1 p2 pos : Pos} (hn : NamesOk c ts is) (h : SemPs c ms es es') (hl : es.length = is.length) (hm : ms.length = es'.length) (hz : es'.length ≤ 16777216)
    (hw : ∀ env : Env, env.scope = c.sc → swappedStores [.Tuple ts k1 p1] (.Tuple es k2 p2) env = pure Option.none) : SemS c (.Assign [.Tuple ts k1 p1] (.Tuple es k2 p2) pos) (.par is ms es') := by
  intro X C W F k M
  refine ps_mono (ps_asg (pe_tup (h.run X C W F k M.toMt)) (pg_tup M.calm (hn.run X C W F k M.toMt) (n := ts.length) (hn.plain _).1 (hn.plain _).2) (by rfl) (hw _ M.sc) rfl) fun D σ H ⟨A, ρ, g, E, G, q⟩ => ?_
  unfold run at q
  refine ⟨A, ρ, g, [], [], by simpa using E, E.len, G, ?_⟩
  have hlen : ∀ (ms : List PM) (es' : List Ex) (ρ : Sl) (g : List Dat) (ds : List Dat) (g' : List Dat), ms.length = es'.length → parGo F ms es' ρ g = .ok ds g' → ds.length = es'.length := by
    intro ms
    induction ms with
    | nil =>
      intro es' ρ g ds g' h0 h
      have : es' = [] := List.eq_nil_of_length_eq_zero (by simpa using h0.symm)
      subst this
      have h : Res.ok [] g = .ok ds g' := h
      cases h
      rfl
    | cons m ms ih =>
      intro es' ρ g ds g' h0 h
      cases es' with
      | nil => cases h0
      | cons e es' =>
        have h : ((comp1 F m e ρ g).bind fun x g => (parGo F ms es' ρ g).bind fun xs g => .ok (x :: xs) g) = .ok ds g' := h
        cases h1 : comp1 F m e ρ g with
        | bad => rw [h1] at h; cases h
        | exc c g1 => rw [h1] at h; cases h
        | ok d g1 =>
          rw [h1] at h
          have h : ((parGo F ms es' ρ g1).bind fun xs g => .ok (d :: xs) g) = .ok ds g' := h
          cases h2 : parGo F ms es' ρ g1 with
          | bad => rw [h2] at h; cases h
          | exc c g1 => rw [h2] at h; cases h
          | ok ds2 g2 =>
            rw [h2] at h
            cases h
            simp [ih es' ρ g1 ds2 _ (by simpa using h0) h2]
  revert q
  cases hp : parGo F ms es' ρ g with
  | bad => exact fun q => q
  | exc c g1 => exact fun q H' c1 G' => q σ H' c1 G'
  | ok ds g1 =>
    intro q vs H1 A1 c1 E1 hl2 G1
    have hs : sizeLine = 16777216 := sizeLine_eq
    have hdl := hlen ms es' ρ g ds g1 hm hp
    have hel := h.len
    refine ⟨by omega, fun p hp => ⟨p, vs, rfl, SqT.of upd_same, by rw [hn.len]; omega, by omega, ?_⟩⟩
    have e2 : Ext C H1 (upd H1 p (.tup vs)) := Ext.new hp
    have E2 : EnvO C A1 H1 (setAll is vs σ) (setAll is ds ρ) := EnvO.setAll (by simpa using E1) E.len
    have q : RunS C W A H (.ok (.nx (setAll is ds ρ)) g1) D := q
    exact q _ _ A1 (c1.trans (Chg.ext e2 E2.nc (G1.new hp)) E.kind E.nc) (E2.ext e2) (G1.new hp)
end R
set_option Elab.async false
set_option linter.all false
set_option maxRecDepth 100000
set_option maxHeartbeats 4000000
/-! Where the stores of a, b = e1, e2 are turned: two or three plain locals. -/
namespace R
open PySem PySem.Spec PyProof.Rows L2

def blockK (sc : Scope) : ScopeKind := if sc.kind.isAnnotationScope then .function else sc.kind
def isStar : Expr → Bool
  | .Starred .. => true
  | _ => false
def swNames (sc : Scope) (ts : List Expr) : List Str := ts.filterMap fun
  | .Name id pos => if sc.names.lookup id == some .local && pos.line == (ts.head?.map (·.pos.line)).getD 0 then some id else none
  | _ => none
def swNone (sc : Scope) (ts vs : List Expr) : Bool := (!(ts.length == 2 || ts.length == 3) || vs.length != ts.length || blockK sc != .function) || (vs.any isStar || (((swNames sc ts).length != ts.length || (swNames sc ts).eraseDups.length != (swNames sc ts).length) || vs.all (foldedForSure 8)))
theorem sw_eq {env : Env} {ts vs : List Expr} {k1 k2 : Nat} {p1 p2 : Pos} : swappedStores [.Tuple ts k1 p1] (.Tuple vs k2 p2) env =
    (if (!(ts.length == 2 || ts.length == 3) || vs.length != ts.length || blockK env.scope != .function) = true then pure none else
     if vs.any isStar = true then pure none else
     if ((swNames env.scope ts).length != ts.length || (swNames env.scope ts).eraseDups.length != (swNames env.scope ts).length) = true then pure none else
     if vs.all (foldedForSure 8) = true then pure none else
     if vs.all (constantsAlone 8) = true then (do unsupported "assign.tuple-of-constant-expressions:order-of-the-stores"; pure (some (swNames env.scope ts))) else pure (some (swNames env.scope ts))) := by
  unfold swappedStores
  rfl

theorem sw_none {env : Env} {sc : Scope} {ts vs : List Expr} {k1 k2 : Nat} {p1 p2 : Pos} (h : swNone sc ts vs = true) (he : env.scope = sc) : swappedStores [.Tuple ts k1 p1] (.Tuple vs k2 p2) env = pure Option.none := by
  subst he
  rw [sw_eq]
  unfold swNone at h
  have h : _ = true ∨ _ = true ∨ _ = true ∨ _ = true := (Bool.or_eq_true_iff.mp h).imp_right fun h => (Bool.or_eq_true_iff.mp h).imp_right fun h => Bool.or_eq_true_iff.mp h
  rcases h with h | h | h | h
  · rw [if_pos h]
  · split
    · rfl
    · first | rfl | rw [if_pos h]
  · split
    · rfl
    · split
      · rfl
      · first | rfl | rw [if_pos h]
  · split
    · rfl
    · split
      · rfl
      · split
        · rfl
        · first | rfl | rw [if_pos h]
def swSome (sc : Scope) (ts vs : List Expr) : Bool := !(swNone sc ts vs) && !(vs.all (constantsAlone 8))
theorem sw_some {env : Env} {sc : Scope} {ts vs : List Expr} {k1 k2 : Nat} {p1 p2 : Pos} {ns : List Str} (h : swSome sc ts vs = true) (hn : swNames sc ts = ns) (he : env.scope = sc) : swappedStores [.Tuple ts k1 p1] (.Tuple vs k2 p2) env = pure (some ns) := by
  subst he hn
  rw [sw_eq]
  unfold swSome swNone at h
  simp only [Bool.and_eq_true, Bool.not_eq_true', Bool.or_eq_false_iff] at h
  obtain ⟨⟨h1, h2, h3, h4⟩, h5⟩ := h
  rw [if_neg (by rw [Bool.or_eq_true, Bool.or_eq_true, h1.1.1, h1.1.2, h1.2]; simp), if_neg (by rw [h2]; simp), if_neg (by rw [Bool.or_eq_true, h3.1, h3.2]; simp), if_neg (by rw [h4]; simp), if_neg (by rw [h5]; simp)]
theorem parGo_len {F : Nat → List Dat → Mo Dat} : ∀ (ms : List PM) (es' : List Ex) (ρ : Sl) (g : List Dat) (ds : List Dat) (g' : List Dat), ms.length = es'.length → parGo F ms es' ρ g = .ok ds g' → ds.length = es'.length
  | [], [], ρ, g, ds, g', _, h => by
    have h : Res.ok [] g = .ok ds g' := h
    cases h
    rfl
  | [], _ :: _, _, _, _, _, h0, _ => by cases h0
  | _ :: _, [], _, _, _, _, h0, _ => by cases h0
  | m :: ms, e :: es', ρ, g, ds, g', h0, h => by
    have h : ((comp1 F m e ρ g).bind fun x g => (parGo F ms es' ρ g).bind fun xs g => .ok (x :: xs) g) = .ok ds g' := h
    cases h1 : comp1 F m e ρ g with
    | bad => rw [h1] at h; cases h
    | exc c g1 => rw [h1] at h; cases h
    | ok d g1 =>
      rw [h1] at h
      have h : ((parGo F ms es' ρ g1).bind fun xs g => .ok (d :: xs) g) = .ok ds g' := h
      cases h2 : parGo F ms es' ρ g1 with
      | bad => rw [h2] at h; cases h
      | exc c g1 => rw [h2] at h; cases h
      | ok ds2 g2 =>
        rw [h2] at h
        cases h
        simp [parGo_len ms es' ρ g1 ds2 _ (by simpa using h0) h2]
theorem isLoc {c : Ctx} {x : Str} {X : Cx} {C : Cfg} {W : WX} {F : Nat → List Dat → Mo Dat} {k : Nat} (h : kindB c.sc x = some .local) (M : Mt X c C W F k) : X.env.scope.names.lookup x = some .local := by rw [M.sc]; exact h
/-- a, b = e1, e2: two plain locals -/
theorem semS_par2 {c : Ctx} {x y : Str} {i j : Nat} {px py : Pos} {a b : Expr} {a' b' : Ex} {m1 m2 : PM} {k1 k2 : Nat} {p1 p2 pos : Pos} (hi : c.N[i]? = some x) (hj : c.N[j]? = some y) (hij : i ≠ j) (hx : kindB c.sc x = some .local) (hy : kindB c.sc y = some .local)
    (h : SemPs c [m1, m2] [a, b] [a', b']) (hw : swSome c.sc [.Name x px, .Name y py] [a, b] = true) (hn : swNames c.sc [.Name x px, .Name y py] = [x, y]) :
    SemS c (.Assign [.Tuple [.Name x px, .Name y py] k1 p1] (.Tuple [a, b] k2 p2) pos) (.par [i, j] [m1, m2] [a', b']) := by
  intro X C W F k M
  refine ps_mono (ps_par (i := i) (j := j) M.calm (by rw [M.N]; exact M.nd) (by rw [M.N]; exact hi) (by rw [M.N]; exact hj) hij (isLoc hx M.toMt) (isLoc hy M.toMt) (h.run X C W F k M.toMt) (sw_some hw hn M.sc) (by rfl)) fun D σ H ⟨A, ρ, g, E, G, q⟩ => ?_
  unfold run at q
  refine ⟨A, ρ, g, [], [], by simpa using E, E.len, G, ?_⟩
  revert q
  cases hp : parGo F [m1, m2] [a', b'] ρ g with
  | bad => exact fun q => q
  | exc c g1 => exact fun q H' c1 G' => q σ H' c1 G'
  | ok ds g1 =>
    intro q vs H1 A1 c1 E1 hl2 G1
    have hdl := parGo_len _ _ ρ g ds g1 rfl hp
    have E2 : EnvO C A1 H1 (setAll [i, j] vs σ) (setAll [i, j] ds ρ) := EnvO.setAll (by simpa using E1) E.len
    match vs, hl2, E2 with
    | [v, w], _, E2 => exact ⟨v, w, rfl, (show RunS C W A H (.ok (.nx (setAll [i, j] ds ρ)) g1) D from q) _ _ A1 c1 E2 G1⟩
    | [], hl2, _ => rw [hdl] at hl2; cases hl2
    | [_], hl2, _ => rw [hdl] at hl2; cases hl2
    | _ :: _ :: _ :: _, hl2, _ => rw [hdl] at hl2; simp at hl2
theorem semS_par3 {c : Ctx} {x y z : Str} {i j l : Nat} {px py pz : Pos} {a b d : Expr} {a' b' d' : Ex} {m1 m2 m3 : PM} {k1 k2 : Nat} {p1 p2 pos : Pos} (hi : c.N[i]? = some x) (hj : c.N[j]? = some y) (hl : c.N[l]? = some z) (hij : i ≠ j) (hil : i ≠ l) (hjl : j ≠ l)
    (hx : kindB c.sc x = some .local) (hy : kindB c.sc y = some .local) (hz : kindB c.sc z = some .local)
    (h : SemPs c [m1, m2, m3] [a, b, d] [a', b', d']) (hw : swSome c.sc [.Name x px, .Name y py, .Name z pz] [a, b, d] = true) (hn : swNames c.sc [.Name x px, .Name y py, .Name z pz] = [x, y, z]) :
    SemS c (.Assign [.Tuple [.Name x px, .Name y py, .Name z pz] k1 p1] (.Tuple [a, b, d] k2 p2) pos) (.par [i, j, l] [m1, m2, m3] [a', b', d']) := by
  intro X C W F k M
  refine ps_mono (ps_par3 (i := i) (j := j) (l := l) M.calm (by rw [M.N]; exact M.nd) (by rw [M.N]; exact hi) (by rw [M.N]; exact hj) (by rw [M.N]; exact hl) hij hil hjl (isLoc hx M.toMt) (isLoc hy M.toMt) (isLoc hz M.toMt) (h.run X C W F k M.toMt) (sw_some hw hn M.sc) (by rfl)) fun D σ H ⟨A, ρ, g, E, G, q⟩ => ?_
  unfold run at q
  refine ⟨A, ρ, g, [], [], by simpa using E, E.len, G, ?_⟩
  revert q
  cases hp : parGo F [m1, m2, m3] [a', b', d'] ρ g with
  | bad => exact fun q => q
  | exc c g1 => exact fun q H' c1 G' => q σ H' c1 G'
  | ok ds g1 =>
    intro q vs H1 A1 c1 E1 hl2 G1
    have hdl := parGo_len _ _ ρ g ds g1 rfl hp
    have E2 : EnvO C A1 H1 (setAll [i, j, l] vs σ) (setAll [i, j, l] ds ρ) := EnvO.setAll (by simpa using E1) E.len
    match vs, hl2, E2 with
    | [v, w, u], _, E2 => exact ⟨v, w, u, rfl, (show RunS C W A H (.ok (.nx (setAll [i, j, l] ds ρ)) g1) D from q) _ _ A1 c1 E2 G1⟩
    | [], hl2, _ => rw [hdl] at hl2; cases hl2
    | [_], hl2, _ => rw [hdl] at hl2; cases hl2
    | [_, _], hl2, _ => rw [hdl] at hl2; cases hl2
    | _ :: _ :: _ :: _ :: _, hl2, _ => rw [hdl] at hl2; simp at hl2
end R
set_option Elab.async false
set_option linter.all false
set_option maxRecDepth 100000
set_option maxHeartbeats 4000000
/-! The defs of a text: each does as its plain run. -/
namespace R
open PySem PySem.Spec PyProof.Rows L2

structure DefR where
  name : Str
  st : Stmt
  N : List Str
  ps : List Str
  df : Df
abbrev DefR.toD (d : DefR) : He.DefD := ⟨(d.name, none), d.name, d.name, defArgs d.st, defBody d.st, defScope d.st, [], []⟩
def fnsOf (T : List DefR) : List (Str × (Nat × Nat)) := T.zipIdx.map fun q => (q.1.name, (q.2, q.1.ps.length))
def ctxOf (T : List DefR) (exs : List (Str × Nat)) (glo : List (Str × Dat)) (d : DefR) : Ctx := { N := d.N, sc := defScope d.st, blk := none, fns := fnsOf T, exs := exs, glo := glo }
theorem lookup_mem {α : Type} {x : Str} {v : α} : ∀ {l : List (Str × α)}, l.lookup x = some v → (x, v) ∈ l
  | [], h => by cases h
  | (y, w) :: l, h => by
    rw [List.lookup_cons] at h
    cases e : x == y with
    | true =>
      rw [e] at h
      have h1 : w = v := Option.some.inj h
      have h2 : x = y := eq_of_beq e
      subst h1 h2
      exact List.mem_cons_self
    | false =>
      rw [e] at h
      exact List.mem_cons_of_mem _ (lookup_mem h)
theorem fnsOf_get {T : List DefR} {x : Str} {i n : Nat} (h : (fnsOf T).lookup x = some (i, n)) : ∃ d, T[i]? = some d ∧ d.name = x ∧ d.ps.length = n := by
  have hm := lookup_mem h
  unfold fnsOf at hm
  obtain ⟨⟨d, j⟩, h1, h2⟩ := List.mem_map.mp hm
  have h3 : (d.name, (j, d.ps.length)) = (x, (i, n)) := h2
  simp only [Prod.mk.injEq] at h3
  obtain ⟨e1, e2, e3⟩ := h3
  subst e1 e2 e3
  exact ⟨d, by simpa using List.mk_mem_zipIdx_iff_getElem?.mp h1, rfl, rfl⟩
/-- the def's promise about its own text -/
structure DefOk (T : List DefR) (exs : List (Str × Nat)) (glo : List (Str × Dat)) (d : DefR) : Prop where
  np : d.df.np = d.ps.length
  ns : d.df.ns = d.N.length
  sc : FnScope d.N d.ps (defScope d.st)
  bind : ∀ (kV doc pm : Value) (an : Option Addr) (cdv ct : Value) (us : List Value), us.length = d.ps.length → bindArgs (PySem.W.fnOf d.name d.name (defArgs d.st) (defBody d.st) (defScope d.st) .none kV doc pm an cdv ct) ⟨us, []⟩ = pure (d.ps.zip us)
  body : SemB (ctxOf T exs glo d) (defBody d.st) d.df.body
/-- what the top has left -/
structure Top (K : PySem.W.Frag) (mg : Str → Option Value) (C : Cfg) (T : List DefR) (exs : List (Str × Nat)) (glo : List (Str × Dat)) : Prop where
  kk : C.K = K
  bi : ∀ x ∈ biNames, mg x = none
  glo : ∀ x d, glo.lookup x = some d → ∃ u v, mg x = some u ∧ RelV v u ∧ ∀ (cup : Option Addr) (M : List Addr) (H : Hp), Rp { C with cup := cup, M := M } H v d
  fn : ∀ i d, T[i]? = some d → mg d.name = some (.ref (C.fa i)) ∧ C.fr i = d.df.fr ∧ ∃ fd, FunD K d.name d.name (defArgs d.st) (defBody d.st) (defScope d.st) [] [] (C.fa i) fd
  ex : ∀ x j, exs.lookup x = some j → ∃ Cx : Addr, mg x = some (.ref Cx) ∧ C.ex j = .ref Cx ∧ PySem.W.excIn K Cx He.veBase "ValueError.__new__" = true ∧ PySem.W.keepIn K (.ref Cx) = true ∧ PySem.W.subIn K (.ref Cx) (.type "BaseException") = some true ∧ PySem.W.typeIn K (.ref Cx) = some (.type "type")
section
variable {P : Program} {w : World} {K : PySem.W.Frag} {mg : Str → Option Value} {base : Heap} {C : Cfg} {T : List DefR} {exs : List (Str × Nat)} {glo : List (Str × Dat)}
/-- the context of a def's body is one of ours -/
theorem mt_def (tp : Top K mg C T exs glo) (D : ∀ (i : Nat) (d : DefR), T[i]? = some d → DefOk T exs glo d) {k : Nat} (ih : ∀ i d fd, T[i]? = some d → FunD K d.name d.name (defArgs d.st) (defBody d.st) (defScope d.st) [] [] (C.fa i) fd →
      FnOk P w K mg base (L2.CX P w) k (C.fa i) fd d.ps (spD C d.ps.length (C.fr i) (callK (T.map (·.df)) k i))) {i : Nat} {d : DefR} (hd : T[i]? = some d) (cdv : Value) (A : Around) (outer : List Env) (s : Shared) (H : Hp) (E : XK)
    (hr : Room k (A.deeper (envOfC d.name (defScope d.st) s.heap.objs.size (C.fa i) cdv))) (cup : Option Addr) (M : List Addr) :
    MtS (cxOf (L2.CX P w) P w K mg base d.N d.name (defScope d.st) (C.fa i) cdv A outer s H E) (ctxOf T exs glo d) { C with cup := cup, M := M } (fun cls d _ H => E cls d H) (callK (T.map (·.df)) k) k := by
  refine { N := rfl, nd := (D i d hd).sc.nd, sc := rfl, calm := rfl, K := tp.kk.symm, room := hr, tk := takes_of rfl rfl rfl rfl, fn := fun _ _ => rfl, fns := fun x j n h => ?_, glo := tp.glo, bi := tp.bi, ex := tp.ex, po := passes_of rfl }
  obtain ⟨d2, h1, rfl, rfl⟩ := fnsOf_get h
  obtain ⟨g1, _, fd, g2⟩ := tp.fn j d2 h1
  exact ⟨g1, g2.kp, fd, d2.ps, rfl, ih j d2 fd h1 g2, g2.bindsN (D j d2 h1).bind⟩
theorem start_env {C : Cfg} {H : Hp} {vs : List V} {ds : List Dat} {N : List Str} {np ns : Nat} (r : RpL C H vs ds) (hn : ns = N.length) (hl : vs.length = np) : EnvR C H (L2.start N vs) (ds.map some ++ List.replicate (ns - np) none) := by
  subst hn hl
  have hlen := r.len
  refine ⟨by unfold L2.start; simp [hlen], fun i d h => ?_⟩
  unfold L2.start
  by_cases hi : i < ds.length
  · rw [List.getElem?_append_left (by simpa using hi), List.getElem?_map] at h
    cases e : ds[i]? with
    | none => rw [e] at h; cases h
    | some d2 =>
      rw [e] at h
      cases h
      obtain ⟨v, h1, h2⟩ := r.get e
      exact ⟨v, by rw [List.getElem?_append_left (by rw [List.length_map]; omega), List.getElem?_map, h1]; rfl, h2⟩
  · rw [List.getElem?_append_right (by simpa using hi), List.getElem?_replicate] at h
    split at h <;> cases h
theorem Chg.e {C : Cfg} {A' : List Addr} {H H' : Hp} (a : Chg C [] H H' A') : Ext C H H' := fun x o h c => a.keep x o h c (by simp)
/-- each def does as its plain run, k calls deep -/
theorem fn_all (tp : Top K mg C T exs glo) (D : ∀ (i : Nat) (d : DefR), T[i]? = some d → DefOk T exs glo d) : ∀ (k i : Nat) (d : DefR) (fd : FuncData), T[i]? = some d → FunD K d.name d.name (defArgs d.st) (defBody d.st) (defScope d.st) [] [] (C.fa i) fd →
    FnOk P w K mg base (L2.CX P w) k (C.fa i) fd d.ps (spD C d.ps.length (C.fr i) (callK (T.map (·.df)) k i))
  | 0, i, d, fd, hd, F => ⟨fun vs H Q E h => h.1, fun A outer s H args us vs Q E _ _ _ _ h => by
      obtain ⟨_, _, _, _, _, _, _, q⟩ := h
      exact q.elim⟩
  | k + 1, i, d, fd, hd, F => by
    have ok := D i d hd
    refine F.ok ok.sc (fun vs H Q E h => h.1) fun cdv A outer s H vs Q E hr h => ?_
    obtain ⟨hl, cup, M, ds, g, r, G, q⟩ := h
    refine ⟨_, ok.body _ _ _ _ _ (mt_def tp D (fun i d fd => fn_all tp D k i d fd) hd cdv A outer s H E hr cup M), [], ds.map some ++ List.replicate (d.df.ns - d.df.np) none, g, .of (start_env r ok.ns (by rw [hl, ok.np])), G, ?_⟩
    have hfr := (tp.fn i d hd).2.1
    have hPi : (T.map (·.df))[i]? = some d.df := by rw [List.getElem?_map, hd]; rfl
    have hlen : ds.length = d.df.np := by rw [ok.np, ← hl, r.len]
    unfold callK at q
    rw [hPi] at q
    dsimp only at q
    rw [if_pos hlen] at q
    revert q
    cases runs (callK (T.map (·.df)) k) d.df.body (ds.map some ++ List.replicate (d.df.ns - d.df.np) none) g with
    | bad => exact fun q => q.elim
    | exc c g1 => exact fun q σ' H' e G' => q H' e.e G'
    | ok o g1 =>
      cases o with
      | nx ρ => exact fun q σ' H' A' e _ G' => q .non H' e.e G' .non fun _ p hp => nomatch hp
      | bk ρ => exact fun q => q.elim
      | ct ρ => exact fun q => q.elim
      | rt dd fr =>
        intro q v H' e G' r' hf
        have q : RunF { C with cup := cup, M := M } (C.fr i) (if d.df.fr && !fr then .bad else .ok dd g1) H Q E := q
        rw [hfr] at q
        cases hfl : d.df.fr with
        | false =>
          rw [hfl] at q
          exact q v H' e.e G' r' fun z => nomatch z
        | true =>
          rw [hfl] at q
          cases fr with
          | false => exact q.elim
          | true => exact q v H' e.e G' r' fun _ => hf rfl
end
end R
set_option Elab.async false
set_option linter.all false
set_option maxRecDepth 100000
set_option maxHeartbeats 4000000
/-! What the top has written, by a Hook; a law's own def. -/
namespace R
open PySem PySem.Spec PyProof.Rows L2

/-! ### fixed data of the module -/
mutual
def valB (K : PySem.W.Frag) : Value → Dat → Bool
  | .none, .non => true
  | .bool b, .bl c => b == c
  | .int i _, .int j => decide (i = j)
  | .str y _, .str s => (y.cps.toList == s) && sOkB y
  | .ref a, .tup ds => match K.lookup a with
    | some ⟨.type c, _, .seq its _, _⟩ => decide (c = "tuple") && (decide (its.size ≤ sizeLine) && (decide (ds.length ≤ sizeLine) && valBL K its.toList ds))
    | _ => false
  | _, _ => false
def valBL (K : PySem.W.Frag) : List Value → List Dat → Bool
  | [], [] => true
  | u :: us, d :: ds => valB K u d && valBL K us ds
  | _, _ => false
end
mutual
theorem valB_ok {K : PySem.W.Frag} : ∀ {u : Value} {d : Dat}, valB K u d = true → ∃ v, RelV v u ∧ ∀ (C : Cfg), C.K = K → ∀ H, Rp C H v d
  | u, .non, h => by
    cases u with
    | none => exact ⟨.non, rfl, fun _ _ _ => .non⟩
    | _ => simp [valB] at h
  | u, .bl c, h => by
    cases u with
    | bool b =>
      simp [valB] at h
      subst h
      exact ⟨.bl b, rfl, fun _ _ _ => .bl b⟩
    | _ => simp [valB] at h
  | u, .int c, h => by
    cases u with
    | int b t =>
      simp [valB] at h
      subst h
      exact ⟨.int b, ⟨t, rfl⟩, fun _ _ _ => .int b⟩
    | _ => simp [valB] at h
  | u, .str c, h => by
    cases u with
    | str b t =>
      simp only [valB, Bool.and_eq_true, beq_iff_eq] at h
      obtain ⟨h1, h2⟩ := h
      exact ⟨.str b, ⟨t, rfl⟩, fun _ _ _ => .strE (sOk_of h2) h1⟩
    | _ => simp [valB] at h
  | u, .tup c, h => by
    cases u with
    | ref a =>
      unfold valB at h
      cases q : K.lookup a with
      | none => rw [q] at h; cases h
      | some o =>
        obtain ⟨oc, od, dt, osl⟩ := o
        rw [q] at h
        cases oc with
        | type cn =>
          cases dt with
          | seq its n =>
            simp only [Bool.and_eq_true, decide_eq_true_eq] at h
            obtain ⟨h1, h2, h3, h4⟩ := h
            obtain ⟨vs, hv, hr⟩ := valBL_ok h4
            exact ⟨.ref a, rfl, fun C hC H => .tup (.inr ⟨_, its, n, by rw [hC]; exact q, congrArg Value.type h1, rfl, h2, hv⟩) h3 (hr C hC H)⟩
          | _ => cases h
        | _ => cases dt <;> cases h
    | _ => simp [valB] at h
  | u, .lst c, h => by cases u <;> simp [valB] at h
  | u, .fn c, h => by cases u <;> simp [valB] at h
  | u, .cup, h => by cases u <;> simp [valB] at h
  | u, .kl c, h => by cases u <;> simp [valB] at h
  | u, .dct c d, h => by cases u <;> simp [valB] at h
  | u, .fdc c d, h => by cases u <;> simp [valB] at h
  | u, .own c, h => by cases u <;> simp [valB] at h
theorem valBL_ok {K : PySem.W.Frag} : ∀ {us : List Value} {ds : List Dat}, valBL K us ds = true → ∃ vs, Vals vs us ∧ ∀ (C : Cfg), C.K = K → ∀ H, RpL C H vs ds
  | [], [], _ => ⟨[], .nil, fun _ _ _ => .nil⟩
  | [], _ :: _, h => by simp [valBL] at h
  | _ :: _, [], h => by simp [valBL] at h
  | u :: us, d :: ds, h => by
    simp only [valBL, Bool.and_eq_true] at h
    obtain ⟨v, h1, h2⟩ := valB_ok h.1
    obtain ⟨vs, h3, h4⟩ := valBL_ok h.2
    exact ⟨v :: vs, .cons h1 h3, fun C hC H => .cons (h2 C hC H) (h4 C hC H)⟩
end
def globB (K : PySem.W.Frag) (p : Str × Dat) : Bool := match PySem.W.nsIn K mainGlobals p.1 with
  | some (some u) => valB K u p.2
  | _ => false
/-! ### the Hook -/
def faOf (ns : List Str) (exs : List (Str × Nat)) : List He.Fa := ns.map .glo ++ (biNames.map .free ++ (exs.map (fun p => .glo p.1) ++ exs.map fun p => .exc p.1))
def obsR (fa : List He.Fa) (fn : List He.DefD) (glo : List (Str × Dat)) (K : PySem.W.Frag) : He.AlD := (((fa.all fun f => f.ok K) && fn.all fun d => d.ok K) && glo.all (globB K), fn.map fun d => He.fnW K d.at_)
def SaysR (fa : List He.Fa) (fn : List He.DefD) (glo : List (Str × Dat)) (K : PySem.W.Frag) : Prop := obsR fa fn glo K = He.valD fn
def obsRG (n : Nat) (fa : List He.Fa) (fn : List He.DefD) (glo : List (Str × Dat)) (g : Addr → Option Obj) : He.AlD := obsR fa fn glo (He.frG g (He.asD g n))
def hookR (n : Nat) (fa : List He.Fa) (fn : List He.DefD) (glo : List (Str × Dat)) : PySem.W.Hook where
  α := He.AlD
  obs := fun s => obsRG n fa fn glo s.heap.get?
  val := fun _ => He.valD fn
  says := fun _ h => ∃ K : PySem.W.Frag, K.In h ∧ SaysR fa fn glo K
  of := fun _ _ e => ⟨_, He.frG_in, e⟩
  keeps := fun _ _ _ ⟨K, hK, c⟩ k => ⟨K, PySem.W.Frag.In.keeps hK k, c⟩
theorem obsRG_eq {n : Nat} {fa : List He.Fa} {fn : List He.DefD} {glo : List (Str × Dat)} {g : Addr → Option Obj} {s : Shared} (h : ∀ a, g a = s.heap.get? a) : obsRG n fa fn glo g = (hookR n fa fn glo).obs s := by
  have e : g = s.heap.get? := funext h
  rw [e] <;> rfl
theorem SaysR.d {fa : List He.Fa} {fn : List He.DefD} {glo : List (Str × Dat)} {K : PySem.W.Frag} (c : SaysR fa fn glo K) : He.SaysD fa fn K ∧ glo.all (globB K) = true := by
  have h1 := congrArg (fun z : He.AlD => z.1) c
  have h2 := congrArg (fun z : He.AlD => z.2) c
  have h1 : (((fa.all fun f => f.ok K) && fn.all fun d => d.ok K) && glo.all (globB K)) = true := h1
  obtain ⟨h3, h4⟩ := He.ba h1
  exact ⟨Prod.ext h3 h2, h4⟩
/-- the plain names of the cfg -/
def cfgOf (K : PySem.W.Frag) (T : List DefR) (exs : List (Str × Nat)) : Cfg where
  K := K
  fa := fun i => He.ga K ((T.map (·.name)).getD i "")
  ex := fun j => .ref (He.ga K ((exs.map (·.1)).getD j ""))
  fr := fun i => ((T.map (·.df.fr)).getD i false)
  cup := none
  M := []
theorem top_of {K : PySem.W.Frag} {h : Heap} {mg : Str → Option Value} {T : List DefR} {exs : List (Str × Nat)} {glo : List (Str × Dat)} {more : List He.DefD} {mo : List Str} (X : K.In h) (G : h.Ns mainGlobals mg) (hex : exs = (exs.map (·.1)).zipIdx) (c : SaysR (faOf (T.map (·.name) ++ mo) exs) (T.map DefR.toD ++ more) glo K) : Top K mg (cfgOf K T exs) T exs glo := by
  obtain ⟨c, cg⟩ := c.d
  have fact : ∀ f ∈ faOf (T.map (·.name) ++ mo) exs, f.ok K = true := fun f hf => by
    obtain ⟨i, hi⟩ := List.mem_iff_getElem?.mp hf
    exact c.fact i hi
  refine ⟨rfl, fun x hx => ?_, fun x d hd => ?_, fun i d hd => ?_, fun x j hx => ?_⟩
  · exact He.free_ok X G (fact (.free x) (List.mem_append_right _ (List.mem_append_left _ (List.mem_map.mpr ⟨x, hx, rfl⟩))))
  · have h1 := List.all_eq_true.mp cg _ (lookup_mem hd)
    unfold globB at h1
    cases e : PySem.W.nsIn K mainGlobals x with
    | none => rw [e] at h1; cases h1
    | some o =>
      rw [e] at h1
      cases o with
      | none => cases h1
      | some u =>
        obtain ⟨v, h2, h3⟩ := valB_ok h1
        exact ⟨u, v, PySem.W.mg_of X G e, h2, fun cup M H => h3 _ rfl H⟩
  · have e1 : (cfgOf K T exs).fa i = He.ga K d.name := by
      show He.ga K ((T.map (·.name)).getD i "") = _
      rw [List.getD_eq_getElem?_getD, List.getElem?_map, hd]; rfl
    rw [e1]
    refine ⟨He.glo_ok X G (fact (.glo d.name) (List.mem_append_left _ (List.mem_map.mpr ⟨d.name, List.mem_append_left _ (List.mem_map.mpr ⟨d, List.mem_of_getElem? hd, rfl⟩), rfl⟩))), ?_, ?_⟩
    · show ((T.map (·.df.fr)).getD i false) = _
      rw [List.getD_eq_getElem?_getD, List.getElem?_map, hd]; rfl
    · exact c.def_ i (d := d.toD) (by rw [List.getElem?_append_left (by rw [List.length_map]; exact (List.getElem?_eq_some_iff.mp hd).1), List.getElem?_map, hd]; rfl)
  · have hm := lookup_mem hx
    have e1 : (cfgOf K T exs).ex j = .ref (He.ga K x) := by
      have hm2 := hm
      rw [hex] at hm2
      have := List.mk_mem_zipIdx_iff_getElem?.mp hm2
      show Value.ref (He.ga K ((exs.map (·.1)).getD j "")) = _
      rw [List.getD_eq_getElem?_getD, this]; rfl
    obtain ⟨f1, f2, f3, f4⟩ := He.exc_ok (fact (.exc x) (List.mem_append_right _ (List.mem_append_right _ (List.mem_append_right _ (List.mem_map.mpr ⟨_, hm, rfl⟩)))))
    exact ⟨He.ga K x, He.glo_ok X G (fact (.glo x) (List.mem_append_right _ (List.mem_append_right _ (List.mem_append_left _ (List.mem_map.mpr ⟨_, hm, rfl⟩))))), e1, f1, f2, f3, f4⟩
end R
set_option Elab.async false
set_option linter.all false
set_option maxRecDepth 100000
set_option maxHeartbeats 4000000
/-! A law's own def: its first statement makes the list that is changed in place. -/
namespace R
open PySem PySem.Spec PyProof.Rows L2

/-- the first statement of a law -/
structure FirstSt (T : List DefR) (exs : List (Str × Nat)) (glo : List (Str × Dat)) (L : DefR) (iL ic : Nat) (rest : List Stmt) : Prop where
  body : ∃ (xs lc cx : Str) (p1 p2 p3 p4 p5 : Pos), defBody L.st = .Assign [.Name cx p1] (.Call (.Name lc p2) [.Name xs p3] [] p4) p5 :: rest ∧ L.ps = [xs] ∧ L.N[0]? = some xs ∧ L.N[ic]? = some cx ∧
    visB (defScope L.st) xs = true ∧ dbgB xs = false ∧ dbgB lc = false ∧ kindB (defScope L.st) lc = some .globalImplicit ∧ (fnsOf T).lookup lc = some (iL, 1) ∧ (kindB (defScope L.st) cx = some .local ∨ kindB (defScope L.st) cx = some .cell)
  fr : (T.map (·.df.fr)).getD iL false = true
/-- the law's def -/
structure LawOk (T : List DefR) (exs : List (Str × Nat)) (glo : List (Str × Dat)) (L : DefR) (iL ic : Nat) (rest : List Stmt) : Prop extends FirstSt T exs glo L iL ic rest where
  sc : FnScope L.N L.ps (defScope L.st)
  bind : ∀ (kV doc pm : Value) (an : Option Addr) (cdv ct : Value) (us : List Value), us.length = L.ps.length → bindArgs (PySem.W.fnOf L.name L.name (defArgs L.st) (defBody L.st) (defScope L.st) .none kV doc pm an cdv ct) ⟨us, []⟩ = pure (L.ps.zip us)
  sem : SemB (ctxOf T exs glo L) rest L.df.body
/-- the law's frame behind its first statement -/
def frame0 (L : DefR) (ic : Nat) : Sl := (List.replicate L.N.length none).set ic (some .cup)
/-- what plain Lean is to show: for each script the cup's ints, and the rest of the body ends with True -/
def Pure (T : List DefR) (k : Nat) (L : DefR) (iL ic : Nat) : Prop := ∀ ns : List Int, ns.length ≤ 63 → ∃ (is : List Int),
  (callK (T.map (·.df)) k iL [.lst (ns.map .int)] [] = .ok (.lst (is.map .int)) [] ∧ callK (T.map (·.df)) k iL [.kl (ns.map .int)] [] = .ok (.lst (is.map .int)) []) ∧
  ∃ fr g, runs (callK (T.map (·.df)) k) L.df.body (frame0 L ic) (is.map .int) = .ok (.rt (.bl true) fr) g
def spLaw (K : PySem.W.Frag) : Sp := fun vs H Q _ => ∃ (a : Addr) (ns : List Int), vs = [.ref a] ∧ ns.length ≤ 63 ∧ SqL K H a (ns.map V.int) ∧ ∀ H', Q (.bl true) H'
theorem ints_RpL {C : Cfg} {H : Hp} : ∀ ns : List Int, RpL C H (ns.map V.int) (ns.map .int)
  | [] => .nil
  | n :: ns => .cons (.int n) (ints_RpL ns)
theorem ints_flat : ∀ ns : List Int, flatL (ns.map .int) = true
  | [] => rfl
  | n :: ns => by rw [List.map_cons, flatL_cons, ints_flat ns]; rfl
theorem ints_RpL_inv {C : Cfg} {H : Hp} : ∀ {ns : List Int} {vs : List V}, RpL C H vs (ns.map .int) → vs = ns.map V.int
  | [], vs, h => by cases h; rfl
  | n :: ns, vs, h => by
    cases h with
    | cons r rr => rw [r.int_inv, ints_RpL_inv rr]; rfl
theorem frame_env {C : Cfg} {H : Hp} {σ : L2.St} {n ic : Nat} {a : Addr} (hσ : σ.length = n) (hc : C.cup = some a) (hv : σ[ic]? = some (some (.ref a))) : EnvR C H σ ((List.replicate n none).set ic (some .cup)) := by
  refine ⟨by simp [hσ], fun i d h => ?_⟩
  by_cases hi : ic = i
  · subst hi
    have hl : ic < n := by
      have := (List.getElem?_eq_some_iff.mp h).1
      simpa using this
    rw [List.getElem?_set_self (by simpa using hl)] at h
    cases h
    exact ⟨_, hv, .cup hc⟩
  · rw [List.getElem?_set_ne hi, List.getElem?_replicate] at h
    split at h <;> cases h
section
variable {P : Program} {w : World} {K : PySem.W.Frag} {mg : Str → Option Value} {base : Heap} {T : List DefR} {exs : List (Str × Nat)} {glo : List (Str × Dat)}
theorem law_fn (tp : Top K mg (cfgOf K T exs) T exs glo) (D : ∀ (i : Nat) (d : DefR), T[i]? = some d → DefOk T exs glo d) {L : DefR} {iL ic : Nat} {rest : List Stmt} (ok : LawOk T exs glo L iL ic rest) {k : Nat} (pure_ : Pure T k L iL ic) {f : Addr} {fd : FuncData}
    (F : FunD K L.name L.name (defArgs L.st) (defBody L.st) (defScope L.st) [] [] f fd) : FnOk P w K mg base (L2.CX P w) (k + 1) f fd L.ps (spLaw K) := by
  obtain ⟨xs, lc, cx, p1, p2, p3, p4, p5, hb, hps, hN0, hNc, hv, hd1, hd2, hg, hlk, hlc⟩ := ok.body
  refine F.ok ok.sc (fun vs H Q E h => ?_) fun cdv A outer s H vs Q E hr h => ?_
  · obtain ⟨_, _, rfl, _⟩ := h
    rw [hps]; rfl
  · obtain ⟨a, ns, rfl, hlen, hS, q⟩ := h
    have hC : ∀ (cup : Option Addr), MtS (cxOf (L2.CX P w) P w K mg base L.N L.name (defScope L.st) f cdv A outer s H E) (ctxOf T exs glo L) { cfgOf K T exs with cup := cup } (fun cls d _ H => E cls d H) (callK (T.map (·.df)) k) k := by
      intro cup
      refine { N := rfl, nd := ok.sc.nd, sc := rfl, calm := rfl, K := tp.kk.symm, room := hr, tk := takes_of rfl rfl rfl rfl, fn := fun _ _ => rfl, fns := fun x j n h => ?_, glo := tp.glo, bi := tp.bi, ex := tp.ex, po := passes_of rfl }
      obtain ⟨d2, h1, rfl, rfl⟩ := fnsOf_get h
      obtain ⟨g1, _, fd, g2⟩ := tp.fn j d2 h1
      exact ⟨g1, g2.kp, fd, d2.ps, rfl, fn_all tp D k j d2 fd h1 g2, g2.bindsN (D j d2 h1).bind⟩
    have M0 := (hC none).toMt
    obtain ⟨m1, m2, fd2, ps2, hp2, fo, hbd⟩ := M0.fns lc iL 1 hlk
    have hfr : ({ cfgOf K T exs with cup := none } : Cfg).fr iL = true := ok.fr
    rw [hfr] at fo
    have hv0 : Sem (ctxOf T exs glo L) (.Name xs p3) (.var 0) := sem_var hN0 hv hd1
    have ha := (semL_one hv0).run _ _ _ _ _ M0
    have hdb := dbg_of hd2
    rw [hb]
    have s1 := ps_set (i := ic) (pos' := p1) (pos := p5) (M0.N ▸ M0.nd) (by rw [M0.N]; exact hNc) (by rw [L2.Loc, M0.sc]; exact hlc)
      (pe_callS (pos := p4) (p := p2) fo M0.room (show (cxOf (L2.CX P w) P w K mg base L.N L.name (defScope L.st) f cdv A outer s H E).env.scope.names.lookup lc = some .globalImplicit from hg) m1 m2 hbd (fun σ => passAt M0.tk σ) ha hdb.1 rfl rfl) (by rfl) (.inl rfl)
    have s2 : PSs (cxOf (L2.CX P w) P w K mg base L.N L.name (defScope L.st) f cdv A outer s H E) rest fun D σ H2 => ∃ p, tS { cfgOf K T exs with cup := some p } (fun cls d _ H => E cls d H) (runs (callK (T.map (·.df)) k) L.df.body) D σ H2 :=
      ⟨fun pins s σ H D I ⟨p, q⟩ => (ok.sem _ _ _ _ _ (hC (some p))).run pins s σ H D I q⟩
    refine ⟨_, pss_cons s1 s2, ?_⟩
    obtain ⟨is, ⟨hc1, hc2⟩, fr, gE, hend⟩ := pure_ ns hlen
    have hz : (ns.map Dat.int).length ≤ sizeLine := by rw [List.length_map, sizeLine_eq]; omega
    have key : ∀ sc : Dat, Rp { cfgOf K T exs with cup := none } H (.ref a) sc → callK (T.map (·.df)) k iL [sc] [] = .ok (.lst (is.map .int)) [] →
        ∃ ρ g, EnvR { cfgOf K T exs with cup := none } H (L2.start L.N [.ref a]) ρ ∧ GR { cfgOf K T exs with cup := none } g H ∧ denL (callK (T.map (·.df)) k) [.var 0] ρ g = .ok [sc] [] ∧ g = [] := by
      intro sc r hcall
      have hnl : 0 < L.N.length := (List.getElem?_eq_some_iff.mp hN0).1
      refine ⟨[sc].map some ++ List.replicate (L.N.length - 1) none, [], start_env (.cons r .nil) rfl rfl, ⟨fun a h => absurd h (by show a ∉ ([] : List Addr); simp), fun a h => nomatch h⟩, ?_, rfl⟩
      simp [denL, den, ofO, Res.bind]
    have main : ∀ sc : Dat, Rp { cfgOf K T exs with cup := none } H (.ref a) sc → callK (T.map (·.df)) k iL [sc] [] = .ok (.lst (is.map .int)) [] →
        tSeq (tAsg (tCallS (spD { cfgOf K T exs with cup := none } 1 true (callK (T.map (·.df)) k iL)) (WE fun cls d _ H => E cls d H) (tA { cfgOf K T exs with cup := none } (fun cls d _ H => E cls d H) (denL (callK (T.map (·.df)) k) [.var 0]))) (gName ic))
          (fun D σ H2 => ∃ p, tS { cfgOf K T exs with cup := some p } (fun cls d _ H => E cls d H) (runs (callK (T.map (·.df)) k) L.df.body) D σ H2) { nx := fun _ H' => Q .non H', rt := Q } (L2.start L.N [.ref a]) H := by
      intro sc r hcall
      obtain ⟨ρ, g, E0, G0, hden, rfl⟩ := key sc r hcall
      refine ⟨ρ, [], E0, G0, ?_⟩
      rw [hden]
      intro vs H1 e1 G1 r1
      refine ⟨by have := r1.len; simpa using this, none, [], [sc], [], r1, G1, ?_⟩
      rw [hcall]
      intro v H2 e2 G2 r2 hf
      obtain ⟨p, vs2, rfl, t2, z2, l2⟩ := r2.lst_inv
      obtain ⟨vs3, hH2⟩ := hf rfl p rfl
      have hvs : vs3 = is.map V.int := by
        have e2 := ints_RpL_inv l2
        rcases t2.1 with h | ⟨o, h⟩
        · rw [hH2] at h; cases h; exact e2
        · rw [hH2] at h; cases h
      refine ⟨p, [], frame0 L ic, is.map .int, .of ?_, ⟨fun a h => absurd h (by show a ∉ ([] : List Addr); simp), fun a h => ?_⟩, ?_⟩
      · have hlt : ic < L.N.length := (List.getElem?_eq_some_iff.mp hNc).1
        have hsl : (L2.start L.N [.ref a]).length = L.N.length := by
          have hnl : 0 < L.N.length := (List.getElem?_eq_some_iff.mp hN0).1
          unfold L2.start
          simp
          omega
        exact frame_env (by rw [List.length_set]; exact hsl) rfl (by rw [List.getElem?_set_self (by rw [hsl]; exact hlt)])
      · cases (show some p = some a from h)
        exact ⟨vs3, hH2, by rw [hvs]; exact ints_RpL is, ints_flat is⟩
      · rw [hend]
        intro v H3 e3 G3 r3 _
        cases r3
        exact q H3
    rcases hS with hS | ⟨o, its, n, h1, h2, h3, h4, h5, h6⟩
    · exact main _ (.lst ⟨hS, by (intro z; exact nomatch z), by show a ∉ ([] : List Addr); simp⟩ hz (ints_RpL ns)) hc1
    · exact main _ (.kl ⟨o, its, n, h1, h2, h3, h4, h5, h6⟩ hz (ints_RpL ns)) hc2
end
/-- a law's promise, by the Hook's facts -/
theorem law_at {l : PySem.W.OpenLaw} {T : List DefR} {exs : List (Str × Nat)} {glo : List (Str × Dat)} {L : DefR} {iL ic k : Nat} {rest : List Stmt} (hex : exs = (exs.map (·.1)).zipIdx) (D : ∀ (i : Nat) (d : DefR), T[i]? = some d → DefOk T exs glo d) (ok : LawOk T exs glo L iL ic rest)
    (pure_ : Pure T k L iL ic) (hn : L.name = "law") (hps : L.ps = [("script" : Str)]) {w : World} {K : PySem.W.Frag} {h : Heap} {mg : Str → Option Value} {fa : Addr} (X : K.In h) (G : h.Ns mainGlobals mg) (hfa : mg ("law" : Str) = some (.ref fa))
    (c : SaysR (faOf (T.map (·.name) ++ [L.name]) exs) (T.map DefR.toD ++ [L.toD]) glo K) : LamX.LawAtS l w K (L2.CX l.prog w) (k + 1) 63 "script" mg fa h := by
  obtain ⟨fd, F⟩ := c.d.1.def_ T.length (d := L.toD) (by rw [List.getElem?_append_right (by simp)]; simp)
  have hf := c.d.1.fact T.length (f := .glo L.name) (by unfold faOf; rw [List.map_append, List.append_assoc, List.getElem?_append_right (by simp)]; simp)
  have e : He.ga K L.name = fa := by
    have h1 := He.glo_ok X G hf
    rw [hn, hfa] at h1
    rw [hn]
    have h2 := Option.some.inj h1
    injection h2 with h3
    exact h3.symm
  have F : FunD K L.name L.name (defArgs L.st) (defBody L.st) (defScope L.st) [] [] fa fd := by
    rw [← e]; exact F
  refine ⟨fd, [], spLaw K, fun p hp => absurd hp (by simp), fun p hp => absurd hp (by simp), fun p hp => absurd hp (by simp), fun s u => ?_, fun H a ns hl _ _ hS => ⟨a, ns, rfl, hl, hS, fun _ => rfl⟩, fun base XB GB _ => ?_⟩
  · have b := FunD.bindsA (ps := L.ps) F ok.bind s [u] (by rw [hps]; rfl)
    rw [hps] at b
    exact b
  · rw [← hps]
    exact law_fn (top_of XB GB hex c) D ok pure_ F
end R
set_option Elab.async false
set_option linter.all false
set_option maxRecDepth 100000
set_option maxHeartbeats 4000000
/-! The plain text of a Python text, with its proof. -/
namespace R
open PySem PySem.Spec PyProof.Rows L2

def findIx (x : Str) : List Str → Nat → Option Nat
  | [], _ => none
  | y :: r, i => if y == x then some i else findIx x r (i + 1)
theorem findIx_ok {x : Str} : ∀ {N : List Str} {i j : Nat}, findIx x N i = some j → i ≤ j ∧ N[j - i]? = some x
  | [], _, _, h => by cases h
  | y :: r, i, j, h => by
    unfold findIx at h
    split at h
    · rename_i e
      cases h
      refine ⟨Nat.le_refl _, ?_⟩
      rw [Nat.sub_self, ← eq_of_beq e]; rfl
    · obtain ⟨h1, h2⟩ := findIx_ok h
      refine ⟨by omega, ?_⟩
      rw [show j - i = (j - (i + 1)) + 1 by omega]
      exact h2
def slotOf (c : Ctx) (x : Str) : Option { i : Nat // c.N[i]? = some x } := match h : findIx x c.N 0 with
  | some i => some ⟨i, (findIx_ok h).2⟩
  | none => none
def isGlo (c : Ctx) (x : Str) : Bool := match kindB c.sc x with
  | some .globalImplicit => true
  | _ => false
theorem isGlo_ok {c : Ctx} {x : Str} (h : isGlo c x = true) : kindB c.sc x = some .globalImplicit := by
  unfold isGlo at h
  split at h
  · assumption
  · cases h
def isLocal (c : Ctx) (x : Str) : Bool := match kindB c.sc x with
  | some .local => true
  | _ => false
theorem isLocal_ok {c : Ctx} {x : Str} (h : isLocal c x = true) : kindB c.sc x = some .local := by
  unfold isLocal at h
  split at h
  · assumption
  · cases h
abbrev OE (c : Ctx) (e : Expr) : Type := Option { e' : Ex // Sem c e e' }
abbrev OT (c : Ctx) (e : Expr) : Type := Option { e' : Ex // SemT c e e' }
def cName (c : Ctx) (x : Str) (pos : Pos) : OE c (.Name x pos) :=
  if hd : dbgB x = false then
    if hv : visB c.sc x = true then (slotOf c x).map fun i => ⟨.var i.1, sem_var i.2 hv hd⟩
    else if hg : isGlo c x = true then match hl : c.glo.lookup x with
      | some d => some ⟨.con d, sem_glo (isGlo_ok hg) hl hd⟩
      | none => none
    else none
  else none
def cConst (c : Ctx) (v : Const) (j : Nat) (pos : Pos) : OE c (.Constant v j pos) := match v with
  | .int i => some ⟨.con (.int i), sem_int⟩
  | .bool i => some ⟨.con (.bl i), sem_bool⟩
  | .none => some ⟨.con .non, sem_none⟩
  | .str x => if h : sOkB x = true then some ⟨.con (.str x.cps.toList), sem_str h⟩ else none
  | _ => none
/-- one argument's built-in -/
def cBi (c : Ctx) (x : Str) (p pos : Pos) (a : Expr) (a' : { e' : Ex // Sem c a e' }) : OE c (.Call (.Name x p) [a] [] pos) :=
  if hg : isGlo c x = true then
    if h : x = "len" then some ⟨.bi .len a'.1, by subst h; exact sem_bi (isGlo_ok hg) (by decide) (by decide) boot_len a'.2 fun X C W F k M => bif_len M.K⟩
    else if h : x = "tuple" then some ⟨.bi .tuple a'.1, by subst h; exact sem_biT (isGlo_ok hg) (by decide) (by decide) boot_tuple a'.2 fun X C W F k M => bif_tuple M.K⟩
    else if h : x = "list" then some ⟨.bi .list a'.1, by subst h; exact sem_biT (isGlo_ok hg) (by decide) (by decide) boot_list a'.2 fun X C W F k M => bif_list M.K M.calm⟩
    else if h : x = "all" then some ⟨.bi .all a'.1, by subst h; exact sem_bi (isGlo_ok hg) (by decide) (by decide) boot_all a'.2 fun X C W F k M => bif_all M.calm⟩
    else if h : x = "any" then some ⟨.bi .any a'.1, by subst h; exact sem_bi (isGlo_ok hg) (by decide) (by decide) boot_any a'.2 fun X C W F k M => bif_any M.calm⟩
    else if h : x = "max" then some ⟨.bi .max a'.1, by subst h; exact sem_bi (isGlo_ok hg) (by decide) (by decide) boot_max a'.2 fun X C W F k M => bif_max M.calm⟩
    else if h : x = "min" then some ⟨.bi .min a'.1, by subst h; exact sem_bi (isGlo_ok hg) (by decide) (by decide) boot_min a'.2 fun X C W F k M => bif_min M.calm⟩
    else if h : x = "sum" then some ⟨.bi .sum a'.1, by subst h; exact sem_bi (isGlo_ok hg) (by decide) (by decide) boot_sum a'.2 fun X C W F k M => bif_sum M.calm⟩
    else if h : x = "abs" then some ⟨.bi .abs a'.1, by subst h; exact sem_bi (isGlo_ok hg) (by decide) (by decide) boot_abs a'.2 fun X C W F k M => bif_abs⟩
    else if h : x = "int" then some ⟨.bi .int a'.1, by subst h; exact sem_biT (isGlo_ok hg) (by decide) (by decide) boot_int a'.2 fun X C W F k M => bif_int⟩
    else if h : x = "str" then some ⟨.bi .str a'.1, by subst h; exact sem_biT (isGlo_ok hg) (by decide) (by decide) boot_str a'.2 fun X C W F k M => bif_str⟩
    else if h : x = "sorted" then some ⟨.bi .sorted a'.1, by subst h; exact sem_bi (isGlo_ok hg) (by decide) (by decide) boot_sorted a'.2 fun X C W F k M => bif_sorted M.room.units M.K⟩
    else none
  else none
def cTy (c : Ctx) (x : Str) (p p2 pos : Pos) (a : Expr) (a' : { e' : Ex // Sem c a e' }) : OE c (.Call (.Name "isinstance" p) [a, .Name x p2] [] pos) :=
  if hg : isGlo c "isinstance" = true then if hx : isGlo c x = true then
    if h : x = "int" then some ⟨.isi a'.1 .int, by subst h; exact sem_isi (isGlo_ok hg) (isGlo_ok hx) (by decide) (by decide) boot_int a'.2⟩
    else if h : x = "bool" then some ⟨.isi a'.1 .bool, by subst h; exact sem_isi (isGlo_ok hg) (isGlo_ok hx) (by decide) (by decide) boot_bool a'.2⟩
    else if h : x = "str" then some ⟨.isi a'.1 .str, by subst h; exact sem_isi (isGlo_ok hg) (isGlo_ok hx) (by decide) (by decide) boot_str a'.2⟩
    else if h : x = "tuple" then some ⟨.isi a'.1 .tuple, by subst h; exact sem_isi (isGlo_ok hg) (isGlo_ok hx) (by decide) (by decide) boot_tuple a'.2⟩
    else if h : x = "list" then some ⟨.isi a'.1 .list, by subst h; exact sem_isi (isGlo_ok hg) (isGlo_ok hx) (by decide) (by decide) boot_list a'.2⟩
    else none
  else none else none
def cMe (c : Ctx) (o e : Expr) (name : Str) (apos pos : Pos) (o' : { e' : Ex // Sem c o e' }) (e' : { e' : Ex // Sem c e e' }) : OE c (.Call (.Attribute o name apos) [e] [] pos) :=
  if hb : baseB o = true then if hl : (apos.endLine == pos.line) = true then
    if h : name = "join" then some ⟨.me .join o'.1 e'.1, by subst h; exact sem_join o'.2 e'.2 hb hl⟩
    else if h : name = "endswith" then some ⟨.me .endswith o'.1 e'.1, by subst h; exact sem_endswith o'.2 e'.2 hb hl⟩
    else if h : name = "startswith" then some ⟨.me .startswith o'.1 e'.1, by subst h; exact sem_startswith o'.2 e'.2 hb hl⟩
    else if h : name = "index" then some ⟨.me .index o'.1 e'.1, by subst h; exact sem_index o'.2 e'.2 hb hl⟩
    else none
  else none else none
def cList (c : Ctx) (f : (e : Expr) → OE c e) : (es : List Expr) → Option { es' : List Ex // SemL c es es' }
  | [] => some ⟨[], semL_nil⟩
  | e :: es => do
    let e' ← f e
    let es' ← cList c f es
    some ⟨e'.1 :: es'.1, semL_cons e'.2 es'.2⟩
def cBool (c : Ctx) (f : (e : Expr) → OE c e) (o : BoolOp) (pos : Pos) : (es : List Expr) → OE c (.BoolOp o es pos)
  | [] => none
  | [a] => (f a).map fun a' => ⟨a'.1, sem_bop1 a'.2⟩
  | a :: b :: r => (f a).bind fun a' => (cBool c f o pos (b :: r)).map fun b' => match o, b' with
    | .And, b' => ⟨.and a'.1 b'.1, sem_and a'.2 b'.2⟩
    | .Or, b' => ⟨.or a'.1 b'.1, sem_or a'.2 b'.2⟩
def cBoolT (c : Ctx) (f : (e : Expr) → OT c e) (o : BoolOp) (pos : Pos) : (es : List Expr) → Option { e' : Ex // SemW c (.BoolOp o es pos) e' }
  | [] => none
  | [a] => (f a).map fun a' => match o with
    | .And => ⟨a'.1, semW_and1 a'.2⟩
    | .Or => ⟨a'.1, semW_or1 a'.2⟩
  | a :: b :: r => (f a).bind fun a' => (cBoolT c f o pos (b :: r)).map fun b' => match o, b' with
    | .And, b' => ⟨.and a'.1 b'.1, semW_and a'.2 b'.2⟩
    | .Or, b' => ⟨.or a'.1 b'.1, semW_or a'.2 b'.2⟩
def cPart (c : Ctx) (f : (e : Expr) → OE c e) : (e : Option Expr) → Option { e' : Ex // SemP c e e' }
  | none => some ⟨.con .non, semP_none⟩
  | some e => do
    let e' ← f e
    some ⟨.asInt e'.1, semP_some e'.2⟩
/-- targets, no deeper than n -/
def cTg (c : Ctx) : Nat → (e : Expr) → Option { t : Tg // SemG c e t }
  | 0, _ => none
  | n + 1, .Name x pos => if h : locB c x = true then (slotOf c x).map fun i => ⟨.nm i.1, semG_name i.2 h⟩ else none
  | n + 1, .Tuple es k pos =>
    let rec go : (es : List Expr) → Option { ts : List Tg // SemGs c es ts }
      | [] => some ⟨[], semGs_nil⟩
      | e :: es => do
        let t ← cTg c n e
        let ts ← go es
        some ⟨t.1 :: ts.1, semGs_cons t.2 ts.2⟩
    (go es).map fun ts => ⟨.tp ts.1, semG_tup ts.2⟩
  | _, _ => none
def ownOf (c : Ctx) (scope : Scope) : List (Str × Nat) := scope.names.filterMap fun y => match y.2 with
  | .local => (findIx y.1 c.N 0).map fun i => (y.1, i)
  | .cell => (findIx y.1 c.N 0).map fun i => (y.1, i)
  | _ => none
def cIter (c : Ctx) (f : (e : Expr) → OE c e) (tg : Expr) (it : Expr) : Option { e' : Ex // SemI c tg it e' } :=
  match it with
  | .Call (.Name "zip" p) [a, b] [] pos => match tg with
    | .Tuple elts kk tpos =>
      if hg : isGlo c "zip" = true then do
        let a' ← f a
        let b' ← f b
        some ⟨.zip a'.1 b'.1, semI_zipK (isGlo_ok hg) a'.2 b'.2⟩
      else none
    | _ => none
  | .Call (.Name "enumerate" p) [a] [] pos => match tg with
    | .Tuple elts kk tpos =>
      if hg : isGlo c "enumerate" = true then do
        let a' ← f a
        some ⟨.enum a'.1, semI_enum (isGlo_ok hg) a'.2⟩
      else none
    | _ => none
  | .Call (.Name x p) [a] [] pos =>
    if h : x = "range" then
      if hg : isGlo c "range" = true then (f a).map fun a' => ⟨.rng [a'.1], by subst h; exact semI_rng1 (isGlo_ok hg) a'.2⟩ else none
    else (f (.Call (.Name x p) [a] [] pos)).map fun e' => ⟨e'.1, semI_val e'.2 rfl⟩
  | .Call (.Name x p) [a, b] [] pos =>
    if h : x = "range" then
      if hg : isGlo c "range" = true then do
        let a' ← f a
        let b' ← f b
        some ⟨.rng [a'.1, b'.1], by subst h; exact semI_rng2 (isGlo_ok hg) a'.2 b'.2⟩
      else none
    else (f (.Call (.Name x p) [a, b] [] pos)).map fun e' => ⟨e'.1, semI_val e'.2 rfl⟩
  | .Call (.Name x p) [a, b, d] [] pos =>
    if h : x = "range" then
      if hg : isGlo c "range" = true then do
        let a' ← f a
        let b' ← f b
        let d' ← f d
        some ⟨.rng [a'.1, b'.1, d'.1], by subst h; exact semI_rng3 (isGlo_ok hg) a'.2 b'.2 d'.2⟩
      else none
    else (f (.Call (.Name x p) [a, b, d] [] pos)).map fun e' => ⟨e'.1, semI_val e'.2 rfl⟩
  | it => if h : noSet it = true then (f it).map fun e' => ⟨e'.1, semI_val e'.2 h⟩ else none
def cConds (c : Ctx) (f : (e : Expr) → OT c e) : (ifs : List Expr) → Option { e' : Ex // SemC c ifs e' }
  | [] => some ⟨.con (.bl true), semC_nil⟩
  | [e] => (f e).map fun e' => ⟨e'.1, semC_one e'.2⟩
  | _ => none
structure LcR (c : Ctx) (elt tgE iter : Expr) (ifs : List Expr) (scope : Scope) (own : List (Str × Nat)) where
  elt' : Ex
  tg : Tg
  src : Ex
  cond : Ex
  ok : LcOk c elt tgE iter ifs scope own elt' tg src cond
def cComp (c : Ctx) (scope : Scope) (f : (e : Expr) → OE c e) (fe : (e : Expr) → OE (c.inBlk scope) e) (ft : (e : Expr) → OT (c.inBlk scope) e) (elt tgE iter : Expr) (ifs : List Expr) : Option (LcR c elt tgE iter ifs scope (ownOf c scope)) := do
  let src ← cIter c f tgE iter
  let tg ← cTg (c.inBlk scope) 4 tgE
  let cond ← cConds (c.inBlk scope) ft ifs
  let elt' ← fe elt
  if h : blkC c.N c.sc scope (ownOf c scope) = true ∧ ((slots tg.1).all fun i => ((ownOf c scope).map (·.2)).contains i) = true then
    some ⟨elt'.1, tg.1, src.1, cond.1, ⟨src.2, h.1, tg.2, cond.2, elt'.2, h.2⟩⟩
  else none
structure LcR2 (c : Ctx) (elt tgE iter : Expr) (ifs : List Expr) (tgE1 iter1 : Expr) (ifs1 : List Expr) (scope : Scope) (own : List (Str × Nat)) where
  own1 : List Nat
  elt' : Ex
  tg : Tg
  src : Ex
  cond : Ex
  tg1 : Tg
  src1 : Ex
  cond1 : Ex
  ok : LcOk2 c elt tgE iter ifs tgE1 iter1 ifs1 scope own own1 elt' tg src cond tg1 src1 cond1
def cComp2 (c : Ctx) (scope : Scope) (f : (e : Expr) → OE c e) (fe : (e : Expr) → OE (c.inBlk scope) e) (ft : (e : Expr) → OT (c.inBlk scope) e) (elt tgE iter : Expr) (ifs : List Expr) (tgE1 iter1 : Expr) (ifs1 : List Expr) : Option (LcR2 c elt tgE iter ifs tgE1 iter1 ifs1 scope (ownOf c scope)) := do
  let src ← cIter c f tgE iter
  let tg ← cTg (c.inBlk scope) 4 tgE
  let cond ← cConds (c.inBlk scope) ft ifs
  let src1 ← cIter (c.inBlk scope) fe tgE1 iter1
  let tg1 ← cTg (c.inBlk scope) 4 tgE1
  let cond1 ← cConds (c.inBlk scope) ft ifs1
  let elt' ← fe elt
  if h : blkC c.N c.sc scope (ownOf c scope) = true ∧ ((slots tg.1).all fun i => ((ownOf c scope).map (·.2)).contains i) = true ∧ ((slots tg1.1).all fun i => (slots tg1.1).contains i) = true ∧ ((slots tg1.1).all fun i => ((ownOf c scope).map (·.2)).contains i) = true then
    some ⟨slots tg1.1, elt'.1, tg.1, src.1, cond.1, tg1.1, src1.1, cond1.1, ⟨src.2, h.1, tg.2, cond.2, src1.2, tg1.2, cond1.2, elt'.2, h.2.1, h.2.2.1, h.2.2.2⟩⟩
  else none
structure DcR (c : Ctx) (kE vE tgE iter : Expr) (ifs : List Expr) (scope : Scope) (own : List (Str × Nat)) where
  kx : Ex
  vx : Ex
  tg : Tg
  src : Ex
  cond : Ex
  ok : DcOk c kE vE tgE iter ifs scope own kx vx tg src cond
def cDc (c : Ctx) (scope : Scope) (f : (e : Expr) → OE c e) (fe : (e : Expr) → OE (c.inBlk scope) e) (ft : (e : Expr) → OT (c.inBlk scope) e) (kE vE tgE iter : Expr) (ifs : List Expr) : Option (DcR c kE vE tgE iter ifs scope (ownOf c scope)) := do
  let src ← cIter c f tgE iter
  let tg ← cTg (c.inBlk scope) 4 tgE
  let cond ← cConds (c.inBlk scope) ft ifs
  let kx ← fe kE
  let vx ← fe vE
  if h : blkC c.N c.sc scope (ownOf c scope) = true ∧ ((slots tg.1).all fun i => ((ownOf c scope).map (·.2)).contains i) = true then
    some ⟨kx.1, vx.1, tg.1, src.1, cond.1, ⟨src.2, h.1, tg.2, cond.2, kx.2, vx.2, h.2⟩⟩
  else none
def isTupE : Expr → Bool
  | .Tuple .. => true
  | _ => false
def cCall (c : Ctx) (f : (e : Expr) → OE c e) (x : Str) (p pos : Pos) (e : Expr) (es : List Expr) : OE c (.Call (.Name x p) (e :: es) [] pos) :=
  if hg : isGlo c x = true then if hd : dbgB x = false then
    match hl : c.fns.lookup x with
    | some (i, n) => do
      let e' ← f e
      let es' ← cList c f es
      if hn : (e'.1 :: es'.1).length = n then some ⟨.call i (e'.1 :: es'.1), sem_call (isGlo_ok hg) hl hd hn e'.2 es'.2⟩ else none
    | none => none
  else none else none
mutual
def cE : Nat → (c : Ctx) → (e : Expr) → OE c e
  | 0, _, _ => none
  | n + 1, c, e => match e with
    | .Name x pos => cName c x pos
    | .Constant v j pos => cConst c v j pos
    | .BinOp a o b pos => do
      let a' ← cE n c a
      let b' ← cE n c b
      match h : opOf o with
      | some o' => some ⟨.op o' a'.1 b'.1, sem_binop h a'.2 b'.2⟩
      | none => none
    | .UnaryOp .Not a pos => (cE n c a).map fun a' => ⟨.not a'.1, sem_not a'.2⟩
    | .UnaryOp .USub a pos => (cE n c a).map fun a' => ⟨.neg a'.1, sem_neg a'.2⟩
    | .BoolOp o es pos => cBool c (fun e => cE n c e) o pos es
    | .IfExp t a b pos => do
      let t' ← cT n c t
      let a' ← cE n c a
      let b' ← cE n c b
      some ⟨.ifx t'.1 a'.1 b'.1, sem_ifx t'.2 a'.2 b'.2⟩
    | .Compare a [o] [b] pos => do
      let a' ← cE n c a
      let b' ← cE n c b
      if hs : noSet b = true then some ⟨.cmp (cpOf o) a'.1 b'.1, sem_cmp a'.2 b'.2 hs⟩ else none
    | .Compare a [o, p] [b, d] pos => do
      let a' ← cE n c a
      let b' ← cE n c b
      let d' ← cE n c d
      if hs : noSet d = true then some ⟨.chain (cpOf o) (cpOf p) a'.1 b'.1 d'.1, sem_chain a'.2 b'.2 d'.2 hs⟩ else none
    | .Tuple es k pos => do
      let es' ← cList c (fun e => cE n c e) es
      if hz : es'.1.length ≤ 16777216 then some ⟨.tup es'.1, sem_tup es'.2 hz⟩ else none
    | .List es pos => do
      let es' ← cList c (fun e => cE n c e) es
      if hz : es'.1.length ≤ 16777216 then some ⟨.lst es'.1, sem_lst es'.2 hz⟩ else none
    | .Subscript a (.Slice none none (some (.UnaryOp .USub (.Constant (.int i) k p1) p2)) p3) pos => do
      let a' ← cE n c a
      if h : i = 1 then some ⟨.rev a'.1, by subst h; exact sem_rev a'.2⟩ else none
    | .Subscript a (.Slice lo hi none p) pos => do
      let a' ← cE n c a
      let lo' ← cPart c (fun e => cE n c e) lo
      let hi' ← cPart c (fun e => cE n c e) hi
      some ⟨.sl a'.1 lo'.1 hi'.1, sem_sl a'.2 lo'.2 hi'.2⟩
    | .Subscript a b pos => do
      let a' ← cE n c a
      let b' ← cE n c b
      if hs : noSlice b = true then some ⟨.ix a'.1 b'.1, sem_ix a'.2 b'.2 hs⟩ else none
    | .Call (.Name x p) [.Call (.Name y p2) [b] [] q] [] pos =>
      if h : x = "len" ∧ y = "set" then
        if hg : isGlo c "len" = true ∧ isGlo c "set" = true then (cE n c b).map fun b' => ⟨.lenset b'.1, by rw [h.1, h.2]; exact sem_lenset (isGlo_ok hg.1) (isGlo_ok hg.2) b'.2⟩
        else none
      else if h : x = "list" ∧ y = "range" then
        if hg : isGlo c "list" = true ∧ isGlo c "range" = true then (cE n c b).map fun b' => ⟨.rng [b'.1], by rw [h.1, h.2]; exact sem_lrng1 (isGlo_ok hg.1) (isGlo_ok hg.2) b'.2⟩
        else none
      else if x ∈ biNames then do
        let a' ← cE n c (.Call (.Name y p2) [b] [] q)
        cBi c x p pos (.Call (.Name y p2) [b] [] q) a'
      else cCall c (fun e => cE n c e) x p pos (.Call (.Name y p2) [b] [] q) []
    | .Call (.Name x p) [.Call (.Name y p2) [a, b] [] q] [] pos =>
      if h : x = "list" ∧ y = "zip" then
        if hg : isGlo c "list" = true ∧ isGlo c "zip" = true then do
          let a' ← cE n c a
          let b' ← cE n c b
          some ⟨.zip a'.1 b'.1, by rw [h.1, h.2]; exact sem_lzip (isGlo_ok hg.1) (isGlo_ok hg.2) a'.2 b'.2⟩
        else none
      else if h : x = "list" ∧ y = "range" then
        if hg : isGlo c "list" = true ∧ isGlo c "range" = true then do
          let a' ← cE n c a
          let b' ← cE n c b
          some ⟨.rng [a'.1, b'.1], by rw [h.1, h.2]; exact sem_lrng2 (isGlo_ok hg.1) (isGlo_ok hg.2) a'.2 b'.2⟩
        else none
      else if x ∈ biNames then do
        let a' ← cE n c (.Call (.Name y p2) [a, b] [] q)
        cBi c x p pos (.Call (.Name y p2) [a, b] [] q) a'
      else cCall c (fun e => cE n c e) x p pos (.Call (.Name y p2) [a, b] [] q) []
    | .Call (.Name x p) [a, .Name y p2] [] pos =>
      if h : x = "isinstance" then do
        let a' ← cE n c a
        let r ← cTy c y p p2 pos a a'
        some ⟨r.1, by subst h; exact r.2⟩
      else cCall c (fun e => cE n c e) x p pos a [.Name y p2]
    | .Call (.Name x p) [a] [] pos =>
      if x ∈ biNames then do
        let a' ← cE n c a
        cBi c x p pos a a'
      else cCall c (fun e => cE n c e) x p pos a []
    | .Call (.Name x p) (a :: es) [] pos => cCall c (fun e => cE n c e) x p pos a es
    | .Call (.Attribute o name apos) [e] [] pos => do
      let o' ← cE n c o
      let e' ← cE n c e
      cMe c o e name apos pos o' e'
    | .ListComp elt [⟨tgE, iter, ifs, 0⟩] scope pos => do
      let r ← cComp c scope (fun e => cE n c e) (fun e => cE n (c.inBlk scope) e) (fun e => cT n (c.inBlk scope) e) elt tgE iter ifs
      some ⟨_, sem_lc r.ok⟩
    | .ListComp elt [⟨tgE, iter, ifs, 0⟩, ⟨tgE1, iter1, ifs1, 0⟩] scope pos => do
      let r ← cComp2 c scope (fun e => cE n c e) (fun e => cE n (c.inBlk scope) e) (fun e => cT n (c.inBlk scope) e) elt tgE iter ifs tgE1 iter1 ifs1
      some ⟨_, sem_lc2 r.ok⟩
    | .DictComp kE vE [⟨tgE, iter, ifs, 0⟩] scope pos => do
      let r ← cDc c scope (fun e => cE n c e) (fun e => cE n (c.inBlk scope) e) (fun e => cT n (c.inBlk scope) e) kE vE tgE iter ifs
      if isTupE kE = true then some ⟨_, sem_dcN r.ok⟩ else some ⟨_, sem_dcK r.ok⟩
    | _ => none
def cT : Nat → (c : Ctx) → (e : Expr) → OT c e
  | 0, _, _ => none
  | n + 1, c, e => match e with
    | .UnaryOp .Not a pos => (cT n c a).map fun a' => ⟨.not a'.1, semT_not a'.2⟩
    | .BoolOp o es pos => (cBoolT c (fun e => cT n c e) o pos es).map fun a' => ⟨a'.1, semT_W a'.2⟩
    | .Compare a [o] [b] pos => do
      let a' ← cE n c a
      let b' ← cE n c b
      if hs : noSet b = true then some ⟨.cmp (cpOf o) a'.1 b'.1, semT_cmp a'.2 b'.2 hs⟩ else none
    | .Compare a [o, p] [b, d] pos => do
      let a' ← cE n c a
      let b' ← cE n c b
      let d' ← cE n c d
      if hs : noSet d = true then some ⟨.chain (cpOf o) (cpOf p) a'.1 b'.1 d'.1, semT_chain a'.2 b'.2 d'.2 hs⟩ else none
    | e => if h : isBoolE e = false then (cE n c e).map fun a' => ⟨a'.1, semT_val a'.2 (isTrue_val h)⟩ else none
end

/-! ### statements -/
mutual
/-- a slot of these is read -/
def usesE (os : List Nat) : Ex → Bool
  | .var i => os.contains i
  | .con _ => false
  | .op _ a b => usesE os a || usesE os b
  | .neg a => usesE os a
  | .asInt a => usesE os a
  | .cmp _ a b => usesE os a || usesE os b
  | .chain _ _ a b c => usesE os a || (usesE os b || usesE os c)
  | .and a b => usesE os a || usesE os b
  | .or a b => usesE os a || usesE os b
  | .not a => usesE os a
  | .ifx t a b => usesE os t || (usesE os a || usesE os b)
  | .tup es => usesL os es
  | .lst es => usesL os es
  | .ix a b => usesE os a || usesE os b
  | .sl a b c => usesE os a || (usesE os b || usesE os c)
  | .rev a => usesE os a
  | .call _ es => usesL os es
  | .bi _ a => usesE os a
  | .me _ a b => usesE os a || usesE os b
  | .isi a _ => usesE os a
  | .rng es => usesL os es
  | .lc e _ s c _ => usesE os e || (usesE os s || usesE os c)
  | .zip a b => usesE os a || usesE os b
  | .enum a => usesE os a
  | .lenset a => usesE os a
  | .lc2 e _ s c _ s1 c1 _ _ => usesE os e || (usesE os s || (usesE os c || (usesE os s1 || usesE os c1)))
  | .dc k v _ _ s c _ => usesE os k || (usesE os v || (usesE os s || usesE os c))
def usesL (os : List Nat) : List Ex → Bool
  | [] => false
  | e :: es => usesE os e || usesL os es
end
abbrev OS (c : Ctx) (s : Stmt) : Type := Option { s' : Sm // SemS c s s' }
abbrev OB (c : Ctx) (s : List Stmt) : Type := Option { s' : List Sm // SemB c s s' }
def cName1 (n : Nat) (c : Ctx) (os : List Nat) (x : Str) (p : Pos) (e : Expr) (pos : Pos) : OS c (.Assign [.Name x p] e pos) := do
    let i ← slotOf c x
    let e' ← cE n c e
    if hl : locB c x = true ∧ noComp e = true then
      if usesE os e'.1 = true then some ⟨.setF (.nm i.1) e'.1, semS_setF i.2 hl.1 e'.2 hl.2⟩ else some ⟨.set (.nm i.1) e'.1, semS_set i.2 hl.1 e'.2 hl.2⟩
    else none
/-- the right sides, each with how it is taken -/
def cRight (n : Nat) (c : Ctx) (os : List Nat) : (is : List Nat) → (es : List Expr) → Option { r : List PM × List Ex // SemPs c r.1 es r.2 ∧ r.1.length = r.2.length }
  | [], [] => some ⟨([], []), semPs_nil, rfl⟩
  | i :: is, .List xs p :: es => do
    let r ← cRight n c os is es
    if os.contains i = true then do
      let xs' ← cList c (fun e => cE n c e) xs
      if hz : xs'.1.length ≤ 16777216 then some ⟨(.nw :: r.1.1, .lst xs'.1 :: r.1.2), semPs_cons rfl (semP1_nw xs'.2 hz) r.2.1, by simp [r.2.2]⟩ else none
    else do
      let e' ← cE n c (.List xs p)
      if usesE os e'.1 = true then some ⟨(.fl :: r.1.1, e'.1 :: r.1.2), semPs_cons rfl (semP1_fl e'.2) r.2.1, by simp [r.2.2]⟩
      else some ⟨(.er :: r.1.1, e'.1 :: r.1.2), semPs_cons rfl (semP1_er e'.2) r.2.1, by simp [r.2.2]⟩
  | _ :: is, e :: es => do
    let r ← cRight n c os is es
    let e' ← cE n c e
    if usesE os e'.1 = true then some ⟨(.fl :: r.1.1, e'.1 :: r.1.2), semPs_cons e'.2.plain (semP1_fl e'.2) r.2.1, by simp [r.2.2]⟩
    else some ⟨(.er :: r.1.1, e'.1 :: r.1.2), semPs_cons e'.2.plain (semP1_er e'.2) r.2.1, by simp [r.2.2]⟩
  | _, _ => none
def cNames (c : Ctx) : (ts : List Expr) → Option { is : List Nat // NamesOk c ts is }
  | [] => some ⟨[], names_nil⟩
  | .Name x p :: ts => do
    let i ← slotOf c x
    let is ← cNames c ts
    if hl : locB c x = true then some ⟨i.1 :: is.1, names_cons i.2 hl is.2⟩ else none
  | _ => none
def cPar (n : Nat) (c : Ctx) (os : List Nat) (ts es : List Expr) (k1 k2 : Nat) (p1 p2 pos : Pos) : OS c (.Assign [.Tuple ts k1 p1] (.Tuple es k2 p2) pos) := do
  let is ← cNames c ts
  let r ← cRight n c os is.1 es
  if h : swNone c.sc ts es = true ∧ es.length = is.1.length ∧ r.1.2.length ≤ 16777216 then some ⟨.par is.1 r.1.1 r.1.2, semS_par is.2 r.2.1 h.2.1 r.2.2 h.2.2 fun env he => sw_none h.1 he⟩ else none
def cPar2 (n : Nat) (c : Ctx) (os : List Nat) (x y : Str) (px py : Pos) (a b : Expr) (k1 k2 : Nat) (p1 p2 pos : Pos) : OS c (.Assign [.Tuple [.Name x px, .Name y py] k1 p1] (.Tuple [a, b] k2 p2) pos) := do
  let i ← slotOf c x
  let j ← slotOf c y
  let r ← cRight n c os [i.1, j.1] [a, b]
  match r with
  | ⟨([m1, m2], [a', b']), hr⟩ =>
    if h : i.1 ≠ j.1 ∧ isLocal c x = true ∧ isLocal c y = true ∧ swSome c.sc [.Name x px, .Name y py] [a, b] = true ∧ swNames c.sc [.Name x px, .Name y py] = [x, y] then
      some ⟨.par [i.1, j.1] [m1, m2] [a', b'], semS_par2 i.2 j.2 h.1 (isLocal_ok h.2.1) (isLocal_ok h.2.2.1) hr.1 h.2.2.2.1 h.2.2.2.2⟩
    else none
  | _ => none
def cPar3 (n : Nat) (c : Ctx) (os : List Nat) (x y z : Str) (px py pz : Pos) (a b d : Expr) (k1 k2 : Nat) (p1 p2 pos : Pos) : OS c (.Assign [.Tuple [.Name x px, .Name y py, .Name z pz] k1 p1] (.Tuple [a, b, d] k2 p2) pos) := do
  let i ← slotOf c x
  let j ← slotOf c y
  let l ← slotOf c z
  let r ← cRight n c os [i.1, j.1, l.1] [a, b, d]
  match r with
  | ⟨([m1, m2, m3], [a', b', d']), hr⟩ =>
    if h : i.1 ≠ j.1 ∧ i.1 ≠ l.1 ∧ j.1 ≠ l.1 ∧ isLocal c x = true ∧ isLocal c y = true ∧ isLocal c z = true ∧ swSome c.sc [.Name x px, .Name y py, .Name z pz] [a, b, d] = true ∧ swNames c.sc [.Name x px, .Name y py, .Name z pz] = [x, y, z] then
      some ⟨.par [i.1, j.1, l.1] [m1, m2, m3] [a', b', d'], semS_par3 i.2 j.2 l.2 h.1 h.2.1 h.2.2.1 (isLocal_ok h.2.2.2.1) (isLocal_ok h.2.2.2.2.1) (isLocal_ok h.2.2.2.2.2.1) hr.1 h.2.2.2.2.2.2.1 h.2.2.2.2.2.2.2⟩
    else none
  | _ => none
def orElse {c : Ctx} {s : Stmt} (a b : OS c s) : OS c s := match a with
  | some r => some r
  | none => b
def cAssign (n : Nat) (c : Ctx) (os : List Nat) (t e : Expr) (pos : Pos) : OS c (.Assign [t] e pos) := match t, e with
  | .Name x p, .ListComp elt [⟨tgE, iter, ifs, 0⟩] scope pos2 => do
    let i ← slotOf c x
    let r ← cComp c scope (fun e => cE n c e) (fun e => cE n (c.inBlk scope) e) (fun e => cT n (c.inBlk scope) e) elt tgE iter ifs
    if hl : isLocal c x = true then
      if hk : c.sc.kind = .function then
        if hline : (p.line == pos2.line) = true then
          if ha : (scope.names.any fun (n, k) => n == x && (k == .local || k == .cell)) = false then
            if os.contains i.1 = true then some ⟨_, semS_newLc r.ok i.2 (isLocal_ok hl) hk hline ha⟩ else some ⟨_, semS_setLc r.ok i.2 (isLocal_ok hl) hk hline ha⟩
          else none
        else none
      else none
    else none
  | .Name x p, .ListComp elt [⟨tgE, iter, ifs, 0⟩, ⟨tgE1, iter1, ifs1, 0⟩] scope pos2 => do
    let i ← slotOf c x
    let r ← cComp2 c scope (fun e => cE n c e) (fun e => cE n (c.inBlk scope) e) (fun e => cT n (c.inBlk scope) e) elt tgE iter ifs tgE1 iter1 ifs1
    if hl : isLocal c x = true then
      if hk : c.sc.kind = .function then
        if hline : (p.line == pos2.line) = true then
          if ha : (scope.names.any fun (n, k) => n == x && (k == .local || k == .cell)) = false then some ⟨_, semS_setLc2 r.ok i.2 (isLocal_ok hl) hk hline ha⟩ else none
        else none
      else none
    else none
  | .Name x p, .DictComp kE vE [⟨tgE, iter, ifs, 0⟩] scope pos2 => do
    let i ← slotOf c x
    let r ← cDc c scope (fun e => cE n c e) (fun e => cE n (c.inBlk scope) e) (fun e => cT n (c.inBlk scope) e) kE vE tgE iter ifs
    if h : isLocal c x = true ∧ c.sc.kind = .function ∧ (p.line == pos2.line) = true ∧ (scope.names.any fun (n, k) => n == x && (k == .local || k == .cell)) = false then
      if isTupE kE = true then some ⟨_, semS_setDcN r.ok i.2 (isLocal_ok h.1) h.2.1 h.2.2.1 h.2.2.2⟩ else some ⟨_, semS_setDcK r.ok i.2 (isLocal_ok h.1) h.2.1 h.2.2.1 h.2.2.2⟩
    else none
  | .Name x p, .BinOp (.Name y p1) .Add b p2 => do
    let i ← slotOf c x
    if h : os.contains i.1 = true ∧ y = x then do
      let b' ← cE n c b
      if hl : locB c x = true ∧ visB c.sc x = true ∧ dbgB x = false then some ⟨.aug i.1 b'.1, by rw [h.2]; exact semS_catOwn i.2 hl.1 hl.2.1 hl.2.2 b'.2⟩ else none
    else cName1 n c os x p (.BinOp (.Name y p1) .Add b p2) pos
  | .Name x p, .BinOp a .Add b p2 => do
    let i ← slotOf c x
    if os.contains i.1 = true then do
      let a' ← cE n c a
      let b' ← cE n c b
      if hl : locB c x = true then some ⟨.new i.1 (.op .add a'.1 b'.1), semS_newAdd i.2 hl a'.2 b'.2⟩ else none
    else cName1 n c os x p (.BinOp a .Add b p2) pos
  | .Name x p, .List es p2 => do
    let i ← slotOf c x
    if os.contains i.1 = true then do
      let es' ← cList c (fun e => cE n c e) es
      if hl : locB c x = true ∧ es'.1.length ≤ 16777216 then some ⟨.new i.1 (.lst es'.1), semS_newL i.2 hl.1 es'.2 hl.2⟩ else none
    else cName1 n c os x p (.List es p2) pos
  | .Name x p, e => cName1 n c os x p e pos
  | .Tuple [.Name x px, .Name y py] k1 p1, .Tuple [a, b] k2 p2 => orElse (cPar2 n c os x y px py a b k1 k2 p1 p2 pos) (cPar n c os [.Name x px, .Name y py] [a, b] k1 k2 p1 p2 pos)
  | .Tuple [.Name x px, .Name y py, .Name z pz] k1 p1, .Tuple [a, b, d] k2 p2 => orElse (cPar3 n c os x y z px py pz a b d k1 k2 p1 p2 pos) (cPar n c os [.Name x px, .Name y py, .Name z pz] [a, b, d] k1 k2 p1 p2 pos)
  | .Tuple ts k1 p1, .Tuple es k2 p2 => cPar n c os ts es k1 k2 p1 p2 pos
  | .Tuple es k p, e => do
    let t' ← cTg c 4 (.Tuple es k p)
    let e' ← cE n c e
    if hn2 : noTup e = true then
      if usesE os e'.1 = true then some ⟨.setF t'.1 e'.1, semS_unpF t'.2 e'.2 hn2⟩ else some ⟨.set t'.1 e'.1, semS_unpT t'.2 e'.2 hn2⟩
    else none
  | .Subscript (.Name x p) ie p2, e => do
    let i ← slotOf c x
    let ie' ← cE n c ie
    let e' ← cE n c e
    if h : visB c.sc x = true ∧ dbgB x = false ∧ noComp e = true ∧ noTup e = true ∧ noSlice ie = true then
      some ⟨.putIx i.1 ie'.1 e'.1, semS_put i.2 h.1 h.2.1 ie'.2 e'.2 h.2.2.1 h.2.2.2.1 h.2.2.2.2⟩
    else none
  | _, _ => none
def orStuck {c : Ctx} {s : Stmt} (o : OS c s) : { s' : Sm // SemS c s s' } := match o with
  | some r => r
  | none => ⟨.expr stuckE, semS_stuck⟩
/-- what is given up ahead of a statement -/
def frzName (c : Ctx) (os : List Nat) (e : Expr) : List Nat := match e with
  | .Name y _ => (match findIx y c.N 0 with
    | some i => if os.contains i then [i] else []
    | none => [])
  | _ => []
def frzOf (c : Ctx) (os : List Nat) (s : Stmt) : List Nat := match s with
  | .Assign [_] (.Tuple es _ _) _ => es.flatMap (frzName c os)
  | .Assign [_] (.ListComp _ (g :: _) _ _) _ => frzName c os g.iter
  | .Assign [_] (.DictComp _ _ (g :: _) _ _) _ => frzName c os g.iter
  | .Assign [_] (.Name y _) _ => (match findIx y c.N 0 with
    | some i => if os.contains i then [i] else []
    | none => [])
  | .For _ (.Name y _) _ _ _ => (match findIx y c.N 0 with
    | some i => if os.contains i then [i] else []
    | none => [])
  | _ => []
def withFrz {c : Ctx} {ss : List Stmt} : List Nat → { ss' : List Sm // SemB c ss ss' } → { ss' : List Sm // SemB c ss ss' }
  | [], r => r
  | i :: is, r => ⟨.frz i :: (withFrz is r).1, semB_frz (withFrz is r).2⟩
def cSeq (c : Ctx) (os : List Nat) (f : (s : Stmt) → { s' : Sm // SemS c s s' }) : (ss : List Stmt) → { ss' : List Sm // SemB c ss ss' }
  | [] => ⟨[], semB_nil⟩
  | s :: ss => withFrz (frzOf c os s) ⟨(f s).1 :: (cSeq c os f ss).1, semB_cons (f s).2 (cSeq c os f ss).2⟩
/-- m: how deep the statements nest; n: the expressions; os: the slots of own lists -/
def cS (n : Nat) (c : Ctx) (os : List Nat) : Nat → (s : Stmt) → { s' : Sm // SemS c s s' }
  | 0, _ => ⟨.expr stuckE, semS_stuck⟩
  | m + 1, s => orStuck (match s with
    | .Expr (.Call (.Attribute (.Name x p) y apos) [e] [] cpos) pos =>
      if h : y = "append" then do
        let i ← slotOf c x
        let e' ← cE n c e
        if hv : visB c.sc x = true ∧ dbgB x = false ∧ (apos.endLine == cpos.line) = true then
          if usesE os e'.1 = true then some ⟨.appF i.1 e'.1, by subst h; exact semS_appF i.2 hv.1 hv.2.1 e'.2 hv.2.2⟩ else some ⟨.app i.1 e'.1, by subst h; exact semS_app i.2 hv.1 hv.2.1 e'.2 hv.2.2⟩
        else none
      else none
    | .Expr e pos => do
      let e' ← cE n c e
      if hn : noComp e = true then some ⟨.expr e'.1, semS_expr e'.2 hn⟩ else none
    | .Return (some (.List es p)) pos => do
      let es' ← cList c (fun e => cE n c e) es
      if hz : es'.1.length ≤ 16777216 then some ⟨.retL es'.1, semS_retL es'.2 hz⟩ else none
    | .Return (some e) pos => (cE n c e).map fun e' => ⟨.ret e'.1, semS_ret e'.2⟩
    | .Pass pos => some ⟨.pass, semS_pass⟩
    | .Continue pos => some ⟨.cont, semS_cont⟩
    | .Break pos => some ⟨.brk, semS_brk⟩
    | .If t a b pos => do
      let t' ← cT n c t
      let a' := cSeq c os (fun s => cS n c os m s) a
      let b' := cSeq c os (fun s => cS n c os m s) b
      some ⟨.ifs t'.1 a'.1 b'.1, semS_if t'.2 a'.2 b'.2⟩
    | .For t it b [] pos => do
      let t' ← cTg c 4 t
      let src ← cIter c (fun e => cE n c e) t it
      let b' := cSeq c os (fun s => cS n c os m s) b
      some ⟨.fors t'.1 src.1 b'.1, semS_for t'.2 src.2 b'.2⟩
    | .While t b [] pos => do
      let t' ← cT n c t
      let b' := cSeq c os (fun s => cS n c os m s) b
      some ⟨.whl 100000 t'.1 b'.1, semS_while t'.2 b'.2⟩
    | .Assign [t] e pos => cAssign n c os t e pos
    | .AugAssign (.Name x p) .Add e pos => do
      let i ← slotOf c x
      let e' ← cE n c e
      if hl : locB c x = true then some ⟨.aug i.1 e'.1, semS_aug i.2 hl e'.2⟩ else none
    | .Raise (some (.Call (.Name x p) [.Constant (.str z) j p2] [] pos)) none pos2 =>
      if hg : isGlo c x = true then if hd : dbgB x = false then match hl : c.exs.lookup x with
        | some i => some ⟨.raise i, semS_raise hl (isGlo_ok hg) hd⟩
        | none => none
      else none else none
    | _ => none)
def cB (c : Ctx) (os : List Nat) (ss : List Stmt) : { ss' : List Sm // SemB c ss ss' } := cSeq c os (fun s => cS 24 c os 12 s) ss
theorem semB_by {c : Ctx} (os : List Nat) {ss : List Stmt} {ss' : List Sm} (h : (cB c os ss).1 = ss') : SemB c ss ss' := h ▸ (cB c os ss).2
end R
set_option Elab.async false
set_option linter.all false
set_option maxRecDepth 100000
set_option maxHeartbeats 4000000
/-! Tools for plain runs. -/
namespace R

/-- the run ends well, with P -/
def Res.sat {α : Type} (r : Res α) (P : α → List Dat → Prop) : Prop := match r with
  | .ok a g => P a g
  | _ => False
@[simp] theorem sat_ok {α : Type} {a : α} {g : List Dat} {P : α → List Dat → Prop} : (Res.ok a g).sat P ↔ P a g := Iff.rfl
@[simp] theorem bind_ok {α β : Type} {a : α} {g : List Dat} {k : α → Mo β} : (Res.ok a g).bind k = k a g := rfl
@[simp] theorem bind_exc {α β : Type} {c : Nat} {g : List Dat} {k : α → Mo β} : (Res.exc c g : Res α).bind k = .exc c g := rfl
@[simp] theorem bind_bad {α β : Type} {k : α → Mo β} : (Res.bad : Res α).bind k = .bad := rfl
@[simp] theorem noexc_ok' {α : Type} {a : α} {g : List Dat} : (Res.ok a g).noexc = .ok a g := rfl
theorem sat_bind {α β : Type} {r : Res α} {k : α → Mo β} {P : β → List Dat → Prop} : (r.bind k).sat P ↔ r.sat fun a g => (k a g).sat P := by
  cases r <;> exact Iff.rfl
theorem sat_noexc {α : Type} {r : Res α} {P : α → List Dat → Prop} : r.noexc.sat P ↔ r.sat P := by
  cases r <;> exact Iff.rfl
theorem Res.sat.mono {α : Type} {r : Res α} {P Q : α → List Dat → Prop} (h : r.sat P) (w : ∀ a g, P a g → Q a g) : r.sat Q := by
  cases r with
  | ok a g => exact w a g h
  | _ => exact h
theorem sat_elim {α : Type} {r : Res α} {P : α → List Dat → Prop} (h : r.sat P) : ∃ a g, r = .ok a g ∧ P a g := by
  cases r with
  | ok a g => exact ⟨a, g, rfl, h⟩
  | _ => exact h.elim
theorem sat_of {α : Type} {r : Res α} {a : α} {g : List Dat} {P : α → List Dat → Prop} (e : r = .ok a g) (h : P a g) : r.sat P := by
  subst e; exact h
@[simp] theorem ofO_some {α : Type} {a : α} {g : List Dat} : ofO (some a) g = .ok a g := rfl
@[simp] theorem ofO_none {α : Type} {g : List Dat} : (ofO none g : Res α) = .bad := rfl
@[simp] theorem asB_bl {b : Bool} {g : List Dat} : asB (.bl b) g = .ok b g := rfl

/-- what a def's end gives -/
def retOf (fr : Bool) : Out → Mo Dat := fun o g => match o with
  | .nx _ => .ok .non g
  | .rt d f => if fr && !f then .bad else .ok d g
  | _ => .bad
@[simp] theorem retOf_rt {d : Dat} {f : Bool} {g : List Dat} : retOf false (.rt d f) g = .ok d g := rfl
@[simp] theorem retOf_nx {ρ : Sl} {fr : Bool} {g : List Dat} : retOf fr (.nx ρ) g = .ok .non g := rfl
theorem callK_eq {P : Pg} {k i : Nat} {ds g : List Dat} {f : Df} (h : P[i]? = some f) (hl : ds.length = f.np) : callK P (k + 1) i ds g = (runs (callK P k) f.body (ds.map some ++ List.replicate (f.ns - f.np) none) g).bind (retOf f.fr) := by
  unfold callK
  rw [h]
  dsimp only
  rw [if_pos hl]
  cases runs (callK P k) f.body (ds.map some ++ List.replicate (f.ns - f.np) none) g with
  | bad => rfl
  | exc c g => rfl
  | ok o g =>
    cases o with
    | nx ρ => rfl
    | bk ρ => rfl
    | ct ρ => rfl
    | rt d fr => rfl

/-! ### comprehensions -/
theorem lcGo_pure {step : Dat → Mo (Option Dat)} {f : Dat → Option Dat} {g : List Dat} : ∀ {ds acc : List Dat}, (∀ d ∈ ds, step d g = .ok (f d) g) → lcGo step acc ds g = .ok (acc ++ ds.filterMap f) g
  | [], acc, _ => by simp [lcGo]
  | d :: ds, acc, h => by
    rw [lcGo_cons, h d List.mem_cons_self]
    simp only [noexc_ok', bind_ok]
    cases e : f d with
    | none =>
      rw [List.filterMap_cons_none e]
      exact lcGo_pure fun x hx => h x (List.mem_cons_of_mem _ hx)
    | some y =>
      rw [List.filterMap_cons_some e]
      have := lcGo_pure (acc := acc ++ [y]) fun x hx => h x (List.mem_cons_of_mem _ hx)
      simp only [this, List.append_assoc, List.singleton_append]
/-- a comprehension that changes the cup: an invariant, each item with Q -/
theorem lcGo_sat {step : Dat → Mo (Option Dat)} {I : List Dat → Prop} {Q : Dat → Dat → Prop} : ∀ {ds acc g : List Dat}, I g → (∀ d ∈ ds, ∀ g, I g → (step d g).sat fun o g' => I g' ∧ ∃ y, o = some y ∧ Q d y) →
    (lcGo step acc ds g).sat fun ys g' => I g' ∧ ∃ zs : List Dat, ys = acc ++ zs ∧ zs.length = ds.length ∧ ∀ (i : Nat) (d z : Dat), ds[i]? = some d → zs[i]? = some z → Q d z
  | [], acc, g, hI, _ => by
    simp only [lcGo, sat_ok]
    exact ⟨hI, [], by simp, rfl, fun i d z h => by simp at h⟩
  | d :: ds, acc, g, hI, h => by
    rw [lcGo_cons, sat_bind, sat_noexc]
    refine (h d List.mem_cons_self g hI).mono fun o g1 ⟨h1, y, e, hq⟩ => ?_
    subst e
    refine (lcGo_sat (acc := acc ++ [y]) h1 fun x hx => h x (List.mem_cons_of_mem _ hx)).mono fun ys g2 ⟨h2, zs, e, hl, hz⟩ => ?_
    refine ⟨h2, y :: zs, by rw [e]; simp, by simp [hl], fun i d' z' e1 e2 => ?_⟩
    cases i with
    | zero =>
      simp at e1 e2
      subst e1 e2
      exact hq
    | succ i => exact hz i d' z' (by simpa using e1) (by simpa using e2)

/-! ### for -/
theorem forGo_sat {tg : Tg} {body : Sl → Mo Out} {I : Sl → List Dat → Prop} {Q : Out → List Dat → Prop} : ∀ {ds : List Dat} {ρ : Sl} {g : List Dat}, I ρ g → (∀ ρ g, I ρ g → Q (.nx ρ) g) →
    (∀ d ∈ ds, ∀ ρ g, I ρ g → ∃ ρ1, bindT tg d ρ = some ρ1 ∧ (body ρ1 g).sat fun o g' => match o with
      | .nx ρ2 => I ρ2 g'
      | .ct ρ2 => I ρ2 g'
      | .bk ρ2 => Q (.nx ρ2) g'
      | .rt d f => Q (.rt d f) g') → (forGo tg body ds ρ g).sat Q
  | [], ρ, g, hI, hQ, _ => by
    rw [forGo]
    exact hQ ρ g hI
  | d :: ds, ρ, g, hI, hQ, h => by
    obtain ⟨ρ1, e, hb⟩ := h d List.mem_cons_self ρ g hI
    rw [forGo_cons e, sat_bind]
    refine hb.mono fun o g' hh => ?_
    cases o with
    | nx ρ2 => exact forGo_sat hh hQ fun x hx => h x (List.mem_cons_of_mem _ hx)
    | ct ρ2 => exact forGo_sat hh hQ fun x hx => h x (List.mem_cons_of_mem _ hx)
    | bk ρ2 => exact hh
    | rt d f => exact hh
/-! ### ranges -/
def ilist (a : Int) (n : Nat) : List Dat := (List.range n).map fun (k : Nat) => Dat.int (a + k)
theorem rng1 {n : Int} (h : n ≤ 16777216) (h2 : -16777216 ≤ n) : rngD [.int n] = some (ilist 0 n.toNat) := by
  unfold ilist
  have hl : (line : Int) = 16777216 := rfl
  simp only [rngD]
  rw [if_pos (by simp only [Bool.and_eq_true, decide_eq_true_eq]; omega)]
theorem rng2 {a b : Int} (h1 : b - a ≤ 16777216) (h2 : -16777216 ≤ a) (h3 : a ≤ 16777216) (h4 : -16777216 ≤ b) (h5 : b ≤ 16777216) : rngD [.int a, .int b] = some (ilist a (b - a).toNat) := by
  unfold ilist
  have hl : (line : Int) = 16777216 := rfl
  simp only [rngD]
  rw [if_pos (by simp only [Bool.and_eq_true, decide_eq_true_eq]; omega)]
def dlist (a : Int) (n : Nat) : List Dat := (List.range n).map fun (k : Nat) => Dat.int (a + (k : Int) * -1)
theorem rng3 {a b : Int} (h1 : a - b ≤ 16777216) (h2 : -16777216 ≤ a) (h3 : a ≤ 16777216) (h4 : -16777216 ≤ b) (h5 : b ≤ 16777216) : rngD [.int a, .int b, .int (-1)] = some (dlist a (a - b).toNat) := by
  unfold dlist
  have hl : (line : Int) = 16777216 := rfl
  simp only [rngD]
  rw [if_pos (by simp only [Bool.and_eq_true, decide_eq_true_eq]; refine ⟨⟨⟨⟨⟨trivial, ?_⟩, ?_⟩, ?_⟩, ?_⟩, ?_⟩ <;> omega)]
theorem mem_ilist {d : Dat} {a : Int} {n : Nat} : d ∈ ilist a n ↔ ∃ k : Nat, k < n ∧ d = .int (a + k) := by
  unfold ilist
  simp only [List.mem_map, List.mem_range]
  exact ⟨fun ⟨k, h, e⟩ => ⟨k, h, e.symm⟩, fun ⟨k, h, e⟩ => ⟨k, h, e.symm⟩⟩

/-! ### one step of a run, as equations -/
section
variable {F : Nat → List Dat → Mo Dat} {ρ : Sl} {g : List Dat}
@[simp] theorem den_var {i : Nat} : den F (.var i) ρ g = ofO (ρ.getD i none) g := by simp only [den]
@[simp] theorem den_con {d : Dat} : den F (.con d) ρ g = .ok d g := by simp only [den]
@[simp] theorem den_op {o : Op} {a b : Ex} : den F (.op o a b) ρ g = (den F a ρ g).bind fun x g => (den F b ρ g).bind fun y g => ofO (opD o x y) g := by simp only [den]
def negD : Dat → Option Dat
  | .int i => some (.int (-i))
  | _ => none
def asIntD : Dat → Option Dat
  | .int i => some (.int i)
  | _ => none
@[simp] theorem negD_int {i : Int} : negD (.int i) = some (.int (-i)) := rfl
@[simp] theorem asIntD_int {i : Int} : asIntD (.int i) = some (.int i) := rfl
@[simp] theorem den_neg {a : Ex} : den F (.neg a) ρ g = (den F a ρ g).bind fun x g => ofO (negD x) g := by
  simp only [den]; congr 1; funext x g; cases x <;> rfl
@[simp] theorem den_asInt {a : Ex} : den F (.asInt a) ρ g = (den F a ρ g).bind fun x g => ofO (asIntD x) g := by
  simp only [den]; congr 1; funext x g; cases x <;> rfl
@[simp] theorem den_cmp {o : Cp} {a b : Ex} : den F (.cmp o a b) ρ g = (den F a ρ g).bind fun x g => (den F b ρ g).bind fun y g => ofO ((cpD o x y).map .bl) g := by simp only [den]
@[simp] theorem den_chain {o p : Cp} {a b c : Ex} : den F (.chain o p a b c) ρ g = (den F a ρ g).bind fun x g => (den F b ρ g).bind fun y g => (ofO (cpD o x y) g).bind fun k g => if k = true then (den F c ρ g).bind fun z g => ofO ((cpD p y z).map .bl) g else .ok (.bl false) g := by
  simp only [den]; congr 1; funext x g; congr 1; funext y g; congr 1; funext k g; cases k <;> rfl
@[simp] theorem den_and {a b : Ex} : den F (.and a b) ρ g = (den F a ρ g).bind fun x g => (asB x g).bind fun k g => if k = true then den F b ρ g else .ok (.bl false) g := by
  simp only [den]; congr 1; funext x g; congr 1; funext k g; cases k <;> rfl
@[simp] theorem den_or {a b : Ex} : den F (.or a b) ρ g = (den F a ρ g).bind fun x g => (asB x g).bind fun k g => if k = true then .ok (.bl true) g else den F b ρ g := by
  simp only [den]; congr 1; funext x g; congr 1; funext k g; cases k <;> rfl
@[simp] theorem den_not {a : Ex} : den F (.not a) ρ g = (den F a ρ g).bind fun x g => (asB x g).bind fun k g => .ok (.bl (!k)) g := by simp only [den]
@[simp] theorem den_ifx {t a b : Ex} : den F (.ifx t a b) ρ g = (den F t ρ g).bind fun x g => (asB x g).bind fun k g => if k = true then den F a ρ g else den F b ρ g := by
  simp only [den]; congr 1; funext x g; congr 1; funext k g; cases k <;> rfl
@[simp] theorem den_tup {es : List Ex} : den F (.tup es) ρ g = (denL F es ρ g).bind fun xs g => .ok (.tup xs) g := by simp only [den]
@[simp] theorem den_lst {es : List Ex} : den F (.lst es) ρ g = (denL F es ρ g).bind fun xs g => .ok (.lst xs) g := by simp only [den]
@[simp] theorem den_ix {a b : Ex} : den F (.ix a b) ρ g = (den F a ρ g).bind fun x g => (den F b ρ g).bind fun y g => ofO (getD x y g) g := by simp only [den]
@[simp] theorem den_sl {a l h : Ex} : den F (.sl a l h) ρ g = (den F a ρ g).bind fun x g => (den F l ρ g).bind fun l g => (den F h ρ g).bind fun h g => ofO (sliceD x l h) g := by simp only [den]
def revD : Dat → Option Dat
  | .lst xs => some (.lst xs.reverse)
  | _ => none
@[simp] theorem revD_lst {xs : List Dat} : revD (.lst xs) = some (.lst xs.reverse) := rfl
@[simp] theorem den_rev {a : Ex} : den F (.rev a) ρ g = (den F a ρ g).bind fun x g => ofO (revD x) g := by
  simp only [den]; congr 1; funext x g; cases x <;> rfl
@[simp] theorem den_call {i : Nat} {es : List Ex} : den F (.call i es) ρ g = (denL F es ρ g).bind fun xs g => F i xs g := by simp only [den]
@[simp] theorem den_bi {b : Bi} {a : Ex} : den F (.bi b a) ρ g = (den F a ρ g).bind fun x g => ofO (biD b x) g := by simp only [den]
def strK {α : Type} (x : Dat) (r : Res α) : Res α := match x with
  | .str _ => r
  | _ => .bad
@[simp] theorem strK_str {α : Type} {s : List Nat} {r : Res α} : strK (.str s) r = r := rfl
@[simp] theorem den_me {m : Me} {a b : Ex} : den F (.me m a b) ρ g = (den F a ρ g).bind fun x g => strK x ((den F b ρ g).bind fun y g => ofO (meD m x y) g) := by
  simp only [den]; congr 1; funext x g; cases x <;> rfl
@[simp] theorem den_isi {a : Ex} {t : Ty} : den F (.isi a t) ρ g = (den F a ρ g).bind fun x g => ofO ((isiD x t).map .bl) g := by simp only [den]
@[simp] theorem den_rng {es : List Ex} : den F (.rng es) ρ g = (denL F es ρ g).bind fun xs g => ofO ((rngD xs).map .lst) g := by simp only [den]
theorem den_lc2 {elt : Ex} {tg : Tg} {src cond : Ex} {own : List Nat} : den F (.lc elt tg src cond own) ρ g = (den F src ρ g).bind fun x g => (ofO (itemsD x) g).bind fun ds g => (lcGo (lcStep F elt tg cond (wipeD ρ own)) [] ds g).bind fun ys g => .ok (.lst ys) g := by
  exact den_lc
@[simp] theorem denL_nil : denL F [] ρ g = .ok [] g := by simp only [denL]
@[simp] theorem denL_cons {e : Ex} {es : List Ex} : denL F (e :: es) ρ g = (den F e ρ g).bind fun x g => (denL F es ρ g).bind fun xs g => .ok (x :: xs) g := by simp only [denL]
@[simp] theorem denB_eq {e : Ex} : denB F e ρ g = (den F e ρ g).bind asB := rfl
@[simp] theorem erase_nil : erase [] = [] := rfl
@[simp] theorem erase_cons {x : Option Dat} {r : Sl} : erase (x :: r) = era x :: erase r := rfl
@[simp] theorem strip_nil : strip [] = [] := rfl
@[simp] theorem strip_cons {x : Option Dat} {r : Sl} : strip (x :: r) = stp x :: strip r := rfl
@[simp] theorem era_none : era none = none := rfl
@[simp] theorem era_non : era (some .non) = some .non := rfl
@[simp] theorem era_bl {b : Bool} : era (some (.bl b)) = some (.bl b) := rfl
@[simp] theorem era_int {b : Int} : era (some (.int b)) = some (.int b) := rfl
@[simp] theorem era_str {b : List Nat} : era (some (.str b)) = some (.str b) := rfl
@[simp] theorem era_tup {b : List Dat} : era (some (.tup b)) = some (.tup b) := rfl
@[simp] theorem era_lst {b : List Dat} : era (some (.lst b)) = some (.lst b) := rfl
@[simp] theorem era_dct {b c : List Dat} : era (some (.dct b c)) = some (.dct b c) := rfl
@[simp] theorem era_fdc {b c : List Dat} : era (some (.fdc b c)) = some (.fdc b c) := rfl
@[simp] theorem era_cup : era (some .cup) = some .cup := rfl
@[simp] theorem era_own {d : Dat} : era (some (.own d)) = none := rfl
@[simp] theorem stp_none : stp none = none := rfl
@[simp] theorem stp_non : stp (some .non) = some .non := rfl
@[simp] theorem stp_bl {b : Bool} : stp (some (.bl b)) = some (.bl b) := rfl
@[simp] theorem stp_int {b : Int} : stp (some (.int b)) = some (.int b) := rfl
@[simp] theorem stp_str {b : List Nat} : stp (some (.str b)) = some (.str b) := rfl
@[simp] theorem stp_tup {b : List Dat} : stp (some (.tup b)) = some (.tup b) := rfl
@[simp] theorem stp_lst {b : List Dat} : stp (some (.lst b)) = some (.lst b) := rfl
@[simp] theorem stp_dct {b c : List Dat} : stp (some (.dct b c)) = some (.dct b c) := rfl
@[simp] theorem stp_fdc {b c : List Dat} : stp (some (.fdc b c)) = some (.fdc b c) := rfl
@[simp] theorem stp_cup : stp (some .cup) = some .cup := rfl
@[simp] theorem stp_own {d : Dat} : stp (some (.own d)) = some d := rfl
def setD (t : Tg) (x : Dat) (ρ : Sl) : Option Out := (bindT t x ρ).map .nx
@[simp] theorem setD_eq {t : Tg} {x : Dat} : setD t x ρ = (bindT t x ρ).map .nx := rfl
theorem storeD_eq {t : Tg} {x : Dat} : storeD t x ρ g = ofO (setD t x ρ) g := by
  unfold storeD setD
  cases bindT t x ρ <;> rfl
@[simp] theorem run_set {t : Tg} {e : Ex} : run F (.set t e) ρ g = (den F e (erase ρ) g).bind fun x g => ofO (setD t x ρ) g := by
  simp only [run]; congr 1; funext x g; exact storeD_eq
@[simp] theorem run_setF {t : Tg} {e : Ex} : run F (.setF t e) ρ g = (den F e (strip ρ) g).bind fun x g => if flatD x = true then ofO (setD t x ρ) g else .bad := by
  simp only [run]; congr 1; funext x g; rw [storeD_eq]
@[simp] theorem run_new {i : Nat} {e : Ex} : run F (.new i e) ρ g = (den F e (erase ρ) g).bind fun x g => newD i x ρ g := by simp only [run]
@[simp] theorem newD_lst {i : Nat} {xs : List Dat} : newD i (.lst xs) ρ g = .ok (.nx (ρ.set i (some (.own (.lst xs))))) g := rfl
@[simp] theorem run_app {i : Nat} {e : Ex} : run F (.app i e) ρ g = if ownL (ρ.getD i none) = true then (den F e (erase ρ) g).bind fun x g => appD i x ρ g else .bad := by simp only [run]
@[simp] theorem run_appF {i : Nat} {e : Ex} : run F (.appF i e) ρ g = if ownL (ρ.getD i none) = true then (den F e (strip ρ) g).bind fun x g => if flatD x = true then appD i x ρ g else .bad else .bad := by simp only [run]
@[simp] theorem ownL_own {xs : List Dat} : ownL (some (.own (.lst xs))) = true := rfl
theorem appD_own {i : Nat} {x : Dat} {xs : List Dat} (h : ρ.getD i none = some (.own (.lst xs))) (hz : xs.length < 16777216) : appD i x ρ g = .ok (.nx (ρ.set i (some (.own (.lst (xs ++ [x])))))) g := by
  unfold appD
  rw [h]
  exact if_pos hz
@[simp] theorem run_frz {i : Nat} : run F (.frz i) ρ g = frzD i ρ g := by simp only [run]
theorem frzD_own {i : Nat} {d : Dat} (h : ρ.getD i none = some (.own d)) : frzD i ρ g = .ok (.nx (ρ.set i (some d))) g := by
  unfold frzD
  rw [h]
@[simp] theorem bindT_nm {i : Nat} {d : Dat} : bindT (.nm i) d ρ = some (ρ.set i (some d)) := by simp only [bindT]
@[simp] theorem bindT_tp {ts : List Tg} {ds : List Dat} : bindT (.tp ts) (.tup ds) ρ = bindTs ts ds ρ := by simp only [bindT]
@[simp] theorem bindT_tpL {ts : List Tg} {ds : List Dat} : bindT (.tp ts) (.lst ds) ρ = bindTs ts ds ρ := by simp only [bindT]
@[simp] theorem bindTs_nil : bindTs [] [] ρ = some ρ := by simp only [bindTs]
@[simp] theorem bindTs_cons {t : Tg} {ts : List Tg} {d : Dat} {ds : List Dat} : bindTs (t :: ts) (d :: ds) ρ = (bindT t d ρ).bind fun ρ1 => bindTs ts ds ρ1 := by simp only [bindTs]
@[simp] theorem run_expr {e : Ex} : run F (.expr e) ρ g = (den F e (strip ρ) g).bind fun _ g => .ok (.nx ρ) g := by simp only [run]
@[simp] theorem run_ret {e : Ex} : run F (.ret e) ρ g = (den F e (strip ρ) g).bind fun x g => .ok (.rt x false) g := by simp only [run]
@[simp] theorem run_retL {es : List Ex} : run F (.retL es) ρ g = (denL F es (strip ρ) g).bind fun x g => .ok (.rt (.lst x) true) g := by simp only [run]
@[simp] theorem run_ifs {t : Ex} {a b : List Sm} : run F (.ifs t a b) ρ g = (den F t (strip ρ) g).bind fun x g => (asB x g).bind fun k g => if k = true then runs F a ρ g else runs F b ρ g := by
  simp only [run, denB]
  cases den F t (strip ρ) g with
  | ok d g1 =>
    cases d with
    | bl b => cases b <;> rfl
    | _ => rfl
  | _ => rfl
@[simp] theorem run_fors {t : Tg} {e : Ex} {b : List Sm} : run F (.fors t e b) ρ g = (den F e (erase ρ) g).bind fun x g => (ofO (itemsD x) g).bind fun ds g => forGo t (fun ρ g => runs F b ρ g) ds ρ g := by simp only [run]
theorem run_whl {n : Nat} {t : Ex} {b : List Sm} : run F (.whl n t b) ρ g = whlGo (fun ρ g => denB F t (strip ρ) g) (fun ρ g => runs F b ρ g) n ρ g := by simp only [run]
@[simp] theorem run_raise {c : Nat} : run F (.raise c) ρ g = .exc c g := by simp only [run]
@[simp] theorem run_pass : run F .pass ρ g = .ok (.nx ρ) g := by simp only [run]
@[simp] theorem run_cont : run F .cont ρ g = .ok (.ct ρ) g := by simp only [run]
@[simp] theorem run_brk : run F .brk ρ g = .ok (.bk ρ) g := by simp only [run]
def goOn (F : Nat → List Dat → Mo Dat) (ss : List Sm) : Out → Mo Out := fun o g => match o with
  | .nx ρ1 => runs F ss ρ1 g
  | o => .ok o g
@[simp] theorem goOn_nx {ss : List Sm} : goOn F ss (.nx ρ) g = runs F ss ρ g := rfl
@[simp] theorem goOn_rt {ss : List Sm} {d : Dat} {f : Bool} : goOn F ss (.rt d f) g = .ok (.rt d f) g := rfl
@[simp] theorem goOn_ct {ss : List Sm} : goOn F ss (.ct ρ) g = .ok (.ct ρ) g := rfl
@[simp] theorem goOn_bk {ss : List Sm} : goOn F ss (.bk ρ) g = .ok (.bk ρ) g := rfl
@[simp] theorem runs_nil : runs F [] ρ g = .ok (.nx ρ) g := by simp only [runs]
@[simp] theorem runs_cons {s : Sm} {ss : List Sm} : runs F (s :: ss) ρ g = (run F s ρ g).bind (goOn F ss) := by
  simp only [runs]
  cases run F s ρ g with
  | ok o g => cases o <;> rfl
  | _ => rfl
theorem runs_append {b : List Sm} : ∀ {a : List Sm} {ρ : Sl} {g : List Dat}, runs F (a ++ b) ρ g = (runs F a ρ g).bind (goOn F b)
  | [], ρ, g => by simp
  | s :: a, ρ, g => by
    rw [List.cons_append, runs_cons, runs_cons]
    cases run F s ρ g with
    | ok o g1 =>
      cases o with
      | nx ρ1 => simp only [bind_ok, goOn_nx]; exact runs_append
      | _ => rfl
    | _ => rfl
@[simp] theorem run_put {i : Nat} {e v : Ex} : run F (.putIx i e v) ρ g = (den F v (strip ρ) g).bind fun x g => if isCup (ρ.getD i none) = true then (den F e (strip ρ) g).bind fun y g => putIxD i ρ y x g else .bad := by simp only [run]
@[simp] theorem isCup_cup : isCup (some .cup) = true := rfl
@[simp] theorem flatD_int {b : Int} : flatD (.int b) = true := by simp only [flatD]
@[simp] theorem flatD_str {b : List Nat} : flatD (.str b) = true := by simp only [flatD]
@[simp] theorem flatD_bl {b : Bool} : flatD (.bl b) = true := by simp only [flatD]
@[simp] theorem flatD_non : flatD .non = true := by simp only [flatD]
@[simp] theorem flatD_tupS {xs : List Dat} : flatD (.tup xs) = flatL xs := by simp only [flatD]
@[simp] theorem flatL_nilS : flatL [] = true := by simp only [flatL]
@[simp] theorem flatL_consS {x : Dat} {xs : List Dat} : flatL (x :: xs) = (flatD x && flatL xs) := by simp only [flatL]
end
@[simp] theorem res_ite_bind {α β : Type} {c : Prop} [Decidable c] {a b : Res α} {k : α → Mo β} : (if c then a else b).bind k = if c then a.bind k else b.bind k := by
  split <;> rfl

@[simp] theorem wipeD_nil {ρ : Sl} : wipeD ρ [] = ρ := rfl
@[simp] theorem wipeD_cons {ρ : Sl} {i : Nat} {is : List Nat} : wipeD ρ (i :: is) = (wipeD ρ is).set i none := rfl
theorem lcStep_nm {F : Nat → List Dat → Mo Dat} {elt : Ex} {i : Nat} {cond : Ex} {ρ0 : Sl} {d : Dat} {g : List Dat} : lcStep F elt (.nm i) cond ρ0 d g = (den F cond (ρ0.set i (some d)) g).bind fun x g => (asB x g).bind fun k g => if k = true then (den F elt (ρ0.set i (some d)) g).bind fun y g => .ok (some y) g else .ok none g := by
  unfold lcStep
  rw [bindT_nm]
  dsimp only
  congr 1; funext x g; congr 1; funext k g; cases k <;> rfl
theorem lcStep_tp {F : Nat → List Dat → Mo Dat} {elt : Ex} {tg : Tg} {cond : Ex} {ρ0 ρ1 : Sl} {d : Dat} {g : List Dat} (h : bindT tg d ρ0 = some ρ1) : lcStep F elt tg cond ρ0 d g = (den F cond ρ1 g).bind fun x g => (asB x g).bind fun k g => if k = true then (den F elt ρ1 g).bind fun y g => .ok (some y) g else .ok none g := by
  unfold lcStep
  rw [h]
  dsimp only
  congr 1; funext x g; congr 1; funext k g; cases k <;> rfl
end R
set_option Elab.async false
set_option linter.all false
set_option maxRecDepth 100000
set_option maxHeartbeats 4000000
/-! The laws' own helpers: the cup, a draw, one of some, the same. -/
namespace R

/-- the cup as the laws keep it: digits, seed -/
def Gd (g : List Dat) : Prop := ∃ a b : Int, g = [.int a, .int b] ∧ 0 ≤ b ∧ b < 4294967296
def cupDf (c1 c2 c3 c4 c5 : Int) : Df := { fr := true, np := 1, ns := 2, body := [
    .set (.nm 1) (.bi .abs (.ix (.op .add (.bi .list (.var 0)) (.lst [(.con (.int (0)))])) (.con (.int (0))))),
    .retL [(.ifx (.cmp .ge (.var 1) (.op .pow (.con (.int (10))) (.con (.int (18))))) (.op .fdiv (.var 1) (.con (.int c1))) (.con (.int (0)))), (.op .add (.op .mod (.bi .int (.op .add (.op .mul (.var 1) (.con (.int c2))) (.con (.int c3)))) (.con (.int c4))) (.con (.int c5)))]] }
def rollDf (c1 c2 c3 c4 c5 c6 : Int) : Df := { fr := false, np := 2, ns := 4, body := [
    .ifs (.cmp .gt (.ix (.var 0) (.con (.int (0)))) (.con (.int (0)))) [
      .set (.nm 2) (.op .mod (.bi .int (.ix (.var 0) (.con (.int (0))))) (.var 1)),
      .putIx 0 (.con (.int (0))) (.op .fdiv (.ix (.var 0) (.con (.int (0)))) (.var 1)),
      .ret (.var 2)] [],
    .putIx 0 (.con (.int (1))) (.op .mod (.bi .int (.op .add (.op .mul (.ix (.var 0) (.con (.int (1)))) (.con (.int c1))) (.con (.int c2)))) (.con (.int c3))),
    .set (.nm 3) (.op .mod (.bi .int (.op .mul (.ix (.var 0) (.con (.int (1)))) (.op .add (.ix (.var 0) (.con (.int (1)))) (.con (.int c4))))) (.con (.int c5))),
    .ret (.op .mod (.bi .int (.op .fdiv (.var 3) (.con (.int c6)))) (.var 1))] }
def someDf (iR : Nat) : Df := { fr := false, np := 2, ns := 2, body := [
    .ret (.ix (.var 1) (.call iR [(.var 0), (.bi .len (.var 1))]))] }
def sameDf (iS : Nat) : Df := { fr := false, np := 2, ns := 3, body := [
    .ifs (.isi (.var 1) .tuple) [
      .ifs (.or (.not (.isi (.var 0) .tuple)) (.cmp .ne (.bi .len (.var 0)) (.bi .len (.var 1)))) [
        .ret (.con (.bl false))] [],
      .ret (.bi .all (.lc (.call iS [(.ix (.var 0) (.var 2)), (.ix (.var 1) (.var 2))]) (.nm 2) (.rng [(.bi .len (.var 1))]) (.con (.bl true)) [2]))] [],
    .ifs (.cmp .is (.var 1) (.con (.non))) [
      .ret (.cmp .is (.var 0) (.con (.non)))] [],
    .ifs (.isi (.var 1) .bool) [
      .ret (.ifx (.var 1) (.cmp .is (.var 0) (.con (.bl true))) (.cmp .is (.var 0) (.con (.bl false))))] [],
    .ifs (.isi (.var 1) .int) [
      .ret (.and (.isi (.var 0) .int) (.and (.not (.isi (.var 0) .bool)) (.cmp .eq (.bi .int (.var 0)) (.var 1))))] [],
    .ret (.and (.isi (.var 0) .str) (.cmp .eq (.bi .str (.var 0)) (.var 1)))] }

@[simp] theorem opD_addI {i j : Int} : opD .add (.int i) (.int j) = some (.int (i + j)) := rfl
@[simp] theorem opD_subI {i j : Int} : opD .sub (.int i) (.int j) = some (.int (i - j)) := rfl
theorem opD_mulI {i j : Int} (h : j.natAbs < 18446744073709551616 ∨ i.natAbs < 18446744073709551616) : opD .mul (.int i) (.int j) = some (.int (i * j)) := by
  have e : mulOkB i j = true := by
    unfold mulOkB
    simp only [Bool.or_eq_true, decide_eq_true_eq]; omega
  simp only [opD, e, if_true]
theorem opD_fdivI {i j : Int} (h : 0 < j) (h2 : j < 1073741824) : opD .fdiv (.int i) (.int j) = some (.int (i / j)) := by
  simp only [opD]
  rw [if_pos (by simp only [Bool.and_eq_true, decide_eq_true_eq]; omega), Int.fdiv_eq_ediv_of_nonneg _ (by omega)]
theorem opD_modI {i j : Int} (h : 0 < j) : opD .mod (.int i) (.int j) = some (.int (i % j)) := by
  simp only [opD]
  rw [if_pos (by omega), Int.fmod_eq_emod_of_nonneg _ (by omega)]
@[simp] theorem biD_int {i : Int} : biD .int (.int i) = some (.int i) := rfl
@[simp] theorem biD_lenT {xs : List Dat} : biD .len (.tup xs) = some (.int xs.length) := rfl
@[simp] theorem biD_lenL {xs : List Dat} : biD .len (.lst xs) = some (.int xs.length) := rfl
@[simp] theorem biD_lenS {xs : List Nat} : biD .len (.str xs) = some (.int xs.length) := rfl
@[simp] theorem biD_abs {i : Int} : biD .abs (.int i) = some (.int (if i < 0 then -i else i)) := rfl
@[simp] theorem cpD_gtI {i j : Int} : cpD .gt (.int i) (.int j) = some (decide (j < i)) := rfl
@[simp] theorem cpD_ltI {i j : Int} : cpD .lt (.int i) (.int j) = some (decide (i < j)) := rfl
@[simp] theorem cpD_geI {i j : Int} : cpD .ge (.int i) (.int j) = some (decide (j ≤ i)) := by
  simp only [cpD, ltD, Option.map_some, Option.some.injEq]
  by_cases h : i < j
  · simp [h]
  · have : j ≤ i := by omega
    simp [h, this]
@[simp] theorem cpD_leI {i j : Int} : cpD .le (.int i) (.int j) = some (decide (i ≤ j)) := by
  simp only [cpD, ltD, Option.map_some, Option.some.injEq]
  by_cases h : j < i
  · have : ¬ i ≤ j := by omega
    simp [h, this]
  · have : i ≤ j := by omega
    simp [h, this]
@[simp] theorem cpD_eqI {i j : Int} : cpD .eq (.int i) (.int j) = some (decide (i = j)) := by
  by_cases h : i = j <;> simp [cpD, eqD, okB, eqB, h]
@[simp] theorem cpD_neI {i j : Int} : cpD .ne (.int i) (.int j) = some (decide (i ≠ j)) := by
  by_cases h : i = j <;> simp [cpD, eqD, okB, eqB, h]
@[simp] theorem getD_cup {i : Int} {g : List Dat} : getD .cup (.int i) g = atD g i := rfl
@[simp] theorem getD_tup {i : Int} {xs g : List Dat} : getD (.tup xs) (.int i) g = atD xs i := rfl
@[simp] theorem getD_lst {i : Int} {xs g : List Dat} : getD (.lst xs) (.int i) g = atD xs i := rfl
@[simp] theorem getD_str {i : Int} {xs : List Nat} {g : List Dat} : getD (.str xs) (.int i) g = (atD xs i).map fun c => .str [c] := rfl
theorem atD_nat {α : Type} {xs : List α} {i : Int} (h : 0 ≤ i) : atD xs i = xs[i.toNat]? := by
  unfold atD ixD
  rw [if_pos h]
  by_cases hi : i < xs.length
  · rw [if_pos hi]; rfl
  · rw [if_neg hi]
    rw [List.getElem?_eq_none (by omega)]; rfl
@[simp] theorem atD_0 {α : Type} {x : α} {xs : List α} : atD (x :: xs) 0 = some x := by rw [atD_nat (by omega)]; rfl
@[simp] theorem atD_1 {α : Type} {x y : α} {xs : List α} : atD (x :: y :: xs) 1 = some y := by rw [atD_nat (by omega)]; rfl
@[simp] theorem atD_2 {α : Type} {x y z : α} {xs : List α} : atD (x :: y :: z :: xs) 2 = some z := by rw [atD_nat (by omega)]; rfl
theorem roll_call {P : Pg} {k i : Nat} {g : List Dat} {many c1 c2 c3 c4 c5 c6 : Int} (hP : P[i]? = some (rollDf c1 c2 c3 c4 c5 c6)) (h1 : 0 < c3 ∧ c3 < 4294967296) (h2 : 0 < c5) (h3 : 0 < c6 ∧ c6 < 1073741824) (h4 : 0 ≤ c1 ∧ c1 < 4294967296)
    (hm : 0 < many) (hm2 : many < 1073741824) (hg : Gd g) :
    (callK P (k + 1) i [.cup, .int many] g).sat fun d g' => Gd g' ∧ ∃ r : Int, d = .int r ∧ 0 ≤ r ∧ r < many := by
  obtain ⟨a, b, rfl, hb1, hb2⟩ := hg
  rw [callK_eq hP rfl]
  by_cases ha : 0 < a
  · simp [rollDf, ha, opD_fdivI hm hm2, opD_modI hm, putIxD, ixD]
    exact ⟨⟨_, _, rfl, hb1, hb2⟩, Int.emod_nonneg _ (by omega), Int.emod_lt_of_pos _ hm⟩
  · have e1 := Int.emod_nonneg (b * c1 + c2) (show c3 ≠ 0 by omega)
    have e2 := Int.emod_lt_of_pos (b * c1 + c2) h1.1
    simp [rollDf, ha, opD_fdivI h3.1 h3.2, opD_modI hm, opD_modI h1.1, opD_modI h2, putIxD, ixD, opD_mulI (i := b) (j := c1) (by omega), opD_mulI (i := (b * c1 + c2) % c3) (j := (b * c1 + c2) % c3 + c4) (by omega)]
    exact ⟨⟨_, _, rfl, e1, by omega⟩, Int.emod_nonneg _ (by omega), Int.emod_lt_of_pos _ hm⟩

theorem cup_call {P : Pg} {k i : Nat} {c1 c2 c3 c4 c5 : Int} (hP : P[i]? = some (cupDf c1 c2 c3 c4 c5)) (h1 : 0 < c1 ∧ c1 < 1073741824) (h2 : 0 ≤ c2 ∧ c2 < 4294967296) (h4 : 0 < c4 ∧ c4 < 2147483648) (h5 : 0 ≤ c5 ∧ c5 < 2147483648) (ns : List Int) (hl : ns.length ≤ 63) :
    ∃ is : List Int, (callK P (k + 1) i [.lst (ns.map .int)] [] = .ok (.lst (is.map .int)) [] ∧ callK P (k + 1) i [.kl (ns.map .int)] [] = .ok (.lst (is.map .int)) []) ∧ Gd (is.map .int) := by
  have hpow : opD .pow (.int 10) (.int 18) = some (.int 1000000000000000000) := by rfl
  have hadd : opD .add (.lst (ns.map .int)) (.lst [.int 0]) = some (.lst (ns.map .int ++ [.int 0])) := by
    simp only [opD]
    rw [if_pos (by simp [line]; omega)]
  obtain ⟨n0, hat⟩ : ∃ n0, atD (ns.map Dat.int ++ [.int 0]) 0 = some (.int n0) := by
    cases ns with
    | nil => exact ⟨0, rfl⟩
    | cons n ns => exact ⟨n, by simp⟩
  obtain ⟨cell, hab⟩ : ∃ cell, biD .abs (.int n0) = some (.int cell) := ⟨_, rfl⟩
  have e1 := Int.emod_nonneg (cell * c2 + c3) (show c4 ≠ 0 by omega)
  have e2 := Int.emod_lt_of_pos (cell * c2 + c3) h4.1
  have hl1 : biD .list (.lst (ns.map .int)) = some (.lst (ns.map .int)) := rfl
  have hl2 : biD .list (.kl (ns.map .int)) = some (.lst (ns.map .int)) := rfl
  have hmul := opD_mulI (i := cell) (j := c2) (by omega)
  have fin : ∀ sc : Dat, biD .list sc = some (.lst (ns.map .int)) → era (some sc) = some sc → callK P (k + 1) i [sc] [] = .ok (.lst (([(if 1000000000000000000 ≤ cell then cell / c1 else 0), (cell * c2 + c3) % c4 + c5] : List Int).map .int)) [] := by
    intro sc hsc hes
    rw [callK_eq hP rfl]
    by_cases hc : 1000000000000000000 ≤ cell
    · simp [-biD_abs, cupDf, hsc, hes, hadd, hat, hpow, hab, opD_fdivI h1.1 h1.2, opD_modI h4.1, hmul, hc, retOf]
    · simp [-biD_abs, cupDf, hsc, hes, hadd, hat, hpow, hab, opD_fdivI h1.1 h1.2, opD_modI h4.1, hmul, hc, retOf]
  exact ⟨_, ⟨fin _ hl1 rfl, fin _ hl2 rfl⟩, _, _, rfl, by omega, by omega⟩
/-- one of some: a list, a tuple -/
theorem some_call {P : Pg} {k i iR : Nat} {g : List Dat} {c1 c2 c3 c4 c5 c6 : Int} (hP : P[i]? = some (someDf iR)) (hR : P[iR]? = some (rollDf c1 c2 c3 c4 c5 c6)) (h1 : 0 < c3 ∧ c3 < 4294967296) (h2 : 0 < c5) (h3 : 0 < c6 ∧ c6 < 1073741824) (h4 : 0 ≤ c1 ∧ c1 < 4294967296)
    {xs : List Dat} (hx : xs ≠ []) (hl : xs.length < 1073741824) (hg : Gd g) :
    (callK P (k + 2) i [.cup, .lst xs] g).sat (fun d g' => Gd g' ∧ d ∈ xs) ∧ (callK P (k + 2) i [.cup, .tup xs] g).sat (fun d g' => Gd g' ∧ d ∈ xs) := by
  have hpos : 0 < xs.length := List.length_pos_iff.mpr hx
  have key : ∀ sc : Dat, biD .len sc = some (.int xs.length) → (∀ i g, getD sc (.int i) g = atD xs i) → stp (some sc) = some sc → (callK P (k + 2) i [.cup, sc] g).sat (fun d g' => Gd g' ∧ d ∈ xs) := by
    intro sc hs1 hs2 hst
    rw [callK_eq hP rfl]
    simp [someDf, sat_bind, hs1, hst]
    refine (roll_call (k := k) hR h1 h2 h3 h4 (many := xs.length) (by omega) (by omega) hg).mono fun d g1 ⟨hg1, r, e, hr1, hr2⟩ => ?_
    subst e
    rw [hs2, atD_nat hr1, List.getElem?_eq_getElem (by omega)]
    simp
    exact hg1
  exact ⟨key _ rfl (fun _ _ => rfl) rfl, key _ rfl (fun _ _ => rfl) rfl⟩

/-! ### the same -/
mutual
def okS : Dat → Nat → Bool
  | .tup xs, n + 1 => decide (xs.length ≤ 16777216) && okSL xs n
  | .non, _ => true
  | .bl _, _ => true
  | .int _, _ => true
  | .str _, _ => true
  | _, _ => false
def okSL : List Dat → Nat → Bool
  | [], _ => true
  | x :: xs, n => okS x n && okSL xs n
end
theorem okSL_get {n : Nat} : ∀ {xs : List Dat} {i : Nat} {d : Dat}, okSL xs n = true → xs[i]? = some d → okS d n = true
  | [], _, _, _, h => by simp at h
  | x :: xs, 0, d, h, e => by
    simp [okSL] at h e
    subst e
    exact h.1
  | x :: xs, i + 1, d, h, e => by
    simp [okSL] at h e
    exact okSL_get h.2 e
@[simp] theorem cpD_isNon {d : Dat} : cpD .is d .non = some (isNonB d) := by
  cases d <;> rfl
theorem bools_true : ∀ n : Nat, boolsD (List.replicate n (.bl true)) = some (List.replicate n true)
  | 0 => rfl
  | n + 1 => by
    rw [List.replicate_succ, List.replicate_succ]
    unfold boolsD
    rw [bools_true n]
    rfl
theorem filterMap_const {α β : Type} {y : β} : ∀ xs : List α, xs.filterMap (fun _ => some y) = List.replicate xs.length y
  | [] => rfl
  | x :: xs => congrArg (y :: ·) (filterMap_const xs)
@[simp] theorem cpD_eqSS {s t : List Nat} : cpD .eq (.str s) (.str t) = some (s == t) := by simp [cpD, eqD, okB, eqB]
@[simp] theorem cpD_neSS {s t : List Nat} : cpD .ne (.str s) (.str t) = some (!(s == t)) := by simp [cpD, eqD, okB, eqB]
theorem same_call {P : Pg} {iS : Nat} (hP : P[iS]? = some (sameDf iS)) : ∀ (n k : Nat) (d : Dat) (g : List Dat), okS d n = true → callK P (k + n + 1) iS [d, d] g = .ok (.bl true) g := by
  intro n
  induction n with
  | zero =>
    intro k d g h
    rw [callK_eq hP rfl]
    cases d with
    | non => simp [sameDf, isiD, isNonB]
    | bl b => cases b <;> simp [sameDf, isiD, isNonB, cpD, isD]
    | int i => simp [sameDf, isiD, isNonB]
    | str s => simp [sameDf, isiD, isNonB, biD]
    | tup xs => simp [okS] at h
    | _ => simp [okS] at h
  | succ n ih =>
    intro k d g h
    rw [show k + (n + 1) + 1 = (k + n + 1) + 1 by omega, callK_eq hP rfl]
    cases d with
    | non => simp [sameDf, isiD, isNonB]
    | bl b => cases b <;> simp [sameDf, isiD, isNonB, cpD, isD]
    | int i => simp [sameDf, isiD, isNonB]
    | str s => simp [sameDf, isiD, isNonB, biD]
    | tup xs =>
      simp only [okS, Bool.and_eq_true, decide_eq_true_eq] at h
      have hr := rng1 (n := (xs.length : Int)) (by omega) (by omega)
      have hlc : lcGo (lcStep (callK P (k + n + 1)) (.call iS [(.ix (.var 0) (.var 2)), (.ix (.var 1) (.var 2))]) (.nm 2) (.con (.bl true)) [some (.tup xs), some (.tup xs), none]) [] (ilist 0 xs.length) g = .ok (List.replicate xs.length (.bl true)) g := by
        rw [lcGo_pure (f := fun _ => some (.bl true))]
        · rw [filterMap_const, List.nil_append]
          simp [ilist]
        · intro d hd
          obtain ⟨i, hi, rfl⟩ := mem_ilist.mp hd
          have e : atD xs (0 + (i : Int)) = some xs[i] := by rw [atD_nat (by omega)]; simp [hi]
          rw [lcStep_nm]
          have := ih k xs[i] g (okSL_get h.2 (List.getElem?_eq_getElem hi))
          simp only [Int.zero_add] at e
          simp [e, this]
      simp [sameDf, isiD, isNonB, den_lc2, hr, itemsD, hlc, biD, bools_true]
    | _ => simp [okS] at h
end R
set_option Elab.async false
set_option linter.all false
set_option maxRecDepth 100000
set_option maxHeartbeats 4000000
/-! Plain facts that the laws share. -/
namespace R

/-! ### slices -/
@[simp] theorem sliceD_str {xs : List Nat} {lo hi : Dat} : sliceD (.str xs) lo hi = (cutD xs lo hi).map .str := rfl
@[simp] theorem sliceD_tup {xs : List Dat} {lo hi : Dat} : sliceD (.tup xs) lo hi = (cutD xs lo hi).map .tup := rfl
@[simp] theorem sliceD_lst {xs : List Dat} {lo hi : Dat} : sliceD (.lst xs) lo hi = (cutD xs lo hi).map .lst := rfl
theorem bnd_nat {n d a : Nat} : bndD n d (.int (a : Int)) = some (min a n) := by
  simp only [bndD]
  rw [if_neg (by omega)]
  rfl
theorem bnd_neg {n d m : Nat} (h : 0 < m) : bndD n d (.int (-(m : Int))) = some (n - m) := by
  simp only [bndD]
  rw [if_pos (by omega)]
  congr 1
  omega
theorem bnd_non {n d : Nat} : bndD n d .non = some d := rfl
theorem cut_to {α : Type} (xs : List α) (m : Nat) : cutD xs .non (.int m) = some (xs.take m) := by
  simp only [cutD, bnd_nat, bnd_non, Option.bind_some, Option.map_some, List.drop_zero, Nat.sub_zero]
  by_cases h : m ≤ xs.length
  · rw [Nat.min_eq_left h]
  · rw [Nat.min_eq_right (by omega), List.take_of_length_le (by omega), List.take_of_length_le (by omega)]
theorem cut_from {α : Type} (xs : List α) (m : Nat) : cutD xs (.int m) .non = some (xs.drop m) := by
  simp only [cutD, bnd_nat, bnd_non, Option.bind_some, Option.map_some]
  by_cases h : m ≤ xs.length
  · rw [Nat.min_eq_left h, List.take_of_length_le (by rw [List.length_drop]; omega)]
  · rw [Nat.min_eq_right (by omega), List.drop_eq_nil_of_le (Nat.le_refl _), List.drop_eq_nil_of_le (by omega)]
    simp
theorem cut_fromNeg {α : Type} (xs : List α) (m : Nat) (h : 0 < m) : cutD xs (.int (-(m : Int))) .non = some (xs.drop (xs.length - m)) := by
  simp only [cutD, bnd_neg h, bnd_non, Option.bind_some, Option.map_some]
  rw [List.take_of_length_le (by rw [List.length_drop]; omega)]
theorem cut_toNeg {α : Type} (xs : List α) (m : Nat) (h : 0 < m) : cutD xs .non (.int (-(m : Int))) = some (xs.take (xs.length - m)) := by
  simp only [cutD, bnd_neg h, bnd_non, Option.bind_some, Option.map_some, List.drop_zero, Nat.sub_zero]
theorem cut_fromNegTo {α : Type} (xs : List α) (a m : Nat) (h : 0 < m) : cutD xs (.int (a : Int)) (.int (-(m : Int))) = some ((xs.drop (min a xs.length)).take (xs.length - m - min a xs.length)) := by
  simp only [cutD, bnd_neg h, bnd_nat, Option.bind_some, Option.map_some]
theorem cut_fromTo {α : Type} (xs : List α) (a b : Nat) : cutD xs (.int (a : Int)) (.int (b : Int)) = some ((xs.drop (min a xs.length)).take (min b xs.length - min a xs.length)) := by
  simp only [cutD, bnd_nat, Option.bind_some, Option.map_some]
/-! ### lists that come of ranges -/
theorem lc_ilist {step : Dat → Mo (Option Dat)} {p : Nat → Bool} {e : Nat → Dat} {a : Int} {n : Nat} {g : List Dat} (h : ∀ k, k < n → step (.int (a + (k : Nat))) g = .ok (if p k = true then some (e k) else none) g) : lcGo step [] (ilist a n) g = .ok (((List.range n).filter p).map e) g := by
  rw [lcGo_pure (f := fun d => match d with | .int z => (if p (z - a).toNat = true then some (e (z - a).toNat) else none) | _ => none)]
  · rw [List.nil_append]
    congr 1
    unfold ilist
    have key : ∀ l : List Nat, (l.map fun (k : Nat) => Dat.int (a + k)).filterMap (fun d => match d with | .int z => (if p (z - a).toNat = true then some (e (z - a).toNat) else none) | _ => none) = (l.filter p).map e := by
      intro l
      induction l with
      | nil => rfl
      | cons k l ih =>
        rw [List.map_cons, List.filterMap_cons]
        simp only [show (a + (k : Int) - a).toNat = k by omega]
        by_cases hp : p k = true
        · simp only [hp, if_true, List.filter_cons_of_pos, List.map_cons, ih]
        · simp only [hp, if_false, List.filter_cons_of_neg, ih, Bool.false_eq_true, not_false_eq_true]
    exact key _
  · intro d hd
    obtain ⟨k, hk, rfl⟩ := mem_ilist.mp hd
    rw [h k hk]
    simp only [show (a + (k : Int) - a).toNat = k by omega]
theorem lc_map {α : Type} {step : Dat → Mo (Option Dat)} {p : α → Bool} {e : α → Dat} {c : α → Dat} {g : List Dat} : ∀ {xs : List α} {acc : List Dat}, (∀ x ∈ xs, step (c x) g = .ok (if p x = true then some (e x) else none) g) → lcGo step acc (xs.map c) g = .ok (acc ++ (xs.filter p).map e) g
  | [], acc, _ => by simp [lcGo]
  | x :: xs, acc, h => by
    rw [List.map_cons, lcGo_cons, h x List.mem_cons_self]
    by_cases hp : p x = true
    · simp only [hp, if_true, noexc_ok', bind_ok]
      rw [lc_map fun y hy => h y (List.mem_cons_of_mem _ hy), List.filter_cons_of_pos hp]
      simp
    · simp only [hp, if_false, noexc_ok', bind_ok, Bool.false_eq_true]
      rw [lc_map fun y hy => h y (List.mem_cons_of_mem _ hy), List.filter_cons_of_neg hp]
/-! ### equality -/
theorem okAll_of {ds : List Dat} {n : Nat} (h : ∀ d ∈ ds, okB d n = true) : okAllB ds n = true := by
  induction ds with
  | nil => rfl
  | cons d ds ih =>
    simp only [okAllB, Bool.and_eq_true]
    exact ⟨h d List.mem_cons_self, ih fun x hx => h x (List.mem_cons_of_mem _ hx)⟩
theorem cpD_eqNil {xs : List Dat} (h : okAllB xs 63 = true) : cpD .eq (.lst xs) (.lst []) = some xs.isEmpty := by
  cases xs with
  | nil => rfl
  | cons x xs =>
    have e1 : okB (.lst (x :: xs)) 64 = true := h
    have e2 : okB (.lst []) 64 = true := rfl
    simp only [cpD, eqD, e1, e2, eqB, eqAllB]
    rfl
theorem cpD_neNil {xs : List Dat} (h : okAllB xs 63 = true) : cpD .ne (.lst xs) (.lst []) = some (!xs.isEmpty) := by
  cases xs with
  | nil => rfl
  | cons x xs =>
    have e1 : okB (.lst (x :: xs)) 64 = true := h
    have e2 : okB (.lst []) 64 = true := rfl
    simp only [cpD, eqD, e1, e2, eqB, eqAllB]
    rfl
@[simp] theorem cpD_neBB {a b : Bool} : cpD .ne (.bl a) (.bl b) = some (!(a == b)) := by
  simp [cpD, eqD, okB, eqB]
theorem okB_map_int {α : Type} (f : α → Int) (l : List α) (n : Nat) : okAllB (l.map fun k => Dat.int (f k)) n = true := okAll_of fun d hd => by
  obtain ⟨k, _, rfl⟩ := List.mem_map.mp hd
  rfl
theorem eqAllB_str : ∀ (x y : List Nat), eqAllB (x.map fun c => Dat.str [c]) (y.map fun c => Dat.str [c]) = (x == y)
  | [], [] => rfl
  | [], _ :: _ => rfl
  | _ :: _, [] => rfl
  | a :: x, b :: y => by
    rw [List.map_cons, List.map_cons]
    unfold eqAllB
    rw [eqAllB_str x y]
    simp [eqB]
theorem cpD_eqSigns (x y : List Nat) : cpD .eq (.lst (x.map fun c => Dat.str [c])) (.lst (y.map fun c => Dat.str [c])) = some (x == y) := by
  have h : ∀ l : List Nat, okAllB (l.map fun c => Dat.str [c]) 63 = true := fun l => okAll_of fun d hd => by
    obtain ⟨k, _, rfl⟩ := List.mem_map.mp hd
    rfl
  simp [cpD, eqD, okB, h, eqB, eqAllB_str]
@[simp] theorem biD_listS {s : List Nat} : biD .list (.str s) = some (.lst (s.map fun c => .str [c])) := rfl
@[simp] theorem biD_tupleL {xs : List Dat} : biD .tuple (.lst xs) = some (.tup xs) := rfl
@[simp] theorem biD_tupleT {xs : List Dat} : biD .tuple (.tup xs) = some (.tup xs) := rfl
@[simp] theorem biD_strS {s : List Nat} : biD .str (.str s) = some (.str s) := rfl
theorem boolsD_map {α : Type} (f : α → Bool) : ∀ l : List α, boolsD (l.map fun x => Dat.bl (f x)) = some (l.map f)
  | [] => rfl
  | x :: l => by
    rw [List.map_cons]
    unfold boolsD
    rw [boolsD_map f l]
    rfl
theorem all_map {α : Type} (f : α → Bool) (l : List α) : biD .all (.lst (l.map fun x => Dat.bl (f x))) = some (.bl (l.all f)) := by
  simp only [biD, boolsD_map]
  simp [List.all_map]
theorem any_map {α : Type} (f : α → Bool) (l : List α) : biD .any (.lst (l.map fun x => Dat.bl (f x))) = some (.bl (l.any f)) := by
  simp only [biD, boolsD_map]
  simp [List.any_map]
/-! ### data that _law_same takes -/
theorem okSL_of {ds : List Dat} {n : Nat} (h : ∀ d ∈ ds, okS d n = true) : okSL ds n = true := by
  induction ds with
  | nil => rfl
  | cons d ds ih =>
    simp only [okSL, Bool.and_eq_true]
    exact ⟨h d List.mem_cons_self, ih fun x hx => h x (List.mem_cons_of_mem _ hx)⟩
theorem okS_map {α : Type} {f : α → Dat} {l : List α} {n : Nat} (hl : l.length ≤ 16777216) (h : ∀ x ∈ l, okS (f x) n = true) : okS (.tup (l.map f)) (n + 1) = true := by
  simp only [okS, Bool.and_eq_true, decide_eq_true_eq]
  refine ⟨by simpa using hl, okSL_of fun d hd => ?_⟩
  obtain ⟨x, hx, rfl⟩ := List.mem_map.mp hd
  exact h x hx
@[simp] theorem itemsD_lst {xs : List Dat} : itemsD (.lst xs) = some xs := rfl
@[simp] theorem itemsD_tup {xs : List Dat} : itemsD (.tup xs) = some xs := rfl
@[simp] theorem itemsD_fdc {ks vs : List Dat} : itemsD (.fdc ks vs) = some ks := rfl
@[simp] theorem partsD_lst {xs : List Dat} : partsD (.lst xs) = some xs := rfl
@[simp] theorem partsD_tup {xs : List Dat} : partsD (.tup xs) = some xs := rfl
@[simp] theorem partsD_str {xs : List Nat} : partsD (.str xs) = some (xs.map fun c => .str [c]) := rfl
@[simp] theorem itemsD_str {xs : List Nat} : itemsD (.str xs) = some (xs.map fun c => .str [c]) := rfl

theorem opD_mulS {x : List Nat} {n : Nat} (h : x.length * n ≤ 16777216) (h2 : n ≤ 16777216) : opD .mul (.str x) (.int (n : Int)) = some (.str (List.replicate n x).flatten) := by
  have hl : line = 16777216 := rfl
  simp only [opD, Int.toNat_natCast]
  rw [if_pos (by simp only [Bool.and_eq_true, decide_eq_true_eq, hl]; omega)]
theorem opD_addS {x y : List Nat} (h : x.length + y.length ≤ 16777216) : opD .add (.str x) (.str y) = some (.str (x ++ y)) := by
  have hl : line = 16777216 := rfl
  simp only [opD]
  rw [if_pos (by omega)]
theorem opD_addT {x y : List Dat} (h : x.length + y.length ≤ 16777216) : opD .add (.tup x) (.tup y) = some (.tup (x ++ y)) := by
  have hl : line = 16777216 := rfl
  simp only [opD]
  rw [if_pos (by omega)]
theorem opD_addL {x y : List Dat} (h : x.length + y.length ≤ 16777216) : opD .add (.lst x) (.lst y) = some (.lst (x ++ y)) := by
  have hl : line = 16777216 := rfl
  simp only [opD]
  rw [if_pos (by omega)]

theorem atD_last {α : Type} (xs : List α) : atD xs (-1) = xs.getLast? := by
  unfold atD ixD
  rw [if_neg (by omega), List.getLast?_eq_getElem?]
  by_cases h : xs.length = 0
  · rw [if_neg (by omega)]
    have : xs = [] := List.eq_nil_of_length_eq_zero h
    subst this
    rfl
  · rw [if_pos (by omega)]
    show xs[(-1 + (xs.length : Int)).toNat]? = _
    rw [show (-1 + (xs.length : Int)).toNat = xs.length - 1 by omega]

theorem strsD_map {α : Type} (f : α → List Nat) : ∀ l : List α, strsD (l.map fun x => Dat.str (f x)) = some (l.map f)
  | [] => rfl
  | x :: l => by
    rw [List.map_cons]
    unfold strsD
    rw [strsD_map f l]
    rfl
theorem glue_nil : ∀ l : List (List Nat), glueD [] l = l.flatten
  | [] => rfl
  | [x] => by simp [glueD]
  | x :: y :: r => by
    rw [glueD, glue_nil (y :: r)]
    simp
theorem flat_signs : ∀ l : List Nat, (l.map fun c => [c]).flatten = l
  | [] => rfl
  | c :: l => by rw [List.map_cons, List.flatten_cons, flat_signs l]; rfl
theorem sum_ones : ∀ l : List Nat, ((l.map fun c => [c]).map List.length).sum = l.length
  | [] => rfl
  | c :: l => by
    rw [List.map_cons, List.map_cons, List.sum_cons, sum_ones l, List.length_cons, List.length_nil, List.length_cons]
    omega
theorem join_signs {cs : List Nat} (h : cs.length ≤ 16777216) : meD .join (.str []) (.lst (cs.map fun c => Dat.str [c])) = some (.str cs) := by
  have hl : line = 16777216 := rfl
  simp only [meD, strsD_map (fun c => [c]) cs, Option.bind_some]
  rw [if_pos (by rw [sum_ones]; simp; omega), glue_nil, flat_signs]
theorem signs_of {p : Nat → Prop} : ∀ {zs : List Dat}, (∀ z ∈ zs, ∃ c, z = .str [c] ∧ p c) → ∃ cs : List Nat, zs = (cs.map fun c => Dat.str [c]) ∧ ∀ c ∈ cs, p c
  | [], _ => ⟨[], rfl, by simp⟩
  | z :: zs, h => by
    obtain ⟨c, rfl, hc⟩ := h z List.mem_cons_self
    obtain ⟨cs, rfl, hcs⟩ := signs_of fun z hz => h z (List.mem_cons_of_mem _ hz)
    exact ⟨c :: cs, rfl, fun x hx => by
      rcases List.mem_cons.mp hx with rfl | hx
      · exact hc
      · exact hcs x hx⟩
/-- a comprehension that draws: each item has Q -/
theorem lc_draw {step : Dat → Mo (Option Dat)} {Q : Dat → Prop} {ds g : List Dat} (hg : Gd g) (h : ∀ d ∈ ds, ∀ g, Gd g → (step d g).sat fun o g' => Gd g' ∧ ∃ y, o = some y ∧ Q y) :
    (lcGo step [] ds g).sat fun ys g' => Gd g' ∧ ys.length = ds.length ∧ ∀ y ∈ ys, Q y := by
  refine (lcGo_sat (I := Gd) (Q := fun _ y => Q y) hg h).mono fun ys g1 ⟨h1, zs, e, hl, hz⟩ => ?_
  subst e
  refine ⟨h1, by simpa using hl, fun y hy => ?_⟩
  obtain ⟨i, hi⟩ := List.mem_iff_getElem?.mp hy
  have hi2 : i < ds.length := by rw [← hl]; exact (List.getElem?_eq_some_iff.mp hi).1
  exact hz i _ _ (List.getElem?_eq_getElem hi2) hi

theorem fold_asc {f : Nat → Int} (hf : ∀ x y, x < y → f x < f y) : ∀ (l : List Nat) (a : Int), l.Pairwise (· < ·) → (∀ x ∈ l, a < f x) →
    (l.map f).foldl (fun a b => if a < b then b else a) a = match l.getLast? with | none => a | some k => f k
  | [], a, _, _ => rfl
  | x :: l, a, hp, ha => by
    rw [List.map_cons, List.foldl_cons, if_pos (ha x List.mem_cons_self)]
    have hp2 := List.pairwise_cons.mp hp
    rw [fold_asc hf l (f x) hp2.2 fun y hy => hf x y (hp2.1 y hy)]
    cases l with
    | nil => rfl
    | cons y l =>
      rw [List.getLast?_cons_cons]
      cases e : (y :: l).getLast? with
      | none => simp at e
      | some k => rfl
theorem intsD_map {α : Type} (f : α → Int) : ∀ l : List α, intsD (l.map fun x => Dat.int (f x)) = some (l.map f)
  | [] => rfl
  | x :: l => by
    rw [List.map_cons]
    unfold intsD
    rw [intsD_map f l]
    rfl
theorem range_rev (m : Nat) : (List.range m).reverse = (List.range m).map fun k => m - 1 - k := by
  apply List.ext_getElem?
  intro i
  by_cases hi : i < m
  · rw [List.getElem?_reverse (by simpa using hi), List.getElem?_map]
    rw [List.length_range, List.getElem?_range (by omega), List.getElem?_range hi]
    rfl
  · rw [List.getElem?_eq_none (by simp; omega), List.getElem?_eq_none (by simp; omega)]
@[simp] theorem cpD_inS {x y : List Nat} : cpD .isin (.str x) (.str y) = some (infixB x y) := rfl

theorem okS_pair {a b : Dat} {n : Nat} (ha : okS a n = true) (hb : okS b n = true) : okS (.tup [a, b]) (n + 1) = true := by
  unfold okS okSL okSL okSL
  rw [ha, hb]
  rfl

theorem lc_dlist {step : Dat → Mo (Option Dat)} {p : Nat → Bool} {e : Nat → Dat} {a : Int} {n : Nat} {g : List Dat} (h : ∀ k, k < n → step (.int (a + (k : Int) * -1)) g = .ok (if p k = true then some (e k) else none) g) : lcGo step [] (dlist a n) g = .ok (((List.range n).filter p).map e) g := by
  unfold dlist
  rw [lc_map (p := p) (e := e) fun k hk => h k (List.mem_range.mp hk)]
  rfl
end R
set_option Elab.async false
set_option linter.all false
set_option maxRecDepth 100000
set_option maxHeartbeats 4000000
/-! The defs that the laws share (printed by gendf.py). ix: where a def lies in a law's own text. -/
namespace R
@[reducible] def N_is_tuple_of : Nat := 0
@[reducible] def N_fits_whole : Nat := 1
@[reducible] def N_fits_letters : Nat := 2
@[reducible] def N_fits_rule : Nat := 3
@[reducible] def N_fits_system : Nat := 4
@[reducible] def N_places_in : Nat := 5
@[reducible] def N_need_system : Nat := 6
@[reducible] def N_need_word : Nat := 7
@[reducible] def N_need_both : Nat := 8
@[reducible] def N_steps_in : Nat := 9
@[reducible] def N_behind_in : Nat := 10
@[reducible] def N_waves_in : Nat := 11
@[reducible] def N_rows_in : Nat := 12
@[reducible] def N_order_in : Nat := 13
@[reducible] def N_lengths_in : Nat := 14
@[reducible] def N_ways_in : Nat := 15
@[reducible] def N_counted_in : Nat := 16
@[reducible] def N_lengths_to_rest : Nat := 17
@[reducible] def N_derivations_counted : Nat := 18
@[reducible] def N_ways_to_rest : Nat := 19
@[reducible] def N__law_cup : Nat := 20
@[reducible] def N__law_roll : Nat := 21
@[reducible] def N__law_some : Nat := 22
@[reducible] def N__law_same : Nat := 23
@[reducible] def N__law_word : Nat := 24
@[reducible] def N__law_steps : Nat := 25
@[reducible] def N__law_behind : Nat := 26
@[reducible] def N__law_system : Nat := 27
@[reducible] def N__law_met : Nat := 28
@[reducible] def N__law_counts : Nat := 29
@[reducible] def N__law_right : Nat := 30
@[reducible] def N__law_told : Nat := 31
@[reducible] def N_can_in : Nat := 32
@[reducible] def N_fits_step : Nat := 33
@[reducible] def N_words_along_in : Nat := 34
@[reducible] def N_fits_derivation : Nat := 35
@[reducible] def N_derivation_in : Nat := 36
@[reducible] def N_fits_costs : Nat := 37
@[reducible] def N_cheapest_in : Nat := 38
@[reducible] def N_need_costs : Nat := 39
@[reducible] def N_need_three : Nat := 40
@[reducible] def N_is_costs : Nat := 41
@[reducible] def N_fewest_steps : Nat := 42
@[reducible] def N_cost_of : Nat := 43
@[reducible] def N_cheapest_to : Nat := 44
@[reducible] def N_cheapest_rests : Nat := 45
@[reducible] def N__law_least : Nat := 46
@[reducible] def N_words_in : Nat := 47
@[reducible] def N_longest_in : Nat := 48
@[reducible] def N_most_steps : Nat := 49
@[reducible] def N_dearest_in : Nat := 50
@[reducible] def N_dearest_cost : Nat := 51
@[reducible] def N_height_of : Nat := 52
@[reducible] def N_highest_words : Nat := 53
@[reducible] def N__law_most : Nat := 54
@[reducible] def N__law_words : Nat := 55
@[reducible] def N_is_even_paced : Nat := 56
@[reducible] def N__law_twelve : Nat := 57
@[reducible] def N__law_first_right : Nat := 58
@[reducible] def N__law_numbers_right : Nat := 59
@[reducible] def N_borders_in : Nat := 60
@[reducible] def N_need_rule : Nat := 61
@[reducible] def N_borders : Nat := 62
@[reducible] def N_periods : Nat := 63
@[reducible] def N_is_power : Nat := 64
@[reducible] def N_self_overlaps : Nat := 65
@[reducible] def N_are_words_apart : Nat := 66
@[reducible] def N_longest_border : Nat := 67
@[reducible] def N_loop_in : Nat := 68
@[reducible] def N_starts_in : Nat := 69
@[reducible] def N_need_far : Nat := 70
@[reducible] def N_find_loop : Nat := 71
@[reducible] def N_times : Nat := 72
@[reducible] def N_product_in : Nat := 73
@[reducible] def N_less_in : Nat := 74
@[reducible] def N_grid_rises : Nat := 75
@[reducible] def N_grid_falls : Nat := 76
@[reducible] def N_lines_up_to : Nat := 77
@[reducible] def N_rows_up_to : Nat := 78
@[reducible] def N_matrices_helping : Nat := 79
@[reducible] def N_need_top : Nat := 80
@[reducible] def N_weight_in : Nat := 81
@[reducible] def N_weight_falls : Nat := 82
@[reducible] def N_weights_up_to : Nat := 83
@[reducible] def N_first_falling : Nat := 84
@[reducible] def N_weights_helping : Nat := 85
@[reducible] def N_worth_falls : Nat := 86
@[reducible] def N_glance_in : Nat := 87
@[reducible] def N_glance : Nat := 88
@[reducible] def N_comes_to_rest : Nat := 89
@[reducible] def N_told_in : Nat := 90
@[reducible] def N_left_in : Nat := 91
@[reducible] def N_stage_found : Nat := 92
@[reducible] def N_proof_found : Nat := 93
@[reducible] def N_find_proof : Nat := 94
@[reducible] def N__law_product : Nat := 95
@[reducible] def N__law_gaps : Nat := 96
@[reducible] def N__law_lighter : Nat := 97
@[reducible] def N__law_worth : Nat := 98
@[reducible] def N__law_loops : Nat := 99
@[reducible] def N_mirrored_in : Nat := 100
@[reducible] def N_orders_in : Nat := 101
@[reducible] def N_renamed_word_in : Nat := 102
@[reducible] def N_renamed_in : Nat := 103
@[reducible] def N_form_in : Nat := 104
@[reducible] def N_need_two : Nat := 105
@[reducible] def N_mirrored : Nat := 106
@[reducible] def N_form_of : Nat := 107
@[reducible] def N_are_twins : Nat := 108
@[reducible] def N_rules_between : Nat := 109
@[reducible] def N_is_first_in : Nat := 110
@[reducible] def N_need_lengths : Nat := 111
@[reducible] def N_rules_of : Nat := 112
@[reducible] def N_first_rules : Nat := 113
@[reducible] def N_rules_told : Nat := 114
@[reducible] def N__law_turned : Nat := 115
@[reducible] def N_is_system : Nat := 116
@[reducible] def N_with_rule : Nat := 117
@[reducible] def N_letter_less : Nat := 118
@[reducible] def N_smaller_in : Nat := 119
@[reducible] def N_size_of : Nat := 120
@[reducible] def N_smaller_systems : Nat := 121
@[reducible] def N__law_is_system : Nat := 122
@[reducible] def N__law_smaller : Nat := 123
@[reducible] def N_first_in : Nat := 124
@[reducible] def N_is_at_rest : Nat := 125
@[reducible] def N_fits_loop : Nat := 126
@[reducible] def N_is_loop : Nat := 127
@[reducible] def N_agrees : Nat := 128
@[reducible] def N_overlaps_in : Nat := 129
@[reducible] def N_word_in : Nat := 130
@[reducible] def N_sides_in : Nat := 131
@[reducible] def N_overlaps_of : Nat := 132
@[reducible] def N_comes_again : Nat := 133
@[reducible] def N_parts_at_rest : Nat := 134
@[reducible] def N_flawed_in : Nat := 135
@[reducible] def N_flaws_of : Nat := 136
@[reducible] def N__law_overlaps : Nat := 137
@[reducible] def N__law_has : Nat := 138
@[reducible] def N_next_in : Nat := 139
@[reducible] def N_stages_in : Nat := 140
@[reducible] def N_need_flaw : Nat := 141
@[reducible] def N_need_flawed : Nat := 142
@[reducible] def N_is_least_flawed : Nat := 143
@[reducible] def N_shrink_stages : Nat := 144
@[reducible] def N_shrunk : Nat := 145
@[reducible] def N__law_stages : Nat := 146
@[reducible] def N__law_flawed : Nat := 147
@[reducible] def N_need_derivation : Nat := 148
@[reducible] def N_is_derivation : Nat := 149
@[reducible] def N_words_along : Nat := 150
@[reducible] def N_moved_in : Nat := 151
@[reducible] def N_need_loop : Nat := 152
@[reducible] def N_carried : Nat := 153
@[reducible] def N_turns_in : Nat := 154
@[reducible] def N_ends_in : Nat := 155
@[reducible] def N_is_straight : Nat := 156
@[reducible] def N_detours_of : Nat := 157
@[reducible] def N_cut_steps : Nat := 158
@[reducible] def N_untouched : Nat := 159
@[reducible] def N_trimmed_loop : Nat := 160
@[reducible] def N__law_along : Nat := 161
@[reducible] def N__law_cut : Nat := 162
@[reducible] def N__law_trim_right : Nat := 163
@[reducible] def N__law_fault : Nat := 164
@[reducible] def N__law_all : Nat := 165
@[reducible] def N_rest_in : Nat := 166
@[reducible] def N_rest_of : Nat := 167
@[reducible] def N_fits_manner : Nat := 168
@[reducible] def N_chosen_in : Nat := 169
@[reducible] def N_right_of : Nat := 170
@[reducible] def N_run_in : Nat := 171
@[reducible] def N_need_manner : Nat := 172
@[reducible] def N_is_manner : Nat := 173
@[reducible] def N_step_by : Nat := 174
@[reducible] def N_rest_by : Nat := 175
@[reducible] def N_steps_by : Nat := 176
@[reducible] def N__law_ended : Nat := 177
@[reducible] def N__law_chosen : Nat := 178
@[reducible] def N__law_by : Nat := 179
@[reducible] def N_rests_met : Nat := 180
@[reducible] def N_rests_by_names : Nat := 181
@[reducible] def N_has_one_rest : Nat := 182
@[reducible] def N_quickest : Nat := 183
@[reducible] def N_orders_many : Nat := 184
@[reducible] def N_reordered : Nat := 185
@[reducible] def N_rests_by_orders : Nat := 186
@[reducible] def N_names_apart : Nat := 187
@[reducible] def N__law_orders : Nat := 188
@[reducible] def N_step_number : Nat := 189
@[reducible] def N_fits_plan : Nat := 190
@[reducible] def N_planned_in : Nat := 191
@[reducible] def N_need_plan : Nat := 192
@[reducible] def N_steps_planned : Nat := 193
@[reducible] def N_word_planned : Nat := 194
@[reducible] def N_rest_planned : Nat := 195
@[reducible] def N__law_rest : Nat := 196
@[reducible] def N__law_name : Nat := 197
@[reducible] def N__law_fifteen : Nat := 198
@[reducible] def N_common_in : Nat := 199
@[reducible] def N_common_string : Nat := 200
@[reducible] def N_common_many : Nat := 201
@[reducible] def N_ways_to_common : Nat := 202
@[reducible] def N_follows_in : Nat := 203
@[reducible] def N_needless_in : Nat := 204
@[reducible] def N_kept_in : Nat := 205
@[reducible] def N_rule_follows : Nat := 206
@[reducible] def N_needless_rules : Nat := 207
@[reducible] def N_kept_rules : Nat := 208
@[reducible] def N__law_follows : Nat := 209
@[reducible] def N__law_drawn : Nat := 210
@[reducible] def N_includes_in : Nat := 211
@[reducible] def N_need_alike_sizes : Nat := 212
@[reducible] def N_includes : Nat := 213
@[reducible] def N_follow_both_ways : Nat := 214
@[reducible] def N_shared_rules : Nat := 215
@[reducible] def N_put_together : Nat := 216
@[reducible] def N_part_of : Nat := 217
@[reducible] def N_fits_matrix : Nat := 218
@[reducible] def N_fits_matrices : Nat := 219
@[reducible] def N_need_matrices : Nat := 220
@[reducible] def N_worth_of : Nat := 221
@[reducible] def N_rules_falling : Nat := 222
@[reducible] def N_steps_of : Nat := 223
@[reducible] def N_fits_weights : Nat := 224
@[reducible] def N_need_weights : Nat := 225
@[reducible] def N_weight_of : Nat := 226
@[reducible] def N_falls_by : Nat := 227
@[reducible] def N_need_apart : Nat := 228
@[reducible] def N_side_by_side : Nat := 229
@[reducible] def N_weights_beside : Nat := 230
@[reducible] def N_matrices_beside : Nat := 231
@[reducible] def N__law_moved : Nat := 232
@[reducible] def N__law_fourteen : Nat := 233
@[reducible] def N_fits_stage : Nat := 234
@[reducible] def N_lefts_in : Nat := 235
@[reducible] def N_fits_proof : Nat := 236
@[reducible] def N_is_proof : Nat := 237
@[reducible] def N_turned_in : Nat := 238
@[reducible] def N_unrolled : Nat := 239
@[reducible] def N_top_in : Nat := 240
@[reducible] def N_proof_in : Nat := 241
@[reducible] def N_verdict_in : Nat := 242
@[reducible] def N_fits_verdict : Nat := 243
@[reducible] def N_verdict_of : Nat := 244
@[reducible] def N_is_verdict : Nat := 245
@[reducible] def N_is_told_by_twins : Nat := 246
@[reducible] def N_turned_rules : Nat := 247
@[reducible] def N_fits_link : Nat := 248
@[reducible] def N_behind_link : Nat := 249
@[reducible] def N_along_in : Nat := 250
@[reducible] def N_fits_chain : Nat := 251
@[reducible] def N_is_chain : Nat := 252
@[reducible] def N_chain_by_rests : Nat := 253
@[reducible] def N_fits_numbers : Nat := 254
@[reducible] def N_fits_machine : Nat := 255
@[reducible] def N_fits_teller : Nat := 256
@[reducible] def N_telling_in : Nat := 257
@[reducible] def N_keeps_in : Nat := 258
@[reducible] def N_fits_parting : Nat := 259
@[reducible] def N_rows_of : Nat := 260
@[reducible] def N_numbers_in : Nat := 261
@[reducible] def N_machines_in : Nat := 262
@[reducible] def N_need_parting : Nat := 263
@[reducible] def N_are_parted : Nat := 264
@[reducible] def N_find_parting : Nat := 265
@[reducible] def N_telling_of_two : Nat := 266
@[reducible] def N_is_telling : Nat := 267
@[reducible] def N_fits_overlap : Nat := 268
@[reducible] def N_rests_in : Nat := 269
@[reducible] def N_open_in : Nat := 270
@[reducible] def N_need_overlap : Nat := 271
@[reducible] def N_overlap_word : Nat := 272
@[reducible] def N_open_overlaps : Nat := 273
@[reducible] def N_has_left : Nat := 274
@[reducible] def N_states_in : Nat := 275
@[reducible] def N_next_state : Nat := 276
@[reducible] def N_table_in : Nat := 277
@[reducible] def N_machine_in : Nat := 278
@[reducible] def N_counts_in : Nat := 279
@[reducible] def N_longest_in_table : Nat := 280
@[reducible] def N_rests_in_all : Nat := 281
@[reducible] def N_kind_in : Nat := 282
@[reducible] def N_kind_of_rests : Nat := 283
@[reducible] def N_summary : Nat := 284
@[reducible] def N_rest_of_all : Nat := 285
@[reducible] def N_key_of : Nat := 286
@[reducible] def N_rule_in : Nat := 287
@[reducible] def N_end_by : Nat := 288
@[reducible] def N_in_order : Nat := 289
@[reducible] def N_with_new : Nat := 290
@[reducible] def N_taken_up : Nat := 291
@[reducible] def N_first_open : Nat := 292
@[reducible] def N_completed_in : Nat := 293
@[reducible] def N_completed_system : Nat := 294
@[reducible] def N_need_few : Nat := 295
@[reducible] def N_completed : Nat := 296
@[reducible] def N_rest_completed : Nat := 297
@[reducible] def N_classes_many : Nat := 298
@[reducible] def N__law_eleven : Nat := 299
@[reducible] def N_RestError : Nat := 500
@[reducible] def N_InvalidSystem : Nat := 501
@[reducible] def N_InvalidWord : Nat := 502
@[reducible] def N_InvalidNumber : Nat := 503
@[reducible] def N_TooMany : Nat := 504
@[reducible] def N_InvalidStep : Nat := 505
@[reducible] def N_InvalidPaper : Nat := 506
@[reducible] def N_InvalidPlan : Nat := 507
/-- is_tuple_of [value, low, high]: k73,k74,k75,k76,k77,k78,k79,k81,k82,k83,k84,k85,k86,k87,k88,k89,k90,k91,k92,k93,k94,k95,k96,k97,k99 -/
def D_is_tuple_of (ix : Nat → Nat) : Df := { fr := false, np := 3, ns := 3, body := [
    .ret (.and (.isi (.var 0) .tuple) (.chain .le .le (.var 1) (.bi .len (.var 0)) (.var 2)))] }
/-- fits_whole [value, low, high]: k73,k74,k75,k76,k77,k78,k79,k81,k82,k83,k84,k85,k86,k87,k88,k89,k90,k91,k92,k93,k94,k95,k96,k97,k99 -/
def D_fits_whole (ix : Nat → Nat) : Df := { fr := false, np := 3, ns := 3, body := [
    .ret (.and (.isi (.var 0) .int) (.and (.not (.isi (.var 0) .bool)) (.chain .le .le (.var 1) (.var 0) (.var 2))))] }
/-- fits_letters [value, size, low, high, letter]: k73,k74,k75,k76,k77,k78,k79,k81,k82,k83,k84,k85,k86,k87,k88,k89,k90,k91,k92,k93,k94,k95,k96,k97,k99 -/
def D_fits_letters (ix : Nat → Nat) : Df := { fr := false, np := 4, ns := 5, body := [
    .ret (.and (.isi (.var 0) .str) (.and (.chain .le .le (.var 2) (.bi .len (.var 0)) (.var 3)) (.bi .all (.lc (.cmp .isin (.var 4) (.sl (.con (.str [97, 98, 99, 100])) (.con .non) (.asInt (.var 1)))) (.nm 4) (.var 0) (.con (.bl true)) [4]))))] }
/-- fits_rule [size, value]: k73,k74,k75,k76,k77,k78,k79,k81,k82,k83,k84,k85,k86,k87,k88,k89,k90,k91,k92,k93,k94,k95,k96,k97,k99 -/
def D_fits_rule (ix : Nat → Nat) : Df := { fr := false, np := 2, ns := 2, body := [
    .ifs (.or (.not (.call (ix N_is_tuple_of) [(.var 1), (.con (.int (2))), (.con (.int (2)))])) (.not (.call (ix N_fits_letters) [(.ix (.var 1) (.con (.int (0)))), (.var 0), (.con (.int (1))), (.con (.int (6)))]))) [
      .ret (.con (.bl false))] [],
    .ret (.and (.call (ix N_fits_letters) [(.ix (.var 1) (.con (.int (1)))), (.var 0), (.con (.int (0))), (.con (.int (6)))]) (.cmp .ne (.ix (.var 1) (.con (.int (0)))) (.ix (.var 1) (.con (.int (1))))))] }
/-- fits_system [value, size, rules, rule]: k73,k74,k75,k76,k78,k79,k81,k82,k83,k84,k85,k86,k87,k88,k89,k90,k91,k92,k93,k94,k95,k96,k97,k99 -/
def D_fits_system (ix : Nat → Nat) : Df := { fr := false, np := 1, ns := 4, body := [
    .ifs (.or (.not (.call (ix N_is_tuple_of) [(.var 0), (.con (.int (2))), (.con (.int (2)))])) (.not (.call (ix N_fits_whole) [(.ix (.var 0) (.con (.int (0)))), (.con (.int (1))), (.bi .len (.con (.str [97, 98, 99, 100])))]))) [
      .ret (.con (.bl false))] [],
    .set (.tp [(.nm 1), (.nm 2)]) (.var 0),
    .ifs (.or (.not (.call (ix N_is_tuple_of) [(.var 2), (.con (.int (1))), (.con (.int (8)))])) (.not (.bi .all (.lc (.call (ix N_fits_rule) [(.var 1), (.var 3)]) (.nm 3) (.var 2) (.con (.bl true)) [3])))) [
      .ret (.con (.bl false))] [],
    .ret (.cmp .eq (.lenset (.var 2)) (.bi .len (.var 2)))] }
/-- places_in [part, word, at]: k73,k74,k75,k76,k78,k79,k82,k83,k84,k85,k86,k87,k88,k89,k90,k91,k92,k93,k94,k95,k96,k97,k99 -/
def D_places_in (ix : Nat → Nat) : Df := { fr := false, np := 2, ns := 3, body := [
    .ret (.lc (.var 2) (.nm 2) (.rng [(.op .add (.op .sub (.bi .len (.var 1)) (.bi .len (.var 0))) (.con (.int (1))))]) (.cmp .eq (.sl (.var 1) (.asInt (.var 2)) (.asInt (.op .add (.var 2) (.bi .len (.var 0))))) (.var 0)) [2])] }
/-- need_system [value]: k73,k74,k75,k76,k78,k79,k81,k82,k83,k84,k85,k86,k87,k88,k89,k90,k91,k92,k93,k94,k95,k96,k97,k99 -/
def D_need_system (ix : Nat → Nat) : Df := { fr := false, np := 1, ns := 1, body := [
    .ifs (.not (.call (ix N_fits_system) [(.var 0)])) [
      .raise (ix N_InvalidSystem)] []] }
/-- need_word [system, value]: k73,k74,k75,k76,k78,k82,k84,k85,k86,k87,k88,k89,k90,k93,k94,k95,k96,k97,k99 -/
def D_need_word (ix : Nat → Nat) : Df := { fr := false, np := 2, ns := 2, body := [
    .ifs (.not (.call (ix N_fits_letters) [(.var 1), (.ix (.var 0) (.con (.int (0)))), (.con (.int (0))), (.con (.int (60)))])) [
      .raise (ix N_InvalidWord)] []] }
/-- need_both [system, word]: k73,k74,k75,k76,k78,k82,k84,k85,k86,k87,k88,k89,k90,k93,k94,k95,k96,k97,k99 -/
def D_need_both (ix : Nat → Nat) : Df := { fr := false, np := 2, ns := 2, body := [
    .expr (.call (ix N_need_system) [(.var 0)]),
    .expr (.call (ix N_need_word) [(.var 0), (.var 1)])] }
/-- steps_in [system, word, rows, number, left, right, place]: k73,k74,k75,k76,k78,k79,k82,k83,k85,k86,k87,k88,k89,k90,k91,k92,k93,k94,k95,k96,k97,k99 -/
def D_steps_in (ix : Nat → Nat) : Df := { fr := false, np := 2, ns := 7, body := [
    .set (.nm 2) (.lc2 (.tup [(.var 6), (.var 3)]) (.tp [(.nm 3), (.tp [(.nm 4), (.nm 5)])]) (.enum (.ix (.var 0) (.con (.int (1))))) (.con (.bl true)) (.nm 6) (.call (ix N_places_in) [(.var 4), (.var 1)]) (.con (.bl true)) [3, 4, 5, 6] [6]),
    .ret (.bi .sorted (.var 2))] }
/-- behind_in [system, word, step, left, right]: k73,k74,k75,k76,k78,k79,k82,k83,k84,k85,k86,k87,k88,k89,k90,k91,k92,k93,k94,k95,k96,k97,k99 -/
def D_behind_in (ix : Nat → Nat) : Df := { fr := false, np := 3, ns := 5, body := [
    .set (.tp [(.nm 3), (.nm 4)]) (.ix (.ix (.var 0) (.con (.int (1)))) (.ix (.var 2) (.con (.int (1))))),
    .ret (.op .add (.op .add (.sl (.var 1) (.con .non) (.asInt (.ix (.var 2) (.con (.int (0)))))) (.var 4)) (.sl (.var 1) (.asInt (.op .add (.ix (.var 2) (.con (.int (0)))) (.bi .len (.var 3)))) (.con .non)))] }
/-- rows_in [system, word, found, step, here]: k73,k74,k75,k76 -/
def D_rows_in (ix : Nat → Nat) : Df := { fr := false, np := 2, ns := 5, body := [
    .set (.nm 2) (.call (ix N_waves_in) [(.var 0), (.var 1)]),
    .ret (.dc (.var 4) (.lc (.tup [(.call (ix N_behind_in) [(.var 0), (.var 4), (.var 3)]), (.ix (.var 3) (.con (.int (1))))]) (.nm 3) (.call (ix N_steps_in) [(.var 0), (.var 4)]) (.con (.bl true)) [3]) false (.nm 4) (.var 2) (.con (.bl true)) [4])] }
/-- lengths_to_rest [system, word, rows, order]: k73,k76 -/
def D_lengths_to_rest (ix : Nat → Nat) : Df := { fr := false, np := 2, ns := 4, body := [
    .expr (.call (ix N_need_both) [(.var 0), (.var 1)]),
    .set (.nm 2) (.call (ix N_rows_in) [(.var 0), (.var 1)]),
    .set (.nm 3) (.call (ix N_order_in) [(.var 2)]),
    .ret (.ifx (.cmp .isnot (.var 3) (.con (.non))) (.bi .tuple (.ix (.call (ix N_lengths_in) [(.var 2), (.var 3)]) (.var 1))) (.con (.non)))] }
/-- derivations_counted [system, word, many]: k73,k76 -/
def D_derivations_counted (ix : Nat → Nat) : Df := { fr := false, np := 3, ns := 3, body := [
    .expr (.call (ix N_need_both) [(.var 0), (.var 1)]),
    .ifs (.not (.call (ix N_fits_whole) [(.var 2), (.con (.int (0))), (.con (.int (10)))])) [
      .raise (ix N_InvalidNumber)] [],
    .ret (.call (ix N_counted_in) [(.var 0), (.var 1), (.var 2)])] }
/-- ways_to_rest [system, word, rows, order]: k73,k76 -/
def D_ways_to_rest (ix : Nat → Nat) : Df := { fr := false, np := 2, ns := 4, body := [
    .expr (.call (ix N_need_both) [(.var 0), (.var 1)]),
    .set (.nm 2) (.call (ix N_rows_in) [(.var 0), (.var 1)]),
    .set (.nm 3) (.call (ix N_order_in) [(.var 2)]),
    .ret (.ifx (.cmp .isnot (.var 3) (.con (.non))) (.ix (.call (ix N_ways_in) [(.var 2), (.var 3)]) (.var 1)) (.con (.non)))] }
/-- _law_some [cup, things]: k73,k74,k75,k76,k77,k78,k79,k81,k82,k83,k84,k85,k86,k87,k88,k89,k90,k91,k92,k93,k94,k95,k96,k97,k99 -/
def D__law_some (ix : Nat → Nat) : Df := { fr := false, np := 2, ns := 2, body := [
    .ret (.ix (.var 1) (.call (ix N__law_roll) [(.var 0), (.bi .len (.var 1))]))] }
/-- _law_same [told, due, at]: k73,k74,k75,k77,k78,k79,k81,k82,k83,k84,k86,k87,k88,k90,k91,k92,k93,k95 -/
def D__law_same (ix : Nat → Nat) : Df := { fr := false, np := 2, ns := 3, body := [
    .ifs (.isi (.var 1) .tuple) [
      .ifs (.or (.not (.isi (.var 0) .tuple)) (.cmp .ne (.bi .len (.var 0)) (.bi .len (.var 1)))) [
        .ret (.con (.bl false))] [],
      .ret (.bi .all (.lc (.call (ix N__law_same) [(.ix (.var 0) (.var 2)), (.ix (.var 1) (.var 2))]) (.nm 2) (.rng [(.bi .len (.var 1))]) (.con (.bl true)) [2]))] [],
    .ifs (.cmp .is (.var 1) (.con (.non))) [
      .ret (.cmp .is (.var 0) (.con (.non)))] [],
    .ifs (.isi (.var 1) .bool) [
      .ret (.ifx (.var 1) (.cmp .is (.var 0) (.con (.bl true))) (.cmp .is (.var 0) (.con (.bl false))))] [],
    .ifs (.isi (.var 1) .int) [
      .ret (.and (.isi (.var 0) .int) (.and (.not (.isi (.var 0) .bool)) (.cmp .eq (.bi .int (.var 0)) (.var 1))))] [],
    .ret (.and (.isi (.var 0) .str) (.cmp .eq (.bi .str (.var 0)) (.var 1)))] }
/-- _law_word [cup, size, many, turn]: k73,k74,k75,k77,k78,k81,k82,k83,k84,k85,k86,k87,k88,k89,k90,k91,k92,k93,k94,k95,k96,k97,k99 -/
def D__law_word (ix : Nat → Nat) : Df := { fr := false, np := 3, ns := 4, body := [
    .ret (.me .join (.con (.str [])) (.lc (.call (ix N__law_some) [(.var 0), (.bi .list (.sl (.con (.str [97, 98, 99, 100])) (.con .non) (.asInt (.var 1))))]) (.nm 3) (.rng [(.call (ix N__law_roll) [(.var 0), (.op .add (.var 2) (.con (.int (1))))])]) (.con (.bl true)) [3]))] }
/-- _law_steps [system, word, found, place, at]: k73,k74,k75,k78,k82,k83,k84,k86,k87,k88,k90,k91,k92,k96 -/
def D__law_steps (ix : Nat → Nat) : Df := { fr := false, np := 2, ns := 5, body := [
    .set (.nm 2) (.lst []),
    .fors (.nm 3) (.rng [(.bi .len (.var 1))]) [
      .set (.nm 2) (.op .add (.var 2) (.lc (.tup [(.var 3), (.var 4)]) (.nm 4) (.rng [(.bi .len (.ix (.var 0) (.con (.int (1)))))]) (.me .startswith (.sl (.var 1) (.asInt (.var 3)) (.con .non)) (.ix (.ix (.ix (.var 0) (.con (.int (1)))) (.var 4)) (.con (.int (0))))) [4]))],
    .ret (.var 2)] }
/-- _law_behind [system, word, step, left, right]: k73,k74,k75,k78,k82,k83,k84,k86,k87,k88,k90,k91,k92,k96 -/
def D__law_behind (ix : Nat → Nat) : Df := { fr := false, np := 3, ns := 5, body := [
    .set (.tp [(.nm 3), (.nm 4)]) (.ix (.ix (.var 0) (.con (.int (1)))) (.ix (.var 2) (.con (.int (1))))),
    .ret (.op .add (.op .add (.sl (.var 1) (.con .non) (.asInt (.ix (.var 2) (.con (.int (0)))))) (.var 4)) (.sl (.var 1) (.asInt (.op .add (.ix (.var 2) (.con (.int (0)))) (.bi .len (.var 3)))) (.con .non)))] }
/-- _law_system [cup, samples, size, rules, way, turn, left, right]: k73,k74,k75 -/
def D__law_system (ix : Nat → Nat) : Df := { fr := false, np := 1, ns := 8, body := [
    .new 1 (.lst [(.tup [(.con (.int (2))), (.tup [(.tup [(.con (.str [98, 97])), (.con (.str [97, 98]))])])]), (.tup [(.con (.int (2))), (.tup [(.tup [(.con (.str [97, 97])), (.con (.str []))]), (.tup [(.con (.str [98, 98])), (.con (.str []))])])]), (.tup [(.con (.int (2))), (.tup [(.tup [(.con (.str [97, 98])), (.con (.str []))])])]), (.tup [(.con (.int (2))), (.tup [(.tup [(.con (.str [97, 97])), (.con (.str []))]), (.tup [(.con (.str [98, 98])), (.con (.str []))]), (.tup [(.con (.str [98, 97, 98])), (.con (.str [97, 98, 97]))])])])]),
    .aug 1 (.lst [(.tup [(.con (.int (2))), (.tup [(.tup [(.con (.str [97, 98])), (.con (.str [98, 98, 97]))])])]), (.tup [(.con (.int (1))), (.tup [(.tup [(.con (.str [97, 97])), (.con (.str [97]))]), (.tup [(.con (.str [97, 97])), (.con (.str []))])])]), (.tup [(.con (.int (3))), (.tup [(.tup [(.con (.str [98, 97])), (.con (.str [97, 98]))]), (.tup [(.con (.str [99, 97])), (.con (.str [97, 99]))]), (.tup [(.con (.str [99, 98])), (.con (.str [98, 99]))])])])]),
    .app 1 (.tup [(.con (.int (1))), (.tup [(.tup [(.con (.str [97, 97, 97])), (.con (.str [97]))])])]),
    .setF (.tp [(.nm 2), (.nm 3)]) (.call (ix N__law_some) [(.var 0), (.var 1)]),
    .set (.nm 4) (.call (ix N__law_roll) [(.var 0), (.con (.int (3)))]),
    .ifs (.cmp .eq (.var 4) (.con (.int (0)))) [
      .ret (.tup [(.var 2), (.var 3)])] [],
    .ifs (.cmp .eq (.var 4) (.con (.int (1)))) [
      .par [2, 3] [.er, .er] [(.op .add (.con (.int (1))) (.call (ix N__law_roll) [(.var 0), (.con (.int (3)))])), (.tup [])]] [],
    .fors (.nm 5) (.rng [(.op .add (.con (.int (1))) (.call (ix N__law_roll) [(.var 0), (.con (.int (3)))]))]) [
      .set (.nm 6) (.op .add (.call (ix N__law_word) [(.var 0), (.var 2), (.con (.int (2)))]) (.call (ix N__law_some) [(.var 0), (.bi .list (.sl (.con (.str [97, 98, 99, 100])) (.con .non) (.asInt (.var 2))))])),
      .set (.nm 7) (.call (ix N__law_word) [(.var 0), (.var 2), (.con (.int (2)))]),
      .ifs (.and (.cmp .ne (.var 6) (.var 7)) (.cmp .notin (.tup [(.var 6), (.var 7)]) (.var 3))) [
        .set (.nm 3) (.op .add (.var 3) (.tup [(.tup [(.var 6), (.var 7)])]))] []],
    .ret (.tup [(.var 2), (.ifx (.cmp .ne (.var 3) (.tup [])) (.var 3) (.tup [(.tup [(.con (.str [97])), (.con (.str []))])]))])] }
/-- _law_system [cup, samples, size, rules, way, turn, left, right]: k81,k82,k84,k85,k93,k95,k97 -/
def D__law_system_v1 (ix : Nat → Nat) : Df := { fr := false, np := 1, ns := 8, body := [
    .set (.nm 1) (.lst [(.tup [(.con (.int (2))), (.tup [(.tup [(.con (.str [98, 97])), (.con (.str [97, 98]))])])]), (.tup [(.con (.int (2))), (.tup [(.tup [(.con (.str [97, 97])), (.con (.str []))]), (.tup [(.con (.str [98, 98])), (.con (.str []))])])]), (.tup [(.con (.int (2))), (.tup [(.tup [(.con (.str [97, 98])), (.con (.str []))])])]), (.tup [(.con (.int (2))), (.tup [(.tup [(.con (.str [97, 97])), (.con (.str []))]), (.tup [(.con (.str [98, 98])), (.con (.str []))]), (.tup [(.con (.str [98, 97, 98])), (.con (.str [97, 98, 97]))])])])]),
    .set (.nm 1) (.op .add (.var 1) (.lst [(.tup [(.con (.int (2))), (.tup [(.tup [(.con (.str [97, 98])), (.con (.str [98, 98, 97]))])])]), (.tup [(.con (.int (2))), (.tup [(.tup [(.con (.str [97, 98])), (.con (.str [97, 97, 98]))])])]), (.tup [(.con (.int (3))), (.tup [(.tup [(.con (.str [98, 97])), (.con (.str [97, 98]))]), (.tup [(.con (.str [99, 97])), (.con (.str [97, 99]))]), (.tup [(.con (.str [99, 98])), (.con (.str [98, 99]))])])]), (.tup [(.con (.int (1))), (.tup [(.tup [(.con (.str [97, 97, 97])), (.con (.str [97]))])])])])),
    .set (.tp [(.nm 2), (.nm 3)]) (.call (ix N__law_some) [(.var 0), (.var 1)]),
    .set (.nm 4) (.call (ix N__law_roll) [(.var 0), (.con (.int (3)))]),
    .ifs (.cmp .eq (.var 4) (.con (.int (0)))) [
      .ret (.tup [(.var 2), (.var 3)])] [],
    .ifs (.cmp .eq (.var 4) (.con (.int (1)))) [
      .par [2, 3] [.er, .er] [(.op .add (.con (.int (1))) (.call (ix N__law_roll) [(.var 0), (.con (.int (4)))])), (.tup [])]] [],
    .fors (.nm 5) (.rng [(.op .add (.con (.int (1))) (.call (ix N__law_roll) [(.var 0), (.con (.int (3)))]))]) [
      .set (.nm 6) (.op .add (.call (ix N__law_word) [(.var 0), (.var 2), (.con (.int (2)))]) (.call (ix N__law_some) [(.var 0), (.bi .list (.sl (.con (.str [97, 98, 99, 100])) (.con .non) (.asInt (.var 2))))])),
      .set (.nm 7) (.call (ix N__law_word) [(.var 0), (.var 2), (.con (.int (3)))]),
      .ifs (.and (.cmp .ne (.var 6) (.var 7)) (.cmp .notin (.tup [(.var 6), (.var 7)]) (.var 3))) [
        .set (.nm 3) (.op .add (.var 3) (.tup [(.tup [(.var 6), (.var 7)])]))] []],
    .ret (.tup [(.var 2), (.ifx (.cmp .ne (.var 3) (.tup [])) (.var 3) (.tup [(.tup [(.con (.str [97])), (.con (.str []))])]))])] }
/-- _law_met [system, word, most, found, line, later, here, step, new, own]: k73,k74,k75 -/
def D__law_met (ix : Nat → Nat) : Df := { fr := false, np := 3, ns := 10, body := [
    .par [3, 4] [.nw, .er] [(.lst [(.var 1)]), (.lst [(.var 1)])],
    .whl 100000 (.cmp .ne (.var 4) (.lst [])) [
      .new 5 (.lst []),
      .fors (.nm 6) (.var 4) [
        .fors (.nm 7) (.call (ix N__law_steps) [(.var 0), (.var 6)]) [
          .set (.nm 8) (.call (ix N__law_behind) [(.var 0), (.var 6), (.var 7)]),
          .ifs (.cmp .notin (.var 8) (.var 3)) [
            .app 3 (.var 8),
            .app 5 (.var 8)] []]],
      .ifs (.or (.cmp .gt (.bi .len (.var 3)) (.var 2)) (.cmp .gt (.bi .max (.lc (.bi .len (.var 9)) (.nm 9) (.var 3) (.con (.bl true)) [9])) (.con (.int (40))))) [
        .ret (.con (.non))] [],
      .frz 5,
      .setF (.nm 4) (.var 5)],
    .ret (.var 3)] }
/-- can_in [system, word, step, left]: k74,k75,k76,k82,k84,k85,k86,k88,k90,k95,k96,k99 -/
def D_can_in (ix : Nat → Nat) : Df := { fr := false, np := 3, ns := 4, body := [
    .set (.nm 3) (.ix (.ix (.ix (.var 0) (.con (.int (1)))) (.ix (.var 2) (.con (.int (1))))) (.con (.int (0)))),
    .ret (.cmp .eq (.sl (.var 1) (.asInt (.ix (.var 2) (.con (.int (0))))) (.asInt (.op .add (.ix (.var 2) (.con (.int (0)))) (.bi .len (.var 3))))) (.var 3))] }
/-- fits_step [system, value]: k74,k75,k76,k82,k84,k85,k86,k88,k90,k95,k96,k99 -/
def D_fits_step (ix : Nat → Nat) : Df := { fr := false, np := 2, ns := 2, body := [
    .ifs (.or (.not (.call (ix N_is_tuple_of) [(.var 1), (.con (.int (2))), (.con (.int (2)))])) (.not (.call (ix N_fits_whole) [(.ix (.var 1) (.con (.int (0)))), (.con (.int (0))), (.con (.int (1000)))]))) [
      .ret (.con (.bl false))] [],
    .ret (.call (ix N_fits_whole) [(.ix (.var 1) (.con (.int (1)))), (.con (.int (0))), (.op .sub (.bi .len (.ix (.var 0) (.con (.int (1))))) (.con (.int (1))))])] }
/-- words_along_in [system, word, steps, found, step]: k74,k75,k76,k82,k84,k85,k86,k88,k90,k95,k99 -/
def D_words_along_in (ix : Nat → Nat) : Df := { fr := false, np := 3, ns := 5, body := [
    .new 3 (.lst [(.var 1)]),
    .fors (.nm 4) (.var 2) [
      .ifs (.not (.call (ix N_can_in) [(.var 0), (.ix (.var 3) (.neg (.con (.int (1))))), (.var 4)])) [
        .ret (.con (.non))] [],
      .appF 3 (.call (ix N_behind_in) [(.var 0), (.ix (.var 3) (.neg (.con (.int (1))))), (.var 4)])],
    .ret (.var 3)] }
/-- fits_derivation [system, word, value, step]: k74,k75,k76,k82,k84,k85,k86,k88,k90,k95,k99 -/
def D_fits_derivation (ix : Nat → Nat) : Df := { fr := false, np := 3, ns := 4, body := [
    .ifs (.or (.not (.call (ix N_is_tuple_of) [(.var 2), (.con (.int (0))), (.con (.int (60)))])) (.not (.bi .all (.lc (.call (ix N_fits_step) [(.var 0), (.var 3)]) (.nm 3) (.var 2) (.con (.bl true)) [3])))) [
      .ret (.con (.bl false))] [],
    .ret (.cmp .isnot (.call (ix N_words_along_in) [(.var 0), (.var 1), (.var 2)]) (.con (.non)))] }
/-- derivation_in [found, word, row, step]: k74,k76,k90,k94 -/
def D_derivation_in (ix : Nat → Nat) : Df := { fr := false, np := 2, ns := 4, body := [
    .new 2 (.lst []),
    .whl 100000 (.cmp .isnot (.ix (.var 0) (.var 1)) (.con (.non))) [
      .set (.tp [(.nm 1), (.nm 3)]) (.ix (.var 0) (.var 1)),
      .app 2 (.var 3)],
    .ret (.bi .tuple (.rev (.var 2)))] }
/-- fits_costs [system, value, many, own]: k74,k75,k76 -/
def D_fits_costs (ix : Nat → Nat) : Df := { fr := false, np := 2, ns := 4, body := [
    .set (.nm 2) (.bi .len (.ix (.var 0) (.con (.int (1))))),
    .ret (.and (.call (ix N_is_tuple_of) [(.var 1), (.var 2), (.var 2)]) (.bi .all (.lc (.call (ix N_fits_whole) [(.var 3), (.con (.int (1))), (.con (.int (9)))]) (.nm 3) (.var 1) (.con (.bl true)) [3])))] }
/-- need_costs [system, value]: k74,k75,k76 -/
def D_need_costs (ix : Nat → Nat) : Df := { fr := false, np := 2, ns := 2, body := [
    .ifs (.not (.call (ix N_fits_costs) [(.var 0), (.var 1)])) [
      .raise (ix N_InvalidPaper)] []] }
/-- need_three [system, costs, word]: k74,k75,k76 -/
def D_need_three (ix : Nat → Nat) : Df := { fr := false, np := 3, ns := 3, body := [
    .expr (.call (ix N_need_system) [(.var 0)]),
    .expr (.call (ix N_need_costs) [(.var 0), (.var 1)]),
    .expr (.call (ix N_need_word) [(.var 0), (.var 2)])] }
/-- is_costs [system, value]: k74,k76 -/
def D_is_costs (ix : Nat → Nat) : Df := { fr := false, np := 2, ns := 2, body := [
    .expr (.call (ix N_need_system) [(.var 0)]),
    .ret (.call (ix N_fits_costs) [(.var 0), (.var 1)])] }
/-- fewest_steps [system, word, found, rests, here]: k74,k76 -/
def D_fewest_steps (ix : Nat → Nat) : Df := { fr := false, np := 2, ns := 5, body := [
    .expr (.call (ix N_need_both) [(.var 0), (.var 1)]),
    .set (.nm 2) (.call (ix N_waves_in) [(.var 0), (.var 1)]),
    .set (.nm 3) (.lc (.var 4) (.nm 4) (.var 2) (.cmp .eq (.call (ix N_steps_in) [(.var 0), (.var 4)]) (.lst [])) [4]),
    .ret (.ifx (.cmp .ne (.var 3) (.lst [])) (.bi .len (.call (ix N_derivation_in) [(.var 2), (.ix (.var 3) (.con (.int (0))))])) (.con (.non)))] }
/-- cost_of [system, costs, word, steps, step]: k74,k75,k76 -/
def D_cost_of (ix : Nat → Nat) : Df := { fr := false, np := 4, ns := 5, body := [
    .expr (.call (ix N_need_three) [(.var 0), (.var 1), (.var 2)]),
    .ifs (.not (.call (ix N_fits_derivation) [(.var 0), (.var 2), (.var 3)])) [
      .raise (ix N_InvalidStep)] [],
    .ret (.bi .sum (.lc (.ix (.var 1) (.ix (.var 4) (.con (.int (1))))) (.nm 4) (.var 3) (.con (.bl true)) [4]))] }
/-- cheapest_rests [system, costs, word, rows, best, some, here]: k74,k76 -/
def D_cheapest_rests (ix : Nat → Nat) : Df := { fr := false, np := 3, ns := 7, body := [
    .expr (.call (ix N_need_three) [(.var 0), (.var 1), (.var 2)]),
    .set (.nm 3) (.call (ix N_rows_in) [(.var 0), (.var 2)]),
    .set (.nm 4) (.call (ix N_cheapest_in) [(.var 3), (.var 1), (.var 2)]),
    .set (.nm 5) (.lc (.ix (.var 4) (.var 6)) (.nm 6) (.var 3) (.cmp .eq (.ix (.var 3) (.var 6)) (.lst [])) [6]),
    .ifs (.cmp .eq (.var 5) (.lst [])) [
      .ret (.con (.non))] [],
    .ret (.tup [(.bi .min (.var 5)), (.bi .tuple (.bi .sorted (.lc (.var 6) (.nm 6) (.var 3) (.and (.cmp .eq (.ix (.var 3) (.var 6)) (.lst [])) (.cmp .eq (.ix (.var 4) (.var 6)) (.bi .min (.var 5)))) [6])))])] }
/-- words_in [size, many, found, turn, word, letter]: k75,k76,k79 -/
def D_words_in (ix : Nat → Nat) : Df := { fr := false, np := 2, ns := 6, body := [
    .set (.nm 2) (.lst [(.con (.str []))]),
    .fors (.nm 3) (.rng [(.var 1)]) [
      .set (.nm 2) (.lc2 (.op .add (.var 4) (.var 5)) (.nm 4) (.var 2) (.con (.bl true)) (.nm 5) (.sl (.con (.str [97, 98, 99, 100])) (.con .non) (.asInt (.var 0))) (.con (.bl true)) [4, 5] [5])],
    .ret (.var 2)] }
/-- most_steps [system, word]: k75,k78,k95 -/
def D_most_steps (ix : Nat → Nat) : Df := { fr := false, np := 2, ns := 2, body := [
    .expr (.call (ix N_need_both) [(.var 0), (.var 1)]),
    .ret (.call (ix N_longest_in) [(.var 0), (.var 1)])] }
/-- dearest_cost [system, costs, word, rows, order]: k75,k76 -/
def D_dearest_cost (ix : Nat → Nat) : Df := { fr := false, np := 3, ns := 5, body := [
    .expr (.call (ix N_need_three) [(.var 0), (.var 1), (.var 2)]),
    .set (.nm 3) (.call (ix N_rows_in) [(.var 0), (.var 2)]),
    .set (.nm 4) (.call (ix N_order_in) [(.var 3)]),
    .ret (.ifx (.cmp .isnot (.var 4) (.con (.non))) (.ix (.call (ix N_dearest_in) [(.var 3), (.var 4), (.var 1)]) (.var 2)) (.con (.non)))] }
/-- height_of [system, many, most, word]: k75,k76 -/
def D_height_of (ix : Nat → Nat) : Df := { fr := false, np := 2, ns := 4, body := [
    .expr (.call (ix N_need_system) [(.var 0)]),
    .ifs (.not (.call (ix N_fits_whole) [(.var 1), (.con (.int (0))), (.con (.int (3)))])) [
      .raise (ix N_InvalidNumber)] [],
    .set (.nm 2) (.lc (.call (ix N_longest_in) [(.var 0), (.var 3)]) (.nm 3) (.call (ix N_words_in) [(.ix (.var 0) (.con (.int (0)))), (.var 1)]) (.con (.bl true)) [3]),
    .ret (.ifx (.cmp .notin (.con (.non)) (.var 2)) (.bi .max (.var 2)) (.con (.non)))] }
/-- highest_words [system, many, high, words, word]: k75,k76 -/
def D_highest_words (ix : Nat → Nat) : Df := { fr := false, np := 2, ns := 5, body := [
    .set (.nm 2) (.call (ix N_height_of) [(.var 0), (.var 1)]),
    .set (.nm 3) (.ifx (.cmp .isnot (.var 2) (.con (.non))) (.call (ix N_words_in) [(.ix (.var 0) (.con (.int (0)))), (.var 1)]) (.lst [])),
    .ret (.bi .tuple (.lc (.var 4) (.nm 4) (.var 3) (.cmp .eq (.call (ix N_longest_in) [(.var 0), (.var 4)]) (.var 2)) [4]))] }
/-- _law_words [size, many, found, turn, longer, word, letter]: k75,k79 -/
def D__law_words (ix : Nat → Nat) : Df := { fr := false, np := 2, ns := 7, body := [
    .set (.nm 2) (.lst [(.con (.str []))]),
    .fors (.nm 3) (.rng [(.var 1)]) [
      .set (.nm 4) (.lst []),
      .fors (.nm 5) (.var 2) [
        .set (.nm 4) (.op .add (.var 4) (.lc (.op .add (.var 5) (.var 6)) (.nm 6) (.sl (.con (.str [97, 98, 99, 100])) (.con .non) (.asInt (.var 0))) (.con (.bl true)) [6]))],
      .set (.nm 2) (.var 4)],
    .ret (.var 2)] }
/-- need_rule [size, value]: k77,k78,k79 -/
def D_need_rule (ix : Nat → Nat) : Df := { fr := false, np := 2, ns := 2, body := [
    .ifs (.not (.call (ix N_fits_whole) [(.var 0), (.con (.int (1))), (.bi .len (.con (.str [97, 98, 99, 100])))])) [
      .raise (ix N_InvalidNumber)] [],
    .ifs (.not (.call (ix N_fits_rule) [(.var 0), (.var 1)])) [
      .raise (ix N_InvalidSystem)] []] }
/-- times [one, other, ends, row, at]: k78,k79,k93,k95,k96,k97,k99 -/
def D_times (ix : Nat → Nat) : Df := { fr := false, np := 2, ns := 5, body := [
    .set (.nm 2) (.lc2 (.op .add (.op .mul (.ix (.var 3) (.con (.int (0)))) (.ix (.ix (.var 1) (.con (.int (0)))) (.var 4))) (.op .mul (.ix (.var 3) (.con (.int (1)))) (.ix (.ix (.var 1) (.con (.int (1)))) (.var 4)))) (.nm 3) (.var 0) (.con (.bl true)) (.nm 4) (.tup [(.con (.int (0))), (.con (.int (1)))]) (.con (.bl true)) [3, 4] [4]),
    .ret (.tup [(.tup [(.ix (.var 2) (.con (.int (0)))), (.ix (.var 2) (.con (.int (1))))]), (.tup [(.ix (.var 2) (.con (.int (2)))), (.ix (.var 2) (.con (.int (3))))])])] }
/-- product_in [matrices, word, found, letter]: k78,k79,k93,k95,k96,k97,k99 -/
def D_product_in (ix : Nat → Nat) : Df := { fr := false, np := 2, ns := 4, body := [
    .set (.nm 2) (.con (.tup [.tup [.int (1), .int (0)], .tup [.int (0), .int (1)]])),
    .fors (.nm 3) (.var 1) [
      .set (.nm 2) (.call (ix N_times) [(.var 2), (.ix (.var 0) (.me .index (.con (.str [97, 98, 99, 100])) (.var 3)))])],
    .ret (.var 2)] }
/-- less_in [one, other, own, there, row, line]: k78,k79,k93,k95,k96,k97,k99 -/
def D_less_in (ix : Nat → Nat) : Df := { fr := false, np := 2, ns := 6, body := [
    .ret (.bi .tuple (.lc (.bi .tuple (.lc (.op .sub (.var 2) (.var 3)) (.tp [(.nm 2), (.nm 3)]) (.zip (.var 4) (.var 5)) (.con (.bl true)) [2, 3])) (.tp [(.nm 4), (.nm 5)]) (.zip (.var 0) (.var 1)) (.con (.bl true)) [4, 5]))] }
/-- grid_rises [matrices, rule, gaps, row, own]: k78,k79,k93,k95,k96,k97,k99 -/
def D_grid_rises (ix : Nat → Nat) : Df := { fr := false, np := 2, ns := 5, body := [
    .set (.nm 2) (.call (ix N_less_in) [(.call (ix N_product_in) [(.var 0), (.ix (.var 1) (.con (.int (0))))]), (.call (ix N_product_in) [(.var 0), (.ix (.var 1) (.con (.int (1))))])]),
    .ret (.cmp .lt (.bi .min (.lc2 (.var 4) (.nm 3) (.var 2) (.con (.bl true)) (.nm 4) (.var 3) (.con (.bl true)) [3, 4] [4])) (.con (.int (0))))] }
/-- grid_falls [matrices, rule]: k78,k79,k93,k95,k96,k97,k99 -/
def D_grid_falls (ix : Nat → Nat) : Df := { fr := false, np := 2, ns := 2, body := [
    .ifs (.call (ix N_grid_rises) [(.var 0), (.var 1)]) [
      .ret (.con (.bl false))] [],
    .ret (.cmp .gt (.ix (.ix (.call (ix N_product_in) [(.var 0), (.ix (.var 1) (.con (.int (0))))]) (.con (.int (0)))) (.con (.int (1)))) (.ix (.ix (.call (ix N_product_in) [(.var 0), (.ix (.var 1) (.con (.int (1))))]) (.con (.int (0)))) (.con (.int (1)))))] }
/-- rows_up_to [size, top, found, turn, row, own]: k78,k79,k95,k96,k97,k99 -/
def D_rows_up_to (ix : Nat → Nat) : Df := { fr := false, np := 2, ns := 6, body := [
    .set (.nm 2) (.lst [(.tup [])]),
    .fors (.nm 3) (.rng [(.var 0)]) [
      .set (.nm 2) (.lc2 (.op .add (.var 4) (.tup [(.var 5)])) (.nm 4) (.var 2) (.con (.bl true)) (.nm 5) (.call (ix N_lines_up_to) [(.var 1)]) (.con (.bl true)) [4, 5] [5])],
    .ret (.var 2)] }
/-- matrices_helping [size, rules, top, matrices, rule]: k78,k95,k96,k97,k99 -/
def D_matrices_helping (ix : Nat → Nat) : Df := { fr := false, np := 3, ns := 5, body := [
    .fors (.nm 3) (.call (ix N_rows_up_to) [(.var 0), (.var 2)]) [
      .ifs (.bi .any (.lc (.call (ix N_grid_rises) [(.var 3), (.var 4)]) (.nm 4) (.var 1) (.con (.bl true)) [4])) [
        .cont] [],
      .ifs (.bi .any (.lc (.call (ix N_grid_falls) [(.var 3), (.var 4)]) (.nm 4) (.var 1) (.con (.bl true)) [4])) [
        .ret (.var 3)] []],
    .ret (.con (.non))] }
/-- need_top [system, value]: k78,k95,k97 -/
def D_need_top (ix : Nat → Nat) : Df := { fr := false, np := 2, ns := 2, body := [
    .ifs (.or (.not (.call (ix N_fits_whole) [(.var 1), (.con (.int (1))), (.con (.int (3)))])) (.and (.cmp .gt (.var 1) (.con (.int (1)))) (.cmp .gt (.ix (.var 0) (.con (.int (0)))) (.con (.int (2)))))) [
      .raise (ix N_InvalidNumber)] []] }
/-- weight_in [weights, word, letter]: k78,k79,k93,k95,k96,k97,k99 -/
def D_weight_in (ix : Nat → Nat) : Df := { fr := false, np := 2, ns := 3, body := [
    .ret (.bi .sum (.lc (.ix (.var 0) (.me .index (.con (.str [97, 98, 99, 100])) (.var 2))) (.nm 2) (.var 1) (.con (.bl true)) [2]))] }
/-- weight_falls [system, weights, left, right]: k78,k79,k93,k95,k96,k97,k99 -/
def D_weight_falls (ix : Nat → Nat) : Df := { fr := false, np := 2, ns := 4, body := [
    .ret (.lc (.op .sub (.call (ix N_weight_in) [(.var 1), (.var 2)]) (.call (ix N_weight_in) [(.var 1), (.var 3)])) (.tp [(.nm 2), (.nm 3)]) (.ix (.var 0) (.con (.int (1)))) (.con (.bl true)) [2, 3])] }
/-- weights_up_to [size, top, found, turn, row, own]: k78,k79,k95,k96,k97,k99 -/
def D_weights_up_to (ix : Nat → Nat) : Df := { fr := false, np := 2, ns := 6, body := [
    .set (.nm 2) (.lst [(.tup [])]),
    .fors (.nm 3) (.rng [(.var 0)]) [
      .set (.nm 2) (.lc2 (.op .add (.var 4) (.tup [(.var 5)])) (.nm 4) (.var 2) (.con (.bl true)) (.nm 5) (.rng [(.op .add (.var 1) (.con (.int (1))))]) (.con (.bl true)) [4, 5] [5])],
    .ret (.var 2)] }
/-- first_falling [system, top, weights]: k78,k79 -/
def D_first_falling (ix : Nat → Nat) : Df := { fr := false, np := 2, ns := 3, body := [
    .fors (.nm 2) (.call (ix N_weights_up_to) [(.ix (.var 0) (.con (.int (0)))), (.var 1)]) [
      .ifs (.cmp .gt (.bi .min (.call (ix N_weight_falls) [(.var 0), (.var 2)])) (.con (.int (0)))) [
        .ret (.var 2)] []],
    .ret (.con (.non))] }
/-- weights_helping [system, rules, top, weights, falls]: k78,k95,k96,k97,k99 -/
def D_weights_helping (ix : Nat → Nat) : Df := { fr := false, np := 3, ns := 5, body := [
    .fors (.nm 3) (.call (ix N_weights_up_to) [(.ix (.var 0) (.con (.int (0)))), (.var 2)]) [
      .set (.nm 4) (.call (ix N_weight_falls) [(.tup [(.ix (.var 0) (.con (.int (0)))), (.var 1)]), (.var 3)]),
      .ifs (.and (.cmp .ge (.bi .min (.var 4)) (.con (.int (0)))) (.cmp .gt (.bi .max (.var 4)) (.con (.int (0))))) [
        .ret (.var 3)] []],
    .ret (.con (.non))] }
/-- worth_falls [system, lots, rule, matrices]: k78,k79 -/
def D_worth_falls (ix : Nat → Nat) : Df := { fr := false, np := 1, ns := 4, body := [
    .set (.nm 1) (.call (ix N_rows_up_to) [(.ix (.var 0) (.con (.int (0)))), (.ifx (.cmp .lt (.ix (.var 0) (.con (.int (0)))) (.con (.int (3)))) (.con (.int (2))) (.con (.int (1))))]),
    .ret (.bi .any (.lc (.bi .all (.lc (.call (ix N_grid_falls) [(.var 3), (.var 2)]) (.nm 2) (.ix (.var 0) (.con (.int (1)))) (.con (.bl true)) [2])) (.nm 3) (.var 1) (.con (.bl true)) [3]))] }
/-- glance_in [size, rule, left, right, system, letters, words, own, word]: k78,k79 -/
def D_glance_in (ix : Nat → Nat) : Df := { fr := false, np := 2, ns := 9, body := [
    .set (.tp [(.nm 2), (.nm 3)]) (.var 1),
    .set (.nm 4) (.tup [(.var 0), (.tup [(.var 1)])]),
    .ifs (.cmp .isin (.var 2) (.var 3)) [
      .ret (.con (.str [110, 101, 115, 116, 101, 100]))] [],
    .ifs (.cmp .lt (.bi .len (.var 3)) (.bi .len (.var 2))) [
      .ret (.con (.str [115, 104, 111, 114, 116, 101, 114]))] [],
    .ifs (.cmp .isnot (.call (ix N_first_falling) [(.var 4), (.con (.int (3)))]) (.con (.non))) [
      .ret (.con (.str [108, 105, 103, 104, 116, 101, 114]))] [],
    .ifs (.call (ix N_worth_falls) [(.var 4)]) [
      .ret (.con (.str [119, 111, 114, 116, 104]))] [],
    .set (.nm 5) (.bi .list (.sl (.con (.str [97, 98, 99, 100])) (.con .non) (.asInt (.var 0)))),
    .set (.nm 6) (.op .add (.op .add (.lst [(.var 2)]) (.lc (.op .add (.var 2) (.var 7)) (.nm 7) (.var 5) (.con (.bl true)) [7])) (.lc (.op .add (.var 7) (.var 2)) (.nm 7) (.var 5) (.con (.bl true)) [7])),
    .ret (.ifx (.bi .any (.lc (.cmp .isnot (.call (ix N_loop_in) [(.var 4), (.var 8), (.con (.int (2)))]) (.con (.non))) (.nm 8) (.var 6) (.con (.bl true)) [8])) (.con (.str [108, 111, 111, 112, 105, 110, 103])) (.con (.str [111, 112, 101, 110])))] }
/-- glance [size, rule]: k78,k79 -/
def D_glance (ix : Nat → Nat) : Df := { fr := false, np := 2, ns := 2, body := [
    .expr (.call (ix N_need_rule) [(.var 0), (.var 1)]),
    .ret (.call (ix N_glance_in) [(.var 0), (.var 1)])] }
/-- told_in [size, stage, rule, fall]: k78,k95,k96,k97,k99 -/
def D_told_in (ix : Nat → Nat) : Df := { fr := false, np := 3, ns := 4, body := [
    .ifs (.cmp .eq (.ix (.var 1) (.con (.int (0)))) (.con (.str [119, 101, 105, 103, 104, 116, 115]))) [
      .set (.nm 3) (.ix (.call (ix N_weight_falls) [(.tup [(.var 0), (.tup [(.var 2)])]), (.ix (.var 1) (.con (.int (1))))]) (.con (.int (0)))),
      .ret (.ifx (.cmp .gt (.var 3) (.con (.int (0)))) (.con (.int (1))) (.ifx (.cmp .eq (.var 3) (.con (.int (0)))) (.con (.int (0))) (.neg (.con (.int (1))))))] [],
    .ifs (.call (ix N_grid_rises) [(.ix (.var 1) (.con (.int (1)))), (.var 2)]) [
      .ret (.neg (.con (.int (1))))] [],
    .ret (.ifx (.call (ix N_grid_falls) [(.ix (.var 1) (.con (.int (1)))), (.var 2)]) (.con (.int (1))) (.con (.int (0))))] }
/-- left_in [size, rules, stage, told, rule, own]: k78,k95,k96,k97,k99 -/
def D_left_in (ix : Nat → Nat) : Df := { fr := false, np := 3, ns := 6, body := [
    .set (.nm 3) (.lc (.call (ix N_told_in) [(.var 0), (.var 2), (.var 4)]) (.nm 4) (.var 1) (.con (.bl true)) [4]),
    .ifs (.or (.cmp .isin (.neg (.con (.int (1)))) (.var 3)) (.cmp .notin (.con (.int (1))) (.var 3))) [
      .ret (.con (.non))] [],
    .ret (.bi .tuple (.lc (.var 4) (.tp [(.nm 4), (.nm 5)]) (.zip (.var 1) (.var 3)) (.cmp .eq (.var 5) (.con (.int (0)))) [4, 5]))] }
/-- stage_found [size, rules, top, weights, matrices]: k78,k95,k96,k97,k99 -/
def D_stage_found (ix : Nat → Nat) : Df := { fr := false, np := 3, ns := 5, body := [
    .set (.nm 3) (.call (ix N_weights_helping) [(.tup [(.var 0), (.var 1)]), (.var 1), (.con (.int (3)))]),
    .ifs (.cmp .isnot (.var 3) (.con (.non))) [
      .ret (.tup [(.con (.str [119, 101, 105, 103, 104, 116, 115])), (.var 3)])] [],
    .set (.nm 4) (.call (ix N_matrices_helping) [(.var 0), (.var 1), (.var 2)]),
    .ret (.ifx (.cmp .isnot (.var 4) (.con (.non))) (.tup [(.con (.str [109, 97, 116, 114, 105, 99, 101, 115])), (.var 4)]) (.con (.non)))] }
/-- proof_found [system, top, stages, rules, stage]: k78,k95,k96,k97,k99 -/
def D_proof_found (ix : Nat → Nat) : Df := { fr := false, np := 2, ns := 5, body := [
    .par [2, 3] [.er, .er] [(.tup []), (.ix (.var 0) (.con (.int (1))))],
    .whl 100000 (.cmp .ne (.var 3) (.tup [])) [
      .set (.nm 4) (.call (ix N_stage_found) [(.ix (.var 0) (.con (.int (0)))), (.var 3), (.var 1)]),
      .ifs (.cmp .is (.var 4) (.con (.non))) [
        .ret (.tup [(.var 2), (.var 3)])] [],
      .set (.nm 2) (.op .add (.var 2) (.tup [(.var 4)])),
      .set (.nm 3) (.call (ix N_left_in) [(.ix (.var 0) (.con (.int (0)))), (.var 3), (.var 4)])],
    .ret (.tup [(.var 2), (.var 3)])] }
/-- find_proof [system, top, stages, rules]: k78,k95,k97 -/
def D_find_proof (ix : Nat → Nat) : Df := { fr := false, np := 2, ns := 4, body := [
    .expr (.call (ix N_need_system) [(.var 0)]),
    .expr (.call (ix N_need_top) [(.var 0), (.var 1)]),
    .set (.tp [(.nm 2), (.nm 3)]) (.call (ix N_proof_found) [(.var 0), (.var 1)]),
    .ret (.ifx (.cmp .eq (.var 3) (.tup [])) (.var 2) (.con (.non)))] }
/-- mirrored_in [system, size, rules, left, right]: k79,k95,k99 -/
def D_mirrored_in (ix : Nat → Nat) : Df := { fr := false, np := 1, ns := 5, body := [
    .set (.tp [(.nm 1), (.nm 2)]) (.var 0),
    .ret (.tup [(.var 1), (.bi .tuple (.lc (.tup [(.rev (.var 3)), (.rev (.var 4))]) (.tp [(.nm 3), (.nm 4)]) (.var 2) (.con (.bl true)) [3, 4]))])] }
/-- orders_in [many, found, turn, row, own]: k79,k95,k99 -/
def D_orders_in (ix : Nat → Nat) : Df := { fr := false, np := 1, ns := 5, body := [
    .set (.nm 1) (.lst [(.tup [])]),
    .fors (.nm 2) (.rng [(.var 0)]) [
      .set (.nm 1) (.lc2 (.op .add (.var 3) (.tup [(.var 4)])) (.nm 3) (.var 1) (.con (.bl true)) (.nm 4) (.rng [(.var 0)]) (.cmp .notin (.var 4) (.var 3)) [3, 4] [4])],
    .ret (.var 1)] }
/-- renamed_word_in [word, order, letter]: k79,k95,k99 -/
def D_renamed_word_in (ix : Nat → Nat) : Df := { fr := false, np := 2, ns := 3, body := [
    .ret (.me .join (.con (.str [])) (.lc (.ix (.con (.str [97, 98, 99, 100])) (.ix (.var 1) (.me .index (.con (.str [97, 98, 99, 100])) (.var 2)))) (.nm 2) (.var 0) (.con (.bl true)) [2]))] }
/-- renamed_in [system, order, size, rules, left, right]: k79,k95,k99 -/
def D_renamed_in (ix : Nat → Nat) : Df := { fr := false, np := 2, ns := 6, body := [
    .set (.tp [(.nm 2), (.nm 3)]) (.var 0),
    .ret (.tup [(.var 2), (.bi .tuple (.lc (.tup [(.call (ix N_renamed_word_in) [(.var 4), (.var 1)]), (.call (ix N_renamed_word_in) [(.var 5), (.var 1)])]) (.tp [(.nm 4), (.nm 5)]) (.var 3) (.con (.bl true)) [4, 5]))])] }
/-- form_in [system, rows, order, size, rules]: k79,k95,k99 -/
def D_form_in (ix : Nat → Nat) : Df := { fr := false, np := 1, ns := 5, body := [
    .set (.nm 1) (.lc (.call (ix N_renamed_in) [(.var 0), (.var 2)]) (.nm 2) (.call (ix N_orders_in) [(.ix (.var 0) (.con (.int (0))))]) (.con (.bl true)) [2]),
    .ret (.bi .min (.lc (.tup [(.var 3), (.bi .tuple (.bi .sorted (.var 4)))]) (.tp [(.nm 3), (.nm 4)]) (.var 1) (.con (.bl true)) [3, 4]))] }
/-- is_system [value]: k81,k82,k83,k92 -/
def D_is_system (ix : Nat → Nat) : Df := { fr := false, np := 1, ns := 1, body := [
    .ret (.call (ix N_fits_system) [(.var 0)])] }
/-- letter_less [rule, left, right, rows, at]: k81,k83,k85 -/
def D_letter_less (ix : Nat → Nat) : Df := { fr := false, np := 1, ns := 5, body := [
    .set (.tp [(.nm 1), (.nm 2)]) (.var 0),
    .set (.nm 3) (.lc (.tup [(.op .add (.sl (.var 1) (.con .non) (.asInt (.var 4))) (.sl (.var 1) (.asInt (.op .add (.var 4) (.con (.int (1))))) (.con .non))), (.var 2)]) (.nm 4) (.rng [(.bi .len (.var 1))]) (.con (.bl true)) [4]),
    .ret (.op .add (.var 3) (.lc (.tup [(.var 1), (.op .add (.sl (.var 2) (.con .non) (.asInt (.var 4))) (.sl (.var 2) (.asInt (.op .add (.var 4) (.con (.int (1))))) (.con .non)))]) (.nm 4) (.rng [(.bi .len (.var 2))]) (.con (.bl true)) [4]))] }
/-- smaller_in [system, size, rules, rows, at, rule, own, found]: k81,k83,k85 -/
def D_smaller_in (ix : Nat → Nat) : Df := { fr := false, np := 1, ns := 8, body := [
    .set (.tp [(.nm 1), (.nm 2)]) (.var 0),
    .new 3 (.lc (.op .add (.sl (.var 2) (.con .non) (.asInt (.var 4))) (.sl (.var 2) (.asInt (.op .add (.var 4) (.con (.int (1))))) (.con .non))) (.nm 4) (.rng [(.bi .len (.var 2))]) (.con (.bl true)) [4]),
    .fors (.tp [(.nm 4), (.nm 5)]) (.enum (.var 2)) [
      .aug 3 (.lc (.op .add (.op .add (.sl (.var 2) (.con .non) (.asInt (.var 4))) (.tup [(.var 6)])) (.sl (.var 2) (.asInt (.op .add (.var 4) (.con (.int (1))))) (.con .non))) (.nm 6) (.call (ix N_letter_less) [(.var 5)]) (.con (.bl true)) [6])],
    .frz 3,
    .set (.nm 7) (.dc (.tup [(.var 1), (.var 6)]) (.con (.bl true)) true (.nm 6) (.var 3) (.con (.bl true)) [6]),
    .ret (.lc (.var 6) (.nm 6) (.var 7) (.call (ix N_fits_system) [(.var 6)]) [6])] }
/-- size_of [system, left, right]: k81,k83,k85 -/
def D_size_of (ix : Nat → Nat) : Df := { fr := false, np := 1, ns := 3, body := [
    .expr (.call (ix N_need_system) [(.var 0)]),
    .ret (.tup [(.bi .len (.ix (.var 0) (.con (.int (1))))), (.bi .sum (.lc (.bi .len (.op .add (.var 1) (.var 2))) (.tp [(.nm 1), (.nm 2)]) (.ix (.var 0) (.con (.int (1)))) (.con (.bl true)) [1, 2]))])] }
/-- smaller_systems [system]: k81,k83,k85 -/
def D_smaller_systems (ix : Nat → Nat) : Df := { fr := false, np := 1, ns := 1, body := [
    .expr (.call (ix N_need_system) [(.var 0)]),
    .ret (.bi .tuple (.call (ix N_smaller_in) [(.var 0)]))] }
/-- _law_is_system [size, rules, left, right]: k81,k83 -/
def D__law_is_system (ix : Nat → Nat) : Df := { fr := false, np := 2, ns := 4, body := [
    .ifs (.or (.cmp .eq (.var 1) (.tup [])) (.cmp .lt (.lenset (.var 1)) (.bi .len (.var 1)))) [
      .ret (.con (.bl false))] [],
    .ret (.cmp .eq (.lc (.con (.int (1))) (.tp [(.nm 2), (.nm 3)]) (.var 1) (.or (.cmp .eq (.var 2) (.con (.str []))) (.cmp .eq (.var 2) (.var 3))) [2, 3]) (.lst []))] }
/-- _law_smaller [system, size, rules, rows, found, at, side, text, place, less, own, row]: k81,k83 -/
def D__law_smaller (ix : Nat → Nat) : Df := { fr := false, np := 1, ns := 12, body := [
    .par [1, 2, 3, 4] [.er, .er, .nw, .nw] [(.ix (.var 0) (.con (.int (0)))), (.ix (.var 0) (.con (.int (1)))), (.lst []), (.lst [])],
    .fors (.nm 5) (.rng [(.bi .len (.var 2))]) [
      .app 3 (.op .add (.sl (.var 2) (.con .non) (.asInt (.var 5))) (.sl (.var 2) (.asInt (.op .add (.var 5) (.con (.int (1))))) (.con .non)))],
    .fors (.nm 5) (.rng [(.bi .len (.var 2))]) [
      .fors (.nm 6) (.tup [(.con (.int (0))), (.con (.int (1)))]) [
        .set (.nm 7) (.ix (.ix (.var 2) (.var 5)) (.var 6)),
        .fors (.nm 8) (.rng [(.bi .len (.var 7))]) [
          .set (.nm 9) (.op .add (.sl (.var 7) (.con .non) (.asInt (.var 8))) (.sl (.var 7) (.asInt (.op .add (.var 8) (.con (.int (1))))) (.con .non))),
          .set (.nm 10) (.ifx (.cmp .eq (.var 6) (.con (.int (0)))) (.tup [(.var 9), (.ix (.ix (.var 2) (.var 5)) (.con (.int (1))))]) (.tup [(.ix (.ix (.var 2) (.var 5)) (.con (.int (0)))), (.var 9)])),
          .app 3 (.op .add (.op .add (.sl (.var 2) (.con .non) (.asInt (.var 5))) (.tup [(.var 10)])) (.sl (.var 2) (.asInt (.op .add (.var 5) (.con (.int (1))))) (.con .non)))]]],
    .frz 3,
    .fors (.nm 11) (.var 3) [
      .ifs (.and (.call (ix N__law_is_system) [(.var 1), (.var 11)]) (.cmp .notin (.tup [(.var 1), (.var 11)]) (.var 4))) [
        .app 4 (.tup [(.var 1), (.var 11)])] []],
    .ret (.var 4)] }
/-- first_in [system, word, rows]: k82,k83,k85,k86,k87,k88,k89,k93,k96,k97,k99 -/
def D_first_in (ix : Nat → Nat) : Df := { fr := false, np := 2, ns := 3, body := [
    .set (.nm 2) (.call (ix N_steps_in) [(.var 0), (.var 1)]),
    .ret (.ifx (.cmp .ne (.var 2) (.lst [])) (.ix (.var 2) (.con (.int (0)))) (.con (.non)))] }
/-- fits_loop [system, value, end]: k82,k84,k85,k95,k99 -/
def D_fits_loop (ix : Nat → Nat) : Df := { fr := false, np := 2, ns := 3, body := [
    .ifs (.or (.not (.call (ix N_is_tuple_of) [(.var 1), (.con (.int (3))), (.con (.int (3)))])) (.not (.call (ix N_fits_letters) [(.ix (.var 1) (.con (.int (0)))), (.ix (.var 0) (.con (.int (0)))), (.con (.int (1))), (.con (.int (60)))]))) [
      .ret (.con (.bl false))] [],
    .ifs (.or (.not (.call (ix N_fits_derivation) [(.var 0), (.ix (.var 1) (.con (.int (0)))), (.ix (.var 1) (.con (.int (1))))])) (.cmp .eq (.ix (.var 1) (.con (.int (1)))) (.tup []))) [
      .ret (.con (.bl false))] [],
    .set (.nm 2) (.ix (.call (ix N_words_along_in) [(.var 0), (.ix (.var 1) (.con (.int (0)))), (.ix (.var 1) (.con (.int (1))))]) (.neg (.con (.int (1))))),
    .ret (.and (.call (ix N_fits_whole) [(.ix (.var 1) (.con (.int (2)))), (.con (.int (0))), (.bi .len (.var 2))]) (.cmp .eq (.sl (.var 2) (.asInt (.ix (.var 1) (.con (.int (2))))) (.asInt (.op .add (.ix (.var 1) (.con (.int (2)))) (.bi .len (.ix (.var 1) (.con (.int (0)))))))) (.ix (.var 1) (.con (.int (0))))))] }
/-- is_loop [system, value]: k82,k84,k95 -/
def D_is_loop (ix : Nat → Nat) : Df := { fr := false, np := 2, ns := 2, body := [
    .expr (.call (ix N_need_system) [(.var 0)]),
    .ret (.call (ix N_fits_loop) [(.var 0), (.var 1)])] }
/-- agrees [left, other, place, one, two]: k82,k83,k85,k97,k99 -/
def D_agrees (ix : Nat → Nat) : Df := { fr := false, np := 3, ns := 5, body := [
    .ret (.bi .all (.lc (.cmp .eq (.var 3) (.var 4)) (.tp [(.nm 3), (.nm 4)]) (.zip (.sl (.var 0) (.asInt (.var 2)) (.con .non)) (.var 1)) (.con (.bl true)) [3, 4]))] }
/-- overlaps_in [system, rows, one, left, right, other, there, back, found, begin, place]: k82,k83,k85,k97,k99 -/
def D_overlaps_in (ix : Nat → Nat) : Df := { fr := false, np := 1, ns := 11, body := [
    .set (.nm 1) (.lc2 (.tup [(.var 2), (.var 5), (.var 3), (.var 6)]) (.tp [(.nm 2), (.tp [(.nm 3), (.nm 4)])]) (.enum (.ix (.var 0) (.con (.int (1))))) (.con (.bl true)) (.tp [(.nm 5), (.tp [(.nm 6), (.nm 7)])]) (.enum (.ix (.var 0) (.con (.int (1))))) (.con (.bl true)) [2, 3, 4, 5, 6, 7] [5, 6, 7]),
    .new 8 (.lst []),
    .fors (.tp [(.nm 2), (.nm 5), (.nm 3), (.nm 6)]) (.var 1) [
      .set (.nm 9) (.ifx (.cmp .lt (.var 2) (.var 5)) (.con (.int (0))) (.con (.int (1)))),
      .aug 8 (.lc (.tup [(.var 2), (.var 5), (.var 10)]) (.nm 10) (.rng [(.var 9), (.bi .len (.var 3))]) (.call (ix N_agrees) [(.var 3), (.var 6), (.var 10)]) [10])],
    .ret (.var 8)] }
/-- word_in [system, overlap, left, other]: k82,k83,k85,k97,k99 -/
def D_word_in (ix : Nat → Nat) : Df := { fr := false, np := 2, ns := 4, body := [
    .par [2, 3] [.er, .er] [(.ix (.ix (.ix (.var 0) (.con (.int (1)))) (.ix (.var 1) (.con (.int (0))))) (.con (.int (0)))), (.ix (.ix (.ix (.var 0) (.con (.int (1)))) (.ix (.var 1) (.con (.int (1))))) (.con (.int (0))))],
    .ret (.op .add (.var 2) (.sl (.var 3) (.asInt (.op .sub (.bi .len (.var 2)) (.ix (.var 1) (.con (.int (2)))))) (.con .non)))] }
/-- sides_in [system, overlap, word]: k82,k83,k85,k97,k99 -/
def D_sides_in (ix : Nat → Nat) : Df := { fr := false, np := 2, ns := 3, body := [
    .set (.nm 2) (.call (ix N_word_in) [(.var 0), (.var 1)]),
    .ret (.tup [(.call (ix N_behind_in) [(.var 0), (.var 2), (.tup [(.con (.int (0))), (.ix (.var 1) (.con (.int (0))))])]), (.call (ix N_behind_in) [(.var 0), (.var 2), (.tup [(.ix (.var 1) (.con (.int (2)))), (.ix (.var 1) (.con (.int (1))))])])])] }
/-- overlaps_of [system]: k82,k97 -/
def D_overlaps_of (ix : Nat → Nat) : Df := { fr := false, np := 1, ns := 1, body := [
    .expr (.call (ix N_need_system) [(.var 0)]),
    .ret (.bi .tuple (.call (ix N_overlaps_in) [(.var 0)]))] }
/-- comes_again [system, word, step, here, own]: k82,k83,k85 -/
def D_comes_again (ix : Nat → Nat) : Df := { fr := false, np := 2, ns := 5, body := [
    .fors (.nm 2) (.call (ix N_steps_in) [(.var 0), (.var 1)]) [
      .set (.nm 3) (.call (ix N_behind_in) [(.var 0), (.var 1), (.var 2)]),
      .ifs (.or (.cmp .isin (.var 1) (.var 3)) (.bi .any (.lc (.cmp .isin (.var 1) (.call (ix N_behind_in) [(.var 0), (.var 3), (.var 4)])) (.nm 4) (.call (ix N_steps_in) [(.var 0), (.var 3)]) (.con (.bl true)) [4]))) [
        .ret (.con (.bl true))] []],
    .ret (.con (.bl false))] }
/-- parts_at_rest [system, overlap, one, other]: k82,k83,k85 -/
def D_parts_at_rest (ix : Nat → Nat) : Df := { fr := false, np := 1, ns := 4, body := [
    .fors (.nm 1) (.call (ix N_overlaps_in) [(.var 0)]) [
      .set (.tp [(.nm 2), (.nm 3)]) (.call (ix N_sides_in) [(.var 0), (.var 1)]),
      .ifs (.and (.cmp .ne (.var 2) (.var 3)) (.and (.cmp .is (.call (ix N_first_in) [(.var 0), (.var 2)]) (.con (.non))) (.cmp .is (.call (ix N_first_in) [(.var 0), (.var 3)]) (.con (.non))))) [
        .ret (.con (.bl true))] []],
    .ret (.con (.bl false))] }
/-- flawed_in [system, flaw, left, right]: k82,k83,k85 -/
def D_flawed_in (ix : Nat → Nat) : Df := { fr := false, np := 2, ns := 4, body := [
    .ifs (.cmp .eq (.var 1) (.con (.str [114, 101, 115, 116, 115]))) [
      .ret (.call (ix N_parts_at_rest) [(.var 0)])] [],
    .ret (.bi .any (.lc (.call (ix N_comes_again) [(.var 0), (.var 2)]) (.tp [(.nm 2), (.nm 3)]) (.ix (.var 0) (.con (.int (1)))) (.con (.bl true)) [2, 3]))] }
/-- flaws_of [system, flaw]: k82,k83,k85 -/
def D_flaws_of (ix : Nat → Nat) : Df := { fr := false, np := 1, ns := 2, body := [
    .expr (.call (ix N_need_system) [(.var 0)]),
    .ret (.bi .tuple (.lc (.var 1) (.nm 1) (.con (.tup [.str [108, 111, 111, 112], .str [114, 101, 115, 116, 115]])) (.call (ix N_flawed_in) [(.var 0), (.var 1)]) [1]))] }
/-- _law_overlaps [system, rules, found, one, other, left, there, place, word]: k82,k83 -/
def D__law_overlaps (ix : Nat → Nat) : Df := { fr := false, np := 1, ns := 9, body := [
    .par [1, 2] [.er, .nw] [(.ix (.var 0) (.con (.int (1)))), (.lst [])],
    .fors (.nm 3) (.rng [(.bi .len (.var 1))]) [
      .fors (.nm 4) (.rng [(.bi .len (.var 1))]) [
        .par [5, 6] [.er, .er] [(.ix (.ix (.var 1) (.var 3)) (.con (.int (0)))), (.ix (.ix (.var 1) (.var 4)) (.con (.int (0))))],
        .fors (.nm 7) (.rng [(.ifx (.cmp .lt (.var 3) (.var 4)) (.con (.int (0))) (.con (.int (1)))), (.bi .len (.var 5))]) [
          .set (.nm 8) (.op .add (.var 5) (.sl (.var 6) (.asInt (.op .sub (.bi .len (.var 5)) (.var 7))) (.con .non))),
          .ifs (.me .startswith (.sl (.var 8) (.asInt (.var 7)) (.con .non)) (.var 6)) [
            .app 2 (.tup [(.tup [(.var 3), (.var 4), (.var 7)]), (.call (ix N__law_behind) [(.var 0), (.var 8), (.tup [(.con (.int (0))), (.var 3)])]), (.call (ix N__law_behind) [(.var 0), (.var 8), (.tup [(.var 7), (.var 4)])])])] []]]],
    .ret (.var 2)] }
/-- _law_has [system, flaw, pairs, overlap, one, other, left, right, wave, turn, later, here, step]: k82,k83 -/
def D__law_has (ix : Nat → Nat) : Df := { fr := false, np := 2, ns := 13, body := [
    .ifs (.cmp .eq (.var 1) (.con (.str [114, 101, 115, 116, 115]))) [
      .set (.nm 2) (.lc (.tup [(.var 4), (.var 5)]) (.tp [(.nm 3), (.nm 4), (.nm 5)]) (.call (ix N__law_overlaps) [(.var 0)]) (.cmp .ne (.var 4) (.var 5)) [3, 4, 5]),
      .ret (.cmp .ne (.lc (.con (.int (1))) (.tp [(.nm 4), (.nm 5)]) (.var 2) (.and (.cmp .eq (.call (ix N__law_steps) [(.var 0), (.var 4)]) (.lst [])) (.cmp .eq (.call (ix N__law_steps) [(.var 0), (.var 5)]) (.lst []))) [4, 5]) (.lst []))] [],
    .fors (.tp [(.nm 6), (.nm 7)]) (.ix (.var 0) (.con (.int (1)))) [
      .set (.nm 8) (.lst [(.var 6)]),
      .fors (.nm 9) (.rng [(.con (.int (2)))]) [
        .set (.nm 10) (.lst []),
        .fors (.nm 11) (.var 8) [
          .set (.nm 10) (.op .add (.var 10) (.lc (.call (ix N__law_behind) [(.var 0), (.var 11), (.var 12)]) (.nm 12) (.call (ix N__law_steps) [(.var 0), (.var 11)]) (.con (.bl true)) [12]))],
        .set (.nm 8) (.var 10),
        .ifs (.cmp .ne (.lc (.var 11) (.nm 11) (.var 8) (.cmp .isin (.var 6) (.var 11)) [11]) (.lst [])) [
          .ret (.con (.bl true))] []]],
    .ret (.con (.bl false))] }
/-- next_in [system, flaw, own]: k83,k85 -/
def D_next_in (ix : Nat → Nat) : Df := { fr := false, np := 2, ns := 3, body := [
    .fors (.nm 2) (.call (ix N_smaller_in) [(.var 0)]) [
      .ifs (.call (ix N_flawed_in) [(.var 2), (.var 1)]) [
        .ret (.var 2)] []],
    .ret (.con (.non))] }
/-- stages_in [system, flaw, found, here]: k83,k85 -/
def D_stages_in (ix : Nat → Nat) : Df := { fr := false, np := 2, ns := 4, body := [
    .par [2, 3] [.nw, .er] [(.lst [(.var 0)]), (.call (ix N_next_in) [(.var 0), (.var 1)])],
    .whl 100000 (.cmp .isnot (.var 3) (.con (.non))) [
      .app 2 (.var 3),
      .set (.nm 3) (.call (ix N_next_in) [(.var 3), (.var 1)])],
    .ret (.var 2)] }
/-- need_flaw [value]: k83,k85 -/
def D_need_flaw (ix : Nat → Nat) : Df := { fr := false, np := 1, ns := 1, body := [
    .ifs (.or (.not (.isi (.var 0) .str)) (.cmp .notin (.var 0) (.con (.tup [.str [108, 111, 111, 112], .str [114, 101, 115, 116, 115]])))) [
      .raise (ix N_InvalidPlan)] []] }
/-- need_flawed [system, flaw]: k83,k85 -/
def D_need_flawed (ix : Nat → Nat) : Df := { fr := false, np := 2, ns := 2, body := [
    .expr (.call (ix N_need_system) [(.var 0)]),
    .expr (.call (ix N_need_flaw) [(.var 1)]),
    .ifs (.not (.call (ix N_flawed_in) [(.var 0), (.var 1)])) [
      .raise (ix N_InvalidPlan)] []] }
/-- is_least_flawed [system, flaw]: k83,k85 -/
def D_is_least_flawed (ix : Nat → Nat) : Df := { fr := false, np := 2, ns := 2, body := [
    .expr (.call (ix N_need_system) [(.var 0)]),
    .expr (.call (ix N_need_flaw) [(.var 1)]),
    .ret (.and (.call (ix N_flawed_in) [(.var 0), (.var 1)]) (.cmp .is (.call (ix N_next_in) [(.var 0), (.var 1)]) (.con (.non))))] }
/-- shrink_stages [system, flaw]: k83,k85 -/
def D_shrink_stages (ix : Nat → Nat) : Df := { fr := false, np := 2, ns := 2, body := [
    .expr (.call (ix N_need_flawed) [(.var 0), (.var 1)]),
    .ret (.bi .tuple (.call (ix N_stages_in) [(.var 0), (.var 1)]))] }
/-- shrunk [system, flaw]: k83,k85 -/
def D_shrunk (ix : Nat → Nat) : Df := { fr := false, np := 2, ns := 2, body := [
    .expr (.call (ix N_need_flawed) [(.var 0), (.var 1)]),
    .ret (.ix (.call (ix N_stages_in) [(.var 0), (.var 1)]) (.neg (.con (.int (1)))))] }
/-- need_derivation [system, word, value]: k84,k85,k88,k90 -/
def D_need_derivation (ix : Nat → Nat) : Df := { fr := false, np := 3, ns := 3, body := [
    .ifs (.not (.call (ix N_fits_derivation) [(.var 0), (.var 1), (.var 2)])) [
      .raise (ix N_InvalidStep)] []] }
/-- is_derivation [system, word, value]: k84,k86,k88,k90,k95 -/
def D_is_derivation (ix : Nat → Nat) : Df := { fr := false, np := 3, ns := 3, body := [
    .expr (.call (ix N_need_both) [(.var 0), (.var 1)]),
    .ret (.call (ix N_fits_derivation) [(.var 0), (.var 1), (.var 2)])] }
/-- words_along [system, word, steps]: k84,k88,k90 -/
def D_words_along (ix : Nat → Nat) : Df := { fr := false, np := 3, ns := 3, body := [
    .expr (.call (ix N_need_both) [(.var 0), (.var 1)]),
    .expr (.call (ix N_need_derivation) [(.var 0), (.var 1), (.var 2)]),
    .ret (.bi .tuple (.call (ix N_words_along_in) [(.var 0), (.var 1), (.var 2)]))] }
/-- moved_in [steps, far, place, rule]: k84,k85,k95 -/
def D_moved_in (ix : Nat → Nat) : Df := { fr := false, np := 2, ns := 4, body := [
    .ret (.bi .tuple (.lc (.tup [(.op .add (.var 2) (.var 1)), (.var 3)]) (.tp [(.nm 2), (.nm 3)]) (.var 0) (.con (.bl true)) [2, 3]))] }
/-- moved_in [word, far, letter]: k93,k94 -/
def D_moved_in_v1 (ix : Nat → Nat) : Df := { fr := false, np := 2, ns := 3, body := [
    .ret (.me .join (.con (.str [])) (.lc (.ix (.con (.str [97, 98, 99, 100])) (.op .add (.me .index (.con (.str [97, 98, 99, 100])) (.var 2)) (.var 1))) (.nm 2) (.var 0) (.con (.bl true)) [2]))] }
/-- need_loop [system, value]: k84,k85,k95 -/
def D_need_loop (ix : Nat → Nat) : Df := { fr := false, np := 2, ns := 2, body := [
    .ifs (.not (.call (ix N_fits_loop) [(.var 0), (.var 1)])) [
      .raise (ix N_InvalidPaper)] []] }
/-- turns_in [words, found, at, last, own, word]: k84,k85 -/
def D_turns_in (ix : Nat → Nat) : Df := { fr := false, np := 1, ns := 6, body := [
    .par [1, 2] [.nw, .er] [(.lst []), (.con (.int (0)))],
    .whl 100000 (.cmp .lt (.var 2) (.bi .len (.var 0))) [
      .set (.nm 3) (.bi .max (.lc (.var 4) (.tp [(.nm 4), (.nm 5)]) (.enum (.var 0)) (.cmp .eq (.var 5) (.ix (.var 0) (.var 2))) [4, 5])),
      .app 1 (.tup [(.var 2), (.var 3)]),
      .set (.nm 2) (.op .add (.var 3) (.con (.int (1))))],
    .ret (.var 1)] }
/-- ends_in [system, loop, words, rows, behind, word, step]: k84,k85 -/
def D_ends_in (ix : Nat → Nat) : Df := { fr := false, np := 2, ns := 7, body := [
    .set (.nm 2) (.call (ix N_words_along_in) [(.var 0), (.ix (.var 1) (.con (.int (0)))), (.ix (.var 1) (.con (.int (1))))]),
    .set (.nm 3) (.zip (.var 2) (.ix (.var 1) (.con (.int (1))))),
    .set (.nm 4) (.lc (.op .sub (.op .sub (.bi .len (.var 5)) (.ix (.var 6) (.con (.int (0))))) (.bi .len (.ix (.ix (.ix (.var 0) (.con (.int (1)))) (.ix (.var 6) (.con (.int (1))))) (.con (.int (0)))))) (.tp [(.nm 5), (.nm 6)]) (.var 3) (.con (.bl true)) [5, 6]),
    .ret (.tup [(.bi .min (.lc (.ix (.var 6) (.con (.int (0)))) (.nm 6) (.ix (.var 1) (.con (.int (1)))) (.con (.bl true)) [6])), (.bi .min (.var 4))])] }
/-- is_straight [system, word, steps, words]: k84,k85 -/
def D_is_straight (ix : Nat → Nat) : Df := { fr := false, np := 3, ns := 4, body := [
    .expr (.call (ix N_need_both) [(.var 0), (.var 1)]),
    .expr (.call (ix N_need_derivation) [(.var 0), (.var 1), (.var 2)]),
    .set (.nm 3) (.call (ix N_words_along_in) [(.var 0), (.var 1), (.var 2)]),
    .ret (.cmp .eq (.lenset (.var 3)) (.bi .len (.var 3)))] }
/-- detours_of [system, word, steps, pair]: k84,k85 -/
def D_detours_of (ix : Nat → Nat) : Df := { fr := false, np := 3, ns := 4, body := [
    .expr (.call (ix N_need_both) [(.var 0), (.var 1)]),
    .expr (.call (ix N_need_derivation) [(.var 0), (.var 1), (.var 2)]),
    .ret (.bi .tuple (.lc (.var 3) (.nm 3) (.call (ix N_turns_in) [(.call (ix N_words_along_in) [(.var 0), (.var 1), (.var 2)])]) (.cmp .lt (.ix (.var 3) (.con (.int (0)))) (.ix (.var 3) (.con (.int (1))))) [3]))] }
/-- cut_steps [system, word, steps, at, last]: k84,k85 -/
def D_cut_steps (ix : Nat → Nat) : Df := { fr := false, np := 3, ns := 5, body := [
    .expr (.call (ix N_need_both) [(.var 0), (.var 1)]),
    .expr (.call (ix N_need_derivation) [(.var 0), (.var 1), (.var 2)]),
    .ret (.bi .tuple (.lc (.ix (.var 2) (.var 4)) (.tp [(.nm 3), (.nm 4)]) (.call (ix N_turns_in) [(.call (ix N_words_along_in) [(.var 0), (.var 1), (.var 2)])]) (.cmp .lt (.var 4) (.bi .len (.var 2))) [3, 4]))] }
/-- untouched [system, loop]: k84,k85 -/
def D_untouched (ix : Nat → Nat) : Df := { fr := false, np := 2, ns := 2, body := [
    .expr (.call (ix N_need_system) [(.var 0)]),
    .expr (.call (ix N_need_loop) [(.var 0), (.var 1)]),
    .ret (.call (ix N_ends_in) [(.var 0), (.var 1)])] }
/-- trimmed_loop [system, loop, ahead, behind, word]: k84,k85 -/
def D_trimmed_loop (ix : Nat → Nat) : Df := { fr := false, np := 2, ns := 5, body := [
    .expr (.call (ix N_need_system) [(.var 0)]),
    .expr (.call (ix N_need_loop) [(.var 0), (.var 1)]),
    .set (.tp [(.nm 2), (.nm 3)]) (.call (ix N_ends_in) [(.var 0), (.var 1)]),
    .set (.nm 4) (.sl (.ix (.var 1) (.con (.int (0)))) (.asInt (.var 2)) (.asInt (.op .sub (.bi .len (.ix (.var 1) (.con (.int (0))))) (.var 3)))),
    .ret (.tup [(.var 4), (.call (ix N_moved_in) [(.ix (.var 1) (.con (.int (1)))), (.neg (.var 2))]), (.ix (.var 1) (.con (.int (2))))])] }
/-- rest_of [system, word]: k86,k87,k88,k93 -/
def D_rest_of (ix : Nat → Nat) : Df := { fr := false, np := 2, ns := 2, body := [
    .expr (.call (ix N_need_both) [(.var 0), (.var 1)]),
    .ret (.ix (.call (ix N_rest_in) [(.var 0), (.var 1)]) (.con (.int (1))))] }
/-- fits_manner [system, value, many, own]: k86,k87,k89 -/
def D_fits_manner (ix : Nat → Nat) : Df := { fr := false, np := 2, ns := 4, body := [
    .ifs (.isi (.var 1) .str) [
      .ret (.cmp .isin (.var 1) (.con (.tup [.str [102, 105, 114, 115, 116], .str [108, 97, 115, 116], .str [101, 97, 114, 108, 121], .str [108, 97, 116, 101], .str [108, 111, 110, 103], .str [115, 104, 111, 114, 116]])))] [],
    .set (.nm 2) (.bi .len (.ix (.var 0) (.con (.int (1))))),
    .ifs (.or (.not (.call (ix N_is_tuple_of) [(.var 1), (.var 2), (.var 2)])) (.not (.bi .all (.lc (.call (ix N_fits_whole) [(.var 3), (.con (.int (0))), (.op .sub (.var 2) (.con (.int (1))))]) (.nm 3) (.var 1) (.con (.bl true)) [3])))) [
      .ret (.con (.bl false))] [],
    .ret (.cmp .eq (.lenset (.var 1)) (.var 2))] }
/-- right_of [system, step]: k86,k87,k88,k89,k97,k99 -/
def D_right_of (ix : Nat → Nat) : Df := { fr := false, np := 2, ns := 2, body := [
    .ret (.ix (.ix (.ix (.var 0) (.con (.int (1)))) (.ix (.var 1) (.con (.int (1))))) (.con (.int (1))))] }
/-- need_manner [system, value]: k86,k87,k89 -/
def D_need_manner (ix : Nat → Nat) : Df := { fr := false, np := 2, ns := 2, body := [
    .ifs (.not (.call (ix N_fits_manner) [(.var 0), (.var 1)])) [
      .raise (ix N_InvalidPlan)] []] }
/-- is_manner [system, value]: k86,k89 -/
def D_is_manner (ix : Nat → Nat) : Df := { fr := false, np := 2, ns := 2, body := [
    .expr (.call (ix N_need_system) [(.var 0)]),
    .ret (.call (ix N_fits_manner) [(.var 0), (.var 1)])] }
/-- step_by [system, word, manner, steps]: k86,k89 -/
def D_step_by (ix : Nat → Nat) : Df := { fr := false, np := 3, ns := 4, body := [
    .expr (.call (ix N_need_both) [(.var 0), (.var 1)]),
    .expr (.call (ix N_need_manner) [(.var 0), (.var 2)]),
    .set (.nm 3) (.call (ix N_steps_in) [(.var 0), (.var 1)]),
    .ret (.ifx (.cmp .ne (.var 3) (.lst [])) (.call (ix N_chosen_in) [(.var 0), (.var 2), (.var 3)]) (.con (.non)))] }
/-- rest_by [system, word, manner]: k86,k87,k89 -/
def D_rest_by (ix : Nat → Nat) : Df := { fr := false, np := 3, ns := 3, body := [
    .expr (.call (ix N_need_both) [(.var 0), (.var 1)]),
    .expr (.call (ix N_need_manner) [(.var 0), (.var 2)]),
    .ret (.ix (.call (ix N_run_in) [(.var 0), (.var 1), (.var 2)]) (.con (.int (1))))] }
/-- steps_by [system, word, manner]: k86,k87,k89 -/
def D_steps_by (ix : Nat → Nat) : Df := { fr := false, np := 3, ns := 3, body := [
    .expr (.call (ix N_need_both) [(.var 0), (.var 1)]),
    .expr (.call (ix N_need_manner) [(.var 0), (.var 2)]),
    .ret (.bi .tuple (.ix (.call (ix N_run_in) [(.var 0), (.var 1), (.var 2)]) (.con (.int (0)))))] }
/-- _law_ended [cup, size, rules, turn, left, right, rule]: k86,k87,k88,k90,k91,k92,k96 -/
def D__law_ended (ix : Nat → Nat) : Df := { fr := false, np := 1, ns := 7, body := [
    .par [1, 2] [.er, .er] [(.op .add (.con (.int (2))) (.call (ix N__law_roll) [(.var 0), (.con (.int (2)))])), (.tup [])],
    .fors (.nm 3) (.rng [(.op .add (.con (.int (1))) (.call (ix N__law_roll) [(.var 0), (.con (.int (4)))]))]) [
      .set (.nm 4) (.op .add (.call (ix N__law_word) [(.var 0), (.var 1), (.con (.int (2)))]) (.call (ix N__law_some) [(.var 0), (.bi .list (.sl (.con (.str [97, 98, 99, 100])) (.con .non) (.asInt (.var 1))))])),
      .set (.nm 5) (.ifx (.cmp .gt (.bi .len (.var 4)) (.con (.int (1)))) (.call (ix N__law_word) [(.var 0), (.var 1), (.op .sub (.bi .len (.var 4)) (.con (.int (1))))]) (.con (.str []))),
      .set (.nm 6) (.ifx (.cmp .eq (.call (ix N__law_roll) [(.var 0), (.con (.int (4)))]) (.con (.int (0)))) (.tup [(.con (.str [98, 97])), (.con (.str [97, 98]))]) (.tup [(.var 4), (.sl (.var 5) (.con .non) (.asInt (.op .sub (.bi .len (.var 4)) (.con (.int (1))))))])),
      .set (.nm 2) (.op .add (.var 2) (.ifx (.cmp .notin (.var 6) (.var 2)) (.tup [(.var 6)]) (.tup [])))],
    .ret (.tup [(.var 1), (.var 2)])] }
/-- _law_by [system, word, manner, done, steps, step]: k86,k87 -/
def D__law_by (ix : Nat → Nat) : Df := { fr := false, np := 3, ns := 6, body := [
    .par [3, 4] [.er, .er] [(.tup []), (.call (ix N__law_steps) [(.var 0), (.var 1)])],
    .whl 100000 (.cmp .ne (.var 4) (.lst [])) [
      .set (.nm 5) (.call (ix N__law_chosen) [(.var 0), (.var 2), (.var 4)]),
      .par [1, 3] [.er, .er] [(.call (ix N__law_behind) [(.var 0), (.var 1), (.var 5)]), (.op .add (.var 3) (.tup [(.var 5)]))],
      .set (.nm 4) (.call (ix N__law_steps) [(.var 0), (.var 1)])],
    .ret (.tup [(.var 3), (.var 1)])] }
/-- rests_met [system, word, here]: k87,k97 -/
def D_rests_met (ix : Nat → Nat) : Df := { fr := false, np := 2, ns := 3, body := [
    .expr (.call (ix N_need_both) [(.var 0), (.var 1)]),
    .ret (.bi .tuple (.lc (.var 2) (.nm 2) (.call (ix N_waves_in) [(.var 0), (.var 1)]) (.cmp .is (.call (ix N_first_in) [(.var 0), (.var 2)]) (.con (.non))) [2]))] }
/-- rests_by_names [system, word, name]: k87,k89 -/
def D_rests_by_names (ix : Nat → Nat) : Df := { fr := false, np := 2, ns := 3, body := [
    .expr (.call (ix N_need_both) [(.var 0), (.var 1)]),
    .ret (.bi .tuple (.lc (.ix (.call (ix N_run_in) [(.var 0), (.var 1), (.var 2)]) (.con (.int (1)))) (.nm 2) (.con (.tup [.str [102, 105, 114, 115, 116], .str [108, 97, 115, 116], .str [101, 97, 114, 108, 121], .str [108, 97, 116, 101], .str [108, 111, 110, 103], .str [115, 104, 111, 114, 116]])) (.con (.bl true)) [2]))] }
/-- has_one_rest [system, word, rests, here]: k87,k88,k89 -/
def D_has_one_rest (ix : Nat → Nat) : Df := { fr := false, np := 2, ns := 4, body := [
    .expr (.call (ix N_need_both) [(.var 0), (.var 1)]),
    .set (.nm 2) (.lc (.var 3) (.nm 3) (.call (ix N_waves_in) [(.var 0), (.var 1)]) (.cmp .is (.call (ix N_first_in) [(.var 0), (.var 3)]) (.con (.non))) [3]),
    .ret (.cmp .eq (.bi .len (.var 2)) (.con (.int (1))))] }
/-- quickest [system, word, many, name, own]: k87,k89 -/
def D_quickest (ix : Nat → Nat) : Df := { fr := false, np := 2, ns := 5, body := [
    .expr (.call (ix N_need_both) [(.var 0), (.var 1)]),
    .set (.nm 2) (.lc (.bi .len (.ix (.call (ix N_run_in) [(.var 0), (.var 1), (.var 3)]) (.con (.int (0))))) (.nm 3) (.con (.tup [.str [102, 105, 114, 115, 116], .str [108, 97, 115, 116], .str [101, 97, 114, 108, 121], .str [108, 97, 116, 101], .str [108, 111, 110, 103], .str [115, 104, 111, 114, 116]])) (.con (.bl true)) [3]),
    .ret (.bi .tuple (.lc (.var 3) (.tp [(.nm 3), (.nm 4)]) (.zip (.con (.tup [.str [102, 105, 114, 115, 116], .str [108, 97, 115, 116], .str [101, 97, 114, 108, 121], .str [108, 97, 116, 101], .str [108, 111, 110, 103], .str [115, 104, 111, 114, 116]])) (.var 2)) (.cmp .eq (.var 4) (.bi .min (.var 2))) [3, 4]))] }
/-- orders_many [system, found, turn]: k87,k89 -/
def D_orders_many (ix : Nat → Nat) : Df := { fr := false, np := 1, ns := 3, body := [
    .expr (.call (ix N_need_system) [(.var 0)]),
    .set (.nm 1) (.con (.int (1))),
    .fors (.nm 2) (.rng [(.bi .len (.ix (.var 0) (.con (.int (1)))))]) [
      .set (.nm 1) (.op .mul (.var 1) (.op .add (.var 2) (.con (.int (1)))))],
    .ret (.var 1)] }
/-- reordered [system, order, own]: k87,k89 -/
def D_reordered (ix : Nat → Nat) : Df := { fr := false, np := 2, ns := 3, body := [
    .expr (.call (ix N_need_system) [(.var 0)]),
    .ifs (.or (.isi (.var 1) .str) (.not (.call (ix N_fits_manner) [(.var 0), (.var 1)]))) [
      .raise (ix N_InvalidPlan)] [],
    .ret (.tup [(.ix (.var 0) (.con (.int (0)))), (.bi .tuple (.lc (.ix (.ix (.var 0) (.con (.int (1)))) (.var 2)) (.nm 2) (.var 1) (.con (.bl true)) [2]))])] }
/-- names_apart [system, word, rests, name, rows, one, other]: k87,k89 -/
def D_names_apart (ix : Nat → Nat) : Df := { fr := false, np := 2, ns := 7, body := [
    .expr (.call (ix N_need_both) [(.var 0), (.var 1)]),
    .set (.nm 2) (.lc (.ix (.call (ix N_run_in) [(.var 0), (.var 1), (.var 3)]) (.con (.int (1)))) (.nm 3) (.con (.tup [.str [102, 105, 114, 115, 116], .str [108, 97, 115, 116], .str [101, 97, 114, 108, 121], .str [108, 97, 116, 101], .str [108, 111, 110, 103], .str [115, 104, 111, 114, 116]])) (.con (.bl true)) [3]),
    .set (.nm 4) (.lc2 (.tup [(.var 5), (.var 6)]) (.nm 5) (.rng [(.bi .len (.con (.tup [.str [102, 105, 114, 115, 116], .str [108, 97, 115, 116], .str [101, 97, 114, 108, 121], .str [108, 97, 116, 101], .str [108, 111, 110, 103], .str [115, 104, 111, 114, 116]])))]) (.con (.bl true)) (.nm 6) (.rng [(.op .add (.var 5) (.con (.int (1)))), (.bi .len (.con (.tup [.str [102, 105, 114, 115, 116], .str [108, 97, 115, 116], .str [101, 97, 114, 108, 121], .str [108, 97, 116, 101], .str [108, 111, 110, 103], .str [115, 104, 111, 114, 116]])))]) (.con (.bl true)) [5, 6] [6]),
    .ret (.bi .tuple (.lc (.tup [(.ix (.con (.tup [.str [102, 105, 114, 115, 116], .str [108, 97, 115, 116], .str [101, 97, 114, 108, 121], .str [108, 97, 116, 101], .str [108, 111, 110, 103], .str [115, 104, 111, 114, 116]])) (.var 5)), (.ix (.con (.tup [.str [102, 105, 114, 115, 116], .str [108, 97, 115, 116], .str [101, 97, 114, 108, 121], .str [108, 97, 116, 101], .str [108, 111, 110, 103], .str [115, 104, 111, 114, 116]])) (.var 6))]) (.tp [(.nm 5), (.nm 6)]) (.var 4) (.cmp .ne (.ix (.var 2) (.var 5)) (.ix (.var 2) (.var 6))) [5, 6]))] }
/-- step_number [system, word, number, steps]: k88,k89 -/
def D_step_number (ix : Nat → Nat) : Df := { fr := false, np := 3, ns := 4, body := [
    .expr (.call (ix N_need_both) [(.var 0), (.var 1)]),
    .ifs (.not (.call (ix N_fits_whole) [(.var 2), (.con (.int (0))), (.con (.int (1000)))])) [
      .raise (ix N_InvalidNumber)] [],
    .set (.nm 3) (.call (ix N_steps_in) [(.var 0), (.var 1)]),
    .ret (.ifx (.cmp .ne (.var 3) (.lst [])) (.ix (.var 3) (.op .mod (.var 2) (.bi .len (.var 3)))) (.con (.non)))] }
/-- fits_plan [value, own]: k88,k89 -/
def D_fits_plan (ix : Nat → Nat) : Df := { fr := false, np := 1, ns := 2, body := [
    .ret (.and (.call (ix N_is_tuple_of) [(.var 0), (.con (.int (0))), (.con (.int (60)))]) (.bi .all (.lc (.call (ix N_fits_whole) [(.var 1), (.con (.int (0))), (.con (.int (1000)))]) (.nm 1) (.var 0) (.con (.bl true)) [1])))] }
/-- planned_in [system, word, plan, done, number, steps]: k88,k89 -/
def D_planned_in (ix : Nat → Nat) : Df := { fr := false, np := 3, ns := 6, body := [
    .new 3 (.lst []),
    .fors (.nm 4) (.var 2) [
      .set (.nm 5) (.call (ix N_steps_in) [(.var 0), (.var 1)]),
      .ifs (.cmp .ne (.var 5) (.lst [])) [
        .app 3 (.ix (.var 5) (.op .mod (.var 4) (.bi .len (.var 5)))),
        .setF (.nm 1) (.call (ix N_behind_in) [(.var 0), (.var 1), (.ix (.var 3) (.neg (.con (.int (1)))))])] []],
    .ret (.tup [(.var 3), (.var 1)])] }
/-- need_plan [value]: k88,k89 -/
def D_need_plan (ix : Nat → Nat) : Df := { fr := false, np := 1, ns := 1, body := [
    .ifs (.not (.call (ix N_fits_plan) [(.var 0)])) [
      .raise (ix N_InvalidPlan)] []] }
/-- steps_planned [system, word, plan]: k88,k89 -/
def D_steps_planned (ix : Nat → Nat) : Df := { fr := false, np := 3, ns := 3, body := [
    .expr (.call (ix N_need_both) [(.var 0), (.var 1)]),
    .expr (.call (ix N_need_plan) [(.var 2)]),
    .ret (.bi .tuple (.ix (.call (ix N_planned_in) [(.var 0), (.var 1), (.var 2)]) (.con (.int (0)))))] }
/-- word_planned [system, word, plan]: k88,k89 -/
def D_word_planned (ix : Nat → Nat) : Df := { fr := false, np := 3, ns := 3, body := [
    .expr (.call (ix N_need_both) [(.var 0), (.var 1)]),
    .expr (.call (ix N_need_plan) [(.var 2)]),
    .ret (.ix (.call (ix N_planned_in) [(.var 0), (.var 1), (.var 2)]) (.con (.int (1))))] }
/-- rest_planned [system, word, plan]: k88,k89 -/
def D_rest_planned (ix : Nat → Nat) : Df := { fr := false, np := 3, ns := 3, body := [
    .expr (.call (ix N_need_both) [(.var 0), (.var 1)]),
    .expr (.call (ix N_need_plan) [(.var 2)]),
    .ret (.ix (.call (ix N_run_in) [(.var 0), (.ix (.call (ix N_planned_in) [(.var 0), (.var 1), (.var 2)]) (.con (.int (1)))), (.con (.str [102, 105, 114, 115, 116]))]) (.con (.int (1))))] }
/-- _law_rest [system, word, most, done, turn, steps]: k88,k96 -/
def D__law_rest (ix : Nat → Nat) : Df := { fr := false, np := 3, ns := 6, body := [
    .set (.nm 3) (.lst []),
    .fors (.nm 4) (.rng [(.op .add (.var 2) (.con (.int (1))))]) [
      .set (.nm 5) (.call (ix N__law_steps) [(.var 0), (.var 1)]),
      .ifs (.cmp .eq (.var 5) (.lst [])) [
        .ret (.tup [(.var 3), (.var 1)])] [],
      .par [1, 3] [.er, .er] [(.call (ix N__law_behind) [(.var 0), (.var 1), (.ix (.var 5) (.con (.int (0))))]), (.op .add (.var 3) (.lst [(.ix (.var 5) (.con (.int (0))))]))]],
    .ret (.con (.non))] }
/-- common_in [system, one, other, first, second, rows, here]: k90,k91,k92,k94 -/
def D_common_in (ix : Nat → Nat) : Df := { fr := false, np := 3, ns := 7, body := [
    .par [3, 4] [.er, .er] [(.call (ix N_waves_in) [(.var 0), (.var 1)]), (.call (ix N_waves_in) [(.var 0), (.var 2)])],
    .set (.nm 5) (.lc (.var 6) (.nm 6) (.var 3) (.cmp .isin (.var 6) (.var 4)) [6]),
    .ret (.ifx (.cmp .ne (.var 5) (.lst [])) (.ix (.var 5) (.con (.int (0)))) (.con (.non)))] }
/-- common_string [system, one, other]: k90,k94 -/
def D_common_string (ix : Nat → Nat) : Df := { fr := false, np := 3, ns := 3, body := [
    .expr (.call (ix N_need_both) [(.var 0), (.var 1)]),
    .expr (.call (ix N_need_word) [(.var 0), (.var 2)]),
    .ret (.call (ix N_common_in) [(.var 0), (.var 1), (.var 2)])] }
/-- common_many [system, one, other, first, second, here]: k90,k94 -/
def D_common_many (ix : Nat → Nat) : Df := { fr := false, np := 3, ns := 6, body := [
    .expr (.call (ix N_need_both) [(.var 0), (.var 1)]),
    .expr (.call (ix N_need_word) [(.var 0), (.var 2)]),
    .par [3, 4] [.er, .er] [(.call (ix N_waves_in) [(.var 0), (.var 1)]), (.call (ix N_waves_in) [(.var 0), (.var 2)])],
    .ret (.bi .len (.lc (.var 5) (.nm 5) (.var 3) (.cmp .isin (.var 5) (.var 4)) [5]))] }
/-- ways_to_common [system, one, other, first, second, rows, here]: k90,k94 -/
def D_ways_to_common (ix : Nat → Nat) : Df := { fr := false, np := 3, ns := 7, body := [
    .expr (.call (ix N_need_both) [(.var 0), (.var 1)]),
    .expr (.call (ix N_need_word) [(.var 0), (.var 2)]),
    .par [3, 4] [.er, .er] [(.call (ix N_waves_in) [(.var 0), (.var 1)]), (.call (ix N_waves_in) [(.var 0), (.var 2)])],
    .set (.nm 5) (.lc (.var 6) (.nm 6) (.var 3) (.cmp .isin (.var 6) (.var 4)) [6]),
    .ret (.ifx (.cmp .ne (.var 5) (.lst [])) (.tup [(.call (ix N_derivation_in) [(.var 3), (.ix (.var 5) (.con (.int (0))))]), (.call (ix N_derivation_in) [(.var 4), (.ix (.var 5) (.con (.int (0))))])]) (.con (.non)))] }
/-- follows_in [system, rule]: k91,k92,k94 -/
def D_follows_in (ix : Nat → Nat) : Df := { fr := false, np := 2, ns := 2, body := [
    .ret (.cmp .isnot (.call (ix N_common_in) [(.var 0), (.ix (.var 1) (.con (.int (0)))), (.ix (.var 1) (.con (.int (1))))]) (.con (.non)))] }
/-- needless_in [system, number, size, rules, others]: k91,k92,k94 -/
def D_needless_in (ix : Nat → Nat) : Df := { fr := false, np := 2, ns := 5, body := [
    .set (.tp [(.nm 2), (.nm 3)]) (.var 0),
    .set (.nm 4) (.op .add (.sl (.var 3) (.con .non) (.asInt (.var 1))) (.sl (.var 3) (.asInt (.op .add (.var 1) (.con (.int (1))))) (.con .non))),
    .ret (.and (.cmp .ne (.var 4) (.tup [])) (.call (ix N_follows_in) [(.tup [(.var 2), (.var 4)]), (.ix (.var 3) (.var 1))]))] }
/-- kept_in [system, size, rules, number]: k91,k92,k94 -/
def D_kept_in (ix : Nat → Nat) : Df := { fr := false, np := 1, ns := 4, body := [
    .set (.tp [(.nm 1), (.nm 2)]) (.var 0),
    .fors (.nm 3) (.rng [(.op .sub (.bi .len (.var 2)) (.con (.int (1)))), (.neg (.con (.int (1)))), (.neg (.con (.int (1))))]) [
      .ifs (.call (ix N_needless_in) [(.tup [(.var 1), (.var 2)]), (.var 3)]) [
        .set (.nm 2) (.op .add (.sl (.var 2) (.con .non) (.asInt (.var 3))) (.sl (.var 2) (.asInt (.op .add (.var 3) (.con (.int (1))))) (.con .non)))] []],
    .ret (.tup [(.var 1), (.var 2)])] }
/-- rule_follows [system, rule]: k91,k94 -/
def D_rule_follows (ix : Nat → Nat) : Df := { fr := false, np := 2, ns := 2, body := [
    .expr (.call (ix N_need_system) [(.var 0)]),
    .ifs (.not (.call (ix N_fits_rule) [(.ix (.var 0) (.con (.int (0)))), (.var 1)])) [
      .raise (ix N_InvalidSystem)] [],
    .ret (.call (ix N_follows_in) [(.var 0), (.var 1)])] }
/-- needless_rules [system, number]: k91,k94 -/
def D_needless_rules (ix : Nat → Nat) : Df := { fr := false, np := 1, ns := 2, body := [
    .expr (.call (ix N_need_system) [(.var 0)]),
    .ret (.bi .tuple (.lc (.var 1) (.nm 1) (.rng [(.bi .len (.ix (.var 0) (.con (.int (1)))))]) (.call (ix N_needless_in) [(.var 0), (.var 1)]) [1]))] }
/-- kept_rules [system]: k91,k92,k94 -/
def D_kept_rules (ix : Nat → Nat) : Df := { fr := false, np := 1, ns := 1, body := [
    .expr (.call (ix N_need_system) [(.var 0)]),
    .ret (.call (ix N_kept_in) [(.var 0)])] }
/-- _law_follows [system, rule, first, second, here]: k91,k92 -/
def D__law_follows (ix : Nat → Nat) : Df := { fr := false, np := 2, ns := 5, body := [
    .par [2, 3] [.er, .er] [(.call (ix N__law_met) [(.var 0), (.ix (.var 1) (.con (.int (0)))), (.con (.int (300)))]), (.call (ix N__law_met) [(.var 0), (.ix (.var 1) (.con (.int (1)))), (.con (.int (300)))])],
    .ifs (.or (.cmp .is (.var 2) (.con (.non))) (.cmp .is (.var 3) (.con (.non)))) [
      .ret (.con (.non))] [],
    .ret (.cmp .ne (.lc (.var 4) (.nm 4) (.var 2) (.cmp .isin (.var 4) (.var 3)) [4]) (.lst []))] }
/-- includes_in [one, other, rule]: k92,k94 -/
def D_includes_in (ix : Nat → Nat) : Df := { fr := false, np := 2, ns := 3, body := [
    .ret (.bi .all (.lc (.call (ix N_follows_in) [(.var 0), (.var 2)]) (.nm 2) (.ix (.var 1) (.con (.int (1)))) (.con (.bl true)) [2]))] }
/-- need_alike_sizes [one, other]: k92,k94 -/
def D_need_alike_sizes (ix : Nat → Nat) : Df := { fr := false, np := 2, ns := 2, body := [
    .expr (.call (ix N_need_system) [(.var 0)]),
    .expr (.call (ix N_need_system) [(.var 1)]),
    .ifs (.cmp .ne (.ix (.var 0) (.con (.int (0)))) (.ix (.var 1) (.con (.int (0))))) [
      .raise (ix N_InvalidSystem)] []] }
/-- includes [one, other]: k92,k94 -/
def D_includes (ix : Nat → Nat) : Df := { fr := false, np := 2, ns := 2, body := [
    .expr (.call (ix N_need_alike_sizes) [(.var 0), (.var 1)]),
    .ret (.call (ix N_includes_in) [(.var 0), (.var 1)])] }
/-- follow_both_ways [one, other]: k92,k94 -/
def D_follow_both_ways (ix : Nat → Nat) : Df := { fr := false, np := 2, ns := 2, body := [
    .expr (.call (ix N_need_alike_sizes) [(.var 0), (.var 1)]),
    .ret (.and (.call (ix N_includes_in) [(.var 0), (.var 1)]) (.call (ix N_includes_in) [(.var 1), (.var 0)]))] }
/-- shared_rules [one, other, rule]: k92,k94 -/
def D_shared_rules (ix : Nat → Nat) : Df := { fr := false, np := 2, ns := 3, body := [
    .expr (.call (ix N_need_alike_sizes) [(.var 0), (.var 1)]),
    .ret (.bi .tuple (.lc (.var 2) (.nm 2) (.ix (.var 0) (.con (.int (1)))) (.cmp .isin (.var 2) (.ix (.var 1) (.con (.int (1))))) [2]))] }
/-- put_together [one, other, rules, rule]: k92,k94 -/
def D_put_together (ix : Nat → Nat) : Df := { fr := false, np := 2, ns := 4, body := [
    .expr (.call (ix N_need_alike_sizes) [(.var 0), (.var 1)]),
    .set (.nm 2) (.op .add (.ix (.var 0) (.con (.int (1)))) (.bi .tuple (.lc (.var 3) (.nm 3) (.ix (.var 1) (.con (.int (1)))) (.cmp .notin (.var 3) (.ix (.var 0) (.con (.int (1))))) [3]))),
    .ifs (.cmp .gt (.bi .len (.var 2)) (.con (.int (8)))) [
      .raise (ix N_InvalidSystem)] [],
    .ret (.tup [(.ix (.var 0) (.con (.int (0)))), (.var 2)])] }
/-- fits_matrix [value, row, own]: k93,k94,k95,k99 -/
def D_fits_matrix (ix : Nat → Nat) : Df := { fr := false, np := 1, ns := 3, body := [
    .ifs (.or (.not (.call (ix N_is_tuple_of) [(.var 0), (.con (.int (2))), (.con (.int (2)))])) (.not (.bi .all (.lc (.call (ix N_is_tuple_of) [(.var 1), (.con (.int (2))), (.con (.int (2)))]) (.nm 1) (.var 0) (.con (.bl true)) [1])))) [
      .ret (.con (.bl false))] [],
    .ifs (.not (.bi .all (.lc2 (.call (ix N_fits_whole) [(.var 2), (.con (.int (0))), (.con (.int (9)))]) (.nm 1) (.var 0) (.con (.bl true)) (.nm 2) (.var 1) (.con (.bl true)) [1, 2] [2]))) [
      .ret (.con (.bl false))] [],
    .ret (.and (.cmp .gt (.ix (.ix (.var 0) (.con (.int (0)))) (.con (.int (0)))) (.con (.int (0)))) (.cmp .gt (.ix (.ix (.var 0) (.con (.int (1)))) (.con (.int (1)))) (.con (.int (0)))))] }
/-- fits_matrices [size, value, own]: k93,k94,k95,k99 -/
def D_fits_matrices (ix : Nat → Nat) : Df := { fr := false, np := 2, ns := 3, body := [
    .ret (.and (.call (ix N_is_tuple_of) [(.var 1), (.var 0), (.var 0)]) (.bi .all (.lc (.call (ix N_fits_matrix) [(.var 2)]) (.nm 2) (.var 1) (.con (.bl true)) [2])))] }
/-- need_matrices [system, value]: k93,k94 -/
def D_need_matrices (ix : Nat → Nat) : Df := { fr := false, np := 2, ns := 2, body := [
    .ifs (.not (.call (ix N_fits_matrices) [(.ix (.var 0) (.con (.int (0)))), (.var 1)])) [
      .raise (ix N_InvalidPaper)] []] }
/-- fits_weights [size, value, own]: k93,k94,k95,k99 -/
def D_fits_weights (ix : Nat → Nat) : Df := { fr := false, np := 2, ns := 3, body := [
    .ret (.and (.call (ix N_is_tuple_of) [(.var 1), (.var 0), (.var 0)]) (.bi .all (.lc (.call (ix N_fits_whole) [(.var 2), (.con (.int (0))), (.con (.int (9)))]) (.nm 2) (.var 1) (.con (.bl true)) [2])))] }
/-- need_weights [system, value]: k93,k94 -/
def D_need_weights (ix : Nat → Nat) : Df := { fr := false, np := 2, ns := 2, body := [
    .ifs (.not (.call (ix N_fits_weights) [(.ix (.var 0) (.con (.int (0)))), (.var 1)])) [
      .raise (ix N_InvalidPaper)] []] }
/-- need_apart [one, other]: k93,k94 -/
def D_need_apart (ix : Nat → Nat) : Df := { fr := false, np := 2, ns := 2, body := [
    .expr (.call (ix N_need_system) [(.var 0)]),
    .expr (.call (ix N_need_system) [(.var 1)]),
    .ifs (.or (.cmp .gt (.op .add (.ix (.var 0) (.con (.int (0)))) (.ix (.var 1) (.con (.int (0))))) (.bi .len (.con (.str [97, 98, 99, 100])))) (.cmp .gt (.op .add (.bi .len (.ix (.var 0) (.con (.int (1))))) (.bi .len (.ix (.var 1) (.con (.int (1)))))) (.con (.int (8))))) [
      .raise (ix N_InvalidSystem)] []] }
/-- side_by_side [one, other, moved, left, right]: k93,k94 -/
def D_side_by_side (ix : Nat → Nat) : Df := { fr := false, np := 2, ns := 5, body := [
    .expr (.call (ix N_need_apart) [(.var 0), (.var 1)]),
    .set (.nm 2) (.lc (.tup [(.call (ix N_moved_in) [(.var 3), (.ix (.var 0) (.con (.int (0))))]), (.call (ix N_moved_in) [(.var 4), (.ix (.var 0) (.con (.int (0))))])]) (.tp [(.nm 3), (.nm 4)]) (.ix (.var 1) (.con (.int (1)))) (.con (.bl true)) [3, 4]),
    .ret (.tup [(.op .add (.ix (.var 0) (.con (.int (0)))) (.ix (.var 1) (.con (.int (0))))), (.op .add (.ix (.var 0) (.con (.int (1)))) (.bi .tuple (.var 2)))])] }
/-- weights_beside [one, other, weights, more]: k93,k94 -/
def D_weights_beside (ix : Nat → Nat) : Df := { fr := false, np := 4, ns := 4, body := [
    .expr (.call (ix N_need_apart) [(.var 0), (.var 1)]),
    .expr (.call (ix N_need_weights) [(.var 0), (.var 2)]),
    .expr (.call (ix N_need_weights) [(.var 1), (.var 3)]),
    .ret (.op .add (.var 2) (.var 3))] }
/-- matrices_beside [one, other, matrices, more]: k93,k94 -/
def D_matrices_beside (ix : Nat → Nat) : Df := { fr := false, np := 4, ns := 4, body := [
    .expr (.call (ix N_need_apart) [(.var 0), (.var 1)]),
    .expr (.call (ix N_need_matrices) [(.var 0), (.var 2)]),
    .expr (.call (ix N_need_matrices) [(.var 1), (.var 3)]),
    .ret (.op .add (.var 2) (.var 3))] }
/-- fits_stage [size, value]: k95,k99 -/
def D_fits_stage (ix : Nat → Nat) : Df := { fr := false, np := 2, ns := 2, body := [
    .ifs (.or (.not (.call (ix N_is_tuple_of) [(.var 1), (.con (.int (2))), (.con (.int (2)))])) (.not (.isi (.ix (.var 1) (.con (.int (0)))) .str))) [
      .ret (.con (.bl false))] [],
    .ifs (.cmp .eq (.ix (.var 1) (.con (.int (0)))) (.con (.str [119, 101, 105, 103, 104, 116, 115]))) [
      .ret (.call (ix N_fits_weights) [(.var 0), (.ix (.var 1) (.con (.int (1))))])] [],
    .ret (.and (.cmp .eq (.ix (.var 1) (.con (.int (0)))) (.con (.str [109, 97, 116, 114, 105, 99, 101, 115]))) (.call (ix N_fits_matrices) [(.var 0), (.ix (.var 1) (.con (.int (1))))]))] }
/-- lefts_in [system, stages, found, stage, rules]: k95,k99 -/
def D_lefts_in (ix : Nat → Nat) : Df := { fr := false, np := 2, ns := 5, body := [
    .new 2 (.lst [(.ix (.var 0) (.con (.int (1))))]),
    .fors (.nm 3) (.var 1) [
      .setF (.nm 4) (.ifx (.cmp .ne (.ix (.var 2) (.neg (.con (.int (1))))) (.tup [])) (.call (ix N_left_in) [(.ix (.var 0) (.con (.int (0)))), (.ix (.var 2) (.neg (.con (.int (1))))), (.var 3)]) (.con (.non))),
      .ifs (.cmp .is (.var 4) (.con (.non))) [
        .ret (.con (.non))] [],
      .app 2 (.var 4)],
    .ret (.var 2)] }
/-- fits_proof [system, value, stage, rows]: k95,k99 -/
def D_fits_proof (ix : Nat → Nat) : Df := { fr := false, np := 2, ns := 4, body := [
    .ifs (.or (.not (.call (ix N_is_tuple_of) [(.var 1), (.con (.int (1))), (.con (.int (8)))])) (.not (.bi .all (.lc (.call (ix N_fits_stage) [(.ix (.var 0) (.con (.int (0)))), (.var 2)]) (.nm 2) (.var 1) (.con (.bl true)) [2])))) [
      .ret (.con (.bl false))] [],
    .set (.nm 3) (.call (ix N_lefts_in) [(.var 0), (.var 1)]),
    .ret (.and (.cmp .isnot (.var 3) (.con (.non))) (.cmp .eq (.ix (.var 3) (.neg (.con (.int (1))))) (.tup [])))] }
/-- turned_in [links, link]: k96,k99 -/
def D_turned_in_v1 (ix : Nat → Nat) : Df := { fr := false, np := 1, ns := 2, body := [
    .ret (.bi .tuple (.lc (.op .add (.tup [(.ifx (.cmp .eq (.ix (.var 1) (.con (.int (0)))) (.con (.str [111, 110]))) (.con (.str [98, 97, 99, 107])) (.con (.str [111, 110])))]) (.sl (.var 1) (.asInt (.con (.int (1)))) (.con .non))) (.nm 1) (.rev (.var 0)) (.con (.bl true)) [1]))] }
/-- top_in [system]: k95,k96,k97,k99 -/
def D_top_in (ix : Nat → Nat) : Df := { fr := false, np := 1, ns := 1, body := [
    .ret (.ifx (.cmp .lt (.ix (.var 0) (.con (.int (0)))) (.con (.int (3)))) (.con (.int (2))) (.con (.int (1))))] }
/-- proof_in [system, stages, rules]: k95,k96,k97,k99 -/
def D_proof_in (ix : Nat → Nat) : Df := { fr := false, np := 1, ns := 3, body := [
    .set (.tp [(.nm 1), (.nm 2)]) (.call (ix N_proof_found) [(.var 0), (.call (ix N_top_in) [(.var 0)])]),
    .ret (.ifx (.cmp .eq (.var 2) (.tup [])) (.var 1) (.con (.non)))] }
/-- verdict_in [system, proof, loops, word, found, loop]: k95,k97,k99 -/
def D_verdict_in (ix : Nat → Nat) : Df := { fr := false, np := 1, ns := 6, body := [
    .set (.nm 1) (.call (ix N_proof_in) [(.var 0)]),
    .ifs (.cmp .isnot (.var 1) (.con (.non))) [
      .ret (.tup [(.con (.str [114, 101, 115, 116, 115])), (.var 1)])] [],
    .set (.nm 2) (.lc (.call (ix N_loop_in) [(.var 0), (.var 3), (.con (.int (2)))]) (.nm 3) (.call (ix N_starts_in) [(.var 0)]) (.con (.bl true)) [3]),
    .set (.nm 4) (.lc (.var 5) (.nm 5) (.var 2) (.cmp .isnot (.var 5) (.con (.non))) [5]),
    .ret (.ifx (.cmp .ne (.var 4) (.lst [])) (.tup [(.con (.str [108, 111, 111, 112, 115])), (.ix (.var 4) (.con (.int (0))))]) (.con (.tup [.str [111, 112, 101, 110]])))] }
/-- fits_verdict [system, value]: k95,k99 -/
def D_fits_verdict (ix : Nat → Nat) : Df := { fr := false, np := 2, ns := 2, body := [
    .ifs (.and (.cmp .eq (.var 1) (.con (.tup [.str [111, 112, 101, 110]]))) (.isi (.var 1) .tuple)) [
      .ret (.con (.bl true))] [],
    .ifs (.or (.not (.call (ix N_is_tuple_of) [(.var 1), (.con (.int (2))), (.con (.int (2)))])) (.not (.isi (.ix (.var 1) (.con (.int (0)))) .str))) [
      .ret (.con (.bl false))] [],
    .ifs (.cmp .eq (.ix (.var 1) (.con (.int (0)))) (.con (.str [114, 101, 115, 116, 115]))) [
      .ret (.call (ix N_fits_proof) [(.var 0), (.ix (.var 1) (.con (.int (1))))])] [],
    .ret (.and (.cmp .eq (.ix (.var 1) (.con (.int (0)))) (.con (.str [108, 111, 111, 112, 115]))) (.call (ix N_fits_loop) [(.var 0), (.ix (.var 1) (.con (.int (1))))]))] }
/-- verdict_of [system]: k95,k97,k99 -/
def D_verdict_of (ix : Nat → Nat) : Df := { fr := false, np := 1, ns := 1, body := [
    .expr (.call (ix N_need_system) [(.var 0)]),
    .ret (.call (ix N_verdict_in) [(.var 0)])] }
/-- is_verdict [system, value]: k95,k99 -/
def D_is_verdict (ix : Nat → Nat) : Df := { fr := false, np := 2, ns := 2, body := [
    .expr (.call (ix N_need_system) [(.var 0)]),
    .ret (.call (ix N_fits_verdict) [(.var 0), (.var 1)])] }
/-- turned_rules [system, left, right]: k96,k99 -/
def D_turned_rules (ix : Nat → Nat) : Df := { fr := false, np := 1, ns := 3, body := [
    .ret (.tup [(.ix (.var 0) (.con (.int (0)))), (.bi .tuple (.lc (.tup [(.var 2), (.var 1)]) (.tp [(.nm 1), (.nm 2)]) (.ix (.var 0) (.con (.int (1)))) (.con (.bl true)) [1, 2]))])] }
/-- fits_link [system, value]: k96,k99 -/
def D_fits_link (ix : Nat → Nat) : Df := { fr := false, np := 2, ns := 2, body := [
    .ret (.and (.call (ix N_is_tuple_of) [(.var 1), (.con (.int (3))), (.con (.int (3)))]) (.and (.cmp .isin (.ix (.var 1) (.con (.int (0)))) (.tup [(.con (.str [111, 110])), (.con (.str [98, 97, 99, 107]))])) (.call (ix N_fits_step) [(.var 0), (.sl (.var 1) (.asInt (.con (.int (1)))) (.con .non))])))] }
/-- behind_link [system, word, link, rules]: k96,k99 -/
def D_behind_link (ix : Nat → Nat) : Df := { fr := false, np := 3, ns := 4, body := [
    .set (.nm 3) (.ifx (.cmp .eq (.ix (.var 2) (.con (.int (0)))) (.con (.str [111, 110]))) (.var 0) (.call (ix N_turned_rules) [(.var 0)])),
    .ifs (.or (.cmp .gt (.ix (.var 2) (.con (.int (1)))) (.bi .len (.var 1))) (.not (.call (ix N_can_in) [(.var 3), (.var 1), (.sl (.var 2) (.asInt (.con (.int (1)))) (.con .non))]))) [
      .ret (.con (.non))] [],
    .ret (.call (ix N_behind_in) [(.var 3), (.var 1), (.sl (.var 2) (.asInt (.con (.int (1)))) (.con .non))])] }
/-- along_in [system, word, links, found, link, later]: k96,k99 -/
def D_along_in (ix : Nat → Nat) : Df := { fr := false, np := 3, ns := 6, body := [
    .new 3 (.lst [(.var 1)]),
    .fors (.nm 4) (.var 2) [
      .setF (.nm 5) (.call (ix N_behind_link) [(.var 0), (.ix (.var 3) (.neg (.con (.int (1))))), (.var 4)]),
      .ifs (.cmp .is (.var 5) (.con (.non))) [
        .ret (.con (.non))] [],
      .app 3 (.var 5)],
    .ret (.var 3)] }
/-- fits_chain [system, word, value, link]: k96,k99 -/
def D_fits_chain (ix : Nat → Nat) : Df := { fr := false, np := 3, ns := 4, body := [
    .ifs (.or (.not (.call (ix N_is_tuple_of) [(.var 2), (.con (.int (0))), (.con (.int (60)))])) (.not (.bi .all (.lc (.call (ix N_fits_link) [(.var 0), (.var 3)]) (.nm 3) (.var 2) (.con (.bl true)) [3])))) [
      .ret (.con (.bl false))] [],
    .ret (.cmp .isnot (.call (ix N_along_in) [(.var 0), (.var 1), (.var 2)]) (.con (.non)))] }
/-- is_chain [system, one, other, value]: k96,k99 -/
def D_is_chain (ix : Nat → Nat) : Df := { fr := false, np := 4, ns := 4, body := [
    .expr (.call (ix N_need_both) [(.var 0), (.var 1)]),
    .expr (.call (ix N_need_word) [(.var 0), (.var 2)]),
    .ret (.and (.call (ix N_fits_chain) [(.var 0), (.var 1), (.var 3)]) (.cmp .eq (.ix (.call (ix N_along_in) [(.var 0), (.var 1), (.var 3)]) (.neg (.con (.int (1))))) (.var 2)))] }
/-- fits_numbers [size, value, low, high, own]: k96,k99 -/
def D_fits_numbers (ix : Nat → Nat) : Df := { fr := false, np := 2, ns := 5, body := [
    .ifs (.or (.not (.call (ix N_is_tuple_of) [(.var 1), (.con (.int (3))), (.con (.int (3)))])) (.or (.not (.call (ix N_fits_whole) [(.ix (.var 1) (.con (.int (1)))), (.con (.int (0))), (.con (.int (9)))])) (.cmp .eq (.ix (.var 1) (.con (.int (1)))) (.con (.int (1)))))) [
      .ret (.con (.bl false))] [],
    .set (.tp [(.nm 2), (.nm 3)]) (.ifx (.cmp .gt (.ix (.var 1) (.con (.int (1)))) (.con (.int (0)))) (.tup [(.con (.int (0))), (.op .sub (.ix (.var 1) (.con (.int (1)))) (.con (.int (1))))]) (.tup [(.neg (.con (.int (9)))), (.con (.int (9)))])),
    .ret (.and (.call (ix N_is_tuple_of) [(.ix (.var 1) (.con (.int (2)))), (.var 0), (.var 0)]) (.bi .all (.lc (.call (ix N_fits_whole) [(.var 4), (.var 2), (.var 3)]) (.nm 4) (.ix (.var 1) (.con (.int (2)))) (.con (.bl true)) [4])))] }
/-- fits_machine [size, value, row, many, own]: k96,k99 -/
def D_fits_machine (ix : Nat → Nat) : Df := { fr := false, np := 2, ns := 5, body := [
    .ifs (.or (.not (.call (ix N_is_tuple_of) [(.var 1), (.con (.int (2))), (.con (.int (2)))])) (.not (.call (ix N_is_tuple_of) [(.ix (.var 1) (.con (.int (1)))), (.var 0), (.var 0)]))) [
      .ret (.con (.bl false))] [],
    .ifs (.not (.bi .all (.lc (.call (ix N_is_tuple_of) [(.var 2), (.con (.int (1))), (.con (.int (5)))]) (.nm 2) (.ix (.var 1) (.con (.int (1)))) (.con (.bl true)) [2]))) [
      .ret (.con (.bl false))] [],
    .set (.nm 3) (.bi .len (.ix (.ix (.var 1) (.con (.int (1)))) (.con (.int (0))))),
    .ret (.bi .all (.lc (.and (.cmp .eq (.bi .len (.var 2)) (.var 3)) (.bi .all (.lc (.call (ix N_fits_whole) [(.var 4), (.con (.int (0))), (.op .sub (.var 3) (.con (.int (1))))]) (.nm 4) (.var 2) (.con (.bl true)) [4]))) (.nm 2) (.ix (.var 1) (.con (.int (1)))) (.con (.bl true)) [2]))] }
/-- fits_teller [size, value]: k96,k99 -/
def D_fits_teller (ix : Nat → Nat) : Df := { fr := false, np := 2, ns := 2, body := [
    .ifs (.or (.not (.call (ix N_is_tuple_of) [(.var 1), (.con (.int (2))), (.con (.int (3)))])) (.not (.isi (.ix (.var 1) (.con (.int (0)))) .str))) [
      .ret (.con (.bl false))] [],
    .ifs (.cmp .eq (.ix (.var 1) (.con (.int (0)))) (.con (.str [110, 117, 109, 98, 101, 114, 115]))) [
      .ret (.call (ix N_fits_numbers) [(.var 0), (.var 1)])] [],
    .ret (.and (.cmp .eq (.ix (.var 1) (.con (.int (0)))) (.con (.str [109, 97, 99, 104, 105, 110, 101]))) (.call (ix N_fits_machine) [(.var 0), (.var 1)]))] }
/-- telling_in [teller, word, total, letter, found, at]: k96,k99 -/
def D_telling_in (ix : Nat → Nat) : Df := { fr := false, np := 2, ns := 6, body := [
    .ifs (.cmp .eq (.ix (.var 0) (.con (.int (0)))) (.con (.str [110, 117, 109, 98, 101, 114, 115]))) [
      .set (.nm 2) (.bi .sum (.lc (.ix (.ix (.var 0) (.con (.int (2)))) (.me .index (.con (.str [97, 98, 99, 100])) (.var 3))) (.nm 3) (.var 1) (.con (.bl true)) [3])),
      .ret (.ifx (.cmp .gt (.ix (.var 0) (.con (.int (1)))) (.con (.int (0)))) (.op .mod (.var 2) (.ix (.var 0) (.con (.int (1))))) (.var 2))] [],
    .set (.nm 4) (.bi .tuple (.rng [(.bi .len (.ix (.ix (.var 0) (.con (.int (1)))) (.con (.int (0)))))])),
    .fors (.nm 3) (.var 1) [
      .set (.nm 4) (.bi .tuple (.lc (.ix (.ix (.ix (.var 0) (.con (.int (1)))) (.me .index (.con (.str [97, 98, 99, 100])) (.var 3))) (.var 5)) (.nm 5) (.var 4) (.con (.bl true)) [5]))],
    .ret (.var 4)] }
/-- keeps_in [rules, teller, left, right]: k96,k99 -/
def D_keeps_in (ix : Nat → Nat) : Df := { fr := false, np := 2, ns := 4, body := [
    .ret (.bi .all (.lc (.cmp .eq (.call (ix N_telling_in) [(.var 1), (.var 2)]) (.call (ix N_telling_in) [(.var 1), (.var 3)])) (.tp [(.nm 2), (.nm 3)]) (.var 0) (.con (.bl true)) [2, 3]))] }
/-- fits_parting [system, value]: k96,k99 -/
def D_fits_parting (ix : Nat → Nat) : Df := { fr := false, np := 2, ns := 2, body := [
    .ret (.and (.call (ix N_fits_teller) [(.ix (.var 0) (.con (.int (0)))), (.var 1)]) (.call (ix N_keeps_in) [(.ix (.var 0) (.con (.int (1)))), (.var 1)]))] }
/-- rows_of [items, size, found, turn, row, own]: k96,k99 -/
def D_rows_of (ix : Nat → Nat) : Df := { fr := false, np := 2, ns := 6, body := [
    .set (.nm 2) (.lst [(.tup [])]),
    .fors (.nm 3) (.rng [(.var 1)]) [
      .set (.nm 2) (.lc2 (.op .add (.var 4) (.tup [(.var 5)])) (.nm 4) (.var 2) (.con (.bl true)) (.nm 5) (.var 0) (.con (.bl true)) [4, 5] [5])],
    .ret (.var 2)] }
/-- numbers_in [system, modulus, rows, row, own]: k96,k99 -/
def D_numbers_in (ix : Nat → Nat) : Df := { fr := false, np := 2, ns := 5, body := [
    .set (.nm 2) (.lc (.tup [(.con (.str [110, 117, 109, 98, 101, 114, 115])), (.var 1), (.var 3)]) (.nm 3) (.call (ix N_rows_of) [(.rng [(.var 1)]), (.ix (.var 0) (.con (.int (0))))]) (.con (.bl true)) [3]),
    .ret (.lc (.ix (.var 4) (.con (.int (2)))) (.nm 4) (.var 2) (.call (ix N_keeps_in) [(.ix (.var 0) (.con (.int (1)))), (.var 4)]) [4])] }
/-- machines_in [size, found, row]: k96,k99 -/
def D_machines_in (ix : Nat → Nat) : Df := { fr := false, np := 1, ns := 3, body := [
    .set (.nm 1) (.lc (.tup [(.con (.str [109, 97, 99, 104, 105, 110, 101])), (.var 2)]) (.nm 2) (.call (ix N_rows_of) [(.call (ix N_rows_of) [(.tup [(.con (.int (0))), (.con (.int (1)))]), (.con (.int (2)))]), (.var 0)]) (.con (.bl true)) [2]),
    .ret (.op .add (.var 1) (.ifx (.cmp .lt (.var 0) (.con (.int (3)))) (.lc (.tup [(.con (.str [109, 97, 99, 104, 105, 110, 101])), (.var 2)]) (.nm 2) (.call (ix N_rows_of) [(.call (ix N_rows_of) [(.tup [(.con (.int (0))), (.con (.int (1))), (.con (.int (2)))]), (.con (.int (3)))]), (.var 0)]) (.con (.bl true)) [2]) (.lst [])))] }
/-- find_parting [system, one, other, modulus, row, own]: k96,k99 -/
def D_find_parting (ix : Nat → Nat) : Df := { fr := false, np := 3, ns := 6, body := [
    .expr (.call (ix N_need_both) [(.var 0), (.var 1)]),
    .expr (.call (ix N_need_word) [(.var 0), (.var 2)]),
    .fors (.nm 3) (.con (.tup [.int (2), .int (3), .int (4), .int (5)])) [
      .fors (.nm 4) (.call (ix N_numbers_in) [(.var 0), (.var 3)]) [
        .set (.nm 5) (.tup [(.con (.str [110, 117, 109, 98, 101, 114, 115])), (.var 3), (.var 4)]),
        .ifs (.cmp .ne (.call (ix N_telling_in) [(.var 5), (.var 1)]) (.call (ix N_telling_in) [(.var 5), (.var 2)])) [
          .ret (.var 5)] []]],
    .fors (.nm 5) (.call (ix N_machines_in) [(.ix (.var 0) (.con (.int (0))))]) [
      .ifs (.and (.cmp .ne (.call (ix N_telling_in) [(.var 5), (.var 1)]) (.call (ix N_telling_in) [(.var 5), (.var 2)])) (.call (ix N_keeps_in) [(.ix (.var 0) (.con (.int (1)))), (.var 5)])) [
        .ret (.var 5)] []],
    .ret (.con (.non))] }
/-- telling_of_two [system, one, other, parting, chain]: k96,k99 -/
def D_telling_of_two (ix : Nat → Nat) : Df := { fr := false, np := 3, ns := 5, body := [
    .expr (.call (ix N_need_both) [(.var 0), (.var 1)]),
    .expr (.call (ix N_need_word) [(.var 0), (.var 2)]),
    .set (.nm 3) (.call (ix N_find_parting) [(.var 0), (.var 1), (.var 2)]),
    .ifs (.cmp .isnot (.var 3) (.con (.non))) [
      .ret (.tup [(.con (.str [112, 97, 114, 116, 101, 100])), (.var 3)])] [],
    .set (.nm 4) (.ifx (.cmp .isnot (.call (ix N_proof_in) [(.var 0)]) (.con (.non))) (.call (ix N_chain_by_rests) [(.var 0), (.var 1), (.var 2)]) (.con (.non))),
    .ret (.ifx (.cmp .isnot (.var 4) (.con (.non))) (.tup [(.con (.str [97, 108, 105, 107, 101])), (.var 4)]) (.con (.tup [.str [111, 112, 101, 110]])))] }
/-- is_telling [system, one, other, value]: k96,k99 -/
def D_is_telling (ix : Nat → Nat) : Df := { fr := false, np := 4, ns := 4, body := [
    .expr (.call (ix N_need_both) [(.var 0), (.var 1)]),
    .expr (.call (ix N_need_word) [(.var 0), (.var 2)]),
    .ifs (.and (.cmp .eq (.var 3) (.con (.tup [.str [111, 112, 101, 110]]))) (.isi (.var 3) .tuple)) [
      .ret (.con (.bl true))] [],
    .ifs (.or (.not (.call (ix N_is_tuple_of) [(.var 3), (.con (.int (2))), (.con (.int (2)))])) (.not (.isi (.ix (.var 3) (.con (.int (0)))) .str))) [
      .ret (.con (.bl false))] [],
    .ifs (.cmp .eq (.ix (.var 3) (.con (.int (0)))) (.con (.str [97, 108, 105, 107, 101]))) [
      .ret (.call (ix N_is_chain) [(.var 0), (.var 1), (.var 2), (.ix (.var 3) (.con (.int (1))))])] [],
    .ifs (.or (.cmp .ne (.ix (.var 3) (.con (.int (0)))) (.con (.str [112, 97, 114, 116, 101, 100]))) (.not (.call (ix N_fits_parting) [(.var 0), (.ix (.var 3) (.con (.int (1))))]))) [
      .ret (.con (.bl false))] [],
    .ret (.cmp .ne (.call (ix N_telling_in) [(.ix (.var 3) (.con (.int (1)))), (.var 1)]) (.call (ix N_telling_in) [(.ix (.var 3) (.con (.int (1)))), (.var 2)]))] }
/-- rests_in [system, overlap, side]: k97,k99 -/
def D_rests_in (ix : Nat → Nat) : Df := { fr := false, np := 2, ns := 3, body := [
    .ret (.bi .tuple (.lc (.ix (.call (ix N_rest_in) [(.var 0), (.var 2)]) (.con (.int (1)))) (.nm 2) (.call (ix N_sides_in) [(.var 0), (.var 1)]) (.con (.bl true)) [2]))] }
/-- open_in [system, own]: k97,k99 -/
def D_open_in (ix : Nat → Nat) : Df := { fr := false, np := 1, ns := 2, body := [
    .ret (.lc (.var 1) (.nm 1) (.call (ix N_overlaps_in) [(.var 0)]) (.cmp .gt (.lenset (.call (ix N_rests_in) [(.var 0), (.var 1)])) (.con (.int (1)))) [1])] }
/-- has_left [system, word, left, right]: k97,k99 -/
def D_has_left (ix : Nat → Nat) : Df := { fr := false, np := 2, ns := 4, body := [
    .ret (.bi .any (.lc (.cmp .isin (.var 2) (.var 1)) (.tp [(.nm 2), (.nm 3)]) (.ix (.var 0) (.con (.int (1)))) (.con (.bl true)) [2, 3]))] }
/-- next_state [system, states, at, letter, word, begin]: k97,k99 -/
def D_next_state (ix : Nat → Nat) : Df := { fr := false, np := 4, ns := 6, body := [
    .set (.nm 4) (.op .add (.ix (.var 1) (.var 2)) (.var 3)),
    .ifs (.call (ix N_has_left) [(.var 0), (.var 4)]) [
      .ret (.con (.int (-1)))] [],
    .ret (.ix (.lc (.me .index (.var 1) (.sl (.var 4) (.asInt (.var 5)) (.con .non))) (.nm 5) (.rng [(.op .add (.bi .len (.var 4)) (.con (.int (1))))]) (.cmp .isin (.sl (.var 4) (.asInt (.var 5)) (.con .non)) (.var 1)) [5]) (.con (.int (0))))] }
/-- table_in [system, states, letter, at]: k97,k99 -/
def D_table_in (ix : Nat → Nat) : Df := { fr := false, np := 2, ns := 4, body := [
    .ret (.lc (.lc (.call (ix N_next_state) [(.var 0), (.var 1), (.var 3), (.var 2)]) (.nm 2) (.sl (.con (.str [97, 98, 99, 100])) (.con .non) (.asInt (.ix (.var 0) (.con (.int (0)))))) (.con (.bl true)) [2]) (.nm 3) (.rng [(.bi .len (.var 1))]) (.con (.bl true)) [3])] }
/-- machine_in [system, states]: k97,k99 -/
def D_machine_in (ix : Nat → Nat) : Df := { fr := false, np := 1, ns := 2, body := [
    .set (.nm 1) (.call (ix N_states_in) [(.var 0)]),
    .ret (.tup [(.var 1), (.call (ix N_table_in) [(.var 0), (.var 1)])])] }
/-- counts_in [table, many, rows, own, turn, to]: k97,k99 -/
def D_counts_in (ix : Nat → Nat) : Df := { fr := false, np := 2, ns := 6, body := [
    .new 2 (.lst [(.lc (.con (.int (1))) (.nm 3) (.var 0) (.con (.bl true)) [3])]),
    .fors (.nm 4) (.rng [(.var 1)]) [
      .appF 2 (.lc (.bi .sum (.lc (.ix (.ix (.var 2) (.neg (.con (.int (1))))) (.var 5)) (.nm 5) (.var 3) (.cmp .ne (.var 5) (.con (.int (-1)))) [5])) (.nm 3) (.var 0) (.con (.bl true)) [3])],
    .ret (.var 2)] }
/-- longest_in_table [table, rows, alive, many, row]: k97,k99 -/
def D_longest_in_table (ix : Nat → Nat) : Df := { fr := false, np := 1, ns := 5, body := [
    .set (.nm 1) (.call (ix N_counts_in) [(.var 0), (.bi .len (.var 0))]),
    .set (.nm 2) (.lc (.var 3) (.tp [(.nm 3), (.nm 4)]) (.enum (.var 1)) (.cmp .gt (.ix (.var 4) (.con (.int (0)))) (.con (.int (0)))) [3, 4]),
    .ret (.ifx (.cmp .lt (.ix (.var 2) (.neg (.con (.int (1))))) (.bi .len (.var 0))) (.ix (.var 2) (.neg (.con (.int (1))))) (.con (.non)))] }
/-- rests_in_all [system, table, row]: k97,k99 -/
def D_rests_in_all (ix : Nat → Nat) : Df := { fr := false, np := 1, ns := 3, body := [
    .expr (.call (ix N_need_system) [(.var 0)]),
    .set (.nm 1) (.ix (.call (ix N_machine_in) [(.var 0)]) (.con (.int (1)))),
    .ifs (.cmp .is (.call (ix N_longest_in_table) [(.var 1)]) (.con (.non))) [
      .ret (.con (.non))] [],
    .ret (.bi .sum (.lc (.ix (.var 2) (.con (.int (0)))) (.nm 2) (.call (ix N_counts_in) [(.var 1), (.bi .len (.var 1))]) (.con (.bl true)) [2]))] }
/-- kind_in [system]: k97,k99 -/
def D_kind_in (ix : Nat → Nat) : Df := { fr := false, np := 1, ns := 1, body := [
    .ifs (.cmp .is (.call (ix N_proof_in) [(.var 0)]) (.con (.non))) [
      .ret (.con (.non))] [],
    .ret (.ifx (.cmp .eq (.call (ix N_open_in) [(.var 0)]) (.lst [])) (.con (.str [111, 110, 101])) (.con (.str [109, 111, 114, 101])))] }
/-- kind_of_rests [system]: k97,k99 -/
def D_kind_of_rests (ix : Nat → Nat) : Df := { fr := false, np := 1, ns := 1, body := [
    .expr (.call (ix N_need_system) [(.var 0)]),
    .ret (.call (ix N_kind_in) [(.var 0)])] }
/-- summary [system, kind, many]: k97,k99 -/
def D_summary (ix : Nat → Nat) : Df := { fr := false, np := 1, ns := 3, body := [
    .expr (.call (ix N_need_system) [(.var 0)]),
    .set (.nm 1) (.call (ix N_kind_in) [(.var 0)]),
    .set (.nm 2) (.ifx (.cmp .isnot (.var 1) (.con (.non))) (.bi .len (.call (ix N_open_in) [(.var 0)])) (.con (.non))),
    .ret (.tup [(.ix (.call (ix N_verdict_in) [(.var 0)]) (.con (.int (0)))), (.var 1), (.bi .len (.call (ix N_overlaps_in) [(.var 0)])), (.var 2), (.call (ix N_rests_in_all) [(.var 0)])])] }
end R
set_option Elab.async false
set_option linter.all false
set_option maxRecDepth 100000
set_option maxHeartbeats 4000000
/-! What the shared defs compute: words, rules, systems, steps. -/
namespace R

/-! ### loops -/
theorem forGo_pre {α : Type} {tg : Tg} {body : Sl → Mo Out} {c : α → Dat} {I : List α → Sl → Prop} {g : List Dat} {xs : List α} (h : ∀ pre x post, xs = pre ++ x :: post → ∀ ρ, I pre ρ → ∃ ρ1, bindT tg (c x) ρ = some ρ1 ∧ ∃ ρ2, body ρ1 g = .ok (.nx ρ2) g ∧ I (pre ++ [x]) ρ2) :
    ∀ {ρ}, I [] ρ → ∃ ρ2, forGo tg body (xs.map c) ρ g = .ok (.nx ρ2) g ∧ I xs ρ2 := by
  have key : ∀ (post pre : List α) (ρ : Sl), xs = pre ++ post → I pre ρ → ∃ ρ2, forGo tg body (post.map c) ρ g = .ok (.nx ρ2) g ∧ I xs ρ2 := by
    intro post
    induction post with
    | nil =>
      intro pre ρ e hI
      rw [List.append_nil] at e
      subst e
      exact ⟨ρ, rfl, hI⟩
    | cons x post ih =>
      intro pre ρ e hI
      obtain ⟨ρ1, h1, ρ2, h2, h3⟩ := h pre x post e ρ hI
      obtain ⟨ρ3, h4, h5⟩ := ih (pre ++ [x]) ρ2 (by rw [e]; simp) h3
      refine ⟨ρ3, ?_, h5⟩
      rw [List.map_cons, forGo_cons h1, h2]
      exact h4
  intro ρ hI
  exact key xs [] ρ rfl hI
theorem forGo_find {α : Type} {tg : Tg} {body : Sl → Mo Out} {c : α → Dat} {I : Sl → Prop} {p : α → Bool} {out : Dat} {f : Bool} {g : List Dat} : ∀ {xs : List α} {ρ}, I ρ →
    (∀ x ∈ xs, ∀ ρ, I ρ → ∃ ρ1, bindT tg (c x) ρ = some ρ1 ∧ ((p x = true ∧ body ρ1 g = .ok (.rt out f) g) ∨ (p x = false ∧ ∃ ρ2, body ρ1 g = .ok (.nx ρ2) g ∧ I ρ2))) →
    (xs.any p = true ∧ forGo tg body (xs.map c) ρ g = .ok (.rt out f) g) ∨ (xs.any p = false ∧ ∃ ρ2, forGo tg body (xs.map c) ρ g = .ok (.nx ρ2) g ∧ I ρ2)
  | [], ρ, hI, _ => .inr ⟨rfl, ρ, rfl, hI⟩
  | x :: xs, ρ, hI, h => by
    obtain ⟨ρ1, h1, h2⟩ := h x List.mem_cons_self ρ hI
    rw [List.map_cons, forGo_cons h1]
    rcases h2 with ⟨hp, h2⟩ | ⟨hp, ρ2, h2, h3⟩
    · refine .inl ⟨by rw [List.any_cons, hp, Bool.true_or], ?_⟩
      rw [h2]
      rfl
    · rw [h2]
      rcases forGo_find h3 fun y hy => h y (List.mem_cons_of_mem _ hy) with ⟨a, b⟩ | ⟨a, ρ3, b, d⟩
      · exact .inl ⟨by rw [List.any_cons, hp, a]; rfl, b⟩
      · exact .inr ⟨by rw [List.any_cons, hp, a]; rfl, ρ3, b, d⟩
theorem lcC_map {α : Type} {step : Dat → Mo (Option Dat)} {p : α → Bool} {e : α → Dat} {c : α → Dat} {g : List Dat} : ∀ {xs : List α} {acc : List Dat}, (∀ x ∈ xs, step (c x) g = .ok (if p x = true then some (e x) else none) g) → acc.length + xs.length ≤ 16777216 → lcGoC step acc (xs.map c) g = .ok (acc ++ (xs.filter p).map e) g
  | [], acc, _, _ => by simp [lcGoC]
  | x :: xs, acc, h, hz => by
    rw [List.length_cons] at hz
    have hl : line = 16777216 := rfl
    rw [List.map_cons, lcGoC_cons, h x List.mem_cons_self]
    by_cases hp : p x = true
    · simp only [hp, if_true, noexc_ok', bind_ok]
      rw [if_pos (by omega), lcC_map (fun y hy => h y (List.mem_cons_of_mem _ hy)) (by rw [List.length_append, List.length_singleton]; omega), List.filter_cons_of_pos hp]
      simp
    · simp only [hp, if_false, noexc_ok', bind_ok, Bool.false_eq_true]
      rw [lcC_map (fun y hy => h y (List.mem_cons_of_mem _ hy)) (by omega), List.filter_cons_of_neg hp]
theorem lcc_map {α : Type} {step : List Dat → Dat → Mo (List Dat)} {h : α → List Dat} {c : α → Dat} {g : List Dat} {B : Nat} : ∀ {xs : List α} {acc : List Dat}, (acc ++ xs.flatMap h).length ≤ B → (∀ x ∈ xs, ∀ acc : List Dat, (acc ++ h x).length ≤ B → step acc (c x) g = .ok (acc ++ h x) g) → lcGo2 step acc (xs.map c) g = .ok (acc ++ xs.flatMap h) g
  | [], acc, _, _ => by simp [lcGo2]
  | x :: xs, acc, hB, hs => by
    rw [List.flatMap_cons] at hB
    rw [List.map_cons, lcGo2_cons, hs x List.mem_cons_self acc (by simp only [List.length_append] at hB ⊢; omega)]
    simp only [noexc_ok', bind_ok]
    rw [lcc_map (acc := acc ++ h x) (by rw [List.append_assoc]; exact hB) fun y hy => hs y (List.mem_cons_of_mem _ hy), List.flatMap_cons, List.append_assoc]
/-! ### words, rules, systems -/
abbrev Wrd := List Nat
abbrev Rl := Wrd × Wrd
def Wd (sz : Nat) (w : Wrd) : Prop := ∀ c ∈ w, 97 ≤ c ∧ c < 97 + sz
def dR (r : Rl) : Dat := .tup [.str r.1, .str r.2]
def dS (sz : Nat) (rs : List Rl) : Dat := .tup [.int sz, .tup (rs.map dR)]
structure GoodR (sz : Nat) (r : Rl) : Prop where
  wl : Wd sz r.1
  wr : Wd sz r.2
  l1 : 1 ≤ r.1.length
  l2 : r.1.length ≤ 6
  r2 : r.2.length ≤ 6
  ne : r.1 ≠ r.2
structure GoodS (sz : Nat) (rs : List Rl) : Prop where
  s1 : 1 ≤ sz
  s2 : sz ≤ 4
  n1 : 1 ≤ rs.length
  n2 : rs.length ≤ 8
  r : ∀ r ∈ rs, GoodR sz r
  nd : rs.Nodup
theorem eqB_dR (a b : Rl) : eqB (dR a) (dR b) = decide (a = b) := by
  obtain ⟨a1, a2⟩ := a
  obtain ⟨b1, b2⟩ := b
  simp [dR, eqB, eqAllB]
  by_cases h1 : a1 = b1 <;> by_cases h2 : a2 = b2 <;> simp [h1, h2]
theorem nkB_dR (r : Rl) : nkB (dR r) 8 = true := by simp [dR, nkB, nkLB]
theorem cnt_nodup : ∀ (rs seen : List Rl), (seen ++ rs).Nodup → cntGoD (seen.map dR) (rs.map dR) = rs.length
  | [], _, _ => rfl
  | r :: rs, seen, h => by
    rw [List.map_cons]
    unfold cntGoD
    have e : (seen.map dR).any (fun y => eqB y (dR r)) = false := by
      rw [Bool.eq_false_iff]
      intro q
      rw [List.any_eq_true] at q
      obtain ⟨y, hy, q⟩ := q
      obtain ⟨z, hz, rfl⟩ := List.mem_map.mp hy
      rw [eqB_dR, decide_eq_true_eq] at q
      subst q
      rw [List.nodup_append] at h
      exact h.2.2 z hz z List.mem_cons_self rfl
    have := cnt_nodup rs (seen ++ [r]) (by simpa using h)
    rw [List.map_append] at this
    rw [e, show (seen.map dR) ++ [dR r] = seen.map dR ++ [r].map dR from rfl, this]
    simp
    omega
theorem lenset_rules {rs : List Rl} (h : rs.Nodup) (hz : rs.length ≤ 8) : lenSetD (.tup (rs.map dR)) = some rs.length := by
  unfold lenSetD seqD
  rw [Option.bind_some]
  have e := cnt_nodup rs [] (by simpa using h)
  have e : cntD (rs.map dR) = rs.length := e
  by_cases ha : ((rs.map dR).all atomB && decide ((rs.map dR).length ≤ 4000)) = true
  · rw [if_pos ha, e]
  · rw [if_neg ha, if_pos, e]
    simp only [Bool.and_eq_true, List.all_eq_true, decide_eq_true_eq, List.length_map]
    refine ⟨⟨fun d hd => ?_, fun d hd => ?_⟩, by omega⟩
    · obtain ⟨r, _, rfl⟩ := List.mem_map.mp hd
      rfl
    · obtain ⟨r, _, rfl⟩ := List.mem_map.mp hd
      exact nkB_dR r
theorem den_lenset {F : Nat → List Dat → Mo Dat} {a : Ex} {ρ : Sl} {g : List Dat} : den F (.lenset a) ρ g = (den F a ρ g).bind fun x g => ofO ((lenSetD x).map fun (n : Nat) => Dat.int (n : Int)) g := by simp only [den]
theorem den_zip {F : Nat → List Dat → Mo Dat} {a b : Ex} {ρ : Sl} {g : List Dat} : den F (.zip a b) ρ g = (den F a ρ g).bind fun x g => (den F b ρ g).bind fun y g => ofO ((zipD x y).map .lst) g := by simp only [den]
theorem den_enum {F : Nat → List Dat → Mo Dat} {a : Ex} {ρ : Sl} {g : List Dat} : den F (.enum a) ρ g = (den F a ρ g).bind fun x g => ofO ((enumD x).map .lst) g := by simp only [den]
theorem infix_letter {sz c : Nat} (hs : sz ≤ 4) (h : 97 ≤ c ∧ c < 97 + sz) : infixB [c] (List.take sz [97, 98, 99, 100]) = true := by
  obtain ⟨h1, h2⟩ := h
  obtain rfl | rfl | rfl | rfl : c = 97 ∨ c = 98 ∨ c = 99 ∨ c = 100 := by omega
  all_goals
    obtain rfl | rfl | rfl | rfl | rfl : sz = 0 ∨ sz = 1 ∨ sz = 2 ∨ sz = 3 ∨ sz = 4 := by omega
  all_goals first | (exfalso; omega) | rfl
structure WordsAt (P : Pg) (ix : Nat → Nat) : Prop where
  tup : P[ix N_is_tuple_of]? = some (D_is_tuple_of ix)
  who : P[ix N_fits_whole]? = some (D_fits_whole ix)
  ltr : P[ix N_fits_letters]? = some (D_fits_letters ix)
  rul : P[ix N_fits_rule]? = some (D_fits_rule ix)
  sys : P[ix N_fits_system]? = some (D_fits_system ix)
  need : P[ix N_need_system]? = some (D_need_system ix)
section
variable {P : Pg} {ix : Nat → Nat} {k : Nat} {g : List Dat}
theorem tuple_call (A : WordsAt P ix) {xs : List Dat} {lo hi : Int} (h1 : lo ≤ xs.length) (h2 : xs.length ≤ hi) : callK P (k + 1) (ix N_is_tuple_of) [.tup xs, .int lo, .int hi] g = .ok (.bl true) g := by
  rw [callK_eq A.tup rfl]
  simp [D_is_tuple_of, isiD, h1, h2]
theorem whole_call (A : WordsAt P ix) {n lo hi : Int} (h1 : lo ≤ n) (h2 : n ≤ hi) : callK P (k + 1) (ix N_fits_whole) [.int n, .int lo, .int hi] g = .ok (.bl true) g := by
  rw [callK_eq A.who rfl]
  simp [D_fits_whole, isiD, h1, h2]
theorem letters_call (A : WordsAt P ix) {w : Wrd} {sz : Nat} {lo hi : Int} (hs : sz ≤ 4) (hw : Wd sz w) (h1 : lo ≤ w.length) (h2 : w.length ≤ hi) : callK P (k + 1) (ix N_fits_letters) [.str w, .int sz, .int lo, .int hi] g = .ok (.bl true) g := by
  rw [callK_eq A.ltr rfl]
  have hlc : lcGo (lcStep (callK P k) (.cmp .isin (.var 4) (.sl (.con (.str [97, 98, 99, 100])) (.con .non) (.asInt (.var 1)))) (.nm 4) (.con (.bl true)) [some (.str w), some (.int sz), some (.int lo), some (.int hi), none]) [] (w.map fun c => .str [c]) g = .ok (w.map fun _ => .bl true) g := by
    rw [lc_map (p := fun _ => true) (e := fun _ => .bl true)]
    · rw [List.filter_eq_self.mpr (by simp)]; rfl
    · intro c hc
      rw [lcStep_nm]
      have := cut_to [97, 98, 99, 100] sz
      simp [this, infix_letter hs (hw c hc)]
  have ha : biD .all (.lst (w.map fun _ => Dat.bl true)) = some (.bl true) := by
    rw [all_map (fun _ => true)]
    simp
  simp [D_fits_letters, isiD, den_lc2, hlc, ha, h1, h2]
theorem rule_call (A : WordsAt P ix) {sz : Nat} {r : Rl} (hs : sz ≤ 4) (h : GoodR sz r) : callK P (k + 2) (ix N_fits_rule) [.int sz, dR r] g = .ok (.bl true) g := by
  rw [callK_eq A.rul rfl]
  have f1 := letters_call (k := k) (g := g) A hs h.wl (lo := 1) (hi := 6) (by have := h.l1; omega) (by have := h.l2; omega)
  have f2 := letters_call (k := k) (g := g) A hs h.wr (lo := 0) (hi := 6) (by omega) (by have := h.r2; omega)
  have e0 := tuple_call (k := k) (g := g) A (xs := [.str r.1, .str r.2]) (lo := 2) (hi := 2) (by simp) (by simp)
  have hn := h.ne
  simp [D_fits_rule, dR, e0, f1, f2, hn]
theorem system_call (A : WordsAt P ix) {sz : Nat} {rs : List Rl} (h : GoodS sz rs) : callK P (k + 3) (ix N_fits_system) [dS sz rs] g = .ok (.bl true) g := by
  rw [callK_eq A.sys rfl]
  have e1 := tuple_call (k := k + 1) (g := g) A (xs := [.int sz, .tup (rs.map dR)]) (lo := 2) (hi := 2) (by simp) (by simp)
  have e2 := whole_call (k := k + 1) (g := g) A (n := sz) (lo := 1) (hi := 4) (by have := h.s1; omega) (by have := h.s2; omega)
  have e3 := tuple_call (k := k + 1) (g := g) A (xs := rs.map dR) (lo := 1) (hi := 8) (by have := h.n1; simp; omega) (by have := h.n2; simp; omega)
  have hlc : lcGo (lcStep (callK P (k + 2)) (.call (ix N_fits_rule) [(.var 1), (.var 3)]) (.nm 3) (.con (.bl true)) [some (dS sz rs), some (.int sz), some (.tup (rs.map dR)), none]) [] (rs.map dR) g = .ok (rs.map fun _ => .bl true) g := by
    rw [lc_map (p := fun _ => true) (e := fun _ => .bl true)]
    · rw [List.filter_eq_self.mpr (by simp)]; rfl
    · intro r hr
      rw [lcStep_nm]
      simp [rule_call (k := k) (g := g) A h.s2 (h.r r hr)]
  have ha : biD .all (.lst (rs.map fun _ => Dat.bl true)) = some (.bl true) := by
    rw [all_map (fun _ => true)]
    simp
  have hls := lenset_rules h.nd h.n2
  rw [show dS sz rs = .tup [.int sz, .tup (rs.map dR)] from rfl] at hlc ⊢
  simp [D_fits_system, e1, e2, e3, den_lc2, hlc, ha, den_lenset, hls]
theorem need_call (A : WordsAt P ix) {sz : Nat} {rs : List Rl} (h : GoodS sz rs) : callK P (k + 4) (ix N_need_system) [dS sz rs] g = .ok .non g := by
  rw [callK_eq A.need rfl]
  have e := system_call (k := k) (g := g) A h
  have er : era (some (dS sz rs)) = some (dS sz rs) := rfl
  have es : stp (some (dS sz rs)) = some (dS sz rs) := rfl
  simp [D_need_system, e, er, es]
end
end R
set_option Elab.async false
set_option linter.all false
set_option maxRecDepth 100000
set_option maxHeartbeats 4000000
/-! Steps of a word in a system. -/
namespace R

/-- l lies in w at the place -/
def occ (l w : Wrd) (at' : Nat) : Bool := l.isPrefixOf (w.drop at')
theorem occ_iff {l w : Wrd} {a : Nat} : occ l w a = true ↔ (w.drop a).take l.length = l := by
  unfold occ
  rw [List.isPrefixOf_iff_prefix, List.prefix_iff_eq_take]
  exact ⟨fun h => h.symm, fun h => h.symm⟩
theorem occ_len {l w : Wrd} {a : Nat} (h : occ l w a = true) (h1 : 1 ≤ l.length) : a + l.length ≤ w.length := by
  have := congrArg List.length (occ_iff.mp h)
  rw [List.length_take, List.length_drop] at this
  omega
def places (l w : Wrd) : List Nat := (List.range (w.length + 1 - l.length)).filter (occ l w)
def rowsN (rs : List Rl) (w : Wrd) : List (Nat × Nat) := rs.zipIdx.flatMap fun p => (places p.1.1 w).map fun a => (a, p.2)
def lft (rs : List Rl) (n : Nat) : Wrd := (rs.getD n ([], [])).1
def rgt (rs : List Rl) (n : Nat) : Wrd := (rs.getD n ([], [])).2
/-- the steps, place by place -/
def stepsN (rs : List Rl) (w : Wrd) : List (Nat × Nat) := (List.range w.length).flatMap fun a => ((List.range rs.length).filter fun n => occ (lft rs n) w a).map fun n => (a, n)
def ltNN (x y : Nat × Nat) : Bool := decide (x.1 < y.1) || (decide (x.1 = y.1) && decide (x.2 < y.2))
def leNN (x y : Nat × Nat) : Bool := !ltNN y x
theorem leNN_total : PySem.W.TotalLe leNN where
  trans a b c h1 h2 := by
    simp only [leNN, ltNN, Bool.not_eq_true', Bool.or_eq_false_iff, decide_eq_false_iff_not, Bool.and_eq_false_iff] at *
    omega
  total a b := by
    simp only [leNN, ltNN, Bool.not_eq_true', Bool.or_eq_false_iff, decide_eq_false_iff_not, Bool.and_eq_false_iff]
    omega
theorem sameNN {c a : Nat × Nat} : PySem.W.sameRank leNN c a = (a == c) := by
  rw [Bool.eq_iff_iff, beq_iff_eq]
  obtain ⟨a1, a2⟩ := a
  obtain ⟨c1, c2⟩ := c
  simp only [PySem.W.sameRank, leNN, ltNN, Bool.and_eq_true, Bool.not_eq_true', Bool.or_eq_false_iff, decide_eq_false_iff_not, Bool.and_eq_false_iff, Prod.mk.injEq]
  omega
theorem filter_nd {l : List (Nat × Nat)} (h : l.Nodup) (c : Nat × Nat) : l.filter (· == c) = if c ∈ l then [c] else [] := by
  rw [List.filter_beq, h.count]
  split <;> rfl
theorem sort_nd {l m : List (Nat × Nat)} (hl : l.Nodup) (hm : m.Nodup) (hs : m.Pairwise fun x y => leNN x y = true) (he : ∀ x, x ∈ l ↔ x ∈ m) : sortG ltNN l = m := by
  rw [sortG_merge leNN_total (fun a b => rfl)]
  refine (PySem.W.sort_unique leNN_total hs fun c => ?_).symm
  have e : PySem.W.sameRank leNN c = (· == c) := funext fun a => sameNN
  rw [e, filter_nd hl, filter_nd hm]
  simp only [he]
theorem mem_places {l w : Wrd} {a : Nat} (h1 : 1 ≤ l.length) : a ∈ places l w ↔ occ l w a = true := by
  unfold places
  rw [List.mem_filter, List.mem_range]
  exact ⟨fun h => h.2, fun h => ⟨by have := occ_len h h1; omega, h⟩⟩
theorem mem_rowsN {rs : List Rl} {w : Wrd} (h1 : ∀ r ∈ rs, 1 ≤ r.1.length) {s : Nat × Nat} : s ∈ rowsN rs w ↔ s.2 < rs.length ∧ occ (lft rs s.2) w s.1 = true := by
  unfold rowsN
  rw [List.mem_flatMap]
  constructor
  · rintro ⟨⟨r, n⟩, hp, hs⟩
    obtain ⟨a, ha, rfl⟩ := List.mem_map.mp hs
    have hn := List.mem_zipIdx_iff_getElem?.mp hp
    have hr := List.mem_of_getElem? hn
    have hlt := (List.getElem?_eq_some_iff.mp hn).1
    refine ⟨hlt, ?_⟩
    unfold lft
    rw [List.getD_eq_getElem?_getD, hn]
    exact (mem_places (h1 r hr)).mp ha
  · rintro ⟨h2, h3⟩
    obtain ⟨a, n⟩ := s
    have hn : rs[n]? = some rs[n] := List.getElem?_eq_getElem h2
    unfold lft at h3
    rw [List.getD_eq_getElem?_getD, hn] at h3
    exact ⟨(rs[n], n), List.mem_zipIdx_iff_getElem?.mpr hn, List.mem_map.mpr ⟨a, (mem_places (h1 _ (List.mem_of_getElem? hn))).mpr h3, rfl⟩⟩
theorem lft_len {rs : List Rl} (h1 : ∀ r ∈ rs, 1 ≤ r.1.length) {n : Nat} (h : n < rs.length) : 1 ≤ (lft rs n).length := by
  have hn : rs[n]? = some rs[n] := List.getElem?_eq_getElem h
  unfold lft
  rw [List.getD_eq_getElem?_getD, hn]
  exact h1 _ (List.mem_of_getElem? hn)
theorem mem_stepsN {rs : List Rl} {w : Wrd} (h1 : ∀ r ∈ rs, 1 ≤ r.1.length) {s : Nat × Nat} : s ∈ stepsN rs w ↔ s.2 < rs.length ∧ occ (lft rs s.2) w s.1 = true := by
  unfold stepsN
  obtain ⟨a, n⟩ := s
  simp only [List.mem_flatMap, List.mem_range, List.mem_map, List.mem_filter, Prod.mk.injEq]
  constructor
  · rintro ⟨b, hb, m, ⟨hm, ho⟩, rfl, rfl⟩
    exact ⟨hm, ho⟩
  · rintro ⟨hm, ho⟩
    have := occ_len ho (lft_len h1 hm)
    have := lft_len h1 hm
    exact ⟨a, by omega, n, ⟨hm, ho⟩, rfl, rfl⟩
theorem steps_sorted (rs : List Rl) (w : Wrd) : (stepsN rs w).Pairwise fun x y => ltNN x y = true := by
  unfold stepsN
  rw [List.pairwise_flatMap]
  refine ⟨fun a _ => ?_, ?_⟩
  · rw [List.pairwise_map]
    refine ((List.pairwise_lt_range (n := rs.length)).filter _).imp fun h => ?_
    simp only [ltNN]
    simp [h]
  · refine (List.pairwise_lt_range (n := w.length)).imp fun {a b} h x hx y hy => ?_
    obtain ⟨n, _, rfl⟩ := List.mem_map.mp hx
    obtain ⟨m, _, rfl⟩ := List.mem_map.mp hy
    simp [ltNN, h]
theorem rows_nd (rs : List Rl) (w : Wrd) : (rowsN rs w).Nodup := by
  unfold rowsN List.Nodup
  rw [List.pairwise_flatMap]
  refine ⟨fun p _ => ?_, ?_⟩
  · rw [List.pairwise_map]
    refine ((List.pairwise_lt_range (n := w.length + 1 - p.1.1.length)).filter _).imp fun {a b} h e => ?_
    have := congrArg Prod.fst e
    simp at this
    omega
  · have : (rs.zipIdx.map (·.2)).Pairwise (· < ·) := by
      rw [List.zipIdx_map_snd]
      exact List.pairwise_lt_range'
    rw [List.pairwise_map] at this
    refine this.imp fun {a b} h x hx y hy e => ?_
    obtain ⟨n, _, rfl⟩ := List.mem_map.mp hx
    obtain ⟨m, _, rfl⟩ := List.mem_map.mp hy
    have := congrArg Prod.snd e
    simp at this
    omega
theorem sort_rows {rs : List Rl} (w : Wrd) (h1 : ∀ r ∈ rs, 1 ≤ r.1.length) : sortG ltNN (rowsN rs w) = stepsN rs w := by
  refine sort_nd (rows_nd rs w) ?_ ?_ fun x => (mem_rowsN h1).trans (mem_stepsN h1).symm
  · refine (steps_sorted rs w).imp fun {a b} h e => ?_
    subst e
    simp [ltNN] at h
  · refine (steps_sorted rs w).imp fun {a b} h => ?_
    simp only [leNN, ltNN, Bool.not_eq_true', Bool.or_eq_false_iff, decide_eq_false_iff_not, Bool.and_eq_false_iff, Bool.or_eq_true, Bool.and_eq_true, decide_eq_true_eq] at *
    omega
def dP (s : Nat × Nat) : Dat := .tup [.int s.1, .int s.2]
theorem dlt_dP (x y : Nat × Nat) : dltB (dP x) (dP y) = ltNN x y := by
  obtain ⟨a, b⟩ := x
  obtain ⟨c, d⟩ := y
  by_cases h1 : a = c <;> by_cases h2 : b = d <;> simp [dP, dltB, dltLB, eqB, ltNN, h1, h2, Int.ofNat_lt]
  all_goals omega
theorem sortOk_dP (l : List (Nat × Nat)) : sortOkB (l.map dP) = true := by
  unfold sortOkB
  simp only [Bool.and_eq_true, Bool.or_eq_true, List.all_eq_true]
  refine ⟨⟨.inr fun d hd => ?_, fun d hd => ?_⟩, fun d hd d' hd' => ?_⟩
  · obtain ⟨r, _, rfl⟩ := List.mem_map.mp hd
    rfl
  · obtain ⟨r, _, rfl⟩ := List.mem_map.mp hd
    simp [dP, nkB, nkLB]
  · obtain ⟨r, _, rfl⟩ := List.mem_map.mp hd
    obtain ⟨r, _, rfl⟩ := List.mem_map.mp hd'
    simp [dP, likeB, likeLB]
theorem sorted_dP (l : List (Nat × Nat)) : biD .sorted (.lst (l.map dP)) = some (.lst ((sortG ltNN l).map dP)) := by
  simp only [biD, sortedD, sortOk_dP, if_true, Option.map_some]
  rw [sortL_eq, sortG_map fun x _ y _ => (dlt_dP x y).symm]
theorem enum_rules (rs : List Rl) : enumD (.tup (rs.map dR)) = some (rs.zipIdx.map fun p => .tup [.int p.2, dR p.1]) := by
  simp only [enumD, partsD_tup, Option.map_some, pairsD, Option.some.injEq]
  apply List.ext_getElem?
  intro i
  rw [List.getElem?_zipWith, List.getElem?_map, List.getElem?_map, List.getElem?_map, List.getElem?_zipIdx]
  by_cases h : i < rs.length
  · rw [List.getElem?_range (by simpa using h), List.getElem?_eq_getElem h]
    simp
  · rw [List.getElem?_eq_none (by simpa using h), List.getElem?_eq_none (by omega)]
    simp
structure StepsAt (P : Pg) (ix : Nat → Nat) : Prop where
  plc : P[ix N_places_in]? = some (D_places_in ix)
  stp : P[ix N_steps_in]? = some (D_steps_in ix)
  bhd : P[ix N_behind_in]? = some (D_behind_in ix)
theorem cut_at {w l : Wrd} {a : Nat} : cutD w (.int (a : Int)) (.int ((a : Int) + (l.length : Int))) = some ((w.drop a).take l.length) := by
  have := cut_fromTo w a (a + l.length)
  rw [Int.natCast_add] at this
  rw [this]
  congr 1
  by_cases h : a ≤ w.length
  · rw [Nat.min_eq_left h]
    by_cases h2 : a + l.length ≤ w.length
    · rw [Nat.min_eq_left h2]
      congr 1; omega
    · rw [Nat.min_eq_right (by omega), List.take_of_length_le (by rw [List.length_drop]; omega), List.take_of_length_le (by rw [List.length_drop]; omega)]
  · have e1 : min a w.length = w.length := Nat.min_eq_right (by omega)
    have e2 : w.drop a = [] := List.drop_of_length_le (by omega)
    rw [e1, e2, List.drop_of_length_le (Nat.le_refl _)]
    simp
section
variable {P : Pg} {ix : Nat → Nat} {k : Nat} {g : List Dat}
theorem places_call (A : StepsAt P ix) {l w : Wrd} (hw : w.length ≤ 1000000) (hl : l.length ≤ 1000000) : callK P (k + 1) (ix N_places_in) [.str l, .str w] g = .ok (.lst ((places l w).map fun (a : Nat) => Dat.int (a : Int))) g := by
  rw [callK_eq A.plc rfl]
  have hr : rngD [.int ((w.length : Int) - (l.length : Int) + 1)] = some (ilist 0 (w.length + 1 - l.length)) := by
    rw [rng1 (by omega) (by omega)]
    congr 2; omega
  have hlc : lcGo (lcStep (callK P k) (.var 2) (.nm 2) (.cmp .eq (.sl (.var 1) (.asInt (.var 2)) (.asInt (.op .add (.var 2) (.bi .len (.var 0))))) (.var 0)) [some (.str l), some (.str w), none]) [] (ilist 0 (w.length + 1 - l.length)) g = .ok ((places l w).map fun (a : Nat) => Dat.int (a : Int)) g := by
    rw [lc_ilist (p := occ l w) (e := fun (a : Nat) => Dat.int (a : Int))]
    · rfl
    · intro j hj
      rw [lcStep_nm]
      have e := cut_at (w := w) (l := l) (a := j)
      have ho : (((w.drop j).take l.length) == l) = occ l w j := by
        rw [Bool.eq_iff_iff, beq_iff_eq]
        exact occ_iff.symm
      simp [e, ho]
      split <;> rfl
  simp [D_places_in, den_lc2, hr, hlc]
theorem rows_len {rs : List Rl} {w : Wrd} : (rowsN rs w).length ≤ rs.length * (w.length + 1) := by
  unfold rowsN
  have key : ∀ l : List (Rl × Nat), (l.flatMap fun p => (places p.1.1 w).map fun a => (a, p.2)).length ≤ l.length * (w.length + 1) := by
    intro l
    induction l with
    | nil => simp
    | cons p l ih =>
      rw [List.flatMap_cons, List.length_append, List.length_cons, Nat.succ_mul, List.length_map]
      have : (places p.1.1 w).length ≤ w.length + 1 := by
        unfold places
        refine Nat.le_trans (List.length_filter_le _ _) ?_
        rw [List.length_range]; omega
      omega
  have := key rs.zipIdx
  rwa [List.length_zipIdx] at this
theorem steps_call (A : StepsAt P ix) {sz : Nat} {rs : List Rl} {w : Wrd} (h1 : ∀ r ∈ rs, 1 ≤ r.1.length) (h2 : ∀ r ∈ rs, r.1.length ≤ 1000) (hn : rs.length ≤ 100) (hw : w.length ≤ 100000) : callK P (k + 2) (ix N_steps_in) [dS sz rs, .str w] g = .ok (.lst ((stepsN rs w).map dP)) g := by
  rw [callK_eq A.stp rfl]
  have hlc : lcGo2 (lcStep2 (callK P (k + 1)) (.tup [(.var 6), (.var 3)]) (.tp [(.nm 3), (.tp [(.nm 4), (.nm 5)])]) (.con (.bl true)) (.nm 6) (.call (ix N_places_in) [(.var 4), (.var 1)]) (.con (.bl true)) [6] [some (dS sz rs), some (.str w), none, none, none, none, none]) [] (rs.zipIdx.map fun p => .tup [.int p.2, dR p.1]) g = .ok ((rowsN rs w).map dP) g := by
    have hb := rows_len (rs := rs) (w := w)
    have hb2 : rs.length * (w.length + 1) ≤ 100 * 100001 := Nat.mul_le_mul hn (by omega)
    have he : rs.zipIdx.flatMap (fun p => (places p.1.1 w).map fun a => dP (a, p.2)) = (rowsN rs w).map dP := by
      unfold rowsN
      rw [List.map_flatMap]
      simp [Function.comp_def]
    rw [lcc_map (h := fun p : Rl × Nat => (places p.1.1 w).map fun a => dP (a, p.2)) (B := 16777216)]
    · rw [List.nil_append, he]
    · rw [List.nil_append, he, List.length_map]
      omega
    · rintro ⟨r, n⟩ hp acc hB
      have hn := List.mem_zipIdx_iff_getElem?.mp hp
      have hr := List.mem_of_getElem? hn
      have hpl := places_call (k := k) (g := g) A (l := r.1) (w := w) (by omega) (by have := h2 r hr; omega)
      unfold lcStep2
      simp [dR, hpl]
      rw [lcC_map (p := fun _ => true) (e := fun a => dP (a, n))]
      · rw [List.filter_eq_self.mpr (by simp)]
      · intro a ha
        rw [lcStep_nm]
        simp [dP]
      · simp at hB
        exact hB
  have hs := sorted_dP (rowsN rs w)
  rw [sort_rows w h1] at hs
  have hen := enum_rules rs
  rw [show dS sz rs = .tup [.int sz, .tup (rs.map dR)] from rfl] at hlc ⊢
  simp [D_steps_in, den_lcc, den_enum, hen, hlc, hs]
/-- the word behind a step -/
def bh (rs : List Rl) (w : Wrd) (s : Nat × Nat) : Wrd := w.take s.1 ++ rgt rs s.2 ++ w.drop (s.1 + (lft rs s.2).length)
theorem get_rule {rs : List Rl} {n : Nat} (h : n < rs.length) : (rs.map dR)[n]? = some (.tup [.str (lft rs n), .str (rgt rs n)]) := by
  have hn : rs[n]? = some rs[n] := List.getElem?_eq_getElem h
  unfold lft rgt
  rw [List.getD_eq_getElem?_getD, hn, List.getElem?_map, hn]
  rfl
theorem behind_call (A : StepsAt P ix) {sz : Nat} {rs : List Rl} {w : Wrd} {s : Nat × Nat} (hs : s.2 < rs.length) (h2 : ∀ r ∈ rs, r.2.length ≤ 1000) (hw : w.length ≤ 1000000) : callK P (k + 1) (ix N_behind_in) [dS sz rs, .str w, dP s] g = .ok (.str (bh rs w s)) g := by
  rw [callK_eq A.bhd rfl]
  obtain ⟨a, n⟩ := s
  have hg := get_rule hs
  have hat : atD (rs.map dR) (n : Int) = some (.tup [.str (lft rs n), .str (rgt rs n)]) := by
    rw [atD_nat (by omega)]
    simpa using hg
  have e1 := cut_to w a
  have e2 := cut_from w (a + (lft rs n).length)
  rw [Int.natCast_add] at e2
  have hr : (rgt rs n).length ≤ 1000 := by
    have hn : rs[n]? = some rs[n] := List.getElem?_eq_getElem hs
    unfold rgt
    rw [List.getD_eq_getElem?_getD, hn]
    exact h2 _ (List.mem_of_getElem? hn)
  have o1 := opD_addS (x := w.take a) (y := rgt rs n) (by rw [List.length_take]; omega)
  have o2 := opD_addS (x := w.take a ++ rgt rs n) (y := w.drop (a + (lft rs n).length)) (by rw [List.length_append, List.length_take, List.length_drop]; omega)
  rw [List.append_assoc] at o2
  simp [D_behind_in, dS, dP, hat, e1, e2, o1, o2, bh]
theorem bh_len {rs : List Rl} {w : Wrd} {s : Nat × Nat} {m : Nat} (h2 : ∀ r ∈ rs, r.2.length ≤ m) : (bh rs w s).length ≤ w.length + m := by
  unfold bh rgt
  have : (rs.getD s.2 ([], [])).2.length ≤ m := by
    rw [List.getD_eq_getElem?_getD]
    cases h : rs[s.2]? with
    | none => simp
    | some r => exact h2 r (List.mem_of_getElem? h)
  rw [List.length_append, List.length_append, List.length_take, List.length_drop]
  by_cases h : s.1 ≤ w.length
  · omega
  · omega
end
end R
set_option Elab.async false
set_option linter.all false
set_option maxRecDepth 100000
set_option maxHeartbeats 0
/-! The text of the law as plain data (printed by gen.py), and that it is the text. -/
namespace K81
open PySem PySem.Spec PyProof.Rows L2 R
def top : List Stmt := PySem.Challenge.pw_wordsrest_k81_whole_systems_smaller_by_o.main.body
def st (i : Nat) : Stmt := top.getD i (.Pass ⟨0, 0, 0, 0⟩)
/-- is_tuple_of(value, low, high) -/
def d_is_tuple_of : DefR := ⟨"is_tuple_of", st 9, ["value", "low", "high"], ["value", "low", "high"], { fr := false, np := 3, ns := 3, body := [
    .ret (.and (.isi (.var 0) .tuple) (.chain .le .le (.var 1) (.bi .len (.var 0)) (.var 2)))] }⟩
/-- fits_whole(value, low, high) -/
def d_fits_whole : DefR := ⟨"fits_whole", st 10, ["value", "low", "high"], ["value", "low", "high"], { fr := false, np := 3, ns := 3, body := [
    .ret (.and (.isi (.var 0) .int) (.and (.not (.isi (.var 0) .bool)) (.chain .le .le (.var 1) (.var 0) (.var 2))))] }⟩
/-- fits_letters(value, size, low, high, letter) -/
def d_fits_letters : DefR := ⟨"fits_letters", st 11, ["value", "size", "low", "high", "letter"], ["value", "size", "low", "high"], { fr := false, np := 4, ns := 5, body := [
    .ret (.and (.isi (.var 0) .str) (.and (.chain .le .le (.var 2) (.bi .len (.var 0)) (.var 3)) (.bi .all (.lc (.cmp .isin (.var 4) (.sl (.con (.str [97, 98, 99, 100])) (.con .non) (.asInt (.var 1)))) (.nm 4) (.var 0) (.con (.bl true)) [4]))))] }⟩
/-- fits_rule(size, value) -/
def d_fits_rule : DefR := ⟨"fits_rule", st 12, ["size", "value"], ["size", "value"], { fr := false, np := 2, ns := 2, body := [
    .ifs (.or (.not (.call 0 [(.var 1), (.con (.int (2))), (.con (.int (2)))])) (.not (.call 2 [(.ix (.var 1) (.con (.int (0)))), (.var 0), (.con (.int (1))), (.con (.int (6)))]))) [
      .ret (.con (.bl false))] [],
    .ret (.and (.call 2 [(.ix (.var 1) (.con (.int (1)))), (.var 0), (.con (.int (0))), (.con (.int (6)))]) (.cmp .ne (.ix (.var 1) (.con (.int (0)))) (.ix (.var 1) (.con (.int (1))))))] }⟩
/-- fits_system(value, size, rules, rule) -/
def d_fits_system : DefR := ⟨"fits_system", st 13, ["value", "size", "rules", "rule"], ["value"], { fr := false, np := 1, ns := 4, body := [
    .ifs (.or (.not (.call 0 [(.var 0), (.con (.int (2))), (.con (.int (2)))])) (.not (.call 1 [(.ix (.var 0) (.con (.int (0)))), (.con (.int (1))), (.bi .len (.con (.str [97, 98, 99, 100])))]))) [
      .ret (.con (.bl false))] [],
    .set (.tp [(.nm 1), (.nm 2)]) (.var 0),
    .ifs (.or (.not (.call 0 [(.var 2), (.con (.int (1))), (.con (.int (8)))])) (.not (.bi .all (.lc (.call 3 [(.var 1), (.var 3)]) (.nm 3) (.var 2) (.con (.bl true)) [3])))) [
      .ret (.con (.bl false))] [],
    .ret (.cmp .eq (.lenset (.var 2)) (.bi .len (.var 2)))] }⟩
/-- need_system(value) -/
def d_need_system : DefR := ⟨"need_system", st 14, ["value"], ["value"], { fr := false, np := 1, ns := 1, body := [
    .ifs (.not (.call 4 [(.var 0)])) [
      .raise 1] []] }⟩
/-- is_system(value) -/
def d_is_system : DefR := ⟨"is_system", st 15, ["value"], ["value"], { fr := false, np := 1, ns := 1, body := [
    .ret (.call 4 [(.var 0)])] }⟩
/-- with_rule(system, rule, size, rules, new, own) -/
def d_with_rule : DefR := ⟨"with_rule", st 16, ["system", "rule", "size", "rules", "new", "own"], ["system", "rule"], { fr := false, np := 2, ns := 6, body := [
    .expr (.call 5 [(.var 0)]),
    .set (.tp [(.nm 2), (.nm 3)]) (.var 0),
    .ifs (.not (.call 3 [(.var 2), (.var 1)])) [
      .raise 1] [],
    .set (.nm 4) (.ifx (.cmp .isin (.var 1) (.var 3)) (.bi .tuple (.lc (.var 5) (.nm 5) (.var 3) (.cmp .ne (.var 5) (.var 1)) [5])) (.op .add (.var 3) (.tup [(.var 1)]))),
    .ifs (.not (.chain .le .le (.con (.int (1))) (.bi .len (.var 4)) (.con (.int (8))))) [
      .raise 1] [],
    .ret (.tup [(.var 2), (.var 4)])] }⟩
/-- letter_less(rule, left, right, rows, at) -/
def d_letter_less : DefR := ⟨"letter_less", st 18, ["rule", "left", "right", "rows", "at"], ["rule"], { fr := false, np := 1, ns := 5, body := [
    .set (.tp [(.nm 1), (.nm 2)]) (.var 0),
    .set (.nm 3) (.lc (.tup [(.op .add (.sl (.var 1) (.con .non) (.asInt (.var 4))) (.sl (.var 1) (.asInt (.op .add (.var 4) (.con (.int (1))))) (.con .non))), (.var 2)]) (.nm 4) (.rng [(.bi .len (.var 1))]) (.con (.bl true)) [4]),
    .ret (.op .add (.var 3) (.lc (.tup [(.var 1), (.op .add (.sl (.var 2) (.con .non) (.asInt (.var 4))) (.sl (.var 2) (.asInt (.op .add (.var 4) (.con (.int (1))))) (.con .non)))]) (.nm 4) (.rng [(.bi .len (.var 2))]) (.con (.bl true)) [4]))] }⟩
/-- smaller_in(system, size, rules, rows, at, rule, own, found) -/
def d_smaller_in : DefR := ⟨"smaller_in", st 19, ["system", "size", "rules", "rows", "at", "rule", "own", "found"], ["system"], { fr := false, np := 1, ns := 8, body := [
    .set (.tp [(.nm 1), (.nm 2)]) (.var 0),
    .new 3 (.lc (.op .add (.sl (.var 2) (.con .non) (.asInt (.var 4))) (.sl (.var 2) (.asInt (.op .add (.var 4) (.con (.int (1))))) (.con .non))) (.nm 4) (.rng [(.bi .len (.var 2))]) (.con (.bl true)) [4]),
    .fors (.tp [(.nm 4), (.nm 5)]) (.enum (.var 2)) [
      .aug 3 (.lc (.op .add (.op .add (.sl (.var 2) (.con .non) (.asInt (.var 4))) (.tup [(.var 6)])) (.sl (.var 2) (.asInt (.op .add (.var 4) (.con (.int (1))))) (.con .non))) (.nm 6) (.call 8 [(.var 5)]) (.con (.bl true)) [6])],
    .frz 3,
    .set (.nm 7) (.dc (.tup [(.var 1), (.var 6)]) (.con (.bl true)) true (.nm 6) (.var 3) (.con (.bl true)) [6]),
    .ret (.lc (.var 6) (.nm 6) (.var 7) (.call 4 [(.var 6)]) [6])] }⟩
/-- size_of(system, left, right) -/
def d_size_of : DefR := ⟨"size_of", st 20, ["system", "left", "right"], ["system"], { fr := false, np := 1, ns := 3, body := [
    .expr (.call 5 [(.var 0)]),
    .ret (.tup [(.bi .len (.ix (.var 0) (.con (.int (1))))), (.bi .sum (.lc (.bi .len (.op .add (.var 1) (.var 2))) (.tp [(.nm 1), (.nm 2)]) (.ix (.var 0) (.con (.int (1)))) (.con (.bl true)) [1, 2]))])] }⟩
/-- smaller_systems(system) -/
def d_smaller_systems : DefR := ⟨"smaller_systems", st 21, ["system"], ["system"], { fr := false, np := 1, ns := 1, body := [
    .expr (.call 5 [(.var 0)]),
    .ret (.bi .tuple (.call 9 [(.var 0)]))] }⟩
/-- _law_cup(script, cell) -/
def d__law_cup : DefR := ⟨"_law_cup", st 23, ["script", "cell"], ["script"], { fr := true, np := 1, ns := 2, body := [
    .set (.nm 1) (.bi .abs (.ix (.op .add (.bi .list (.var 0)) (.lst [(.con (.int (0)))])) (.con (.int (0))))),
    .retL [(.ifx (.cmp .ge (.var 1) (.op .pow (.con (.int (10))) (.con (.int (18))))) (.op .fdiv (.var 1) (.con (.int (71)))) (.con (.int (0)))), (.op .add (.op .mod (.bi .int (.op .add (.op .mul (.var 1) (.con (.int (911)))) (.con (.int (4587))))) (.con (.int (2077502513)))) (.con (.int (489))))]] }⟩
/-- _law_roll(cup, many, found, deep) -/
def d__law_roll : DefR := ⟨"_law_roll", st 24, ["cup", "many", "found", "deep"], ["cup", "many"], { fr := false, np := 2, ns := 4, body := [
    .ifs (.cmp .gt (.ix (.var 0) (.con (.int (0)))) (.con (.int (0)))) [
      .set (.nm 2) (.op .mod (.bi .int (.ix (.var 0) (.con (.int (0))))) (.var 1)),
      .putIx 0 (.con (.int (0))) (.op .fdiv (.ix (.var 0) (.con (.int (0)))) (.var 1)),
      .ret (.var 2)] [],
    .putIx 0 (.con (.int (1))) (.op .mod (.bi .int (.op .add (.op .mul (.ix (.var 0) (.con (.int (1)))) (.con (.int (31433)))) (.con (.int (8255))))) (.con (.int (2147482951)))),
    .set (.nm 3) (.op .mod (.bi .int (.op .mul (.ix (.var 0) (.con (.int (1)))) (.op .add (.ix (.var 0) (.con (.int (1)))) (.con (.int (283)))))) (.con (.int (2147483059)))),
    .ret (.op .mod (.bi .int (.op .fdiv (.var 3) (.con (.int (751))))) (.var 1))] }⟩
/-- _law_some(cup, things) -/
def d__law_some : DefR := ⟨"_law_some", st 25, ["cup", "things"], ["cup", "things"], { fr := false, np := 2, ns := 2, body := [
    .ret (.ix (.var 1) (.call 13 [(.var 0), (.bi .len (.var 1))]))] }⟩
/-- _law_same(told, due, at) -/
def d__law_same : DefR := ⟨"_law_same", st 26, ["told", "due", "at"], ["told", "due"], { fr := false, np := 2, ns := 3, body := [
    .ifs (.isi (.var 1) .tuple) [
      .ifs (.or (.not (.isi (.var 0) .tuple)) (.cmp .ne (.bi .len (.var 0)) (.bi .len (.var 1)))) [
        .ret (.con (.bl false))] [],
      .ret (.bi .all (.lc (.call 15 [(.ix (.var 0) (.var 2)), (.ix (.var 1) (.var 2))]) (.nm 2) (.rng [(.bi .len (.var 1))]) (.con (.bl true)) [2]))] [],
    .ifs (.cmp .is (.var 1) (.con (.non))) [
      .ret (.cmp .is (.var 0) (.con (.non)))] [],
    .ifs (.isi (.var 1) .bool) [
      .ret (.ifx (.var 1) (.cmp .is (.var 0) (.con (.bl true))) (.cmp .is (.var 0) (.con (.bl false))))] [],
    .ifs (.isi (.var 1) .int) [
      .ret (.and (.isi (.var 0) .int) (.and (.not (.isi (.var 0) .bool)) (.cmp .eq (.bi .int (.var 0)) (.var 1))))] [],
    .ret (.and (.isi (.var 0) .str) (.cmp .eq (.bi .str (.var 0)) (.var 1)))] }⟩
/-- _law_word(cup, size, many, turn) -/
def d__law_word : DefR := ⟨"_law_word", st 27, ["cup", "size", "many", "turn"], ["cup", "size", "many"], { fr := false, np := 3, ns := 4, body := [
    .ret (.me .join (.con (.str [])) (.lc (.call 14 [(.var 0), (.bi .list (.sl (.con (.str [97, 98, 99, 100])) (.con .non) (.asInt (.var 1))))]) (.nm 3) (.rng [(.call 13 [(.var 0), (.op .add (.var 2) (.con (.int (1))))])]) (.con (.bl true)) [3]))] }⟩
/-- _law_system(cup, samples, size, rules, way, turn, left, right) -/
def d__law_system : DefR := ⟨"_law_system", st 28, ["cup", "samples", "size", "rules", "way", "turn", "left", "right"], ["cup"], { fr := false, np := 1, ns := 8, body := [
    .set (.nm 1) (.lst [(.tup [(.con (.int (2))), (.tup [(.tup [(.con (.str [98, 97])), (.con (.str [97, 98]))])])]), (.tup [(.con (.int (2))), (.tup [(.tup [(.con (.str [97, 97])), (.con (.str []))]), (.tup [(.con (.str [98, 98])), (.con (.str []))])])]), (.tup [(.con (.int (2))), (.tup [(.tup [(.con (.str [97, 98])), (.con (.str []))])])]), (.tup [(.con (.int (2))), (.tup [(.tup [(.con (.str [97, 97])), (.con (.str []))]), (.tup [(.con (.str [98, 98])), (.con (.str []))]), (.tup [(.con (.str [98, 97, 98])), (.con (.str [97, 98, 97]))])])])]),
    .set (.nm 1) (.op .add (.var 1) (.lst [(.tup [(.con (.int (2))), (.tup [(.tup [(.con (.str [97, 98])), (.con (.str [98, 98, 97]))])])]), (.tup [(.con (.int (2))), (.tup [(.tup [(.con (.str [97, 98])), (.con (.str [97, 97, 98]))])])]), (.tup [(.con (.int (3))), (.tup [(.tup [(.con (.str [98, 97])), (.con (.str [97, 98]))]), (.tup [(.con (.str [99, 97])), (.con (.str [97, 99]))]), (.tup [(.con (.str [99, 98])), (.con (.str [98, 99]))])])]), (.tup [(.con (.int (1))), (.tup [(.tup [(.con (.str [97, 97, 97])), (.con (.str [97]))])])])])),
    .set (.tp [(.nm 2), (.nm 3)]) (.call 14 [(.var 0), (.var 1)]),
    .set (.nm 4) (.call 13 [(.var 0), (.con (.int (3)))]),
    .ifs (.cmp .eq (.var 4) (.con (.int (0)))) [
      .ret (.tup [(.var 2), (.var 3)])] [],
    .ifs (.cmp .eq (.var 4) (.con (.int (1)))) [
      .par [2, 3] [.er, .er] [(.op .add (.con (.int (1))) (.call 13 [(.var 0), (.con (.int (4)))])), (.tup [])]] [],
    .fors (.nm 5) (.rng [(.op .add (.con (.int (1))) (.call 13 [(.var 0), (.con (.int (3)))]))]) [
      .set (.nm 6) (.op .add (.call 16 [(.var 0), (.var 2), (.con (.int (2)))]) (.call 14 [(.var 0), (.bi .list (.sl (.con (.str [97, 98, 99, 100])) (.con .non) (.asInt (.var 2))))])),
      .set (.nm 7) (.call 16 [(.var 0), (.var 2), (.con (.int (3)))]),
      .ifs (.and (.cmp .ne (.var 6) (.var 7)) (.cmp .notin (.tup [(.var 6), (.var 7)]) (.var 3))) [
        .set (.nm 3) (.op .add (.var 3) (.tup [(.tup [(.var 6), (.var 7)])]))] []],
    .ret (.tup [(.var 2), (.ifx (.cmp .ne (.var 3) (.tup [])) (.var 3) (.tup [(.tup [(.con (.str [97])), (.con (.str []))])]))])] }⟩
/-- _law_is_system(size, rules, left, right) -/
def d__law_is_system : DefR := ⟨"_law_is_system", st 29, ["size", "rules", "left", "right"], ["size", "rules"], { fr := false, np := 2, ns := 4, body := [
    .ifs (.or (.cmp .eq (.var 1) (.tup [])) (.cmp .lt (.lenset (.var 1)) (.bi .len (.var 1)))) [
      .ret (.con (.bl false))] [],
    .ret (.cmp .eq (.lc (.con (.int (1))) (.tp [(.nm 2), (.nm 3)]) (.var 1) (.or (.cmp .eq (.var 2) (.con (.str []))) (.cmp .eq (.var 2) (.var 3))) [2, 3]) (.lst []))] }⟩
/-- _law_smaller(system, size, rules, rows, found, at, side, text, place, less, own, row) -/
def d__law_smaller : DefR := ⟨"_law_smaller", st 30, ["system", "size", "rules", "rows", "found", "at", "side", "text", "place", "less", "own", "row"], ["system"], { fr := false, np := 1, ns := 12, body := [
    .par [1, 2, 3, 4] [.er, .er, .nw, .nw] [(.ix (.var 0) (.con (.int (0)))), (.ix (.var 0) (.con (.int (1)))), (.lst []), (.lst [])],
    .fors (.nm 5) (.rng [(.bi .len (.var 2))]) [
      .app 3 (.op .add (.sl (.var 2) (.con .non) (.asInt (.var 5))) (.sl (.var 2) (.asInt (.op .add (.var 5) (.con (.int (1))))) (.con .non)))],
    .fors (.nm 5) (.rng [(.bi .len (.var 2))]) [
      .fors (.nm 6) (.tup [(.con (.int (0))), (.con (.int (1)))]) [
        .set (.nm 7) (.ix (.ix (.var 2) (.var 5)) (.var 6)),
        .fors (.nm 8) (.rng [(.bi .len (.var 7))]) [
          .set (.nm 9) (.op .add (.sl (.var 7) (.con .non) (.asInt (.var 8))) (.sl (.var 7) (.asInt (.op .add (.var 8) (.con (.int (1))))) (.con .non))),
          .set (.nm 10) (.ifx (.cmp .eq (.var 6) (.con (.int (0)))) (.tup [(.var 9), (.ix (.ix (.var 2) (.var 5)) (.con (.int (1))))]) (.tup [(.ix (.ix (.var 2) (.var 5)) (.con (.int (0)))), (.var 9)])),
          .app 3 (.op .add (.op .add (.sl (.var 2) (.con .non) (.asInt (.var 5))) (.tup [(.var 10)])) (.sl (.var 2) (.asInt (.op .add (.var 5) (.con (.int (1))))) (.con .non)))]]],
    .frz 3,
    .fors (.nm 11) (.var 3) [
      .ifs (.and (.call 18 [(.var 1), (.var 11)]) (.cmp .notin (.tup [(.var 1), (.var 11)]) (.var 4))) [
        .app 4 (.tup [(.var 1), (.var 11)])] []],
    .ret (.var 4)] }⟩
/-- _law_right(cup, system, left, right, size, one, other, due, own) -/
def d__law_right : DefR := ⟨"_law_right", st 31, ["cup", "system", "left", "right", "size", "one", "other", "due", "own"], ["cup"], { fr := false, np := 1, ns := 9, body := [
    .set (.nm 1) (.call 17 [(.var 0)]),
    .set (.tp [(.nm 2), (.nm 3)]) (.ix (.ix (.var 1) (.con (.int (1)))) (.con (.int (0)))),
    .ifs (.and (.cmp .eq (.call 13 [(.var 0), (.con (.int (3)))]) (.con (.int (0)))) (.and (.cmp .ne (.op .add (.var 2) (.con (.str [97]))) (.var 3)) (.cmp .notin (.tup [(.op .add (.var 2) (.con (.str [97]))), (.var 3)]) (.ix (.var 1) (.con (.int (1))))))) [
      .set (.nm 1) (.call 7 [(.var 1), (.tup [(.op .add (.var 2) (.con (.str [97]))), (.var 3)])])] [],
    .set (.nm 4) (.tup [(.bi .len (.ix (.var 1) (.con (.int (1))))), (.bi .len (.me .join (.con (.str [])) (.lc (.op .add (.var 5) (.var 6)) (.tp [(.nm 5), (.nm 6)]) (.ix (.var 1) (.con (.int (1)))) (.con (.bl true)) [5, 6])))]),
    .set (.nm 7) (.call 19 [(.var 1)]),
    .ifs (.not (.call 15 [(.tup [(.call 10 [(.var 1)]), (.call 11 [(.var 1)])]), (.tup [(.var 4), (.bi .tuple (.var 7))])])) [
      .ret (.con (.bl false))] [],
    .fors (.nm 8) (.var 7) [
      .ifs (.or (.cmp .isnot (.call 6 [(.var 8)]) (.con (.bl true))) (.and (.cmp .eq (.ix (.call 10 [(.var 8)]) (.con (.int (0)))) (.ix (.var 4) (.con (.int (0))))) (.cmp .ne (.ix (.call 10 [(.var 8)]) (.con (.int (1)))) (.op .sub (.ix (.var 4) (.con (.int (1)))) (.con (.int (1))))))) [
        .ret (.con (.bl false))] []],
    .ret (.con (.bl true))] }⟩
def s_0_0 : Sm := .ifs (.not (.call 20 [(.var 1)])) [
      .ret (.con (.bl false))] []
def s_0 : Sm := .fors (.nm 2) (.rng [(.con (.int (12)))]) [s_0_0]
def s_1 : Sm := .set (.nm 3) (.lst [(.tup [(.con (.int (1))), (.tup [(.tup [(.con (.str [97, 97])), (.con (.str [97]))])])]), (.tup [(.con (.int (1))), (.tup [(.tup [(.con (.str [97, 97, 97])), (.con (.str []))])])]), (.tup [(.con (.int (2))), (.tup [(.tup [(.con (.str [97, 98])), (.con (.str []))]), (.tup [(.con (.str [97])), (.con (.str []))])])]), (.tup [(.con (.int (1))), (.tup [(.tup [(.con (.str [97])), (.con (.str []))])])])])
def s_2 : Sm := .set (.nm 4) (.bi .tuple (.lc (.call 11 [(.var 5)]) (.nm 5) (.var 3) (.con (.bl true)) [5]))
def s_3 : Sm := .set (.nm 6) (.tup [(.tup [(.tup [(.con (.int (1))), (.tup [(.tup [(.con (.str [97, 97])), (.con (.str []))])])])]), (.tup [(.tup [(.con (.int (1))), (.tup [(.tup [(.con (.str [97, 97])), (.con (.str []))])])])]), (.tup [(.tup [(.con (.int (2))), (.tup [(.tup [(.con (.str [97])), (.con (.str []))])])]), (.tup [(.con (.int (2))), (.tup [(.tup [(.con (.str [97, 98])), (.con (.str []))])])]), (.tup [(.con (.int (2))), (.tup [(.tup [(.con (.str [98])), (.con (.str []))]), (.tup [(.con (.str [97])), (.con (.str []))])])])]), (.tup [])])
def s_4 : Sm := .ifs (.not (.call 15 [(.var 4), (.var 6)])) [
      .ret (.con (.bl false))] []
def s_5 : Sm := .set (.nm 7) (.tup [(.con (.int (2))), (.tup [(.tup [(.con (.str [97, 98])), (.con (.str [98, 97]))]), (.tup [(.con (.str [98])), (.con (.str [97, 97]))])])])
def s_6 : Sm := .set (.nm 8) (.tup [(.tup [(.tup [(.con (.str [98])), (.con (.str [97, 97]))])]), (.tup [(.tup [(.con (.str [97, 98])), (.con (.str [98, 97]))])]), (.tup [(.tup [(.con (.str [98])), (.con (.str [98, 97]))]), (.tup [(.con (.str [98])), (.con (.str [97, 97]))])]), (.tup [(.tup [(.con (.str [97])), (.con (.str [98, 97]))]), (.tup [(.con (.str [98])), (.con (.str [97, 97]))])]), (.tup [(.tup [(.con (.str [97, 98])), (.con (.str [97]))]), (.tup [(.con (.str [98])), (.con (.str [97, 97]))])])])
def s_7 : Sm := .set (.nm 8) (.op .add (.var 8) (.tup [(.tup [(.tup [(.con (.str [97, 98])), (.con (.str [98]))]), (.tup [(.con (.str [98])), (.con (.str [97, 97]))])]), (.tup [(.tup [(.con (.str [97, 98])), (.con (.str [98, 97]))]), (.tup [(.con (.str [98])), (.con (.str [97]))])])]))
def s_8 : Sm := .ret (.call 15 [(.tup [(.call 10 [(.var 7)]), (.call 11 [(.var 7)])]), (.tup [(.tup [(.con (.int (2))), (.con (.int (7)))]), (.bi .tuple (.lc (.tup [(.con (.int (2))), (.var 9)]) (.nm 9) (.var 8) (.con (.bl true)) [9]))])])
/-- law(script, cup, turn, some, told, own, due, both, rows, row) -/
def d_law : DefR := ⟨"law", st 32, ["script", "cup", "turn", "some", "told", "own", "due", "both", "rows", "row"], ["script"], { fr := false, np := 1, ns := 10, body := [s_0, s_1, s_2, s_3, s_4, s_5, s_6, s_7, s_8] }⟩
def T : List DefR := [d_is_tuple_of, d_fits_whole, d_fits_letters, d_fits_rule, d_fits_system, d_need_system, d_is_system, d_with_rule, d_letter_less, d_smaller_in, d_size_of, d_smaller_systems, d__law_cup, d__law_roll, d__law_some, d__law_same, d__law_word, d__law_system, d__law_is_system, d__law_smaller, d__law_right]
def exs : List (Str × Nat) := [("RestError", 0), ("InvalidSystem", 1)]
def glo : List (Str × Dat) := [("LETTERS", .str [97, 98, 99, 100]), ("SIZE", .int (0)), ("RULES", .int (1)), ("MOST_RULES", .int (8)), ("SIDE", .int (6))]
theorem ok_is_tuple_of : DefOk T exs glo d_is_tuple_of := ⟨rfl, rfl, ⟨rfl, rfl, rfl, by decide +kernel, rfl, by decide +kernel, by decide +kernel⟩, fun _ _ _ _ _ _ us hl => match us, hl with | [_, _, _], _ => rfl, semB_by [] (by kernel_rfl)⟩
theorem ok_fits_whole : DefOk T exs glo d_fits_whole := ⟨rfl, rfl, ⟨rfl, rfl, rfl, by decide +kernel, rfl, by decide +kernel, by decide +kernel⟩, fun _ _ _ _ _ _ us hl => match us, hl with | [_, _, _], _ => rfl, semB_by [] (by kernel_rfl)⟩
theorem ok_fits_letters : DefOk T exs glo d_fits_letters := ⟨rfl, rfl, ⟨rfl, rfl, rfl, by decide +kernel, rfl, by decide +kernel, by decide +kernel⟩, fun _ _ _ _ _ _ us hl => match us, hl with | [_, _, _, _], _ => rfl, semB_by [] (by kernel_rfl)⟩
theorem ok_fits_rule : DefOk T exs glo d_fits_rule := ⟨rfl, rfl, ⟨rfl, rfl, rfl, by decide +kernel, rfl, by decide +kernel, by decide +kernel⟩, fun _ _ _ _ _ _ us hl => match us, hl with | [_, _], _ => rfl, semB_by [] (by kernel_rfl)⟩
theorem ok_fits_system : DefOk T exs glo d_fits_system := ⟨rfl, rfl, ⟨rfl, rfl, rfl, by decide +kernel, rfl, by decide +kernel, by decide +kernel⟩, fun _ _ _ _ _ _ us hl => match us, hl with | [_], _ => rfl, semB_by [] (by kernel_rfl)⟩
theorem ok_need_system : DefOk T exs glo d_need_system := ⟨rfl, rfl, ⟨rfl, rfl, rfl, by decide +kernel, rfl, by decide +kernel, by decide +kernel⟩, fun _ _ _ _ _ _ us hl => match us, hl with | [_], _ => rfl, semB_by [] (by kernel_rfl)⟩
theorem ok_is_system : DefOk T exs glo d_is_system := ⟨rfl, rfl, ⟨rfl, rfl, rfl, by decide +kernel, rfl, by decide +kernel, by decide +kernel⟩, fun _ _ _ _ _ _ us hl => match us, hl with | [_], _ => rfl, semB_by [] (by kernel_rfl)⟩
theorem ok_with_rule : DefOk T exs glo d_with_rule := ⟨rfl, rfl, ⟨rfl, rfl, rfl, by decide +kernel, rfl, by decide +kernel, by decide +kernel⟩, fun _ _ _ _ _ _ us hl => match us, hl with | [_, _], _ => rfl, semB_by [] (by kernel_rfl)⟩
theorem ok_letter_less : DefOk T exs glo d_letter_less := ⟨rfl, rfl, ⟨rfl, rfl, rfl, by decide +kernel, rfl, by decide +kernel, by decide +kernel⟩, fun _ _ _ _ _ _ us hl => match us, hl with | [_], _ => rfl, semB_by [] (by kernel_rfl)⟩
theorem ok_smaller_in : DefOk T exs glo d_smaller_in := ⟨rfl, rfl, ⟨rfl, rfl, rfl, by decide +kernel, rfl, by decide +kernel, by decide +kernel⟩, fun _ _ _ _ _ _ us hl => match us, hl with | [_], _ => rfl, semB_by [3] (by kernel_rfl)⟩
theorem ok_size_of : DefOk T exs glo d_size_of := ⟨rfl, rfl, ⟨rfl, rfl, rfl, by decide +kernel, rfl, by decide +kernel, by decide +kernel⟩, fun _ _ _ _ _ _ us hl => match us, hl with | [_], _ => rfl, semB_by [] (by kernel_rfl)⟩
theorem ok_smaller_systems : DefOk T exs glo d_smaller_systems := ⟨rfl, rfl, ⟨rfl, rfl, rfl, by decide +kernel, rfl, by decide +kernel, by decide +kernel⟩, fun _ _ _ _ _ _ us hl => match us, hl with | [_], _ => rfl, semB_by [] (by kernel_rfl)⟩
theorem ok__law_cup : DefOk T exs glo d__law_cup := ⟨rfl, rfl, ⟨rfl, rfl, rfl, by decide +kernel, rfl, by decide +kernel, by decide +kernel⟩, fun _ _ _ _ _ _ us hl => match us, hl with | [_], _ => rfl, semB_by [] (by kernel_rfl)⟩
theorem ok__law_roll : DefOk T exs glo d__law_roll := ⟨rfl, rfl, ⟨rfl, rfl, rfl, by decide +kernel, rfl, by decide +kernel, by decide +kernel⟩, fun _ _ _ _ _ _ us hl => match us, hl with | [_, _], _ => rfl, semB_by [] (by kernel_rfl)⟩
theorem ok__law_some : DefOk T exs glo d__law_some := ⟨rfl, rfl, ⟨rfl, rfl, rfl, by decide +kernel, rfl, by decide +kernel, by decide +kernel⟩, fun _ _ _ _ _ _ us hl => match us, hl with | [_, _], _ => rfl, semB_by [] (by kernel_rfl)⟩
theorem ok__law_same : DefOk T exs glo d__law_same := ⟨rfl, rfl, ⟨rfl, rfl, rfl, by decide +kernel, rfl, by decide +kernel, by decide +kernel⟩, fun _ _ _ _ _ _ us hl => match us, hl with | [_, _], _ => rfl, semB_by [] (by kernel_rfl)⟩
theorem ok__law_word : DefOk T exs glo d__law_word := ⟨rfl, rfl, ⟨rfl, rfl, rfl, by decide +kernel, rfl, by decide +kernel, by decide +kernel⟩, fun _ _ _ _ _ _ us hl => match us, hl with | [_, _, _], _ => rfl, semB_by [] (by kernel_rfl)⟩
theorem ok__law_system : DefOk T exs glo d__law_system := ⟨rfl, rfl, ⟨rfl, rfl, rfl, by decide +kernel, rfl, by decide +kernel, by decide +kernel⟩, fun _ _ _ _ _ _ us hl => match us, hl with | [_], _ => rfl, semB_by [] (by kernel_rfl)⟩
theorem ok__law_is_system : DefOk T exs glo d__law_is_system := ⟨rfl, rfl, ⟨rfl, rfl, rfl, by decide +kernel, rfl, by decide +kernel, by decide +kernel⟩, fun _ _ _ _ _ _ us hl => match us, hl with | [_, _], _ => rfl, semB_by [] (by kernel_rfl)⟩
theorem ok__law_smaller : DefOk T exs glo d__law_smaller := ⟨rfl, rfl, ⟨rfl, rfl, rfl, by decide +kernel, rfl, by decide +kernel, by decide +kernel⟩, fun _ _ _ _ _ _ us hl => match us, hl with | [_], _ => rfl, semB_by [3, 4] (by kernel_rfl)⟩
theorem ok__law_right : DefOk T exs glo d__law_right := ⟨rfl, rfl, ⟨rfl, rfl, rfl, by decide +kernel, rfl, by decide +kernel, by decide +kernel⟩, fun _ _ _ _ _ _ us hl => match us, hl with | [_], _ => rfl, semB_by [] (by kernel_rfl)⟩
def rest : List Stmt := (defBody d_law.st).drop 1
theorem law_ok (iL ic : Nat) (h : FirstSt T exs glo d_law iL ic rest) : LawOk T exs glo d_law iL ic rest := { toFirstSt := h, sc := ⟨rfl, rfl, rfl, by decide +kernel, rfl, by decide +kernel, by decide +kernel⟩, bind := fun _ _ _ _ _ _ us hl => match us, hl with | [_], _ => rfl, sem := semB_by [] (by kernel_rfl) }
theorem defs_ok : ∀ (i : Nat) (d : DefR), T[i]? = some d → DefOk T exs glo d
  | 0, _, h => (Option.some.inj h) ▸ ok_is_tuple_of
  | 1, _, h => (Option.some.inj h) ▸ ok_fits_whole
  | 2, _, h => (Option.some.inj h) ▸ ok_fits_letters
  | 3, _, h => (Option.some.inj h) ▸ ok_fits_rule
  | 4, _, h => (Option.some.inj h) ▸ ok_fits_system
  | 5, _, h => (Option.some.inj h) ▸ ok_need_system
  | 6, _, h => (Option.some.inj h) ▸ ok_is_system
  | 7, _, h => (Option.some.inj h) ▸ ok_with_rule
  | 8, _, h => (Option.some.inj h) ▸ ok_letter_less
  | 9, _, h => (Option.some.inj h) ▸ ok_smaller_in
  | 10, _, h => (Option.some.inj h) ▸ ok_size_of
  | 11, _, h => (Option.some.inj h) ▸ ok_smaller_systems
  | 12, _, h => (Option.some.inj h) ▸ ok__law_cup
  | 13, _, h => (Option.some.inj h) ▸ ok__law_roll
  | 14, _, h => (Option.some.inj h) ▸ ok__law_some
  | 15, _, h => (Option.some.inj h) ▸ ok__law_same
  | 16, _, h => (Option.some.inj h) ▸ ok__law_word
  | 17, _, h => (Option.some.inj h) ▸ ok__law_system
  | 18, _, h => (Option.some.inj h) ▸ ok__law_is_system
  | 19, _, h => (Option.some.inj h) ▸ ok__law_smaller
  | 20, _, h => (Option.some.inj h) ▸ ok__law_right
  | _ + 21, _, h => nomatch h
theorem first : FirstSt T exs glo d_law 12 1 rest := ⟨⟨_, _, _, _, _, _, _, _, rfl, rfl, rfl, rfl, by decide +kernel, by decide +kernel, by decide +kernel, by decide +kernel, by decide +kernel, by decide +kernel⟩, rfl⟩
end K81
set_option Elab.async false
set_option linter.all false
set_option maxRecDepth 100000
set_option maxHeartbeats 4000000
/-! Where the shared defs lie (printed by gendf.py). -/
namespace K81
open R
abbrev P : Pg := T.map (·.df)
def ix (n : Nat) : Nat := match n with
  | 0 => 0
  | 1 => 1
  | 2 => 2
  | 3 => 3
  | 4 => 4
  | 6 => 5
  | 20 => 12
  | 21 => 13
  | 22 => 14
  | 23 => 15
  | 24 => 16
  | 27 => 17
  | 30 => 20
  | 116 => 6
  | 117 => 7
  | 118 => 8
  | 119 => 9
  | 120 => 10
  | 121 => 11
  | 122 => 18
  | 123 => 19
  | 500 => 0
  | 501 => 1
  | _ => 0
theorem at_is_tuple_of : P[ix N_is_tuple_of]? = some (D_is_tuple_of ix) := rfl
theorem at_fits_whole : P[ix N_fits_whole]? = some (D_fits_whole ix) := rfl
theorem at_fits_letters : P[ix N_fits_letters]? = some (D_fits_letters ix) := rfl
theorem at_fits_rule : P[ix N_fits_rule]? = some (D_fits_rule ix) := rfl
theorem at_fits_system : P[ix N_fits_system]? = some (D_fits_system ix) := rfl
theorem at_need_system : P[ix N_need_system]? = some (D_need_system ix) := rfl
theorem at_is_system : P[ix N_is_system]? = some (D_is_system ix) := rfl
theorem at_letter_less : P[ix N_letter_less]? = some (D_letter_less ix) := rfl
theorem at_smaller_in : P[ix N_smaller_in]? = some (D_smaller_in ix) := rfl
theorem at_size_of : P[ix N_size_of]? = some (D_size_of ix) := rfl
theorem at_smaller_systems : P[ix N_smaller_systems]? = some (D_smaller_systems ix) := rfl
theorem at__law_some : P[ix N__law_some]? = some (D__law_some ix) := rfl
theorem at__law_same : P[ix N__law_same]? = some (D__law_same ix) := rfl
theorem at__law_word : P[ix N__law_word]? = some (D__law_word ix) := rfl
theorem at__law_system : P[ix N__law_system]? = some (D__law_system_v1 ix) := rfl
theorem at__law_is_system : P[ix N__law_is_system]? = some (D__law_is_system ix) := rfl
theorem at__law_smaller : P[ix N__law_smaller]? = some (D__law_smaller ix) := rfl
end K81
set_option Elab.async false
set_option linter.all false
set_option maxRecDepth 100000
set_option maxHeartbeats 4000000
/-! Overlaps and loops of a system. -/
namespace R

section
variable {F : Nat → List Dat → Mo Dat} {ρ : Sl} {g : List Dat}
@[simp] theorem run_aug {i : Nat} {e : Ex} : run F (.aug i e) ρ g = if ownL (ρ.getD i none) = true then (den F e (erase ρ) g).bind fun x g => augD i x ρ g else .bad := by simp only [run]
theorem augD_own {i : Nat} {ys xs : List Dat} (h : ρ.getD i none = some (.own (.lst xs))) (hz : xs.length + ys.length < 16777216) : augD i (.lst ys) ρ g = .ok (.nx (ρ.set i (some (.own (.lst (xs ++ ys)))))) g := by
  unfold augD
  rw [h]
  exact if_pos hz
@[simp] theorem run_par {is : List Nat} {ms : List PM} {es : List Ex} : run F (.par is ms es) ρ g = (parGo F ms es ρ g).bind fun xs g => .ok (.nx (setAll is xs ρ)) g := by simp only [run]
@[simp] theorem parGo_nil : parGo F [] [] ρ g = .ok [] g := rfl
@[simp] theorem parGo_cons {m : PM} {ms : List PM} {e : Ex} {es : List Ex} : parGo F (m :: ms) (e :: es) ρ g = (comp1 F m e ρ g).bind fun x g => (parGo F ms es ρ g).bind fun xs g => .ok (x :: xs) g := rfl
@[simp] theorem comp1_er {e : Ex} : comp1 F .er e ρ g = den F e (erase ρ) g := rfl
@[simp] theorem comp1_fl {e : Ex} : comp1 F .fl e ρ g = (den F e (strip ρ) g).bind fun x g => if flatD x = true then .ok x g else .bad := rfl
def ownOfL (x : Dat) : Mo Dat := fun g => match x with
  | .lst xs => .ok (.own (.lst xs)) g
  | _ => .bad
@[simp] theorem ownOfL_lst {xs : List Dat} : ownOfL (.lst xs) g = .ok (.own (.lst xs)) g := rfl
@[simp] theorem comp1_nw {e : Ex} : comp1 F .nw e ρ g = (den F e (erase ρ) g).bind fun x g => ownOfL x g := rfl
@[simp] theorem setAll_cons {α : Type} {i : Nat} {is : List Nat} {x : α} {xs : List α} {l : List (Option α)} : setAll (i :: is) (x :: xs) l = setAll is xs (l.set i (some x)) := rfl
@[simp] theorem setAll_nil {α : Type} {l : List (Option α)} : setAll [] ([] : List α) l = l := rfl
end
/-! ### agrees -/
def agr (a b : Wrd) : Bool := (a.zip b).all fun p => p.1 == p.2
theorem agr_pre (a b c : Wrd) (h : c = b.drop a.length) : agr a b = b.isPrefixOf (a ++ c) := by
  induction a generalizing b c with
  | nil =>
    subst h
    rw [Bool.eq_iff_iff, List.isPrefixOf_iff_prefix]
    simp [agr]
  | cons x a ih =>
    cases b with
    | nil => rfl
    | cons y b =>
      subst h
      have := ih b (b.drop a.length) rfl
      unfold agr at this ⊢
      rw [List.zip_cons_cons, List.all_cons, this]
      simp only [List.cons_append, List.isPrefixOf, List.length_cons, List.drop_succ_cons]
      have e : (x == y) = (y == x) := by
        rw [Bool.eq_iff_iff, beq_iff_eq, beq_iff_eq]
        exact eq_comm
      rw [e]
theorem zip_signs (a b : Wrd) : zipD (.str a) (.str b) = some ((a.zip b).map fun p => .tup [.str [p.1], .str [p.2]]) := by
  simp only [zipD, partsD_str, Option.bind_some, Option.map_some, pairsD, Option.some.injEq]
  induction a generalizing b with
  | nil => simp
  | cons x a ih =>
    cases b with
    | nil => simp
    | cons y b => simp only [List.map_cons, List.zipWith_cons_cons, List.zip_cons_cons, ih]
structure OverAt (P : Pg) (ix : Nat → Nat) : Prop extends StepsAt P ix where
  agr : P[ix N_agrees]? = some (D_agrees ix)
  ovl : P[ix N_overlaps_in]? = some (D_overlaps_in ix)
  wrd : P[ix N_word_in]? = some (D_word_in ix)
  sds : P[ix N_sides_in]? = some (D_sides_in ix)
  fst : P[ix N_first_in]? = some (D_first_in ix)
  cma : P[ix N_comes_again]? = some (D_comes_again ix)
  par : P[ix N_parts_at_rest]? = some (D_parts_at_rest ix)
  flw : P[ix N_flawed_in]? = some (D_flawed_in ix)
  fls : P[ix N_flaws_of]? = some (D_flaws_of ix)
section
variable {P : Pg} {ix : Nat → Nat} {k : Nat} {g : List Dat}
theorem agrees_call (A : OverAt P ix) {l t : Wrd} {a : Nat} : callK P (k + 1) (ix N_agrees) [.str l, .str t, .int (a : Int)] g = .ok (.bl (agr (l.drop a) t)) g := by
  rw [callK_eq A.agr rfl]
  have e := cut_from l a
  have hz := zip_signs (l.drop a) t
  have hlc : lcGo (lcStep (callK P k) (.cmp .eq (.var 3) (.var 4)) (.tp [(.nm 3), (.nm 4)]) (.con (.bl true)) [some (.str l), some (.str t), some (.int a), none, none]) [] (((l.drop a).zip t).map fun p => .tup [.str [p.1], .str [p.2]]) g = .ok (((l.drop a).zip t).map fun p => .bl (p.1 == p.2)) g := by
    rw [lc_map (p := fun _ => true) (e := fun p => .bl (p.1 == p.2))]
    · rw [List.filter_eq_self.mpr (by simp)]; rfl
    · intro p hp
      rw [lcStep_tp (ρ1 := [some (.str l), some (.str t), some (.int a), some (.str [p.1]), some (.str [p.2])]) (by simp)]
      simp
  simp [D_agrees, den_lc2, den_zip, e, hz, hlc, all_map, agr]
/-! ### overlaps -/
def prs (n : Nat) : List (Nat × Nat) := (List.range n).flatMap fun i => (List.range n).map fun j => (i, j)
def bgn (i j : Nat) : Nat := if i < j then 0 else 1
abbrev Ov := Nat × Nat × Nat
def ov (rs : List Rl) (p : Nat × Nat) : List Ov := ((List.range ((lft rs p.1).length - bgn p.1 p.2)).filter fun m => agr ((lft rs p.1).drop (bgn p.1 p.2 + m)) (lft rs p.2)).map fun m => (p.1, p.2, bgn p.1 p.2 + m)
def ovs (rs : List Rl) : List Ov := (prs rs.length).flatMap (ov rs)
def dO (o : Ov) : Dat := .tup [.int o.1, .int o.2.1, .int o.2.2]
theorem enum_rng (rs : List Rl) : enumD (.tup (rs.map dR)) = some ((List.range rs.length).map fun (i : Nat) => .tup [.int (i : Int), .tup [.str (lft rs i), .str (rgt rs i)]]) := by
  rw [enum_rules]
  congr 1
  apply List.ext_getElem?
  intro i
  rw [List.getElem?_map, List.getElem?_map, List.getElem?_zipIdx]
  by_cases h : i < rs.length
  · rw [List.getElem?_range h]
    have hn : rs[i]? = some rs[i] := List.getElem?_eq_getElem h
    have h2 := get_rule h
    rw [List.getElem?_map, hn] at h2
    rw [hn]
    have h2 : dR rs[i] = .tup [.str (lft rs i), .str (rgt rs i)] := Option.some.inj h2
    simp only [Option.map_some, Nat.zero_add, h2]
  · rw [List.getElem?_eq_none (by omega), List.getElem?_eq_none (by simpa using h)]
    rfl
theorem prs_len (n : Nat) : (prs n).length = n * n := by
  unfold prs
  have key : ∀ l : List Nat, (l.flatMap fun i => (List.range n).map fun j => (i, j)).length = l.length * n := by
    intro l
    induction l with
    | nil => simp
    | cons x l ih => rw [List.flatMap_cons, List.length_append, ih, List.length_map, List.length_range, List.length_cons, Nat.succ_mul, Nat.add_comm]
  rw [key, List.length_range]
theorem ov_len {rs : List Rl} {p : Nat × Nat} {m : Nat} (h : (lft rs p.1).length ≤ m) : (ov rs p).length ≤ m := by
  unfold ov
  rw [List.length_map]
  refine Nat.le_trans (List.length_filter_le _ _) ?_
  rw [List.length_range]
  omega
theorem flat_len {α β : Type} {f : α → List β} {m : Nat} : ∀ {l : List α}, (∀ x ∈ l, (f x).length ≤ m) → (l.flatMap f).length ≤ l.length * m
  | [], _ => by simp
  | x :: l, h => by
    rw [List.flatMap_cons, List.length_append, List.length_cons, Nat.succ_mul]
    have := h x List.mem_cons_self
    have := flat_len fun y hy => h y (List.mem_cons_of_mem _ hy)
    omega
theorem lft_le {rs : List Rl} {m : Nat} (h1 : ∀ r ∈ rs, r.1.length ≤ m) (n : Nat) : (lft rs n).length ≤ m := by
  unfold lft
  rw [List.getD_eq_getElem?_getD]
  cases h : rs[n]? with
  | none => simp
  | some r => exact h1 r (List.mem_of_getElem? h)
theorem ovs_len {rs : List Rl} (h1 : ∀ r ∈ rs, r.1.length ≤ 6) (hn : rs.length ≤ 8) : (ovs rs).length ≤ 384 := by
  have h := flat_len (l := prs rs.length) (f := ov rs) (m := 6) fun p _ => ov_len (lft_le h1 p.1)
  rw [prs_len] at h
  have : rs.length * rs.length ≤ 8 * 8 := Nat.mul_le_mul hn hn
  unfold ovs
  omega
def obody (ix : Nat → Nat) : List Sm := [.set (.nm 9) (.ifx (.cmp .lt (.var 2) (.var 5)) (.con (.int (0))) (.con (.int (1)))), .aug 8 (.lc (.tup [(.var 2), (.var 5), (.var 10)]) (.nm 10) (.rng [(.var 9), (.bi .len (.var 3))]) (.call (ix N_agrees) [(.var 3), (.var 6), (.var 10)]) [10])]
theorem overlap_step (A : OverAt P ix) {rs : List Rl} {i j : Nat} {xs : List Dat} {a0 a1 a4 a7 a9 a10 : Option Dat} (e0 : ∀ d, a0 ≠ some (.own d)) (hl : (lft rs i).length ≤ 6) (hx : xs.length < 16777000) (e1 : era a0 = a0) (e2 : era a1 = a1) (e4 : era a4 = a4) (e7 : era a7 = a7) :
    runs (callK P (k + 1)) (obody ix) [a0, a1, some (.int i), some (.str (lft rs i)), a4, some (.int j), some (.str (lft rs j)), a7, some (.own (.lst xs)), a9, a10] g
      = .ok (.nx [a0, a1, some (.int i), some (.str (lft rs i)), a4, some (.int j), some (.str (lft rs j)), a7, some (.own (.lst (xs ++ (ov rs (i, j)).map dO))), some (.int (bgn i j)), a10]) g := by
  have hb : bgn i j ≤ 1 := by unfold bgn; split <;> omega
  have hr : rngD [.int (bgn i j : Nat), .int ((lft rs i).length : Int)] = some (ilist (bgn i j : Nat) ((lft rs i).length - bgn i j)) := by
    rw [rng2 (by omega) (by omega) (by omega) (by omega) (by omega)]
    congr 2; omega
  have hlc : lcGo (lcStep (callK P (k + 1)) (.tup [(.var 2), (.var 5), (.var 10)]) (.nm 10) (.call (ix N_agrees) [(.var 3), (.var 6), (.var 10)]) [a0, a1, some (.int i), some (.str (lft rs i)), a4, some (.int j), some (.str (lft rs j)), a7, none, some (.int (bgn i j : Nat)), none]) [] (ilist (bgn i j : Nat) ((lft rs i).length - bgn i j)) g
      = .ok ((ov rs (i, j)).map dO) g := by
    rw [lc_ilist (p := fun m => agr ((lft rs i).drop (bgn i j + m)) (lft rs j)) (e := fun m => dO (i, j, bgn i j + m))]
    · unfold ov
      rw [List.map_map]
      rfl
    · intro m hm
      rw [lcStep_nm]
      have := agrees_call (k := k) (g := g) A (l := lft rs i) (t := lft rs j) (a := bgn i j + m)
      rw [Int.natCast_add] at this
      simp [this, dO]
      split <;> rfl
  have hz : xs.length + ((ov rs (i, j)).map dO).length < 16777216 := by
    have := ov_len (rs := rs) (p := (i, j)) (m := 6) hl
    rw [List.length_map]; omega
  by_cases h : i < j
  · have hb2 : bgn i j = 0 := by unfold bgn; rw [if_pos h]
    rw [hb2] at hlc hr ⊢
    have hi : (i : Int) < (j : Int) := by omega
    simp [obody, hi, e1, e2, e4, e7]
    simp at hr
    simp [hr, den_lc2]
    simp at hlc
    simp [hlc]
    rw [augD_own rfl hz]
    rfl
  · have hb2 : bgn i j = 1 := by unfold bgn; rw [if_neg h]
    rw [hb2] at hlc hr ⊢
    have hi : ¬ (i : Int) < (j : Int) := by omega
    simp [obody, hi, e1, e2, e4, e7]
    simp at hr
    simp [hr, den_lc2]
    simp at hlc
    simp [hlc]
    rw [augD_own rfl hz]
    rfl
theorem overlaps_call (A : OverAt P ix) {sz : Nat} {rs : List Rl} (h1 : ∀ r ∈ rs, r.1.length ≤ 6) (hn : rs.length ≤ 8) : callK P (k + 2) (ix N_overlaps_in) [dS sz rs] g = .ok (.lst ((ovs rs).map dO)) g := by
  rw [callK_eq A.ovl rfl]
  have hen := enum_rng rs
  have hsq : rs.length * rs.length ≤ 8 * 8 := Nat.mul_le_mul hn hn
  have hlc : lcGo2 (lcStep2 (callK P (k + 1)) (.tup [(.var 2), (.var 5), (.var 3), (.var 6)]) (.tp [(.nm 2), (.tp [(.nm 3), (.nm 4)])]) (.con (.bl true)) (.tp [(.nm 5), (.tp [(.nm 6), (.nm 7)])]) (.enum (.ix (.var 0) (.con (.int (1))))) (.con (.bl true)) [5, 6, 7] [some (dS sz rs), none, none, none, none, none, none, none, none, none, none]) [] ((List.range rs.length).map fun (i : Nat) => .tup [.int (i : Int), .tup [.str (lft rs i), .str (rgt rs i)]]) g
      = .ok ((prs rs.length).map fun p => .tup [.int p.1, .int p.2, .str (lft rs p.1), .str (lft rs p.2)]) g := by
    have he : (List.range rs.length).flatMap (fun (i : Nat) => (List.range rs.length).map fun (j : Nat) => Dat.tup [.int (i : Int), .int (j : Int), .str (lft rs i), .str (lft rs j)]) = (prs rs.length).map fun p => .tup [.int p.1, .int p.2, .str (lft rs p.1), .str (lft rs p.2)] := by
      unfold prs
      rw [List.map_flatMap]
      simp [Function.comp_def]
    rw [lcc_map (h := fun i : Nat => (List.range rs.length).map fun (j : Nat) => Dat.tup [.int (i : Int), .int (j : Int), .str (lft rs i), .str (lft rs j)]) (B := 16777216)]
    · rw [List.nil_append, he]
    · rw [List.nil_append, he, List.length_map, prs_len]
      omega
    · intro i hi acc hB
      unfold lcStep2
      simp [dS, den_enum, hen]
      rw [lcC_map (p := fun _ => true) (e := fun (j : Nat) => Dat.tup [.int (i : Int), .int (j : Int), .str (lft rs i), .str (lft rs j)])]
      · rw [List.filter_eq_self.mpr (by simp)]
      · intro j hj
        rw [lcStep_tp (ρ1 := [some (dS sz rs), none, some (.int i), some (.str (lft rs i)), some (.str (rgt rs i)), some (.int j), some (.str (lft rs j)), some (.str (rgt rs j)), none, none, none]) (by simp [dS])]
        simp
      · simp at hB ⊢
        exact hB
  obtain ⟨rw0, hrw0⟩ : ∃ r : Dat, r = .lst ((prs rs.length).map fun p => .tup [.int p.1, .int p.2, .str (lft rs p.1), .str (lft rs p.2)]) := ⟨_, rfl⟩
  have hfor : ∃ ρ2 : Sl, forGo (.tp [(.nm 2), (.nm 5), (.nm 3), (.nm 6)]) (fun ρ g => runs (callK P (k + 1)) (obody ix) ρ g)
      ((prs rs.length).map fun p => .tup [.int p.1, .int p.2, .str (lft rs p.1), .str (lft rs p.2)]) [some (dS sz rs), some rw0, none, none, none, none, none, none, some (.own (.lst [])), none, none] g = .ok (.nx ρ2) g ∧
      ∃ b2 b3 b4 b5 b6 b7 b9 b10 : Option Dat, era b4 = b4 ∧ era b7 = b7 ∧ ρ2 = [some (dS sz rs), some rw0, b2, b3, b4, b5, b6, b7, some (.own (.lst ((ovs rs).map dO))), b9, b10] := by
    refine forGo_pre (c := fun p : Nat × Nat => Dat.tup [.int p.1, .int p.2, .str (lft rs p.1), .str (lft rs p.2)]) (xs := prs rs.length)
      (I := fun pre ρ => ∃ b2 b3 b4 b5 b6 b7 b9 b10 : Option Dat, era b4 = b4 ∧ era b7 = b7 ∧ ρ = [some (dS sz rs), some rw0, b2, b3, b4, b5, b6, b7, some (.own (.lst ((pre.flatMap (ov rs)).map dO))), b9, b10]) ?_ ⟨none, none, none, none, none, none, none, none, rfl, rfl, rfl⟩
    rintro pre ⟨i, j⟩ post e ρ ⟨b2, b3, b4, b5, b6, b7, b9, b10, e4, e7, rfl⟩
    have hlen : ((pre.flatMap (ov rs)).map dO).length < 16777000 := by
      have h := flat_len (l := pre) (f := ov rs) (m := 6) fun p _ => ov_len (lft_le h1 p.1)
      have h2 : pre.length ≤ (prs rs.length).length := by rw [e]; simp
      rw [prs_len] at h2
      rw [List.length_map]
      omega
    have st := overlap_step (k := k) (g := g) A (i := i) (j := j) (a0 := some (dS sz rs)) (a1 := some rw0) (a4 := b4) (a7 := b7) (a9 := b9) (a10 := b10) (xs := (pre.flatMap (ov rs)).map dO) (fun d z => by simp [dS] at z) (lft_le h1 i) hlen rfl (by rw [hrw0]; rfl) e4 e7
    refine ⟨_, by simp, _, st, some (.int (i : Nat)), some (.str (lft rs i)), b4, some (.int (j : Nat)), some (.str (lft rs j)), b7, some (.int (bgn i j : Nat)), b10, e4, e7, ?_⟩
    rw [List.flatMap_append, List.map_append, List.flatMap_cons, List.flatMap_nil, List.append_nil]
  obtain ⟨ρ2, h2, b2, b3, b4, b5, b6, b7, b9, b10, e4, e7, rfl⟩ := hfor
  show ((runs (callK P (k + 1)) (D_overlaps_in ix).body [some (dS sz rs), none, none, none, none, none, none, none, none, none, none] g).bind (retOf false)) = _
  have body : (D_overlaps_in ix).body = [.set (.nm 1) (.lc2 (.tup [(.var 2), (.var 5), (.var 3), (.var 6)]) (.tp [(.nm 2), (.tp [(.nm 3), (.nm 4)])]) (.enum (.ix (.var 0) (.con (.int (1))))) (.con (.bl true)) (.tp [(.nm 5), (.tp [(.nm 6), (.nm 7)])]) (.enum (.ix (.var 0) (.con (.int (1))))) (.con (.bl true)) [2, 3, 4, 5, 6, 7] [5, 6, 7]),
    .new 8 (.lst []), .fors (.tp [(.nm 2), (.nm 5), (.nm 3), (.nm 6)]) (.var 1) (obody ix), .ret (.var 8)] := rfl
  have es : era (some (dS sz rs)) = some (dS sz rs) := rfl
  have gs : getD (dS sz rs) (.int 1) g = some (.tup (rs.map dR)) := by simp [dS]
  have er : era (some rw0) = some rw0 := by rw [hrw0]; rfl
  have ei : itemsD rw0 = some ((prs rs.length).map fun p => .tup [.int p.1, .int p.2, .str (lft rs p.1), .str (lft rs p.2)]) := by rw [hrw0]; rfl
  rw [body]
  simp [es, den_lcc, den_enum, gs, hen, hlc]
  rw [← hrw0]
  simp [er, ei, h2]
end
end R
set_option Elab.async false
set_option linter.all false
set_option maxRecDepth 100000
set_option maxHeartbeats 4000000
/-! Overlaps, loops, flaws. -/
namespace R

/-- what the flaws ask of a system's rules -/
structure GoodF (rs : List Rl) : Prop where
  n : rs.length ≤ 8
  l1 : ∀ r ∈ rs, 1 ≤ r.1.length
  l2 : ∀ r ∈ rs, r.1.length ≤ 6
  r2 : ∀ r ∈ rs, r.2.length ≤ 6
theorem GoodS.f {sz : Nat} {rs : List Rl} (h : GoodS sz rs) : GoodF rs := ⟨h.n2, fun r hr => (h.r r hr).l1, fun r hr => (h.r r hr).l2, fun r hr => (h.r r hr).r2⟩
theorem GoodF.rg {rs : List Rl} (h : GoodF rs) (n : Nat) : (rgt rs n).length ≤ 6 := by
  unfold rgt
  rw [List.getD_eq_getElem?_getD]
  cases e : rs[n]? with
  | none => simp
  | some r => exact h.r2 r (List.mem_of_getElem? e)
def wo (rs : List Rl) (o : Ov) : Wrd := lft rs o.1 ++ (lft rs o.2.1).drop ((lft rs o.1).length - o.2.2)
def sd1 (rs : List Rl) (o : Ov) : Wrd := bh rs (wo rs o) (0, o.1)
def sd2 (rs : List Rl) (o : Ov) : Wrd := bh rs (wo rs o) (o.2.2, o.2.1)
theorem mem_ov {rs : List Rl} {p : Nat × Nat} {o : Ov} (h : o ∈ ov rs p) : o.1 = p.1 ∧ o.2.1 = p.2 ∧ o.2.2 < (lft rs p.1).length := by
  unfold ov at h
  obtain ⟨m, hm, rfl⟩ := List.mem_map.mp h
  have := List.mem_range.mp (List.mem_filter.mp hm).1
  exact ⟨rfl, rfl, by show bgn p.1 p.2 + m < _; omega⟩
theorem mem_ovs {rs : List Rl} {o : Ov} (h : o ∈ ovs rs) : o.1 < rs.length ∧ o.2.1 < rs.length ∧ o.2.2 < (lft rs o.1).length := by
  unfold ovs prs at h
  obtain ⟨p, hp, ho⟩ := List.mem_flatMap.mp h
  obtain ⟨i, hi, hp⟩ := List.mem_flatMap.mp hp
  obtain ⟨j, hj, rfl⟩ := List.mem_map.mp hp
  obtain ⟨h1, h2, h3⟩ := mem_ov ho
  have h1 : o.1 = i := h1
  have h2 : o.2.1 = j := h2
  have h3 : o.2.2 < (lft rs i).length := h3
  rw [h1, h2]
  exact ⟨List.mem_range.mp hi, List.mem_range.mp hj, h3⟩
theorem wo_len {rs : List Rl} (h : GoodF rs) (o : Ov) : (wo rs o).length ≤ 12 := by
  unfold wo
  have h1 := lft_le h.l2 o.1
  have h2 := lft_le h.l2 o.2.1
  rw [List.length_append, List.length_drop]
  omega
theorem okAll_dP (l : List (Nat × Nat)) : okAllB (l.map dP) 63 = true := okAll_of fun d hd => by
  obtain ⟨r, _, rfl⟩ := List.mem_map.mp hd
  rfl
section
variable {P : Pg} {ix : Nat → Nat} {k : Nat} {g : List Dat}
theorem stepsF_call (A : StepsAt P ix) {sz : Nat} {rs : List Rl} {w : Wrd} (h : GoodF rs) (hw : w.length ≤ 100000) : callK P (k + 2) (ix N_steps_in) [dS sz rs, .str w] g = .ok (.lst ((stepsN rs w).map dP)) g :=
  steps_call A h.l1 (fun r hr => by have := h.l2 r hr; omega) (by have := h.n; omega) hw
theorem behindF_call (A : StepsAt P ix) {sz : Nat} {rs : List Rl} {w : Wrd} {s : Nat × Nat} (h : GoodF rs) (hs : s.2 < rs.length) (hw : w.length ≤ 100000) : callK P (k + 1) (ix N_behind_in) [dS sz rs, .str w, dP s] g = .ok (.str (bh rs w s)) g :=
  behind_call A hs (fun r hr => by have := h.r2 r hr; omega) (by omega)
theorem first_call (A : OverAt P ix) {sz : Nat} {rs : List Rl} {w : Wrd} (h : GoodF rs) (hw : w.length ≤ 100000) : ∃ d, callK P (k + 3) (ix N_first_in) [dS sz rs, .str w] g = .ok d g ∧ isNonB d = (stepsN rs w).isEmpty := by
  have hs := stepsF_call (k := k) (g := g) A.toStepsAt (sz := sz) h hw
  have es : era (some (dS sz rs)) = some (dS sz rs) := rfl
  have hne := cpD_neNil (okAll_dP (stepsN rs w))
  cases e : stepsN rs w with
  | nil =>
    rw [e] at hs hne
    refine ⟨.non, ?_, rfl⟩
    rw [callK_eq A.fst rfl]
    simp at hs hne
    simp [D_first_in, es, hs, hne]
  | cons s l =>
    rw [e] at hs hne
    refine ⟨dP s, ?_, rfl⟩
    rw [callK_eq A.fst rfl]
    simp at hs hne
    simp [D_first_in, es, hs, hne]
theorem word_in_call (A : OverAt P ix) {sz : Nat} {rs : List Rl} {o : Ov} (h : GoodF rs) (h1 : o.1 < rs.length) (h2 : o.2.1 < rs.length) (h3 : o.2.2 < (lft rs o.1).length) : callK P (k + 1) (ix N_word_in) [dS sz rs, dO o] g = .ok (.str (wo rs o)) g := by
  rw [callK_eq A.wrd rfl]
  obtain ⟨i, j, a⟩ := o
  have hi : atD (rs.map dR) (i : Int) = some (.tup [.str (lft rs i), .str (rgt rs i)]) := by
    rw [atD_nat (by omega)]
    simpa using get_rule h1
  have hj : atD (rs.map dR) (j : Int) = some (.tup [.str (lft rs j), .str (rgt rs j)]) := by
    rw [atD_nat (by omega)]
    simpa using get_rule h2
  have l1 := lft_le h.l2 i
  have l2 := lft_le h.l2 j
  have h3 : a < (lft rs i).length := h3
  have e := cut_from (lft rs j) ((lft rs i).length - a)
  rw [Int.natCast_sub (by omega)] at e
  have o1 := opD_addS (x := lft rs i) (y := (lft rs j).drop ((lft rs i).length - a)) (by rw [List.length_drop]; omega)
  simp [D_word_in, dS, dO, hi, hj, e, o1, wo]
theorem sides_call (A : OverAt P ix) {sz : Nat} {rs : List Rl} {o : Ov} (h : GoodF rs) (h1 : o.1 < rs.length) (h2 : o.2.1 < rs.length) (h3 : o.2.2 < (lft rs o.1).length) : callK P (k + 2) (ix N_sides_in) [dS sz rs, dO o] g = .ok (.tup [.str (sd1 rs o), .str (sd2 rs o)]) g := by
  rw [callK_eq A.sds rfl]
  have hw := word_in_call (k := k) (g := g) A (sz := sz) h h1 h2 h3
  have hl := wo_len h o
  have b1 := behindF_call (k := k) (g := g) A.toStepsAt (sz := sz) (w := wo rs o) (s := (0, o.1)) h h1 (by omega)
  have b2 := behindF_call (k := k) (g := g) A.toStepsAt (sz := sz) (w := wo rs o) (s := (o.2.2, o.2.1)) h h2 (by omega)
  have es : era (some (dS sz rs)) = some (dS sz rs) := rfl
  have ss : stp (some (dS sz rs)) = some (dS sz rs) := rfl
  have eo : era (some (dO o)) = some (dO o) := rfl
  have so : stp (some (dO o)) = some (dO o) := rfl
  have g0 : getD (dO o) (.int 0) g = some (.int o.1) := by simp [dO]
  have g1 : getD (dO o) (.int 1) g = some (.int o.2.1) := by simp [dO]
  have g2 : getD (dO o) (.int 2) g = some (.int o.2.2) := by simp [dO]
  unfold dP at b1 b2
  simp at b1 b2
  simp [D_sides_in, es, ss, eo, so, hw, g0, g1, g2, b1, b2, sd1, sd2]
/-- both sides rest, apart -/
def apart (rs : List Rl) (o : Ov) : Bool := !(sd1 rs o == sd2 rs o) && ((stepsN rs (sd1 rs o)).isEmpty && (stepsN rs (sd2 rs o)).isEmpty)
theorem sd_len {rs : List Rl} (h : GoodF rs) (o : Ov) : (sd1 rs o).length ≤ 18 ∧ (sd2 rs o).length ≤ 18 := by
  have hl := wo_len h o
  have a := bh_len (rs := rs) (w := wo rs o) (s := (0, o.1)) (m := 6) h.r2
  have b := bh_len (rs := rs) (w := wo rs o) (s := (o.2.2, o.2.1)) (m := 6) h.r2
  exact ⟨by unfold sd1; omega, by unfold sd2; omega⟩
theorem parts_call (A : OverAt P ix) {sz : Nat} {rs : List Rl} (h : GoodF rs) : callK P (k + 5) (ix N_parts_at_rest) [dS sz rs] g = .ok (.bl ((ovs rs).any (apart rs))) g := by
  rw [callK_eq A.par rfl]
  have ho := overlaps_call (k := k + 2) (g := g) A (sz := sz) (rs := rs) h.l2 h.n
  have es : era (some (dS sz rs)) = some (dS sz rs) := rfl
  have ss : stp (some (dS sz rs)) = some (dS sz rs) := rfl
  have hf := forGo_find (g := g) (c := dO) (p := apart rs) (out := .bl true) (f := false) (xs := ovs rs) (tg := .nm 1)
    (body := fun ρ g => runs (callK P (k + 4)) [.set (.tp [(.nm 2), (.nm 3)]) (.call (ix N_sides_in) [(.var 0), (.var 1)]),
      .ifs (.and (.cmp .ne (.var 2) (.var 3)) (.and (.cmp .is (.call (ix N_first_in) [(.var 0), (.var 2)]) (.con (.non))) (.cmp .is (.call (ix N_first_in) [(.var 0), (.var 3)]) (.con (.non))))) [
        .ret (.con (.bl true))] []] ρ g)
    (I := fun ρ => ∃ a1 a2 a3 : Option Dat, ρ = [some (dS sz rs), a1, a2, a3]) (ρ := [some (dS sz rs), none, none, none]) ⟨_, _, _, rfl⟩ (by
      rintro o ho ρ ⟨a1, a2, a3, rfl⟩
      obtain ⟨m1, m2, m3⟩ := mem_ovs ho
      have hs := sides_call (k := k + 2) (g := g) A (sz := sz) h m1 m2 m3
      obtain ⟨l1, l2⟩ := sd_len h o
      obtain ⟨d1, f1, n1⟩ := first_call (k := k + 1) (g := g) A (sz := sz) (w := sd1 rs o) h (by omega)
      obtain ⟨d2, f2, n2⟩ := first_call (k := k + 1) (g := g) A (sz := sz) (w := sd2 rs o) h (by omega)
      have eo : era (some (dO o)) = some (dO o) := rfl
      have so : stp (some (dO o)) = some (dO o) := rfl
      refine ⟨[some (dS sz rs), some (dO o), a2, a3], by simp, ?_⟩
      by_cases c1 : sd1 rs o = sd2 rs o
      · have ha : apart rs o = false := by simp [apart, c1]
        refine .inr ⟨ha, ?_⟩
        simp only [runs_cons, runs_nil, run_set, den_call, denL_cons, denL_nil, den_var, erase_cons, erase_nil, es, eo, List.getD_cons_zero, List.getD_cons_succ, ofO_some, bind_ok, hs]
        simp [c1, ss]
      · cases q1 : (stepsN rs (sd1 rs o)).isEmpty with
        | false =>
          have ha : apart rs o = false := by simp [apart, q1]
          rw [q1] at n1
          refine .inr ⟨ha, ?_⟩
          simp [es, eo, ss, hs, c1, f1, n1]
        | true =>
          rw [q1] at n1
          cases q2 : (stepsN rs (sd2 rs o)).isEmpty with
          | false =>
            have ha : apart rs o = false := by simp [apart, q2]
            rw [q2] at n2
            refine .inr ⟨ha, ?_⟩
            simp [es, eo, ss, hs, c1, f1, n1, f2, n2]
          | true =>
            have ha : apart rs o = true := by simp [apart, q1, q2, c1]
            rw [q2] at n2
            refine .inl ⟨ha, ?_⟩
            simp [es, eo, ss, hs, c1, f1, n1, f2, n2])
  rcases hf with ⟨e, hf⟩ | ⟨e, ρ2, hf, a1, a2, a3, rfl⟩
  · rw [e]
    simp [D_parts_at_rest, es, ho]
    simp at hf
    simp [hf]
  · rw [e]
    simp [D_parts_at_rest, es, ho]
    simp at hf
    simp [hf]
end
end R
set_option Elab.async false
set_option linter.all false
set_option maxRecDepth 100000
set_option maxHeartbeats 4000000
/-! Loops, flaws. -/
namespace R
/-- a loop of two steps at most -/
def again1 (rs : List Rl) (w : Wrd) (s : Nat × Nat) : Bool := infixB w (bh rs w s) || (stepsN rs (bh rs w s)).any fun t => infixB w (bh rs (bh rs w s) t)
def again (rs : List Rl) (w : Wrd) : Bool := (stepsN rs w).any (again1 rs w)
theorem step_lt {rs : List Rl} {w : Wrd} {s : Nat × Nat} (h : s ∈ stepsN rs w) : s.2 < rs.length := by
  unfold stepsN at h
  obtain ⟨a, _, h⟩ := List.mem_flatMap.mp h
  obtain ⟨n, hn, rfl⟩ := List.mem_map.mp h
  exact List.mem_range.mp (List.mem_filter.mp hn).1
section
variable {P : Pg} {ix : Nat → Nat} {k : Nat} {g : List Dat}
theorem again_call (A : OverAt P ix) {sz : Nat} {rs : List Rl} {w : Wrd} (h : GoodF rs) (hw : w.length ≤ 1000) : callK P (k + 3) (ix N_comes_again) [dS sz rs, .str w] g = .ok (.bl (again rs w)) g := by
  rw [callK_eq A.cma rfl]
  have ho := stepsF_call (k := k) (g := g) A.toStepsAt (sz := sz) (w := w) h (by omega)
  have es : era (some (dS sz rs)) = some (dS sz rs) := rfl
  have ss : stp (some (dS sz rs)) = some (dS sz rs) := rfl
  have hf := forGo_find (g := g) (c := dP) (p := again1 rs w) (out := .bl true) (f := false) (xs := stepsN rs w) (tg := .nm 2)
    (body := fun ρ g => runs (callK P (k + 2)) [.set (.nm 3) (.call (ix N_behind_in) [(.var 0), (.var 1), (.var 2)]),
      .ifs (.or (.cmp .isin (.var 1) (.var 3)) (.bi .any (.lc (.cmp .isin (.var 1) (.call (ix N_behind_in) [(.var 0), (.var 3), (.var 4)])) (.nm 4) (.call (ix N_steps_in) [(.var 0), (.var 3)]) (.con (.bl true)) [4]))) [
        .ret (.con (.bl true))] []] ρ g)
    (I := fun ρ => ∃ a2 a3 : Option Dat, ρ = [some (dS sz rs), some (.str w), a2, a3, none]) (ρ := [some (dS sz rs), some (.str w), none, none, none]) ⟨_, _, rfl⟩ (by
      rintro s hs ρ ⟨a2, a3, rfl⟩
      have m := step_lt hs
      have eo : era (some (dP s)) = some (dP s) := rfl
      have so : stp (some (dP s)) = some (dP s) := rfl
      have hb := behindF_call (k := k + 1) (g := g) A.toStepsAt (sz := sz) (w := w) (s := s) h m (by omega)
      have l1 := bh_len (rs := rs) (w := w) (s := s) (m := 6) h.r2
      have hst := stepsF_call (k := k) (g := g) A.toStepsAt (sz := sz) (w := bh rs w s) h (by omega)
      have hlc : lcGo (lcStep (callK P (k + 2)) (.cmp .isin (.var 1) (.call (ix N_behind_in) [(.var 0), (.var 3), (.var 4)])) (.nm 4) (.con (.bl true)) [some (dS sz rs), some (.str w), some (dP s), some (.str (bh rs w s)), none]) [] ((stepsN rs (bh rs w s)).map dP) g = .ok ((stepsN rs (bh rs w s)).map fun t => .bl (infixB w (bh rs (bh rs w s) t))) g := by
        rw [lc_map (p := fun _ => true) (e := fun t => .bl (infixB w (bh rs (bh rs w s) t)))]
        · rw [List.filter_eq_self.mpr (by simp)]; rfl
        · intro t ht
          have m2 := step_lt ht
          have hb2 := behindF_call (k := k + 1) (g := g) A.toStepsAt (sz := sz) (w := bh rs w s) (s := t) h m2 (by omega)
          rw [lcStep_nm]
          simp [hb2]
      have hany := any_map (fun t => infixB w (bh rs (bh rs w s) t)) (stepsN rs (bh rs w s))
      refine ⟨[some (dS sz rs), some (.str w), some (dP s), a3, none], by simp, ?_⟩
      cases q1 : infixB w (bh rs w s) with
      | true =>
        have ha : again1 rs w s = true := by simp [again1, q1]
        refine .inl ⟨ha, ?_⟩
        simp [es, eo, ss, so, hb, q1]
      | false =>
        cases q2 : (stepsN rs (bh rs w s)).any (fun t => infixB w (bh rs (bh rs w s) t)) with
        | true =>
          have ha : again1 rs w s = true := by simp [again1, q2]
          rw [q2] at hany
          refine .inl ⟨ha, ?_⟩
          simp [es, eo, ss, so, hb, q1, den_lc2, hst, hlc, hany]
        | false =>
          have ha : again1 rs w s = false := by simp only [again1, q1, q2]; rfl
          rw [q2] at hany
          refine .inr ⟨ha, ?_⟩
          simp [es, eo, ss, so, hb, q1, den_lc2, hst, hlc, hany])
  unfold again
  rcases hf with ⟨e, hf⟩ | ⟨e, ρ2, hf, a2, a3, rfl⟩
  · rw [e]
    simp [D_comes_again, es, ho]
    simp at hf
    simp [hf]
  · rw [e]
    simp [D_comes_again, es, ho]
    simp at hf
    simp [hf]
def loopW : Wrd := [108, 111, 111, 112]
def restsW : Wrd := [114, 101, 115, 116, 115]
def loops (rs : List Rl) : Bool := rs.any fun r => again rs r.1
def splits (rs : List Rl) : Bool := (ovs rs).any (apart rs)
theorem flawed_rests (A : OverAt P ix) {sz : Nat} {rs : List Rl} (h : GoodF rs) : callK P (k + 6) (ix N_flawed_in) [dS sz rs, .str restsW] g = .ok (.bl (splits rs)) g := by
  rw [callK_eq A.flw rfl]
  have hp := parts_call (k := k) (g := g) A (sz := sz) h
  have ss : stp (some (dS sz rs)) = some (dS sz rs) := rfl
  simp [D_flawed_in, restsW, ss, hp, splits]
theorem flawed_loop (A : OverAt P ix) {sz : Nat} {rs : List Rl} (h : GoodF rs) : callK P (k + 6) (ix N_flawed_in) [dS sz rs, .str loopW] g = .ok (.bl (loops rs)) g := by
  rw [callK_eq A.flw rfl]
  have ss : stp (some (dS sz rs)) = some (dS sz rs) := rfl
  have gs : getD (dS sz rs) (.int 1) g = some (.tup (rs.map dR)) := by simp [dS]
  have hlc : lcGo (lcStep (callK P (k + 5)) (.call (ix N_comes_again) [(.var 0), (.var 2)]) (.tp [(.nm 2), (.nm 3)]) (.con (.bl true)) [some (dS sz rs), some (.str loopW), none, none]) [] (rs.map dR) g = .ok (rs.map fun r => .bl (again rs r.1)) g := by
    rw [lc_map (p := fun _ => true) (e := fun r => .bl (again rs r.1))]
    · rw [List.filter_eq_self.mpr (by simp)]; rfl
    · intro r hr
      have hc := again_call (k := k + 2) (g := g) A (sz := sz) (w := r.1) h (by have := h.l2 r hr; omega)
      rw [lcStep_tp (ρ1 := [some (dS sz rs), some (.str loopW), some (.str r.1), some (.str r.2)]) (by simp [dR])]
      simp [hc]
  have ha := any_map (fun r => again rs r.1) rs
  simp only [loopW] at hlc ⊢
  simp [D_flawed_in, ss, den_lc2, gs, hlc, ha, loops]
def flaws (rs : List Rl) : List Wrd := [loopW, restsW].filter fun f => if f == loopW then loops rs else splits rs
theorem flaws_call (W : WordsAt P ix) (A : OverAt P ix) {sz : Nat} {rs : List Rl} (h : GoodS sz rs) : callK P (k + 7) (ix N_flaws_of) [dS sz rs] g = .ok (.tup ((flaws rs).map .str)) g := by
  rw [callK_eq A.fls rfl]
  have hn := need_call (k := k + 2) (g := g) W h
  have ss : stp (some (dS sz rs)) = some (dS sz rs) := rfl
  have h1 := flawed_loop (k := k) (g := g) A (sz := sz) h.f
  have h2 := flawed_rests (k := k) (g := g) A (sz := sz) h.f
  have hlc : lcGo (lcStep (callK P (k + 6)) (.var 1) (.nm 1) (.call (ix N_flawed_in) [(.var 0), (.var 1)]) [some (dS sz rs), none]) [] ([loopW, restsW].map .str) g = .ok ((flaws rs).map .str) g := by
    rw [lc_map (p := fun f => if f == loopW then loops rs else splits rs) (e := .str)]
    · rfl
    · intro f hf
      rw [lcStep_nm]
      rcases List.mem_cons.mp hf with rfl | hf
      · simp [h1]
        split <;> rfl
      · obtain rfl := List.mem_singleton.mp hf
        have : (restsW == loopW) = false := by decide
        simp [h2, this]
        split <;> rfl
  have hlc' : lcGo (lcStep (callK P (k + 6)) (.var 1) (.nm 1) (.call (ix N_flawed_in) [(.var 0), (.var 1)]) [some (dS sz rs), none]) [] [.str [108, 111, 111, 112], .str [114, 101, 115, 116, 115]] g = .ok ((flaws rs).map .str) g := hlc
  simp [D_flaws_of, ss, hn, den_lc2, hlc']
end
end R
set_option Elab.async false
set_option linter.all false
set_option maxRecDepth 100000
set_option maxHeartbeats 4000000
/-! The laws' own steps. -/
namespace R
structure LawSteps (P : Pg) (ix : Nat → Nat) : Prop where
  stp : P[ix N__law_steps]? = some (D__law_steps ix)
  bhd : P[ix N__law_behind]? = some (D__law_behind ix)
section
variable {P : Pg} {ix : Nat → Nat} {k : Nat} {g : List Dat}
theorem lbehind_call (A : LawSteps P ix) {sz : Nat} {rs : List Rl} {w : Wrd} {s : Nat × Nat} (h : GoodF rs) (hs : s.2 < rs.length) (hw : w.length ≤ 100000) : callK P (k + 1) (ix N__law_behind) [dS sz rs, .str w, dP s] g = .ok (.str (bh rs w s)) g := by
  have e : D__law_behind ix = D_behind_in ix := rfl
  rw [callK_eq A.bhd rfl, e]
  obtain ⟨a, n⟩ := s
  have hg := get_rule hs
  have hat : atD (rs.map dR) (n : Int) = some (.tup [.str (lft rs n), .str (rgt rs n)]) := by
    rw [atD_nat (by omega)]
    simpa using hg
  have e1 := cut_to w a
  have e2 := cut_from w (a + (lft rs n).length)
  rw [Int.natCast_add] at e2
  have hr := h.rg n
  have o1 := opD_addS (x := w.take a) (y := rgt rs n) (by rw [List.length_take]; omega)
  have o2 := opD_addS (x := w.take a ++ rgt rs n) (y := w.drop (a + (lft rs n).length)) (by rw [List.length_append, List.length_take, List.length_drop]; omega)
  rw [List.append_assoc] at o2
  simp [D_behind_in, dS, dP, hat, e1, e2, o1, o2, bh]
def stepsAt (rs : List Rl) (w : Wrd) (a : Nat) : List (Nat × Nat) := ((List.range rs.length).filter fun n => occ (lft rs n) w a).map fun n => (a, n)
theorem stepsAt_len {rs : List Rl} {w : Wrd} {a : Nat} : (stepsAt rs w a).length ≤ rs.length := by
  unfold stepsAt
  rw [List.length_map]
  refine Nat.le_trans (List.length_filter_le _ _) ?_
  rw [List.length_range]
  exact Nat.le_refl _
theorem stepsN_len {rs : List Rl} {w : Wrd} : (stepsN rs w).length ≤ w.length * rs.length := by
  have := flat_len (l := List.range w.length) (f := stepsAt rs w) (m := rs.length) fun a _ => stepsAt_len
  rw [List.length_range] at this
  exact this
theorem lsteps_call (A : LawSteps P ix) {sz : Nat} {rs : List Rl} {w : Wrd} (h : GoodF rs) (hw : w.length ≤ 10000) : callK P (k + 1) (ix N__law_steps) [dS sz rs, .str w] g = .ok (.lst ((stepsN rs w).map dP)) g := by
  rw [callK_eq A.stp rfl]
  have es : era (some (dS sz rs)) = some (dS sz rs) := rfl
  have ss : stp (some (dS sz rs)) = some (dS sz rs) := rfl
  have gs : getD (dS sz rs) (.int 1) g = some (.tup (rs.map dR)) := by simp [dS]
  have hn := h.n
  have hr : rngD [.int (w.length : Int)] = some ((List.range w.length).map fun (a : Nat) => Dat.int (a : Int)) := by
    rw [rng1 (by omega) (by omega)]
    unfold ilist
    simp
  have hr2 : rngD [.int (rs.length : Int)] = some (ilist 0 rs.length) := rng1 (by omega) (by omega)
  obtain ⟨ρ2, hf, b3, rfl⟩ := forGo_pre (g := g) (c := fun (a : Nat) => Dat.int (a : Int)) (xs := List.range w.length) (tg := .nm 3)
    (body := fun ρ g => runs (callK P k) [.set (.nm 2) (.op .add (.var 2) (.lc (.tup [(.var 3), (.var 4)]) (.nm 4) (.rng [(.bi .len (.ix (.var 0) (.con (.int (1)))))]) (.me .startswith (.sl (.var 1) (.asInt (.var 3)) (.con .non)) (.ix (.ix (.ix (.var 0) (.con (.int (1)))) (.var 4)) (.con (.int (0))))) [4]))] ρ g)
    (I := fun pre ρ => ∃ b3 : Option Dat, ρ = [some (dS sz rs), some (.str w), some (.lst ((pre.flatMap (stepsAt rs w)).map dP)), b3, none]) (by
      rintro pre a post e ρ ⟨b3, rfl⟩
      refine ⟨_, bindT_nm, ?_⟩
      have hlc : lcGo (lcStep (callK P k) (.tup [(.var 3), (.var 4)]) (.nm 4) (.me .startswith (.sl (.var 1) (.asInt (.var 3)) (.con .non)) (.ix (.ix (.ix (.var 0) (.con (.int (1)))) (.var 4)) (.con (.int (0))))) [some (dS sz rs), some (.str w), some (.lst ((pre.flatMap (stepsAt rs w)).map dP)), some (.int a), none]) [] (ilist 0 rs.length) g = .ok ((stepsAt rs w a).map dP) g := by
        rw [lc_ilist (p := fun n => occ (lft rs n) w a) (e := fun n => dP (a, n))]
        · unfold stepsAt
          rw [List.map_map]
          rfl
        · intro n hn
          rw [lcStep_nm]
          have hat : atD (rs.map dR) (n : Int) = some (.tup [.str (lft rs n), .str (rgt rs n)]) := by
            rw [atD_nat (by omega)]
            simpa using get_rule hn
          have e1 := cut_from w a
          have em : meD .startswith (.str (w.drop a)) (.str (lft rs n)) = some (.bl (occ (lft rs n) w a)) := rfl
          simp [gs, hat, e1, em, dP]
          split <;> rfl
      have hpl : (pre.flatMap (stepsAt rs w)).length ≤ pre.length * rs.length := flat_len fun a _ => stepsAt_len
      have hp2 : pre.length ≤ w.length := by
        have := congrArg List.length e
        simp at this
        omega
      have hp3 : pre.length * rs.length ≤ 10000 * 8 := Nat.mul_le_mul (by omega) hn
      have hsl := stepsAt_len (rs := rs) (w := w) (a := a)
      have ha := opD_addL (x := (pre.flatMap (stepsAt rs w)).map dP) (y := (stepsAt rs w a).map dP) (by rw [List.length_map, List.length_map]; omega)
      refine ⟨[some (dS sz rs), some (.str w), some (.lst (((pre ++ [a]).flatMap (stepsAt rs w)).map dP)), some (.int a), none], ?_, _, rfl⟩
      rw [List.flatMap_append, List.map_append, List.flatMap_cons, List.flatMap_nil, List.append_nil]
      simp [es, den_lc2, gs, hr2, hlc, ha])
    (ρ := [some (dS sz rs), some (.str w), some (.lst []), none, none]) ⟨_, rfl⟩
  have e : (List.range w.length).flatMap (stepsAt rs w) = stepsN rs w := rfl
  rw [e] at hf
  simp at hf
  simp [D__law_steps, es, hr, hf]
end
/-! ### words and systems that are drawn -/
structure DrawAt (P : Pg) (ix : Nat → Nat) : Prop where
  ro : ∃ c1 c2 c3 c4 c5 c6 : Int, P[ix N__law_roll]? = some (rollDf c1 c2 c3 c4 c5 c6) ∧ (0 < c3 ∧ c3 < 4294967296) ∧ 0 < c5 ∧ (0 < c6 ∧ c6 < 1073741824) ∧ (0 ≤ c1 ∧ c1 < 4294967296)
  so : P[ix N__law_some]? = some (D__law_some ix)
  wd : P[ix N__law_word]? = some (D__law_word ix)
section
variable {P : Pg} {ix : Nat → Nat} {k : Nat} {g : List Dat}
theorem draw_roll (A : DrawAt P ix) {many : Int} (hm : 0 < many) (hm2 : many < 1073741824) (hg : Gd g) : (callK P (k + 1) (ix N__law_roll) [.cup, .int many] g).sat fun d g' => Gd g' ∧ ∃ r : Int, d = .int r ∧ 0 ≤ r ∧ r < many := by
  obtain ⟨c1, c2, c3, c4, c5, c6, h0, h1, h2, h3, h4⟩ := A.ro
  exact roll_call h0 h1 h2 h3 h4 hm hm2 hg
theorem draw_some (A : DrawAt P ix) {xs : List Dat} (hx : xs ≠ []) (hl : xs.length < 1073741824) (hg : Gd g) :
    (callK P (k + 2) (ix N__law_some) [.cup, .lst xs] g).sat (fun d g' => Gd g' ∧ d ∈ xs) ∧ (callK P (k + 2) (ix N__law_some) [.cup, .tup xs] g).sat (fun d g' => Gd g' ∧ d ∈ xs) := by
  obtain ⟨c1, c2, c3, c4, c5, c6, h0, h1, h2, h3, h4⟩ := A.ro
  exact some_call (iR := ix N__law_roll) A.so h0 h1 h2 h3 h4 hx hl hg
theorem letter_take {sz : Nat} (h2 : sz ≤ 4) {d : Dat} (h : d ∈ List.take sz [Dat.str [97], .str [98], .str [99], .str [100]]) : ∃ c : Nat, d = .str [c] ∧ 97 ≤ c ∧ c < 97 + sz := by
  obtain ⟨i, hi⟩ := List.mem_iff_getElem?.mp h
  rw [List.getElem?_take] at hi
  split at hi
  · rename_i hlt
    obtain rfl | rfl | rfl | rfl : i = 0 ∨ i = 1 ∨ i = 2 ∨ i = 3 := by omega
    all_goals
      simp at hi
      exact ⟨_, hi.symm, by omega, by omega⟩
  · cases hi
theorem draw_word (A : DrawAt P ix) {sz many : Nat} (h1 : 1 ≤ sz) (h2 : sz ≤ 4) (h3 : many ≤ 1000) (hg : Gd g) :
    (callK P (k + 3) (ix N__law_word) [.cup, .int sz, .int many] g).sat fun d g' => Gd g' ∧ ∃ w, d = .str w ∧ Wd sz w ∧ w.length ≤ many := by
  rw [callK_eq A.wd rfl]
  simp only [D__law_word, List.map_cons, List.map_nil, runs_cons, run_ret, den_me, den_con, bind_ok, strK_str, den_lc2, den_rng, denL_cons, denL_nil, den_call, den_var, den_op, sat_bind]
  simp
  refine (draw_roll A (many := (many : Int) + 1) (by omega) (by omega) hg).mono fun d g1 ⟨hg1, r, e, hr1, hr2⟩ => ?_
  subst e
  rw [rng1 (by omega) (by omega)]
  simp
  refine (lc_draw (Q := fun y => ∃ c : Nat, y = .str [c] ∧ (97 ≤ c ∧ c < 97 + sz)) hg1 fun d hd g hg => ?_).mono fun ys g2 ⟨hg2, hl, hy⟩ => ?_
  · rw [lcStep_nm]
    have e1 := cut_to [97, 98, 99, 100] sz
    simp [e1, sat_bind]
    refine (draw_some (k := k) A (xs := List.take sz [.str [97], .str [98], .str [99], .str [100]]) ?_ ?_ hg).1.mono fun y g3 ⟨hg3, hy⟩ => ?_
    · intro z
      have := congrArg List.length z
      simp at this
      omega
    · simp; omega
    · refine ⟨hg3, ?_⟩
      obtain ⟨c, rfl, hc⟩ := letter_take h2 hy
      exact ⟨c, rfl, hc⟩
  · obtain ⟨cs, rfl, hcs⟩ := signs_of hy
    have hlen : cs.length = r.toNat := by simpa [ilist] using hl
    rw [join_signs (by omega)]
    simp
    exact ⟨hg2, hcs, by omega⟩
end
end R
set_option Elab.async false
set_option linter.all false
set_option maxRecDepth 100000
set_option maxHeartbeats 4000000
/-! Systems smaller by one. -/
namespace R
/-- rules of so many letters, sides of six at most, whether a system or not -/
structure PreS (sz : Nat) (rs : List Rl) : Prop where
  s1 : 1 ≤ sz
  s2 : sz ≤ 4
  n : rs.length ≤ 8
  r : ∀ r ∈ rs, Wd sz r.1 ∧ Wd sz r.2 ∧ r.1.length ≤ 6 ∧ r.2.length ≤ 6
theorem GoodS.pre {sz : Nat} {rs : List Rl} (h : GoodS sz rs) : PreS sz rs := ⟨h.s1, h.s2, h.n2, fun r hr => ⟨(h.r r hr).wl, (h.r r hr).wr, (h.r r hr).l2, (h.r r hr).r2⟩⟩
def cntR (rs : List Rl) : Nat := cntD (rs.map dR)
def okR (r : Rl) : Bool := !(r.1 == []) && !(r.1 == r.2)
def goodB (rs : List Rl) : Bool := !rs.isEmpty && (rs.all okR && decide (cntR rs = rs.length))
theorem cntGoD_le : ∀ (l seen : List Dat), cntGoD seen l ≤ l.length
  | [], _ => Nat.le_refl _
  | x :: l, seen => by
    unfold cntGoD
    have := cntGoD_le l (seen ++ [x])
    rw [List.length_cons]
    split <;> omega
theorem cntR_le (rs : List Rl) : cntR rs ≤ rs.length := by
  have := cntGoD_le (rs.map dR) []
  rw [List.length_map] at this
  exact this
theorem cntGo_nd : ∀ (l seen : List Rl), cntGoD (seen.map dR) (l.map dR) = l.length → (∀ x ∈ l, x ∉ seen) ∧ l.Nodup
  | [], _, _ => ⟨fun _ h => (nomatch h), List.nodup_nil⟩
  | x :: l, seen, h => by
    rw [List.map_cons] at h
    unfold cntGoD at h
    have hle := cntGoD_le (l.map dR) (seen.map dR ++ [dR x])
    rw [List.length_map] at hle
    rw [List.length_cons] at h
    by_cases hx : (seen.map dR).any (fun y => eqB y (dR x)) = true
    · rw [if_pos hx] at h
      omega
    · rw [if_neg hx] at h
      have ih := cntGo_nd l (seen ++ [x]) (by rw [List.map_append]; exact (by omega : cntGoD (seen.map dR ++ [dR x]) (l.map dR) = l.length))
      have hxs : x ∉ seen := fun hm => hx (List.any_eq_true.mpr ⟨dR x, List.mem_map.mpr ⟨x, hm, rfl⟩, by rw [eqB_dR]; simp⟩)
      refine ⟨fun y hy => ?_, List.nodup_cons.mpr ⟨fun hm => ih.1 x hm (by simp), ih.2⟩⟩
      rcases List.mem_cons.mp hy with rfl | hy
      · exact hxs
      · exact fun hm => ih.1 y hy (List.mem_append_left _ hm)
theorem cntR_nd {rs : List Rl} (h : rs.Nodup) : cntR rs = rs.length := cnt_nodup rs [] (by simpa using h)
theorem goodB_of {sz : Nat} {rs : List Rl} (p : PreS sz rs) (h : goodB rs = true) : GoodS sz rs := by
  unfold goodB okR at h
  simp only [Bool.and_eq_true, Bool.not_eq_true', List.all_eq_true, decide_eq_true_eq] at h
  obtain ⟨h1, h2, h3⟩ := h
  refine ⟨p.s1, p.s2, ?_, p.n, fun r hr => ?_, (cntGo_nd rs [] h3).2⟩
  · cases rs with
    | nil => cases h1
    | cons _ _ => simp
  · obtain ⟨a, b, c, d⟩ := p.r r hr
    have h4 := h2 r hr
    have h5 : r.1 ≠ [] := by simpa using h4.1
    exact ⟨a, b, List.length_pos_iff.mpr h5, c, d, by simpa using h4.2⟩
theorem goodB_good {sz : Nat} {rs : List Rl} (h : GoodS sz rs) : goodB rs = true := by
  unfold goodB okR
  simp only [Bool.and_eq_true, Bool.not_eq_true', List.all_eq_true, decide_eq_true_eq]
  refine ⟨?_, fun r hr => ⟨?_, ?_⟩, cntR_nd h.nd⟩
  · have := h.n1
    cases rs with
    | nil => simp at this
    | cons _ _ => rfl
  · have := (h.r r hr).l1
    cases e : r.1 with
    | nil => rw [e] at this; simp at this
    | cons _ _ => rfl
  · have := (h.r r hr).ne
    simpa using this
theorem lenset_rulesN {rs : List Rl} (hz : rs.length ≤ 8) : lenSetD (.tup (rs.map dR)) = some (cntR rs) := by
  unfold lenSetD seqD
  rw [Option.bind_some]
  by_cases h : ((rs.map dR).all atomB && decide ((rs.map dR).length ≤ 4000)) = true
  · rw [if_pos h]; rfl
  · rw [if_neg h, if_pos]
    · rfl
    · simp only [Bool.and_eq_true, List.all_eq_true, decide_eq_true_eq, List.length_map]
      refine ⟨⟨fun d hd => ?_, fun d hd => ?_⟩, by omega⟩
      · obtain ⟨r, _, rfl⟩ := List.mem_map.mp hd; rfl
      · obtain ⟨r, _, rfl⟩ := List.mem_map.mp hd; exact nkB_dR r
section
variable {P : Pg} {ix : Nat → Nat} {k : Nat} {g : List Dat} {sz : Nat} {rs : List Rl}
theorem letters_no (A : WordsAt P ix) {hi : Int} : callK P (k + 1) (ix N_fits_letters) [.str [], .int sz, .int 1, .int hi] g = .ok (.bl false) g := by
  rw [callK_eq A.ltr rfl]
  simp [D_fits_letters, isiD]
theorem rule_callB (A : WordsAt P ix) {r : Rl} (hs : sz ≤ 4) (h : Wd sz r.1 ∧ Wd sz r.2 ∧ r.1.length ≤ 6 ∧ r.2.length ≤ 6) : callK P (k + 2) (ix N_fits_rule) [.int sz, dR r] g = .ok (.bl (okR r)) g := by
  rw [callK_eq A.rul rfl]
  obtain ⟨l, rr⟩ := r
  obtain ⟨h1, h2, h3, h4⟩ := h
  simp only at h1 h2 h3 h4
  have e0 := tuple_call (k := k) (g := g) A (xs := [.str l, .str rr]) (lo := 2) (hi := 2) (by simp) (by simp)
  by_cases hl : l = []
  · subst hl
    have f1 := letters_no (k := k) (g := g) (sz := sz) A (hi := 6)
    simp [D_fits_rule, dR, e0, f1, okR]
  · have f1 := letters_call (k := k) (g := g) A hs h1 (lo := 1) (hi := 6) (by have := List.length_pos_iff.mpr hl; omega) (by omega)
    have f2 := letters_call (k := k) (g := g) A hs h2 (lo := 0) (hi := 6) (by omega) (by omega)
    simp [D_fits_rule, dR, e0, f1, f2, okR, hl]
theorem fits_callB (A : WordsAt P ix) (h : PreS sz rs) : callK P (k + 3) (ix N_fits_system) [dS sz rs] g = .ok (.bl (goodB rs)) g := by
  rw [callK_eq A.sys rfl]
  have hs1 := h.s1
  have hs2 := h.s2
  have hn := h.n
  have e1 := tuple_call (k := k + 1) (g := g) A (xs := [.int sz, .tup (rs.map dR)]) (lo := 2) (hi := 2) (by simp) (by simp)
  have e2 := whole_call (k := k + 1) (g := g) A (n := sz) (lo := 1) (hi := 4) (by omega) (by omega)
  have hlc : lcGo (lcStep (callK P (k + 2)) (.call (ix N_fits_rule) [(.var 1), (.var 3)]) (.nm 3) (.con (.bl true)) [some (dS sz rs), some (.int sz), some (.tup (rs.map dR)), none]) [] (rs.map dR) g = .ok (rs.map fun r => .bl (okR r)) g := by
    rw [lc_map (p := fun _ => true) (e := fun r => .bl (okR r))]
    · rw [List.filter_eq_self.mpr (by simp)]; rfl
    · intro r hr
      rw [lcStep_nm]
      simp [rule_callB (k := k) (g := g) A h.s2 (h.r r hr)]
  have ha : biD .all (.lst (rs.map fun r => Dat.bl (okR r))) = some (.bl (rs.all okR)) := all_map okR rs
  have hls := lenset_rulesN hn
  rw [show dS sz rs = .tup [.int sz, .tup (rs.map dR)] from rfl] at hlc ⊢
  by_cases hr : rs = []
  · subst hr
    have e3 : callK P (k + 2) (ix N_is_tuple_of) [.tup [], .int 1, .int 8] g = .ok (.bl false) g := by
      rw [callK_eq A.tup rfl]
      simp [D_is_tuple_of, isiD]
    rw [List.map_nil] at e1
    simp [D_fits_system, e1, e2, e3, goodB]
  · have e3 := tuple_call (k := k + 1) (g := g) A (xs := rs.map dR) (lo := 1) (hi := 8) (by have := List.length_pos_iff.mpr hr; simp; omega) (by simp; omega)
    have hne : rs.isEmpty = false := by cases rs with | nil => exact absurd rfl hr | cons _ _ => rfl
    have hcnt : (decide ((cntR rs : Int) = (rs.length : Int))) = decide (cntR rs = rs.length) := by
      rw [Bool.eq_iff_iff, decide_eq_true_eq, decide_eq_true_eq]; omega
    generalize hX : rs.map (fun r => Dat.bl (okR r)) = X at hlc ha
    cases hall : rs.all okR with
    | true => simp [D_fits_system, e1, e2, e3, den_lc2, hlc, ha, den_lenset, hls, goodB, hne, hall, hcnt]
    | false => simp [D_fits_system, e1, e2, e3, den_lc2, hlc, ha, den_lenset, hls, goodB, hne, hall]
end
/-! ### one thing less -/
def delAt {α : Type} (w : List α) (p : Nat) : List α := w.take p ++ w.drop (p + 1)
def less (r : Rl) : List Rl := (List.range r.1.length).map (fun p => (delAt r.1 p, r.2)) ++ (List.range r.2.length).map (fun p => (r.1, delAt r.2 p))
def putR (rs : List Rl) (a : Nat) (r : Rl) : List Rl := rs.take a ++ [r] ++ rs.drop (a + 1)
def rowsA (rs : List Rl) : List (List Rl) := (List.range rs.length).map (delAt rs) ++ (List.range rs.length).flatMap fun a => (less (rs.getD a ([], []))).map (putR rs a)
/-- each once, in the order of the first ones -/
def uniqGo {α : Type} [DecidableEq α] : List α → List α → List α
  | acc, [] => acc
  | acc, x :: l => uniqGo (if x ∈ acc then acc else acc ++ [x]) l
def smallN (rs : List Rl) : List (List Rl) := (uniqGo [] (rowsA rs)).filter goodB
def pickGo {α : Type} [DecidableEq α] (p : α → Bool) : List α → List α → List α
  | acc, [] => acc
  | acc, x :: l => pickGo p (if p x = true ∧ x ∉ acc then acc ++ [x] else acc) l
theorem pick_add {α : Type} [DecidableEq α] {p : α → Bool} {x : α} : ∀ {l acc : List α}, p x = true ∧ x ∉ pickGo p acc l → pickGo p acc (l ++ [x]) = pickGo p acc l ++ [x]
  | [], acc, h => by
    show pickGo p (if p x = true ∧ x ∉ acc then acc ++ [x] else acc) [] = _
    rw [if_pos (show p x = true ∧ x ∉ acc from h)] <;> rfl
  | y :: l, acc, h => pick_add (l := l) h
theorem pick_not {α : Type} [DecidableEq α] {p : α → Bool} {x : α} : ∀ {l acc : List α}, ¬ (p x = true ∧ x ∉ pickGo p acc l) → pickGo p acc (l ++ [x]) = pickGo p acc l
  | [], acc, h => by
    show pickGo p (if p x = true ∧ x ∉ acc then acc ++ [x] else acc) [] = _
    rw [if_neg (show ¬ (p x = true ∧ x ∉ acc) from h)] <;> rfl
  | y :: l, acc, h => pick_not (l := l) h
theorem pick_len {α : Type} [DecidableEq α] (p : α → Bool) : ∀ (l acc : List α), (pickGo p acc l).length ≤ acc.length + l.length
  | [], acc => by simp [pickGo]
  | y :: l, acc => by
    unfold pickGo
    have h1 := pick_len p l (if p y = true ∧ y ∉ acc then acc ++ [y] else acc)
    have h2 : (if p y = true ∧ y ∉ acc then acc ++ [y] else acc).length ≤ acc.length + 1 := by split <;> simp
    rw [List.length_cons]
    omega
theorem pick_uniq {α : Type} [DecidableEq α] (p : α → Bool) : ∀ (l acc : List α), (uniqGo acc l).filter p = pickGo p (acc.filter p) l
  | [], _ => rfl
  | x :: l, acc => by
    unfold uniqGo pickGo
    rw [pick_uniq p l]
    congr 1
    by_cases h : x ∈ acc
    · rw [if_pos h]
      by_cases hp : p x = true
      · rw [if_neg fun z => z.2 (List.mem_filter.mpr ⟨h, hp⟩)]
      · rw [if_neg fun z => hp z.1]
    · rw [if_neg h, List.filter_append]
      by_cases hp : p x = true
      · rw [if_pos ⟨hp, fun z => h (List.mem_filter.mp z).1⟩, List.filter_cons_of_pos hp]
        rfl
      · rw [if_neg fun z => hp z.1, List.filter_cons_of_neg hp]
        simp
theorem small_pick (rs : List Rl) : smallN rs = pickGo goodB [] (rowsA rs) := by
  unfold smallN
  rw [pick_uniq]
  rfl
theorem mem_uniqGo {α : Type} [DecidableEq α] {x : α} : ∀ {l acc : List α}, x ∈ uniqGo acc l ↔ x ∈ acc ∨ x ∈ l
  | [], acc => by simp [uniqGo]
  | y :: l, acc => by
    unfold uniqGo
    rw [mem_uniqGo]
    by_cases h : y ∈ acc
    · rw [if_pos h, List.mem_cons]
      constructor
      · rintro (h1 | h1)
        · exact .inl h1
        · exact .inr (.inr h1)
      · rintro (h1 | rfl | h1)
        · exact .inl h1
        · exact .inl h
        · exact .inr h1
    · rw [if_neg h, List.mem_append, List.mem_singleton, List.mem_cons, or_assoc]
theorem delAt_len {α : Type} {w : List α} {p : Nat} (h : p < w.length) : (delAt w p).length + 1 = w.length := by
  unfold delAt
  rw [List.length_append, List.length_take, List.length_drop]
  omega
theorem delAt_mem {α : Type} {w : List α} {p : Nat} {x : α} (h : x ∈ delAt w p) : x ∈ w := by
  rcases List.mem_append.mp h with h | h
  · exact List.mem_of_mem_take h
  · exact List.mem_of_mem_drop h
theorem uniqGo_len {α : Type} [DecidableEq α] : ∀ (l acc : List α), (uniqGo acc l).length ≤ acc.length + l.length
  | [], acc => by simp [uniqGo]
  | x :: l, acc => by
    unfold uniqGo
    have := uniqGo_len l (if x ∈ acc then acc else acc ++ [x])
    have h2 : (if x ∈ acc then acc else acc ++ [x]).length ≤ acc.length + 1 := by
      split <;> simp
    rw [List.length_cons]
    omega
/-- letters of all sides -/
def ltrs (rs : List Rl) : Nat := (rs.map fun r => r.1.length + r.2.length).sum
theorem less_spec {r x : Rl} (h : x ∈ less r) : (x.1.length + x.2.length + 1 = r.1.length + r.2.length) ∧ (∀ c ∈ x.1, c ∈ r.1) ∧ (∀ c ∈ x.2, c ∈ r.2) ∧ x.1.length ≤ r.1.length ∧ x.2.length ≤ r.2.length := by
  unfold less at h
  rcases List.mem_append.mp h with h | h
  · obtain ⟨p, hp, rfl⟩ := List.mem_map.mp h
    have := delAt_len (List.mem_range.mp hp)
    exact ⟨by simp only; omega, fun c hc => delAt_mem hc, fun c hc => hc, by simp only; omega, Nat.le_refl _⟩
  · obtain ⟨p, hp, rfl⟩ := List.mem_map.mp h
    have := delAt_len (List.mem_range.mp hp)
    exact ⟨by simp only; omega, fun c hc => hc, fun c hc => delAt_mem hc, Nat.le_refl _, by simp only; omega⟩
theorem ltrs_put {rs : List Rl} {a : Nat} (h : a < rs.length) (x : Rl) : ltrs (putR rs a x) + (rs[a].1.length + rs[a].2.length) = ltrs rs + (x.1.length + x.2.length) := by
  have e : rs = rs.take a ++ (rs[a] :: rs.drop (a + 1)) := by
    rw [← List.drop_eq_getElem_cons h, List.take_append_drop]
  have e2 : ltrs rs = ltrs (rs.take a) + (rs[a].1.length + rs[a].2.length + ltrs (rs.drop (a + 1))) := by
    conv => lhs; rw [e]
    unfold ltrs
    rw [List.map_append, List.sum_append, List.map_cons, List.sum_cons]
  have e3 : ltrs (putR rs a x) = ltrs (rs.take a) + (x.1.length + x.2.length + ltrs (rs.drop (a + 1))) := by
    unfold ltrs putR
    rw [List.append_assoc, List.map_append, List.sum_append, List.singleton_append, List.map_cons, List.sum_cons]
  omega
theorem putR_len {rs : List Rl} {a : Nat} (h : a < rs.length) (x : Rl) : (putR rs a x).length = rs.length := by
  unfold putR
  rw [List.length_append, List.length_append, List.length_take, List.length_drop, List.length_singleton]
  omega
/-- what is smaller by one: a rule less, or a letter less -/
theorem rows_spec {sz : Nat} {rs row : List Rl} (h : PreS sz rs) (hm : row ∈ rowsA rs) : PreS sz row ∧ (row.length + 1 = rs.length ∨ (row.length = rs.length ∧ ltrs row + 1 = ltrs rs)) := by
  unfold rowsA at hm
  rcases List.mem_append.mp hm with hm | hm
  · obtain ⟨a, ha, rfl⟩ := List.mem_map.mp hm
    have := delAt_len (List.mem_range.mp ha)
    have hn := h.n
    exact ⟨⟨h.s1, h.s2, by omega, fun r hr => h.r r (delAt_mem hr)⟩, .inl (by omega)⟩
  · obtain ⟨a, ha, hm⟩ := List.mem_flatMap.mp hm
    obtain ⟨x, hx, rfl⟩ := List.mem_map.mp hm
    have ha := List.mem_range.mp ha
    rw [List.getD_eq_getElem?_getD, List.getElem?_eq_getElem ha, Option.getD_some] at hx
    obtain ⟨s1, s2, s3, s4, s5⟩ := less_spec hx
    have hl := putR_len ha x
    have ht := ltrs_put ha x
    refine ⟨⟨h.s1, h.s2, by rw [hl]; exact h.n, fun r hr => ?_⟩, .inr ⟨hl, by omega⟩⟩
    unfold putR at hr
    rw [List.append_assoc] at hr
    rcases List.mem_append.mp hr with hr | hr
    · exact h.r r (List.mem_of_mem_take hr)
    rcases List.mem_append.mp hr with hr | hr
    · rw [List.mem_singleton.mp hr]
      obtain ⟨a1, a2, a3, a4⟩ := h.r rs[a] (List.getElem_mem ha)
      exact ⟨fun c hc => a1 c (s2 c hc), fun c hc => a2 c (s3 c hc), by omega, by omega⟩
    · exact h.r r (List.mem_of_mem_drop hr)
theorem less_len (r : Rl) : (less r).length = r.1.length + r.2.length := by
  unfold less
  rw [List.length_append, List.length_map, List.length_map, List.length_range, List.length_range]
theorem rows_le {sz : Nat} {rs : List Rl} (h : PreS sz rs) : (rowsA rs).length ≤ 200 := by
  unfold rowsA
  have hn := h.n
  rw [List.length_append, List.length_map, List.length_range]
  have key : ∀ l : List Nat, (∀ a ∈ l, a < rs.length) → (l.flatMap fun a => (less (rs.getD a ([], []))).map (putR rs a)).length ≤ l.length * 12 := by
    intro l
    induction l with
    | nil => intro _; simp
    | cons a l ih =>
      intro hl
      have ha := hl a List.mem_cons_self
      have := ih fun x hx => hl x (List.mem_cons_of_mem _ hx)
      rw [List.flatMap_cons, List.length_append, List.length_map, less_len, List.length_cons, List.getD_eq_getElem?_getD, List.getElem?_eq_getElem ha, Option.getD_some]
      have := h.r rs[a] (List.getElem_mem ha)
      omega
  have := key (List.range rs.length) fun a ha => List.mem_range.mp ha
  rw [List.length_range] at this
  omega
theorem small_spec {sz : Nat} {rs row : List Rl} (h : PreS sz rs) (hm : row ∈ smallN rs) : GoodS sz row ∧ (row.length + 1 = rs.length ∨ (row.length = rs.length ∧ ltrs row + 1 = ltrs rs)) := by
  unfold smallN at hm
  obtain ⟨h1, h2⟩ := List.mem_filter.mp hm
  rw [mem_uniqGo] at h1
  rcases h1 with h1 | h1
  · cases h1
  · obtain ⟨p, q⟩ := rows_spec h h1
    exact ⟨goodB_of p h2, q⟩
theorem small_le {sz : Nat} {rs : List Rl} (h : PreS sz rs) : (smallN rs).length ≤ 200 := by
  unfold smallN
  have h1 := List.length_filter_le goodB (uniqGo [] (rowsA rs))
  have h2 := uniqGo_len (rowsA rs) []
  have h3 := rows_le h
  rw [List.length_nil] at h2
  omega
end R
set_option Elab.async false
set_option linter.all false
set_option maxRecDepth 100000
set_option maxHeartbeats 4000000
/-! smaller_in, size_of, and what a law makes of them. -/
namespace R
structure SmallAt (P : Pg) (ix : Nat → Nat) : Prop extends WordsAt P ix where
  ltl : P[ix N_letter_less]? = some (D_letter_less ix)
  sml : P[ix N_smaller_in]? = some (D_smaller_in ix)
  siz : P[ix N_size_of]? = some (D_size_of ix)
  sys2 : P[ix N_smaller_systems]? = some (D_smaller_systems ix)
def dT (rs : List Rl) : Dat := .tup (rs.map dR)
theorem cut_from1 {α : Type} (xs : List α) (m : Nat) : cutD xs (.int ((m : Int) + 1)) .non = some (xs.drop (m + 1)) := by
  have := cut_from xs (m + 1)
  rw [Int.natCast_add] at this
  exact this
theorem del_mapS (w : Wrd) (p : Nat) (h : w.length ≤ 1000) : opD .add (.str (w.take p)) (.str (w.drop (p + 1))) = some (.str (delAt w p)) :=
  opD_addS (by rw [List.length_take, List.length_drop]; omega)
theorem eqAll_dR : ∀ a b : List Rl, eqAllB (a.map dR) (b.map dR) = decide (a = b)
  | [], [] => rfl
  | [], _ :: _ => rfl
  | _ :: _, [] => rfl
  | x :: a, y :: b => by
    rw [List.map_cons, List.map_cons]
    unfold eqAllB
    rw [eqB_dR, eqAll_dR a b, Bool.eq_iff_iff]
    simp
theorem eqB_dS (sz : Nat) (a b : List Rl) : eqB (dS sz a) (dS sz b) = decide (a = b) := by
  have := eqAll_dR a b
  simp [dS, eqB, eqAllB, this]
theorem nkB_dS (sz : Nat) (a : List Rl) : nkB (dS sz a) 8 = true := by
  have h : nkLB (a.map dR) 6 = true := by
    induction a with
    | nil => rfl
    | cons r a ih =>
      rw [List.map_cons]
      unfold nkLB
      rw [ih]
      simp [dR, nkB, nkLB]
  simp [dS, nkB, nkLB, h]
theorem anyK_dS (sz : Nat) (l : List (List Rl)) (x : List Rl) : anyK (l.map (dS sz)) (dS sz x) = decide (x ∈ l) := by
  unfold anyK
  rw [List.any_map, Bool.eq_iff_iff, List.any_eq_true, decide_eq_true_eq]
  constructor
  · rintro ⟨y, hy, e⟩
    have e : eqB (dS sz y) (dS sz x) = true := e
    rw [eqB_dS, decide_eq_true_eq] at e
    subst e
    exact hy
  · intro h
    exact ⟨x, h, by show eqB (dS sz x) (dS sz x) = true; rw [eqB_dS]; simp⟩
/-- the turns of {(size, own): True for own in rows} -/
theorem dc_uniq {sz : Nat} {step : Dat → Mo (Option (Dat × Dat))} {g : List Dat} : ∀ (l acc : List (List Rl)), (∀ x ∈ l, step (dT x) g = .ok (some (dS sz x, .bl true)) g) → acc.length + l.length ≤ 1000000 → dcGo putND step (acc.map (dS sz)) [] (l.map dT) g = .ok ((uniqGo acc l).map (dS sz), []) g
  | [], acc, _, _ => rfl
  | x :: l, acc, h, hz => by
    rw [List.length_cons] at hz
    rw [List.map_cons, dcGo_cons, h x List.mem_cons_self]
    simp only [noexc_ok', bind_ok]
    have hl : line = 16777216 := rfl
    have a1 := anyK_dS sz acc x
    have hc : (nkB (dS sz x) 8 && decide ((acc.map (dS sz)).length < line)) = true := by
      rw [Bool.and_eq_true, decide_eq_true_eq, List.length_map]
      exact ⟨nkB_dS sz x, by omega⟩
    have hp : putND (dS sz x) (.bl true) (acc.map (dS sz)) [] = some (if anyK (acc.map (dS sz)) (dS sz x) = true then acc.map (dS sz) else acc.map (dS sz) ++ [dS sz x], []) := if_pos hc
    rw [hp, a1]
    unfold uniqGo
    by_cases hx : x ∈ acc
    · rw [if_pos hx, if_pos (decide_eq_true hx)]
      exact dc_uniq l acc (fun y hy => h y (List.mem_cons_of_mem _ hy)) (by omega)
    · rw [if_neg hx, if_neg (by rw [decide_eq_false hx]; exact Bool.false_ne_true)]
      have := dc_uniq l (acc ++ [x]) (fun y hy => h y (List.mem_cons_of_mem _ hy)) (by rw [List.length_append, List.length_singleton]; omega)
      rw [List.map_append] at this
      exact this
section
variable {P : Pg} {ix : Nat → Nat} {k : Nat} {g : List Dat} {sz : Nat} {rs : List Rl}
theorem less_call (A : SmallAt P ix) {r : Rl} (h1 : r.1.length ≤ 1000) (h2 : r.2.length ≤ 1000) : callK P (k + 1) (ix N_letter_less) [dR r] g = .ok (.lst ((less r).map dR)) g := by
  rw [callK_eq A.ltl rfl]
  obtain ⟨l, rr⟩ := r
  simp only at h1 h2
  have hr1 := rng1 (n := (l.length : Int)) (by omega) (by omega)
  have hr2 := rng1 (n := (rr.length : Int)) (by omega) (by omega)
  have hlc1 : ∀ b3 : Option Dat, lcGo (lcStep (callK P k) (.tup [(.op .add (.sl (.var 1) (.con .non) (.asInt (.var 4))) (.sl (.var 1) (.asInt (.op .add (.var 4) (.con (.int (1))))) (.con .non))), (.var 2)]) (.nm 4) (.con (.bl true)) [some (dR (l, rr)), some (.str l), some (.str rr), b3, none]) [] (ilist 0 l.length) g = .ok ((List.range l.length).map fun p => dR (delAt l p, rr)) g := by
    intro b3
    rw [lc_ilist (p := fun _ => true) (e := fun p => dR (delAt l p, rr))]
    · rw [List.filter_eq_self.mpr (by simp)]
    · intro p hp
      have c1 := cut_to l p
      have c2 := cut_from1 l p
      have c3 := del_mapS l p h1
      rw [lcStep_nm]
      simp [c1, c2, c3, dR]
  have hlc2 : ∀ b3 : Option Dat, lcGo (lcStep (callK P k) (.tup [(.var 1), (.op .add (.sl (.var 2) (.con .non) (.asInt (.var 4))) (.sl (.var 2) (.asInt (.op .add (.var 4) (.con (.int (1))))) (.con .non)))]) (.nm 4) (.con (.bl true)) [some (dR (l, rr)), some (.str l), some (.str rr), b3, none]) [] (ilist 0 rr.length) g = .ok ((List.range rr.length).map fun p => dR (l, delAt rr p)) g := by
    intro b3
    rw [lc_ilist (p := fun _ => true) (e := fun p => dR (l, delAt rr p))]
    · rw [List.filter_eq_self.mpr (by simp)]
    · intro p hp
      have c1 := cut_to rr p
      have c2 := cut_from1 rr p
      have c3 := del_mapS rr p h2
      rw [lcStep_nm]
      simp [c1, c2, c3, dR]
  have hadd := opD_addL (x := (List.range l.length).map fun p => dR (delAt l p, rr)) (y := (List.range rr.length).map fun p => dR (l, delAt rr p)) (by simp; omega)
  have er : era (some (dR (l, rr))) = some (dR (l, rr)) := rfl
  have sr : stp (some (dR (l, rr))) = some (dR (l, rr)) := rfl
  have hbt : ∀ ρ : Sl, bindT (.tp [.nm 1, .nm 2]) (dR (l, rr)) ρ = some ((ρ.set 1 (some (.str l))).set 2 (some (.str rr))) := fun ρ => by simp [dR]
  obtain ⟨A1, hA1⟩ : ∃ A1, A1 = (List.range l.length).map fun p => dR (delAt l p, rr) := ⟨_, rfl⟩
  obtain ⟨A2, hA2⟩ : ∃ A2, A2 = (List.range rr.length).map fun p => dR (l, delAt rr p) := ⟨_, rfl⟩
  simp only [← hA1, ← hA2] at hlc1 hlc2 hadd
  have hfin : A1 ++ A2 = (less (l, rr)).map dR := by
    rw [hA1, hA2]
    unfold less
    rw [List.map_append, List.map_map, List.map_map]
    rfl
  rw [← hfin]
  simp [D_letter_less, er, sr, hbt, den_lc2, hr1, hr2, hlc1, hlc2, hadd]
theorem putT {a : Nat} {r : Rl} (h : rs.length ≤ 1000) : opD .add (.tup ((rs.map dR).take a)) (.tup [dR r]) = some (.tup ((rs.take a ++ [r]).map dR)) ∧ opD .add (.tup ((rs.take a ++ [r]).map dR)) (.tup ((rs.map dR).drop (a + 1))) = some (dT (putR rs a r)) := by
  constructor
  · rw [opD_addT (by simp; omega), List.map_append, List.map_take]
    rfl
  · rw [opD_addT (by simp; omega), ← List.map_drop, ← List.map_append]
    rfl
theorem delT {a : Nat} (h : rs.length ≤ 1000) : opD .add (.tup ((rs.map dR).take a)) (.tup ((rs.map dR).drop (a + 1))) = some (dT (delAt rs a)) := by
  rw [opD_addT (by simp; omega), ← List.map_take, ← List.map_drop, ← List.map_append]
  rfl
/-- the rows of a letter less, up to a rule -/
def rowsL (rs : List Rl) (n : Nat) : List (List Rl) := (List.range n).flatMap fun a => (less (rs.getD a ([], []))).map (putR rs a)
theorem rowsL_succ (rs : List Rl) (n : Nat) : rowsL rs (n + 1) = rowsL rs n ++ (less (rs.getD n ([], []))).map (putR rs n) := by
  unfold rowsL
  rw [List.range_succ, List.flatMap_append]
  simp
theorem rowsL_len (h : PreS sz rs) : ∀ n, n ≤ rs.length → (rowsL rs n).length ≤ n * 12
  | 0, _ => by simp [rowsL]
  | n + 1, hn => by
    have := rowsL_len h n (by omega)
    rw [rowsL_succ, List.length_append, List.length_map, less_len, List.getD_eq_getElem?_getD, List.getElem?_eq_getElem (by omega), Option.getD_some]
    have := h.r rs[n] (List.getElem_mem (by omega))
    omega
theorem smaller_call (A : SmallAt P ix) (h : PreS sz rs) (hne : rs ≠ []) : callK P (k + 4) (ix N_smaller_in) [dS sz rs] g = .ok (.lst ((smallN rs).map (dS sz))) g := by
  rw [callK_eq A.sml rfl]
  have hn := h.n
  have es : era (some (dS sz rs)) = some (dS sz rs) := rfl
  have ss : stp (some (dS sz rs)) = some (dS sz rs) := rfl
  have hbt : ∀ ρ : Sl, bindT (.tp [.nm 1, .nm 2]) (dS sz rs) ρ = some ((ρ.set 1 (some (.int sz))).set 2 (some (.tup (rs.map dR)))) := fun ρ => by simp [dS]
  have hr1 := rng1 (n := (rs.length : Int)) (by omega) (by omega)
  have hlc1 : lcGo (lcStep (callK P (k + 3)) (.op .add (.sl (.var 2) (.con .non) (.asInt (.var 4))) (.sl (.var 2) (.asInt (.op .add (.var 4) (.con (.int (1))))) (.con .non))) (.nm 4) (.con (.bl true)) [some (dS sz rs), some (.int sz), some (.tup (rs.map dR)), none, none, none, none, none]) [] (ilist 0 rs.length) g = .ok (((List.range rs.length).map (delAt rs)).map dT) g := by
    rw [lc_ilist (p := fun _ => true) (e := fun p => dT (delAt rs p))]
    · rw [List.filter_eq_self.mpr (by simp), List.map_map]
      rfl
    · intro p hp
      have c1 := cut_to (rs.map dR) p
      have c2 := cut_from1 (rs.map dR) p
      have c3 := delT (rs := rs) (a := p) (by omega)
      rw [lcStep_nm]
      simp [-List.map_take, -List.map_drop, c1, c2, c3]
  obtain ⟨R0, hR0⟩ : ∃ R0, R0 = (List.range rs.length).map (delAt rs) := ⟨_, rfl⟩
  rw [← hR0] at hlc1
  have hR0l : R0.length = rs.length := by rw [hR0]; simp
  -- the turns
  obtain ⟨ρ2, hf, b4, b5, rfl⟩ := forGo_pre (g := g) (c := fun p : Rl × Nat => .tup [.int p.2, dR p.1]) (xs := rs.zipIdx) (tg := .tp [(.nm 4), (.nm 5)])
    (body := fun ρ g => runs (callK P (k + 3)) [.aug 3 (.lc (.op .add (.op .add (.sl (.var 2) (.con .non) (.asInt (.var 4))) (.tup [(.var 6)])) (.sl (.var 2) (.asInt (.op .add (.var 4) (.con (.int (1))))) (.con .non))) (.nm 6) (.call (ix N_letter_less) [(.var 5)]) (.con (.bl true)) [6])] ρ g)
    (I := fun pre ρ => ∃ b4 b5 : Option Dat, ρ = [some (dS sz rs), some (.int sz), some (.tup (rs.map dR)), some (.own (.lst ((R0 ++ rowsL rs pre.length).map dT))), b4, b5, none, none]) (by
      rintro pre x post e ρ ⟨b4, b5, rfl⟩
      have hlen := congrArg List.length e
      rw [List.length_zipIdx, List.length_append, List.length_cons] at hlen
      have hi : pre.length < rs.length := by omega
      have hx : x = (rs[pre.length], pre.length) := by
        have h1 : rs.zipIdx[pre.length]? = some x := by rw [e, List.getElem?_append_right (Nat.le_refl _), Nat.sub_self]; rfl
        rw [List.getElem?_zipIdx, List.getElem?_eq_getElem hi] at h1
        simpa using h1.symm
      subst hx
      obtain ⟨r, hr⟩ : ∃ r, r = rs[pre.length] := ⟨_, rfl⟩
      have hrm : r ∈ rs := by rw [hr]; exact List.getElem_mem hi
      obtain ⟨w1, w2, w3, w4⟩ := h.r r hrm
      rw [← hr]
      have hb : ∀ ρ : Sl, bindT (.tp [.nm 4, .nm 5]) (.tup [.int (pre.length : Nat), dR r]) ρ = some ((ρ.set 4 (some (.int (pre.length : Nat)))).set 5 (some (dR r))) := fun ρ => by simp
      have hcall := less_call (k := k + 2) (g := g) A (r := r) (by omega) (by omega)
      have er : era (some (dR r)) = some (dR r) := rfl
      have hlc : lcGo (lcStep (callK P (k + 3)) (.op .add (.op .add (.sl (.var 2) (.con .non) (.asInt (.var 4))) (.tup [(.var 6)])) (.sl (.var 2) (.asInt (.op .add (.var 4) (.con (.int (1))))) (.con .non))) (.nm 6) (.con (.bl true)) [some (dS sz rs), some (.int sz), some (.tup (rs.map dR)), none, some (.int (pre.length : Nat)), some (dR r), none, none]) [] ((less r).map dR) g = .ok (((less r).map (putR rs pre.length)).map dT) g := by
        rw [lc_map (p := fun _ => true) (e := fun x => dT (putR rs pre.length x))]
        · rw [List.filter_eq_self.mpr (by simp), List.map_map]
          rfl
        · intro x hx
          have c1 := cut_to (rs.map dR) pre.length
          have c2 := cut_from1 (rs.map dR) pre.length
          obtain ⟨c3, c4⟩ := putT (rs := rs) (a := pre.length) (r := x) (by omega)
          rw [lcStep_nm]
          simp [-List.map_take, -List.map_drop, -List.map_append, c1, c2, c3, c4]
      have hll := less_len r
      have hrl := rowsL_len h pre.length (by omega)
      refine ⟨_, hb _, [some (dS sz rs), some (.int sz), some (.tup (rs.map dR)), some (.own (.lst ((R0 ++ rowsL rs (pre ++ [(r, pre.length)]).length).map dT))), some (.int (pre.length : Nat)), some (dR r), none, none], ?_, _, _, rfl⟩
      rw [List.length_append, List.length_singleton, rowsL_succ, List.getD_eq_getElem?_getD, List.getElem?_eq_getElem hi, Option.getD_some, ← hr]
      obtain ⟨L1, hL1⟩ : ∃ L, L = (R0 ++ rowsL rs pre.length).map dT := ⟨_, rfl⟩
      obtain ⟨L2, hL2⟩ : ∃ L, L = ((less r).map (putR rs pre.length)).map dT := ⟨_, rfl⟩
      obtain ⟨L3, hL3⟩ : ∃ L, L = (less r).map dR := ⟨_, rfl⟩
      have hl1 : L1.length + L2.length < 16777216 := by
        rw [hL1, hL2]
        simp only [List.length_map, List.length_append, hR0l]
        omega
      rw [← hL2, ← hL3] at hlc
      rw [← hL3] at hcall
      have hT : ((R0 ++ (rowsL rs pre.length ++ (less r).map (putR rs pre.length))).map dT) = L1 ++ L2 := by
        rw [hL1, hL2, ← List.append_assoc, List.map_append]
      rw [hT, ← hL1]
      have ha : augD 3 (.lst L2) [some (dS sz rs), some (.int sz), some (.tup (rs.map dR)), some (.own (.lst L1)), some (.int (pre.length : Nat)), some (dR r), none, none] g = .ok (.nx [some (dS sz rs), some (.int sz), some (.tup (rs.map dR)), some (.own (.lst (L1 ++ L2))), some (.int (pre.length : Nat)), some (dR r), none, none]) g := by
        rw [augD_own (xs := L1) rfl (by omega)]
        rfl
      simp [es, er, hcall, den_lc2, hlc, ha])
    (ρ := [some (dS sz rs), some (.int sz), some (.tup (rs.map dR)), some (.own (.lst (R0.map dT))), none, none, none, none]) ⟨none, none, by simp [rowsL]⟩
  rw [List.length_zipIdx] at hf
  have hrows : R0 ++ rowsL rs rs.length = rowsA rs := by rw [hR0]; rfl
  rw [hrows] at hf
  have hRl := rows_le h
  have hdc : dcGo putND (dcStep (callK P (k + 3)) (.tup [(.var 1), (.var 6)]) (.con (.bl true)) (.nm 6) (.con (.bl true)) [some (dS sz rs), some (.int sz), some (.tup (rs.map dR)), some (.lst ((rowsA rs).map dT)), era b4, era b5, none, none]) [] [] ((rowsA rs).map dT) g = .ok ((uniqGo [] (rowsA rs)).map (dS sz), []) g := by
    refine dc_uniq (sz := sz) (rowsA rs) [] (fun x hx => ?_) (by simp; omega)
    unfold dcStep
    rw [bindT_nm]
    simp [dT, dS]
  have hne2 : ((uniqGo [] (rowsA rs)).map (dS sz)).isEmpty = false := by
    have hm : delAt rs 0 ∈ uniqGo [] (rowsA rs) := by
      rw [mem_uniqGo]
      refine .inr (List.mem_append_left _ (List.mem_map.mpr ⟨0, List.mem_range.mpr (List.length_pos_iff.mpr hne), rfl⟩))
    cases e : uniqGo [] (rowsA rs) with
    | nil => rw [e] at hm; cases hm
    | cons _ _ => rfl
  have hlc9 : ∀ b3 b7 : Option Dat, lcGo (lcStep (callK P (k + 3)) (.var 6) (.nm 6) (.call (ix N_fits_system) [(.var 6)]) [some (dS sz rs), some (.int sz), some (.tup (rs.map dR)), b3, stp b4, stp b5, none, b7]) [] ((uniqGo [] (rowsA rs)).map (dS sz)) g = .ok ((smallN rs).map (dS sz)) g := by
    intro b3 b7
    rw [lc_map (p := goodB) (e := dS sz)]
    · rfl
    · intro x hx
      rw [mem_uniqGo] at hx
      rcases hx with hx | hx
      · cases hx
      · obtain ⟨px, _⟩ := rows_spec h hx
        rw [lcStep_nm]
        have := fits_callB (k := k) (g := g) A.toWordsAt px
        simp [this]
        split <;> rfl
  have hen := enum_rules rs
  obtain ⟨RA, hRA⟩ : ∃ L, L = (rowsA rs).map dT := ⟨_, rfl⟩
  obtain ⟨UA, hUA⟩ : ∃ L, L = (uniqGo [] (rowsA rs)).map (dS sz) := ⟨_, rfl⟩
  obtain ⟨R1, hR1⟩ : ∃ L, L = R0.map dT := ⟨_, rfl⟩
  obtain ⟨EN, hEN⟩ : ∃ L, L = (rs.zipIdx.map fun p : Rl × Nat => Dat.tup [.int p.2, dR p.1]) := ⟨_, rfl⟩
  rw [← hRA] at hf hdc
  rw [← hUA] at hdc hne2 hlc9
  rw [← hR1] at hf hlc1
  rw [← hEN] at hf hen
  have hne3 : ¬ UA = [] := fun z => by rw [z] at hne2; cases hne2
  have hfz : frzD 3 [some (dS sz rs), some (.int sz), some (.tup (rs.map dR)), some (.own (.lst RA)), b4, b5, none, none] g = .ok (.nx [some (dS sz rs), some (.int sz), some (.tup (rs.map dR)), some (.lst RA), b4, b5, none, none]) g := rfl
  simp [den_lc2] at hf
  simp [D_smaller_in, hfz, es, ss, hbt, den_lc2, hr1, hlc1, den_enum, hen, hf, den_dc, hdc, hne3, hlc9]
theorem size_call (A : SmallAt P ix) (h : GoodS sz rs) : callK P (k + 5) (ix N_size_of) [dS sz rs] g = .ok (.tup [.int rs.length, .int (ltrs rs)]) g := by
  rw [callK_eq A.siz rfl]
  have e := need_call (k := k) (g := g) A.toWordsAt h
  have ss : stp (some (dS sz rs)) = some (dS sz rs) := rfl
  have gr : ∀ g, getD (dS sz rs) (.int 1) g = some (.tup (rs.map dR)) := fun g => by simp [dS]
  have hlc : ∀ b1 b2 : Option Dat, lcGo (lcStep (callK P (k + 4)) (.bi .len (.op .add (.var 1) (.var 2))) (.tp [(.nm 1), (.nm 2)]) (.con (.bl true)) [some (dS sz rs), b1, b2]) [] (rs.map dR) g = .ok (rs.map fun r => .int ((r.1.length + r.2.length : Nat) : Int)) g := by
    intro b1 b2
    rw [lc_map (p := fun _ => true) (e := fun r : Rl => .int ((r.1.length + r.2.length : Nat) : Int))]
    · rw [List.filter_eq_self.mpr (by simp)]
      rfl
    · intro r hr
      have hb := h.r r hr
      have h1 := hb.l2
      have h2 := hb.r2
      have ea := opD_addS (x := r.1) (y := r.2) (by omega)
      rw [lcStep_tp (ρ1 := [some (dS sz rs), some (.str r.1), some (.str r.2)]) (by simp [dR])]
      simp [ea]
  have hs : biD .sum (.lst (rs.map fun r => Dat.int ((r.1.length + r.2.length : Nat) : Int))) = some (.int (ltrs rs)) := by
    simp only [biD, intsD_map (fun r : Rl => ((r.1.length + r.2.length : Nat) : Int)) rs, Option.map_some]
    congr 2
    unfold ltrs
    clear hlc gr e h ss
    induction rs with
    | nil => rfl
    | cons r rs ih =>
      rw [List.map_cons, List.sum_cons, List.map_cons, List.sum_cons, ih]
      omega
  obtain ⟨L, hL⟩ : ∃ L, L = rs.map fun r => Dat.int ((r.1.length + r.2.length : Nat) : Int) := ⟨_, rfl⟩
  rw [← hL] at hlc hs
  simp [D_size_of, ss, gr, e, den_lc2, hlc, hs]
theorem smallers_call (A : SmallAt P ix) (h : GoodS sz rs) : callK P (k + 5) (ix N_smaller_systems) [dS sz rs] g = .ok (.tup ((smallN rs).map (dS sz))) g := by
  rw [callK_eq A.sys2 rfl]
  have e := need_call (k := k) (g := g) A.toWordsAt h
  have hne : rs ≠ [] := fun z => by have := h.n1; rw [z] at this; simp at this
  have e2 := smaller_call (k := k) (g := g) A h.pre hne
  have ss : stp (some (dS sz rs)) = some (dS sz rs) := rfl
  generalize (smallN rs).map (dS sz) = L at e2 ⊢
  simp [D_smaller_systems, ss, e, e2]
end
/-! ### what a law makes of them -/
structure LSmallAt (P : Pg) (ix : Nat → Nat) : Prop where
  lis : P[ix N__law_is_system]? = some (D__law_is_system ix)
  lsm : P[ix N__law_smaller]? = some (D__law_smaller ix)
section
variable {P : Pg} {ix : Nat → Nat} {k : Nat} {g : List Dat} {sz : Nat} {rs : List Rl}
theorem eq_emptyT : cpD .eq (.tup (rs.map dR)) (.tup []) = some rs.isEmpty := by
  have h2 : okAllB (rs.map dR) 63 = true := okAll_of fun d hd => by
    obtain ⟨r, _, rfl⟩ := List.mem_map.mp hd
    rfl
  have e1 : okB (.tup (rs.map dR)) 64 = true := h2
  have e2 : okB (.tup []) 64 = true := rfl
  cases rs with
  | nil => rfl
  | cons r rs =>
    simp only [cpD, eqD, e1, e2]
    rfl
theorem filter_none {α : Type} (p : α → Bool) : ∀ l : List α, (l.filter fun x => !p x).isEmpty = l.all p
  | [] => rfl
  | x :: l => by
    have ih := filter_none p l
    cases h : p x <;> simp [List.filter_cons, h, ih]
theorem lis_call (A : LSmallAt P ix) (h : rs.length ≤ 8) : callK P (k + 1) (ix N__law_is_system) [.int sz, dT rs] g = .ok (.bl (goodB rs)) g := by
  rw [callK_eq A.lis rfl]
  have st : stp (some (dT rs)) = some (dT rs) := rfl
  have he : cpD .eq (dT rs) (.tup []) = some rs.isEmpty := eq_emptyT
  have hls : lenSetD (dT rs) = some (cntR rs) := lenset_rulesN h
  have hln : biD .len (dT rs) = some (.int rs.length) := by simp [dT]
  have hit : itemsD (dT rs) = some (rs.map dR) := rfl
  have hle := cntR_le rs
  have hlc : ∀ b2 b3 : Option Dat, lcGo (lcStep (callK P k) (.con (.int (1))) (.tp [(.nm 2), (.nm 3)]) (.or (.cmp .eq (.var 2) (.con (.str []))) (.cmp .eq (.var 2) (.var 3))) [some (.int sz), some (dT rs), b2, b3]) [] (rs.map dR) g = .ok ((rs.filter fun r => !okR r).map fun _ => .int 1) g := by
    intro b2 b3
    rw [lc_map (p := fun r : Rl => !okR r) (e := fun _ => .int 1)]
    · rfl
    · intro r hr
      rw [lcStep_tp (ρ1 := [some (.int sz), some (dT rs), some (.str r.1), some (.str r.2)]) (by simp [dR])]
      by_cases h1 : r.1 = []
      · simp [okR, h1]
      · by_cases h2 : r.1 = r.2
        · simp [okR, h1, h2]
        · simp [okR, h1, h2]
  have hnil : cpD .eq (.lst ((rs.filter fun r => !okR r).map fun _ => Dat.int 1)) (.lst []) = some (rs.all okR) := by
    rw [cpD_eqNil (okAll_of fun d hd => by obtain ⟨_, _, rfl⟩ := List.mem_map.mp hd; rfl)]
    congr 1
    rw [List.isEmpty_map]
    exact filter_none okR rs
  have hlt : (decide ((cntR rs : Int) < (rs.length : Int))) = !decide (cntR rs = rs.length) := by
    rw [Bool.eq_iff_iff]
    simp
    omega
  obtain ⟨M, hM⟩ : ∃ L, L = (rs.filter fun r => !okR r).map fun _ => Dat.int 1 := ⟨_, rfl⟩
  rw [← hM] at hlc hnil
  cases hem : rs.isEmpty with
  | true =>
    rw [hem] at he
    simp [D__law_is_system, st, he, goodB, hem]
  | false =>
    rw [hem] at he
    by_cases hc : cntR rs = rs.length
    · simp [D__law_is_system, st, he, den_lenset, hls, hln, hc, den_lc2, hit, hlc, hnil, goodB, hem]
    · have hc2 : (cntR rs : Int) < (rs.length : Int) := by omega
      simp [D__law_is_system, st, he, den_lenset, hls, hln, hc2, goodB, hem, hc]
end
end R
set_option Elab.async false
set_option linter.all false
set_option maxRecDepth 100000
set_option maxHeartbeats 4000000
/-! The systems smaller by one, as a law makes them. -/
namespace R
def side (r : Rl) (s : Nat) : Wrd := if s = 0 then r.1 else r.2
def lessS (r : Rl) (s : Nat) : List Rl := if s = 0 then (List.range r.1.length).map (fun p => (delAt r.1 p, r.2)) else (List.range r.2.length).map fun p => (r.1, delAt r.2 p)
theorem less_sides (r : Rl) : less r = lessS r 0 ++ lessS r 1 := rfl
def ownR (r : Rl) (s p : Nat) : Rl := if s = 0 then (delAt r.1 p, r.2) else (r.1, delAt r.2 p)
theorem lessS_eq (r : Rl) (s : Nat) : lessS r s = (List.range (side r s).length).map (ownR r s) := by
  unfold lessS side ownR
  by_cases h : s = 0
  · simp [h]
  · simp [h]
def pBody : List Sm := [.set (.nm 9) (.op .add (.sl (.var 7) (.con .non) (.asInt (.var 8))) (.sl (.var 7) (.asInt (.op .add (.var 8) (.con (.int (1))))) (.con .non))),
          .set (.nm 10) (.ifx (.cmp .eq (.var 6) (.con (.int (0)))) (.tup [(.var 9), (.ix (.ix (.var 2) (.var 5)) (.con (.int (1))))]) (.tup [(.ix (.ix (.var 2) (.var 5)) (.con (.int (0)))), (.var 9)])),
          .app 3 (.op .add (.op .add (.sl (.var 2) (.con .non) (.asInt (.var 5))) (.tup [(.var 10)])) (.sl (.var 2) (.asInt (.op .add (.var 5) (.con (.int (1))))) (.con .non)))]
def sBody : List Sm := [.set (.nm 7) (.ix (.ix (.var 2) (.var 5)) (.var 6)), .fors (.nm 8) (.rng [(.bi .len (.var 7))]) pBody]
def aBody : List Sm := [.fors (.nm 6) (.tup [(.con (.int (0))), (.con (.int (1)))]) sBody]
def wBody (ix : Nat → Nat) : List Sm := [.ifs (.and (.call (ix N__law_is_system) [(.var 1), (.var 11)]) (.cmp .notin (.tup [(.var 1), (.var 11)]) (.var 4))) [.app 4 (.tup [(.var 1), (.var 11)])] []]
section
variable {P : Pg} {ix : Nat → Nat} {k : Nat} {g : List Dat} {sz : Nat} {rs : List Rl}
/-- the frame: rows so far, the rule's place, the side .. -/
def fr (sz : Nat) (rs : List Rl) (L : List (List Rl)) (b5 b6 b7 b8 b9 b10 : Option Dat) : Sl := [some (dS sz rs), some (.int sz), some (.tup (rs.map dR)), some (.own (.lst (L.map dT))), some (.own (.lst [])), b5, b6, b7, b8, b9, b10, none]
theorem at_rule {a : Nat} (h : a < rs.length) : atD (rs.map dR) (a : Int) = some (.tup [.str rs[a].1, .str rs[a].2]) := by
  rw [atD_nat (by omega), Int.toNat_natCast, List.getElem?_map, List.getElem?_eq_getElem h]
  rfl
theorem p_turn {F : Nat → List Dat → Mo Dat} {L : List (List Rl)} {a s p : Nat} {b9 b10 : Option Dat} (ha : a < rs.length) (hs : s = 0 ∨ s = 1) (hz : rs.length ≤ 1000) (hw : rs[a].1.length ≤ 1000 ∧ rs[a].2.length ≤ 1000) (hL : L.length ≤ 100000)
    (h9 : era b9 = b9) (h10 : era b10 = b10) :
    runs F pBody (fr sz rs L (some (.int a)) (some (.int s)) (some (.str (side rs[a] s))) (some (.int (0 + (p : Int)))) b9 b10) g
      = .ok (.nx (fr sz rs (L ++ [putR rs a (ownR rs[a] s p)]) (some (.int a)) (some (.int s)) (some (.str (side rs[a] s))) (some (.int (0 + (p : Int)))) (some (.str (delAt (side rs[a] s) p))) (some (dR (ownR rs[a] s p))))) g := by
  have es : era (some (dS sz rs)) = some (dS sz rs) := rfl
  have hat := at_rule (rs := rs) ha
  have hsl : (side rs[a] s).length ≤ 1000 := by unfold side; split <;> omega
  have c1 := cut_to (side rs[a] s) p
  have c2 := cut_from1 (side rs[a] s) p
  have c3 := del_mapS (side rs[a] s) p hsl
  have d1 := cut_to (rs.map dR) a
  have d2 := cut_from1 (rs.map dR) a
  obtain ⟨d3, d4⟩ := putT (rs := rs) (a := a) (r := ownR rs[a] s p) hz
  have er : era (some (dR (ownR rs[a] s p))) = some (dR (ownR rs[a] s p)) := rfl
  have hap : appD 3 (dT (putR rs a (ownR rs[a] s p))) (fr sz rs L (some (.int a)) (some (.int s)) (some (.str (side rs[a] s))) (some (.int (0 + (p : Int)))) (some (.str (delAt (side rs[a] s) p))) (some (dR (ownR rs[a] s p)))) g
      = .ok (.nx (fr sz rs (L ++ [putR rs a (ownR rs[a] s p)]) (some (.int a)) (some (.int s)) (some (.str (side rs[a] s))) (some (.int (0 + (p : Int)))) (some (.str (delAt (side rs[a] s) p))) (some (dR (ownR rs[a] s p))))) g := by
    rw [appD_own (xs := L.map dT) rfl (by rw [List.length_map]; omega)]
    unfold fr
    rw [List.map_append]
    rfl
  obtain ⟨X, hX⟩ : ∃ x, x = delAt (side rs[a] s) p := ⟨_, rfl⟩
  have hown : (if s = 0 then Dat.tup [.str X, .str rs[a].2] else Dat.tup [.str rs[a].1, .str X]) = dR (ownR rs[a] s p) := by
    rw [hX]
    unfold ownR side
    rcases hs with rfl | rfl <;> rfl
  rw [← hX] at c3 hap ⊢
  obtain ⟨O, hO⟩ : ∃ x, x = ownR rs[a] s p := ⟨_, rfl⟩
  rw [← hO] at d3 d4 er hown hap ⊢
  unfold fr at hap ⊢
  simp only [Int.zero_add] at hap ⊢
  rcases hs with rfl | rfl
  · simp only [if_true] at hown
    rw [show ((0 : Nat) : Int) = 0 from rfl] at hap
    simp [-List.map_take, -List.map_drop, -List.map_append, pBody, es, c1, c2, c3, hat, hown, er, d1, d2, d3, d4, hap]
  · simp only [Nat.one_ne_zero, if_false] at hown
    rw [show ((1 : Nat) : Int) = 1 from rfl] at hap
    simp [-List.map_take, -List.map_drop, -List.map_append, pBody, es, c1, c2, c3, hat, hown, er, d1, d2, d3, d4, hap]
/-- all places of a side -/
theorem s_turn {F : Nat → List Dat → Mo Dat} {L : List (List Rl)} {a s : Nat} {b7 b8 b9 b10 : Option Dat} (ha : a < rs.length) (hs : s = 0 ∨ s = 1) (hz : rs.length ≤ 1000) (hw : rs[a].1.length ≤ 1000 ∧ rs[a].2.length ≤ 1000) (hL : L.length ≤ 10000) (h9 : era b9 = b9) (h10 : era b10 = b10) :
    ∃ c7 c8 c9 c10 : Option Dat, era c9 = c9 ∧ era c10 = c10 ∧ runs F sBody (fr sz rs L (some (.int a)) (some (.int s)) b7 b8 b9 b10) g = .ok (.nx (fr sz rs (L ++ (lessS rs[a] s).map (putR rs a)) (some (.int a)) (some (.int s)) c7 c8 c9 c10)) g := by
  have es : era (some (dS sz rs)) = some (dS sz rs) := rfl
  have hat := at_rule (rs := rs) ha
  have hsl : (side rs[a] s).length ≤ 1000 := by unfold side; split <;> omega
  have hsd : ∀ x : Dat, atD [Dat.str rs[a].1, Dat.str rs[a].2] (s : Int) = some (.str (side rs[a] s)) := fun _ => by
    rcases hs with rfl | rfl <;> rfl
  have hr := rng1 (n := ((side rs[a] s).length : Int)) (by omega) (by omega)
  obtain ⟨ρ2, hf, c8, c9, c10, e9, e10, rfl⟩ := forGo_pre (g := g) (c := fun p : Nat => Dat.int (0 + (p : Int))) (xs := List.range (side rs[a] s).length) (tg := .nm 8) (body := fun ρ g => runs F pBody ρ g)
    (I := fun pre ρ => ∃ c8 c9 c10 : Option Dat, era c9 = c9 ∧ era c10 = c10 ∧ ρ = fr sz rs (L ++ (pre.map (ownR rs[a] s)).map (putR rs a)) (some (.int a)) (some (.int s)) (some (.str (side rs[a] s))) c8 c9 c10) (by
      rintro pre p post e ρ ⟨c8, c9, c10, e9, e10, rfl⟩
      have hlen := congrArg List.length e
      rw [List.length_range, List.length_append, List.length_cons] at hlen
      refine ⟨_, bindT_nm, _, p_turn (F := F) (g := g) (sz := sz) (s := s) (p := p) (b9 := c9) (b10 := c10) ha hs hz hw (by rw [List.length_append, List.length_map, List.length_map]; omega) e9 e10, some (.int (0 + (p : Int))), some (.str (delAt (side rs[a] s) p)), some (dR (ownR rs[a] s p)), rfl, rfl, ?_⟩
      rw [List.map_append, List.map_append, List.append_assoc]
      rfl)
    (ρ := fr sz rs L (some (.int a)) (some (.int s)) (some (.str (side rs[a] s))) b8 b9 b10) ⟨b8, b9, b10, h9, h10, by simp⟩
  refine ⟨some (.str (side rs[a] s)), c8, c9, c10, e9, e10, ?_⟩
  rw [lessS_eq]
  have hf2 : forGo (.nm 8) (fun ρ g => runs F pBody ρ g) (ilist 0 (side rs[a] s).length) (fr sz rs L (some (.int a)) (some (.int s)) (some (.str (side rs[a] s))) b8 b9 b10) g = _ := hf
  have h1 : runs F [.set (.nm 7) (.ix (.ix (.var 2) (.var 5)) (.var 6))] (fr sz rs L (some (.int a)) (some (.int s)) b7 b8 b9 b10) g = .ok (.nx (fr sz rs L (some (.int a)) (some (.int s)) (some (.str (side rs[a] s))) b8 b9 b10)) g := by
    have hsd := hsd .non
    unfold fr
    simp [hat, hsd]
  rw [show sBody = [.set (.nm 7) (.ix (.ix (.var 2) (.var 5)) (.var 6))] ++ [.fors (.nm 8) (.rng [(.bi .len (.var 7))]) pBody] from rfl, runs_append, h1, bind_ok, goOn_nx]
  have hlen : den F (.rng [(.bi .len (.var 7))]) (erase (fr sz rs L (some (.int a)) (some (.int s)) (some (.str (side rs[a] s))) b8 b9 b10)) g = .ok (.lst (ilist 0 (side rs[a] s).length)) g := by
    unfold fr
    simp [hr]
  rw [runs_cons, run_fors, hlen]
  simp only [bind_ok, itemsD_lst, ofO_some]
  rw [hf2]
  rfl
theorem a_turn {F : Nat → List Dat → Mo Dat} {L : List (List Rl)} {a : Nat} {b6 b7 b8 b9 b10 : Option Dat} (ha : a < rs.length) (hz : rs.length ≤ 1000) (hw : rs[a].1.length ≤ 1000 ∧ rs[a].2.length ≤ 1000) (hL : L.length ≤ 9000) (h9 : era b9 = b9) (h10 : era b10 = b10) :
    ∃ c6 c7 c8 c9 c10 : Option Dat, era c9 = c9 ∧ era c10 = c10 ∧ runs F aBody (fr sz rs L (some (.int a)) b6 b7 b8 b9 b10) g = .ok (.nx (fr sz rs (L ++ (less rs[a]).map (putR rs a)) (some (.int a)) c6 c7 c8 c9 c10)) g := by
  obtain ⟨c7, c8, c9, c10, e9, e10, h1⟩ := s_turn (F := F) (g := g) (sz := sz) (L := L) (a := a) (s := 0) (b7 := b7) (b8 := b8) (b9 := b9) (b10 := b10) ha (.inl rfl) hz hw (by omega) h9 h10
  have hl0 : (lessS rs[a] 0).length ≤ 1000 := by rw [lessS_eq, List.length_map, List.length_range]; exact hw.1
  obtain ⟨d7, d8, d9, d10, f9, f10, h2⟩ := s_turn (F := F) (g := g) (sz := sz) (L := L ++ (lessS rs[a] 0).map (putR rs a)) (a := a) (s := 1) (b7 := c7) (b8 := c8) (b9 := c9) (b10 := c10) ha (.inr rfl) hz hw (by rw [List.length_append, List.length_map]; omega) e9 e10
  refine ⟨some (.int ((1 : Nat) : Int)), d7, d8, d9, d10, f9, f10, ?_⟩
  rw [less_sides, List.map_append, ← List.append_assoc]
  have hd : den F (.tup [(.con (.int (0))), (.con (.int (1)))]) (erase (fr sz rs L (some (.int a)) b6 b7 b8 b9 b10)) g = .ok (.tup [.int 0, .int 1]) g := by simp
  rw [show aBody = [.fors (.nm 6) (.tup [(.con (.int (0))), (.con (.int (1)))]) sBody] from rfl, runs_cons, run_fors, hd]
  simp only [bind_ok, itemsD_tup, ofO_some]
  have h1 : runs F sBody (fr sz rs L (some (.int a)) (some (.int 0)) b7 b8 b9 b10) g = _ := h1
  have h2 : runs F sBody (fr sz rs (L ++ (lessS rs[a] 0).map (putR rs a)) (some (.int a)) (some (.int 1)) c7 c8 c9 c10) g = _ := h2
  rw [forGo_cons (ρ1 := fr sz rs L (some (.int a)) (some (.int 0)) b7 b8 b9 b10) bindT_nm, h1]
  simp only [bind_ok]
  rw [forGo_cons (ρ1 := fr sz rs (L ++ (lessS rs[a] 0).map (putR rs a)) (some (.int a)) (some (.int 1)) c7 c8 c9 c10) bindT_nm, h2]
  rfl
theorem notin_found {found : List (List Rl)} {row : List Rl} : cpD .notin (dS sz row) (.lst (found.map (dS sz))) = some (!decide (row ∈ found)) := by
  have ok1 : ∀ x : List Rl, okB (dS sz x) 63 = true := fun x => by
    have h2 : okAllB (x.map dR) 61 = true := okAll_of fun d hd => by
      obtain ⟨r, _, rfl⟩ := List.mem_map.mp hd
      rfl
    simp [dS, okB, okAllB, h2]
  have ok2 : okB (dS sz row) 64 = true := by
    have h2 : okAllB (row.map dR) 62 = true := okAll_of fun d hd => by
      obtain ⟨r, _, rfl⟩ := List.mem_map.mp hd
      rfl
    simp [dS, okB, okAllB, h2]
  have h2 : okAllB (found.map (dS sz)) 63 = true := okAll_of fun d hd => by
    obtain ⟨r, _, rfl⟩ := List.mem_map.mp hd
    exact ok1 r
  have e : inD (dS sz row) (.lst (found.map (dS sz))) = some ((found.map (dS sz)).any fun z => eqB z (dS sz row)) := by
    show (if okB (dS sz row) 64 && okAllB (found.map (dS sz)) 63 then _ else _) = _
    rw [ok2, h2]
    rfl
  show (inD (dS sz row) (.lst (found.map (dS sz)))).map (!·) = _
  rw [e]
  have := anyK_dS sz found row
  unfold anyK at this
  rw [this]
  rfl
/-- the first loop -/
def dBody : List Sm := [.app 3 (.op .add (.sl (.var 2) (.con .non) (.asInt (.var 5))) (.sl (.var 2) (.asInt (.op .add (.var 5) (.con (.int (1))))) (.con .non)))]
theorem lsmall_call (A : LSmallAt P ix) (h : PreS sz rs) : callK P (k + 2) (ix N__law_smaller) [dS sz rs] g = .ok (.lst ((smallN rs).map (dS sz))) g := by
  rw [callK_eq A.lsm rfl]
  have hn := h.n
  have es : era (some (dS sz rs)) = some (dS sz rs) := rfl
  have ss : stp (some (dS sz rs)) = some (dS sz rs) := rfl
  have hr1 := rng1 (n := (rs.length : Int)) (by omega) (by omega)
  have body : (D__law_smaller ix).body = [.par [1, 2, 3, 4] [.er, .er, .nw, .nw] [(.ix (.var 0) (.con (.int (0)))), (.ix (.var 0) (.con (.int (1)))), (.lst []), (.lst [])],
    .fors (.nm 5) (.rng [(.bi .len (.var 2))]) dBody, .fors (.nm 5) (.rng [(.bi .len (.var 2))]) aBody, .frz 3, .fors (.nm 11) (.var 3) (wBody ix), .ret (.var 4)] := rfl
  show ((runs (callK P (k + 1)) (D__law_smaller ix).body [some (dS sz rs), none, none, none, none, none, none, none, none, none, none, none] g).bind (retOf false)) = _
  rw [body, runs_cons]
  have h0 : run (callK P (k + 1)) (.par [1, 2, 3, 4] [.er, .er, .nw, .nw] [(.ix (.var 0) (.con (.int (0)))), (.ix (.var 0) (.con (.int (1)))), (.lst []), (.lst [])]) [some (dS sz rs), none, none, none, none, none, none, none, none, none, none, none] g = .ok (.nx (fr sz rs [] none none none none none none)) g := by
    simp [es, dS, fr]
  rw [h0, bind_ok, goOn_nx]
  -- the rows of a rule less
  obtain ⟨ρ1, hf1, b5, rfl⟩ := forGo_pre (g := g) (c := fun p : Nat => Dat.int (0 + (p : Int))) (xs := List.range rs.length) (tg := .nm 5) (body := fun ρ g => runs (callK P (k + 1)) dBody ρ g)
    (I := fun pre ρ => ∃ b5 : Option Dat, ρ = fr sz rs (pre.map (delAt rs)) b5 none none none none none) (by
      rintro pre p post e ρ ⟨b5, rfl⟩
      have hlen := congrArg List.length e
      rw [List.length_range, List.length_append, List.length_cons] at hlen
      refine ⟨_, bindT_nm, fr sz rs ((pre ++ [p]).map (delAt rs)) (some (.int (0 + (p : Int)))) none none none none none, ?_, _, rfl⟩
      have c1 := cut_to (rs.map dR) p
      have c2 := cut_from1 (rs.map dR) p
      have c3 := delT (rs := rs) (a := p) (by omega)
      have hap : appD 3 (dT (delAt rs p)) (fr sz rs (pre.map (delAt rs)) (some (.int (0 + (p : Int)))) none none none none none) g = .ok (.nx (fr sz rs ((pre ++ [p]).map (delAt rs)) (some (.int (0 + (p : Int)))) none none none none none)) g := by
        rw [appD_own (xs := (pre.map (delAt rs)).map dT) rfl (by rw [List.length_map, List.length_map]; omega)]
        unfold fr
        rw [List.map_append, List.map_append]
        rfl
      obtain ⟨L, hL⟩ : ∃ L, L = (pre.map (delAt rs)) := ⟨_, rfl⟩
      obtain ⟨L2, hL2⟩ : ∃ L, L = ((pre ++ [p]).map (delAt rs)) := ⟨_, rfl⟩
      rw [← hL, ← hL2] at hap ⊢
      unfold fr at hap ⊢
      simp only [Int.zero_add] at hap ⊢
      simp [-List.map_take, -List.map_drop, dBody, es, c1, c2, c3, hap])
    (ρ := fr sz rs [] none none none none none none) ⟨none, rfl⟩
  have hd1 : ∀ (L : List (List Rl)) (a b c d e f : Option Dat), den (callK P (k + 1)) (.rng [(.bi .len (.var 2))]) (erase (fr sz rs L a b c d e f)) g = .ok (.lst (ilist 0 rs.length)) g := by
    intro L a b c d e f
    unfold fr
    simp [hr1]
  rw [runs_cons, run_fors, hd1]
  simp only [bind_ok, itemsD_lst, ofO_some]
  have hf1 : forGo (.nm 5) (fun ρ g => runs (callK P (k + 1)) dBody ρ g) (ilist 0 rs.length) (fr sz rs [] none none none none none none) g = _ := hf1
  rw [hf1, bind_ok, goOn_nx]
  -- the rows of a letter less
  obtain ⟨R0, hR0⟩ : ∃ R0, R0 = (List.range rs.length).map (delAt rs) := ⟨_, rfl⟩
  rw [← hR0]
  have hR0l : R0.length = rs.length := by rw [hR0]; simp
  obtain ⟨ρ2, hf2, c5, c6, c7, c8, c9, c10, _, _, rfl⟩ := forGo_pre (g := g) (c := fun p : Nat => Dat.int (0 + (p : Int))) (xs := List.range rs.length) (tg := .nm 5) (body := fun ρ g => runs (callK P (k + 1)) aBody ρ g)
    (I := fun pre ρ => ∃ c5 c6 c7 c8 c9 c10 : Option Dat, era c9 = c9 ∧ era c10 = c10 ∧ ρ = fr sz rs (R0 ++ rowsL rs pre.length) c5 c6 c7 c8 c9 c10) (by
      rintro pre a post e ρ ⟨c5, c6, c7, c8, c9, c10, e9, e10, rfl⟩
      have hlen := congrArg List.length e
      rw [List.length_range, List.length_append, List.length_cons] at hlen
      have hi : pre.length < rs.length := by omega
      have ha : a = pre.length := by
        have h1 : (List.range rs.length)[pre.length]? = some a := by rw [e, List.getElem?_append_right (Nat.le_refl _), Nat.sub_self]; rfl
        rw [List.getElem?_range hi] at h1
        exact (Option.some.inj h1).symm
      subst ha
      obtain ⟨_, _, w3, w4⟩ := h.r rs[pre.length] (List.getElem_mem hi)
      have hrl := rowsL_len h pre.length (by omega)
      obtain ⟨d6, d7, d8, d9, d10, f9, f10, ht⟩ := a_turn (F := callK P (k + 1)) (g := g) (sz := sz) (L := R0 ++ rowsL rs pre.length) (b6 := c6) (b7 := c7) (b8 := c8) (b9 := c9) (b10 := c10) hi (by omega) ⟨by omega, by omega⟩ (by rw [List.length_append, hR0l]; omega) e9 e10
      refine ⟨_, bindT_nm, fr sz rs (R0 ++ rowsL rs (pre ++ [pre.length]).length) (some (.int (pre.length : Nat))) d6 d7 d8 d9 d10, ?_, _, d6, d7, d8, d9, d10, f9, f10, rfl⟩
      rw [List.length_append, List.length_singleton, rowsL_succ, List.getD_eq_getElem?_getD, List.getElem?_eq_getElem hi, Option.getD_some, ← List.append_assoc, Int.zero_add]
      exact ht)
    (ρ := fr sz rs R0 b5 none none none none none) ⟨b5, none, none, none, none, none, rfl, rfl, by simp [rowsL]⟩
  rw [runs_cons, run_fors, hd1]
  simp only [bind_ok, itemsD_lst, ofO_some]
  have hf2 : forGo (.nm 5) (fun ρ g => runs (callK P (k + 1)) aBody ρ g) (ilist 0 rs.length) (fr sz rs R0 b5 none none none none none) g = _ := hf2
  rw [hf2, bind_ok, goOn_nx, List.length_range]
  have hrows : R0 ++ rowsL rs rs.length = rowsA rs := by rw [hR0]; rfl
  rw [hrows, runs_cons]
  -- those that are systems, each once
  have hfz : run (callK P (k + 1)) (.frz 3) (fr sz rs (rowsA rs) c5 c6 c7 c8 c9 c10) g = .ok (.nx [some (dS sz rs), some (.int sz), some (.tup (rs.map dR)), some (.lst ((rowsA rs).map dT)), some (.own (.lst [])), c5, c6, c7, c8, c9, c10, none]) g := by
    rw [run_frz]
    rfl
  rw [hfz, bind_ok, goOn_nx]
  obtain ⟨RA, hRA⟩ : ∃ L, L = (rowsA rs).map dT := ⟨_, rfl⟩
  rw [← hRA]
  obtain ⟨ρ3, hf3, b11, rfl⟩ := forGo_pre (g := g) (c := dT) (xs := rowsA rs) (tg := .nm 11) (body := fun ρ g => runs (callK P (k + 1)) (wBody ix) ρ g)
    (I := fun pre ρ => ∃ b11 : Option Dat, ρ = [some (dS sz rs), some (.int sz), some (.tup (rs.map dR)), some (.lst RA), some (.own (.lst ((pickGo goodB [] pre).map (dS sz)))), c5, c6, c7, c8, c9, c10, b11]) (by
      rintro pre x post e ρ ⟨b11, rfl⟩
      obtain ⟨px, _⟩ := rows_spec h (row := x) (by rw [e]; simp)
      have hc := lis_call (k := k) (g := g) (sz := sz) A (rs := x) px.n
      have sx : stp (some (dT x)) = some (dT x) := rfl
      have hni := notin_found (sz := sz) (found := pickGo goodB [] pre) (row := x)
      have hpl : pre.length ≤ 200 := by
        have h1 := congrArg List.length e
        have h2 := rows_le h
        rw [List.length_append] at h1
        omega
      have hfl := pick_len goodB pre []
      rw [List.length_nil] at hfl
      refine ⟨_, bindT_nm, [some (dS sz rs), some (.int sz), some (.tup (rs.map dR)), some (.lst RA), some (.own (.lst ((pickGo goodB [] (pre ++ [x])).map (dS sz)))), c5, c6, c7, c8, c9, c10, some (dT x)], ?_, _, rfl⟩
      obtain ⟨PF, hPF⟩ : ∃ L, L = (pickGo goodB [] pre).map (dS sz) := ⟨_, rfl⟩
      have hPFl : PF.length ≤ 200 := by rw [hPF, List.length_map]; omega
      have ex : era (some (dT x)) = some (dT x) := rfl
      have hdx : Dat.tup [.int sz, dT x] = dS sz x := rfl
      cases hgx : goodB x with
      | false =>
        rw [hgx] at hc
        rw [pick_not (fun z => by rw [hgx] at z; cases z.1), ← hPF]
        simp [wBody, ss, sx, hc]
      | true =>
        rw [hgx] at hc
        by_cases hm : x ∈ pickGo goodB [] pre
        · rw [pick_not (fun z => z.2 hm), ← hPF]
          rw [← hPF, decide_eq_true hm] at hni
          simp [wBody, ss, sx, hc, hdx, hni]
        · rw [pick_add ⟨hgx, hm⟩, List.map_append, ← hPF]
          rw [← hPF, decide_eq_false hm] at hni
          have hap : appD 4 (dS sz x) [some (dS sz rs), some (.int sz), some (.tup (rs.map dR)), some (.lst RA), some (.own (.lst PF)), c5, c6, c7, c8, c9, c10, some (dT x)] g = .ok (.nx [some (dS sz rs), some (.int sz), some (.tup (rs.map dR)), some (.lst RA), some (.own (.lst (PF ++ [dS sz x]))), c5, c6, c7, c8, c9, c10, some (dT x)]) g := by
            rw [appD_own (xs := PF) rfl (by omega)]
            rfl
          simp [wBody, ss, sx, ex, hc, hdx, hni, hap])
    (ρ := [some (dS sz rs), some (.int sz), some (.tup (rs.map dR)), some (.lst RA), some (.own (.lst [])), c5, c6, c7, c8, c9, c10, none]) ⟨none, rfl⟩
  rw [← hRA, ← small_pick] at hf3
  have hd3 : den (callK P (k + 1)) (.var 3) (erase [some (dS sz rs), some (.int sz), some (.tup (rs.map dR)), some (.lst RA), some (.own (.lst [])), c5, c6, c7, c8, c9, c10, none]) g = .ok (.lst RA) g := by simp
  rw [runs_cons, run_fors, hd3]
  simp only [bind_ok, itemsD_lst, ofO_some]
  rw [hf3]
  simp
end
end R
set_option Elab.async false
set_option linter.all false
set_option maxRecDepth 100000
set_option maxHeartbeats 4000000
/-! Systems that are drawn. -/
namespace R
theorem forGo_idx {tg : Tg} {body : Sl → Mo Out} {I : Nat → Sl → List Dat → Prop} {Q : Out → List Dat → Prop} {N : Nat} : ∀ {ds : List Dat} {n : Nat} {ρ : Sl} {g : List Dat}, I n ρ g → n + ds.length ≤ N → (∀ ρ g, I (n + ds.length) ρ g → Q (.nx ρ) g) →
    (∀ d ∈ ds, ∀ m, m < N → ∀ ρ g, I m ρ g → ∃ ρ1, bindT tg d ρ = some ρ1 ∧ (body ρ1 g).sat fun o g' => match o with
      | .nx ρ2 => I (m + 1) ρ2 g'
      | .ct ρ2 => I (m + 1) ρ2 g'
      | .bk ρ2 => Q (.nx ρ2) g'
      | .rt d f => Q (.rt d f) g') → (forGo tg body ds ρ g).sat Q
  | [], n, ρ, g, hI, _, hQ, _ => by
    rw [forGo]
    exact hQ ρ g hI
  | d :: ds, n, ρ, g, hI, hN, hQ, h => by
    rw [List.length_cons] at hN hQ
    obtain ⟨ρ1, e, hb⟩ := h d List.mem_cons_self n (by omega) ρ g hI
    rw [forGo_cons e, sat_bind]
    have e2 : n + 1 + ds.length = n + (ds.length + 1) := by omega
    refine hb.mono fun o g' hh => ?_
    cases o with
    | nx ρ2 => exact forGo_idx hh (by omega) (by rw [e2]; exact hQ) fun x hx => h x (List.mem_cons_of_mem _ hx)
    | ct ρ2 => exact forGo_idx hh (by omega) (by rw [e2]; exact hQ) fun x hx => h x (List.mem_cons_of_mem _ hx)
    | bk ρ2 => exact hh
    | rt d f => exact hh
def wdB (sz : Nat) (w : Wrd) : Bool := w.all fun c => decide (97 ≤ c) && decide (c < 97 + sz)
theorem wdB_ok {sz : Nat} {w : Wrd} (h : wdB sz w = true) : Wd sz w := fun c hc => by
  have := List.all_eq_true.mp h c hc
  simpa using this
def goodRB (sz : Nat) (r : Rl) : Bool := wdB sz r.1 && wdB sz r.2 && decide (1 ≤ r.1.length) && decide (r.1.length ≤ 6) && decide (r.2.length ≤ 6) && decide (r.1 ≠ r.2)
theorem goodRB_ok {sz : Nat} {r : Rl} (h : goodRB sz r = true) : GoodR sz r := by
  unfold goodRB at h
  simp only [Bool.and_eq_true, decide_eq_true_eq] at h
  exact ⟨wdB_ok h.1.1.1.1.1, wdB_ok h.1.1.1.1.2, h.1.1.1.2, h.1.1.2, h.1.2, h.2⟩
/-- rules so far, m of them at most -/
structure GoodT (sz : Nat) (rs : List Rl) (m : Nat) : Prop where
  s1 : 1 ≤ sz
  s2 : sz ≤ 4
  n2 : rs.length ≤ m
  r : ∀ r ∈ rs, GoodR sz r
  nd : rs.Nodup
def goodTB (sz : Nat) (rs : List Rl) (m : Nat) : Bool := decide (1 ≤ sz) && decide (sz ≤ 4) && decide (rs.length ≤ m) && rs.all (goodRB sz) && decide rs.Nodup
theorem goodTB_ok {sz m : Nat} {rs : List Rl} (h : goodTB sz rs m = true) : GoodT sz rs m := by
  unfold goodTB at h
  simp only [Bool.and_eq_true, decide_eq_true_eq] at h
  exact ⟨h.1.1.1.1, h.1.1.1.2, h.1.1.2, fun r hr => goodRB_ok (List.all_eq_true.mp h.1.2 r hr), h.2⟩
/-- sides of four letters at most -/
def Small (rs : List Rl) : Prop := ∀ r ∈ rs, r.1.length ≤ 4 ∧ r.2.length ≤ 4
theorem GoodT.s {sz m : Nat} {rs : List Rl} (h : GoodT sz rs m) (hm : m ≤ 8) (h1 : 1 ≤ rs.length) : GoodS sz rs := ⟨h.s1, h.s2, h1, by have := h.n2; omega, h.r, h.nd⟩
theorem GoodT.add {sz m : Nat} {rs : List Rl} (h : GoodT sz rs m) {r : Rl} (hr : GoodR sz r) (hn : r ∉ rs) : GoodT sz (rs ++ [r]) (m + 1) := by
  refine ⟨h.s1, h.s2, by have := h.n2; simp; omega, fun x hx => ?_, ?_⟩
  · rcases List.mem_append.mp hx with hx | hx
    · exact h.r x hx
    · rw [List.mem_singleton.mp hx]; exact hr
  · rw [List.nodup_append]
    refine ⟨h.nd, by simp, fun a ha b hb e => ?_⟩
    rw [List.mem_singleton.mp hb] at e
    exact hn (e ▸ ha)
theorem GoodT.up {sz m m' : Nat} {rs : List Rl} (h : GoodT sz rs m) (hm : m ≤ m') : GoodT sz rs m' := ⟨h.s1, h.s2, Nat.le_trans h.n2 hm, h.r, h.nd⟩
def smp1 : List (Nat × List Rl) := [(2, [([98, 97], [97, 98])]), (2, [([97, 97], []), ([98, 98], [])]), (2, [([97, 98], [])]), (2, [([97, 97], []), ([98, 98], []), ([98, 97, 98], [97, 98, 97])]), (2, [([97, 98], [98, 98, 97])]), (2, [([97, 98], [97, 97, 98])]), (3, [([98, 97], [97, 98]), ([99, 97], [97, 99]), ([99, 98], [98, 99])]), (1, [([97, 97, 97], [97])])]
theorem smp1_ok : ∀ p ∈ smp1, GoodT p.1 p.2 4 ∧ 1 ≤ p.2.length ∧ Small p.2 := by
  have h : smp1.all (fun p => goodTB p.1 p.2 4 && (decide (1 ≤ p.2.length) && p.2.all fun r => decide (r.1.length ≤ 4) && decide (r.2.length ≤ 4))) = true := by decide
  intro p hp
  have := List.all_eq_true.mp h p hp
  simp only [Bool.and_eq_true, decide_eq_true_eq] at this
  exact ⟨goodTB_ok this.1, this.2.1, fun r hr => by have := List.all_eq_true.mp this.2.2 r hr; simpa using this⟩
theorem notin_rules {rs : List Rl} {l r : Wrd} : cpD .notin (.tup [.str l, .str r]) (.tup (rs.map dR)) = some (!decide ((l, r) ∈ rs)) := by
  have h1 : okB (.tup [.str l, .str r]) 64 = true := rfl
  have h2 : okAllB (rs.map dR) 63 = true := okAll_of fun d hd => by
    obtain ⟨r, _, rfl⟩ := List.mem_map.mp hd
    rfl
  simp only [cpD, inD, h1, h2, Bool.and_self, if_true, Option.map_some]
  congr 2
  rw [Bool.eq_iff_iff, List.any_eq_true, decide_eq_true_eq]
  constructor
  · rintro ⟨d, hd, e⟩
    obtain ⟨x, hx, rfl⟩ := List.mem_map.mp hd
    have := eqB_dR x (l, r)
    rw [show dR (l, r) = .tup [.str l, .str r] from rfl, e] at this
    have := of_decide_eq_true this.symm
    rw [← this]; exact hx
  · intro h
    refine ⟨_, List.mem_map.mpr ⟨_, h, rfl⟩, ?_⟩
    exact (eqB_dR (l, r) (l, r)).trans (by simp)
theorem ne_empty {rs : List Rl} : cpD .ne (.tup (rs.map dR)) (.tup []) = some (!rs.isEmpty) := by
  have h2 : okAllB (rs.map dR) 63 = true := okAll_of fun d hd => by
    obtain ⟨r, _, rfl⟩ := List.mem_map.mp hd
    rfl
  have e1 : okB (.tup (rs.map dR)) 64 = true := h2
  have e2 : okB (.tup []) 64 = true := rfl
  cases rs with
  | nil => rfl
  | cons r rs =>
    simp only [cpD, eqD, e1, e2]
    rfl
section
variable {P : Pg} {ix : Nat → Nat} {k : Nat} {g : List Dat}
def sbody (ix : Nat → Nat) : List Sm := [
      .set (.nm 6) (.op .add (.call (ix N__law_word) [(.var 0), (.var 2), (.con (.int (2)))]) (.call (ix N__law_some) [(.var 0), (.bi .list (.sl (.con (.str [97, 98, 99, 100])) (.con .non) (.asInt (.var 2))))])),
      .set (.nm 7) (.call (ix N__law_word) [(.var 0), (.var 2), (.con (.int (3)))]),
      .ifs (.and (.cmp .ne (.var 6) (.var 7)) (.cmp .notin (.tup [(.var 6), (.var 7)]) (.var 3))) [
        .set (.nm 3) (.op .add (.var 3) (.tup [(.tup [(.var 6), (.var 7)])]))] []]
theorem sys_turn (A : DrawAt P ix) {sz m : Nat} {rs : List Rl} {a1 a4 a5 a6 a7 : Option Dat} (h : GoodT sz rs m) (hsm : Small rs) (hm : m ≤ 100) (e1 : era a1 = a1) (e4 : era a4 = a4) (e5 : era a5 = a5) (hg : Gd g) :
    (runs (callK P (k + 3)) (sbody ix) [some .cup, a1, some (.int sz), some (.tup (rs.map dR)), a4, a5, a6, a7] g).sat fun o g' => Gd g' ∧ ∃ rs' b6 b7, GoodT sz rs' (m + 1) ∧ Small rs' ∧ o = .nx [some .cup, a1, some (.int sz), some (.tup (rs'.map dR)), a4, a5, b6, b7] := by
  have hs1 := h.s1
  have hs2 := h.s2
  simp only [sbody, runs_cons, runs_nil, run_set, den_op, den_call, denL_cons, denL_nil, den_var, den_con, erase_cons, erase_nil, sat_bind]
  simp [sat_bind]
  refine (draw_word (k := k) A (many := 2) hs1 hs2 (by omega) hg).mono fun d g1 ⟨hg1, w, e, hw, hwl⟩ => ?_
  subst e
  have ec := cut_to [97, 98, 99, 100] sz
  simp [ec]
  refine (draw_some (k := k + 1) A (xs := List.take sz [.str [97], .str [98], .str [99], .str [100]]) ?_ ?_ hg1).1.mono fun y g2 ⟨hg2, hy⟩ => ?_
  · intro z
    have := congrArg List.length z
    simp at this
    omega
  · simp; omega
  obtain ⟨c, rfl, hc⟩ := letter_take hs2 hy
  have ea := opD_addS (x := w) (y := [c]) (by simp; omega)
  simp [ea]
  refine (draw_word (k := k) A (many := 3) hs1 hs2 (by omega) hg2).mono fun d g3 ⟨hg3, v, e, hv, hvl⟩ => ?_
  subst e
  simp
  have hL : Wd sz (w ++ [c]) := fun x hx => by
    rcases List.mem_append.mp hx with hx | hx
    · exact hw x hx
    · rw [List.mem_singleton.mp hx]; exact hc
  by_cases c1 : w ++ [c] = v
  · simp [c1]
    exact ⟨hg3, rs, h.up (by omega), hsm, rfl⟩
  · simp [c1, notin_rules]
    by_cases c2 : (w ++ [c], v) ∈ rs
    · simp [c2]
      exact ⟨hg3, rs, h.up (by omega), hsm, rfl⟩
    · have eT := opD_addT (x := rs.map dR) (y := [.tup [.str (w ++ [c]), .str v]]) (by have := h.n2; simp; omega)
      simp [c2, eT]
      refine ⟨hg3, rs ++ [(w ++ [c], v)], h.add ⟨hL, hv, by simp, by simp; omega, by show v.length ≤ 6; omega, c1⟩ c2, fun r hr => ?_, ?_⟩
      · rcases List.mem_append.mp hr with hr | hr
        · exact hsm r hr
        · rw [List.mem_singleton.mp hr]
          exact ⟨by show (w ++ [c]).length ≤ 4; simp; omega, by show v.length ≤ 4; omega⟩
      · simp [dR]
theorem draw_system (A : DrawAt P ix) (hS : P[ix N__law_system]? = some (D__law_system_v1 ix)) (hg : Gd g) :
    (callK P (k + 4) (ix N__law_system) [.cup] g).sat fun d g' => Gd g' ∧ ∃ sz rs, d = dS sz rs ∧ GoodT sz rs 7 ∧ 1 ≤ rs.length ∧ Small rs := by
  rw [callK_eq hS rfl]
  show ((runs (callK P (k + 3)) (D__law_system_v1 ix).body [some .cup, none, none, none, none, none, none, none] g).bind (retOf false)).sat _
  obtain ⟨s0, s1, s2, s3, s4, s5, s6, s7, hb, h01, h2, h3, h4, h5, h6, h7⟩ : ∃ s0 s1 s2 s3 s4 s5 s6 s7 : Sm, (D__law_system_v1 ix).body = [s0, s1] ++ [s2, s3, s4, s5, s6, s7] ∧
      runs (callK P (k + 3)) [s0, s1] [some .cup, none, none, none, none, none, none, none] g = .ok (.nx [some .cup, some (.lst (smp1.map fun p => dS p.1 p.2)), none, none, none, none, none, none]) g ∧
      s2 = .set (.tp [(.nm 2), (.nm 3)]) (.call (ix N__law_some) [(.var 0), (.var 1)]) ∧ s3 = .set (.nm 4) (.call (ix N__law_roll) [(.var 0), (.con (.int (3)))]) ∧
      s4 = .ifs (.cmp .eq (.var 4) (.con (.int (0)))) [.ret (.tup [(.var 2), (.var 3)])] [] ∧
      s5 = .ifs (.cmp .eq (.var 4) (.con (.int (1)))) [.par [2, 3] [.er, .er] [(.op .add (.con (.int (1))) (.call (ix N__law_roll) [(.var 0), (.con (.int (4)))])), (.tup [])]] [] ∧
      s6 = .fors (.nm 5) (.rng [(.op .add (.con (.int (1))) (.call (ix N__law_roll) [(.var 0), (.con (.int (3)))]))]) (sbody ix) ∧
      s7 = .ret (.tup [(.var 2), (.ifx (.cmp .ne (.var 3) (.tup [])) (.var 3) (.tup [(.tup [(.con (.str [97])), (.con (.str []))])]))]) :=
    ⟨_, _, _, _, _, _, _, _, rfl, rfl, rfl, rfl, rfl, rfl, rfl, rfl⟩
  rw [hb, runs_append, h01, bind_ok, goOn_nx, h2, h3, h4, h5, h6, h7]
  simp only [runs_cons, runs_nil, run_set, den_call, denL_cons, denL_nil, den_var, den_con, erase_cons, erase_nil, sat_bind]
  simp [sat_bind]
  refine (draw_some (k := k + 1) A (xs := smp1.map fun p => dS p.1 p.2) (by simp [smp1]) (by simp [smp1]) hg).1.mono fun d g1 ⟨hg1, hd⟩ => ?_
  obtain ⟨⟨sz, rs⟩, hp, rfl⟩ := List.mem_map.mp hd
  obtain ⟨ht, hl1, hsm⟩ := smp1_ok _ hp
  have hbt : ∀ ρ : Sl, bindT (.tp [.nm 2, .nm 3]) (dS sz rs) ρ = some ((ρ.set 2 (some (.int sz))).set 3 (some (.tup (rs.map dR)))) := fun ρ => by simp [dS]
  simp [hbt, sat_bind]
  refine (draw_roll (k := k + 2) A (many := 3) (by omega) (by omega) hg1).mono fun d g2 ⟨hg2, r, e, hr1, hr2⟩ => ?_
  subst e
  simp
  by_cases c0 : r = 0
  · simp [c0]
    exact ⟨hg2, sz, rs, rfl, ht.up (by omega), hl1, hsm⟩
  have fin : ∀ (sz : Nat) (rs : List Rl) (g3 : List Dat), GoodT sz rs 4 → Small rs → Gd g3 → ((runs (callK P (k + 3)) [.fors (.nm 5) (.rng [(.op .add (.con (.int (1))) (.call (ix N__law_roll) [(.var 0), (.con (.int (3)))]))]) (sbody ix),
      .ret (.tup [(.var 2), (.ifx (.cmp .ne (.var 3) (.tup [])) (.var 3) (.tup [(.tup [(.con (.str [97])), (.con (.str []))])]))])] [some .cup, some (.lst (smp1.map fun p => dS p.1 p.2)), some (.int sz), some (.tup (rs.map dR)), some (.int r), none, none, none] g3).bind (retOf false)).sat fun d g' => Gd g' ∧ ∃ sz rs, d = dS sz rs ∧ GoodT sz rs 7 ∧ 1 ≤ rs.length ∧ Small rs := by
    intro sz rs g3 ht hsm hg3
    simp only [runs_cons, runs_nil, run_fors, den_rng, denL_cons, denL_nil, den_op, den_con, den_call, den_var, erase_cons, erase_nil, sat_bind]
    simp [sat_bind]
    refine (draw_roll (k := k + 2) A (many := 3) (by omega) (by omega) hg3).mono fun d g4 ⟨hg4, q, e, hq1, hq2⟩ => ?_
    subst e
    simp
    rw [rng1 (by omega) (by omega)]
    simp
    refine (forGo_idx (N := 3) (n := 0) (I := fun m ρ g => Gd g ∧ ∃ rs a5 a6 a7, era a5 = a5 ∧ GoodT sz rs (4 + m) ∧ Small rs ∧ ρ = [some .cup, some (.lst (smp1.map fun p => dS p.1 p.2)), some (.int sz), some (.tup (rs.map dR)), some (.int r), a5, a6, a7]) (Q := fun o g => Gd g ∧ ∃ rs a5 a6 a7, GoodT sz rs 7 ∧ Small rs ∧ o = .nx [some .cup, some (.lst (smp1.map fun p => dS p.1 p.2)), some (.int sz), some (.tup (rs.map dR)), some (.int r), a5, a6, a7])
      ⟨hg4, rs, none, none, none, rfl, ht, hsm, rfl⟩ (by simp [ilist]; omega) ?_ ?_).mono ?_
    · rintro ρ g ⟨hg, rs, a5, a6, a7, _, ht, hsm, rfl⟩
      exact ⟨hg, rs, a5, a6, a7, ht.up (by simp [ilist]; omega), hsm, rfl⟩
    · rintro d hd m hm ρ g ⟨hg, rs, a5, a6, a7, _, ht, hsm, rfl⟩
      obtain ⟨i, hi, rfl⟩ := mem_ilist.mp hd
      refine ⟨_, bindT_nm, ?_⟩
      refine (sys_turn (k := k) A (a1 := some (.lst (smp1.map fun p => dS p.1 p.2))) (a4 := some (.int r)) (a5 := some (.int (0 + (i : Int)))) (a6 := a6) (a7 := a7) ht hsm (by omega) rfl rfl rfl hg).mono fun o g5 ⟨hg5, rs', b6, b7, ht', hsm', e⟩ => ?_
      subst e
      exact ⟨hg5, rs', _, _, _, rfl, ht'.up (by omega), hsm', rfl⟩
    · rintro o g ⟨hg, rs, a5, a6, a7, ht, hsm, rfl⟩
      simp [ne_empty]
      by_cases he : rs = []
      · subst he
        simp
        refine ⟨hg, sz, [([97], [])], rfl, ⟨ht.s1, ht.s2, by simp, fun x hx => ?_, by simp⟩, by simp, fun r hr => by rw [List.mem_singleton.mp hr]; exact ⟨by simp, by simp⟩⟩
        rw [List.mem_singleton.mp hx]
        have := ht.s1
        exact ⟨fun c hc => (by rw [List.mem_singleton.mp hc]; omega), fun c hc => (nomatch hc), by simp, by simp, by simp, by simp⟩
      · simp [he]
        refine ⟨hg, sz, rs, rfl, ht, ?_, hsm⟩
        cases rs with
        | nil => exact absurd rfl he
        | cons x y => simp
  by_cases c1 : r = 1
  · simp [c1, sat_bind]
    refine (draw_roll (k := k + 2) A (many := 4) (by omega) (by omega) hg2).mono fun d g3 ⟨hg3, q, e, hq1, hq2⟩ => ?_
    subst e
    simp
    have := fin (1 + q.toNat) [] g3 ⟨by omega, by omega, by simp, by simp, by simp⟩ (fun _ h => nomatch h) hg3
    rw [show ((1 + q.toNat : Nat) : Int) = 1 + q by omega] at this
    simp [c1, sat_bind] at this
    exact this
  · simp [c0, c1, sat_bind]
    have := fin sz rs g2 ht hsm hg2
    simp [sat_bind] at this
    exact this
end
end R
set_option Elab.async false
set_option linter.all false
set_option maxRecDepth 100000
set_option maxHeartbeats 4000000
namespace K81
open R
theorem AW : WordsAt P ix := ⟨at_is_tuple_of, at_fits_whole, at_fits_letters, at_fits_rule, at_fits_system, at_need_system⟩
theorem AM : SmallAt P ix := ⟨AW, at_letter_less, at_smaller_in, at_size_of, at_smaller_systems⟩
theorem AL : LSmallAt P ix := ⟨at__law_is_system, at__law_smaller⟩
theorem AD : DrawAt P ix := ⟨⟨31433, 8255, 2147482951, 283, 2147483059, 751, rfl, by decide, by decide, by decide, by decide⟩, at__law_some, at__law_word⟩
theorem hsame : P[ix N__law_same]? = some (sameDf (ix N__law_same)) := rfl
section
variable {k : Nat} {g : List Dat} {sz : Nat} {rs : List Rl}
theorem is_system_call (h : GoodS sz rs) : callK P (k + 4) 6 [dS sz rs] g = .ok (.bl true) g := by
  rw [callK_eq (f := D_is_system ix) rfl rfl]
  have e := system_call (k := k) (g := g) AW h
  have ss : stp (some (dS sz rs)) = some (dS sz rs) := rfl
  simp [D_is_system, ss, e]
theorem in_rules {l r : Wrd} : cpD .isin (.tup [.str l, .str r]) (.tup (rs.map dR)) = some (decide ((l, r) ∈ rs)) := by
  have := notin_rules (rs := rs) (l := l) (r := r)
  simp only [cpD] at this ⊢
  cases h : inD (.tup [.str l, .str r]) (.tup (rs.map dR)) with
  | none => rw [h] at this; cases this
  | some b =>
    rw [h] at this
    have : (!b) = !decide ((l, r) ∈ rs) := Option.some.inj this
    congr 1
    cases b <;> cases hd : decide ((l, r) ∈ rs) <;> simp_all
theorem with_call {r : Rl} (h : GoodS sz rs) (hr : GoodR sz r) (hn : r ∉ rs) (hl : rs.length + 1 ≤ 8) : callK P (k + 5) 7 [dS sz rs, .tup [.str r.1, .str r.2]] g = .ok (dS sz (rs ++ [r])) g := by
  rw [callK_eq (f := d_with_rule.df) rfl rfl]
  have e1 : callK P (k + 4) 5 [dS sz rs] g = .ok .non g := need_call (k := k) (g := g) AW h
  have e2 : callK P (k + 4) 3 [.int sz, .tup [.str r.1, .str r.2]] g = .ok (.bl true) g := rule_call (k := k + 2) (g := g) AW h.s2 hr
  have es : era (some (dS sz rs)) = some (dS sz rs) := rfl
  have ss : stp (some (dS sz rs)) = some (dS sz rs) := rfl
  have hbt : ∀ ρ : Sl, bindT (.tp [.nm 2, .nm 3]) (dS sz rs) ρ = some ((ρ.set 2 (some (.int sz))).set 3 (some (.tup (rs.map dR)))) := fun ρ => by simp [dS]
  have hin := in_rules (rs := rs) (l := r.1) (r := r.2)
  rw [show ((r.1, r.2) : Rl) = r from rfl, decide_eq_false hn] at hin
  have ea := opD_addT (x := rs.map dR) (y := [.tup [.str r.1, .str r.2]]) (by rw [List.length_map]; simp; omega)
  have ea2 : rs.map dR ++ [Dat.tup [.str r.1, .str r.2]] = (rs ++ [r]).map dR := by rw [List.map_append]; rfl
  rw [ea2] at ea
  have h8 : ((rs ++ [r]).length : Int) ≤ 8 := by rw [List.length_append, List.length_singleton]; omega
  have h1 : 1 ≤ ((rs ++ [r]).length : Int) := by rw [List.length_append, List.length_singleton]; omega
  obtain ⟨N, hN⟩ : ∃ L, L = rs ++ [r] := ⟨_, rfl⟩
  rw [← hN] at ea h8 h1 ⊢
  have hd : Dat.tup [.int sz, .tup (N.map dR)] = dS sz N := rfl
  simp [d_with_rule, es, ss, e1, e2, hbt, hin, ea, h8, h1, hd]
def okBody : List Sm := [.ifs (.or (.cmp .isnot (.call 6 [(.var 8)]) (.con (.bl true))) (.and (.cmp .eq (.ix (.call 10 [(.var 8)]) (.con (.int (0)))) (.ix (.var 4) (.con (.int (0))))) (.cmp .ne (.ix (.call 10 [(.var 8)]) (.con (.int (1)))) (.op .sub (.ix (.var 4) (.con (.int (1)))) (.con (.int (1))))))) [
        .ret (.con (.bl false))] []]
def tailBody : List Sm := [.set (.nm 4) (.tup [(.bi .len (.ix (.var 1) (.con (.int (1))))), (.bi .len (.me .join (.con (.str [])) (.lc (.op .add (.var 5) (.var 6)) (.tp [(.nm 5), (.nm 6)]) (.ix (.var 1) (.con (.int (1)))) (.con (.bl true)) [5, 6])))]),
    .set (.nm 7) (.call 19 [(.var 1)]),
    .ifs (.not (.call 15 [(.tup [(.call 10 [(.var 1)]), (.call 11 [(.var 1)])]), (.tup [(.var 4), (.bi .tuple (.var 7))])])) [
      .ret (.con (.bl false))] [],
    .fors (.nm 8) (.var 7) okBody,
    .ret (.con (.bl true))]
theorem okS_dS (rs : List Rl) (h : rs.length ≤ 1000) (n : Nat) : okS (dS sz rs) (n + 3) = true := by
  have : okS (.tup (rs.map dR)) (n + 2) = true := okS_map (by omega) fun x _ => by simp [dR, okS, okSL]
  simp [dS, okS, okSL] at this ⊢
  exact this
theorem join_sides (h : GoodS sz rs) : meD .join (.str []) (.lst (rs.map fun r => .str (r.1 ++ r.2))) = some (.str (rs.map fun r => r.1 ++ r.2).flatten) ∧ ((rs.map fun r => r.1 ++ r.2).flatten).length = ltrs rs := by
  have hl : ((rs.map fun r => r.1 ++ r.2).map List.length).sum = ltrs rs := by
    unfold ltrs
    rw [List.map_map]
    congr 1
    refine List.map_congr_left fun r _ => ?_
    simp
  have hb : ltrs rs ≤ 12 * rs.length := by
    have key : ∀ l : List Rl, (∀ r ∈ l, r.1.length ≤ 6 ∧ r.2.length ≤ 6) → ltrs l ≤ 12 * l.length := by
      intro l
      induction l with
      | nil => intro _; simp [ltrs]
      | cons r l ih =>
        intro hh
        have := ih fun x hx => hh x (List.mem_cons_of_mem _ hx)
        have := hh r List.mem_cons_self
        unfold ltrs at *
        rw [List.map_cons, List.sum_cons, List.length_cons]
        omega
    exact key rs fun r hr => ⟨(h.r r hr).l2, (h.r r hr).r2⟩
  have hn := h.n2
  constructor
  · simp only [meD, strsD_map (fun r : Rl => r.1 ++ r.2) rs, Option.bind_some]
    rw [if_pos, glue_nil]
    rw [hl]
    have : line = 16777216 := rfl
    simp
    omega
  · rw [List.length_flatten, hl]
theorem tail_ok {b2 b3 b4 b5 b6 b7 b8 : Option Dat} (h : GoodS sz rs) (e2 : era b2 = b2) (e3 : era b3 = b3) : (runs (callK P (k + 7)) tailBody [some .cup, some (dS sz rs), b2, b3, none, none, none, none, none] g) = .ok (.rt (.bl true) false) g := by
  have es : era (some (dS sz rs)) = some (dS sz rs) := rfl
  have ss : stp (some (dS sz rs)) = some (dS sz rs) := rfl
  have gr : ∀ g, getD (dS sz rs) (.int 1) g = some (.tup (rs.map dR)) := fun g => by simp [dS]
  obtain ⟨hj1, hj2⟩ := join_sides h
  have hlc : lcGo (lcStep (callK P (k + 7)) (.op .add (.var 5) (.var 6)) (.tp [(.nm 5), (.nm 6)]) (.con (.bl true)) [some .cup, some (dS sz rs), b2, b3, none, none, none, none, none]) [] (rs.map dR) g = .ok (rs.map fun r => .str (r.1 ++ r.2)) g := by
    rw [lc_map (p := fun _ => true) (e := fun r : Rl => .str (r.1 ++ r.2))]
    · rw [List.filter_eq_self.mpr (by simp)]; rfl
    · intro r hr
      have hb := h.r r hr
      have h1 := hb.l2
      have h2 := hb.r2
      have ea := opD_addS (x := r.1) (y := r.2) (by omega)
      rw [lcStep_tp (ρ1 := [some .cup, some (dS sz rs), b2, b3, none, some (.str r.1), some (.str r.2), none, none]) (by simp [dR])]
      simp [ea]
  have f1 : callK P (k + 7) 19 [dS sz rs] g = .ok (.lst ((smallN rs).map (dS sz))) g := lsmall_call (k := k + 5) AL h.pre
  have f2 : callK P (k + 7) 10 [dS sz rs] g = .ok (.tup [.int rs.length, .int (ltrs rs)]) g := size_call (k := k + 2) AM h
  have f3 : callK P (k + 7) 11 [dS sz rs] g = .ok (.tup ((smallN rs).map (dS sz))) g := smallers_call (k := k + 2) AM h
  have hsl := small_le h.pre
  have f4 : callK P (k + 7) 15 [.tup [.tup [.int rs.length, .int (ltrs rs)], .tup ((smallN rs).map (dS sz))], .tup [.tup [.int rs.length, .int (ltrs rs)], .tup ((smallN rs).map (dS sz))]] g = .ok (.bl true) g := by
    refine same_call hsame 6 k _ g ?_
    have o1 : okS (.tup ((smallN rs).map (dS sz))) 5 = true := okS_map (by omega) fun x hx => by
      obtain ⟨gx, _⟩ := small_spec h.pre hx
      exact okS_dS x (by have := gx.n2; omega) 1
    unfold okS okSL okSL okSL
    rw [o1]
    simp [okS, okSL]
  -- the last loop
  have hin : cpD .isnot (.bl true) (.bl true) = some false := rfl
  obtain ⟨ρ2, hf, b8, rfl⟩ := forGo_pre (g := g) (c := dS sz) (xs := smallN rs) (tg := .nm 8) (body := fun ρ g => runs (callK P (k + 7)) okBody ρ g)
    (I := fun pre ρ => ∃ b8 : Option Dat, ρ = [some .cup, some (dS sz rs), b2, b3, some (.tup [.int rs.length, .int (ltrs rs)]), none, none, some (.lst ((smallN rs).map (dS sz))), b8]) (by
      rintro pre x post e ρ ⟨b8, rfl⟩
      obtain ⟨gx, hx⟩ := small_spec h.pre (row := x) (by rw [e]; simp)
      have sx : stp (some (dS sz x)) = some (dS sz x) := rfl
      have c1 : callK P (k + 7) 6 [dS sz x] g = .ok (.bl true) g := is_system_call (k := k + 3) gx
      have c2 : callK P (k + 7) 10 [dS sz x] g = .ok (.tup [.int x.length, .int (ltrs x)]) g := size_call (k := k + 2) AM gx
      refine ⟨_, bindT_nm, [some .cup, some (dS sz rs), b2, b3, some (.tup [.int rs.length, .int (ltrs rs)]), none, none, some (.lst ((smallN rs).map (dS sz))), some (dS sz x)], ?_, _, rfl⟩
      generalize (smallN rs).map (dS sz) = L
      rcases hx with hx | ⟨hx, hx2⟩
      · have hne : ¬ (x.length : Int) = (rs.length : Int) := by omega
        simp [okBody, sx, c1, c2, hin, hne]
      · have heq : (x.length : Int) = (rs.length : Int) := by omega
        have heq2 : (ltrs x : Int) = (ltrs rs : Int) - 1 := by omega
        simp [okBody, sx, c1, c2, hin, hx, heq2])
    (ρ := [some .cup, some (dS sz rs), b2, b3, some (.tup [.int rs.length, .int (ltrs rs)]), none, none, some (.lst ((smallN rs).map (dS sz))), none]) ⟨none, rfl⟩
  obtain ⟨L, hL⟩ : ∃ L, L = (smallN rs).map (dS sz) := ⟨_, rfl⟩
  obtain ⟨J, hJ⟩ : ∃ L, L = (rs.map fun r : Rl => Dat.str (r.1 ++ r.2)) := ⟨_, rfl⟩
  obtain ⟨JF, hJF⟩ : ∃ L, L = (rs.map fun r : Rl => r.1 ++ r.2).flatten := ⟨_, rfl⟩
  rw [← hL] at f1 f3 f4 hf
  rw [← hJ] at hj1 hlc
  rw [← hJF] at hj1 hj2
  have hbody : tailBody = [.set (.nm 4) (.tup [(.bi .len (.ix (.var 1) (.con (.int (1))))), (.bi .len (.me .join (.con (.str [])) (.lc (.op .add (.var 5) (.var 6)) (.tp [(.nm 5), (.nm 6)]) (.ix (.var 1) (.con (.int (1)))) (.con (.bl true)) [5, 6])))]),
    .set (.nm 7) (.call 19 [(.var 1)]),
    .ifs (.not (.call 15 [(.tup [(.call 10 [(.var 1)]), (.call 11 [(.var 1)])]), (.tup [(.var 4), (.bi .tuple (.var 7))])])) [
      .ret (.con (.bl false))] []] ++ [.fors (.nm 8) (.var 7) okBody, .ret (.con (.bl true))] := rfl
  have h1 : runs (callK P (k + 7)) [.set (.nm 4) (.tup [(.bi .len (.ix (.var 1) (.con (.int (1))))), (.bi .len (.me .join (.con (.str [])) (.lc (.op .add (.var 5) (.var 6)) (.tp [(.nm 5), (.nm 6)]) (.ix (.var 1) (.con (.int (1)))) (.con (.bl true)) [5, 6])))]),
    .set (.nm 7) (.call 19 [(.var 1)]),
    .ifs (.not (.call 15 [(.tup [(.call 10 [(.var 1)]), (.call 11 [(.var 1)])]), (.tup [(.var 4), (.bi .tuple (.var 7))])])) [
      .ret (.con (.bl false))] []] [some .cup, some (dS sz rs), b2, b3, none, none, none, none, none] g = .ok (.nx [some .cup, some (dS sz rs), b2, b3, some (.tup [.int rs.length, .int (ltrs rs)]), none, none, some (.lst L), none]) g := by
    simp [es, ss, e2, e3, gr, den_lc2, hlc, hj1, hj2, f1, f2, f3, f4]
  rw [hbody, runs_append, h1, bind_ok, goOn_nx, runs_cons, run_fors]
  have hd : den (callK P (k + 7)) (.var 7) (erase [some .cup, some (dS sz rs), b2, b3, some (.tup [.int rs.length, .int (ltrs rs)]), none, none, some (.lst L), none]) g = .ok (.lst L) g := by simp
  rw [hd]
  simp only [bind_ok, itemsD_lst, ofO_some]
  rw [hf]
  simp
end
end K81
set_option Elab.async false
set_option linter.all false
set_option maxRecDepth 100000
set_option maxHeartbeats 4000000
namespace K81
open R
abbrev F := callK P 20
section
variable {k : Nat} {g : List Dat} {sz : Nat} {rs : List Rl}
theorem ifs_ok {l r : Wrd} {rest : List Rl} (h : GoodT sz rs 7) (hl : 1 ≤ rs.length) (hsm : Small rs) (hr : rs = (l, r) :: rest) (hg : Gd g) :
    (runs (callK P (k + 7)) [.ifs (.and (.cmp .eq (.call 13 [(.var 0), (.con (.int (3)))]) (.con (.int (0)))) (.and (.cmp .ne (.op .add (.var 2) (.con (.str [97]))) (.var 3)) (.cmp .notin (.tup [(.op .add (.var 2) (.con (.str [97]))), (.var 3)]) (.ix (.var 1) (.con (.int (1))))))) [
      .set (.nm 1) (.call 7 [(.var 1), (.tup [(.op .add (.var 2) (.con (.str [97]))), (.var 3)])])] []] [some .cup, some (dS sz rs), some (.str l), some (.str r), none, none, none, none, none] g).sat fun o g' => Gd g' ∧ ∃ rs', GoodS sz rs' ∧ o = .nx [some .cup, some (dS sz rs'), some (.str l), some (.str r), none, none, none, none, none] := by
  have ss : stp (some (dS sz rs)) = some (dS sz rs) := rfl
  have es : ∀ rs, era (some (dS sz rs)) = some (dS sz rs) := fun _ => rfl
  have hmem : (l, r) ∈ rs := by rw [hr]; exact List.mem_cons_self
  have hgr := h.r _ hmem
  have hsr : l.length ≤ 4 ∧ r.length ≤ 4 := hsm _ hmem
  have ea := opD_addS (x := l) (y := [97]) (by have := hsr.1; simp; omega)
  have gr : ∀ g, getD (dS sz rs) (.int 1) g = some (.tup (rs.map dR)) := fun g => by simp [dS]
  have hni := notin_rules (rs := rs) (l := l ++ [97]) (r := r)
  have hse : stp (some (Dat.str l)) = some (.str l) := rfl
  simp [ss, sat_bind]
  refine (show (callK P (k + 7) 13 [.cup, .int 3] g).sat _ from draw_roll (k := k + 6) AD (many := 3) (by omega) (by omega) hg).mono fun d g1 ⟨hg1, q, e, hq1, hq2⟩ => ?_
  subst e
  by_cases hq : q = 0
  · by_cases hne : l ++ [97] = r
    · simp [hq, ea, hne]
      exact ⟨hg1, rs, h.s (by omega) hl, rfl⟩
    · by_cases hin : (l ++ [97], r) ∈ rs
      · simp [hq, ea, hne, gr, hni, hin]
        exact ⟨hg1, rs, h.s (by omega) hl, rfl⟩
      · have hgn : GoodR sz (l ++ [97], r) := by
          refine ⟨fun c hc => ?_, hgr.wr, by simp, by have := hsr.1; simp; omega, hgr.r2, hne⟩
          rcases List.mem_append.mp hc with hc | hc
          · exact hgr.wl c hc
          · have := h.s1
            rw [List.mem_singleton.mp hc]
            omega
        have c1 : callK P (k + 7) 7 [dS sz rs, .tup [.str (l ++ [97]), .str r]] g1 = .ok (dS sz (rs ++ [(l ++ [97], r)])) g1 := with_call (k := k + 2) (r := (l ++ [97], r)) (h.s (by omega) hl) hgn hin (by have := h.n2; omega)
        simp [hq, ea, hne, gr, hni, hin, c1, ss, es]
        exact ⟨hg1, _, (h.add hgn hin).s (by omega) (by simp), rfl⟩
  · simp [hq]
    exact ⟨hg1, rs, h.s (by omega) hl, rfl⟩
theorem right_call (hg : Gd g) : (callK P (k + 8) 20 [.cup] g).sat fun d g' => Gd g' ∧ d = .bl true := by
  rw [callK_eq (f := d__law_right.df) rfl rfl]
  show ((runs (callK P (k + 7)) d__law_right.df.body [some .cup, none, none, none, none, none, none, none, none] g).bind (retOf false)).sat _
  obtain ⟨s1, hb, h1⟩ : ∃ s1 : Sm, d__law_right.df.body = .set (.nm 1) (.call 17 [(.var 0)]) :: .set (.tp [(.nm 2), (.nm 3)]) (.ix (.ix (.var 1) (.con (.int (1)))) (.con (.int (0)))) :: ([s1] ++ tailBody) ∧
    s1 = .ifs (.and (.cmp .eq (.call 13 [(.var 0), (.con (.int (3)))]) (.con (.int (0)))) (.and (.cmp .ne (.op .add (.var 2) (.con (.str [97]))) (.var 3)) (.cmp .notin (.tup [(.op .add (.var 2) (.con (.str [97]))), (.var 3)]) (.ix (.var 1) (.con (.int (1))))))) [
      .set (.nm 1) (.call 7 [(.var 1), (.tup [(.op .add (.var 2) (.con (.str [97]))), (.var 3)])])] [] := ⟨_, rfl, rfl⟩
  rw [hb, h1, runs_cons]
  simp only [run_set, den_call, denL_cons, denL_nil, den_var, strip_cons, strip_nil, stp_cup, stp_none, List.getD_cons_zero, List.getD_cons_succ, ofO_some, bind_ok, sat_bind]
  refine (show (callK P (k + 7) 17 [.cup] g).sat _ from draw_system (k := k + 3) AD at__law_system hg).mono fun d g1 ⟨hg1, sz, rs, e, ht, hl1, hsm⟩ => ?_
  subst e
  obtain ⟨⟨l, r⟩, rest, hr⟩ : ∃ x rest, rs = x :: rest := by
    cases rs with
    | nil => simp at hl1
    | cons x y => exact ⟨_, _, rfl⟩
  have es : era (some (dS sz rs)) = some (dS sz rs) := rfl
  have gr : ∀ g, getD (dS sz rs) (.int 1) g = some (.tup (rs.map dR)) := fun g => by simp [dS]
  have g0 : ∀ g, getD (.tup (rs.map dR)) (.int 0) g = some (.tup [.str l, .str r]) := fun g => by rw [hr]; simp [dR]
  have key : runs (callK P (k + 7)) [.set (.tp [(.nm 2), (.nm 3)]) (.ix (.ix (.var 1) (.con (.int (1)))) (.con (.int (0))))] [some .cup, some (dS sz rs), none, none, none, none, none, none, none] g1 = .ok (.nx [some .cup, some (dS sz rs), some (.str l), some (.str r), none, none, none, none, none]) g1 := by
    have hbt : ∀ ρ : Sl, bindT (.tp [.nm 2, .nm 3]) (.tup [.str l, .str r]) ρ = some ((ρ.set 2 (some (.str l))).set 3 (some (.str r))) := fun ρ => by simp
    simp [es, gr, g0, hbt]
  have hsd : setD (.nm 1) (dS sz rs) [some .cup, none, none, none, none, none, none, none, none] = some (.nx [some .cup, some (dS sz rs), none, none, none, none, none, none, none]) := rfl
  rw [hsd]
  simp only [ofO_some, sat_ok, goOn_nx]
  rw [show ∀ (a : Sm) (b : List Sm), a :: b = [a] ++ b from fun _ _ => rfl, runs_append, key, bind_ok, goOn_nx, runs_append, sat_bind]
  refine (ifs_ok (k := k) ht hl1 hsm hr hg1).mono fun o g2 ⟨hg2, rs', h', e⟩ => ?_
  subst e
  rw [goOn_nx, tail_ok (k := k) (b2 := some (.str l)) (b3 := some (.str r)) (b4 := none) (b5 := none) (b6 := none) (b7 := none) (b8 := none) h' rfl rfl]
  exact ⟨hg2, rfl⟩
end
theorem tail (a2 : Option Dat) (g : List Dat) : runs F [s_1, s_2, s_3, s_4, s_5, s_6, s_7, s_8] [none, some .cup, a2, none, none, none, none, none, none, none] g = .ok (.rt (.bl true) false) g := by
  kernel_rfl
def I (ρ : Sl) (g : List Dat) : Prop := Gd g ∧ ∃ a2 : Option Dat, ρ = [none, some .cup, a2, none, none, none, none, none, none, none]
theorem pure_law : Pure T 20 d_law 12 1 := by
  intro ns hl
  obtain ⟨is, hc, hg⟩ := cup_call (P := P) (k := 19) (i := 12) (c1 := 71) (c2 := 911) (c3 := 4587) (c4 := 2077502513) (c5 := 489) rfl (by decide) (by decide) (by decide) (by decide) ns hl
  refine ⟨is, hc, ?_⟩
  have key : (runs F d_law.df.body (frame0 d_law 1) (is.map .int)).sat fun o g => o = .rt (.bl true) false := by
    show (runs F (s_0 :: [s_1, s_2, s_3, s_4, s_5, s_6, s_7, s_8]) [none, some .cup, none, none, none, none, none, none, none, none] (is.map .int)).sat _
    rw [runs_cons, sat_bind]
    have hr : rngD [.int 12] = some (ilist 0 12) := rng1 (by omega) (by omega)
    simp only [s_0, run_fors, den_rng, denL_cons, denL_nil, den_con, bind_ok, hr, Option.map_some, ofO_some, itemsD_lst]
    refine (forGo_sat (I := I) (Q := fun o g => ∃ a2 : Option Dat, o = .nx [none, some .cup, a2, none, none, none, none, none, none, none]) ⟨hg, none, rfl⟩ (fun ρ g h => by obtain ⟨_, a2, rfl⟩ := h; exact ⟨a2, rfl⟩) ?_).mono ?_
    · rintro d hd ρ g ⟨hg, a2, rfl⟩
      refine ⟨_, bindT_nm, ?_⟩
      simp [s_0_0, sat_bind]
      refine (show (callK P 20 20 [.cup] g).sat _ from right_call (k := 12) hg).mono fun e g1 ⟨hg1, he⟩ => ?_
      subst he
      simp
      exact ⟨hg1, some d, rfl⟩
    · rintro o g ⟨a2, rfl⟩
      rw [goOn_nx, tail]
      rfl
  obtain ⟨o, g, e, rfl⟩ := sat_elim key
  exact ⟨false, g, e⟩
end K81
set_option Elab.async false
set_option linter.all false
set_option maxRecDepth 100000
set_option maxHeartbeats 0
namespace K81
open PySem PySem.Spec PyProof.Rows L2 R
abbrev Rw : PySem.W.OpenRow := PySem.W.OpenLaw.row PySem.Challenge.rw_wordsrest_k81_whole_systems_smaller_by_o
abbrev fa0 : List He.Fa := faOf (T.map (·.name) ++ [d_law.name]) exs
abbrev fn0 : List He.DefD := T.map DefR.toD ++ [d_law.toD]
abbrev hk : PySem.W.Hook := hookR 4 fa0 fn0 glo
def ob (s : PySem.W.SharedT) : He.AlD := obsRG 4 fa0 fn0 glo (HandSHeadRun.getT s)
theorem ob_eq (s : PySem.W.SharedT) : ob s = hk.obs s.abs := obsRG_eq (HandSHeadRun.getT_eq s)
def loose : List PySem.Str := "__name__" :: (exs.map (·.1) ++ (glo.map (·.1) ++ T.map (·.name)))
def lawAt : Nat := 32
theorem run (w : World) : HandSHeadRun.RunEq Rw (PySem.W.view Rw.prog [lawAt]) hk ob 4000 loose w := by
  intro os
  kernel_rfl
end K81
set_option Elab.async false
set_option linter.all false
set_option maxRecDepth 100000
set_option maxHeartbeats 0
theorem K81.cx_false (P : PySem.Program) (w : PySem.World) (H : L2.Hp) (s : PySem.Shared) (e : PySem.Value) (s' : PySem.Shared) (h : L2.CX P w [] H s (fun _ _ _ => False) e s') : False := by
  obtain ⟨_, _, _, _, _, _, _, _, _, _, _, _, z⟩ := h
  exact z.elim
open PySem PySem.W PySem.Calls PyProof.Rows
theorem K81.holds_of (hp : R.Pure K81.T 20 K81.d_law 12 1) : PySem.Challenge.rw_wordsrest_k81_whole_systems_smaller_by_o.Holds := by
  w_on; o_law
  refine HandSHeadRun.head_any (r := OpenLaw.row PySem.Challenge.rw_wordsrest_k81_whole_systems_smaller_by_o) (q := view (OpenLaw.row PySem.Challenge.rw_wordsrest_k81_whole_systems_smaller_by_o).prog [K81.lawAt]) (H := K81.hk) (ob := K81.ob) (M := 4000) (loose := K81.loose) (d := HandSHeadRun.topDef (OpenLaw.row PySem.Challenge.rw_wordsrest_k81_whole_systems_smaller_by_o).prog K81.lawAt) (kwd := []) K81.ob_eq
    (by kernel_rfl) (fun s => by kernel_rfl) K81.run (by kernel_rfl) (by kernel_rfl) (by kernel_rfl) (by rfl) (by first | assumption | decide +kernel) (by decide +kernel) ⟨rfl, rfl, rfl, rfl, rfl, by decide +kernel⟩ ?hw ?hc
  case hw => w_witness2
  case hc =>
    refine LamX.walk_ofTsE (l := PySem.Challenge.rw_wordsrest_k81_whole_systems_smaller_by_o) (n := 63) (k := 21) (x := "script") (CX := fun w => L2.CX PySem.Challenge.rw_wordsrest_k81_whole_systems_smaller_by_o.prog w) rfl (by decide) (by kernel_rfl) ⟨rfl, by decide, by decide⟩ ?F (fun w => K81.cx_false _ w)
    intro w mg fa h Y G hmg0
    obtain ⟨K, KX, c⟩ := Y
    have hmg : mg ("law" : PySem.Str) = some (.ref fa) := by
      have e : (HandSHeadRun.topDef (OpenLaw.row PySem.Challenge.rw_wordsrest_k81_whole_systems_smaller_by_o).prog K81.lawAt).name = ("law" : PySem.Str) := by kernel_rfl
      rw [← e]
      exact hmg0
    exact ⟨K, KX, R.law_at (by decide +kernel) K81.defs_ok (K81.law_ok 12 1 K81.first) hp rfl rfl KX G hmg c⟩
theorem PySem.Challenge.cw_wordsrest_k81_whole_systems_smaller_by_o_holds : PySem.Challenge.rw_wordsrest_k81_whole_systems_smaller_by_o.Holds := by
  exact K81.holds_of K81.pure_law
