import PyProof.Rows.All
import Wide.All
import OpenK.AllK
import Wide.FinOn
import HandS.ForMost
import HandS.ForExc
import HandS.TupAny
import HandS.IsInst
import HandS.RaiseMore
import HandS.Deep
import HandS.TupLe
import HandS.Style
import HandS.ExcOwn
import HandS.Text
import HandS.More
import PyProof.ListStr
import HandS.Walk
import HandS.Defaults
import HandS.HeadHook2
import HandS.WordsExc
import HandS.HeadWalk
import HandS.Head0
import HandS.Head1
import HandS.Head2
import PySem.Challenge.RW_wordsrest_k77_whole_borders
set_option Elab.async false
set_option linter.all false
set_option maxRecDepth 100000
set_option maxHeartbeats 2000000
/-! Plain data for the values of the program; how the heap bears them; what a run of plain data asks of the heap. -/
namespace R
open PySem PySem.Spec PyProof.Rows L2

/-- plain data: texts by their codes; `mut` is the one list that is changed in place through calls -/
inductive Dat where
  | non | bl (b : Bool) | int (i : Int) | str (s : List Nat)
  | tup (xs : List Dat) | lst (xs : List Dat)
  | fn (i : Nat) | cup
  | kl (xs : List Dat)

inductive Res (α : Type) where
  | ok (a : α) (g : List Dat)
  | exc (c : Nat) (g : List Dat)
  | bad
abbrev Mo (α : Type) := List Dat → Res α
def Res.bind {α β : Type} (r : Res α) (k : α → Mo β) : Res β := match r with
  | .ok a g => k a g
  | .exc c g => .exc c g
  | .bad => .bad

structure Cfg where
  K : PySem.W.Frag
  fa : Nat → Addr
  ex : Nat → Value
  fr : Nat → Bool
  cup : Option Addr
  M : List Addr

def KTup (K : PySem.W.Frag) (a : Addr) (xs : List V) : Prop :=
  ∃ (o : Obj) (its : Array Value) (n : Nat), K.lookup a = some o ∧ o.cls = .type "tuple" ∧ o.data = .seq its n ∧ its.size ≤ sizeLine ∧ Vals xs its.toList
/-- a text as the machine can lay it -/
def SOk (x : Str) : Prop := x.length ≤ sizeLine ∧ ∀ c ∈ x.cps.toList, c < 1114112
def TupAt (C : Cfg) (H : Hp) (a : Addr) (xs : List V) : Prop := (H a = some (.tup xs) ∧ C.cup ≠ some a ∧ a ∉ C.M) ∨ KTup C.K a xs
def KLst (K : PySem.W.Frag) (a : Addr) (xs : List V) : Prop :=
  ∃ (o : Obj) (its : Array Value) (n : Nat), K.lookup a = some o ∧ o.cls = .type "list" ∧ o.dict = none ∧ o.data = .seq its n ∧ its.size ≤ sizeLine ∧ Vals xs its.toList
def LstAt (C : Cfg) (H : Hp) (a : Addr) (xs : List V) : Prop := L2.Rd H a (.lst xs) ∧ C.cup ≠ some a ∧ a ∉ C.M
theorem TupAt.sq {C : Cfg} {H : Hp} {a : Addr} {xs : List V} (h : TupAt C H a xs) : SqT C.K H a xs := by
  rcases h with ⟨h, _⟩ | h
  · exact SqT.of h
  · exact .inr h
theorem LstAt.sq {C : Cfg} {K : PySem.W.Frag} {H : Hp} {a : Addr} {xs : List V} (h : LstAt C H a xs) : SqL K H a xs := .inl h.1

mutual
/-- the value bears the data -/
inductive Rp (C : Cfg) (H : Hp) : V → Dat → Prop
  | non : Rp C H .non .non
  | bl (b : Bool) : Rp C H (.bl b) (.bl b)
  | int (i : Int) : Rp C H (.int i) (.int i)
  | str (x : Str) : SOk x → Rp C H (.str x) (.str x.cps.toList)
  | tup {a : Addr} {vs : List V} {ds : List Dat} : TupAt C H a vs → ds.length ≤ sizeLine → RpL C H vs ds → Rp C H (.ref a) (.tup ds)
  | lst {a : Addr} {vs : List V} {ds : List Dat} : LstAt C H a vs → ds.length ≤ sizeLine → RpL C H vs ds → Rp C H (.ref a) (.lst ds)
  | fn (i : Nat) : Rp C H (.ref (C.fa i)) (.fn i)
  | cup {a : Addr} : C.cup = some a → Rp C H (.ref a) .cup
  | kl {a : Addr} {vs : List V} {ds : List Dat} : KLst C.K a vs → ds.length ≤ sizeLine → RpL C H vs ds → Rp C H (.ref a) (.kl ds)
inductive RpL (C : Cfg) (H : Hp) : List V → List Dat → Prop
  | nil : RpL C H [] []
  | cons {v : V} {vs : List V} {d : Dat} {ds : List Dat} : Rp C H v d → RpL C H vs ds → RpL C H (v :: vs) (d :: ds)
end

/-- the cup's contents; what is changed in place is tracked -/
def GR (C : Cfg) (g : List Dat) (H : Hp) : Prop := (∀ a ∈ C.M, H a ≠ none) ∧ ∀ a, C.cup = some a → ∃ vs, H a = some (.lst vs) ∧ RpL C H vs g
/-- all but the cup stands as it stood -/
def Ext (C : Cfg) (H H' : Hp) : Prop := ∀ a o, H a = some o → C.cup ≠ some a → H' a = some o
/-- all but what is changed in place stands as it stood -/
def ExtM (C : Cfg) (H H' : Hp) : Prop := ∀ a o, H a = some o → C.cup ≠ some a → a ∉ C.M → H' a = some o
theorem Ext.refl {C : Cfg} {H : Hp} : Ext C H H := fun _ _ h _ => h
theorem Ext.trans {C : Cfg} {H H1 H2 : Hp} (a : Ext C H H1) (b : Ext C H1 H2) : Ext C H H2 := fun c o h n => b c o (a c o h n) n
theorem Ext.m {C : Cfg} {H H' : Hp} (e : Ext C H H') : ExtM C H H' := fun a o h n _ => e a o h n
theorem ExtM.tup {C : Cfg} {H H' : Hp} {a : Addr} {xs : List V} (e : ExtM C H H') (h : TupAt C H a xs) : TupAt C H' a xs := by
  rcases h with ⟨h, n⟩ | h
  · exact .inl ⟨e _ _ h n.1 n.2, n⟩
  · exact .inr h
theorem ExtM.lst {C : Cfg} {H H' : Hp} {a : Addr} {xs : List V} (e : ExtM C H H') (h : LstAt C H a xs) : LstAt C H' a xs := by
  rcases h with ⟨h | ⟨o, h⟩, n⟩
  · exact ⟨.inl (e _ _ h n.1 n.2), n⟩
  · exact ⟨.inr ⟨o, e _ _ h n.1 n.2⟩, n⟩
mutual
theorem Rp.extM {C : Cfg} {H H' : Hp} (e : ExtM C H H') : ∀ {v : V} {d : Dat}, Rp C H v d → Rp C H' v d
  | _, _, .non => .non
  | _, _, .bl b => .bl b
  | _, _, .int i => .int i
  | _, _, .str x h => .str x h
  | _, _, .tup h z r => .tup (e.tup h) z (RpL.extM e r)
  | _, _, .lst h z r => .lst (e.lst h) z (RpL.extM e r)
  | _, _, .fn i => .fn i
  | _, _, .cup h => .cup h
  | _, _, .kl h z r => .kl h z (RpL.extM e r)
theorem RpL.extM {C : Cfg} {H H' : Hp} (e : ExtM C H H') : ∀ {vs : List V} {ds : List Dat}, RpL C H vs ds → RpL C H' vs ds
  | _, _, .nil => .nil
  | _, _, .cons r rr => .cons (Rp.extM e r) (RpL.extM e rr)
end
theorem Rp.ext {C : Cfg} {H H' : Hp} (e : Ext C H H') {v : V} {d : Dat} (r : Rp C H v d) : Rp C H' v d := r.extM e.m
theorem RpL.ext {C : Cfg} {H H' : Hp} (e : Ext C H H') {v : List V} {d : List Dat} (r : RpL C H v d) : RpL C H' v d := r.extM e.m
theorem RpL.len {C : Cfg} {H : Hp} : ∀ {vs : List V} {ds : List Dat}, RpL C H vs ds → vs.length = ds.length
  | _, _, .nil => rfl
  | _, _, .cons _ r => by simp [RpL.len r]
theorem RpL.get {C : Cfg} {H : Hp} : ∀ {vs : List V} {ds : List Dat} {i : Nat} {d : Dat}, RpL C H vs ds → ds[i]? = some d → ∃ v, vs[i]? = some v ∧ Rp C H v d
  | _, _, _, _, .nil, e => by simp at e
  | _, _, 0, _, .cons r _, e => by simp at e; subst e; exact ⟨_, rfl, r⟩
  | _, _, i + 1, _, .cons _ r, e => by
    obtain ⟨v, h1, h2⟩ := RpL.get (i := i) r (by simpa using e)
    exact ⟨v, by simpa using h1, h2⟩
theorem RpL.get' {C : Cfg} {H : Hp} : ∀ {vs : List V} {ds : List Dat} {i : Nat} {v : V}, RpL C H vs ds → vs[i]? = some v → ∃ d, ds[i]? = some d ∧ Rp C H v d
  | _, _, _, _, .nil, e => by simp at e
  | _, _, 0, _, .cons r _, e => by simp at e; subst e; exact ⟨_, rfl, r⟩
  | _, _, i + 1, _, .cons _ r, e => by
    obtain ⟨v, h1, h2⟩ := RpL.get' (i := i) r (by simpa using e)
    exact ⟨v, by simpa using h1, h2⟩
theorem RpL.append {C : Cfg} {H : Hp} : ∀ {vs ws : List V} {ds es : List Dat}, RpL C H vs ds → RpL C H ws es → RpL C H (vs ++ ws) (ds ++ es)
  | _, _, _, _, .nil, s => s
  | _, _, _, _, .cons r t, s => .cons r (RpL.append t s)
theorem RpL.take {C : Cfg} {H : Hp} : ∀ (n : Nat) {vs : List V} {ds : List Dat}, RpL C H vs ds → RpL C H (vs.take n) (ds.take n)
  | 0, _, _, _ => by rw [List.take_zero, List.take_zero]; exact .nil
  | _ + 1, _, _, .nil => .nil
  | n + 1, _, _, .cons r t => .cons r (RpL.take n t)
theorem RpL.drop {C : Cfg} {H : Hp} : ∀ (n : Nat) {vs : List V} {ds : List Dat}, RpL C H vs ds → RpL C H (vs.drop n) (ds.drop n)
  | 0, _, _, r => r
  | _ + 1, _, _, .nil => .nil
  | n + 1, _, _, .cons _ t => RpL.drop n t
theorem RpL.reverse {C : Cfg} {H : Hp} : ∀ {vs : List V} {ds : List Dat}, RpL C H vs ds → RpL C H vs.reverse ds.reverse
  | _, _, .nil => .nil
  | _, _, .cons r t => by
    rw [List.reverse_cons, List.reverse_cons]
    exact RpL.append (RpL.reverse t) (.cons r .nil)
theorem RpL.set {C : Cfg} {H : Hp} {v : V} {d : Dat} (r : Rp C H v d) : ∀ (i : Nat) {vs : List V} {ds : List Dat}, RpL C H vs ds → RpL C H (vs.set i v) (ds.set i d)
  | _, _, _, .nil => .nil
  | 0, _, _, .cons _ t => .cons r t
  | i + 1, _, _, .cons q t => .cons q (RpL.set r i t)
/-- a new object at a free place -/
theorem Ext.new {C : Cfg} {H : Hp} {p : Addr} {o : HO} (h : H p = none) : Ext C H (upd H p o) := fun a u e _ => by
  rw [upd_ne (ne_of_none e h)]; exact e
theorem GR.ext {C : Cfg} {g : List Dat} {H H' : Hp} (G : GR C g H) (e : Ext C H H') (hc : ∀ a, C.cup = some a → H' a = H a) : GR C g H' := by
  refine ⟨fun a ha => ?_, fun a h => ?_⟩
  · by_cases hcu : C.cup = some a
    · rw [hc a hcu]; exact G.1 a ha
    · cases q : H a with
      | none => exact absurd q (G.1 a ha)
      | some o => rw [e a o q hcu]; exact fun z => nomatch z
  · obtain ⟨vs, h1, h2⟩ := G.2 a h
    exact ⟨vs, (hc a h).trans h1, h2.ext e⟩
theorem GR.ne {C : Cfg} {g : List Dat} {H : Hp} (G : GR C g H) {p : Addr} (h : H p = none) : C.cup ≠ some p ∧ p ∉ C.M := ⟨fun e => (by
  obtain ⟨vs, h1, _⟩ := G.2 p e
  rw [h] at h1; cases h1), fun e => G.1 p e h⟩
theorem GR.new {C : Cfg} {g : List Dat} {H : Hp} {p : Addr} {o : HO} (G : GR C g H) (h : H p = none) : GR C g (upd H p o) :=
  G.ext (Ext.new h) fun a e => upd_ne fun z => by subst z; exact (G.ne h).1 e

/-- the frame: the slots hold what the plain slots tell -/
abbrev Sl := List (Option Dat)
def EnvR (C : Cfg) (H : Hp) (σ : L2.St) (ρ : Sl) : Prop := σ.length = ρ.length ∧ ∀ (i : Nat) (d : Dat), ρ[i]? = some (some d) → ∃ v, σ[i]? = some (some v) ∧ Rp C H v d
theorem EnvR.ext {C : Cfg} {H H' : Hp} {σ : L2.St} {ρ : Sl} (e : Ext C H H') (h : EnvR C H σ ρ) : EnvR C H' σ ρ :=
  ⟨h.1, fun i d q => let ⟨v, h1, h2⟩ := h.2 i d q; ⟨v, h1, h2.ext e⟩⟩
theorem EnvR.set {C : Cfg} {H : Hp} {σ : L2.St} {ρ : Sl} {i : Nat} {v : V} {d : Dat} (h : EnvR C H σ ρ) (r : Rp C H v d) : EnvR C H (σ.set i (some v)) (ρ.set i (some d)) := by
  refine ⟨by simp [h.1], fun j e q => ?_⟩
  by_cases hj : i = j
  · subst hj
    have hl : i < ρ.length := by
      have := (List.getElem?_eq_some_iff.mp q).1
      simpa using this
    rw [List.getElem?_set_self hl] at q
    cases q
    exact ⟨v, by rw [List.getElem?_set_self (by rw [h.1]; exact hl)], r⟩
  · rw [List.getElem?_set_ne hj] at q
    obtain ⟨w, h1, h2⟩ := h.2 j e q
    exact ⟨w, by rw [List.getElem?_set_ne hj]; exact h1, h2⟩
def wipeD (ρ : Sl) : List Nat → Sl
  | [] => ρ
  | v :: vs => (wipeD ρ vs).set v none
theorem EnvR.wipe1 {C : Cfg} {H : Hp} {σ : L2.St} {ρ : Sl} (i : Nat) (h : EnvR C H σ ρ) : EnvR C H (σ.set i none) (ρ.set i none) := by
  refine ⟨by simp [h.1], fun j e q => ?_⟩
  by_cases hj : i = j
  · subst hj
    have hl : i < ρ.length := by
      have := (List.getElem?_eq_some_iff.mp q).1
      simpa using this
    rw [List.getElem?_set_self hl] at q
    cases q
  · rw [List.getElem?_set_ne hj] at q
    obtain ⟨w, h1, h2⟩ := h.2 j e q
    exact ⟨w, by rw [List.getElem?_set_ne hj]; exact h1, h2⟩
theorem EnvR.wipe {C : Cfg} {H : Hp} {σ : L2.St} {ρ : Sl} (h : EnvR C H σ ρ) : ∀ vs : List Nat, EnvR C H (L2.wipe σ vs) (wipeD ρ vs)
  | [] => h
  | v :: vs => by
    unfold L2.wipe wipeD
    exact (EnvR.wipe h vs).wipe1 v

/-- what a run of plain data asks -/
def RunE (C : Cfg) (W : WX) (r : Res Dat) (σ : L2.St) (H : Hp) (Q : VK) : Prop := match r with
  | .ok d g => ∀ v H', Ext C H H' → GR C g H' → Rp C H' v d → Q v H'
  | .exc c g => ∀ H', Ext C H H' → GR C g H' → W (C.ex c) none σ H'
  | .bad => False
/-- the reading of an expression that does as the plain function -/
def tD (C : Cfg) (W : WX) (f : Sl → Mo Dat) : TE := fun σ H Q => ∃ ρ g, EnvR C H σ ρ ∧ GR C g H ∧ RunE C W (f ρ g) σ H Q
def RunB (C : Cfg) (W : WX) (r : Res Bool) (σ : L2.St) (H : Hp) (Q : Bool → Hp → Prop) : Prop := match r with
  | .ok b g => ∀ H', Ext C H H' → GR C g H' → Q b H'
  | .exc c g => ∀ H', Ext C H H' → GR C g H' → W (C.ex c) none σ H'
  | .bad => False
def tT (C : Cfg) (W : WX) (f : Sl → Mo Bool) : TT := fun σ H Q => ∃ ρ g, EnvR C H σ ρ ∧ GR C g H ∧ RunB C W (f ρ g) σ H Q
def RunL (C : Cfg) (W : WX) (r : Res (List Dat)) (σ : L2.St) (H : Hp) (Q : List V → Hp → Prop) : Prop := match r with
  | .ok ds g => ∀ vs H', Ext C H H' → GR C g H' → RpL C H' vs ds → Q vs H'
  | .exc c g => ∀ H', Ext C H H' → GR C g H' → W (C.ex c) none σ H'
  | .bad => False
def tA (C : Cfg) (W : WX) (f : Sl → Mo (List Dat)) : TA := fun σ H Q => ∃ ρ g, EnvR C H σ ρ ∧ GR C g H ∧ RunL C W (f ρ g) σ H Q

theorem RunE.ext {C : Cfg} {W : WX} {r : Res Dat} {σ : L2.St} {H H1 : Hp} {Q : VK} (h : RunE C W r σ H Q) (e : Ext C H H1) : RunE C W r σ H1 Q := by
  cases r with
  | ok d g => exact fun v H' e1 => h v H' (e.trans e1)
  | exc c g => exact fun H' e1 => h H' (e.trans e1)
  | bad => exact h
theorem RunB.ext {C : Cfg} {W : WX} {r : Res Bool} {σ : L2.St} {H H1 : Hp} {Q : Bool → Hp → Prop} (h : RunB C W r σ H Q) (e : Ext C H H1) : RunB C W r σ H1 Q := by
  cases r with
  | ok d g => exact fun H' e1 => h H' (e.trans e1)
  | exc c g => exact fun H' e1 => h H' (e.trans e1)
  | bad => exact h
theorem RunL.ext {C : Cfg} {W : WX} {r : Res (List Dat)} {σ : L2.St} {H H1 : Hp} {Q : List V → Hp → Prop} (h : RunL C W r σ H Q) (e : Ext C H H1) : RunL C W r σ H1 Q := by
  cases r with
  | ok d g => exact fun v H' e1 => h v H' (e.trans e1)
  | exc c g => exact fun H' e1 => h H' (e.trans e1)
  | bad => exact h

/-- first an expression, then what goes on with its value -/
theorem tD_then {α : Type} {C : Cfg} {W : WX} {fa : Sl → Mo Dat} {σ : L2.St} {H : Hp} {Q : VK} {ρ : Sl} {g : List Dat} (k : Dat → Mo α) (P : Res α → Hp → Prop)
    (E : EnvR C H σ ρ) (G : GR C g H) (h : P ((fa ρ g).bind k) H)
    (hx : ∀ c g', P (.exc c g') H → ∀ H', Ext C H H' → GR C g' H' → W (C.ex c) none σ H') (hb : P .bad H → False)
    (hk : ∀ d g' v H', Ext C H H' → EnvR C H' σ ρ → GR C g' H' → Rp C H' v d → P (k d g') H → Q v H') : tD C W fa σ H Q := by
  refine ⟨ρ, g, E, G, ?_⟩
  revert h
  cases fa ρ g with
  | ok d g' => exact fun h v H' e G' r => hk d g' v H' e (E.ext e) G' r h
  | exc c g' => exact fun h => hx c g' h
  | bad => exact fun h => hb h
theorem tA_then {α : Type} {C : Cfg} {W : WX} {fa : Sl → Mo (List Dat)} {σ : L2.St} {H : Hp} {Q : List V → Hp → Prop} {ρ : Sl} {g : List Dat} (k : List Dat → Mo α) (P : Res α → Hp → Prop)
    (E : EnvR C H σ ρ) (G : GR C g H) (h : P ((fa ρ g).bind k) H)
    (hx : ∀ c g', P (.exc c g') H → ∀ H', Ext C H H' → GR C g' H' → W (C.ex c) none σ H') (hb : P .bad H → False)
    (hk : ∀ d g' v H', Ext C H H' → EnvR C H' σ ρ → GR C g' H' → RpL C H' v d → P (k d g') H → Q v H') : tA C W fa σ H Q := by
  refine ⟨ρ, g, E, G, ?_⟩
  revert h
  cases fa ρ g with
  | ok d g' => exact fun h v H' e G' r => hk d g' v H' e (E.ext e) G' r h
  | exc c g' => exact fun h => hx c g' h
  | bad => exact fun h => hb h
theorem tT_then {α : Type} {C : Cfg} {W : WX} {fa : Sl → Mo Bool} {σ : L2.St} {H : Hp} {Q : Bool → Hp → Prop} {ρ : Sl} {g : List Dat} (k : Bool → Mo α) (P : Res α → Hp → Prop)
    (E : EnvR C H σ ρ) (G : GR C g H) (h : P ((fa ρ g).bind k) H)
    (hx : ∀ c g', P (.exc c g') H → ∀ H', Ext C H H' → GR C g' H' → W (C.ex c) none σ H') (hb : P .bad H → False)
    (hk : ∀ d g' H', Ext C H H' → EnvR C H' σ ρ → GR C g' H' → P (k d g') H → Q d H') : tT C W fa σ H Q := by
  refine ⟨ρ, g, E, G, ?_⟩
  revert h
  cases fa ρ g with
  | ok d g' => exact fun h H' e G' => hk d g' H' e (E.ext e) G' h
  | exc c g' => exact fun h => hx c g' h
  | bad => exact fun h => hb h

theorem pe_mono {X : Cx} {e : Expr} {t t' : TE} (h : PE X e t) (w : ∀ σ H Q, t' σ H Q → t σ H Q) : PE X e t' := ⟨fun pins s σ H Q I q => h.run pins s σ H Q I (w σ H Q q)⟩
theorem pt_mono {X : Cx} {e : Expr} {t t' : TT} (h : PT X e t) (w : ∀ σ H Q, t' σ H Q → t σ H Q) : PT X e t' := ⟨fun pins s σ H Q I q => h.run pins s σ H Q I (w σ H Q q)⟩
theorem pa_mono {X : Cx} {e : List Expr} {t t' : TA} (h : PA X e t) (w : ∀ σ H Q, t' σ H Q → t σ H Q) : PA X e t' := ⟨fun pos pins s σ H Q I q => h.run pos pins s σ H Q I (w σ H Q q)⟩
theorem ps_mono {X : Cx} {e : Stmt} {t t' : TS} (h : PS X e t) (w : ∀ D σ H, t' D σ H → t D σ H) : PS X e t' := ⟨fun pins s σ H D I q => h.run pins s σ H D I (w D σ H q)⟩
theorem pss_mono {X : Cx} {e : List Stmt} {t t' : TS} (h : PSs X e t) (w : ∀ D σ H, t' D σ H → t D σ H) : PSs X e t' := ⟨fun pins s σ H D I q => h.run pins s σ H D I (w D σ H q)⟩
end R
set_option Elab.async false
set_option linter.all false
set_option maxRecDepth 100000
set_option maxHeartbeats 2000000
/-! What the expressions and statements of the program do to plain data. -/
namespace R
open PySem

inductive Op where | add | sub | mul | fdiv | mod | pow
inductive Cp where | eq | ne | lt | le | gt | ge | is | isnot | isin | notin
inductive Ty where | int | bool | str | tuple | list
inductive Bi where | len | tuple | list | all | any | max | min | sum | abs | int | str
inductive Me where | join | endswith | startswith
inductive Tg where | nm (i : Nat) | tp (ts : List Tg)

inductive Ex where
  | var (i : Nat) | con (d : Dat)
  | op (o : Op) (a b : Ex) | neg (a : Ex) | asInt (a : Ex)
  | cmp (o : Cp) (a b : Ex) | chain (o p : Cp) (a b c : Ex)
  | and (a b : Ex) | or (a b : Ex) | not (a : Ex) | ifx (t a b : Ex)
  | tup (es : List Ex) | lst (es : List Ex)
  | ix (a b : Ex) | sl (a lo hi : Ex) | rev (a : Ex)
  | call (i : Nat) (es : List Ex)
  | bi (b : Bi) (a : Ex) | me (m : Me) (a b : Ex)
  | isi (a : Ex) (t : Ty)
  | rng (es : List Ex)
  | lc (elt : Ex) (tg : Tg) (src cond : Ex) (own : List Nat)

inductive Sm where
  | set (t : Tg) (e : Ex) | putIx (i : Nat) (e : Ex) (v : Ex)
  | expr (e : Ex) | ret (e : Ex) | retL (es : List Ex)
  | ifs (t : Ex) (a b : List Sm) | fors (tg : Tg) (src : Ex) (b : List Sm)
  | raise (c : Nat) | pass | cont | brk

/-! ### the operators -/
def line : Nat := 16777216
mutual
/-- == of Python (one that is no data is nowhere asked) -/
def eqB : Dat → Dat → Bool
  | .non, .non => true
  | .bl a, .bl b => a == b
  | .bl a, .int j => (if a then 1 else 0) == j
  | .int i, .bl b => i == (if b then 1 else 0)
  | .int i, .int j => i == j
  | .str x, .str y => x == y
  | .lst xs, .lst ys => eqAllB xs ys
  | .tup xs, .tup ys => eqAllB xs ys
  | _, _ => false
def eqAllB : List Dat → List Dat → Bool
  | [], [] => true
  | x :: xs, y :: ys => eqB x y && eqAllB xs ys
  | _, _ => false
end
mutual
/-- data that is told apart by ==, no deeper than n -/
def okB : Dat → Nat → Bool
  | .lst xs, n + 1 => okAllB xs n
  | .tup xs, n + 1 => okAllB xs n
  | .lst _, 0 => false
  | .tup _, 0 => false
  | .fn _, _ => false
  | .cup, _ => false
  | .kl _, _ => false
  | _, _ => true
def okAllB : List Dat → Nat → Bool
  | [], _ => true
  | x :: xs, n => okB x n && okAllB xs n
end
/-- the one text stands in the other -/
def infixB (y : List Nat) : List Nat → Bool
  | [] => y.isEmpty
  | c :: r => y.isPrefixOf (c :: r) || infixB y r
/-- order of lists of codes -/
def ltB : List Nat → List Nat → Bool
  | [], [] => false
  | [], _ :: _ => true
  | _ :: _, [] => false
  | x :: xs, y :: ys => if x = y then ltB xs ys else decide (x < y)
def mulOkB (i j : Int) : Bool := (i.natAbs < 18446744073709551616) || (j.natAbs < 18446744073709551616)
def opD : Op → Dat → Dat → Option Dat
  | .add, .int i, .int j => some (.int (i + j))
  | .add, .str x, .str y => if x.length + y.length ≤ line then some (.str (x ++ y)) else none
  | .add, .tup x, .tup y => if x.length + y.length ≤ line then some (.tup (x ++ y)) else none
  | .add, .lst x, .lst y => if x.length + y.length ≤ line then some (.lst (x ++ y)) else none
  | .sub, .int i, .int j => some (.int (i - j))
  | .mul, .int i, .int j => if mulOkB i j then some (.int (i * j)) else none
  | .mul, .str x, .int j => if x.length * j.toNat ≤ line && decide (j ≤ line) && decide (-line ≤ j) then some (.str (List.replicate j.toNat x).flatten) else none
  | .fdiv, .int i, .int j => if j ≠ 0 && decide (j.natAbs < 1073741824) then some (.int (i.fdiv j)) else none
  | .mod, .int i, .int j => if j ≠ 0 then some (.int (i.fmod j)) else none
  | .pow, .int i, .int j => if 0 ≤ j && decide (j ≤ 1000000) && decide (i.natAbs < 18446744073709551616) then some (.int (i ^ j.toNat)) else none
  | _, _, _ => none
def isNonB : Dat → Bool
  | .non => true
  | _ => false
def isD : Dat → Dat → Option Bool
  | x, .non => some (isNonB x)
  | .bl a, .bl b => some (a == b)
  | _, _ => none
def eqD (a b : Dat) : Option Bool := if okB a 64 && okB b 64 then some (eqB a b) else none
def inD : Dat → Dat → Option Bool
  | .str x, .str y => some (infixB x y)
  | x, .lst ys => if okB x 64 && okAllB ys 63 then some (ys.any fun z => eqB z x) else none
  | x, .tup ys => if okB x 64 && okAllB ys 63 then some (ys.any fun z => eqB z x) else none
  | _, _ => none
def ltD : Dat → Dat → Option Bool
  | .int i, .int j => some (decide (i < j))
  | .str x, .str y => some (ltB x y)
  | _, _ => none
def cpD : Cp → Dat → Dat → Option Bool
  | .eq, a, b => eqD a b
  | .ne, a, b => (eqD a b).map (!·)
  | .lt, a, b => ltD a b
  | .gt, a, b => ltD b a
  | .le, a, b => (ltD b a).map (!·)
  | .ge, a, b => (ltD a b).map (!·)
  | .is, a, b => isD a b
  | .isnot, a, b => (isD a b).map (!·)
  | .isin, a, b => inD a b
  | .notin, a, b => (inD a b).map (!·)
/-- the place of an index, of any sign -/
def ixD (n : Nat) (i : Int) : Option Nat := if 0 ≤ i then (if i < n then some i.toNat else none) else if -(n : Int) ≤ i then some (i + n).toNat else none
def atD {α : Type} (xs : List α) (i : Int) : Option α := (ixD xs.length i).bind fun j => xs[j]?
def bndD (n d : Nat) : Dat → Option Nat
  | .non => some d
  | .int v => some (if v < 0 then (v + (n : Int)).toNat else min v.toNat n)
  | _ => none
def cutD {α : Type} (xs : List α) (lo hi : Dat) : Option (List α) :=
  (bndD xs.length 0 lo).bind fun i => (bndD xs.length xs.length hi).map fun j => (xs.drop i).take (j - i)
def getD : Dat → Dat → List Dat → Option Dat
  | .tup xs, .int i, _ => atD xs i
  | .lst xs, .int i, _ => atD xs i
  | .str s, .int i, _ => (atD s i).map fun c => .str [c]
  | .cup, .int i, g => atD g i
  | _, _, _ => none
def sliceD : Dat → Dat → Dat → Option Dat
  | .tup xs, lo, hi => (cutD xs lo hi).map .tup
  | .lst xs, lo, hi => (cutD xs lo hi).map .lst
  | .str xs, lo, hi => (cutD xs lo hi).map .str
  | _, _, _ => none
def itemsD : Dat → Option (List Dat)
  | .tup xs => some xs
  | .lst xs => some xs
  | .str s => some (s.map fun c => .str [c])
  | _ => none
def boolsD : List Dat → Option (List Bool)
  | [] => some []
  | .bl b :: r => (boolsD r).map (b :: ·)
  | _ => none
def intsD : List Dat → Option (List Int)
  | [] => some []
  | .int b :: r => (intsD r).map (b :: ·)
  | _ => none
def strsD : List Dat → Option (List (List Nat))
  | [] => some []
  | .str b :: r => (strsD r).map (b :: ·)
  | _ => none
def maxI : List Int → Option Int
  | [] => none
  | x :: r => some (r.foldl (fun a b => if a < b then b else a) x)
def minI : List Int → Option Int
  | [] => none
  | x :: r => some (r.foldl (fun a b => if b < a then b else a) x)
def biD : Bi → Dat → Option Dat
  | .len, .tup xs => some (.int xs.length)
  | .len, .lst xs => some (.int xs.length)
  | .len, .str xs => some (.int xs.length)
  | .tuple, .tup xs => some (.tup xs)
  | .tuple, .lst xs => some (.tup xs)
  | .list, .tup xs => some (.lst xs)
  | .list, .lst xs => some (.lst xs)
  | .list, .kl xs => some (.lst xs)
  | .list, .str s => some (.lst (s.map fun c => .str [c]))
  | .all, .lst xs => (boolsD xs).map fun bs => .bl (bs.all id)
  | .any, .lst xs => (boolsD xs).map fun bs => .bl (bs.any id)
  | .max, .lst xs => (intsD xs).bind fun bs => (maxI bs).map .int
  | .min, .lst xs => (intsD xs).bind fun bs => (minI bs).map .int
  | .sum, .lst xs => (intsD xs).map fun bs => .int bs.sum
  | .abs, .int i => some (.int (if i < 0 then -i else i))
  | .int, .int i => some (.int i)
  | .int, .bl b => some (.int (if b then 1 else 0))
  | .str, .str s => some (.str s)
  | _, _ => none
def glueD (sep : List Nat) : List (List Nat) → List Nat
  | [] => []
  | [x] => x
  | x :: y :: r => x ++ (sep ++ glueD sep (y :: r))
def meD : Me → Dat → Dat → Option Dat
  | .join, .str s, .lst xs => (strsD xs).bind fun ss => if (ss.map List.length).sum + ss.length * s.length ≤ line then some (.str (glueD s ss)) else none
  | .endswith, .str x, .str y => some (.bl (decide (y.length ≤ x.length) && (x.drop (x.length - y.length) == y)))
  | .startswith, .str x, .str y => some (.bl (y.isPrefixOf x))
  | _, _, _ => none
def isiD : Dat → Ty → Option Bool
  | .int _, .int => some true
  | .int _, _ => some false
  | .bl _, .int => some true
  | .bl _, .bool => some true
  | .bl _, _ => some false
  | .non, _ => some false
  | .str _, .str => some true
  | .str _, _ => some false
  | .tup _, .tuple => some true
  | .tup _, _ => some false
  | .lst _, .list => some true
  | .lst _, _ => some false
  | _, _ => none
/-- lo, lo + c, .. : the ints of a range (c = 1 or -1) -/
def rngD : List Dat → Option (List Dat)
  | [.int n] => if decide (n ≤ line) && decide (-line ≤ n) then some ((List.range n.toNat).map fun k => .int (0 + (k : Nat))) else none
  | [.int a, .int b] => if decide (b - a ≤ line) && decide (-line ≤ a) && decide (a ≤ line) && decide (-line ≤ b) && decide (b ≤ line) then some ((List.range (b - a).toNat).map fun k => .int (a + (k : Nat))) else none
  | [.int a, .int b, .int c] => if decide (c = -1) && decide (a - b ≤ line) && decide (-line ≤ a) && decide (a ≤ line) && decide (-line ≤ b) && decide (b ≤ line) then some ((List.range (a - b).toNat).map fun k => .int (a + (k : Nat) * -1)) else none
  | _ => none
mutual
def bindT : Tg → Dat → Sl → Option Sl
  | .nm i, d, ρ => some (ρ.set i (some d))
  | .tp ts, .tup ds, ρ => bindTs ts ds ρ
  | _, _, _ => none
def bindTs : List Tg → List Dat → Sl → Option Sl
  | [], [], ρ => some ρ
  | t :: ts, d :: ds, ρ => (bindT t d ρ).bind fun ρ1 => bindTs ts ds ρ1
  | _, _, _ => none
end

/-! ### runs -/
def ofO {α : Type} : Option α → Mo α
  | some a => fun g => .ok a g
  | none => fun _ => .bad
def Res.noexc {α : Type} : Res α → Res α
  | .ok a g => .ok a g
  | _ => .bad
def asB (d : Dat) : Mo Bool := match d with
  | .bl b => fun g => .ok b g
  | _ => fun _ => .bad
/-- the turns of a comprehension -/
def lcGo (step : Dat → Mo (Option Dat)) : List Dat → List Dat → Mo (List Dat)
  | acc, [] => fun g => .ok acc g
  | acc, d :: ds => fun g => (step d g).noexc.bind fun o g1 => match o with
    | some y => lcGo step (acc ++ [y]) ds g1
    | none => lcGo step acc ds g1
section
variable (F : Nat → List Dat → Mo Dat)
mutual
def den : Ex → Sl → Mo Dat
  | .var i, ρ => ofO (ρ.getD i none)
  | .con d, _ => fun g => .ok d g
  | .op o a b, ρ => fun g => (den a ρ g).bind fun x g => (den b ρ g).bind fun y g => ofO (opD o x y) g
  | .neg a, ρ => fun g => (den a ρ g).bind fun x g => match x with
    | .int i => .ok (.int (-i)) g
    | _ => .bad
  | .asInt a, ρ => fun g => (den a ρ g).bind fun x g => match x with
    | .int i => .ok (.int i) g
    | _ => .bad
  | .cmp o a b, ρ => fun g => (den a ρ g).bind fun x g => (den b ρ g).bind fun y g => ofO ((cpD o x y).map .bl) g
  | .chain o p a b c, ρ => fun g => (den a ρ g).bind fun x g => (den b ρ g).bind fun y g => (ofO (cpD o x y) g).bind fun k g => match k with
    | false => .ok (.bl false) g
    | true => (den c ρ g).bind fun z g => ofO ((cpD p y z).map .bl) g
  | .and a b, ρ => fun g => (den a ρ g).bind fun x g => (asB x g).bind fun k g => match k with
    | true => den b ρ g
    | false => .ok (.bl false) g
  | .or a b, ρ => fun g => (den a ρ g).bind fun x g => (asB x g).bind fun k g => match k with
    | true => .ok (.bl true) g
    | false => den b ρ g
  | .not a, ρ => fun g => (den a ρ g).bind fun x g => (asB x g).bind fun k g => .ok (.bl (!k)) g
  | .ifx t a b, ρ => fun g => (den t ρ g).bind fun x g => (asB x g).bind fun k g => match k with
    | true => den a ρ g
    | false => den b ρ g
  | .tup es, ρ => fun g => (denL es ρ g).bind fun xs g => .ok (.tup xs) g
  | .lst es, ρ => fun g => (denL es ρ g).bind fun xs g => .ok (.lst xs) g
  | .ix a b, ρ => fun g => (den a ρ g).bind fun x g => (den b ρ g).bind fun y g => ofO (getD x y g) g
  | .sl a lo hi, ρ => fun g => (den a ρ g).bind fun x g => (den lo ρ g).bind fun l g => (den hi ρ g).bind fun h g => ofO (sliceD x l h) g
  | .rev a, ρ => fun g => (den a ρ g).bind fun x g => match x with
    | .lst xs => .ok (.lst xs.reverse) g
    | _ => .bad
  | .call i es, ρ => fun g => (denL es ρ g).bind fun xs g => F i xs g
  | .bi b a, ρ => fun g => (den a ρ g).bind fun x g => ofO (biD b x) g
  | .me m a b, ρ => fun g => (den a ρ g).bind fun x g => match x with
    | .str s => (den b ρ g).bind fun y g => ofO (meD m (.str s) y) g
    | _ => .bad
  | .isi a t, ρ => fun g => (den a ρ g).bind fun x g => ofO ((isiD x t).map .bl) g
  | .rng es, ρ => fun g => (denL es ρ g).bind fun xs g => ofO ((rngD xs).map .lst) g
  | .lc elt tg src cond own, ρ => fun g => (den src ρ g).bind fun x g => (ofO (itemsD x) g).bind fun ds g =>
    (lcGo (fun d g => match bindT tg d (wipeD ρ own) with
      | none => .bad
      | some ρ2 => (den cond ρ2 g).bind fun x g => (asB x g).bind fun k g => match k with
        | true => (den elt ρ2 g).bind fun y g => .ok (some y) g
        | false => .ok none g) [] ds g).bind fun ys g => .ok (.lst ys) g
def denL : List Ex → Sl → Mo (List Dat)
  | [], _ => fun g => .ok [] g
  | e :: es, ρ => fun g => (den e ρ g).bind fun x g => (denL es ρ g).bind fun xs g => .ok (x :: xs) g
end
def denB (e : Ex) (ρ : Sl) : Mo Bool := fun g => (den F e ρ g).bind asB

inductive Out where | nx (ρ : Sl) | rt (d : Dat) (fresh : Bool) | bk (ρ : Sl) | ct (ρ : Sl)
/-- the turns of a for -/
def forGo (tg : Tg) (body : Sl → Mo Out) : List Dat → Sl → Mo Out
  | [], ρ => fun g => .ok (.nx ρ) g
  | d :: ds, ρ => fun g => match bindT tg d ρ with
    | none => .bad
    | some ρ1 => (body ρ1 g).bind fun o g => match o with
      | .nx ρ2 => forGo tg body ds ρ2 g
      | .ct ρ2 => forGo tg body ds ρ2 g
      | .bk ρ2 => .ok (.nx ρ2) g
      | .rt d f => .ok (.rt d f) g
mutual
def run : Sm → Sl → Mo Out
  | .set t e, ρ => fun g => (den F e ρ g).bind fun x g => match bindT t x ρ with
    | some ρ1 => .ok (.nx ρ1) g
    | none => .bad
  | .putIx i e v, ρ => fun g => (den F v ρ g).bind fun x g => match ρ.getD i none with
    | some .cup => (den F e ρ g).bind fun y g => match y with
      | .int k => match ixD g.length k with
        | some j => .ok (.nx ρ) (g.set j x)
        | none => .bad
      | _ => .bad
    | _ => .bad
  | .expr e, ρ => fun g => (den F e ρ g).bind fun _ g => .ok (.nx ρ) g
  | .ret e, ρ => fun g => (den F e ρ g).bind fun x g => .ok (.rt x false) g
  | .retL es, ρ => fun g => (denL F es ρ g).bind fun xs g => .ok (.rt (.lst xs) true) g
  | .ifs t a b, ρ => fun g => (denB F t ρ g).bind fun k g => match k with
    | true => runs a ρ g
    | false => runs b ρ g
  | .fors tg src b, ρ => fun g => (den F src ρ g).bind fun x g => (ofO (itemsD x) g).bind fun ds g => forGo tg (fun ρ g => runs b ρ g) ds ρ g
  | .raise c, _ => fun g => .exc c g
  | .pass, ρ => fun g => .ok (.nx ρ) g
  | .cont, ρ => fun g => .ok (.ct ρ) g
  | .brk, ρ => fun g => .ok (.bk ρ) g
def runs : List Sm → Sl → Mo Out
  | [], ρ => fun g => .ok (.nx ρ) g
  | s :: ss, ρ => fun g => (run s ρ g).bind fun o g => match o with
    | .nx ρ1 => runs ss ρ1 g
    | o => .ok o g
end
end

/-- a def: how many parameters, how many slots, its body -/
structure Df where
  fr : Bool := false
  np : Nat
  ns : Nat
  body : List Sm
abbrev Pg := List Df
/-- the calls, k deep -/
def callK (P : Pg) : Nat → Nat → List Dat → Mo Dat
  | 0, _, _ => fun _ => .bad
  | k + 1, i, ds => fun g => match P[i]? with
    | none => .bad
    | some f => if ds.length = f.np then (runs (callK P k) f.body (ds.map some ++ List.replicate (f.ns - f.np) none) g).bind fun o g => match o with
        | .nx _ => .ok .non g
        | .rt d fr => if f.fr && !fr then .bad else .ok d g
        | _ => .bad
      else .bad
end R
set_option Elab.async false
set_option linter.all false
set_option maxRecDepth 100000
set_option maxHeartbeats 4000000
/-! Expressions: each construct does as `den` tells. -/
namespace R
open PySem PySem.Spec PyProof.Rows L2

structure Ctx where
  N : List Str
  sc : Scope
  blk : Option Scope
  fns : List (Str × (Nat × Nat))
  exs : List (Str × Nat)
  glo : List (Str × Dat)

def RunF (C : Cfg) (fresh : Bool) (r : Res Dat) (H : Hp) (Q : VK) (E : XK) : Prop := match r with
  | .ok d g => ∀ v H', Ext C H H' → GR C g H' → Rp C H' v d → (fresh = true → ∀ p, v = .ref p → ∃ vs, H' p = some (.lst vs)) → Q v H'
  | .exc c g => ∀ H', Ext C H H' → GR C g H' → E (C.ex c) none H'
  | .bad => False
/-- a def's promise: it does as the plain function -/
def spD (C : Cfg) (np : Nat) (fresh : Bool) (f : List Dat → Mo Dat) : Sp := fun vs H Q E => vs.length = np ∧
  ∃ cup M ds g, RpL { C with cup := cup, M := M } H vs ds ∧ GR { C with cup := cup, M := M } g H ∧ RunF { C with cup := cup, M := M } fresh (f ds g) H Q E

def biNames : List Str := ["len", "tuple", "list", "all", "any", "max", "min", "sum", "abs", "int", "str", "bool", "range", "isinstance"]

structure Mt (X : Cx) (c : Ctx) (C : Cfg) (W : WX) (F : Nat → List Dat → Mo Dat) (k : Nat) : Prop where
  N : X.N = c.N
  nd : c.N.Nodup
  sc : X.env.scope = c.sc
  calm : X.calm = true
  K : X.K = C.K
  room : Room k X.A
  tk : Takes X W
  fn : ∀ x, (match c.blk with | none => true | some s => s.names.lookup x == some .cell) = true → X.fn x = true
  fns : ∀ x i n, c.fns.lookup x = some (i, n) → X.mg x = some (.ref (C.fa i)) ∧ PySem.W.keepIn X.K (.ref (C.fa i)) = true ∧
    ∃ fd ps, ps.length = n ∧ FnOk X.prog X.w X.K X.mg X.base (L2.CX X.prog X.w) k (C.fa i) fd ps (spD C n (C.fr i) (F i)) ∧ Binds X.K fd ps []
  glo : ∀ x d, c.glo.lookup x = some d → ∃ u v, X.mg x = some u ∧ RelV v u ∧ ∀ (cup : Option Addr) (M : List Addr) (H : Hp), Rp { C with cup := cup, M := M } H v d
  bi : ∀ x ∈ biNames, X.mg x = none
  ex : ∀ x j, c.exs.lookup x = some j → ∃ Cx : Addr, X.mg x = some (.ref Cx) ∧ C.ex j = .ref Cx ∧ PySem.W.excIn X.K Cx [.type "ValueError", .type "Exception", .type "BaseException", .type "object"] "ValueError.__new__" = true ∧
    PySem.W.keepIn X.K (.ref Cx) = true ∧ PySem.W.subIn X.K (.ref Cx) (.type "BaseException") = some true ∧ PySem.W.typeIn X.K (.ref Cx) = some (.type "type")

def plainE : Expr → Bool
  | .Starred .. => false
  | _ => true
theorem star_plain {e : Expr} {es : List Expr} {env : Env} (h : plainE e = true) : starEach (e :: es) env = (false, eval e env) :: starEach es env := by
  cases e <;> first | rfl | exact absurd (show false = true from h) Bool.false_ne_true

structure Sem (c : Ctx) (e : Expr) (e' : Ex) : Prop where
  run : ∀ X C W F k, Mt X c C W F k → PE X e (tD C W (den F e'))
  plain : plainE e = true
def SemT (c : Ctx) (e : Expr) (e' : Ex) : Prop := ∀ X C W F k, Mt X c C W F k → PT X e (tT C W (denB F e'))
structure SemL (c : Ctx) (es : List Expr) (es' : List Ex) : Prop where
  run : ∀ X C W F k, Mt X c C W F k → PA X es (tA C W (denL F es'))
  plain : ∀ (env : Env) (pos : Pos), (backTo pos (starEach es env)).any (·.1) = false

/-! ### names, constants -/
def kindB (sc : Scope) (x : Str) : Option NameKind := sc.names.lookup x
def visB (sc : Scope) (x : Str) : Bool := match kindB sc x with
  | some .local => true
  | some .cell => true
  | some .free => true
  | _ => false
def dbgB (x : Str) : Bool := (x == ("__debug__" : Str)) || (x == ("__classdict__" : Str)) || (x == ("__name__" : Str))
theorem vis_of {sc : Scope} {x : Str} (h : visB sc x = true) : Vis sc x := by
  unfold visB kindB at h
  unfold Vis
  split at h
  · rename_i e; exact .inl e
  · rename_i e; exact .inr (.inl e)
  · rename_i e; exact .inr (.inr e)
  · cases h
theorem dbg_of {x : Str} (h : dbgB x = false) : (x == ("__debug__" : Str)) = false ∧ (x == ("__classdict__" : Str)) = false ∧ x ≠ "__name__" := by
  unfold dbgB at h
  simp only [Bool.or_eq_false_iff] at h
  exact ⟨h.1.1, h.1.2, fun e => by
    have z := h.2
    rw [e] at z
    exact absurd z (by simp)⟩
theorem sem_var {c : Ctx} {x : Str} {i : Nat} {pos : Pos} (hN : c.N[i]? = some x) (hv : visB c.sc x = true) (hd : dbgB x = false) : Sem c (.Name x pos) (.var i) := by
  refine ⟨fun X C W F k M => ?_, rfl⟩
  obtain ⟨d1, d2, d3⟩ := dbg_of hd
  refine pe_mono (pe_var (i := i) (by rw [M.N]; exact hN) (by rw [M.sc]; exact vis_of hv) d1 d2) fun σ H Q ⟨ρ, g, E, G, h⟩ => ?_
  unfold den at h
  show ∃ v, σ[i]? = some (some v) ∧ Q v H
  cases e : ρ[i]? with
  | none =>
    rw [List.getD_eq_getElem?_getD, e] at h
    exact h.elim
  | some o =>
    rw [List.getD_eq_getElem?_getD, e] at h
    cases o with
    | none => exact h.elim
    | some d =>
      obtain ⟨v, h1, h2⟩ := E.2 i d e
      exact ⟨v, h1, h v H Ext.refl G h2⟩
theorem tC_of {C : Cfg} {W : WX} {F : Nat → List Dat → Mo Dat} {v : V} {d : Dat} (h : ∀ (C : Cfg) H, Rp C H v d) {σ : L2.St} {H : Hp} {Q : VK} (q : tD C W (den F (.con d)) σ H Q) : tC v σ H Q := by
  obtain ⟨ρ, g, E, G, q⟩ := q
  unfold den at q
  exact q v H Ext.refl G (h C H)
theorem sem_int {c : Ctx} {i : Int} {j : Nat} {pos : Pos} : Sem c (.Constant (.int i) j pos) (.con (.int i)) := ⟨fun X C W F k M => pe_mono pe_int fun _ _ _ q => tC_of (fun _ _ => .int i) q, rfl⟩
theorem sem_bool {c : Ctx} {i : Bool} {j : Nat} {pos : Pos} : Sem c (.Constant (.bool i) j pos) (.con (.bl i)) := ⟨fun X C W F k M => pe_mono pe_bl fun _ _ _ q => tC_of (fun _ _ => .bl i) q, rfl⟩
theorem sem_none {c : Ctx} {j : Nat} {pos : Pos} : Sem c (.Constant .none j pos) (.con .non) := ⟨fun X C W F k M => pe_mono pe_non fun _ _ _ q => tC_of (fun _ _ => .non) q, rfl⟩
def sOkB (x : Str) : Bool := decide (x.cps.size ≤ 16777216) && x.cps.toList.all (fun c => decide (c < 1114112))
theorem sOk_of {x : Str} (h : sOkB x = true) : SOk x := by
  unfold sOkB at h
  simp only [Bool.and_eq_true, decide_eq_true_eq, List.all_eq_true] at h
  exact ⟨by rw [sizeLine_eq]; exact h.1, h.2⟩
theorem sem_str {c : Ctx} {x : Str} {j : Nat} {pos : Pos} (h : sOkB x = true) : Sem c (.Constant (.str x) j pos) (.con (.str x.cps.toList)) :=
  ⟨fun X C W F k M => pe_mono pe_str fun _ _ _ q => tC_of (fun _ _ => .str x (sOk_of h)) q, rfl⟩
theorem sem_glo {c : Ctx} {x : Str} {d : Dat} {pos : Pos} (hg : kindB c.sc x = some .globalImplicit) (hl : c.glo.lookup x = some d) (hd : dbgB x = false) : Sem c (.Name x pos) (.con d) := by
  refine ⟨fun X C W F k M => ?_, rfl⟩
  obtain ⟨d1, d2, d3⟩ := dbg_of hd
  obtain ⟨u, v, h1, h2, h3⟩ := M.glo x d hl
  refine pe_mono (pe_glob (v := v) (show X.env.scope.names.lookup x = some .globalImplicit by rw [M.sc]; exact hg) h1 h2 d1) fun σ H Q q => ?_
  obtain ⟨ρ, g, E, G, q⟩ := q
  unfold den at q
  exact q v H Ext.refl G (h3 C.cup C.M H)

/-! ### operators on two values -/
theorem run_ofO {C : Cfg} {W : WX} {σ : L2.St} {H : Hp} {Q : VK} {o : Option Dat} {g : List Dat} (h : RunE C W (ofO o g) σ H Q) : ∃ d, o = some d ∧ RunE C W (.ok d g) σ H Q := by
  cases o with
  | none => exact h.elim
  | some d => exact ⟨d, rfl, h⟩
/-- what an operator's own reading asks, from the plain operator -/
def OpF (C : Cfg) (r : R2) (f : Dat → Dat → Option Dat) : Prop := ∀ (d1 d2 d : Dat) (g : List Dat) (x y : V) (H : Hp) (Q : VK), f d1 d2 = some d → Rp C H x d1 → Rp C H y d2 → GR C g H →
  (∀ v H', Ext C H H' → GR C g H' → Rp C H' v d → Q v H') → r x y H Q
theorem tOp_of {C : Cfg} {W : WX} {r : R2} {f : Dat → Dat → Option Dat} {fa fb : Sl → Mo Dat} (hf : OpF C r f) {σ : L2.St} {H : Hp} {Q : VK}
    (q : tD C W (fun ρ g => (fa ρ g).bind fun x g => (fb ρ g).bind fun y g => ofO (f x y) g) σ H Q) : tOp r (tD C W fa) (tD C W fb) σ H Q := by
  obtain ⟨ρ, g, E, G, h⟩ := q
  refine tD_then _ (fun r H => RunE C W r σ H Q) E G h (fun _ _ p => p) id fun d1 g1 x H1 e1 E1 G1 r1 h1 => ?_
  refine tD_then _ (fun r H => RunE C W r σ H Q) E1 G1 (h1.ext e1) (fun _ _ p => p) id fun d2 g2 y H2 e2 E2 G2 r2 h2 => ?_
  obtain ⟨d, hd, hq⟩ := run_ofO (h2.ext e2)
  exact hf d1 d2 d g2 x y H2 Q hd (r1.ext e2) r2 G2 hq
theorem tT_tD {C : Cfg} {W : WX} {f : Sl → Mo Dat} {σ : L2.St} {H : Hp} {Q : Bool → Hp → Prop} (q : tT C W (fun ρ g => (f ρ g).bind asB) σ H Q) : tD C W f σ H fun x H' => ∃ k, x = .bl k ∧ Q k H' := by
  obtain ⟨ρ, g, E, G, h⟩ := q
  refine ⟨ρ, g, E, G, ?_⟩
  revert h
  dsimp only
  cases f ρ g with
  | ok d g1 =>
    intro h v H' e G' r
    cases d with
    | bl b => cases r; exact ⟨b, rfl, h H' e G'⟩
    | _ => exact h.elim
  | exc c g1 => exact fun h => h
  | bad => exact fun h => h
theorem tOpT_of {C : Cfg} {W : WX} {r : R2} {f : Dat → Dat → Option Dat} {fa fb : Sl → Mo Dat} (hf : OpF C r f) {σ : L2.St} {H : Hp} {Q : Bool → Hp → Prop}
    (q : tT C W (fun ρ g => ((fa ρ g).bind fun x g => (fb ρ g).bind fun y g => ofO (f x y) g).bind asB) σ H Q) : tTest (tOp r (tD C W fa) (tD C W fb)) σ H Q := tOp_of hf (tT_tD q)
theorem sem_op {c : Ctx} {o : Operator} {o' : Op} {a b : Expr} {a' b' : Ex} {pos : Pos} (ho : ∀ X C W F k, Mt X c C W F k → ∃ r, OpR X (binaryOp o) r ∧ OpF C r (opD o'))
    (ha : Sem c a a') (hb : Sem c b b') : Sem c (.BinOp a o b pos) (.op o' a' b') := by
  refine ⟨fun X C W F k M => ?_, rfl⟩
  obtain ⟨r, h1, h2⟩ := ho X C W F k M
  refine pe_mono (pe_op h1 (ha.run X C W F k M) (hb.run X C W F k M)) fun σ H Q q => tOp_of h2 ?_
  unfold den at q
  exact q
theorem Rp.int_inv {C : Cfg} {H : Hp} {v : V} {i : Int} (h : Rp C H v (.int i)) : v = .int i := by cases h; rfl
theorem Rp.bl_inv {C : Cfg} {H : Hp} {v : V} {i : Bool} (h : Rp C H v (.bl i)) : v = .bl i := by cases h; rfl
theorem Rp.str_inv {C : Cfg} {H : Hp} {v : V} {s : List Nat} (h : Rp C H v (.str s)) : ∃ x : Str, v = .str x ∧ s = x.cps.toList ∧ SOk x := by cases h with | str x hx => exact ⟨x, rfl, rfl, hx⟩
theorem Rp.tup_inv {C : Cfg} {H : Hp} {v : V} {s : List Dat} (h : Rp C H v (.tup s)) : ∃ a vs, v = .ref a ∧ TupAt C H a vs ∧ s.length ≤ sizeLine ∧ RpL C H vs s := by cases h with | tup h z r => exact ⟨_, _, rfl, h, z, r⟩
theorem Rp.lst_inv {C : Cfg} {H : Hp} {v : V} {s : List Dat} (h : Rp C H v (.lst s)) : ∃ a vs, v = .ref a ∧ LstAt C H a vs ∧ s.length ≤ sizeLine ∧ RpL C H vs s := by cases h with | lst h z r => exact ⟨_, _, rfl, h, z, r⟩
theorem Rp.non_inv {C : Cfg} {H : Hp} {v : V} (h : Rp C H v .non) : v = .non := by cases h; rfl
/-- a new tuple, a new list -/
theorem Rp.newT {C : Cfg} {H : Hp} {p : Addr} {g : List Dat} {vs : List V} {ds : List Dat} (G : GR C g H) (hp : H p = none) (hz : ds.length ≤ sizeLine) (r : RpL C H vs ds) : Rp C (upd H p (.tup vs)) (.ref p) (.tup ds) :=
  .tup (.inl ⟨upd_same, G.ne hp⟩) hz (r.ext (Ext.new hp))
theorem Rp.newL {C : Cfg} {H : Hp} {p : Addr} {g : List Dat} {vs : List V} {ds : List Dat} (G : GR C g H) (hp : H p = none) (hz : ds.length ≤ sizeLine) (r : RpL C H vs ds) : Rp C (upd H p (.lst vs)) (.ref p) (.lst ds) :=
  .lst ⟨.inl upd_same, G.ne hp⟩ hz (r.ext (Ext.new hp))
theorem line_eq : line = sizeLine := by rw [sizeLine_eq]; rfl
theorem sOk_append {x y : Str} (hx : SOk x) (hy : SOk y) (hz : x.length + y.length ≤ sizeLine) : SOk (x ++ y) := by
  have e : (x ++ y).cps.toList = x.cps.toList ++ y.cps.toList := TL.tl_append x y
  refine ⟨?_, fun c hc => ?_⟩
  · show (x ++ y).cps.size ≤ _
    rw [← Array.length_toList, e, List.length_append, Array.length_toList, Array.length_toList]
    exact hz
  · rw [e] at hc
    rcases List.mem_append.mp hc with h | h
    · exact hx.2 c h
    · exact hy.2 c h
theorem sOk_sub {x : Str} {l : List Nat} (hx : SOk x) (hz : l.length ≤ x.length) (hm : ∀ c ∈ l, c ∈ x.cps.toList) : SOk ⟨l.toArray⟩ := by
  refine ⟨Nat.le_trans (by show l.toArray.size ≤ _; simpa using hz) hx.1, fun c hc => hx.2 c (hm c (by simpa using hc))⟩
theorem Rp.strL {C : Cfg} {H : Hp} {l : List Nat} (h : SOk ⟨l.toArray⟩) : Rp C H (.str ⟨l.toArray⟩) (.str l) := by
  have := Rp.str (C := C) (H := H) ⟨l.toArray⟩ h
  simpa using this
theorem Rp.strE {C : Cfg} {H : Hp} {x : Str} {l : List Nat} (h : SOk x) (e : x.cps.toList = l) : Rp C H (.str x) (.str l) := by
  subst e; exact .str x h
theorem strlen (x : Str) : x.length = x.cps.toList.length := by simp [Str.length]
end R
set_option Elab.async false
set_option linter.all false
set_option maxRecDepth 100000
set_option maxHeartbeats 4000000
/-! Operators and comparisons. -/
namespace R
open PySem PySem.Spec PyProof.Rows L2
section
variable {C : Cfg}

/-! ### + - * // % ** -/
theorem LstAt.heap {X : Cx} {pins : List (Addr × Obj)} {σ : L2.St} {H : Hp} {s : Shared} {a : Addr} {xs : List V} (I : Inv X pins σ H s) (h : LstAt C H a xs) :
    ∃ (its : List Value) (n : Nat), Vals xs its ∧ s.heap.get? a = some { cls := .type "list", data := .seq its.toArray n } ∧ xs.length ≤ sizeLine := by
  rcases h.1 with h | ⟨o, h⟩
  · obtain ⟨z, its, n, r, e⟩ := I.hok a _ h
    exact ⟨its, n, r, e, z⟩
  · obtain ⟨e, z, its, n, r, e2⟩ := I.hok a _ h
    exact ⟨its, n, r, e2, z⟩
def rCatL (C : Cfg) : R2 := fun x y H Q => ∃ l b xs zs, x = .ref l ∧ y = .ref b ∧ LstAt C H l xs ∧ LstAt C H b zs ∧ xs.length + zs.length ≤ sizeLine ∧ ∀ p, H p = none → Q (.ref p) (upd H p (.lst (xs ++ zs)))
theorem op_catL {X : Cx} : OpR X (binaryOp .Add) (rCatL C) := by
  intro pins s σ H x y v u Q I rx ry h
  obtain ⟨l, b, xs, zs, rfl, rfl, hH, hB, hz, q⟩ := h
  cases rx
  cases ry
  obtain ⟨its, n, r, e, z⟩ := hH.heap I
  obtain ⟨its2, n2, r2, e2, z2⟩ := hB.heap I
  have hl := r.length
  have hl2 := r2.length
  refine PySem.P.add_list e e2 ?_ (by rw [List.size_toArray, List.size_toArray]; omega)
  have ea : its.toArray ++ its2.toArray = (its ++ its2).toArray := by simp
  rw [ea]
  exact ⟨.ref _, _, I.lnew (t' := s.toks) (r.append r2) (by rw [List.length_append]; omega), rfl, q _ I.fresh⟩
theorem mul_rep (x : Str) (n : Int) : (Txt.mul x n).cps.toList = (List.replicate n.toNat x.cps.toList).flatten := by
  have fold : ∀ (k : Nat) (acc : Array Nat), ((List.replicate k x.cps).foldl (· ++ ·) acc).toList = acc.toList ++ (List.replicate k x.cps.toList).flatten := by
    intro k
    induction k with
    | zero => intro acc; simp
    | succ k ih =>
      intro acc
      rw [List.replicate_succ, List.foldl_cons, ih, List.replicate_succ, List.flatten_cons, Array.toList_append, List.append_assoc]
  unfold Txt.mul
  by_cases h1 : n < 1
  · rw [if_pos h1]
    have e : n.toNat = 0 := by omega
    rw [e]
    rfl
  · rw [if_neg h1]
    by_cases h2 : (n == 1 || x.length == 0) = true
    · rw [if_pos h2]
      simp only [Bool.or_eq_true, beq_iff_eq] at h2
      rcases h2 with h2 | h2
      · subst h2
        simp
      · have e : x.cps.toList = [] := by
          have : x.cps.size = 0 := h2
          rw [← Array.length_toList] at this
          exact List.eq_nil_of_length_eq_zero this
        rw [e]
        simp
    · rw [if_neg h2]
      have := fold n.toNat #[]
      simpa using this
theorem op_mul_str {X : Cx} : OpR X (binaryOp .Mult) (fun x y H Q => ∃ z n, x = .str z ∧ y = .int n ∧ z.length ≤ sizeLine ∧ z.length * n.toNat ≤ sizeLine ∧ n ≤ 16777216 ∧ -16777216 ≤ n ∧ Q (.str (Txt.mul z n)) H) := by
  intro pins s σ H x y v u Q I rx ry h
  obtain ⟨z, n, rfl, rfl, hl, hz, h1, h2, q⟩ := h
  obtain ⟨t, rfl⟩ := rx
  obtain ⟨t', rfl⟩ := ry
  have hs : sizeLine = 16777216 := sizeLine_eq
  have hp : (2 : Int) ^ 63 = 9223372036854775808 := by decide
  refine SB.mul ⟨?_, fun h3 _ => ?_, fun h3 _ => ?_⟩ fun t' k => ⟨.str (Txt.mul z n), H, I.tok _, ⟨_, rfl⟩, q⟩
  · rw [hp]
    simp only [Bool.or_eq_false_iff, decide_eq_false_iff_not]
    constructor <;> omega
  · intro z2
    rw [hp] at z2
    have : (9223372036854775808 - 1 : Int) / n ≥ 549755813887 := by
      refine (Int.le_ediv_iff_mul_le (by omega)).mpr ?_
      omega
    omega
  · exact decide_eq_false (by omega)
theorem flat_rep_len (l : List Nat) (k : Nat) : (List.replicate k l).flatten.length = l.length * k := by
  induction k with
  | zero => simp
  | succ k ih => rw [List.replicate_succ, List.flatten_cons, List.length_append, ih, Nat.mul_succ]; omega
theorem mem_rep {l : List Nat} {c : Nat} : ∀ {k : Nat}, c ∈ (List.replicate k l).flatten → c ∈ l := fun {k} h => by
  obtain ⟨m, hm, hc⟩ := List.mem_flatten.mp h
  rw [(List.mem_replicate.mp hm).2] at hc
  exact hc

theorem ite_some {α : Type} {c : Bool} {a b : α} (h : (if c = true then some a else none) = some b) : c = true ∧ a = b := by
  split at h
  · rename_i e; exact ⟨e, Option.some.inj h⟩
  · cases h
theorem opf_add (X : Cx) (hK : X.K = C.K) : ∃ r, OpR X (binaryOp .Add) r ∧ OpF C r (opD .add) := by
  refine ⟨_, op_add.or (op_add_str.or ((op_catA (X := X)).or (op_catL (C := C)))), ?_⟩
  intro d1 d2 d g x y H Q hd r1 r2 G q
  have hs := line_eq
  cases d1 <;> cases d2 <;> simp only [opD] at hd <;> try cases hd
  · rename_i i j
    exact .inl ⟨i, j, r1.int_inv, r2.int_inv, q _ H Ext.refl G (.int _)⟩
  · rename_i a b
    split at hd
    · rename_i hz
      cases hd
      obtain ⟨x1, rfl, rfl, h1⟩ := r1.str_inv
      obtain ⟨y1, rfl, rfl, h2⟩ := r2.str_inv
      rw [← strlen, ← strlen, hs] at hz
      refine .inr (.inl ⟨x1, y1, rfl, rfl, hz, q _ H Ext.refl G ?_⟩)
      exact .strE (sOk_append h1 h2 hz) (TL.tl_append x1 y1)
    · cases hd
  · rename_i a b
    split at hd
    · rename_i hz
      cases hd
      obtain ⟨p1, v1, rfl, t1, z1, l1⟩ := r1.tup_inv
      obtain ⟨p2, v2, rfl, t2, z2, l2⟩ := r2.tup_inv
      have e1 := l1.len
      have e2 := l2.len
      rw [hs] at hz
      refine .inr (.inr (.inl ⟨p1, p2, v1, v2, rfl, rfl, by rw [hK]; exact t1.sq, by rw [hK]; exact t2.sq, by omega, fun h => ?_, fun _ h => ?_, fun _ _ p hp => ?_⟩))
      · subst h
        have : a = [] := List.eq_nil_of_length_eq_zero (by simpa using e1.symm)
        subst this
        exact q _ H Ext.refl G (.tup t2 z2 l2)
      · subst h
        have : b = [] := List.eq_nil_of_length_eq_zero (by simpa using e2.symm)
        subst this
        rw [List.append_nil] at q
        exact q _ H Ext.refl G (.tup t1 z1 l1)
      · exact q _ _ (Ext.new hp) (G.new hp) (.newT G hp (by rw [List.length_append]; exact hz) (l1.append l2))
    · cases hd
  · rename_i a b
    split at hd
    · rename_i hz
      cases hd
      obtain ⟨p1, v1, rfl, t1, z1, l1⟩ := r1.lst_inv
      obtain ⟨p2, v2, rfl, t2, z2, l2⟩ := r2.lst_inv
      have e1 := l1.len
      have e2 := l2.len
      rw [hs] at hz
      refine .inr (.inr (.inr ⟨p1, p2, v1, v2, rfl, rfl, t1, t2, by omega, fun p hp => ?_⟩))
      exact q _ _ (Ext.new hp) (G.new hp) (.newL G hp (by rw [List.length_append]; exact hz) (l1.append l2))
    · cases hd
theorem opf_sub (X : Cx) (hK : X.K = C.K) : ∃ r, OpR X (binaryOp .Sub) r ∧ OpF C r (opD .sub) := by
  refine ⟨_, op_sub, ?_⟩
  intro d1 d2 d g x y H Q hd r1 r2 G q
  cases d1 <;> cases d2 <;> simp only [opD] at hd <;> try cases hd
  rename_i i j
  exact ⟨i, j, r1.int_inv, r2.int_inv, q _ H Ext.refl G (.int _)⟩
theorem opf_mul (X : Cx) (hK : X.K = C.K) : ∃ r, OpR X (binaryOp .Mult) r ∧ OpF C r (opD .mul) := by
  refine ⟨_, op_mul.or op_mul_str, ?_⟩
  intro d1 d2 d g x y H Q hd r1 r2 G q
  have hs := line_eq
  have h64 : (2 : Int) ^ 64 = 18446744073709551616 := by decide
  cases d1 <;> cases d2 <;> simp only [opD] at hd <;> try cases hd
  · rename_i i j
    obtain ⟨hc, rfl⟩ := ite_some hd
    refine .inl ⟨i, j, r1.int_inv, r2.int_inv, ?_, q _ H Ext.refl G (.int _)⟩
    unfold mulOkB at hc
    simp only [Bool.or_eq_true, decide_eq_true_eq] at hc
    unfold CMul
    rw [h64]
    omega
  · rename_i a j
    split at hd
    · rename_i hc
      cases hd
      simp only [Bool.and_eq_true, decide_eq_true_eq] at hc
      obtain ⟨⟨c1, c2⟩, c3⟩ := hc
      obtain ⟨x1, rfl, rfl, h1⟩ := r1.str_inv
      have hl : (line : Int) = 16777216 := rfl
      rw [← strlen] at c1
      refine .inr ⟨x1, j, rfl, r2.int_inv, h1.1, by rw [← hs]; exact c1, by omega, by omega, q _ H Ext.refl G ?_⟩
      refine .strE ⟨?_, fun c hc => ?_⟩ (mul_rep x1 j)
      · rw [strlen, mul_rep, flat_rep_len, ← strlen, ← hs]; exact c1
      · rw [mul_rep] at hc
        exact h1.2 c (mem_rep hc)
    · cases hd
theorem opf_fdiv (X : Cx) (hK : X.K = C.K) : ∃ r, OpR X (binaryOp .FloorDiv) r ∧ OpF C r (opD .fdiv) := by
  refine ⟨_, op_fdivN, ?_⟩
  intro d1 d2 d g x y H Q hd r1 r2 G q
  cases d1 <;> cases d2 <;> simp only [opD] at hd <;> try cases hd
  rename_i i j
  split at hd
  · rename_i hc
    cases hd
    simp only [Bool.and_eq_true, decide_eq_true_eq, bne_iff_ne, ne_eq] at hc
    exact ⟨i, j, r1.int_inv, r2.int_inv, hc, q _ H Ext.refl G (.int _)⟩
  · cases hd
theorem opf_mod (X : Cx) (hK : X.K = C.K) : ∃ r, OpR X (binaryOp .Mod) r ∧ OpF C r (opD .mod) := by
  refine ⟨_, op_modN, ?_⟩
  intro d1 d2 d g x y H Q hd r1 r2 G q
  cases d1 <;> cases d2 <;> simp only [opD] at hd <;> try cases hd
  rename_i i j
  split at hd
  · rename_i hc
    cases hd
    exact ⟨i, j, r1.int_inv, r2.int_inv, hc, q _ H Ext.refl G (.int _)⟩
  · cases hd
theorem opf_pow (X : Cx) (hK : X.K = C.K) : ∃ r, OpR X (binaryOp .Pow) r ∧ OpF C r (opD .pow) := by
  refine ⟨_, op_pow, ?_⟩
  intro d1 d2 d g x y H Q hd r1 r2 G q
  have h64 : (2 : Nat) ^ 64 = 18446744073709551616 := by decide
  cases d1 <;> cases d2 <;> simp only [opD] at hd <;> try cases hd
  rename_i i j
  split at hd
  · rename_i hc
    cases hd
    simp only [Bool.and_eq_true, decide_eq_true_eq] at hc
    refine ⟨i, j, r1.int_inv, r2.int_inv, ⟨hc.1.1, hc.1.2, ?_⟩, q _ H Ext.refl G (.int _)⟩
    rw [h64]; exact hc.2
  · cases hd
end
def opOf : Operator → Option Op
  | .Add => some .add
  | .Sub => some .sub
  | .Mult => some .mul
  | .FloorDiv => some .fdiv
  | .Mod => some .mod
  | .Pow => some .pow
  | _ => none
theorem sem_binop {c : Ctx} {o : Operator} {o' : Op} {a b : Expr} {a' b' : Ex} {pos : Pos} (h : opOf o = some o') (ha : Sem c a a') (hb : Sem c b b') : Sem c (.BinOp a o b pos) (.op o' a' b') := by
  refine sem_op (fun X C W F k M => ?_) ha hb
  cases o <;> simp only [opOf] at h <;> cases h
  · exact opf_add X M.K
  · exact opf_sub X M.K
  · exact opf_mul X M.K
  · exact opf_mod X M.K
  · exact opf_pow X M.K
  · exact opf_fdiv X M.K
end R
set_option Elab.async false
set_option linter.all false
set_option maxRecDepth 100000
set_option maxHeartbeats 4000000
/-! Comparisons. -/
namespace R
open PySem PySem.Spec PyProof.Rows L2

mutual
def toPy : Dat → PyData
  | .non => .none
  | .bl b => .bool b
  | .int i => .int i
  | .str s => .str ⟨s.toArray⟩
  | .tup xs => .tuple (toPyL xs)
  | .lst xs => .list (toPyL xs)
  | .fn _ => .none
  | .cup => .none
  | .kl _ => .none
def toPyL : List Dat → List PyData
  | [] => []
  | x :: xs => toPy x :: toPyL xs
end
theorem str_eqB (a b : List Nat) : ((⟨a.toArray⟩ : Str) == ⟨b.toArray⟩) = (a == b) := by
  rw [Bool.eq_iff_iff]
  simp only [beq_iff_eq]
  constructor
  · intro h
    injection h with h
    simpa using h
  · intro h; subst h; rfl
mutual
theorem eqv_toPy : ∀ (a b : Dat) (n m : Nat), okB a n = true → okB b m = true → PyData.eqv (toPy a) (toPy b) = eqB a b
  | .non, b, n, m, _, hb => by cases b <;> simp_all [toPy, PyData.eqv, eqB, okB]
  | .bl x, b, n, m, _, hb => by cases b <;> simp_all [toPy, PyData.eqv, eqB, okB]
  | .int i, b, n, m, _, hb => by cases b <;> simp_all [toPy, PyData.eqv, eqB, okB]
  | .str s, b, n, m, _, hb => by
    cases b <;> simp_all [toPy, PyData.eqv, eqB, okB]
    exact str_eqB _ _
  | .tup xs, b, n, m, ha, hb => by
    cases b with
    | tup ys =>
      cases n with
      | zero => simp [okB] at ha
      | succ n =>
        cases m with
        | zero => simp [okB] at hb
        | succ m =>
          simp only [okB] at ha hb
          simp only [toPy, PyData.eqv, eqB]
          exact eqv_toPyL xs ys n m ha hb
    | fn i => simp [okB] at hb
    | cup => simp [okB] at hb
    | kl _ => simp [okB] at hb
    | _ => simp [toPy, PyData.eqv, eqB]
  | .lst xs, b, n, m, ha, hb => by
    cases b with
    | lst ys =>
      cases n with
      | zero => simp [okB] at ha
      | succ n =>
        cases m with
        | zero => simp [okB] at hb
        | succ m =>
          simp only [okB] at ha hb
          simp only [toPy, PyData.eqv, eqB]
          exact eqv_toPyL xs ys n m ha hb
    | fn i => simp [okB] at hb
    | cup => simp [okB] at hb
    | kl _ => simp [okB] at hb
    | _ => simp [toPy, PyData.eqv, eqB]
  | .fn i, b, n, m, ha, hb => by simp [okB] at ha
  | .cup, b, n, m, ha, hb => by simp [okB] at ha
  | .kl _, b, n, m, ha, hb => by simp [okB] at ha
theorem eqv_toPyL : ∀ (a b : List Dat) (n m : Nat), okAllB a n = true → okAllB b m = true → PyData.eqvAll (toPyL a) (toPyL b) = eqAllB a b
  | [], [], _, _, _, _ => by simp [toPyL, PyData.eqvAll, eqAllB]
  | [], _ :: _, _, _, _, _ => by simp [toPyL, PyData.eqvAll, eqAllB]
  | _ :: _, [], _, _, _, _ => by simp [toPyL, PyData.eqvAll, eqAllB]
  | x :: xs, y :: ys, n, m, ha, hb => by
    simp only [okAllB, Bool.and_eq_true] at ha hb
    simp only [toPyL, PyData.eqvAll, eqAllB]
    rw [eqv_toPy x y n m ha.1 hb.1, eqv_toPyL xs ys n m ha.2 hb.2]
end
mutual
theorem Rp.dp {C : Cfg} {H : Hp} : ∀ (d : Dat) (v : V) (n : Nat), Rp C H v d → okB d n = true → Dp C.K H v (toPy d) ∧ (toPy d).canLay0 = true ∧ (toPy d).depth ≤ n
  | .non, v, n, r, _ => by cases r; exact ⟨.non, by simp [toPy, PyData.canLay0], by simp [toPy, PyData.depth]⟩
  | .bl b, v, n, r, _ => by cases r; exact ⟨.bl b, by simp [toPy, PyData.canLay0], by simp [toPy, PyData.depth]⟩
  | .int b, v, n, r, _ => by cases r; exact ⟨.int b, by simp [toPy, PyData.canLay0], by simp [toPy, PyData.depth]⟩
  | .str s, v, n, r, _ => by
    obtain ⟨x, rfl, rfl, h⟩ := r.str_inv
    refine ⟨?_, ?_, by simp [toPy, PyData.depth]⟩
    · simp only [toPy]
      exact .str x
    · simp only [toPy, PyData.canLay0, PyData.strOk, List.all_toArray, List.all_eq_true, decide_eq_true_eq]
      intro c hc
      exact h.2 c hc
  | .tup xs, v, n, r, ho => by
    obtain ⟨a, vs, rfl, t, z, l⟩ := r.tup_inv
    cases n with
    | zero => simp [okB] at ho
    | succ n =>
      simp only [okB] at ho
      obtain ⟨h1, h2, h3⟩ := RpL.dp xs vs n l ho
      exact ⟨.tup t.sq h1, by simpa [toPy, PyData.canLay0] using h2, by simp only [toPy, PyData.depth]; omega⟩
  | .lst xs, v, n, r, ho => by
    obtain ⟨a, vs, rfl, t, z, l⟩ := r.lst_inv
    cases n with
    | zero => simp [okB] at ho
    | succ n =>
      simp only [okB] at ho
      obtain ⟨h1, h2, h3⟩ := RpL.dp xs vs n l ho
      exact ⟨.lst t.sq h1, by simpa [toPy, PyData.canLay0] using h2, by simp only [toPy, PyData.depth]; omega⟩
  | .fn i, v, n, r, ho => by simp [okB] at ho
  | .cup, v, n, r, ho => by simp [okB] at ho
  | .kl _, v, n, r, ho => by simp [okB] at ho
theorem RpL.dp {C : Cfg} {H : Hp} : ∀ (ds : List Dat) (vs : List V) (n : Nat), RpL C H vs ds → okAllB ds n = true → DpAll C.K H vs (toPyL ds) ∧ PyData.canLayAll0 (toPyL ds) = true ∧ PyData.depthAll (toPyL ds) ≤ n
  | [], vs, n, r, _ => by cases r; exact ⟨.nil, by simp [toPyL, PyData.canLayAll0], by simp [toPyL, PyData.depthAll]⟩
  | d :: ds, vs, n, r, ho => by
    cases r with
    | cons r rr =>
      simp only [okAllB, Bool.and_eq_true] at ho
      obtain ⟨a1, a2, a3⟩ := Rp.dp d _ n r ho.1
      obtain ⟨b1, b2, b3⟩ := RpL.dp ds _ n rr ho.2
      exact ⟨.cons a1 b1, by simp [toPyL, PyData.canLayAll0, a2, b2], by simp only [toPyL, PyData.depthAll]; omega⟩
end
theorem Rp.shaped {C : Cfg} {H : Hp} {d : Dat} {v : V} (r : Rp C H v d) (h : okB d 64 = true) : Dp C.K H v (toPy d) ∧ SeqAt.shaped (toPy d) = true := by
  obtain ⟨h1, h2, h3⟩ := Rp.dp d v 64 r h
  exact ⟨h1, by unfold SeqAt.shaped; rw [h2, decide_eq_true h3]; rfl⟩
theorem any_toPyL (x : Dat) (hx : okB x 64 = true) : ∀ (ys : List Dat) (n : Nat), okAllB ys n = true → ((toPyL ys).any fun z => PyData.eqv z (toPy x)) = ys.any fun z => eqB z x
  | [], _, _ => rfl
  | y :: ys, n, h => by
    simp only [okAllB, Bool.and_eq_true] at h
    simp only [toPyL, List.any_cons]
    rw [eqv_toPy y x n 64 h.1 hx, any_toPyL x hx ys n h.2]
/-! ### text in text -/
theorem sub_iff (x y : Str) (i : Nat) : (i + y.length ≤ x.length ∧ Builtin.Str.subAt x y i = true) ↔ i + y.cps.toList.length ≤ x.cps.toList.length ∧ (x.cps.toList.drop i).take y.cps.toList.length = y.cps.toList := by
  rw [strlen, strlen]
  have e : Builtin.Str.subAt x y i = true ↔ (x.cps.toList.drop i).take y.cps.toList.length = y.cps.toList := by
    unfold Builtin.Str.subAt
    rw [beq_iff_eq, ← Array.toList_inj, Array.toList_extract, List.extract_eq_take_drop, strlen]
    have : i + y.cps.toList.length - i = y.cps.toList.length := by omega
    rw [this]
  exact and_congr_right fun _ => e
theorem infix_iff (y : List Nat) : ∀ x : List Nat, infixB y x = true ↔ ∃ i, i + y.length ≤ x.length ∧ (x.drop i).take y.length = y
  | [] => by
    unfold infixB
    constructor
    · intro h
      have : y = [] := by simpa using h
      subst this
      exact ⟨0, by simp⟩
    · rintro ⟨i, h1, h2⟩
      simp at h1
      simp [h1.2]
  | c :: r => by
    unfold infixB
    rw [Bool.or_eq_true, infix_iff y r, List.isPrefixOf_iff_prefix, List.prefix_iff_eq_take]
    constructor
    · rintro (h | ⟨i, h1, h2⟩)
      · refine ⟨0, ?_, by simpa using h.symm⟩
        have := congrArg List.length h
        rw [List.length_take] at this
        omega
      · exact ⟨i + 1, by simp only [List.length_cons]; omega, by simpa using h2⟩
    · rintro ⟨i, h1, h2⟩
      cases i with
      | zero => exact .inl (by simpa using h2.symm)
      | succ i => exact .inr ⟨i, by simp only [List.length_cons] at h1; omega, by simpa using h2⟩
theorem occ_infix (x y : Str) : (!(Builtin.Str.occurrences x y 0 x.length 1).isEmpty) = infixB y.cps.toList x.cps.toList := by
  rw [Bool.eq_iff_iff]
  rw [PySem.StrLaws.found_iff, infix_iff]
  exact exists_congr fun i => sub_iff x y i
theorem lt_ltB : ∀ (x y : List Nat), decide (x < y) = ltB x y
  | [], [] => by simp [ltB]
  | [], _ :: _ => by simp [ltB]
  | _ :: _, [] => by simp [ltB]
  | a :: x, b :: y => by
    unfold ltB
    by_cases h : a = b
    · subst h
      rw [if_pos rfl, ← lt_ltB x y]
      simp
    · rw [if_neg h]
      simp [List.cons_lt_cons_iff, h]
end R
set_option Elab.async false
set_option linter.all false
set_option maxRecDepth 100000
set_option maxHeartbeats 4000000
/-! Comparisons, and, or, not, if. -/
namespace R
open PySem PySem.Spec PyProof.Rows L2
section
variable {C : Cfg} {X : Cx}
def OpB (C : Cfg) (r : R2) (f : Dat → Dat → Option Bool) : Prop := OpF C r fun a b => (f a b).map .bl
theorem OpB.mk {r : R2} {f : Dat → Dat → Option Bool} (h : ∀ (d1 d2 : Dat) (b : Bool) (x y : V) (H : Hp) (Q : VK), f d1 d2 = some b → Rp C H x d1 → Rp C H y d2 → Q (.bl b) H → r x y H Q) : OpB C r f := by
  intro d1 d2 d g x y H Q hd r1 r2 G q
  obtain ⟨b, hb, rfl⟩ := Option.map_eq_some_iff.mp hd
  exact h d1 d2 b x y H Q hb r1 r2 (q _ H Ext.refl G (.bl b))
theorem room_u {k : Nat} (h : Room k X.A) : X.A.units + 65 < cLine := by have := h.un; omega
theorem eqD_inv {a b : Dat} {k : Bool} (h : eqD a b = some k) : okB a 64 = true ∧ okB b 64 = true ∧ k = eqB a b := by
  unfold eqD at h
  split at h
  · rename_i e
    rw [Bool.and_eq_true] at e
    exact ⟨e.1, e.2, (Option.some.inj h).symm⟩
  · cases h
theorem opb_eq (hK : X.K = C.K) {k : Nat} (hr : Room k X.A) : ∃ r, OpR X (compareOp .Eq) r ∧ OpB C r (cpD .eq) := by
  refine ⟨_, op_eqD (by have := room_u hr; omega), OpB.mk fun d1 d2 b x y H Q h r1 r2 q => ?_⟩
  obtain ⟨o1, o2, rfl⟩ := eqD_inv h
  obtain ⟨p1, s1⟩ := r1.shaped o1
  obtain ⟨p2, s2⟩ := r2.shaped o2
  rw [← hK] at p1 p2
  exact ⟨_, _, p1, p2, s1, s2, by rw [eqv_toPy d1 d2 64 64 o1 o2]; exact q⟩
theorem opb_ne (hK : X.K = C.K) {k : Nat} (hr : Room k X.A) : ∃ r, OpR X (compareOp .NotEq) r ∧ OpB C r (cpD .ne) := by
  refine ⟨_, op_neD (by have := room_u hr; omega), OpB.mk fun d1 d2 b x y H Q h r1 r2 q => ?_⟩
  obtain ⟨b', h2x, rfl⟩ := Option.map_eq_some_iff.mp (show (eqD d1 d2).map (!·) = some b from h)
  obtain ⟨o1, o2, rfl⟩ := eqD_inv h2x
  obtain ⟨p1, s1⟩ := r1.shaped o1
  obtain ⟨p2, s2⟩ := r2.shaped o2
  rw [← hK] at p1 p2
  exact ⟨_, _, p1, p2, s1, s2, by rw [eqv_toPy d1 d2 64 64 o1 o2]; exact q⟩
theorem ltD_inv {a b : Dat} {k : Bool} (h : ltD a b = some k) : (∃ i j, a = .int i ∧ b = .int j ∧ k = decide (i < j)) ∨ (∃ x y, a = .str x ∧ b = .str y ∧ k = ltB x y) := by
  cases a <;> cases b <;> simp only [ltD] at h <;> try cases h
  · exact .inl ⟨_, _, rfl, rfl, rfl⟩
  · exact .inr ⟨_, _, rfl, rfl, rfl⟩
theorem opb_lt : ∃ r, OpR X (compareOp .Lt) r ∧ OpB C r (cpD .lt) := by
  refine ⟨_, op_lt.or op_lt_str, OpB.mk fun d1 d2 b x y H Q h r1 r2 q => ?_⟩
  rcases ltD_inv h with ⟨i, j, rfl, rfl, rfl⟩ | ⟨a, c, rfl, rfl, rfl⟩
  · exact .inl ⟨i, j, r1.int_inv, r2.int_inv, q⟩
  · obtain ⟨x1, rfl, rfl, h1⟩ := r1.str_inv
    obtain ⟨y1, rfl, rfl, h2⟩ := r2.str_inv
    exact .inr ⟨x1, y1, rfl, rfl, by rw [lt_ltB]; exact q⟩
theorem opb_gt : ∃ r, OpR X (compareOp .Gt) r ∧ OpB C r (cpD .gt) := by
  refine ⟨_, op_gt.or op_gt_str, OpB.mk fun d1 d2 b x y H Q h r1 r2 q => ?_⟩
  rcases ltD_inv h with ⟨i, j, rfl, rfl, rfl⟩ | ⟨a, c, rfl, rfl, rfl⟩
  · exact .inl ⟨j, i, r1.int_inv, r2.int_inv, q⟩
  · obtain ⟨x1, rfl, rfl, h1⟩ := r1.str_inv
    obtain ⟨y1, rfl, rfl, h2⟩ := r2.str_inv
    exact .inr ⟨x1, y1, rfl, rfl, by rw [lt_ltB]; exact q⟩
theorem opb_le : ∃ r, OpR X (compareOp .LtE) r ∧ OpB C r (cpD .le) := by
  refine ⟨_, op_le.or op_le_str, OpB.mk fun d1 d2 b x y H Q h r1 r2 q => ?_⟩
  obtain ⟨b', h2x, rfl⟩ := Option.map_eq_some_iff.mp (show (ltD d2 d1).map (!·) = some b from h)
  rcases ltD_inv h2x with ⟨i, j, rfl, rfl, rfl⟩ | ⟨a, c, rfl, rfl, rfl⟩
  · refine .inl ⟨j, i, r1.int_inv, r2.int_inv, ?_⟩
    have e : decide (j ≤ i) = !decide (i < j) := by
      by_cases hij : i < j
      · rw [decide_eq_true hij, decide_eq_false (by omega)]; rfl
      · rw [decide_eq_false hij, decide_eq_true (by omega)]; rfl
    show Q (.bl (decide (j ≤ i))) H
    rw [e]; exact q
  · obtain ⟨x1, rfl, rfl, h1⟩ := r1.str_inv
    obtain ⟨y1, rfl, rfl, h2⟩ := r2.str_inv
    exact .inr ⟨x1, y1, rfl, rfl, by rw [lt_ltB]; exact q⟩
theorem opb_ge : ∃ r, OpR X (compareOp .GtE) r ∧ OpB C r (cpD .ge) := by
  refine ⟨_, op_ge.or op_ge_str, OpB.mk fun d1 d2 b x y H Q h r1 r2 q => ?_⟩
  obtain ⟨b', h2x, rfl⟩ := Option.map_eq_some_iff.mp (show (ltD d1 d2).map (!·) = some b from h)
  rcases ltD_inv h2x with ⟨i, j, rfl, rfl, rfl⟩ | ⟨a, c, rfl, rfl, rfl⟩
  · refine .inl ⟨i, j, r1.int_inv, r2.int_inv, ?_⟩
    have e : decide (j ≤ i) = !decide (i < j) := by
      by_cases hij : i < j
      · rw [decide_eq_true hij, decide_eq_false (by omega)]; rfl
      · rw [decide_eq_false hij, decide_eq_true (by omega)]; rfl
    show Q (.bl (decide (j ≤ i))) H
    rw [e]; exact q
  · obtain ⟨x1, rfl, rfl, h1⟩ := r1.str_inv
    obtain ⟨y1, rfl, rfl, h2⟩ := r2.str_inv
    exact .inr ⟨x1, y1, rfl, rfl, by rw [lt_ltB]; exact q⟩
theorem Rp.isNon {H : Hp} {x : V} {d : Dat} (r : Rp C H x d) : decide (x = .non) = isNonB d := by
  cases r <;> simp [isNonB]
theorem isD_inv {a b : Dat} {k : Bool} (h : isD a b = some k) : (b = .non ∧ k = isNonB a) ∨ (∃ i j, a = .bl i ∧ b = .bl j ∧ k = (i == j)) := by
  cases b with
  | non => simp only [isD] at h; exact .inl ⟨rfl, (Option.some.inj h).symm⟩
  | bl j =>
    cases a <;> simp only [isD] at h <;> try cases h
    exact .inr ⟨_, _, rfl, rfl, rfl⟩
  | _ => cases a <;> simp [isD] at h
theorem opb_is : ∃ r, OpR X (compareOp .Is) r ∧ OpB C r (cpD .is) := by
  refine ⟨_, op_isN.or op_is_bl, OpB.mk fun d1 d2 b x y H Q h r1 r2 q => ?_⟩
  rcases isD_inv h with ⟨rfl, rfl⟩ | ⟨i, j, rfl, rfl, rfl⟩
  · exact .inl ⟨r2.non_inv, by rw [r1.isNon]; exact q⟩
  · exact .inr ⟨i, j, r1.bl_inv, r2.bl_inv, by rw [← Bool.beq_eq_decide_eq]; exact q⟩
theorem opb_isnot : ∃ r, OpR X (compareOp .IsNot) r ∧ OpB C r (cpD .isnot) := by
  refine ⟨_, op_notN.or op_isnot_bl, OpB.mk fun d1 d2 b x y H Q h r1 r2 q => ?_⟩
  obtain ⟨b', h2x, rfl⟩ := Option.map_eq_some_iff.mp (show (isD d1 d2).map (!·) = some b from h)
  rcases isD_inv h2x with ⟨rfl, rfl⟩ | ⟨i, j, rfl, rfl, rfl⟩
  · exact .inl ⟨r2.non_inv, by rw [r1.isNon]; exact q⟩
  · exact .inr ⟨i, j, r1.bl_inv, r2.bl_inv, by rw [← Bool.beq_eq_decide_eq]; exact q⟩
def rInC (K : PySem.W.Frag) (neg : Bool) : R2 := fun x y H Q => ∃ d ds, Dp K H x d ∧ (Dp K H y (.list ds) ∨ Dp K H y (.tuple ds)) ∧ SeqAt.shaped d = true ∧ PyData.canLayAll0 ds = true ∧
  Q (.bl (if neg then !(ds.any fun z => PyData.eqv z d) else ds.any fun z => PyData.eqv z d)) H
theorem op_inC {k : Nat} (hr : Room k X.A) : OpR X (compareOp .In) (rInC X.K false) := by
  intro pins s σ H x y v u Q I rx ry h
  obtain ⟨d, ds, hd, he, sd, se, q⟩ := h
  have hu := room_u hr
  have hd2 := SeqAt.depth_of_shaped sd
  obtain ⟨as, r1⟩ := Dp.reads I d x v hd rx
  have hroom : X.A.units + 1 + min (PyData.depthAll ds) d.depth < cLine := by
    have : min (PyData.depthAll ds) d.depth ≤ d.depth := Nat.min_le_right _ _
    omega
  rcases he with he | he
  · obtain ⟨bs, r2⟩ := Dp.reads I (.list ds) y u he ry
    exact SeqAt.in_list_reads r2 r1 se (SeqAt.canLay_of_shaped sd) hroom ⟨.bl _, H, I, rfl, q⟩
  · obtain ⟨bs, r2⟩ := Dp.reads I (.tuple ds) y u he ry
    exact SeqAt.in_tuple_reads r2 r1 se (SeqAt.canLay_of_shaped sd) hroom ⟨.bl _, H, I, rfl, q⟩
theorem op_notInC {k : Nat} (hr : Room k X.A) : OpR X (compareOp .NotIn) (rInC X.K true) := by
  intro pins s σ H x y v u Q I rx ry h
  obtain ⟨d, ds, hd, he, sd, se, q⟩ := h
  have hu := room_u hr
  have hd2 := SeqAt.depth_of_shaped sd
  obtain ⟨as, r1⟩ := Dp.reads I d x v hd rx
  have hroom : X.A.units + 1 + min (PyData.depthAll ds) d.depth < cLine := by
    have : min (PyData.depthAll ds) d.depth ≤ d.depth := Nat.min_le_right _ _
    omega
  rcases he with he | he
  · obtain ⟨bs, r2⟩ := Dp.reads I (.list ds) y u he ry
    exact SeqAt.notIn_list_reads r2 r1 se (SeqAt.canLay_of_shaped sd) hroom ⟨.bl _, H, I, rfl, q⟩
  · obtain ⟨bs, r2⟩ := Dp.reads I (.tuple ds) y u he ry
    exact SeqAt.notIn_tuple_reads r2 r1 se (SeqAt.canLay_of_shaped sd) hroom ⟨.bl _, H, I, rfl, q⟩
theorem inD_inv {a b : Dat} {k : Bool} (h : inD a b = some k) : (∃ x y, a = .str x ∧ b = .str y ∧ k = infixB x y) ∨
    (∃ ys, (b = .lst ys ∨ b = .tup ys) ∧ okB a 64 = true ∧ okAllB ys 63 = true ∧ k = ys.any fun z => eqB z a) := by
  cases b with
  | str y =>
    cases a <;> simp only [inD] at h <;> try cases h
    exact .inl ⟨_, _, rfl, rfl, rfl⟩
  | lst ys =>
    refine .inr ⟨ys, .inl rfl, ?_⟩
    have h : (if okB a 64 && okAllB ys 63 then some (ys.any fun z => eqB z a) else none) = some k := by cases a <;> exact h
    split at h
    · rename_i e
      rw [Bool.and_eq_true] at e
      exact ⟨e.1, e.2, (Option.some.inj h).symm⟩
    · cases h
  | tup ys =>
    refine .inr ⟨ys, .inr rfl, ?_⟩
    have h : (if okB a 64 && okAllB ys 63 then some (ys.any fun z => eqB z a) else none) = some k := by cases a <;> exact h
    split at h
    · rename_i e
      rw [Bool.and_eq_true] at e
      exact ⟨e.1, e.2, (Option.some.inj h).symm⟩
    · cases h
  | _ => cases a <;> simp [inD] at h
theorem Rp.seqDp {H : Hp} {y : V} {b : Dat} {ys : List Dat} (r : Rp C H y b) (hb : b = .lst ys ∨ b = .tup ys) (ho : okAllB ys 63 = true) :
    (Dp C.K H y (.list (toPyL ys)) ∨ Dp C.K H y (.tuple (toPyL ys))) ∧ PyData.canLayAll0 (toPyL ys) = true := by
  rcases hb with rfl | rfl
  · obtain ⟨a, vs, rfl, t, z, l⟩ := r.lst_inv
    obtain ⟨h1, h2, _⟩ := RpL.dp ys vs 63 l ho
    exact ⟨.inl (.lst t.sq h1), h2⟩
  · obtain ⟨a, vs, rfl, t, z, l⟩ := r.tup_inv
    obtain ⟨h1, h2, _⟩ := RpL.dp ys vs 63 l ho
    exact ⟨.inr (.tup t.sq h1), h2⟩
theorem opb_in (hK : X.K = C.K) {k : Nat} (hr : Room k X.A) : ∃ r, OpR X (compareOp .In) r ∧ OpB C r (cpD .isin) := by
  refine ⟨_, op_in_str.or (op_inC hr), OpB.mk fun d1 d2 b x y H Q h r1 r2 q => ?_⟩
  rcases inD_inv h with ⟨a, c, rfl, rfl, rfl⟩ | ⟨ys, hb, o1, o2, rfl⟩
  · obtain ⟨x1, rfl, rfl, h1⟩ := r1.str_inv
    obtain ⟨y1, rfl, rfl, h2⟩ := r2.str_inv
    exact .inl ⟨x1, y1, rfl, rfl, by rw [occ_infix]; exact q⟩
  · obtain ⟨p1, s1⟩ := r1.shaped o1
    obtain ⟨p2, s2⟩ := r2.seqDp hb o2
    rw [← hK] at p1 p2
    exact .inr ⟨_, _, p1, p2, s1, s2, by rw [any_toPyL d1 o1 ys 63 o2]; exact q⟩
theorem opb_notin (hK : X.K = C.K) {k : Nat} (hr : Room k X.A) : ∃ r, OpR X (compareOp .NotIn) r ∧ OpB C r (cpD .notin) := by
  refine ⟨_, L2.op_notin_str.or (op_notInC hr), OpB.mk fun d1 d2 b x y H Q h r1 r2 q => ?_⟩
  obtain ⟨b', h2x, rfl⟩ := Option.map_eq_some_iff.mp (show (inD d1 d2).map (!·) = some b from h)
  rcases inD_inv h2x with ⟨a, c, rfl, rfl, rfl⟩ | ⟨ys, hb, o1, o2, rfl⟩
  · obtain ⟨x1, rfl, rfl, h1⟩ := r1.str_inv
    obtain ⟨y1, rfl, rfl, h2⟩ := r2.str_inv
    exact .inl ⟨x1, y1, rfl, rfl, by rw [occ_infix]; exact q⟩
  · obtain ⟨p1, s1⟩ := r1.shaped o1
    obtain ⟨p2, s2⟩ := r2.seqDp hb o2
    rw [← hK] at p1 p2
    exact .inr ⟨_, _, p1, p2, s1, s2, by rw [any_toPyL d1 o1 ys 63 o2]; exact q⟩
end
def cpOf : CmpOp → Cp
  | .Eq => .eq
  | .NotEq => .ne
  | .Lt => .lt
  | .LtE => .le
  | .Gt => .gt
  | .GtE => .ge
  | .Is => .is
  | .IsNot => .isnot
  | .In => .isin
  | .NotIn => .notin
theorem opb {X : Cx} {C : Cfg} (o : CmpOp) (hK : X.K = C.K) {k : Nat} (hr : Room k X.A) : ∃ r, OpR X (compareOp o) r ∧ OpB C r (cpD (cpOf o)) := by
  cases o with
  | Eq => exact opb_eq hK hr
  | NotEq => exact opb_ne hK hr
  | Lt => exact opb_lt
  | LtE => exact opb_le
  | Gt => exact opb_gt
  | GtE => exact opb_ge
  | Is => exact opb_is
  | IsNot => exact opb_isnot
  | In => exact opb_in hK hr
  | NotIn => exact opb_notin hK hr
def noSet : Expr → Bool
  | .Set .. => false
  | _ => true
theorem noMark {o : CmpOp} {e : Expr} (h : noSet e = true) : behindInMarks o e = false := by
  cases e <;> first | rfl | exact absurd (show false = true from h) Bool.false_ne_true
theorem sem_cmp {c : Ctx} {o : CmpOp} {a b : Expr} {a' b' : Ex} {pos : Pos} (ha : Sem c a a') (hb : Sem c b b') (hs : noSet b = true) : Sem c (.Compare a [o] [b] pos) (.cmp (cpOf o) a' b') := by
  refine ⟨fun X C W F k M => ?_, rfl⟩
  obtain ⟨r, h1, h2⟩ := opb (X := X) (C := C) o M.K M.room
  refine pe_mono (pe_cmpR h1 (ha.run X C W F k M) (hb.run X C W F k M) (noMark hs)) fun σ H Q q => tOp_of h2 ?_
  unfold den at q
  exact q
theorem semT_cmp {c : Ctx} {o : CmpOp} {a b : Expr} {a' b' : Ex} {pos : Pos} (ha : Sem c a a') (hb : Sem c b b') (hs : noSet b = true) : SemT c (.Compare a [o] [b] pos) (.cmp (cpOf o) a' b') := by
  intro X C W F k M
  obtain ⟨r, h1, h2⟩ := opb (X := X) (C := C) o M.K M.room
  refine pt_mono (pt_cmpR h1 (ha.run X C W F k M) (hb.run X C W F k M) (noMark hs)) fun σ H Q q => tOpT_of h2 ?_
  unfold denB den at q
  exact q
theorem tChain_of {C : Cfg} {W : WX} {r r' : R2} {f f' : Dat → Dat → Option Bool} {fa fb fc : Sl → Mo Dat} (hf : OpB C r f) (hf' : OpB C r' f') {σ : L2.St} {H : Hp} {Q : VK}
    (q : tD C W (fun ρ g => (fa ρ g).bind fun x g => (fb ρ g).bind fun y g => (ofO (f x y) g).bind fun k g => match k with
    | false => .ok (.bl false) g
    | true => (fc ρ g).bind fun z g => ofO ((f' y z).map .bl) g) σ H Q) : tChain r r' (tD C W fa) (tD C W fb) (tD C W fc) σ H Q := by
  obtain ⟨ρ, g, E, G, h⟩ := q
  refine tD_then _ (fun r H => RunE C W r σ H Q) E G h (fun _ _ p => p) id fun d1 g1 x H1 e1 E1 G1 r1 h1 => ?_
  refine tD_then _ (fun r H => RunE C W r σ H Q) E1 G1 (h1.ext e1) (fun _ _ p => p) id fun d2 g2 y H2 e2 E2 G2 r2 h2 => ?_
  have h2 := h2.ext e2
  revert h2
  cases hb : f d1 d2 with
  | none => exact fun h => h.elim
  | some b =>
    intro h2
    refine hf d1 d2 (.bl b) g2 x y H2 _ (by dsimp only; rw [hb]; rfl) (r1.ext e2) r2 G2 fun v H3 e3 G3 r3 => ?_
    cases r3
    refine ⟨b, rfl, ?_⟩
    have h3 := h2.ext e3
    cases b with
    | false => exact h3 _ H3 Ext.refl G3 (.bl false)
    | true =>
      show tD C W fc σ H3 _
      refine tD_then _ (fun r H => RunE C W r σ H Q) (E2.ext e3) G3 h3 (fun _ _ p => p) id fun d4 g4 z H4 e4 E4 G4 r4 h4 => ?_
      obtain ⟨d, hd, hq⟩ := run_ofO (h4.ext e4)
      exact hf' d2 d4 d g4 y z H4 Q hd ((r2.ext e3).ext e4) r4 G4 hq
theorem lastNo {o p : CmpOp} {a b : Expr} (h : noSet b = true) : lastMarks [o, p] [a, b] = false := by
  show behindInMarks p b = false
  exact noMark h
theorem sem_chain {c : Ctx} {o p : CmpOp} {a b d : Expr} {a' b' d' : Ex} {pos : Pos} (ha : Sem c a a') (hb : Sem c b b') (hd : Sem c d d') (hs : noSet d = true) : Sem c (.Compare a [o, p] [b, d] pos) (.chain (cpOf o) (cpOf p) a' b' d') := by
  refine ⟨fun X C W F k M => ?_, rfl⟩
  obtain ⟨r, h1, h2⟩ := opb (X := X) (C := C) o M.K M.room
  obtain ⟨r', h1', h2'⟩ := opb (X := X) (C := C) p M.K M.room
  refine pe_mono (pe_chain h1 h1' (ha.run X C W F k M) (hb.run X C W F k M) (hd.run X C W F k M) (lastNo hs)) fun σ H Q q => tChain_of h2 h2' ?_
  unfold den at q
  exact q
theorem semT_chain {c : Ctx} {o p : CmpOp} {a b d : Expr} {a' b' d' : Ex} {pos : Pos} (ha : Sem c a a') (hb : Sem c b b') (hd : Sem c d d') (hs : noSet d = true) : SemT c (.Compare a [o, p] [b, d] pos) (.chain (cpOf o) (cpOf p) a' b' d') := by
  intro X C W F k M
  obtain ⟨r, h1, h2⟩ := opb (X := X) (C := C) o M.K M.room
  obtain ⟨r', h1', h2'⟩ := opb (X := X) (C := C) p M.K M.room
  refine pt_mono (pt_chain h1 h1' (ha.run X C W F k M) (hb.run X C W F k M) (hd.run X C W F k M) (lastNo hs)) fun σ H Q q => ?_
  show tChain _ _ _ _ _ σ H _
  refine tChain_of h2 h2' (tT_tD ?_)
  unfold denB den at q
  exact q
end R
set_option Elab.async false
set_option linter.all false
set_option maxRecDepth 100000
set_option maxHeartbeats 4000000
/-! and, or, not, if; displays; arguments; calls of defs. -/
namespace R
open PySem PySem.Spec PyProof.Rows L2

/-! ### tests -/
theorem RunB_of {C : Cfg} {W : WX} {σ : L2.St} {H : Hp} {Q : Bool → Hp → Prop} {r : Res Dat} (h : RunB C W (r.bind asB) σ H Q) : RunE C W r σ H fun x H' => ∃ k, x = .bl k ∧ Q k H' := by
  cases r with
  | ok d g1 =>
    intro v H' e G' r
    cases d with
    | bl b => cases r; exact ⟨b, rfl, h H' e G'⟩
    | _ => exact h.elim
  | exc c g1 => exact h
  | bad => exact h
theorem asB_inv {C : Cfg} {W : WX} {σ : L2.St} {H : Hp} {Q : VK} {d : Dat} {g : List Dat} {k : Bool → Mo Dat} (h : RunE C W ((asB d g).bind k) σ H Q) : ∃ b, d = .bl b ∧ RunE C W (k b g) σ H Q := by
  cases d with
  | bl b => exact ⟨b, rfl, h⟩
  | _ => exact h.elim
theorem asB_invB {C : Cfg} {W : WX} {σ : L2.St} {H : Hp} {Q : Bool → Hp → Prop} {d : Dat} {g : List Dat} {k : Bool → Mo Bool} (h : RunB C W ((asB d g).bind k) σ H Q) : ∃ b, d = .bl b ∧ RunB C W (k b g) σ H Q := by
  cases d with
  | bl b => exact ⟨b, rfl, h⟩
  | _ => exact h.elim
/-- an expression with a bool, as a test -/
theorem semT_val {c : Ctx} {e : Expr} {e' : Ex} (h : Sem c e e') (he : ∀ env whole, isTrue e env whole = (do let v ← whole; standAt e.pos; holding [v] (truthy v))) : SemT c e e' := by
  intro X C W F k M
  exact pt_mono (pt_val (h.run X C W F k M) (he _)) fun σ H Q q => tT_tD q
def isBoolE : Expr → Bool
  | .UnaryOp .Not _ _ => true
  | .BoolOp .. => true
  | .IfExp .. => true
  | .Compare .. => true
  | _ => false
theorem isTrue_val {e : Expr} (h : isBoolE e = false) : ∀ env whole, isTrue e env whole = (do let v ← whole; standAt e.pos; holding [v] (truthy v)) := by
  intro env whole
  cases e with
  | UnaryOp op x pos => cases op <;> first | rfl | exact absurd (show true = false from h) (by decide)
  | BoolOp => exact absurd (show true = false from h) (by decide)
  | IfExp => exact absurd (show true = false from h) (by decide)
  | Compare => exact absurd (show true = false from h) (by decide)
  | _ => rfl
theorem sem_not {c : Ctx} {a : Expr} {a' : Ex} {pos : Pos} (ha : Sem c a a') : Sem c (.UnaryOp .Not a pos) (.not a') := by
  refine ⟨fun X C W F k M => ?_, rfl⟩
  refine pe_mono (pe_not (ha.run X C W F k M)) fun σ H Q ⟨ρ, g, E, G, h⟩ => ?_
  unfold den at h
  refine tD_then _ (fun r H => RunE C W r σ H Q) E G h (fun _ _ p => p) id fun d1 g1 x H1 e1 E1 G1 r1 h1 => ?_
  obtain ⟨b, rfl, h1⟩ := asB_inv h1
  exact ⟨b, r1.bl_inv, (h1.ext e1) _ H1 Ext.refl G1 (.bl _)⟩
theorem semT_not {c : Ctx} {a : Expr} {a' : Ex} {pos : Pos} (ha : SemT c a a') : SemT c (.UnaryOp .Not a pos) (.not a') := by
  intro X C W F k M
  refine pt_mono (pt_not (ha X C W F k M)) fun σ H Q ⟨ρ, g, E, G, h⟩ => ?_
  unfold denB den at h
  refine ⟨ρ, g, E, G, ?_⟩
  unfold denB
  revert h
  cases den F a' ρ g with
  | ok d g1 => cases d <;> exact fun h => h
  | exc c g1 => exact fun h => h
  | bad => exact fun h => h
theorem sem_and {c : Ctx} {a b : Expr} {rest : List Expr} {a' b' : Ex} {pos : Pos} (ha : Sem c a a') (hb : Sem c (.BoolOp .And (b :: rest) pos) b') : Sem c (.BoolOp .And (a :: b :: rest) pos) (.and a' b') := by
  refine ⟨fun X C W F k M => ?_, rfl⟩
  refine pe_mono (pe_and (ha.run X C W F k M) (hb.run X C W F k M)) fun σ H Q ⟨ρ, g, E, G, h⟩ => ?_
  unfold den at h
  refine tD_then _ (fun r H => RunE C W r σ H Q) E G h (fun _ _ p => p) id fun d1 g1 x H1 e1 E1 G1 r1 h1 => ?_
  obtain ⟨b, rfl, h1⟩ := asB_inv h1
  refine ⟨b, r1.bl_inv, ?_⟩
  cases b with
  | true => exact ⟨ρ, g1, E1, G1, h1.ext e1⟩
  | false => exact (h1.ext e1) _ H1 Ext.refl G1 (.bl _)
theorem sem_or {c : Ctx} {a b : Expr} {rest : List Expr} {a' b' : Ex} {pos : Pos} (ha : Sem c a a') (hb : Sem c (.BoolOp .Or (b :: rest) pos) b') : Sem c (.BoolOp .Or (a :: b :: rest) pos) (.or a' b') := by
  refine ⟨fun X C W F k M => ?_, rfl⟩
  refine pe_mono (pe_or (ha.run X C W F k M) (hb.run X C W F k M)) fun σ H Q ⟨ρ, g, E, G, h⟩ => ?_
  unfold den at h
  refine tD_then _ (fun r H => RunE C W r σ H Q) E G h (fun _ _ p => p) id fun d1 g1 x H1 e1 E1 G1 r1 h1 => ?_
  obtain ⟨b, rfl, h1⟩ := asB_inv h1
  refine ⟨b, r1.bl_inv, ?_⟩
  cases b with
  | false => exact ⟨ρ, g1, E1, G1, h1.ext e1⟩
  | true => exact (h1.ext e1) _ H1 Ext.refl G1 (.bl _)
theorem sem_bop1 {c : Ctx} {o : BoolOp} {a : Expr} {a' : Ex} {pos : Pos} (ha : Sem c a a') : Sem c (.BoolOp o [a] pos) a' := ⟨fun X C W F k M => pe_one (ha.run X C W F k M), rfl⟩
/-- a chain of and, or as a test -/
def SemW (c : Ctx) (e : Expr) (e' : Ex) : Prop := ∀ X C W F k, Mt X c C W F k → PW X e (tT C W (denB F e'))
theorem pw_mono {X : Cx} {e : Expr} {t t' : TT} (h : PW X e t) (w : ∀ σ H Q, t' σ H Q → t σ H Q) : PW X e t' := ⟨fun wh pins s σ H Q I q => h.run wh pins s σ H Q I (w σ H Q q)⟩
theorem semW_and1 {c : Ctx} {a : Expr} {a' : Ex} {pos : Pos} (ha : SemT c a a') : SemW c (.BoolOp .And [a] pos) a' := fun X C W F k M => pw_and1 (ha X C W F k M)
theorem semW_or1 {c : Ctx} {a : Expr} {a' : Ex} {pos : Pos} (ha : SemT c a a') : SemW c (.BoolOp .Or [a] pos) a' := fun X C W F k M => pw_or1 (ha X C W F k M)
theorem denB_ok {F : Nat → List Dat → Mo Dat} {a : Ex} {ρ : Sl} {g : List Dat} : denB F a ρ g = (den F a ρ g).bind asB := rfl
theorem semW_and {c : Ctx} {a b : Expr} {rest : List Expr} {a' b' : Ex} {pos : Pos} (ha : SemT c a a') (hb : SemW c (.BoolOp .And (b :: rest) pos) b') : SemW c (.BoolOp .And (a :: b :: rest) pos) (.and a' b') := by
  intro X C W F k M
  refine pw_mono (pw_and (ha X C W F k M) (hb X C W F k M)) fun σ H Q ⟨ρ, g, E, G, h⟩ => ?_
  have h : RunB C W ((denB F a' ρ g).bind fun k g => if k = true then denB F b' ρ g else .ok false g) σ H Q := by
    unfold denB den at h
    unfold denB
    revert h
    cases den F a' ρ g with
    | ok d g1 =>
      cases d with
      | bl b => cases b <;> exact fun h => h
      | _ => exact fun h => h
    | exc c g1 => exact fun h => h
    | bad => exact fun h => h
  refine tT_then _ (fun r H => RunB C W r σ H Q) E G h (fun _ _ p => p) id fun d1 g1 H1 e1 E1 G1 h1 => ?_
  cases d1 with
  | true => exact ⟨ρ, g1, E1, G1, h1.ext e1⟩
  | false => exact (h1.ext e1) H1 Ext.refl G1
theorem semW_or {c : Ctx} {a b : Expr} {rest : List Expr} {a' b' : Ex} {pos : Pos} (ha : SemT c a a') (hb : SemW c (.BoolOp .Or (b :: rest) pos) b') : SemW c (.BoolOp .Or (a :: b :: rest) pos) (.or a' b') := by
  intro X C W F k M
  refine pw_mono (pw_or (ha X C W F k M) (hb X C W F k M)) fun σ H Q ⟨ρ, g, E, G, h⟩ => ?_
  have h : RunB C W ((denB F a' ρ g).bind fun k g => if k = true then .ok true g else denB F b' ρ g) σ H Q := by
    unfold denB den at h
    unfold denB
    revert h
    cases den F a' ρ g with
    | ok d g1 =>
      cases d with
      | bl b => cases b <;> exact fun h => h
      | _ => exact fun h => h
    | exc c g1 => exact fun h => h
    | bad => exact fun h => h
  refine tT_then _ (fun r H => RunB C W r σ H Q) E G h (fun _ _ p => p) id fun d1 g1 H1 e1 E1 G1 h1 => ?_
  cases d1 with
  | false => exact ⟨ρ, g1, E1, G1, h1.ext e1⟩
  | true => exact (h1.ext e1) H1 Ext.refl G1
theorem semT_W {c : Ctx} {e : Expr} {e' : Ex} (h : SemW c e e') : SemT c e e' := fun X C W F k M => (h X C W F k M).pt
theorem sem_ifx {c : Ctx} {t a b : Expr} {t' a' b' : Ex} {pos : Pos} (ht : SemT c t t') (ha : Sem c a a') (hb : Sem c b b') : Sem c (.IfExp t a b pos) (.ifx t' a' b') := by
  refine ⟨fun X C W F k M => ?_, rfl⟩
  refine pe_mono (pe_ifExp (ht X C W F k M) (ha.run X C W F k M) (hb.run X C W F k M)) fun σ H Q ⟨ρ, g, E, G, h⟩ => ?_
  have h : RunE C W ((denB F t' ρ g).bind fun k g => if k = true then den F a' ρ g else den F b' ρ g) σ H Q := by
    unfold den at h
    unfold denB
    revert h
    cases den F t' ρ g with
    | ok d g1 =>
      cases d with
      | bl b => cases b <;> exact fun h => h
      | _ => exact fun h => h
    | exc c g1 => exact fun h => h
    | bad => exact fun h => h
  refine tT_then _ (fun r H => RunE C W r σ H Q) E G h (fun _ _ p => p) id fun d1 g1 H1 e1 E1 G1 h1 => ?_
  cases d1 with
  | true => exact ⟨ρ, g1, E1, G1, h1.ext e1⟩
  | false => exact ⟨ρ, g1, E1, G1, h1.ext e1⟩

/-! ### argument lists, displays -/
theorem semL_nil {c : Ctx} : SemL c [] [] := by
  refine ⟨fun X C W F k M => ?_, fun _ _ => rfl⟩
  refine pa_mono pa_nil fun σ H Q ⟨ρ, g, E, G, h⟩ => ?_
  unfold denL at h
  exact h [] H Ext.refl G .nil
theorem semL_cons {c : Ctx} {e : Expr} {es : List Expr} {e' : Ex} {es' : List Ex} (h1 : Sem c e e') (h2 : SemL c es es') : SemL c (e :: es) (e' :: es') := by
  refine ⟨fun X C W F k M => ?_, fun env pos => ?_⟩
  · refine pa_mono (pa_cons (h1.run X C W F k M) (h2.run X C W F k M) (star_plain h1.plain)) fun σ H Q ⟨ρ, g, E, G, h⟩ => ?_
    unfold denL at h
    refine tD_then _ (fun r H => RunL C W r σ H Q) E G h (fun _ _ p => p) id fun d1 g1 x H1 e1 E1 G1 r1 h1 => ?_
    refine tA_then _ (fun r H => RunL C W r σ H Q) E1 G1 (h1.ext e1) (fun _ _ p => p) id fun d2 g2 y H2 e2 E2 G2 r2 h2 => ?_
    exact (h2.ext e2) _ H2 Ext.refl G2 (.cons (r1.ext e2) r2)
  · rw [star_plain h1.plain]
    show (backTo pos (starEach es env)).any (·.1) = false
    exact h2.plain env pos
theorem sem_tup {c : Ctx} {es : List Expr} {es' : List Ex} {n : Nat} {pos : Pos} (h : SemL c es es') (hz : es'.length ≤ 16777216) : Sem c (.Tuple es n pos) (.tup es') := by
  refine ⟨fun X C W F k M => ?_, rfl⟩
  refine pe_mono (pe_tup (h.run X C W F k M)) fun σ H Q ⟨ρ, g, E, G, h⟩ => ?_
  unfold den at h
  have hlen : ∀ (es : List Ex) (ρ : Sl) (g : List Dat) (ds : List Dat) (g' : List Dat), denL F es ρ g = .ok ds g' → ds.length = es.length := by
    intro es
    induction es with
    | nil => intro ρ g ds g' h; unfold denL at h; cases h; rfl
    | cons e es ih =>
      intro ρ g ds g' h
      unfold denL at h
      cases h1 : den F e ρ g with
      | ok d g1 =>
        rw [h1] at h
        cases h2 : denL F es ρ g1 with
        | ok ds1 g2 =>
          have h : ((denL F es ρ g1).bind fun xs g => Res.ok (d :: xs) g) = .ok ds g' := h
          rw [h2] at h
          cases h
          simp [ih _ _ _ _ h2]
        | exc c g2 => have h : ((denL F es ρ g1).bind fun xs g => Res.ok (d :: xs) g) = .ok ds g' := h; rw [h2] at h; cases h
        | bad => have h : ((denL F es ρ g1).bind fun xs g => Res.ok (d :: xs) g) = .ok ds g' := h; rw [h2] at h; cases h
      | exc c g1 => rw [h1] at h; cases h
      | bad => rw [h1] at h; cases h
  refine ⟨ρ, g, E, G, ?_⟩
  revert h
  cases hd : denL F es' ρ g with
  | ok ds g1 =>
    intro h vs H1 e1 G1 r1
    have hl := hlen es' ρ g ds g1 hd
    have e := r1.len
    have hs : sizeLine = 16777216 := sizeLine_eq
    refine ⟨by omega, fun p hp => ?_⟩
    exact h _ _ (e1.trans (Ext.new hp)) (G1.new hp) (.newT G1 hp (by omega) r1)
  | exc c g1 => exact fun h => h
  | bad => exact fun h => h
theorem denL_len {F : Nat → List Dat → Mo Dat} : ∀ {es : List Ex} {ρ : Sl} {g : List Dat} {ds : List Dat} {g' : List Dat}, denL F es ρ g = .ok ds g' → ds.length = es.length := by
  intro es
  induction es with
  | nil => intro ρ g ds g' h; unfold denL at h; cases h; rfl
  | cons e es ih =>
    intro ρ g ds g' h
    unfold denL at h
    cases h1 : den F e ρ g with
    | ok d g1 =>
      rw [h1] at h
      cases h2 : denL F es ρ g1 with
      | ok ds1 g2 =>
        have h : ((denL F es ρ g1).bind fun xs g => Res.ok (d :: xs) g) = .ok ds g' := h
        rw [h2] at h
        cases h
        simp [ih h2]
      | exc c g2 => have h : ((denL F es ρ g1).bind fun xs g => Res.ok (d :: xs) g) = .ok ds g' := h; rw [h2] at h; cases h
      | bad => have h : ((denL F es ρ g1).bind fun xs g => Res.ok (d :: xs) g) = .ok ds g' := h; rw [h2] at h; cases h
    | exc c g1 => rw [h1] at h; cases h
    | bad => rw [h1] at h; cases h
/-- a list display, told to be new -/
theorem tLst_new {X : Cx} {C : Cfg} {W : WX} {F : Nat → List Dat → Mo Dat} {es' : List Ex} {σ : L2.St} {H : Hp} {Q : VK} {ρ : Sl} {g : List Dat} (hz : es'.length ≤ 16777216) (E : EnvR C H σ ρ) (G : GR C g H)
    (h : match denL F es' ρ g with
      | .ok ds g1 => ∀ p H1 vs, Ext C H H1 → GR C g1 H1 → RpL C H1 vs ds → H1 p = none → ds.length ≤ sizeLine → Q (.ref p) (upd H1 p (.lst vs))
      | .exc c g1 => ∀ H', Ext C H H' → GR C g1 H' → W (C.ex c) none σ H'
      | .bad => False) : tLst (tA C W (denL F es')) σ H Q := by
  refine ⟨ρ, g, E, G, ?_⟩
  revert h
  cases hd : denL F es' ρ g with
  | ok ds g1 =>
    intro h vs H1 e1 G1 r1
    have hl := denL_len hd
    have e := r1.len
    have hs : sizeLine = 16777216 := sizeLine_eq
    exact ⟨by omega, fun p hp => h p H1 vs e1 G1 r1 hp (by omega)⟩
  | exc c g1 => exact fun h => h
  | bad => exact fun h => h
theorem sem_lst {c : Ctx} {es : List Expr} {es' : List Ex} {pos : Pos} (h : SemL c es es') (hz : es'.length ≤ 16777216) : Sem c (.List es pos) (.lst es') := by
  refine ⟨fun X C W F k M => ?_, rfl⟩
  refine pe_mono (pe_lst (h.run X C W F k M)) fun σ H Q ⟨ρ, g, E, G, h⟩ => tLst_new (X := X) hz E G ?_
  unfold den at h
  revert h
  cases hd : denL F es' ρ g with
  | ok ds g1 => exact fun h p H1 vs e1 G1 r1 hp hl => h _ _ (e1.trans (Ext.new hp)) (G1.new hp) (.newL G1 hp hl r1)
  | exc c g1 => exact fun h => h
  | bad => exact fun h => h

/-! ### a def called -/
theorem sp_call {X : Cx} {C : Cfg} {W : WX} {F : Nat → List Dat → Mo Dat} {i n : Nat} {fresh : Bool} {es' : List Ex} {σ : L2.St} {H : Hp} {Q : VK} {ρ : Sl} {g : List Dat} (hn : es'.length = n) (E : EnvR C H σ ρ) (G : GR C g H)
    (h : RunE C W ((denL F es' ρ g).bind fun xs g => F i xs g) σ H Q) : tCallS (spD C n fresh (F i)) (WE W) (tA C W (denL F es')) σ H Q := by
  refine ⟨ρ, g, E, G, ?_⟩
  revert h
  cases hd : denL F es' ρ g with
  | ok ds g1 =>
    intro h vs H1 e1 G1 r1
    have hl := denL_len hd
    have e := r1.len
    refine ⟨by omega, C.cup, C.M, ds, g1, r1, G1, ?_⟩
    have h1 : RunE C W (F i ds g1) σ H1 Q := RunE.ext h e1
    revert h1
    show RunE C W (F i ds g1) σ H1 Q → RunF C fresh (F i ds g1) H1 Q (WE W σ)
    cases F i ds g1 with
    | ok d g2 => exact fun h v H' e G' r _ => h v H' e G' r
    | exc c g2 => exact fun h H' e G' => h H' e G'
    | bad => exact fun h => h
  | exc c g1 => exact fun h => h
  | bad => exact fun h => h
theorem sem_call {c : Ctx} {x : Str} {i n : Nat} {e : Expr} {es : List Expr} {e' : Ex} {es' : List Ex} {p pos : Pos} (hg : kindB c.sc x = some .globalImplicit) (hl : c.fns.lookup x = some (i, n)) (hd : dbgB x = false) (hn : (e' :: es').length = n)
    (h1 : Sem c e e') (h2 : SemL c es es') : Sem c (.Call (.Name x p) (e :: es) [] pos) (.call i (e' :: es')) := by
  refine ⟨fun X C W F k M => ?_, rfl⟩
  obtain ⟨d1, d2, d3⟩ := dbg_of hd
  obtain ⟨m1, m2, fd, ps, hp, fo, hb⟩ := M.fns x i n hl
  have ha := (semL_cons h1 h2).run X C W F k M
  refine pe_mono (pe_callS fo M.room (show X.env.scope.names.lookup x = some .globalImplicit by rw [M.sc]; exact hg) m1 m2 hb (fun σ => passAt M.tk σ) ha d1 (star_plain h1.plain) (h2.plain _ _)) fun σ H Q ⟨ρ, g, E, G, h⟩ => ?_
  unfold den at h
  exact sp_call (X := X) hn E G h
end R
set_option Elab.async false
set_option linter.all false
set_option maxRecDepth 100000
set_option maxHeartbeats 4000000
/-! Subscripts, slices, built-in functions, methods, isinstance. -/
namespace R
open PySem PySem.Spec PyProof.Rows L2

/-! ### a[b] -/
def noSlice : Expr → Bool
  | .Slice .. => false
  | _ => true
theorem plainIx {b : Expr} (h : noSlice b = true) : PlainIx b := by
  intro o i
  cases b <;> first | rfl | exact absurd (show false = true from h) Bool.false_ne_true
theorem ixD_eq (n : Nat) (i : Int) : ixD n i = ixN n i := rfl
theorem RpL.atI {C : Cfg} {H : Hp} {vs : List V} {ds : List Dat} (r : RpL C H vs ds) {i : Int} {d : Dat} (h : atD ds i = some d) : ∃ v, L2.atI vs i = some v ∧ Rp C H v d := by
  unfold atD at h
  unfold L2.atI
  rw [ixD_eq] at h
  rw [r.len]
  cases e : ixN ds.length i with
  | none => rw [e] at h; cases h
  | some j =>
    rw [e] at h
    exact r.get (show ds[j]? = some d from h)
/-- a subscript's reading: what GR tells of the cup is needed -/
theorem sem_ix {c : Ctx} {a b : Expr} {a' b' : Ex} {pos : Pos} (ha : Sem c a a') (hb : Sem c b b') (hs : noSlice b = true) : Sem c (.Subscript a b pos) (.ix a' b') := by
  refine ⟨fun X C W F k M => ?_, rfl⟩
  refine pe_mono (pe_ix ix_seq (ha.run X C W F k M) (hb.run X C W F k M) (plainIx hs)) fun σ H Q q => ?_
  unfold den at q
  obtain ⟨ρ, g, E, G, h⟩ := q
  refine tD_then _ (fun r H => RunE C W r σ H Q) E G h (fun _ _ p => p) id fun d1 g1 x H1 e1 E1 G1 r1 h1 => ?_
  refine tD_then _ (fun r H => RunE C W r σ H Q) E1 G1 (h1.ext e1) (fun _ _ p => p) id fun d2 g2 y H2 e2 E2 G2 r2 h2 => ?_
  obtain ⟨d, hd, hq⟩ := run_ofO (h2.ext e2)
  have r1 := r1.ext e2
  have hK := M.K
  cases d2 with
  | int i =>
    cases d1 with
    | tup xs =>
      obtain ⟨p, vs, rfl, t, z, l⟩ := r1.tup_inv
      obtain ⟨v, hv, rv⟩ := l.atI (show atD xs i = some d from hd)
      exact .inr (.inl ⟨p, vs, i, v, rfl, r2.int_inv, by rw [hK]; exact t.sq, hv, hq v H2 Ext.refl G2 rv⟩)
    | lst xs =>
      obtain ⟨p, vs, rfl, t, z, l⟩ := r1.lst_inv
      obtain ⟨v, hv, rv⟩ := l.atI (show atD xs i = some d from hd)
      exact .inl ⟨p, vs, i, v, rfl, r2.int_inv, by rw [hK]; exact t.sq, hv, hq v H2 Ext.refl G2 rv⟩
    | str s =>
      obtain ⟨x1, rfl, rfl, hs1⟩ := r1.str_inv
      obtain ⟨c, hc, rfl⟩ := Option.map_eq_some_iff.mp (show (atD x1.cps.toList i).map (fun c => Dat.str [c]) = some d from hd)
      have hm : c ∈ x1.cps.toList := by
        unfold atD at hc
        cases e : ixD x1.cps.toList.length i with
        | none => rw [e] at hc; cases hc
        | some j => rw [e] at hc; exact List.mem_of_getElem? hc
      refine .inr (.inr ⟨x1, i, c, rfl, r2.int_inv, hs1.1, hc, hq _ H2 Ext.refl G2 (.strL (l := [c]) ?_)⟩)
      refine ⟨by rw [sizeLine_eq]; show 1 ≤ _; decide, fun c' hc' => ?_⟩
      have : c' = c := by simpa using hc'
      subst this
      exact hs1.2 _ hm
    | cup =>
      cases r1 with
      | @cup a hcup =>
        obtain ⟨vs, h3, l⟩ := G2.2 a hcup
        obtain ⟨v, hv, rv⟩ := l.atI (show atD g2 i = some d from hd)
        exact .inl ⟨a, vs, i, v, rfl, r2.int_inv, SqL.of h3, hv, hq v H2 Ext.refl G2 rv⟩
    | _ => cases hd
  | _ => cases d1 <;> cases hd

/-! ### a[lo:hi] -/
inductive PtR : Option Int → Dat → Prop
  | none : PtR none .non
  | some (i : Int) : PtR (some i) (.int i)
def tPt (C : Cfg) (W : WX) (f : Sl → Mo Dat) : TO := fun σ H Q => tD C W f σ H fun x H1 => ∃ i, x = .int i ∧ Q (some i) H1
/-- a slice's part: none is written, or an int -/
def SemP (c : Ctx) (e : Option Expr) (e' : Ex) : Prop := ∀ X C W F k, Mt X c C W F k → PO X e fun σ H Q => ∃ ρ g, EnvR C H σ ρ ∧ GR C g H ∧ match den F e' ρ g with
  | .ok d g1 => ∀ o H1, Ext C H H1 → GR C g1 H1 → PtR o d → Q o H1
  | .exc c g1 => ∀ H', Ext C H H' → GR C g1 H' → W (C.ex c) none σ H'
  | .bad => False
theorem po_mono {X : Cx} {e : Option Expr} {t t' : TO} (h : PO X e t) (w : ∀ σ H Q, t' σ H Q → t σ H Q) : PO X e t' := ⟨fun pins s σ H Q I q => h.run pins s σ H Q I (w σ H Q q)⟩
theorem semP_none {c : Ctx} : SemP c none (.con .non) := by
  intro X C W F k M
  refine po_mono po_none fun σ H Q ⟨ρ, g, E, G, h⟩ => ?_
  unfold den at h
  exact h none H Ext.refl G .none
theorem semP_some {c : Ctx} {e : Expr} {e' : Ex} (h : Sem c e e') : SemP c (some e) (.asInt e') := by
  intro X C W F k M
  refine po_mono (po_some (h.run X C W F k M)) fun σ H Q ⟨ρ, g, E, G, h⟩ => ?_
  unfold den at h
  show tD C W (den F e') σ H fun x H1 => ∃ i, x = .int i ∧ Q (some i) H1
  refine ⟨ρ, g, E, G, ?_⟩
  revert h
  cases den F e' ρ g with
  | ok d g1 =>
    intro h v H1 e1 G1 r1
    cases d with
    | int i => exact ⟨i, r1.int_inv, h (some i) H1 e1 G1 (.some i)⟩
    | _ => exact h.elim
  | exc c g1 => exact fun h => h
  | bad => exact fun h => h
theorem bndD_sIx {n d : Nat} {o : Option Int} {x : Dat} (p : PtR o x) : bndD n d x = some (HT.sIx n d o) := by
  cases p <;> rfl
theorem cutD_eq {α : Type} {xs : List α} {l h : Option Int} {lo hi : Dat} (pl : PtR l lo) (ph : PtR h hi) : cutD xs lo hi = some ((xs.drop (HT.sIx xs.length 0 l)).take (HT.sIx xs.length xs.length h - HT.sIx xs.length 0 l)) := by
  unfold cutD
  rw [bndD_sIx pl, bndD_sIx ph]
  rfl
theorem RpL.cut {C : Cfg} {H : Hp} {vs : List V} {ds : List Dat} (r : RpL C H vs ds) (l h : Option Int) :
    RpL C H (cutV vs l h) ((ds.drop (HT.sIx ds.length 0 l)).take (HT.sIx ds.length ds.length h - HT.sIx ds.length 0 l)) := by
  unfold cutV
  rw [r.len]
  exact (r.drop _).take _
theorem sem_sl {c : Ctx} {a : Expr} {lo hi : Option Expr} {a' lo' hi' : Ex} {p pos : Pos} (ha : Sem c a a') (hl : SemP c lo lo') (hh : SemP c hi hi') : Sem c (.Subscript a (.Slice lo hi none p) pos) (.sl a' lo' hi') := by
  refine ⟨fun X C W F k M => ?_, rfl⟩
  refine pe_mono (pe_slice (sl_list.or ((sl_tupA (X := X)).or sl_str)) (ha.run X C W F k M) (hl X C W F k M) (hh X C W F k M)) fun σ H Q q => ?_
  unfold den at q
  obtain ⟨ρ, g, E, G, h⟩ := q
  refine tD_then _ (fun r H => RunE C W r σ H Q) E G h (fun _ _ p => p) id fun d1 g1 x H1 e1 E1 G1 r1 h1 => ?_
  have h1 := h1.ext e1
  refine ⟨ρ, g1, E1, G1, ?_⟩
  revert h1
  cases den F lo' ρ g1 with
  | bad => exact fun h => h
  | exc c g => exact fun h => h
  | ok dl g2 =>
    intro h1 l H2 e2 G2 pl
    have E2 := E1.ext e2
    have h2 := RunE.ext h1 e2
    refine ⟨ρ, g2, E2, G2, ?_⟩
    revert h2
    show RunE C W ((den F hi' ρ g2).bind fun h g => ofO (sliceD d1 dl h) g) σ H2 Q → _
    cases den F hi' ρ g2 with
    | bad => exact fun h => h
    | exc c g => exact fun h => h
    | ok dh g3 =>
      intro h2 u H3 e3 G3 ph
      obtain ⟨d, hd, hq⟩ := run_ofO (o := sliceD d1 dl dh) (RunE.ext h2 e3)
      have r1 := (r1.ext e2).ext e3
      have hK := M.K
      cases d1 with
      | tup xs =>
        obtain ⟨p, vs, rfl, t, z, r⟩ := r1.tup_inv
        have hd : (cutD xs dl dh).map Dat.tup = some d := hd
        rw [cutD_eq pl ph] at hd
        cases hd
        refine .inr (.inl ⟨p, vs, rfl, by rw [hK]; exact t.sq, fun hw => ?_, fun hw q hp => ?_⟩)
        · have hrc := r.cut l u
          rw [r.len] at hw
          rw [hw.1, hw.2] at hq
          refine hq _ H3 Ext.refl G3 (.tup t (by simp only [List.drop_zero, Nat.sub_zero, List.take_length]; exact z) ?_)
          simp only [List.drop_zero, Nat.sub_zero, List.take_length]
          exact r
        · exact hq _ _ (Ext.new hp) (G3.new hp) (.newT G3 hp (by rw [List.length_take, List.length_drop]; omega) (r.cut l u))
      | lst xs =>
        obtain ⟨p, vs, rfl, t, z, r⟩ := r1.lst_inv
        have hd : (cutD xs dl dh).map Dat.lst = some d := hd
        rw [cutD_eq pl ph] at hd
        cases hd
        refine .inl ⟨p, vs, rfl, by rw [hK]; exact t.sq, fun q hp => ?_⟩
        exact hq _ _ (Ext.new hp) (G3.new hp) (.newL G3 hp (by rw [List.length_take, List.length_drop]; omega) (r.cut l u))
      | str s =>
        obtain ⟨x1, rfl, rfl, hs1⟩ := r1.str_inv
        have hd : (cutD x1.cps.toList dl dh).map Dat.str = some d := hd
        rw [cutD_eq pl ph] at hd
        cases hd
        refine .inr (.inr ⟨x1, rfl, hs1.1, ?_⟩)
        refine hq _ H3 Ext.refl G3 (.strE ?_ ?_)
        · exact ⟨Nat.le_trans (cutS_length x1 l u) hs1.1, fun c hc => hs1.2 c (List.mem_of_mem_drop (List.mem_of_mem_take (show c ∈ _ from hc)))⟩
        · show (cutS x1 l u).cps.toList = _
          unfold cutS
          rw [strlen]
      | _ => cases hd
theorem sem_rev {c : Ctx} {a : Expr} {a' : Ex} {k : Nat} {p1 p2 p3 pos : Pos} (ha : Sem c a a') : Sem c (.Subscript a (.Slice none none (some (.UnaryOp .USub (.Constant (.int 1) k p1) p2)) p3) pos) (.rev a') := by
  refine ⟨fun X C W F k M => ?_, rfl⟩
  refine pe_mono (pe_revL (ha.run X C W F k M)) fun σ H Q ⟨ρ, g, E, G, h⟩ => ?_
  unfold den at h
  refine tD_then _ (fun r H => RunE C W r σ H Q) E G h (fun _ _ p => p) id fun d1 g1 x H1 e1 E1 G1 r1 h1 => ?_
  have h1 := h1.ext e1
  cases d1 with
  | lst xs =>
    obtain ⟨p, vs, rfl, t, z, r⟩ := r1.lst_inv
    refine ⟨p, vs, rfl, by rw [M.K]; exact t.sq, fun q hp => ?_⟩
    exact h1 _ _ (Ext.new hp) (G1.new hp) (.newL G1 hp (by rw [List.length_reverse]; exact z) r.reverse)
  | _ => exact h1.elim
theorem sem_neg {c : Ctx} {a : Expr} {a' : Ex} {pos : Pos} (ha : Sem c a a') : Sem c (.UnaryOp .USub a pos) (.neg a') := by
  refine ⟨fun X C W F k M => ?_, rfl⟩
  refine pe_mono (pe_un un_neg (ha.run X C W F k M)) fun σ H Q ⟨ρ, g, E, G, h⟩ => ?_
  unfold den at h
  refine tD_then _ (fun r H => RunE C W r σ H Q) E G h (fun _ _ p => p) id fun d1 g1 x H1 e1 E1 G1 r1 h1 => ?_
  have h1 := h1.ext e1
  cases d1 with
  | int i => exact ⟨i, r1.int_inv, h1 _ H1 Ext.refl G1 (.int _)⟩
  | _ => exact h1.elim

/-! ### built-in functions of one argument -/
/-- what the call's own reading asks, from the plain function -/
def BiF (C : Cfg) (r : List V → Hp → VK → Prop) (f : Dat → Option Dat) : Prop := ∀ (d1 d : Dat) (g : List Dat) (x : V) (H : Hp) (Q : VK), f d1 = some d → Rp C H x d1 → GR C g H →
  (∀ v H', Ext C H H' → GR C g H' → Rp C H' v d → Q v H') → r [x] H Q
theorem tCB_of {X : Cx} {C : Cfg} {W : WX} {r : List V → Hp → VK → Prop} {f : Dat → Option Dat} {F : Nat → List Dat → Mo Dat} {a' : Ex} (hf : BiF C r f) {σ : L2.St} {H : Hp} {Q : VK}
    (q : tD C W (fun ρ g => (den F a' ρ g).bind fun x g => ofO (f x) g) σ H Q) : tCB r (tA C W (denL F [a'])) σ H Q := by
  obtain ⟨ρ, g, E, G, h⟩ := q
  refine ⟨ρ, g, E, G, ?_⟩
  unfold denL denL
  revert h
  dsimp only
  cases den F a' ρ g with
  | ok d1 g1 =>
    intro h vs H1 e1 G1 l1
    cases l1 with
    | cons r1 l2 =>
      cases l2
      obtain ⟨d, hd, hq⟩ := run_ofO (o := f d1) (RunE.ext h e1)
      exact hf d1 d g1 _ H1 Q hd r1 G1 hq
  | exc c g1 => exact fun h => h
  | bad => exact fun h => h
theorem semL_one {c : Ctx} {e : Expr} {e' : Ex} (h : Sem c e e') : SemL c [e] [e'] := semL_cons h semL_nil
theorem sem_bi {c : Ctx} {b : Bi} {x : Str} {id : String} {a : Expr} {a' : Ex} {p pos : Pos} (hg : kindB c.sc x = some .globalImplicit) (hx : x ∈ biNames) (hd : dbgB x = false) (hv : bootBuiltins x = some (.builtin id))
    (ha : Sem c a a') (h : ∀ X C W F k, Mt X c C W F k → ∃ r, CallR X (.builtin id) r ∧ BiF C r (biD b)) : Sem c (.Call (.Name x p) [a] [] pos) (.bi b a') := by
  refine ⟨fun X C W F k M => ?_, rfl⟩
  obtain ⟨d1, d2, d3⟩ := dbg_of hd
  obtain ⟨r, h1, h2⟩ := h X C W F k M
  refine pe_mono (pe_callB h1 (show X.env.scope.names.lookup x = some .globalImplicit by rw [M.sc]; exact hg) (M.bi x hx) hv ((semL_one ha).run X C W F k M) d3 d1 (star_plain ha.plain) rfl) fun σ H Q q => tCB_of (X := X) h2 ?_
  unfold den at q
  exact q
theorem sem_biT {c : Ctx} {b : Bi} {x : Str} {T : String} {a : Expr} {a' : Ex} {p pos : Pos} (hg : kindB c.sc x = some .globalImplicit) (hx : x ∈ biNames) (hd : dbgB x = false) (hv : bootBuiltins x = some (.type T))
    (ha : Sem c a a') (h : ∀ X C W F k, Mt X c C W F k → ∃ r, CallR X (.type T) r ∧ BiF C r (biD b)) : Sem c (.Call (.Name x p) [a] [] pos) (.bi b a') := by
  refine ⟨fun X C W F k M => ?_, rfl⟩
  obtain ⟨d1, d2, d3⟩ := dbg_of hd
  obtain ⟨r, h1, h2⟩ := h X C W F k M
  refine pe_mono (pe_callTy h1 (show X.env.scope.names.lookup x = some .globalImplicit by rw [M.sc]; exact hg) (M.bi x hx) hv ((semL_one ha).run X C W F k M) d3 d1 (star_plain ha.plain) rfl) fun σ H Q q => tCB_of (X := X) h2 ?_
  unfold den at q
  exact q
section
variable {C : Cfg} {X : Cx}
theorem bif_len (hK : X.K = C.K) : ∃ r, CallR X (.builtin "len") r ∧ BiF C r (biD .len) := by
  refine ⟨_, call_len, fun d1 d g x H Q hd r1 G q => ?_⟩
  cases d1 <;> simp only [biD] at hd <;> try cases hd
  · obtain ⟨x1, rfl, rfl, h1⟩ := r1.str_inv
    exact ⟨_, _, rfl, ⟨h1.1, rfl⟩, by rw [strlen]; exact q _ H Ext.refl G (.int _)⟩
  · obtain ⟨p, vs, rfl, t, z, l⟩ := r1.tup_inv
    exact ⟨_, _, rfl, .inr ⟨vs, by rw [hK]; exact t.sq, rfl⟩, by rw [l.len]; exact q _ H Ext.refl G (.int _)⟩
  · obtain ⟨p, vs, rfl, t, z, l⟩ := r1.lst_inv
    exact ⟨_, _, rfl, .inl ⟨vs, t.sq, rfl⟩, by rw [l.len]; exact q _ H Ext.refl G (.int _)⟩
theorem bif_tuple (hK : X.K = C.K) : ∃ r, CallR X (.type "tuple") r ∧ BiF C r (biD .tuple) := by
  refine ⟨_, call_tuple_of, fun d1 d g x H Q hd r1 G q => ?_⟩
  cases d1 <;> simp only [biD] at hd <;> try cases hd
  · obtain ⟨p, vs, rfl, t, z, l⟩ := r1.tup_inv
    exact ⟨p, vs, rfl, .inr ⟨by rw [hK]; exact t.sq, q _ H Ext.refl G r1⟩⟩
  · obtain ⟨p, vs, rfl, t, z, l⟩ := r1.lst_inv
    exact ⟨p, vs, rfl, .inl ⟨t.sq, fun l' hp => q _ _ (Ext.new hp) (G.new hp) (.newT G hp z l)⟩⟩
theorem call_listStr (hc : X.calm = true) : CallR X (.type "list") (fun xs H Q => ∃ z : Str, xs = [.str z] ∧ z.length ≤ sizeLine ∧ ∀ l, H l = none → Q (.ref l) (upd H l (.lst (z.cps.toList.map fun c => V.str ⟨#[c]⟩)))) := by
  intro pins s σ H xs us Q I r h
  obtain ⟨z, rfl, hz, q⟩ := h
  obtain ⟨u, rfl, t, rfl⟩ := vals1 r
  refine call_list_str (I.ok.hd hc) z t (hn := hz) fun h' tk acc' c' hk hS' hacc => ?_
  have hv : Vals (z.cps.toList.map fun c => V.str ⟨#[c]⟩) acc'.toList := by
    have key : ∀ (cs : List Nat) (us : List Value), us.length = cs.length → (∀ (j : Nat) (v : Value), us[j]? = some v → ∃ (c : Nat) (u : Tok), cs[j]? = some c ∧ v = Value.str ⟨#[c]⟩ u) → Vals (cs.map fun c => V.str ⟨#[c]⟩) us := by
      intro cs
      induction cs with
      | nil => intro us hl _; cases us with | nil => exact .nil | cons _ _ => simp at hl
      | cons c cs ih =>
        intro us hl hj
        cases us with
        | nil => simp at hl
        | cons v us =>
          obtain ⟨c', u, e1, e2⟩ := hj 0 v rfl
          have e1 : c = c' := by simpa using e1
          subst e1
          exact .cons ⟨u, e2⟩ (ih us (by simpa using hl) fun j w hw => by simpa using hj (j + 1) w (by simpa using hw))
    refine key _ _ (by rw [Array.length_toList, hacc.1, Array.length_toList]) fun j v hv => ?_
    obtain ⟨c, u, hc, e⟩ := hacc.2 j v (by rw [← Array.getElem?_toList]; exact hv)
    exact ⟨c, u, by rw [Array.getElem?_toList]; exact hc, e⟩
  refine ⟨.ref s.heap.objs.size, _, I.laid (t' := tk) hk (Nat.le_refl _) (show ObjOk X.prog X.w _ h' _ (.lst _) from ⟨?_, acc'.toList, c', hv, by rw [Array.toArray_toList]; exact hS'⟩), rfl, q _ (I.hok.fresh (Nat.le_refl _))⟩
  rw [List.length_map, ← strlen]; exact hz
theorem RpL.signs {H : Hp} {x : Str} (h : SOk x) : RpL C H (x.cps.toList.map fun c => V.str ⟨#[c]⟩) (x.cps.toList.map fun c => Dat.str [c]) := by
  have key : ∀ l : List Nat, (∀ c ∈ l, c < 1114112) → RpL C H (l.map fun c => V.str ⟨#[c]⟩) (l.map fun c => Dat.str [c]) := by
    intro l
    induction l with
    | nil => intro _; exact .nil
    | cons c l ih =>
      intro hl
      refine .cons (.strL (l := [c]) ⟨by rw [sizeLine_eq]; show 1 ≤ _; decide, fun c' hc' => ?_⟩) (ih fun c' hc' => hl c' (List.mem_cons_of_mem _ hc'))
      have : c' = c := by simpa using hc'
      subst this
      exact hl _ List.mem_cons_self
  exact key _ h.2
theorem bif_list (hK : X.K = C.K) (hc : X.calm = true) : ∃ r, CallR X (.type "list") r ∧ BiF C r (biD .list) := by
  refine ⟨_, call_list_of.or (call_listStr hc), fun d1 d g x H Q hd r1 G q => ?_⟩
  cases d1 <;> simp only [biD] at hd <;> try cases hd
  · obtain ⟨x1, rfl, rfl, h1⟩ := r1.str_inv
    exact .inr ⟨x1, rfl, h1.1, fun p hp => q _ _ (Ext.new hp) (G.new hp) (.newL G hp (by rw [List.length_map, ← strlen]; exact h1.1) (RpL.signs h1))⟩
  · obtain ⟨p, vs, rfl, t, z, l⟩ := r1.tup_inv
    exact .inl ⟨p, vs, rfl, .inr (by rw [hK]; exact t.sq), fun l' hp => q _ _ (Ext.new hp) (G.new hp) (.newL G hp z l)⟩
  · obtain ⟨p, vs, rfl, t, z, l⟩ := r1.lst_inv
    exact .inl ⟨p, vs, rfl, .inl t.sq, fun l' hp => q _ _ (Ext.new hp) (G.new hp) (.newL G hp z l)⟩
  · cases r1 with
    | @kl p vs _ t z l =>
    exact .inl ⟨p, vs, rfl, .inl (by rw [hK]; exact .inr t), fun l' hp => q _ _ (Ext.new hp) (G.new hp) (.newL G hp z l)⟩
theorem bools_inv {H : Hp} : ∀ {ds : List Dat} {bs : List Bool} {vs : List V}, boolsD ds = some bs → RpL C H vs ds → vs = bs.map V.bl
  | [], bs, vs, h, r => by cases h; cases r; rfl
  | d :: ds, bs, vs, h, r => by
    cases r with
    | cons r rr =>
      cases d with
      | bl b =>
        obtain ⟨bs', hb, rfl⟩ := Option.map_eq_some_iff.mp (show (boolsD ds).map (b :: ·) = some bs from h)
        rw [List.map_cons, ← bools_inv hb rr, r.bl_inv]
      | _ => cases h
theorem ints_inv {H : Hp} : ∀ {ds : List Dat} {bs : List Int} {vs : List V}, intsD ds = some bs → RpL C H vs ds → vs = bs.map V.int
  | [], bs, vs, h, r => by cases h; cases r; rfl
  | d :: ds, bs, vs, h, r => by
    cases r with
    | cons r rr =>
      cases d with
      | int b =>
        obtain ⟨bs', hb, rfl⟩ := Option.map_eq_some_iff.mp (show (intsD ds).map (b :: ·) = some bs from h)
        rw [List.map_cons, ← ints_inv hb rr, r.int_inv]
      | _ => cases h
theorem strs_inv {H : Hp} : ∀ {ds : List Dat} {bs : List (List Nat)} {vs : List V}, strsD ds = some bs → RpL C H vs ds → ∃ xs : List Str, vs = xs.map V.str ∧ bs = xs.map (·.cps.toList) ∧ ∀ x ∈ xs, SOk x
  | [], bs, vs, h, r => by cases h; cases r; exact ⟨[], rfl, rfl, fun x h => nomatch h⟩
  | d :: ds, bs, vs, h, r => by
    cases r with
    | cons r rr =>
      cases d with
      | str b =>
        obtain ⟨bs', hb, rfl⟩ := Option.map_eq_some_iff.mp (show (strsD ds).map (b :: ·) = some bs from h)
        obtain ⟨xs, rfl, rfl, hx⟩ := strs_inv hb rr
        obtain ⟨x, rfl, rfl, h1⟩ := r.str_inv
        exact ⟨x :: xs, rfl, rfl, fun y hy => (List.mem_cons.mp hy).elim (fun e => e ▸ h1) (hx y)⟩
      | _ => cases h
theorem bif_all (hc : X.calm = true) : ∃ r, CallR X (.builtin "all") r ∧ BiF C r (biD .all) := by
  refine ⟨_, cr_all hc, fun d1 d g x H Q hd r1 G q => ?_⟩
  cases d1 <;> simp only [biD] at hd <;> try cases hd
  obtain ⟨bs, hb, rfl⟩ := Option.map_eq_some_iff.mp hd
  obtain ⟨p, vs, rfl, t, z, l⟩ := r1.lst_inv
  rw [bools_inv hb l] at t
  exact ⟨p, bs, rfl, t.sq, q _ H Ext.refl G (.bl _)⟩
theorem bif_any (hc : X.calm = true) : ∃ r, CallR X (.builtin "any") r ∧ BiF C r (biD .any) := by
  refine ⟨_, cr_any hc, fun d1 d g x H Q hd r1 G q => ?_⟩
  cases d1 <;> simp only [biD] at hd <;> try cases hd
  obtain ⟨bs, hb, rfl⟩ := Option.map_eq_some_iff.mp hd
  obtain ⟨p, vs, rfl, t, z, l⟩ := r1.lst_inv
  rw [bools_inv hb l] at t
  exact ⟨p, bs, rfl, t.sq, q _ H Ext.refl G (.bl _)⟩
theorem bif_sum (hc : X.calm = true) : ∃ r, CallR X (.builtin "sum") r ∧ BiF C r (biD .sum) := by
  refine ⟨_, cr_sum hc, fun d1 d g x H Q hd r1 G q => ?_⟩
  cases d1 <;> simp only [biD] at hd <;> try cases hd
  obtain ⟨bs, hb, rfl⟩ := Option.map_eq_some_iff.mp hd
  obtain ⟨p, vs, rfl, t, z, l⟩ := r1.lst_inv
  rw [ints_inv hb l] at t
  exact ⟨p, bs, rfl, t.sq, q _ H Ext.refl G (.int _)⟩
theorem max_fold : ∀ (r : List Int) (x : Int), (∀ y ∈ x :: r, y ≤ r.foldl (fun a b => if a < b then b else a) x) ∧ r.foldl (fun a b => if a < b then b else a) x ∈ x :: r
  | [], x => by simp
  | z :: r, x => by
    rw [List.foldl_cons]
    by_cases h : x < z
    · rw [if_pos h]
      obtain ⟨h1, h2⟩ := max_fold r z
      have hz := h1 z List.mem_cons_self
      refine ⟨fun y hy => ?_, List.mem_cons_of_mem _ h2⟩
      rcases List.mem_cons.mp hy with rfl | hy
      · omega
      · exact h1 y hy
    · rw [if_neg h]
      obtain ⟨h1, h2⟩ := max_fold r x
      have hx := h1 x List.mem_cons_self
      refine ⟨fun y hy => ?_, ?_⟩
      · rcases List.mem_cons.mp hy with rfl | hy
        · exact hx
        · rcases List.mem_cons.mp hy with rfl | hy
          · omega
          · exact h1 y (List.mem_cons_of_mem _ hy)
      · rcases List.mem_cons.mp h2 with e | e
        · rw [e]; exact List.mem_cons_self
        · exact List.mem_cons_of_mem _ (List.mem_cons_of_mem _ e)
theorem min_fold : ∀ (r : List Int) (x : Int), (∀ y ∈ x :: r, r.foldl (fun a b => if b < a then b else a) x ≤ y) ∧ r.foldl (fun a b => if b < a then b else a) x ∈ x :: r
  | [], x => by simp
  | z :: r, x => by
    rw [List.foldl_cons]
    by_cases h : z < x
    · rw [if_pos h]
      obtain ⟨h1, h2⟩ := min_fold r z
      have hz := h1 z List.mem_cons_self
      refine ⟨fun y hy => ?_, List.mem_cons_of_mem _ h2⟩
      rcases List.mem_cons.mp hy with rfl | hy
      · omega
      · exact h1 y hy
    · rw [if_neg h]
      obtain ⟨h1, h2⟩ := min_fold r x
      have hx := h1 x List.mem_cons_self
      refine ⟨fun y hy => ?_, ?_⟩
      · rcases List.mem_cons.mp hy with rfl | hy
        · exact hx
        · rcases List.mem_cons.mp hy with rfl | hy
          · omega
          · exact h1 y (List.mem_cons_of_mem _ hy)
      · rcases List.mem_cons.mp h2 with e | e
        · rw [e]; exact List.mem_cons_self
        · exact List.mem_cons_of_mem _ (List.mem_cons_of_mem _ e)
theorem bif_max (hc : X.calm = true) : ∃ r, CallR X (.builtin "max") r ∧ BiF C r (biD .max) := by
  refine ⟨_, cr_max hc, fun d1 d g x H Q hd r1 G q => ?_⟩
  cases d1 <;> simp only [biD] at hd <;> try cases hd
  obtain ⟨bs, hb, hm⟩ := Option.bind_eq_some_iff.mp hd
  obtain ⟨m, hm, rfl⟩ := Option.map_eq_some_iff.mp hm
  obtain ⟨p, vs, rfl, t, z, l⟩ := r1.lst_inv
  rw [ints_inv hb l] at t
  cases bs with
  | nil => cases hm
  | cons b bs =>
    cases hm
    obtain ⟨h1, h2⟩ := max_fold bs b
    refine ⟨p, b :: bs, rfl, t.sq, by simp, fun m hm hle => ?_⟩
    have e : m = bs.foldl (fun a b => if a < b then b else a) b := Int.le_antisymm (h1 m hm) (hle _ h2)
    rw [e]
    exact q _ H Ext.refl G (.int _)
theorem bif_min (hc : X.calm = true) : ∃ r, CallR X (.builtin "min") r ∧ BiF C r (biD .min) := by
  refine ⟨_, cr_min hc, fun d1 d g x H Q hd r1 G q => ?_⟩
  cases d1 <;> simp only [biD] at hd <;> try cases hd
  obtain ⟨bs, hb, hm⟩ := Option.bind_eq_some_iff.mp hd
  obtain ⟨m, hm, rfl⟩ := Option.map_eq_some_iff.mp hm
  obtain ⟨p, vs, rfl, t, z, l⟩ := r1.lst_inv
  rw [ints_inv hb l] at t
  cases bs with
  | nil => cases hm
  | cons b bs =>
    cases hm
    obtain ⟨h1, h2⟩ := min_fold bs b
    refine ⟨p, b :: bs, rfl, t.sq, by simp, fun m hm hle => ?_⟩
    have e : m = bs.foldl (fun a b => if b < a then b else a) b := Int.le_antisymm (hle _ h2) (h1 m hm)
    rw [e]
    exact q _ H Ext.refl G (.int _)
theorem bif_abs : ∃ r, CallR X (.builtin "abs") r ∧ BiF C r (biD .abs) := by
  refine ⟨_, call_abs, fun d1 d g x H Q hd r1 G q => ?_⟩
  cases d1 <;> simp only [biD] at hd <;> try cases hd
  exact ⟨_, by rw [r1.int_inv], q _ H Ext.refl G (.int _)⟩
theorem bif_int : ∃ r, CallR X (.type "int") r ∧ BiF C r (biD .int) := by
  refine ⟨_, call_int1, fun d1 d g x H Q hd r1 G q => ?_⟩
  cases d1 <;> simp only [biD] at hd <;> try cases hd
  · exact .inr ⟨_, by rw [r1.bl_inv], q _ H Ext.refl G (.int _)⟩
  · exact .inl ⟨_, by rw [r1.int_inv], q _ H Ext.refl G (.int _)⟩
theorem bif_str : ∃ r, CallR X (.type "str") r ∧ BiF C r (biD .str) := by
  refine ⟨_, SkE.call_str_str, fun d1 d g x H Q hd r1 G q => ?_⟩
  cases d1 <;> simp only [biD] at hd <;> try cases hd
  obtain ⟨x1, rfl, rfl, h1⟩ := r1.str_inv
  exact ⟨x1, rfl, q _ H Ext.refl G (.str _ h1)⟩
end
end R
set_option Elab.async false
set_option linter.all false
set_option maxRecDepth 100000
set_option maxHeartbeats 4000000
/-! Methods of texts, isinstance. -/
namespace R
open PySem PySem.Spec PyProof.Rows L2
def baseB : Expr → Bool
  | .Call .. => false
  | _ => true
theorem base_of {o : Expr} {name : Str} {env : Env} (h : baseB o = true) : attributeBase o name env (eval o env) = eval o env := by
  cases o <;> first | rfl | exact absurd (show false = true from h) Bool.false_ne_true
/-- what a method's own reading asks, from the plain method -/
def MeF (C : Cfg) (r : V → List V → Hp → VK → Prop) (m : Me) : Prop := ∀ (x : Str) (d2 d : Dat) (g : List Dat) (y : V) (H : Hp) (Q : VK), meD m (.str x.cps.toList) d2 = some d → SOk x → Rp C H y d2 → GR C g H →
  (∀ v H', Ext C H H' → GR C g H' → Rp C H' v d → Q v H') → r (.str x) [y] H Q
theorem sem_me {c : Ctx} {m : Me} {id : String} {name : Str} {o e : Expr} {o' e' : Ex} {apos pos : Pos} (slot : Slot "str" name id) (ty : typeOf (.builtin id) = pure (.type "method_descriptor"))
    (hm : ∀ X C, X.K = C.K → ∃ r, MtR X id r ∧ MeF C r m) (ho : Sem c o o') (he : Sem c e e') (hb : baseB o = true) (hline : (apos.endLine == pos.line) = true) : Sem c (.Call (.Attribute o name apos) [e] [] pos) (.me m o' e') := by
  refine ⟨fun X C W F k M => ?_, rfl⟩
  obtain ⟨r, h1, h2'⟩ := hm X C M.K
  refine pe_mono (pe_m1 slot ty h1 (ho.run X C W F k M) (he.run X C W F k M) (star_plain he.plain) (base_of hb) hline) fun σ H Q ⟨ρ, g, E, G, h⟩ => ?_
  unfold den at h
  -- the receiver's value decides the method's: it is a text
  refine ⟨ρ, g, E, G, ?_⟩
  revert h
  cases den F o' ρ g with
  | bad => exact fun h => h
  | exc c g => exact fun h => h
  | ok d1 g1 =>
    intro h x H1 e1 G1 r1
    have E1 := E.ext e1
    have h := RunE.ext h e1
    cases d1 with
    | str s =>
      obtain ⟨x1, rfl, rfl, hs1⟩ := r1.str_inv
      refine ⟨⟨x1, rfl⟩, ?_⟩
      refine tD_then (fa := den F e') _ (fun r H => RunE C W r σ H Q) E1 G1 h (fun _ _ p => p) (fun z => z) fun d2 g2 y H2 e2 E2 G2 r2 h2 => ?_
      obtain ⟨d, hd, hq⟩ := run_ofO (h2.ext e2)
      exact h2' x1 d2 d g2 y H2 Q hd hs1 r2 G2 hq
    | _ => exact h.elim
section
variable {X : Cx} {C : Cfg}
theorem sub_at (x y : Str) (i : Nat) : Builtin.Str.subAt x y i = ((x.cps.toList.drop i).take y.cps.toList.length == y.cps.toList) := by
  unfold Builtin.Str.subAt
  rw [Bool.eq_iff_iff, beq_iff_eq, beq_iff_eq, ← Array.toList_inj, Array.toList_extract, List.extract_eq_take_drop, strlen]
  have : i + y.cps.toList.length - i = y.cps.toList.length := by omega
  rw [this]
theorem mef_endswith : ∃ r, MtR X "str.endswith" r ∧ MeF C r .endswith := by
  refine ⟨_, mt_endswith, fun x d2 d g y H Q hd hx r2 G q => ?_⟩
  cases d2 <;> simp only [meD] at hd <;> try cases hd
  obtain ⟨y1, rfl, rfl, hy⟩ := r2.str_inv
  refine ⟨x, y1, rfl, rfl, ?_⟩
  have e : Txt.endswith x y1 = (decide (y1.cps.toList.length ≤ x.cps.toList.length) && (x.cps.toList.drop (x.cps.toList.length - y1.cps.toList.length) == y1.cps.toList)) := by
    unfold Txt.endswith
    rw [sub_at, strlen, strlen, Nat.zero_add]
    by_cases h : y1.cps.toList.length ≤ x.cps.toList.length
    · rw [List.take_of_length_le (by rw [List.length_drop]; omega)]
    · rw [decide_eq_false h, Bool.false_and, Bool.false_and]
  rw [e]
  exact q _ H Ext.refl G (.bl _)
theorem mef_startswith : ∃ r, MtR X "str.startswith" r ∧ MeF C r .startswith := by
  refine ⟨_, mt_startswith, fun x d2 d g y H Q hd hx r2 G q => ?_⟩
  cases d2 <;> simp only [meD] at hd <;> try cases hd
  obtain ⟨y1, rfl, rfl, hy⟩ := r2.str_inv
  refine ⟨x, y1, rfl, rfl, ?_⟩
  have e : Txt.startswith x y1 = y1.cps.toList.isPrefixOf x.cps.toList := by
    unfold Txt.startswith
    rw [sub_at, strlen, strlen, Nat.zero_add, List.drop_zero, Bool.eq_iff_iff, List.isPrefixOf_iff_prefix, List.prefix_iff_eq_take, Bool.and_eq_true, decide_eq_true_eq, beq_iff_eq]
    constructor
    · exact fun h => h.2.symm
    · intro h
      refine ⟨?_, h.symm⟩
      have := congrArg List.length h
      rw [List.length_take] at this
      omega
  rw [e]
  exact q _ H Ext.refl G (.bl _)
theorem glue_join (s : List Nat) : ∀ l : List (List Nat), glueD s l = TL.joinL s l
  | [] => rfl
  | [_] => rfl
  | x :: y :: r => by
    show x ++ (s ++ glueD s (y :: r)) = x ++ (s ++ TL.joinL s (y :: r))
    rw [glue_join s (y :: r)]
theorem glue_len (s : List Nat) : ∀ l : List (List Nat), (glueD s l).length ≤ (l.map List.length).sum + l.length * s.length
  | [] => by simp [glueD]
  | [x] => by simp [glueD]
  | x :: y :: r => by
    have ih := glue_len s (y :: r)
    simp only [glueD, List.length_append, List.map_cons, List.sum_cons, List.length_cons, Nat.add_mul, Nat.one_mul] at ih ⊢
    omega
theorem glue_mem (s : List Nat) {c : Nat} : ∀ l : List (List Nat), c ∈ glueD s l → c ∈ s ∨ ∃ x ∈ l, c ∈ x
  | [], h => by cases h
  | [x], h => .inr ⟨x, List.mem_cons_self, h⟩
  | x :: y :: r, h => by
    rcases List.mem_append.mp h with h | h
    · exact .inr ⟨x, List.mem_cons_self, h⟩
    · rcases List.mem_append.mp h with h | h
      · exact .inl h
      · rcases glue_mem s (y :: r) h with h | ⟨z, hz, h⟩
        · exact .inl h
        · exact .inr ⟨z, List.mem_cons_of_mem _ hz, h⟩
theorem mef_join (hK : X.K = C.K) : ∃ r, MtR X "str.join" r ∧ MeF C r .join := by
  refine ⟨_, mt_join, fun x d2 d g y H Q hd hx r2 G q => ?_⟩
  cases d2 <;> simp only [meD] at hd <;> first | (cases hd; done) | skip
  obtain ⟨ss, h1, h2⟩ := Option.bind_eq_some_iff.mp hd
  split at h2
  · rename_i hz
    cases h2
    obtain ⟨p, vs, rfl, t, z, l⟩ := r2.lst_inv
    obtain ⟨xs, rfl, rfl, hxs⟩ := strs_inv h1 l
    have e : (Txt.join x xs).cps.toList = glueD x.cps.toList (xs.map (·.cps.toList)) := by
      rw [glue_join, TL.join_eq]
      exact TL.tl_join x xs
    have e1 : (xs.map (·.length)).sum = ((xs.map (·.cps.toList)).map List.length).sum := by
      rw [List.map_map]
      congr 1
    have hs := line_eq
    have hs2 : sizeLine = 16777216 := sizeLine_eq
    rw [List.length_map] at hz
    refine ⟨x, p, xs, rfl, rfl, .inl t.sq, by rw [e1, strlen]; rw [← hs2, ← hs]; exact hz, q _ H Ext.refl G (.strE ?_ e)⟩
    refine ⟨?_, fun c hc => ?_⟩
    · rw [strlen, e]
      refine Nat.le_trans (glue_len _ _) ?_
      rw [List.length_map, ← hs]
      exact hz
    · rw [e] at hc
      rcases glue_mem _ _ hc with h | ⟨w, hw, h⟩
      · exact hx.2 c h
      · obtain ⟨y, hy, rfl⟩ := List.mem_map.mp hw
        exact (hxs y hy).2 c h
  · cases h2
end
theorem sem_join {c : Ctx} {o e : Expr} {o' e' : Ex} {apos pos : Pos} (ho : Sem c o o') (he : Sem c e e') (hb : baseB o = true) (hline : (apos.endLine == pos.line) = true) : Sem c (.Call (.Attribute o "join" apos) [e] [] pos) (.me .join o' e') :=
  sem_me F.slot_str_join F.type_str_join (fun X C h => mef_join h) ho he hb hline
theorem sem_endswith {c : Ctx} {o e : Expr} {o' e' : Ex} {apos pos : Pos} (ho : Sem c o o') (he : Sem c e e') (hb : baseB o = true) (hline : (apos.endLine == pos.line) = true) : Sem c (.Call (.Attribute o "endswith" apos) [e] [] pos) (.me .endswith o' e') :=
  sem_me F.slot_str_endswith F.type_str_endswith (fun X C h => mef_endswith) ho he hb hline
theorem sem_startswith {c : Ctx} {o e : Expr} {o' e' : Ex} {apos pos : Pos} (ho : Sem c o o') (he : Sem c e e') (hb : baseB o = true) (hline : (apos.endLine == pos.line) = true) : Sem c (.Call (.Attribute o "startswith" apos) [e] [] pos) (.me .startswith o' e') :=
  sem_me F.slot_str_startswith F.type_str_startswith (fun X C h => mef_startswith) ho he hb hline

/-! ### isinstance -/
def tyName : Ty → String
  | .int => "int"
  | .bool => "bool"
  | .str => "str"
  | .tuple => "tuple"
  | .list => "list"
theorem kit_tyB {K : PySem.W.Frag} {a : String} {t : Ty} {r : Bool} (h : kitB a (tyName t) = some r) : PySem.W.kitOne K (.type a) (.type (tyName t)) = some r := kit_ty h
theorem isi_ty {C : Cfg} {K : PySem.W.Frag} {H : Hp} {v : V} {d : Dat} {t : Ty} {b : Bool} (hK : K = C.K) (r : Rp C H v d) (h : isiD d t = some b) : ∃ ty, TyX K H v ty ∧ PySem.W.kitOne K ty (.type (tyName t)) = some b := by
  subst hK
  cases d with
  | non =>
    cases r
    refine ⟨_, .base .non, ?_⟩
    cases t <;> cases h <;> exact kit_tyB (by decide +kernel)
  | bl x =>
    cases r
    refine ⟨_, .base (.bl x), ?_⟩
    cases t <;> cases h <;> exact kit_tyB (by decide +kernel)
  | int x =>
    cases r
    refine ⟨_, .base (.int x), ?_⟩
    cases t <;> cases h <;> exact kit_tyB (by decide +kernel)
  | str x =>
    obtain ⟨x1, rfl, rfl, hs1⟩ := r.str_inv
    refine ⟨_, .base (.str x1), ?_⟩
    cases t <;> cases h <;> exact kit_tyB (by decide +kernel)
  | tup xs =>
    obtain ⟨p, vs, rfl, t', z, l⟩ := r.tup_inv
    have key : PySem.W.kitOne C.K (.type "tuple") (.type (tyName t)) = some b := by
      cases t <;> cases h <;> exact kit_tyB (by decide +kernel)
    rcases t' with ⟨t', _⟩ | ⟨o, its, n, hk, hc, _⟩
    · exact ⟨_, .base (.tup t'), key⟩
    · exact ⟨_, .kTuple hk hc, key⟩
  | lst xs =>
    obtain ⟨p, vs, rfl, t', z, l⟩ := r.lst_inv
    have key : PySem.W.kitOne C.K (.type "list") (.type (tyName t)) = some b := by
      cases t <;> cases h <;> exact kit_tyB (by decide +kernel)
    rcases t'.1 with t' | ⟨o, t'⟩
    · exact ⟨_, .base (.lst t'), key⟩
    · exact ⟨_, .base (.frz t'), key⟩
  | _ => cases h
theorem sem_isi {c : Ctx} {a : Expr} {a' : Ex} {t : Ty} {x : Str} {p p2 pos : Pos} (hg : kindB c.sc "isinstance" = some .globalImplicit) (hx : kindB c.sc x = some .globalImplicit) (hm : x ∈ biNames) (hd : dbgB x = false) (hv : bootBuiltins x = some (.type (tyName t)))
    (ha : Sem c a a') : Sem c (.Call (.Name "isinstance" p) [a, .Name x p2] [] pos) (.isi a' t) := by
  refine ⟨fun X C W F k M => ?_, rfl⟩
  obtain ⟨d1, d2, d3⟩ := dbg_of hd
  have hT : PE X (.Name x p2) (tC (.ty (tyName t))) := pe_bltn (show X.env.scope.names.lookup x = some .globalImplicit by rw [M.sc]; exact hx) (M.bi x hm) hv rfl d3 d1
  refine pe_mono (pe_callB call_isi (show X.env.scope.names.lookup ("isinstance" : Str) = some .globalImplicit by rw [M.sc]; exact hg) (M.bi _ (by decide)) boot_isinstance (pa_cons (ha.run X C W F k M) (pa_cons hT pa_nil rfl) (star_plain ha.plain)) (by decide) (by decide) (star_plain ha.plain) rfl) fun σ H Q ⟨ρ, g, E, G, h⟩ => ?_
  unfold den at h
  show tD C W (den F a') σ H _
  refine tD_then _ (fun r H => RunE C W r σ H Q) E G h (fun _ _ p => p) id fun d1 g1 x H1 e1 E1 G1 r1 h1 => ?_
  obtain ⟨d, hd, hq⟩ := run_ofO (h1.ext e1)
  obtain ⟨b, hb, rfl⟩ := Option.map_eq_some_iff.mp hd
  obtain ⟨ty, h3, h4⟩ := isi_ty M.K r1 hb
  exact ⟨x, _, ty, _, b, rfl, .ty _, h3, h4, hq _ H1 Ext.refl G1 (.bl b)⟩
end R
set_option Elab.async false
set_option linter.all false
set_option maxRecDepth 100000
set_option maxHeartbeats 4000000
/-! Targets, what is walked, list comprehensions. -/
namespace R
open PySem PySem.Spec PyProof.Rows L2

/-! ### targets -/
mutual
def slots : Tg → List Nat
  | .nm i => [i]
  | .tp ts => slotsL ts
def slotsL : List Tg → List Nat
  | [] => []
  | t :: ts => slots t ++ slotsL ts
end
theorem wipe_get {σ : L2.St} (j : Nat) : ∀ vs : List Nat, (L2.wipe σ vs)[j]? = if j ∈ vs then (σ[j]?).map (fun _ => none) else σ[j]?
  | [] => by simp [L2.wipe]
  | v :: vs => by
    unfold L2.wipe
    by_cases hv : v = j
    · subst hv
      rw [if_pos List.mem_cons_self]
      have ih := wipe_get v (σ := σ) vs
      by_cases hl : v < σ.length
      · rw [List.getElem?_set_self (by rw [L2.wipe_length]; exact hl), List.getElem?_eq_getElem hl]
        rfl
      · rw [List.getElem?_eq_none (by rw [List.length_set, L2.wipe_length]; omega), List.getElem?_eq_none (by omega)]
        rfl
    · rw [List.getElem?_set_ne hv, wipe_get j vs]
      have e : (j ∈ v :: vs) ↔ j ∈ vs := by
        rw [List.mem_cons]
        exact ⟨fun h => h.resolve_left fun e => hv e.symm, .inr⟩
      simp only [e]
theorem wipe_set {σ : L2.St} {i : Nat} {x : Option V} {own : List Nat} (h : i ∈ own) : L2.wipe (σ.set i x) own = L2.wipe σ own := by
  apply List.ext_getElem?
  intro j
  rw [wipe_get, wipe_get]
  by_cases hj : j ∈ own
  · rw [if_pos hj, if_pos hj]
    by_cases e : i = j
    · subst e
      by_cases hl : i < σ.length
      · rw [List.getElem?_set_self hl, List.getElem?_eq_getElem hl]; rfl
      · rw [List.getElem?_eq_none (by simpa using hl), List.getElem?_eq_none (by simpa using hl)]
    · rw [List.getElem?_set_ne e]
  · rw [if_neg hj, if_neg hj]
    rw [List.getElem?_set_ne (by intro e; subst e; exact hj h)]
def tG (C : Cfg) (tg : Tg) : TG := fun v σ H Q => ∃ d ρ ρ', Rp C H v d ∧ EnvR C H σ ρ ∧ bindT tg d ρ = some ρ' ∧ ∀ σ', EnvR C H σ' ρ' → (∀ own : List Nat, (∀ i ∈ slots tg, i ∈ own) → L2.wipe σ' own = L2.wipe σ own) → Q σ' H
def tGs (C : Cfg) (ts : List Tg) : TGs := fun vs σ H Q => ∃ ds ρ ρ', RpL C H vs ds ∧ EnvR C H σ ρ ∧ bindTs ts ds ρ = some ρ' ∧ ∀ σ', EnvR C H σ' ρ' → (∀ own : List Nat, (∀ i ∈ slotsL ts, i ∈ own) → L2.wipe σ' own = L2.wipe σ own) → Q σ' H
def SemG (c : Ctx) (e : Expr) (tg : Tg) : Prop := (∀ X C W F k, Mt X c C W F k → PG X e (tG C tg)) ∧ plainE e = true
def SemGs (c : Ctx) (es : List Expr) (ts : List Tg) : Prop := (∀ X C W F k, Mt X c C W F k → PGs X es (tGs C ts)) ∧ es.length = ts.length ∧ ∀ env, (assignEach es env).length = es.length ∧ (assignEach es env).findIdx? (·.1) = none
theorem pg_mono {X : Cx} {e : Expr} {t t' : TG} (h : PG X e t) (w : ∀ v σ H Q, t' v σ H Q → t v σ H Q) : PG X e t' := ⟨fun pins s σ H v u Q I r q => h.run pins s σ H v u Q I r (w v σ H Q q)⟩
theorem pgs_mono {X : Cx} {e : List Expr} {t t' : TGs} (h : PGs X e t) (w : ∀ v σ H Q, t' v σ H Q → t v σ H Q) : PGs X e t' := ⟨fun pins s σ H v u Q I r q => h.run pins s σ H v u Q I r (w v σ H Q q)⟩
/-- a name that may be stored in this block -/
def locB (c : Ctx) (x : Str) : Bool := match kindB c.sc x with
  | some .local => true
  | some .cell => match c.blk with
    | none => true
    | some s => s.names.lookup x == some .cell
  | _ => false
theorem loc_of {c : Ctx} {x : Str} (h : locB c x = true) {X : Cx} {C : Cfg} {W : WX} {F : Nat → List Dat → Mo Dat} {k : Nat} (M : Mt X c C W F k) : Loc X.env.scope x ∧ (X.fn x = true ∨ X.env.scope.names.lookup x = some .local) := by
  unfold locB kindB at h
  split at h
  · rename_i e
    rw [M.sc]
    exact ⟨.inl e, .inr e⟩
  · rename_i e
    rw [M.sc]
    refine ⟨.inr e, .inl (M.fn x ?_)⟩
    exact h
  · cases h
theorem semG_name {c : Ctx} {x : Str} {i : Nat} {pos : Pos} (hN : c.N[i]? = some x) (hl : locB c x = true) : SemG c (.Name x pos) (.nm i) := by
  refine ⟨fun X C W F k M => ?_, rfl⟩
  obtain ⟨h1, h2⟩ := loc_of hl M
  refine pg_mono (pg_name (i := i) (by rw [M.N]; exact M.nd) (by rw [M.N]; exact hN) h1 h2) fun v σ H Q ⟨d, ρ, ρ', r, E, hb, q⟩ => ?_
  unfold bindT at hb
  cases hb
  exact q _ (E.set r) fun own ho => wipe_set (ho i (by unfold slots; exact List.mem_cons_self))
theorem semGs_nil {c : Ctx} : SemGs c [] [] := by
  refine ⟨fun X C W F k M => ?_, rfl, fun env => ⟨rfl, rfl⟩⟩
  refine pgs_mono pgs_nil fun v σ H Q ⟨ds, ρ, ρ', r, E, hb, q⟩ => ?_
  cases ds with
  | nil =>
    cases r
    unfold bindTs at hb
    cases hb
    exact ⟨rfl, q σ E fun _ _ => rfl⟩
  | cons d ds => unfold bindTs at hb; cases hb
theorem asg_plain {e : Expr} {es : List Expr} {env : Env} (h : plainE e = true) : assignEach (e :: es) env = (false, assign e env) :: assignEach es env := by
  cases e <;> first | rfl | exact absurd (show false = true from h) Bool.false_ne_true
theorem semGs_cons {c : Ctx} {e : Expr} {es : List Expr} {t : Tg} {ts : List Tg} (h1 : SemG c e t) (h2 : SemGs c es ts) : SemGs c (e :: es) (t :: ts) := by
  obtain ⟨h1, p1⟩ := h1
  obtain ⟨h2, hl, p2⟩ := h2
  refine ⟨fun X C W F k M => ?_, by simp [hl], fun env => ?_⟩
  · refine pgs_mono (pgs_cons (h1 X C W F k M) (h2 X C W F k M) (by rw [asg_plain p1]; rfl)) fun vs σ H Q ⟨ds, ρ, ρ', r, E, hb, q⟩ => ?_
    cases ds with
    | nil => unfold bindTs at hb; cases hb
    | cons d ds =>
      cases r with
      | cons r rr =>
        unfold bindTs at hb
        obtain ⟨ρ1, hb1, hb2⟩ := Option.bind_eq_some_iff.mp hb
        refine ⟨_, _, rfl, d, ρ, ρ1, r, E, hb1, fun σ1 E1 hw1 => ?_⟩
        refine ⟨ds, ρ1, ρ', rr, E1, hb2, fun σ2 E2 hw2 => q σ2 E2 fun own ho => ?_⟩
        unfold slotsL at ho
        rw [hw2 own fun i hi => ho i (List.mem_append_right _ hi), hw1 own fun i hi => ho i (List.mem_append_left _ hi)]
  · obtain ⟨a1, a2⟩ := p2 env
    rw [asg_plain p1]
    refine ⟨by simp [a1], ?_⟩
    rw [List.findIdx?_cons, a2]
    rfl
theorem semG_tup {c : Ctx} {es : List Expr} {ts : List Tg} {n : Nat} {pos : Pos} (h : SemGs c es ts) : SemG c (.Tuple es n pos) (.tp ts) := by
  obtain ⟨h, hl, hp⟩ := h
  refine ⟨fun X C W F k M => ?_, rfl⟩
  refine pg_mono (pg_tup M.calm (h X C W F k M) (n := es.length) (hp _).1 (hp _).2) fun v σ H Q ⟨d, ρ, ρ', r, E, hb, q⟩ => ?_
  cases d with
  | tup ds =>
    unfold bindT at hb
    obtain ⟨a, vs, rfl, t, z, l⟩ := r.tup_inv
    have hlen : ∀ (ts : List Tg) (ds : List Dat) (ρ ρ' : Sl), bindTs ts ds ρ = some ρ' → ts.length = ds.length := by
      intro ts
      induction ts with
      | nil => intro ds ρ ρ' h; cases ds with | nil => rfl | cons _ _ => unfold bindTs at h; cases h
      | cons t ts ih =>
        intro ds ρ ρ' h
        cases ds with
        | nil => unfold bindTs at h; cases h
        | cons d ds =>
          unfold bindTs at h
          obtain ⟨ρ1, _, hb2⟩ := Option.bind_eq_some_iff.mp h
          simp [ih ds ρ1 ρ' hb2]
    refine ⟨a, vs, rfl, by rw [M.K]; exact t.sq, by rw [l.len, hl, hlen ts ds ρ ρ' hb], ds, ρ, ρ', l, E, hb, fun σ' E' hw => q σ' E' fun own ho => hw own ?_⟩
    unfold slots at ho
    exact ho
  | _ => unfold bindT at hb; cases hb

/-! ### what is walked -/
def WalkD (C : Cfg) (J : It) (ds : List Dat) (H0 : Hp) : Prop := ds.length ≤ sizeLine ∧ ∀ M' : List Addr, (∀ a ∈ C.M, a ∈ M') → (∀ a ∈ M', a ∉ C.M → H0 a = none) →
  Walk J ds.length (fun H => ExtM { C with M := M' } H0 H) fun i H x H' => ∀ g, GR { C with M := M' } g H → Ext { C with M := M' } H H' ∧ GR { C with M := M' } g H' ∧ ∃ d, ds[i]? = some d ∧ Rp { C with M := M' } H' x d
def tI (C : Cfg) (W : WX) (f : Sl → Mo Dat) : TI := fun σ H R => ∃ ρ g, EnvR C H σ ρ ∧ GR C g H ∧ match f ρ g with
  | .ok d g1 => match itemsD d with
    | none => False
    | some ds => ∀ J H1, Ext C H H1 → GR C g1 H1 → WalkD C J ds H1 → R J H1
  | .exc c g1 => ∀ H', Ext C H H' → GR C g1 H' → W (C.ex c) none σ H'
  | .bad => False
structure SemI (c : Ctx) (tgE it : Expr) (e' : Ex) : Prop where
  run : ∀ X C W F k, Mt X c C W F k → PI X tgE it (tI C W (den F e'))
  ns : ∀ (env : Env) x, foldedSetIterable it env x = pure x
theorem pi_mono {X : Cx} {tg e : Expr} {t t' : TI} (h : PI X tg e t) (w : ∀ σ H Q, t' σ H Q → t σ H Q) : PI X tg e t' := ⟨fun pins s σ H Q I q => h.run pins s σ H Q I (w σ H Q q)⟩
theorem pi_or {X : Cx} {tg e : Expr} {t t' : TI} (h : PI X tg e t) (h' : PI X tg e t') : PI X tg e (fun σ H R => t σ H R ∨ t' σ H R) := ⟨fun pins s σ H Q I q => q.elim (fun q => h.run pins s σ H Q I q) (fun q => h'.run pins s σ H Q I q)⟩
/-- fewer places are changed in place -/
theorem TupAt.more {C : Cfg} {M' : List Addr} {H : Hp} {a : Addr} {xs : List V} (h : TupAt C H a xs) (hn : ∀ a ∈ M', a ∉ C.M → H a = none) : TupAt { C with M := M' } H a xs := by
  rcases h with ⟨h, n⟩ | h
  · exact .inl ⟨h, n.1, fun hm => by have := hn a hm n.2; rw [h] at this; cases this⟩
  · exact .inr h
theorem LstAt.more {C : Cfg} {M' : List Addr} {H : Hp} {a : Addr} {xs : List V} (h : LstAt C H a xs) (hn : ∀ a ∈ M', a ∉ C.M → H a = none) : LstAt { C with M := M' } H a xs := by
  obtain ⟨h, n⟩ := h
  refine ⟨h, n.1, fun hm => ?_⟩
  have z := hn a hm n.2
  rcases h with h | ⟨o, h⟩ <;> rw [h] at z <;> cases z
mutual
theorem Rp.more {C : Cfg} {M' : List Addr} {H : Hp} (hn : ∀ a ∈ M', a ∉ C.M → H a = none) : ∀ {v : V} {d : Dat}, Rp C H v d → Rp { C with M := M' } H v d
  | _, _, .non => .non
  | _, _, .bl b => .bl b
  | _, _, .int i => .int i
  | _, _, .str x h => .str x h
  | _, _, .tup h z r => .tup (h.more hn) z (RpL.more hn r)
  | _, _, .lst h z r => .lst (h.more hn) z (RpL.more hn r)
  | _, _, .fn i => .fn (C := { C with M := M' }) i
  | _, _, .cup h => .cup h
  | _, _, .kl h z r => .kl (C := { C with M := M' }) h z (RpL.more hn r)
theorem RpL.more {C : Cfg} {M' : List Addr} {H : Hp} (hn : ∀ a ∈ M', a ∉ C.M → H a = none) : ∀ {vs : List V} {ds : List Dat}, RpL C H vs ds → RpL { C with M := M' } H vs ds
  | _, _, .nil => .nil
  | _, _, .cons r rr => .cons (Rp.more hn r) (RpL.more hn rr)
end
theorem TupAt.less {C : Cfg} {M' : List Addr} {H : Hp} {a : Addr} {xs : List V} (h : TupAt { C with M := M' } H a xs) (hn : ∀ a ∈ C.M, a ∈ M') : TupAt C H a xs := by
  rcases h with ⟨h, n⟩ | h
  · exact .inl ⟨h, n.1, fun hm => n.2 (hn a hm)⟩
  · exact .inr h
theorem LstAt.less {C : Cfg} {M' : List Addr} {H : Hp} {a : Addr} {xs : List V} (h : LstAt { C with M := M' } H a xs) (hn : ∀ a ∈ C.M, a ∈ M') : LstAt C H a xs :=
  ⟨h.1, h.2.1, fun hm => h.2.2 (hn a hm)⟩
mutual
theorem Rp.less {C : Cfg} {M' : List Addr} {H : Hp} (hn : ∀ a ∈ C.M, a ∈ M') : ∀ {v : V} {d : Dat}, Rp { C with M := M' } H v d → Rp C H v d
  | _, _, .non => .non
  | _, _, .bl b => .bl b
  | _, _, .int i => .int i
  | _, _, .str x h => .str x h
  | _, _, .tup h z r => .tup (h.less hn) z (RpL.less hn r)
  | _, _, .lst h z r => .lst (h.less hn) z (RpL.less hn r)
  | _, _, .fn i => .fn (C := C) i
  | _, _, .cup h => .cup h
  | _, _, .kl h z r => .kl (C := C) h z (RpL.less hn r)
theorem RpL.less {C : Cfg} {M' : List Addr} {H : Hp} (hn : ∀ a ∈ C.M, a ∈ M') : ∀ {vs : List V} {ds : List Dat}, RpL { C with M := M' } H vs ds → RpL C H vs ds
  | _, _, .nil => .nil
  | _, _, .cons r rr => .cons (Rp.less hn r) (RpL.less hn rr)
end
theorem EnvR.more {C : Cfg} {M' : List Addr} {H : Hp} {σ : L2.St} {ρ : Sl} (hn : ∀ a ∈ M', a ∉ C.M → H a = none) (h : EnvR C H σ ρ) : EnvR { C with M := M' } H σ ρ :=
  ⟨h.1, fun i d q => let ⟨v, h1, h2⟩ := h.2 i d q; ⟨v, h1, h2.more hn⟩⟩
theorem EnvR.extM {C : Cfg} {H H' : Hp} {σ : L2.St} {ρ : Sl} (e : ExtM C H H') (h : EnvR C H σ ρ) : EnvR C H' σ ρ :=
  ⟨h.1, fun i d q => let ⟨v, h1, h2⟩ := h.2 i d q; ⟨v, h1, h2.extM e⟩⟩

theorem walkD_at {C : Cfg} {J : It} {ds : List Dat} {vs : List V} {H0 : Hp} {G : Hp → Prop} (hz : ds.length ≤ sizeLine) (r : RpL C H0 vs ds) (w : Walk J vs.length G (YAt vs)) (hG : ∀ M' H, (∀ a ∈ M', a ∉ C.M → H0 a = none) → ExtM { C with M := M' } H0 H → G H) : WalkD C J ds H0 := by
  refine ⟨hz, fun M' h1 h2 => ?_⟩
  rw [← r.len]
  refine w.mono (fun H e => hG M' H h2 e) fun i H x H' hi e y g G' => ?_
  obtain ⟨rfl, hx⟩ := y
  obtain ⟨d, hd, rd⟩ := r.get' hx
  exact ⟨Ext.refl, G', d, hd, (rd.more h2).extM e⟩
theorem semI_val {c : Ctx} {tgE it : Expr} {e' : Ex} (h : Sem c it e') (hs : noSet it = true) : SemI c tgE it e' := by
  refine ⟨fun X C W F k M => ?_, fun env x => ?_⟩
  · refine pi_mono (pi_or (pi_list (h.run X C W F k M)) (pi_or (pi_tup (h.run X C W F k M)) (pi_str (h.run X C W F k M)))) fun σ H R ⟨ρ, g, E, G, q⟩ => ?_
    cases hd : den F e' ρ g with
    | bad => rw [hd] at q; exact q.elim
    | exc c g1 =>
      rw [hd] at q
      refine .inl ⟨ρ, g, E, G, ?_⟩
      rw [hd]
      exact q
    | ok d g1 =>
      rw [hd] at q
      have hK := M.K
      cases d with
      | lst ds =>
        refine .inl ⟨ρ, g, E, G, ?_⟩
        rw [hd]
        intro v H1 e1 G1 r1
        obtain ⟨a, vs, rfl, t, z, l⟩ := r1.lst_inv
        refine ⟨a, rfl, ⟨vs, t.sq⟩, q _ H1 e1 G1 (walkD_at z l walk_list fun M' H2 h2 e2 => ?_)⟩
        exact (e2.lst (t.more h2)).sq
      | tup ds =>
        refine .inr (.inl ⟨ρ, g, E, G, ?_⟩)
        rw [hd]
        intro v H1 e1 G1 r1
        obtain ⟨a, vs, rfl, t, z, l⟩ := r1.tup_inv
        refine ⟨a, rfl, ⟨vs, by rw [hK]; exact t.sq⟩, q _ H1 e1 G1 (walkD_at z l walk_tup fun M' H2 h2 e2 => ?_)⟩
        rw [hK]
        exact (e2.tup (t.more h2)).sq
      | str s =>
        refine .inr (.inr ⟨ρ, g, E, G, ?_⟩)
        rw [hd]
        intro v H1 e1 G1 r1
        obtain ⟨x, rfl, rfl, hx⟩ := r1.str_inv
        refine ⟨x, rfl, q _ H1 e1 G1 (walkD_at (vs := x.cps.toList.map fun c => V.str ⟨#[c]⟩) (G := fun _ => True) (by rw [List.length_map, ← strlen]; exact hx.1) (RpL.signs hx) ?_ fun _ _ _ _ => True.intro)⟩
        have w := walk_str (z := x)
        rw [List.length_map, Array.length_toList]
        refine w.mono (fun _ h => h) fun i H v H' hi _ y => ?_
        obtain ⟨e, c, hc, rfl⟩ := y
        refine ⟨e, ?_⟩
        rw [List.getElem?_map, Array.getElem?_toList, hc]
        rfl
      | _ => exact q.elim
  · cases it <;> first | rfl | exact absurd (show false = true from hs) Bool.false_ne_true

/-! ### ranges -/
theorem rng_RpL {C : Cfg} {H : Hp} (f : Nat → Int) (n : Nat) : RpL C H ((List.range n).map fun k => V.int (f k)) ((List.range n).map fun k => Dat.int (f k)) := by
  have key : ∀ l : List Nat, RpL C H (l.map fun k => V.int (f k)) (l.map fun k => Dat.int (f k)) := by
    intro l
    induction l with
    | nil => exact .nil
    | cons k l ih => exact .cons (.int _) ih
  exact key _
theorem walkD_rng {C : Cfg} {J : It} {H0 : Hp} {f : Nat → Int} {n : Nat} (hz : n ≤ sizeLine) (w : Walk J n (fun _ => True) (YFn fun i => .int (f i))) : WalkD C J ((List.range n).map fun k => Dat.int (f k)) H0 := by
  refine walkD_at (G := fun _ => True) (by simpa using hz) (rng_RpL f n) ?_ fun _ _ _ _ => True.intro
  rw [List.length_map, List.length_range]
  refine w.mono (fun _ h => h) fun i H x H' hi _ y => ?_
  obtain ⟨e, rfl⟩ := y
  refine ⟨e, ?_⟩
  rw [List.getElem?_map, List.getElem?_range hi]
  rfl
theorem tA_rng {X : Cx} {C : Cfg} {W : WX} {F : Nat → List Dat → Mo Dat} {es' : List Ex} {σ : L2.St} {H : Hp} {R : It → Hp → Prop} {P : List V → Hp → Prop} (q : tI C W (den F (.rng es')) σ H R)
    (h : ∀ xs ds g1 vs H1, xs.length = es'.length → rngD xs = some ds → RpL C H1 vs xs → Ext C H H1 → GR C g1 H1 → (∀ J H1', Ext C H H1' → GR C g1 H1' → WalkD C J ds H1' → R J H1') → P vs H1) : tA C W (denL F es') σ H P := by
  obtain ⟨ρ, g, E, G, q⟩ := q
  refine ⟨ρ, g, E, G, ?_⟩
  unfold den at q
  revert q
  cases hd : denL F es' ρ g with
  | bad => exact fun q => q
  | exc c g1 => exact fun q => q
  | ok xs g1 =>
    intro q vs H1 e1 G1 l1
    cases hr : rngD xs with
    | none =>
      have q : (match (ofO ((rngD xs).map Dat.lst) g1 : Res Dat) with | .ok d g1 => (match itemsD d with | none => False | some ds => ∀ J H1, Ext C H H1 → GR C g1 H1 → WalkD C J ds H1 → R J H1) | .exc c g1 => ∀ H', Ext C H H' → GR C g1 H' → W (C.ex c) none σ H' | .bad => False) := q
      rw [hr] at q
      exact q.elim
    | some ds =>
      have q : (match (ofO ((rngD xs).map Dat.lst) g1 : Res Dat) with | .ok d g1 => (match itemsD d with | none => False | some ds => ∀ J H1, Ext C H H1 → GR C g1 H1 → WalkD C J ds H1 → R J H1) | .exc c g1 => ∀ H', Ext C H H' → GR C g1 H' → W (C.ex c) none σ H' | .bad => False) := q
      rw [hr] at q
      exact h xs ds g1 vs H1 (denL_len hd) hr l1 e1 G1 q
theorem pow62 : (2 : Int) ^ 62 = 4611686018427387904 := by decide
theorem semI_rng1 {c : Ctx} {tgE a : Expr} {a' : Ex} {p pos : Pos} (hg : kindB c.sc "range" = some .globalImplicit) (ha : Sem c a a') : SemI c tgE (.Call (.Name "range" p) [a] [] pos) (.rng [a']) := by
  refine ⟨fun X C W F k M => ?_, fun _ _ => rfl⟩
  refine pi_mono (pi_range1 (show X.env.scope.names.lookup ("range" : Str) = some .globalImplicit by rw [M.sc]; exact hg) (M.bi _ (by decide)) ((semL_one ha).run X C W F k M) (star_plain ha.plain)) fun σ H R q => ?_
  refine tA_rng (X := X) q fun xs ds g1 vs H1 hn hr l e1 G1 q => ?_
  have hs := line_eq
  have hp := pow62
  have hl : (line : Int) = 16777216 := rfl
  match xs, l, hr, hn with
  | [.int n], .cons r .nil, hr, _ =>
    unfold rngD at hr
    obtain ⟨hc, rfl⟩ := ite_some hr
    simp only [Bool.and_eq_true, decide_eq_true_eq] at hc
    exact ⟨n, by rw [r.int_inv], by omega, by omega, q _ H1 e1 G1 (walkD_rng (f := fun i => 0 + (i : Int)) (by rw [← hs]; unfold line; omega) walk_range)⟩
theorem semI_rng2 {c : Ctx} {tgE a b : Expr} {a' b' : Ex} {p pos : Pos} (hg : kindB c.sc "range" = some .globalImplicit) (ha : Sem c a a') (hb : Sem c b b') : SemI c tgE (.Call (.Name "range" p) [a, b] [] pos) (.rng [a', b']) := by
  refine ⟨fun X C W F k M => ?_, fun _ _ => rfl⟩
  refine pi_mono (pi_range2 (show X.env.scope.names.lookup ("range" : Str) = some .globalImplicit by rw [M.sc]; exact hg) (M.bi _ (by decide)) ((semL_cons ha (semL_one hb)).run X C W F k M) (by rw [star_plain ha.plain, star_plain hb.plain]; rfl) (by rw [star_plain hb.plain]; rfl)) fun σ H R q => ?_
  refine tA_rng (X := X) q fun xs ds g1 vs H1 hn hr l e1 G1 q => ?_
  have hs := line_eq
  have hp := pow62
  have hl : (line : Int) = 16777216 := rfl
  match xs, l, hr, hn with
  | [.int n, .int m], .cons r (.cons r2 .nil), hr, _ =>
    unfold rngD at hr
    obtain ⟨hc, rfl⟩ := ite_some hr
    simp only [Bool.and_eq_true, decide_eq_true_eq] at hc
    exact ⟨n, m, by rw [r.int_inv, r2.int_inv], ⟨by omega, by omega, by omega, by omega⟩, q _ H1 e1 G1 (walkD_rng (f := fun i => n + (i : Int)) (by rw [← hs]; unfold line; omega) walk_range)⟩
theorem semI_rng3 {c : Ctx} {tgE a b d : Expr} {a' b' d' : Ex} {p pos : Pos} (hg : kindB c.sc "range" = some .globalImplicit) (ha : Sem c a a') (hb : Sem c b b') (hd : Sem c d d') : SemI c tgE (.Call (.Name "range" p) [a, b, d] [] pos) (.rng [a', b', d']) := by
  refine ⟨fun X C W F k M => ?_, fun _ _ => rfl⟩
  have s1 : ∀ env, starEach [a, b, d] env = [(false, eval a env), (false, eval b env), (false, eval d env)] := fun env => by rw [star_plain ha.plain, star_plain hb.plain, star_plain hd.plain]; rfl
  have s2 : ∀ env, starEach [b, d] env = [(false, eval b env), (false, eval d env)] := fun env => by rw [star_plain hb.plain, star_plain hd.plain]; rfl
  refine pi_mono (pi_range3 (show X.env.scope.names.lookup ("range" : Str) = some .globalImplicit by rw [M.sc]; exact hg) (M.bi _ (by decide)) ((semL_cons ha (semL_cons hb (semL_one hd))).run X C W F k M) (star_plain ha.plain) ((semL_cons hb (semL_one hd)).plain _ _)) fun σ H R q => ?_
  refine tA_rng (X := X) q fun xs ds g1 vs H1 hn hr l e1 G1 q => ?_
  have hs := line_eq
  have hp := pow62
  have hl : (line : Int) = 16777216 := rfl
  match xs, l, hr, hn with
  | [.int n, .int m, .int z], .cons r (.cons r2 (.cons r3 .nil)), hr, _ =>
    unfold rngD at hr
    obtain ⟨hc, rfl⟩ := ite_some hr
    simp only [Bool.and_eq_true, decide_eq_true_eq] at hc
    obtain ⟨⟨⟨⟨⟨hz, h1⟩, h2⟩, h3⟩, h4⟩, h5⟩ := hc
    subst hz
    exact ⟨n, m, -1, (n - m).toNat, by rw [r.int_inv, r2.int_inv, r3.int_inv], RgC.neg (by omega) (by omega) (by omega) (by omega), q _ H1 e1 G1 (walkD_rng (f := fun i => n + (i : Int) * -1) (by rw [← hs]; unfold line; omega) walk_rangeC)⟩
end R
set_option Elab.async false
set_option linter.all false
set_option maxRecDepth 100000
set_option maxHeartbeats 4000000
/-! List comprehensions of one clause. -/
namespace R
open PySem PySem.Spec PyProof.Rows L2

def Ctx.inBlk (c : Ctx) (scope : Scope) : Ctx := { c with sc := relS scope c.sc, blk := some scope }
abbrev WNo : WX := fun _ _ _ _ => False
theorem mt_blk {X : Cx} {c : Ctx} {C : Cfg} {W : WX} {F : Nat → List Dat → Mo Dat} {k : Nat} (M : Mt X c C W F k) (s : Shared) (H : Hp) (scope : Scope) (Cc : Addr) (cl : List (Str × Addr)) (fp : List Addr) (M' : List Addr) :
    Mt (X.blk s H scope (compEnvC scope cl Cc X.env) fp) (c.inBlk scope) { C with M := M' } WNo F k where
  N := M.N
  nd := M.nd
  sc := by show relS scope X.env.scope = relS scope c.sc; rw [M.sc]
  calm := M.calm
  K := M.K
  room := M.room
  tk := fun u s' x => by
    obtain ⟨_, _, _, _, _, _, _, _, _, _, _, _, _, _, _, _, z⟩ := x
    exact z.elim
  fn := fun x h => h
  fns := M.fns
  glo := M.glo
  bi := M.bi
  ex := M.ex
/-- a clause's tests: none, or one -/
def SemC (c : Ctx) (ifs : List Expr) (e' : Ex) : Prop := ∀ X C W F k, Mt X c C W F k → PTs X ifs (tT C W (denB F e'))
theorem semC_nil {c : Ctx} : SemC c [] (.con (.bl true)) := by
  intro X C W F k M
  refine ⟨fun pins s σ H Q I ⟨ρ, g, E, G, h⟩ => ?_⟩
  exact pts_nil.run pins s σ H Q I (show Q true H from h H Ext.refl G)
theorem semC_one {c : Ctx} {e : Expr} {e' : Ex} (h : SemT c e e') : SemC c [e] e' := fun X C W F k M => pts_one (h X C W F k M)

theorem noexc_ok {α β : Type} {r : Res α} {k : α → Mo β} {P : Res β → Prop} (hb : P .bad → False) (h : P (r.noexc.bind k)) : ∃ a g, r = .ok a g ∧ P (k a g) := by
  cases r with
  | ok a g => exact ⟨a, g, rfl, h⟩
  | exc c g => exact (hb h).elim
  | bad => exact (hb h).elim
/-- one turn -/
def lcStep (F : Nat → List Dat → Mo Dat) (elt : Ex) (tg : Tg) (cond : Ex) (ρ0 : Sl) (d : Dat) : Mo (Option Dat) := fun g => match bindT tg d ρ0 with
  | none => .bad
  | some ρ2 => (den F cond ρ2 g).bind fun x g => (asB x g).bind fun k g => match k with
    | true => (den F elt ρ2 g).bind fun y g => .ok (some y) g
    | false => .ok none g
theorem den_lc {F : Nat → List Dat → Mo Dat} {elt : Ex} {tg : Tg} {src cond : Ex} {own : List Nat} {ρ : Sl} {g : List Dat} :
    den F (.lc elt tg src cond own) ρ g = (den F src ρ g).bind fun x g => (ofO (itemsD x) g).bind fun ds g => (lcGo (lcStep F elt tg cond (wipeD ρ own)) [] ds g).bind fun ys g => .ok (.lst ys) g := by
  conv => lhs; unfold den
  rfl
/-- the goal of a comprehension's rest -/
def LcEnd (C : Cfg) (H1 : Hp) (Q : VK) (r : Res (List Dat)) : Prop := match r with
  | .ok ys g => ∀ v H', Ext C H1 H' → GR C g H' → Rp C H' v (.lst ys) → Q v H'
  | _ => False
theorem lcGo_cons {step : Dat → Mo (Option Dat)} {acc : List Dat} {d : Dat} {ds g : List Dat} : lcGo step acc (d :: ds) g = (step d g).noexc.bind fun o g1 => match o with
    | some y => lcGo step (acc ++ [y]) ds g1
    | none => lcGo step acc ds g1 := rfl
def gB (C : Cfg) (tg : Tg) : TG := fun v σ H Q => ∃ M, tG { C with M := M } tg v σ H Q
def ttB (C : Cfg) (F : Nat → List Dat → Mo Dat) (cond : Ex) : TT := fun σ H Q => ∃ M, tT { C with M := M } WNo (denB F cond) σ H Q
def teB (C : Cfg) (F : Nat → List Dat → Mo Dat) (elt : Ex) : TE := fun σ H Q => ∃ M, tD { C with M := M } WNo (den F elt) σ H Q
theorem wipe_wipe (σ : L2.St) (own : List Nat) : L2.wipe (L2.wipe σ own) own = L2.wipe σ own := by
  apply List.ext_getElem?
  intro j
  rw [wipe_get]
  by_cases h : j ∈ own
  · rw [if_pos h, wipe_get, if_pos h]
    cases σ[j]? <;> rfl
  · rw [if_neg h]
/-- the turns of a comprehension, D the new list -/
theorem lc_run {X : Cx} {C : Cfg} {F : Nat → List Dat → Mo Dat} {elt cond : Ex} {tg : Tg} {own : List Nat} {J : It} {ds : List Dat} {H1 : Hp} {σ : L2.St} {ρ : Sl} {g : List Dat} {Q : VK} {D : Addr}
    (hw : WalkD C J ds H1) (E : EnvR C H1 σ ρ) (G : GR C g H1) (hD : H1 D = none) (htg : ∀ i ∈ slots tg, i ∈ own) (h : LcEnd C H1 Q (lcGo (lcStep F elt tg cond (wipeD ρ own)) [] ds g)) :
    ∃ W : Nat → Nat → Hp → Prop, (∃ m, W 0 m (upd H1 D (.lst []))) ∧ ∀ i m H, W i m H →
  (J.stop i H ∧ Q (.ref D) H) ∨ (J.go i H ∧ ∃ Nx : Hp → Prop, (∀ H', Nx H' → ∃ m', m' < m ∧ W (i + 1) m' H') ∧ ∀ x H', J.yld i H x H' → gB C tg x (L2.wipe σ own) H' fun σ2 H2 => L2.wipe σ2 own = L2.wipe σ own ∧
    ttB C F cond σ2 H2 fun b H3 =>
    if b = true then teB C F elt σ2 H3 fun y H4 => ∃ acc, H4 D = some (.lst acc) ∧ acc.length < sizeLine ∧ Nx (upd H4 D (.lst (acc ++ [y]))) else Nx H3) := by
  obtain ⟨hz, hw⟩ := hw
  have hDn := G.ne hD
  have hM : ∀ a ∈ D :: C.M, a ∉ C.M → H1 a = none := fun a ha hn => by
    rcases List.mem_cons.mp ha with rfl | ha
    · exact hD
    · exact absurd ha hn
  have hW := hw (D :: C.M) (fun a ha => List.mem_cons_of_mem _ ha) hM
  generalize hC : ({ C with M := D :: C.M } : Cfg) = C' at hW
  have hcup : C'.cup = C.cup := by rw [← hC]
  have hMe : C'.M = D :: C.M := by rw [← hC]
  have extC : ∀ {A B : Hp}, Ext C' A B → Ext C A B := fun e a o h n => e a o h (by rw [hcup]; exact n)
  -- what holds between the turns
  refine lc_it (g := gB C tg) (tt := ttB C F cond) (te := teB C F elt) (vs := own) (σ := σ) (H1 := H1) (D := D) (Qd := fun H => Q (.ref D) H) hW (fun i H => ∃ (vs : List V) (acc g : List Dat), H D = some (.lst vs) ∧ RpL C' H vs acc ∧ GR C' g H ∧ ExtM C' H1 H ∧ Ext C H1 H ∧ EnvR C' H (L2.wipe σ own) (wipeD ρ own) ∧ acc.length ≤ i ∧
      LcEnd C H1 Q (lcGo (lcStep F elt tg cond (wipeD ρ own)) acc (ds.drop i) g)) ?_ ?_ ?_ ?_
  · have e0 : Ext C H1 (upd H1 D (.lst [])) := Ext.new hD
    have e1 : ExtM C' H1 (upd H1 D (.lst [])) := fun a o ha _ _ => e0.m a o ha (by
      intro z; obtain ⟨vs, h1, _⟩ := G.2 a z
      rw [← hcup] at z; exact absurd z (by assumption)) (by
      intro z; rename_i h2; exact h2 (by rw [hMe]; exact List.mem_cons_of_mem _ z))
    refine ⟨[], [], g, upd_same, .nil, ?_, e1, e0, ?_, Nat.le_refl _, by rw [List.drop_zero]; exact h⟩
    · refine ⟨fun a ha => ?_, fun a ha => ?_⟩
      · rw [hMe] at ha
        rcases List.mem_cons.mp ha with rfl | hm
        · rw [upd_same]; exact fun z => nomatch z
        · rw [upd_ne (fun z => by subst z; exact hDn.2 hm)]
          exact G.1 a hm
      · rw [hcup] at ha
        obtain ⟨vs, h1, h2⟩ := G.2 a ha
        have hne : a ≠ D := fun z => by subst z; exact hDn.1 ha
        refine ⟨vs, by rw [upd_ne hne]; exact h1, ?_⟩
        have h3 := RpL.more (M' := D :: C.M) hM h2
        rw [hC] at h3
        exact h3.extM e1
    · have h3 := (E.wipe own).more (M' := D :: C.M) hM
      rw [hC] at h3
      exact h3.extM e1
  · rintro i H hi ⟨vs, acc, g, _, _, _, e, _⟩
    exact e
  · rintro i x H H' hi ⟨vs, acc, g, h1, h2, h3, h4, h5, h6, h7, h8⟩ y
    obtain ⟨e1, G1, d, hd, rd⟩ := y g h3
    have hds : ds.drop i = d :: ds.drop (i + 1) := by
      have := List.drop_eq_getElem_cons hi
      rw [this]
      congr 1
      rw [List.getElem?_eq_getElem hi] at hd
      exact Option.some.inj hd
    rw [hds, lcGo_cons] at h8
    obtain ⟨o, g2, hstep, h8⟩ := noexc_ok (fun z => z) h8
    unfold lcStep at hstep
    have E1 : EnvR C' H' (L2.wipe σ own) (wipeD ρ own) := h6.ext e1
    have hDH : H' D = some (.lst vs) := e1 D _ h1 (by rw [hcup]; exact hDn.1)
    cases hb : bindT tg d (wipeD ρ own) with
    | none => rw [hb] at hstep; cases hstep
    | some ρ2 =>
      rw [hb] at hstep
      have hstep : ((den F cond ρ2 g).bind fun x g => (asB x g).bind fun k g => match k with
        | true => (den F elt ρ2 g).bind fun y g => Res.ok (some y) g
        | false => .ok none g) = .ok o g2 := hstep
      refine ⟨C'.M, ?_⟩
      have hCM : ({ C with M := C'.M } : Cfg) = C' := by rw [hMe, hC]
      rw [hCM]
      refine ⟨d, _, ρ2, rd, E1, hb, fun σ2 E2 hw2 => ⟨by rw [hw2 own htg]; exact wipe_wipe σ own, C'.M, ?_⟩⟩
      rw [hCM]
      refine ⟨ρ2, g, E2, G1, ?_⟩
      revert hstep
      unfold denB
      cases den F cond ρ2 g with
      | bad => exact fun z => nomatch z
      | exc c g => exact fun z => nomatch z
      | ok dc g3 =>
        intro hstep
        cases dc with
        | bl b =>
          intro H3 e3 G3
          have E3 := E2.ext e3
          have hD3 := e3 D _ hDH (by rw [hcup]; exact hDn.1)
          cases b with
          | false =>
            injection hstep with ho hg
            subst ho hg
            rw [if_neg Bool.false_ne_true]
            refine ⟨vs, acc, g3, hD3, (h2.ext e1).ext e3, G3, fun a o ha hc hm => e3 a o (e1 a o (h4 a o ha hc hm) hc) hc, (h5.trans (extC e1)).trans (extC e3), (E1.ext e3), by omega, h8⟩
          | true =>
            rw [if_pos rfl]
            refine ⟨C'.M, ?_⟩
            rw [hCM]
            refine ⟨ρ2, g3, E3, G3, ?_⟩
            have hstep : ((den F elt ρ2 g3).bind fun y g => Res.ok (some y) g) = .ok o g2 := hstep
            revert hstep
            cases den F elt ρ2 g3 with
            | bad => exact fun z => nomatch z
            | exc c g => exact fun z => nomatch z
            | ok y g4 =>
              intro hstep v H4 e4 G4 r4
              injection hstep with ho hg
              subst ho hg
              have hD4 := e4 D _ hD3 (by rw [hcup]; exact hDn.1)
              have l4 := ((h2.ext e1).ext e3).ext e4
              have hl := l4.len
              have em : ExtM C' H4 (upd H4 D (.lst (vs ++ [v]))) := fun a o ha hc hm => by
                rw [upd_ne (fun z => by subst z; exact hm (by rw [hMe]; exact List.mem_cons_self))]
                exact ha
              refine ⟨vs, hD4, by omega, vs ++ [v], acc ++ [y], g4, upd_same, (l4.append (.cons r4 .nil)).extM em, ?_, ?_, ?_, ((E1.ext e3).ext e4).extM em, by rw [List.length_append, List.length_singleton]; omega, h8⟩
              · refine ⟨fun a ha => ?_, fun a ha => ?_⟩
                · by_cases z : a = D
                  · subst z; rw [upd_same]; exact fun z => nomatch z
                  · rw [upd_ne z]; exact G4.1 a ha
                · obtain ⟨ws, w1, w2⟩ := G4.2 a ha
                  refine ⟨ws, by rw [upd_ne (fun z => by subst z; rw [hcup] at ha; exact hDn.1 ha)]; exact w1, w2.extM em⟩
              · intro a o ha hc hm
                exact em a o (e4 a o (e3 a o (e1 a o (h4 a o ha hc hm) hc) hc) hc) hc hm
              · intro a o ha hc
                have z : a ≠ D := fun z => by subst z; rw [hD] at ha; cases ha
                rw [upd_ne z]
                exact extC e4 a o (extC e3 a o (extC e1 a o (h5 a o ha hc) hc) hc) hc
        | _ => exact nomatch hstep
  · rintro H ⟨vs, acc, g, h1, h2, h3, h4, h5, h6, h7, h8⟩
    rw [List.drop_length] at h8
    have h8 : ∀ v H', Ext C H1 H' → GR C g H' → Rp C H' v (.lst acc) → Q v H' := h8
    have less : ∀ a ∈ C.M, a ∈ D :: C.M := fun a ha => List.mem_cons_of_mem _ ha
    rw [← hC] at h2 h3
    refine h8 _ H h5 ⟨fun a ha => h3.1 a (less a ha), fun a ha => ?_⟩ (.lst ⟨.inl h1, hDn⟩ (by omega) (h2.less less))
    obtain ⟨ws, w1, w2⟩ := h3.2 a ha
    exact ⟨ws, w1, w2.less less⟩
end R
namespace R
open PySem PySem.Spec PyProof.Rows L2
theorem lcGo_exc {step : Dat → Mo (Option Dat)} : ∀ (ds acc g : List Dat) (c : Nat) (g' : List Dat), lcGo step acc ds g ≠ .exc c g'
  | [], acc, g, c, g' => fun h => by unfold lcGo at h; cases h
  | d :: ds, acc, g, c, g' => fun h => by
    rw [lcGo_cons] at h
    cases hs : step d g with
    | ok o g1 =>
      rw [hs] at h
      cases o with
      | none => exact lcGo_exc ds acc g1 c g' h
      | some y => exact lcGo_exc ds (acc ++ [y]) g1 c g' h
    | exc c g1 => rw [hs] at h; cases h
    | bad => rw [hs] at h; cases h
theorem lc_reading {X : Cx} {C : Cfg} {W : WX} {F : Nat → List Dat → Mo Dat} {elt src cond : Ex} {tg : Tg} {own : List Nat} {σ : L2.St} {H : Hp} {Q : VK} (htg : ∀ i ∈ slots tg, i ∈ own)
    (q : tD C W (den F (.lc elt tg src cond own)) σ H Q) : tLc (tI C W (den F src)) (gB C tg) (ttB C F cond) (teB C F elt) own σ H Q := by
  obtain ⟨ρ, g, E, G, q⟩ := q
  rw [den_lc] at q
  refine ⟨ρ, g, E, G, ?_⟩
  revert q
  cases den F src ρ g with
  | bad => exact fun q => q
  | exc c g1 => exact fun q => q
  | ok d g1 =>
    intro q
    have q : RunE C W ((ofO (itemsD d) g1).bind fun ds g => (lcGo (lcStep F elt tg cond (wipeD ρ own)) [] ds g).bind fun ys g => .ok (.lst ys) g) σ H Q := q
    show match itemsD d with | none => False | some ds => _
    cases hi : itemsD d with
    | none => rw [hi] at q; exact q.elim
    | some ds =>
      rw [hi] at q
      intro J H1 e1 G1 hw D hD
      refine lc_run (X := X) hw (E.ext e1) G1 hD htg ?_
      have q : RunE C W ((lcGo (lcStep F elt tg cond (wipeD ρ own)) [] ds g1).bind fun ys g => .ok (.lst ys) g) σ H Q := q
      have hne := lcGo_exc (step := lcStep F elt tg cond (wipeD ρ own)) ds [] g1
      revert q hne
      cases lcGo (lcStep F elt tg cond (wipeD ρ own)) [] ds g1 with
      | ok ys g2 => exact fun q _ v H' e => q v H' (e1.trans e)
      | exc c g2 => exact fun _ hne => (hne c g2 rfl).elim
      | bad => exact fun q _ => q
structure LcOk (c : Ctx) (elt tgE iter : Expr) (ifs : List Expr) (scope : Scope) (own : List (Str × Nat)) (elt' : Ex) (tg : Tg) (src cond : Ex) : Prop where
  hi : SemI c tgE iter src
  ok : blkC c.N c.sc scope own = true
  hg : SemG (c.inBlk scope) tgE tg
  hc : SemC (c.inBlk scope) ifs cond
  he : Sem (c.inBlk scope) elt elt'
  hs : (slots tg).all (fun i => (own.map (·.2)).contains i) = true
theorem LcOk.sub {c : Ctx} {elt tgE iter : Expr} {ifs : List Expr} {scope : Scope} {own : List (Str × Nat)} {elt' : Ex} {tg : Tg} {src cond : Ex} (L : LcOk c elt tgE iter ifs scope own elt' tg src cond) : ∀ i ∈ slots tg, i ∈ own.map (·.2) := fun i hi => by
  have := List.all_eq_true.mp L.hs i hi
  simpa using this
section
variable {c : Ctx} {elt tgE iter : Expr} {ifs : List Expr} {scope : Scope} {own : List (Str × Nat)} {elt' : Ex} {tg : Tg} {src cond : Ex} {X : Cx} {C : Cfg} {W : WX} {F : Nat → List Dat → Mo Dat} {k : Nat}
theorem LcOk.pg (L : LcOk c elt tgE iter ifs scope own elt' tg src cond) (M : Mt X c C W F k) : ∀ (s : Shared) (H : Hp) (Cc : Addr) (cl : List (Str × Addr)) (fp : List Addr), PG (X.blk s H scope (compEnvC scope cl Cc X.env) fp) tgE (gB C tg) := fun s H Cc cl fp =>
  ⟨fun pins s' σ H' v u Q I r ⟨M', q⟩ => (L.hg.1 _ _ _ _ _ (mt_blk M s H scope Cc cl fp M')).run pins s' σ H' v u Q I r q⟩
theorem LcOk.pt (L : LcOk c elt tgE iter ifs scope own elt' tg src cond) (M : Mt X c C W F k) : ∀ (s : Shared) (H : Hp) (Cc : Addr) (cl : List (Str × Addr)) (fp : List Addr), PTs (X.blk s H scope (compEnvC scope cl Cc X.env) fp) ifs (ttB C F cond) := fun s H Cc cl fp =>
  ⟨fun pins s' σ H' Q I ⟨M', q⟩ => (L.hc _ _ _ _ _ (mt_blk M s H scope Cc cl fp M')).run pins s' σ H' Q I q⟩
theorem LcOk.pe (L : LcOk c elt tgE iter ifs scope own elt' tg src cond) (M : Mt X c C W F k) : ∀ (s : Shared) (H : Hp) (Cc : Addr) (cl : List (Str × Addr)) (fp : List Addr), PE (X.blk s H scope (compEnvC scope cl Cc X.env) fp) elt (teB C F elt') := fun s H Cc cl fp =>
  ⟨fun pins s' σ H' Q I ⟨M', q⟩ => (L.he.run _ _ _ _ _ (mt_blk M s H scope Cc cl fp M')).run pins s' σ H' Q I q⟩
theorem LcOk.blk (L : LcOk c elt tgE iter ifs scope own elt' tg src cond) (M : Mt X c C W F k) : BlkOk X.N X.env.scope scope own := by
  rw [M.N, M.sc]
  exact blkOk_by L.ok
theorem sem_lc (L : LcOk c elt tgE iter ifs scope own elt' tg src cond) {pos : Pos} : Sem c (.ListComp elt [⟨tgE, iter, ifs, 0⟩] scope pos) (.lc elt' tg src cond (own.map (·.2))) :=
  ⟨fun X C W F k M => pe_mono (pe_lc M.calm (by rw [M.N]; exact M.nd) (L.hi.run X C W F k M) (L.blk M) (L.pg M) (L.pt M) (L.pe M) (L.hi.ns _)) fun σ H Q q => lc_reading (X := X) L.sub q, rfl⟩
end
end R
set_option Elab.async false
set_option linter.all false
set_option maxRecDepth 100000
set_option maxHeartbeats 4000000
/-! Statements. -/
namespace R
open PySem PySem.Spec PyProof.Rows L2

def RunS (C : Cfg) (W : WX) (r : Res Out) (D : Ends) (H : Hp) : Prop := match r with
  | .ok (.nx ρ) g => ∀ σ' H', Ext C H H' → EnvR C H' σ' ρ → GR C g H' → D.nx σ' H'
  | .ok (.bk ρ) g => ∀ σ' H', Ext C H H' → EnvR C H' σ' ρ → GR C g H' → D.bk σ' H'
  | .ok (.ct ρ) g => ∀ σ' H', Ext C H H' → EnvR C H' σ' ρ → GR C g H' → D.ct σ' H'
  | .ok (.rt d fresh) g => ∀ v H', Ext C H H' → GR C g H' → Rp C H' v d → (fresh = true → ∀ p, v = .ref p → ∃ vs, H' p = some (.lst vs)) → D.rt v H'
  | .exc c g => ∀ σ' H', Ext C H H' → GR C g H' → W (C.ex c) none σ' H'
  | .bad => False
def tS (C : Cfg) (W : WX) (f : Sl → Mo Out) : TS := fun D σ H => ∃ ρ g, EnvR C H σ ρ ∧ GR C g H ∧ RunS C W (f ρ g) D H
theorem Ext.none {C : Cfg} {H H1 : Hp} {g : List Dat} {p : Addr} (e : Ext C H H1) (G : GR C g H1) (h : H1 p = none) : H p = none := by
  cases q : H p with
  | none => rfl
  | some o =>
    by_cases hc : C.cup = some p
    · obtain ⟨vs, h1, _⟩ := G.2 p hc
      rw [h] at h1; cases h1
    · rw [e p o q hc] at h; cases h
theorem RunS.ext {C : Cfg} {W : WX} {r : Res Out} {D : Ends} {H H1 : Hp} {g : List Dat} (h : RunS C W r D H) (e : Ext C H H1) (G : GR C g H1) : RunS C W r D H1 := by
  cases r with
  | bad => exact h
  | exc c g => exact fun σ' H' e1 => h σ' H' (e.trans e1)
  | ok o g =>
    cases o with
    | nx ρ => exact fun σ' H' e1 => h σ' H' (e.trans e1)
    | bk ρ => exact fun σ' H' e1 => h σ' H' (e.trans e1)
    | ct ρ => exact fun σ' H' e1 => h σ' H' (e.trans e1)
    | rt d f => exact fun v H' e1 G1 r hf => h v H' (e.trans e1) G1 r hf
structure MtS (X : Cx) (c : Ctx) (C : Cfg) (W : WX) (F : Nat → List Dat → Mo Dat) (k : Nat) : Prop extends Mt X c C W F k where
  po : PassesOwn (model X.prog X.w) X.A X.env X.xe
def SemS (c : Ctx) (st : Stmt) (s' : Sm) : Prop := ∀ X C W F k, MtS X c C W F k → PS X st (tS C W (run F s'))
def SemB (c : Ctx) (st : List Stmt) (s' : List Sm) : Prop := ∀ X C W F k, MtS X c C W F k → PSs X st (tS C W (runs F s'))
/-- an expression first -/
theorem tD_S {C : Cfg} {W : WX} {fa : Sl → Mo Dat} {σ : L2.St} {H : Hp} {D : Ends} {Q : VK} {ρ : Sl} {g : List Dat} (k : Dat → Mo Out) (E : EnvR C H σ ρ) (G : GR C g H) (h : RunS C W ((fa ρ g).bind k) D H)
    (hk : ∀ d g' v H', Ext C H H' → EnvR C H' σ ρ → GR C g' H' → Rp C H' v d → RunS C W (k d g') D H' → Q v H') : tD C W fa σ H Q :=
  tD_then k (fun r H => RunS C W r D H) E G h (fun _ _ p H' e G' => p σ H' e G') id fun d g' v H' e E' G' r h' => hk d g' v H' e E' G' r (h'.ext e G')
def noComp : Expr → Bool
  | .ListComp .. => false
  | .SetComp .. => false
  | .DictComp .. => false
  | _ => true
theorem noSwap {e : Expr} (h : noComp e = true) (t : Option Expr) (n : Nat) (env : Env) : swapsWith e t n env = pure false := by
  cases e <;> first | rfl | exact absurd (show false = true from h) Bool.false_ne_true
theorem semS_expr {c : Ctx} {e : Expr} {e' : Ex} {pos : Pos} (h : Sem c e e') (hn : noComp e = true) : SemS c (.Expr e pos) (.expr e') := by
  intro X C W F k M
  refine ps_mono (ps_expr (h.run X C W F k M.toMt) (noSwap hn _ _ _)) fun D σ H ⟨ρ, g, E, G, q⟩ => ?_
  unfold run at q
  exact tD_S _ E G q fun d g' v H' e E' G' r q' => q' σ H' Ext.refl E' G'
theorem semS_ret {c : Ctx} {e : Expr} {e' : Ex} {pos : Pos} (h : Sem c e e') : SemS c (.Return (some e) pos) (.ret e') := by
  intro X C W F k M
  refine ps_mono (ps_ret (h.run X C W F k M.toMt)) fun D σ H ⟨ρ, g, E, G, q⟩ => ?_
  unfold run at q
  exact tD_S _ E G q fun d g' v H' e E' G' r q' => q' v H' Ext.refl G' r fun z => nomatch z
theorem semS_retL {c : Ctx} {es : List Expr} {es' : List Ex} {pos pos' : Pos} (h : SemL c es es') (hz : es'.length ≤ 16777216) : SemS c (.Return (some (.List es pos)) pos') (.retL es') := by
  intro X C W F k M
  refine ps_mono (ps_ret (pe_lst (h.run X C W F k M.toMt))) fun D σ H ⟨ρ, g, E, G, q⟩ => ?_
  unfold run at q
  refine tLst_new (X := X) hz E G ?_
  revert q
  cases denL F es' ρ g with
  | ok ds g1 => exact fun q p H1 vs e1 G1 r1 hp hl => q _ _ (e1.trans (Ext.new hp)) (G1.new hp) (.newL G1 hp hl r1) fun _ p' e => (by cases e; exact ⟨_, upd_same⟩)
  | exc c g1 => exact fun q H' e G' => q σ H' e G'
  | bad => exact fun q => q
theorem semS_pass {c : Ctx} {pos : Pos} : SemS c (.Pass pos) .pass := by
  intro X C W F k M
  refine ps_mono ps_pass fun D σ H ⟨ρ, g, E, G, q⟩ => ?_
  unfold run at q
  exact q σ H Ext.refl E G
theorem semS_cont {c : Ctx} {pos : Pos} : SemS c (.Continue pos) .cont := by
  intro X C W F k M
  refine ps_mono ps_continue fun D σ H ⟨ρ, g, E, G, q⟩ => ?_
  unfold run at q
  exact q σ H Ext.refl E G
theorem semS_brk {c : Ctx} {pos : Pos} : SemS c (.Break pos) .brk := by
  intro X C W F k M
  refine ps_mono ps_break fun D σ H ⟨ρ, g, E, G, q⟩ => ?_
  unfold run at q
  exact q σ H Ext.refl E G
theorem semB_nil {c : Ctx} : SemB c [] [] := by
  intro X C W F k M
  refine pss_mono pss_nil fun D σ H ⟨ρ, g, E, G, q⟩ => ?_
  unfold runs at q
  exact q σ H Ext.refl E G
theorem semB_cons {c : Ctx} {st : Stmt} {sts : List Stmt} {s' : Sm} {ss' : List Sm} (h1 : SemS c st s') (h2 : SemB c sts ss') : SemB c (st :: sts) (s' :: ss') := by
  intro X C W F k M
  refine pss_mono (pss_cons (h1 X C W F k M) (h2 X C W F k M)) fun D σ H ⟨ρ, g, E, G, q⟩ => ?_
  unfold runs at q
  refine ⟨ρ, g, E, G, ?_⟩
  revert q
  cases run F s' ρ g with
  | bad => exact fun q => q
  | exc c g1 => exact fun q => q
  | ok o g1 =>
    cases o with
    | nx ρ1 =>
      intro q σ' H' e E' G'
      exact ⟨ρ1, g1, E', G', RunS.ext (show RunS C W (runs F ss' ρ1 g1) D H from q) e G'⟩
    | bk ρ1 => exact fun q => q
    | ct ρ1 => exact fun q => q
    | rt d f => exact fun q => q
theorem semS_if {c : Ctx} {t : Expr} {a b : List Stmt} {t' : Ex} {a' b' : List Sm} {pos : Pos} (ht : SemT c t t') (ha : SemB c a a') (hb : SemB c b b') : SemS c (.If t a b pos) (.ifs t' a' b') := by
  intro X C W F k M
  refine ps_mono (ps_if (ht X C W F k M.toMt) (ha X C W F k M) (hb X C W F k M)) fun D σ H ⟨ρ, g, E, G, q⟩ => ?_
  unfold run at q
  refine tT_then _ (fun r H => RunS C W r D H) E G q (fun _ _ p H' e G' => p σ H' e G') id fun d g' H' e E' G' q' => ?_
  have q' := q'.ext e G'
  cases d with
  | true => exact ⟨ρ, g', E', G', q'⟩
  | false => exact ⟨ρ, g', E', G', q'⟩
/-- x = e, a name -/
theorem semS_set {c : Ctx} {x : Str} {i : Nat} {e : Expr} {e' : Ex} {p pos : Pos} (hN : c.N[i]? = some x) (hl : locB c x = true) (h : Sem c e e') (hn : noComp e = true) : SemS c (.Assign [.Name x p] e pos) (.set (.nm i) e') := by
  intro X C W F k M
  obtain ⟨h1, h2⟩ := loc_of hl M.toMt
  refine ps_mono (ps_set (i := i) (by rw [M.N]; exact M.nd) (by rw [M.N]; exact hN) h1 (h.run X C W F k M.toMt) (noSwap hn _ _ _) h2) fun D σ H ⟨ρ, g, E, G, q⟩ => ?_
  unfold run at q
  refine tD_S _ E G q fun d g' v H' e E' G' r q' => ?_
  unfold bindT at q'
  exact q' _ H' Ext.refl (E'.set r) G'
theorem semS_setLc {c : Ctx} {x : Str} {i : Nat} {p pos spos : Pos} {elt tgE iter : Expr} {ifs : List Expr} {scope : Scope} {own : List (Str × Nat)} {elt' : Ex} {tg : Tg} {src cond : Ex} (L : LcOk c elt tgE iter ifs scope own elt' tg src cond)
    (hN : c.N[i]? = some x) (hl : kindB c.sc x = some .local) (hk : c.sc.kind = .function) (hline : (p.line == pos.line) = true) (ha : (scope.names.any fun (n, k) => n == x && (k == .local || k == .cell)) = false) :
    SemS c (.Assign [.Name x p] (.ListComp elt [⟨tgE, iter, ifs, 0⟩] scope pos) spos) (.set (.nm i) (.lc elt' tg src cond (own.map (·.2)))) := by
  intro X C W F k M
  have hX : X.env.scope.names.lookup x = some .local := by rw [M.sc]; exact hl
  refine ps_mono (ps_setLc (i := i) M.calm (by rw [M.N]; exact M.nd) (by rw [M.N]; exact hN) hX (sw_true (by rw [M.sc]; exact hk) hX hline ha) (L.hi.run X C W F k M.toMt) (L.blk M.toMt) (L.pg M.toMt) (L.pt M.toMt) (L.pe M.toMt) (L.hi.ns _)) fun D σ H ⟨ρ, g, E, G, q⟩ => ?_
  unfold run at q
  refine lc_reading (X := X) L.sub (tD_S _ E G q fun d g' v H' e E' G' r q' => ?_)
  unfold bindT at q'
  exact q' _ H' Ext.refl (E'.set r) G'
def noTup : Expr → Bool
  | .Tuple .. => false
  | _ => true
theorem noSwapped {e t : Expr} (h : noTup e = true) (env : Env) : swappedStores [t] e env = pure none := by
  cases t <;> cases e <;> first | rfl | exact absurd (show false = true from h) Bool.false_ne_true
/-- a, b = e -/
theorem semS_unp {c : Ctx} {t : Expr} {tg : Tg} {e : Expr} {e' : Ex} {pos : Pos} (ht : SemG c t tg) (h : Sem c e e') (hn : noComp e = true) (hn2 : noTup e = true) : SemS c (.Assign [t] e pos) (.set tg e') := by
  intro X C W F k M
  refine ps_mono (ps_asg (h.run X C W F k M.toMt) (ht.1 X C W F k M.toMt) (noSwap hn _ _ _) (noSwapped hn2 _) (by rw [asg_plain ht.2]; rfl)) fun D σ H ⟨ρ, g, E, G, q⟩ => ?_
  unfold run at q
  refine tD_S _ E G q fun d g' v H' e E' G' r q' => ?_
  cases hb : bindT tg d ρ with
  | none => rw [hb] at q'; exact q'.elim
  | some ρ1 =>
    rw [hb] at q'
    exact ⟨d, ρ, ρ1, r, E', hb, fun σ' E1 _ => q' σ' H' Ext.refl E1 G'⟩
/-- o[i] = e, o the cup -/
theorem semS_put {c : Ctx} {x : Str} {i : Nat} {ie e : Expr} {ie' e' : Ex} {p p2 pos : Pos} (hN : c.N[i]? = some x) (hv : visB c.sc x = true) (hd : dbgB x = false) (hi : Sem c ie ie') (h : Sem c e e') (hn : noComp e = true) (hn2 : noTup e = true) (hs : noSlice ie = true) :
    SemS c (.Assign [.Subscript (.Name x p) ie p2] e pos) (.putIx i ie' e') := by
  intro X C W F k M
  have ho := (sem_var (pos := p) hN hv hd).run X C W F k M.toMt
  refine ps_mono (ps_asg (h.run X C W F k M.toMt) (pg_sub ho (hi.run X C W F k M.toMt) set_list (by intro v; cases ie <;> first | rfl | exact absurd (show false = true from hs) Bool.false_ne_true)) (noSwap hn (some (.Subscript (.Name x p) ie p2)) pos.line X.env) (noSwapped hn2 _) rfl) fun D σ H ⟨ρ, g, E, G, q⟩ => ?_
  unfold run at q
  refine tD_S _ E G q fun d g' v H' e E' G' r q' => ?_
  cases hr : ρ.getD i none with
  | none => rw [hr] at q'; exact q'.elim
  | some o =>
    rw [hr] at q'
    cases o with
    | cup =>
      have q' : RunS C W ((den F ie' ρ g').bind fun y g => match y with
        | .int k => match ixD g.length k with
          | some j => .ok (.nx ρ) (g.set j d)
          | none => .bad
        | _ => .bad) D H' := q'
      refine ⟨ρ, g', E', G', ?_⟩
      unfold den
      rw [hr]
      intro vo H1 e1 G1 ro
      cases ro with
      | @cup a hcup =>
        refine tD_S _ (E'.ext e1) G1 (q'.ext e1 G1) fun y g2 vi H2 e2 E2 G2 ri q2 => ?_
        cases y with
        | int k =>
          have q2 : RunS C W (match ixD g2.length k with | some j => .ok (.nx ρ) (g2.set j d) | none => .bad) D H2 := q2
          cases hj : ixD g2.length k with
          | none => rw [hj] at q2; exact q2.elim
          | some j =>
            rw [hj] at q2
            obtain ⟨vs, h1, h2⟩ := G2.2 a hcup
            refine ⟨a, vs, k, j, rfl, ri.int_inv, h1, by rw [← ixD_eq, h2.len]; exact hj, ?_⟩
            have e3 : Ext C H2 (upd H2 a (.lst (vs.set j v))) := fun b o hb hc => by
              rw [upd_ne (fun z => hc (by rw [z]; exact hcup))]; exact hb
            refine q2 σ _ e3 (E2.ext e3) ⟨fun b hb => ?_, fun b hb => ?_⟩
            · by_cases z : b = a
              · subst z; rw [upd_same]; exact fun z => nomatch z
              · rw [upd_ne z]; exact G2.1 b hb
            · have z : b = a := Option.some.inj (hb.symm.trans hcup)
              subst z
              exact ⟨_, upd_same, (RpL.set ((r.ext e1).ext e2) j h2).ext e3⟩
        | _ => exact q2.elim
    | _ => exact q'.elim
end R
set_option Elab.async false
set_option linter.all false
set_option maxRecDepth 100000
set_option maxHeartbeats 4000000
/-! for, raise. -/
namespace R
open PySem PySem.Spec PyProof.Rows L2

theorem forGo_cons {tg : Tg} {body : Sl → Mo Out} {d : Dat} {ds : List Dat} {ρ ρ1 : Sl} {g : List Dat} (h : bindT tg d ρ = some ρ1) : forGo tg body (d :: ds) ρ g = (body ρ1 g).bind fun o g => match o with
      | .nx ρ2 => forGo tg body ds ρ2 g
      | .ct ρ2 => forGo tg body ds ρ2 g
      | .bk ρ2 => .ok (.nx ρ2) g
      | .rt d f => .ok (.rt d f) g := by
  rw [forGo, h] <;> rfl
theorem semS_for {c : Ctx} {t it : Expr} {tg : Tg} {src : Ex} {b : List Stmt} {b' : List Sm} {pos : Pos} (ht : SemG c t tg) (hi : SemI c t it src) (hb : SemB c b b') : SemS c (.For t it b [] pos) (.fors tg src b') := by
  intro X C W F k M
  refine ps_mono (ps_for M.po M.calm (hi.run X C W F k M.toMt) (ht.1 X C W F k M.toMt) (hb X C W F k M) (hi.ns _)) fun D σ H ⟨ρ, g, E, G, q⟩ => ?_
  unfold run at q
  refine ⟨ρ, g, E, G, ?_⟩
  revert q
  cases hd : den F src ρ g with
  | bad => exact fun q => q
  | exc c1 g1 => exact fun q H' e G' => q σ H' e G'
  | ok d g1 =>
    intro q
    have q : RunS C W ((ofO (itemsD d) g1).bind fun ds g => forGo tg (fun ρ g => runs F b' ρ g) ds ρ g) D H := q
    dsimp only
    revert q
    cases itemsD d with
    | none => exact fun q => q
    | some ds =>
      intro q J H1 e1 G1 w
      have q : RunS C W (forGo tg (fun ρ g => runs F b' ρ g) ds ρ g1) D H := q
      have w2 := w.2 C.M (fun _ h => h) (fun a h1 h2 => absurd h1 h2)
      refine for_it (Walk.mono (G' := fun H2 => ExtM C H1 H2) w2 (fun _ h => h) fun _ _ _ _ _ _ y => y) (fun i σ H => ∃ ρ g, EnvR C H σ ρ ∧ GR C g H ∧ Ext C H1 H ∧ RunS C W (forGo tg (fun ρ g => runs F b' ρ g) (ds.drop i) ρ g) D H) ⟨ρ, g1, E.ext e1, G1, Ext.refl, q.ext e1 G1⟩ (fun i σ H _ ⟨_, _, _, _, e, _⟩ => e.m) ?_ ?_
      · rintro i x σ2 H2 H3 hlt ⟨ρ2, g2, E2, G2, e2, q2⟩ y
      -- the value of this turn
        obtain ⟨e3, G3, d, hd, rd⟩ := y g2 G2
        have hdr : ds.drop i = d :: ds.drop (i + 1) := by
          rw [List.drop_eq_getElem_cons hlt]
          rw [List.getElem?_eq_getElem hlt] at hd
          rw [Option.some.inj hd]
        rw [hdr] at q2
        have q2 := q2.ext e3 G3
        cases hbt : bindT tg d ρ2 with
        | none => rw [forGo, hbt] at q2; exact q2.elim
        | some ρ3 =>
          rw [forGo_cons hbt] at q2
          refine ⟨d, ρ2, ρ3, rd, E2.ext e3, hbt, fun σ3 E3 _ => ⟨ρ3, g2, E3, G3, ?_⟩⟩
          revert q2
          cases runs F b' ρ3 g2 with
          | bad => exact fun q => q
          | exc c1 g3 => exact fun q => q
          | ok o g3 =>
            cases o with
            | nx ρ4 =>
              intro q2 σ4 H4 e4 E4 G4
              exact ⟨ρ4, g3, E4, G4, e2.trans (e3.trans e4), RunS.ext (show RunS C W (forGo tg (fun ρ g => runs F b' ρ g) (ds.drop (i + 1)) ρ4 g3) D H3 from q2) e4 G4⟩
            | ct ρ4 =>
              intro q2 σ4 H4 e4 E4 G4
              exact ⟨ρ4, g3, E4, G4, e2.trans (e3.trans e4), RunS.ext (show RunS C W (forGo tg (fun ρ g => runs F b' ρ g) (ds.drop (i + 1)) ρ4 g3) D H3 from q2) e4 G4⟩
            | bk ρ4 => exact fun q2 σ4 H4 e4 E4 G4 => q2 σ4 H4 e4 E4 G4
            | rt d f => exact fun q2 => q2
      · rintro σ2 H2 ⟨ρ2, g2, E2, G2, e2, q2⟩
        rw [List.drop_eq_nil_of_le (Nat.le_refl _), forGo] at q2
        exact q2 σ2 H2 Ext.refl E2 G2
/-- raise X('m') -/
theorem semS_raise {c : Ctx} {x m : Str} {i j : Nat} {p p2 pos pos2 : Pos} (hl : c.exs.lookup x = some i) (hg : kindB c.sc x = some .globalImplicit) (hd : dbgB x = false) : SemS c (.Raise (some (.Call (.Name x p) [.Constant (.str m) j p2] [] pos)) none pos2) (.raise i) := by
  intro X C W F k M
  obtain ⟨Cx, h1, h2, h3, h4, h5, h6⟩ := M.ex x i hl
  obtain ⟨d1, d2, d3⟩ := dbg_of hd
  refine ps_mono (ps_raise M.calm M.tk (pmk_own PySem.F.excBase_ValueError h3 h1 h4 (raises_own h5 h6) (show X.env.scope.names.lookup x = some .globalImplicit by rw [M.sc]; exact hg) d1)) fun D σ H ⟨ρ, g, E, G, q⟩ => ?_
  unfold run at q
  have := q σ H Ext.refl G
  rw [h2] at this
  exact this
/-- what is not told: nothing is promised -/
def stuckE : Ex := .neg (.con .non)
theorem stuck_den {F : Nat → List Dat → Mo Dat} {ρ : Sl} {g : List Dat} : den F stuckE ρ g = .bad := by
  unfold stuckE
  simp only [den]
  rfl
theorem semS_stuck {c : Ctx} {st : Stmt} : SemS c st (.expr stuckE) := by
  intro X C W F k M
  refine ⟨fun pins s σ H D I ⟨ρ, g, E, G, q⟩ => ?_⟩
  unfold run at q
  rw [stuck_den] at q
  exact q.elim
theorem sem_stuck {c : Ctx} {e : Expr} (h : plainE e = true) : Sem c e stuckE := by
  refine ⟨fun X C W F k M => ⟨fun pins s σ H Q I ⟨ρ, g, E, G, q⟩ => ?_⟩, h⟩
  rw [stuck_den] at q
  exact q.elim
theorem semT_stuck {c : Ctx} {e : Expr} : SemT c e stuckE := by
  intro X C W F k M
  refine ⟨fun pins s σ H Q I ⟨ρ, g, E, G, q⟩ => ?_⟩
  unfold denB at q
  rw [stuck_den] at q
  exact q.elim
end R
set_option Elab.async false
set_option linter.all false
set_option maxRecDepth 100000
set_option maxHeartbeats 4000000
/-! The defs of a text: each does as its plain run. -/
namespace R
open PySem PySem.Spec PyProof.Rows L2

structure DefR where
  name : Str
  st : Stmt
  N : List Str
  ps : List Str
  df : Df
abbrev DefR.toD (d : DefR) : He.DefD := ⟨(d.name, none), d.name, d.name, defArgs d.st, defBody d.st, defScope d.st, [], []⟩
def fnsOf (T : List DefR) : List (Str × (Nat × Nat)) := T.zipIdx.map fun q => (q.1.name, (q.2, q.1.ps.length))
def ctxOf (T : List DefR) (exs : List (Str × Nat)) (glo : List (Str × Dat)) (d : DefR) : Ctx := { N := d.N, sc := defScope d.st, blk := none, fns := fnsOf T, exs := exs, glo := glo }
theorem lookup_mem {α : Type} {x : Str} {v : α} : ∀ {l : List (Str × α)}, l.lookup x = some v → (x, v) ∈ l
  | [], h => by cases h
  | (y, w) :: l, h => by
    rw [List.lookup_cons] at h
    cases e : x == y with
    | true =>
      rw [e] at h
      have h1 : w = v := Option.some.inj h
      have h2 : x = y := eq_of_beq e
      subst h1 h2
      exact List.mem_cons_self
    | false =>
      rw [e] at h
      exact List.mem_cons_of_mem _ (lookup_mem h)
theorem fnsOf_get {T : List DefR} {x : Str} {i n : Nat} (h : (fnsOf T).lookup x = some (i, n)) : ∃ d, T[i]? = some d ∧ d.name = x ∧ d.ps.length = n := by
  have hm := lookup_mem h
  unfold fnsOf at hm
  obtain ⟨⟨d, j⟩, h1, h2⟩ := List.mem_map.mp hm
  have h3 : (d.name, (j, d.ps.length)) = (x, (i, n)) := h2
  simp only [Prod.mk.injEq] at h3
  obtain ⟨e1, e2, e3⟩ := h3
  subst e1 e2 e3
  exact ⟨d, by simpa using List.mk_mem_zipIdx_iff_getElem?.mp h1, rfl, rfl⟩
/-- the def's promise about its own text -/
structure DefOk (T : List DefR) (exs : List (Str × Nat)) (glo : List (Str × Dat)) (d : DefR) : Prop where
  np : d.df.np = d.ps.length
  ns : d.df.ns = d.N.length
  sc : FnScope d.N d.ps (defScope d.st)
  bind : ∀ (kV doc pm : Value) (an : Option Addr) (cdv ct : Value) (us : List Value), us.length = d.ps.length → bindArgs (PySem.W.fnOf d.name d.name (defArgs d.st) (defBody d.st) (defScope d.st) .none kV doc pm an cdv ct) ⟨us, []⟩ = pure (d.ps.zip us)
  body : SemB (ctxOf T exs glo d) (defBody d.st) d.df.body
/-- what the top has left -/
structure Top (K : PySem.W.Frag) (mg : Str → Option Value) (C : Cfg) (T : List DefR) (exs : List (Str × Nat)) (glo : List (Str × Dat)) : Prop where
  kk : C.K = K
  bi : ∀ x ∈ biNames, mg x = none
  glo : ∀ x d, glo.lookup x = some d → ∃ u v, mg x = some u ∧ RelV v u ∧ ∀ (cup : Option Addr) (M : List Addr) (H : Hp), Rp { C with cup := cup, M := M } H v d
  fn : ∀ i d, T[i]? = some d → mg d.name = some (.ref (C.fa i)) ∧ C.fr i = d.df.fr ∧ ∃ fd, FunD K d.name d.name (defArgs d.st) (defBody d.st) (defScope d.st) [] [] (C.fa i) fd
  ex : ∀ x j, exs.lookup x = some j → ∃ Cx : Addr, mg x = some (.ref Cx) ∧ C.ex j = .ref Cx ∧ PySem.W.excIn K Cx He.veBase "ValueError.__new__" = true ∧ PySem.W.keepIn K (.ref Cx) = true ∧ PySem.W.subIn K (.ref Cx) (.type "BaseException") = some true ∧ PySem.W.typeIn K (.ref Cx) = some (.type "type")
section
variable {P : Program} {w : World} {K : PySem.W.Frag} {mg : Str → Option Value} {base : Heap} {C : Cfg} {T : List DefR} {exs : List (Str × Nat)} {glo : List (Str × Dat)}
/-- the context of a def's body is one of ours -/
theorem mt_def (tp : Top K mg C T exs glo) (D : ∀ (i : Nat) (d : DefR), T[i]? = some d → DefOk T exs glo d) {k : Nat} (ih : ∀ i d fd, T[i]? = some d → FunD K d.name d.name (defArgs d.st) (defBody d.st) (defScope d.st) [] [] (C.fa i) fd →
      FnOk P w K mg base (L2.CX P w) k (C.fa i) fd d.ps (spD C d.ps.length (C.fr i) (callK (T.map (·.df)) k i))) {i : Nat} {d : DefR} (hd : T[i]? = some d) (cdv : Value) (A : Around) (outer : List Env) (s : Shared) (H : Hp) (E : XK)
    (hr : Room k (A.deeper (envOfC d.name (defScope d.st) s.heap.objs.size (C.fa i) cdv))) (cup : Option Addr) (M : List Addr) :
    MtS (cxOf (L2.CX P w) P w K mg base d.N d.name (defScope d.st) (C.fa i) cdv A outer s H E) (ctxOf T exs glo d) { C with cup := cup, M := M } (fun cls d _ H => E cls d H) (callK (T.map (·.df)) k) k := by
  refine { N := rfl, nd := (D i d hd).sc.nd, sc := rfl, calm := rfl, K := tp.kk.symm, room := hr, tk := takes_of rfl rfl rfl rfl, fn := fun _ _ => rfl, fns := fun x j n h => ?_, glo := tp.glo, bi := tp.bi, ex := tp.ex, po := passes_of rfl }
  obtain ⟨d2, h1, rfl, rfl⟩ := fnsOf_get h
  obtain ⟨g1, _, fd, g2⟩ := tp.fn j d2 h1
  exact ⟨g1, g2.kp, fd, d2.ps, rfl, ih j d2 fd h1 g2, g2.bindsN (D j d2 h1).bind⟩
theorem start_env {C : Cfg} {H : Hp} {vs : List V} {ds : List Dat} {N : List Str} {np ns : Nat} (r : RpL C H vs ds) (hn : ns = N.length) (hl : vs.length = np) : EnvR C H (L2.start N vs) (ds.map some ++ List.replicate (ns - np) none) := by
  subst hn hl
  have hlen := r.len
  refine ⟨by unfold L2.start; simp [hlen], fun i d h => ?_⟩
  unfold L2.start
  by_cases hi : i < ds.length
  · rw [List.getElem?_append_left (by simpa using hi), List.getElem?_map] at h
    cases e : ds[i]? with
    | none => rw [e] at h; cases h
    | some d2 =>
      rw [e] at h
      cases h
      obtain ⟨v, h1, h2⟩ := r.get e
      exact ⟨v, by rw [List.getElem?_append_left (by rw [List.length_map]; omega), List.getElem?_map, h1]; rfl, h2⟩
  · rw [List.getElem?_append_right (by simpa using hi), List.getElem?_replicate] at h
    split at h <;> cases h
/-- each def does as its plain run, k calls deep -/
theorem fn_all (tp : Top K mg C T exs glo) (D : ∀ (i : Nat) (d : DefR), T[i]? = some d → DefOk T exs glo d) : ∀ (k i : Nat) (d : DefR) (fd : FuncData), T[i]? = some d → FunD K d.name d.name (defArgs d.st) (defBody d.st) (defScope d.st) [] [] (C.fa i) fd →
    FnOk P w K mg base (L2.CX P w) k (C.fa i) fd d.ps (spD C d.ps.length (C.fr i) (callK (T.map (·.df)) k i))
  | 0, i, d, fd, hd, F => ⟨fun vs H Q E h => h.1, fun A outer s H args us vs Q E _ _ _ _ h => by
      obtain ⟨_, _, _, _, _, _, _, q⟩ := h
      exact q.elim⟩
  | k + 1, i, d, fd, hd, F => by
    have ok := D i d hd
    refine F.ok ok.sc (fun vs H Q E h => h.1) fun cdv A outer s H vs Q E hr h => ?_
    obtain ⟨hl, cup, M, ds, g, r, G, q⟩ := h
    refine ⟨_, ok.body _ _ _ _ _ (mt_def tp D (fun i d fd => fn_all tp D k i d fd) hd cdv A outer s H E hr cup M), ds.map some ++ List.replicate (d.df.ns - d.df.np) none, g, start_env r ok.ns (by rw [hl, ok.np]), G, ?_⟩
    have hfr := (tp.fn i d hd).2.1
    have hPi : (T.map (·.df))[i]? = some d.df := by rw [List.getElem?_map, hd]; rfl
    have hlen : ds.length = d.df.np := by rw [ok.np, ← hl, r.len]
    unfold callK at q
    rw [hPi] at q
    dsimp only at q
    rw [if_pos hlen] at q
    revert q
    cases runs (callK (T.map (·.df)) k) d.df.body (ds.map some ++ List.replicate (d.df.ns - d.df.np) none) g with
    | bad => exact fun q => q.elim
    | exc c g1 => exact fun q σ' H' e G' => q H' e G'
    | ok o g1 =>
      cases o with
      | nx ρ => exact fun q σ' H' e _ G' => q .non H' e G' .non fun _ p hp => nomatch hp
      | bk ρ => exact fun q => q.elim
      | ct ρ => exact fun q => q.elim
      | rt dd fr =>
        intro q v H' e G' r' hf
        have q : RunF { C with cup := cup, M := M } (C.fr i) (if d.df.fr && !fr then .bad else .ok dd g1) H Q E := q
        rw [hfr] at q
        cases hfl : d.df.fr with
        | false =>
          rw [hfl] at q
          exact q v H' e G' r' fun z => nomatch z
        | true =>
          rw [hfl] at q
          cases fr with
          | false => exact q.elim
          | true => exact q v H' e G' r' fun _ => hf rfl
end
end R
set_option Elab.async false
set_option linter.all false
set_option maxRecDepth 100000
set_option maxHeartbeats 4000000
/-! What the top has written, by a Hook; a law's own def. -/
namespace R
open PySem PySem.Spec PyProof.Rows L2

/-! ### fixed data of the module -/
mutual
def valB (K : PySem.W.Frag) : Value → Dat → Bool
  | .none, .non => true
  | .bool b, .bl c => b == c
  | .int i _, .int j => decide (i = j)
  | .str y _, .str s => (y.cps.toList == s) && sOkB y
  | .ref a, .tup ds => match K.lookup a with
    | some ⟨.type c, _, .seq its _, _⟩ => decide (c = "tuple") && (decide (its.size ≤ sizeLine) && (decide (ds.length ≤ sizeLine) && valBL K its.toList ds))
    | _ => false
  | _, _ => false
def valBL (K : PySem.W.Frag) : List Value → List Dat → Bool
  | [], [] => true
  | u :: us, d :: ds => valB K u d && valBL K us ds
  | _, _ => false
end
mutual
theorem valB_ok {K : PySem.W.Frag} : ∀ {u : Value} {d : Dat}, valB K u d = true → ∃ v, RelV v u ∧ ∀ (C : Cfg), C.K = K → ∀ H, Rp C H v d
  | u, .non, h => by
    cases u with
    | none => exact ⟨.non, rfl, fun _ _ _ => .non⟩
    | _ => simp [valB] at h
  | u, .bl c, h => by
    cases u with
    | bool b =>
      simp [valB] at h
      subst h
      exact ⟨.bl b, rfl, fun _ _ _ => .bl b⟩
    | _ => simp [valB] at h
  | u, .int c, h => by
    cases u with
    | int b t =>
      simp [valB] at h
      subst h
      exact ⟨.int b, ⟨t, rfl⟩, fun _ _ _ => .int b⟩
    | _ => simp [valB] at h
  | u, .str c, h => by
    cases u with
    | str b t =>
      simp only [valB, Bool.and_eq_true, beq_iff_eq] at h
      obtain ⟨h1, h2⟩ := h
      exact ⟨.str b, ⟨t, rfl⟩, fun _ _ _ => .strE (sOk_of h2) h1⟩
    | _ => simp [valB] at h
  | u, .tup c, h => by
    cases u with
    | ref a =>
      unfold valB at h
      cases q : K.lookup a with
      | none => rw [q] at h; cases h
      | some o =>
        obtain ⟨oc, od, dt, osl⟩ := o
        rw [q] at h
        cases oc with
        | type cn =>
          cases dt with
          | seq its n =>
            simp only [Bool.and_eq_true, decide_eq_true_eq] at h
            obtain ⟨h1, h2, h3, h4⟩ := h
            obtain ⟨vs, hv, hr⟩ := valBL_ok h4
            exact ⟨.ref a, rfl, fun C hC H => .tup (.inr ⟨_, its, n, by rw [hC]; exact q, congrArg Value.type h1, rfl, h2, hv⟩) h3 (hr C hC H)⟩
          | _ => cases h
        | _ => cases dt <;> cases h
    | _ => simp [valB] at h
  | u, .lst c, h => by cases u <;> simp [valB] at h
  | u, .fn c, h => by cases u <;> simp [valB] at h
  | u, .cup, h => by cases u <;> simp [valB] at h
  | u, .kl c, h => by cases u <;> simp [valB] at h
theorem valBL_ok {K : PySem.W.Frag} : ∀ {us : List Value} {ds : List Dat}, valBL K us ds = true → ∃ vs, Vals vs us ∧ ∀ (C : Cfg), C.K = K → ∀ H, RpL C H vs ds
  | [], [], _ => ⟨[], .nil, fun _ _ _ => .nil⟩
  | [], _ :: _, h => by simp [valBL] at h
  | _ :: _, [], h => by simp [valBL] at h
  | u :: us, d :: ds, h => by
    simp only [valBL, Bool.and_eq_true] at h
    obtain ⟨v, h1, h2⟩ := valB_ok h.1
    obtain ⟨vs, h3, h4⟩ := valBL_ok h.2
    exact ⟨v :: vs, .cons h1 h3, fun C hC H => .cons (h2 C hC H) (h4 C hC H)⟩
end
def globB (K : PySem.W.Frag) (p : Str × Dat) : Bool := match PySem.W.nsIn K mainGlobals p.1 with
  | some (some u) => valB K u p.2
  | _ => false
/-! ### the Hook -/
def faOf (ns : List Str) (exs : List (Str × Nat)) : List He.Fa := ns.map .glo ++ (biNames.map .free ++ (exs.map (fun p => .glo p.1) ++ exs.map fun p => .exc p.1))
def obsR (fa : List He.Fa) (fn : List He.DefD) (glo : List (Str × Dat)) (K : PySem.W.Frag) : He.AlD := (((fa.all fun f => f.ok K) && fn.all fun d => d.ok K) && glo.all (globB K), fn.map fun d => He.fnW K d.at_)
def SaysR (fa : List He.Fa) (fn : List He.DefD) (glo : List (Str × Dat)) (K : PySem.W.Frag) : Prop := obsR fa fn glo K = He.valD fn
def obsRG (n : Nat) (fa : List He.Fa) (fn : List He.DefD) (glo : List (Str × Dat)) (g : Addr → Option Obj) : He.AlD := obsR fa fn glo (He.frG g (He.asD g n))
def hookR (n : Nat) (fa : List He.Fa) (fn : List He.DefD) (glo : List (Str × Dat)) : PySem.W.Hook where
  α := He.AlD
  obs := fun s => obsRG n fa fn glo s.heap.get?
  val := fun _ => He.valD fn
  says := fun _ h => ∃ K : PySem.W.Frag, K.In h ∧ SaysR fa fn glo K
  of := fun _ _ e => ⟨_, He.frG_in, e⟩
  keeps := fun _ _ _ ⟨K, hK, c⟩ k => ⟨K, PySem.W.Frag.In.keeps hK k, c⟩
theorem obsRG_eq {n : Nat} {fa : List He.Fa} {fn : List He.DefD} {glo : List (Str × Dat)} {g : Addr → Option Obj} {s : Shared} (h : ∀ a, g a = s.heap.get? a) : obsRG n fa fn glo g = (hookR n fa fn glo).obs s := by
  have e : g = s.heap.get? := funext h
  rw [e] <;> rfl
theorem SaysR.d {fa : List He.Fa} {fn : List He.DefD} {glo : List (Str × Dat)} {K : PySem.W.Frag} (c : SaysR fa fn glo K) : He.SaysD fa fn K ∧ glo.all (globB K) = true := by
  have h1 := congrArg (fun z : He.AlD => z.1) c
  have h2 := congrArg (fun z : He.AlD => z.2) c
  have h1 : (((fa.all fun f => f.ok K) && fn.all fun d => d.ok K) && glo.all (globB K)) = true := h1
  obtain ⟨h3, h4⟩ := He.ba h1
  exact ⟨Prod.ext h3 h2, h4⟩
/-- the plain names of the cfg -/
def cfgOf (K : PySem.W.Frag) (T : List DefR) (exs : List (Str × Nat)) : Cfg where
  K := K
  fa := fun i => He.ga K ((T.map (·.name)).getD i "")
  ex := fun j => .ref (He.ga K ((exs.map (·.1)).getD j ""))
  fr := fun i => ((T.map (·.df.fr)).getD i false)
  cup := none
  M := []
theorem top_of {K : PySem.W.Frag} {h : Heap} {mg : Str → Option Value} {T : List DefR} {exs : List (Str × Nat)} {glo : List (Str × Dat)} {more : List He.DefD} {mo : List Str} (X : K.In h) (G : h.Ns mainGlobals mg) (hex : exs = (exs.map (·.1)).zipIdx) (c : SaysR (faOf (T.map (·.name) ++ mo) exs) (T.map DefR.toD ++ more) glo K) : Top K mg (cfgOf K T exs) T exs glo := by
  obtain ⟨c, cg⟩ := c.d
  have fact : ∀ f ∈ faOf (T.map (·.name) ++ mo) exs, f.ok K = true := fun f hf => by
    obtain ⟨i, hi⟩ := List.mem_iff_getElem?.mp hf
    exact c.fact i hi
  refine ⟨rfl, fun x hx => ?_, fun x d hd => ?_, fun i d hd => ?_, fun x j hx => ?_⟩
  · exact He.free_ok X G (fact (.free x) (List.mem_append_right _ (List.mem_append_left _ (List.mem_map.mpr ⟨x, hx, rfl⟩))))
  · have h1 := List.all_eq_true.mp cg _ (lookup_mem hd)
    unfold globB at h1
    cases e : PySem.W.nsIn K mainGlobals x with
    | none => rw [e] at h1; cases h1
    | some o =>
      rw [e] at h1
      cases o with
      | none => cases h1
      | some u =>
        obtain ⟨v, h2, h3⟩ := valB_ok h1
        exact ⟨u, v, PySem.W.mg_of X G e, h2, fun cup M H => h3 _ rfl H⟩
  · have e1 : (cfgOf K T exs).fa i = He.ga K d.name := by
      show He.ga K ((T.map (·.name)).getD i "") = _
      rw [List.getD_eq_getElem?_getD, List.getElem?_map, hd]; rfl
    rw [e1]
    refine ⟨He.glo_ok X G (fact (.glo d.name) (List.mem_append_left _ (List.mem_map.mpr ⟨d.name, List.mem_append_left _ (List.mem_map.mpr ⟨d, List.mem_of_getElem? hd, rfl⟩), rfl⟩))), ?_, ?_⟩
    · show ((T.map (·.df.fr)).getD i false) = _
      rw [List.getD_eq_getElem?_getD, List.getElem?_map, hd]; rfl
    · exact c.def_ i (d := d.toD) (by rw [List.getElem?_append_left (by rw [List.length_map]; exact (List.getElem?_eq_some_iff.mp hd).1), List.getElem?_map, hd]; rfl)
  · have hm := lookup_mem hx
    have e1 : (cfgOf K T exs).ex j = .ref (He.ga K x) := by
      have hm2 := hm
      rw [hex] at hm2
      have := List.mk_mem_zipIdx_iff_getElem?.mp hm2
      show Value.ref (He.ga K ((exs.map (·.1)).getD j "")) = _
      rw [List.getD_eq_getElem?_getD, this]; rfl
    obtain ⟨f1, f2, f3, f4⟩ := He.exc_ok (fact (.exc x) (List.mem_append_right _ (List.mem_append_right _ (List.mem_append_right _ (List.mem_map.mpr ⟨_, hm, rfl⟩)))))
    exact ⟨He.ga K x, He.glo_ok X G (fact (.glo x) (List.mem_append_right _ (List.mem_append_right _ (List.mem_append_left _ (List.mem_map.mpr ⟨_, hm, rfl⟩))))), e1, f1, f2, f3, f4⟩
end R
set_option Elab.async false
set_option linter.all false
set_option maxRecDepth 100000
set_option maxHeartbeats 4000000
/-! A law's own def: its first statement makes the list that is changed in place. -/
namespace R
open PySem PySem.Spec PyProof.Rows L2

/-- the first statement of a law -/
structure FirstSt (T : List DefR) (exs : List (Str × Nat)) (glo : List (Str × Dat)) (L : DefR) (iL ic : Nat) (rest : List Stmt) : Prop where
  body : ∃ (xs lc cx : Str) (p1 p2 p3 p4 p5 : Pos), defBody L.st = .Assign [.Name cx p1] (.Call (.Name lc p2) [.Name xs p3] [] p4) p5 :: rest ∧ L.ps = [xs] ∧ L.N[0]? = some xs ∧ L.N[ic]? = some cx ∧
    visB (defScope L.st) xs = true ∧ dbgB xs = false ∧ dbgB lc = false ∧ kindB (defScope L.st) lc = some .globalImplicit ∧ (fnsOf T).lookup lc = some (iL, 1) ∧ kindB (defScope L.st) cx = some .local
  fr : (T.map (·.df.fr)).getD iL false = true
/-- the law's def -/
structure LawOk (T : List DefR) (exs : List (Str × Nat)) (glo : List (Str × Dat)) (L : DefR) (iL ic : Nat) (rest : List Stmt) : Prop extends FirstSt T exs glo L iL ic rest where
  sc : FnScope L.N L.ps (defScope L.st)
  bind : ∀ (kV doc pm : Value) (an : Option Addr) (cdv ct : Value) (us : List Value), us.length = L.ps.length → bindArgs (PySem.W.fnOf L.name L.name (defArgs L.st) (defBody L.st) (defScope L.st) .none kV doc pm an cdv ct) ⟨us, []⟩ = pure (L.ps.zip us)
  sem : SemB (ctxOf T exs glo L) rest L.df.body
/-- the law's frame behind its first statement -/
def frame0 (L : DefR) (ic : Nat) : Sl := (List.replicate L.N.length none).set ic (some .cup)
/-- what plain Lean is to show: for each script the cup's ints, and the rest of the body ends with True -/
def Pure (T : List DefR) (k : Nat) (L : DefR) (iL ic : Nat) : Prop := ∀ ns : List Int, ns.length ≤ 63 → ∃ (is : List Int),
  (callK (T.map (·.df)) k iL [.lst (ns.map .int)] [] = .ok (.lst (is.map .int)) [] ∧ callK (T.map (·.df)) k iL [.kl (ns.map .int)] [] = .ok (.lst (is.map .int)) []) ∧
  ∃ fr g, runs (callK (T.map (·.df)) k) L.df.body (frame0 L ic) (is.map .int) = .ok (.rt (.bl true) fr) g
def spLaw (K : PySem.W.Frag) : Sp := fun vs H Q _ => ∃ (a : Addr) (ns : List Int), vs = [.ref a] ∧ ns.length ≤ 63 ∧ SqL K H a (ns.map V.int) ∧ ∀ H', Q (.bl true) H'
theorem ints_RpL {C : Cfg} {H : Hp} : ∀ ns : List Int, RpL C H (ns.map V.int) (ns.map .int)
  | [] => .nil
  | n :: ns => .cons (.int n) (ints_RpL ns)
theorem ints_RpL_inv {C : Cfg} {H : Hp} : ∀ {ns : List Int} {vs : List V}, RpL C H vs (ns.map .int) → vs = ns.map V.int
  | [], vs, h => by cases h; rfl
  | n :: ns, vs, h => by
    cases h with
    | cons r rr => rw [r.int_inv, ints_RpL_inv rr]; rfl
theorem frame_env {C : Cfg} {H : Hp} {σ : L2.St} {n ic : Nat} {a : Addr} (hσ : σ.length = n) (hc : C.cup = some a) (hv : σ[ic]? = some (some (.ref a))) : EnvR C H σ ((List.replicate n none).set ic (some .cup)) := by
  refine ⟨by simp [hσ], fun i d h => ?_⟩
  by_cases hi : ic = i
  · subst hi
    have hl : ic < n := by
      have := (List.getElem?_eq_some_iff.mp h).1
      simpa using this
    rw [List.getElem?_set_self (by simpa using hl)] at h
    cases h
    exact ⟨_, hv, .cup hc⟩
  · rw [List.getElem?_set_ne hi, List.getElem?_replicate] at h
    split at h <;> cases h
section
variable {P : Program} {w : World} {K : PySem.W.Frag} {mg : Str → Option Value} {base : Heap} {T : List DefR} {exs : List (Str × Nat)} {glo : List (Str × Dat)}
theorem law_fn (tp : Top K mg (cfgOf K T exs) T exs glo) (D : ∀ (i : Nat) (d : DefR), T[i]? = some d → DefOk T exs glo d) {L : DefR} {iL ic : Nat} {rest : List Stmt} (ok : LawOk T exs glo L iL ic rest) {k : Nat} (pure_ : Pure T k L iL ic) {f : Addr} {fd : FuncData}
    (F : FunD K L.name L.name (defArgs L.st) (defBody L.st) (defScope L.st) [] [] f fd) : FnOk P w K mg base (L2.CX P w) (k + 1) f fd L.ps (spLaw K) := by
  obtain ⟨xs, lc, cx, p1, p2, p3, p4, p5, hb, hps, hN0, hNc, hv, hd1, hd2, hg, hlk, hlc⟩ := ok.body
  refine F.ok ok.sc (fun vs H Q E h => ?_) fun cdv A outer s H vs Q E hr h => ?_
  · obtain ⟨_, _, rfl, _⟩ := h
    rw [hps]; rfl
  · obtain ⟨a, ns, rfl, hlen, hS, q⟩ := h
    have hC : ∀ (cup : Option Addr), MtS (cxOf (L2.CX P w) P w K mg base L.N L.name (defScope L.st) f cdv A outer s H E) (ctxOf T exs glo L) { cfgOf K T exs with cup := cup } (fun cls d _ H => E cls d H) (callK (T.map (·.df)) k) k := by
      intro cup
      refine { N := rfl, nd := ok.sc.nd, sc := rfl, calm := rfl, K := tp.kk.symm, room := hr, tk := takes_of rfl rfl rfl rfl, fn := fun _ _ => rfl, fns := fun x j n h => ?_, glo := tp.glo, bi := tp.bi, ex := tp.ex, po := passes_of rfl }
      obtain ⟨d2, h1, rfl, rfl⟩ := fnsOf_get h
      obtain ⟨g1, _, fd, g2⟩ := tp.fn j d2 h1
      exact ⟨g1, g2.kp, fd, d2.ps, rfl, fn_all tp D k j d2 fd h1 g2, g2.bindsN (D j d2 h1).bind⟩
    have M0 := (hC none).toMt
    obtain ⟨m1, m2, fd2, ps2, hp2, fo, hbd⟩ := M0.fns lc iL 1 hlk
    have hfr : ({ cfgOf K T exs with cup := none } : Cfg).fr iL = true := ok.fr
    rw [hfr] at fo
    have hv0 : Sem (ctxOf T exs glo L) (.Name xs p3) (.var 0) := sem_var hN0 hv hd1
    have ha := (semL_one hv0).run _ _ _ _ _ M0
    have hdb := dbg_of hd2
    rw [hb]
    have s1 := ps_set (i := ic) (pos' := p1) (pos := p5) (M0.N ▸ M0.nd) (by rw [M0.N]; exact hNc) (.inl (by rw [M0.sc]; exact hlc))
      (pe_callS (pos := p4) (p := p2) fo M0.room (show (cxOf (L2.CX P w) P w K mg base L.N L.name (defScope L.st) f cdv A outer s H E).env.scope.names.lookup lc = some .globalImplicit from hg) m1 m2 hbd (fun σ => passAt M0.tk σ) ha hdb.1 rfl rfl) (by rfl) (.inl rfl)
    have s2 : PSs (cxOf (L2.CX P w) P w K mg base L.N L.name (defScope L.st) f cdv A outer s H E) rest fun D σ H2 => ∃ p, tS { cfgOf K T exs with cup := some p } (fun cls d _ H => E cls d H) (runs (callK (T.map (·.df)) k) L.df.body) D σ H2 :=
      ⟨fun pins s σ H D I ⟨p, q⟩ => (ok.sem _ _ _ _ _ (hC (some p))).run pins s σ H D I q⟩
    refine ⟨_, pss_cons s1 s2, ?_⟩
    obtain ⟨is, ⟨hc1, hc2⟩, fr, gE, hend⟩ := pure_ ns hlen
    have hz : (ns.map Dat.int).length ≤ sizeLine := by rw [List.length_map, sizeLine_eq]; omega
    have key : ∀ sc : Dat, Rp { cfgOf K T exs with cup := none } H (.ref a) sc → callK (T.map (·.df)) k iL [sc] [] = .ok (.lst (is.map .int)) [] →
        ∃ ρ g, EnvR { cfgOf K T exs with cup := none } H (L2.start L.N [.ref a]) ρ ∧ GR { cfgOf K T exs with cup := none } g H ∧ denL (callK (T.map (·.df)) k) [.var 0] ρ g = .ok [sc] [] ∧ g = [] := by
      intro sc r hcall
      have hnl : 0 < L.N.length := (List.getElem?_eq_some_iff.mp hN0).1
      refine ⟨[sc].map some ++ List.replicate (L.N.length - 1) none, [], start_env (.cons r .nil) rfl rfl, ⟨fun a h => absurd h (by show a ∉ ([] : List Addr); simp), fun a h => nomatch h⟩, ?_, rfl⟩
      simp [denL, den, ofO, Res.bind]
    have main : ∀ sc : Dat, Rp { cfgOf K T exs with cup := none } H (.ref a) sc → callK (T.map (·.df)) k iL [sc] [] = .ok (.lst (is.map .int)) [] →
        tSeq (tAsg (tCallS (spD { cfgOf K T exs with cup := none } 1 true (callK (T.map (·.df)) k iL)) (WE fun cls d _ H => E cls d H) (tA { cfgOf K T exs with cup := none } (fun cls d _ H => E cls d H) (denL (callK (T.map (·.df)) k) [.var 0]))) (gName ic))
          (fun D σ H2 => ∃ p, tS { cfgOf K T exs with cup := some p } (fun cls d _ H => E cls d H) (runs (callK (T.map (·.df)) k) L.df.body) D σ H2) { nx := fun _ H' => Q .non H', rt := Q } (L2.start L.N [.ref a]) H := by
      intro sc r hcall
      obtain ⟨ρ, g, E0, G0, hden, rfl⟩ := key sc r hcall
      refine ⟨ρ, [], E0, G0, ?_⟩
      rw [hden]
      intro vs H1 e1 G1 r1
      refine ⟨by have := r1.len; simpa using this, none, [], [sc], [], r1, G1, ?_⟩
      rw [hcall]
      intro v H2 e2 G2 r2 hf
      obtain ⟨p, vs2, rfl, t2, z2, l2⟩ := r2.lst_inv
      obtain ⟨vs3, hH2⟩ := hf rfl p rfl
      have hvs : vs3 = is.map V.int := by
        have e2 := ints_RpL_inv l2
        rcases t2.1 with h | ⟨o, h⟩
        · rw [hH2] at h; cases h; exact e2
        · rw [hH2] at h; cases h
      refine ⟨p, frame0 L ic, is.map .int, ?_, ⟨fun a h => absurd h (by show a ∉ ([] : List Addr); simp), fun a h => ?_⟩, ?_⟩
      · have hlt : ic < L.N.length := (List.getElem?_eq_some_iff.mp hNc).1
        have hsl : (L2.start L.N [.ref a]).length = L.N.length := by
          have hnl : 0 < L.N.length := (List.getElem?_eq_some_iff.mp hN0).1
          unfold L2.start
          simp
          omega
        exact frame_env (by rw [List.length_set]; exact hsl) rfl (by rw [List.getElem?_set_self (by rw [hsl]; exact hlt)])
      · cases (show some p = some a from h)
        exact ⟨vs3, hH2, by rw [hvs]; exact ints_RpL is⟩
      · rw [hend]
        intro v H3 e3 G3 r3 _
        cases r3
        exact q H3
    rcases hS with hS | ⟨o, its, n, h1, h2, h3, h4, h5, h6⟩
    · exact main _ (.lst ⟨hS, by (intro z; exact nomatch z), by show a ∉ ([] : List Addr); simp⟩ hz (ints_RpL ns)) hc1
    · exact main _ (.kl ⟨o, its, n, h1, h2, h3, h4, h5, h6⟩ hz (ints_RpL ns)) hc2
end
/-- a law's promise, by the Hook's facts -/
theorem law_at {l : PySem.W.OpenLaw} {T : List DefR} {exs : List (Str × Nat)} {glo : List (Str × Dat)} {L : DefR} {iL ic k : Nat} {rest : List Stmt} (hex : exs = (exs.map (·.1)).zipIdx) (D : ∀ (i : Nat) (d : DefR), T[i]? = some d → DefOk T exs glo d) (ok : LawOk T exs glo L iL ic rest)
    (pure_ : Pure T k L iL ic) (hn : L.name = "law") (hps : L.ps = [("script" : Str)]) {w : World} {K : PySem.W.Frag} {h : Heap} {mg : Str → Option Value} {fa : Addr} (X : K.In h) (G : h.Ns mainGlobals mg) (hfa : mg ("law" : Str) = some (.ref fa))
    (c : SaysR (faOf (T.map (·.name) ++ [L.name]) exs) (T.map DefR.toD ++ [L.toD]) glo K) : LamX.LawAtS l w K (L2.CX l.prog w) (k + 1) 63 "script" mg fa h := by
  obtain ⟨fd, F⟩ := c.d.1.def_ T.length (d := L.toD) (by rw [List.getElem?_append_right (by simp)]; simp)
  have hf := c.d.1.fact T.length (f := .glo L.name) (by unfold faOf; rw [List.map_append, List.append_assoc, List.getElem?_append_right (by simp)]; simp)
  have e : He.ga K L.name = fa := by
    have h1 := He.glo_ok X G hf
    rw [hn, hfa] at h1
    rw [hn]
    have h2 := Option.some.inj h1
    injection h2 with h3
    exact h3.symm
  have F : FunD K L.name L.name (defArgs L.st) (defBody L.st) (defScope L.st) [] [] fa fd := by
    rw [← e]; exact F
  refine ⟨fd, [], spLaw K, fun p hp => absurd hp (by simp), fun p hp => absurd hp (by simp), fun p hp => absurd hp (by simp), fun s u => ?_, fun H a ns hl _ _ hS => ⟨a, ns, rfl, hl, hS, fun _ => rfl⟩, fun base XB GB _ => ?_⟩
  · have b := FunD.bindsA (ps := L.ps) F ok.bind s [u] (by rw [hps]; rfl)
    rw [hps] at b
    exact b
  · rw [← hps]
    exact law_fn (top_of XB GB hex c) D ok pure_ F
end R
set_option Elab.async false
set_option linter.all false
set_option maxRecDepth 100000
set_option maxHeartbeats 4000000
/-! The plain text of a Python text, with its proof. -/
namespace R
open PySem PySem.Spec PyProof.Rows L2

def findIx (x : Str) : List Str → Nat → Option Nat
  | [], _ => none
  | y :: r, i => if y == x then some i else findIx x r (i + 1)
theorem findIx_ok {x : Str} : ∀ {N : List Str} {i j : Nat}, findIx x N i = some j → i ≤ j ∧ N[j - i]? = some x
  | [], _, _, h => by cases h
  | y :: r, i, j, h => by
    unfold findIx at h
    split at h
    · rename_i e
      cases h
      refine ⟨Nat.le_refl _, ?_⟩
      rw [Nat.sub_self, ← eq_of_beq e]; rfl
    · obtain ⟨h1, h2⟩ := findIx_ok h
      refine ⟨by omega, ?_⟩
      rw [show j - i = (j - (i + 1)) + 1 by omega]
      exact h2
def slotOf (c : Ctx) (x : Str) : Option { i : Nat // c.N[i]? = some x } := match h : findIx x c.N 0 with
  | some i => some ⟨i, (findIx_ok h).2⟩
  | none => none
def isGlo (c : Ctx) (x : Str) : Bool := match kindB c.sc x with
  | some .globalImplicit => true
  | _ => false
theorem isGlo_ok {c : Ctx} {x : Str} (h : isGlo c x = true) : kindB c.sc x = some .globalImplicit := by
  unfold isGlo at h
  split at h
  · assumption
  · cases h
def isLocal (c : Ctx) (x : Str) : Bool := match kindB c.sc x with
  | some .local => true
  | _ => false
theorem isLocal_ok {c : Ctx} {x : Str} (h : isLocal c x = true) : kindB c.sc x = some .local := by
  unfold isLocal at h
  split at h
  · assumption
  · cases h
abbrev OE (c : Ctx) (e : Expr) : Type := Option { e' : Ex // Sem c e e' }
abbrev OT (c : Ctx) (e : Expr) : Type := Option { e' : Ex // SemT c e e' }
def cName (c : Ctx) (x : Str) (pos : Pos) : OE c (.Name x pos) :=
  if hd : dbgB x = false then
    if hv : visB c.sc x = true then (slotOf c x).map fun i => ⟨.var i.1, sem_var i.2 hv hd⟩
    else if hg : isGlo c x = true then match hl : c.glo.lookup x with
      | some d => some ⟨.con d, sem_glo (isGlo_ok hg) hl hd⟩
      | none => none
    else none
  else none
def cConst (c : Ctx) (v : Const) (j : Nat) (pos : Pos) : OE c (.Constant v j pos) := match v with
  | .int i => some ⟨.con (.int i), sem_int⟩
  | .bool i => some ⟨.con (.bl i), sem_bool⟩
  | .none => some ⟨.con .non, sem_none⟩
  | .str x => if h : sOkB x = true then some ⟨.con (.str x.cps.toList), sem_str h⟩ else none
  | _ => none
/-- one argument's built-in -/
def cBi (c : Ctx) (x : Str) (p pos : Pos) (a : Expr) (a' : { e' : Ex // Sem c a e' }) : OE c (.Call (.Name x p) [a] [] pos) :=
  if hg : isGlo c x = true then
    if h : x = "len" then some ⟨.bi .len a'.1, by subst h; exact sem_bi (isGlo_ok hg) (by decide) (by decide) boot_len a'.2 fun X C W F k M => bif_len M.K⟩
    else if h : x = "tuple" then some ⟨.bi .tuple a'.1, by subst h; exact sem_biT (isGlo_ok hg) (by decide) (by decide) boot_tuple a'.2 fun X C W F k M => bif_tuple M.K⟩
    else if h : x = "list" then some ⟨.bi .list a'.1, by subst h; exact sem_biT (isGlo_ok hg) (by decide) (by decide) boot_list a'.2 fun X C W F k M => bif_list M.K M.calm⟩
    else if h : x = "all" then some ⟨.bi .all a'.1, by subst h; exact sem_bi (isGlo_ok hg) (by decide) (by decide) boot_all a'.2 fun X C W F k M => bif_all M.calm⟩
    else if h : x = "any" then some ⟨.bi .any a'.1, by subst h; exact sem_bi (isGlo_ok hg) (by decide) (by decide) boot_any a'.2 fun X C W F k M => bif_any M.calm⟩
    else if h : x = "max" then some ⟨.bi .max a'.1, by subst h; exact sem_bi (isGlo_ok hg) (by decide) (by decide) boot_max a'.2 fun X C W F k M => bif_max M.calm⟩
    else if h : x = "min" then some ⟨.bi .min a'.1, by subst h; exact sem_bi (isGlo_ok hg) (by decide) (by decide) boot_min a'.2 fun X C W F k M => bif_min M.calm⟩
    else if h : x = "sum" then some ⟨.bi .sum a'.1, by subst h; exact sem_bi (isGlo_ok hg) (by decide) (by decide) boot_sum a'.2 fun X C W F k M => bif_sum M.calm⟩
    else if h : x = "abs" then some ⟨.bi .abs a'.1, by subst h; exact sem_bi (isGlo_ok hg) (by decide) (by decide) boot_abs a'.2 fun X C W F k M => bif_abs⟩
    else if h : x = "int" then some ⟨.bi .int a'.1, by subst h; exact sem_biT (isGlo_ok hg) (by decide) (by decide) boot_int a'.2 fun X C W F k M => bif_int⟩
    else if h : x = "str" then some ⟨.bi .str a'.1, by subst h; exact sem_biT (isGlo_ok hg) (by decide) (by decide) boot_str a'.2 fun X C W F k M => bif_str⟩
    else none
  else none
def cTy (c : Ctx) (x : Str) (p p2 pos : Pos) (a : Expr) (a' : { e' : Ex // Sem c a e' }) : OE c (.Call (.Name "isinstance" p) [a, .Name x p2] [] pos) :=
  if hg : isGlo c "isinstance" = true then if hx : isGlo c x = true then
    if h : x = "int" then some ⟨.isi a'.1 .int, by subst h; exact sem_isi (isGlo_ok hg) (isGlo_ok hx) (by decide) (by decide) boot_int a'.2⟩
    else if h : x = "bool" then some ⟨.isi a'.1 .bool, by subst h; exact sem_isi (isGlo_ok hg) (isGlo_ok hx) (by decide) (by decide) boot_bool a'.2⟩
    else if h : x = "str" then some ⟨.isi a'.1 .str, by subst h; exact sem_isi (isGlo_ok hg) (isGlo_ok hx) (by decide) (by decide) boot_str a'.2⟩
    else if h : x = "tuple" then some ⟨.isi a'.1 .tuple, by subst h; exact sem_isi (isGlo_ok hg) (isGlo_ok hx) (by decide) (by decide) boot_tuple a'.2⟩
    else if h : x = "list" then some ⟨.isi a'.1 .list, by subst h; exact sem_isi (isGlo_ok hg) (isGlo_ok hx) (by decide) (by decide) boot_list a'.2⟩
    else none
  else none else none
def cMe (c : Ctx) (o e : Expr) (name : Str) (apos pos : Pos) (o' : { e' : Ex // Sem c o e' }) (e' : { e' : Ex // Sem c e e' }) : OE c (.Call (.Attribute o name apos) [e] [] pos) :=
  if hb : baseB o = true then if hl : (apos.endLine == pos.line) = true then
    if h : name = "join" then some ⟨.me .join o'.1 e'.1, by subst h; exact sem_join o'.2 e'.2 hb hl⟩
    else if h : name = "endswith" then some ⟨.me .endswith o'.1 e'.1, by subst h; exact sem_endswith o'.2 e'.2 hb hl⟩
    else if h : name = "startswith" then some ⟨.me .startswith o'.1 e'.1, by subst h; exact sem_startswith o'.2 e'.2 hb hl⟩
    else none
  else none else none
def cList (c : Ctx) (f : (e : Expr) → OE c e) : (es : List Expr) → Option { es' : List Ex // SemL c es es' }
  | [] => some ⟨[], semL_nil⟩
  | e :: es => do
    let e' ← f e
    let es' ← cList c f es
    some ⟨e'.1 :: es'.1, semL_cons e'.2 es'.2⟩
def cBool (c : Ctx) (f : (e : Expr) → OE c e) (o : BoolOp) (pos : Pos) : (es : List Expr) → OE c (.BoolOp o es pos)
  | [] => none
  | [a] => (f a).map fun a' => ⟨a'.1, sem_bop1 a'.2⟩
  | a :: b :: r => (f a).bind fun a' => (cBool c f o pos (b :: r)).map fun b' => match o, b' with
    | .And, b' => ⟨.and a'.1 b'.1, sem_and a'.2 b'.2⟩
    | .Or, b' => ⟨.or a'.1 b'.1, sem_or a'.2 b'.2⟩
def cBoolT (c : Ctx) (f : (e : Expr) → OT c e) (o : BoolOp) (pos : Pos) : (es : List Expr) → Option { e' : Ex // SemW c (.BoolOp o es pos) e' }
  | [] => none
  | [a] => (f a).map fun a' => match o with
    | .And => ⟨a'.1, semW_and1 a'.2⟩
    | .Or => ⟨a'.1, semW_or1 a'.2⟩
  | a :: b :: r => (f a).bind fun a' => (cBoolT c f o pos (b :: r)).map fun b' => match o, b' with
    | .And, b' => ⟨.and a'.1 b'.1, semW_and a'.2 b'.2⟩
    | .Or, b' => ⟨.or a'.1 b'.1, semW_or a'.2 b'.2⟩
def cPart (c : Ctx) (f : (e : Expr) → OE c e) : (e : Option Expr) → Option { e' : Ex // SemP c e e' }
  | none => some ⟨.con .non, semP_none⟩
  | some e => do
    let e' ← f e
    some ⟨.asInt e'.1, semP_some e'.2⟩
/-- targets, no deeper than n -/
def cTg (c : Ctx) : Nat → (e : Expr) → Option { t : Tg // SemG c e t }
  | 0, _ => none
  | n + 1, .Name x pos => if h : locB c x = true then (slotOf c x).map fun i => ⟨.nm i.1, semG_name i.2 h⟩ else none
  | n + 1, .Tuple es k pos =>
    let rec go : (es : List Expr) → Option { ts : List Tg // SemGs c es ts }
      | [] => some ⟨[], semGs_nil⟩
      | e :: es => do
        let t ← cTg c n e
        let ts ← go es
        some ⟨t.1 :: ts.1, semGs_cons t.2 ts.2⟩
    (go es).map fun ts => ⟨.tp ts.1, semG_tup ts.2⟩
  | _, _ => none
def ownOf (c : Ctx) (scope : Scope) : List (Str × Nat) := scope.names.filterMap fun y => match y.2 with
  | .local => (findIx y.1 c.N 0).map fun i => (y.1, i)
  | .cell => (findIx y.1 c.N 0).map fun i => (y.1, i)
  | _ => none
def cIter (c : Ctx) (f : (e : Expr) → OE c e) (tg : Expr) (it : Expr) : Option { e' : Ex // SemI c tg it e' } :=
  match it with
  | .Call (.Name x p) [a] [] pos =>
    if h : x = "range" then
      if hg : isGlo c "range" = true then (f a).map fun a' => ⟨.rng [a'.1], by subst h; exact semI_rng1 (isGlo_ok hg) a'.2⟩ else none
    else (f (.Call (.Name x p) [a] [] pos)).map fun e' => ⟨e'.1, semI_val e'.2 rfl⟩
  | .Call (.Name x p) [a, b] [] pos =>
    if h : x = "range" then
      if hg : isGlo c "range" = true then do
        let a' ← f a
        let b' ← f b
        some ⟨.rng [a'.1, b'.1], by subst h; exact semI_rng2 (isGlo_ok hg) a'.2 b'.2⟩
      else none
    else (f (.Call (.Name x p) [a, b] [] pos)).map fun e' => ⟨e'.1, semI_val e'.2 rfl⟩
  | .Call (.Name x p) [a, b, d] [] pos =>
    if h : x = "range" then
      if hg : isGlo c "range" = true then do
        let a' ← f a
        let b' ← f b
        let d' ← f d
        some ⟨.rng [a'.1, b'.1, d'.1], by subst h; exact semI_rng3 (isGlo_ok hg) a'.2 b'.2 d'.2⟩
      else none
    else (f (.Call (.Name x p) [a, b, d] [] pos)).map fun e' => ⟨e'.1, semI_val e'.2 rfl⟩
  | it => if h : noSet it = true then (f it).map fun e' => ⟨e'.1, semI_val e'.2 h⟩ else none
def cConds (c : Ctx) (f : (e : Expr) → OT c e) : (ifs : List Expr) → Option { e' : Ex // SemC c ifs e' }
  | [] => some ⟨.con (.bl true), semC_nil⟩
  | [e] => (f e).map fun e' => ⟨e'.1, semC_one e'.2⟩
  | _ => none
structure LcR (c : Ctx) (elt tgE iter : Expr) (ifs : List Expr) (scope : Scope) (own : List (Str × Nat)) where
  elt' : Ex
  tg : Tg
  src : Ex
  cond : Ex
  ok : LcOk c elt tgE iter ifs scope own elt' tg src cond
def cComp (c : Ctx) (scope : Scope) (f : (e : Expr) → OE c e) (fe : (e : Expr) → OE (c.inBlk scope) e) (ft : (e : Expr) → OT (c.inBlk scope) e) (elt tgE iter : Expr) (ifs : List Expr) : Option (LcR c elt tgE iter ifs scope (ownOf c scope)) := do
  let src ← cIter c f tgE iter
  let tg ← cTg (c.inBlk scope) 4 tgE
  let cond ← cConds (c.inBlk scope) ft ifs
  let elt' ← fe elt
  if h : blkC c.N c.sc scope (ownOf c scope) = true ∧ ((slots tg.1).all fun i => ((ownOf c scope).map (·.2)).contains i) = true then
    some ⟨elt'.1, tg.1, src.1, cond.1, ⟨src.2, h.1, tg.2, cond.2, elt'.2, h.2⟩⟩
  else none
def cCall (c : Ctx) (f : (e : Expr) → OE c e) (x : Str) (p pos : Pos) (e : Expr) (es : List Expr) : OE c (.Call (.Name x p) (e :: es) [] pos) :=
  if hg : isGlo c x = true then if hd : dbgB x = false then
    match hl : c.fns.lookup x with
    | some (i, n) => do
      let e' ← f e
      let es' ← cList c f es
      if hn : (e'.1 :: es'.1).length = n then some ⟨.call i (e'.1 :: es'.1), sem_call (isGlo_ok hg) hl hd hn e'.2 es'.2⟩ else none
    | none => none
  else none else none
mutual
def cE : Nat → (c : Ctx) → (e : Expr) → OE c e
  | 0, _, _ => none
  | n + 1, c, e => match e with
    | .Name x pos => cName c x pos
    | .Constant v j pos => cConst c v j pos
    | .BinOp a o b pos => do
      let a' ← cE n c a
      let b' ← cE n c b
      match h : opOf o with
      | some o' => some ⟨.op o' a'.1 b'.1, sem_binop h a'.2 b'.2⟩
      | none => none
    | .UnaryOp .Not a pos => (cE n c a).map fun a' => ⟨.not a'.1, sem_not a'.2⟩
    | .UnaryOp .USub a pos => (cE n c a).map fun a' => ⟨.neg a'.1, sem_neg a'.2⟩
    | .BoolOp o es pos => cBool c (fun e => cE n c e) o pos es
    | .IfExp t a b pos => do
      let t' ← cT n c t
      let a' ← cE n c a
      let b' ← cE n c b
      some ⟨.ifx t'.1 a'.1 b'.1, sem_ifx t'.2 a'.2 b'.2⟩
    | .Compare a [o] [b] pos => do
      let a' ← cE n c a
      let b' ← cE n c b
      if hs : noSet b = true then some ⟨.cmp (cpOf o) a'.1 b'.1, sem_cmp a'.2 b'.2 hs⟩ else none
    | .Compare a [o, p] [b, d] pos => do
      let a' ← cE n c a
      let b' ← cE n c b
      let d' ← cE n c d
      if hs : noSet d = true then some ⟨.chain (cpOf o) (cpOf p) a'.1 b'.1 d'.1, sem_chain a'.2 b'.2 d'.2 hs⟩ else none
    | .Tuple es k pos => do
      let es' ← cList c (fun e => cE n c e) es
      if hz : es'.1.length ≤ 16777216 then some ⟨.tup es'.1, sem_tup es'.2 hz⟩ else none
    | .List es pos => do
      let es' ← cList c (fun e => cE n c e) es
      if hz : es'.1.length ≤ 16777216 then some ⟨.lst es'.1, sem_lst es'.2 hz⟩ else none
    | .Subscript a (.Slice none none (some (.UnaryOp .USub (.Constant (.int i) k p1) p2)) p3) pos => do
      let a' ← cE n c a
      if h : i = 1 then some ⟨.rev a'.1, by subst h; exact sem_rev a'.2⟩ else none
    | .Subscript a (.Slice lo hi none p) pos => do
      let a' ← cE n c a
      let lo' ← cPart c (fun e => cE n c e) lo
      let hi' ← cPart c (fun e => cE n c e) hi
      some ⟨.sl a'.1 lo'.1 hi'.1, sem_sl a'.2 lo'.2 hi'.2⟩
    | .Subscript a b pos => do
      let a' ← cE n c a
      let b' ← cE n c b
      if hs : noSlice b = true then some ⟨.ix a'.1 b'.1, sem_ix a'.2 b'.2 hs⟩ else none
    | .Call (.Name x p) [a, .Name y p2] [] pos =>
      if h : x = "isinstance" then do
        let a' ← cE n c a
        let r ← cTy c y p p2 pos a a'
        some ⟨r.1, by subst h; exact r.2⟩
      else cCall c (fun e => cE n c e) x p pos a [.Name y p2]
    | .Call (.Name x p) [a] [] pos =>
      if x ∈ biNames then do
        let a' ← cE n c a
        cBi c x p pos a a'
      else cCall c (fun e => cE n c e) x p pos a []
    | .Call (.Name x p) (a :: es) [] pos => cCall c (fun e => cE n c e) x p pos a es
    | .Call (.Attribute o name apos) [e] [] pos => do
      let o' ← cE n c o
      let e' ← cE n c e
      cMe c o e name apos pos o' e'
    | .ListComp elt [⟨tgE, iter, ifs, 0⟩] scope pos => do
      let r ← cComp c scope (fun e => cE n c e) (fun e => cE n (c.inBlk scope) e) (fun e => cT n (c.inBlk scope) e) elt tgE iter ifs
      some ⟨_, sem_lc r.ok⟩
    | _ => none
def cT : Nat → (c : Ctx) → (e : Expr) → OT c e
  | 0, _, _ => none
  | n + 1, c, e => match e with
    | .UnaryOp .Not a pos => (cT n c a).map fun a' => ⟨.not a'.1, semT_not a'.2⟩
    | .BoolOp o es pos => (cBoolT c (fun e => cT n c e) o pos es).map fun a' => ⟨a'.1, semT_W a'.2⟩
    | .Compare a [o] [b] pos => do
      let a' ← cE n c a
      let b' ← cE n c b
      if hs : noSet b = true then some ⟨.cmp (cpOf o) a'.1 b'.1, semT_cmp a'.2 b'.2 hs⟩ else none
    | .Compare a [o, p] [b, d] pos => do
      let a' ← cE n c a
      let b' ← cE n c b
      let d' ← cE n c d
      if hs : noSet d = true then some ⟨.chain (cpOf o) (cpOf p) a'.1 b'.1 d'.1, semT_chain a'.2 b'.2 d'.2 hs⟩ else none
    | e => if h : isBoolE e = false then (cE n c e).map fun a' => ⟨a'.1, semT_val a'.2 (isTrue_val h)⟩ else none
end

/-! ### statements -/
abbrev OS (c : Ctx) (s : Stmt) : Type := Option { s' : Sm // SemS c s s' }
abbrev OB (c : Ctx) (s : List Stmt) : Type := Option { s' : List Sm // SemB c s s' }
def cAssign (n : Nat) (c : Ctx) (t e : Expr) (pos : Pos) : OS c (.Assign [t] e pos) := match t, e with
  | .Name x p, .ListComp elt [⟨tgE, iter, ifs, 0⟩] scope pos2 => do
    let i ← slotOf c x
    let r ← cComp c scope (fun e => cE n c e) (fun e => cE n (c.inBlk scope) e) (fun e => cT n (c.inBlk scope) e) elt tgE iter ifs
    if hl : isLocal c x = true then
      if hk : c.sc.kind = .function then
        if hline : (p.line == pos2.line) = true then
          if ha : (scope.names.any fun (n, k) => n == x && (k == .local || k == .cell)) = false then some ⟨_, semS_setLc r.ok i.2 (isLocal_ok hl) hk hline ha⟩ else none
        else none
      else none
    else none
  | .Name x p, e => do
    let i ← slotOf c x
    let e' ← cE n c e
    if hl : locB c x = true then if hn : noComp e = true then some ⟨.set (.nm i.1) e'.1, semS_set i.2 hl e'.2 hn⟩ else none else none
  | .Tuple es k p, e => do
    let t' ← cTg c 4 (.Tuple es k p)
    let e' ← cE n c e
    if hn : noComp e = true then if hn2 : noTup e = true then some ⟨.set t'.1 e'.1, semS_unp t'.2 e'.2 hn hn2⟩ else none else none
  | .Subscript (.Name x p) ie p2, e => do
    let i ← slotOf c x
    let ie' ← cE n c ie
    let e' ← cE n c e
    if h : visB c.sc x = true ∧ dbgB x = false ∧ noComp e = true ∧ noTup e = true ∧ noSlice ie = true then
      some ⟨.putIx i.1 ie'.1 e'.1, semS_put i.2 h.1 h.2.1 ie'.2 e'.2 h.2.2.1 h.2.2.2.1 h.2.2.2.2⟩
    else none
  | _, _ => none
def cSeq (c : Ctx) (f : (s : Stmt) → { s' : Sm // SemS c s s' }) : (ss : List Stmt) → { ss' : List Sm // SemB c ss ss' }
  | [] => ⟨[], semB_nil⟩
  | s :: ss => ⟨(f s).1 :: (cSeq c f ss).1, semB_cons (f s).2 (cSeq c f ss).2⟩
def orStuck {c : Ctx} {s : Stmt} (o : OS c s) : { s' : Sm // SemS c s s' } := match o with
  | some r => r
  | none => ⟨.expr stuckE, semS_stuck⟩
/-- m: how deep the statements nest; n: the expressions -/
def cS (n : Nat) (c : Ctx) : Nat → (s : Stmt) → { s' : Sm // SemS c s s' }
  | 0, _ => ⟨.expr stuckE, semS_stuck⟩
  | m + 1, s => orStuck (match s with
    | .Expr e pos => do
      let e' ← cE n c e
      if hn : noComp e = true then some ⟨.expr e'.1, semS_expr e'.2 hn⟩ else none
    | .Return (some (.List es p)) pos => do
      let es' ← cList c (fun e => cE n c e) es
      if hz : es'.1.length ≤ 16777216 then some ⟨.retL es'.1, semS_retL es'.2 hz⟩ else none
    | .Return (some e) pos => (cE n c e).map fun e' => ⟨.ret e'.1, semS_ret e'.2⟩
    | .Pass pos => some ⟨.pass, semS_pass⟩
    | .Continue pos => some ⟨.cont, semS_cont⟩
    | .Break pos => some ⟨.brk, semS_brk⟩
    | .If t a b pos => do
      let t' ← cT n c t
      let a' := cSeq c (fun s => cS n c m s) a
      let b' := cSeq c (fun s => cS n c m s) b
      some ⟨.ifs t'.1 a'.1 b'.1, semS_if t'.2 a'.2 b'.2⟩
    | .For t it b [] pos => do
      let t' ← cTg c 4 t
      let src ← cIter c (fun e => cE n c e) t it
      let b' := cSeq c (fun s => cS n c m s) b
      some ⟨.fors t'.1 src.1 b'.1, semS_for t'.2 src.2 b'.2⟩
    | .Assign [t] e pos => cAssign n c t e pos
    | .Raise (some (.Call (.Name x p) [.Constant (.str z) j p2] [] pos)) none pos2 =>
      if hg : isGlo c x = true then if hd : dbgB x = false then match hl : c.exs.lookup x with
        | some i => some ⟨.raise i, semS_raise hl (isGlo_ok hg) hd⟩
        | none => none
      else none else none
    | _ => none)
def cB (c : Ctx) (ss : List Stmt) : { ss' : List Sm // SemB c ss ss' } := cSeq c (fun s => cS 24 c 12 s) ss
theorem semB_by {c : Ctx} {ss : List Stmt} {ss' : List Sm} (h : (cB c ss).1 = ss') : SemB c ss ss' := h ▸ (cB c ss).2
end R
set_option Elab.async false
set_option linter.all false
set_option maxRecDepth 100000
set_option maxHeartbeats 4000000
/-! Tools for plain runs. -/
namespace R

/-- the run ends well, with P -/
def Res.sat {α : Type} (r : Res α) (P : α → List Dat → Prop) : Prop := match r with
  | .ok a g => P a g
  | _ => False
@[simp] theorem sat_ok {α : Type} {a : α} {g : List Dat} {P : α → List Dat → Prop} : (Res.ok a g).sat P ↔ P a g := Iff.rfl
@[simp] theorem bind_ok {α β : Type} {a : α} {g : List Dat} {k : α → Mo β} : (Res.ok a g).bind k = k a g := rfl
@[simp] theorem bind_exc {α β : Type} {c : Nat} {g : List Dat} {k : α → Mo β} : (Res.exc c g : Res α).bind k = .exc c g := rfl
@[simp] theorem bind_bad {α β : Type} {k : α → Mo β} : (Res.bad : Res α).bind k = .bad := rfl
@[simp] theorem noexc_ok' {α : Type} {a : α} {g : List Dat} : (Res.ok a g).noexc = .ok a g := rfl
theorem sat_bind {α β : Type} {r : Res α} {k : α → Mo β} {P : β → List Dat → Prop} : (r.bind k).sat P ↔ r.sat fun a g => (k a g).sat P := by
  cases r <;> exact Iff.rfl
theorem sat_noexc {α : Type} {r : Res α} {P : α → List Dat → Prop} : r.noexc.sat P ↔ r.sat P := by
  cases r <;> exact Iff.rfl
theorem Res.sat.mono {α : Type} {r : Res α} {P Q : α → List Dat → Prop} (h : r.sat P) (w : ∀ a g, P a g → Q a g) : r.sat Q := by
  cases r with
  | ok a g => exact w a g h
  | _ => exact h
theorem sat_elim {α : Type} {r : Res α} {P : α → List Dat → Prop} (h : r.sat P) : ∃ a g, r = .ok a g ∧ P a g := by
  cases r with
  | ok a g => exact ⟨a, g, rfl, h⟩
  | _ => exact h.elim
theorem sat_of {α : Type} {r : Res α} {a : α} {g : List Dat} {P : α → List Dat → Prop} (e : r = .ok a g) (h : P a g) : r.sat P := by
  subst e; exact h
@[simp] theorem ofO_some {α : Type} {a : α} {g : List Dat} : ofO (some a) g = .ok a g := rfl
@[simp] theorem ofO_none {α : Type} {g : List Dat} : (ofO none g : Res α) = .bad := rfl
@[simp] theorem asB_bl {b : Bool} {g : List Dat} : asB (.bl b) g = .ok b g := rfl

/-- what a def's end gives -/
def retOf (fr : Bool) : Out → Mo Dat := fun o g => match o with
  | .nx _ => .ok .non g
  | .rt d f => if fr && !f then .bad else .ok d g
  | _ => .bad
@[simp] theorem retOf_rt {d : Dat} {f : Bool} {g : List Dat} : retOf false (.rt d f) g = .ok d g := rfl
@[simp] theorem retOf_nx {ρ : Sl} {fr : Bool} {g : List Dat} : retOf fr (.nx ρ) g = .ok .non g := rfl
theorem callK_eq {P : Pg} {k i : Nat} {ds g : List Dat} {f : Df} (h : P[i]? = some f) (hl : ds.length = f.np) : callK P (k + 1) i ds g = (runs (callK P k) f.body (ds.map some ++ List.replicate (f.ns - f.np) none) g).bind (retOf f.fr) := by
  unfold callK
  rw [h]
  dsimp only
  rw [if_pos hl]
  cases runs (callK P k) f.body (ds.map some ++ List.replicate (f.ns - f.np) none) g with
  | bad => rfl
  | exc c g => rfl
  | ok o g =>
    cases o with
    | nx ρ => rfl
    | bk ρ => rfl
    | ct ρ => rfl
    | rt d fr => rfl

/-! ### comprehensions -/
theorem lcGo_pure {step : Dat → Mo (Option Dat)} {f : Dat → Option Dat} {g : List Dat} : ∀ {ds acc : List Dat}, (∀ d ∈ ds, step d g = .ok (f d) g) → lcGo step acc ds g = .ok (acc ++ ds.filterMap f) g
  | [], acc, _ => by simp [lcGo]
  | d :: ds, acc, h => by
    rw [lcGo_cons, h d List.mem_cons_self]
    simp only [noexc_ok', bind_ok]
    cases e : f d with
    | none =>
      rw [List.filterMap_cons_none e]
      exact lcGo_pure fun x hx => h x (List.mem_cons_of_mem _ hx)
    | some y =>
      rw [List.filterMap_cons_some e]
      have := lcGo_pure (acc := acc ++ [y]) fun x hx => h x (List.mem_cons_of_mem _ hx)
      simp only [this, List.append_assoc, List.singleton_append]
/-- a comprehension that changes the cup: an invariant, each item with Q -/
theorem lcGo_sat {step : Dat → Mo (Option Dat)} {I : List Dat → Prop} {Q : Dat → Dat → Prop} : ∀ {ds acc g : List Dat}, I g → (∀ d ∈ ds, ∀ g, I g → (step d g).sat fun o g' => I g' ∧ ∃ y, o = some y ∧ Q d y) →
    (lcGo step acc ds g).sat fun ys g' => I g' ∧ ∃ zs : List Dat, ys = acc ++ zs ∧ zs.length = ds.length ∧ ∀ (i : Nat) (d z : Dat), ds[i]? = some d → zs[i]? = some z → Q d z
  | [], acc, g, hI, _ => by
    simp only [lcGo, sat_ok]
    exact ⟨hI, [], by simp, rfl, fun i d z h => by simp at h⟩
  | d :: ds, acc, g, hI, h => by
    rw [lcGo_cons, sat_bind, sat_noexc]
    refine (h d List.mem_cons_self g hI).mono fun o g1 ⟨h1, y, e, hq⟩ => ?_
    subst e
    refine (lcGo_sat (acc := acc ++ [y]) h1 fun x hx => h x (List.mem_cons_of_mem _ hx)).mono fun ys g2 ⟨h2, zs, e, hl, hz⟩ => ?_
    refine ⟨h2, y :: zs, by rw [e]; simp, by simp [hl], fun i d' z' e1 e2 => ?_⟩
    cases i with
    | zero =>
      simp at e1 e2
      subst e1 e2
      exact hq
    | succ i => exact hz i d' z' (by simpa using e1) (by simpa using e2)

/-! ### for -/
theorem forGo_sat {tg : Tg} {body : Sl → Mo Out} {I : Sl → List Dat → Prop} {Q : Out → List Dat → Prop} : ∀ {ds : List Dat} {ρ : Sl} {g : List Dat}, I ρ g → (∀ ρ g, I ρ g → Q (.nx ρ) g) →
    (∀ d ∈ ds, ∀ ρ g, I ρ g → ∃ ρ1, bindT tg d ρ = some ρ1 ∧ (body ρ1 g).sat fun o g' => match o with
      | .nx ρ2 => I ρ2 g'
      | .ct ρ2 => I ρ2 g'
      | .bk ρ2 => Q (.nx ρ2) g'
      | .rt d f => Q (.rt d f) g') → (forGo tg body ds ρ g).sat Q
  | [], ρ, g, hI, hQ, _ => by
    rw [forGo]
    exact hQ ρ g hI
  | d :: ds, ρ, g, hI, hQ, h => by
    obtain ⟨ρ1, e, hb⟩ := h d List.mem_cons_self ρ g hI
    rw [forGo_cons e, sat_bind]
    refine hb.mono fun o g' hh => ?_
    cases o with
    | nx ρ2 => exact forGo_sat hh hQ fun x hx => h x (List.mem_cons_of_mem _ hx)
    | ct ρ2 => exact forGo_sat hh hQ fun x hx => h x (List.mem_cons_of_mem _ hx)
    | bk ρ2 => exact hh
    | rt d f => exact hh
/-! ### ranges -/
def ilist (a : Int) (n : Nat) : List Dat := (List.range n).map fun (k : Nat) => Dat.int (a + k)
theorem rng1 {n : Int} (h : n ≤ 16777216) (h2 : -16777216 ≤ n) : rngD [.int n] = some (ilist 0 n.toNat) := by
  unfold ilist
  have hl : (line : Int) = 16777216 := rfl
  simp only [rngD]
  rw [if_pos (by simp only [Bool.and_eq_true, decide_eq_true_eq]; omega)]
theorem rng2 {a b : Int} (h1 : b - a ≤ 16777216) (h2 : -16777216 ≤ a) (h3 : a ≤ 16777216) (h4 : -16777216 ≤ b) (h5 : b ≤ 16777216) : rngD [.int a, .int b] = some (ilist a (b - a).toNat) := by
  unfold ilist
  have hl : (line : Int) = 16777216 := rfl
  simp only [rngD]
  rw [if_pos (by simp only [Bool.and_eq_true, decide_eq_true_eq]; omega)]
def dlist (a : Int) (n : Nat) : List Dat := (List.range n).map fun (k : Nat) => Dat.int (a + (k : Int) * -1)
theorem rng3 {a b : Int} (h1 : a - b ≤ 16777216) (h2 : -16777216 ≤ a) (h3 : a ≤ 16777216) (h4 : -16777216 ≤ b) (h5 : b ≤ 16777216) : rngD [.int a, .int b, .int (-1)] = some (dlist a (a - b).toNat) := by
  unfold dlist
  have hl : (line : Int) = 16777216 := rfl
  simp only [rngD]
  rw [if_pos (by simp only [Bool.and_eq_true, decide_eq_true_eq]; refine ⟨⟨⟨⟨⟨trivial, ?_⟩, ?_⟩, ?_⟩, ?_⟩, ?_⟩ <;> omega)]
theorem mem_ilist {d : Dat} {a : Int} {n : Nat} : d ∈ ilist a n ↔ ∃ k : Nat, k < n ∧ d = .int (a + k) := by
  unfold ilist
  simp only [List.mem_map, List.mem_range]
  exact ⟨fun ⟨k, h, e⟩ => ⟨k, h, e.symm⟩, fun ⟨k, h, e⟩ => ⟨k, h, e.symm⟩⟩

/-! ### one step of a run, as equations -/
section
variable {F : Nat → List Dat → Mo Dat} {ρ : Sl} {g : List Dat}
@[simp] theorem den_var {i : Nat} : den F (.var i) ρ g = ofO (ρ.getD i none) g := by simp only [den]
@[simp] theorem den_con {d : Dat} : den F (.con d) ρ g = .ok d g := by simp only [den]
@[simp] theorem den_op {o : Op} {a b : Ex} : den F (.op o a b) ρ g = (den F a ρ g).bind fun x g => (den F b ρ g).bind fun y g => ofO (opD o x y) g := by simp only [den]
def negD : Dat → Option Dat
  | .int i => some (.int (-i))
  | _ => none
def asIntD : Dat → Option Dat
  | .int i => some (.int i)
  | _ => none
@[simp] theorem negD_int {i : Int} : negD (.int i) = some (.int (-i)) := rfl
@[simp] theorem asIntD_int {i : Int} : asIntD (.int i) = some (.int i) := rfl
@[simp] theorem den_neg {a : Ex} : den F (.neg a) ρ g = (den F a ρ g).bind fun x g => ofO (negD x) g := by
  simp only [den]; congr 1; funext x g; cases x <;> rfl
@[simp] theorem den_asInt {a : Ex} : den F (.asInt a) ρ g = (den F a ρ g).bind fun x g => ofO (asIntD x) g := by
  simp only [den]; congr 1; funext x g; cases x <;> rfl
@[simp] theorem den_cmp {o : Cp} {a b : Ex} : den F (.cmp o a b) ρ g = (den F a ρ g).bind fun x g => (den F b ρ g).bind fun y g => ofO ((cpD o x y).map .bl) g := by simp only [den]
@[simp] theorem den_chain {o p : Cp} {a b c : Ex} : den F (.chain o p a b c) ρ g = (den F a ρ g).bind fun x g => (den F b ρ g).bind fun y g => (ofO (cpD o x y) g).bind fun k g => if k = true then (den F c ρ g).bind fun z g => ofO ((cpD p y z).map .bl) g else .ok (.bl false) g := by
  simp only [den]; congr 1; funext x g; congr 1; funext y g; congr 1; funext k g; cases k <;> rfl
@[simp] theorem den_and {a b : Ex} : den F (.and a b) ρ g = (den F a ρ g).bind fun x g => (asB x g).bind fun k g => if k = true then den F b ρ g else .ok (.bl false) g := by
  simp only [den]; congr 1; funext x g; congr 1; funext k g; cases k <;> rfl
@[simp] theorem den_or {a b : Ex} : den F (.or a b) ρ g = (den F a ρ g).bind fun x g => (asB x g).bind fun k g => if k = true then .ok (.bl true) g else den F b ρ g := by
  simp only [den]; congr 1; funext x g; congr 1; funext k g; cases k <;> rfl
@[simp] theorem den_not {a : Ex} : den F (.not a) ρ g = (den F a ρ g).bind fun x g => (asB x g).bind fun k g => .ok (.bl (!k)) g := by simp only [den]
@[simp] theorem den_ifx {t a b : Ex} : den F (.ifx t a b) ρ g = (den F t ρ g).bind fun x g => (asB x g).bind fun k g => if k = true then den F a ρ g else den F b ρ g := by
  simp only [den]; congr 1; funext x g; congr 1; funext k g; cases k <;> rfl
@[simp] theorem den_tup {es : List Ex} : den F (.tup es) ρ g = (denL F es ρ g).bind fun xs g => .ok (.tup xs) g := by simp only [den]
@[simp] theorem den_lst {es : List Ex} : den F (.lst es) ρ g = (denL F es ρ g).bind fun xs g => .ok (.lst xs) g := by simp only [den]
@[simp] theorem den_ix {a b : Ex} : den F (.ix a b) ρ g = (den F a ρ g).bind fun x g => (den F b ρ g).bind fun y g => ofO (getD x y g) g := by simp only [den]
@[simp] theorem den_sl {a l h : Ex} : den F (.sl a l h) ρ g = (den F a ρ g).bind fun x g => (den F l ρ g).bind fun l g => (den F h ρ g).bind fun h g => ofO (sliceD x l h) g := by simp only [den]
def revD : Dat → Option Dat
  | .lst xs => some (.lst xs.reverse)
  | _ => none
@[simp] theorem revD_lst {xs : List Dat} : revD (.lst xs) = some (.lst xs.reverse) := rfl
@[simp] theorem den_rev {a : Ex} : den F (.rev a) ρ g = (den F a ρ g).bind fun x g => ofO (revD x) g := by
  simp only [den]; congr 1; funext x g; cases x <;> rfl
@[simp] theorem den_call {i : Nat} {es : List Ex} : den F (.call i es) ρ g = (denL F es ρ g).bind fun xs g => F i xs g := by simp only [den]
@[simp] theorem den_bi {b : Bi} {a : Ex} : den F (.bi b a) ρ g = (den F a ρ g).bind fun x g => ofO (biD b x) g := by simp only [den]
def strK {α : Type} (x : Dat) (r : Res α) : Res α := match x with
  | .str _ => r
  | _ => .bad
@[simp] theorem strK_str {α : Type} {s : List Nat} {r : Res α} : strK (.str s) r = r := rfl
@[simp] theorem den_me {m : Me} {a b : Ex} : den F (.me m a b) ρ g = (den F a ρ g).bind fun x g => strK x ((den F b ρ g).bind fun y g => ofO (meD m x y) g) := by
  simp only [den]; congr 1; funext x g; cases x <;> rfl
@[simp] theorem den_isi {a : Ex} {t : Ty} : den F (.isi a t) ρ g = (den F a ρ g).bind fun x g => ofO ((isiD x t).map .bl) g := by simp only [den]
@[simp] theorem den_rng {es : List Ex} : den F (.rng es) ρ g = (denL F es ρ g).bind fun xs g => ofO ((rngD xs).map .lst) g := by simp only [den]
theorem den_lc2 {elt : Ex} {tg : Tg} {src cond : Ex} {own : List Nat} : den F (.lc elt tg src cond own) ρ g = (den F src ρ g).bind fun x g => (ofO (itemsD x) g).bind fun ds g => (lcGo (lcStep F elt tg cond (wipeD ρ own)) [] ds g).bind fun ys g => .ok (.lst ys) g := by
  exact den_lc
@[simp] theorem denL_nil : denL F [] ρ g = .ok [] g := by simp only [denL]
@[simp] theorem denL_cons {e : Ex} {es : List Ex} : denL F (e :: es) ρ g = (den F e ρ g).bind fun x g => (denL F es ρ g).bind fun xs g => .ok (x :: xs) g := by simp only [denL]
@[simp] theorem denB_eq {e : Ex} : denB F e ρ g = (den F e ρ g).bind asB := rfl
def okSet (t : Tg) (x : Dat) (ρ : Sl) : Option Out := (bindT t x ρ).map .nx
@[simp] theorem run_set {t : Tg} {e : Ex} : run F (.set t e) ρ g = (den F e ρ g).bind fun x g => ofO ((bindT t x ρ).map .nx) g := by
  simp only [run]; congr 1; funext x g; cases bindT t x ρ <;> rfl
@[simp] theorem bindT_nm {i : Nat} {d : Dat} : bindT (.nm i) d ρ = some (ρ.set i (some d)) := by simp only [bindT]
@[simp] theorem bindT_tp {ts : List Tg} {ds : List Dat} : bindT (.tp ts) (.tup ds) ρ = bindTs ts ds ρ := by simp only [bindT]
@[simp] theorem bindTs_nil : bindTs [] [] ρ = some ρ := by simp only [bindTs]
@[simp] theorem bindTs_cons {t : Tg} {ts : List Tg} {d : Dat} {ds : List Dat} : bindTs (t :: ts) (d :: ds) ρ = (bindT t d ρ).bind fun ρ1 => bindTs ts ds ρ1 := by simp only [bindTs]
@[simp] theorem run_expr {e : Ex} : run F (.expr e) ρ g = (den F e ρ g).bind fun _ g => .ok (.nx ρ) g := by simp only [run]
@[simp] theorem run_ret {e : Ex} : run F (.ret e) ρ g = (den F e ρ g).bind fun x g => .ok (.rt x false) g := by simp only [run]
@[simp] theorem run_retL {es : List Ex} : run F (.retL es) ρ g = (denL F es ρ g).bind fun x g => .ok (.rt (.lst x) true) g := by simp only [run]
@[simp] theorem run_ifs {t : Ex} {a b : List Sm} : run F (.ifs t a b) ρ g = (den F t ρ g).bind fun x g => (asB x g).bind fun k g => if k = true then runs F a ρ g else runs F b ρ g := by
  simp only [run, denB]
  cases den F t ρ g with
  | ok d g1 =>
    cases d with
    | bl b => cases b <;> rfl
    | _ => rfl
  | _ => rfl
@[simp] theorem run_fors {t : Tg} {e : Ex} {b : List Sm} : run F (.fors t e b) ρ g = (den F e ρ g).bind fun x g => (ofO (itemsD x) g).bind fun ds g => forGo t (fun ρ g => runs F b ρ g) ds ρ g := by simp only [run]
@[simp] theorem run_raise {c : Nat} : run F (.raise c) ρ g = .exc c g := by simp only [run]
@[simp] theorem run_pass : run F .pass ρ g = .ok (.nx ρ) g := by simp only [run]
@[simp] theorem run_cont : run F .cont ρ g = .ok (.ct ρ) g := by simp only [run]
@[simp] theorem run_brk : run F .brk ρ g = .ok (.bk ρ) g := by simp only [run]
def goOn (F : Nat → List Dat → Mo Dat) (ss : List Sm) : Out → Mo Out := fun o g => match o with
  | .nx ρ1 => runs F ss ρ1 g
  | o => .ok o g
@[simp] theorem goOn_nx {ss : List Sm} : goOn F ss (.nx ρ) g = runs F ss ρ g := rfl
@[simp] theorem goOn_rt {ss : List Sm} {d : Dat} {f : Bool} : goOn F ss (.rt d f) g = .ok (.rt d f) g := rfl
@[simp] theorem goOn_ct {ss : List Sm} : goOn F ss (.ct ρ) g = .ok (.ct ρ) g := rfl
@[simp] theorem goOn_bk {ss : List Sm} : goOn F ss (.bk ρ) g = .ok (.bk ρ) g := rfl
@[simp] theorem runs_nil : runs F [] ρ g = .ok (.nx ρ) g := by simp only [runs]
@[simp] theorem runs_cons {s : Sm} {ss : List Sm} : runs F (s :: ss) ρ g = (run F s ρ g).bind (goOn F ss) := by
  simp only [runs]
  cases run F s ρ g with
  | ok o g => cases o <;> rfl
  | _ => rfl
theorem runs_append {b : List Sm} : ∀ {a : List Sm} {ρ : Sl} {g : List Dat}, runs F (a ++ b) ρ g = (runs F a ρ g).bind (goOn F b)
  | [], ρ, g => by simp
  | s :: a, ρ, g => by
    rw [List.cons_append, runs_cons, runs_cons]
    cases run F s ρ g with
    | ok o g1 =>
      cases o with
      | nx ρ1 => simp only [bind_ok, goOn_nx]; exact runs_append
      | _ => rfl
    | _ => rfl
def putD (i : Nat) (ρ : Sl) (y x : Dat) (g : List Dat) : Res Out := match y with
  | .int k => match ixD g.length k with
    | some j => .ok (.nx ρ) (g.set j x)
    | none => .bad
  | _ => .bad
@[simp] theorem run_put {i : Nat} {e v : Ex} (h : ρ.getD i none = some .cup) : run F (.putIx i e v) ρ g = (den F v ρ g).bind fun x g => (den F e ρ g).bind fun y g => putD i ρ y x g := by
  simp only [run, h]
  congr 1
end
@[simp] theorem res_ite_bind {α β : Type} {c : Prop} [Decidable c] {a b : Res α} {k : α → Mo β} : (if c then a else b).bind k = if c then a.bind k else b.bind k := by
  split <;> rfl

@[simp] theorem wipeD_nil {ρ : Sl} : wipeD ρ [] = ρ := rfl
@[simp] theorem wipeD_cons {ρ : Sl} {i : Nat} {is : List Nat} : wipeD ρ (i :: is) = (wipeD ρ is).set i none := rfl
theorem lcStep_nm {F : Nat → List Dat → Mo Dat} {elt : Ex} {i : Nat} {cond : Ex} {ρ0 : Sl} {d : Dat} {g : List Dat} : lcStep F elt (.nm i) cond ρ0 d g = (den F cond (ρ0.set i (some d)) g).bind fun x g => (asB x g).bind fun k g => if k = true then (den F elt (ρ0.set i (some d)) g).bind fun y g => .ok (some y) g else .ok none g := by
  unfold lcStep
  rw [bindT_nm]
  dsimp only
  congr 1; funext x g; congr 1; funext k g; cases k <;> rfl
theorem lcStep_tp {F : Nat → List Dat → Mo Dat} {elt : Ex} {tg : Tg} {cond : Ex} {ρ0 ρ1 : Sl} {d : Dat} {g : List Dat} (h : bindT tg d ρ0 = some ρ1) : lcStep F elt tg cond ρ0 d g = (den F cond ρ1 g).bind fun x g => (asB x g).bind fun k g => if k = true then (den F elt ρ1 g).bind fun y g => .ok (some y) g else .ok none g := by
  unfold lcStep
  rw [h]
  dsimp only
  congr 1; funext x g; congr 1; funext k g; cases k <;> rfl
end R
set_option Elab.async false
set_option linter.all false
set_option maxRecDepth 100000
set_option maxHeartbeats 4000000
/-! The laws' own helpers: the cup, a draw, one of some, the same. -/
namespace R

/-- the cup as the laws keep it: digits, seed -/
def Gd (g : List Dat) : Prop := ∃ a b : Int, g = [.int a, .int b] ∧ 0 ≤ b ∧ b < 4294967296
def cupDf (c1 c2 c3 c4 c5 : Int) : Df := { fr := true, np := 1, ns := 2, body := [
    .set (.nm 1) (.bi .abs (.ix (.op .add (.bi .list (.var 0)) (.lst [(.con (.int (0)))])) (.con (.int (0))))),
    .retL [(.ifx (.cmp .ge (.var 1) (.op .pow (.con (.int (10))) (.con (.int (18))))) (.op .fdiv (.var 1) (.con (.int c1))) (.con (.int (0)))), (.op .add (.op .mod (.bi .int (.op .add (.op .mul (.var 1) (.con (.int c2))) (.con (.int c3)))) (.con (.int c4))) (.con (.int c5)))]] }
def rollDf (c1 c2 c3 c4 c5 c6 : Int) : Df := { fr := false, np := 2, ns := 4, body := [
    .ifs (.cmp .gt (.ix (.var 0) (.con (.int (0)))) (.con (.int (0)))) [
      .set (.nm 2) (.op .mod (.bi .int (.ix (.var 0) (.con (.int (0))))) (.var 1)),
      .putIx 0 (.con (.int (0))) (.op .fdiv (.ix (.var 0) (.con (.int (0)))) (.var 1)),
      .ret (.var 2)] [],
    .putIx 0 (.con (.int (1))) (.op .mod (.bi .int (.op .add (.op .mul (.ix (.var 0) (.con (.int (1)))) (.con (.int c1))) (.con (.int c2)))) (.con (.int c3))),
    .set (.nm 3) (.op .mod (.bi .int (.op .mul (.ix (.var 0) (.con (.int (1)))) (.op .add (.ix (.var 0) (.con (.int (1)))) (.con (.int c4))))) (.con (.int c5))),
    .ret (.op .mod (.bi .int (.op .fdiv (.var 3) (.con (.int c6)))) (.var 1))] }
def someDf (iR : Nat) : Df := { fr := false, np := 2, ns := 2, body := [
    .ret (.ix (.var 1) (.call iR [(.var 0), (.bi .len (.var 1))]))] }
def sameDf (iS : Nat) : Df := { fr := false, np := 2, ns := 3, body := [
    .ifs (.isi (.var 1) .tuple) [
      .ifs (.or (.not (.isi (.var 0) .tuple)) (.cmp .ne (.bi .len (.var 0)) (.bi .len (.var 1)))) [
        .ret (.con (.bl false))] [],
      .ret (.bi .all (.lc (.call iS [(.ix (.var 0) (.var 2)), (.ix (.var 1) (.var 2))]) (.nm 2) (.rng [(.bi .len (.var 1))]) (.con (.bl true)) [2]))] [],
    .ifs (.cmp .is (.var 1) (.con (.non))) [
      .ret (.cmp .is (.var 0) (.con (.non)))] [],
    .ifs (.isi (.var 1) .bool) [
      .ret (.ifx (.var 1) (.cmp .is (.var 0) (.con (.bl true))) (.cmp .is (.var 0) (.con (.bl false))))] [],
    .ifs (.isi (.var 1) .int) [
      .ret (.and (.isi (.var 0) .int) (.and (.not (.isi (.var 0) .bool)) (.cmp .eq (.bi .int (.var 0)) (.var 1))))] [],
    .ret (.and (.isi (.var 0) .str) (.cmp .eq (.bi .str (.var 0)) (.var 1)))] }

@[simp] theorem opD_addI {i j : Int} : opD .add (.int i) (.int j) = some (.int (i + j)) := rfl
@[simp] theorem opD_subI {i j : Int} : opD .sub (.int i) (.int j) = some (.int (i - j)) := rfl
theorem opD_mulI {i j : Int} (h : j.natAbs < 18446744073709551616 ∨ i.natAbs < 18446744073709551616) : opD .mul (.int i) (.int j) = some (.int (i * j)) := by
  have e : mulOkB i j = true := by
    unfold mulOkB
    simp only [Bool.or_eq_true, decide_eq_true_eq]; omega
  simp only [opD, e, if_true]
theorem opD_fdivI {i j : Int} (h : 0 < j) (h2 : j < 1073741824) : opD .fdiv (.int i) (.int j) = some (.int (i / j)) := by
  simp only [opD]
  rw [if_pos (by simp only [Bool.and_eq_true, decide_eq_true_eq]; omega), Int.fdiv_eq_ediv_of_nonneg _ (by omega)]
theorem opD_modI {i j : Int} (h : 0 < j) : opD .mod (.int i) (.int j) = some (.int (i % j)) := by
  simp only [opD]
  rw [if_pos (by omega), Int.fmod_eq_emod_of_nonneg _ (by omega)]
@[simp] theorem biD_int {i : Int} : biD .int (.int i) = some (.int i) := rfl
@[simp] theorem biD_lenT {xs : List Dat} : biD .len (.tup xs) = some (.int xs.length) := rfl
@[simp] theorem biD_lenL {xs : List Dat} : biD .len (.lst xs) = some (.int xs.length) := rfl
@[simp] theorem biD_lenS {xs : List Nat} : biD .len (.str xs) = some (.int xs.length) := rfl
@[simp] theorem biD_abs {i : Int} : biD .abs (.int i) = some (.int (if i < 0 then -i else i)) := rfl
@[simp] theorem cpD_gtI {i j : Int} : cpD .gt (.int i) (.int j) = some (decide (j < i)) := rfl
@[simp] theorem cpD_ltI {i j : Int} : cpD .lt (.int i) (.int j) = some (decide (i < j)) := rfl
@[simp] theorem cpD_geI {i j : Int} : cpD .ge (.int i) (.int j) = some (decide (j ≤ i)) := by
  simp only [cpD, ltD, Option.map_some, Option.some.injEq]
  by_cases h : i < j
  · simp [h]
  · have : j ≤ i := by omega
    simp [h, this]
@[simp] theorem cpD_leI {i j : Int} : cpD .le (.int i) (.int j) = some (decide (i ≤ j)) := by
  simp only [cpD, ltD, Option.map_some, Option.some.injEq]
  by_cases h : j < i
  · have : ¬ i ≤ j := by omega
    simp [h, this]
  · have : i ≤ j := by omega
    simp [h, this]
@[simp] theorem cpD_eqI {i j : Int} : cpD .eq (.int i) (.int j) = some (decide (i = j)) := by
  by_cases h : i = j <;> simp [cpD, eqD, okB, eqB, h]
@[simp] theorem cpD_neI {i j : Int} : cpD .ne (.int i) (.int j) = some (decide (i ≠ j)) := by
  by_cases h : i = j <;> simp [cpD, eqD, okB, eqB, h]
@[simp] theorem getD_cup {i : Int} {g : List Dat} : getD .cup (.int i) g = atD g i := rfl
@[simp] theorem getD_tup {i : Int} {xs g : List Dat} : getD (.tup xs) (.int i) g = atD xs i := rfl
@[simp] theorem getD_lst {i : Int} {xs g : List Dat} : getD (.lst xs) (.int i) g = atD xs i := rfl
@[simp] theorem getD_str {i : Int} {xs : List Nat} {g : List Dat} : getD (.str xs) (.int i) g = (atD xs i).map fun c => .str [c] := rfl
theorem atD_nat {α : Type} {xs : List α} {i : Int} (h : 0 ≤ i) : atD xs i = xs[i.toNat]? := by
  unfold atD ixD
  rw [if_pos h]
  by_cases hi : i < xs.length
  · rw [if_pos hi]; rfl
  · rw [if_neg hi]
    rw [List.getElem?_eq_none (by omega)]; rfl
@[simp] theorem atD_0 {α : Type} {x : α} {xs : List α} : atD (x :: xs) 0 = some x := by rw [atD_nat (by omega)]; rfl
@[simp] theorem atD_1 {α : Type} {x y : α} {xs : List α} : atD (x :: y :: xs) 1 = some y := by rw [atD_nat (by omega)]; rfl
@[simp] theorem atD_2 {α : Type} {x y z : α} {xs : List α} : atD (x :: y :: z :: xs) 2 = some z := by rw [atD_nat (by omega)]; rfl
theorem roll_call {P : Pg} {k i : Nat} {g : List Dat} {many c1 c2 c3 c4 c5 c6 : Int} (hP : P[i]? = some (rollDf c1 c2 c3 c4 c5 c6)) (h1 : 0 < c3 ∧ c3 < 4294967296) (h2 : 0 < c5) (h3 : 0 < c6 ∧ c6 < 1073741824) (h4 : 0 ≤ c1 ∧ c1 < 4294967296)
    (hm : 0 < many) (hm2 : many < 1073741824) (hg : Gd g) :
    (callK P (k + 1) i [.cup, .int many] g).sat fun d g' => Gd g' ∧ ∃ r : Int, d = .int r ∧ 0 ≤ r ∧ r < many := by
  obtain ⟨a, b, rfl, hb1, hb2⟩ := hg
  rw [callK_eq hP rfl]
  by_cases ha : 0 < a
  · simp [rollDf, ha, opD_fdivI hm hm2, opD_modI hm, putD, ixD]
    exact ⟨⟨_, _, rfl, hb1, hb2⟩, Int.emod_nonneg _ (by omega), Int.emod_lt_of_pos _ hm⟩
  · have e1 := Int.emod_nonneg (b * c1 + c2) (show c3 ≠ 0 by omega)
    have e2 := Int.emod_lt_of_pos (b * c1 + c2) h1.1
    simp [rollDf, ha, opD_fdivI h3.1 h3.2, opD_modI hm, opD_modI h1.1, opD_modI h2, putD, ixD, opD_mulI (i := b) (j := c1) (by omega), opD_mulI (i := (b * c1 + c2) % c3) (j := (b * c1 + c2) % c3 + c4) (by omega)]
    exact ⟨⟨_, _, rfl, e1, by omega⟩, Int.emod_nonneg _ (by omega), Int.emod_lt_of_pos _ hm⟩

theorem cup_call {P : Pg} {k i : Nat} {c1 c2 c3 c4 c5 : Int} (hP : P[i]? = some (cupDf c1 c2 c3 c4 c5)) (h1 : 0 < c1 ∧ c1 < 1073741824) (h2 : 0 ≤ c2 ∧ c2 < 4294967296) (h4 : 0 < c4 ∧ c4 < 2147483648) (h5 : 0 ≤ c5 ∧ c5 < 2147483648) (ns : List Int) (hl : ns.length ≤ 63) :
    ∃ is : List Int, (callK P (k + 1) i [.lst (ns.map .int)] [] = .ok (.lst (is.map .int)) [] ∧ callK P (k + 1) i [.kl (ns.map .int)] [] = .ok (.lst (is.map .int)) []) ∧ Gd (is.map .int) := by
  have hpow : opD .pow (.int 10) (.int 18) = some (.int 1000000000000000000) := by rfl
  have hadd : opD .add (.lst (ns.map .int)) (.lst [.int 0]) = some (.lst (ns.map .int ++ [.int 0])) := by
    simp only [opD]
    rw [if_pos (by simp [line]; omega)]
  obtain ⟨n0, hat⟩ : ∃ n0, atD (ns.map Dat.int ++ [.int 0]) 0 = some (.int n0) := by
    cases ns with
    | nil => exact ⟨0, rfl⟩
    | cons n ns => exact ⟨n, by simp⟩
  obtain ⟨cell, hab⟩ : ∃ cell, biD .abs (.int n0) = some (.int cell) := ⟨_, rfl⟩
  have e1 := Int.emod_nonneg (cell * c2 + c3) (show c4 ≠ 0 by omega)
  have e2 := Int.emod_lt_of_pos (cell * c2 + c3) h4.1
  have hl1 : biD .list (.lst (ns.map .int)) = some (.lst (ns.map .int)) := rfl
  have hl2 : biD .list (.kl (ns.map .int)) = some (.lst (ns.map .int)) := rfl
  have hmul := opD_mulI (i := cell) (j := c2) (by omega)
  have fin : ∀ sc : Dat, biD .list sc = some (.lst (ns.map .int)) → callK P (k + 1) i [sc] [] = .ok (.lst (([(if 1000000000000000000 ≤ cell then cell / c1 else 0), (cell * c2 + c3) % c4 + c5] : List Int).map .int)) [] := by
    intro sc hsc
    rw [callK_eq hP rfl]
    by_cases hc : 1000000000000000000 ≤ cell
    · simp [-biD_abs, cupDf, hsc, hadd, hat, hpow, hab, opD_fdivI h1.1 h1.2, opD_modI h4.1, hmul, hc, retOf]
    · simp [-biD_abs, cupDf, hsc, hadd, hat, hpow, hab, opD_fdivI h1.1 h1.2, opD_modI h4.1, hmul, hc, retOf]
  exact ⟨_, ⟨fin _ hl1, fin _ hl2⟩, _, _, rfl, by omega, by omega⟩
/-- one of some: a list, a tuple -/
theorem some_call {P : Pg} {k i iR : Nat} {g : List Dat} {c1 c2 c3 c4 c5 c6 : Int} (hP : P[i]? = some (someDf iR)) (hR : P[iR]? = some (rollDf c1 c2 c3 c4 c5 c6)) (h1 : 0 < c3 ∧ c3 < 4294967296) (h2 : 0 < c5) (h3 : 0 < c6 ∧ c6 < 1073741824) (h4 : 0 ≤ c1 ∧ c1 < 4294967296)
    {xs : List Dat} (hx : xs ≠ []) (hl : xs.length < 1073741824) (hg : Gd g) :
    (callK P (k + 2) i [.cup, .lst xs] g).sat (fun d g' => Gd g' ∧ d ∈ xs) ∧ (callK P (k + 2) i [.cup, .tup xs] g).sat (fun d g' => Gd g' ∧ d ∈ xs) := by
  have hpos : 0 < xs.length := List.length_pos_iff.mpr hx
  have key : ∀ sc : Dat, biD .len sc = some (.int xs.length) → (∀ i g, getD sc (.int i) g = atD xs i) → (callK P (k + 2) i [.cup, sc] g).sat (fun d g' => Gd g' ∧ d ∈ xs) := by
    intro sc hs1 hs2
    rw [callK_eq hP rfl]
    simp [someDf, sat_bind, hs1]
    refine (roll_call (k := k) hR h1 h2 h3 h4 (many := xs.length) (by omega) (by omega) hg).mono fun d g1 ⟨hg1, r, e, hr1, hr2⟩ => ?_
    subst e
    rw [hs2, atD_nat hr1, List.getElem?_eq_getElem (by omega)]
    simp
    exact hg1
  exact ⟨key _ rfl fun _ _ => rfl, key _ rfl fun _ _ => rfl⟩

/-! ### the same -/
mutual
def okS : Dat → Nat → Bool
  | .tup xs, n + 1 => decide (xs.length ≤ 16777216) && okSL xs n
  | .non, _ => true
  | .bl _, _ => true
  | .int _, _ => true
  | .str _, _ => true
  | _, _ => false
def okSL : List Dat → Nat → Bool
  | [], _ => true
  | x :: xs, n => okS x n && okSL xs n
end
theorem okSL_get {n : Nat} : ∀ {xs : List Dat} {i : Nat} {d : Dat}, okSL xs n = true → xs[i]? = some d → okS d n = true
  | [], _, _, _, h => by simp at h
  | x :: xs, 0, d, h, e => by
    simp [okSL] at h e
    subst e
    exact h.1
  | x :: xs, i + 1, d, h, e => by
    simp [okSL] at h e
    exact okSL_get h.2 e
@[simp] theorem cpD_isNon {d : Dat} : cpD .is d .non = some (isNonB d) := by
  cases d <;> rfl
theorem bools_true : ∀ n : Nat, boolsD (List.replicate n (.bl true)) = some (List.replicate n true)
  | 0 => rfl
  | n + 1 => by
    rw [List.replicate_succ, List.replicate_succ]
    unfold boolsD
    rw [bools_true n]
    rfl
theorem filterMap_const {α β : Type} {y : β} : ∀ xs : List α, xs.filterMap (fun _ => some y) = List.replicate xs.length y
  | [] => rfl
  | x :: xs => congrArg (y :: ·) (filterMap_const xs)
@[simp] theorem cpD_eqSS {s t : List Nat} : cpD .eq (.str s) (.str t) = some (s == t) := by simp [cpD, eqD, okB, eqB]
@[simp] theorem cpD_neSS {s t : List Nat} : cpD .ne (.str s) (.str t) = some (!(s == t)) := by simp [cpD, eqD, okB, eqB]
theorem same_call {P : Pg} {iS : Nat} (hP : P[iS]? = some (sameDf iS)) : ∀ (n k : Nat) (d : Dat) (g : List Dat), okS d n = true → callK P (k + n + 1) iS [d, d] g = .ok (.bl true) g := by
  intro n
  induction n with
  | zero =>
    intro k d g h
    rw [callK_eq hP rfl]
    cases d with
    | non => simp [sameDf, isiD, isNonB]
    | bl b => cases b <;> simp [sameDf, isiD, isNonB, cpD, isD]
    | int i => simp [sameDf, isiD, isNonB]
    | str s => simp [sameDf, isiD, isNonB, biD]
    | tup xs => simp [okS] at h
    | _ => simp [okS] at h
  | succ n ih =>
    intro k d g h
    rw [show k + (n + 1) + 1 = (k + n + 1) + 1 by omega, callK_eq hP rfl]
    cases d with
    | non => simp [sameDf, isiD, isNonB]
    | bl b => cases b <;> simp [sameDf, isiD, isNonB, cpD, isD]
    | int i => simp [sameDf, isiD, isNonB]
    | str s => simp [sameDf, isiD, isNonB, biD]
    | tup xs =>
      simp only [okS, Bool.and_eq_true, decide_eq_true_eq] at h
      have hr := rng1 (n := (xs.length : Int)) (by omega) (by omega)
      have hlc : lcGo (lcStep (callK P (k + n + 1)) (.call iS [(.ix (.var 0) (.var 2)), (.ix (.var 1) (.var 2))]) (.nm 2) (.con (.bl true)) [some (.tup xs), some (.tup xs), none]) [] (ilist 0 xs.length) g = .ok (List.replicate xs.length (.bl true)) g := by
        rw [lcGo_pure (f := fun _ => some (.bl true))]
        · rw [filterMap_const, List.nil_append]
          simp [ilist]
        · intro d hd
          obtain ⟨i, hi, rfl⟩ := mem_ilist.mp hd
          have e : atD xs (0 + (i : Int)) = some xs[i] := by rw [atD_nat (by omega)]; simp [hi]
          rw [lcStep_nm]
          have := ih k xs[i] g (okSL_get h.2 (List.getElem?_eq_getElem hi))
          simp only [Int.zero_add] at e
          simp [e, this]
      simp [sameDf, isiD, isNonB, den_lc2, hr, itemsD, hlc, biD, bools_true]
    | _ => simp [okS] at h
end R
set_option Elab.async false
set_option linter.all false
set_option maxRecDepth 100000
set_option maxHeartbeats 4000000
/-! Plain facts that the laws share. -/
namespace R

/-! ### slices -/
@[simp] theorem sliceD_str {xs : List Nat} {lo hi : Dat} : sliceD (.str xs) lo hi = (cutD xs lo hi).map .str := rfl
@[simp] theorem sliceD_tup {xs : List Dat} {lo hi : Dat} : sliceD (.tup xs) lo hi = (cutD xs lo hi).map .tup := rfl
@[simp] theorem sliceD_lst {xs : List Dat} {lo hi : Dat} : sliceD (.lst xs) lo hi = (cutD xs lo hi).map .lst := rfl
theorem bnd_nat {n d a : Nat} : bndD n d (.int (a : Int)) = some (min a n) := by
  simp only [bndD]
  rw [if_neg (by omega)]
  rfl
theorem bnd_neg {n d m : Nat} (h : 0 < m) : bndD n d (.int (-(m : Int))) = some (n - m) := by
  simp only [bndD]
  rw [if_pos (by omega)]
  congr 1
  omega
theorem bnd_non {n d : Nat} : bndD n d .non = some d := rfl
theorem cut_to {α : Type} (xs : List α) (m : Nat) : cutD xs .non (.int m) = some (xs.take m) := by
  simp only [cutD, bnd_nat, bnd_non, Option.bind_some, Option.map_some, List.drop_zero, Nat.sub_zero]
  by_cases h : m ≤ xs.length
  · rw [Nat.min_eq_left h]
  · rw [Nat.min_eq_right (by omega), List.take_of_length_le (by omega), List.take_of_length_le (by omega)]
theorem cut_from {α : Type} (xs : List α) (m : Nat) : cutD xs (.int m) .non = some (xs.drop m) := by
  simp only [cutD, bnd_nat, bnd_non, Option.bind_some, Option.map_some]
  by_cases h : m ≤ xs.length
  · rw [Nat.min_eq_left h, List.take_of_length_le (by rw [List.length_drop]; omega)]
  · rw [Nat.min_eq_right (by omega), List.drop_eq_nil_of_le (Nat.le_refl _), List.drop_eq_nil_of_le (by omega)]
    simp
theorem cut_fromNeg {α : Type} (xs : List α) (m : Nat) (h : 0 < m) : cutD xs (.int (-(m : Int))) .non = some (xs.drop (xs.length - m)) := by
  simp only [cutD, bnd_neg h, bnd_non, Option.bind_some, Option.map_some]
  rw [List.take_of_length_le (by rw [List.length_drop]; omega)]
theorem cut_toNeg {α : Type} (xs : List α) (m : Nat) (h : 0 < m) : cutD xs .non (.int (-(m : Int))) = some (xs.take (xs.length - m)) := by
  simp only [cutD, bnd_neg h, bnd_non, Option.bind_some, Option.map_some, List.drop_zero, Nat.sub_zero]
theorem cut_fromNegTo {α : Type} (xs : List α) (a m : Nat) (h : 0 < m) : cutD xs (.int (a : Int)) (.int (-(m : Int))) = some ((xs.drop (min a xs.length)).take (xs.length - m - min a xs.length)) := by
  simp only [cutD, bnd_neg h, bnd_nat, Option.bind_some, Option.map_some]
theorem cut_fromTo {α : Type} (xs : List α) (a b : Nat) : cutD xs (.int (a : Int)) (.int (b : Int)) = some ((xs.drop (min a xs.length)).take (min b xs.length - min a xs.length)) := by
  simp only [cutD, bnd_nat, Option.bind_some, Option.map_some]
/-! ### lists that come of ranges -/
theorem lc_ilist {step : Dat → Mo (Option Dat)} {p : Nat → Bool} {e : Nat → Dat} {a : Int} {n : Nat} {g : List Dat} (h : ∀ k, k < n → step (.int (a + (k : Nat))) g = .ok (if p k = true then some (e k) else none) g) : lcGo step [] (ilist a n) g = .ok (((List.range n).filter p).map e) g := by
  rw [lcGo_pure (f := fun d => match d with | .int z => (if p (z - a).toNat = true then some (e (z - a).toNat) else none) | _ => none)]
  · rw [List.nil_append]
    congr 1
    unfold ilist
    have key : ∀ l : List Nat, (l.map fun (k : Nat) => Dat.int (a + k)).filterMap (fun d => match d with | .int z => (if p (z - a).toNat = true then some (e (z - a).toNat) else none) | _ => none) = (l.filter p).map e := by
      intro l
      induction l with
      | nil => rfl
      | cons k l ih =>
        rw [List.map_cons, List.filterMap_cons]
        simp only [show (a + (k : Int) - a).toNat = k by omega]
        by_cases hp : p k = true
        · simp only [hp, if_true, List.filter_cons_of_pos, List.map_cons, ih]
        · simp only [hp, if_false, List.filter_cons_of_neg, ih, Bool.false_eq_true, not_false_eq_true]
    exact key _
  · intro d hd
    obtain ⟨k, hk, rfl⟩ := mem_ilist.mp hd
    rw [h k hk]
    simp only [show (a + (k : Int) - a).toNat = k by omega]
theorem lc_map {α : Type} {step : Dat → Mo (Option Dat)} {p : α → Bool} {e : α → Dat} {c : α → Dat} {g : List Dat} : ∀ {xs : List α} {acc : List Dat}, (∀ x ∈ xs, step (c x) g = .ok (if p x = true then some (e x) else none) g) → lcGo step acc (xs.map c) g = .ok (acc ++ (xs.filter p).map e) g
  | [], acc, _ => by simp [lcGo]
  | x :: xs, acc, h => by
    rw [List.map_cons, lcGo_cons, h x List.mem_cons_self]
    by_cases hp : p x = true
    · simp only [hp, if_true, noexc_ok', bind_ok]
      rw [lc_map fun y hy => h y (List.mem_cons_of_mem _ hy), List.filter_cons_of_pos hp]
      simp
    · simp only [hp, if_false, noexc_ok', bind_ok, Bool.false_eq_true]
      rw [lc_map fun y hy => h y (List.mem_cons_of_mem _ hy), List.filter_cons_of_neg hp]
/-! ### equality -/
theorem okAll_of {ds : List Dat} {n : Nat} (h : ∀ d ∈ ds, okB d n = true) : okAllB ds n = true := by
  induction ds with
  | nil => rfl
  | cons d ds ih =>
    simp only [okAllB, Bool.and_eq_true]
    exact ⟨h d List.mem_cons_self, ih fun x hx => h x (List.mem_cons_of_mem _ hx)⟩
theorem cpD_eqNil {xs : List Dat} (h : okAllB xs 63 = true) : cpD .eq (.lst xs) (.lst []) = some xs.isEmpty := by
  cases xs with
  | nil => rfl
  | cons x xs =>
    have e1 : okB (.lst (x :: xs)) 64 = true := h
    have e2 : okB (.lst []) 64 = true := rfl
    simp only [cpD, eqD, e1, e2, eqB, eqAllB]
    rfl
theorem cpD_neNil {xs : List Dat} (h : okAllB xs 63 = true) : cpD .ne (.lst xs) (.lst []) = some (!xs.isEmpty) := by
  cases xs with
  | nil => rfl
  | cons x xs =>
    have e1 : okB (.lst (x :: xs)) 64 = true := h
    have e2 : okB (.lst []) 64 = true := rfl
    simp only [cpD, eqD, e1, e2, eqB, eqAllB]
    rfl
@[simp] theorem cpD_neBB {a b : Bool} : cpD .ne (.bl a) (.bl b) = some (!(a == b)) := by
  simp [cpD, eqD, okB, eqB]
theorem okB_map_int {α : Type} (f : α → Int) (l : List α) (n : Nat) : okAllB (l.map fun k => Dat.int (f k)) n = true := okAll_of fun d hd => by
  obtain ⟨k, _, rfl⟩ := List.mem_map.mp hd
  rfl
theorem eqAllB_str : ∀ (x y : List Nat), eqAllB (x.map fun c => Dat.str [c]) (y.map fun c => Dat.str [c]) = (x == y)
  | [], [] => rfl
  | [], _ :: _ => rfl
  | _ :: _, [] => rfl
  | a :: x, b :: y => by
    rw [List.map_cons, List.map_cons]
    unfold eqAllB
    rw [eqAllB_str x y]
    simp [eqB]
theorem cpD_eqSigns (x y : List Nat) : cpD .eq (.lst (x.map fun c => Dat.str [c])) (.lst (y.map fun c => Dat.str [c])) = some (x == y) := by
  have h : ∀ l : List Nat, okAllB (l.map fun c => Dat.str [c]) 63 = true := fun l => okAll_of fun d hd => by
    obtain ⟨k, _, rfl⟩ := List.mem_map.mp hd
    rfl
  simp [cpD, eqD, okB, h, eqB, eqAllB_str]
@[simp] theorem biD_listS {s : List Nat} : biD .list (.str s) = some (.lst (s.map fun c => .str [c])) := rfl
@[simp] theorem biD_tupleL {xs : List Dat} : biD .tuple (.lst xs) = some (.tup xs) := rfl
@[simp] theorem biD_tupleT {xs : List Dat} : biD .tuple (.tup xs) = some (.tup xs) := rfl
@[simp] theorem biD_strS {s : List Nat} : biD .str (.str s) = some (.str s) := rfl
theorem boolsD_map {α : Type} (f : α → Bool) : ∀ l : List α, boolsD (l.map fun x => Dat.bl (f x)) = some (l.map f)
  | [] => rfl
  | x :: l => by
    rw [List.map_cons]
    unfold boolsD
    rw [boolsD_map f l]
    rfl
theorem all_map {α : Type} (f : α → Bool) (l : List α) : biD .all (.lst (l.map fun x => Dat.bl (f x))) = some (.bl (l.all f)) := by
  simp only [biD, boolsD_map]
  simp [List.all_map]
theorem any_map {α : Type} (f : α → Bool) (l : List α) : biD .any (.lst (l.map fun x => Dat.bl (f x))) = some (.bl (l.any f)) := by
  simp only [biD, boolsD_map]
  simp [List.any_map]
/-! ### data that _law_same takes -/
theorem okSL_of {ds : List Dat} {n : Nat} (h : ∀ d ∈ ds, okS d n = true) : okSL ds n = true := by
  induction ds with
  | nil => rfl
  | cons d ds ih =>
    simp only [okSL, Bool.and_eq_true]
    exact ⟨h d List.mem_cons_self, ih fun x hx => h x (List.mem_cons_of_mem _ hx)⟩
theorem okS_map {α : Type} {f : α → Dat} {l : List α} {n : Nat} (hl : l.length ≤ 16777216) (h : ∀ x ∈ l, okS (f x) n = true) : okS (.tup (l.map f)) (n + 1) = true := by
  simp only [okS, Bool.and_eq_true, decide_eq_true_eq]
  refine ⟨by simpa using hl, okSL_of fun d hd => ?_⟩
  obtain ⟨x, hx, rfl⟩ := List.mem_map.mp hd
  exact h x hx
@[simp] theorem itemsD_lst {xs : List Dat} : itemsD (.lst xs) = some xs := rfl
@[simp] theorem itemsD_tup {xs : List Dat} : itemsD (.tup xs) = some xs := rfl
@[simp] theorem itemsD_str {xs : List Nat} : itemsD (.str xs) = some (xs.map fun c => .str [c]) := rfl

theorem opD_mulS {x : List Nat} {n : Nat} (h : x.length * n ≤ 16777216) (h2 : n ≤ 16777216) : opD .mul (.str x) (.int (n : Int)) = some (.str (List.replicate n x).flatten) := by
  have hl : line = 16777216 := rfl
  simp only [opD, Int.toNat_natCast]
  rw [if_pos (by simp only [Bool.and_eq_true, decide_eq_true_eq, hl]; omega)]
theorem opD_addS {x y : List Nat} (h : x.length + y.length ≤ 16777216) : opD .add (.str x) (.str y) = some (.str (x ++ y)) := by
  have hl : line = 16777216 := rfl
  simp only [opD]
  rw [if_pos (by omega)]
theorem opD_addT {x y : List Dat} (h : x.length + y.length ≤ 16777216) : opD .add (.tup x) (.tup y) = some (.tup (x ++ y)) := by
  have hl : line = 16777216 := rfl
  simp only [opD]
  rw [if_pos (by omega)]
theorem opD_addL {x y : List Dat} (h : x.length + y.length ≤ 16777216) : opD .add (.lst x) (.lst y) = some (.lst (x ++ y)) := by
  have hl : line = 16777216 := rfl
  simp only [opD]
  rw [if_pos (by omega)]

theorem atD_last {α : Type} (xs : List α) : atD xs (-1) = xs.getLast? := by
  unfold atD ixD
  rw [if_neg (by omega), List.getLast?_eq_getElem?]
  by_cases h : xs.length = 0
  · rw [if_neg (by omega)]
    have : xs = [] := List.eq_nil_of_length_eq_zero h
    subst this
    rfl
  · rw [if_pos (by omega)]
    show xs[(-1 + (xs.length : Int)).toNat]? = _
    rw [show (-1 + (xs.length : Int)).toNat = xs.length - 1 by omega]

theorem strsD_map {α : Type} (f : α → List Nat) : ∀ l : List α, strsD (l.map fun x => Dat.str (f x)) = some (l.map f)
  | [] => rfl
  | x :: l => by
    rw [List.map_cons]
    unfold strsD
    rw [strsD_map f l]
    rfl
theorem glue_nil : ∀ l : List (List Nat), glueD [] l = l.flatten
  | [] => rfl
  | [x] => by simp [glueD]
  | x :: y :: r => by
    rw [glueD, glue_nil (y :: r)]
    simp
theorem flat_signs : ∀ l : List Nat, (l.map fun c => [c]).flatten = l
  | [] => rfl
  | c :: l => by rw [List.map_cons, List.flatten_cons, flat_signs l]; rfl
theorem sum_ones : ∀ l : List Nat, ((l.map fun c => [c]).map List.length).sum = l.length
  | [] => rfl
  | c :: l => by
    rw [List.map_cons, List.map_cons, List.sum_cons, sum_ones l, List.length_cons, List.length_nil, List.length_cons]
    omega
theorem join_signs {cs : List Nat} (h : cs.length ≤ 16777216) : meD .join (.str []) (.lst (cs.map fun c => Dat.str [c])) = some (.str cs) := by
  have hl : line = 16777216 := rfl
  simp only [meD, strsD_map (fun c => [c]) cs, Option.bind_some]
  rw [if_pos (by rw [sum_ones]; simp; omega), glue_nil, flat_signs]
theorem signs_of {p : Nat → Prop} : ∀ {zs : List Dat}, (∀ z ∈ zs, ∃ c, z = .str [c] ∧ p c) → ∃ cs : List Nat, zs = (cs.map fun c => Dat.str [c]) ∧ ∀ c ∈ cs, p c
  | [], _ => ⟨[], rfl, by simp⟩
  | z :: zs, h => by
    obtain ⟨c, rfl, hc⟩ := h z List.mem_cons_self
    obtain ⟨cs, rfl, hcs⟩ := signs_of fun z hz => h z (List.mem_cons_of_mem _ hz)
    exact ⟨c :: cs, rfl, fun x hx => by
      rcases List.mem_cons.mp hx with rfl | hx
      · exact hc
      · exact hcs x hx⟩
/-- a comprehension that draws: each item has Q -/
theorem lc_draw {step : Dat → Mo (Option Dat)} {Q : Dat → Prop} {ds g : List Dat} (hg : Gd g) (h : ∀ d ∈ ds, ∀ g, Gd g → (step d g).sat fun o g' => Gd g' ∧ ∃ y, o = some y ∧ Q y) :
    (lcGo step [] ds g).sat fun ys g' => Gd g' ∧ ys.length = ds.length ∧ ∀ y ∈ ys, Q y := by
  refine (lcGo_sat (I := Gd) (Q := fun _ y => Q y) hg h).mono fun ys g1 ⟨h1, zs, e, hl, hz⟩ => ?_
  subst e
  refine ⟨h1, by simpa using hl, fun y hy => ?_⟩
  obtain ⟨i, hi⟩ := List.mem_iff_getElem?.mp hy
  have hi2 : i < ds.length := by rw [← hl]; exact (List.getElem?_eq_some_iff.mp hi).1
  exact hz i _ _ (List.getElem?_eq_getElem hi2) hi

theorem fold_asc {f : Nat → Int} (hf : ∀ x y, x < y → f x < f y) : ∀ (l : List Nat) (a : Int), l.Pairwise (· < ·) → (∀ x ∈ l, a < f x) →
    (l.map f).foldl (fun a b => if a < b then b else a) a = match l.getLast? with | none => a | some k => f k
  | [], a, _, _ => rfl
  | x :: l, a, hp, ha => by
    rw [List.map_cons, List.foldl_cons, if_pos (ha x List.mem_cons_self)]
    have hp2 := List.pairwise_cons.mp hp
    rw [fold_asc hf l (f x) hp2.2 fun y hy => hf x y (hp2.1 y hy)]
    cases l with
    | nil => rfl
    | cons y l =>
      rw [List.getLast?_cons_cons]
      cases e : (y :: l).getLast? with
      | none => simp at e
      | some k => rfl
theorem intsD_map {α : Type} (f : α → Int) : ∀ l : List α, intsD (l.map fun x => Dat.int (f x)) = some (l.map f)
  | [] => rfl
  | x :: l => by
    rw [List.map_cons]
    unfold intsD
    rw [intsD_map f l]
    rfl
theorem range_rev (m : Nat) : (List.range m).reverse = (List.range m).map fun k => m - 1 - k := by
  apply List.ext_getElem?
  intro i
  by_cases hi : i < m
  · rw [List.getElem?_reverse (by simpa using hi), List.getElem?_map]
    rw [List.length_range, List.getElem?_range (by omega), List.getElem?_range hi]
    rfl
  · rw [List.getElem?_eq_none (by simp; omega), List.getElem?_eq_none (by simp; omega)]
@[simp] theorem cpD_inS {x y : List Nat} : cpD .isin (.str x) (.str y) = some (infixB x y) := rfl

theorem okS_pair {a b : Dat} {n : Nat} (ha : okS a n = true) (hb : okS b n = true) : okS (.tup [a, b]) (n + 1) = true := by
  unfold okS okSL okSL okSL
  rw [ha, hb]
  rfl

theorem lc_dlist {step : Dat → Mo (Option Dat)} {p : Nat → Bool} {e : Nat → Dat} {a : Int} {n : Nat} {g : List Dat} (h : ∀ k, k < n → step (.int (a + (k : Int) * -1)) g = .ok (if p k = true then some (e k) else none) g) : lcGo step [] (dlist a n) g = .ok (((List.range n).filter p).map e) g := by
  unfold dlist
  rw [lc_map (p := p) (e := e) fun k hk => h k (List.mem_range.mp hk)]
  rfl
end R
set_option Elab.async false
set_option linter.all false
set_option maxRecDepth 100000
set_option maxHeartbeats 0
/-! The text of the law as plain data (printed by gen.py), and that it is the text. -/
namespace K77
open PySem PySem.Spec PyProof.Rows L2 R
def top : List Stmt := PySem.Challenge.pw_wordsrest_k77_whole_borders.main.body
def st (i : Nat) : Stmt := top.getD i (.Pass ⟨0, 0, 0, 0⟩)
/-- is_tuple_of(value, low, high) -/
def d_is_tuple_of : DefR := ⟨"is_tuple_of", st 9, ["value", "low", "high"], ["value", "low", "high"], { fr := false, np := 3, ns := 3, body := [
    .ret (.and (.isi (.var 0) .tuple) (.chain .le .le (.var 1) (.bi .len (.var 0)) (.var 2)))] }⟩
/-- fits_whole(value, low, high) -/
def d_fits_whole : DefR := ⟨"fits_whole", st 10, ["value", "low", "high"], ["value", "low", "high"], { fr := false, np := 3, ns := 3, body := [
    .ret (.and (.isi (.var 0) .int) (.and (.not (.isi (.var 0) .bool)) (.chain .le .le (.var 1) (.var 0) (.var 2))))] }⟩
/-- fits_letters(value, size, low, high, letter) -/
def d_fits_letters : DefR := ⟨"fits_letters", st 11, ["value", "size", "low", "high", "letter"], ["value", "size", "low", "high"], { fr := false, np := 4, ns := 5, body := [
    .ret (.and (.isi (.var 0) .str) (.and (.chain .le .le (.var 2) (.bi .len (.var 0)) (.var 3)) (.bi .all (.lc (.cmp .isin (.var 4) (.sl (.con (.str [97, 98, 99, 100])) (.con .non) (.asInt (.var 1)))) (.nm 4) (.var 0) (.con (.bl true)) [4]))))] }⟩
/-- fits_rule(size, value) -/
def d_fits_rule : DefR := ⟨"fits_rule", st 12, ["size", "value"], ["size", "value"], { fr := false, np := 2, ns := 2, body := [
    .ifs (.or (.not (.call 0 [(.var 1), (.con (.int (2))), (.con (.int (2)))])) (.not (.call 2 [(.ix (.var 1) (.con (.int (0)))), (.var 0), (.con (.int (1))), (.con (.int (6)))]))) [
      .ret (.con (.bl false))] [],
    .ret (.and (.call 2 [(.ix (.var 1) (.con (.int (1)))), (.var 0), (.con (.int (0))), (.con (.int (6)))]) (.cmp .ne (.ix (.var 1) (.con (.int (0)))) (.ix (.var 1) (.con (.int (1))))))] }⟩
/-- borders_in(word, many) -/
def d_borders_in : DefR := ⟨"borders_in", st 14, ["word", "many"], ["word"], { fr := false, np := 1, ns := 2, body := [
    .ret (.lc (.var 1) (.nm 1) (.rng [(.con (.int (1))), (.bi .len (.var 0))]) (.cmp .eq (.sl (.var 0) (.con .non) (.asInt (.var 1))) (.sl (.var 0) (.asInt (.neg (.var 1))) (.con .non))) [1])] }⟩
/-- need_rule(size, value) -/
def d_need_rule : DefR := ⟨"need_rule", st 15, ["size", "value"], ["size", "value"], { fr := false, np := 2, ns := 2, body := [
    .ifs (.not (.call 1 [(.var 0), (.con (.int (1))), (.bi .len (.con (.str [97, 98, 99, 100])))])) [
      .raise 3] [],
    .ifs (.not (.call 3 [(.var 0), (.var 1)])) [
      .raise 1] []] }⟩
/-- borders(word) -/
def d_borders : DefR := ⟨"borders", st 16, ["word"], ["word"], { fr := false, np := 1, ns := 1, body := [
    .ifs (.not (.call 2 [(.var 0), (.bi .len (.con (.str [97, 98, 99, 100]))), (.con (.int (0))), (.con (.int (60)))])) [
      .raise 2] [],
    .ret (.bi .tuple (.call 4 [(.var 0)]))] }⟩
/-- periods(word, many) -/
def d_periods : DefR := ⟨"periods", st 17, ["word", "many"], ["word"], { fr := false, np := 1, ns := 2, body := [
    .ifs (.not (.call 2 [(.var 0), (.bi .len (.con (.str [97, 98, 99, 100]))), (.con (.int (0))), (.con (.int (60)))])) [
      .raise 2] [],
    .ret (.bi .tuple (.lc (.op .sub (.bi .len (.var 0)) (.var 1)) (.nm 1) (.rev (.call 4 [(.var 0)])) (.con (.bl true)) [1]))] }⟩
/-- is_power(word, many) -/
def d_is_power : DefR := ⟨"is_power", st 18, ["word", "many"], ["word"], { fr := false, np := 1, ns := 2, body := [
    .ifs (.not (.call 2 [(.var 0), (.bi .len (.con (.str [97, 98, 99, 100]))), (.con (.int (0))), (.con (.int (60)))])) [
      .raise 2] [],
    .ret (.bi .any (.lc (.cmp .eq (.var 0) (.op .mul (.sl (.var 0) (.con .non) (.asInt (.var 1))) (.op .fdiv (.bi .len (.var 0)) (.var 1)))) (.nm 1) (.rng [(.con (.int (1))), (.bi .len (.var 0))]) (.cmp .eq (.op .mod (.bi .len (.var 0)) (.var 1)) (.con (.int (0)))) [1]))] }⟩
/-- self_overlaps(size, rule, left, many) -/
def d_self_overlaps : DefR := ⟨"self_overlaps", st 19, ["size", "rule", "left", "many"], ["size", "rule"], { fr := false, np := 2, ns := 4, body := [
    .expr (.call 5 [(.var 0), (.var 1)]),
    .set (.nm 2) (.ix (.var 1) (.con (.int (0)))),
    .ret (.bi .tuple (.lc (.op .add (.var 2) (.sl (.var 2) (.asInt (.var 3)) (.con .non))) (.nm 3) (.rev (.call 4 [(.var 2)])) (.con (.bl true)) [3]))] }⟩
/-- are_words_apart(size, rule) -/
def d_are_words_apart : DefR := ⟨"are_words_apart", st 20, ["size", "rule"], ["size", "rule"], { fr := false, np := 2, ns := 2, body := [
    .expr (.call 5 [(.var 0), (.var 1)]),
    .ret (.cmp .eq (.call 4 [(.ix (.var 1) (.con (.int (0))))]) (.lst []))] }⟩
/-- longest_border(word, rows) -/
def d_longest_border : DefR := ⟨"longest_border", st 21, ["word", "rows"], ["word"], { fr := false, np := 1, ns := 2, body := [
    .ifs (.not (.call 2 [(.var 0), (.bi .len (.con (.str [97, 98, 99, 100]))), (.con (.int (0))), (.con (.int (6)))])) [
      .raise 2] [],
    .set (.nm 1) (.call 4 [(.var 0)]),
    .ret (.ifx (.cmp .ne (.var 1) (.lst [])) (.sl (.var 0) (.con .non) (.asInt (.ix (.var 1) (.neg (.con (.int (1))))))) (.con (.str [])))] }⟩
/-- _law_cup(script, cell) -/
def d__law_cup : DefR := ⟨"_law_cup", st 23, ["script", "cell"], ["script"], { fr := true, np := 1, ns := 2, body := [
    .set (.nm 1) (.bi .abs (.ix (.op .add (.bi .list (.var 0)) (.lst [(.con (.int (0)))])) (.con (.int (0))))),
    .retL [(.ifx (.cmp .ge (.var 1) (.op .pow (.con (.int (10))) (.con (.int (18))))) (.op .fdiv (.var 1) (.con (.int (787)))) (.con (.int (0)))), (.op .add (.op .mod (.bi .int (.op .add (.op .mul (.var 1) (.con (.int (2741)))) (.con (.int (5779))))) (.con (.int (2077505411)))) (.con (.int (1061))))]] }⟩
/-- _law_roll(cup, many, found, deep) -/
def d__law_roll : DefR := ⟨"_law_roll", st 24, ["cup", "many", "found", "deep"], ["cup", "many"], { fr := false, np := 2, ns := 4, body := [
    .ifs (.cmp .gt (.ix (.var 0) (.con (.int (0)))) (.con (.int (0)))) [
      .set (.nm 2) (.op .mod (.bi .int (.ix (.var 0) (.con (.int (0))))) (.var 1)),
      .putIx 0 (.con (.int (0))) (.op .fdiv (.ix (.var 0) (.con (.int (0)))) (.var 1)),
      .ret (.var 2)] [],
    .putIx 0 (.con (.int (1))) (.op .mod (.bi .int (.op .add (.op .mul (.ix (.var 0) (.con (.int (1)))) (.con (.int (35221)))) (.con (.int (10771))))) (.con (.int (2147380841)))),
    .set (.nm 3) (.op .mod (.bi .int (.op .mul (.ix (.var 0) (.con (.int (1)))) (.op .add (.ix (.var 0) (.con (.int (1)))) (.con (.int (1543)))))) (.con (.int (2147483059)))),
    .ret (.op .mod (.bi .int (.op .fdiv (.var 3) (.con (.int (2767))))) (.var 1))] }⟩
/-- _law_some(cup, things) -/
def d__law_some : DefR := ⟨"_law_some", st 25, ["cup", "things"], ["cup", "things"], { fr := false, np := 2, ns := 2, body := [
    .ret (.ix (.var 1) (.call 13 [(.var 0), (.bi .len (.var 1))]))] }⟩
/-- _law_same(told, due, at) -/
def d__law_same : DefR := ⟨"_law_same", st 26, ["told", "due", "at"], ["told", "due"], { fr := false, np := 2, ns := 3, body := [
    .ifs (.isi (.var 1) .tuple) [
      .ifs (.or (.not (.isi (.var 0) .tuple)) (.cmp .ne (.bi .len (.var 0)) (.bi .len (.var 1)))) [
        .ret (.con (.bl false))] [],
      .ret (.bi .all (.lc (.call 15 [(.ix (.var 0) (.var 2)), (.ix (.var 1) (.var 2))]) (.nm 2) (.rng [(.bi .len (.var 1))]) (.con (.bl true)) [2]))] [],
    .ifs (.cmp .is (.var 1) (.con (.non))) [
      .ret (.cmp .is (.var 0) (.con (.non)))] [],
    .ifs (.isi (.var 1) .bool) [
      .ret (.ifx (.var 1) (.cmp .is (.var 0) (.con (.bl true))) (.cmp .is (.var 0) (.con (.bl false))))] [],
    .ifs (.isi (.var 1) .int) [
      .ret (.and (.isi (.var 0) .int) (.and (.not (.isi (.var 0) .bool)) (.cmp .eq (.bi .int (.var 0)) (.var 1))))] [],
    .ret (.and (.isi (.var 0) .str) (.cmp .eq (.bi .str (.var 0)) (.var 1)))] }⟩
/-- _law_word(cup, size, many, turn) -/
def d__law_word : DefR := ⟨"_law_word", st 27, ["cup", "size", "many", "turn"], ["cup", "size", "many"], { fr := false, np := 3, ns := 4, body := [
    .ret (.me .join (.con (.str [])) (.lc (.call 14 [(.var 0), (.bi .list (.sl (.con (.str [97, 98, 99, 100])) (.con .non) (.asInt (.var 1))))]) (.nm 3) (.rng [(.call 13 [(.var 0), (.op .add (.var 2) (.con (.int (1))))])]) (.con (.bl true)) [3]))] }⟩
def s_0 : Sm := .set (.nm 2) (.bi .tuple (.lc (.call 6 [(.var 3)]) (.nm 3) (.tup [(.con (.str [97, 98, 97, 97, 98])), (.con (.str [97, 97, 97, 97])), (.con (.str [97, 98])), (.con (.str [])), (.con (.str [97, 98, 97, 99, 97, 98, 97])), (.con (.str [97, 98, 97, 98]))]) (.con (.bl true)) [3]))
def s_1 : Sm := .ifs (.not (.call 15 [(.var 2), (.tup [(.tup [(.con (.int (2)))]), (.tup [(.con (.int (1))), (.con (.int (2))), (.con (.int (3)))]), (.tup []), (.tup []), (.tup [(.con (.int (1))), (.con (.int (3)))]), (.tup [(.con (.int (2)))])])])) [
      .ret (.con (.bl false))] []
def s_2 : Sm := .set (.nm 2) (.bi .tuple (.lc (.call 7 [(.var 3)]) (.nm 3) (.tup [(.con (.str [97, 98, 97, 97, 98])), (.con (.str [97, 97, 97, 97])), (.con (.str [97, 98])), (.con (.str [97, 98, 97, 99, 97, 98, 97]))]) (.con (.bl true)) [3]))
def s_3 : Sm := .ifs (.not (.call 15 [(.var 2), (.tup [(.tup [(.con (.int (3)))]), (.tup [(.con (.int (1))), (.con (.int (2))), (.con (.int (3)))]), (.tup []), (.tup [(.con (.int (4))), (.con (.int (6)))])])])) [
      .ret (.con (.bl false))] []
def s_4 : Sm := .ifs (.cmp .ne (.lc (.call 8 [(.var 3)]) (.nm 3) (.tup [(.con (.str [97, 98, 97, 98])), (.con (.str [97, 98, 97])), (.con (.str [97])), (.con (.str [97, 97, 97])), (.con (.str [])), (.con (.str [97, 98, 97, 97, 98, 97]))]) (.con (.bl true)) [3]) (.lst [(.con (.bl true)), (.con (.bl false)), (.con (.bl false)), (.con (.bl true)), (.con (.bl false)), (.con (.bl true))])) [
      .ret (.con (.bl false))] []
def s_5 : Sm := .set (.nm 2) (.op .add (.bi .tuple (.lc (.call 9 [(.con (.int (2))), (.tup [(.var 4), (.con (.str []))])]) (.nm 4) (.tup [(.con (.str [97, 98, 97])), (.con (.str [97, 97, 97])), (.con (.str [97, 98]))]) (.con (.bl true)) [4])) (.tup [(.call 11 [(.con (.str [97, 98, 97, 98, 97, 98]))]), (.call 11 [(.con (.str [97, 97, 98]))])]))
def s_6 : Sm := .ifs (.not (.call 15 [(.var 2), (.tup [(.tup [(.con (.str [97, 98, 97, 98, 97]))]), (.tup [(.con (.str [97, 97, 97, 97])), (.con (.str [97, 97, 97, 97, 97]))]), (.tup []), (.con (.str [97, 98, 97, 98])), (.con (.str []))])])) [
      .ret (.con (.bl false))] []
def s_7 : Sm := .ifs (.cmp .ne (.lc (.call 10 [(.con (.int (2))), (.tup [(.var 4), (.con (.str []))])]) (.nm 4) (.tup [(.con (.str [97, 97, 98])), (.con (.str [97, 98, 97])), (.con (.str [97])), (.con (.str [98, 98]))]) (.con (.bl true)) [4]) (.lst [(.con (.bl true)), (.con (.bl false)), (.con (.bl true)), (.con (.bl false))])) [
      .ret (.con (.bl false))] []
def s_8_0 : Sm := .set (.nm 6) (.call 16 [(.var 1), (.op .add (.con (.int (1))) (.call 13 [(.var 1), (.con (.int (3)))])), (.con (.int (4)))])
def s_8_1 : Sm := .set (.nm 3) (.call 14 [(.var 1), (.lst [(.var 6), (.op .mul (.var 6) (.con (.int (2)))), (.op .add (.op .add (.var 6) (.call 16 [(.var 1), (.con (.int (2))), (.con (.int (3)))])) (.var 6)), (.call 16 [(.var 1), (.con (.int (2))), (.con (.int (12)))])])])
def s_8_2 : Sm := .set (.nm 7) (.lc (.var 8) (.nm 8) (.rng [(.con (.int (1))), (.bi .len (.var 3))]) (.cmp .eq (.bi .list (.sl (.var 3) (.con .non) (.asInt (.var 8)))) (.bi .list (.sl (.var 3) (.asInt (.op .sub (.bi .len (.var 3)) (.var 8))) (.con .non)))) [8])
def s_8_3 : Sm := .ifs (.not (.call 15 [(.tup [(.call 6 [(.var 3)]), (.call 7 [(.var 3)])]), (.tup [(.bi .tuple (.var 7)), (.bi .tuple (.lc (.op .sub (.bi .len (.var 3)) (.var 8)) (.nm 8) (.rev (.var 7)) (.con (.bl true)) [8]))])])) [
      .ret (.con (.bl false))] []
def s_8_4_0 : Sm := .set (.nm 9) (.cmp .eq (.lc (.var 10) (.nm 10) (.rng [(.op .sub (.bi .len (.var 3)) (.var 8))]) (.cmp .ne (.ix (.var 3) (.var 10)) (.ix (.var 3) (.op .add (.var 10) (.var 8)))) [10]) (.lst []))
def s_8_4_1 : Sm := .ifs (.cmp .ne (.cmp .isin (.var 8) (.call 7 [(.var 3)])) (.var 9)) [
      .ret (.con (.bl false))] []
def s_8_4 : Sm := .fors (.nm 8) (.rng [(.con (.int (1))), (.bi .len (.var 3))]) [s_8_4_0, s_8_4_1]
def s_8_5 : Sm := .ifs (.not (.call 15 [(.call 8 [(.var 3)]), (.and (.cmp .gt (.bi .len (.var 3)) (.con (.int (0)))) (.cmp .isin (.var 3) (.sl (.op .add (.var 3) (.var 3)) (.asInt (.con (.int (1)))) (.asInt (.neg (.con (.int (1))))))))])) [
      .ret (.con (.bl false))] []
def s_8_6 : Sm := .set (.nm 4) (.sl (.var 3) (.con .non) (.asInt (.con (.int (6)))))
def s_8_7 : Sm := .ifs (.cmp .ne (.var 4) (.con (.str []))) [
      .set (.nm 11) (.tup [(.var 4), (.ifx (.cmp .ne (.var 4) (.con (.str [97]))) (.con (.str [97])) (.con (.str [])))]),
      .set (.nm 12) (.lc (.op .add (.var 4) (.sl (.var 4) (.asInt (.var 8)) (.con .non))) (.nm 8) (.rng [(.op .sub (.bi .len (.var 4)) (.con (.int (1)))), (.con (.int (0))), (.neg (.con (.int (1))))]) (.cmp .eq (.sl (.var 4) (.con .non) (.asInt (.var 8))) (.sl (.var 4) (.asInt (.op .sub (.bi .len (.var 4)) (.var 8))) (.con .non))) [8]),
      .ifs (.not (.call 15 [(.tup [(.call 9 [(.con (.int (4))), (.var 11)]), (.call 10 [(.con (.int (4))), (.var 11)])]), (.tup [(.bi .tuple (.var 12)), (.cmp .eq (.var 12) (.lst []))])])) [
        .ret (.con (.bl false))] [],
      .ifs (.not (.call 15 [(.call 11 [(.var 4)]), (.sl (.var 4) (.con .non) (.asInt (.bi .max (.op .add (.lst [(.con (.int (0)))]) (.lc (.var 8) (.nm 8) (.rng [(.con (.int (1))), (.bi .len (.var 4))]) (.me .endswith (.var 4) (.sl (.var 4) (.con .non) (.asInt (.var 8)))) [8])))))])) [
        .ret (.con (.bl false))] []] []
def s_8 : Sm := .fors (.nm 5) (.rng [(.con (.int (10)))]) [s_8_0, s_8_1, s_8_2, s_8_3, s_8_4, s_8_5, s_8_6, s_8_7]
def s_9 : Sm := .ret (.con (.bl true))
/-- law(script, cup, told, word, left, turn, part, due, many, good, at, rule, words) -/
def d_law : DefR := ⟨"law", st 28, ["script", "cup", "told", "word", "left", "turn", "part", "due", "many", "good", "at", "rule", "words"], ["script"], { fr := false, np := 1, ns := 13, body := [s_0, s_1, s_2, s_3, s_4, s_5, s_6, s_7, s_8, s_9] }⟩
def T : List DefR := [d_is_tuple_of, d_fits_whole, d_fits_letters, d_fits_rule, d_borders_in, d_need_rule, d_borders, d_periods, d_is_power, d_self_overlaps, d_are_words_apart, d_longest_border, d__law_cup, d__law_roll, d__law_some, d__law_same, d__law_word]
def exs : List (Str × Nat) := [("RestError", 0), ("InvalidSystem", 1), ("InvalidWord", 2), ("InvalidNumber", 3)]
def glo : List (Str × Dat) := [("LETTERS", .str [97, 98, 99, 100]), ("SIDE", .int (6)), ("LONG", .int (60))]
theorem ok_is_tuple_of : DefOk T exs glo d_is_tuple_of := ⟨rfl, rfl, ⟨rfl, rfl, rfl, by decide +kernel, rfl, by decide +kernel, by decide +kernel⟩, fun _ _ _ _ _ _ us hl => match us, hl with | [_, _, _], _ => rfl, semB_by (by kernel_rfl)⟩
theorem ok_fits_whole : DefOk T exs glo d_fits_whole := ⟨rfl, rfl, ⟨rfl, rfl, rfl, by decide +kernel, rfl, by decide +kernel, by decide +kernel⟩, fun _ _ _ _ _ _ us hl => match us, hl with | [_, _, _], _ => rfl, semB_by (by kernel_rfl)⟩
theorem ok_fits_letters : DefOk T exs glo d_fits_letters := ⟨rfl, rfl, ⟨rfl, rfl, rfl, by decide +kernel, rfl, by decide +kernel, by decide +kernel⟩, fun _ _ _ _ _ _ us hl => match us, hl with | [_, _, _, _], _ => rfl, semB_by (by kernel_rfl)⟩
theorem ok_fits_rule : DefOk T exs glo d_fits_rule := ⟨rfl, rfl, ⟨rfl, rfl, rfl, by decide +kernel, rfl, by decide +kernel, by decide +kernel⟩, fun _ _ _ _ _ _ us hl => match us, hl with | [_, _], _ => rfl, semB_by (by kernel_rfl)⟩
theorem ok_borders_in : DefOk T exs glo d_borders_in := ⟨rfl, rfl, ⟨rfl, rfl, rfl, by decide +kernel, rfl, by decide +kernel, by decide +kernel⟩, fun _ _ _ _ _ _ us hl => match us, hl with | [_], _ => rfl, semB_by (by kernel_rfl)⟩
theorem ok_need_rule : DefOk T exs glo d_need_rule := ⟨rfl, rfl, ⟨rfl, rfl, rfl, by decide +kernel, rfl, by decide +kernel, by decide +kernel⟩, fun _ _ _ _ _ _ us hl => match us, hl with | [_, _], _ => rfl, semB_by (by kernel_rfl)⟩
theorem ok_borders : DefOk T exs glo d_borders := ⟨rfl, rfl, ⟨rfl, rfl, rfl, by decide +kernel, rfl, by decide +kernel, by decide +kernel⟩, fun _ _ _ _ _ _ us hl => match us, hl with | [_], _ => rfl, semB_by (by kernel_rfl)⟩
theorem ok_periods : DefOk T exs glo d_periods := ⟨rfl, rfl, ⟨rfl, rfl, rfl, by decide +kernel, rfl, by decide +kernel, by decide +kernel⟩, fun _ _ _ _ _ _ us hl => match us, hl with | [_], _ => rfl, semB_by (by kernel_rfl)⟩
theorem ok_is_power : DefOk T exs glo d_is_power := ⟨rfl, rfl, ⟨rfl, rfl, rfl, by decide +kernel, rfl, by decide +kernel, by decide +kernel⟩, fun _ _ _ _ _ _ us hl => match us, hl with | [_], _ => rfl, semB_by (by kernel_rfl)⟩
theorem ok_self_overlaps : DefOk T exs glo d_self_overlaps := ⟨rfl, rfl, ⟨rfl, rfl, rfl, by decide +kernel, rfl, by decide +kernel, by decide +kernel⟩, fun _ _ _ _ _ _ us hl => match us, hl with | [_, _], _ => rfl, semB_by (by kernel_rfl)⟩
theorem ok_are_words_apart : DefOk T exs glo d_are_words_apart := ⟨rfl, rfl, ⟨rfl, rfl, rfl, by decide +kernel, rfl, by decide +kernel, by decide +kernel⟩, fun _ _ _ _ _ _ us hl => match us, hl with | [_, _], _ => rfl, semB_by (by kernel_rfl)⟩
theorem ok_longest_border : DefOk T exs glo d_longest_border := ⟨rfl, rfl, ⟨rfl, rfl, rfl, by decide +kernel, rfl, by decide +kernel, by decide +kernel⟩, fun _ _ _ _ _ _ us hl => match us, hl with | [_], _ => rfl, semB_by (by kernel_rfl)⟩
theorem ok__law_cup : DefOk T exs glo d__law_cup := ⟨rfl, rfl, ⟨rfl, rfl, rfl, by decide +kernel, rfl, by decide +kernel, by decide +kernel⟩, fun _ _ _ _ _ _ us hl => match us, hl with | [_], _ => rfl, semB_by (by kernel_rfl)⟩
theorem ok__law_roll : DefOk T exs glo d__law_roll := ⟨rfl, rfl, ⟨rfl, rfl, rfl, by decide +kernel, rfl, by decide +kernel, by decide +kernel⟩, fun _ _ _ _ _ _ us hl => match us, hl with | [_, _], _ => rfl, semB_by (by kernel_rfl)⟩
theorem ok__law_some : DefOk T exs glo d__law_some := ⟨rfl, rfl, ⟨rfl, rfl, rfl, by decide +kernel, rfl, by decide +kernel, by decide +kernel⟩, fun _ _ _ _ _ _ us hl => match us, hl with | [_, _], _ => rfl, semB_by (by kernel_rfl)⟩
theorem ok__law_same : DefOk T exs glo d__law_same := ⟨rfl, rfl, ⟨rfl, rfl, rfl, by decide +kernel, rfl, by decide +kernel, by decide +kernel⟩, fun _ _ _ _ _ _ us hl => match us, hl with | [_, _], _ => rfl, semB_by (by kernel_rfl)⟩
theorem ok__law_word : DefOk T exs glo d__law_word := ⟨rfl, rfl, ⟨rfl, rfl, rfl, by decide +kernel, rfl, by decide +kernel, by decide +kernel⟩, fun _ _ _ _ _ _ us hl => match us, hl with | [_, _, _], _ => rfl, semB_by (by kernel_rfl)⟩
def rest : List Stmt := (defBody d_law.st).drop 1
theorem law_ok (iL ic : Nat) (h : FirstSt T exs glo d_law iL ic rest) : LawOk T exs glo d_law iL ic rest := { toFirstSt := h, sc := ⟨rfl, rfl, rfl, by decide +kernel, rfl, by decide +kernel, by decide +kernel⟩, bind := fun _ _ _ _ _ _ us hl => match us, hl with | [_], _ => rfl, sem := semB_by (by kernel_rfl) }
theorem defs_ok : ∀ (i : Nat) (d : DefR), T[i]? = some d → DefOk T exs glo d
  | 0, _, h => (Option.some.inj h) ▸ ok_is_tuple_of
  | 1, _, h => (Option.some.inj h) ▸ ok_fits_whole
  | 2, _, h => (Option.some.inj h) ▸ ok_fits_letters
  | 3, _, h => (Option.some.inj h) ▸ ok_fits_rule
  | 4, _, h => (Option.some.inj h) ▸ ok_borders_in
  | 5, _, h => (Option.some.inj h) ▸ ok_need_rule
  | 6, _, h => (Option.some.inj h) ▸ ok_borders
  | 7, _, h => (Option.some.inj h) ▸ ok_periods
  | 8, _, h => (Option.some.inj h) ▸ ok_is_power
  | 9, _, h => (Option.some.inj h) ▸ ok_self_overlaps
  | 10, _, h => (Option.some.inj h) ▸ ok_are_words_apart
  | 11, _, h => (Option.some.inj h) ▸ ok_longest_border
  | 12, _, h => (Option.some.inj h) ▸ ok__law_cup
  | 13, _, h => (Option.some.inj h) ▸ ok__law_roll
  | 14, _, h => (Option.some.inj h) ▸ ok__law_some
  | 15, _, h => (Option.some.inj h) ▸ ok__law_same
  | 16, _, h => (Option.some.inj h) ▸ ok__law_word
  | _ + 17, _, h => nomatch h
theorem first : FirstSt T exs glo d_law 12 1 rest := ⟨⟨_, _, _, _, _, _, _, _, rfl, rfl, rfl, rfl, by decide +kernel, by decide +kernel, by decide +kernel, by decide +kernel, by decide +kernel, by decide +kernel⟩, rfl⟩
end K77
set_option Elab.async false
set_option linter.all false
set_option maxHeartbeats 1000000
/-! Words: what stands in its own square is a power. -/
namespace R
theorem infixB_iff {y : List Nat} : ∀ {l : List Nat}, infixB y l = true ↔ ∃ a b, l = a ++ (y ++ b)
  | [] => by
    unfold infixB
    constructor
    · intro h
      have : y = [] := List.isEmpty_iff.mp h
      subst this
      exact ⟨[], [], rfl⟩
    · rintro ⟨a, b, h⟩
      have h2 := List.append_eq_nil_iff.mp h.symm
      have h3 := List.append_eq_nil_iff.mp h2.2
      rw [h3.1]; rfl
  | c :: r => by
    unfold infixB
    rw [Bool.or_eq_true, infixB_iff]
    constructor
    · rintro (h | ⟨a, b, h⟩)
      · obtain ⟨b, hb⟩ := List.isPrefixOf_iff_prefix.mp h
        exact ⟨[], b, by simpa using hb.symm⟩
      · exact ⟨c :: a, b, by rw [h]; rfl⟩
    · rintro ⟨a, b, h⟩
      cases a with
      | nil => exact .inl (List.isPrefixOf_iff_prefix.mpr ⟨b, by simpa using h.symm⟩)
      | cons x a =>
        simp at h
        exact .inr ⟨a, b, by simpa using h.2⟩
theorem gcd_period {f : Nat → Nat} : ∀ (a b : Nat), (∀ j, f (j + a) = f j) → (∀ j, f (j + b) = f j) → ∀ j, f (j + Nat.gcd a b) = f j := by
  intro a
  induction a using Nat.strongRecOn with
  | ind a ih =>
    intro b ha hb j
    have hmul : ∀ q j, f (j + a * q) = f j := by
      intro q
      induction q with
      | zero => intro j; simp
      | succ q ih => intro j; rw [Nat.mul_succ, ← Nat.add_assoc, ha, ih]
    by_cases h0 : a = 0
    · subst h0
      rw [Nat.gcd_zero_left]
      exact hb j
    · rw [Nat.gcd_rec]
      refine ih (b % a) (Nat.mod_lt _ (by omega)) a (fun j => ?_) ha j
      have := hmul (b / a) (j + b % a)
      rw [← this, Nat.add_assoc, Nat.mod_add_div, hb]
theorem flat_rep_get {u : List Nat} : ∀ (q j : Nat), j < q * u.length → ((List.replicate q u).flatten)[j]? = u[j % u.length]?
  | 0, j, h => by simp at h
  | q + 1, j, h => by
    rw [List.replicate_succ, List.flatten_cons]
    by_cases hj : j < u.length
    · rw [List.getElem?_append_left hj, Nat.mod_eq_of_lt hj]
    · rw [List.getElem?_append_right (by omega), flat_rep_get q (j - u.length) (by rw [Nat.succ_mul] at h; omega)]
      rw [← Nat.mod_eq_sub_mod (by omega)]
theorem flat_rep_len2 {u : List Nat} : ∀ (q : Nat), ((List.replicate q u).flatten).length = q * u.length
  | 0 => by simp
  | q + 1 => by rw [List.replicate_succ, List.flatten_cons, List.length_append, flat_rep_len2 q, Nat.succ_mul]; omega
theorem rep_comm {u : List Nat} : ∀ q : Nat, u ++ (List.replicate q u).flatten = (List.replicate q u).flatten ++ u
  | 0 => by simp
  | q + 1 => by
    rw [List.replicate_succ, List.flatten_cons, rep_comm q]
    rw [← rep_comm q, List.append_assoc, ← rep_comm q]
/-- a power: as is_power looks -/
def isPow (w : List Nat) : Bool := ((List.range (w.length - 1)).filter fun k => w.length % (1 + k) == 0).any fun k => w == (List.replicate (w.length / (1 + k)) (w.take (1 + k))).flatten
theorem isPow_iff {w : List Nat} : isPow w = true ↔ ∃ k, k < w.length - 1 ∧ w.length % (1 + k) = 0 ∧ w = (List.replicate (w.length / (1 + k)) (w.take (1 + k))).flatten := by
  unfold isPow
  rw [List.any_eq_true]
  constructor
  · rintro ⟨k, hk, h⟩
    obtain ⟨h1, h2⟩ := List.mem_filter.mp hk
    exact ⟨k, List.mem_range.mp h1, eq_of_beq h2, eq_of_beq h⟩
  · rintro ⟨k, h1, h2, h3⟩
    exact ⟨k, List.mem_filter.mpr ⟨List.mem_range.mpr h1, by rw [h2]; rfl⟩, by rw [← h3]; exact beq_self_eq_true w⟩
/-- within its own square, but not at the ends -/
theorem pow_square {w : List Nat} : isPow w = (decide (0 < w.length) && infixB w (((w ++ w).drop 1).take ((w ++ w).length - 1 - 1))) := by
  rw [Bool.eq_iff_iff, isPow_iff, Bool.and_eq_true, decide_eq_true_eq, infixB_iff]
  constructor
  · rintro ⟨k, h1, h2, h3⟩
    refine ⟨by omega, ?_⟩
    have hd : (w.take (1 + k)).length = 1 + k := by rw [List.length_take]; omega
    generalize hu : w.take (1 + k) = u at *
    have hq : 2 ≤ w.length / (1 + k) := by
      have := Nat.div_add_mod w.length (1 + k)
      rw [h2] at this
      by_cases hc : w.length / (1 + k) ≤ 1
      · have : (1 + k) * (w.length / (1 + k)) ≤ (1 + k) * 1 := Nat.mul_le_mul_left _ hc
        omega
      · omega
    obtain ⟨q, hq⟩ : ∃ q, w.length / (1 + k) = q + 1 + 1 := ⟨w.length / (1 + k) - 2, by omega⟩
    rw [hq] at h3
    have e1 : w = u ++ (List.replicate (q + 1) u).flatten := by
      rw [List.replicate_succ, List.flatten_cons] at h3; exact h3
    have e2 : w = (List.replicate (q + 1) u).flatten ++ u := by rw [← rep_comm]; exact e1
    obtain ⟨v, hv⟩ : ∃ v, (List.replicate (q + 1) u).flatten = v := ⟨_, rfl⟩
    rw [hv] at e1 e2
    have hvl : 0 < v.length := by
      rw [← hv, flat_rep_len2, hd]
      exact Nat.mul_pos (by omega) (by omega)
    have hww : w ++ w = u ++ (w ++ v) := by
      conv => lhs; lhs; rw [e1]
      conv => lhs; rhs; rw [e1]
      conv => rhs; rhs; rw [e2]
      simp
    refine ⟨u.drop 1, v.take (v.length - 1), ?_⟩
    rw [hww]
    rw [List.drop_append_of_le_length (by omega)]
    rw [List.take_append, List.take_append]
    simp only [List.length_append, List.length_drop, hd]
    rw [List.take_of_length_le (by rw [List.length_drop]; omega), List.take_of_length_le (by omega)]
    congr 3
    omega
  · rintro ⟨hn, a, b, h⟩
    have hlen := congrArg List.length h
    simp only [List.length_take, List.length_drop, List.length_append] at hlen
    -- where it stands
    have hi : a.length + 1 < w.length := by omega
    have hw : ∀ j, j < w.length → (w ++ w)[a.length + 1 + j]? = w[j]? := by
      intro j hj
      have e : (((w ++ w).drop 1).take ((w ++ w).length - 1 - 1))[a.length + j]? = w[j]? := by
        rw [h, List.getElem?_append_right (by omega), Nat.add_sub_cancel_left, List.getElem?_append_left hj]
      rw [List.getElem?_take, if_pos (by rw [List.length_append]; omega), List.getElem?_drop] at e
      rw [← e]
      congr 1
      omega
    let f : Nat → Nat := fun j => w.getD (j % w.length) 0
    have hf : ∀ j, w[j % w.length]? = some (f j) := fun j => by
      have : j % w.length < w.length := Nat.mod_lt _ hn
      show _ = some (w.getD (j % w.length) 0)
      rw [List.getD_eq_getElem?_getD, List.getElem?_eq_getElem this]; rfl
    have p1 : ∀ j, f (j + w.length) = f j := fun j => by
      show w.getD ((j + w.length) % w.length) 0 = w.getD (j % w.length) 0
      rw [Nat.add_mod_right]
    have p2 : ∀ j, f (j + (a.length + 1)) = f j := fun j => by
      have hj : j % w.length < w.length := Nat.mod_lt _ hn
      have e := hw (j % w.length) hj
      have e2 : (w ++ w)[a.length + 1 + j % w.length]? = w[(j + (a.length + 1)) % w.length]? := by
        have em : (j + (a.length + 1)) % w.length = (a.length + 1 + j % w.length) % w.length := by
          rw [Nat.add_comm j, Nat.add_mod, Nat.add_mod (a.length + 1) (j % w.length), Nat.mod_mod]
        rw [em]
        have hj := hj
        generalize j % w.length = jm at *
        by_cases hc : a.length + 1 + jm < w.length
        · rw [List.getElem?_append_left hc, Nat.mod_eq_of_lt hc]
        · have hm : (a.length + 1 + jm) % w.length = a.length + 1 + jm - w.length := by
            rw [Nat.mod_eq_sub_mod (by omega), Nat.mod_eq_of_lt (by omega)]
          rw [List.getElem?_append_right (by omega), hm]
      rw [e2, hf, hf] at e
      exact Option.some.inj e
    have p3 := gcd_period (f := f) (a.length + 1) w.length p2 p1
    generalize hd : Nat.gcd (a.length + 1) w.length = d at *
    have d1 : d ∣ w.length := hd ▸ Nat.gcd_dvd_right _ _
    have d2 : d ≤ a.length + 1 := hd ▸ Nat.le_of_dvd (by omega) (Nat.gcd_dvd_left _ _)
    have d0 : 0 < d := hd ▸ Nat.gcd_pos_of_pos_right _ hn
    refine ⟨d - 1, by omega, ?_, ?_⟩
    · rw [show 1 + (d - 1) = d by omega]
      exact Nat.mod_eq_zero_of_dvd d1
    · rw [show 1 + (d - 1) = d by omega]
      have hul : (w.take d).length = d := by rw [List.length_take]; omega
      have hmul : w.length / d * d = w.length := Nat.div_mul_cancel d1
      apply List.ext_getElem?
      intro j
      by_cases hj : j < w.length
      · rw [flat_rep_get _ _ (by rw [hul, hmul]; exact hj), hul, List.getElem?_take, if_pos (Nat.mod_lt _ d0)]
        have hm : ∀ q j, f (j + d * q) = f j := by
          intro q
          induction q with
          | zero => intro j; simp
          | succ q ih => intro j; rw [Nat.mul_succ, ← Nat.add_assoc, p3, ih]
        have e1 := hf j
        have e2 := hf (j % d)
        rw [Nat.mod_eq_of_lt hj] at e1
        have hjd : j % d < d := Nat.mod_lt _ d0
        rw [Nat.mod_eq_of_lt (by omega)] at e2
        rw [e1, e2, ← hm (j / d) (j % d), Nat.mod_add_div]
      · rw [List.getElem?_eq_none (by omega), List.getElem?_eq_none (by rw [flat_rep_len2, hul, hmul]; omega)]
end R
set_option Elab.async false
set_option linter.all false
set_option maxRecDepth 100000
set_option maxHeartbeats 4000000
namespace K77
open R
abbrev P : Pg := T.map (·.df)
def Wd (w : List Nat) : Prop := ∀ c ∈ w, c = 97 ∨ c = 98 ∨ c = 99 ∨ c = 100
theorem in_letters {c : Nat} (h : c = 97 ∨ c = 98 ∨ c = 99 ∨ c = 100) : cpD .isin (.str [c]) (.str [97, 98, 99, 100]) = some true := by
  rcases h with rfl | rfl | rfl | rfl <;> rfl
theorem fits_call {k : Nat} {g : List Dat} {w : List Nat} {lo hi : Int} (hw : Wd w) (h1 : lo ≤ w.length) (h2 : w.length ≤ hi) : callK P (k + 1) 2 [.str w, .int 4, .int lo, .int hi] g = .ok (.bl true) g := by
  rw [callK_eq (f := d_fits_letters.df) rfl rfl]
  have hlc : lcGo (lcStep (callK P k) (.cmp .isin (.var 4) (.sl (.con (.str [97, 98, 99, 100])) (.con .non) (.asInt (.var 1)))) (.nm 4) (.con (.bl true)) [some (.str w), some (.int 4), some (.int lo), some (.int hi), none]) [] (w.map fun c => .str [c]) g = .ok (w.map fun _ => .bl true) g := by
    rw [lc_map (p := fun _ => true) (e := fun _ => .bl true)]
    · rw [List.filter_eq_self.mpr (by simp)]; rfl
    · intro c hc
      rw [lcStep_nm]
      have := cut_to [97, 98, 99, 100] 4
      simp at this
      simp [this, in_letters (hw c hc)]
  have ha : biD .all (.lst (w.map fun _ => Dat.bl true)) = some (.bl true) := by
    rw [all_map (fun _ => true)]
    simp
  simp [d_fits_letters, isiD, den_lc2, hlc, ha, h1, h2]
/-- the lengths of the borders -/
def bp (w : List Nat) (k : Nat) : Bool := w.take (1 + k) == w.drop (w.length - (1 + k))
def bl (w : List Nat) : List Nat := (List.range (w.length - 1)).filter (bp w)
theorem borders_in_call {k : Nat} {g : List Dat} {w : List Nat} (h : w.length ≤ 60) : callK P (k + 1) 4 [.str w] g = .ok (.lst ((bl w).map fun (k : Nat) => Dat.int (1 + (k : Int)))) g := by
  rw [callK_eq (f := d_borders_in.df) rfl rfl]
  have hr : rngD [.int 1, .int (w.length : Int)] = some (ilist 1 (w.length - 1)) := by
    rw [rng2 (by omega) (by omega) (by omega) (by omega) (by omega)]
    congr 2; omega
  have hlc : lcGo (lcStep (callK P k) (.var 1) (.nm 1) (.cmp .eq (.sl (.var 0) (.con .non) (.asInt (.var 1))) (.sl (.var 0) (.asInt (.neg (.var 1))) (.con .non))) [some (.str w), none]) [] (ilist 1 (w.length - 1)) g = .ok ((bl w).map fun (k : Nat) => Dat.int (1 + (k : Int))) g := by
    rw [lc_ilist (p := bp w) (e := fun (k : Nat) => Dat.int (1 + (k : Int)))]
    · rfl
    · intro j hj
      rw [lcStep_nm]
      have e1 := cut_to w (1 + j)
      have e2 := cut_fromNeg w (1 + j) (by omega)
      rw [Int.natCast_add] at e1 e2
      simp at e1 e2
      simp [e1, e2, bp]
      split <;> simp_all
  simp [d_borders_in, den_lc2, hr, hlc]

abbrev bI (k : Nat) : Dat := .int (1 + (k : Int))
theorem borders_call {k : Nat} {g : List Dat} {w : List Nat} (hw : Wd w) (h : w.length ≤ 60) : callK P (k + 2) 6 [.str w] g = .ok (.tup ((bl w).map bI)) g := by
  rw [callK_eq (f := d_borders.df) rfl rfl]
  have hf := fits_call (k := k) (g := g) hw (lo := 0) (hi := 60) (by omega) (by omega)
  have hb := borders_in_call (k := k) (g := g) h
  simp [d_borders, hf, hb]
def pl (w : List Nat) : List Dat := (bl w).reverse.map fun (k : Nat) => Dat.int ((w.length : Int) - (1 + (k : Int)))
theorem rev_lc {k : Nat} {g : List Dat} {F : Nat → List Dat → Mo Dat} {e : Ex} {i : Nat} {ρ : Sl} {l : List Nat} {f : Nat → Dat} (h : ∀ k : Nat, k ∈ l → den F e (ρ.set i (some (bI k))) g = .ok (f k) g) :
    lcGo (lcStep F e (.nm i) (.con (.bl true)) ρ) [] (l.map bI) g = .ok (l.map f) g := by
  rw [lc_map (p := fun _ => true) (e := f)]
  · rw [List.filter_eq_self.mpr (by simp)]; rfl
  · intro x hx
    rw [lcStep_nm]
    simp [h x hx]
theorem periods_call {k : Nat} {g : List Dat} {w : List Nat} (hw : Wd w) (h : w.length ≤ 60) : callK P (k + 2) 7 [.str w] g = .ok (.tup (pl w)) g := by
  rw [callK_eq (f := d_periods.df) rfl rfl]
  have hf := fits_call (k := k) (g := g) hw (lo := 0) (hi := 60) (by omega) (by omega)
  have hb := borders_in_call (k := k) (g := g) h
  have hlc : lcGo (lcStep (callK P (k + 1)) (.op .sub (.bi .len (.var 0)) (.var 1)) (.nm 1) (.con (.bl true)) [some (.str w), none]) [] ((bl w).reverse.map bI) g = .ok (pl w) g := by
    refine rev_lc (k := k) fun j hj => ?_
    simp
  have hr : ((bl w).map bI).reverse = (bl w).reverse.map bI := by rw [List.map_reverse]
  simp [d_periods, hf, hb, den_lc2, -List.map_reverse, ← List.map_reverse, hlc]

theorem is_power_call {k : Nat} {g : List Dat} {w : List Nat} (hw : Wd w) (h : w.length ≤ 60) : callK P (k + 2) 8 [.str w] g = .ok (.bl (isPow w)) g := by
  rw [callK_eq (f := d_is_power.df) rfl rfl]
  have hf := fits_call (k := k) (g := g) hw (lo := 0) (hi := 60) (by omega) (by omega)
  have hr : rngD [.int 1, .int (w.length : Int)] = some (ilist 1 (w.length - 1)) := by
    rw [rng2 (by omega) (by omega) (by omega) (by omega) (by omega)]
    congr 2; omega
  have hlc : lcGo (lcStep (callK P (k + 1)) (.cmp .eq (.var 0) (.op .mul (.sl (.var 0) (.con .non) (.asInt (.var 1))) (.op .fdiv (.bi .len (.var 0)) (.var 1)))) (.nm 1) (.cmp .eq (.op .mod (.bi .len (.var 0)) (.var 1)) (.con (.int (0)))) [some (.str w), none]) [] (ilist 1 (w.length - 1)) g
      = .ok (((List.range (w.length - 1)).filter fun k => w.length % (1 + k) == 0).map fun k => .bl (w == (List.replicate (w.length / (1 + k)) (w.take (1 + k))).flatten)) g := by
    rw [lc_ilist (p := fun k => w.length % (1 + k) == 0) (e := fun k => .bl (w == (List.replicate (w.length / (1 + k)) (w.take (1 + k))).flatten))]
    intro j hj
    rw [lcStep_nm]
    have e1 := cut_to w (1 + j)
    have em := opD_modI (i := w.length) (j := 1 + (j : Int)) (by omega)
    have ed := opD_fdivI (i := w.length) (j := 1 + (j : Int)) (by omega) (by omega)
    have hdl : w.length / (1 + j) ≤ w.length := Nat.div_le_self _ _
    have hml : (w.take (1 + j)).length * (w.length / (1 + j)) ≤ 16777216 := by
      have h1 : (w.take (1 + j)).length ≤ 60 := by rw [List.length_take]; omega
      exact Nat.le_trans (Nat.mul_le_mul h1 (Nat.le_trans hdl h)) (by decide)
    have es := opD_mulS (x := w.take (1 + j)) (n := w.length / (1 + j)) hml (by omega)
    have hc1 : (w.length : Int) / (1 + (j : Int)) = ((w.length / (1 + j) : Nat) : Int) := by
      rw [Int.natCast_ediv, Int.natCast_add]; rfl
    have hc2 : (w.length : Int) % (1 + (j : Int)) = ((w.length % (1 + j) : Nat) : Int) := by
      rw [Int.natCast_emod, Int.natCast_add]; rfl
    rw [hc1] at ed
    rw [hc2] at em
    rw [Int.natCast_add] at e1
    simp only [Int.natCast_one] at e1
    clear hc1 hc2 hml hdl
    generalize w.length / (1 + j) = q at *
    generalize w.length % (1 + j) = r at *
    by_cases hz : r = 0
    · subst hz
      simp [em, ed, e1, es]
    · have hz2 : ¬ (r : Int) = 0 := by omega
      simp only [den_cmp, den_op, den_bi, den_var, den_con, List.set_cons_succ, List.set_cons_zero, List.getD_cons_succ, List.getD_cons_zero, ofO_some, bind_ok, biD_lenS, em, cpD_eqI, Option.map_some, asB_bl, hz2, decide_false, Bool.false_eq_true, if_false]
      simp [hz]
  simp [d_is_power, hf, den_lc2, hr, hlc, any_map, isPow]

def goodRule (l y : List Nat) : Prop := Wd l ∧ Wd y ∧ 1 ≤ l.length ∧ l.length ≤ 6 ∧ y.length ≤ 6 ∧ l ≠ y
theorem need_rule_call {k : Nat} {g : List Dat} {l y : List Nat} (h : goodRule l y) : callK P (k + 3) 5 [.int 4, .tup [.str l, .str y]] g = .ok .non g := by
  obtain ⟨h1, h2, h3, h4, h5, h6⟩ := h
  rw [callK_eq (f := d_need_rule.df) rfl rfl]
  have f1 := fits_call (k := k) (g := g) h1 (lo := 1) (hi := 6) (by omega) (by omega)
  have f2 := fits_call (k := k) (g := g) h2 (lo := 0) (hi := 6) (by omega) (by omega)
  have e1 : callK P (k + 2) 1 [.int 4, .int 1, .int 4] g = .ok (.bl true) g := by
    rw [callK_eq (f := d_fits_whole.df) rfl rfl]
    simp [d_fits_whole, isiD]
  have e0 : callK P (k + 1) 0 [.tup [.str l, .str y], .int 2, .int 2] g = .ok (.bl true) g := by
    rw [callK_eq (f := d_is_tuple_of.df) rfl rfl]
    simp [d_is_tuple_of, isiD]
  have e2 : callK P (k + 2) 3 [.int 4, .tup [.str l, .str y]] g = .ok (.bl true) g := by
    rw [callK_eq (f := d_fits_rule.df) rfl rfl]
    simp [d_fits_rule, e0, f1, f2, h6]
  simp [d_need_rule, e1, e2]
theorem self_overlaps_call {k : Nat} {g : List Dat} {l y : List Nat} (h : goodRule l y) : callK P (k + 4) 9 [.int 4, .tup [.str l, .str y]] g = .ok (.tup ((bl l).reverse.map fun k => .str (l ++ l.drop (1 + k)))) g := by
  rw [callK_eq (f := d_self_overlaps.df) rfl rfl]
  have hn := need_rule_call (k := k) (g := g) h
  obtain ⟨h1, h2, h3, h4, h5, h6⟩ := h
  have hb := borders_in_call (k := k + 2) (g := g) (w := l) (by omega)
  have hlc : lcGo (lcStep (callK P (k + 3)) (.op .add (.var 2) (.sl (.var 2) (.asInt (.var 3)) (.con .non))) (.nm 3) (.con (.bl true)) [some (.int 4), some (.tup [.str l, .str y]), some (.str l), none]) [] ((bl l).reverse.map bI) g
      = .ok ((bl l).reverse.map fun k => .str (l ++ l.drop (1 + k))) g := by
    refine rev_lc (k := k) fun j hj => ?_
    have e1 := cut_from l (1 + j)
    rw [Int.natCast_add] at e1
    simp only [Int.natCast_one] at e1
    have e2 := opD_addS (x := l) (y := l.drop (1 + j)) (by rw [List.length_drop]; omega)
    simp [e1, e2]
  simp [d_self_overlaps, hn, hb, den_lc2, -List.map_reverse, ← List.map_reverse, hlc]
theorem are_words_apart_call {k : Nat} {g : List Dat} {l y : List Nat} (h : goodRule l y) : callK P (k + 4) 10 [.int 4, .tup [.str l, .str y]] g = .ok (.bl (bl l).isEmpty) g := by
  rw [callK_eq (f := d_are_words_apart.df) rfl rfl]
  have hn := need_rule_call (k := k) (g := g) h
  obtain ⟨h1, h2, h3, h4, h5, h6⟩ := h
  have hb := borders_in_call (k := k + 2) (g := g) (w := l) (by omega)
  have he := cpD_eqNil (okB_map_int (fun k : Nat => 1 + (k : Int)) (bl l) 63)
  simp [d_are_words_apart, hn, hb, he]
def lb (w : List Nat) : List Nat := match (bl w).getLast? with
  | none => []
  | some k => w.take (1 + k)
theorem longest_border_call {k : Nat} {g : List Dat} {w : List Nat} (hw : Wd w) (h : w.length ≤ 6) : callK P (k + 2) 11 [.str w] g = .ok (.str (lb w)) g := by
  rw [callK_eq (f := d_longest_border.df) rfl rfl]
  have hf := fits_call (k := k) (g := g) hw (lo := 0) (hi := 6) (by omega) (by omega)
  have hb := borders_in_call (k := k) (g := g) (w := w) (by omega)
  have he := cpD_neNil (okB_map_int (fun k : Nat => 1 + (k : Int)) (bl w) 63)
  cases hl : (bl w).getLast? with
  | none =>
    have hn : bl w = [] := List.getLast?_eq_none_iff.mp hl
    rw [hn] at hb he
    simp at hb he
    simp [d_longest_border, hf, hb, he, lb, hl]
  | some j =>
    have hn : (bl w).isEmpty = false := by
      cases hq : bl w with
      | nil => rw [hq] at hl; simp at hl
      | cons a b => rfl
    have e1 := cut_to w (1 + j)
    rw [Int.natCast_add] at e1
    simp only [Int.natCast_one] at e1
    have hat : atD ((bl w).map fun (k : Nat) => Dat.int (1 + (k : Int))) (-1) = some (.int (1 + (j : Int))) := by
      rw [atD_last, List.getLast?_map, hl]; rfl
    simp only [List.isEmpty_map, hn] at he
    simp [d_longest_border, hf, hb, he, lb, hl, hat, e1]

theorem hroll : P[13]? = some (rollDf 35221 10771 2147380841 1543 2147483059 2767) := rfl
theorem hsome : P[14]? = some (someDf 13) := rfl
theorem hsame : P[15]? = some (sameDf 15) := rfl
theorem roll {k : Nat} {g : List Dat} {many : Int} (hm : 0 < many) (hm2 : many < 1073741824) (hg : Gd g) : (callK P (k + 1) 13 [.cup, .int many] g).sat fun d g' => Gd g' ∧ ∃ r : Int, d = .int r ∧ 0 ≤ r ∧ r < many :=
  roll_call hroll (by decide) (by decide) (by decide) (by decide) hm hm2 hg
theorem someL {k : Nat} {g xs : List Dat} (hx : xs ≠ []) (hl : xs.length < 1073741824) (hg : Gd g) : (callK P (k + 2) 14 [.cup, .lst xs] g).sat fun d g' => Gd g' ∧ d ∈ xs :=
  (some_call hsome hroll (by decide) (by decide) (by decide) (by decide) hx hl hg).1
theorem word_call {k : Nat} {g : List Dat} {size many : Nat} (h1 : 1 ≤ size) (h2 : size ≤ 4) (h3 : many ≤ 1000) (hg : Gd g) :
    (callK P (k + 3) 16 [.cup, .int size, .int many] g).sat fun d g' => Gd g' ∧ ∃ w, d = .str w ∧ Wd w ∧ w.length ≤ many := by
  rw [callK_eq (f := d__law_word.df) rfl rfl]
  simp only [d__law_word, List.map_cons, List.map_nil, runs_cons, run_ret, den_me, den_con, bind_ok, strK_str, den_lc2, den_rng, denL_cons, denL_nil, den_call, den_var, den_op, sat_bind]
  simp
  refine (roll (many := (many : Int) + 1) (by omega) (by omega) hg).mono fun d g1 ⟨hg1, r, e, hr1, hr2⟩ => ?_
  subst e
  rw [rng1 (by omega) (by omega)]
  simp
  refine (lc_draw (Q := fun y => ∃ c : Nat, y = .str [c] ∧ (c = 97 ∨ c = 98 ∨ c = 99 ∨ c = 100)) hg1 fun d hd g hg => ?_).mono fun ys g2 ⟨hg2, hl, hy⟩ => ?_
  · rw [lcStep_nm]
    have e1 := cut_to [97, 98, 99, 100] size
    simp [e1, sat_bind]
    refine (someL (k := k) (xs := List.take size [.str [97], .str [98], .str [99], .str [100]]) ?_ ?_ hg).mono fun y g3 ⟨hg3, hy⟩ => ?_
    · intro z
      have := congrArg List.length z
      simp at this
      omega
    · simp; omega
    · refine ⟨hg3, ?_⟩
      have hy2 := List.mem_of_mem_take hy
      simp at hy2
      rcases hy2 with rfl | rfl | rfl | rfl
      · exact ⟨97, rfl, .inl rfl⟩
      · exact ⟨98, rfl, .inr (.inl rfl)⟩
      · exact ⟨99, rfl, .inr (.inr (.inl rfl))⟩
      · exact ⟨100, rfl, .inr (.inr (.inr rfl))⟩
  · obtain ⟨cs, rfl, hcs⟩ := signs_of hy
    have hlen : cs.length = r.toNat := by simpa [ilist] using hl
    rw [join_signs (by omega)]
    simp
    exact ⟨hg2, hcs, by omega⟩

theorem bp_iff {w : List Nat} {m : Nat} (h : m < w.length) : (w.take m == w.drop (w.length - m)) = true ↔ ∀ i, i < m → w[i]? = w[i + (w.length - m)]? := by
  rw [beq_iff_eq]
  constructor
  · intro e i hi
    have := congrArg (fun l => l[i]?) e
    simp only [List.getElem?_take, List.getElem?_drop, if_pos hi] at this
    rw [this, Nat.add_comm]
  · intro e
    apply List.ext_getElem?
    intro i
    rw [List.getElem?_take, List.getElem?_drop]
    by_cases hi : i < m
    · rw [if_pos hi, e i hi, Nat.add_comm]
    · rw [if_neg hi, List.getElem?_eq_none (by omega)]
theorem per_good {w : List Nat} {k : Nat} {f : Nat → Dat} (h : k < w.length - 1) : ((pl w).any fun z => eqB z (.int (1 + (k : Int)))) = (((List.range (w.length - (1 + k))).filter fun i => !(w[i]? == w[i + (1 + k)]?)).map f).isEmpty := by
  rw [Bool.eq_iff_iff, List.any_eq_true]
  have hb := bp_iff (w := w) (m := w.length - (1 + k)) (by omega)
  rw [show w.length - (w.length - (1 + k)) = 1 + k by omega] at hb
  constructor
  · rintro ⟨z, hz, he⟩
    obtain ⟨j, hj, rfl⟩ := List.mem_map.mp hz
    have hj2 := List.mem_filter.mp (List.mem_reverse.mp hj)
    have hj1 := List.mem_range.mp hj2.1
    have e : (w.length : Int) - (1 + (j : Int)) = 1 + (k : Int) := by simpa [eqB] using he
    have hjk : 1 + j = w.length - (1 + k) := by omega
    have hbp := hj2.2
    unfold bp at hbp
    rw [hjk, show w.length - (w.length - (1 + k)) = 1 + k by omega] at hbp
    rw [List.isEmpty_map, List.isEmpty_iff, List.filter_eq_nil_iff]
    intro i hi
    rw [hb.mp hbp i (List.mem_range.mp hi)]
    simp
  · intro he
    rw [List.isEmpty_map, List.isEmpty_iff, List.filter_eq_nil_iff] at he
    refine ⟨.int ((w.length : Int) - (1 + ((w.length - (1 + k) - 1 : Nat) : Int))), List.mem_map.mpr ⟨w.length - (1 + k) - 1, List.mem_reverse.mpr (List.mem_filter.mpr ⟨List.mem_range.mpr (by omega), ?_⟩), rfl⟩, ?_⟩
    · unfold bp
      rw [show 1 + (w.length - (1 + k) - 1) = w.length - (1 + k) by omega, show w.length - (w.length - (1 + k)) = 1 + k by omega]
      refine hb.mpr fun i hi => ?_
      have := he i (List.mem_range.mpr hi)
      simpa using this
    · simp only [eqB, beq_iff_eq]
      omega
theorem okB_pl (w : List Nat) : okAllB (pl w) 63 = true := okB_map_int (fun k : Nat => (w.length : Int) - (1 + (k : Int))) _ _
theorem in_pl {w : List Nat} {k : Nat} : cpD .isin (.int (1 + (k : Int))) (.tup (pl w)) = some ((pl w).any fun z => eqB z (.int (1 + (k : Int)))) := by
  simp [cpD, inD, okB, okB_pl]
end K77
set_option Elab.async false
set_option linter.all false
set_option maxRecDepth 100000
set_option maxHeartbeats 4000000
namespace K77
open R
abbrev F := callK P 20
section
variable {a2 a3 a4 a5 a6 a7 a8 a9 a10 a11 a12 : Option Dat} {g : List Dat}
/-- a word is drawn -/
theorem draw (hg : Gd g) : (runs F [s_8_0, s_8_1] [none, some .cup, a2, a3, a4, a5, a6, a7, a8, a9, a10, a11, a12] g).sat fun o g' => Gd g' ∧ ∃ (p w : List Nat), Wd w ∧ w.length ≤ 12 ∧ o = .nx [none, some .cup, a2, some (.str w), a4, a5, some (.str p), a7, a8, a9, a10, a11, a12] := by
  simp only [s_8_0, s_8_1, runs_cons, runs_nil]
  simp [sat_bind]
  refine (roll (k := 19) (many := 3) (by omega) (by omega) hg).mono fun d g1 ⟨hg1, r, e, hr1, hr2⟩ => ?_
  subst e
  simp [sat_bind]
  have e1 : (1 : Int) + r = ((1 + r.toNat : Nat) : Int) := by omega
  rw [e1]
  refine (word_call (k := 17) (size := 1 + r.toNat) (many := 4) (by omega) (by omega) (by omega) hg1).mono fun d g2 ⟨hg2, p, e, hp1, hp2⟩ => ?_
  subst e
  have m1 : opD .mul (.str p) (.int 2) = some (.str (List.replicate 2 p).flatten) := opD_mulS (n := 2) (by omega) (by omega)
  simp [sat_bind, m1]
  refine (word_call (k := 17) (size := 2) (many := 3) (by omega) (by omega) (by omega) hg2).mono fun d g3 ⟨hg3, q, e, hq1, hq2⟩ => ?_
  subst e
  rw [opD_addS (by omega)]
  simp [sat_bind]
  rw [opD_addS (by rw [List.length_append]; omega)]
  simp [sat_bind]
  refine (word_call (k := 17) (size := 2) (many := 12) (by omega) (by omega) (by omega) hg3).mono fun d g4 ⟨hg4, z, e, hz1, hz2⟩ => ?_
  subst e
  refine (someL (k := 18) (by simp) (by simp) hg4).mono fun d g5 ⟨hg5, hd⟩ => ?_
  have hpp : Wd (p ++ p) := fun c hc => by
    rcases List.mem_append.mp hc with h | h <;> exact hp1 c h
  have hpq : Wd (p ++ (q ++ p)) := fun c hc => by
    rcases List.mem_append.mp hc with h | h
    · exact hp1 c h
    · rcases List.mem_append.mp h with h | h
      · exact hq1 c h
      · exact hp1 c h
  simp at hd
  refine ⟨hg5, p, ?_⟩
  rcases hd with rfl | rfl | rfl | rfl
  · exact ⟨p, hp1, by omega, rfl, rfl⟩
  · exact ⟨p ++ p, hpp, by rw [List.length_append]; omega, rfl, rfl⟩
  · exact ⟨p ++ (q ++ p), hpq, by rw [List.length_append, List.length_append]; omega, rfl, rfl⟩
  · exact ⟨z, hz1, hz2, rfl, rfl⟩
variable {w : List Nat}
theorem rngW (h : w.length ≤ 60) : rngD [.int 1, .int (w.length : Int)] = some (ilist 1 (w.length - 1)) := by
  rw [rng2 (by omega) (by omega) (by omega) (by omega) (by omega)]
  congr 2; omega
theorem step2 (h : w.length ≤ 60) : run F s_8_2 [none, some .cup, a2, some (.str w), a4, a5, a6, a7, a8, a9, a10, a11, a12] g = .ok (.nx [none, some .cup, a2, some (.str w), a4, a5, a6, some (.lst ((bl w).map bI)), a8, a9, a10, a11, a12]) g := by
  have hlc : lcGo (lcStep F (.var 8) (.nm 8) (.cmp .eq (.bi .list (.sl (.var 3) (.con .non) (.asInt (.var 8)))) (.bi .list (.sl (.var 3) (.asInt (.op .sub (.bi .len (.var 3)) (.var 8))) (.con .non)))) [none, some .cup, a2, some (.str w), a4, a5, a6, a7, none, a9, a10, a11, a12]) [] (ilist 1 (w.length - 1)) g = .ok ((bl w).map bI) g := by
    rw [lc_ilist (p := bp w) (e := bI)]
    · rfl
    · intro j hj
      rw [lcStep_nm]
      have e1 := cut_to w (1 + j)
      have e2 := cut_from w (w.length - (1 + j))
      rw [show ((w.length - (1 + j) : Nat) : Int) = (w.length : Int) - (1 + (j : Int)) by omega] at e2
      rw [Int.natCast_add] at e1
      simp only [Int.natCast_one] at e1
      have e3 := cpD_eqSigns (w.take (1 + j)) (w.drop (w.length - (1 + j)))
      simp only [List.map_take, List.map_drop] at e3
      simp [e1, e2, e3, bp]
      split <;> simp_all
  simp [s_8_2, den_lc2, rngW h, hlc]
theorem step3 (hw : Wd w) (h : w.length ≤ 12) : run F s_8_3 [none, some .cup, a2, some (.str w), a4, a5, a6, some (.lst ((bl w).map bI)), a8, a9, a10, a11, a12] g = .ok (.nx [none, some .cup, a2, some (.str w), a4, a5, a6, some (.lst ((bl w).map bI)), a8, a9, a10, a11, a12]) g := by
  have h1 : F 6 [.str w] g = .ok (.tup ((bl w).map bI)) g := borders_call (k := 18) hw (by omega)
  have h2 : F 7 [.str w] g = .ok (.tup (pl w)) g := periods_call (k := 18) hw (by omega)
  have hlen : (bl w).length ≤ 16777216 := by
    have := List.length_filter_le (bp w) (List.range (w.length - 1))
    rw [List.length_range] at this
    unfold bl
    omega
  have h3 : F 15 [.tup [.tup ((bl w).map bI), .tup (pl w)], .tup [.tup ((bl w).map bI), .tup (pl w)]] g = .ok (.bl true) g := by
    refine same_call hsame 2 17 _ g ?_
    have o1 : okS (.tup ((bl w).map bI)) 1 = true := okS_map hlen fun _ _ => rfl
    have o2 : okS (.tup (pl w)) 1 = true := okS_map (by rw [List.length_reverse]; exact hlen) fun _ _ => rfl
    simp [okS, okSL] at o1 o2 ⊢
    exact ⟨o1, o2⟩
  have hlc : lcGo (lcStep F (.op .sub (.bi .len (.var 3)) (.var 8)) (.nm 8) (.con (.bl true)) [none, some .cup, a2, some (.str w), a4, a5, a6, some (.lst ((bl w).map bI)), none, a9, a10, a11, a12]) [] ((bl w).reverse.map bI) g = .ok (pl w) g := by
    refine rev_lc (k := 0) fun j hj => ?_
    simp
  simp [s_8_3, h1, h2, den_lc2, -List.map_reverse, ← List.map_reverse, hlc, h3]
theorem step4 (hw : Wd w) (h : w.length ≤ 12) : ∃ b8 b9, run F s_8_4 [none, some .cup, a2, some (.str w), a4, a5, a6, a7, a8, a9, a10, a11, a12] g = .ok (.nx [none, some .cup, a2, some (.str w), a4, a5, a6, a7, b8, b9, a10, a11, a12]) g := by
  have key : (run F s_8_4 [none, some .cup, a2, some (.str w), a4, a5, a6, a7, a8, a9, a10, a11, a12] g).sat fun o g' => g' = g ∧ ∃ b8 b9, o = .nx [none, some .cup, a2, some (.str w), a4, a5, a6, a7, b8, b9, a10, a11, a12] := by
    simp [s_8_4, rngW (show w.length ≤ 60 by omega)]
    refine forGo_sat (I := fun ρ g' => g' = g ∧ ∃ b8 b9, ρ = [none, some .cup, a2, some (.str w), a4, a5, a6, a7, b8, b9, a10, a11, a12]) ⟨rfl, _, _, rfl⟩ ?_ ?_
    · rintro ρ g' ⟨rfl, b8, b9, rfl⟩
      exact ⟨rfl, b8, b9, rfl⟩
    · rintro d hd ρ g' ⟨rfl, b8, b9, rfl⟩
      obtain ⟨k, hk, rfl⟩ := mem_ilist.mp hd
      refine ⟨_, bindT_nm, ?_⟩
      have h2 : F 7 [.str w] g' = .ok (.tup (pl w)) g' := periods_call (k := 18) hw (by omega)
      have hr : rngD [.int ((w.length : Int) - (1 + (k : Int)))] = some (ilist 0 (w.length - (1 + k))) := by
        rw [rng1 (by omega) (by omega)]
        congr 2; omega
      have hlc : lcGo (lcStep F (.var 10) (.nm 10) (.cmp .ne (.ix (.var 3) (.var 10)) (.ix (.var 3) (.op .add (.var 10) (.var 8)))) [none, some .cup, a2, some (.str w), a4, a5, a6, a7, some (.int (1 + (k : Int))), b9, none, a11, a12]) [] (ilist 0 (w.length - (1 + k))) g'
          = .ok (((List.range (w.length - (1 + k))).filter fun i => !(w[i]? == w[i + (1 + k)]?)).map fun (i : Nat) => Dat.int (i : Int)) g' := by
        rw [lc_ilist (p := fun i => !(w[i]? == w[i + (1 + k)]?)) (e := fun (i : Nat) => Dat.int (i : Int))]
        intro i hi
        rw [lcStep_nm]
        have c1 : atD w (0 + (i : Int)) = some w[i] := by rw [atD_nat (by omega)]; simp [show i < w.length by omega]
        have c2 : atD w (0 + (i : Int) + (1 + (k : Int))) = some w[i + (1 + k)] := by
          rw [atD_nat (by omega), show (0 + (i : Int) + (1 + (k : Int))).toNat = i + (1 + k) by omega, List.getElem?_eq_getElem (by omega)]
        simp only [Int.zero_add] at c1 c2
        have c3 : w[i]? = some w[i] := List.getElem?_eq_getElem (by omega)
        have c4 : w[i + (1 + k)]? = some w[i + (1 + k)] := List.getElem?_eq_getElem (by omega)
        simp [c1, c2, c3, c4]
        split <;> simp_all
      have he := cpD_eqNil (okB_map_int (fun i : Nat => (i : Int)) ((List.range (w.length - (1 + k))).filter fun i => !(w[i]? == w[i + (1 + k)]?)) 63)
      have hg := per_good (w := w) (k := k) (f := fun (i : Nat) => Dat.int (i : Int)) (by omega)
      have hin := in_pl (w := w) (k := k)
      rw [hg] at hin
      generalize ((List.range (w.length - (1 + k))).filter fun i => !(w[i]? == w[i + (1 + k)]?)).map (fun (i : Nat) => Dat.int (i : Int)) = good at *
      simp [s_8_4_0, s_8_4_1, den_lc2, hr, hlc, he, h2, hin]
  obtain ⟨o, g', e, rfl, b8, b9, rfl⟩ := sat_elim key
  exact ⟨b8, b9, e⟩
theorem step5 (hw : Wd w) (h : w.length ≤ 12) : run F s_8_5 [none, some .cup, a2, some (.str w), a4, a5, a6, a7, a8, a9, a10, a11, a12] g = .ok (.nx [none, some .cup, a2, some (.str w), a4, a5, a6, a7, a8, a9, a10, a11, a12]) g := by
  have h1 : F 8 [.str w] g = .ok (.bl (isPow w)) g := is_power_call (k := 18) hw (by omega)
  have hs : F 15 [.bl (isPow w), .bl (isPow w)] g = .ok (.bl true) g := same_call hsame 0 19 _ g rfl
  have ha := opD_addS (x := w) (y := w) (by omega)
  have hc := cut_fromNegTo (w ++ w) 1 1 (by omega)
  simp only [Int.natCast_one] at hc
  have hp := pow_square (w := w)
  by_cases h0 : 0 < w.length
  · rw [Nat.min_eq_left (by rw [List.length_append]; omega)] at hc
    rw [decide_eq_true h0, Bool.true_and] at hp
    generalize (List.take ((w ++ w).length - 1 - 1) (List.drop 1 (w ++ w))) = X at hc hp
    rw [hp] at h1 hs
    simp [s_8_5, h1, ha, hc, h0, hs]
  · rw [decide_eq_false h0, Bool.false_and] at hp
    rw [hp] at h1 hs
    simp [s_8_5, h1, h0, hs]
theorem step6 : run F s_8_6 [none, some .cup, a2, some (.str w), a4, a5, a6, a7, a8, a9, a10, a11, a12] g = .ok (.nx [none, some .cup, a2, some (.str w), some (.str (w.take 6)), a5, a6, a7, a8, a9, a10, a11, a12]) g := by
  have hc := cut_to w 6
  simp only [Int.cast_ofNat_Int] at hc
  simp [s_8_6, hc]
def words (l : List Nat) : List Dat := (bl l).reverse.map fun k => .str (l ++ l.drop (1 + k))
theorem words_eq (l : List Nat) : ((List.range (l.length - 1)).filter fun k => l.take (l.length - 1 - k) == l.drop (l.length - (l.length - 1 - k))).map (fun k => Dat.str (l ++ l.drop (l.length - 1 - k))) = words l := by
  unfold words bl
  rw [← List.filter_reverse, range_rev, List.filter_map, List.map_map]
  have e : (List.range (l.length - 1)).filter (fun k => l.take (l.length - 1 - k) == l.drop (l.length - (l.length - 1 - k))) = (List.range (l.length - 1)).filter (bp l ∘ fun k => l.length - 1 - 1 - k) := by
    apply List.filter_congr
    intro k hk
    have hk := List.mem_range.mp hk
    show _ = bp l (l.length - 1 - 1 - k)
    unfold bp
    rw [show 1 + (l.length - 1 - 1 - k) = l.length - 1 - k by omega]
  rw [e]
  apply List.map_congr_left
  intro k hk
  have hk := List.mem_range.mp (List.mem_filter.mp hk).1
  show _ = Dat.str (l ++ l.drop (1 + (l.length - 1 - 1 - k)))
  rw [show 1 + (l.length - 1 - 1 - k) = l.length - 1 - k by omega]
theorem bl_asc (l : List Nat) : (bl l).Pairwise (· < ·) := List.Pairwise.filter _ List.pairwise_lt_range
theorem max_bl (l : List Nat) : biD .max (.lst (.int 0 :: (bl l).map bI)) = some (.int (match (bl l).getLast? with | none => 0 | some k => 1 + (k : Int))) := by
  have h1 : intsD (.int 0 :: (bl l).map bI) = some (0 :: (bl l).map fun (k : Nat) => 1 + (k : Int)) := by
    unfold intsD
    rw [intsD_map (fun k : Nat => 1 + (k : Int))]
    rfl
  simp only [biD, h1, Option.bind_some, maxI]
  rw [fold_asc (f := fun k : Nat => 1 + (k : Int)) (fun x y h => by omega) (bl l) 0 (bl_asc l) fun x _ => by omega]
  rfl
theorem step7 {l : List Nat} (hw : Wd l) (h : l.length ≤ 6) : ∃ b8 b11 b12, run F s_8_7 [none, some .cup, a2, a3, some (.str l), a5, a6, a7, a8, a9, a10, a11, a12] g = .ok (.nx [none, some .cup, a2, a3, some (.str l), a5, a6, a7, b8, a9, a10, b11, b12]) g := by
  by_cases h0 : l = []
  · subst h0
    exact ⟨a8, a11, a12, by simp [s_8_7]⟩
  · obtain ⟨y, hy, hgood⟩ : ∃ y, y = (if l = [97] then [] else [97]) ∧ goodRule l y := by
      refine ⟨_, rfl, hw, ?_, ?_, h, ?_, ?_⟩
      · split
        · exact fun c hc => by simp at hc
        · exact fun c hc => .inl (by simpa using hc)
      · have := List.length_pos_iff.mpr h0
        omega
      · split <;> simp
      · split
        · exact h0
        · assumption
    refine ⟨a8, some (.tup [.str l, .str y]), some (.lst (words l)), ?_⟩
    have hpos := List.length_pos_iff.mpr h0
    have h1 : F 9 [.int 4, .tup [.str l, .str y]] g = .ok (.tup (words l)) g := self_overlaps_call (k := 16) hgood
    have h2 : F 10 [.int 4, .tup [.str l, .str y]] g = .ok (.bl (bl l).isEmpty) g := are_words_apart_call (k := 16) hgood
    have h3 : F 11 [.str l] g = .ok (.str (lb l)) g := longest_border_call (k := 18) hw h
    have hlen : (bl l).length ≤ 6 := by
      have := List.length_filter_le (bp l) (List.range (l.length - 1))
      rw [List.length_range] at this
      unfold bl
      omega
    have h4 : F 15 [.tup [.tup (words l), .bl (bl l).isEmpty], .tup [.tup (words l), .bl (bl l).isEmpty]] g = .ok (.bl true) g := by
      refine same_call hsame 2 17 _ g ?_
      have o1 : okS (.tup (words l)) 1 = true := okS_map (by rw [List.length_reverse]; omega) fun _ _ => rfl
      exact okS_pair o1 rfl
    have h5 : F 15 [.str (lb l), .str (lb l)] g = .ok (.bl true) g := same_call hsame 0 19 _ g rfl
    have hr : rngD [.int ((l.length : Int) - 1), .int 0, .int (-1)] = some (dlist ((l.length : Int) - 1) (l.length - 1)) := by
      rw [rng3 (by omega) (by omega) (by omega) (by omega) (by omega), show ((l.length : Int) - 1 - 0).toNat = l.length - 1 by omega]
    have hlc : lcGo (lcStep F (.op .add (.var 4) (.sl (.var 4) (.asInt (.var 8)) (.con .non))) (.nm 8) (.cmp .eq (.sl (.var 4) (.con .non) (.asInt (.var 8))) (.sl (.var 4) (.asInt (.op .sub (.bi .len (.var 4)) (.var 8))) (.con .non))) [none, some .cup, a2, a3, some (.str l), a5, a6, a7, none, a9, a10, some (.tup [.str l, .str y]), a12]) [] (dlist ((l.length : Int) - 1) (l.length - 1)) g = .ok (words l) g := by
      rw [lc_dlist (p := fun k => l.take (l.length - 1 - k) == l.drop (l.length - (l.length - 1 - k))) (e := fun k => Dat.str (l ++ l.drop (l.length - 1 - k)))]
      · rw [words_eq]
      · intro j hj
        rw [lcStep_nm]
        rw [show (l.length : Int) - 1 + (j : Int) * -1 = ((l.length - 1 - j : Nat) : Int) by omega]
        have hm : l.length - 1 - j ≤ l.length := by omega
        generalize l.length - 1 - j = m at *
        have e1 := cut_to l m
        have e2 := cut_from l (l.length - m)
        rw [show ((l.length - m : Nat) : Int) = (l.length : Int) - (m : Int) by omega] at e2
        have e3 := cut_from l m
        have e4 := opD_addS (x := l) (y := l.drop m) (by rw [List.length_drop]; omega)
        simp [e1, e2, e3, e4]
        split <;> simp_all
    have hok : okAllB (words l) 63 = true := okAll_of fun d hd => by
      obtain ⟨k, _, rfl⟩ := List.mem_map.mp hd
      rfl
    have he := cpD_eqNil hok
    have hwe : (words l).isEmpty = (bl l).isEmpty := by
      unfold words
      rw [List.isEmpty_map]
      cases bl l <;> simp
    rw [hwe] at he
    have hlc2 : lcGo (lcStep F (.var 8) (.nm 8) (.me .endswith (.var 4) (.sl (.var 4) (.con .non) (.asInt (.var 8)))) [none, some .cup, a2, a3, some (.str l), a5, a6, a7, none, a9, a10, some (.tup [.str l, .str y]), some (.lst (words l))]) [] (ilist 1 (l.length - 1)) g = .ok ((bl l).map bI) g := by
      rw [lc_ilist (p := bp l) (e := bI)]
      · rfl
      · intro j hj
        rw [lcStep_nm]
        have e1 := cut_to l (1 + j)
        rw [Int.natCast_add] at e1
        simp only [Int.natCast_one] at e1
        have hb : (decide ((l.take (1 + j)).length ≤ l.length) && (l.drop (l.length - (l.take (1 + j)).length) == l.take (1 + j))) = bp l j := by
          have hl : (l.take (1 + j)).length = 1 + j := by rw [List.length_take]; omega
          rw [hl, decide_eq_true (by omega), Bool.true_and, Bool.beq_comm]
          rfl
        simp only [den_me, den_sl, den_con, den_asInt, den_var, List.set_cons_succ, List.set_cons_zero, List.getD_cons_succ, List.getD_cons_zero, ofO_some, bind_ok, strK_str, asIntD_int, sliceD_str, e1, Option.map_some, meD, hb, asB_bl]
        cases bp l j <;> rfl
    have hadd := opD_addL (x := [.int 0]) (y := (bl l).map bI) (by simp; omega)
    have hmax := max_bl l
    have hcut : cutD l .non (.int (match (bl l).getLast? with | none => 0 | some k => 1 + (k : Int))) = some (lb l) := by
      unfold lb
      cases (bl l).getLast? with
      | none => exact cut_to l 0
      | some k =>
        have e1 := cut_to l (1 + k)
        rw [Int.natCast_add] at e1
        exact e1
    generalize (match (bl l).getLast? with | none => (0 : Int) | some k => 1 + (k : Int)) = mx at *
    have hne : (l == ([] : List Nat)) = false := by simpa using h0
    have hy1 : (den F (.ifx (.cmp .ne (.var 4) (.con (.str [97]))) (.con (.str [97])) (.con (.str []))) [none, some .cup, a2, a3, some (.str l), a5, a6, a7, a8, a9, a10, a11, a12] g) = .ok (.str y) g := by
      rw [hy]
      by_cases hl : l = [97]
      · subst hl; simp
      · simp [hl]
    simp only [s_8_7, run_ifs, den_cmp, den_var, den_con, List.getD_cons_succ, List.getD_cons_zero, ofO_some, bind_ok, cpD_neSS, hne, Option.map_some, asB_bl, Bool.not_false, if_true, runs_cons, run_set, den_tup, denL_cons, denL_nil, hy1]
    simp [den_lc2, hr, hlc, h1, h2, he, h4, rngW (show l.length ≤ 60 by omega), hlc2, hadd, hmax, hcut, h3, h5]
end
end K77
set_option Elab.async false
set_option linter.all false
set_option maxRecDepth 100000
set_option maxHeartbeats 4000000
namespace K77
open R
abbrev S (s : List Nat) : Dat := .str s
def told : Dat := .tup [.tup [S [97, 98, 97, 98, 97]], .tup [S [97, 97, 97, 97], S [97, 97, 97, 97, 97]], .tup [], S [97, 98, 97, 98], S []]
theorem head (g : List Dat) : runs F [s_0, s_1, s_2, s_3, s_4, s_5, s_6, s_7] (frame0 d_law 1) g = .ok (.nx [none, some .cup, some told, none, none, none, none, none, none, none, none, none, none]) g := by
  kernel_rfl
def I (ρ : Sl) (g : List Dat) : Prop := Gd g ∧ ∃ a2 a3 a4 a5 a6 a7 a8 a9 a10 a11 a12 : Option Dat, ρ = [none, some .cup, a2, a3, a4, a5, a6, a7, a8, a9, a10, a11, a12]
theorem pure_law : Pure T 20 d_law 12 1 := by
  intro ns hl
  obtain ⟨is, hc, hg⟩ := cup_call (P := P) (k := 19) (i := 12) (c1 := 787) (c2 := 2741) (c3 := 5779) (c4 := 2077505411) (c5 := 1061) rfl (by decide) (by decide) (by decide) (by decide) ns hl
  refine ⟨is, hc, ?_⟩
  have key : (runs F d_law.df.body (frame0 d_law 1) (is.map .int)).sat fun o g => o = .rt (.bl true) false := by
    show (runs F ([s_0, s_1, s_2, s_3, s_4, s_5, s_6, s_7] ++ [s_8, s_9]) (frame0 d_law 1) (is.map .int)).sat _
    rw [runs_append, head, bind_ok, goOn_nx, runs_cons, sat_bind]
    have hr : rngD [.int 10] = some (ilist 0 10) := rng1 (by omega) (by omega)
    simp only [s_8, run_fors, den_rng, denL_cons, denL_nil, den_con, bind_ok, hr, Option.map_some, ofO_some, itemsD_lst]
    refine (forGo_sat (I := I) (Q := fun o g => ∃ ρ, o = .nx ρ) ⟨hg, _, _, _, _, _, _, _, _, _, _, _, rfl⟩ (fun ρ g _ => ⟨ρ, rfl⟩) ?_).mono ?_
    · rintro d hd ρ g ⟨hg, a2, a3, a4, a5, a6, a7, a8, a9, a10, a11, a12, rfl⟩
      refine ⟨_, bindT_nm, ?_⟩
      show (runs F ([s_8_0, s_8_1] ++ [s_8_2, s_8_3, s_8_4, s_8_5, s_8_6, s_8_7]) _ g).sat _
      rw [runs_append, sat_bind]
      refine (draw hg).mono fun o g1 ⟨hg1, p, w, hw, hl, e⟩ => ?_
      subst e
      have hw6 : Wd (w.take 6) := fun c hc => hw c (List.mem_of_mem_take hc)
      obtain ⟨b8, b9, h4⟩ := step4 (a2 := a2) (a4 := a4) (a5 := some d) (a6 := some (.str p)) (a7 := some (.lst ((bl w).map bI))) (a8 := a8) (a9 := a9) (a10 := a10) (a11 := a11) (a12 := a12) (g := g1) hw hl
      obtain ⟨c8, c11, c12, h7⟩ := step7 (l := w.take 6) (a2 := a2) (a3 := some (.str w)) (a5 := some d) (a6 := some (.str p)) (a7 := some (.lst ((bl w).map bI))) (a8 := b8) (a9 := b9) (a10 := a10) (a11 := a11) (a12 := a12) (g := g1) hw6 (by rw [List.length_take]; omega)
      simp only [goOn_nx, runs_cons, runs_nil, step2 (show w.length ≤ 60 by omega), step3 hw hl, h4, step5 hw hl, step6, h7, bind_ok, sat_ok]
      exact ⟨hg1, _, _, _, _, _, _, _, _, _, _, _, rfl⟩
    · rintro o g ⟨ρ, rfl⟩
      simp [s_9]
  obtain ⟨o, g, e, rfl⟩ := sat_elim key
  exact ⟨false, g, e⟩
end K77
set_option Elab.async false
set_option linter.all false
set_option maxRecDepth 100000
set_option maxHeartbeats 0
namespace K77
open PySem PySem.Spec PyProof.Rows L2 R
abbrev Rw : PySem.W.OpenRow := PySem.W.OpenLaw.row PySem.Challenge.rw_wordsrest_k77_whole_borders
abbrev fa0 : List He.Fa := faOf (T.map (·.name) ++ [d_law.name]) exs
abbrev fn0 : List He.DefD := T.map DefR.toD ++ [d_law.toD]
abbrev hk : PySem.W.Hook := hookR 4 fa0 fn0 glo
def ob (s : PySem.W.SharedT) : He.AlD := obsRG 4 fa0 fn0 glo (HandSHeadRun.getT s)
theorem ob_eq (s : PySem.W.SharedT) : ob s = hk.obs s.abs := obsRG_eq (HandSHeadRun.getT_eq s)
def loose : List PySem.Str := "__name__" :: (exs.map (·.1) ++ (glo.map (·.1) ++ T.map (·.name)))
def lawAt : Nat := 28
theorem run (w : World) : HandSHeadRun.RunEq Rw (PySem.W.view Rw.prog [lawAt]) hk ob 4000 loose w := by
  intro os
  kernel_rfl
end K77
set_option Elab.async false
set_option linter.all false
set_option maxRecDepth 100000
set_option maxHeartbeats 0
theorem K77.cx_false (P : PySem.Program) (w : PySem.World) (H : L2.Hp) (s : PySem.Shared) (e : PySem.Value) (s' : PySem.Shared) (h : L2.CX P w [] H s (fun _ _ _ => False) e s') : False := by
  obtain ⟨_, _, _, _, _, _, _, _, _, _, _, _, z⟩ := h
  exact z.elim
open PySem PySem.W PySem.Calls PyProof.Rows
theorem K77.holds_of (hp : R.Pure K77.T 20 K77.d_law 12 1) : PySem.Challenge.rw_wordsrest_k77_whole_borders.Holds := by
  w_on; o_law
  refine HandSHeadRun.head_any (r := OpenLaw.row PySem.Challenge.rw_wordsrest_k77_whole_borders) (q := view (OpenLaw.row PySem.Challenge.rw_wordsrest_k77_whole_borders).prog [K77.lawAt]) (H := K77.hk) (ob := K77.ob) (M := 4000) (loose := K77.loose) (d := HandSHeadRun.topDef (OpenLaw.row PySem.Challenge.rw_wordsrest_k77_whole_borders).prog K77.lawAt) (kwd := []) K77.ob_eq
    (by kernel_rfl) (fun s => by kernel_rfl) K77.run (by kernel_rfl) (by kernel_rfl) (by kernel_rfl) (by rfl) (by first | assumption | decide +kernel) (by decide +kernel) ⟨rfl, rfl, rfl, rfl, rfl, by decide +kernel⟩ ?hw ?hc
  case hw => w_witness2
  case hc =>
    refine LamX.walk_ofTsE (l := PySem.Challenge.rw_wordsrest_k77_whole_borders) (n := 63) (k := 21) (x := "script") (CX := fun w => L2.CX PySem.Challenge.rw_wordsrest_k77_whole_borders.prog w) rfl (by decide) (by kernel_rfl) ⟨rfl, by decide, by decide⟩ ?F (fun w => K77.cx_false _ w)
    intro w mg fa h Y G hmg0
    obtain ⟨K, KX, c⟩ := Y
    have hmg : mg ("law" : PySem.Str) = some (.ref fa) := by
      have e : (HandSHeadRun.topDef (OpenLaw.row PySem.Challenge.rw_wordsrest_k77_whole_borders).prog K77.lawAt).name = ("law" : PySem.Str) := by kernel_rfl
      rw [← e]
      exact hmg0
    exact ⟨K, KX, R.law_at (by decide +kernel) K77.defs_ok (K77.law_ok 12 1 K77.first) hp rfl rfl KX G hmg c⟩
theorem PySem.Challenge.cw_wordsrest_k77_whole_borders_holds : PySem.Challenge.rw_wordsrest_k77_whole_borders.Holds := by
  exact K77.holds_of K77.pure_law
