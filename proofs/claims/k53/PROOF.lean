import PyProof.Rows.All
import Wide.All
import OpenK.AllK
import Wide.FinOn
import KE.KStateDown
import HandS.ForMost
import HandS.More
import HandS.TupAny
import HandS.Property
import HandS.Codes
import HandS.Rev
import HandS.Comp
import HandS.Iter
import HandS.IsInst
import HandS.Flow
import HandS.Defaults
import KE.SortData
import KE.SortKeyHeap
import PyProof.Rows.BitMore
import Lean
import HandS.Ends
import HandS.Words
import HandS.WordsExc
import HandS.Head0
import HandS.Head1
import HandS.Head2
import HandS.HeadEnd
import HandS.HeadHook1
import HandS.HeadHook2
import PySem.Challenge.RW_suregate_k53_sums_that_cannot_be_shorten
set_option Elab.async false
set_option linter.all false
set_option maxRecDepth 100000
set_option autoImplicit false
/-! PD: a data layer over HandS. Pd: what is known of a value, kept while things are made; Ow: what is known of a piece of the heap that is owned; SP, SE, SS: readings of expressions and statements in these words. -/
namespace PD
open PySem PySem.Spec PyProof.Rows L2

/-! ### what is known of a value -/
structure Pd where
  p : V → Hp → Prop
  mono : ∀ {v : V} {H H' : Hp}, Same H H' → p v H → p v H'
theorem Rd.same {H H' : Hp} (e : Same H H') {a : Addr} {u : HO} (h : Rd H a u) : Rd H' a u := by
  rcases h with h | ⟨o, h⟩
  · exact .inl (e _ _ h)
  · exact .inr ⟨o, e _ _ h⟩
def pAny : Pd := ⟨fun _ _ => True, fun _ h => h⟩
def pInt (i : Int) : Pd := ⟨fun v _ => v = .int i, fun _ h => h⟩
def pBool (b : Bool) : Pd := ⟨fun v _ => v = .bl b, fun _ h => h⟩
def pNon : Pd := ⟨fun v _ => v = .non, fun _ h => h⟩
def pStr (s : Str) : Pd := ⟨fun v _ => v = .str s, fun _ h => h⟩
def pRef (a : Addr) : Pd := ⟨fun v _ => v = .ref a, fun _ h => h⟩
def pTy (n : String) : Pd := ⟨fun v _ => v = .ty n, fun _ h => h⟩
/-- values one by one -/
def All2 : List V → List Pd → Hp → Prop
  | [], [], _ => True
  | v :: vs, P :: Ps, H => P.p v H ∧ All2 vs Ps H
  | _, _, _ => False
theorem All2.mono {H H' : Hp} (e : Same H H') : ∀ {vs : List V} {Ps : List Pd}, All2 vs Ps H → All2 vs Ps H'
  | [], [], _ => trivial
  | _ :: _, P :: _, h => ⟨P.mono e h.1, All2.mono e h.2⟩
  | [], _ :: _, h => h.elim
  | _ :: _, [], h => h.elim
theorem All2.length {H : Hp} : ∀ {vs : List V} {Ps : List Pd}, All2 vs Ps H → vs.length = Ps.length
  | [], [], _ => rfl
  | _ :: _, _ :: _, h => congrArg Nat.succ (All2.length h.2)
  | [], _ :: _, h => h.elim
  | _ :: _, [], h => h.elim
theorem All2.get {H : Hp} : ∀ {vs : List V} {Ps : List Pd}, All2 vs Ps H → ∀ {i : Nat} {P : Pd}, Ps[i]? = some P → ∃ v, vs[i]? = some v ∧ P.p v H
  | v :: _, _ :: _, h, 0, P, e => ⟨v, rfl, by have := Option.some.inj e; subst this; exact h.1⟩
  | _ :: _, _ :: _, h, i + 1, P, e => All2.get h.2 (i := i) e
  | [], [], _, i, P, e => by simp at e
  | [], _ :: _, h, _, _, _ => h.elim
  | _ :: _, [], h, _, _, _ => h.elim
theorem All2.get' {H : Hp} : ∀ {vs : List V} {Ps : List Pd}, All2 vs Ps H → ∀ {i : Nat} {v : V}, vs[i]? = some v → ∃ P, Ps[i]? = some P ∧ P.p v H
  | _ :: _, P :: _, h, 0, v, e => ⟨P, rfl, by have := Option.some.inj e; subst this; exact h.1⟩
  | _ :: _, _ :: _, h, i + 1, P, e => All2.get' h.2 (i := i) e
  | [], [], _, i, P, e => by simp at e
  | [], _ :: _, h, _, _, _ => h.elim
  | _ :: _, [], h, _, _, _ => h.elim
theorem All2.append {H : Hp} : ∀ {vs : List V} {Ps : List Pd} {ws : List V} {Qs : List Pd}, All2 vs Ps H → All2 ws Qs H → All2 (vs ++ ws) (Ps ++ Qs) H
  | [], [], _, _, _, h => h
  | _ :: _, _ :: _, _, _, h, k => ⟨h.1, All2.append h.2 k⟩
  | [], _ :: _, _, _, h, _ => h.elim
  | _ :: _, [], _, _, h, _ => h.elim
theorem All2.drop {H : Hp} : ∀ {vs : List V} {Ps : List Pd} (n : Nat), All2 vs Ps H → All2 (vs.drop n) (Ps.drop n) H
  | _, _, 0, h => h
  | [], [], _ + 1, _ => trivial
  | _ :: _, _ :: _, n + 1, h => All2.drop n h.2
  | [], _ :: _, _ + 1, h => h.elim
  | _ :: _, [], _ + 1, h => h.elim
theorem All2.take {H : Hp} : ∀ {vs : List V} {Ps : List Pd} (n : Nat), All2 vs Ps H → All2 (vs.take n) (Ps.take n) H
  | _, _, 0, _ => by simp [All2]
  | [], [], _ + 1, _ => trivial
  | _ :: _, _ :: _, n + 1, h => ⟨h.1, All2.take n h.2⟩
  | [], _ :: _, _ + 1, h => h.elim
  | _ :: _, [], _ + 1, h => h.elim
theorem All2.set {H : Hp} : ∀ {vs : List V} {Ps : List Pd} (n : Nat) {v : V} {P : Pd}, All2 vs Ps H → P.p v H → All2 (vs.set n v) (Ps.set n P) H
  | [], [], _, _, _, _, _ => trivial
  | _ :: _, _ :: _, 0, _, _, h, k => ⟨k, h.2⟩
  | _ :: _, _ :: _, n + 1, _, _, h, k => ⟨h.1, All2.set n h.2 k⟩
  | [], _ :: _, _, _, _, h, _ => h.elim
  | _ :: _, [], _, _, _, h, _ => h.elim
theorem All2.one {H : Hp} {P : Pd} : ∀ {vs : List V}, All2 vs [P] H → ∃ v, vs = [v] ∧ P.p v H
  | [v], h => ⟨v, rfl, h.1⟩
  | [], h => h.elim
  | _ :: _ :: _, h => h.2.elim
theorem All2.two {H : Hp} {P P' : Pd} : ∀ {vs : List V}, All2 vs [P, P'] H → ∃ v u, vs = [v, u] ∧ P.p v H ∧ P'.p u H
  | [v, u], h => ⟨v, u, rfl, h.1, h.2.1⟩
  | [], h => h.elim
  | [_], h => h.2.elim
  | _ :: _ :: _ :: _, h => h.2.2.elim
/-- a tuple, a list, by what is known of its items -/
def pTup (Ps : List Pd) : Pd := ⟨fun v H => ∃ a vs, v = .ref a ∧ H a = some (.tup vs) ∧ All2 vs Ps H, fun e ⟨a, vs, h1, h2, h3⟩ => ⟨a, vs, h1, e _ _ h2, h3.mono e⟩⟩
def pLst (Ps : List Pd) : Pd := ⟨fun v H => ∃ a vs, v = .ref a ∧ H a = some (.lst vs) ∧ All2 vs Ps H, fun e ⟨a, vs, h1, h2, h3⟩ => ⟨a, vs, h1, e _ _ h2, h3.mono e⟩⟩
/-- a list of ints that is handed in -/
def pSeq (K : PySem.W.Frag) (vs : List V) : Pd := ⟨fun v H => ∃ a, v = .ref a ∧ SqL K H a vs, fun e ⟨a, h1, h2⟩ => ⟨a, h1, e.seq h2⟩⟩

/-! ### heaps: F what is frozen, H the whole, g the pieces that are owned -/
structure Ex (F H F' H' : Hp) : Prop where
  f : Same F F'
  h : Same H H'
  s : Same F' H'
  n : ∀ a, F' a ≠ none → F a ≠ none ∨ H a = none
theorem Ex.refl {F H : Hp} (s : Same F H) : Ex F H F H := ⟨Same.refl _, Same.refl _, s, fun _ h => .inl h⟩
theorem Ex.trans {F H F1 H1 F2 H2 : Hp} (a : Ex F H F1 H1) (b : Ex F1 H1 F2 H2) : Ex F H F2 H2 :=
  ⟨a.f.trans b.f, a.h.trans b.h, b.s, fun x hx => by
    rcases b.n x hx with h | h
    · exact a.n x h
    · exact .inr (a.h.free h)⟩
theorem same_upd {F H : Hp} {p : Addr} {o : HO} (s : Same F H) : Same (upd F p o) (L2.upd H p o) := fun b u e => by
  unfold L2.upd at e ⊢
  split at e
  · next h => rw [if_pos h]; exact e
  · next h => rw [if_neg h]; exact s b u e
theorem same_new {H : Hp} {p : Addr} {o : HO} (h : H p = none) : Same H (L2.upd H p o) := fun b u e => by
  rw [upd_ne (ne_of_none e h)]
  exact e
theorem same_none {F H : Hp} (s : Same F H) {a : Addr} (h : H a = none) : F a = none := s.free h
/-- a new frozen thing -/
theorem Ex.new {F H : Hp} (s : Same F H) {p : Addr} (o : HO) (h : H p = none) : Ex F H (L2.upd F p o) (L2.upd H p o) :=
  ⟨same_new (same_none s h), same_new h, same_upd s, fun a ha => by
    by_cases e : a = p
    · subst e; exact .inr h
    · rw [upd_ne e] at ha; exact .inl ha⟩
/-- what is wanted of a pure value -/
abbrev Ret (F H : Hp) (Q : VK) (P : Pd) : Prop := ∀ v F' H', Ex F H F' H' → P.p v F' → Q v H'

/-! ### slots -/
abbrev Rho := List (Option Pd)
structure Sl (ρ : Rho) (σ : L2.St) (F : Hp) : Prop where
  len : ρ.length = σ.length
  at_ : ∀ (i : Nat) (P : Pd), ρ[i]? = some (some P) → ∃ v, σ[i]? = some (some v) ∧ P.p v F
theorem Sl.mono {ρ : Rho} {σ : L2.St} {F F' : Hp} (s : Sl ρ σ F) (e : Same F F') : Sl ρ σ F' :=
  ⟨s.len, fun i P h => by obtain ⟨v, h1, h2⟩ := s.at_ i P h; exact ⟨v, h1, P.mono e h2⟩⟩
theorem Sl.set {ρ : Rho} {σ : L2.St} {F : Hp} (s : Sl ρ σ F) {v : V} {P : Pd} (i : Nat) (h : P.p v F) : Sl (ρ.set i (some P)) (σ.set i (some v)) F := by
  refine ⟨by rw [List.length_set, List.length_set, s.len], fun j P' e => ?_⟩
  rw [List.getElem?_set] at e
  by_cases hij : i = j
  · subst hij
    rw [if_pos rfl] at e
    split at e
    · next hl =>
      cases e
      exact ⟨v, by rw [List.getElem?_set, if_pos rfl, if_pos (by rw [← s.len]; exact hl)], h⟩
    · cases e
  · rw [if_neg hij] at e
    obtain ⟨u, h1, h2⟩ := s.at_ j P' e
    exact ⟨u, by rw [List.getElem?_set_ne hij]; exact h1, h2⟩
theorem Sl.forget {ρ ρ' : Rho} {σ : L2.St} {F : Hp} (s : Sl ρ σ F) (hl : ρ'.length = ρ.length) (h : ∀ (i : Nat) (P : Pd), ρ'[i]? = some (some P) → ∃ P' : Pd, ρ[i]? = some (some P') ∧ ∀ v F, P'.p v F → P.p v F) : Sl ρ' σ F :=
  ⟨hl.trans s.len, fun i P e => by
    obtain ⟨P', h1, h2⟩ := h i P e
    obtain ⟨v, h3, h4⟩ := s.at_ i P' h1
    exact ⟨v, h3, h2 _ _ h4⟩⟩

/-! ### pure expressions -/
def SP (te : TE) (ρ : Rho) (P : Pd) : Prop := ∀ σ F H, Same F H → Sl ρ σ F → ∀ Q : VK, Ret F H Q P → te σ H Q
/-- a test -/
def SPt (tt : TT) (ρ : Rho) (b : Bool) : Prop := ∀ σ F H, Same F H → Sl ρ σ F → ∀ Q : Bool → Hp → Prop, (∀ F' H', Ex F H F' H' → Q b H') → tt σ H Q
/-- arguments -/
def SPa (ta : TA) (ρ : Rho) (Ps : List Pd) : Prop := ∀ σ F H, Same F H → Sl ρ σ F → ∀ Q : List V → Hp → Prop, (∀ vs F' H', Ex F H F' H' → All2 vs Ps F' → Q vs H') → ta σ H Q
/-- operations on values -/
def O1 (r : V → Hp → VK → Prop) (P P' : Pd) : Prop := ∀ x F H, Same F H → P.p x F → ∀ Q : VK, Ret F H Q P' → r x H Q
def O2 (r : R2) (P P' P'' : Pd) : Prop := ∀ x y F H, Same F H → P.p x F → P'.p y F → ∀ Q : VK, Ret F H Q P'' → r x y H Q
def On (r : List V → Hp → VK → Prop) (Ps : List Pd) (P : Pd) : Prop := ∀ xs F H, Same F H → All2 xs Ps F → ∀ Q : VK, Ret F H Q P → r xs H Q
/-- a method of a value -/
def Om (r : V → List V → Hp → VK → Prop) (P : Pd) (Ps : List Pd) (P' : Pd) : Prop := ∀ x xs F H, Same F H → P.p x F → All2 xs Ps F → ∀ Q : VK, Ret F H Q P' → r x xs H Q

section
variable {ρ : Rho} {P P' P'' : Pd} {Ps : List Pd} {te ta tb tc : TE} {tt tu : TT} {tl : TA}
theorem SP.to {Q : Pd} (h : SP te ρ P) (e : P = Q) : SP te ρ Q := e ▸ h
theorem SP.imp {P'} (h : SP te ρ P) (e : ∀ v F, P.p v F → P'.p v F) : SP te ρ P' := fun σ F H s l Q k => h σ F H s l Q fun v F' H' x p => k v F' H' x (e _ _ p)
theorem SP.var {i : Nat} (h : ρ[i]? = some (some P)) : SP (tVar i) ρ P := fun σ F H s l Q k => by
  obtain ⟨v, h1, h2⟩ := l.at_ i P h
  exact ⟨v, h1, k v F H (Ex.refl s) h2⟩
theorem SP.con {v : V} (h : ∀ F, P.p v F) : SP (tC v) ρ P := fun σ F H s l Q k => k v F H (Ex.refl s) (h F)
theorem SP.int {i : Int} : SP (tC (.int i)) ρ (pInt i) := SP.con fun _ => rfl
theorem SP.bl {b : Bool} : SP (tC (.bl b)) ρ (pBool b) := SP.con fun _ => rfl
theorem SP.non : SP (tC .non) ρ pNon := SP.con fun _ => rfl
theorem SP.str {s : Str} : SP (tC (.str s)) ρ (pStr s) := SP.con fun _ => rfl
theorem SP.op {r : R2} (ha : SP ta ρ P) (hb : SP tb ρ P') (ho : O2 r P P' P'') : SP (tOp r ta tb) ρ P'' := fun σ F H s l Q k => by
  refine ha σ F H s l _ fun x F1 H1 e1 p1 => ?_
  refine hb σ F1 H1 e1.s (l.mono e1.f) _ fun y F2 H2 e2 p2 => ?_
  exact ho x y F2 H2 e2.s (P.mono e2.f p1) p2 _ fun v F3 H3 e3 p3 => k v F3 H3 ((e1.trans e2).trans e3) p3
theorem SP.un {r : V → Hp → VK → Prop} (ha : SP ta ρ P) (ho : O1 r P P') : SP (tUn r ta) ρ P' := fun σ F H s l Q k => by
  refine ha σ F H s l _ fun x F1 H1 e1 p1 => ?_
  exact ho x F1 H1 e1.s p1 _ fun v F3 H3 e3 p3 => k v F3 H3 (e1.trans e3) p3
theorem SPa.nil : SPa tNil ρ [] := fun σ F H s l Q k => k [] F H (Ex.refl s) trivial
theorem SPa.cons (ha : SP ta ρ P) (hl : SPa tl ρ Ps) : SPa (tCons ta tl) ρ (P :: Ps) := fun σ F H s l Q k => by
  refine ha σ F H s l _ fun x F1 H1 e1 p1 => ?_
  refine hl σ F1 H1 e1.s (l.mono e1.f) _ fun xs F2 H2 e2 p2 => ?_
  exact k _ F2 H2 (e1.trans e2) ⟨P.mono e2.f p1, p2⟩
theorem SP.cb {r : List V → Hp → VK → Prop} (hl : SPa tl ρ Ps) (ho : On r Ps P) : SP (tCB r tl) ρ P := fun σ F H s l Q k => by
  refine hl σ F H s l _ fun xs F1 H1 e1 p1 => ?_
  exact ho xs F1 H1 e1.s p1 _ fun v F3 H3 e3 p3 => k v F3 H3 (e1.trans e3) p3
theorem SP.tup (hl : SPa tl ρ Ps) (hn : Ps.length ≤ 1000 := by exact Nat.le_of_ble_eq_true rfl) : SP (tTup tl) ρ (pTup Ps) := fun σ F H s l Q k => by
  refine hl σ F H s l _ fun xs F1 H1 e1 p1 => ?_
  refine ⟨by rw [p1.length]; exact Nat.le_of_lt (small1000 hn), fun p hp => ?_⟩
  have e2 := Ex.new e1.s (.tup xs) hp
  exact k _ _ _ (e1.trans e2) ⟨p, xs, rfl, upd_same, p1.mono e2.f⟩
theorem SP.lst (hl : SPa tl ρ Ps) (hn : Ps.length ≤ 1000 := by exact Nat.le_of_ble_eq_true rfl) : SP (tLst tl) ρ (pLst Ps) := fun σ F H s l Q k => by
  refine hl σ F H s l _ fun xs F1 H1 e1 p1 => ?_
  refine ⟨by rw [p1.length]; exact Nat.le_of_lt (small1000 hn), fun p hp => ?_⟩
  have e2 := Ex.new e1.s (.lst xs) hp
  exact k _ _ _ (e1.trans e2) ⟨p, xs, rfl, upd_same, p1.mono e2.f⟩
/-! tests -/
theorem SPt.val {b : Bool} (h : SP ta ρ (pBool b)) : SPt (tB ta) ρ b := fun σ F H s l Q k => by
  refine h σ F H s l _ fun x F1 H1 e1 p1 => ⟨b, p1, k F1 H1 e1⟩
theorem SPt.test {b : Bool} (h : SP ta ρ (pBool b)) : SPt (tTest ta) ρ b := fun σ F H s l Q k => by
  refine h σ F H s l _ fun x F1 H1 e1 p1 => ⟨b, p1, k F1 H1 e1⟩
theorem SPt.not {b : Bool} (h : SPt tt ρ b) : SPt (tNot tt) ρ (!b) := fun σ F H s l Q k => h σ F H s l _ fun F1 H1 e1 => k F1 H1 e1
theorem SPt.and {b c : Bool} (h : SPt tt ρ b) (h2 : b = true → SPt tu ρ c) : SPt (tAnd tt tu) ρ (b && c) := fun σ F H s l Q k => by
  refine h σ F H s l _ fun F1 H1 e1 => ?_
  cases b with
  | true => exact (h2 rfl) σ F1 H1 e1.s (l.mono e1.f) _ fun F2 H2 e2 => k F2 H2 (e1.trans e2)
  | false => exact k F1 H1 e1
theorem SPt.or {b c : Bool} (h : SPt tt ρ b) (h2 : b = false → SPt tu ρ c) : SPt (tOr tt tu) ρ (b || c) := fun σ F H s l Q k => by
  refine h σ F H s l _ fun F1 H1 e1 => ?_
  cases b with
  | false => exact (h2 rfl) σ F1 H1 e1.s (l.mono e1.f) _ fun F2 H2 e2 => k F2 H2 (e1.trans e2)
  | true => exact k F1 H1 e1
theorem SPt.to {b c : Bool} (h : SPt tt ρ b) (e : b = c) : SPt tt ρ c := e ▸ h
theorem SP.andV {b c : Bool} (h : SP ta ρ (pBool b)) (h2 : b = true → SP tb ρ (pBool c)) : SP (tAndV ta tb) ρ (pBool (b && c)) := fun σ F H s l Q k => by
  refine h σ F H s l _ fun x F1 H1 e1 p1 => ⟨b, p1, ?_⟩
  cases b with
  | true => exact (h2 rfl) σ F1 H1 e1.s (l.mono e1.f) _ fun v F2 H2 e2 p2 => k v F2 H2 (e1.trans e2) p2
  | false => exact k _ F1 H1 e1 rfl
theorem SP.orV {b c : Bool} (h : SP ta ρ (pBool b)) (h2 : b = false → SP tb ρ (pBool c)) : SP (tOrV ta tb) ρ (pBool (b || c)) := fun σ F H s l Q k => by
  refine h σ F H s l _ fun x F1 H1 e1 p1 => ⟨b, p1, ?_⟩
  cases b with
  | false => exact (h2 rfl) σ F1 H1 e1.s (l.mono e1.f) _ fun v F2 H2 e2 p2 => k v F2 H2 (e1.trans e2) p2
  | true => exact k _ F1 H1 e1 rfl
theorem SP.notV {b : Bool} (h : SP ta ρ (pBool b)) : SP (tNotV ta) ρ (pBool (!b)) := fun σ F H s l Q k => by
  refine h σ F H s l _ fun x F1 H1 e1 p1 => ⟨b, p1, k _ F1 H1 e1 rfl⟩
theorem SP.ife {b : Bool} (h : SPt tt ρ b) (h1 : b = true → SP ta ρ P) (h2 : b = false → SP tb ρ P) : SP (tIf tt ta tb) ρ P := fun σ F H s l Q k => by
  refine h σ F H s l _ fun F1 H1 e1 => ?_
  cases b with
  | true => exact (h1 rfl) σ F1 H1 e1.s (l.mono e1.f) _ fun v F2 H2 e2 p2 => k v F2 H2 (e1.trans e2) p2
  | false => exact (h2 rfl) σ F1 H1 e1.s (l.mono e1.f) _ fun v F2 H2 e2 p2 => k v F2 H2 (e1.trans e2) p2
theorem SP.chain {r r' : R2} {b c : Bool} (ha : SP ta ρ P) (hb : SP tb ρ P') (ho : O2 r P P' (pBool b)) (hc : SP tc ρ P'') (ho' : O2 r' P' P'' (pBool c)) : SP (tChain r r' ta tb tc) ρ (pBool (b && c)) := fun σ F H s l Q k => by
  refine ha σ F H s l _ fun x F1 H1 e1 p1 => ?_
  refine hb σ F1 H1 e1.s (l.mono e1.f) _ fun y F2 H2 e2 p2 => ?_
  refine ho x y F2 H2 e2.s (P.mono e2.f p1) p2 _ fun v F3 H3 e3 p3 => ⟨b, p3, ?_⟩
  cases b with
  | false => exact k _ F3 H3 ((e1.trans e2).trans e3) rfl
  | true =>
    refine hc σ F3 H3 e3.s (l.mono ((e1.trans e2).trans e3).f) _ fun z F4 H4 e4 p4 => ?_
    exact ho' y z F4 H4 e4.s (P'.mono (e3.trans e4).f p2) p4 _ fun v F5 H5 e5 p5 => k v F5 H5 ((((e1.trans e2).trans e3).trans e4).trans e5) p5
end

/-! ### operations by values -/
theorem O2.i0 {g : Int → Int → V} {i j : Int} {P : Pd} (h : ∀ F, P.p (g i j) F) : O2 (rI0 g) (pInt i) (pInt j) P := fun x y F H s hx hy Q k => ⟨i, j, hx, hy, k _ F H (Ex.refl s) (h F)⟩
theorem O2.ic {C : Int → Int → Prop} {g : Int → Int → V} {i j : Int} {P : Pd} (hc : C i j) (h : ∀ F, P.p (g i j) F) : O2 (rI C g) (pInt i) (pInt j) P := fun x y F H s hx hy Q k => ⟨i, j, hx, hy, hc, k _ F H (Ex.refl s) (h F)⟩
theorem O2.ii {g : Int → Int → Int} {i j : Int} : O2 (rI0 fun i j => .int (g i j)) (pInt i) (pInt j) (pInt (g i j)) := O2.i0 fun _ => rfl
theorem O2.ib {g : Int → Int → Bool} {i j : Int} : O2 (rI0 fun i j => .bl (g i j)) (pInt i) (pInt j) (pBool (g i j)) := O2.i0 fun _ => rfl
theorem O2.iic {C : Int → Int → Prop} {g : Int → Int → Int} {i j : Int} (hc : C i j) : O2 (rI C fun i j => .int (g i j)) (pInt i) (pInt j) (pInt (g i j)) := O2.ic hc fun _ => rfl
theorem O2.or1 {r r' : R2} {P P' P'' : Pd} (h : O2 r P P' P'') : O2 (fun x y H Q => r x y H Q ∨ r' x y H Q) P P' P'' := fun x y F H s hx hy Q k => .inl (h x y F H s hx hy Q k)
theorem O2.or2 {r r' : R2} {P P' P'' : Pd} (h : O2 r' P P' P'') : O2 (fun x y H Q => r x y H Q ∨ r' x y H Q) P P' P'' := fun x y F H s hx hy Q k => .inr (h x y F H s hx hy Q k)
theorem O2.eqi {i j : Int} : O2 rEq (pInt i) (pInt j) (pBool (decide (i = j))) := fun x y F H s hx hy Q k => by
  cases hx; cases hy
  refine ⟨rfl, k _ F H (Ex.refl s) ?_⟩
  show V.bl _ = V.bl _
  congr 1
  rw [Bool.eq_iff_iff]
  simp
theorem O2.nei {i j : Int} : O2 rNe (pInt i) (pInt j) (pBool (!decide (i = j))) := fun x y F H s hx hy Q k => by
  cases hx; cases hy
  refine ⟨rfl, k _ F H (Ex.refl s) ?_⟩
  show V.bl _ = V.bl _
  congr 2
  rw [Bool.eq_iff_iff]
  simp

/-! ### sequences -/
theorem SqL.rd {K : PySem.W.Frag} {F H : Hp} {a : Addr} {xs : List V} (s : Same F H) (h : F a = some (.lst xs)) : SqL K H a xs := SqL.of (s _ _ h)
theorem SqT.rd {K : PySem.W.Frag} {F H : Hp} {a : Addr} {xs : List V} (s : Same F H) (h : F a = some (.tup xs)) : SqT K H a xs := SqT.of (s _ _ h)
theorem atI_all {H : Hp} {vs : List V} {Ps : List Pd} (h : All2 vs Ps H) {i : Int} {P : Pd} (e : atI Ps i = some P) : ∃ v, atI vs i = some v ∧ P.p v H := by
  unfold atI at e ⊢
  rw [h.length]
  cases q : ixN Ps.length i with
  | none => rw [q] at e; cases e
  | some j =>
    rw [q] at e
    exact h.get (show Ps[j]? = some P from e)
theorem atI_map {α β : Type} {f : α → β} {xs : List α} {i : Int} : atI (xs.map f) i = (atI xs i).map f := by
  unfold atI
  rw [List.length_map]
  cases ixN xs.length i with
  | none => rfl
  | some j => exact List.getElem?_map
theorem atI_pos {α : Type} {xs : List α} {i : Int} {n : Nat} {x : α} (hi : i = (n : Int)) (h : xs[n]? = some x) : atI xs i = some x := by
  rw [hi]; exact atI_nat h
theorem O2.ixL {K : PySem.W.Frag} {Ps : List Pd} {i : Int} {P : Pd} (h : atI Ps i = some P) : O2 (rIx K) (pLst Ps) (pInt i) P := fun x y F H s hx hy Q k => by
  obtain ⟨a, vs, rfl, h2, h3⟩ := hx
  obtain ⟨v, e, p⟩ := atI_all h3 h
  exact .inl ⟨a, vs, i, v, rfl, hy, SqL.rd s h2, e, k _ F H (Ex.refl s) p⟩
theorem O2.ixT {K : PySem.W.Frag} {Ps : List Pd} {i : Int} {P : Pd} (h : atI Ps i = some P) : O2 (rIx K) (pTup Ps) (pInt i) P := fun x y F H s hx hy Q k => by
  obtain ⟨a, vs, rfl, h2, h3⟩ := hx
  obtain ⟨v, e, p⟩ := atI_all h3 h
  exact .inr (.inl ⟨a, vs, i, v, rfl, hy, SqT.rd s h2, e, k _ F H (Ex.refl s) p⟩)
theorem O2.ixS {K : PySem.W.Frag} {z : Str} {i : Int} {c : Nat} (hz : z.length ≤ 1000) (h : atI z.cps.toList i = some c) : O2 (rIx K) (pStr z) (pInt i) (pStr ⟨#[c]⟩) := fun x y F H s hx hy Q k =>
  .inr (.inr ⟨z, i, c, hx, hy, Nat.le_of_lt (small1000 hz), h, k _ F H (Ex.refl s) rfl⟩)
theorem O2.ixQ {K : PySem.W.Frag} {vs : List V} {i : Int} {v : V} {P : Pd} (h : atI vs i = some v) (hp : ∀ F, P.p v F) : O2 (rIx K) (pSeq K vs) (pInt i) P := fun x y F H s hx hy Q k => by
  obtain ⟨a, rfl, h2⟩ := hx
  exact .inl ⟨a, vs, i, v, rfl, hy, s.seq h2, h, k _ F H (Ex.refl s) (hp F)⟩
theorem On.lenL {K : PySem.W.Frag} {Ps : List Pd} : On (rLen K) [pLst Ps] (pInt Ps.length) := fun xs F H s hx Q k => by
  obtain ⟨x, rfl, a, vs, rfl, h2, h3⟩ := hx.one
  exact ⟨_, vs.length, rfl, Or.inl ⟨vs, SqL.rd s h2, rfl⟩, k _ F H (Ex.refl s) (by rw [h3.length]; exact rfl)⟩
theorem On.lenT {K : PySem.W.Frag} {Ps : List Pd} : On (rLen K) [pTup Ps] (pInt Ps.length) := fun xs F H s hx Q k => by
  obtain ⟨x, rfl, a, vs, rfl, h2, h3⟩ := hx.one
  exact ⟨_, vs.length, rfl, Or.inr ⟨vs, SqT.rd s h2, rfl⟩, k _ F H (Ex.refl s) (by rw [h3.length]; exact rfl)⟩
theorem On.lenQ {K : PySem.W.Frag} {vs : List V} : On (rLen K) [pSeq K vs] (pInt vs.length) := fun xs F H s hx Q k => by
  obtain ⟨x, rfl, a, rfl, h2⟩ := hx.one
  exact ⟨_, vs.length, rfl, Or.inl ⟨vs, s.seq h2, rfl⟩, k _ F H (Ex.refl s) rfl⟩
/-! slices -/
def cutP {α : Type} (xs : List α) (lo hi : Option Int) : List α := (xs.drop (HT.sIx xs.length 0 lo)).take (HT.sIx xs.length xs.length hi - HT.sIx xs.length 0 lo)
theorem cutP_all {H : Hp} {vs : List V} {Ps : List Pd} (h : All2 vs Ps H) (lo hi : Option Int) : All2 (cutV vs lo hi) (cutP Ps lo hi) H := by
  unfold cutV cutP
  rw [h.length]
  exact (h.drop _).take _
theorem cutP_map {α β : Type} {f : α → β} {xs : List α} {lo hi : Option Int} : cutP (xs.map f) lo hi = (cutP xs lo hi).map f := by
  unfold cutP
  rw [List.length_map, List.map_take, List.map_drop]
def SPo (t : TO) (ρ : Rho) (o : Option Int) : Prop := ∀ σ F H, Same F H → Sl ρ σ F → ∀ Q : Option Int → Hp → Prop, (∀ F' H', Ex F H F' H' → Q o H') → t σ H Q
theorem SPo.no {ρ : Rho} : SPo tNoPart ρ none := fun σ F H s l Q k => k F H (Ex.refl s)
theorem SPo.part {ρ : Rho} {te : TE} {i : Int} (h : SP te ρ (pInt i)) : SPo (tPart te) ρ (some i) := fun σ F H s l Q k => h σ F H s l _ fun x F1 H1 e1 p1 => ⟨i, p1, k F1 H1 e1⟩
theorem SP.cut {K : PySem.W.Frag} {ρ : Rho} {te : TE} {tl th : TO} {Ps : List Pd} {lo hi : Option Int} (he : SP te ρ (pLst Ps)) (hl : SPo tl ρ lo) (hh : SPo th ρ hi) : SP (tSl (rSlL K) te tl th) ρ (pLst (cutP Ps lo hi)) := fun σ F H s l Q k => by
  refine he σ F H s l _ fun x F1 H1 e1 p1 => ?_
  refine hl σ F1 H1 e1.s (l.mono e1.f) _ fun F2 H2 e2 => ?_
  refine hh σ F2 H2 e2.s (l.mono (e1.trans e2).f) _ fun F3 H3 e3 => ?_
  obtain ⟨a, vs, rfl, h2, h3⟩ := (pLst Ps).mono (e2.trans e3).f p1
  refine ⟨a, vs, rfl, SqL.rd e3.s h2, fun p hp => ?_⟩
  have e4 := Ex.new e3.s (.lst (cutV vs lo hi)) hp
  exact k _ _ _ (((e1.trans e2).trans e3).trans e4) ⟨p, _, rfl, upd_same, (cutP_all h3 lo hi).mono e4.f⟩
/-! ### targets and iterators -/
/-- the target binds a value that satisfies P -/
def ST (g : TG) (is : List Nat) (ρ : Rho) (P : Pd) (ρ' : Rho) : Prop := ∀ σ F H v, Same F H → Sl ρ σ F → P.p v F → ∀ Q : L2.St → Hp → Prop, (∀ σ', Sl ρ' σ' F → (∀ vs : List Nat, (∀ i ∈ is, i ∈ vs) → wipe σ' vs = wipe σ vs) → Q σ' H) → g v σ H Q
def STs (g : TGs) (is : List Nat) (ρ : Rho) (Ps : List Pd) (ρ' : Rho) : Prop := ∀ σ F H vs, Same F H → Sl ρ σ F → All2 vs Ps F → ∀ Q : L2.St → Hp → Prop, (∀ σ', Sl ρ' σ' F → (∀ ws : List Nat, (∀ i ∈ is, i ∈ ws) → wipe σ' ws = wipe σ ws) → Q σ' H) → g vs σ H Q
theorem set_none_set {α : Type} (l : List (Option α)) (i : Nat) (v : Option α) : (l.set i v).set i none = l.set i none := by
  rw [List.set_set]
theorem wipe_set {σ : L2.St} {i : Nat} {v : Option V} : ∀ {vs : List Nat}, i ∈ vs → wipe (σ.set i v) vs = wipe σ vs
  | [], h => by cases h
  | w :: vs, h => by
    unfold wipe
    by_cases e : i = w
    · subst e
      by_cases hv : i ∈ vs
      · rw [wipe_set hv]
      · have : ∀ {us : List Nat} {τ : L2.St}, i ∉ us → wipe (τ.set i v) us = (wipe τ us).set i v := by
          intro us
          induction us with
          | nil => intro τ _; rfl
          | cons u us ih =>
            intro τ hu
            unfold wipe
            rw [ih (fun m => hu (List.mem_cons_of_mem _ m)), List.set_comm]
            intro q
            exact hu (by rw [q]; exact List.mem_cons_self)
        rw [this hv, List.set_set]
    · have hv : i ∈ vs := by
        rcases List.mem_cons.mp h with h | h
        · exact absurd h e
        · exact h
      rw [wipe_set hv]
theorem ST.name {i : Nat} {ρ : Rho} {P : Pd} : ST (gName i) [i] ρ P (ρ.set i (some P)) := fun σ F H v s l p Q k => k _ (l.set i p) fun vs h => wipe_set (h i List.mem_cons_self)
theorem STs.nil {ρ : Rho} : STs gNil [] ρ [] ρ := fun σ F H vs s l p Q k => by
  match vs, p with
  | [], _ => exact ⟨rfl, k σ l fun _ _ => rfl⟩
theorem STs.cons {g : TG} {gs : TGs} {is js : List Nat} {ρ ρ1 ρ2 : Rho} {P : Pd} {Ps : List Pd} (h : ST g is ρ P ρ1) (hs : STs gs js ρ1 Ps ρ2) : STs (gCons g gs) (is ++ js) ρ (P :: Ps) ρ2 := fun σ F H vs s l p Q k => by
  match vs, p with
  | v :: vs, p =>
    refine ⟨v, vs, rfl, h σ F H v s l p.1 _ fun σ1 l1 w1 => ?_⟩
    refine hs σ1 F H vs s l1 p.2 _ fun σ2 l2 w2 => ?_
    exact k σ2 l2 fun ws hw => (w2 ws fun i hi => hw i (List.mem_append_right _ hi)).trans (w1 ws fun i hi => hw i (List.mem_append_left _ hi))
theorem ST.tup {K : PySem.W.Frag} {n : Nat} {gs : TGs} {is : List Nat} {ρ ρ' : Rho} {Ps : List Pd} (h : STs gs is ρ Ps ρ') (hn : Ps.length = n := by rfl) : ST (gTup K n gs) is ρ (pTup Ps) ρ' := fun σ F H v s l p Q k => by
  obtain ⟨a, vs, rfl, h2, h3⟩ := p
  exact ⟨a, vs, rfl, SqT.rd s h2, by rw [h3.length, hn], h σ F H vs s l h3 Q k⟩
/-- an iterator J gives the items Ps, from a frozen F on -/
structure Walks (J : It) (Ps : List Pd) (F : Hp) : Prop where
  go : ∀ i H, Same F H → i < Ps.length → J.go i H
  yld : ∀ i H x H' P, Same F H → Ps[i]? = some P → J.yld i H x H' → ∃ F', Ex F H F' H' ∧ P.p x F'
  stop : ∀ i H, Same F H → Ps.length ≤ i → J.stop i H
def SI (wi : TI) (ρ : Rho) (Ps : List Pd) : Prop := ∀ σ F H, Same F H → Sl ρ σ F → ∀ R : It → Hp → Prop, (∀ J F' H', Ex F H F' H' → (∀ F'', Same F' F'' → Walks J Ps F'') → R J H') → wi σ H R
theorem SI.list {K : PySem.W.Frag} {ρ : Rho} {te : TE} {Ps : List Pd} (h : SP te ρ (pLst Ps)) : SI (iList K te) ρ Ps := fun σ F H s l R k => by
  refine h σ F H s l _ fun x F1 H1 e1 p1 => ?_
  obtain ⟨a, vs, rfl, h2, h3⟩ := p1
  refine ⟨a, rfl, ⟨vs, SqL.rd e1.s h2⟩, k _ F1 H1 e1 fun F2 s2 => ⟨fun i H s hi => ?_, fun i H x H' P s hP hy => ?_, fun i H s hi => ⟨vs, SqL.rd (s2.trans s) h2, by rw [h3.length]; exact hi⟩⟩⟩
  · have hi' : i < vs.length := by rw [h3.length]; exact hi
    exact ⟨vs, vs[i], SqL.rd (s2.trans s) h2, List.getElem?_eq_getElem hi'⟩
  · obtain ⟨rfl, hy⟩ := hy
    obtain ⟨v, hv, p⟩ := (h3.mono s2).get hP
    have e := hy vs (SqL.rd (s2.trans s) h2)
    rw [hv] at e
    cases e
    exact ⟨F2, Ex.refl s, p⟩
theorem SI.seq {K : PySem.W.Frag} {ρ : Rho} {te : TE} {vs : List V} {Ps : List Pd} (h : SP te ρ (pSeq K vs)) (ha : ∀ F, All2 vs Ps F) : SI (iList K te) ρ Ps := fun σ F H s l R k => by
  refine h σ F H s l _ fun x F1 H1 e1 p1 => ?_
  obtain ⟨a, rfl, h2⟩ := p1
  refine ⟨a, rfl, ⟨vs, e1.s.seq h2⟩, k _ F1 H1 e1 fun F2 s2 => ⟨fun i H s hi => ?_, fun i H x H' P s hP hy => ?_, fun i H s hi => ⟨vs, (s2.trans s).seq h2, by rw [(ha F).length]; exact hi⟩⟩⟩
  · have hi' : i < vs.length := by rw [(ha F).length]; exact hi
    exact ⟨vs, vs[i], (s2.trans s).seq h2, List.getElem?_eq_getElem hi'⟩
  · obtain ⟨rfl, hy⟩ := hy
    obtain ⟨v, hv, p⟩ := (ha F2).get hP
    have e := hy vs ((s2.trans s).seq h2)
    rw [hv] at e
    cases e
    exact ⟨F2, Ex.refl s, p⟩
theorem SI.tup {K : PySem.W.Frag} {ρ : Rho} {te : TE} {Ps : List Pd} (h : SP te ρ (pTup Ps)) : SI (iTup K te) ρ Ps := fun σ F H s l R k => by
  refine h σ F H s l _ fun x F1 H1 e1 p1 => ?_
  obtain ⟨a, vs, rfl, h2, h3⟩ := p1
  refine ⟨a, rfl, ⟨vs, SqT.rd e1.s h2⟩, k _ F1 H1 e1 fun F2 s2 => ⟨fun i H s hi => ?_, fun i H x H' P s hP hy => ?_, fun i H s hi => ⟨vs, SqT.rd (s2.trans s) h2, by rw [h3.length]; exact hi⟩⟩⟩
  · have hi' : i < vs.length := by rw [h3.length]; exact hi
    exact ⟨vs, vs[i], SqT.rd (s2.trans s) h2, List.getElem?_eq_getElem hi'⟩
  · obtain ⟨rfl, hy⟩ := hy
    obtain ⟨v, hv, p⟩ := (h3.mono s2).get hP
    have e := hy vs (SqT.rd (s2.trans s) h2)
    rw [hv] at e
    cases e
    exact ⟨F2, Ex.refl s, p⟩
theorem SI.or1 {w1 w2 : TI} {ρ : Rho} {Ps : List Pd} (h : SI w1 ρ Ps) : SI (fun σ H R => w1 σ H R ∨ w2 σ H R) ρ Ps := fun σ F H s l R k => .inl (h σ F H s l R k)
theorem SI.or2 {w1 w2 : TI} {ρ : Rho} {Ps : List Pd} (h : SI w2 ρ Ps) : SI (fun σ H R => w1 σ H R ∨ w2 σ H R) ρ Ps := fun σ F H s l R k => .inr (h σ F H s l R k)
theorem walks_range {lo : Int} {n : Nat} {F : Hp} : Walks (Itr lo n) ((List.range n).map fun (k : Nat) => pInt (lo + (k : Int))) F where
  go i H s hi := by rw [List.length_map, List.length_range] at hi; exact hi
  yld i H x H' P s hP hy := by
    obtain ⟨rfl, rfl⟩ := hy
    refine ⟨F, Ex.refl s, ?_⟩
    rw [List.getElem?_map] at hP
    cases e : (List.range n)[i]? with
    | none => rw [e] at hP; cases hP
    | some j =>
      rw [e] at hP
      have ej : j = i := by
        obtain ⟨h1, h2⟩ := List.getElem?_eq_some_iff.mp e
        rw [← h2, List.getElem_range]
      cases hP
      rw [ej]
      exact rfl
  stop i H s hi := by rw [List.length_map, List.length_range] at hi; exact hi
theorem SI.range1 {ρ : Rho} {ta : TA} {j : Int} (h : SPa ta ρ [pInt j]) (h1 : -(2 ^ 62) ≤ j) (h2 : j < 2 ^ 62) : SI (iRng1 ta) ρ ((List.range j.toNat).map fun (k : Nat) => pInt (0 + (k : Int))) := fun σ F H s l R k => by
  refine h σ F H s l _ fun xs F1 H1 e1 p1 => ?_
  match xs, p1 with
  | [x], p1 => exact ⟨j, by rw [p1.1], h1, h2, k _ F1 H1 e1 fun F2 s2 => walks_range⟩
theorem SI.range2 {ρ : Rho} {ta : TA} {i j : Int} (h : SPa ta ρ [pInt i, pInt j]) (h1 : -(2 ^ 62) ≤ i ∧ i < 2 ^ 62 ∧ -(2 ^ 62) ≤ j ∧ j < 2 ^ 62) : SI (iRng2 ta) ρ ((List.range (j - i).toNat).map fun (k : Nat) => pInt (i + (k : Int))) := fun σ F H s l R k => by
  refine h σ F H s l _ fun xs F1 H1 e1 p1 => ?_
  match xs, p1 with
  | [x, y], p1 => exact ⟨i, j, by rw [p1.1, p1.2.1], h1, k _ F1 H1 e1 fun F2 s2 => walks_range⟩

/-! ### comprehensions -/
def wipeR (ρ : Rho) : List Nat → Rho
  | [] => ρ
  | v :: vs => (wipeR ρ vs).set v none
theorem Sl.wipe {ρ : Rho} {σ : L2.St} {F : Hp} (l : Sl ρ σ F) : ∀ vs : List Nat, Sl (wipeR ρ vs) (L2.wipe σ vs) F
  | [] => l
  | v :: vs => by
    have ih := Sl.wipe l vs
    unfold wipeR L2.wipe
    refine ⟨by rw [List.length_set, List.length_set, ih.len], fun i P e => ?_⟩
    rw [List.getElem?_set] at e
    by_cases q : v = i
    · rw [if_pos q] at e
      split at e <;> cases e
    · rw [if_neg q] at e
      obtain ⟨u, h1, h2⟩ := ih.at_ i P e
      exact ⟨u, by rw [List.getElem?_set_ne q]; exact h1, h2⟩
theorem wipe_wipe (σ : L2.St) (vs : List Nat) : wipe (wipe σ vs) vs = wipe σ vs := by
  have : ∀ ws : List Nat, (∀ i ∈ ws, i ∈ vs) → wipe (wipe σ ws) vs = wipe σ vs := by
    intro ws
    induction ws with
    | nil => intro _; rfl
    | cons w ws ih =>
      intro h
      show wipe ((wipe σ ws).set w none) vs = _
      rw [wipe_set (h w List.mem_cons_self)]
      exact ih fun i hi => h i (List.mem_cons_of_mem _ hi)
  exact this vs fun _ h => h
theorem SPt.yes {ρ : Rho} : SPt tYes ρ true := fun σ F H s l Q k => k F H (Ex.refl s)
/-- an expression whose value is a list just made -/
def SN (te : TE) (ρ : Rho) (Ps : List Pd) : Prop := ∀ σ F H, Same F H → Sl ρ σ F → ∀ Q : VK, (∀ p vs F' H', Ex F H F' H' → H p = none → F' p = none → H' p = some (.lst vs) → All2 vs Ps F' → Q (.ref p) H') → te σ H Q
theorem SN.sp {te : TE} {ρ : Rho} {Ps : List Pd} (h : SN te ρ Ps) : SP te ρ (pLst Ps) := fun σ F H s l Q k => h σ F H s l Q fun p vs F' H' e hp fp hl al => by
  refine k _ (upd F' p (.lst vs)) H' ⟨e.f.trans (same_new fp), e.h, ?_, fun a ha => ?_⟩ ⟨p, vs, rfl, upd_same, al.mono (same_new fp)⟩
  · intro b o hb
    by_cases q : b = p
    · subst q; rw [upd_same] at hb; rw [← hb]; exact hl
    · rw [upd_ne q] at hb; exact e.s b o hb
  · by_cases q : a = p
    · subst q; exact .inr hp
    · rw [upd_ne q] at ha; exact e.n a ha
theorem SN.to {te : TE} {ρ : Rho} {Ps Qs : List Pd} (h : SN te ρ Ps) (e : Ps = Qs) : SN te ρ Qs := e ▸ h
theorem SN.lst {ρ : Rho} {tl : TA} {Ps : List Pd} (hl : SPa tl ρ Ps) (hn : Ps.length ≤ 1000 := by exact Nat.le_of_ble_eq_true rfl) : SN (tLst tl) ρ Ps := fun σ F H s l Q k => by
  refine hl σ F H s l _ fun xs F1 H1 e1 p1 => ?_
  refine ⟨by rw [p1.length]; exact Nat.le_of_lt (small1000 hn), fun p hp => ?_⟩
  exact k p xs F1 _ ⟨e1.f, e1.h.trans (same_new hp), e1.s.trans (same_new hp), e1.n⟩ (e1.h.free hp) (same_none e1.s hp) upd_same p1
/-- [elt for target in iter if ..] over items e x: p the test, q what the element is -/
theorem SN.lc {α : Type} {ρ : Rho} {wi : TI} {g : TG} {tt : TT} {te : TE} {vs is : List Nat} {e q : α → Pd} {p : α → Bool} {xs : List α} (hi : SI wi ρ (xs.map e)) (his : ∀ i ∈ is, i ∈ vs)
    (ht : ∀ x ∈ xs, ∃ ρ', ST g is (wipeR ρ vs) (e x) ρ' ∧ SPt tt ρ' (p x) ∧ (p x = true → SP te ρ' (q x))) (hn : xs.length ≤ 1000000 := by decide) : SN (tLc wi g tt te vs) ρ ((xs.filter p).map q) := fun σ F H s l Q k => by
  refine hi σ F H s l _ fun J F1 H1 e1 w1 => ?_
  intro D hD
  refine ⟨fun i m H' => m = xs.length - i ∧ i ≤ xs.length ∧ ∃ F' acc, Same F1 F' ∧ Same H1 H' ∧ Same F' H' ∧ F' D = none ∧ H' D = some (.lst acc) ∧ (∀ a, F' a ≠ none → F1 a ≠ none ∨ H1 a = none) ∧ All2 acc (((xs.take i).filter p).map q) F' ∧ acc.length ≤ i,
    ⟨xs.length, rfl, Nat.zero_le _, F1, [], Same.refl _, same_new hD, e1.s.trans (same_new hD), same_none e1.s hD, upd_same, fun a h => .inl h, trivial, Nat.le_refl _⟩, ?_⟩
  rintro i m H2 ⟨hm, hi2, F2, acc, sF, sH, sFH, fD, hDl, fr, al, al2⟩
  have W := w1 F2 sF
  by_cases hlt : i < xs.length
  · refine .inr ⟨W.go i H2 sFH (by simpa using hlt), fun H' => xs.length - (i + 1) < m ∧ ∃ F' acc, Same F1 F' ∧ Same H1 H' ∧ Same F' H' ∧ F' D = none ∧ H' D = some (.lst acc) ∧ (∀ a, F' a ≠ none → F1 a ≠ none ∨ H1 a = none) ∧ All2 acc (((xs.take (i + 1)).filter p).map q) F' ∧ acc.length ≤ i + 1,
      fun H' h => ⟨_, h.1, rfl, hlt, h.2⟩, fun x H' hy => ?_⟩
    have hx : xs[i]? = some xs[i] := List.getElem?_eq_getElem hlt
    obtain ⟨F3, e3, p3⟩ := W.yld i H2 x H' (e xs[i]) sFH (by rw [List.getElem?_map, hx]; rfl) hy
    obtain ⟨ρ', h1, h2, h3⟩ := ht xs[i] (List.getElem_mem hlt)
    refine h1 _ F3 H' x e3.s ((l.mono ((e1.f.trans sF).trans e3.f)).wipe vs) p3 _ fun σ' l' w' => ?_
    refine ⟨by rw [w' vs his, wipe_wipe], ?_⟩
    refine h2 σ' F3 H' e3.s l' _ fun F4 H4 e4 => ?_
    have tk : xs.take (i + 1) = xs.take i ++ [xs[i]] := by rw [List.take_succ, hx]; rfl
    have fD3 : ∀ {F' H'}, Ex F2 H2 F' H' → F' D = none := fun {F' H'} ex => by
      cases q : F' D with
      | none => rfl
      | some o =>
        rcases ex.n D (by rw [q]; exact fun z => by cases z) with z | z
        · exact absurd fD z
        · rw [hDl] at z; cases z
    have frN : ∀ {F' H'}, Ex F2 H2 F' H' → ∀ a, F' a ≠ none → F1 a ≠ none ∨ H1 a = none := fun {F' H'} ex a ha => by
      rcases ex.n a ha with z | z
      · exact fr a z
      · exact .inr (sH.free z)
    cases hp : p xs[i] with
    | false =>
      have ex := e3.trans e4
      refine ⟨by omega, F4, acc, sF.trans ex.f, sH.trans ex.h, ex.s, fD3 ex, ex.h _ _ hDl, frN ex, ?_, by omega⟩
      rw [tk, List.filter_append, List.filter_cons, hp]
      simpa using al.mono ex.f
    | true =>
      refine h3 hp σ' F4 H4 e4.s (l'.mono e4.f) _ fun y F5 H5 e5 p5 => ?_
      have ex := (e3.trans e4).trans e5
      have dl : H5 D = some (.lst acc) := ex.h _ _ hDl
      refine ⟨acc, dl, ?_, by omega, F5, acc ++ [y], sF.trans ex.f, ?_, ?_, fD3 ex, upd_same, frN ex, ?_, ?_⟩
      · refine Nat.lt_of_le_of_lt al2 ?_
        rw [sizeLine_eq]
        omega
      · intro b o hb
        have nb : b ≠ D := fun z => by rw [z, hD] at hb; cases hb
        rw [upd_ne nb]
        exact (sH.trans ex.h) b o hb
      · intro b o hb
        have nb : b ≠ D := fun z => by rw [z, fD3 ex] at hb; cases hb
        rw [upd_ne nb]
        exact ex.s b o hb
      · rw [tk, List.filter_append, List.map_append, List.filter_cons, hp]
        exact (al.mono ex.f).append ⟨p5, trivial⟩
      · rw [List.length_append]
        show acc.length + 1 ≤ i + 1
        omega
  · have ei : i = xs.length := by omega
    refine .inl ⟨W.stop i H2 sFH (by simpa using Nat.le_of_not_lt hlt), ?_⟩
    rw [ei, List.take_length] at al
    exact k D acc F2 H2 ⟨e1.f.trans sF, e1.h.trans sH, sFH, fun a ha => by
      rcases fr a ha with z | z
      · exact e1.n a z
      · exact .inr (e1.h.free z)⟩ (e1.h.free hD) fD hDl al
theorem SP.lc {α : Type} {ρ : Rho} {wi : TI} {g : TG} {tt : TT} {te : TE} {vs is : List Nat} {e q : α → Pd} {p : α → Bool} {xs : List α} (hi : SI wi ρ (xs.map e)) (his : ∀ i ∈ is, i ∈ vs)
    (ht : ∀ x ∈ xs, ∃ ρ', ST g is (wipeR ρ vs) (e x) ρ' ∧ SPt tt ρ' (p x) ∧ (p x = true → SP te ρ' (q x))) (hn : xs.length ≤ 1000000 := by decide) : SP (tLc wi g tt te vs) ρ (pLst ((xs.filter p).map q)) := (SN.lc hi his ht hn).sp
theorem SN.lc0 {α : Type} {ρ : Rho} {wi : TI} {g : TG} {te : TE} {vs is : List Nat} {e q : α → Pd} {xs : List α} (hi : SI wi ρ (xs.map e)) (his : ∀ i ∈ is, i ∈ vs)
    (ht : ∀ x ∈ xs, ∃ ρ', ST g is (wipeR ρ vs) (e x) ρ' ∧ SP te ρ' (q x)) (hn : xs.length ≤ 1000000 := by decide) : SN (tLc wi g tYes te vs) ρ (xs.map q) := by
  have h := SN.lc (p := fun _ => true) (q := q) hi his (fun x hx => by obtain ⟨ρ', h1, h2⟩ := ht x hx; exact ⟨ρ', h1, SPt.yes, fun _ => h2⟩) hn
  rw [List.filter_eq_self.mpr (fun _ _ => rfl)] at h
  exact h
theorem SP.lc0 {α : Type} {ρ : Rho} {wi : TI} {g : TG} {te : TE} {vs is : List Nat} {e q : α → Pd} {xs : List α} (hi : SI wi ρ (xs.map e)) (his : ∀ i ∈ is, i ∈ vs)
    (ht : ∀ x ∈ xs, ∃ ρ', ST g is (wipeR ρ vs) (e x) ρ' ∧ SP te ρ' (q x)) (hn : xs.length ≤ 1000000 := by decide) : SP (tLc wi g tYes te vs) ρ (pLst (xs.map q)) := by
  have h := SP.lc (p := fun _ => true) (q := q) hi his (fun x hx => by obtain ⟨ρ', h1, h2⟩ := ht x hx; exact ⟨ρ', h1, SPt.yes, fun _ => h2⟩) hn
  rw [List.filter_eq_self.mpr (fun _ _ => rfl)] at h
  exact h

/-! ### pieces that are owned -/
structure Ow where
  q : Hp → Hp → Prop
  mono : ∀ {F F' G : Hp}, Same F F' → q F G → q F' G
abbrev Own := List Ow
def oNo : Ow := ⟨fun _ _ => True, fun _ h => h⟩
def oL (p : Addr) (Ps : List Pd) : Ow := ⟨fun F G => ∃ vs, G p = some (.lst vs) ∧ All2 vs Ps F, fun e ⟨vs, h1, h2⟩ => ⟨vs, h1, h2.mono e⟩⟩
def oK (p : Addr) (ks : List Key) (Ps : List Pd) : Ow := ⟨fun F G => ∃ vs : List V, G p = some (.dK (ks.zip vs)) ∧ vs.length = ks.length ∧ All2 vs Ps F, fun e ⟨vs, h1, h2, h3⟩ => ⟨vs, h1, h2, h3.mono e⟩⟩
def oT (p : Addr) (ks : List (List Key)) (Ps : List Pd) : Ow := ⟨fun F G => ∃ vs : List V, G p = some (.dT (ks.zip vs)) ∧ vs.length = ks.length ∧ All2 vs Ps F, fun e ⟨vs, h1, h2, h3⟩ => ⟨vs, h1, h2, h3.mono e⟩⟩
def noH : Hp := fun _ => none
structure Base where
  F : Hp
  H : Hp
  O : Addr → Prop
structure S1 (B : Base) (ρ : Rho) (R : Own) (σ : L2.St) (F H : Hp) (g : Nat → Hp) : Prop where
  s : Same F H
  d : ∀ (i : Nat) (a : Addr) (o : HO), g i a = some o → F a = none ∧ H a = some o
  x : ∀ (i j : Nat) (a : Addr) (o : HO), i ≠ j → g i a = some o → g j a = none
  bf : Same B.F F
  bh : ∀ (a : Addr) (o : HO), B.H a = some o → ¬ B.O a → H a = some o
  bn : ∀ a, F a ≠ none → B.F a ≠ none ∨ B.O a ∨ B.H a = none
  bm : ∀ i a, g i a ≠ none → B.O a ∨ B.H a = none
  l : Sl ρ σ F
  r : ∀ (i : Nat) (O : Ow), R[i]? = some O → O.q F (g i)
  no : ∀ i, R.length ≤ i → g i = noH
def gset (g : Nat → Hp) (k : Nat) (G : Hp) : Nat → Hp := fun i => if i = k then G else g i
theorem gset_same {g : Nat → Hp} {k : Nat} {G : Hp} : gset g k G k = G := by unfold gset; rw [if_pos rfl]
theorem gset_ne {g : Nat → Hp} {k i : Nat} {G : Hp} (h : i ≠ k) : gset g k G i = g i := by unfold gset; rw [if_neg h]
section
variable {B : Base} {ρ : Rho} {R : Own} {σ : L2.St} {F H F' H' : Hp} {g : Nat → Hp}
theorem S1.ex (S : S1 B ρ R σ F H g) (e : Ex F H F' H') : S1 B ρ R σ F' H' g where
  s := e.s
  d := fun i a o h => by
    obtain ⟨h1, h2⟩ := S.d i a o h
    refine ⟨?_, e.h _ _ h2⟩
    cases q : F' a with
    | none => rfl
    | some u =>
      rcases e.n a (by rw [q]; exact fun z => by cases z) with z | z
      · exact absurd h1 z
      · rw [h2] at z; cases z
  x := S.x
  bf := S.bf.trans e.f
  bh := fun a o h n => e.h _ _ (S.bh a o h n)
  bn := fun a ha => by
    rcases e.n a ha with z | z
    · exact S.bn a z
    · by_cases n : B.O a
      · exact .inr (.inl n)
      · refine .inr (.inr ?_)
        cases q : B.H a with
        | none => rfl
        | some o => rw [S.bh a o q n] at z; cases z
  bm := S.bm
  l := S.l.mono e.f
  r := fun i O h => O.mono e.f (S.r i O h)
  no := S.no
theorem S1.set (S : S1 B ρ R σ F H g) (i : Nat) {v : V} {P : Pd} (p : P.p v F) : S1 B (ρ.set i (some P)) R (σ.set i (some v)) F H g :=
  ⟨S.s, S.d, S.x, S.bf, S.bh, S.bn, S.bm, S.l.set i p, S.r, S.no⟩
theorem S1.slots {ρ' : Rho} {σ' : L2.St} (S : S1 B ρ R σ F H g) (l : Sl ρ' σ' F) : S1 B ρ' R σ' F H g :=
  ⟨S.s, S.d, S.x, S.bf, S.bh, S.bn, S.bm, l, S.r, S.no⟩
/-- a new thing that is owned -/
theorem S1.new (S : S1 B ρ R σ F H g) {p : Addr} {o : HO} {O : Ow} (hp : H p = none) (hO : O.q F (upd noH p o)) : S1 B ρ (R ++ [O]) σ F (upd H p o) (gset g R.length (upd noH p o)) where
  s := S.s.trans (same_new hp)
  d := fun i a u h => by
    by_cases e : i = R.length
    · subst e
      rw [gset_same] at h
      by_cases q : a = p
      · subst q
        rw [upd_same] at h
        exact ⟨same_none S.s hp, by rw [upd_same]; exact h⟩
      · rw [upd_ne q] at h
        cases h
    · rw [gset_ne e] at h
      obtain ⟨h1, h2⟩ := S.d i a u h
      exact ⟨h1, by rw [upd_ne (ne_of_none h2 hp)]; exact h2⟩
  x := fun i j a u hij h => by
    by_cases e : i = R.length
    · subst e
      rw [gset_same] at h
      by_cases q : a = p
      · subst q
        rw [gset_ne (Ne.symm hij)]
        cases z : g j a with
        | none => rfl
        | some w => rw [(S.d j a w z).2] at hp; cases hp
      · rw [upd_ne q] at h; cases h
    · rw [gset_ne e] at h
      by_cases e2 : j = R.length
      · subst e2
        rw [gset_same]
        have np : a ≠ p := fun q => by rw [q] at h; rw [(S.d i p u h).2] at hp; cases hp
        rw [upd_ne np]
        rfl
      · rw [gset_ne e2]
        exact S.x i j a u hij h
  bf := S.bf
  bh := fun a u h n => by
    have z := S.bh a u h n
    rw [upd_ne (ne_of_none z hp)]
    exact z
  bn := S.bn
  bm := fun i a h => by
    by_cases e : i = R.length
    · subst e
      rw [gset_same] at h
      by_cases q : a = p
      · subst q
        by_cases n : B.O a
        · exact .inl n
        · refine .inr ?_
          cases z : B.H a with
          | none => rfl
          | some w => rw [S.bh a w z n] at hp; cases hp
      · rw [upd_ne q] at h; exact absurd rfl h
    · rw [gset_ne e] at h
      exact S.bm i a h
  l := S.l
  r := fun i O' h => by
    by_cases e : i < R.length
    · rw [List.getElem?_append_left e] at h
      rw [gset_ne (Nat.ne_of_lt e)]
      exact S.r i O' h
    · have e2 : i = R.length := by
        have := (List.getElem?_eq_some_iff.mp h).1
        rw [List.length_append] at this
        have : i < R.length + 1 := this
        omega
      subst e2
      rw [List.getElem?_append_right (Nat.le_refl _), Nat.sub_self] at h
      cases h
      rw [gset_same]
      exact hO
  no := fun i h => by
    rw [List.length_append] at h
    have h : R.length + 1 ≤ i := h
    rw [gset_ne (by omega)]
    exact S.no i (by omega)
/-- a thing that is there and nobody's becomes a piece -/
theorem S1.add (S : S1 B ρ R σ F H g) {p : Addr} {o : HO} {O : Ow} (hF : F p = none) (hp : H p = some o) (hg : ∀ i, g i p = none) (hB : B.O p ∨ B.H p = none) (hO : O.q F (upd noH p o)) : S1 B ρ (R ++ [O]) σ F H (gset g R.length (upd noH p o)) where
  s := S.s
  d := fun i a u h => by
    by_cases e : i = R.length
    · subst e
      rw [gset_same] at h
      by_cases q : a = p
      · subst q
        rw [upd_same] at h
        exact ⟨hF, by rw [hp]; exact h⟩
      · rw [upd_ne q] at h
        cases h
    · rw [gset_ne e] at h
      exact S.d i a u h
  x := fun i j a u hij h => by
    by_cases e : i = R.length
    · subst e
      rw [gset_same] at h
      by_cases q : a = p
      · subst q
        rw [gset_ne (Ne.symm hij)]
        exact hg j
      · rw [upd_ne q] at h; cases h
    · rw [gset_ne e] at h
      by_cases e2 : j = R.length
      · subst e2
        rw [gset_same]
        have np : a ≠ p := fun q => by rw [q, hg i] at h; cases h
        rw [upd_ne np]
        rfl
      · rw [gset_ne e2]
        exact S.x i j a u hij h
  bf := S.bf
  bh := S.bh
  bn := S.bn
  bm := fun i a h => by
    by_cases e : i = R.length
    · subst e
      rw [gset_same] at h
      by_cases q : a = p
      · subst q; exact hB
      · rw [upd_ne q] at h; exact absurd rfl h
    · rw [gset_ne e] at h
      exact S.bm i a h
  l := S.l
  r := fun i O' h => by
    by_cases e : i < R.length
    · rw [List.getElem?_append_left e] at h
      rw [gset_ne (Nat.ne_of_lt e)]
      exact S.r i O' h
    · have e2 : i = R.length := by
        have := (List.getElem?_eq_some_iff.mp h).1
        rw [List.length_append] at this
        have : i < R.length + 1 := this
        omega
      subst e2
      rw [List.getElem?_append_right (Nat.le_refl _), Nat.sub_self] at h
      cases h
      rw [gset_same]
      exact hO
  no := fun i h => by
    rw [List.length_append] at h
    have h : R.length + 1 ≤ i := h
    rw [gset_ne (by omega)]
    exact S.no i (by omega)
/-- a store into a piece -/
theorem S1.wr (S : S1 B ρ R σ F H g) {k : Nat} {p : Addr} {o u : HO} {O' : Ow} (hp : g k p = some u) (hO : O'.q F (upd (g k) p o)) : S1 B ρ (R.set k O') σ F (upd H p o) (gset g k (upd (g k) p o)) where
  s := fun b w h => by
    have nb : b ≠ p := fun q => by rw [q, (S.d k p u hp).1] at h; cases h
    rw [upd_ne nb]
    exact S.s b w h
  d := fun i a w h => by
    by_cases e : i = k
    · subst e
      rw [gset_same] at h
      by_cases q : a = p
      · subst q
        rw [upd_same] at h
        exact ⟨(S.d i a u hp).1, by rw [upd_same]; exact h⟩
      · rw [upd_ne q] at h
        obtain ⟨h1, h2⟩ := S.d i a w h
        exact ⟨h1, by rw [upd_ne q]; exact h2⟩
    · rw [gset_ne e] at h
      obtain ⟨h1, h2⟩ := S.d i a w h
      have q : a ≠ p := fun q => by rw [q, S.x k i p u (Ne.symm e) hp] at h; cases h
      exact ⟨h1, by rw [upd_ne q]; exact h2⟩
  x := fun i j a w hij h => by
    by_cases e : i = k
    · subst e
      rw [gset_same] at h
      rw [gset_ne (Ne.symm hij)]
      by_cases q : a = p
      · subst q; exact S.x i j a u hij hp
      · rw [upd_ne q] at h; exact S.x i j a w hij h
    · rw [gset_ne e] at h
      by_cases e2 : j = k
      · subst e2
        rw [gset_same]
        have q : a ≠ p := fun q => by rw [q, S.x j i p u (Ne.symm e) hp] at h; cases h
        rw [upd_ne q]
        exact S.x i j a w hij h
      · rw [gset_ne e2]; exact S.x i j a w hij h
  bf := S.bf
  bh := fun a w h n => by
    have q : a ≠ p := fun q => by
      subst q
      rcases S.bm k a (by rw [hp]; exact fun z => by cases z) with z | z
      · exact n z
      · rw [h] at z; cases z
    rw [upd_ne q]
    exact S.bh a w h n
  bn := S.bn
  bm := fun i a h => by
    by_cases e : i = k
    · subst e
      rw [gset_same] at h
      by_cases q : a = p
      · subst q; exact S.bm i a (by rw [hp]; exact fun z => by cases z)
      · rw [upd_ne q] at h; exact S.bm i a h
    · rw [gset_ne e] at h; exact S.bm i a h
  l := S.l
  r := fun i O h => by
    by_cases e : i = k
    · subst e
      rw [List.getElem?_set, if_pos rfl] at h
      split at h
      · cases h
        rw [gset_same]
        exact hO
      · cases h
    · rw [List.getElem?_set_ne (Ne.symm e)] at h
      rw [gset_ne e]
      exact S.r i O h
  no := fun i h => by
    rw [List.length_set] at h
    by_cases e : i = k
    · subst e
      rw [S.no i h] at hp
      cases hp
    · rw [gset_ne e]; exact S.no i h
/-- F with a piece -/
def joinH (F G : Hp) : Hp := fun a => match G a with | some o => some o | none => F a
theorem join_g {F G : Hp} {a : Addr} {o : HO} (h : G a = some o) : joinH F G a = some o := by unfold joinH; rw [h]
theorem join_f {F G : Hp} {a : Addr} (h : G a = none) : joinH F G a = F a := by unfold joinH; rw [h]
theorem S1.same_join (S : S1 B ρ R σ F H g) (k : Nat) : Same F (joinH F (g k)) := fun a o h => by
  cases q : g k a with
  | none => rw [join_f q]; exact h
  | some u => rw [(S.d k a u q).1] at h; cases h
theorem S1.join_same (S : S1 B ρ R σ F H g) (k : Nat) : Same (joinH F (g k)) H := fun a o h => by
  cases q : g k a with
  | none => rw [join_f q] at h; exact S.s a o h
  | some u => rw [join_g q] at h; cases h; exact (S.d k a _ q).2
/-- a piece is frozen -/
theorem S1.freeze (S : S1 B ρ R σ F H g) (k : Nat) : S1 B ρ (R.set k oNo) σ (joinH F (g k)) H (gset g k noH) where
  s := S.join_same k
  d := fun i a o h => by
    by_cases e : i = k
    · subst e; rw [gset_same] at h; cases h
    · rw [gset_ne e] at h
      obtain ⟨h1, h2⟩ := S.d i a o h
      exact ⟨by rw [join_f (S.x i k a o e h)]; exact h1, h2⟩
  x := fun i j a o hij h => by
    by_cases e : i = k
    · subst e; rw [gset_same] at h; cases h
    · rw [gset_ne e] at h
      by_cases e2 : j = k
      · subst e2; rw [gset_same]; rfl
      · rw [gset_ne e2]; exact S.x i j a o hij h
  bf := S.bf.trans (S.same_join k)
  bh := S.bh
  bn := fun a h => by
    cases q : g k a with
    | none => rw [join_f q] at h; exact S.bn a h
    | some u =>
      rcases S.bm k a (by rw [q]; exact fun z => by cases z) with z | z
      · exact .inr (.inl z)
      · exact .inr (.inr z)
  bm := fun i a h => by
    by_cases e : i = k
    · subst e; rw [gset_same] at h; exact absurd rfl h
    · rw [gset_ne e] at h; exact S.bm i a h
  l := S.l.mono (S.same_join k)
  r := fun i O h => by
    by_cases e : i = k
    · subst e
      rw [List.getElem?_set, if_pos rfl] at h
      split at h
      · cases h; exact trivial
      · cases h
    · rw [List.getElem?_set_ne (Ne.symm e)] at h
      rw [gset_ne e]
      exact O.mono (S.same_join k) (S.r i O h)
  no := fun i h => by
    rw [List.length_set] at h
    by_cases e : i = k
    · subst e; rw [gset_same]
    · rw [gset_ne e]; exact S.no i h
end

/-! ### expressions and statements over a state -/
def SE (B : Base) (te : TE) (ρ : Rho) (R : Own) (Φ : Pd → Own → Prop) : Prop :=
  ∀ σ F H g, S1 B ρ R σ F H g → ∀ Q : VK, (∀ P R' v F' H' g', Φ P R' → P.p v F' → Same F F' → S1 B ρ R' σ F' H' g' → Q v H') → te σ H Q
def SEa (B : Base) (ta : TA) (ρ : Rho) (R : Own) (Φ : List Pd → Own → Prop) : Prop :=
  ∀ σ F H g, S1 B ρ R σ F H g → ∀ Q : List V → Hp → Prop, (∀ Ps R' vs F' H' g', Φ Ps R' → All2 vs Ps F' → Same F F' → S1 B ρ R' σ F' H' g' → Q vs H') → ta σ H Q
def SEt (B : Base) (tt : TT) (ρ : Rho) (R : Own) (Φ : Bool → Own → Prop) : Prop :=
  ∀ σ F H g, S1 B ρ R σ F H g → ∀ Q : Bool → Hp → Prop, (∀ b R' F' H' g', Φ b R' → Same F F' → S1 B ρ R' σ F' H' g' → Q b H') → tt σ H Q
structure DE where
  nx : Rho → Own → Prop
  rt : Pd → Own → Prop
  bk : Rho → Own → Prop := fun _ _ => False
  ct : Rho → Own → Prop := fun _ _ => False
def SS (B : Base) (t : TS) (ρ : Rho) (R : Own) (D : DE) : Prop :=
  ∀ σ F H g (C : Ends), S1 B ρ R σ F H g → (∀ ρ' R' σ' F' H' g', D.nx ρ' R' → Same F F' → S1 B ρ' R' σ' F' H' g' → C.nx σ' H') → (∀ P R' v ρ' σ' F' H' g', D.rt P R' → P.p v F' → S1 B ρ' R' σ' F' H' g' → C.rt v H') →
    (∀ ρ' R' σ' F' H' g', D.bk ρ' R' → Same F F' → S1 B ρ' R' σ' F' H' g' → C.bk σ' H') → (∀ ρ' R' σ' F' H' g', D.ct ρ' R' → Same F F' → S1 B ρ' R' σ' F' H' g' → C.ct σ' H') → t C σ H
section
variable {B : Base} {ρ : Rho} {R : Own} {D : DE} {te ta tb : TE} {tl : TA} {tt tu : TT} {t u : TS}
theorem SE.pure {P : Pd} {Φ : Pd → Own → Prop} (h : SP te ρ P) (hp : Φ P R) : SE B te ρ R Φ := fun σ F H g S Q k =>
  h σ F H S.s S.l Q fun v F' H' e p => k P R v F' H' g hp p e.f (S.ex e)
theorem SEa.pure {Ps : List Pd} {Φ : List Pd → Own → Prop} (h : SPa tl ρ Ps) (hp : Φ Ps R) : SEa B tl ρ R Φ := fun σ F H g S Q k =>
  h σ F H S.s S.l Q fun v F' H' e p => k Ps R v F' H' g hp p e.f (S.ex e)
theorem SEt.pure {b : Bool} {Φ : Bool → Own → Prop} (h : SPt tt ρ b) (hp : Φ b R) : SEt B tt ρ R Φ := fun σ F H g S Q k =>
  h σ F H S.s S.l Q fun F' H' e => k b R F' H' g hp e.f (S.ex e)
theorem SE.imp {Φ Ψ : Pd → Own → Prop} (h : SE B te ρ R Φ) (e : ∀ P R, Φ P R → Ψ P R) : SE B te ρ R Ψ := fun σ F H g S Q k => h σ F H g S Q fun P R' v F' H' g' hp => k P R' v F' H' g' (e _ _ hp)
theorem SEa.nil {Φ : List Pd → Own → Prop} (h : Φ [] R) : SEa B tNil ρ R Φ := SEa.pure SPa.nil h
theorem SEa.cons {Φ : List Pd → Own → Prop} (h : SE B te ρ R fun P R1 => SEa B tl ρ R1 fun Ps R2 => Φ (P :: Ps) R2) : SEa B (tCons te tl) ρ R Φ := fun σ F H g S Q k => by
  refine h σ F H g S _ fun P R1 v F1 H1 g1 h1 p1 f1 S1 => ?_
  refine h1 σ F1 H1 g1 S1 _ fun Ps R2 vs F2 H2 g2 h2 p2 f2 S2 => ?_
  exact k _ R2 _ F2 H2 g2 h2 ⟨P.mono f2 p1, p2⟩ (f1.trans f2) S2
theorem SE.op {r : R2} {Φ : Pd → Own → Prop} (h : SE B ta ρ R fun P R1 => SE B tb ρ R1 fun P' R2 => ∃ P'', O2 r P P' P'' ∧ Φ P'' R2) : SE B (tOp r ta tb) ρ R Φ := fun σ F H g S Q k => by
  refine h σ F H g S _ fun P R1 x F1 H1 g1 h1 p1 f1 S1 => ?_
  refine h1 σ F1 H1 g1 S1 _ fun P' R2 y F2 H2 g2 h2 p2 f2 S2 => ?_
  obtain ⟨P'', ho, hp⟩ := h2
  exact ho x y F2 H2 S2.s (P.mono f2 p1) p2 _ fun v F3 H3 e3 p3 => k P'' R2 v F3 H3 g2 hp p3 ((f1.trans f2).trans e3.f) (S2.ex e3)
theorem SE.cb {r : List V → Hp → VK → Prop} {Φ : Pd → Own → Prop} (h : SEa B tl ρ R fun Ps R1 => ∃ P, On r Ps P ∧ Φ P R1) : SE B (tCB r tl) ρ R Φ := fun σ F H g S Q k => by
  refine h σ F H g S _ fun Ps R1 xs F1 H1 g1 h1 p1 f1 S1 => ?_
  obtain ⟨P, ho, hp⟩ := h1
  exact ho xs F1 H1 S1.s p1 _ fun v F3 H3 e3 p3 => k P R1 v F3 H3 g1 hp p3 (f1.trans e3.f) (S1.ex e3)
theorem SE.tup {Φ : Pd → Own → Prop} (h : SEa B tl ρ R fun Ps R1 => Ps.length ≤ 1000 ∧ Φ (pTup Ps) R1) : SE B (tTup tl) ρ R Φ := fun σ F H g S Q k => by
  refine h σ F H g S _ fun Ps R1 xs F1 H1 g1 h1 p1 f1 S1 => ?_
  refine ⟨by rw [p1.length]; exact Nat.le_of_lt (small1000 h1.1), fun p hp => ?_⟩
  have e2 := Ex.new S1.s (.tup xs) hp
  exact k _ R1 _ _ _ g1 h1.2 ⟨p, xs, rfl, upd_same, p1.mono e2.f⟩ (f1.trans e2.f) (S1.ex e2)
theorem SEt.val {Φ : Bool → Own → Prop} (h : SE B ta ρ R fun P R1 => ∃ b, P = pBool b ∧ Φ b R1) : SEt B (tB ta) ρ R Φ := fun σ F H g S Q k => by
  refine h σ F H g S _ fun P R1 x F1 H1 g1 h1 p1 f1 S1 => ?_
  obtain ⟨b, rfl, hb⟩ := h1
  exact ⟨b, p1, k b R1 F1 H1 g1 hb f1 S1⟩
theorem SEt.test {Φ : Bool → Own → Prop} (h : SE B ta ρ R fun P R1 => ∃ b, P = pBool b ∧ Φ b R1) : SEt B (tTest ta) ρ R Φ := fun σ F H g S Q k => by
  refine h σ F H g S _ fun P R1 x F1 H1 g1 h1 p1 f1 S1 => ?_
  obtain ⟨b, rfl, hb⟩ := h1
  exact ⟨b, p1, k b R1 F1 H1 g1 hb f1 S1⟩
theorem SEt.not {Φ : Bool → Own → Prop} (h : SEt B tt ρ R fun b R1 => Φ (!b) R1) : SEt B (tNot tt) ρ R Φ := fun σ F H g S Q k => h σ F H g S _ fun b R1 F1 H1 g1 h1 f1 S1 => k _ R1 F1 H1 g1 h1 f1 S1
/-- a piece is looked at as if it were frozen: what comes out may not lean on it -/
def Flat (P : Pd) : Prop := ∀ v F F', P.p v F → P.p v F'
theorem Flat.int {i : Int} : Flat (pInt i) := fun _ _ _ h => h
theorem Flat.bool {i : Bool} : Flat (pBool i) := fun _ _ _ h => h
theorem SE.borrow {P : Pd} {Φ : Pd → Own → Prop} {ρ' : Rho} {k : Nat} (hl : ∀ (σ : L2.St) (F G : Hp) (O : Ow), R[k]? = some O → O.q F G → Sl ρ σ F → (∀ a o, G a = some o → F a = none) → Sl ρ' σ (joinH F G)) (hk : k < R.length) (h : SP te ρ' P) (hf : Flat P) (hp : Φ P R) : SE B te ρ R Φ := fun σ F H g S Q kk => by
  have hR : R[k]? = some R[k] := List.getElem?_eq_getElem hk
  have l' := hl σ F (g k) R[k] hR (S.r k _ hR) S.l fun a o e => (S.d k a o e).1
  refine h σ _ H (S.join_same k) l' Q fun v F' H' e p => ?_
  have e' : Ex F H F H' := ⟨Same.refl _, e.h, S.s.trans e.h, fun a ha => .inl ha⟩
  exact kk P R v F H' g hp (hf v _ _ p) (Same.refl _) (S.ex e')
/-! statements -/
theorem SS.nil (h : D.nx ρ R) : SS B tNext ρ R D := fun σ F H g C S k1 _ _ _ => k1 ρ R σ F H g h (Same.refl _) S
theorem SS.seq (h : SS B t ρ R { D with nx := fun ρ' R' => SS B u ρ' R' D }) : SS B (tSeq t u) ρ R D := fun σ F H g C S k1 k2 k3 k4 =>
  h σ F H g { C with nx := u C } S (fun ρ' R' σ' F' H' g' q f S' => q σ' F' H' g' C S' (fun a b c d e i x y => k1 a b c d e i x (f.trans y)) k2 (fun a b c d e i x y => k3 a b c d e i x (f.trans y)) (fun a b c d e i x y => k4 a b c d e i x (f.trans y))) k2 k3 k4
theorem SS.imp {D' : DE} (h : SS B t ρ R D) (h1 : ∀ ρ R, D.nx ρ R → D'.nx ρ R) (h2 : ∀ P R, D.rt P R → D'.rt P R) (h3 : ∀ ρ R, D.bk ρ R → D'.bk ρ R) (h4 : ∀ ρ R, D.ct ρ R → D'.ct ρ R) : SS B t ρ R D' := fun σ F H g C S k1 k2 k3 k4 =>
  h σ F H g C S (fun ρ' R' σ' F' H' g' q => k1 ρ' R' σ' F' H' g' (h1 _ _ q)) (fun P R' v ρ' σ' F' H' g' q => k2 P R' v ρ' σ' F' H' g' (h2 _ _ q)) (fun ρ' R' σ' F' H' g' q => k3 ρ' R' σ' F' H' g' (h3 _ _ q)) (fun ρ' R' σ' F' H' g' q => k4 ρ' R' σ' F' H' g' (h4 _ _ q))
theorem SS.brk (h : D.bk ρ R) : SS B tBreak ρ R D := fun σ F H g C S _ _ k3 _ => k3 ρ R σ F H g h (Same.refl _) S
theorem SS.cont (h : D.ct ρ R) : SS B tCont ρ R D := fun σ F H g C S _ _ _ k4 => k4 ρ R σ F H g h (Same.refl _) S
theorem SS.asgE {g' : TG} {is : List Nat} (h : SE B te ρ R fun P R1 => ∃ ρ1, ST g' is ρ P ρ1 ∧ D.nx ρ1 R1) : SS B (tAsg te g') ρ R D := fun σ F H g C S k1 k2 k3 k4 => by
  refine h σ F H g S _ fun P R1 v F1 H1 g1 h1 p1 f1 S1 => ?_
  obtain ⟨ρ1, hT, hn⟩ := h1
  exact hT σ F1 H1 v S1.s S1.l p1 _ fun σ' l' _ => k1 ρ1 R1 σ' F1 H1 g1 hn f1 (S1.slots l')
theorem SS.asg {i : Nat} {P : Pd} (h : SP te ρ P) (hn : D.nx (ρ.set i (some P)) R) : SS B (tAsg te (gName i)) ρ R D := SS.asgE (is := [i]) (SE.pure h ⟨_, ST.name, hn⟩)
theorem SS.asgT {g' : TG} {is : List Nat} {P : Pd} {ρ1 : Rho} (h : SP te ρ P) (hT : ST g' is ρ P ρ1) (hn : D.nx ρ1 R) : SS B (tAsg te g') ρ R D := SS.asgE (is := is) (SE.pure h ⟨_, hT, hn⟩)
theorem SS.set {i : Nat} (h : SE B te ρ R fun P R1 => D.nx (ρ.set i (some P)) R1) : SS B (tAsg te (gName i)) ρ R D := SS.asgE (is := [i]) (h.imp fun P R1 q => ⟨_, ST.name, q⟩)
theorem SS.drop (h : SE B te ρ R fun _ R1 => D.nx ρ R1) : SS B (tDrop te) ρ R D := fun σ F H g C S k1 _ _ _ => h σ F H g S _ fun P R1 v F1 H1 g1 h1 p1 f1 S1 => k1 ρ R1 σ F1 H1 g1 h1 f1 S1
theorem SS.ret (h : SE B te ρ R fun P R1 => D.rt P R1) : SS B (tRet te) ρ R D := fun σ F H g C S _ k2 _ _ => h σ F H g S _ fun P R1 v F1 H1 g1 h1 p1 f1 S1 => k2 P R1 v ρ σ F1 H1 g1 h1 p1 S1
theorem SS.retP {P : Pd} (h : SP te ρ P) (hr : D.rt P R) : SS B (tRet te) ρ R D := SS.ret (SE.pure h hr)
theorem SS.retN (h : D.rt pNon R) : SS B tRetN ρ R D := fun σ F H g C S _ k2 _ _ => k2 pNon R .non ρ σ F H g h rfl S
theorem SS.ifE (h : SEt B tt ρ R fun b R1 => (b = true → SS B t ρ R1 D) ∧ (b = false → SS B u ρ R1 D)) : SS B (tIfS tt t u) ρ R D := fun σ F H g C S k1 k2 k3 k4 => by
  refine h σ F H g S _ fun b R1 F1 H1 g1 h1 f1 S1 => ?_
  cases b with
  | true => exact (h1.1 rfl) σ F1 H1 g1 C S1 (fun a b c d e i x y => k1 a b c d e i x (f1.trans y)) k2 (fun a b c d e i x y => k3 a b c d e i x (f1.trans y)) (fun a b c d e i x y => k4 a b c d e i x (f1.trans y))
  | false => exact (h1.2 rfl) σ F1 H1 g1 C S1 (fun a b c d e i x y => k1 a b c d e i x (f1.trans y)) k2 (fun a b c d e i x y => k3 a b c d e i x (f1.trans y)) (fun a b c d e i x y => k4 a b c d e i x (f1.trans y))
theorem SS.ite {b : Bool} (h : SPt tt ρ b) (h1 : b = true → SS B t ρ R D) (h2 : b = false → SS B u ρ R D) : SS B (tIfS tt t u) ρ R D := SS.ifE (SEt.pure h ⟨h1, h2⟩)
theorem SS.aug {i : Nat} {ti : TIp} {P P' P'' : Pd} (hv : ρ[i]? = some (some P)) (h : SP te ρ P') (ho : O2 ti P P' P'') (hn : D.nx (ρ.set i (some P'')) R) : SS B (tAug i te ti) ρ R D := fun σ F H g C S k1 k2 k3 k4 => by
  obtain ⟨x, h1, p⟩ := S.l.at_ i P hv
  refine ⟨x, h1, h σ F H S.s S.l _ fun y F1 H1 e1 p1 => ?_⟩
  exact ho x y F1 H1 e1.s (P.mono e1.f p) p1 _ fun z F2 H2 e2 p2 => k1 _ R _ F2 H2 g hn (e1.trans e2).f ((S.ex (e1.trans e2)).set i p2)
/-- what is known is forgotten, weakened -/
theorem SS.weak {ρ' : Rho} (hl : ρ'.length = ρ.length) (h : ∀ (i : Nat) (P : Pd), ρ'[i]? = some (some P) → ∃ P' : Pd, ρ[i]? = some (some P') ∧ ∀ v F, P'.p v F → P.p v F) (k : SS B t ρ' R D) : SS B t ρ R D := fun σ F H g C S => k σ F H g C (S.slots (S.l.forget hl h))
/-! loops -/
theorem SS.for {wi : TI} {g' : TG} {Ps : List Pd} {is : List Nat} (hi : SI wi ρ Ps) (I : Nat → Rho → Own → Prop) (h0 : I 0 ρ R)
    (ht : ∀ i P ρ R, Ps[i]? = some P → I i ρ R → ∃ ρ1, ST g' is ρ P ρ1 ∧ SS B t ρ1 R { D with nx := I (i + 1), ct := I (i + 1), bk := D.nx }) (hd : ∀ ρ R, I Ps.length ρ R → D.nx ρ R) : SS B (tFor wi g' t) ρ R D := fun σ F H g C S k1 k2 k3 k4 => by
  refine hi σ F H S.s S.l _ fun J F1 H1 e1 w1 => ?_
  refine ⟨fun i m σ' H' => m = Ps.length - i ∧ i ≤ Ps.length ∧ ∃ ρ' R' F' g', I i ρ' R' ∧ Same F1 F' ∧ S1 B ρ' R' σ' F' H' g', ⟨_, rfl, Nat.zero_le _, ρ, R, F1, g, h0, Same.refl _, S.ex e1⟩, ?_⟩
  rintro i m σ2 H2 ⟨rfl, hi2, ρ2, R2, F2, g2, I2, s2, S2⟩
  have W := w1 F2 s2
  by_cases hlt : i < Ps.length
  · refine .inr ⟨W.go i H2 S2.s hlt, fun σ' H' => ∃ ρ' R' F' g', I (i + 1) ρ' R' ∧ Same F1 F' ∧ S1 B ρ' R' σ' F' H' g', fun σ' H' h => ⟨Ps.length - (i + 1), by omega, rfl, hlt, h⟩, fun x H' hy => ?_⟩
    obtain ⟨F3, e3, p3⟩ := W.yld i H2 x H' Ps[i] S2.s (List.getElem?_eq_getElem hlt) hy
    obtain ⟨ρ1, hT, hb⟩ := ht i Ps[i] ρ2 R2 (List.getElem?_eq_getElem hlt) I2
    have S3 := S2.ex e3
    refine hT σ2 F3 H' x S3.s S3.l p3 _ fun σ4 l4 _ => ?_
    have f3 := s2.trans e3.f
    exact hb σ4 F3 H' g2 _ (S3.slots l4) (fun ρ' R' σ' F' H'' g' q f S' => ⟨ρ', R', F', g', q, f3.trans f, S'⟩) k2 (fun ρ' R' σ' F' H'' g' q f S' => k1 ρ' R' σ' F' H'' g' q ((e1.f.trans f3).trans f) S') (fun ρ' R' σ' F' H'' g' q f S' => ⟨ρ', R', F', g', q, f3.trans f, S'⟩)
  · have e : i = Ps.length := by omega
    subst e
    exact .inl ⟨W.stop _ H2 S2.s (Nat.le_refl _), k1 ρ2 R2 σ2 F2 H2 g2 (hd _ _ I2) (e1.f.trans s2) S2⟩
end
section
variable {B : Base} {ρ : Rho} {R : Own} {D : DE} {te ta tb : TE} {tl : TA} {tt tu : TT} {t u : TS}
/-- a while: I holds at every test; μ falls with every turn -/
theorem SS.while (I : Nat → Rho → Own → Prop) (n : Nat) (h0 : I n ρ R) (ht : ∀ n ρ R, I n ρ R → SEt B tt ρ R fun b R1 => (b = false → D.nx ρ R1) ∧ (b = true → SS B t ρ R1 { D with nx := fun ρ' R' => ∃ m, m < n ∧ I m ρ' R', ct := fun ρ' R' => ∃ m, m < n ∧ I m ρ' R', bk := D.nx })) : SS B (tWhile tt t) ρ R D := fun σ F H g C S k1 k2 k3 k4 => by
  refine ⟨fun m σ' H' => ∃ ρ' R' F' g', I m ρ' R' ∧ Same F F' ∧ S1 B ρ' R' σ' F' H' g', ⟨n, ρ, R, F, g, h0, Same.refl _, S⟩, ?_⟩
  rintro m σ2 H2 ⟨ρ2, R2, F2, g2, I2, s2, S2⟩
  refine ht m ρ2 R2 I2 σ2 F2 H2 g2 S2 _ fun b R3 F3 H3 g3 h3 f3 S3 => ?_
  cases b with
  | false => exact k1 ρ2 R3 σ2 F3 H3 g3 (h3.1 rfl) (s2.trans f3) S3
  | true =>
    refine ⟨fun σ' H' => ∃ m', m' < m ∧ ∃ ρ' R' F' g', I m' ρ' R' ∧ Same F F' ∧ S1 B ρ' R' σ' F' H' g', fun σ' H' h => h, ?_⟩
    exact (h3.2 rfl) σ2 F3 H3 g3 _ S3 (fun ρ' R' σ' F' H' g' q f S' => by obtain ⟨m', hm, q⟩ := q; exact ⟨m', hm, ρ', R', F', g', q, (s2.trans f3).trans f, S'⟩) k2 (fun ρ' R' σ' F' H' g' q f S' => k1 ρ' R' σ' F' H' g' q ((s2.trans f3).trans f) S')
      (fun ρ' R' σ' F' H' g' q f S' => by obtain ⟨m', hm, q⟩ := q; exact ⟨m', hm, ρ', R', F', g', q, (s2.trans f3).trans f, S'⟩)
/-! lists that are owned -/
theorem SS.newL {i : Nat} (h : ∀ p, D.nx (ρ.set i (some (pRef p))) (R ++ [oL p []])) : SS B (tAsg (tLst tNil) (gName i)) ρ R D := fun σ F H g C S k1 k2 k3 k4 => by
  refine ⟨Nat.zero_le _, fun p hp => ?_⟩
  exact k1 _ _ _ F _ _ (h p) (Same.refl _) ((S.new (O := oL p []) hp ⟨[], upd_same, trivial⟩).set i rfl)
theorem SS.newLs {i : Nat} {Ps : List Pd} (ha : SPa tl ρ Ps) (hn : Ps.length ≤ 1000) (h : ∀ p, D.nx (ρ.set i (some (pRef p))) (R ++ [oL p Ps])) : SS B (tAsg (tLst tl) (gName i)) ρ R D := fun σ F H g C S k1 k2 k3 k4 => by
  refine ha σ F H S.s S.l _ fun vs F1 H1 e1 p1 => ?_
  refine ⟨by rw [p1.length]; exact Nat.le_of_lt (small1000 hn), fun p hp => ?_⟩
  exact k1 _ _ _ F1 _ _ (h p) e1.f (((S.ex e1).new (O := oL p Ps) hp ⟨vs, upd_same, p1⟩).set i rfl)
/-- a list just made is owned from here on -/
theorem SS.asgN {i : Nat} {Ps : List Pd} (h : SN te ρ Ps) (hn : ∀ p, D.nx (ρ.set i (some (pRef p))) (R ++ [oL p Ps])) : SS B (tAsg te (gName i)) ρ R D := fun σ F H g C S k1 k2 k3 k4 => by
  refine h σ F H S.s S.l _ fun p vs F' H' e hp fp hl al => ?_
  have S2 := S.ex e
  have S3 := S2.add (O := oL p Ps) fp hl (fun i => by
    cases q : g i p with
    | none => rfl
    | some o => rw [(S.d i p o q).2] at hp; cases hp) (by
    by_cases n : B.O p
    · exact .inl n
    · refine .inr ?_
      cases q : B.H p with
      | none => rfl
      | some o => rw [S.bh p o q n] at hp; cases hp) ⟨vs, upd_same, al⟩
  exact k1 _ _ _ F' _ _ (hn p) e.f (S3.set i rfl)
theorem SE.append {K : PySem.W.Frag} {i k : Nat} {p : Addr} {Ps : List Pd} {Φ : Pd → Own → Prop} (hv : ρ[i]? = some (some (pRef p))) (h0 : R[k]? = some (oL p Ps))
    (h : SEa B tl ρ R fun Qs R1 => ∃ P Ps, Qs = [P] ∧ R1[k]? = some (oL p Ps) ∧ Ps.length ≤ 1000000 ∧ Φ pNon (R1.set k (oL p (Ps ++ [P])))) : SE B (tBM K "list" rAppend (tVar i) tl) ρ R Φ := fun σ F H g S Q kk => by
  obtain ⟨x, h1, hx⟩ := S.l.at_ i _ hv
  have hx : x = .ref p := hx
  subst hx
  obtain ⟨vs0, g0, _⟩ := S.r k _ h0
  refine ⟨_, h1, Or.inl ⟨rfl, _, SqL.of (S.d k p _ g0).2⟩, ?_⟩
  refine h σ F H g S _ fun Qs R1 ws F1 H1 g1 q1 p1 f1 S1 => ?_
  obtain ⟨P, Ps', rfl, hR, hn, hp⟩ := q1
  obtain ⟨y, rfl, py⟩ := p1.one
  obtain ⟨vs, gv, av⟩ := S1.r k _ hR
  refine ⟨p, vs, y, rfl, rfl, (S1.d k p _ gv).2, ?_, ?_⟩
  · rw [av.length, sizeLine_eq]; omega
  · exact kk pNon _ .non F1 _ _ hp rfl f1 (S1.wr gv ⟨_, upd_same, av.append ⟨py, trivial⟩⟩)
theorem SE.appendP {K : PySem.W.Frag} {i k : Nat} {p : Addr} {Ps : List Pd} {P : Pd} {Φ : Pd → Own → Prop} (hv : ρ[i]? = some (some (pRef p))) (h0 : R[k]? = some (oL p Ps)) (ha : SP ta ρ P) (hn : Ps.length ≤ 1000000) (hp : Φ pNon (R.set k (oL p (Ps ++ [P])))) :
    SE B (tBM K "list" rAppend (tVar i) (tCons ta tNil)) ρ R Φ := SE.append hv h0 (SEa.pure (SPa.cons ha SPa.nil) ⟨P, Ps, rfl, h0, hn, hp⟩)
/-- xs.extend(ys), ys frozen -/
theorem SE.extendP {K : PySem.W.Frag} {i k : Nat} {p : Addr} {Ps Qs : List Pd} {Φ : Pd → Own → Prop} (hv : ρ[i]? = some (some (pRef p))) (h0 : R[k]? = some (oL p Ps)) (ha : SP ta ρ (pLst Qs)) (hn : Ps.length + Qs.length ≤ 1000000) (hp : Φ pNon (R.set k (oL p (Ps ++ Qs)))) :
    SE B (tBM K "list" rExtend (tVar i) (tCons ta tNil)) ρ R Φ := fun σ F H g S Q kk => by
  obtain ⟨x, h1, hx⟩ := S.l.at_ i _ hv
  have hx : x = .ref p := hx
  subst hx
  obtain ⟨vs0, g0, _⟩ := S.r k _ h0
  refine ⟨_, h1, Or.inl ⟨rfl, _, SqL.of (S.d k p _ g0).2⟩, ?_⟩
  refine ha σ F H S.s S.l _ fun y F1 H1 e1 p1 => ?_
  obtain ⟨b, ws, rfl, hb, aw⟩ := p1
  have S1 := S.ex e1
  obtain ⟨vs, gv, av⟩ := S1.r k _ h0
  refine ⟨p, b, vs, ws, rfl, rfl, (S1.d k p _ gv).2, S1.s _ _ hb, ?_, ?_⟩
  · rw [av.length, aw.length, sizeLine_eq]; omega
  · exact kk pNon _ .non F1 _ _ hp rfl e1.f (S1.wr gv ⟨_, upd_same, av.append aw⟩)
/-- an owned list is frozen; its name holds a list from here on -/
theorem SS.freezeL {i k : Nat} {p : Addr} {Ps : List Pd} (hv : ρ[i]? = some (some (pRef p))) (h0 : R[k]? = some (oL p Ps)) (h : SS B t (ρ.set i (some (pLst Ps))) (R.set k oNo) D) : SS B t ρ R D := fun σ F H g C S k1 k2 k3 k4 => by
  obtain ⟨x, h1, hx⟩ := S.l.at_ i _ hv
  have hx : x = .ref p := hx
  subst hx
  obtain ⟨vs, gv, av⟩ := S.r k _ h0
  have S2 := S.freeze k
  have e : σ.set i (some (V.ref p)) = σ := by
    refine List.ext_getElem? fun j => ?_
    rw [List.getElem?_set]
    by_cases q : i = j
    · subst q
      obtain ⟨hl, _⟩ := List.getElem?_eq_some_iff.mp h1
      rw [if_pos rfl, if_pos hl, h1]
    · rw [if_neg q]
  have S3 := S2.set (v := V.ref p) (P := pLst Ps) i ⟨p, vs, rfl, join_g gv, av.mono (S.same_join k)⟩
  rw [e] at S3
  exact h σ _ H _ C S3 (fun a b c d e i x y => k1 a b c d e i x ((S.same_join k).trans y)) k2 (fun a b c d e i x y => k3 a b c d e i x ((S.same_join k).trans y)) (fun a b c d e i x y => k4 a b c d e i x ((S.same_join k).trans y))
theorem SS.retL {i k : Nat} {p : Addr} {Ps : List Pd} (hv : ρ[i]? = some (some (pRef p))) (h0 : R[k]? = some (oL p Ps)) (h : D.rt (pLst Ps) (R.set k oNo)) : SS B (tRet (tVar i)) ρ R D :=
  SS.freezeL hv h0 (SS.retP (SP.var (by
    have hl : i < ρ.length := (List.getElem?_eq_some_iff.mp hv).1
    rw [List.getElem?_set, if_pos rfl, if_pos hl])) h)
end

/-! ### defs -/
/-- a pure def: A the arguments, ok what a caller must show, r the result -/
def spP {α : Type} (A : α → List Pd) (ok : α → Prop) (r : α → Pd) : Sp := fun vs H Q _ => ∃ x F, ok x ∧ Same F H ∧ All2 vs (A x) F ∧ Ret F H Q (r x)
theorem SP.call {α : Type} {A : α → List Pd} {ok : α → Prop} {r : α → Pd} {E : XK} {ρ : Rho} {tl : TA} (x : α) (ha : SPa tl ρ (A x)) (hx : ok x) : SP (tCall (spP A ok r) [] E tl) ρ (r x) := fun σ F H s l Q k => by
  refine ha σ F H s l _ fun vs F1 H1 e1 p1 => ?_
  refine ⟨x, F1, hx, e1.s, by rw [List.append_nil]; exact p1, fun v F2 H2 e2 p2 => k v F2 H2 (e1.trans e2) p2⟩
/-- the state at a pure def's entry -/
def B0 (F H : Hp) : Base := ⟨F, H, fun _ => False⟩
theorem s1_start {F H : Hp} {Ps : List Pd} {vs : List V} {N : List Str} (s : Same F H) (h : All2 vs Ps F) (hl : Ps.length ≤ N.length) : S1 (B0 F H) (Ps.map some ++ List.replicate (N.length - Ps.length) none) [] (start N vs) F H (fun _ => noH) where
  s := s
  d := fun i a o h => by cases h
  x := fun i j a o _ h => by cases h
  bf := Same.refl _
  bh := fun a o h _ => h
  bn := fun a h => .inl h
  bm := fun i a h => absurd rfl h
  l := by
    refine ⟨?_, fun i P e => ?_⟩
    · unfold L2.start
      rw [List.length_append, List.length_append, List.length_map, List.length_map, List.length_replicate, List.length_replicate, h.length]
    · unfold L2.start
      by_cases hi : i < Ps.length
      · rw [List.getElem?_append_left (by rw [List.length_map]; exact hi), List.getElem?_map] at e
        cases q : Ps[i]? with
        | none => rw [q] at e; cases e
        | some P' =>
          rw [q] at e
          cases e
          obtain ⟨v, h1, h2⟩ := h.get q
          refine ⟨v, ?_, h2⟩
          rw [List.getElem?_append_left (by rw [List.length_map, h.length]; exact hi), List.getElem?_map, h1]
          rfl
      · rw [List.getElem?_append_right (by rw [List.length_map]; omega), List.getElem?_replicate] at e
        split at e <;> cases e
  r := fun i O h => by simp at h
  no := fun _ _ => rfl
/-- a pure def's body -/
theorem pure_body {α : Type} {A : α → List Pd} {ok : α → Prop} {r : α → Pd} {t : TS} {N : List Str} (hl : ∀ x, (A x).length ≤ N.length)
    (h : ∀ x B, ok x → SS B t ((A x).map some ++ List.replicate (N.length - (A x).length) none) [] { nx := fun _ _ => ∀ F, (r x).p .non F, rt := fun P _ => ∀ v F, P.p v F → (r x).p v F }) {vs : List V} {H : Hp} {Q : VK} {E : XK} (hs : spP A ok r vs H Q E) : t { nx := fun _ H' => Q .non H', rt := Q } (start N vs) H := by
  obtain ⟨x, F, hx, s, ha, k⟩ := hs
  have S := s1_start (N := N) s ha (hl x)
  refine h x (B0 F H) hx _ F H _ { nx := fun _ H' => Q .non H', rt := Q } S (fun ρ' R' σ' F' H' g' q f S' => ?_) (fun P R' v ρ' σ' F' H' g' q p S' => ?_) (fun ρ' R' σ' F' H' g' q f S' => ?_) fun ρ' R' σ' F' H' g' q f S' => ?_
  · exact k .non F' H' ⟨S'.bf, fun a o h => S'.bh a o h (fun z => z), S'.s, fun a ha => by
      rcases S'.bn a ha with z | z | z
      · exact .inl z
      · exact z.elim
      · exact .inr z⟩ (q F')
  · exact k v F' H' ⟨S'.bf, fun a o h => S'.bh a o h (fun z => z), S'.s, fun a ha => by
      rcases S'.bn a ha with z | z | z
      · exact .inl z
      · exact z.elim
      · exact .inr z⟩ (q v F' p)
  · exact q.elim
  · exact q.elim
theorem spP.len {α : Type} {A : α → List Pd} {ok : α → Prop} {r : α → Pd} {n : Nat} (h : ∀ x, (A x).length = n) {vs : List V} {H : Hp} {Q : VK} {E : XK} (hs : spP A ok r vs H Q E) : vs.length = n := by
  obtain ⟨x, F, _, _, ha, _⟩ := hs
  rw [ha.length, h]

/-! ### rules for any kind of operand -/
def uStr : R2 := fun x y H Q => ∃ i j, x = .str i ∧ y = .str j ∧ i.length + j.length ≤ sizeLine ∧ Q (.str (i ++ j)) H
def uAdd (K : PySem.W.Frag) : R2 := fun x y H Q => rI0 (fun i j => .int (i + j)) x y H Q ∨ (fun x y H Q => rCat x y H Q ∨ (fun x y H Q => rCatA K x y H Q ∨ uStr x y H Q) x y H Q) x y H Q
def uMul : R2 := fun x y H Q => rI CMul (fun i j => .int (i * j)) x y H Q ∨ rRep x y H Q
def uEq (K : PySem.W.Frag) : R2 := fun x y H Q => rEq x y H Q ∨ rEqD K x y H Q
def uNe (K : PySem.W.Frag) : R2 := fun x y H Q => rNe x y H Q ∨ rNeD K x y H Q
def uLt (K : PySem.W.Frag) : R2 := fun x y H Q => rI0 (fun i j => .bl (decide (i < j))) x y H Q ∨ rLtT K x y H Q
section
variable {X : Cx}
theorem op_addU : OpR X (binaryOp .Add) (uAdd X.K) := op_add.or (op_cat.or (op_catA.or op_add_str))
theorem op_mulU : OpR X (binaryOp .Mult) uMul := op_mul.or op_rep
theorem op_eqU (hu : X.A.units + 64 < cLine) : OpR X (compareOp .Eq) (uEq X.K) := op_eq.or (op_eqD hu)
theorem op_neU (hu : X.A.units + 64 < cLine) : OpR X (compareOp .NotEq) (uNe X.K) := op_ne.or (op_neD hu)
theorem op_ltU (hu : X.A.units + 64 < cLine) : OpR X (compareOp .Lt) (uLt X.K) := op_lt.or (op_ltT (by omega))
def tO (t u : TE) : TE := fun σ H Q => t σ H Q ∨ u σ H Q
def iO (t u : TI) : TI := fun σ H R => t σ H R ∨ u σ H R
def sO (t u : TS) : TS := fun D σ H => t D σ H ∨ u D σ H
theorem PE.or {e : Expr} {t u : TE} (h1 : PE X e t) (h2 : PE X e u) : PE X e (tO t u) := ⟨fun pins s σ H Q I h => by
  rcases h with h | h
  · exact h1.run pins s σ H Q I h
  · exact h2.run pins s σ H Q I h⟩
theorem PI.or {tg e : Expr} {t u : TI} (h1 : PI X tg e t) (h2 : PI X tg e u) : PI X tg e (iO t u) := ⟨fun pins s σ H Q I h => by
  rcases h with h | h
  · exact h1.run pins s σ H Q I h
  · exact h2.run pins s σ H Q I h⟩
theorem PS.or {e : Stmt} {t u : TS} (h1 : PS X e t) (h2 : PS X e u) : PS X e (sO t u) := ⟨fun pins s σ H Q I h => by
  rcases h with h | h
  · exact h1.run pins s σ H Q I h
  · exact h2.run pins s σ H Q I h⟩
end
theorem SP.o1 {t u : TE} {ρ : Rho} {P : Pd} (h : SP t ρ P) : SP (tO t u) ρ P := fun σ F H s l Q k => .inl (h σ F H s l Q k)
theorem SP.o2 {t u : TE} {ρ : Rho} {P : Pd} (h : SP u ρ P) : SP (tO t u) ρ P := fun σ F H s l Q k => .inr (h σ F H s l Q k)
theorem SI.o1 {t u : TI} {ρ : Rho} {Ps : List Pd} (h : SI t ρ Ps) : SI (iO t u) ρ Ps := fun σ F H s l Q k => .inl (h σ F H s l Q k)
theorem SI.o2 {t u : TI} {ρ : Rho} {Ps : List Pd} (h : SI u ρ Ps) : SI (iO t u) ρ Ps := fun σ F H s l Q k => .inr (h σ F H s l Q k)
theorem SS.o1 {B : Base} {t u : TS} {ρ : Rho} {R : Own} {D : DE} (h : SS B t ρ R D) : SS B (sO t u) ρ R D := fun σ F H g C S k1 k2 k3 k4 => .inl (h σ F H g C S k1 k2 k3 k4)
theorem SS.o2 {B : Base} {t u : TS} {ρ : Rho} {R : Own} {D : DE} (h : SS B u ρ R D) : SS B (sO t u) ρ R D := fun σ F H g C S k1 k2 k3 k4 => .inr (h σ F H g C S k1 k2 k3 k4)
/-! .. by the kind that is at hand -/
section
variable {K : PySem.W.Frag} {i j : Int} {Ps Qs : List Pd}
theorem O2.addI : O2 (uAdd K) (pInt i) (pInt j) (pInt (i + j)) := .or1 .ii
theorem O2.addL (hn : Ps.length + Qs.length ≤ 1000000) : O2 (uAdd K) (pLst Ps) (pLst Qs) (pLst (Ps ++ Qs)) := .or2 (.or1 fun x y F H s hx hy Q k => by
  obtain ⟨a, vs, rfl, h2, h3⟩ := hx
  obtain ⟨b, ws, rfl, h4, h5⟩ := hy
  refine ⟨a, b, vs, ws, rfl, rfl, s _ _ h2, s _ _ h4, by rw [h3.length, h5.length, sizeLine_eq]; omega, fun p hp => ?_⟩
  have e := Ex.new s (.lst (vs ++ ws)) hp
  exact k _ _ _ e ⟨p, _, rfl, upd_same, (h3.append h5).mono e.f⟩)
theorem O2.addT (hn : Ps.length + Qs.length ≤ 1000000) : O2 (uAdd K) (pTup Ps) (pTup Qs) (pTup (Ps ++ Qs)) := .or2 (.or2 (.or1 fun x y F H s hx hy Q k => by
  obtain ⟨a, vs, rfl, h2, h3⟩ := hx
  obtain ⟨b, ws, rfl, h4, h5⟩ := hy
  refine ⟨a, b, vs, ws, rfl, rfl, SqT.rd s h2, SqT.rd s h4, by rw [h3.length, h5.length, sizeLine_eq]; omega, fun e => ?_, fun e1 e2 => ?_, fun e1 e2 p hp => ?_⟩
  · subst e
    have : Ps = [] := List.length_eq_zero_iff.mp h3.length.symm
    subst this
    exact k _ F H (Ex.refl s) ⟨b, ws, rfl, h4, h5⟩
  · subst e2
    have : Qs = [] := List.length_eq_zero_iff.mp h5.length.symm
    subst this
    exact k _ F H (Ex.refl s) ⟨a, vs, rfl, h2, by rw [List.append_nil]; exact h3⟩
  · have e := Ex.new s (.tup (vs ++ ws)) hp
    exact k _ _ _ e ⟨p, _, rfl, upd_same, (h3.append h5).mono e.f⟩))
theorem O2.addS {a b : Str} (hn : a.length + b.length ≤ 1000) : O2 (uAdd K) (pStr a) (pStr b) (pStr (a ++ b)) := .or2 (.or2 (.or2 fun x y F H s hx hy Q k => ⟨a, b, hx, hy, Nat.le_of_lt (small1000 hn), k _ F H (Ex.refl s) rfl⟩))
theorem O2.mulI (h : CMul i j) : O2 uMul (pInt i) (pInt j) (pInt (i * j)) := .or1 (.iic h)
theorem All2.rep {H : Hp} {vs : List V} {Ps : List Pd} (h : All2 vs Ps H) : ∀ n : Nat, All2 (List.replicate n vs).flatten (List.replicate n Ps).flatten H
  | 0 => trivial
  | n + 1 => by
    rw [List.replicate_succ, List.replicate_succ, List.flatten_cons, List.flatten_cons]
    exact h.append (All2.rep h n)
theorem O2.mulL (h1 : -(2 ^ 63) ≤ j) (h2 : j < 2 ^ 63) (h3 : Ps.length * j.toNat ≤ 1000000) : O2 uMul (pLst Ps) (pInt j) (pLst (List.replicate j.toNat Ps).flatten) := .or2 fun x y F H s hx hy Q k => by
  obtain ⟨a, vs, rfl, q2, q3⟩ := hx
  refine ⟨a, j, vs, rfl, hy, s _ _ q2, h1, h2, by rw [q3.length, sizeLine_eq]; omega, fun p hp => ?_⟩
  have e := Ex.new s (.lst (List.replicate j.toNat vs).flatten) hp
  exact k _ _ _ e ⟨p, _, rfl, upd_same, (q3.rep _).mono e.f⟩
theorem O2.eqI : O2 (uEq K) (pInt i) (pInt j) (pBool (decide (i = j))) := .or1 .eqi
theorem O2.neI : O2 (uNe K) (pInt i) (pInt j) (pBool (!decide (i = j))) := .or1 .nei
theorem O2.ltI : O2 (uLt K) (pInt i) (pInt j) (pBool (decide (i < j))) := .or1 .ib
theorem O2.leI : O2 (rI0 fun i j => .bl (decide (i ≤ j))) (pInt i) (pInt j) (pBool (decide (i ≤ j))) := .ib
theorem O2.gtI : O2 (rI0 fun i j => .bl (decide (j < i))) (pInt i) (pInt j) (pBool (decide (j < i))) := O2.i0 fun _ => rfl
theorem O2.geI : O2 (rI0 fun i j => .bl (decide (j ≤ i))) (pInt i) (pInt j) (pBool (decide (j ≤ i))) := O2.i0 fun _ => rfl
theorem O2.subI : O2 (rI0 fun i j => .int (i - j)) (pInt i) (pInt j) (pInt (i - j)) := .ii
theorem O2.modI (h : 0 < j) : O2 (rI (fun _ j => 0 < j) fun i j => .int (i % j)) (pInt i) (pInt j) (pInt (i % j)) := .iic h
theorem O2.divI (h1 : 0 < j) (h2 : j < 1073741824) : O2 (rI CDiv fun i j => .int (i / j)) (pInt i) (pInt j) (pInt (i / j)) := .iic ⟨h1, h2⟩
theorem O2.powI (h1 : 0 ≤ j) (h2 : j ≤ 1000000) (h3 : i.natAbs < 2 ^ 64) : O2 (rI CPow fun i j => .int (i ^ j.toNat)) (pInt i) (pInt j) (pInt (i ^ j.toNat)) := .iic ⟨h1, h2, h3⟩
theorem O2.shlI (h1 : 0 ≤ j) (h2 : j ≤ 1000000) (h3 : i.natAbs < 2 ^ 64) : O2 (rI CPow fun i j => .int (i * 2 ^ j.toNat)) (pInt i) (pInt j) (pInt (i * 2 ^ j.toNat)) := .iic ⟨h1, h2, h3⟩
theorem O2.shrI (h1 : 0 ≤ j) : O2 (rI (fun _ j => 0 ≤ j) fun i j => .int (i / 2 ^ j.toNat)) (pInt i) (pInt j) (pInt (i / 2 ^ j.toNat)) := .iic h1
theorem O2.andI : O2 (rI0 fun i j => .int (Builtin.bitAnd i j)) (pInt i) (pInt j) (pInt (Builtin.bitAnd i j)) := .ii
theorem O2.orI : O2 (rI0 fun i j => .int (Builtin.bitOr i j)) (pInt i) (pInt j) (pInt (Builtin.bitOr i j)) := .ii
theorem O2.xorI : O2 (rI0 fun i j => .int (Builtin.bitXor i j)) (pInt i) (pInt j) (pInt (Builtin.bitXor i j)) := .ii
/-! the bits of naturals -/
theorem O2.to {r : R2} {P P' P'' P3 : Pd} (h : O2 r P P' P'') (e : P'' = P3) : O2 r P P' P3 := e ▸ h
theorem bAnd (m n : Nat) : Builtin.bitAnd (m : Int) (n : Int) = ((m &&& n : Nat) : Int) := by rw [bitAnd_pp (Int.natCast_nonneg _) (Int.natCast_nonneg _)]; rfl
theorem bOr (m n : Nat) : Builtin.bitOr (m : Int) (n : Int) = ((m ||| n : Nat) : Int) := by
  rw [bitOr_and, bAnd]
  have := nat_or_add_and m n
  omega
theorem nat_xor_add_and (m : Nat) : ∀ n : Nat, (m ^^^ n) + (m &&& n) = (m ||| n) := by
  induction m using Nat.strongRecOn with
  | ind m ih =>
    intro n
    by_cases h0 : m = 0
    · subst h0; simp
    · have ih' := ih (m / 2) (by omega) (n / 2)
      rw [← Nat.xor_div_two, ← Nat.and_div_two, ← Nat.or_div_two] at ih'
      have o1 := @Nat.or_mod_two_eq_one m n
      have a1 := @Nat.and_mod_two_eq_one m n
      have x1 := @Nat.xor_mod_two_eq_one m n
      omega
theorem bXor (m n : Nat) : Builtin.bitXor (m : Int) (n : Int) = ((m ^^^ n : Nat) : Int) := by
  have e : Builtin.bitXor (m : Int) (n : Int) = Builtin.bitOr (m : Int) (n : Int) - Builtin.bitAnd (m : Int) (n : Int) := by simp [Builtin.bitXor]
  rw [e, bOr, bAnd]
  have := nat_xor_add_and m n
  omega
end

/-! ### something of a kind -/
def pEx {α : Type} (p : α → Prop) (P : α → Pd) : Pd := ⟨fun v H => ∃ x, p x ∧ (P x).p v H, fun e ⟨x, h1, h2⟩ => ⟨x, h1, (P x).mono e h2⟩⟩
abbrev pI : Pd := pEx (fun _ : Int => True) pInt
section
variable {α : Type} {p : α → Prop} {P : α → Pd} {P' P'' : Pd} {ρ : Rho} {te ta tb : TE}
theorem SP.ex {x : α} (hx : p x) (h : SP te ρ (P x)) : SP te ρ (pEx p P) := h.imp fun v F q => ⟨x, hx, q⟩
theorem O2.exl {r : R2} (h : ∀ x, p x → O2 r (P x) P' P'') : O2 r (pEx p P) P' P'' := fun x y F H s hx hy Q k => by
  obtain ⟨z, h1, h2⟩ := hx
  exact h z h1 x y F H s h2 hy Q k
theorem O2.exr {r : R2} (h : ∀ x, p x → O2 r P' (P x) P'') : O2 r P' (pEx p P) P'' := fun x y F H s hx hy Q k => by
  obtain ⟨z, h1, h2⟩ := hy
  exact h z h1 x y F H s hx h2 Q k
theorem O2.imp {r : R2} {P1 P2 P3 P4 : Pd} (h : O2 r P1 P2 P3) (e : ∀ v F, P3.p v F → P4.p v F) : O2 r P1 P2 P4 := fun x y F H s hx hy Q k => h x y F H s hx hy Q fun v F' H' ex q => k v F' H' ex (e _ _ q)
theorem On.imp {r : List V → Hp → VK → Prop} {Ps : List Pd} {P1 P2 : Pd} (h : On r Ps P1) (e : ∀ v F, P1.p v F → P2.p v F) : On r Ps P2 := fun xs F H s hx Q k => h xs F H s hx Q fun v F' H' ex q => k v F' H' ex (e _ _ q)
theorem On.ex1 {r : List V → Hp → VK → Prop} {Ps : List Pd} (h : ∀ x, p x → On r (P x :: Ps) P') : On r (pEx p P :: Ps) P' := fun xs F H s hx Q k => by
  match xs, hx with
  | y :: ys, ⟨⟨z, h1, h2⟩, h3⟩ => exact h z h1 (y :: ys) F H s ⟨h2, h3⟩ Q k
theorem SS.open {B : Base} {t : TS} {R : Own} {D : DE} {k : Nat} (hv : ρ[k]? = some (some (pEx p P))) (h : ∀ x, p x → SS B t (ρ.set k (some (P x))) R D) : SS B t ρ R D := fun σ F H g C S k1 k2 k3 k4 => by
  obtain ⟨v, h1, x, hx, h2⟩ := S.l.at_ k _ hv
  have e : σ.set k (some v) = σ := by
    refine List.ext_getElem? fun j => ?_
    rw [List.getElem?_set]
    by_cases q : k = j
    · subst q
      obtain ⟨hl, _⟩ := List.getElem?_eq_some_iff.mp h1
      rw [if_pos rfl, if_pos hl, h1]
    · rw [if_neg q]
  have S2 := S.set (P := P x) k h2
  rw [e] at S2
  exact h x hx σ F H g C S2 k1 k2 k3 k4
end
/-! ### built-in calls -/
def uInt : List V → Hp → VK → Prop := fun xs H Q => (∃ i, xs = [.int i] ∧ Q (.int i) H) ∨ ∃ k, xs = [.bl k] ∧ Q (.int (if k then 1 else 0)) H
def uMax2 : List V → Hp → VK → Prop := fun xs H Q => ∃ i j, xs = [.int i, .int j] ∧ Q (.int (if j > i then j else i)) H
def uMin2 : List V → Hp → VK → Prop := fun xs H Q => ∃ i j, xs = [.int i, .int j] ∧ Q (.int (if j < i then j else i)) H
def uStrI : List V → Hp → VK → Prop := fun xs H Q => ∃ i, xs = [.int i] ∧ i.natAbs.log2 < 1920 ∧ Q (.str (toString i)) H
def uList (K : PySem.W.Frag) : List V → Hp → VK → Prop := fun xs H Q => ∃ p ys, xs = [.ref p] ∧ (SqL K H p ys ∨ SqT K H p ys) ∧ ∀ l, H l = none → Q (.ref l) (upd H l (.lst ys))
def uTuple (K : PySem.W.Frag) : List V → Hp → VK → Prop := fun xs H Q => ∃ p ys, xs = [.ref p] ∧ ((SqL K H p ys ∧ ∀ l, H l = none → Q (.ref l) (upd H l (.tup ys))) ∨ (SqT K H p ys ∧ Q (.ref p) H))
def uIsN : R2 := fun x y H Q => y = .non ∧ Q (.bl (decide (x = .non))) H
def uNotN : R2 := fun x y H Q => y = .non ∧ Q (.bl (!decide (x = .non))) H
def uInS : R2 := fun x y H Q => ∃ i j, x = .str i ∧ y = .str j ∧ Q (.bl (!(Builtin.Str.occurrences j i 0 j.length 1).isEmpty)) H
def uNotInS : R2 := fun x y H Q => ∃ i j, x = .str i ∧ y = .str j ∧ Q (.bl (!(!(Builtin.Str.occurrences j i 0 j.length 1).isEmpty))) H
section
variable {K : PySem.W.Frag} {Ps : List Pd} {i j : Int}
theorem On.int : On uInt [pInt i] (pInt i) := fun xs F H s hx Q k => by
  obtain ⟨x, rfl, h⟩ := hx.one
  exact .inl ⟨i, by rw [show x = V.int i from h], k _ F H (Ex.refl s) rfl⟩
theorem On.intB {b : Bool} : On uInt [pBool b] (pInt (if b then 1 else 0)) := fun xs F H s hx Q k => by
  obtain ⟨x, rfl, h⟩ := hx.one
  exact .inr ⟨b, by rw [show x = V.bl b from h], k _ F H (Ex.refl s) rfl⟩
theorem On.max2 : On uMax2 [pInt i, pInt j] (pInt (if j > i then j else i)) := fun xs F H s hx Q k => by
  obtain ⟨x, y, rfl, h1, h2⟩ := hx.two
  exact ⟨i, j, by rw [show x = V.int i from h1, show y = V.int j from h2], k _ F H (Ex.refl s) rfl⟩
theorem On.min2 : On uMin2 [pInt i, pInt j] (pInt (if j < i then j else i)) := fun xs F H s hx Q k => by
  obtain ⟨x, y, rfl, h1, h2⟩ := hx.two
  exact ⟨i, j, by rw [show x = V.int i from h1, show y = V.int j from h2], k _ F H (Ex.refl s) rfl⟩
theorem On.listL : On (uList K) [pLst Ps] (pLst Ps) := fun xs F H s hx Q k => by
  obtain ⟨x, rfl, a, vs, rfl, h2, h3⟩ := hx.one
  refine ⟨a, vs, rfl, .inl (SqL.rd s h2), fun p hp => ?_⟩
  have e := Ex.new s (.lst vs) hp
  exact k _ _ _ e ⟨p, vs, rfl, upd_same, h3.mono e.f⟩
theorem On.listT : On (uList K) [pTup Ps] (pLst Ps) := fun xs F H s hx Q k => by
  obtain ⟨x, rfl, a, vs, rfl, h2, h3⟩ := hx.one
  refine ⟨a, vs, rfl, .inr (SqT.rd s h2), fun p hp => ?_⟩
  have e := Ex.new s (.lst vs) hp
  exact k _ _ _ e ⟨p, vs, rfl, upd_same, h3.mono e.f⟩
theorem On.tupleL : On (uTuple K) [pLst Ps] (pTup Ps) := fun xs F H s hx Q k => by
  obtain ⟨x, rfl, a, vs, rfl, h2, h3⟩ := hx.one
  refine ⟨a, vs, rfl, .inl ⟨SqL.rd s h2, fun p hp => ?_⟩⟩
  have e := Ex.new s (.tup vs) hp
  exact k _ _ _ e ⟨p, vs, rfl, upd_same, h3.mono e.f⟩
theorem all2_ints {F : Hp} : ∀ {ns : List Int} {vs : List V}, All2 vs (ns.map pInt) F → vs = ns.map V.int
  | [], [], _ => rfl
  | n :: ns, v :: vs, h => by
    have h1 : v = .int n := h.1
    rw [List.map_cons, h1, all2_ints h.2]
  | [], _ :: _, h => h.elim
  | _ :: _, [], h => h.elim
theorem On.sum {ns : List Int} : On (rSum K) [pLst (ns.map pInt)] (pInt ns.sum) := fun xs F H s hx Q k => by
  obtain ⟨x, rfl, a, vs, rfl, h2, h3⟩ := hx.one
  exact ⟨a, ns, rfl, by rw [all2_ints h3] at h2; exact SqL.rd s h2, k _ F H (Ex.refl s) rfl⟩
/-- isinstance, by the value's type -/
inductive Kd : Pd → String → Prop
  | int (i : Int) : Kd (pInt i) "int"
  | bl (b : Bool) : Kd (pBool b) "bool"
  | non : Kd pNon "NoneType"
  | str (s : Str) : Kd (pStr s) "str"
  | lst (Ps : List Pd) : Kd (pLst Ps) "list"
  | tup (Ps : List Pd) : Kd (pTup Ps) "tuple"
theorem Kd.ty {P : Pd} {n : String} (k : Kd P n) {x : V} {F H : Hp} (s : Same F H) (h : P.p x F) : TyX K H x (.type n) := by
  cases k with
  | int i => cases (show x = V.int i from h); exact .base (.int i)
  | bl b => cases (show x = V.bl b from h); exact .base (.bl b)
  | non => cases (show x = V.non from h); exact .base .non
  | str z => cases (show x = V.str z from h); exact .base (.str z)
  | lst Ps => obtain ⟨a, vs, rfl, h2, _⟩ := h; exact .base (.lst (s _ _ h2))
  | tup Ps => obtain ⟨a, vs, rfl, h2, _⟩ := h; exact .base (.tup (s _ _ h2))
theorem On.isi {P : Pd} {n m : String} {b : Bool} (k : Kd P n) (h : kitB n m = some b) : On (rIsi K) [P, pTy m] (pBool b) := fun xs F H s hx Q kk => by
  obtain ⟨x, y, rfl, h1, h2⟩ := hx.two
  cases (show y = V.ty m from h2)
  exact ⟨x, _, _, _, b, rfl, .ty m, k.ty s h1, kit_ty h, kk _ F H (Ex.refl s) rfl⟩
theorem SP.ty {ρ : Rho} {n : String} : SP (tC (.ty n)) ρ (pTy n) := SP.con fun _ => rfl
end
/-! ### recursion -/
def spBot : Sp := fun _ _ _ _ => False
theorem calBot {P : Program} {w : World} {K : PySem.W.Frag} {mg : Str → Option Value} {base : Heap} {x q : Str} {pa : Arguments} {bd : List Stmt} {sc : Scope} {f : Addr} {fd : FuncData} {ps : List Str} (F : FunD K x q pa bd sc [] [] f fd) (hg : mg x = some (.ref f)) (b : Binds K fd ps []) : C8.Cal P w K mg base 0 x spBot [] :=
  ⟨f, fd, ps, [], ⟨fun _ _ _ _ h => h.elim, fun _ _ _ _ _ _ _ _ _ _ _ _ _ h => h.elim⟩, hg, F.kp, b, .nil⟩

/-! ### naturals -/
section
variable {K : PySem.W.Frag} {m n : Nat}
theorem O2.addN : O2 (uAdd K) (pInt (m : Int)) (pInt (n : Int)) (pInt ((m + n : Nat) : Int)) := O2.addI.to (by rw [Int.natCast_add])
theorem O2.mulN (h : m < 2 ^ 64 ∨ n < 2 ^ 64) : O2 uMul (pInt (m : Int)) (pInt (n : Int)) (pInt ((m * n : Nat) : Int)) := (O2.mulI (by
  rcases h with h | h
  · exact .inl ⟨by omega, by omega⟩
  · exact .inr ⟨by omega, by omega⟩)).to (by rw [Int.natCast_mul])
theorem O2.subN (h : n ≤ m) : O2 (rI0 fun i j => .int (i - j)) (pInt (m : Int)) (pInt (n : Int)) (pInt ((m - n : Nat) : Int)) := O2.subI.to (by rw [Int.ofNat_sub h])
theorem O2.modN (h : 0 < n) : O2 (rI (fun _ j => 0 < j) fun i j => .int (i % j)) (pInt (m : Int)) (pInt (n : Int)) (pInt ((m % n : Nat) : Int)) := (O2.modI (by omega)).to (by rw [Int.natCast_emod])
theorem O2.divN (h1 : 0 < n) (h2 : n < 1073741824) : O2 (rI CDiv fun i j => .int (i / j)) (pInt (m : Int)) (pInt (n : Int)) (pInt ((m / n : Nat) : Int)) := (O2.divI (by omega) (by omega)).to (by rw [Int.natCast_ediv])
theorem O2.powN (h2 : n ≤ 1000000) (h3 : m < 2 ^ 64) : O2 (rI CPow fun i j => .int (i ^ j.toNat)) (pInt (m : Int)) (pInt (n : Int)) (pInt ((m ^ n : Nat) : Int)) := (O2.powI (by omega) (by omega) (by omega)).to (by rw [Int.toNat_natCast, Int.natCast_pow])
theorem O2.shlN (h2 : n ≤ 1000000) (h3 : m < 2 ^ 64) : O2 (rI CPow fun i j => .int (i * 2 ^ j.toNat)) (pInt (m : Int)) (pInt (n : Int)) (pInt ((m <<< n : Nat) : Int)) := (O2.shlI (by omega) (by omega) (by omega)).to (by
  rw [Int.toNat_natCast, Nat.shiftLeft_eq, Int.natCast_mul, Int.natCast_pow]
  all_goals rfl)
theorem O2.shrN : O2 (rI (fun _ j => 0 ≤ j) fun i j => .int (i / 2 ^ j.toNat)) (pInt (m : Int)) (pInt (n : Int)) (pInt ((m >>> n : Nat) : Int)) := (O2.shrI (by omega)).to (by
  rw [Int.toNat_natCast, Nat.shiftRight_eq_div_pow, Int.natCast_ediv, Int.natCast_pow]
  all_goals rfl)
theorem O2.andN : O2 (rI0 fun i j => .int (Builtin.bitAnd i j)) (pInt (m : Int)) (pInt (n : Int)) (pInt ((m &&& n : Nat) : Int)) := O2.andI.to (by rw [bAnd])
theorem O2.orN : O2 (rI0 fun i j => .int (Builtin.bitOr i j)) (pInt (m : Int)) (pInt (n : Int)) (pInt ((m ||| n : Nat) : Int)) := O2.orI.to (by rw [bOr])
theorem O2.xorN : O2 (rI0 fun i j => .int (Builtin.bitXor i j)) (pInt (m : Int)) (pInt (n : Int)) (pInt ((m ^^^ n : Nat) : Int)) := O2.xorI.to (by rw [bXor])
theorem dec_cast {p q : Prop} [Decidable p] [Decidable q] (h : p ↔ q) : pBool (decide p) = pBool (decide q) := by rw [decide_eq_decide.mpr h]
theorem O2.eqN : O2 (uEq K) (pInt (m : Int)) (pInt (n : Int)) (pBool (decide (m = n))) := O2.eqI.to (dec_cast (by omega))
theorem O2.neN : O2 (uNe K) (pInt (m : Int)) (pInt (n : Int)) (pBool (!decide (m = n))) := O2.neI.to (by rw [decide_eq_decide.mpr (show (m : Int) = (n : Int) ↔ m = n by omega)])
theorem O2.ltN : O2 (uLt K) (pInt (m : Int)) (pInt (n : Int)) (pBool (decide (m < n))) := O2.ltI.to (dec_cast (by omega))
theorem O2.leN : O2 (rI0 fun i j => .bl (decide (i ≤ j))) (pInt (m : Int)) (pInt (n : Int)) (pBool (decide (m ≤ n))) := O2.leI.to (dec_cast (by omega))
theorem O2.gtN : O2 (rI0 fun i j => .bl (decide (j < i))) (pInt (m : Int)) (pInt (n : Int)) (pBool (decide (n < m))) := O2.gtI.to (dec_cast (by omega))
theorem O2.geN : O2 (rI0 fun i j => .bl (decide (j ≤ i))) (pInt (m : Int)) (pInt (n : Int)) (pBool (decide (n ≤ m))) := O2.geI.to (dec_cast (by omega))
theorem SI.rangeN {ρ : Rho} {ta : TA} (h : SPa ta ρ [pInt (m : Int)]) (h2 : m < 2 ^ 62) : SI (iRng1 ta) ρ ((List.range m).map fun (k : Nat) => pInt (k : Int)) := by
  have e : ((List.range m).map fun (k : Nat) => pInt (k : Int)) = (List.range ((m : Int)).toNat).map fun (k : Nat) => pInt (0 + (k : Int)) := by
    rw [Int.toNat_natCast]
    refine List.map_congr_left fun k _ => ?_
    rw [Int.zero_add]
  rw [e]
  exact SI.range1 h (by omega) (by omega)
end
/-- the argument's names, behind a map -/
theorem get_map {α : Type} {e : α → Pd} {xs : List α} {i : Nat} {P : Pd} (h : (xs.map e)[i]? = some P) : ∃ x, xs[i]? = some x ∧ P = e x := by
  rw [List.getElem?_map] at h
  cases q : xs[i]? with
  | none => rw [q] at h; cases h
  | some x => rw [q] at h; exact ⟨x, rfl, (Option.some.inj h).symm⟩
/-- a loop over items e x, x in xs: the state behind the items ys that were taken -/
theorem SS.forL {B : Base} {ρ : Rho} {R : Own} {D : DE} {t : TS} {wi : TI} {g' : TG} {is : List Nat} {α : Type} {e : α → Pd} {xs : List α} (hi : SI wi ρ (xs.map e)) (I : List α → Rho → Own → Prop) (h0 : I [] ρ R)
    (ht : ∀ ys x zs ρ R, xs = ys ++ x :: zs → I ys ρ R → ∃ ρ1, ST g' is ρ (e x) ρ1 ∧ SS B t ρ1 R { D with nx := I (ys ++ [x]), ct := I (ys ++ [x]), bk := D.nx }) (hd : ∀ ρ R, I xs ρ R → D.nx ρ R) : SS B (tFor wi g' t) ρ R D := by
  refine SS.for (is := is) hi (fun i ρ R => I (xs.take i) ρ R) h0 (fun i P ρ R hP h => ?_) (fun ρ R h => hd ρ R (by rwa [List.length_map, List.take_length] at h))
  obtain ⟨x, hx, rfl⟩ := get_map hP
  have hl : i < xs.length := (List.getElem?_eq_some_iff.mp hx).1
  have e1 : xs = xs.take i ++ x :: xs.drop (i + 1) := by
    conv => lhs; rw [← List.take_append_drop i xs]
    rw [List.drop_eq_getElem_cons hl, (List.getElem?_eq_some_iff.mp hx).2]
  have e2 : xs.take (i + 1) = xs.take i ++ [x] := by rw [List.take_succ, hx]; rfl
  have := ht (xs.take i) x (xs.drop (i + 1)) ρ R e1 h
  rw [← e2] at this
  exact this

/-! ### what is known fits what is asked -/
def Fits : Rho → Rho → Prop
  | [], [] => True
  | _ :: ρ, none :: ρ' => Fits ρ ρ'
  | some P :: ρ, some P' :: ρ' => (∀ v F, P.p v F → P'.p v F) ∧ Fits ρ ρ'
  | _, _ => False
theorem Fits.len : ∀ {ρ ρ' : Rho}, Fits ρ ρ' → ρ'.length = ρ.length
  | [], [], _ => rfl
  | none :: ρ, none :: ρ', h => congrArg Nat.succ (Fits.len (ρ := ρ) (ρ' := ρ') h)
  | some _ :: ρ, none :: ρ', h => congrArg Nat.succ (Fits.len (ρ := ρ) (ρ' := ρ') h)
  | some _ :: ρ, some _ :: ρ', h => congrArg Nat.succ (Fits.len h.2)
  | none :: _, some _ :: _, h => h.elim
  | [], _ :: _, h => h.elim
  | _ :: _, [], h => by cases h
theorem Fits.at_ : ∀ {ρ ρ' : Rho}, Fits ρ ρ' → ∀ (i : Nat) (P : Pd), ρ'[i]? = some (some P) → ∃ P' : Pd, ρ[i]? = some (some P') ∧ ∀ v F, P'.p v F → P.p v F
  | [], [], _, i, P, e => by simp at e
  | a :: ρ, none :: ρ', h, i, P, e => by
    have h' : Fits ρ ρ' := by cases a <;> exact h
    cases i with
    | zero => simp at e
    | succ i => exact Fits.at_ h' i P e
  | some P1 :: ρ, some P2 :: ρ', h, i, P, e => by
    cases i with
    | zero =>
      have : P2 = P := by simpa using e
      subst this
      exact ⟨P1, rfl, h.1⟩
    | succ i => exact Fits.at_ h.2 i P e
  | none :: _, some _ :: _, h, _, _, _ => h.elim
  | [], _ :: _, h, _, _, _ => h.elim
  | _ :: _, [], h, _, _, _ => by cases h
theorem SS.fits {B : Base} {t : TS} {ρ ρ' : Rho} {R : Own} {D : DE} (h : Fits ρ ρ') (k : SS B t ρ' R D) : SS B t ρ R D := SS.weak h.len h.at_ k
theorem ST.weak {g : TG} {is : List Nat} {ρ ρ' ρ1 : Rho} {P : Pd} (h : Fits ρ ρ') (k : ST g is ρ' P ρ1) : ST g is ρ P ρ1 := fun σ F H v s l => k σ F H v s (l.forget h.len h.at_)
/-- a loop over items e x: env, own: what is known behind the items that were taken -/
theorem SS.forF {B : Base} {ρ : Rho} {R : Own} {D : DE} {t : TS} {wi : TI} {g' : TG} {is : List Nat} {α : Type} {e : α → Pd} {xs : List α} (hi : SI wi ρ (xs.map e)) (env : List α → Rho) (own : List α → Own) (h0 : Fits ρ (env [])) (hR : R = own [])
    (ht : ∀ ys x zs, xs = ys ++ x :: zs → ∃ ρ1, ST g' is (env ys) (e x) ρ1 ∧ SS B t ρ1 (own ys) { D with nx := fun ρ' R' => Fits ρ' (env (ys ++ [x])) ∧ R' = own (ys ++ [x]), ct := fun ρ' R' => Fits ρ' (env (ys ++ [x])) ∧ R' = own (ys ++ [x]), bk := D.nx }) (hd : ∀ ρ', Fits ρ' (env xs) → D.nx ρ' (own xs)) : SS B (tFor wi g' t) ρ R D := by
  refine SS.forL (is := is) hi (fun ys ρ R => Fits ρ (env ys) ∧ R = own ys) ⟨h0, hR⟩ (fun ys x zs ρ R e h => ?_) (fun ρ R h => by rw [h.2]; exact hd ρ h.1)
  obtain ⟨ρ1, hT, hS⟩ := ht ys x zs e
  refine ⟨ρ1, ST.weak h.1 hT, ?_⟩
  rw [h.2]
  exact hS
/-- the rest of a block, asked once where two ways meet -/
theorem SS.join {B : Base} {t u : TS} {ρ : Rho} {R : Own} {D : DE} (ρ' : Rho) (R' : Own) (h : SS B t ρ R { D with nx := fun ρ1 R1 => Fits ρ1 ρ' ∧ R1 = R' }) (k : SS B u ρ' R' D) : SS B (tSeq t u) ρ R D :=
  SS.seq (h.imp (fun ρ1 R1 e => by rw [e.2]; exact SS.fits e.1 k) (fun _ _ h => h) (fun _ _ h => h) (fun _ _ h => h))
abbrev pN : Pd := pEx (fun _ : Nat => True) fun n => pInt (n : Int)
theorem pN_of {i : Int} (h : 0 ≤ i) {v : V} {F : Hp} (e : (pInt i).p v F) : pN.p v F := ⟨i.toNat, trivial, by show v = V.int (i.toNat : Int); rw [Int.toNat_of_nonneg h]; exact e⟩
theorem all2_bools {F : Hp} : ∀ {bs : List Bool} {vs : List V}, All2 vs (bs.map pBool) F → vs = bs.map V.bl
  | [], [], _ => rfl
  | b :: _, v :: _, h => by have h1 : v = .bl b := h.1; rw [h1, all2_bools h.2]; rfl
  | [], _ :: _, h => h.elim
  | _ :: _, [], h => h.elim
theorem flat_bools : ∀ bs : List Bool, (bs.map V.bl).all flatV = true
  | [] => rfl
  | _ :: r => by rw [List.map_cons, List.all_cons, flat_bools r]; rfl
theorem in_bools (b : Bool) : ∀ bs : List Bool, inV (.bl b) (bs.map V.bl) = bs.any (· == b)
  | [] => rfl
  | c :: r => by
    have := in_bools b r
    unfold inV at this ⊢
    rw [List.map_cons, List.any_cons, List.any_cons, this]
    cases b <;> cases c <;> rfl
theorem O2.inB {K : PySem.W.Frag} {b : Bool} {bs : List Bool} : O2 (rIn K false) (pBool b) (pLst (bs.map pBool)) (pBool (bs.any (· == b))) := fun x y F H s hx hy Q k => by
  obtain ⟨a, vs, rfl, h2, h3⟩ := hy
  have hx : x = .bl b := hx
  subst hx
  rw [all2_bools h3] at h2
  exact ⟨a, _, rfl, .inl (SqL.rd s h2), rfl, flat_bools bs, k _ F H (Ex.refl s) (by show _ = V.bl _; rw [if_neg (by decide), in_bools])⟩
theorem O1.neg {i : Int} : O1 (rU fun i => .int (-i)) (pInt i) (pInt (-i)) := fun x F H s hx Q k => ⟨i, hx, k _ F H (Ex.refl s) rfl⟩
/-- pieces that nobody names any more -/
theorem S1.trim {B : Base} {ρ : Rho} {R Rs : Own} {σ : L2.St} {F H : Hp} {g : Nat → Hp} (S : S1 B ρ (R ++ Rs) σ F H g) : S1 B ρ R σ F H (fun i => if i < R.length then g i else noH) where
  s := S.s
  d := fun i a o h => by
    have h : (if i < R.length then g i else noH) a = some o := h
    split at h
    · exact S.d i a o h
    · cases h
  x := fun i j a o hij h => by
    have h : (if i < R.length then g i else noH) a = some o := h
    show (if j < R.length then g j else noH) a = none
    split at h
    · split
      · exact S.x i j a o hij h
      · rfl
    · cases h
  bf := S.bf
  bh := S.bh
  bn := S.bn
  bm := fun i a h => by
    have h : (if i < R.length then g i else noH) a ≠ none := h
    split at h
    · exact S.bm i a h
    · exact absurd rfl h
  l := S.l
  r := fun i O h => by
    have hl : i < R.length := (List.getElem?_eq_some_iff.mp h).1
    show O.q F (if i < R.length then g i else noH)
    rw [if_pos hl]
    exact S.r i O (by rw [List.getElem?_append_left hl]; exact h)
  no := fun i h => by
    show (if i < R.length then g i else noH) = noH
    rw [if_neg (Nat.not_lt.mpr h)]
theorem SS.trim {B : Base} {t : TS} {ρ : Rho} {R Rs : Own} {D : DE} (h : SS B t ρ R D) : SS B t ρ (R ++ Rs) D := fun σ F H g C S => h σ F H _ C S.trim
theorem SS.joinT {B : Base} {t u : TS} {ρ : Rho} {R : Own} {D : DE} (ρ' : Rho) (R' : Own) (h : SS B t ρ R { D with nx := fun ρ1 R1 => Fits ρ1 ρ' ∧ ∃ Rs, R1 = R' ++ Rs }) (k : SS B u ρ' R' D) : SS B (tSeq t u) ρ R D :=
  SS.seq (h.imp (fun ρ1 R1 e => by obtain ⟨Rs, e2⟩ := e.2; rw [e2]; exact SS.fits e.1 k.trim) (fun _ _ h => h) (fun _ _ h => h) (fun _ _ h => h))
theorem Fits.trans : ∀ {ρ ρ1 ρ2 : Rho}, Fits ρ ρ1 → Fits ρ1 ρ2 → Fits ρ ρ2
  | [], [], [], _, _ => trivial
  | a :: ρ, none :: ρ1, none :: ρ2, h, k => by
    have h' : Fits ρ ρ1 := by cases a <;> exact h
    have r : Fits ρ ρ2 := Fits.trans h' (show Fits ρ1 ρ2 from k)
    cases a <;> exact r
  | some a :: ρ, some b :: ρ1, none :: ρ2, h, k => by
    have r : Fits ρ ρ2 := Fits.trans (ρ := ρ) (ρ1 := ρ1) h.2 (show Fits ρ1 ρ2 from k)
    exact r
  | some a :: ρ, some b :: ρ1, some c :: ρ2, h, k => ⟨fun v F q => k.1 v F (h.1 v F q), Fits.trans h.2 k.2⟩
  | none :: _, some _ :: _, _, h, _ => h.elim
  | _ :: _, none :: _, some _ :: _, _, k => k.elim
  | [], _ :: _, _, h, _ => h.elim
  | _ :: _, [], _, h, _ => by cases h
  | [], [], _ :: _, _, k => k.elim
  | _ :: _, _ :: _, [], _, k => by cases k
end PD

set_option Elab.async false
set_option linter.all false
set_option maxRecDepth 100000
set_option autoImplicit false
namespace PD
open PySem PySem.Spec PyProof.Rows L2
open PySem.W (EachIs AllAlike Sortable dataKind dataLe alike)
section
variable {prog : Program} {w : World} {A : Around} {s : Shared}
theorem sortsAt_one {vs : List Value} {ds : List PyData} (e : EachIs (fun v d => ∃ as, Reads s.heap v d as) vs ds) (hal : AllAlike ds) (hn : ∀ d, d ∈ ds → d ≠ .none) (h1 : ds.length ≤ 1) (hu : ∀ d, d ∈ ds → A.units + d.depth < cLine) : PySem.W.SortsAt prog w A s (dataKind s.heap ds) vs := by
  refine ⟨fun v hv => ?_, general', fun E x y a b Q ha hb hq => ?_, fun h2 => absurd h2 (by rw [e.length]; omega)⟩
  · obtain ⟨d, hd, as, r⟩ := e.left v hv
    exact ⟨_, PySem.W.dataKind_some hal hd r⟩
  · obtain ⟨d, as, hd, ra, rfl⟩ := PySem.W.dataKind_inv ha
    obtain ⟨d', as', hd', rb, rfl⟩ := PySem.W.dataKind_inv hb
    show wpAny _ _ (oneLt' false x y) Q E s
    exact PySem.W.oneLt_alike (fun z => by cases z) ra rb (hal d hd d' hd') (hn d hd) (Nat.lt_of_le_of_lt (Nat.add_le_add_left (Nat.min_le_left _ _) _) (hu d hd)) hq
theorem sortsAt_any {vs : List Value} {ds : List PyData} (e : EachIs (fun v d => ∃ as, Reads s.heap v d as) vs ds) (hal : AllAlike ds) (hk : Sortable ds ∨ (ds.length ≤ 1 ∧ ∀ d, d ∈ ds → d ≠ .none)) (hu : ∀ d, d ∈ ds → A.units + d.depth < cLine) : PySem.W.SortsAt prog w A s (dataKind s.heap ds) vs := by
  rcases hk with hk | ⟨h1, h2⟩
  · exact PySem.W.SortsAt.data e hal hk hu
  · exact sortsAt_one e hal h2 h1 hu
end
/-- the sorted list: data beside their values -/
noncomputable def sortV (zs : List V) (ds : List PyData) : List V := ((zs.zip ds).mergeSort (dataLe false fun p : V × PyData => p.2)).map (·.1)
def rSrt (K : PySem.W.Frag) : List V → Hp → VK → Prop := fun xs H Q => ∃ (a : Addr) (zs : List V) (ds : List PyData), xs = [.ref a] ∧ SqL K H a zs ∧ DpAll K H zs ds ∧ AllAlike ds ∧ (Sortable ds ∨ (ds.length ≤ 1 ∧ ∀ d, d ∈ ds → d ≠ .none)) ∧ (∀ d, d ∈ ds → d.depth ≤ 60) ∧
  ∀ p, H p = none → Q (.ref p) (upd H p (.lst (sortV zs ds)))
theorem each_zip {zs : List V} {its : List Value} {ds : List PyData} {h : Heap} : Vals zs its → EachIs (fun v d => ∃ as, Reads h v d as) its ds → EachIs (fun (v : Value) (p : V × PyData) => RelV p.1 v) its (zs.zip ds) ∧ EachIs (fun (v : Value) (p : V × PyData) => ∃ as, Reads h v p.2 as) its (zs.zip ds) := by
  intro r
  induction r generalizing ds with
  | nil => intro e; cases e; exact ⟨.nil, .nil⟩
  | cons h1 t ih =>
    intro e
    cases e with
    | cons e1 e2 =>
      obtain ⟨q1, q2⟩ := ih e2
      exact ⟨.cons h1 q1, .cons e1 q2⟩
theorem vals_each {ps : List (V × PyData)} {out : List Value} (e : EachIs (fun (v : Value) (p : V × PyData) => RelV p.1 v) out ps) : Vals (ps.map (·.1)) out := by
  induction e with
  | nil => exact .nil
  | cons h _ ih => exact .cons h ih
theorem zip_snd {zs : List V} : ∀ {ds : List PyData}, zs.length = ds.length → (zs.zip ds).map (fun p => p.2) = ds := by
  induction zs with
  | nil => intro ds h; cases ds with
    | nil => rfl
    | cons _ _ => cases h
  | cons z zs ih => intro ds h; cases ds with
    | nil => cases h
    | cons d ds => rw [List.zip_cons_cons, List.map_cons, ih (Nat.succ.inj h)]
section
variable {X : Cx} {pins : List (Addr × Obj)} {σ : L2.St} {H : Hp} {s : Shared}
theorem dp_each (I : Inv X pins σ H s) : ∀ {ds : List PyData} {zs : List V} {its : List Value}, DpAll X.K H zs ds → Vals zs its → EachIs (fun v d => ∃ as, Reads s.heap v d as) its ds
  | [], _, _, h, r => by cases h; cases r; exact .nil
  | d :: ds, _, _, h, r => by
    cases h with
    | cons h1 h2 =>
      cases r with
      | cons r1 r2 => exact .cons (Dp.reads I d _ _ h1 r1) (dp_each I h2 r2)
theorem cr_srt (hu : X.A.units + 64 < cLine) : CallR X (.builtin "sorted") (rSrt X.K) := by
  intro pins s σ H xs us Q I r h
  obtain ⟨a, zs, ds, rfl, hs, hd, hal, hk, hdp, q⟩ := h
  obtain ⟨its, rv, hl, hz⟩ := I.list hs
  obtain ⟨u, rfl, ru⟩ := vals1 r
  obtain rfl : u = Value.ref a := ru
  have er := dp_each I hd rv
  have hlen : zs.length = ds.length := by rw [rv.length, er.length]
  obtain ⟨e1, e2⟩ := each_zip rv er
  have hmap : (zs.zip ds).map (fun p => p.2) = ds := zip_snd hlen
  have e2' : EachIs (fun (v : Value) (p : V × PyData) => ∃ as, Reads (PySem.W.sortingHeap (PySem.W.copyHeap s.heap its) (s.heap.objs.size + 1) its) v p.2 as) its (zs.zip ds) := e2.mono fun _ _ ⟨as, r⟩ => ⟨as, PyProof.Rows.Reads.keeps (fun _ _ => PySem.W.sorting_copy_old) r⟩
  have e3 := PySem.W.each_map (R := fun v d => ∃ as, Reads (PySem.W.sortingHeap (PySem.W.copyHeap s.heap its) (s.heap.objs.size + 1) its) v d as) (fun p : V × PyData => p.2) e2'
  have hal' : AllAlike ((zs.zip ds).map fun p => p.2) := by rw [hmap]; exact hal
  refine PySem.W.sorted_vals hl.isList (sortsAt_any (s := { s with heap := PySem.W.sortingHeap (PySem.W.copyHeap s.heap its) (s.heap.objs.size + 1) its }) e3 hal' (by rw [hmap]; exact hk) (fun d hd' => ?_)) (by rw [← rv.length]; exact hz) ?_
  · rw [hmap] at hd'
    have := hdp d hd'
    show X.A.units + 2 + d.depth < cLine
    omega
  · have es := PySem.W.sortVals_data (R := fun (v : Value) (p : V × PyData) => RelV p.1 v) false e1 e2' hal'
    have rv2 := vals_each es
    obtain ⟨c, hc⟩ := sortedAll_at s.heap its (PySem.W.sortVals (dataKind (PySem.W.sortingHeap (PySem.W.copyHeap s.heap its) (s.heap.objs.size + 1) its) ((zs.zip ds).map fun p => p.2)) false its its).toArray
    have hlen2 : (sortV zs ds).length = zs.length := by
      unfold sortV
      rw [List.length_map, List.length_mergeSort, List.length_zip, ← hlen, Nat.min_self]
    refine ⟨.ref (s.heap.objs.size + 1), _, I.laid (t' := s.toks) (o := .lst (sortV zs ds)) (fun _ _ => sortedAll_old) (Nat.le_succ _) ⟨by rw [hlen2]; exact hz, _, c, rv2, hc⟩, rfl, q _ (I.hok.fresh (Nat.le_succ _))⟩
end

/-! data-level -/
theorem each_all2 {α : Type} {e : α → Pd} {enc : α → PyData} {F : Hp} : ∀ {vs : List V} {xs : List α}, All2 vs (xs.map e) F → EachIs (fun (p : V × PyData) (x : α) => (e x).p p.1 F ∧ p.2 = enc x) (vs.zip (xs.map enc)) xs
  | [], [], _ => .nil
  | _ :: _, _ :: _, h => .cons ⟨h.1, rfl⟩ (each_all2 h.2)
  | [], _ :: _, h => h.elim
  | _ :: _, [], h => h.elim
theorem all2_each {α : Type} {e : α → Pd} {enc : α → PyData} {F : Hp} {ps : List (V × PyData)} {xs : List α} (h : EachIs (fun (p : V × PyData) (x : α) => (e x).p p.1 F ∧ p.2 = enc x) ps xs) : All2 (ps.map (·.1)) (xs.map e) F := by
  induction h with
  | nil => trivial
  | cons h _ ih => exact ⟨h.1, ih⟩
theorem dpAll_of {α : Type} {K : PySem.W.Frag} {e : α → Pd} {enc : α → PyData} {F H : Hp} (he : ∀ x v, (e x).p v F → Dp K H v (enc x)) : ∀ {vs : List V} {xs : List α}, All2 vs (xs.map e) F → DpAll K H vs (xs.map enc)
  | [], [], _ => .nil
  | _ :: _, x :: _, h => .cons (he x _ h.1) (dpAll_of he h.2)
  | [], _ :: _, h => h.elim
  | _ :: _, [], h => h.elim
theorem all2_sort {α : Type} {e : α → Pd} {enc : α → PyData} {F : Hp} {vs : List V} {xs : List α} (h : All2 vs (xs.map e) F) : All2 (sortV vs (xs.map enc)) ((xs.mergeSort (dataLe false enc)).map e) F := by
  refine all2_each (enc := enc) (PySem.W.sort_each (each_all2 h) fun p hp q hq => ?_)
  have h1 := ((each_all2 (enc := enc) h).zip p hp).2
  have h2 := ((each_all2 (enc := enc) h).zip q hq).2
  show PySem.W.sortLe _ false _ _ _ = PySem.W.sortLe _ false _ _ _
  unfold PySem.W.sortLe
  show (!(listOrd itemOrd).blt (PySem.W.keyToks q.1.2) (PySem.W.keyToks p.1.2)) = (!(listOrd itemOrd).blt (PySem.W.keyToks (enc q.2)) (PySem.W.keyToks (enc p.2)))
  rw [h1, h2]
theorem On.sorted {α : Type} {K : PySem.W.Frag} {e : α → Pd} {enc : α → PyData} {xs : List α} (he : ∀ x v F H, Same F H → (e x).p v F → Dp K H v (enc x)) (hal : AllAlike (xs.map enc)) (hk : Sortable (xs.map enc) ∨ ((xs.map enc).length ≤ 1 ∧ ∀ d, d ∈ xs.map enc → d ≠ .none)) (hd : ∀ d, d ∈ xs.map enc → d.depth ≤ 60) :
    On (rSrt K) [pLst (xs.map e)] (pLst ((xs.mergeSort (dataLe false enc)).map e)) := fun ys F H s hx Q k => by
  obtain ⟨x, rfl, a, vs, rfl, h2, h3⟩ := hx.one
  refine ⟨a, vs, xs.map enc, rfl, SqL.rd s h2, dpAll_of (fun x v h => he x v F H s h) h3, hal, hk, hd, fun p hp => ?_⟩
  have ex := Ex.new s (.lst (sortV vs (xs.map enc))) hp
  exact k _ _ _ ex ⟨p, _, rfl, upd_same, (all2_sort h3).mono ex.f⟩
/-! rows of ints -/
def tupI (ns : List Int) : Pd := pTup (ns.map pInt)
def lstI (ns : List Int) : Pd := pLst (ns.map pInt)
theorem dp_ints {K : PySem.W.Frag} {F H : Hp} : ∀ {vs : List V} {ns : List Int}, All2 vs (ns.map pInt) F → DpAll K H vs (ns.map .int)
  | [], [], _ => .nil
  | v :: _, n :: _, h => .cons (by have h1 : v = .int n := h.1; rw [h1]; exact .int n) (dp_ints h.2)
  | [], _ :: _, h => h.elim
  | _ :: _, [], h => h.elim
theorem dp_tupI {K : PySem.W.Frag} {ns : List Int} {v : V} {F H : Hp} (s : Same F H) (h : (tupI ns).p v F) : Dp K H v (.tuple (ns.map .int)) := by
  obtain ⟨a, vs, rfl, h2, h3⟩ := h
  exact .tup (SqT.rd s h2) (dp_ints h3)
theorem dataLe_tup {β : Type} (x : β → List Int) : dataLe false (fun b => .tuple ((x b).map .int)) = fun p q => decide (x p ≤ x q) := by
  rw [← PySem.W.dataLe_rows]
  funext a b
  show PySem.W.sortLe _ false _ _ _ = PySem.W.sortLe _ false _ _ _
  unfold PySem.W.sortLe
  simp only [PySem.W.keyToks]
theorem lexLt_eq : ∀ xs ys : List Int, HT.lexLt xs ys = decide (xs < ys)
  | [], [] => by simp [HT.lexLt]
  | [], y :: ys => by simp [HT.lexLt]
  | x :: xs, [] => by simp [HT.lexLt]
  | x :: xs, y :: ys => by
    rw [HT.lexLt_cons]
    by_cases h : x = y
    · subst h
      rw [if_pos rfl, lexLt_eq xs ys]
      exact decide_eq_decide.mpr (by rw [List.cons_lt_cons_iff]; constructor
                                     · intro h; exact .inr ⟨rfl, h⟩
                                     · rintro (h | ⟨_, h⟩)
                                       · exact absurd h (Int.lt_irrefl _)
                                       · exact h)
    · rw [if_neg h]
      exact decide_eq_decide.mpr (by rw [List.cons_lt_cons_iff]; constructor
                                     · intro h; exact .inl h
                                     · rintro (h' | ⟨h', _⟩)
                                       · exact h'
                                       · exact absurd h' h)
theorem O2.ltT {K : PySem.W.Frag} {ns ms : List Int} : O2 (uLt K) (tupI ns) (tupI ms) (pBool (decide (ns < ms))) := .or2 fun x y F H s hx hy Q k => by
  obtain ⟨a, vs, rfl, h2, h3⟩ := hx
  obtain ⟨b, ws, rfl, h4, h5⟩ := hy
  rw [all2_ints h3] at h2
  rw [all2_ints h5] at h4
  exact ⟨a, b, ns, ms, rfl, rfl, SqT.rd s h2, SqT.rd s h4, k _ F H (Ex.refl s) (by rw [← lexLt_eq]; exact rfl)⟩
/-- rows sorted, none twice: strictly ascending -/
theorem sorted_rows {β : Type} (x : β → List Int) (hx : ∀ a b, x a = x b → a = b) {bs : List β} (nd : bs.Nodup) : (bs.mergeSort (dataLe false fun b => .tuple ((x b).map .int))).Pairwise fun a b => x a < x b := by
  rw [dataLe_tup]
  have h1 : (bs.mergeSort fun p q => decide (x p ≤ x q)).Pairwise fun a b => (decide (x a ≤ x b)) = true := List.pairwise_mergeSort (fun a b c h1 h2 => by
    have h1 := of_decide_eq_true h1
    have h2 := of_decide_eq_true h2
    exact decide_eq_true (List.le_trans h1 h2)) (fun a b => by
    rcases List.le_total (x a) (x b) with h | h
    · simp [h]
    · simp [h]) bs
  have h2 : (bs.mergeSort fun p q => decide (x p ≤ x q)).Nodup := (List.mergeSort_perm _ _).nodup_iff.mpr nd
  refine (h1.and h2).imp ?_
  rintro a b ⟨h3, h4⟩
  have h3 : x a ≤ x b := of_decide_eq_true h3
  apply Classical.byContradiction
  intro h5
  have h5 : x b ≤ x a := List.not_lt.mp h5
  exact h4 (hx a b (List.le_antisymm h3 h5))
/-! rows of ints in order -/
theorem alike_ints : ∀ xs ys : List Int, PySem.W.alikeAll (xs.map PyData.int) (ys.map .int) = true
  | [], _ => by cases ‹List Int› <;> rfl
  | _ :: _, [] => rfl
  | x :: xs, y :: ys => by
    show (PySem.W.alike (.int x) (.int y) && PySem.W.alikeAll (xs.map PyData.int) (ys.map .int)) = true
    rw [alike_ints xs ys]; rfl
theorem depth_ints : ∀ xs : List Int, PyData.depthAll (xs.map PyData.int) ≤ 1
  | [] => Nat.zero_le _
  | x :: xs => by
    have := depth_ints xs
    rw [List.map_cons]
    unfold PyData.depthAll
    have e : (PyData.int x).depth ≤ 1 := by unfold PyData.depth; omega
    omega
theorem On.sortRows {β : Type} {K : PySem.W.Frag} (x : β → List Int) {bs : List β} (h : (∀ b ∈ bs, x b ≠ []) ∨ bs.length ≤ 1) :
    On (rSrt K) [pLst (bs.map fun b => tupI (x b))] (pLst ((bs.mergeSort (dataLe false fun b => .tuple ((x b).map .int))).map fun b => tupI (x b))) := by
  refine On.sorted (enc := fun b => .tuple ((x b).map .int)) (fun b v F H s k => dp_tupI s k) (AllAlike.of fun b b' => alike_ints _ _) ?_ ?_
  · rcases h with h | h
    · refine .inl (.inl fun d hd => ?_)
      obtain ⟨b, hb, rfl⟩ := List.mem_map.mp hd
      have := h b hb
      cases e : x b with
      | nil => exact absurd e this
      | cons i r => exact ⟨.int i, r.map .int, by rw [List.map_cons]⟩
    · refine .inr ⟨by rw [List.length_map]; exact h, fun d hd => ?_⟩
      obtain ⟨b, hb, rfl⟩ := List.mem_map.mp hd
      intro e
      cases e
  · intro d hd
    obtain ⟨b, hb, rfl⟩ := List.mem_map.mp hd
    have := depth_ints (x b)
    show PyData.depth (.tuple ((x b).map .int)) ≤ 60
    unfold PyData.depth
    omega
end PD

set_option autoImplicit false
/-! tables as numbers, products, the covering -/
namespace M53
def full (c : Nat) : Nat := 2 ^ 2 ^ c - 1
theorem full_bit (c p : Nat) : (full c).testBit p = decide (p < 2 ^ c) := by
  unfold full
  exact Nat.testBit_two_pow_sub_one _ _
/-- two tables with the same bits -/
theorem tab_ext {c s t : Nat} (hs : s < 2 ^ 2 ^ c) (ht : t < 2 ^ 2 ^ c) (h : ∀ p, p < 2 ^ c → s.testBit p = t.testBit p) : s = t := by
  apply Nat.eq_of_testBit_eq
  intro p
  by_cases hp : p < 2 ^ c
  · exact h p hp
  · have : 2 ^ 2 ^ c ≤ 2 ^ p := Nat.pow_le_pow_right (by decide) (Nat.le_of_not_lt hp)
    rw [Nat.testBit_lt_two_pow (Nat.lt_of_lt_of_le hs this), Nat.testBit_lt_two_pow (Nat.lt_of_lt_of_le ht this)]
theorem bit_out {c t p : Nat} (ht : t < 2 ^ 2 ^ c) (hp : ¬ p < 2 ^ c) : t.testBit p = false :=
  Nat.testBit_lt_two_pow (Nat.lt_of_lt_of_le ht (Nat.pow_le_pow_right (by decide) (Nat.le_of_not_lt hp)))
/-! leaves -/
def leafF (i : Nat) (ps : List Nat) : Nat := ps.foldl (fun t p => t ||| ((p >>> i &&& 1) <<< p)) 0
def leaf (i c : Nat) : Nat := leafF i (List.range (2 ^ c))
theorem one_bit (i p q : Nat) : ((p >>> i &&& 1) <<< p).testBit q = (decide (q = p) && p.testBit i) := by
  rw [Nat.testBit_shiftLeft]
  by_cases h : q = p
  · subst h
    simp [Nat.testBit, Nat.and_comm, Nat.and_one_is_mod]
  · by_cases h2 : p ≤ q
    · have : q - p ≠ 0 := by omega
      have e : (p >>> i &&& 1).testBit (q - p) = false := by
        apply Nat.testBit_lt_two_pow
        have h1 : p >>> i &&& 1 ≤ 1 := Nat.and_le_right
        have h3 : 2 ≤ 2 ^ (q - p) := by
          have := Nat.pow_le_pow_right (n := 2) (by decide) (show 1 ≤ q - p by omega)
          simpa using this
        omega
      rw [e]; simp [h]
    · simp [h, h2]
theorem leafF_bit (i q : Nat) : ∀ (ps : List Nat) (t : Nat), (ps.foldl (fun t p => t ||| ((p >>> i &&& 1) <<< p)) t).testBit q = (t.testBit q || (decide (q ∈ ps) && q.testBit i))
  | [], t => by simp
  | p :: ps, t => by
    rw [List.foldl_cons, leafF_bit i q ps, Nat.testBit_or, one_bit]
    by_cases h : q = p
    · subst h
      simp
      cases t.testBit q <;> cases q.testBit i <;> simp
    · simp [h, List.mem_cons]
theorem leaf_bit (i c p : Nat) : (leaf i c).testBit p = (decide (p < 2 ^ c) && p.testBit i) := by
  unfold leaf leafF
  rw [leafF_bit]
  simp
theorem lt_of_bits {n t : Nat} (h : ∀ p, n ≤ p → t.testBit p = false) : t < 2 ^ n := by
  exact Nat.lt_pow_two_of_testBit t h
theorem leaf_lt (i c : Nat) : leaf i c < 2 ^ 2 ^ c := lt_of_bits fun p hp => by rw [leaf_bit]; simp; omega
theorem full_lt (c : Nat) : full c < 2 ^ 2 ^ c := by
  unfold full
  have : 0 < 2 ^ 2 ^ c := Nat.two_pow_pos _
  omega
/-! points -/
/-- the point that gives leaf i the value v -/
def setb (p i : Nat) (v : Bool) : Nat := if v then p ||| 2 ^ i else p ^^^ (p &&& 2 ^ i)
theorem setb_bit (p i j : Nat) (v : Bool) : (setb p i v).testBit j = if j = i then v else p.testBit j := by
  unfold setb
  cases v with
  | true =>
    simp only [if_true, Nat.testBit_or, Nat.testBit_two_pow]
    by_cases h : j = i
    · simp [h]
    · have : ¬ i = j := fun e => h e.symm
      simp [h, this]
  | false =>
    simp only [Bool.false_eq_true, if_false, Nat.testBit_xor, Nat.testBit_and, Nat.testBit_two_pow]
    by_cases h : j = i
    · simp [h]
    · have : ¬ i = j := fun e => h e.symm
      simp [h, this]
theorem setb_lt {p i c : Nat} {v : Bool} (hp : p < 2 ^ c) (hi : i < c) : setb p i v < 2 ^ c := by
  apply lt_of_bits
  intro j hj
  rw [setb_bit]
  have : ¬ j = i := by omega
  rw [if_neg this]
  exact Nat.testBit_lt_two_pow (Nat.lt_of_lt_of_le hp (Nat.pow_le_pow_right (by decide) hj))
theorem setb_self {p i : Nat} : setb p i (p.testBit i) = p := by
  apply Nat.eq_of_testBit_eq
  intro j
  rw [setb_bit]
  by_cases h : j = i
  · rw [if_pos h, h]
  · rw [if_neg h]
theorem setb_setb (p i : Nat) (v u : Bool) : setb (setb p i v) i u = setb p i u := by
  apply Nat.eq_of_testBit_eq
  intro j
  rw [setb_bit, setb_bit, setb_bit]
  by_cases h : j = i <;> simp [h]
theorem setb_true {p i : Nat} (h : p.testBit i = false) : setb p i true = p + 2 ^ i := by
  unfold setb
  rw [if_pos rfl]
  have e : p &&& 2 ^ i = 0 := by
    apply Nat.eq_of_testBit_eq
    intro j
    rw [Nat.testBit_and, Nat.testBit_two_pow, Nat.zero_testBit]
    by_cases q : i = j
    · subst q; simp [h]
    · simp [q]
  have h2 := PyProof.Rows.nat_or_add_and p (2 ^ i)
  omega
/-! halves -/
def half (t i v c : Nat) : Nat := if v = 1 then (t &&& leaf i c) ||| ((t &&& leaf i c) >>> 2 ^ i) else (t &&& (full c ^^^ leaf i c)) ||| ((t &&& (full c ^^^ leaf i c)) <<< 2 ^ i)
theorem add_bit (p i : Nat) : (2 ^ i + p).testBit i = !p.testBit i := Nat.testBit_two_pow_add_eq p i
theorem half1_bit {t i c p : Nat} (hp : p < 2 ^ c) (hi : i < c) : (half t i 1 c).testBit p = t.testBit (setb p i true) := by
  unfold half
  rw [if_pos rfl, Nat.testBit_or, Nat.testBit_shiftRight]
  simp only [Nat.testBit_and, leaf_bit]
  cases h : p.testBit i with
  | true =>
    have e : setb p i true = p := by rw [← h]; exact setb_self
    rw [e, add_bit, h]
    simp [hp]
  | false =>
    have e := setb_true h
    have hl := setb_lt (v := true) hp hi
    rw [e] at hl ⊢
    have : 2 ^ i + p = p + 2 ^ i := Nat.add_comm _ _
    rw [add_bit, h, this]
    simp [hl]
theorem half0_bit {t i c p : Nat} (hp : p < 2 ^ c) (hi : i < c) : (half t i 0 c).testBit p = t.testBit (setb p i false) := by
  unfold half
  rw [if_neg (by decide), Nat.testBit_or, Nat.testBit_shiftLeft]
  simp only [Nat.testBit_and, Nat.testBit_xor, leaf_bit, full_bit]
  cases h : p.testBit i with
  | false =>
    have e : setb p i false = p := by rw [← h]; exact setb_self
    rw [e]
    by_cases q : 2 ^ i ≤ p
    · have z := add_bit (p - 2 ^ i) i
      rw [Nat.add_sub_cancel' q, h] at z
      have z2 : (p - 2 ^ i).testBit i = true := by
        cases y : (p - 2 ^ i).testBit i with
        | true => rfl
        | false => rw [y] at z; cases z
      have : p - 2 ^ i < 2 ^ c := Nat.lt_of_le_of_lt (Nat.sub_le _ _) hp
      simp [hp, z2, this]
    · simp [hp, q]
  | true =>
    have e0 : setb (setb p i false) i true = p := by rw [setb_setb, ← h]; exact setb_self
    have b0 : (setb p i false).testBit i = false := by rw [setb_bit, if_pos rfl]
    have e := setb_true b0
    rw [e0] at e
    have hl := setb_lt (v := false) hp hi
    have e1 : p - 2 ^ i = setb p i false := by omega
    have e2 : 2 ^ i ≤ p := by omega
    rw [e1]
    simp [hl, hp, b0, e2]
theorem half_lt {t i v c : Nat} (ht : t < 2 ^ 2 ^ c) (hi : i < c) : half t i v c < 2 ^ 2 ^ c := by
  apply lt_of_bits
  intro p hp
  unfold half
  by_cases hv : v = 1
  · rw [if_pos hv, Nat.testBit_or, Nat.testBit_shiftRight]
    simp only [Nat.testBit_and, leaf_bit]
    have h1 : ¬ p < 2 ^ c := by omega
    have h2 : ¬ 2 ^ i + p < 2 ^ c := Nat.not_lt.mpr (Nat.le_trans hp (Nat.le_add_left _ _))
    simp [h1, h2]
  · rw [if_neg hv, Nat.testBit_or, Nat.testBit_shiftLeft]
    simp only [Nat.testBit_and, Nat.testBit_xor, leaf_bit, full_bit]
    have h1 : ¬ p < 2 ^ c := by omega
    by_cases q : 2 ^ i ≤ p
    · by_cases h2 : p - 2 ^ i < 2 ^ c
      · cases b : (p - 2 ^ i).testBit i with
        | true => simp [h1, h2]
        | false =>
          have e := setb_true b
          have hl := setb_lt (v := true) h2 hi
          rw [e] at hl
          exact absurd hl (by omega)
      · simp [h1, h2]
    · simp [h1, q]
def dep (t i c : Nat) : Bool := decide (half t i 0 c ≠ half t i 1 c)
def NoDep (c t i : Nat) : Prop := ∀ p, p < 2 ^ c → t.testBit (setb p i false) = t.testBit (setb p i true)
theorem dep_false {t i c : Nat} (ht : t < 2 ^ 2 ^ c) (hi : i < c) : dep t i c = false ↔ NoDep c t i := by
  unfold dep NoDep
  rw [decide_eq_false_iff_not, Decidable.not_not]
  constructor
  · intro h p hp
    rw [← half0_bit hp hi, ← half1_bit hp hi, h]
  · intro h
    refine tab_ext (half_lt ht hi) (half_lt ht hi) fun p hp => ?_
    rw [half0_bit hp hi, half1_bit hp hi, h p hp]
/-- nothing but the leaves below n decides the table -/
def DepLt (c n t : Nat) : Prop := ∀ p q, p < 2 ^ c → q < 2 ^ c → (∀ j, j < n → p.testBit j = q.testBit j) → t.testBit p = t.testBit q
theorem NoDep.at {c t i p : Nat} (h : NoDep c t i) (hp : p < 2 ^ c) (v : Bool) : t.testBit (setb p i v) = t.testBit p := by
  have e := h p hp
  have s := @setb_self p i
  cases v <;> cases b : p.testBit i <;> rw [b] at s
  · rw [s]
  · rw [e, s]
  · rw [← e, s]
  · rw [s]
theorem DepLt.top {c t : Nat} : DepLt c c t := fun p q hp hq h => by
  have : p = q := by
    apply Nat.eq_of_testBit_eq
    intro j
    by_cases hj : j < c
    · exact h j hj
    · have : 2 ^ c ≤ 2 ^ j := Nat.pow_le_pow_right (by decide) (Nat.le_of_not_lt hj)
      rw [Nat.testBit_lt_two_pow (Nat.lt_of_lt_of_le hp this), Nat.testBit_lt_two_pow (Nat.lt_of_lt_of_le hq this)]
  rw [this]
theorem DepLt.down {c n t : Nat} (hn : n < c) (h : DepLt c (n + 1) t) (k : NoDep c t n) : DepLt c n t := fun p q hp hq e => by
  rw [← k.at hp (q.testBit n)]
  refine h _ _ (setb_lt hp hn) hq fun j hj => ?_
  rw [setb_bit]
  by_cases hjn : j = n
  · rw [if_pos hjn, hjn]
  · rw [if_neg hjn]; exact e j (by omega)
theorem DepLt.mono {c m n t : Nat} (h : DepLt c m t) (hmn : m ≤ n) : DepLt c n t := fun p q hp hq e => h p q hp hq fun j hj => e j (by omega)
theorem DepLt.noDep {c n t i : Nat} (h : DepLt c n t) (hi : n ≤ i) (hc : i < c) : NoDep c t i := fun p hp => by
  refine h _ _ (setb_lt hp hc) (setb_lt hp hc) fun j hj => ?_
  have : ¬ j = i := by omega
  rw [setb_bit, setb_bit, if_neg this, if_neg this]
theorem DepLt.half {c t i v : Nat} (h : DepLt c (i + 1) t) (hi : i < c) (hv : v = 0 ∨ v = 1) : DepLt c i (half t i v c) := fun p q hp hq e => by
  have key : ∀ b : Bool, t.testBit (setb p i b) = t.testBit (setb q i b) := fun b => by
    refine h _ _ (setb_lt hp hi) (setb_lt hq hi) fun j hj => ?_
    rw [setb_bit, setb_bit]
    by_cases hji : j = i
    · rw [if_pos hji, if_pos hji]
    · rw [if_neg hji, if_neg hji]; exact e j (by omega)
  rcases hv with rfl | rfl
  · rw [half0_bit hp hi, half0_bit hq hi]; exact key false
  · rw [half1_bit hp hi, half1_bit hq hi]; exact key true
/-- a table that nothing decides is empty or full -/
theorem const_of {c t : Nat} (ht : t < 2 ^ 2 ^ c) (h : DepLt c 0 t) : t = 0 ∨ t = full c := by
  cases b : t.testBit 0 with
  | false =>
    refine .inl (tab_ext ht (Nat.two_pow_pos _) fun p hp => ?_)
    rw [h p 0 hp (Nat.two_pow_pos _) (fun j hj => absurd hj (Nat.not_lt_zero _)), b, Nat.zero_testBit]
  | true =>
    refine .inr (tab_ext ht (full_lt c) fun p hp => ?_)
    rw [h p 0 hp (Nat.two_pow_pos _) (fun j hj => absurd hj (Nat.not_lt_zero _)), b, full_bit]
    simp [hp]
/-- the greatest leaf below n on which one of two tables depends -/
def lastLeaf (L U c : Nat) : Nat → Nat
  | 0 => 0
  | n + 1 => if dep L n c || dep U n c then n else lastLeaf L U c n
theorem lastLeaf_spec {L U c : Nat} (hL : L < 2 ^ 2 ^ c) (hU : U < 2 ^ 2 ^ c) : ∀ n, n ≤ c → DepLt c n L → DepLt c n U → (lastLeaf L U c n < n ∧ DepLt c (lastLeaf L U c n + 1) L ∧ DepLt c (lastLeaf L U c n + 1) U ∧ (dep L (lastLeaf L U c n) c || dep U (lastLeaf L U c n) c) = true) ∨ (DepLt c 0 L ∧ DepLt c 0 U)
  | 0, _, h1, h2 => .inr ⟨h1, h2⟩
  | n + 1, hn, h1, h2 => by
    unfold lastLeaf
    cases e : (dep L n c || dep U n c) with
    | true =>
      rw [if_pos rfl]
      exact .inl ⟨Nat.lt_succ_self n, h1, h2, e⟩
    | false =>
      rw [if_neg Bool.false_ne_true]
      rw [Bool.or_eq_false_iff] at e
      have d1 := h1.down (by omega) ((dep_false hL (by omega)).mp e.1)
      have d2 := h2.down (by omega) ((dep_false hU (by omega)).mp e.2)
      rcases lastLeaf_spec hL hU n (by omega) d1 d2 with ⟨a, b, d, f⟩ | h
      · exact .inl ⟨by omega, b, d, f⟩
      · exact .inr h
/-! products -/
def lsat (p l : Nat) : Bool := p.testBit (l / 2) == decide (l % 2 = 0)
def sat (pr : List Nat) (p : Nat) : Bool := pr.all (lsat p)
def covers (ps : List (List Nat)) (p : Nat) : Bool := ps.any fun pr => sat pr p
/-- literals in ascending order, of different leaves below n -/
def Asc : Nat → List Nat → Prop
  | n, [] => True
  | n, l :: r => l / 2 < n ∧ Asc n r ∧ ∀ m ∈ r, l / 2 < m / 2
theorem Asc.lt : ∀ {n : Nat} {pr : List Nat}, Asc n pr → ∀ l ∈ pr, l / 2 < n
  | _, l :: r, h, m, hm => by
    rcases List.mem_cons.mp hm with rfl | hm
    · exact h.1
    · exact Asc.lt h.2.1 m hm
theorem Asc.snoc : ∀ {i n : Nat} {pr : List Nat} {l : Nat}, Asc i pr → l / 2 = i → i < n → Asc n (pr ++ [l])
  | i, n, [], l, _, hl, hi => ⟨by omega, trivial, fun _ h => absurd h (by simp)⟩
  | i, n, a :: r, l, h, hl, hi => ⟨by have := h.1; omega, Asc.snoc h.2.1 hl hi, fun m hm => by
    rcases List.mem_append.mp hm with hm | hm
    · exact h.2.2 m hm
    · have : m = l := by simpa using hm
      subst this
      have := h.1
      omega⟩
theorem Asc.mono : ∀ {i n : Nat} {pr : List Nat}, Asc i pr → i ≤ n → Asc n pr
  | _, _, [], _, _ => trivial
  | _, _, _ :: _, h, hi => ⟨Nat.lt_of_lt_of_le h.1 hi, Asc.mono h.2.1 hi, h.2.2⟩
theorem sat_snoc {pr : List Nat} {l p : Nat} : sat (pr ++ [l]) p = (sat pr p && lsat p l) := by
  unfold sat
  rw [List.all_append]
  simp
theorem sat_setb {i : Nat} : ∀ {pr : List Nat} {p : Nat} {v : Bool}, (∀ l ∈ pr, l / 2 ≠ i) → sat pr (setb p i v) = sat pr p
  | [], _, _, _ => rfl
  | l :: r, p, v, h => by
    have ih := sat_setb (pr := r) (p := p) (v := v) fun m hm => h m (List.mem_cons_of_mem _ hm)
    unfold sat at ih ⊢
    rw [List.all_cons, List.all_cons, ih]
    congr 1
    unfold lsat
    rw [setb_bit, if_neg (h l List.mem_cons_self)]
/-- a literal's table -/
def litT (l c : Nat) : Nat := leaf (l / 2) c ^^^ (full c * (l % 2))
theorem litT_bit {l c p : Nat} (hp : p < 2 ^ c) : (litT l c).testBit p = lsat p l := by
  unfold litT lsat
  have : l % 2 = 0 ∨ l % 2 = 1 := by omega
  rcases this with h | h
  · rw [h, Nat.mul_zero, Nat.xor_zero, leaf_bit]
    simp [hp]
  · rw [h, Nat.mul_one, Nat.testBit_xor, leaf_bit, full_bit]
    simp [hp]
def prT (c : Nat) (pr : List Nat) : Nat := pr.foldl (fun t l => t &&& litT l c) (full c)
theorem prT_bit {c p : Nat} (hp : p < 2 ^ c) : ∀ (pr : List Nat) (t : Nat), (pr.foldl (fun t l => t &&& litT l c) t).testBit p = (t.testBit p && sat pr p)
  | [], t => by simp [sat]
  | l :: r, t => by
    rw [List.foldl_cons, prT_bit hp r, Nat.testBit_and, litT_bit hp]
    unfold sat
    rw [List.all_cons, Bool.and_assoc]
theorem prT_le {c : Nat} : ∀ (pr : List Nat) (t : Nat), pr.foldl (fun t l => t &&& litT l c) t ≤ t
  | [], t => Nat.le_refl _
  | l :: r, t => Nat.le_trans (prT_le r _) Nat.and_le_left
def prodT (ps : List (List Nat)) (c : Nat) : Nat := ps.foldl (fun t pr => t ||| prT c pr) 0
theorem prodT_bit' {c p : Nat} (hp : p < 2 ^ c) : ∀ (ps : List (List Nat)) (t : Nat), (ps.foldl (fun t pr => t ||| prT c pr) t).testBit p = (t.testBit p || covers ps p)
  | [], t => by simp [covers]
  | pr :: r, t => by
    rw [List.foldl_cons, prodT_bit' hp r, Nat.testBit_or]
    unfold prT
    rw [prT_bit hp, full_bit]
    unfold covers
    rw [List.any_cons, Bool.or_assoc]
    simp [hp]
theorem prodT_bit {ps : List (List Nat)} {c p : Nat} (hp : p < 2 ^ c) : (prodT ps c).testBit p = covers ps p := by
  unfold prodT
  rw [prodT_bit' hp, Nat.zero_testBit, Bool.false_or]
theorem prodT_lt' {c : Nat} : ∀ (ps : List (List Nat)) (t : Nat), t < 2 ^ 2 ^ c → ps.foldl (fun t pr => t ||| prT c pr) t < 2 ^ 2 ^ c
  | [], t, h => h
  | pr :: r, t, h => prodT_lt' r _ (Nat.or_lt_two_pow h (Nat.lt_of_le_of_lt (prT_le pr _) (full_lt c)))
theorem prodT_lt {ps : List (List Nat)} {c : Nat} : prodT ps c < 2 ^ 2 ^ c := prodT_lt' ps 0 (Nat.two_pow_pos _)
/-! the covering -/
def cover (c : Nat) : Nat → Nat → Nat → List (List Nat)
  | n, L, U => if L = 0 then [] else if U = full c then [[]] else match n with
    | 0 => []
    | n + 1 =>
      let i := lastLeaf L U c c
      let a := cover c n (half L i 0 c &&& (full c ^^^ half U i 1 c)) (half U i 0 c)
      let b := cover c n (half L i 1 c &&& (full c ^^^ half U i 0 c)) (half U i 1 c)
      let left := half L i 0 c &&& (full c ^^^ prodT a c) ||| half L i 1 c &&& (full c ^^^ prodT b c)
      a.map (· ++ [2 * i + 1]) ++ b.map (· ++ [2 * i]) ++ cover c n left (half U i 0 c &&& half U i 1 c)
def Sub (c s t : Nat) : Prop := ∀ p, p < 2 ^ c → s.testBit p = true → t.testBit p = true
/-- what a covering of L within U is -/
structure Good (c L U : Nat) (R : List (List Nat)) : Prop where
  cov : ∀ p, p < 2 ^ c → L.testBit p = true → covers R p = true
  sub : ∀ p, p < 2 ^ c → covers R p = true → U.testBit p = true
  asc : ∀ m, DepLt c m L → DepLt c m U → m ≤ c → ∀ pr ∈ R, Asc m pr
  nd : R.Nodup
  own : ∀ pr ∈ R, ∃ p, p < 2 ^ c ∧ L.testBit p = true ∧ sat pr p = true ∧ ∀ qr ∈ R, qr ≠ pr → sat qr p = false
  prime : ∀ pr ∈ R, ∀ l ∈ pr, ∃ p, p < 2 ^ c ∧ (∀ m ∈ pr, m ≠ l → lsat p m = true) ∧ U.testBit p = false
theorem covers_iff {ps : List (List Nat)} {p : Nat} : covers ps p = true ↔ ∃ pr ∈ ps, sat pr p = true := by
  unfold covers
  rw [List.any_eq_true]
theorem covers_no {ps : List (List Nat)} {p : Nat} (h : covers ps p = false) {pr : List Nat} (hp : pr ∈ ps) : sat pr p = false := by
  cases e : sat pr p with
  | false => rfl
  | true => rw [covers_iff.mpr ⟨pr, hp, e⟩] at h; cases h
theorem sat_iff {pr : List Nat} {p : Nat} : sat pr p = true ↔ ∀ l ∈ pr, lsat p l = true := by
  unfold sat
  rw [List.all_eq_true]
theorem lsat_odd {p i : Nat} : lsat p (2 * i + 1) = !p.testBit i := by
  unfold lsat
  have h1 : (2 * i + 1) / 2 = i := by omega
  have h2 : ¬ (2 * i + 1) % 2 = 0 := by omega
  rw [h1]
  simp [h2]
theorem lsat_even {p i : Nat} : lsat p (2 * i) = p.testBit i := by
  unfold lsat
  have h1 : (2 * i) / 2 = i := by omega
  have h2 : (2 * i) % 2 = 0 := by omega
  rw [h1, h2]
  simp
theorem xor_full {c t p : Nat} (hp : p < 2 ^ c) : (full c ^^^ t).testBit p = !t.testBit p := by
  rw [Nat.testBit_xor, full_bit]
  simp [hp]
theorem xor_full_lt {c t : Nat} (ht : t < 2 ^ 2 ^ c) : full c ^^^ t < 2 ^ 2 ^ c := Nat.xor_lt_two_pow (full_lt c) ht
theorem and_lt {a b n : Nat} (h : a < 2 ^ n) : a &&& b < 2 ^ n := Nat.lt_of_le_of_lt Nat.and_le_left h
theorem depAnd {c n s t : Nat} (h : DepLt c n s) (k : DepLt c n t) : DepLt c n (s &&& t) := fun p q hp hq e => by rw [Nat.testBit_and, Nat.testBit_and, h p q hp hq e, k p q hp hq e]
theorem depOr {c n s t : Nat} (h : DepLt c n s) (k : DepLt c n t) : DepLt c n (s ||| t) := fun p q hp hq e => by rw [Nat.testBit_or, Nat.testBit_or, h p q hp hq e, k p q hp hq e]
theorem depNot {c n t : Nat} (k : DepLt c n t) : DepLt c n (full c ^^^ t) := fun p q hp hq e => by rw [xor_full hp, xor_full hq, k p q hp hq e]
theorem satAsc {n : Nat} {pr : List Nat} (h : Asc n pr) {p q : Nat} (e : ∀ j, j < n → p.testBit j = q.testBit j) : sat pr p = sat pr q := by
  unfold sat
  rw [Bool.eq_iff_iff, List.all_eq_true, List.all_eq_true]
  have key : ∀ l ∈ pr, lsat p l = lsat q l := fun l hl => by
    unfold lsat
    rw [e _ (h.lt l hl)]
  constructor
  · intro k l hl; rw [← key l hl]; exact k l hl
  · intro k l hl; rw [key l hl]; exact k l hl
theorem depProd {c n : Nat} {ps : List (List Nat)} (h : ∀ pr ∈ ps, Asc n pr) : DepLt c n (prodT ps c) := fun p q hp hq e => by
  rw [prodT_bit hp, prodT_bit hq, Bool.eq_iff_iff, covers_iff, covers_iff]
  constructor
  · rintro ⟨pr, h1, h2⟩; exact ⟨pr, h1, by rw [← satAsc (h pr h1) e]; exact h2⟩
  · rintro ⟨pr, h1, h2⟩; exact ⟨pr, h1, by rw [satAsc (h pr h1) e]; exact h2⟩
theorem mem_snoc {l : Nat} {ps : List (List Nat)} {pr : List Nat} : pr ∈ ps.map (· ++ [l]) ↔ ∃ qr ∈ ps, pr = qr ++ [l] := by
  rw [List.mem_map]
  constructor
  · rintro ⟨q, h, e⟩; exact ⟨q, h, e.symm⟩
  · rintro ⟨q, h, e⟩; exact ⟨q, h, e.symm⟩
theorem cover_good {c : Nat} : ∀ (n L U : Nat), L < 2 ^ 2 ^ c → U < 2 ^ 2 ^ c → Sub c L U → DepLt c n L → DepLt c n U → n ≤ c → Good c L U (cover c n L U) := by
  intro n
  induction n with
  | zero =>
    intro L U hL hU hs dL dU _
    unfold cover
    by_cases h0 : L = 0
    · rw [if_pos h0]
      subst h0
      exact ⟨fun p _ h => by simp at h, fun p _ h => by simp [covers] at h, fun m _ _ _ pr h => absurd h (by simp), List.nodup_nil, fun pr h => absurd h (by simp), fun pr h => absurd h (by simp)⟩
    · rw [if_neg h0]
      have hl : L = full c := (const_of hL dL).resolve_left h0
      have hu : U = full c := by
        rcases const_of hU dU with h | h
        · subst h
          have := hs 0 (Nat.two_pow_pos _) (by rw [hl, full_bit]; simp [Nat.two_pow_pos])
          simp at this
        · exact h
      rw [if_pos hu]
      refine ⟨fun p _ _ => by simp [covers, sat], fun p hp _ => by rw [hu, full_bit]; simp [hp], fun m _ _ _ pr h => by
        have : pr = [] := by simpa using h
        subst this; trivial, by simp, fun pr h => ?_, fun pr h l hl => by
        have : pr = [] := by simpa using h
        subst this; simp at hl⟩
      have : pr = [] := by simpa using h
      subst this
      exact ⟨0, Nat.two_pow_pos _, by rw [hl, full_bit]; simp [Nat.two_pow_pos], rfl, fun qr hq hn => absurd (by simpa using hq) hn⟩
  | succ n ih =>
    intro L U hL hU hs dL dU hn
    unfold cover
    by_cases h0 : L = 0
    · rw [if_pos h0]
      subst h0
      exact ⟨fun p _ h => by simp at h, fun p _ h => by simp [covers] at h, fun m _ _ _ pr h => absurd h (by simp), List.nodup_nil, fun pr h => absurd h (by simp), fun pr h => absurd h (by simp)⟩
    rw [if_neg h0]
    by_cases h1 : U = full c
    · rw [if_pos h1]
      refine ⟨fun p _ _ => by simp [covers, sat], fun p hp _ => by rw [h1, full_bit]; simp [hp], fun m _ _ _ pr h => by
        have : pr = [] := by simpa using h
        subst this; trivial, by simp, fun pr h => ?_, fun pr h l hl => by
        have : pr = [] := by simpa using h
        subst this; simp at hl⟩
      have : pr = [] := by simpa using h
      subst this
      have : ∃ p, p < 2 ^ c ∧ L.testBit p = true := by
        apply Classical.byContradiction
        intro q
        apply h0
        refine tab_ext hL (Nat.two_pow_pos _) fun p hp => ?_
        rw [Nat.zero_testBit]
        cases e : L.testBit p with
        | false => rfl
        | true => exact absurd ⟨p, hp, e⟩ q
      obtain ⟨p, hp, e⟩ := this
      exact ⟨p, hp, e, rfl, fun qr hq hn => absurd (by simpa using hq) hn⟩
    rw [if_neg h1]
    -- the leaf
    have hspec := lastLeaf_spec hL hU c (Nat.le_refl _) DepLt.top DepLt.top
    generalize hi : lastLeaf L U c c = i at hspec
    have hlast : i < c ∧ DepLt c (i + 1) L ∧ DepLt c (i + 1) U ∧ (dep L i c || dep U i c) = true := by
      rcases hspec with h | ⟨z1, z2⟩
      · exact h
      · exfalso
        have hl : L = full c := (const_of hL z1).resolve_left h0
        rcases const_of hU z2 with h | h
        · subst h
          have := hs 0 (Nat.two_pow_pos _) (by rw [hl, full_bit]; simp [Nat.two_pow_pos])
          simp at this
        · exact h1 h
    obtain ⟨hic, dL1, dU1, hdep⟩ := hlast
    have below : ∀ m, DepLt c m L → DepLt c m U → i < m := fun m k1 k2 => by
      apply Nat.lt_of_not_le
      intro hm
      rw [Bool.or_eq_true] at hdep
      rcases hdep with z | z
      · have := (dep_false hL hic).mpr (k1.noDep hm hic); rw [this] at z; cases z
      · have := (dep_false hU hic).mpr (k2.noDep hm hic); rw [this] at z; cases z
    have hin : i ≤ n := Nat.le_of_lt_succ (below (n + 1) dL dU)
    show Good c L U (_ ++ _ ++ _)
    have l0 := half_lt (t := L) (i := i) (v := 0) hL hic
    have l1 := half_lt (t := L) (i := i) (v := 1) hL hic
    have u0 := half_lt (t := U) (i := i) (v := 0) hU hic
    have u1 := half_lt (t := U) (i := i) (v := 1) hU hic
    have dl0 := (dL1.half (v := 0) hic (.inl rfl)).mono hin
    have dl1 := (dL1.half (v := 1) hic (.inr rfl)).mono hin
    have du0 := (dU1.half (v := 0) hic (.inl rfl)).mono hin
    have du1 := (dU1.half (v := 1) hic (.inr rfl)).mono hin
    have bl0 : ∀ {p}, p < 2 ^ c → (half L i 0 c).testBit p = L.testBit (setb p i false) := fun hp => half0_bit hp hic
    have bl1 : ∀ {p}, p < 2 ^ c → (half L i 1 c).testBit p = L.testBit (setb p i true) := fun hp => half1_bit hp hic
    have bu0 : ∀ {p}, p < 2 ^ c → (half U i 0 c).testBit p = U.testBit (setb p i false) := fun hp => half0_bit hp hic
    have bu1 : ∀ {p}, p < 2 ^ c → (half U i 1 c).testBit p = U.testBit (setb p i true) := fun hp => half1_bit hp hic
    have sA : Sub c (half L i 0 c &&& (full c ^^^ half U i 1 c)) (half U i 0 c) := fun p hp h => by
      rw [Nat.testBit_and, Bool.and_eq_true, bl0 hp] at h
      rw [bu0 hp]
      exact hs _ (setb_lt hp hic) h.1
    have sB : Sub c (half L i 1 c &&& (full c ^^^ half U i 0 c)) (half U i 1 c) := fun p hp h => by
      rw [Nat.testBit_and, Bool.and_eq_true, bl1 hp] at h
      rw [bu1 hp]
      exact hs _ (setb_lt hp hic) h.1
    have GA := ih _ _ (and_lt (b := full c ^^^ half U i 1 c) l0) u0 sA (depAnd dl0 (depNot du1)) du0 (by omega)
    have GB := ih _ _ (and_lt (b := full c ^^^ half U i 0 c) l1) u1 sB (depAnd dl1 (depNot du0)) du1 (by omega)
    have di0 := dL1.half (v := 0) hic (.inl rfl)
    have di1 := dL1.half (v := 1) hic (.inr rfl)
    have de0 := dU1.half (v := 0) hic (.inl rfl)
    have de1 := dU1.half (v := 1) hic (.inr rfl)
    have aA := GA.asc i (depAnd di0 (depNot de1)) de0 (Nat.le_of_lt hic)
    have aB := GB.asc i (depAnd di1 (depNot de0)) de1 (Nat.le_of_lt hic)
    generalize hA : cover c n (half L i 0 c &&& (full c ^^^ half U i 1 c)) (half U i 0 c) = A at GA aA
    generalize hB : cover c n (half L i 1 c &&& (full c ^^^ half U i 0 c)) (half U i 1 c) = B at GB aB
    have bit_left : ∀ {p}, p < 2 ^ c → (half L i 0 c &&& (full c ^^^ prodT A c) ||| half L i 1 c &&& (full c ^^^ prodT B c)).testBit p = ((L.testBit (setb p i false) && !covers A p) || (L.testBit (setb p i true) && !covers B p)) := fun {p} hp => by
      rw [Nat.testBit_or, Nat.testBit_and, Nat.testBit_and, xor_full hp, xor_full hp, prodT_bit hp, prodT_bit hp, bl0 hp, bl1 hp]
    have ltl : half L i 0 c &&& (full c ^^^ prodT A c) ||| half L i 1 c &&& (full c ^^^ prodT B c) < 2 ^ 2 ^ c := Nat.or_lt_two_pow (and_lt l0) (and_lt l1)
    have dpi : DepLt c i (half L i 0 c &&& (full c ^^^ prodT A c) ||| half L i 1 c &&& (full c ^^^ prodT B c)) := depOr (depAnd di0 (depNot (depProd aA))) (depAnd di1 (depNot (depProd aB)))
    have sL : Sub c (half L i 0 c &&& (full c ^^^ prodT A c) ||| half L i 1 c &&& (full c ^^^ prodT B c)) (half U i 0 c &&& half U i 1 c) := fun p hp h => by
      rw [bit_left hp, Bool.or_eq_true, Bool.and_eq_true, Bool.and_eq_true] at h
      rw [Nat.testBit_and, bu0 hp, bu1 hp, Bool.and_eq_true]
      have r0 := setb_lt (v := false) hp hic
      have r1 := setb_lt (v := true) hp hic
      rcases h with ⟨h1, h2⟩ | ⟨h1, h2⟩
      · refine ⟨hs _ r0 h1, ?_⟩
        cases e : U.testBit (setb p i true) with
        | true => rfl
        | false =>
          have := GA.cov p hp (by rw [Nat.testBit_and, xor_full hp, bl0 hp, bu1 hp, h1, e]; rfl)
          rw [this] at h2; cases h2
      · refine ⟨?_, hs _ r1 h1⟩
        cases e : U.testBit (setb p i false) with
        | true => rfl
        | false =>
          have := GB.cov p hp (by rw [Nat.testBit_and, xor_full hp, bl1 hp, bu0 hp, h1, e]; rfl)
          rw [this] at h2; cases h2
    have GD := ih _ _ ltl (and_lt (b := half U i 1 c) u0) sL (dpi.mono hin) (depAnd du0 du1) (by omega)
    have aD := GD.asc i dpi (depAnd de0 de1) (Nat.le_of_lt hic)
    generalize hD : cover c n (half L i 0 c &&& (full c ^^^ prodT A c) ||| half L i 1 c &&& (full c ^^^ prodT B c)) (half U i 0 c &&& half U i 1 c) = D at GD aD
    generalize (half L i 0 c &&& (full c ^^^ prodT A c) ||| half L i 1 c &&& (full c ^^^ prodT B c)) = T at *
    have nA : ∀ pr ∈ A, ∀ l ∈ pr, l / 2 ≠ i := fun pr h l hl => Nat.ne_of_lt ((aA pr h).lt l hl)
    have nB : ∀ pr ∈ B, ∀ l ∈ pr, l / 2 ≠ i := fun pr h l hl => Nat.ne_of_lt ((aB pr h).lt l hl)
    have nD : ∀ pr ∈ D, ∀ l ∈ pr, l / 2 ≠ i := fun pr h l hl => Nat.ne_of_lt ((aD pr h).lt l hl)
    have mem : ∀ {pr}, pr ∈ A.map (· ++ [2 * i + 1]) ++ B.map (· ++ [2 * i]) ++ D ↔ (∃ qr ∈ A, pr = qr ++ [2 * i + 1]) ∨ (∃ qr ∈ B, pr = qr ++ [2 * i]) ∨ pr ∈ D := fun {pr} => by
      rw [List.mem_append, List.mem_append, mem_snoc, mem_snoc, or_assoc]
    have covA : ∀ {p v}, p < 2 ^ c → covers A (setb p i v) = covers A p := fun {p v} hp => by
      rw [Bool.eq_iff_iff, covers_iff, covers_iff]
      constructor
      · rintro ⟨pr, h1, h2⟩; exact ⟨pr, h1, by rw [← sat_setb (nA pr h1)]; exact h2⟩
      · rintro ⟨pr, h1, h2⟩; exact ⟨pr, h1, by rw [sat_setb (nA pr h1)]; exact h2⟩
    have covB : ∀ {p v}, p < 2 ^ c → covers B (setb p i v) = covers B p := fun {p v} hp => by
      rw [Bool.eq_iff_iff, covers_iff, covers_iff]
      constructor
      · rintro ⟨pr, h1, h2⟩; exact ⟨pr, h1, by rw [← sat_setb (nB pr h1)]; exact h2⟩
      · rintro ⟨pr, h1, h2⟩; exact ⟨pr, h1, by rw [sat_setb (nB pr h1)]; exact h2⟩
    have covR : ∀ {p}, covers (A.map (· ++ [2 * i + 1]) ++ B.map (· ++ [2 * i]) ++ D) p = true ↔ (covers A p = true ∧ p.testBit i = false) ∨ (covers B p = true ∧ p.testBit i = true) ∨ covers D p = true := fun {p} => by
      rw [covers_iff]
      constructor
      · rintro ⟨pr, h1, h2⟩
        rcases mem.mp h1 with ⟨qr, hq, rfl⟩ | ⟨qr, hq, rfl⟩ | hq
        · rw [sat_snoc, Bool.and_eq_true, lsat_odd] at h2
          exact .inl ⟨covers_iff.mpr ⟨qr, hq, h2.1⟩, by have := h2.2; cases e : p.testBit i <;> simp_all⟩
        · rw [sat_snoc, Bool.and_eq_true, lsat_even] at h2
          exact .inr (.inl ⟨covers_iff.mpr ⟨qr, hq, h2.1⟩, h2.2⟩)
        · exact .inr (.inr (covers_iff.mpr ⟨pr, hq, h2⟩))
      · rintro (⟨h1, h2⟩ | ⟨h1, h2⟩ | h1)
        · obtain ⟨qr, hq, hs⟩ := covers_iff.mp h1
          exact ⟨_, mem.mpr (.inl ⟨qr, hq, rfl⟩), by rw [sat_snoc, lsat_odd, hs, h2]; rfl⟩
        · obtain ⟨qr, hq, hs⟩ := covers_iff.mp h1
          exact ⟨_, mem.mpr (.inr (.inl ⟨qr, hq, rfl⟩)), by rw [sat_snoc, lsat_even, hs, h2]; rfl⟩
        · obtain ⟨qr, hq, hs⟩ := covers_iff.mp h1
          exact ⟨_, mem.mpr (.inr (.inr hq)), hs⟩
    have ownR : ∀ pr ∈ A.map (· ++ [2 * i + 1]) ++ B.map (· ++ [2 * i]) ++ D, ∃ p, p < 2 ^ c ∧ L.testBit p = true ∧ sat pr p = true ∧ ∀ qr ∈ A.map (· ++ [2 * i + 1]) ++ B.map (· ++ [2 * i]) ++ D, qr ≠ pr → sat qr p = false := by
      intro pr hpr
      rcases mem.mp hpr with ⟨ar, ha, rfl⟩ | ⟨br, hb, rfl⟩ | hd
      · obtain ⟨q, hq, hLq, hsq, hoq⟩ := GA.own ar ha
        rw [Nat.testBit_and, xor_full hq, bl0 hq, bu1 hq, Bool.and_eq_true] at hLq
        have bi : (setb q i false).testBit i = false := by rw [setb_bit, if_pos rfl]
        refine ⟨setb q i false, setb_lt hq hic, hLq.1, by rw [sat_snoc, lsat_odd, bi, sat_setb (nA ar ha), hsq]; rfl, fun qr hqr hne => ?_⟩
        rcases mem.mp hqr with ⟨ar', ha', rfl⟩ | ⟨br', hb', rfl⟩ | hd'
        · rw [sat_snoc, sat_setb (nA ar' ha'), hoq ar' ha' (fun e => hne (by rw [e]))]; rfl
        · rw [sat_snoc, lsat_even, bi, Bool.and_false]
        · rw [sat_setb (nD qr hd')]
          cases e : sat qr q with
          | false => rfl
          | true =>
            have := GD.sub q hq (covers_iff.mpr ⟨qr, hd', e⟩)
            rw [Nat.testBit_and, Bool.and_eq_true, bu1 hq] at this
            rw [this.2] at hLq
            cases hLq.2
      · obtain ⟨q, hq, hLq, hsq, hoq⟩ := GB.own br hb
        rw [Nat.testBit_and, xor_full hq, bl1 hq, bu0 hq, Bool.and_eq_true] at hLq
        have bi : (setb q i true).testBit i = true := by rw [setb_bit, if_pos rfl]
        refine ⟨setb q i true, setb_lt hq hic, hLq.1, by rw [sat_snoc, lsat_even, bi, sat_setb (nB br hb), hsq]; rfl, fun qr hqr hne => ?_⟩
        rcases mem.mp hqr with ⟨ar', ha', rfl⟩ | ⟨br', hb', rfl⟩ | hd'
        · rw [sat_snoc, lsat_odd, bi]; simp
        · rw [sat_snoc, sat_setb (nB br' hb'), hoq br' hb' (fun e => hne (by rw [e]))]; rfl
        · rw [sat_setb (nD qr hd')]
          cases e : sat qr q with
          | false => rfl
          | true =>
            have := GD.sub q hq (covers_iff.mpr ⟨qr, hd', e⟩)
            rw [Nat.testBit_and, Bool.and_eq_true, bu0 hq] at this
            rw [this.1] at hLq
            cases hLq.2
      · obtain ⟨q, hq, hLq, hsq, hoq⟩ := GD.own pr hd
        rw [bit_left hq, Bool.or_eq_true, Bool.and_eq_true, Bool.and_eq_true] at hLq
        rcases hLq with ⟨z1, z2⟩ | ⟨z1, z2⟩
        · have bi : (setb q i false).testBit i = false := by rw [setb_bit, if_pos rfl]
          refine ⟨setb q i false, setb_lt hq hic, z1, by rw [sat_setb (nD pr hd), hsq], fun qr hqr hne => ?_⟩
          rcases mem.mp hqr with ⟨ar', ha', rfl⟩ | ⟨br', hb', rfl⟩ | hd'
          · rw [sat_snoc, sat_setb (nA ar' ha'), covers_no (by cases e : covers A q <;> simp_all) ha']; rfl
          · rw [sat_snoc, lsat_even, bi, Bool.and_false]
          · rw [sat_setb (nD qr hd')]; exact hoq qr hd' hne
        · have bi : (setb q i true).testBit i = true := by rw [setb_bit, if_pos rfl]
          refine ⟨setb q i true, setb_lt hq hic, z1, by rw [sat_setb (nD pr hd), hsq], fun qr hqr hne => ?_⟩
          rcases mem.mp hqr with ⟨ar', ha', rfl⟩ | ⟨br', hb', rfl⟩ | hd'
          · rw [sat_snoc, lsat_odd, bi]; simp
          · rw [sat_snoc, sat_setb (nB br' hb'), covers_no (by cases e : covers B q <;> simp_all) hb']; rfl
          · rw [sat_setb (nD qr hd')]; exact hoq qr hd' hne
    refine ⟨fun p hp h => ?_, fun p hp h => ?_, fun m k1 k2 hm pr hpr => ?_, ?_, ownR, fun pr hpr l hl => ?_⟩
    · -- all of L is covered
      apply covR.mpr
      cases e : p.testBit i with
      | false =>
        have s : setb p i false = p := by rw [← e]; exact setb_self
        cases k : covers A p with
        | true => exact .inl ⟨rfl, rfl⟩
        | false => exact .inr (.inr (GD.cov p hp (by rw [bit_left hp, s, h, k]; rfl)))
      | true =>
        have s : setb p i true = p := by rw [← e]; exact setb_self
        cases k : covers B p with
        | true => exact .inr (.inl ⟨rfl, rfl⟩)
        | false => exact .inr (.inr (GD.cov p hp (by rw [bit_left hp, s, h, k]; simp)))
    · -- nothing beyond U
      rcases covR.mp h with ⟨k, e⟩ | ⟨k, e⟩ | k
      · have s : setb p i false = p := by rw [← e]; exact setb_self
        have := GA.sub p hp k
        rwa [bu0 hp, s] at this
      · have s : setb p i true = p := by rw [← e]; exact setb_self
        have := GB.sub p hp k
        rwa [bu1 hp, s] at this
      · have := GD.sub p hp k
        rw [Nat.testBit_and, Bool.and_eq_true, bu0 hp, bu1 hp] at this
        cases e : p.testBit i with
        | false => have s : setb p i false = p := by rw [← e]; exact setb_self
                   rw [← s]; exact this.1
        | true => have s : setb p i true = p := by rw [← e]; exact setb_self
                  rw [← s]; exact this.2
    · have him := below m k1 k2
      rcases mem.mp hpr with ⟨ar, ha, rfl⟩ | ⟨br, hb, rfl⟩ | hd
      · exact (aA ar ha).snoc (by omega) him
      · exact (aB br hb).snoc (by omega) him
      · exact (aD pr hd).mono (Nat.le_of_lt him)
    · -- no product twice
      have inj : ∀ (l : Nat) (ps : List (List Nat)), ps.Nodup → (ps.map (· ++ [l])).Nodup := fun l ps h => by
        unfold List.Nodup at h ⊢
        rw [List.pairwise_map]
        exact h.imp fun h e => h (List.append_cancel_right e)
      have dis : ∀ pr, pr ∈ A.map (· ++ [2 * i + 1]) → pr ∉ B.map (· ++ [2 * i]) := fun pr h1 h2 => by
        obtain ⟨ar, _, rfl⟩ := mem_snoc.mp h1
        obtain ⟨br, _, e⟩ := mem_snoc.mp h2
        have := congrArg (fun z => z.getLast?) e
        simp at this
      have dis2 : ∀ pr, pr ∈ A.map (· ++ [2 * i + 1]) ++ B.map (· ++ [2 * i]) → pr ∉ D := fun pr h1 h2 => by
        rcases List.mem_append.mp h1 with h1 | h1
        · obtain ⟨ar, _, rfl⟩ := mem_snoc.mp h1
          exact nD _ h2 (2 * i + 1) (List.mem_append_right _ List.mem_cons_self) (by omega)
        · obtain ⟨ar, _, rfl⟩ := mem_snoc.mp h1
          exact nD _ h2 (2 * i) (List.mem_append_right _ List.mem_cons_self) (by omega)
      rw [List.nodup_append, List.nodup_append]
      refine ⟨⟨inj _ _ GA.nd, inj _ _ GB.nd, fun a ha b hb e => dis a ha (e ▸ hb)⟩, GD.nd, fun a ha b hb e => dis2 a ha (e ▸ hb)⟩
    · -- no literal can be left out
      rcases mem.mp hpr with ⟨ar, ha, rfl⟩ | ⟨br, hb, rfl⟩ | hd
      · rcases List.mem_append.mp hl with hl | hl
        · obtain ⟨q, hq, hm, hu⟩ := GA.prime ar ha l hl
          refine ⟨setb q i false, setb_lt hq hic, fun m hm' hne => ?_, by rw [← bu0 hq]; exact hu⟩
          rcases List.mem_append.mp hm' with hm' | hm'
          · have := hm m hm' hne
            unfold lsat at this ⊢
            rw [setb_bit, if_neg (nA ar ha m hm')]
            exact this
          · have : m = 2 * i + 1 := by simpa using hm'
            subst this
            rw [lsat_odd, setb_bit, if_pos rfl]; rfl
        · have : l = 2 * i + 1 := by simpa using hl
          subst this
          obtain ⟨q, hq, hLq, hsq, _⟩ := GA.own ar ha
          rw [Nat.testBit_and, xor_full hq, bl0 hq, bu1 hq, Bool.and_eq_true] at hLq
          refine ⟨setb q i true, setb_lt hq hic, fun m hm' hne => ?_, by have := hLq.2; cases e : U.testBit (setb q i true) <;> simp_all⟩
          rcases List.mem_append.mp hm' with hm' | hm'
          · have := sat_iff.mp hsq m hm'
            unfold lsat at this ⊢
            rw [setb_bit, if_neg (nA ar ha m hm')]
            exact this
          · exact absurd (by simpa using hm') hne
      · rcases List.mem_append.mp hl with hl | hl
        · obtain ⟨q, hq, hm, hu⟩ := GB.prime br hb l hl
          refine ⟨setb q i true, setb_lt hq hic, fun m hm' hne => ?_, by rw [← bu1 hq]; exact hu⟩
          rcases List.mem_append.mp hm' with hm' | hm'
          · have := hm m hm' hne
            unfold lsat at this ⊢
            rw [setb_bit, if_neg (nB br hb m hm')]
            exact this
          · have : m = 2 * i := by simpa using hm'
            subst this
            rw [lsat_even, setb_bit, if_pos rfl]
        · have : l = 2 * i := by simpa using hl
          subst this
          obtain ⟨q, hq, hLq, hsq, _⟩ := GB.own br hb
          rw [Nat.testBit_and, xor_full hq, bl1 hq, bu0 hq, Bool.and_eq_true] at hLq
          refine ⟨setb q i false, setb_lt hq hic, fun m hm' hne => ?_, by have := hLq.2; cases e : U.testBit (setb q i false) <;> simp_all⟩
          rcases List.mem_append.mp hm' with hm' | hm'
          · have := sat_iff.mp hsq m hm'
            unfold lsat at this ⊢
            rw [setb_bit, if_neg (nB br hb m hm')]
            exact this
          · exact absurd (by simpa using hm') hne
      · obtain ⟨q, hq, hm, hu⟩ := GD.prime pr hd l hl
        rw [Nat.testBit_and, bu0 hq, bu1 hq, Bool.and_eq_false_iff] at hu
        have key : ∀ v m, m ∈ pr → m ≠ l → lsat (setb q i v) m = true := fun v m hm' hne => by
          have := hm m hm' hne
          unfold lsat at this ⊢
          rw [setb_bit, if_neg (nD pr hd m hm')]
          exact this
        rcases hu with hu | hu
        · exact ⟨setb q i false, setb_lt hq hic, key false, hu⟩
        · exact ⟨setb q i true, setb_lt hq hic, key true, hu⟩
theorem leaf_of {c n L U : Nat} (hL : L < 2 ^ 2 ^ c) (hU : U < 2 ^ 2 ^ c) (hs : Sub c L U) (hn : n ≤ n) (dL : DepLt c n L) (dU : DepLt c n U) (h0 : ¬ L = 0) (h1 : ¬ U = full c) :
    lastLeaf L U c c < c ∧ DepLt c (lastLeaf L U c c + 1) L ∧ DepLt c (lastLeaf L U c c + 1) U ∧ (dep L (lastLeaf L U c c) c || dep U (lastLeaf L U c c) c) = true ∧ lastLeaf L U c c < n := by
  have hspec := lastLeaf_spec hL hU c (Nat.le_refl _) DepLt.top DepLt.top
  generalize hi : lastLeaf L U c c = i at hspec
  have hlast : i < c ∧ DepLt c (i + 1) L ∧ DepLt c (i + 1) U ∧ (dep L i c || dep U i c) = true := by
    rcases hspec with h | ⟨z1, z2⟩
    · exact h
    · exfalso
      have hl : L = full c := (const_of hL z1).resolve_left h0
      rcases const_of hU z2 with h | h
      · subst h
        have := hs 0 (Nat.two_pow_pos _) (by rw [hl, full_bit]; simp [Nat.two_pow_pos])
        simp at this
      · exact h1 h
  obtain ⟨hic, dL1, dU1, hdep⟩ := hlast
  refine ⟨hic, dL1, dU1, hdep, ?_⟩
  apply Nat.lt_of_not_le
  intro hm
  rw [Bool.or_eq_true] at hdep
  rcases hdep with z | z
  · have := (dep_false hL hic).mpr (dL.noDep hm hic); rw [this] at z; cases z
  · have := (dep_false hU hic).mpr (dU.noDep hm hic); rw [this] at z; cases z
/-- what the three calls are asked -/
structure Pre (c n L U : Nat) : Prop where
  l : L < 2 ^ 2 ^ c
  u : U < 2 ^ 2 ^ c
  s : Sub c L U
  dl : DepLt c n L
  du : DepLt c n U
theorem Pre.good {c n L U : Nat} (h : Pre c n L U) (hn : n ≤ c) : Good c L U (cover c n L U) := cover_good n L U h.l h.u h.s h.dl h.du hn
theorem cover_pre {c n i L U : Nat} (hL : L < 2 ^ 2 ^ c) (hU : U < 2 ^ 2 ^ c) (hs : Sub c L U) (hn : n + 1 ≤ c) (hic : i < c) (dL1 : DepLt c (i + 1) L) (dU1 : DepLt c (i + 1) U) (hin : i ≤ n) :
    Pre c n (half L i 0 c &&& (full c ^^^ half U i 1 c)) (half U i 0 c) ∧ Pre c n (half L i 1 c &&& (full c ^^^ half U i 0 c)) (half U i 1 c) ∧
    Pre c n (half L i 0 c &&& (full c ^^^ prodT (cover c n (half L i 0 c &&& (full c ^^^ half U i 1 c)) (half U i 0 c)) c) ||| half L i 1 c &&& (full c ^^^ prodT (cover c n (half L i 1 c &&& (full c ^^^ half U i 0 c)) (half U i 1 c)) c)) (half U i 0 c &&& half U i 1 c) ∧
    (∀ pr ∈ cover c n (half L i 0 c &&& (full c ^^^ half U i 1 c)) (half U i 0 c), Asc i pr) ∧ ∀ pr ∈ cover c n (half L i 1 c &&& (full c ^^^ half U i 0 c)) (half U i 1 c), Asc i pr := by
  have l0 := half_lt (t := L) (i := i) (v := 0) hL hic
  have l1 := half_lt (t := L) (i := i) (v := 1) hL hic
  have u0 := half_lt (t := U) (i := i) (v := 0) hU hic
  have u1 := half_lt (t := U) (i := i) (v := 1) hU hic
  have di0 := dL1.half (v := 0) hic (.inl rfl)
  have di1 := dL1.half (v := 1) hic (.inr rfl)
  have de0 := dU1.half (v := 0) hic (.inl rfl)
  have de1 := dU1.half (v := 1) hic (.inr rfl)
  have bl0 : ∀ {p}, p < 2 ^ c → (half L i 0 c).testBit p = L.testBit (setb p i false) := fun hp => half0_bit hp hic
  have bl1 : ∀ {p}, p < 2 ^ c → (half L i 1 c).testBit p = L.testBit (setb p i true) := fun hp => half1_bit hp hic
  have bu0 : ∀ {p}, p < 2 ^ c → (half U i 0 c).testBit p = U.testBit (setb p i false) := fun hp => half0_bit hp hic
  have bu1 : ∀ {p}, p < 2 ^ c → (half U i 1 c).testBit p = U.testBit (setb p i true) := fun hp => half1_bit hp hic
  have PA : Pre c n (half L i 0 c &&& (full c ^^^ half U i 1 c)) (half U i 0 c) := ⟨and_lt l0, u0, fun p hp h => by
    rw [Nat.testBit_and, Bool.and_eq_true, bl0 hp] at h
    rw [bu0 hp]
    exact hs _ (setb_lt hp hic) h.1, depAnd (di0.mono hin) (depNot (de1.mono hin)), de0.mono hin⟩
  have PB : Pre c n (half L i 1 c &&& (full c ^^^ half U i 0 c)) (half U i 1 c) := ⟨and_lt l1, u1, fun p hp h => by
    rw [Nat.testBit_and, Bool.and_eq_true, bl1 hp] at h
    rw [bu1 hp]
    exact hs _ (setb_lt hp hic) h.1, depAnd (di1.mono hin) (depNot (de0.mono hin)), de1.mono hin⟩
  have GA := PA.good (by omega)
  have GB := PB.good (by omega)
  have aA := GA.asc i (depAnd di0 (depNot de1)) de0 (Nat.le_of_lt hic)
  have aB := GB.asc i (depAnd di1 (depNot de0)) de1 (Nat.le_of_lt hic)
  refine ⟨PA, PB, ⟨Nat.or_lt_two_pow (and_lt l0) (and_lt l1), and_lt u0, fun p hp h => ?_, ?_, depAnd (de0.mono hin) (de1.mono hin)⟩, aA, aB⟩
  · rw [Nat.testBit_or, Nat.testBit_and, Nat.testBit_and, xor_full hp, xor_full hp, prodT_bit hp, prodT_bit hp, bl0 hp, bl1 hp, Bool.or_eq_true, Bool.and_eq_true, Bool.and_eq_true] at h
    rw [Nat.testBit_and, bu0 hp, bu1 hp, Bool.and_eq_true]
    have r0 := setb_lt (v := false) hp hic
    have r1 := setb_lt (v := true) hp hic
    rcases h with ⟨h1, h2⟩ | ⟨h1, h2⟩
    · refine ⟨hs _ r0 h1, ?_⟩
      cases e : U.testBit (setb p i true) with
      | true => rfl
      | false =>
        have := GA.cov p hp (by rw [Nat.testBit_and, xor_full hp, bl0 hp, bu1 hp, h1, e]; rfl)
        rw [this] at h2; cases h2
    · refine ⟨?_, hs _ r1 h1⟩
      cases e : U.testBit (setb p i false) with
      | true => rfl
      | false =>
        have := GB.cov p hp (by rw [Nat.testBit_and, xor_full hp, bl1 hp, bu0 hp, h1, e]; rfl)
        rw [this] at h2; cases h2
  · exact depOr (depAnd (di0.mono hin) (depNot (depProd fun pr h => (aA pr h).mono hin))) (depAnd (di1.mono hin) (depNot (depProd fun pr h => (aB pr h).mono hin)))
theorem Asc.len : ∀ {pr : List Nat} {n m : Nat}, Asc n pr → (∀ l ∈ pr, m ≤ l / 2) → pr.length + m ≤ n ∨ pr = []
  | [], _, _, _, _ => .inr rfl
  | l :: r, n, m, h, k => by
    have h1 := h.1
    have hm := k l List.mem_cons_self
    rcases Asc.len (m := l / 2 + 1) h.2.1 (fun q hq => h.2.2 q hq) with e | e
    · exact .inl (by rw [List.length_cons]; omega)
    · subst e; exact .inl (by simp; omega)
theorem Asc.length_le {pr : List Nat} {n : Nat} (h : Asc n pr) : pr.length ≤ n := by
  rcases Asc.len (m := 0) h (fun _ _ => Nat.zero_le _) with e | e
  · omega
  · subst e; exact Nat.zero_le _
theorem cover_succ {c n L U : Nat} (h0 : ¬ L = 0) (h1 : ¬ U = full c) {i : Nat} (hi : lastLeaf L U c c = i) : cover c (n + 1) L U =
    (cover c n (half L i 0 c &&& (full c ^^^ half U i 1 c)) (half U i 0 c)).map (· ++ [2 * i + 1]) ++ (cover c n (half L i 1 c &&& (full c ^^^ half U i 0 c)) (half U i 1 c)).map (· ++ [2 * i]) ++
      cover c n (half L i 0 c &&& (full c ^^^ prodT (cover c n (half L i 0 c &&& (full c ^^^ half U i 1 c)) (half U i 0 c)) c) ||| half L i 1 c &&& (full c ^^^ prodT (cover c n (half L i 1 c &&& (full c ^^^ half U i 0 c)) (half U i 1 c)) c)) (half U i 0 c &&& half U i 1 c) := by
  subst hi
  conv => lhs; unfold cover
  rw [if_neg h0, if_neg h1]
theorem leafF_lt (i : Nat) (n : Nat) : leafF i (List.range n) < 2 ^ n := lt_of_bits fun p hp => by
  unfold leafF
  rw [leafF_bit]
  have : ¬ p < n := by omega
  simp [this]
theorem leaf_sum (i : Nat) : ∀ n : Nat, ((((List.range n).filter fun k => decide (k >>> i &&& 1 = 1)).map fun k : Nat => ((1 <<< k : Nat) : Int)).sum) = ((leafF i (List.range n) : Nat) : Int)
  | 0 => rfl
  | n + 1 => by
    rw [List.range_succ, List.filter_append, List.map_append, List.sum_append, leaf_sum i n]
    have e : leafF i (List.range n ++ [n]) = leafF i (List.range n) ||| ((n >>> i &&& 1) <<< n) := by unfold leafF; rw [List.foldl_append]; rfl
    rw [e]
    have hb : n >>> i &&& 1 = 0 ∨ n >>> i &&& 1 = 1 := by rw [Nat.and_one_is_mod]; omega
    rcases hb with h | h
    · rw [h, Nat.zero_shiftLeft, Nat.or_zero]
      have e0 : (List.filter (fun k : Nat => decide (k >>> i &&& 1 = 1)) [n]) = [] := by simp only [List.filter, h]; rfl
      rw [e0]
      simp only [List.map_nil, List.sum_nil, Int.add_zero]
    · rw [h]
      have h0 : leafF i (List.range n) &&& 1 <<< n = 0 := by
        apply Nat.eq_of_testBit_eq
        intro j
        rw [Nat.testBit_and, Nat.shiftLeft_eq, Nat.one_mul, Nat.testBit_two_pow, Nat.zero_testBit]
        by_cases q : n = j
        · subst q
          rw [Nat.testBit_lt_two_pow (leafF_lt i n)]
          rfl
        · simp [q]
      have h1 := PyProof.Rows.nat_or_add_and (leafF i (List.range n)) (1 <<< n)
      have e0 : (List.filter (fun k : Nat => decide (k >>> i &&& 1 = 1)) [n]) = [n] := by simp only [List.filter, h]; rfl
      rw [e0, List.map_cons, List.map_nil, List.sum_cons, List.sum_nil, Int.add_zero, ← Int.natCast_add]
      rw [h0] at h1
      congr 1
      omega
/-! what the sorted list is -/
theorem covers_perm {ps qs : List (List Nat)} (h : ps.Perm qs) (p : Nat) : covers ps p = covers qs p := by
  rw [Bool.eq_iff_iff, covers_iff, covers_iff]
  constructor
  · rintro ⟨pr, h1, h2⟩; exact ⟨pr, h.mem_iff.mp h1, h2⟩
  · rintro ⟨pr, h1, h2⟩; exact ⟨pr, h.mem_iff.mpr h1, h2⟩
theorem Good.perm {c L U : Nat} {R S : List (List Nat)} (h : Good c L U R) (p : S.Perm R) : Good c L U S where
  cov := fun q hq e => by rw [covers_perm p]; exact h.cov q hq e
  sub := fun q hq e => h.sub q hq (by rw [← covers_perm p]; exact e)
  asc := fun m k1 k2 hm pr hpr => h.asc m k1 k2 hm pr (p.mem_iff.mp hpr)
  nd := p.nodup_iff.mpr h.nd
  own := fun pr hpr => by
    obtain ⟨q, h1, h2, h3, h4⟩ := h.own pr (p.mem_iff.mp hpr)
    exact ⟨q, h1, h2, h3, fun qr hq hne => h4 qr (p.mem_iff.mp hq) hne⟩
  prime := fun pr hpr => h.prime pr (p.mem_iff.mp hpr)
theorem Good.tab {c t : Nat} {S : List (List Nat)} (h : Good c t t S) (ht : t < 2 ^ 2 ^ c) : prodT S c = t := tab_ext prodT_lt ht fun p hp => by
  rw [prodT_bit hp, Bool.eq_iff_iff]
  exact ⟨h.sub p hp, h.cov p hp⟩
/-- without one product the table is another one -/
theorem Good.rest {c t : Nat} {X Y : List (List Nat)} {pr : List Nat} (h : Good c t t (X ++ pr :: Y)) : prodT (X ++ Y) c ≠ t := by
  obtain ⟨p, h1, h2, h3, h4⟩ := h.own pr (List.mem_append_right _ List.mem_cons_self)
  intro e
  have nd := h.nd
  rw [List.nodup_append, List.nodup_cons] at nd
  have : covers (X ++ Y) p = false := by
    cases q : covers (X ++ Y) p with
    | false => rfl
    | true =>
      obtain ⟨qr, hq, hs⟩ := covers_iff.mp q
      have hm : qr ∈ X ++ pr :: Y := by
        rcases List.mem_append.mp hq with z | z
        · exact List.mem_append_left _ z
        · exact List.mem_append_right _ (List.mem_cons_of_mem _ z)
      have hne : qr ≠ pr := fun z => by
        subst z
        rcases List.mem_append.mp hq with z | z
        · exact nd.2.2 qr z qr List.mem_cons_self rfl
        · exact nd.2.1.1 z
      rw [h4 qr hm hne] at hs
      cases hs
  rw [← prodT_bit h1, e, h2] at this
  cases this
/-- with one literal left out, too -/
theorem Good.short {c t : Nat} {X Y : List (List Nat)} {pr : List Nat} {l : Nat} (h : Good c t t (X ++ pr :: Y)) (hl : l ∈ pr) : prodT (X ++ Y) c ||| prodT [pr.filter fun m => !decide (m = l)] c ≠ t := by
  obtain ⟨p, h1, h2, h3⟩ := h.prime pr (List.mem_append_right _ List.mem_cons_self) l hl
  intro e
  have : (prodT (X ++ Y) c ||| prodT [pr.filter fun m => !decide (m = l)] c).testBit p = true := by
    rw [Nat.testBit_or, prodT_bit h1, prodT_bit h1, Bool.or_eq_true]
    refine .inr (covers_iff.mpr ⟨_, List.mem_singleton.mpr rfl, sat_iff.mpr fun m hm => ?_⟩)
    rw [List.mem_filter] at hm
    exact h2 m hm.1 (by simpa using hm.2)
  rw [e, h3] at this
  cases this
end M53

set_option Elab.async false
set_option linter.all false
set_option maxRecDepth 100000
set_option maxHeartbeats 400000
set_option autoImplicit false
namespace G
open PySem PySem.Spec PyProof.Rows L2 PD
open M53 (full leaf leafF half dep lastLeaf litT prT prodT cover DepLt Sub Asc)
local macro_rules | `(tactic| walk_at "lit") => `(tactic| (simp only [Nat.reduceLT, Nat.reducePow, Nat.reduceLeDiff]; done))
local macro_rules | `(tactic| walk_at "sp") => `(tactic| repeat' (first
  | with_reducible exact SP.int | with_reducible exact SP.bl | with_reducible exact SP.non | with_reducible exact SP.str
  | ((with_reducible apply SP.var); exact rfl)
  | with_reducible apply SP.tup | with_reducible apply SP.lst | with_reducible apply SP.op | with_reducible apply SP.cb | with_reducible apply SP.un | with_reducible exact SPa.nil | with_reducible apply SPa.cons
  | with_reducible exact O2.addN
  | with_reducible exact O2.mulN (.inr (by walk_at "lit"))
  | with_reducible exact O2.mulN (.inl (by walk_at "lit"))
  | with_reducible exact O2.modN (by walk_at "lit")
  | with_reducible exact O2.divN (by walk_at "lit") (by walk_at "lit")
  | with_reducible exact O2.powN (by walk_at "lit") (by walk_at "lit")
  | with_reducible exact O2.eqN
  | with_reducible exact O2.neN
  | with_reducible exact O2.ltN
  | with_reducible exact O2.leN
  | with_reducible exact O2.gtN
  | with_reducible exact O2.geN
  | with_reducible exact O2.andN
  | with_reducible exact O2.orN
  | with_reducible exact O2.xorN
  | with_reducible exact O2.shrN
  | with_reducible exact O2.addI
  | with_reducible exact O2.subI
  | with_reducible exact O2.eqI
  | with_reducible exact O2.neI
  | with_reducible exact O2.ltI
  | with_reducible exact O2.leI
  | with_reducible exact O2.gtI
  | with_reducible exact O2.geI
  | with_reducible exact O2.andI
  | with_reducible exact O2.orI
  | with_reducible exact O2.xorI
  | with_reducible exact On.lenL
  | with_reducible exact On.lenT
  | with_reducible exact On.lenQ
  | with_reducible exact On.int
  | with_reducible exact On.max2
  | with_reducible exact On.min2
  | with_reducible apply SPt.test | with_reducible apply SPt.val | with_reducible apply SPt.not
  | exact O2.addN | exact O2.mulN (.inr (by walk_at "lit")) | exact O2.mulN (.inl (by walk_at "lit")) | exact O2.modN (by walk_at "lit") | exact O2.divN (by walk_at "lit") (by walk_at "lit") | exact O2.powN (by walk_at "lit") (by walk_at "lit") | exact O2.eqN | exact O2.neN | exact O2.ltN | exact O2.leN | exact O2.gtN | exact O2.geN | exact O2.andN | exact O2.orN | exact O2.xorN | exact O2.shrN | exact O2.addI | exact O2.subI | exact O2.eqI | exact O2.neI | exact O2.ltI | exact O2.leI | exact O2.gtI | exact O2.geI | exact O2.andI | exact O2.orI | exact O2.xorI | exact On.lenL | exact On.lenT | exact On.lenQ | exact On.int | exact On.max2 | exact On.min2))
local macro_rules | `(tactic| walk_at "fits") => `(tactic| repeat' (first | exact True.intro | exact (fun _ _ h => h) | exact (fun _ _ h => ⟨_, trivial, h⟩) | refine And.intro ?_ ?_))
def top (i : Nat) : Stmt := PySem.Challenge.pw_suregate_k53_sums_that_cannot_be_shorten.main.body.getD i (.Pass ⟨0, 0, 0, 0⟩)
abbrev FnP (K : PySem.W.Frag) (x q : Str) (st : Stmt) (f : Addr) (fd : FuncData) : Prop := FunD K x q (defArgs st) (defBody st) (defScope st) [] [] f fd
structure Txt (K : PySem.W.Frag) (mg : Str → Option Value) : Prop where
  f_bool : mg "bool" = none
  f_int : mg "int" = none
  f_isinstance : mg "isinstance" = none
  f_len : mg "len" = none
  f_list : mg "list" = none
  f_range : mg "range" = none
  f_sorted : mg "sorted" = none
  f_sum : mg "sum" = none
  f_tuple : mg "tuple" = none
  ok : True
theorem pow6 {c : Nat} (h : c ≤ 6) : 2 ^ c ≤ 64 := Nat.pow_le_pow_right (n := 2) (by decide) h
theorem full64 {c : Nat} (h : c ≤ 6) : full c < 2 ^ 64 := Nat.lt_of_lt_of_le (M53.full_lt c) (Nat.pow_le_pow_right (by decide) (pow6 h))
theorem tab64 {c t : Nat} (h : c ≤ 6) (ht : t < 2 ^ 2 ^ c) : t < 2 ^ 64 := Nat.lt_of_lt_of_le ht (Nat.pow_le_pow_right (by decide) (pow6 h))
theorem shl1 (c : Nat) : 1 <<< c = 2 ^ c := by rw [Nat.shiftLeft_eq, Nat.one_mul]
theorem mem_mid {α : Type} {xs ys zs : List α} {x : α} (e : xs = ys ++ x :: zs) : x ∈ xs := by rw [e]; exact List.mem_append_right _ List.mem_cons_self
abbrev s_full_table : Stmt := top 1
theorem sc_full_table : FnScope ["count"] ["count"] (defScope s_full_table) := ⟨rfl, rfl, rfl, by decide +kernel, rfl, by decide +kernel, by decide +kernel⟩
def t_full_table (K : PySem.W.Frag) : TS := tRet (tOp (rI0 fun i j => .int (i - j)) (tOp (rI CPow fun i j => .int (i * 2 ^ j.toNat)) (tC (.int ((1 : Nat) : Int))) (tOp (rI CPow fun i j => .int (i * 2 ^ j.toNat)) (tC (.int ((1 : Nat) : Int))) (tVar 0))) (tC (.int ((1 : Nat) : Int))))
def sp_full_table : Sp := spP (fun c : Nat => [pInt (c : Int)]) (fun c => c ≤ 6) fun c => pInt (full c : Int)
theorem len_full_table {vs : List V} {H : Hp} {Q : VK} {E : XK} (h : sp_full_table vs H Q E) : vs.length = 1 := by
  obtain ⟨x, F, _, _, ha, _⟩ := h
  exact ha.length.trans rfl
theorem body_full_table {K : PySem.W.Frag} {vs : List V} {H : Hp} {Q : VK} {E : XK} (h : sp_full_table vs H Q E) : t_full_table K { nx := fun _ H' => Q .non H', rt := Q } (L2.start ["count"] vs) H := by
  refine pure_body (fun _ => Nat.le_of_ble_eq_true rfl) (fun x B hx => ?_) h
  have h6 := pow6 hx
  refine SS.retP (P := pInt (full x : Int)) ?_ fun v F h => h
  refine SP.op (P := pInt ((1 <<< (1 <<< x) : Nat) : Int)) ?_ SP.int ((O2.subN (by rw [shl1, shl1]; exact Nat.two_pow_pos _)).to ?_)
  · refine SP.op SP.int (SP.op SP.int (SP.var rfl) (O2.shlN (by omega) (by decide))) (O2.shlN (by rw [shl1]; omega) (by decide))
  · rw [shl1, shl1]; rfl
theorem ok_full_table {P : Program} {w : World} {K : PySem.W.Frag} {mg : Str → Option Value} {base : Heap} {f : Addr} {fd : FuncData} (T : Txt K mg) (F : FnP K "full_table" "full_table" s_full_table f fd) (hg : mg "full_table" = some (.ref f))   : C8.Cal P w K mg base 1 "full_table" sp_full_table [] := by
  refine ⟨f, fd, ["count"], [], F.ok sc_full_table (fun vs H Q E h => len_full_table h) (fun cdv A outer s H vs Q E hr h => ⟨t_full_table K, PSs.nox ?_, body_full_table h⟩), hg, F.kp, F.bindsN fun _ _ _ _ _ _ us hl => match us, hl with | [_], _ => rfl, .nil⟩
  have nd := sc_full_table.nd
  exact pss_one (ps_ret (pe_op op_sub (pe_op op_shl (pe_int) (pe_op op_shl (pe_int) (pv 0))) (pe_int)))
theorem call_full {ρ : Rho} {tl : TA} {c : Nat} (hc : c ≤ 6) (h : SPa tl ρ [pInt (c : Int)]) : SP (tCall sp_full_table [] E0 tl) ρ (pInt (full c : Int)) := SP.call c h hc
abbrev s_leaf_table : Stmt := top 2
theorem sc_leaf_table : FnScope ["index", "count", "table", "point"] ["index", "count"] (defScope s_leaf_table) := ⟨rfl, rfl, rfl, by decide +kernel, rfl, by decide +kernel, by decide +kernel⟩
def t_leaf_table (K : PySem.W.Frag) : TS := tSeq (tAsg (tC (.int ((0 : Nat) : Int))) (gName 2)) (tSeq (tFor (iRng1 (tCons (tOp (rI CPow fun i j => .int (i * 2 ^ j.toNat)) (tC (.int ((1 : Nat) : Int))) (tVar 1)) (tNil))) (gName 3) (tAsg (tOp (rI0 fun i j => .int (Builtin.bitOr i j)) (tVar 2) (tOp (rI CPow fun i j => .int (i * 2 ^ j.toNat)) (tOp (rI0 fun i j => .int (Builtin.bitAnd i j)) (tOp (rI (fun _ j => 0 ≤ j) fun i j => .int (i / 2 ^ j.toNat)) (tVar 3) (tVar 0)) (tC (.int ((1 : Nat) : Int)))) (tVar 3))) (gName 2))) (tRet (tVar 2)))
def sp_leaf_table : Sp := spP (fun x : Nat × Nat => [pInt (x.1 : Int), pInt (x.2 : Int)]) (fun x => x.2 ≤ 6) fun x => pInt (leaf x.1 x.2 : Int)
theorem len_leaf_table {vs : List V} {H : Hp} {Q : VK} {E : XK} (h : sp_leaf_table vs H Q E) : vs.length = 2 := by
  obtain ⟨x, F, _, _, ha, _⟩ := h
  exact ha.length.trans rfl
theorem body_leaf_table {K : PySem.W.Frag} {vs : List V} {H : Hp} {Q : VK} {E : XK} (h : sp_leaf_table vs H Q E) : t_leaf_table K { nx := fun _ H' => Q .non H', rt := Q } (L2.start ["index", "count", "table", "point"] vs) H := by
  refine pure_body (fun _ => Nat.le_of_ble_eq_true rfl) (fun x B hx => ?_) h
  obtain ⟨i, c⟩ := x
  have hx : c ≤ 6 := hx
  have h6 := pow6 hx
  refine SS.seq (SS.asg SP.int ?_)
  refine SS.seq (SS.forF (is := [3]) (e := fun k : Nat => pInt (k : Int)) (xs := List.range (1 <<< c)) (SI.rangeN (SPa.cons (SP.op SP.int (SP.var rfl) (O2.shlN (by omega) (by decide))) SPa.nil) (by rw [shl1]; omega))
    (fun ys => [some (pInt (i : Int)), some (pInt (c : Int)), some (pInt (leafF i ys : Int)), none]) (fun _ => []) (by walk_at "fits") rfl (fun ys k zs e => ?_) fun ρ' hf => SS.fits hf ?_)
  · have hk : k < 64 := by
      have := mem_mid e
      rw [List.mem_range, shl1] at this
      omega
    refine ⟨_, ST.name, SS.asg (P := pInt ((leafF i ys ||| ((k >>> i &&& 1) <<< k) : Nat) : Int)) ?_ ⟨?_, rfl⟩⟩
    · walk_at "sp"
      refine O2.shlN (by omega) (Nat.lt_of_le_of_lt Nat.and_le_right (by decide))
      walk_at "sp"
    · unfold leafF
      rw [List.foldl_append]
      walk_at "fits"
  · refine SS.retP (SP.var rfl) fun v F h => ?_
    show v = V.int ((leaf i c : Nat) : Int)
    unfold leaf
    rw [← shl1]
    exact h
theorem ok_leaf_table {P : Program} {w : World} {K : PySem.W.Frag} {mg : Str → Option Value} {base : Heap} {f : Addr} {fd : FuncData} (T : Txt K mg) (F : FnP K "leaf_table" "leaf_table" s_leaf_table f fd) (hg : mg "leaf_table" = some (.ref f))   : C8.Cal P w K mg base 1 "leaf_table" sp_leaf_table [] := by
  refine ⟨f, fd, ["index", "count"], [], F.ok sc_leaf_table (fun vs H Q E h => len_leaf_table h) (fun cdv A outer s H vs Q E hr h => ⟨t_leaf_table K, PSs.nox ?_, body_leaf_table h⟩), hg, F.kp, F.bindsN fun _ _ _ _ _ _ us hl => match us, hl with | [_, _], _ => rfl, .nil⟩
  have nd := sc_leaf_table.nd
  exact pss_cons (ps_set (i := 2) nd rfl (by first | exact Or.inl rfl | exact Or.inr rfl) (pe_int)) (pss_cons (ps_for PassesOwn.never rfl (pi_range1 rfl T.f_range (pa_cons (pe_op op_shl (pe_int) (pv 1)) (pa_nil))) (pg_name (i := 3) nd rfl (by first | exact Or.inl rfl | exact Or.inr rfl)) (pss_one (ps_set (i := 2) nd rfl (by first | exact Or.inl rfl | exact Or.inr rfl) (pe_op op_or (pv 2) (pe_op op_shl (pe_op op_and (pe_op op_shr (pv 3) (pv 0)) (pe_int)) (pv 3)))))) (pss_one (ps_ret (pv 2))))
theorem call_leaf {ρ : Rho} {tl : TA} {i c : Nat} (hc : c ≤ 6) (h : SPa tl ρ [pInt (i : Int), pInt (c : Int)]) : SP (tCall sp_leaf_table [] E0 tl) ρ (pInt (leaf i c : Int)) := SP.call (i, c) h hc
abbrev s_half_table : Stmt := top 3
theorem sc_half_table : FnScope ["table", "index", "value", "count", "ones", "kept"] ["table", "index", "value", "count"] (defScope s_half_table) := ⟨rfl, rfl, rfl, by decide +kernel, rfl, by decide +kernel, by decide +kernel⟩
def t_half_table (K : PySem.W.Frag) : TS := tSeq (tAsg (tCall sp_leaf_table [] E0 (tCons (tVar 1) (tCons (tVar 3) (tNil)))) (gName 4)) (tSeq (tIfS (tTest (tOp (uEq K) (tVar 2) (tC (.int ((1 : Nat) : Int))))) (tSeq (tAsg (tOp (rI0 fun i j => .int (Builtin.bitAnd i j)) (tVar 0) (tVar 4)) (gName 5)) (tRet (tOp (rI0 fun i j => .int (Builtin.bitOr i j)) (tVar 5) (tOp (rI (fun _ j => 0 ≤ j) fun i j => .int (i / 2 ^ j.toNat)) (tVar 5) (tOp (rI CPow fun i j => .int (i * 2 ^ j.toNat)) (tC (.int ((1 : Nat) : Int))) (tVar 1)))))) (tNext)) (tSeq (tAsg (tOp (rI0 fun i j => .int (Builtin.bitAnd i j)) (tVar 0) (tOp (rI0 fun i j => .int (Builtin.bitXor i j)) (tCall sp_full_table [] E0 (tCons (tVar 3) (tNil))) (tVar 4))) (gName 5)) (tRet (tOp (rI0 fun i j => .int (Builtin.bitOr i j)) (tVar 5) (tOp (rI CPow fun i j => .int (i * 2 ^ j.toNat)) (tVar 5) (tOp (rI CPow fun i j => .int (i * 2 ^ j.toNat)) (tC (.int ((1 : Nat) : Int))) (tVar 1)))))))
def sp_half_table : Sp := spP (fun x : Nat × Nat × Nat × Nat => [pInt (x.1 : Int), pInt (x.2.1 : Int), pInt (x.2.2.1 : Int), pInt (x.2.2.2 : Int)]) (fun x => x.2.2.2 ≤ 6 ∧ x.2.1 < x.2.2.2) fun x => pInt (half x.1 x.2.1 x.2.2.1 x.2.2.2 : Int)
theorem len_half_table {vs : List V} {H : Hp} {Q : VK} {E : XK} (h : sp_half_table vs H Q E) : vs.length = 4 := by
  obtain ⟨x, F, _, _, ha, _⟩ := h
  exact ha.length.trans rfl
theorem body_half_table {K : PySem.W.Frag} {vs : List V} {H : Hp} {Q : VK} {E : XK} (h : sp_half_table vs H Q E) : t_half_table K { nx := fun _ H' => Q .non H', rt := Q } (L2.start ["table", "index", "value", "count", "ones", "kept"] vs) H := by
  refine pure_body (fun _ => Nat.le_of_ble_eq_true rfl) (fun x B hx => ?_) h
  obtain ⟨t, i, v, c⟩ := x
  obtain ⟨hc, hi⟩ : c ≤ 6 ∧ i < c := hx
  show SS B _ [some (pInt (t : Int)), some (pInt (i : Int)), some (pInt (v : Int)), some (pInt (c : Int)), none, none] [] _
  have hi6 : 1 <<< i ≤ 64 := by rw [shl1]; exact Nat.le_trans (Nat.pow_le_pow_right (by decide) (Nat.le_of_lt hi)) (pow6 hc)
  refine SS.seq (SS.asg (call_leaf hc (SPa.cons (SP.var rfl) (SPa.cons (SP.var rfl) SPa.nil))) ?_)
  refine SS.seq (SS.ite (b := decide (v = 1)) (by walk_at "sp") (fun h => ?_) (fun h => ?_))
  · have hv : v = 1 := of_decide_eq_true h
    refine SS.seq (SS.asg (P := pInt ((t &&& leaf i c : Nat) : Int)) (by walk_at "sp") ?_)
    refine SS.retP (P := pInt (half t i v c : Int)) ?_ fun v F h => h
    refine SP.to (P := pInt (((t &&& leaf i c) ||| ((t &&& leaf i c) >>> (1 <<< i)) : Nat) : Int)) ?_ (by rw [shl1, hv]; rfl)
    walk_at "sp"
    exact O2.shlN (by omega) (by decide)
    walk_at "sp"
  · have hv : ¬ v = 1 := of_decide_eq_false h
    refine SS.nil ?_
    refine SS.seq (SS.asg (P := pInt ((t &&& (full c ^^^ leaf i c) : Nat) : Int)) (SP.op (SP.var rfl) (SP.op (call_full hc (SPa.cons (SP.var rfl) SPa.nil)) (SP.var rfl) O2.xorN) O2.andN) ?_)
    refine SS.retP (P := pInt (half t i v c : Int)) ?_ fun v F h => h
    refine SP.to (P := pInt (((t &&& (full c ^^^ leaf i c)) ||| ((t &&& (full c ^^^ leaf i c)) <<< (1 <<< i)) : Nat) : Int)) ?_ (by rw [shl1]; unfold half; rw [if_neg hv])
    have hl : t &&& (full c ^^^ leaf i c) < 2 ^ 64 := Nat.lt_of_le_of_lt Nat.and_le_right (tab64 hc (M53.xor_full_lt (M53.leaf_lt i c)))
    refine SP.op (SP.var rfl) (SP.op (SP.var rfl) (SP.op SP.int (SP.var rfl) (O2.shlN (by omega) (by decide))) (O2.shlN (by omega) hl)) O2.orN
theorem ok_half_table {P : Program} {w : World} {K : PySem.W.Frag} {mg : Str → Option Value} {base : Heap} {f : Addr} {fd : FuncData} (T : Txt K mg) (F : FnP K "half_table" "half_table" s_half_table f fd) (hg : mg "half_table" = some (.ref f)) (c_full_table : C8.Cal P w K mg base 1 "full_table" sp_full_table []) (c_leaf_table : C8.Cal P w K mg base 1 "leaf_table" sp_leaf_table [])  : C8.Cal P w K mg base 2 "half_table" sp_half_table [] := by
  refine ⟨f, fd, ["table", "index", "value", "count"], [], F.ok sc_half_table (fun vs H Q E h => len_half_table h) (fun cdv A outer s H vs Q E hr h => ⟨t_half_table K, PSs.nox ?_, body_half_table h⟩), hg, F.kp, F.bindsN fun _ _ _ _ _ _ us hl => match us, hl with | [_, _, _, _], _ => rfl, .nil⟩
  have nd := sc_half_table.nd
  exact pss_cons (ps_set (i := 4) nd rfl (by first | exact Or.inl rfl | exact Or.inr rfl) (C8.pe_c c_leaf_table hr (by decide) rfl (pa_cons (pv 1) (pa_cons (pv 3) (pa_nil))))) (pss_cons (ps_if (pt_cmpR (op_eqU hr.units) (pv 2) (pe_int) (nomark _)) (pss_cons (ps_set (i := 5) nd rfl (by first | exact Or.inl rfl | exact Or.inr rfl) (pe_op op_and (pv 0) (pv 4))) (pss_one (ps_ret (pe_op op_or (pv 5) (pe_op op_shr (pv 5) (pe_op op_shl (pe_int) (pv 1))))))) (pss_nil)) (pss_cons (ps_set (i := 5) nd rfl (by first | exact Or.inl rfl | exact Or.inr rfl) (pe_op op_and (pv 0) (pe_op op_xor (C8.pe_c c_full_table hr (by decide) rfl (pa_cons (pv 3) (pa_nil))) (pv 4)))) (pss_one (ps_ret (pe_op op_or (pv 5) (pe_op op_shl (pv 5) (pe_op op_shl (pe_int) (pv 1))))))))
theorem call_half {ρ : Rho} {tl : TA} {t i v c : Nat} (hc : c ≤ 6) (hi : i < c) (h : SPa tl ρ [pInt (t : Int), pInt (i : Int), pInt (v : Int), pInt (c : Int)]) : SP (tCall sp_half_table [] E0 tl) ρ (pInt (half t i v c : Int)) := SP.call (t, i, v, c) h ⟨hc, hi⟩
abbrev s_depends_on : Stmt := top 4
theorem sc_depends_on : FnScope ["table", "index", "count"] ["table", "index", "count"] (defScope s_depends_on) := ⟨rfl, rfl, rfl, by decide +kernel, rfl, by decide +kernel, by decide +kernel⟩
def t_depends_on (K : PySem.W.Frag) : TS := tRet (tOp (uNe K) (tCall sp_half_table [] E0 (tCons (tVar 0) (tCons (tVar 1) (tCons (tC (.int ((0 : Nat) : Int))) (tCons (tVar 2) (tNil)))))) (tCall sp_half_table [] E0 (tCons (tVar 0) (tCons (tVar 1) (tCons (tC (.int ((1 : Nat) : Int))) (tCons (tVar 2) (tNil)))))))
def sp_depends_on : Sp := spP (fun x : Nat × Nat × Nat => [pInt (x.1 : Int), pInt (x.2.1 : Int), pInt (x.2.2 : Int)]) (fun x => x.2.2 ≤ 6 ∧ x.2.1 < x.2.2) fun x => pBool (dep x.1 x.2.1 x.2.2)
theorem len_depends_on {vs : List V} {H : Hp} {Q : VK} {E : XK} (h : sp_depends_on vs H Q E) : vs.length = 3 := by
  obtain ⟨x, F, _, _, ha, _⟩ := h
  exact ha.length.trans rfl
theorem body_depends_on {K : PySem.W.Frag} {vs : List V} {H : Hp} {Q : VK} {E : XK} (h : sp_depends_on vs H Q E) : t_depends_on K { nx := fun _ H' => Q .non H', rt := Q } (L2.start ["table", "index", "count"] vs) H := by
  refine pure_body (fun _ => Nat.le_of_ble_eq_true rfl) (fun x B hx => ?_) h
  obtain ⟨t, i, c⟩ := x
  obtain ⟨hc, hi⟩ : c ≤ 6 ∧ i < c := hx
  refine SS.retP (P := pBool (dep t i c)) ?_ fun v F h => h
  refine SP.to (SP.op (call_half (v := 0) hc hi (by walk_at "sp")) (call_half (v := 1) hc hi (by walk_at "sp")) O2.neN) ?_
  unfold dep
  rw [decide_not]
theorem ok_depends_on {P : Program} {w : World} {K : PySem.W.Frag} {mg : Str → Option Value} {base : Heap} {f : Addr} {fd : FuncData} (T : Txt K mg) (F : FnP K "depends_on" "depends_on" s_depends_on f fd) (hg : mg "depends_on" = some (.ref f)) (c_half_table : C8.Cal P w K mg base 2 "half_table" sp_half_table [])  : C8.Cal P w K mg base 3 "depends_on" sp_depends_on [] := by
  refine ⟨f, fd, ["table", "index", "count"], [], F.ok sc_depends_on (fun vs H Q E h => len_depends_on h) (fun cdv A outer s H vs Q E hr h => ⟨t_depends_on K, PSs.nox ?_, body_depends_on h⟩), hg, F.kp, F.bindsN fun _ _ _ _ _ _ us hl => match us, hl with | [_, _, _], _ => rfl, .nil⟩
  have nd := sc_depends_on.nd
  exact pss_one (ps_ret (pe_cmpR (op_neU hr.units) (C8.pe_c c_half_table hr (by decide) rfl (pa_cons (pv 0) (pa_cons (pv 1) (pa_cons (pe_int) (pa_cons (pv 2) (pa_nil)))))) (C8.pe_c c_half_table hr (by decide) rfl (pa_cons (pv 0) (pa_cons (pv 1) (pa_cons (pe_int) (pa_cons (pv 2) (pa_nil)))))) (nomark _)))
theorem call_dep {ρ : Rho} {tl : TA} {t i c : Nat} (hc : c ≤ 6) (hi : i < c) (h : SPa tl ρ [pInt (t : Int), pInt (i : Int), pInt (c : Int)]) : SP (tCall sp_depends_on [] E0 tl) ρ (pBool (dep t i c)) := SP.call (t, i, c) h ⟨hc, hi⟩
abbrev s_products_table : Stmt := top 6
theorem sc_products_table : FnScope ["products", "count", "full", "table", "product", "points", "literal"] ["products", "count"] (defScope s_products_table) := ⟨rfl, rfl, rfl, by decide +kernel, rfl, by decide +kernel, by decide +kernel⟩
def t_products_table (K : PySem.W.Frag) : TS := tSeq (tAsg (tCall sp_full_table [] E0 (tCons (tVar 1) (tNil))) (gName 2)) (tSeq (tAsg (tC (.int ((0 : Nat) : Int))) (gName 3)) (tSeq (tFor (iO (iList K (tVar 0)) (iTup K (tVar 0))) (gName 4) (tSeq (tAsg (tVar 2) (gName 5)) (tSeq (tFor (iO (iList K (tVar 4)) (iTup K (tVar 4))) (gName 6) (tAsg (tOp (rI0 fun i j => .int (Builtin.bitAnd i j)) (tVar 5) (tOp (rI0 fun i j => .int (Builtin.bitXor i j)) (tCall sp_leaf_table [] E0 (tCons (tOp (rI (fun _ j => 0 ≤ j) fun i j => .int (i / 2 ^ j.toNat)) (tVar 6) (tC (.int ((1 : Nat) : Int)))) (tCons (tVar 1) (tNil)))) (tOp uMul (tVar 2) (tOp (rI0 fun i j => .int (Builtin.bitAnd i j)) (tVar 6) (tC (.int ((1 : Nat) : Int))))))) (gName 5))) (tAsg (tOp (rI0 fun i j => .int (Builtin.bitOr i j)) (tVar 3) (tVar 5)) (gName 3))))) (tRet (tVar 3))))
def prP (pr : List Nat) : Pd := pTup (pr.map fun l : Nat => pInt (l : Int))
def sp_products_table : Sp := spP (fun x : List (List Nat) × Nat => [pLst (x.1.map prP), pInt (x.2 : Int)]) (fun x => x.2 ≤ 6) fun x => pInt (prodT x.1 x.2 : Int)
theorem len_products_table {vs : List V} {H : Hp} {Q : VK} {E : XK} (h : sp_products_table vs H Q E) : vs.length = 2 := by
  obtain ⟨x, F, _, _, ha, _⟩ := h
  exact ha.length.trans rfl
theorem body_products_table {K : PySem.W.Frag} {vs : List V} {H : Hp} {Q : VK} {E : XK} (h : sp_products_table vs H Q E) : t_products_table K { nx := fun _ H' => Q .non H', rt := Q } (L2.start ["products", "count", "full", "table", "product", "points", "literal"] vs) H := by
  refine pure_body (fun _ => Nat.le_of_ble_eq_true rfl) (fun x B hx => ?_) h
  obtain ⟨ps, c⟩ := x
  have hc : c ≤ 6 := hx
  show SS B _ [some (pLst (ps.map prP)), some (pInt (c : Int)), none, none, none, none, none] [] _
  refine SS.seq (SS.asg (call_full hc (by walk_at "sp")) ?_)
  refine SS.seq (SS.asg SP.int ?_)
  refine SS.seq (SS.forF (is := [4]) (e := prP) (xs := ps) (SI.o1 (SI.list (SP.var rfl)))
    (fun ys => [some (pLst (ps.map prP)), some (pInt (c : Int)), some (pInt (full c : Int)), some (pInt (prodT ys c : Int)), none, none, none]) (fun _ => []) (by walk_at "fits") rfl (fun ys pr zs e => ?_) fun ρ' hf => SS.fits hf ?_)
  · refine ⟨_, ST.name, SS.seq (SS.asg (SP.var rfl) ?_)⟩
    refine SS.seq (SS.forF (is := [6]) (e := fun l : Nat => pInt (l : Int)) (xs := pr) (SI.o2 (SI.tup (SP.var rfl)))
      (fun ls => [some (pLst (ps.map prP)), some (pInt (c : Int)), some (pInt (full c : Int)), some (pInt (prodT ys c : Int)), none, some (pInt (prT c ls : Int)), none]) (fun _ => []) (by walk_at "fits") rfl (fun ls l ms e2 => ?_) fun ρ' hf => SS.fits hf ?_)
    · refine ⟨_, ST.name, SS.asg (P := pInt ((prT c ls &&& litT l c : Nat) : Int)) ?_ ⟨?_, rfl⟩⟩
      · refine SP.op (SP.var rfl) (SP.op (call_leaf (i := l >>> 1) hc (by walk_at "sp")) (SP.op (SP.var rfl) (SP.op (SP.var rfl) SP.int O2.andN) (O2.mulN (.inl (full64 hc)))) (O2.xorN.to ?_)) O2.andN
        unfold litT
        rw [Nat.shiftRight_eq_div_pow, Nat.and_one_is_mod]
      · unfold prT
        rw [List.foldl_append]
        walk_at "fits"
    · refine SS.asg (P := pInt ((prodT ys c ||| prT c pr : Nat) : Int)) (by walk_at "sp") ⟨?_, rfl⟩
      unfold prodT
      rw [List.foldl_append]
      walk_at "fits"
  · exact SS.retP (SP.var rfl) fun v F h => h
theorem ok_products_table {P : Program} {w : World} {K : PySem.W.Frag} {mg : Str → Option Value} {base : Heap} {f : Addr} {fd : FuncData} (T : Txt K mg) (F : FnP K "products_table" "products_table" s_products_table f fd) (hg : mg "products_table" = some (.ref f)) (c_full_table : C8.Cal P w K mg base 1 "full_table" sp_full_table []) (c_leaf_table : C8.Cal P w K mg base 1 "leaf_table" sp_leaf_table [])  : C8.Cal P w K mg base 2 "products_table" sp_products_table [] := by
  refine ⟨f, fd, ["products", "count"], [], F.ok sc_products_table (fun vs H Q E h => len_products_table h) (fun cdv A outer s H vs Q E hr h => ⟨t_products_table K, PSs.nox ?_, body_products_table h⟩), hg, F.kp, F.bindsN fun _ _ _ _ _ _ us hl => match us, hl with | [_, _], _ => rfl, .nil⟩
  have nd := sc_products_table.nd
  exact pss_cons (ps_set (i := 2) nd rfl (by first | exact Or.inl rfl | exact Or.inr rfl) (C8.pe_c c_full_table hr (by decide) rfl (pa_cons (pv 1) (pa_nil)))) (pss_cons (ps_set (i := 3) nd rfl (by first | exact Or.inl rfl | exact Or.inr rfl) (pe_int)) (pss_cons (ps_for PassesOwn.never rfl (PI.or (pi_list (pv 0)) (pi_tup (pv 0))) (pg_name (i := 4) nd rfl (by first | exact Or.inl rfl | exact Or.inr rfl)) (pss_cons (ps_set (i := 5) nd rfl (by first | exact Or.inl rfl | exact Or.inr rfl) (pv 2)) (pss_cons (ps_for PassesOwn.never rfl (PI.or (pi_list (pv 4)) (pi_tup (pv 4))) (pg_name (i := 6) nd rfl (by first | exact Or.inl rfl | exact Or.inr rfl)) (pss_one (ps_set (i := 5) nd rfl (by first | exact Or.inl rfl | exact Or.inr rfl) (pe_op op_and (pv 5) (pe_op op_xor (C8.pe_c c_leaf_table hr (by decide) rfl (pa_cons (pe_op op_shr (pv 6) (pe_int)) (pa_cons (pv 1) (pa_nil)))) (pe_op op_mulU (pv 2) (pe_op op_and (pv 6) (pe_int)))))))) (pss_one (ps_set (i := 3) nd rfl (by first | exact Or.inl rfl | exact Or.inr rfl) (pe_op op_or (pv 3) (pv 5))))))) (pss_one (ps_ret (pv 3)))))
theorem call_prods {ρ : Rho} {tl : TA} {ps : List (List Nat)} {c : Nat} (hc : c ≤ 6) (h : SPa tl ρ [pLst (ps.map prP), pInt (c : Int)]) : SP (tCall sp_products_table [] E0 tl) ρ (pInt (prodT ps c : Int)) := SP.call (ps, c) h hc
abbrev s_last_leaf : Stmt := top 7
theorem sc_last_leaf : FnScope ["lower", "upper", "count", "leaf"] ["lower", "upper", "count"] (defScope s_last_leaf) := ⟨rfl, rfl, rfl, by decide +kernel, rfl, by decide +kernel, by decide +kernel⟩
def t_last_leaf (K : PySem.W.Frag) : TS := tSeq (tAsg (tOp (rI0 fun i j => .int (i - j)) (tVar 2) (tC (.int ((1 : Nat) : Int)))) (gName 3)) (tSeq (tWhile (tAnd (tNot (tB (tCall sp_depends_on [] E0 (tCons (tVar 0) (tCons (tVar 3) (tCons (tVar 2) (tNil))))))) (tNot (tB (tCall sp_depends_on [] E0 (tCons (tVar 1) (tCons (tVar 3) (tCons (tVar 2) (tNil)))))))) (tAug 3 (tC (.int ((1 : Nat) : Int))) (rI0 fun i j => .int (i - j)))) (tRet (tVar 3)))
def sp_last_leaf : Sp := spP (fun x : Nat × Nat × Nat => [pInt (x.1 : Int), pInt (x.2.1 : Int), pInt (x.2.2 : Int)]) (fun x => x.2.2 ≤ 6 ∧ lastLeaf x.1 x.2.1 x.2.2 x.2.2 < x.2.2 ∧ (dep x.1 (lastLeaf x.1 x.2.1 x.2.2 x.2.2) x.2.2 || dep x.2.1 (lastLeaf x.1 x.2.1 x.2.2 x.2.2) x.2.2) = true) fun x => pInt (lastLeaf x.1 x.2.1 x.2.2 x.2.2 : Int)
theorem len_last_leaf {vs : List V} {H : Hp} {Q : VK} {E : XK} (h : sp_last_leaf vs H Q E) : vs.length = 3 := by
  obtain ⟨x, F, _, _, ha, _⟩ := h
  exact ha.length.trans rfl
theorem body_last_leaf {K : PySem.W.Frag} {vs : List V} {H : Hp} {Q : VK} {E : XK} (h : sp_last_leaf vs H Q E) : t_last_leaf K { nx := fun _ H' => Q .non H', rt := Q } (L2.start ["lower", "upper", "count", "leaf"] vs) H := by
  refine pure_body (fun _ => Nat.le_of_ble_eq_true rfl) (fun x B hx => ?_) h
  obtain ⟨L, U, c⟩ := x
  obtain ⟨hc, hl, hd⟩ : c ≤ 6 ∧ lastLeaf L U c c < c ∧ (dep L (lastLeaf L U c c) c || dep U (lastLeaf L U c c) c) = true := hx
  show SS B _ [some (pInt (L : Int)), some (pInt (U : Int)), some (pInt (c : Int)), none] [] _
  refine SS.seq (SS.asg (P := pInt ((c - 1 : Nat) : Int)) (SP.op (SP.var rfl) SP.int (O2.subN (by omega))) ?_)
  refine SS.seq (SS.while (fun n ρ R => n < c ∧ lastLeaf L U c (n + 1) = lastLeaf L U c c ∧ ρ = [some (pInt (L : Int)), some (pInt (U : Int)), some (pInt (c : Int)), some (pInt (n : Int))]) (c - 1) ⟨by omega, by rw [Nat.sub_add_cancel (by omega)], rfl⟩ ?_)
  rintro n ρ R ⟨hn, he, rfl⟩
  have e1 : lastLeaf L U c (n + 1) = if dep L n c || dep U n c then n else lastLeaf L U c n := rfl
  refine SEt.pure (b := !dep L n c && !dep U n c) (SPt.and (SPt.not (SPt.val (call_dep hc hn (by walk_at "sp")))) fun _ => SPt.not (SPt.val (call_dep hc hn (by walk_at "sp")))) ⟨fun h => ?_, fun h => ?_⟩
  · have : (dep L n c || dep U n c) = true := by cases h1 : dep L n c <;> cases h2 : dep U n c <;> simp_all
    rw [this, if_pos rfl] at e1
    refine SS.retP (SP.var rfl) fun v F h => ?_
    show v = V.int ((lastLeaf L U c c : Nat) : Int)
    rw [← he, e1]
    exact h
  · have : (dep L n c || dep U n c) = false := by cases h1 : dep L n c <;> cases h2 : dep U n c <;> simp_all
    rw [this, if_neg Bool.false_ne_true] at e1
    have hn0 : n ≠ 0 := fun z => by
      subst z
      have z0 : lastLeaf L U c 0 = 0 := rfl
      rw [z0] at e1
      rw [← he, e1, this] at hd
      cases hd
    refine SS.aug (P := pInt (n : Int)) (P'' := pInt ((n - 1 : Nat) : Int)) rfl SP.int (O2.subN (by omega)) ⟨n - 1, by omega, by omega, ?_, rfl⟩
    rw [Nat.sub_add_cancel (by omega), ← e1, he]
theorem ok_last_leaf {P : Program} {w : World} {K : PySem.W.Frag} {mg : Str → Option Value} {base : Heap} {f : Addr} {fd : FuncData} (T : Txt K mg) (F : FnP K "last_leaf" "last_leaf" s_last_leaf f fd) (hg : mg "last_leaf" = some (.ref f)) (c_depends_on : C8.Cal P w K mg base 3 "depends_on" sp_depends_on [])  : C8.Cal P w K mg base 4 "last_leaf" sp_last_leaf [] := by
  refine ⟨f, fd, ["lower", "upper", "count"], [], F.ok sc_last_leaf (fun vs H Q E h => len_last_leaf h) (fun cdv A outer s H vs Q E hr h => ⟨t_last_leaf K, PSs.nox ?_, body_last_leaf h⟩), hg, F.kp, F.bindsN fun _ _ _ _ _ _ us hl => match us, hl with | [_, _, _], _ => rfl, .nil⟩
  have nd := sc_last_leaf.nd
  exact pss_cons (ps_set (i := 3) nd rfl (by first | exact Or.inl rfl | exact Or.inr rfl) (pe_op op_sub (pv 2) (pe_int))) (pss_cons (ps_while PassesOwn.never (PW.pt (pw_and (pt_not (pt_val (C8.pe_c c_depends_on hr (by decide) rfl (pa_cons (pv 0) (pa_cons (pv 3) (pa_cons (pv 2) (pa_nil))))) (fun _ => rfl))) (pw_and1 (pt_not (pt_val (C8.pe_c c_depends_on hr (by decide) rfl (pa_cons (pv 1) (pa_cons (pv 3) (pa_cons (pv 2) (pa_nil))))) (fun _ => rfl)))))) (pss_one (ps_aug (i := 3) nd rfl (by first | exact Or.inl rfl | exact Or.inr rfl) (pe_int) iop_sub))) (pss_one (ps_ret (pv 3))))
theorem call_last {ρ : Rho} {tl : TA} {L U c : Nat} (hc : c ≤ 6) (h1 : lastLeaf L U c c < c) (h2 : (dep L (lastLeaf L U c c) c || dep U (lastLeaf L U c c) c) = true) (h : SPa tl ρ [pInt (L : Int), pInt (U : Int), pInt (c : Int)]) : SP (tCall sp_last_leaf [] E0 tl) ρ (pInt (lastLeaf L U c c : Int)) := SP.call (L, U, c) h ⟨hc, h1, h2⟩
abbrev s_covering : Stmt := top 8
theorem sc_covering : FnScope ["lower", "upper", "count", "full", "leaf", "low", "high", "without", "within", "left", "products", "value", "product"] ["lower", "upper", "count"] (defScope s_covering) := ⟨rfl, rfl, rfl, by decide +kernel, rfl, by decide +kernel, by decide +kernel⟩
def t_covering (K : PySem.W.Frag) (spr : Sp) : TS := tSeq (tAsg (tCall sp_full_table [] E0 (tCons (tVar 2) (tNil))) (gName 3)) (tSeq (tIfS (tTest (tOp (uEq K) (tVar 0) (tC (.int ((0 : Nat) : Int))))) (tRet (tLst (tNil))) (tNext)) (tSeq (tIfS (tTest (tOp (uEq K) (tVar 1) (tVar 3))) (tRet (tLst (tCons (tTup (tNil)) (tNil)))) (tNext)) (tSeq (tAsg (tCall sp_last_leaf [] E0 (tCons (tVar 0) (tCons (tVar 1) (tCons (tVar 2) (tNil))))) (gName 4)) (tSeq (tAsg (tLc (iTup K (tTup (tCons (tC (.int ((0 : Nat) : Int))) (tCons (tC (.int ((1 : Nat) : Int))) (tNil))))) (gName 11) tYes (tCall sp_half_table [] E0 (tCons (tVar 0) (tCons (tVar 4) (tCons (tVar 11) (tCons (tVar 2) (tNil)))))) [11]) (gName 5)) (tSeq (tAsg (tLc (iTup K (tTup (tCons (tC (.int ((0 : Nat) : Int))) (tCons (tC (.int ((1 : Nat) : Int))) (tNil))))) (gName 11) tYes (tCall sp_half_table [] E0 (tCons (tVar 1) (tCons (tVar 4) (tCons (tVar 11) (tCons (tVar 2) (tNil)))))) [11]) (gName 6)) (tSeq (tAsg (tCall spr [] E0 (tCons (tOp (rI0 fun i j => .int (Builtin.bitAnd i j)) (tOp (rIx K) (tVar 5) (tC (.int ((0 : Nat) : Int)))) (tOp (rI0 fun i j => .int (Builtin.bitXor i j)) (tVar 3) (tOp (rIx K) (tVar 6) (tC (.int ((1 : Nat) : Int)))))) (tCons (tOp (rIx K) (tVar 6) (tC (.int ((0 : Nat) : Int)))) (tCons (tVar 2) (tNil))))) (gName 7)) (tSeq (tAsg (tCall spr [] E0 (tCons (tOp (rI0 fun i j => .int (Builtin.bitAnd i j)) (tOp (rIx K) (tVar 5) (tC (.int ((1 : Nat) : Int)))) (tOp (rI0 fun i j => .int (Builtin.bitXor i j)) (tVar 3) (tOp (rIx K) (tVar 6) (tC (.int ((0 : Nat) : Int)))))) (tCons (tOp (rIx K) (tVar 6) (tC (.int ((1 : Nat) : Int)))) (tCons (tVar 2) (tNil))))) (gName 8)) (tSeq (tAsg (tOp (rI0 fun i j => .int (Builtin.bitAnd i j)) (tOp (rIx K) (tVar 5) (tC (.int ((0 : Nat) : Int)))) (tOp (rI0 fun i j => .int (Builtin.bitXor i j)) (tVar 3) (tCall sp_products_table [] E0 (tCons (tVar 7) (tCons (tVar 2) (tNil)))))) (gName 9)) (tSeq (tAsg (tOp (rI0 fun i j => .int (Builtin.bitOr i j)) (tVar 9) (tOp (rI0 fun i j => .int (Builtin.bitAnd i j)) (tOp (rIx K) (tVar 5) (tC (.int ((1 : Nat) : Int)))) (tOp (rI0 fun i j => .int (Builtin.bitXor i j)) (tVar 3) (tCall sp_products_table [] E0 (tCons (tVar 8) (tCons (tVar 2) (tNil))))))) (gName 9)) (tSeq (tAsg (tLc (iO (iList K (tVar 7)) (iTup K (tVar 7))) (gName 12) tYes (tOp (uAdd K) (tVar 12) (tTup (tCons (tOp (uAdd K) (tOp uMul (tC (.int ((2 : Nat) : Int))) (tVar 4)) (tC (.int ((1 : Nat) : Int)))) (tNil)))) [12]) (gName 10)) (tSeq (tDrop (tBM K "list" rExtend (tVar 10) (tCons (tLc (iO (iList K (tVar 8)) (iTup K (tVar 8))) (gName 12) tYes (tOp (uAdd K) (tVar 12) (tTup (tCons (tOp uMul (tC (.int ((2 : Nat) : Int))) (tVar 4)) (tNil)))) [12]) (tNil)))) (tSeq (tDrop (tBM K "list" rExtend (tVar 10) (tCons (tCall spr [] E0 (tCons (tVar 9) (tCons (tOp (rI0 fun i j => .int (Builtin.bitAnd i j)) (tOp (rIx K) (tVar 6) (tC (.int ((0 : Nat) : Int)))) (tOp (rIx K) (tVar 6) (tC (.int ((1 : Nat) : Int))))) (tCons (tVar 2) (tNil))))) (tNil)))) (tRet (tVar 10))))))))))))))
abbrev PreC (c n L U : Nat) : Prop := L < 2 ^ 2 ^ c ∧ U < 2 ^ 2 ^ c ∧ Sub c L U ∧ DepLt c n L ∧ DepLt c n U
def sp_covering (n : Nat) : Sp := spP (fun x : Nat × Nat × Nat × Nat => [pInt (x.2.1 : Int), pInt (x.2.2.1 : Int), pInt (x.2.2.2 : Int)]) (fun x => x.2.2.2 ≤ 6 ∧ x.1 ≤ x.2.2.2 ∧ x.1 ≤ n ∧ PreC x.2.2.2 x.1 x.2.1 x.2.2.1) fun x => pLst ((cover x.2.2.2 x.1 x.2.1 x.2.2.1).map prP)
theorem len_covering {n : Nat} {vs : List V} {H : Hp} {Q : VK} {E : XK} (h : sp_covering n vs H Q E) : vs.length = 3 := by
  obtain ⟨x, F, _, _, ha, _⟩ := h
  exact ha.length.trans rfl
theorem call_cov {N : Nat} {ρ : Rho} {tl : TA} {n L U c : Nat} (hc : c ≤ 6) (hn : n ≤ c) (hN : n ≤ N) (hL : L < 2 ^ 2 ^ c) (hU : U < 2 ^ 2 ^ c) (hs : Sub c L U) (dL : DepLt c n L) (dU : DepLt c n U) (h : SPa tl ρ [pInt (L : Int), pInt (U : Int), pInt (c : Int)]) : SP (tCall (sp_covering N) [] E0 tl) ρ (pLst ((cover c n L U).map prP)) := SP.call (n, L, U, c) h ⟨hc, hn, hN, hL, hU, hs, dL, dU⟩
theorem cover_len (c : Nat) : ∀ n L U : Nat, (cover c n L U).length ≤ 3 ^ n
  | 0, L, U => by
    unfold cover
    split
    · exact Nat.zero_le _
    · split <;> simp
  | n + 1, L, U => by
    unfold cover
    split
    · exact Nat.zero_le _
    · split
      · have := Nat.one_le_pow (n + 1) 3 (by decide)
        simpa using this
      · show ((List.map _ _ ++ List.map _ _) ++ _).length ≤ _
        rw [List.length_append, List.length_append, List.length_map, List.length_map]
        have h1 := fun a b => cover_len c n a b
        rw [Nat.pow_succ]
        have a1 := h1 (half L (lastLeaf L U c c) 0 c &&& (full c ^^^ half U (lastLeaf L U c c) 1 c)) (half U (lastLeaf L U c c) 0 c)
        have a2 := h1 (half L (lastLeaf L U c c) 1 c &&& (full c ^^^ half U (lastLeaf L U c c) 0 c)) (half U (lastLeaf L U c c) 1 c)
        refine Nat.le_trans (Nat.add_le_add (Nat.add_le_add a1 a2) (h1 _ _)) (by omega)
theorem cov_small {n c L U : Nat} (hc : c ≤ 6) (hn : n ≤ c) : (cover c n L U).length ≤ 729 := Nat.le_trans (cover_len c n L U) (Nat.pow_le_pow_right (n := 3) (by decide) (show n ≤ 6 by omega))
theorem cov0 {K : PySem.W.Frag} {spr : Sp} {B : Base} {L U c : Nat} {D : DE} (hc : c ≤ 6) (hL : L < 2 ^ 2 ^ c) (hU : U < 2 ^ 2 ^ c) (hs : Sub c L U) (dL : DepLt c 0 L) (dU : DepLt c 0 U) (hD : ∀ P : Pd, (∀ v F, P.p v F → (pLst ((cover c 0 L U).map prP)).p v F) → D.rt P []) :
    SS B (t_covering K spr) [some (pInt (L : Int)), some (pInt (U : Int)), some (pInt (c : Int)), none, none, none, none, none, none, none, none, none, none] [] D := by
  refine SS.seq (SS.asg (call_full hc (by walk_at "sp")) ?_)
  refine SS.seq (SS.ite (b := decide (L = 0)) (by walk_at "sp") (fun h => ?_) (fun h => ?_))
  · have h0 : L = 0 := of_decide_eq_true h
    refine SS.retP (P := pLst []) (by walk_at "sp"; decide) (hD _ fun v F h => ?_)
    show (pLst ((cover c 0 L U).map prP)).p v F
    unfold cover
    rw [if_pos h0]
    exact h
  · have h0 : ¬ L = 0 := of_decide_eq_false h
    have hl : L = full c := (M53.const_of hL dL).resolve_left h0
    have hu : U = full c := by
      rcases M53.const_of hU dU with h | h
      · subst h
        have := hs 0 (Nat.two_pow_pos _) (by rw [hl, M53.full_bit]; simp [Nat.two_pow_pos])
        simp at this
      · exact h
    refine SS.nil (SS.seq (SS.ite (b := decide (U = full c)) (by walk_at "sp") (fun h => ?_) (fun h => absurd hu (of_decide_eq_false h))))
    refine SS.retP (P := pLst [prP []]) (SP.lst (SPa.cons (SP.tup SPa.nil) SPa.nil)) (hD _ fun v F h => ?_)
    show (pLst ((cover c 0 L U).map prP)).p v F
    unfold cover
    rw [if_neg h0, if_pos hu]
    exact h
theorem body_covering_0 {K : PySem.W.Frag} {vs : List V} {H : Hp} {Q : VK} {E : XK} (h : sp_covering 0 vs H Q E) : t_covering K spBot { nx := fun _ H' => Q .non H', rt := Q } (L2.start ["lower", "upper", "count", "full", "leaf", "low", "high", "without", "within", "left", "products", "value", "product"] vs) H := by
  refine pure_body (fun _ => Nat.le_of_ble_eq_true rfl) (fun x B hx => ?_) h
  obtain ⟨m, L, U, c⟩ := x
  obtain ⟨hc, hn, hm, hL, hU, hs, dL, dU⟩ : c ≤ 6 ∧ m ≤ c ∧ m ≤ 0 ∧ PreC c m L U := hx
  obtain rfl := Nat.le_zero.mp hm
  exact cov0 hc hL hU hs dL dU fun P h => h
theorem body_covering_s {K : PySem.W.Frag} {n : Nat} {vs : List V} {H : Hp} {Q : VK} {E : XK} (h : sp_covering (n + 1) vs H Q E) : t_covering K (sp_covering n) { nx := fun _ H' => Q .non H', rt := Q } (L2.start ["lower", "upper", "count", "full", "leaf", "low", "high", "without", "within", "left", "products", "value", "product"] vs) H := by
  refine pure_body (fun _ => Nat.le_of_ble_eq_true rfl) (fun x B hx => ?_) h
  obtain ⟨m, L, U, c⟩ := x
  obtain ⟨hc, hn, hm, hL, hU, hs, dL, dU⟩ : c ≤ 6 ∧ m ≤ c ∧ m ≤ n + 1 ∧ PreC c m L U := hx
  cases m with
  | zero => exact cov0 hc hL hU hs dL dU fun P h => h
  | succ m =>
  obtain ⟨N, rfl⟩ : ∃ N, N = n := ⟨_, rfl⟩
  obtain ⟨n, rfl⟩ : ∃ n, n = m := ⟨_, rfl⟩
  have hN : n ≤ N := by omega
  show SS B _ [some (pInt (L : Int)), some (pInt (U : Int)), some (pInt (c : Int)), none, none, none, none, none, none, none, none, none, none] [] _
  refine SS.seq (SS.asg (call_full hc (by walk_at "sp")) ?_)
  refine SS.seq (SS.ite (b := decide (L = 0)) (by walk_at "sp") (fun h => ?_) (fun h => SS.nil ?_))
  · have h0 : L = 0 := of_decide_eq_true h
    refine SS.retP (P := pLst []) (by walk_at "sp"; decide) fun v F h => ?_
    show (pLst ((cover c (n + 1) L U).map prP)).p v F
    unfold cover
    rw [if_pos h0]
    exact h
  have h0 : ¬ L = 0 := of_decide_eq_false h
  refine SS.seq (SS.ite (b := decide (U = full c)) (by walk_at "sp") (fun h => ?_) (fun h => SS.nil ?_))
  · have h1 : U = full c := of_decide_eq_true h
    refine SS.retP (P := pLst [prP []]) (SP.lst (SPa.cons (SP.tup SPa.nil) SPa.nil)) fun v F h => ?_
    show (pLst ((cover c (n + 1) L U).map prP)).p v F
    unfold cover
    rw [if_neg h0, if_pos h1]
    exact h
  have h1 : ¬ U = full c := of_decide_eq_false h
  obtain ⟨hic, dL1, dU1, hdep, hin⟩ := M53.leaf_of hL hU hs (Nat.le_refl _) dL dU h0 h1
  refine SS.seq (SS.asg (call_last hc hic hdep (by walk_at "sp")) ?_)
  generalize hi : lastLeaf L U c c = i at hic dL1 dU1 hdep hin
  obtain ⟨PA, PB, PD', aA, aB⟩ := M53.cover_pre hL hU hs hn hic dL1 dU1 (Nat.le_of_lt_succ hin)
  rw [show (pLst ((cover c (n + 1) L U).map prP)) = pLst ((cover c (n + 1) L U).map prP) from rfl]
  have ix : ∀ {t : Nat} {k : Nat} {ρ : Rho}, SP (tCall sp_half_table [] E0 (tCons (tVar k) (tCons (tVar 4) (tCons (tVar 11) (tCons (tVar 2) tNil))))) ρ (pInt (half t i 0 c : Int)) → True := fun _ => trivial
  refine SS.seq (SS.asg (P := pLst ([0, 1].map fun v : Nat => pInt (half L i v c : Int))) (SP.lc0 (is := [11]) (e := fun v : Nat => pInt (v : Int)) (xs := [0, 1]) (SI.tup (SP.tup (SPa.cons SP.int (SPa.cons SP.int SPa.nil)))) (by decide) fun v _ => ⟨_, ST.name, call_half hc hic (by walk_at "sp")⟩) ?_)
  refine SS.seq (SS.asg (P := pLst ([0, 1].map fun v : Nat => pInt (half U i v c : Int))) (SP.lc0 (is := [11]) (e := fun v : Nat => pInt (v : Int)) (xs := [0, 1]) (SI.tup (SP.tup (SPa.cons SP.int (SPa.cons SP.int SPa.nil)))) (by decide) fun v _ => ⟨_, ST.name, call_half hc hic (by walk_at "sp")⟩) ?_)
  have i0 : ∀ (f : Nat → Pd) (K : PySem.W.Frag), O2 (rIx K) (pLst ([0, 1].map f)) (pInt ((0 : Nat) : Int)) (f 0) := fun f K => O2.ixL rfl
  have i1 : ∀ (f : Nat → Pd) (K : PySem.W.Frag), O2 (rIx K) (pLst ([0, 1].map f)) (pInt ((1 : Nat) : Int)) (f 1) := fun f K => O2.ixL rfl
  have hnc : n ≤ c := by omega
  refine SS.seq (SS.asg (call_cov hc hnc hN PA.l PA.u PA.s PA.dl PA.du (SPa.cons (SP.op (SP.op (SP.var rfl) SP.int (i0 _ _)) (SP.op (SP.var rfl) (SP.op (SP.var rfl) SP.int (i1 _ _)) O2.xorN) O2.andN) (SPa.cons (SP.op (SP.var rfl) SP.int (i0 _ _)) (SPa.cons (SP.var rfl) SPa.nil)))) ?_)
  refine SS.seq (SS.asg (call_cov hc hnc hN PB.l PB.u PB.s PB.dl PB.du (SPa.cons (SP.op (SP.op (SP.var rfl) SP.int (i1 _ _)) (SP.op (SP.var rfl) (SP.op (SP.var rfl) SP.int (i0 _ _)) O2.xorN) O2.andN) (SPa.cons (SP.op (SP.var rfl) SP.int (i1 _ _)) (SPa.cons (SP.var rfl) SPa.nil)))) ?_)
  have lA := cov_small (L := half L i 0 c &&& (full c ^^^ half U i 1 c)) (U := half U i 0 c) hc hnc
  have lB := cov_small (L := half L i 1 c &&& (full c ^^^ half U i 0 c)) (U := half U i 1 c) hc hnc
  have es := M53.cover_succ (n := n) h0 h1 hi
  generalize hA : cover c n (half L i 0 c &&& (full c ^^^ half U i 1 c)) (half U i 0 c) = A at PD' aA lA es
  generalize hB : cover c n (half L i 1 c &&& (full c ^^^ half U i 0 c)) (half U i 1 c) = B' at PD' aB lB es
  refine SS.seq (SS.asg (SP.op (SP.op (SP.var rfl) SP.int (i0 _ _)) (SP.op (SP.var rfl) (call_prods hc (SPa.cons (SP.var rfl) (SPa.cons (SP.var rfl) SPa.nil))) O2.xorN) O2.andN) ?_)
  refine SS.seq (SS.asg (SP.op (SP.var rfl) (SP.op (SP.op (SP.var rfl) SP.int (i1 _ _)) (SP.op (SP.var rfl) (call_prods hc (SPa.cons (SP.var rfl) (SPa.cons (SP.var rfl) SPa.nil))) O2.xorN) O2.andN) O2.orN) ?_)
  have snoc : ∀ (K : PySem.W.Frag) (i' : Nat) (pr : List Nat), Asc i' pr → i' ≤ 6 → ∀ l : Nat, O2 (uAdd K) (prP pr) (pTup [pInt (l : Int)]) (prP (pr ++ [l])) := fun K i' pr h hi l => (O2.addT (Ps := pr.map fun l : Nat => pInt (l : Int)) (Qs := [pInt (l : Int)]) (by
    have := h.length_le
    rw [List.length_map, List.length_singleton]
    omega)).to (by unfold prP; rw [List.map_append]; rfl)
  have hi6 : i ≤ 6 := by omega
  refine SS.seq (SS.asgN (Ps := A.map fun pr => prP (pr ++ [2 * i + 1])) (SN.lc0 (is := [12]) (e := prP) (xs := A) (SI.o1 (SI.list (SP.var rfl))) (by decide) (fun pr hp => ⟨_, ST.name, SP.op (SP.var rfl) (SP.tup (SPa.cons (SP.op (SP.op SP.int (SP.var rfl) (O2.mulN (.inl (by decide)))) SP.int O2.addN) SPa.nil)) (snoc _ i pr (aA pr hp) hi6 _)⟩) (by omega)) fun p => ?_)
  refine SS.seq (SS.drop (SE.extendP (k := 0) (Ps := A.map fun pr => prP (pr ++ [2 * i + 1])) (Qs := B'.map fun pr => prP (pr ++ [2 * i])) rfl rfl (SP.lc0 (is := [12]) (e := prP) (xs := B') (SI.o1 (SI.list (SP.var rfl))) (by decide) (fun pr hp => ⟨_, ST.name, SP.op (SP.var rfl) (SP.tup (SPa.cons (SP.op SP.int (SP.var rfl) (O2.mulN (.inl (by decide)))) SPa.nil)) (snoc _ i pr (aB pr hp) hi6 _)⟩) (by omega)) (by rw [List.length_map, List.length_map]; omega) ?_))
  refine SS.seq (SS.drop (SE.extendP (k := 0) (Ps := (A.map fun pr => prP (pr ++ [2 * i + 1])) ++ B'.map fun pr => prP (pr ++ [2 * i])) (Qs := (cover c n (half L i 0 c &&& (full c ^^^ prodT A c) ||| half L i 1 c &&& (full c ^^^ prodT B' c)) (half U i 0 c &&& half U i 1 c)).map prP) rfl rfl
    (call_cov hc hnc hN PD'.l PD'.u PD'.s PD'.dl PD'.du (SPa.cons (SP.var rfl) (SPa.cons (SP.op (SP.op (SP.var rfl) SP.int (i0 _ _)) (SP.op (SP.var rfl) SP.int (i1 _ _)) O2.andN) (SPa.cons (SP.var rfl) SPa.nil)))) (by
      have := cov_small (L := half L i 0 c &&& (full c ^^^ prodT A c) ||| half L i 1 c &&& (full c ^^^ prodT B' c)) (U := half U i 0 c &&& half U i 1 c) hc hnc
      rw [List.length_append, List.length_map, List.length_map, List.length_map]
      omega) ?_))
  refine SS.retL (k := 0) rfl rfl fun v F h => ?_
  show (pLst ((cover c (n + 1) L U).map prP)).p v F
  rw [es, List.map_append, List.map_append, List.map_map, List.map_map]
  exact h
theorem ok_covering {P : Program} {w : World} {K : PySem.W.Frag} {mg : Str → Option Value} {base : Heap} {f : Addr} {fd : FuncData} (T : Txt K mg) (F : FnP K "covering" "covering" s_covering f fd) (hg : mg "covering" = some (.ref f)) (c_full_table : C8.Cal P w K mg base 1 "full_table" sp_full_table []) (c_half_table : C8.Cal P w K mg base 2 "half_table" sp_half_table []) (c_last_leaf : C8.Cal P w K mg base 4 "last_leaf" sp_last_leaf []) (c_products_table : C8.Cal P w K mg base 2 "products_table" sp_products_table [])  : ∀ n : Nat, C8.Cal P w K mg base (4 + n + 1) "covering" (sp_covering n) [] := by
  intro n
  induction n using Nat.strongRecOn with
  | ind n ih =>
    refine ⟨f, fd, ["lower", "upper", "count"], [], F.ok sc_covering (fun vs H Q E h => len_covering h) (fun cdv A outer s H vs Q E hr h => ?_), hg, F.kp, F.bindsN fun _ _ _ _ _ _ us hl => match us, hl with | [_, _, _], _ => rfl, .nil⟩
    cases n with
    | zero => exact ⟨t_covering K spBot, PSs.nox (have nd := sc_covering.nd; have cr : C8.Cal P w K mg base 0 "covering" spBot [] := calBot F hg (F.bindsN (ps := ["lower", "upper", "count"]) fun _ _ _ _ _ _ us hl => match us, hl with | [_, _, _], _ => rfl); pss_cons (ps_set (i := 3) nd rfl (by first | exact Or.inl rfl | exact Or.inr rfl) (C8.pe_c c_full_table hr (by decide) rfl (pa_cons (pv 2) (pa_nil)))) (pss_cons (ps_if (pt_cmpR (op_eqU hr.units) (pv 0) (pe_int) (nomark _)) (pss_one (ps_ret (pe_lst (pa_nil)))) (pss_nil)) (pss_cons (ps_if (pt_cmpR (op_eqU hr.units) (pv 1) (pv 3) (nomark _)) (pss_one (ps_ret (pe_lst (pa_cons (pe_tup (pa_nil)) (pa_nil))))) (pss_nil)) (pss_cons (ps_set (i := 4) nd rfl (by first | exact Or.inl rfl | exact Or.inr rfl) (C8.pe_c c_last_leaf hr (by decide) rfl (pa_cons (pv 0) (pa_cons (pv 1) (pa_cons (pv 2) (pa_nil)))))) (pss_cons (ps_setLc (i := 5) (own := [("value", 11)]) rfl nd rfl rfl (sw_true rfl rfl rfl (by decide +kernel)) (pi_tup (pe_tup (pa_cons (pe_int) (pa_cons (pe_int) (pa_nil))))) (blkOk_by (N := ["lower", "upper", "count", "full", "leaf", "low", "high", "without", "within", "left", "products", "value", "product"]) (sc := (defScope s_covering)) (by decide +kernel)) (fun _ _ _ _ _ => pg_name (i := 11) nd rfl (by first | exact Or.inl rfl | exact Or.inr rfl)) (fun _ _ _ _ _ => pts_nil) (fun _ _ _ _ _ => C8.pe_c c_half_table hr (by decide) rfl (pa_cons (pv 0) (pa_cons (pv 4) (pa_cons (pv 11) (pa_cons (pv 2) (pa_nil))))))) (pss_cons (ps_setLc (i := 6) (own := [("value", 11)]) rfl nd rfl rfl (sw_true rfl rfl rfl (by decide +kernel)) (pi_tup (pe_tup (pa_cons (pe_int) (pa_cons (pe_int) (pa_nil))))) (blkOk_by (N := ["lower", "upper", "count", "full", "leaf", "low", "high", "without", "within", "left", "products", "value", "product"]) (sc := (defScope s_covering)) (by decide +kernel)) (fun _ _ _ _ _ => pg_name (i := 11) nd rfl (by first | exact Or.inl rfl | exact Or.inr rfl)) (fun _ _ _ _ _ => pts_nil) (fun _ _ _ _ _ => C8.pe_c c_half_table hr (by decide) rfl (pa_cons (pv 1) (pa_cons (pv 4) (pa_cons (pv 11) (pa_cons (pv 2) (pa_nil))))))) (pss_cons (ps_set (i := 7) nd rfl (by first | exact Or.inl rfl | exact Or.inr rfl) (C8.pe_c cr hr (by omega) rfl (pa_cons (pe_op op_and (pe_ix ix_seq (pv 5) (pe_int) (fun _ _ => rfl)) (pe_op op_xor (pv 3) (pe_ix ix_seq (pv 6) (pe_int) (fun _ _ => rfl)))) (pa_cons (pe_ix ix_seq (pv 6) (pe_int) (fun _ _ => rfl)) (pa_cons (pv 2) (pa_nil)))))) (pss_cons (ps_set (i := 8) nd rfl (by first | exact Or.inl rfl | exact Or.inr rfl) (C8.pe_c cr hr (by omega) rfl (pa_cons (pe_op op_and (pe_ix ix_seq (pv 5) (pe_int) (fun _ _ => rfl)) (pe_op op_xor (pv 3) (pe_ix ix_seq (pv 6) (pe_int) (fun _ _ => rfl)))) (pa_cons (pe_ix ix_seq (pv 6) (pe_int) (fun _ _ => rfl)) (pa_cons (pv 2) (pa_nil)))))) (pss_cons (ps_set (i := 9) nd rfl (by first | exact Or.inl rfl | exact Or.inr rfl) (pe_op op_and (pe_ix ix_seq (pv 5) (pe_int) (fun _ _ => rfl)) (pe_op op_xor (pv 3) (C8.pe_c c_products_table hr (by decide) rfl (pa_cons (pv 7) (pa_cons (pv 2) (pa_nil))))))) (pss_cons (ps_set (i := 9) nd rfl (by first | exact Or.inl rfl | exact Or.inr rfl) (pe_op op_or (pv 9) (pe_op op_and (pe_ix ix_seq (pv 5) (pe_int) (fun _ _ => rfl)) (pe_op op_xor (pv 3) (C8.pe_c c_products_table hr (by decide) rfl (pa_cons (pv 8) (pa_cons (pv 2) (pa_nil)))))))) (pss_cons (ps_setLc (i := 10) (own := [("product", 12)]) rfl nd rfl rfl (sw_true rfl rfl rfl (by decide +kernel)) (PI.or (pi_list (pv 7)) (pi_tup (pv 7))) (blkOk_by (N := ["lower", "upper", "count", "full", "leaf", "low", "high", "without", "within", "left", "products", "value", "product"]) (sc := (defScope s_covering)) (by decide +kernel)) (fun _ _ _ _ _ => pg_name (i := 12) nd rfl (by first | exact Or.inl rfl | exact Or.inr rfl)) (fun _ _ _ _ _ => pts_nil) (fun _ _ _ _ _ => pe_op op_addU (pv 12) (pe_tup (pa_cons (pe_op op_addU (pe_op op_mulU (pe_int) (pv 4)) (pe_int)) (pa_nil))))) (pss_cons (ps_expr (pe_bm PySem.F.plainAttrs_list PySem.F.slot_list_extend PySem.F.type_list_extend mt_extend (pv 10) (pa_cons (pe_lc (own := [("product", 12)]) rfl nd (PI.or (pi_list (pv 8)) (pi_tup (pv 8))) (blkOk_by (N := ["lower", "upper", "count", "full", "leaf", "low", "high", "without", "within", "left", "products", "value", "product"]) (sc := (defScope s_covering)) (by decide +kernel)) (fun _ _ _ _ _ => pg_name (i := 12) nd rfl (by first | exact Or.inl rfl | exact Or.inr rfl)) (fun _ _ _ _ _ => pts_nil) (fun _ _ _ _ _ => pe_op op_addU (pv 12) (pe_tup (pa_cons (pe_op op_mulU (pe_int) (pv 4)) (pa_nil))))) (pa_nil)))) (pss_cons (ps_expr (pe_bm PySem.F.plainAttrs_list PySem.F.slot_list_extend PySem.F.type_list_extend mt_extend (pv 10) (pa_cons (C8.pe_c cr hr (by omega) rfl (pa_cons (pv 9) (pa_cons (pe_op op_and (pe_ix ix_seq (pv 6) (pe_int) (fun _ _ => rfl)) (pe_ix ix_seq (pv 6) (pe_int) (fun _ _ => rfl))) (pa_cons (pv 2) (pa_nil))))) (pa_nil)))) (pss_one (ps_ret (pv 10)))))))))))))))), body_covering_0 h⟩
    | succ n =>
      have cr := ih n (Nat.lt_succ_self n)
      exact ⟨t_covering K (sp_covering n), PSs.nox (have nd := sc_covering.nd; pss_cons (ps_set (i := 3) nd rfl (by first | exact Or.inl rfl | exact Or.inr rfl) (C8.pe_c c_full_table hr (by omega) rfl (pa_cons (pv 2) (pa_nil)))) (pss_cons (ps_if (pt_cmpR (op_eqU hr.units) (pv 0) (pe_int) (nomark _)) (pss_one (ps_ret (pe_lst (pa_nil)))) (pss_nil)) (pss_cons (ps_if (pt_cmpR (op_eqU hr.units) (pv 1) (pv 3) (nomark _)) (pss_one (ps_ret (pe_lst (pa_cons (pe_tup (pa_nil)) (pa_nil))))) (pss_nil)) (pss_cons (ps_set (i := 4) nd rfl (by first | exact Or.inl rfl | exact Or.inr rfl) (C8.pe_c c_last_leaf hr (by omega) rfl (pa_cons (pv 0) (pa_cons (pv 1) (pa_cons (pv 2) (pa_nil)))))) (pss_cons (ps_setLc (i := 5) (own := [("value", 11)]) rfl nd rfl rfl (sw_true rfl rfl rfl (by decide +kernel)) (pi_tup (pe_tup (pa_cons (pe_int) (pa_cons (pe_int) (pa_nil))))) (blkOk_by (N := ["lower", "upper", "count", "full", "leaf", "low", "high", "without", "within", "left", "products", "value", "product"]) (sc := (defScope s_covering)) (by decide +kernel)) (fun _ _ _ _ _ => pg_name (i := 11) nd rfl (by first | exact Or.inl rfl | exact Or.inr rfl)) (fun _ _ _ _ _ => pts_nil) (fun _ _ _ _ _ => C8.pe_c c_half_table hr (by omega) rfl (pa_cons (pv 0) (pa_cons (pv 4) (pa_cons (pv 11) (pa_cons (pv 2) (pa_nil))))))) (pss_cons (ps_setLc (i := 6) (own := [("value", 11)]) rfl nd rfl rfl (sw_true rfl rfl rfl (by decide +kernel)) (pi_tup (pe_tup (pa_cons (pe_int) (pa_cons (pe_int) (pa_nil))))) (blkOk_by (N := ["lower", "upper", "count", "full", "leaf", "low", "high", "without", "within", "left", "products", "value", "product"]) (sc := (defScope s_covering)) (by decide +kernel)) (fun _ _ _ _ _ => pg_name (i := 11) nd rfl (by first | exact Or.inl rfl | exact Or.inr rfl)) (fun _ _ _ _ _ => pts_nil) (fun _ _ _ _ _ => C8.pe_c c_half_table hr (by omega) rfl (pa_cons (pv 1) (pa_cons (pv 4) (pa_cons (pv 11) (pa_cons (pv 2) (pa_nil))))))) (pss_cons (ps_set (i := 7) nd rfl (by first | exact Or.inl rfl | exact Or.inr rfl) (C8.pe_c cr hr (by omega) rfl (pa_cons (pe_op op_and (pe_ix ix_seq (pv 5) (pe_int) (fun _ _ => rfl)) (pe_op op_xor (pv 3) (pe_ix ix_seq (pv 6) (pe_int) (fun _ _ => rfl)))) (pa_cons (pe_ix ix_seq (pv 6) (pe_int) (fun _ _ => rfl)) (pa_cons (pv 2) (pa_nil)))))) (pss_cons (ps_set (i := 8) nd rfl (by first | exact Or.inl rfl | exact Or.inr rfl) (C8.pe_c cr hr (by omega) rfl (pa_cons (pe_op op_and (pe_ix ix_seq (pv 5) (pe_int) (fun _ _ => rfl)) (pe_op op_xor (pv 3) (pe_ix ix_seq (pv 6) (pe_int) (fun _ _ => rfl)))) (pa_cons (pe_ix ix_seq (pv 6) (pe_int) (fun _ _ => rfl)) (pa_cons (pv 2) (pa_nil)))))) (pss_cons (ps_set (i := 9) nd rfl (by first | exact Or.inl rfl | exact Or.inr rfl) (pe_op op_and (pe_ix ix_seq (pv 5) (pe_int) (fun _ _ => rfl)) (pe_op op_xor (pv 3) (C8.pe_c c_products_table hr (by omega) rfl (pa_cons (pv 7) (pa_cons (pv 2) (pa_nil))))))) (pss_cons (ps_set (i := 9) nd rfl (by first | exact Or.inl rfl | exact Or.inr rfl) (pe_op op_or (pv 9) (pe_op op_and (pe_ix ix_seq (pv 5) (pe_int) (fun _ _ => rfl)) (pe_op op_xor (pv 3) (C8.pe_c c_products_table hr (by omega) rfl (pa_cons (pv 8) (pa_cons (pv 2) (pa_nil)))))))) (pss_cons (ps_setLc (i := 10) (own := [("product", 12)]) rfl nd rfl rfl (sw_true rfl rfl rfl (by decide +kernel)) (PI.or (pi_list (pv 7)) (pi_tup (pv 7))) (blkOk_by (N := ["lower", "upper", "count", "full", "leaf", "low", "high", "without", "within", "left", "products", "value", "product"]) (sc := (defScope s_covering)) (by decide +kernel)) (fun _ _ _ _ _ => pg_name (i := 12) nd rfl (by first | exact Or.inl rfl | exact Or.inr rfl)) (fun _ _ _ _ _ => pts_nil) (fun _ _ _ _ _ => pe_op op_addU (pv 12) (pe_tup (pa_cons (pe_op op_addU (pe_op op_mulU (pe_int) (pv 4)) (pe_int)) (pa_nil))))) (pss_cons (ps_expr (pe_bm PySem.F.plainAttrs_list PySem.F.slot_list_extend PySem.F.type_list_extend mt_extend (pv 10) (pa_cons (pe_lc (own := [("product", 12)]) rfl nd (PI.or (pi_list (pv 8)) (pi_tup (pv 8))) (blkOk_by (N := ["lower", "upper", "count", "full", "leaf", "low", "high", "without", "within", "left", "products", "value", "product"]) (sc := (defScope s_covering)) (by decide +kernel)) (fun _ _ _ _ _ => pg_name (i := 12) nd rfl (by first | exact Or.inl rfl | exact Or.inr rfl)) (fun _ _ _ _ _ => pts_nil) (fun _ _ _ _ _ => pe_op op_addU (pv 12) (pe_tup (pa_cons (pe_op op_mulU (pe_int) (pv 4)) (pa_nil))))) (pa_nil)))) (pss_cons (ps_expr (pe_bm PySem.F.plainAttrs_list PySem.F.slot_list_extend PySem.F.type_list_extend mt_extend (pv 10) (pa_cons (C8.pe_c cr hr (by omega) rfl (pa_cons (pv 9) (pa_cons (pe_op op_and (pe_ix ix_seq (pv 6) (pe_int) (fun _ _ => rfl)) (pe_ix ix_seq (pv 6) (pe_int) (fun _ _ => rfl))) (pa_cons (pv 2) (pa_nil))))) (pa_nil)))) (pss_one (ps_ret (pv 10)))))))))))))))), body_covering_s h⟩
end G

set_option Elab.async false
set_option linter.all false
set_option maxRecDepth 100000
set_option maxHeartbeats 400000
set_option autoImplicit false
namespace G
open PySem PySem.Spec PyProof.Rows L2 PD
open M53 (full leaf leafF half dep lastLeaf litT prT prodT cover DepLt Sub Asc)
local macro_rules | `(tactic| walk_at "lit") => `(tactic| (simp only [Nat.reduceLT, Nat.reducePow, Nat.reduceLeDiff]; done))
local macro_rules | `(tactic| walk_at "sp") => `(tactic| repeat' (first
  | with_reducible exact SP.int | with_reducible exact SP.bl | with_reducible exact SP.non | with_reducible exact SP.str
  | ((with_reducible apply SP.var); exact rfl)
  | with_reducible apply SP.tup | with_reducible apply SP.lst | with_reducible apply SP.op | with_reducible apply SP.cb | with_reducible apply SP.un | with_reducible exact SPa.nil | with_reducible apply SPa.cons
  | with_reducible exact O2.addN
  | with_reducible exact O2.mulN (.inr (by walk_at "lit"))
  | with_reducible exact O2.mulN (.inl (by walk_at "lit"))
  | with_reducible exact O2.modN (by walk_at "lit")
  | with_reducible exact O2.divN (by walk_at "lit") (by walk_at "lit")
  | with_reducible exact O2.powN (by walk_at "lit") (by walk_at "lit")
  | with_reducible exact O2.eqN
  | with_reducible exact O2.neN
  | with_reducible exact O2.ltN
  | with_reducible exact O2.leN
  | with_reducible exact O2.gtN
  | with_reducible exact O2.geN
  | with_reducible exact O2.andN
  | with_reducible exact O2.orN
  | with_reducible exact O2.xorN
  | with_reducible exact O2.shrN
  | with_reducible exact O2.addI
  | with_reducible exact O2.subI
  | with_reducible exact O2.eqI
  | with_reducible exact O2.neI
  | with_reducible exact O2.ltI
  | with_reducible exact O2.leI
  | with_reducible exact O2.gtI
  | with_reducible exact O2.geI
  | with_reducible exact O2.andI
  | with_reducible exact O2.orI
  | with_reducible exact O2.xorI
  | with_reducible exact On.lenL
  | with_reducible exact On.lenT
  | with_reducible exact On.lenQ
  | with_reducible exact On.int
  | with_reducible exact On.max2
  | with_reducible exact On.min2
  | with_reducible apply SPt.test | with_reducible apply SPt.val | with_reducible apply SPt.not
  | exact O2.addN | exact O2.mulN (.inr (by walk_at "lit")) | exact O2.mulN (.inl (by walk_at "lit")) | exact O2.modN (by walk_at "lit") | exact O2.divN (by walk_at "lit") (by walk_at "lit") | exact O2.powN (by walk_at "lit") (by walk_at "lit") | exact O2.eqN | exact O2.neN | exact O2.ltN | exact O2.leN | exact O2.gtN | exact O2.geN | exact O2.andN | exact O2.orN | exact O2.xorN | exact O2.shrN | exact O2.addI | exact O2.subI | exact O2.eqI | exact O2.neI | exact O2.ltI | exact O2.leI | exact O2.gtI | exact O2.geI | exact O2.andI | exact O2.orI | exact O2.xorI | exact On.lenL | exact On.lenT | exact On.lenQ | exact On.int | exact On.max2 | exact On.min2))
local macro_rules | `(tactic| walk_at "fits") => `(tactic| repeat' (first | exact True.intro | exact (fun _ _ h => h) | exact (fun _ _ h => ⟨_, trivial, h⟩) | refine And.intro ?_ ?_))
abbrev s_sum_of_products : Stmt := top 9
theorem sc_sum_of_products : FnScope ["table", "count"] ["table", "count"] (defScope s_sum_of_products) := ⟨rfl, rfl, rfl, by decide +kernel, rfl, by decide +kernel, by decide +kernel⟩
def t_sum_of_products (K : PySem.W.Frag) : TS := tRet (tCB (rSrt K) (tCons (tCall (sp_covering 6) [] E0 (tCons (tVar 0) (tCons (tVar 0) (tCons (tVar 1) (tNil))))) (tNil)))
noncomputable def sop (t c : Nat) : List (List Nat) := (cover c c t t).mergeSort (PySem.W.dataLe false fun pr : List Nat => .tuple ((pr.map fun l : Nat => (l : Int)).map .int))
theorem prP_eq : prP = fun pr : List Nat => tupI (pr.map fun l : Nat => (l : Int)) := by funext pr; unfold prP tupI; rw [List.map_map]; rfl
def sp_sum_of_products : Sp := spP (fun x : Nat × Nat => [pInt (x.1 : Int), pInt (x.2 : Int)]) (fun x => x.2 ≤ 6 ∧ x.1 < 2 ^ 2 ^ x.2) fun x => pLst ((sop x.1 x.2).map prP)
theorem len_sum_of_products {vs : List V} {H : Hp} {Q : VK} {E : XK} (h : sp_sum_of_products vs H Q E) : vs.length = 2 := by
  obtain ⟨x, F, _, _, ha, _⟩ := h
  exact ha.length.trans rfl
theorem sop_good {t c : Nat} (ht : t < 2 ^ 2 ^ c) : M53.Good c t t (cover c c t t) := M53.cover_good c t t ht ht (fun _ _ h => h) DepLt.top DepLt.top (Nat.le_refl _)
theorem rows_ok {c L U : Nat} {R : List (List Nat)} (h : M53.Good c L U R) : (∀ pr ∈ R, pr.map (fun l : Nat => (l : Int)) ≠ []) ∨ R.length ≤ 1 := by
  by_cases e : [] ∈ R
  · refine .inr ?_
    match R, h, e with
    | [a], _, _ => exact Nat.le_refl _
    | a :: b :: r, h, e =>
      exfalso
      have nd := h.nd
      rw [List.nodup_cons] at nd
      have : ∃ q ∈ a :: b :: r, q ≠ [] := by
        by_cases ea : a = []
        · refine ⟨b, by simp, fun eb => nd.1 (by rw [ea, eb]; simp)⟩
        · exact ⟨a, by simp, ea⟩
      obtain ⟨q, hq, hne⟩ := this
      obtain ⟨p, _, _, _, h4⟩ := h.own q hq
      have := h4 [] e (fun z => hne z.symm)
      cases this
  · refine .inl fun pr hp he => e ?_
    have : pr = [] := List.map_eq_nil_iff.mp he
    rw [← this]
    exact hp
theorem body_sum_of_products {K : PySem.W.Frag} {vs : List V} {H : Hp} {Q : VK} {E : XK} (h : sp_sum_of_products vs H Q E) : t_sum_of_products K { nx := fun _ H' => Q .non H', rt := Q } (L2.start ["table", "count"] vs) H := by
  refine pure_body (fun _ => Nat.le_of_ble_eq_true rfl) (fun x B hx => ?_) h
  obtain ⟨t, c⟩ := x
  obtain ⟨hc, ht⟩ : c ≤ 6 ∧ t < 2 ^ 2 ^ c := hx
  show SS B _ [some (pInt (t : Int)), some (pInt (c : Int))] [] _
  refine SS.retP (P := pLst ((sop t c).map prP)) (SP.cb (SPa.cons (call_cov hc (Nat.le_refl _) hc ht ht (fun _ _ h => h) DepLt.top DepLt.top (by walk_at "sp")) SPa.nil) ?_) fun v F h => h
  rw [prP_eq]
  exact On.sortRows _ (rows_ok (sop_good ht))
theorem ok_sum_of_products {P : Program} {w : World} {K : PySem.W.Frag} {mg : Str → Option Value} {base : Heap} {f : Addr} {fd : FuncData} (T : Txt K mg) (F : FnP K "sum_of_products" "sum_of_products" s_sum_of_products f fd) (hg : mg "sum_of_products" = some (.ref f)) (c_covering : C8.Cal P w K mg base 11 "covering" (sp_covering 6) [])  : C8.Cal P w K mg base 12 "sum_of_products" sp_sum_of_products [] := by
  refine ⟨f, fd, ["table", "count"], [], F.ok sc_sum_of_products (fun vs H Q E h => len_sum_of_products h) (fun cdv A outer s H vs Q E hr h => ⟨t_sum_of_products K, PSs.nox ?_, body_sum_of_products h⟩), hg, F.kp, F.bindsN fun _ _ _ _ _ _ us hl => match us, hl with | [_, _], _ => rfl, .nil⟩
  have nd := sc_sum_of_products.nd
  exact pss_one (ps_ret (pe_callB (cr_srt hr.units) rfl T.f_sorted (by decide +kernel) (pa_cons (C8.pe_c c_covering hr (by decide) rfl (pa_cons (pv 0) (pa_cons (pv 0) (pa_cons (pv 1) (pa_nil))))) (pa_nil))))
theorem call_sop {ρ : Rho} {tl : TA} {t c : Nat} (hc : c ≤ 6) (ht : t < 2 ^ 2 ^ c) (h : SPa tl ρ [pInt (t : Int), pInt (c : Int)]) : SP (tCall sp_sum_of_products [] E0 tl) ρ (pLst ((sop t c).map prP)) := SP.call (t, c) h ⟨hc, ht⟩
abbrev s__law_cell : Stmt := top 11
theorem sc__law_cell : FnScope ["_law_script", "_law_k", "_law_cell_here"] ["_law_script", "_law_k"] (defScope s__law_cell) := ⟨rfl, rfl, rfl, by decide +kernel, rfl, by decide +kernel, by decide +kernel⟩
def t__law_cell (K : PySem.W.Frag) : TS := tSeq (tAsg (tC (.int ((0 : Nat) : Int))) (gName 2)) (tSeq (tIfS (tTest (tOp (rI0 fun i j => .bl (decide (j < i))) (tCB (rLen K) (tCons (tVar 0) (tNil))) (tC (.int ((0 : Nat) : Int))))) (tAsg (tCB uInt (tCons (tOp (rIx K) (tVar 0) (tOp (rI (fun _ j => 0 < j) fun i j => .int (i % j)) (tCB uInt (tCons (tVar 1) (tNil))) (tCB (rLen K) (tCons (tVar 0) (tNil))))) (tNil))) (gName 2)) (tNext)) (tSeq (tIfS (tTest (tOp (uLt K) (tVar 2) (tC (.int ((0 : Nat) : Int))))) (tAsg (tOp (rI0 fun i j => .int (i - j)) (tC (.int ((1 : Nat) : Int))) (tOp uMul (tC (.int ((2 : Nat) : Int))) (tVar 2))) (gName 2)) (tNext)) (tSeq (tIfS (tOr (tTest (tOp (rI0 fun i j => .bl (decide (j ≤ i))) (tVar 1) (tCB (rLen K) (tCons (tVar 0) (tNil))))) (tTest (tOp (uLt K) (tVar 2) (tOp (rI CPow fun i j => .int (i ^ j.toNat)) (tC (.int ((10 : Nat) : Int))) (tC (.int ((9 : Nat) : Int))))))) (tSeq (tAsg (tOp (rI (fun _ j => 0 < j) fun i j => .int (i % j)) (tCB uInt (tCons (tOp uMul (tOp (uAdd K) (tOp (uAdd K) (tVar 2) (tOp uMul (tC (.int ((911 : Nat) : Int))) (tVar 1))) (tC (.int ((3 : Nat) : Int)))) (tC (.int ((6364136223846793005 : Nat) : Int)))) (tNil))) (tC (.int ((2305843009213693951 : Nat) : Int)))) (gName 2)) (tAsg (tOp (rI (fun _ j => 0 < j) fun i j => .int (i % j)) (tCB uInt (tCons (tOp uMul (tOp (uAdd K) (tOp (uAdd K) (tOp (rI CDiv fun i j => .int (i / j)) (tVar 2) (tC (.int ((64 : Nat) : Int)))) (tOp uMul (tC (.int ((31 : Nat) : Int))) (tVar 1))) (tC (.int ((7 : Nat) : Int)))) (tC (.int ((3202034522624059733 : Nat) : Int)))) (tNil))) (tC (.int ((18446744073709551557 : Nat) : Int)))) (gName 2))) (tNext)) (tRet (tVar 2)))))
/-- the number that a script's law draws -/
def cell0 (ns : List Int) (k : Nat) : Int := if 0 < ns.length then ns.getD (k % ns.length) 0 else 0
def cell1 (i : Int) : Nat := if i < 0 then (1 - 2 * i).toNat else i.toNat
def cell2 (n k : Nat) : Nat := (n + 911 * k + 3) * 6364136223846793005 % 2305843009213693951
def cell3 (n k : Nat) : Nat := (n / 64 + 31 * k + 7) * 3202034522624059733 % 18446744073709551557
def cell (ns : List Int) (k : Nat) : Nat := if ns.length ≤ k ∨ cell1 (cell0 ns k) < 10 ^ 9 then cell3 (cell2 (cell1 (cell0 ns k)) k) k else cell1 (cell0 ns k)
def sp__law_cell (K : PySem.W.Frag) : Sp := spP (fun x : List Int × Nat => [pSeq K (x.1.map V.int), pInt (x.2 : Int)]) (fun x => x.2 ≤ 100000) fun x => pInt (cell x.1 x.2 : Int)
theorem len__law_cell {K : PySem.W.Frag} {vs : List V} {H : Hp} {Q : VK} {E : XK} (h : sp__law_cell K vs H Q E) : vs.length = 2 := by
  obtain ⟨x, F, _, _, ha, _⟩ := h
  exact ha.length.trans rfl
theorem body__law_cell {K : PySem.W.Frag} {vs : List V} {H : Hp} {Q : VK} {E : XK} (h : sp__law_cell K vs H Q E) : t__law_cell K { nx := fun _ H' => Q .non H', rt := Q } (L2.start ["_law_script", "_law_k", "_law_cell_here"] vs) H := by
  refine pure_body (fun _ => Nat.le_of_ble_eq_true rfl) (fun x B hx => ?_) h
  obtain ⟨ns, k⟩ := x
  have hk : k ≤ 100000 := hx
  show SS B _ [some (pSeq K (ns.map V.int)), some (pInt (k : Int)), none] [] _
  refine SS.seq (SS.asg SP.int ?_)
  refine SS.join [some (pSeq K (ns.map V.int)), some (pInt (k : Int)), some (pInt (cell0 ns k))] [] (SS.ite (b := decide (0 < (ns.map V.int).length)) (by walk_at "sp") (fun h => ?_) (fun h => SS.nil ⟨?_, rfl⟩)) ?_
  · have h0 : 0 < (ns.map V.int).length := of_decide_eq_true h
    have h1 : 0 < ns.length := by rw [List.length_map] at h0; exact h0
    have hm : k % (ns.map V.int).length < ns.length := by rw [List.length_map]; exact Nat.mod_lt _ h1
    refine SS.asg (P := pInt (cell0 ns k)) (SP.cb (SPa.cons (SP.op (SP.var rfl) (SP.op (by walk_at "sp") (by walk_at "sp") (O2.modN h0)) (O2.ixQ (v := .int (cell0 ns k)) (atI_pos rfl ?_) fun F => rfl)) SPa.nil) On.int) ⟨by walk_at "fits", rfl⟩
    unfold cell0
    rw [if_pos h1, List.getElem?_map, List.length_map, List.getD_eq_getElem?_getD]
    rw [List.length_map] at hm
    rw [List.getElem?_eq_getElem hm]
    rfl
  · have h0 : ¬ 0 < (ns.map V.int).length := of_decide_eq_false h
    rw [List.length_map] at h0
    have : cell0 ns k = 0 := by unfold cell0; rw [if_neg h0]
    rw [this]
    walk_at "fits"
  refine SS.join [some (pSeq K (ns.map V.int)), some (pInt (k : Int)), some (pInt (cell1 (cell0 ns k) : Int))] [] (SS.ite (b := decide (cell0 ns k < 0)) (by walk_at "sp") (fun h => ?_) (fun h => SS.nil ⟨?_, rfl⟩)) ?_
  · have h0 := of_decide_eq_true h
    refine SS.asg (P := pInt (cell1 (cell0 ns k) : Int)) (SP.to (SP.op SP.int (SP.op SP.int (SP.var rfl) (O2.mulI (.inl (by decide)))) O2.subI) ?_) ⟨by walk_at "fits", rfl⟩
    unfold cell1
    rw [if_pos h0, Int.toNat_of_nonneg (by omega)]
    rfl
  · have h0 := of_decide_eq_false h
    have : ((cell1 (cell0 ns k) : Nat) : Int) = cell0 ns k := by unfold cell1; rw [if_neg h0, Int.toNat_of_nonneg (by omega)]
    rw [this]
    walk_at "fits"
  generalize hn : cell1 (cell0 ns k) = n
  refine SS.join [some (pSeq K (ns.map V.int)), some (pInt (k : Int)), some (pInt (cell ns k : Int))] [] (SS.ite (b := decide ((ns.map V.int).length ≤ k) || decide (n < 10 ^ 9)) (SPt.or (by walk_at "sp") fun _ => by walk_at "sp") (fun h => ?_) (fun h => SS.nil ⟨?_, rfl⟩)) (SS.retP (SP.var rfl) fun v F h => h)
  · have h0 : ns.length ≤ k ∨ cell1 (cell0 ns k) < 10 ^ 9 := by
      rw [hn]
      rw [Bool.or_eq_true, List.length_map] at h
      exact h.imp of_decide_eq_true of_decide_eq_true
    refine SS.seq (SS.asg (P := pInt (cell2 n k : Int)) (by walk_at "sp") ?_)
    refine SS.asg (P := pInt (cell3 (cell2 n k) k : Int)) (by walk_at "sp") ⟨?_, rfl⟩
    have : cell ns k = cell3 (cell2 n k) k := by unfold cell; rw [if_pos h0, hn]
    rw [this]
    walk_at "fits"
  · have h0 : ¬ (ns.length ≤ k ∨ cell1 (cell0 ns k) < 10 ^ 9) := by
      rw [hn]
      rw [Bool.or_eq_false_iff, List.length_map] at h
      rintro (q | q)
      · exact of_decide_eq_false h.1 q
      · exact of_decide_eq_false h.2 q
    have : cell ns k = n := by unfold cell; rw [if_neg h0, hn]
    rw [this]
    walk_at "fits"
theorem ok__law_cell {P : Program} {w : World} {K : PySem.W.Frag} {mg : Str → Option Value} {base : Heap} {f : Addr} {fd : FuncData} (T : Txt K mg) (F : FnP K "_law_cell" "_law_cell" s__law_cell f fd) (hg : mg "_law_cell" = some (.ref f))   : C8.Cal P w K mg base 1 "_law_cell" (sp__law_cell K) [] := by
  refine ⟨f, fd, ["_law_script", "_law_k"], [], F.ok sc__law_cell (fun vs H Q E h => len__law_cell h) (fun cdv A outer s H vs Q E hr h => ⟨t__law_cell K, PSs.nox ?_, body__law_cell h⟩), hg, F.kp, F.bindsN fun _ _ _ _ _ _ us hl => match us, hl with | [_, _], _ => rfl, .nil⟩
  have nd := sc__law_cell.nd
  exact pss_cons (ps_set (i := 2) nd rfl (by first | exact Or.inl rfl | exact Or.inr rfl) (pe_int)) (pss_cons (ps_if (pt_cmpR op_gt (pe_callB call_len rfl T.f_len PySem.boot_len (pa_cons (pv 0) (pa_nil))) (pe_int) (nomark _)) (pss_one (ps_set (i := 2) nd rfl (by first | exact Or.inl rfl | exact Or.inr rfl) (pe_callTy call_int1 rfl T.f_int (by decide +kernel) (pa_cons (pe_ix ix_seq (pv 0) (pe_op op_mod (pe_callTy call_int1 rfl T.f_int (by decide +kernel) (pa_cons (pv 1) (pa_nil))) (pe_callB call_len rfl T.f_len PySem.boot_len (pa_cons (pv 0) (pa_nil)))) (fun _ _ => rfl)) (pa_nil))))) (pss_nil)) (pss_cons (ps_if (pt_cmpR (op_ltU hr.units) (pv 2) (pe_int) (nomark _)) (pss_one (ps_set (i := 2) nd rfl (by first | exact Or.inl rfl | exact Or.inr rfl) (pe_op op_sub (pe_int) (pe_op op_mulU (pe_int) (pv 2))))) (pss_nil)) (pss_cons (ps_if (PW.pt (pw_or (pt_cmpR op_ge (pv 1) (pe_callB call_len rfl T.f_len PySem.boot_len (pa_cons (pv 0) (pa_nil))) (nomark _)) (pw_or1 (pt_cmpR (op_ltU hr.units) (pv 2) (pe_op op_pow (pe_int) (pe_int)) (nomark _))))) (pss_cons (ps_set (i := 2) nd rfl (by first | exact Or.inl rfl | exact Or.inr rfl) (pe_op op_mod (pe_callTy call_int1 rfl T.f_int (by decide +kernel) (pa_cons (pe_op op_mulU (pe_op op_addU (pe_op op_addU (pv 2) (pe_op op_mulU (pe_int) (pv 1))) (pe_int)) (pe_int)) (pa_nil))) (pe_int))) (pss_one (ps_set (i := 2) nd rfl (by first | exact Or.inl rfl | exact Or.inr rfl) (pe_op op_mod (pe_callTy call_int1 rfl T.f_int (by decide +kernel) (pa_cons (pe_op op_mulU (pe_op op_addU (pe_op op_addU (pe_op op_fdiv (pv 2) (pe_int)) (pe_op op_mulU (pe_int) (pv 1))) (pe_int)) (pe_int)) (pa_nil))) (pe_int))))) (pss_nil)) (pss_one (ps_ret (pv 2))))))
theorem call_cell {K : PySem.W.Frag} {ρ : Rho} {tl : TA} {ns : List Int} {k : Nat} (hk : k ≤ 100000) (h : SPa tl ρ [pSeq K (ns.map V.int), pInt (k : Int)]) : SP (tCall (sp__law_cell K) [] E0 tl) ρ (pInt (cell ns k : Int)) := SP.call (ns, k) h hk

end G

set_option Elab.async false
set_option linter.all false
set_option maxRecDepth 100000
set_option maxHeartbeats 400000
set_option autoImplicit false
namespace G
open PySem PySem.Spec PyProof.Rows L2 PD
open M53 (full leaf leafF half dep lastLeaf litT prT prodT cover DepLt Sub Asc)
local macro_rules | `(tactic| walk_at "lit") => `(tactic| (simp only [Nat.reduceLT, Nat.reducePow, Nat.reduceLeDiff]; done))
local macro_rules | `(tactic| walk_at "sp") => `(tactic| repeat' (first
  | with_reducible exact SP.int | with_reducible exact SP.bl | with_reducible exact SP.non | with_reducible exact SP.str
  | ((with_reducible apply SP.var); exact rfl)
  | with_reducible apply SP.tup | with_reducible apply SP.lst | with_reducible apply SP.op | with_reducible apply SP.cb | with_reducible apply SP.un | with_reducible exact SPa.nil | with_reducible apply SPa.cons
  | with_reducible exact O2.addN
  | with_reducible exact O2.mulN (.inr (by walk_at "lit"))
  | with_reducible exact O2.mulN (.inl (by walk_at "lit"))
  | with_reducible exact O2.modN (by walk_at "lit")
  | with_reducible exact O2.divN (by walk_at "lit") (by walk_at "lit")
  | with_reducible exact O2.powN (by walk_at "lit") (by walk_at "lit")
  | with_reducible exact O2.eqN
  | with_reducible exact O2.neN
  | with_reducible exact O2.ltN
  | with_reducible exact O2.leN
  | with_reducible exact O2.gtN
  | with_reducible exact O2.geN
  | with_reducible exact O2.andN
  | with_reducible exact O2.orN
  | with_reducible exact O2.xorN
  | with_reducible exact O2.shrN
  | with_reducible exact O2.addI
  | with_reducible exact O2.subI
  | with_reducible exact O2.eqI
  | with_reducible exact O2.neI
  | with_reducible exact O2.ltI
  | with_reducible exact O2.leI
  | with_reducible exact O2.gtI
  | with_reducible exact O2.geI
  | with_reducible exact O2.andI
  | with_reducible exact O2.orI
  | with_reducible exact O2.xorI
  | with_reducible exact On.lenL
  | with_reducible exact On.lenT
  | with_reducible exact On.lenQ
  | with_reducible exact On.int
  | with_reducible exact On.max2
  | with_reducible exact On.min2
  | with_reducible apply SPt.test | with_reducible apply SPt.val | with_reducible apply SPt.not
  | exact O2.addN | exact O2.mulN (.inr (by walk_at "lit")) | exact O2.mulN (.inl (by walk_at "lit")) | exact O2.modN (by walk_at "lit") | exact O2.divN (by walk_at "lit") (by walk_at "lit") | exact O2.powN (by walk_at "lit") (by walk_at "lit") | exact O2.eqN | exact O2.neN | exact O2.ltN | exact O2.leN | exact O2.gtN | exact O2.geN | exact O2.andN | exact O2.orN | exact O2.xorN | exact O2.shrN | exact O2.addI | exact O2.subI | exact O2.eqI | exact O2.neI | exact O2.ltI | exact O2.leI | exact O2.gtI | exact O2.geI | exact O2.andI | exact O2.orI | exact O2.xorI | exact On.lenL | exact On.lenT | exact On.lenQ | exact On.int | exact On.max2 | exact On.min2))
local macro_rules | `(tactic| walk_at "fits") => `(tactic| repeat' (first | exact True.intro | exact (fun _ _ h => h) | exact (fun _ _ h => ⟨_, trivial, h⟩) | refine And.intro ?_ ?_))
abbrev s__law_is_integer : Stmt := top 12
theorem sc__law_is_integer : FnScope ["_law_value"] ["_law_value"] (defScope s__law_is_integer) := ⟨rfl, rfl, rfl, by decide +kernel, rfl, by decide +kernel, by decide +kernel⟩
def t__law_is_integer (K : PySem.W.Frag) : TS := tRet (tAndV (tCB (rIsi K) (tCons (tVar 0) (tCons (tC (.ty "int")) (tNil)))) (tNotV (tCB (rIsi K) (tCons (tVar 0) (tCons (tC (.ty "bool")) (tNil))))))
def sp__law_is_integer : Sp := spP (fun i : Int => [pInt i]) (fun _ => True) fun _ => pBool true
theorem len__law_is_integer {vs : List V} {H : Hp} {Q : VK} {E : XK} (h : sp__law_is_integer vs H Q E) : vs.length = 1 := by
  obtain ⟨x, F, _, _, ha, _⟩ := h
  exact ha.length.trans rfl
theorem body__law_is_integer {K : PySem.W.Frag} {vs : List V} {H : Hp} {Q : VK} {E : XK} (h : sp__law_is_integer vs H Q E) : t__law_is_integer K { nx := fun _ H' => Q .non H', rt := Q } (L2.start ["_law_value"] vs) H := by
  refine pure_body (fun _ => Nat.le_of_ble_eq_true rfl) (fun x B hx => ?_) h
  show SS B _ [some (pInt x)] [] _
  refine SS.retP (P := pBool true) (SP.to (SP.andV (SP.cb (SPa.cons (SP.var rfl) (SPa.cons SP.ty SPa.nil)) (On.isi (Kd.int x) (b := true) (by decide +kernel))) fun _ => SP.notV (SP.cb (SPa.cons (SP.var rfl) (SPa.cons SP.ty SPa.nil)) (On.isi (Kd.int x) (b := false) (by decide +kernel)))) rfl) fun v F h => h
theorem ok__law_is_integer {P : Program} {w : World} {K : PySem.W.Frag} {mg : Str → Option Value} {base : Heap} {f : Addr} {fd : FuncData} (T : Txt K mg) (F : FnP K "_law_is_integer" "_law_is_integer" s__law_is_integer f fd) (hg : mg "_law_is_integer" = some (.ref f))   : C8.Cal P w K mg base 1 "_law_is_integer" sp__law_is_integer [] := by
  refine ⟨f, fd, ["_law_value"], [], F.ok sc__law_is_integer (fun vs H Q E h => len__law_is_integer h) (fun cdv A outer s H vs Q E hr h => ⟨t__law_is_integer K, PSs.nox ?_, body__law_is_integer h⟩), hg, F.kp, F.bindsN fun _ _ _ _ _ _ us hl => match us, hl with | [_], _ => rfl, .nil⟩
  have nd := sc__law_is_integer.nd
  exact pss_one (ps_ret (pe_and (pe_callB call_isi rfl T.f_isinstance (by decide +kernel) (pa_cons (pv 0) (pa_cons (pe_bltn rfl T.f_int (by decide +kernel) rfl) (pa_nil)))) (pe_one (pe_not (pe_callB call_isi rfl T.f_isinstance (by decide +kernel) (pa_cons (pv 0) (pa_cons (pe_bltn rfl T.f_bool (by decide +kernel) rfl) (pa_nil))))))))
theorem call_isint {ρ : Rho} {tl : TA} {i : Int} (h : SPa tl ρ [pInt i]) : SP (tCall sp__law_is_integer [] E0 tl) ρ (pBool true) := SP.call i h trivial

abbrev s__law_leaf : Stmt := top 13
theorem sc__law_leaf : FnScope ["_law_index", "_law_count", "_law_point"] ["_law_index", "_law_count"] (defScope s__law_leaf) := ⟨rfl, rfl, rfl, by decide +kernel, rfl, by decide +kernel, by decide +kernel⟩
def t__law_leaf (K : PySem.W.Frag) : TS := tRet (tCB (rSum K) (tCons (tLc (iRng1 (tCons (tOp (rI CPow fun i j => .int (i * 2 ^ j.toNat)) (tC (.int ((1 : Nat) : Int))) (tVar 1)) (tNil))) (gName 2) (tTest (tOp (uEq K) (tOp (rI0 fun i j => .int (Builtin.bitAnd i j)) (tOp (rI (fun _ j => 0 ≤ j) fun i j => .int (i / 2 ^ j.toNat)) (tVar 2) (tVar 0)) (tC (.int ((1 : Nat) : Int)))) (tC (.int ((1 : Nat) : Int))))) (tOp (rI CPow fun i j => .int (i * 2 ^ j.toNat)) (tC (.int ((1 : Nat) : Int))) (tVar 2)) [2]) (tNil)))
def sp__law_leaf : Sp := spP (fun x : Nat × Nat => [pInt (x.1 : Int), pInt (x.2 : Int)]) (fun x => x.2 ≤ 6) fun x => pInt (leaf x.1 x.2 : Int)
theorem len__law_leaf {vs : List V} {H : Hp} {Q : VK} {E : XK} (h : sp__law_leaf vs H Q E) : vs.length = 2 := by
  obtain ⟨x, F, _, _, ha, _⟩ := h
  exact ha.length.trans rfl
theorem body__law_leaf {K : PySem.W.Frag} {vs : List V} {H : Hp} {Q : VK} {E : XK} (h : sp__law_leaf vs H Q E) : t__law_leaf K { nx := fun _ H' => Q .non H', rt := Q } (L2.start ["_law_index", "_law_count", "_law_point"] vs) H := by
  refine pure_body (fun _ => Nat.le_of_ble_eq_true rfl) (fun x B hx => ?_) h
  obtain ⟨i, c⟩ := x
  have hc : c ≤ 6 := hx
  have h6 := pow6 hc
  show SS B _ [some (pInt (i : Int)), some (pInt (c : Int)), none] [] _
  refine SS.retP (P := pInt (leaf i c : Int)) ?_ fun v F h => h
  refine SP.to (P := pInt (((((List.range (1 <<< c)).filter fun k => decide (k >>> i &&& 1 = 1)).map fun k : Nat => ((1 <<< k : Nat) : Int)).sum))) (SP.cb (SPa.cons (P := pLst ((((List.range (1 <<< c)).filter fun k => decide (k >>> i &&& 1 = 1)).map fun k : Nat => ((1 <<< k : Nat) : Int)).map pInt)) ?_ SPa.nil) On.sum) ?_
  · rw [List.map_map]
    refine SP.lc (is := [2]) (e := fun k : Nat => pInt (k : Int)) (q := fun k : Nat => pInt ((1 <<< k : Nat) : Int)) (p := fun k => decide (k >>> i &&& 1 = 1)) (xs := List.range (1 <<< c))
      (SI.rangeN (SPa.cons (SP.op SP.int (SP.var rfl) (O2.shlN (by omega) (by decide))) SPa.nil) (by rw [shl1]; omega)) (by decide)
      (fun k hk => ⟨_, ST.name, by walk_at "sp", fun _ => SP.op SP.int (SP.var rfl) (O2.shlN (by rw [List.mem_range, shl1] at hk; omega) (by decide))⟩) ?_
    rw [List.length_range, shl1]
    omega
  · rw [M53.leaf_sum, shl1]
    rfl
theorem ok__law_leaf {P : Program} {w : World} {K : PySem.W.Frag} {mg : Str → Option Value} {base : Heap} {f : Addr} {fd : FuncData} (T : Txt K mg) (F : FnP K "_law_leaf" "_law_leaf" s__law_leaf f fd) (hg : mg "_law_leaf" = some (.ref f))   : C8.Cal P w K mg base 1 "_law_leaf" sp__law_leaf [] := by
  refine ⟨f, fd, ["_law_index", "_law_count"], [], F.ok sc__law_leaf (fun vs H Q E h => len__law_leaf h) (fun cdv A outer s H vs Q E hr h => ⟨t__law_leaf K, PSs.nox ?_, body__law_leaf h⟩), hg, F.kp, F.bindsN fun _ _ _ _ _ _ us hl => match us, hl with | [_, _], _ => rfl, .nil⟩
  have nd := sc__law_leaf.nd
  exact pss_one (ps_ret (pe_callB (cr_sum rfl) rfl T.f_sum (by decide +kernel) (pa_cons (pe_lc (own := [("_law_point", 2)]) rfl nd (pi_range1 rfl T.f_range (pa_cons (pe_op op_shl (pe_int) (pv 1)) (pa_nil))) (blkOk_by (N := ["_law_index", "_law_count", "_law_point"]) (sc := (defScope s__law_leaf)) (by decide +kernel)) (fun _ _ _ _ _ => pg_name (i := 2) nd rfl (by first | exact Or.inl rfl | exact Or.inr rfl)) (fun _ _ _ _ _ => pts_one (pt_cmpR (op_eqU hr.units) (pe_op op_and (pe_op op_shr (pv 2) (pv 0)) (pe_int)) (pe_int) (nomark _))) (fun _ _ _ _ _ => pe_op op_shl (pe_int) (pv 2))) (pa_nil))))
theorem call_lleaf {ρ : Rho} {tl : TA} {i c : Nat} (hc : c ≤ 6) (h : SPa tl ρ [pInt (i : Int), pInt (c : Int)]) : SP (tCall sp__law_leaf [] E0 tl) ρ (pInt (leaf i c : Int)) := SP.call (i, c) h hc
end G

set_option Elab.async false
set_option linter.all false
set_option maxRecDepth 100000
set_option maxHeartbeats 400000
set_option autoImplicit false
namespace G
open PySem PySem.Spec PyProof.Rows L2 PD
open M53 (full leaf leafF half dep lastLeaf litT prT prodT cover DepLt Sub Asc)
local macro_rules | `(tactic| walk_at "lit") => `(tactic| (simp only [Nat.reduceLT, Nat.reducePow, Nat.reduceLeDiff]; done))
local macro_rules | `(tactic| walk_at "sp") => `(tactic| repeat' (first
  | with_reducible exact SP.int | with_reducible exact SP.bl | with_reducible exact SP.non | with_reducible exact SP.str
  | ((with_reducible apply SP.var); exact rfl)
  | with_reducible apply SP.tup | with_reducible apply SP.lst | with_reducible apply SP.op | with_reducible apply SP.cb | with_reducible apply SP.un | with_reducible exact SPa.nil | with_reducible apply SPa.cons
  | with_reducible exact O2.addN
  | with_reducible exact O2.mulN (.inr (by walk_at "lit"))
  | with_reducible exact O2.mulN (.inl (by walk_at "lit"))
  | with_reducible exact O2.modN (by walk_at "lit")
  | with_reducible exact O2.divN (by walk_at "lit") (by walk_at "lit")
  | with_reducible exact O2.powN (by walk_at "lit") (by walk_at "lit")
  | with_reducible exact O2.eqN
  | with_reducible exact O2.neN
  | with_reducible exact O2.ltN
  | with_reducible exact O2.leN
  | with_reducible exact O2.gtN
  | with_reducible exact O2.geN
  | with_reducible exact O2.andN
  | with_reducible exact O2.orN
  | with_reducible exact O2.xorN
  | with_reducible exact O2.shrN
  | with_reducible exact O2.addI
  | with_reducible exact O2.subI
  | with_reducible exact O2.eqI
  | with_reducible exact O2.neI
  | with_reducible exact O2.ltI
  | with_reducible exact O2.leI
  | with_reducible exact O2.gtI
  | with_reducible exact O2.geI
  | with_reducible exact O2.andI
  | with_reducible exact O2.orI
  | with_reducible exact O2.xorI
  | with_reducible exact On.lenL
  | with_reducible exact On.lenT
  | with_reducible exact On.lenQ
  | with_reducible exact On.int
  | with_reducible exact On.max2
  | with_reducible exact On.min2
  | with_reducible apply SPt.test | with_reducible apply SPt.val | with_reducible apply SPt.not
  | exact O2.addN | exact O2.mulN (.inr (by walk_at "lit")) | exact O2.mulN (.inl (by walk_at "lit")) | exact O2.modN (by walk_at "lit") | exact O2.divN (by walk_at "lit") (by walk_at "lit") | exact O2.powN (by walk_at "lit") (by walk_at "lit") | exact O2.eqN | exact O2.neN | exact O2.ltN | exact O2.leN | exact O2.gtN | exact O2.geN | exact O2.andN | exact O2.orN | exact O2.xorN | exact O2.shrN | exact O2.addI | exact O2.subI | exact O2.eqI | exact O2.neI | exact O2.ltI | exact O2.leI | exact O2.gtI | exact O2.geI | exact O2.andI | exact O2.orI | exact O2.xorI | exact On.lenL | exact On.lenT | exact On.lenQ | exact On.int | exact On.max2 | exact On.min2))
local macro_rules | `(tactic| walk_at "fits") => `(tactic| repeat' (first | exact True.intro | exact (fun _ _ h => h) | exact (fun _ _ h => ⟨_, trivial, h⟩) | refine And.intro ?_ ?_))
abbrev s__law_table : Stmt := top 14
theorem sc__law_table : FnScope ["_law_products", "_law_leaves", "_law_full", "_law_table_here", "_law_product", "_law_points", "_law_literal"] ["_law_products", "_law_leaves", "_law_full"] (defScope s__law_table) := ⟨rfl, rfl, rfl, by decide +kernel, rfl, by decide +kernel, by decide +kernel⟩
def t__law_table (K : PySem.W.Frag) : TS := tSeq (tAsg (tC (.int ((0 : Nat) : Int))) (gName 3)) (tSeq (tFor (iO (iList K (tVar 0)) (iTup K (tVar 0))) (gName 4) (tSeq (tAsg (tVar 2) (gName 5)) (tSeq (tFor (iO (iList K (tVar 4)) (iTup K (tVar 4))) (gName 6) (tAsg (tOp (rI0 fun i j => .int (Builtin.bitAnd i j)) (tVar 5) (tOp (rI0 fun i j => .int (Builtin.bitXor i j)) (tOp (rIx K) (tVar 1) (tOp (rI CDiv fun i j => .int (i / j)) (tVar 6) (tC (.int ((2 : Nat) : Int))))) (tOp uMul (tVar 2) (tOp (rI (fun _ j => 0 < j) fun i j => .int (i % j)) (tCB uInt (tCons (tVar 6) (tNil))) (tC (.int ((2 : Nat) : Int))))))) (gName 5))) (tAsg (tOp (rI0 fun i j => .int (Builtin.bitOr i j)) (tVar 3) (tVar 5)) (gName 3))))) (tRet (tVar 3)))
/-- rows as tuples or as lists -/
def prK (k : Bool) (pr : List Nat) : Pd := if k then prP pr else pLst (pr.map fun l : Nat => pInt (l : Int))
def lvs (c : Nat) : Pd := pLst ((List.range c).map fun j : Nat => pInt (leaf j c : Int))
def sp__law_table : Sp := spP (fun x : Bool × List (List Nat) × Nat => [pLst (x.2.1.map (prK x.1)), lvs x.2.2, pInt (full x.2.2 : Int)]) (fun x => x.2.2 ≤ 6 ∧ ∀ pr ∈ x.2.1, ∀ l ∈ pr, l / 2 < x.2.2) fun x => pInt (prodT x.2.1 x.2.2 : Int)
theorem len__law_table {vs : List V} {H : Hp} {Q : VK} {E : XK} (h : sp__law_table vs H Q E) : vs.length = 3 := by
  obtain ⟨x, F, _, _, ha, _⟩ := h
  exact ha.length.trans rfl
theorem body__law_table {K : PySem.W.Frag} {vs : List V} {H : Hp} {Q : VK} {E : XK} (h : sp__law_table vs H Q E) : t__law_table K { nx := fun _ H' => Q .non H', rt := Q } (L2.start ["_law_products", "_law_leaves", "_law_full", "_law_table_here", "_law_product", "_law_points", "_law_literal"] vs) H := by
  refine pure_body (fun _ => Nat.le_of_ble_eq_true rfl) (fun x B hx => ?_) h
  obtain ⟨b, ps, c⟩ := x
  obtain ⟨hc, hl⟩ : c ≤ 6 ∧ ∀ pr ∈ ps, ∀ l ∈ pr, l / 2 < c := hx
  show SS B _ [some (pLst (ps.map (prK b))), some (lvs c), some (pInt (full c : Int)), none, none, none, none] [] _
  refine SS.seq (SS.asg SP.int ?_)
  refine SS.seq (SS.forF (is := [4]) (e := prK b) (xs := ps) (SI.o1 (SI.list (SP.var rfl)))
    (fun ys => [some (pLst (ps.map (prK b))), some (lvs c), some (pInt (full c : Int)), some (pInt (prodT ys c : Int)), none, none, none]) (fun _ => []) (by walk_at "fits") rfl (fun ys pr zs e => ?_) fun ρ' hf => SS.fits hf ?_)
  · refine ⟨_, ST.name, SS.seq (SS.asg (SP.var rfl) ?_)⟩
    have hi : SI (iO (iList K (tVar 4)) (iTup K (tVar 4))) [some (pLst (ps.map (prK b))), some (lvs c), some (pInt (full c : Int)), some (pInt (prodT ys c : Int)), some (prK b pr), some (pInt (full c : Int)), none] (pr.map fun l : Nat => pInt (l : Int)) := by
      cases b with
      | true => exact SI.o2 (SI.tup (SP.var rfl))
      | false => exact SI.o1 (SI.list (SP.var rfl))
    refine SS.seq (SS.forF (is := [6]) (e := fun l : Nat => pInt (l : Int)) (xs := pr) hi
      (fun ls => [some (pLst (ps.map (prK b))), some (lvs c), some (pInt (full c : Int)), some (pInt (prodT ys c : Int)), none, some (pInt (prT c ls : Int)), none]) (fun _ => []) (by walk_at "fits") rfl (fun ls l ms e2 => ?_) fun ρ' hf => SS.fits hf ?_)
    · have h2 : l / 2 < c := hl pr (mem_mid e) l (mem_mid e2)
      refine ⟨_, ST.name, SS.asg (P := pInt ((prT c ls &&& litT l c : Nat) : Int)) ?_ ⟨?_, rfl⟩⟩
      · refine SP.op (SP.var rfl) (SP.op (SP.op (SP.var rfl) (SP.op (SP.var rfl) SP.int (O2.divN (by decide) (by decide))) (O2.ixL (P := pInt (leaf (l / 2) c : Int)) ?_)) (SP.op (SP.var rfl) (SP.op (SP.cb (SPa.cons (SP.var rfl) SPa.nil) On.int) SP.int (O2.modN (by decide))) (O2.mulN (.inl (full64 hc)))) O2.xorN) O2.andN
        refine atI_pos rfl ?_
        rw [List.getElem?_map, List.getElem?_range h2]
        rfl
      · unfold prT
        rw [List.foldl_append]
        walk_at "fits"
    · refine SS.asg (P := pInt ((prodT ys c ||| prT c pr : Nat) : Int)) (by walk_at "sp") ⟨?_, rfl⟩
      unfold prodT
      rw [List.foldl_append]
      walk_at "fits"
  · exact SS.retP (SP.var rfl) fun v F h => h
theorem ok__law_table {P : Program} {w : World} {K : PySem.W.Frag} {mg : Str → Option Value} {base : Heap} {f : Addr} {fd : FuncData} (T : Txt K mg) (F : FnP K "_law_table" "_law_table" s__law_table f fd) (hg : mg "_law_table" = some (.ref f))   : C8.Cal P w K mg base 1 "_law_table" sp__law_table [] := by
  refine ⟨f, fd, ["_law_products", "_law_leaves", "_law_full"], [], F.ok sc__law_table (fun vs H Q E h => len__law_table h) (fun cdv A outer s H vs Q E hr h => ⟨t__law_table K, PSs.nox ?_, body__law_table h⟩), hg, F.kp, F.bindsN fun _ _ _ _ _ _ us hl => match us, hl with | [_, _, _], _ => rfl, .nil⟩
  have nd := sc__law_table.nd
  exact pss_cons (ps_set (i := 3) nd rfl (by first | exact Or.inl rfl | exact Or.inr rfl) (pe_int)) (pss_cons (ps_for PassesOwn.never rfl (PI.or (pi_list (pv 0)) (pi_tup (pv 0))) (pg_name (i := 4) nd rfl (by first | exact Or.inl rfl | exact Or.inr rfl)) (pss_cons (ps_set (i := 5) nd rfl (by first | exact Or.inl rfl | exact Or.inr rfl) (pv 2)) (pss_cons (ps_for PassesOwn.never rfl (PI.or (pi_list (pv 4)) (pi_tup (pv 4))) (pg_name (i := 6) nd rfl (by first | exact Or.inl rfl | exact Or.inr rfl)) (pss_one (ps_set (i := 5) nd rfl (by first | exact Or.inl rfl | exact Or.inr rfl) (pe_op op_and (pv 5) (pe_op op_xor (pe_ix ix_seq (pv 1) (pe_op op_fdiv (pv 6) (pe_int)) (fun _ _ => rfl)) (pe_op op_mulU (pv 2) (pe_op op_mod (pe_callTy call_int1 rfl T.f_int (by decide +kernel) (pa_cons (pv 6) (pa_nil))) (pe_int)))))))) (pss_one (ps_set (i := 3) nd rfl (by first | exact Or.inl rfl | exact Or.inr rfl) (pe_op op_or (pv 3) (pv 5))))))) (pss_one (ps_ret (pv 3))))
theorem call_table {ρ : Rho} {tl : TA} {b : Bool} {ps : List (List Nat)} {c : Nat} (hc : c ≤ 6) (hl : ∀ pr ∈ ps, ∀ l ∈ pr, l / 2 < c) (h : SPa tl ρ [pLst (ps.map (prK b)), lvs c, pInt (full c : Int)]) : SP (tCall sp__law_table [] E0 tl) ρ (pInt (prodT ps c : Int)) := SP.call (b, ps, c) h ⟨hc, hl⟩
abbrev s__law_is_product : Stmt := top 15
theorem sc__law_is_product : FnScope ["_law_product", "_law_count", "_law_last", "_law_literal"] ["_law_product", "_law_count"] (defScope s__law_is_product) := ⟨rfl, rfl, rfl, by decide +kernel, rfl, by decide +kernel, by decide +kernel⟩
def t__law_is_product (K : PySem.W.Frag) : TS := tSeq (tIfS (tNot (tB (tCB (rIsi K) (tCons (tVar 0) (tCons (tC (.ty "tuple")) (tNil)))))) (tRet (tC (.bl false))) (tNext)) (tSeq (tAsg (tUn (rU fun i => .int (-i)) (tC (.int ((1 : Nat) : Int)))) (gName 2)) (tSeq (tFor (iO (iList K (tVar 0)) (iTup K (tVar 0))) (gName 3) (tSeq (tIfS (tOr (tNot (tB (tCall sp__law_is_integer [] E0 (tCons (tVar 3) (tNil))))) (tNot (tTest (tChain (rI0 fun i j => .bl (decide (i ≤ j))) (uLt K) (tOp (uAdd K) (tOp uMul (tC (.int ((2 : Nat) : Int))) (tVar 2)) (tC (.int ((2 : Nat) : Int)))) (tVar 3) (tOp uMul (tC (.int ((2 : Nat) : Int))) (tVar 1)))))) (tRet (tC (.bl false))) (tNext)) (tAsg (tOp (rI CDiv fun i j => .int (i / j)) (tVar 3) (tC (.int ((2 : Nat) : Int)))) (gName 2)))) (tRet (tC (.bl true)))))
def sp__law_is_product : Sp := spP (fun x : List Nat × Nat => [prP x.1, pInt (x.2 : Int)]) (fun x => Asc x.2 x.1) fun _ => pBool true
theorem len__law_is_product {vs : List V} {H : Hp} {Q : VK} {E : XK} (h : sp__law_is_product vs H Q E) : vs.length = 2 := by
  obtain ⟨x, F, _, _, ha, _⟩ := h
  exact ha.length.trans rfl
theorem Asc.mid {c : Nat} : ∀ {ys : List Nat} {l : Nat} {zs : List Nat} {m : Nat}, Asc c (ys ++ l :: zs) → (ys = [] → m = 0) → (∀ y ∈ ys.getLast?, m = y / 2 + 1) → m ≤ l / 2 ∧ l / 2 < c
  | [], l, zs, m, h, h0, h1 => ⟨by rw [h0 rfl]; exact Nat.zero_le _, h.1⟩
  | [y], l, zs, m, h, h0, h1 => ⟨by rw [h1 y rfl]; exact h.2.2 l List.mem_cons_self, h.2.1.1⟩
  | y :: y2 :: ys, l, zs, m, h, h0, h1 => Asc.mid (ys := y2 :: ys) h.2.1 (fun e => by cases e) h1
theorem body__law_is_product {K : PySem.W.Frag} {vs : List V} {H : Hp} {Q : VK} {E : XK} (h : sp__law_is_product vs H Q E) : t__law_is_product K { nx := fun _ H' => Q .non H', rt := Q } (L2.start ["_law_product", "_law_count", "_law_last", "_law_literal"] vs) H := by
  refine pure_body (fun _ => Nat.le_of_ble_eq_true rfl) (fun x B hx => ?_) h
  obtain ⟨pr, c⟩ := x
  have ha : Asc c pr := hx
  show SS B _ [some (prP pr), some (pInt (c : Int)), none, none] [] _
  refine SS.seq (SS.ite (b := false) (SPt.to (SPt.not (SPt.val (SP.cb (SPa.cons (SP.var rfl) (SPa.cons SP.ty SPa.nil)) (On.isi (Kd.tup _) (b := true) (by decide +kernel))))) rfl) (fun h => by cases h) (fun h => SS.nil ?_))
  refine SS.seq (SS.asg (P := pInt (((0 : Nat) : Int) - 1)) (SP.to (SP.un SP.int O1.neg) rfl) ?_)
  refine SS.seq (SS.forL (is := [3]) (e := fun l : Nat => pInt (l : Int)) (xs := pr) (SI.o2 (SI.tup (SP.var rfl)))
    (fun ys ρ R => ∃ m : Nat, (ys = [] → m = 0) ∧ (∀ y ∈ ys.getLast?, m = y / 2 + 1) ∧ Fits ρ [some (prP pr), some (pInt (c : Int)), some (pInt ((m : Int) - 1)), none] ∧ R = []) ⟨0, fun _ => rfl, (fun y (hy : y ∈ (none : Option Nat)) => by cases hy), by walk_at "fits", rfl⟩ (fun ys l zs ρ R e h => ?_) (fun ρ R h => ?_))
  · obtain ⟨m, h0, h1, hf, rfl⟩ := h
    rw [e] at ha
    obtain ⟨q1, q2⟩ := Asc.mid ha h0 h1
    refine ⟨_, ST.weak hf ST.name, ?_⟩
    refine SS.seq (SS.ite (b := false) (SPt.to (SPt.or (SPt.not (SPt.val (call_isint (by walk_at "sp")))) fun _ => SPt.not (SPt.test (SP.chain (SP.op (SP.op SP.int (SP.var rfl) (O2.mulI (.inl (by decide)))) SP.int O2.addI) (SP.var rfl) O2.leI (SP.op SP.int (SP.var rfl) (O2.mulN (.inl (by decide)))) O2.ltI))) ?_) (fun h => by cases h) (fun h => SS.nil ?_))
    · have e1 : decide (((2 : Nat) : Int) * ((m : Int) - 1) + ((2 : Nat) : Int) ≤ (l : Int)) = true := decide_eq_true (by omega)
      have e2 : decide ((l : Int) < ((2 * c : Nat) : Int)) = true := decide_eq_true (by omega)
      rw [e1, e2]
      rfl
    · refine SS.asg (P := pInt ((l / 2 : Nat) : Int)) (by walk_at "sp") ⟨l / 2 + 1, fun z => by simp at z, fun y hy => ?_, ?_, rfl⟩
      · rw [List.getLast?_concat] at hy
        cases hy
        rfl
      · have e3 : (((l / 2 + 1 : Nat) : Int) - 1) = ((l / 2 : Nat) : Int) := by omega
        rw [e3]
        walk_at "fits"
  · obtain ⟨m, h0, h1, hf, rfl⟩ := h
    exact SS.retP SP.bl fun v F h => h
theorem ok__law_is_product {P : Program} {w : World} {K : PySem.W.Frag} {mg : Str → Option Value} {base : Heap} {f : Addr} {fd : FuncData} (T : Txt K mg) (F : FnP K "_law_is_product" "_law_is_product" s__law_is_product f fd) (hg : mg "_law_is_product" = some (.ref f)) (c__law_is_integer : C8.Cal P w K mg base 1 "_law_is_integer" sp__law_is_integer [])  : C8.Cal P w K mg base 2 "_law_is_product" sp__law_is_product [] := by
  refine ⟨f, fd, ["_law_product", "_law_count"], [], F.ok sc__law_is_product (fun vs H Q E h => len__law_is_product h) (fun cdv A outer s H vs Q E hr h => ⟨t__law_is_product K, PSs.nox ?_, body__law_is_product h⟩), hg, F.kp, F.bindsN fun _ _ _ _ _ _ us hl => match us, hl with | [_, _], _ => rfl, .nil⟩
  have nd := sc__law_is_product.nd
  exact pss_cons (ps_if (pt_not (pt_val (pe_callB call_isi rfl T.f_isinstance (by decide +kernel) (pa_cons (pv 0) (pa_cons (pe_bltn rfl T.f_tuple (by decide +kernel) rfl) (pa_nil)))) (fun _ => rfl))) (pss_one (ps_ret (pe_bl))) (pss_nil)) (pss_cons (ps_set (i := 2) nd rfl (by first | exact Or.inl rfl | exact Or.inr rfl) (pe_un un_neg (pe_int))) (pss_cons (ps_for PassesOwn.never rfl (PI.or (pi_list (pv 0)) (pi_tup (pv 0))) (pg_name (i := 3) nd rfl (by first | exact Or.inl rfl | exact Or.inr rfl)) (pss_cons (ps_if (PW.pt (pw_or (pt_not (pt_val (C8.pe_c c__law_is_integer hr (by decide) rfl (pa_cons (pv 3) (pa_nil))) (fun _ => rfl))) (pw_or1 (pt_not (pt_chain op_le (op_ltU hr.units) (pe_op op_addU (pe_op op_mulU (pe_int) (pv 2)) (pe_int)) (pv 3) (pe_op op_mulU (pe_int) (pv 1))))))) (pss_one (ps_ret (pe_bl))) (pss_nil)) (pss_one (ps_set (i := 2) nd rfl (by first | exact Or.inl rfl | exact Or.inr rfl) (pe_op op_fdiv (pv 3) (pe_int)))))) (pss_one (ps_ret (pe_bl)))))
theorem call_isprod {ρ : Rho} {tl : TA} {pr : List Nat} {c : Nat} (ha : Asc c pr) (h : SPa tl ρ [prP pr, pInt (c : Int)]) : SP (tCall sp__law_is_product [] E0 tl) ρ (pBool true) := SP.call (pr, c) h ha
end G

set_option Elab.async false
set_option linter.all false
set_option maxRecDepth 100000
set_option maxHeartbeats 400000
set_option autoImplicit false
namespace G
open PySem PySem.Spec PyProof.Rows L2 PD
open M53 (full leaf leafF half dep lastLeaf litT prT prodT cover DepLt Sub Asc)
local macro_rules | `(tactic| walk_at "lit") => `(tactic| (simp only [Nat.reduceLT, Nat.reducePow, Nat.reduceLeDiff]; done))
local macro_rules | `(tactic| walk_at "sp") => `(tactic| repeat' (first
  | with_reducible exact SP.int | with_reducible exact SP.bl | with_reducible exact SP.non | with_reducible exact SP.str
  | ((with_reducible apply SP.var); exact rfl)
  | with_reducible apply SP.tup | with_reducible apply SP.lst | with_reducible apply SP.op | with_reducible apply SP.cb | with_reducible apply SP.un | with_reducible exact SPa.nil | with_reducible apply SPa.cons
  | with_reducible exact O2.addN
  | with_reducible exact O2.mulN (.inr (by walk_at "lit"))
  | with_reducible exact O2.mulN (.inl (by walk_at "lit"))
  | with_reducible exact O2.modN (by walk_at "lit")
  | with_reducible exact O2.divN (by walk_at "lit") (by walk_at "lit")
  | with_reducible exact O2.powN (by walk_at "lit") (by walk_at "lit")
  | with_reducible exact O2.eqN
  | with_reducible exact O2.neN
  | with_reducible exact O2.ltN
  | with_reducible exact O2.leN
  | with_reducible exact O2.gtN
  | with_reducible exact O2.geN
  | with_reducible exact O2.andN
  | with_reducible exact O2.orN
  | with_reducible exact O2.xorN
  | with_reducible exact O2.shrN
  | with_reducible exact O2.addI
  | with_reducible exact O2.subI
  | with_reducible exact O2.eqI
  | with_reducible exact O2.neI
  | with_reducible exact O2.ltI
  | with_reducible exact O2.leI
  | with_reducible exact O2.gtI
  | with_reducible exact O2.geI
  | with_reducible exact O2.andI
  | with_reducible exact O2.orI
  | with_reducible exact O2.xorI
  | with_reducible exact On.lenL
  | with_reducible exact On.lenT
  | with_reducible exact On.lenQ
  | with_reducible exact On.int
  | with_reducible exact On.max2
  | with_reducible exact On.min2
  | with_reducible apply SPt.test | with_reducible apply SPt.val | with_reducible apply SPt.not
  | exact O2.addN | exact O2.mulN (.inr (by walk_at "lit")) | exact O2.mulN (.inl (by walk_at "lit")) | exact O2.modN (by walk_at "lit") | exact O2.divN (by walk_at "lit") (by walk_at "lit") | exact O2.powN (by walk_at "lit") (by walk_at "lit") | exact O2.eqN | exact O2.neN | exact O2.ltN | exact O2.leN | exact O2.gtN | exact O2.geN | exact O2.andN | exact O2.orN | exact O2.xorN | exact O2.shrN | exact O2.addI | exact O2.subI | exact O2.eqI | exact O2.neI | exact O2.ltI | exact O2.leI | exact O2.gtI | exact O2.geI | exact O2.andI | exact O2.orI | exact O2.xorI | exact On.lenL | exact On.lenT | exact On.lenQ | exact On.int | exact On.max2 | exact On.min2))
local macro_rules | `(tactic| walk_at "fits") => `(tactic| repeat' (first | exact True.intro | exact (fun _ _ h => h) | exact (fun _ _ h => ⟨_, trivial, h⟩) | refine And.intro ?_ ?_))
abbrev s__law_drawn : Stmt := top 16
theorem sc__law_drawn : FnScope ["_law_script", "_law_count", "_law_full", "_law_table_here", "_law_products", "_law_k", "_law_row", "_law_j"] ["_law_script", "_law_count", "_law_full"] (defScope s__law_drawn) := ⟨rfl, rfl, rfl, by decide +kernel, rfl, by decide +kernel, by decide +kernel⟩
def t__law_drawn (K : PySem.W.Frag) : TS := tSeq (tAsg (tOp (rI (fun _ j => 0 < j) fun i j => .int (i % j)) (tCall (sp__law_cell K) [] E0 (tCons (tVar 0) (tCons (tC (.int ((1 : Nat) : Int))) (tNil)))) (tOp (uAdd K) (tVar 2) (tC (.int ((1 : Nat) : Int))))) (gName 3)) (tSeq (tIfS (tTest (tOp (uEq K) (tOp (rI (fun _ j => 0 < j) fun i j => .int (i % j)) (tCall (sp__law_cell K) [] E0 (tCons (tVar 0) (tCons (tC (.int ((2 : Nat) : Int))) (tNil)))) (tC (.int ((4 : Nat) : Int)))) (tC (.int ((1 : Nat) : Int))))) (tSeq (tAsg (tLst (tNil)) (gName 4)) (tSeq (tFor (iRng1 (tCons (tOp (uAdd K) (tC (.int ((1 : Nat) : Int))) (tOp (rI (fun _ j => 0 < j) fun i j => .int (i % j)) (tOp (rI CDiv fun i j => .int (i / j)) (tCall (sp__law_cell K) [] E0 (tCons (tVar 0) (tCons (tC (.int ((2 : Nat) : Int))) (tNil)))) (tC (.int ((4 : Nat) : Int)))) (tC (.int ((4 : Nat) : Int))))) (tNil))) (gName 5) (tSeq (tAsg (tCall (sp__law_cell K) [] E0 (tCons (tVar 0) (tCons (tOp (uAdd K) (tC (.int ((3 : Nat) : Int))) (tVar 5)) (tNil)))) (gName 6)) (tDrop (tBM K "list" rAppend (tVar 4) (tCons (tLc (iRng1 (tCons (tVar 1) (tNil))) (gName 7) (tTest (tOp (uEq K) (tOp (rI (fun _ j => 0 < j) fun i j => .int (i % j)) (tCB uInt (tCons (tOp (rI (fun _ j => 0 ≤ j) fun i j => .int (i / 2 ^ j.toNat)) (tVar 6) (tOp (uAdd K) (tOp uMul (tC (.int ((2 : Nat) : Int))) (tVar 7)) (tC (.int ((1 : Nat) : Int))))) (tNil))) (tC (.int ((2 : Nat) : Int)))) (tC (.int ((1 : Nat) : Int))))) (tOp (uAdd K) (tOp uMul (tC (.int ((2 : Nat) : Int))) (tVar 7)) (tOp (rI (fun _ j => 0 < j) fun i j => .int (i % j)) (tCB uInt (tCons (tOp (rI (fun _ j => 0 ≤ j) fun i j => .int (i / 2 ^ j.toNat)) (tVar 6) (tOp uMul (tC (.int ((2 : Nat) : Int))) (tVar 7))) (tNil))) (tC (.int ((2 : Nat) : Int))))) [7]) (tNil)))))) (tAsg (tCall sp__law_table [] E0 (tCons (tVar 4) (tCons (tLc (iRng1 (tCons (tVar 1) (tNil))) (gName 7) tYes (tCall sp__law_leaf [] E0 (tCons (tVar 7) (tCons (tVar 1) (tNil)))) [7]) (tCons (tVar 2) (tNil))))) (gName 3)))) (tNext)) (tRet (tVar 3)))
def drawRow (r c : Nat) : List Nat := ((List.range c).filter fun j => decide (r >>> (2 * j + 1) % 2 = 1)).map fun j => 2 * j + r >>> (2 * j) % 2
def sp__law_drawn (K : PySem.W.Frag) : Sp := spP (fun x : List Int × Nat => [pSeq K (x.1.map V.int), pInt (x.2 : Int), pInt (full x.2 : Int)]) (fun x => x.2 ≤ 6) fun x => pEx (fun t : Nat => t < 2 ^ 2 ^ x.2) fun t => pInt (t : Int)
theorem len__law_drawn {K : PySem.W.Frag} {vs : List V} {H : Hp} {Q : VK} {E : XK} (h : sp__law_drawn K vs H Q E) : vs.length = 3 := by
  obtain ⟨x, F, _, _, ha, _⟩ := h
  exact ha.length.trans rfl
theorem drawRow_lt {r c l : Nat} (h : l ∈ drawRow r c) : l / 2 < c := by
  obtain ⟨j, hj, rfl⟩ := List.mem_map.mp h
  have := List.mem_range.mp (List.mem_filter.mp hj).1
  omega
theorem lvs_ok {K : PySem.W.Frag} {ρ : Rho} {i j : Nat} {c : Nat} (hc : c ≤ 6) (hi : ρ[i]? = some (some (pInt (c : Int)))) (hw : (wipeR ρ [j])[i]? = some (some (pInt (c : Int)))) (hj : ((wipeR ρ [j]).length) > j) (hij : i ≠ j) : SP (tLc (iRng1 (tCons (tVar i) tNil)) (gName j) tYes (tCall sp__law_leaf [] E0 (tCons (tVar j) (tCons (tVar i) tNil))) [j]) ρ (lvs c) :=
  SP.lc0 (is := [j]) (e := fun k : Nat => pInt (k : Int)) (xs := List.range c) (SI.rangeN (SPa.cons (SP.var hi) SPa.nil) (by omega)) (by simp) (fun k _ => ⟨_, ST.name, call_lleaf hc (SPa.cons (SP.var (by rw [List.getElem?_set, if_pos rfl, if_pos hj])) (SPa.cons (SP.var (by rw [List.getElem?_set_ne (Ne.symm hij)]; exact hw)) SPa.nil))⟩) (by rw [List.length_range]; omega)
theorem body__law_drawn {K : PySem.W.Frag} {vs : List V} {H : Hp} {Q : VK} {E : XK} (h : sp__law_drawn K vs H Q E) : t__law_drawn K { nx := fun _ H' => Q .non H', rt := Q } (L2.start ["_law_script", "_law_count", "_law_full", "_law_table_here", "_law_products", "_law_k", "_law_row", "_law_j"] vs) H := by
  refine pure_body (fun _ => Nat.le_of_ble_eq_true rfl) (fun x B hx => ?_) h
  obtain ⟨ns, c⟩ := x
  have hc : c ≤ 6 := hx
  show SS B _ [some (pSeq K (ns.map V.int)), some (pInt (c : Int)), some (pInt (full c : Int)), none, none, none, none, none] [] _
  have hf : full c + 1 = 2 ^ 2 ^ c := by
    unfold full
    have := Nat.two_pow_pos (2 ^ c)
    omega
  refine SS.seq (SS.asg (P := pInt ((cell ns 1 % (full c + 1) : Nat) : Int)) (SP.op (call_cell (k := 1) (by decide) (by walk_at "sp")) (by walk_at "sp") (O2.modN (by omega))) ?_)
  have h1 : cell ns 1 % (full c + 1) < 2 ^ 2 ^ c := by rw [← hf]; exact Nat.mod_lt _ (by omega)
  refine SS.joinT [some (pSeq K (ns.map V.int)), some (pInt (c : Int)), some (pInt (full c : Int)), some (pEx (fun t : Nat => t < 2 ^ 2 ^ c) fun t => pInt (t : Int)), none, none, none, none] [] (SS.ite (b := decide (cell ns 2 % 4 = 1)) (SPt.test (SP.op (SP.op (call_cell (k := 2) (by decide) (by walk_at "sp")) SP.int (O2.modN (by decide))) SP.int O2.eqN)) (fun h => ?_) (fun h => SS.nil ⟨⟨fun _ _ h => h, fun _ _ h => h, fun _ _ h => h, fun _ _ h => ⟨_, h1, h⟩, trivial⟩, [], rfl⟩)) (SS.retP (SP.var rfl) fun v F h => h)
  refine SS.seq (SS.newL fun p => ?_)
  refine SS.seq (SS.forF (is := [5]) (e := fun k : Nat => pInt (k : Int)) (xs := List.range (1 + cell ns 2 / 4 % 4)) (SI.rangeN (SPa.cons (SP.op SP.int (SP.op (SP.op (call_cell (k := 2) (by decide) (by walk_at "sp")) SP.int (O2.divN (by decide) (by decide))) SP.int (O2.modN (by decide))) O2.addN) SPa.nil) (by omega))
    (fun ys => [some (pSeq K (ns.map V.int)), some (pInt (c : Int)), some (pInt (full c : Int)), none, some (pRef p), none, none, none]) (fun ys => [oL p (ys.map fun k => prK false (drawRow (cell ns (3 + k)) c))]) (by walk_at "fits") rfl (fun ys k zs e => ?_) fun ρ' hf => SS.fits hf ?_)
  · have hk : k < 4 := by
      have := mem_mid e
      rw [List.mem_range] at this
      omega
    have hy : ys.length ≤ 4 := by
      have := congrArg List.length e
      rw [List.length_range, List.length_append, List.length_cons] at this
      omega
    refine ⟨_, ST.name, SS.seq (SS.asg (call_cell (k := 3 + k) (by omega) (by walk_at "sp")) ?_)⟩
    generalize hr : cell ns (3 + k) = r
    refine SS.drop (SE.appendP (k := 0) (P := prK false (drawRow r c)) rfl rfl (SP.to (SP.lc (is := [7]) (e := fun j : Nat => pInt (j : Int)) (q := fun j : Nat => pInt ((2 * j + r >>> (2 * j) % 2 : Nat) : Int)) (p := fun j => decide (r >>> (2 * j + 1) % 2 = 1)) (xs := List.range c)
      (SI.rangeN (by walk_at "sp") (by omega)) (by decide) (fun j hj => ⟨_, ST.name, by walk_at "sp", fun _ => by walk_at "sp"⟩) (by rw [List.length_range]; omega)) ?_) (by rw [List.length_map]; omega) ⟨by walk_at "fits", ?_⟩)
    · unfold drawRow prK
      rw [if_neg (by decide), List.map_map]
      rfl
    · rw [List.map_append, ← hr]
      rfl
  refine SS.freezeL (i := 4) (k := 0) rfl rfl ?_
  refine SS.asg (P := pInt (prodT ((List.range (1 + cell ns 2 / 4 % 4)).map fun k => drawRow (cell ns (3 + k)) c) c : Int)) (call_table (b := false) hc (fun pr hp l hl => ?_) (SPa.cons (SP.to (SP.var rfl) ?_) (SPa.cons (lvs_ok (K := K) hc rfl rfl (by show 7 < 8; decide) (by decide)) (SPa.cons (SP.var rfl) SPa.nil)))) ⟨⟨fun _ _ h => h, fun _ _ h => h, fun _ _ h => h, fun _ _ h => ⟨_, M53.prodT_lt, h⟩, trivial⟩, [oNo], rfl⟩
  · obtain ⟨k, _, rfl⟩ := List.mem_map.mp hp
    exact drawRow_lt hl
  · rw [List.map_map]
    rfl
theorem ok__law_drawn {P : Program} {w : World} {K : PySem.W.Frag} {mg : Str → Option Value} {base : Heap} {f : Addr} {fd : FuncData} (T : Txt K mg) (F : FnP K "_law_drawn" "_law_drawn" s__law_drawn f fd) (hg : mg "_law_drawn" = some (.ref f)) (c__law_cell : C8.Cal P w K mg base 1 "_law_cell" (sp__law_cell K) []) (c__law_leaf : C8.Cal P w K mg base 1 "_law_leaf" sp__law_leaf []) (c__law_table : C8.Cal P w K mg base 1 "_law_table" sp__law_table [])  : C8.Cal P w K mg base 2 "_law_drawn" (sp__law_drawn K) [] := by
  refine ⟨f, fd, ["_law_script", "_law_count", "_law_full"], [], F.ok sc__law_drawn (fun vs H Q E h => len__law_drawn h) (fun cdv A outer s H vs Q E hr h => ⟨t__law_drawn K, PSs.nox ?_, body__law_drawn h⟩), hg, F.kp, F.bindsN fun _ _ _ _ _ _ us hl => match us, hl with | [_, _, _], _ => rfl, .nil⟩
  have nd := sc__law_drawn.nd
  exact pss_cons (ps_set (i := 3) nd rfl (by first | exact Or.inl rfl | exact Or.inr rfl) (pe_op op_mod (C8.pe_c c__law_cell hr (by decide) rfl (pa_cons (pv 0) (pa_cons (pe_int) (pa_nil)))) (pe_op op_addU (pv 2) (pe_int)))) (pss_cons (ps_if (pt_cmpR (op_eqU hr.units) (pe_op op_mod (C8.pe_c c__law_cell hr (by decide) rfl (pa_cons (pv 0) (pa_cons (pe_int) (pa_nil)))) (pe_int)) (pe_int) (nomark _)) (pss_cons (ps_set (i := 4) nd rfl (by first | exact Or.inl rfl | exact Or.inr rfl) (pe_lst (pa_nil))) (pss_cons (ps_for PassesOwn.never rfl (pi_range1 rfl T.f_range (pa_cons (pe_op op_addU (pe_int) (pe_op op_mod (pe_op op_fdiv (C8.pe_c c__law_cell hr (by decide) rfl (pa_cons (pv 0) (pa_cons (pe_int) (pa_nil)))) (pe_int)) (pe_int))) (pa_nil))) (pg_name (i := 5) nd rfl (by first | exact Or.inl rfl | exact Or.inr rfl)) (pss_cons (ps_set (i := 6) nd rfl (by first | exact Or.inl rfl | exact Or.inr rfl) (C8.pe_c c__law_cell hr (by decide) rfl (pa_cons (pv 0) (pa_cons (pe_op op_addU (pe_int) (pv 5)) (pa_nil))))) (pss_one (ps_expr (pe_bm PySem.F.plainAttrs_list PySem.F.slot_list_append PySem.F.type_list_append mt_append (pv 4) (pa_cons (pe_lc (own := [("_law_j", 7)]) rfl nd (pi_range1 rfl T.f_range (pa_cons (pv 1) (pa_nil))) (blkOk_by (N := ["_law_script", "_law_count", "_law_full", "_law_table_here", "_law_products", "_law_k", "_law_row", "_law_j"]) (sc := (defScope s__law_drawn)) (by decide +kernel)) (fun _ _ _ _ _ => pg_name (i := 7) nd rfl (by first | exact Or.inl rfl | exact Or.inr rfl)) (fun _ _ _ _ _ => pts_one (pt_cmpR (op_eqU hr.units) (pe_op op_mod (pe_callTy call_int1 rfl T.f_int (by decide +kernel) (pa_cons (pe_op op_shr (pv 6) (pe_op op_addU (pe_op op_mulU (pe_int) (pv 7)) (pe_int))) (pa_nil))) (pe_int)) (pe_int) (nomark _))) (fun _ _ _ _ _ => pe_op op_addU (pe_op op_mulU (pe_int) (pv 7)) (pe_op op_mod (pe_callTy call_int1 rfl T.f_int (by decide +kernel) (pa_cons (pe_op op_shr (pv 6) (pe_op op_mulU (pe_int) (pv 7))) (pa_nil))) (pe_int)))) (pa_nil))))))) (pss_one (ps_set (i := 3) nd rfl (by first | exact Or.inl rfl | exact Or.inr rfl) (C8.pe_c c__law_table hr (by decide) rfl (pa_cons (pv 4) (pa_cons (pe_lc (own := [("_law_j", 7)]) rfl nd (pi_range1 rfl T.f_range (pa_cons (pv 1) (pa_nil))) (blkOk_by (N := ["_law_script", "_law_count", "_law_full", "_law_table_here", "_law_products", "_law_k", "_law_row", "_law_j"]) (sc := (defScope s__law_drawn)) (by decide +kernel)) (fun _ _ _ _ _ => pg_name (i := 7) nd rfl (by first | exact Or.inl rfl | exact Or.inr rfl)) (fun _ _ _ _ _ => pts_nil) (fun _ _ _ _ _ => C8.pe_c c__law_leaf hr (by decide) rfl (pa_cons (pv 7) (pa_cons (pv 1) (pa_nil))))) (pa_cons (pv 2) (pa_nil))))))))) (pss_nil)) (pss_one (ps_ret (pv 3))))
theorem call_drawn {K : PySem.W.Frag} {ρ : Rho} {tl : TA} {ns : List Int} {c : Nat} (hc : c ≤ 6) (h : SPa tl ρ [pSeq K (ns.map V.int), pInt (c : Int), pInt (full c : Int)]) : SP (tCall (sp__law_drawn K) [] E0 tl) ρ (pEx (fun t : Nat => t < 2 ^ 2 ^ c) fun t => pInt (t : Int)) := SP.call (ns, c) h hc
end G

set_option Elab.async false
set_option linter.all false
set_option maxRecDepth 100000
set_option maxHeartbeats 400000
set_option autoImplicit false
namespace G
open PySem PySem.Spec PyProof.Rows L2 PD
open M53 (full leaf leafF half dep lastLeaf litT prT prodT cover DepLt Sub Asc)
local macro_rules | `(tactic| walk_at "lit") => `(tactic| (simp only [Nat.reduceLT, Nat.reducePow, Nat.reduceLeDiff]; done))
local macro_rules | `(tactic| walk_at "sp") => `(tactic| repeat' (first
  | with_reducible exact SP.int | with_reducible exact SP.bl | with_reducible exact SP.non | with_reducible exact SP.str
  | ((with_reducible apply SP.var); exact rfl)
  | with_reducible apply SP.tup | with_reducible apply SP.lst | with_reducible apply SP.op | with_reducible apply SP.cb | with_reducible apply SP.un | with_reducible exact SPa.nil | with_reducible apply SPa.cons
  | with_reducible exact O2.addN
  | with_reducible exact O2.mulN (.inr (by walk_at "lit"))
  | with_reducible exact O2.mulN (.inl (by walk_at "lit"))
  | with_reducible exact O2.modN (by walk_at "lit")
  | with_reducible exact O2.divN (by walk_at "lit") (by walk_at "lit")
  | with_reducible exact O2.powN (by walk_at "lit") (by walk_at "lit")
  | with_reducible exact O2.eqN
  | with_reducible exact O2.neN
  | with_reducible exact O2.ltN
  | with_reducible exact O2.leN
  | with_reducible exact O2.gtN
  | with_reducible exact O2.geN
  | with_reducible exact O2.andN
  | with_reducible exact O2.orN
  | with_reducible exact O2.xorN
  | with_reducible exact O2.shrN
  | with_reducible exact O2.addI
  | with_reducible exact O2.subI
  | with_reducible exact O2.eqI
  | with_reducible exact O2.neI
  | with_reducible exact O2.ltI
  | with_reducible exact O2.leI
  | with_reducible exact O2.gtI
  | with_reducible exact O2.geI
  | with_reducible exact O2.andI
  | with_reducible exact O2.orI
  | with_reducible exact O2.xorI
  | with_reducible exact On.lenL
  | with_reducible exact On.lenT
  | with_reducible exact On.lenQ
  | with_reducible exact On.int
  | with_reducible exact On.max2
  | with_reducible exact On.min2
  | with_reducible apply SPt.test | with_reducible apply SPt.val | with_reducible apply SPt.not
  | exact O2.addN | exact O2.mulN (.inr (by walk_at "lit")) | exact O2.mulN (.inl (by walk_at "lit")) | exact O2.modN (by walk_at "lit") | exact O2.divN (by walk_at "lit") (by walk_at "lit") | exact O2.powN (by walk_at "lit") (by walk_at "lit") | exact O2.eqN | exact O2.neN | exact O2.ltN | exact O2.leN | exact O2.gtN | exact O2.geN | exact O2.andN | exact O2.orN | exact O2.xorN | exact O2.shrN | exact O2.addI | exact O2.subI | exact O2.eqI | exact O2.neI | exact O2.ltI | exact O2.leI | exact O2.gtI | exact O2.geI | exact O2.andI | exact O2.orI | exact O2.xorI | exact On.lenL | exact On.lenT | exact On.lenQ | exact On.int | exact On.max2 | exact On.min2))
local macro_rules | `(tactic| walk_at "fits") => `(tactic| repeat' (first | exact True.intro | exact (fun _ _ h => h) | exact (fun _ _ h => ⟨_, trivial, h⟩) | refine And.intro ?_ ?_))
abbrev s_law : Stmt := top 17
theorem sc_law : FnScope ["_law_script", "_law_base", "_law_count", "_law_full", "_law_table_here", "_law_leaves", "_law_products", "_law_k", "_law_others", "_law_rest", "_law_literal", "_law_shorter", "_law_j", "_law_product", "_law_other"] ["_law_script"] (defScope s_law) := ⟨rfl, rfl, rfl, by decide +kernel, rfl, by decide +kernel, by decide +kernel⟩
def t_law (K : PySem.W.Frag) : TS := tSeq (tAsg (tCall (sp__law_cell K) [] E0 (tCons (tVar 0) (tCons (tC (.int ((0 : Nat) : Int))) (tNil)))) (gName 1)) (tSeq (tAsg (tOp (rI (fun _ j => 0 < j) fun i j => .int (i % j)) (tCB uInt (tCons (tOp (rI CDiv fun i j => .int (i / j)) (tVar 1) (tC (.int ((8 : Nat) : Int)))) (tNil))) (tC (.int ((5 : Nat) : Int)))) (gName 2)) (tSeq (tIfS (tTest (tOp (uEq K) (tOp (rI (fun _ j => 0 < j) fun i j => .int (i % j)) (tCB uInt (tCons (tVar 1) (tNil))) (tC (.int ((8 : Nat) : Int)))) (tC (.int ((5 : Nat) : Int))))) (tAsg (tOp (uAdd K) (tC (.int ((5 : Nat) : Int))) (tOp (rI (fun _ j => 0 < j) fun i j => .int (i % j)) (tCB uInt (tCons (tOp (rI CDiv fun i j => .int (i / j)) (tVar 1) (tC (.int ((8 : Nat) : Int)))) (tNil))) (tC (.int ((2 : Nat) : Int))))) (gName 2)) (tNext)) (tSeq (tAsg (tOp (rI0 fun i j => .int (i - j)) (tOp (rI CPow fun i j => .int (i * 2 ^ j.toNat)) (tC (.int ((1 : Nat) : Int))) (tOp (rI CPow fun i j => .int (i * 2 ^ j.toNat)) (tC (.int ((1 : Nat) : Int))) (tVar 2))) (tC (.int ((1 : Nat) : Int)))) (gName 3)) (tSeq (tAsg (tCall (sp__law_drawn K) [] E0 (tCons (tVar 0) (tCons (tVar 2) (tCons (tVar 3) (tNil))))) (gName 4)) (tSeq (tAsg (tLc (iRng1 (tCons (tVar 2) (tNil))) (gName 12) tYes (tCall sp__law_leaf [] E0 (tCons (tVar 12) (tCons (tVar 2) (tNil)))) [12]) (gName 5)) (tSeq (tAsg (tCall sp_sum_of_products [] E0 (tCons (tVar 4) (tCons (tVar 2) (tNil)))) (gName 6)) (tSeq (tIfS (tOr (tNot (tB (tCB (rIsi K) (tCons (tVar 6) (tCons (tC (.ty "list")) (tNil)))))) (tTest (tOp (rIn K false) (tC (.bl false)) (tLc (iO (iList K (tVar 6)) (iTup K (tVar 6))) (gName 13) tYes (tCall sp__law_is_product [] E0 (tCons (tVar 13) (tCons (tVar 2) (tNil)))) [13])))) (tRet (tC (.bl false))) (tNext)) (tSeq (tIfS (tTest (tOp (uNe K) (tCall sp__law_table [] E0 (tCons (tVar 6) (tCons (tVar 5) (tCons (tVar 3) (tNil))))) (tVar 4))) (tRet (tC (.bl false))) (tNext)) (tSeq (tFor (iRng1 (tCons (tCB (rLen K) (tCons (tVar 6) (tNil))) (tNil))) (gName 7) (tSeq (tIfS (tAnd (tTest (tOp (rI0 fun i j => .bl (decide (j < i))) (tVar 7) (tC (.int ((0 : Nat) : Int))))) (tNot (tTest (tOp (uLt K) (tOp (rIx K) (tVar 6) (tOp (rI0 fun i j => .int (i - j)) (tVar 7) (tC (.int ((1 : Nat) : Int))))) (tOp (rIx K) (tVar 6) (tVar 7)))))) (tRet (tC (.bl false))) (tNext)) (tSeq (tAsg (tOp (uAdd K) (tSl (rSlL K) (tVar 6) tNoPart (tPart (tVar 7))) (tSl (rSlL K) (tVar 6) (tPart (tOp (uAdd K) (tVar 7) (tC (.int ((1 : Nat) : Int))))) tNoPart)) (gName 8)) (tSeq (tAsg (tCall sp__law_table [] E0 (tCons (tVar 8) (tCons (tVar 5) (tCons (tVar 3) (tNil))))) (gName 9)) (tSeq (tIfS (tTest (tOp (uEq K) (tVar 9) (tVar 4))) (tRet (tC (.bl false))) (tNext)) (tFor (iO (iList K (tOp (rIx K) (tVar 6) (tVar 7))) (iTup K (tOp (rIx K) (tVar 6) (tVar 7)))) (gName 10) (tSeq (tAsg (tLc (iO (iList K (tOp (rIx K) (tVar 6) (tVar 7))) (iTup K (tOp (rIx K) (tVar 6) (tVar 7)))) (gName 14) (tTest (tOp (uNe K) (tVar 14) (tVar 10))) (tVar 14) [14]) (gName 11)) (tIfS (tTest (tOp (uEq K) (tOp (rI0 fun i j => .int (Builtin.bitOr i j)) (tVar 9) (tCall sp__law_table [] E0 (tCons (tLst (tCons (tVar 11) (tNil))) (tCons (tVar 5) (tCons (tVar 3) (tNil)))))) (tVar 4))) (tRet (tC (.bl false))) (tNext))))))))) (tRet (tC (.bl true))))))))))))
def sp_law (K : PySem.W.Frag) : Sp := spP (fun ns : List Int => [pSeq K (ns.map V.int)]) (fun _ => True) fun _ => pBool true
theorem len_law {K : PySem.W.Frag} {vs : List V} {H : Hp} {Q : VK} {E : XK} (h : sp_law K vs H Q E) : vs.length = 1 := by
  obtain ⟨x, F, _, _, ha, _⟩ := h
  exact ha.length.trans rfl
theorem cast_inj : ∀ {a b : List Nat}, (a.map fun l : Nat => (l : Int)) = b.map (fun l : Nat => (l : Int)) → a = b
  | [], [], _ => rfl
  | x :: a, y :: b, h => by
    rw [List.map_cons, List.map_cons] at h
    injection h with h1 h2
    rw [Int.ofNat.inj h1, cast_inj h2]
  | [], _ :: _, h => by cases h
  | _ :: _, [], h => by cases h
theorem cut_lo {α : Type} {X Y : List α} : cutP (X ++ Y) none (some ((X.length : Nat) : Int)) = X := by
  unfold cutP
  rw [HT.sIx_nat, HT.sIx_none, List.length_append, Nat.min_eq_left (Nat.le_add_right _ _)]
  simp
theorem cut_hi {α : Type} {X Y : List α} : cutP (X ++ Y) (some ((X.length : Nat) : Int)) none = Y := by
  unfold cutP
  rw [HT.sIx_nat, HT.sIx_none, List.length_append, Nat.min_eq_left (Nat.le_add_right _ _)]
  simp
theorem body_law {K : PySem.W.Frag} {vs : List V} {H : Hp} {Q : VK} {E : XK} (h : sp_law K vs H Q E) : t_law K { nx := fun _ H' => Q .non H', rt := Q } (L2.start ["_law_script", "_law_base", "_law_count", "_law_full", "_law_table_here", "_law_leaves", "_law_products", "_law_k", "_law_others", "_law_rest", "_law_literal", "_law_shorter", "_law_j", "_law_product", "_law_other"] vs) H := by
  refine pure_body (fun _ => Nat.le_of_ble_eq_true rfl) (fun x B hx => ?_) h
  obtain ⟨ns, rfl⟩ : ∃ ns, ns = x := ⟨_, rfl⟩
  show SS B _ [some (pSeq K (ns.map V.int)), none, none, none, none, none, none, none, none, none, none, none, none, none, none] [] _
  refine SS.seq (SS.asg (call_cell (k := 0) (by decide) (by walk_at "sp")) ?_)
  generalize cell ns 0 = b
  refine SS.seq (SS.asg (P := pInt ((b / 8 % 5 : Nat) : Int)) (by walk_at "sp") ?_)
  refine SS.join [some (pSeq K (ns.map V.int)), some (pInt (b : Int)), some (pEx (fun c : Nat => c ≤ 6) fun c => pInt (c : Int)), none, none, none, none, none, none, none, none, none, none, none, none] [] (SS.ite (b := decide (b % 8 = 5)) (by walk_at "sp") (fun h => ?_) (fun h => SS.nil ⟨⟨fun _ _ h => h, fun _ _ h => h, fun _ _ h => ⟨_, by show b / 8 % 5 ≤ 6; omega, h⟩, trivial⟩, rfl⟩)) ?_
  · exact SS.asg (P := pInt ((5 + b / 8 % 2 : Nat) : Int)) (by walk_at "sp") ⟨⟨fun _ _ h => h, fun _ _ h => h, fun _ _ h => ⟨_, by show 5 + b / 8 % 2 ≤ 6; omega, h⟩, trivial⟩, rfl⟩
  refine SS.open (k := 2) rfl fun c hc => ?_
  have h6 := pow6 hc
  refine SS.seq (SS.asg (P := pInt (full c : Int)) (SP.op (P := pInt ((1 <<< (1 <<< c) : Nat) : Int)) (SP.op SP.int (SP.op SP.int (SP.var rfl) (O2.shlN (by omega) (by decide))) (O2.shlN (by rw [shl1]; omega) (by decide))) SP.int ((O2.subN (by rw [shl1, shl1]; exact Nat.two_pow_pos _)).to (by rw [shl1, shl1]; rfl))) ?_)
  refine SS.seq (SS.asg (call_drawn hc (by walk_at "sp")) ?_)
  refine SS.open (k := 4) rfl fun t ht => ?_
  refine SS.seq (SS.asg (lvs_ok (K := K) hc rfl rfl (by show 12 < 15; decide) (by decide)) ?_)
  refine SS.seq (SS.asg (call_sop hc ht (by walk_at "sp")) ?_)
  have hg := (sop_good ht).perm (List.mergeSort_perm (cover c c t t) (PySem.W.dataLe false fun pr : List Nat => .tuple ((pr.map fun l : Nat => (l : Int)).map .int)))
  have hs := sorted_rows (fun pr : List Nat => pr.map fun l : Nat => (l : Int)) (fun a b h => cast_inj h) (sop_good ht).nd
  change M53.Good c t t (sop t c) at hg
  change (sop t c).Pairwise _ at hs
  have hn : (sop t c).length ≤ 729 := by
    unfold sop
    rw [List.length_mergeSort]
    exact cov_small hc (Nat.le_refl _)
  generalize sop t c = ps at hg hs hn
  have hasc := fun pr hp => hg.asc c DepLt.top DepLt.top (Nat.le_refl _) pr hp
  have hl2 : ∀ pr ∈ ps, ∀ l ∈ pr, l / 2 < c := fun pr hp l hl => (hasc pr hp).lt l hl
  refine SS.seq (SS.ite (b := false) (SPt.to (SPt.or (SPt.not (SPt.val (SP.cb (SPa.cons (SP.var rfl) (SPa.cons SP.ty SPa.nil)) (On.isi (Kd.lst _) (b := true) (by decide +kernel))))) fun _ => SPt.test (SP.op SP.bl (SP.to (SP.lc0 (is := [13]) (e := prP) (q := fun _ => pBool true) (xs := ps) (SI.o1 (SI.list (SP.var rfl))) (by decide) (fun pr hp => ⟨_, ST.name, call_isprod (hasc pr hp) (by walk_at "sp")⟩) (by omega)) (Q := pLst ((ps.map fun _ => true).map pBool)) (by rw [List.map_map]; rfl)) O2.inB)) ?_) (fun h => by cases h) (fun h => SS.nil ?_))
  · show (!true || _) = false
    rw [List.any_map]
    simp
  have ep : prK true = prP := rfl
  refine SS.seq (SS.ite (b := false) (SPt.to (SPt.test (SP.op (call_table (b := true) hc hl2 (by rw [ep]; walk_at "sp")) (SP.var rfl) O2.neN)) (by rw [hg.tab ht, decide_eq_true rfl]; rfl)) (fun h => by cases h) (fun h => SS.nil ?_))
  refine SS.seq (SS.forF (is := [7]) (e := fun k : Nat => pInt (k : Int)) (xs := List.range ps.length) (SI.rangeN (SPa.cons (SP.to (by walk_at "sp") (by rw [List.length_map])) SPa.nil) (by omega))
    (fun ys => [some (pSeq K (ns.map V.int)), some (pInt (b : Int)), some (pInt (c : Int)), some (pInt (full c : Int)), some (pInt (t : Int)), some (lvs c), some (pLst (ps.map prP)), none, none, none, none, none, none, none, none]) (fun ys => []) (by walk_at "fits") rfl (fun ys k zs e => ?_) fun ρ' hf => SS.fits hf (SS.retP SP.bl fun v F h => h))
  have hk : k < ps.length := List.mem_range.mp (mem_mid e)
  refine ⟨_, ST.name, ?_⟩
  obtain ⟨X, pr, Y, eX, eP⟩ : ∃ X pr Y, X.length = k ∧ ps = X ++ pr :: Y := ⟨ps.take k, ps[k], ps.drop (k + 1), by rw [List.length_take]; omega, by
    conv => lhs; rw [← List.take_append_drop k ps]
    rw [List.drop_eq_getElem_cons hk]⟩
  have hX : X.length + Y.length ≤ 729 := by rw [eP, List.length_append, List.length_cons] at hn; omega
  have eps : (X ++ pr :: Y).map prP = X.map prP ++ prP pr :: Y.map prP := by rw [List.map_append, List.map_cons]
  have at_k : ∀ K' : PySem.W.Frag, O2 (rIx K') (pLst (ps.map prP)) (pInt (k : Int)) (prP pr) := fun K' => O2.ixL (atI_pos rfl (by rw [eP, List.getElem?_map, List.getElem?_append_right (by omega), eX, Nat.sub_self]; rfl))
  have hpr : pr ∈ ps := by rw [eP]; simp
  have hXY : ∀ q ∈ X ++ Y, ∀ l ∈ q, l / 2 < c := fun q hq => hl2 q (by
    rw [eP]
    rcases List.mem_append.mp hq with z | z
    · exact List.mem_append_left _ z
    · exact List.mem_append_right _ (List.mem_cons_of_mem _ z))
  refine SS.seq (SS.ite (b := false) (SPt.to (b := decide (0 < k) && false) (SPt.and (by walk_at "sp") fun h0 => SPt.to (b := !true) (SPt.not (SPt.test ?_)) rfl) (Bool.and_false _)) (fun h => by cases h) (fun h => SS.nil ?_))
  · have h0 : 0 < k := of_decide_eq_true h0
    obtain ⟨X', q, eq⟩ : ∃ X' q, X = X' ++ [q] := by
      rcases List.eq_nil_or_concat X with z | ⟨X', q, z⟩
      · subst z
        simp at eX
        omega
      · exact ⟨X', q, by rw [z, List.concat_eq_append]⟩
    have hlt : q.map (fun l : Nat => (l : Int)) < pr.map (fun l : Nat => (l : Int)) := by
      rw [eP, eq, List.pairwise_append] at hs
      exact hs.2.2 q (by simp) pr (by simp)
    refine SP.to (SP.op (SP.op (SP.var rfl) (SP.op (SP.var rfl) SP.int (O2.subN (by omega))) (O2.ixL (P := prP q) (atI_pos rfl ?_))) (SP.op (SP.var rfl) (SP.var rfl) (at_k K)) (by rw [prP_eq]; exact O2.ltT)) (by rw [decide_eq_true hlt])
    have eq' : X'.length = k - 1 := by rw [eq, List.length_append, List.length_singleton] at eX; omega
    rw [eP, eq, List.append_assoc, List.getElem?_map, List.getElem?_append_right (by omega), eq', Nat.sub_self]
    rfl
  have e1 : cutP (ps.map prP) none (some ((k : Nat) : Int)) = X.map prP := by
    rw [cutP_map, eP, ← eX, cut_lo]
  have e2 : cutP (ps.map prP) (some ((k + 1 : Nat) : Int)) none = Y.map prP := by
    rw [cutP_map, eP, ← eX, show X ++ pr :: Y = (X ++ [pr]) ++ Y by simp, show X.length + 1 = (X ++ [pr]).length by simp, cut_hi]
  refine SS.seq (SS.asg (P := pLst ((X ++ Y).map prP)) (SP.op (SP.to (SP.cut (SP.var rfl) SPo.no (SPo.part (by walk_at "sp"))) (congrArg pLst e1)) (SP.to (SP.cut (SP.var rfl) (SPo.part (by walk_at "sp")) SPo.no) (congrArg pLst e2)) ((O2.addL (by rw [List.length_map, List.length_map]; omega)).to (by rw [List.map_append]))) ?_)
  refine SS.seq (SS.asg (call_table (b := true) hc hXY (by rw [ep]; walk_at "sp")) ?_)
  have hrest : prodT (X ++ Y) c ≠ t := M53.Good.rest (pr := pr) (by rw [← eP]; exact hg)
  refine SS.seq (SS.ite (b := false) (SPt.to (by walk_at "sp") (decide_eq_false hrest)) (fun h => by cases h) (fun h => SS.nil ?_))
  refine SS.forF (is := [10]) (e := fun l : Nat => pInt (l : Int)) (xs := pr) (SI.o2 (SI.tup (SP.op (SP.var rfl) (SP.var rfl) (at_k K))))
    (fun ls => [some (pSeq K (ns.map V.int)), some (pInt (b : Int)), some (pInt (c : Int)), some (pInt (full c : Int)), some (pInt (t : Int)), some (lvs c), some (pLst (ps.map prP)), some (pInt (k : Int)), none, some (pInt (prodT (X ++ Y) c : Int)), none, none, none, none, none]) (fun ls => []) (by walk_at "fits") rfl (fun ls l ms e3 => ?_) fun ρ' hf => ⟨hf.trans (by walk_at "fits"), rfl⟩
  · have hl : l ∈ pr := mem_mid e3
    refine ⟨_, ST.name, ?_⟩
    have hlen : pr.length ≤ 6 := Nat.le_trans (hasc pr hpr).length_le hc
    refine SS.seq (SS.asg (SP.lc (is := [14]) (e := fun l : Nat => pInt (l : Int)) (q := fun l : Nat => pInt (l : Int)) (p := fun m => !decide (m = l)) (xs := pr) (SI.o2 (SI.tup (SP.op (SP.var rfl) (SP.var rfl) (at_k K)))) (by decide) (fun m hm => ⟨_, ST.name, by walk_at "sp", fun _ => by walk_at "sp"⟩) (by omega)) ?_)
    have hne : prodT (X ++ Y) c ||| prodT [pr.filter fun m => !decide (m = l)] c ≠ t := M53.Good.short (by rw [← eP]; exact hg) hl
    refine SS.ite (b := false) (SPt.to (SPt.test (SP.op (SP.op (SP.var rfl) (call_table (b := false) (ps := [pr.filter fun m => !decide (m = l)]) hc (fun q hq l' hl' => ?_) (SPa.cons (SP.lst (SPa.cons (SP.var rfl) SPa.nil)) (SPa.cons (SP.var rfl) (SPa.cons (SP.var rfl) SPa.nil)))) O2.orN) (SP.var rfl) O2.eqN)) (decide_eq_false hne)) (fun h => by cases h) (fun h => SS.nil ⟨by walk_at "fits", rfl⟩)
    rw [List.mem_singleton.mp hq] at hl'
    exact hl2 pr hpr l' (List.mem_filter.mp hl').1
theorem ok_law {P : Program} {w : World} {K : PySem.W.Frag} {mg : Str → Option Value} {base : Heap} {f : Addr} {fd : FuncData} (T : Txt K mg) (F : FnP K "law" "law" s_law f fd) (c__law_cell : C8.Cal P w K mg base 1 "_law_cell" (sp__law_cell K) []) (c__law_drawn : C8.Cal P w K mg base 2 "_law_drawn" (sp__law_drawn K) []) (c__law_is_product : C8.Cal P w K mg base 2 "_law_is_product" sp__law_is_product []) (c__law_leaf : C8.Cal P w K mg base 1 "_law_leaf" sp__law_leaf []) (c__law_table : C8.Cal P w K mg base 1 "_law_table" sp__law_table []) (c_sum_of_products : C8.Cal P w K mg base 12 "sum_of_products" sp_sum_of_products [])  : FnOk P w K mg base CX0 13 f fd ["_law_script"] (sp_law K) := by
  refine F.ok sc_law (fun vs H Q E h => len_law h) (fun cdv A outer s H vs Q E hr h => ⟨t_law K, PSs.nox ?_, body_law h⟩)
  have nd := sc_law.nd
  exact pss_cons (ps_set (i := 1) nd rfl (by first | exact Or.inl rfl | exact Or.inr rfl) (C8.pe_c c__law_cell hr (by decide) rfl (pa_cons (pv 0) (pa_cons (pe_int) (pa_nil))))) (pss_cons (ps_set (i := 2) nd rfl (by first | exact Or.inl rfl | exact Or.inr rfl) (pe_op op_mod (pe_callTy call_int1 rfl T.f_int (by decide +kernel) (pa_cons (pe_op op_fdiv (pv 1) (pe_int)) (pa_nil))) (pe_int))) (pss_cons (ps_if (pt_cmpR (op_eqU hr.units) (pe_op op_mod (pe_callTy call_int1 rfl T.f_int (by decide +kernel) (pa_cons (pv 1) (pa_nil))) (pe_int)) (pe_int) (nomark _)) (pss_one (ps_set (i := 2) nd rfl (by first | exact Or.inl rfl | exact Or.inr rfl) (pe_op op_addU (pe_int) (pe_op op_mod (pe_callTy call_int1 rfl T.f_int (by decide +kernel) (pa_cons (pe_op op_fdiv (pv 1) (pe_int)) (pa_nil))) (pe_int))))) (pss_nil)) (pss_cons (ps_set (i := 3) nd rfl (by first | exact Or.inl rfl | exact Or.inr rfl) (pe_op op_sub (pe_op op_shl (pe_int) (pe_op op_shl (pe_int) (pv 2))) (pe_int))) (pss_cons (ps_set (i := 4) nd rfl (by first | exact Or.inl rfl | exact Or.inr rfl) (C8.pe_c c__law_drawn hr (by decide) rfl (pa_cons (pv 0) (pa_cons (pv 2) (pa_cons (pv 3) (pa_nil)))))) (pss_cons (ps_setLc (i := 5) (own := [("_law_j", 12)]) rfl nd rfl rfl (sw_true rfl rfl rfl (by decide +kernel)) (pi_range1 rfl T.f_range (pa_cons (pv 2) (pa_nil))) (blkOk_by (N := ["_law_script", "_law_base", "_law_count", "_law_full", "_law_table_here", "_law_leaves", "_law_products", "_law_k", "_law_others", "_law_rest", "_law_literal", "_law_shorter", "_law_j", "_law_product", "_law_other"]) (sc := (defScope s_law)) (by decide +kernel)) (fun _ _ _ _ _ => pg_name (i := 12) nd rfl (by first | exact Or.inl rfl | exact Or.inr rfl)) (fun _ _ _ _ _ => pts_nil) (fun _ _ _ _ _ => C8.pe_c c__law_leaf hr (by decide) rfl (pa_cons (pv 12) (pa_cons (pv 2) (pa_nil))))) (pss_cons (ps_set (i := 6) nd rfl (by first | exact Or.inl rfl | exact Or.inr rfl) (C8.pe_c c_sum_of_products hr (by decide) rfl (pa_cons (pv 4) (pa_cons (pv 2) (pa_nil))))) (pss_cons (ps_if (PW.pt (pw_or (pt_not (pt_val (pe_callB call_isi rfl T.f_isinstance (by decide +kernel) (pa_cons (pv 6) (pa_cons (pe_bltn rfl T.f_list (by decide +kernel) rfl) (pa_nil)))) (fun _ => rfl))) (pw_or1 (pt_cmpR op_in_seq (pe_bl) (pe_lc (own := [("_law_product", 13)]) rfl nd (PI.or (pi_list (pv 6)) (pi_tup (pv 6))) (blkOk_by (N := ["_law_script", "_law_base", "_law_count", "_law_full", "_law_table_here", "_law_leaves", "_law_products", "_law_k", "_law_others", "_law_rest", "_law_literal", "_law_shorter", "_law_j", "_law_product", "_law_other"]) (sc := (defScope s_law)) (by decide +kernel)) (fun _ _ _ _ _ => pg_name (i := 13) nd rfl (by first | exact Or.inl rfl | exact Or.inr rfl)) (fun _ _ _ _ _ => pts_nil) (fun _ _ _ _ _ => C8.pe_c c__law_is_product hr (by decide) rfl (pa_cons (pv 13) (pa_cons (pv 2) (pa_nil))))) (by with_unfolding_all rfl))))) (pss_one (ps_ret (pe_bl))) (pss_nil)) (pss_cons (ps_if (pt_cmpR (op_neU hr.units) (C8.pe_c c__law_table hr (by decide) rfl (pa_cons (pv 6) (pa_cons (pv 5) (pa_cons (pv 3) (pa_nil))))) (pv 4) (nomark _)) (pss_one (ps_ret (pe_bl))) (pss_nil)) (pss_cons (ps_for PassesOwn.never rfl (pi_range1 rfl T.f_range (pa_cons (pe_callB call_len rfl T.f_len PySem.boot_len (pa_cons (pv 6) (pa_nil))) (pa_nil))) (pg_name (i := 7) nd rfl (by first | exact Or.inl rfl | exact Or.inr rfl)) (pss_cons (ps_if (PW.pt (pw_and (pt_cmpR op_gt (pv 7) (pe_int) (nomark _)) (pw_and1 (pt_not (pt_cmpR (op_ltU hr.units) (pe_ix ix_seq (pv 6) (pe_op op_sub (pv 7) (pe_int)) (fun _ _ => rfl)) (pe_ix ix_seq (pv 6) (pv 7) (fun _ _ => rfl)) (nomark _)))))) (pss_one (ps_ret (pe_bl))) (pss_nil)) (pss_cons (ps_set (i := 8) nd rfl (by first | exact Or.inl rfl | exact Or.inr rfl) (pe_op op_addU (pe_slice sl_list (pv 6) po_none (po_some (pv 7))) (pe_slice sl_list (pv 6) (po_some (pe_op op_addU (pv 7) (pe_int))) po_none))) (pss_cons (ps_set (i := 9) nd rfl (by first | exact Or.inl rfl | exact Or.inr rfl) (C8.pe_c c__law_table hr (by decide) rfl (pa_cons (pv 8) (pa_cons (pv 5) (pa_cons (pv 3) (pa_nil)))))) (pss_cons (ps_if (pt_cmpR (op_eqU hr.units) (pv 9) (pv 4) (nomark _)) (pss_one (ps_ret (pe_bl))) (pss_nil)) (pss_one (ps_for PassesOwn.never rfl (PI.or (pi_list (pe_ix ix_seq (pv 6) (pv 7) (fun _ _ => rfl))) (pi_tup (pe_ix ix_seq (pv 6) (pv 7) (fun _ _ => rfl)))) (pg_name (i := 10) nd rfl (by first | exact Or.inl rfl | exact Or.inr rfl)) (pss_cons (ps_setLc (i := 11) (own := [("_law_other", 14)]) rfl nd rfl rfl (sw_true rfl rfl rfl (by decide +kernel)) (PI.or (pi_list (pe_ix ix_seq (pv 6) (pv 7) (fun _ _ => rfl))) (pi_tup (pe_ix ix_seq (pv 6) (pv 7) (fun _ _ => rfl)))) (blkOk_by (N := ["_law_script", "_law_base", "_law_count", "_law_full", "_law_table_here", "_law_leaves", "_law_products", "_law_k", "_law_others", "_law_rest", "_law_literal", "_law_shorter", "_law_j", "_law_product", "_law_other"]) (sc := (defScope s_law)) (by decide +kernel)) (fun _ _ _ _ _ => pg_name (i := 14) nd rfl (by first | exact Or.inl rfl | exact Or.inr rfl)) (fun _ _ _ _ _ => pts_one (pt_cmpR (op_neU hr.units) (pv 14) (pv 10) (nomark _))) (fun _ _ _ _ _ => pv 14)) (pss_one (ps_if (pt_cmpR (op_eqU hr.units) (pe_op op_or (pv 9) (C8.pe_c c__law_table hr (by decide) rfl (pa_cons (pe_lst (pa_cons (pv 11) (pa_nil))) (pa_cons (pv 5) (pa_cons (pv 3) (pa_nil)))))) (pv 4) (nomark _)) (pss_one (ps_ret (pe_bl))) (pss_nil))))))))))) (pss_one (ps_ret (pe_bl))))))))))))
def d0 : He.DefD := ⟨("full_table", none), "full_table", "full_table", defArgs s_full_table, defBody s_full_table, defScope s_full_table, [], []⟩
def d1 : He.DefD := ⟨("leaf_table", none), "leaf_table", "leaf_table", defArgs s_leaf_table, defBody s_leaf_table, defScope s_leaf_table, [], []⟩
def d2 : He.DefD := ⟨("half_table", none), "half_table", "half_table", defArgs s_half_table, defBody s_half_table, defScope s_half_table, [], []⟩
def d3 : He.DefD := ⟨("depends_on", none), "depends_on", "depends_on", defArgs s_depends_on, defBody s_depends_on, defScope s_depends_on, [], []⟩
def d4 : He.DefD := ⟨("products_table", none), "products_table", "products_table", defArgs s_products_table, defBody s_products_table, defScope s_products_table, [], []⟩
def d5 : He.DefD := ⟨("last_leaf", none), "last_leaf", "last_leaf", defArgs s_last_leaf, defBody s_last_leaf, defScope s_last_leaf, [], []⟩
def d6 : He.DefD := ⟨("covering", none), "covering", "covering", defArgs s_covering, defBody s_covering, defScope s_covering, [], []⟩
def d7 : He.DefD := ⟨("sum_of_products", none), "sum_of_products", "sum_of_products", defArgs s_sum_of_products, defBody s_sum_of_products, defScope s_sum_of_products, [], []⟩
def d8 : He.DefD := ⟨("_law_cell", none), "_law_cell", "_law_cell", defArgs s__law_cell, defBody s__law_cell, defScope s__law_cell, [], []⟩
def d9 : He.DefD := ⟨("_law_is_integer", none), "_law_is_integer", "_law_is_integer", defArgs s__law_is_integer, defBody s__law_is_integer, defScope s__law_is_integer, [], []⟩
def d10 : He.DefD := ⟨("_law_leaf", none), "_law_leaf", "_law_leaf", defArgs s__law_leaf, defBody s__law_leaf, defScope s__law_leaf, [], []⟩
def d11 : He.DefD := ⟨("_law_table", none), "_law_table", "_law_table", defArgs s__law_table, defBody s__law_table, defScope s__law_table, [], []⟩
def d12 : He.DefD := ⟨("_law_is_product", none), "_law_is_product", "_law_is_product", defArgs s__law_is_product, defBody s__law_is_product, defScope s__law_is_product, [], []⟩
def d13 : He.DefD := ⟨("_law_drawn", none), "_law_drawn", "_law_drawn", defArgs s__law_drawn, defBody s__law_drawn, defScope s__law_drawn, [], []⟩
def d14 : He.DefD := ⟨("law", none), "law", "law", defArgs s_law, defBody s_law, defScope s_law, [], []⟩
def fn : List He.DefD := [d0, d1, d2, d3, d4, d5, d6, d7, d8, d9, d10, d11, d12, d13, d14]
def fa0 : List He.Fa := [.glo "full_table", .glo "leaf_table", .glo "half_table", .glo "depends_on", .glo "products_table", .glo "last_leaf", .glo "covering", .glo "sum_of_products", .glo "_law_cell", .glo "_law_is_integer", .glo "_law_leaf", .glo "_law_table", .glo "_law_is_product", .glo "_law_drawn", .glo "law", .free "bool", .free "int", .free "isinstance", .free "len", .free "list", .free "range", .free "sorted", .free "sum", .free "tuple"]
def fa : List He.Fa := fa0
def nm0 : List PySem.Str := ["full_table", "leaf_table", "half_table", "depends_on", "products_table", "last_leaf", "covering", "sum_of_products", "_law_cell", "_law_is_integer", "_law_leaf", "_law_table", "_law_is_product", "_law_drawn"]
def nms : List PySem.Str := nm0
abbrev R : PySem.W.OpenRow := PySem.W.OpenLaw.row PySem.Challenge.rw_suregate_k53_sums_that_cannot_be_shorten
abbrev hk : PySem.W.Hook := He.hookD 5 fa fn
def ob (s : PySem.W.SharedT) : He.AlD := He.obsDG 5 fa fn (HandSHeadRun.getT s)
theorem ob_eq (s : PySem.W.SharedT) : ob s = hk.obs s.abs := He.obsDG_eq (HandSHeadRun.getT_eq s)
set_option maxHeartbeats 0 in
theorem run (w : World) : HandSHeadRun.RunEq R (PySem.W.view R.prog [17]) hk ob 1000 nms w := by
  intro os
  kernel_rfl
theorem facts {P : Program} {w : World} {K : PySem.W.Frag} {h : Heap} {mg : Str → Option Value} {f : Addr} (X : K.In h) (G : h.Ns mainGlobals mg) (hfa : mg ("law" : Str) = some (.ref f)) (c : He.SaysD fa fn K) :
    ∃ fd : FuncData, (∀ (s : Shared) (v : Value), BindsTo s fd ⟨[v], []⟩ [("_law_script", v)]) ∧ ∀ base : Heap, K.In base → base.Ns mainGlobals mg → FnOk P w K mg base CX0 13 f fd ["_law_script"] (sp_law K) := by
  have T : Txt K mg := { f_bool := He.free_ok X G (c.fact 15 (f := .free "bool") rfl), f_int := He.free_ok X G (c.fact 16 (f := .free "int") rfl), f_isinstance := He.free_ok X G (c.fact 17 (f := .free "isinstance") rfl), f_len := He.free_ok X G (c.fact 18 (f := .free "len") rfl), f_list := He.free_ok X G (c.fact 19 (f := .free "list") rfl), f_range := He.free_ok X G (c.fact 20 (f := .free "range") rfl), f_sorted := He.free_ok X G (c.fact 21 (f := .free "sorted") rfl), f_sum := He.free_ok X G (c.fact 22 (f := .free "sum") rfl), f_tuple := He.free_ok X G (c.fact 23 (f := .free "tuple") rfl), ok := trivial }
  obtain ⟨fd_full_table, F_full_table⟩ := c.def_ 0 (d := d0) rfl
  obtain ⟨fd_leaf_table, F_leaf_table⟩ := c.def_ 1 (d := d1) rfl
  obtain ⟨fd_half_table, F_half_table⟩ := c.def_ 2 (d := d2) rfl
  obtain ⟨fd_depends_on, F_depends_on⟩ := c.def_ 3 (d := d3) rfl
  obtain ⟨fd_products_table, F_products_table⟩ := c.def_ 4 (d := d4) rfl
  obtain ⟨fd_last_leaf, F_last_leaf⟩ := c.def_ 5 (d := d5) rfl
  obtain ⟨fd_covering, F_covering⟩ := c.def_ 6 (d := d6) rfl
  obtain ⟨fd_sum_of_products, F_sum_of_products⟩ := c.def_ 7 (d := d7) rfl
  obtain ⟨fd__law_cell, F__law_cell⟩ := c.def_ 8 (d := d8) rfl
  obtain ⟨fd__law_is_integer, F__law_is_integer⟩ := c.def_ 9 (d := d9) rfl
  obtain ⟨fd__law_leaf, F__law_leaf⟩ := c.def_ 10 (d := d10) rfl
  obtain ⟨fd__law_table, F__law_table⟩ := c.def_ 11 (d := d11) rfl
  obtain ⟨fd__law_is_product, F__law_is_product⟩ := c.def_ 12 (d := d12) rfl
  obtain ⟨fd__law_drawn, F__law_drawn⟩ := c.def_ 13 (d := d13) rfl
  obtain ⟨fd_law, F_law⟩ := c.def_ 14 (d := d14) rfl
  have e := hfa.symm.trans (He.glo_ok X G (c.fact 14 (f := .glo "law") rfl))
  cases e
  have b := FunD.bindsA (ps := ["_law_script"]) F_law fun _ _ _ _ _ _ us hl => match us, hl with | [_], _ => rfl
  refine ⟨fd_law, fun s v => b s [v] rfl, fun base _ _ => ?_⟩
  have C_full_table := ok_full_table (P := P) (w := w) (base := base) T F_full_table (He.glo_ok X G (c.fact 0 (f := .glo "full_table") rfl))  
  have C_leaf_table := ok_leaf_table (P := P) (w := w) (base := base) T F_leaf_table (He.glo_ok X G (c.fact 1 (f := .glo "leaf_table") rfl))  
  have C_half_table := ok_half_table (P := P) (w := w) (base := base) T F_half_table (He.glo_ok X G (c.fact 2 (f := .glo "half_table") rfl)) C_full_table C_leaf_table 
  have C_depends_on := ok_depends_on (P := P) (w := w) (base := base) T F_depends_on (He.glo_ok X G (c.fact 3 (f := .glo "depends_on") rfl)) C_half_table 
  have C_products_table := ok_products_table (P := P) (w := w) (base := base) T F_products_table (He.glo_ok X G (c.fact 4 (f := .glo "products_table") rfl)) C_full_table C_leaf_table 
  have C_last_leaf := ok_last_leaf (P := P) (w := w) (base := base) T F_last_leaf (He.glo_ok X G (c.fact 5 (f := .glo "last_leaf") rfl)) C_depends_on 
  have C_covering := ok_covering (P := P) (w := w) (base := base) T F_covering (He.glo_ok X G (c.fact 6 (f := .glo "covering") rfl)) C_full_table C_half_table C_last_leaf C_products_table  6
  have C_sum_of_products := ok_sum_of_products (P := P) (w := w) (base := base) T F_sum_of_products (He.glo_ok X G (c.fact 7 (f := .glo "sum_of_products") rfl)) C_covering 
  have C__law_cell := ok__law_cell (P := P) (w := w) (base := base) T F__law_cell (He.glo_ok X G (c.fact 8 (f := .glo "_law_cell") rfl))  
  have C__law_is_integer := ok__law_is_integer (P := P) (w := w) (base := base) T F__law_is_integer (He.glo_ok X G (c.fact 9 (f := .glo "_law_is_integer") rfl))  
  have C__law_leaf := ok__law_leaf (P := P) (w := w) (base := base) T F__law_leaf (He.glo_ok X G (c.fact 10 (f := .glo "_law_leaf") rfl))  
  have C__law_table := ok__law_table (P := P) (w := w) (base := base) T F__law_table (He.glo_ok X G (c.fact 11 (f := .glo "_law_table") rfl))  
  have C__law_is_product := ok__law_is_product (P := P) (w := w) (base := base) T F__law_is_product (He.glo_ok X G (c.fact 12 (f := .glo "_law_is_product") rfl)) C__law_is_integer 
  have C__law_drawn := ok__law_drawn (P := P) (w := w) (base := base) T F__law_drawn (He.glo_ok X G (c.fact 13 (f := .glo "_law_drawn") rfl)) C__law_cell C__law_leaf C__law_table 
  exact ok_law T F_law C__law_cell C__law_drawn C__law_is_product C__law_leaf C__law_table C_sum_of_products 
theorem fin_law {K : PySem.W.Frag} {H : Hp} {E : XK} {a : Addr} {ns : List Int} (hl : ns.length ≤ 63) (hS : SqL K H a (ns.map V.int)) : sp_law K [.ref a] H (fun v _ => v = .bl true) E := ⟨ns, H, trivial, Same.refl _, ⟨⟨a, rfl, hS⟩, trivial⟩, fun _ _ _ _ p => p⟩
end G
open PySem PySem.W PySem.Calls PyProof.Rows
set_option maxRecDepth 100000 in
set_option maxHeartbeats 0 in
theorem PySem.Challenge.cw_suregate_k53_sums_that_cannot_be_shorten_holds : PySem.Challenge.rw_suregate_k53_sums_that_cannot_be_shorten.Holds := by
  w_on; o_law
  refine HandSHeadRun.head_any (r := OpenLaw.row PySem.Challenge.rw_suregate_k53_sums_that_cannot_be_shorten) (q := view (OpenLaw.row PySem.Challenge.rw_suregate_k53_sums_that_cannot_be_shorten).prog [17]) (H := G.hk) (ob := G.ob) (M := 1000) (loose := G.nms) (d := HandSHeadRun.topDef (OpenLaw.row PySem.Challenge.rw_suregate_k53_sums_that_cannot_be_shorten).prog 17) (kwd := []) G.ob_eq
    (by kernel_rfl) (fun s => by kernel_rfl) G.run (by kernel_rfl) (by kernel_rfl) (by kernel_rfl) (by rfl) (by first | assumption | decide +kernel) (by decide +kernel) ⟨rfl, rfl, rfl, rfl, rfl, by decide +kernel⟩ ?hw ?hc
  case hw => w_witness2
  case hc =>
    refine L2.walk_ofE (l := PySem.Challenge.rw_suregate_k53_sums_that_cannot_be_shorten) (n := 63) (k := 13) (x := "_law_script") (CX := L2.CX0) rfl (by decide) (by kernel_rfl) ⟨rfl, by decide, by decide⟩ ?F (fun _ _ _ _ z => z)
    intro w mg fa h Y Gx hmg0
    obtain ⟨K, KX, c⟩ := Y
    have hmg : mg ("law" : PySem.Str) = some (.ref fa) := by
      have e : (HandSHeadRun.topDef (OpenLaw.row PySem.Challenge.rw_suregate_k53_sums_that_cannot_be_shorten).prog 17).name = ("law" : PySem.Str) := by kernel_rfl
      rw [← e]
      exact hmg0
    obtain ⟨fd, hb, hF⟩ := G.facts (P := (PySem.Challenge.rw_suregate_k53_sums_that_cannot_be_shorten).prog) (w := w) KX Gx hmg c
    exact ⟨K, fd, G.sp_law K, KX, hb, fun H a ns hl _ hS => G.fin_law hl hS, hF⟩
#print axioms PySem.Challenge.cw_suregate_k53_sums_that_cannot_be_shorten_holds
