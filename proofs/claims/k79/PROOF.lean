import PyProof.Rows.All
import Wide.All
import OpenK.AllK
import Wide.FinOn
import HandS.ForMost
import HandS.ForExc
import HandS.Wide
import HandS.Deep
import HandS.IsInst
import HandS.TryOnly
import HandS.Zip
import HandS.Small
import HandS.Text
import HandS.Style
import HandS.WordsDict
import HandS.RaiseMore
import HandS.Defaults
import HandS.Sort
import KE.KStateDown
import HandS.Head0
import HandS.Head1
import HandS.Head2
import HandS.HeadEnd
import HandS.HeadHook1
import HandS.HeadHook2
import HandS.IterVal
import HandS.Conv
import PySem.Challenge.RW_dapple_k79_strength_against_blots
set_option Elab.async false
set_option linter.all false
set_option maxRecDepth 100000
set_option maxHeartbeats 4000000
/-! TL1: values as trees, what a tree is in the abstract heap, who owns which address -/
namespace TL
open PySem PySem.Spec PyProof.Rows L2

/-- a value as a tree -/
inductive T where
  | non | bl (b : Bool) | int (i : Int) | str (x : Str)
  | lst (xs : List T) | tup (xs : List T)
  | dct (ks : List Key) (xs : List T)
  | dcT (ks : List (List Key)) (xs : List T)
  | ins (c : Str) (fs : List Str) (xs : List T)

mutual
/-- made of scalars and tuples alone -/
def imm : T → Bool
  | .non => true | .bl _ => true | .int _ => true | .str _ => true
  | .tup xs => immL xs
  | .lst _ => false | .dct _ _ => false | .dcT _ _ => false | .ins _ _ _ => false
def immL : List T → Bool
  | [] => true
  | x :: xs => imm x && immL xs
end

/-- a list that is read -/
def LsR (H : Hp) (P : Addr → Prop) (a : Addr) (vs : List V) : Prop := P a ∧ Rd H a (.lst vs)

section
variable (K : PySem.W.Frag) (mg : Str → Option Value) (H : Hp)
mutual
/-- v is the tree in the heap; all that can change within lies in P -/
def Rp (P : Addr → Prop) : V → T → Prop
  | v, .non => v = .non
  | v, .bl b => v = .bl b
  | v, .int i => v = .int i
  | v, .str x => v = .str x
  | v, .lst xs => ∃ a vs, v = .ref a ∧ LsR H P a vs ∧ RpL P vs xs
  | v, .tup xs => ∃ a vs, v = .ref a ∧ SqT K H a vs ∧ RpL P vs xs
  | v, .dct ks xs => ∃ a kvs, v = .ref a ∧ (P a ∧ H a = some (.dK kvs)) ∧ kvs.map (·.1) = ks ∧ RpL P (kvs.map (·.2)) xs
  | v, .dcT ks xs => ∃ a kvs, v = .ref a ∧ (P a ∧ H a = some (.dT kvs)) ∧ kvs.map (·.1) = ks ∧ RpL P (kvs.map (·.2)) xs
  | v, .ins c fs xs => ∃ a A dx kvs, v = .ref a ∧ (P a ∧ H a = some (.ins A dx kvs)) ∧ mg c = some (.ref A) ∧ kvs.map (·.1) = fs ∧ RpL P (kvs.map (·.2)) xs
def RpL (P : Addr → Prop) : List V → List T → Prop
  | vs, [] => vs = []
  | vs, x :: xs => ∃ v r, vs = v :: r ∧ Rp P v x ∧ RpL P r xs
end

/-- each with its own addresses -/
def OwL (R : List Addr → V → T → Prop) : List (List Addr) → List V → List T → Prop
  | Os, vs, [] => Os = [] ∧ vs = []
  | Os, vs, x :: xs => ∃ O Os' v r, Os = O :: Os' ∧ vs = v :: r ∧ R O v x ∧ OwL R Os' r xs

/-- the upper d levels stand at O, what is below is frozen in F -/
def Ow (F : Addr → Prop) : Nat → List Addr → V → T → Prop
  | 0, O, v, t => O = [] ∧ Rp K mg H F v t
  | d + 1, O, v, .lst xs => ∃ a vs Os, v = .ref a ∧ H a = some (.lst vs) ∧ O = a :: Os.flatten ∧ OwL (Ow F d) Os vs xs
  | d + 1, O, v, .dct ks xs => ∃ a kvs Os, v = .ref a ∧ H a = some (.dK kvs) ∧ kvs.map (·.1) = ks ∧ O = a :: Os.flatten ∧ OwL (Ow F d) Os (kvs.map (·.2)) xs
  | d + 1, O, v, .dcT ks xs => ∃ a kvs Os, v = .ref a ∧ H a = some (.dT kvs) ∧ kvs.map (·.1) = ks ∧ O = a :: Os.flatten ∧ OwL (Ow F d) Os (kvs.map (·.2)) xs
  | d + 1, O, v, .ins c fs xs => ∃ a A dx kvs Os, v = .ref a ∧ H a = some (.ins A dx kvs) ∧ mg c = some (.ref A) ∧ kvs.map (·.1) = fs ∧ O = a :: Os.flatten ∧ OwL (Ow F d) Os (kvs.map (·.2)) xs
  | _ + 1, O, v, t => O = [] ∧ Rp K mg H F v t
end

section
variable {K : PySem.W.Frag} {mg : Str → Option Value} {H H' : Hp} {P P' : Addr → Prop}
theorem rpl_nil : RpL K mg H P [] [] := rfl
theorem rpl_cons {v : V} {vs : List V} {x : T} {xs : List T} (h : Rp K mg H P v x) (r : RpL K mg H P vs xs) : RpL K mg H P (v :: vs) (x :: xs) := ⟨v, vs, rfl, h, r⟩
theorem rpl_len : ∀ {xs : List T} {vs : List V}, RpL K mg H P vs xs → vs.length = xs.length
  | [], vs, h => by
    have e : vs = [] := h
    rw [e]; rfl
  | x :: xs, vs, h => by
    obtain ⟨v, r, rfl, _, q⟩ := h
    have := rpl_len q
    simp [this]
theorem rpl_get : ∀ {xs : List T} {vs : List V} {i : Nat} {x : T}, RpL K mg H P vs xs → xs[i]? = some x → ∃ v, vs[i]? = some v ∧ Rp K mg H P v x
  | [], _, _, _, _, e => by simp at e
  | y :: xs, vs, 0, x, h, e => by
    obtain ⟨v, r, rfl, q, _⟩ := h
    simp at e
    subst e
    exact ⟨v, rfl, q⟩
  | y :: xs, vs, i + 1, x, h, e => by
    obtain ⟨v, r, rfl, _, q⟩ := h
    exact rpl_get (i := i) q (by simpa using e)
theorem rpl_getV {xs : List T} {vs : List V} {i : Nat} {v : V} (h : RpL K mg H P vs xs) (e : vs[i]? = some v) : ∃ x, xs[i]? = some x ∧ Rp K mg H P v x := by
  have hl := rpl_len h
  have hi : i < xs.length := by
    have := (List.getElem?_eq_some_iff.mp e).1
    omega
  obtain ⟨v', e', r⟩ := rpl_get h (List.getElem?_eq_getElem hi)
  rw [e] at e'
  cases e'
  exact ⟨_, List.getElem?_eq_getElem hi, r⟩
theorem rpl_append : ∀ {xs ys : List T} {vs ws : List V}, RpL K mg H P vs xs → RpL K mg H P ws ys → RpL K mg H P (vs ++ ws) (xs ++ ys)
  | [], _, vs, _, h, g => by
    have e : vs = [] := h
    rw [e]; exact g
  | x :: xs, _, vs, _, h, g => by
    obtain ⟨v, r, rfl, q, h⟩ := h
    exact ⟨v, _, rfl, q, rpl_append h g⟩
theorem rpl_take : ∀ {xs : List T} {vs : List V} (n : Nat), RpL K mg H P vs xs → RpL K mg H P (vs.take n) (xs.take n)
  | _, vs, 0, _ => by simp [RpL]
  | [], vs, n + 1, h => by
    have e : vs = [] := h
    rw [e]; rfl
  | x :: xs, vs, n + 1, h => by
    obtain ⟨v, r, rfl, q, h⟩ := h
    exact ⟨v, _, rfl, q, rpl_take n h⟩
theorem rpl_drop : ∀ {xs : List T} {vs : List V} (n : Nat), RpL K mg H P vs xs → RpL K mg H P (vs.drop n) (xs.drop n)
  | _, vs, 0, h => h
  | [], vs, n + 1, h => by
    have e : vs = [] := h
    rw [e]; rfl
  | x :: xs, vs, n + 1, h => by
    obtain ⟨v, r, rfl, q, h⟩ := h
    exact rpl_drop n h
theorem rpl_set {w : V} {y : T} (g : Rp K mg H P w y) : ∀ {xs : List T} {vs : List V} (i : Nat), RpL K mg H P vs xs → RpL K mg H P (vs.set i w) (xs.set i y)
  | [], vs, i, h => by
    have e : vs = [] := h
    rw [e]; rfl
  | x :: xs, vs, 0, h => by
    obtain ⟨v, r, rfl, q, h⟩ := h
    exact ⟨w, r, rfl, g, h⟩
  | x :: xs, vs, i + 1, h => by
    obtain ⟨v, r, rfl, q, h⟩ := h
    exact ⟨v, _, rfl, q, rpl_set g i h⟩
theorem rpl_rep (w : List V) (y : List T) (g : RpL K mg H P w y) : ∀ k : Nat, RpL K mg H P (List.replicate k w).flatten (List.replicate k y).flatten
  | 0 => rfl
  | k + 1 => by
    rw [List.replicate_succ, List.replicate_succ, List.flatten_cons, List.flatten_cons]
    exact rpl_append g (rpl_rep w y g k)
theorem rpl_rev : ∀ {xs : List T} {vs : List V}, RpL K mg H P vs xs → RpL K mg H P vs.reverse xs.reverse
  | [], vs, h => by
    have e : vs = [] := h
    rw [e]; rfl
  | x :: xs, vs, h => by
    obtain ⟨v, r, rfl, q, h⟩ := h
    rw [List.reverse_cons, List.reverse_cons]
    exact rpl_append (rpl_rev h) ⟨v, [], rfl, q, rfl⟩

/-- what stays between two heaps -/
structure Kp (P : Addr → Prop) (H H' : Hp) : Prop where
  at_ : ∀ a, P a → H' a = H a
  non : ∀ a o, H a = some o → ¬ Mut (some o) → H' a = some o
theorem Kp.refl (P : Addr → Prop) (H : Hp) : Kp P H H := ⟨fun _ _ => rfl, fun _ _ e _ => e⟩
theorem Kp.trans {H1 H2 H3 : Hp} (a : Kp P H1 H2) (b : Kp P H2 H3) : Kp P H1 H3 := ⟨fun x h => (b.at_ x h).trans (a.at_ x h), fun x o e n => b.non x o (a.non x o e n) n⟩
theorem Kp.sub {Q : Addr → Prop} (a : Kp P H H') (h : ∀ x, Q x → P x) : Kp Q H H' := ⟨fun x q => a.at_ x (h x q), a.non⟩
theorem Kp.rdT {a : Addr} {vs : List V} (k : Kp P H H') (h : SqT K H a vs) : SqT K H' a vs := by
  rcases h with (h | ⟨o, h⟩) | h
  · exact .inl (.inl (k.non _ _ h (fun z => z)))
  · exact .inl (.inr ⟨o, k.non _ _ h (fun z => z)⟩)
  · exact .inr h

mutual
theorem Rp.mono (k : Kp P H H') (hp : ∀ a, P a → P' a) : ∀ {t : T} {v : V}, Rp K mg H P v t → Rp K mg H' P' v t
  | .non, _, h => h
  | .bl _, _, h => h
  | .int _, _, h => h
  | .str _, _, h => h
  | .lst xs, _, h => by
    obtain ⟨a, vs, rfl, ⟨p, l⟩, r⟩ := h
    refine ⟨a, vs, rfl, ⟨hp _ p, ?_⟩, RpL.mono k hp r⟩
    unfold Rd at l ⊢
    rw [k.at_ a p]
    exact l
  | .tup xs, _, h => by
    obtain ⟨a, vs, rfl, l, r⟩ := h
    exact ⟨a, vs, rfl, k.rdT l, RpL.mono k hp r⟩
  | .dct ks xs, _, h => by
    obtain ⟨a, kvs, rfl, ⟨p, l⟩, e, r⟩ := h
    exact ⟨a, kvs, rfl, ⟨hp _ p, by rw [k.at_ a p]; exact l⟩, e, RpL.mono k hp r⟩
  | .dcT ks xs, _, h => by
    obtain ⟨a, kvs, rfl, ⟨p, l⟩, e, r⟩ := h
    exact ⟨a, kvs, rfl, ⟨hp _ p, by rw [k.at_ a p]; exact l⟩, e, RpL.mono k hp r⟩
  | .ins c fs xs, _, h => by
    obtain ⟨a, A, dx, kvs, rfl, ⟨p, l⟩, m, e, r⟩ := h
    exact ⟨a, A, dx, kvs, rfl, ⟨hp _ p, by rw [k.at_ a p]; exact l⟩, m, e, RpL.mono k hp r⟩
theorem RpL.mono (k : Kp P H H') (hp : ∀ a, P a → P' a) : ∀ {xs : List T} {vs : List V}, RpL K mg H P vs xs → RpL K mg H' P' vs xs
  | [], _, h => h
  | x :: xs, _, h => by
    obtain ⟨v, r, rfl, q, h⟩ := h
    exact ⟨v, r, rfl, Rp.mono k hp q, RpL.mono k hp h⟩
end
mutual
/-- scalars and tuples need no place -/
theorem Rp.imm : ∀ {t : T} {v : V}, imm t = true → Rp K mg H P v t → Rp K mg H P' v t
  | .non, _, _, h => h
  | .bl _, _, _, h => h
  | .int _, _, _, h => h
  | .str _, _, _, h => h
  | .lst xs, _, i, h => by cases i
  | .tup xs, _, i, h => by
    obtain ⟨a, vs, rfl, l, r⟩ := h
    exact ⟨a, vs, rfl, l, RpL.imm (show immL xs = true from i) r⟩
  | .dct ks xs, _, i, h => by cases i
  | .dcT ks xs, _, i, h => by cases i
  | .ins c fs xs, _, i, h => by cases i
theorem RpL.imm : ∀ {xs : List T} {vs : List V}, immL xs = true → RpL K mg H P vs xs → RpL K mg H P' vs xs
  | [], _, _, h => h
  | x :: xs, _, i, h => by
    obtain ⟨v, r, rfl, q, h⟩ := h
    have i' : (TL.imm x && immL xs) = true := i
    rw [Bool.and_eq_true] at i'
    exact ⟨v, r, rfl, Rp.imm i'.1 q, RpL.imm i'.2 h⟩
end
end

section
variable {K : PySem.W.Frag} {mg : Str → Option Value} {H H' : Hp} {F F' : Addr → Prop}
theorem owl_mono {R R' : List Addr → V → T → Prop} : ∀ {xs : List T} {Os : List (List Addr)} {vs : List V}, OwL R Os vs xs → (∀ O v x, O ∈ Os → R O v x → R' O v x) → OwL R' Os vs xs
  | [], _, _, h, _ => h
  | x :: xs, _, _, h, m => by
    obtain ⟨O, Os', v, r, rfl, rfl, q, h⟩ := h
    exact ⟨O, Os', v, r, rfl, rfl, m _ _ _ (by simp) q, owl_mono h fun O v x hO => m O v x (by simp [hO])⟩
theorem owl_len {R : List Addr → V → T → Prop} : ∀ {xs : List T} {Os : List (List Addr)} {vs : List V}, OwL R Os vs xs → Os.length = xs.length ∧ vs.length = xs.length
  | [], _, _, h => by
    obtain ⟨rfl, rfl⟩ := h
    exact ⟨rfl, rfl⟩
  | x :: xs, _, _, h => by
    obtain ⟨O, Os', v, r, rfl, rfl, q, h⟩ := h
    have := owl_len h
    simp [this.1, this.2]
theorem owl_append {R : List Addr → V → T → Prop} : ∀ {xs ys : List T} {Os Os' : List (List Addr)} {vs ws : List V}, OwL R Os vs xs → OwL R Os' ws ys → OwL R (Os ++ Os') (vs ++ ws) (xs ++ ys)
  | [], _, _, _, _, _, h, g => by
    obtain ⟨rfl, rfl⟩ := h
    exact g
  | x :: xs, _, _, _, _, _, h, g => by
    obtain ⟨O, Os', v, r, rfl, rfl, q, h⟩ := h
    exact ⟨O, _, v, _, rfl, rfl, q, owl_append h g⟩
/-- zero levels: all frozen -/
theorem owl_zero : ∀ {xs : List T} {Os : List (List Addr)} {vs : List V}, OwL (Ow K mg H F 0) Os vs xs → Os.flatten = [] ∧ RpL K mg H F vs xs
  | [], _, _, h => by
    obtain ⟨rfl, rfl⟩ := h
    exact ⟨rfl, rfl⟩
  | x :: xs, _, _, h => by
    obtain ⟨O, Os', v, r, rfl, rfl, ⟨rfl, q⟩, h⟩ := h
    have := owl_zero h
    exact ⟨by simpa using this.1, v, r, rfl, q, this.2⟩
theorem owl_of_rpl : ∀ {xs : List T} {vs : List V}, RpL K mg H F vs xs → OwL (Ow K mg H F 0) (xs.map fun _ => []) vs xs
  | [], _, h => ⟨rfl, h⟩
  | x :: xs, _, h => by
    obtain ⟨v, r, rfl, q, h⟩ := h
    exact ⟨[], _, v, r, rfl, rfl, ⟨rfl, q⟩, owl_of_rpl h⟩
theorem flatten_nils {α β : Type} : ∀ (xs : List α), (xs.map fun _ => ([] : List β)).flatten = []
  | [] => rfl
  | _ :: xs => by simpa using flatten_nils xs

theorem Ow.mono : ∀ {d : Nat} {O : List Addr} {v : V} {t : T}, Ow K mg H F d O v t → Kp F H H' → (∀ a, F a → F' a) → (∀ a ∈ O, H' a = H a) → Ow K mg H' F' d O v t
  | 0, O, v, t, h, k, hf, ho => ⟨h.1, Rp.mono k hf h.2⟩
  | d + 1, O, v, t, h, k, hf, ho => by
    cases t with
    | lst xs =>
      obtain ⟨a, vs, Os, rfl, l, rfl, r⟩ := h
      refine ⟨a, vs, Os, rfl, by rw [ho a (by simp)]; exact l, rfl, owl_mono r fun O v x hO q => Ow.mono q k hf fun b hb => ho b ?_⟩
      exact List.mem_cons_of_mem _ (List.mem_flatten.mpr ⟨O, hO, hb⟩)
    | dct ks xs =>
      obtain ⟨a, kvs, Os, rfl, l, e, rfl, r⟩ := h
      refine ⟨a, kvs, Os, rfl, by rw [ho a (by simp)]; exact l, e, rfl, owl_mono r fun O v x hO q => Ow.mono q k hf fun b hb => ho b ?_⟩
      exact List.mem_cons_of_mem _ (List.mem_flatten.mpr ⟨O, hO, hb⟩)
    | dcT ks xs =>
      obtain ⟨a, kvs, Os, rfl, l, e, rfl, r⟩ := h
      refine ⟨a, kvs, Os, rfl, by rw [ho a (by simp)]; exact l, e, rfl, owl_mono r fun O v x hO q => Ow.mono q k hf fun b hb => ho b ?_⟩
      exact List.mem_cons_of_mem _ (List.mem_flatten.mpr ⟨O, hO, hb⟩)
    | ins c fs xs =>
      obtain ⟨a, A, dx, kvs, Os, rfl, l, m, e, rfl, r⟩ := h
      refine ⟨a, A, dx, kvs, Os, rfl, by rw [ho a (by simp)]; exact l, m, e, rfl, owl_mono r fun O v x hO q => Ow.mono q k hf fun b hb => ho b ?_⟩
      exact List.mem_cons_of_mem _ (List.mem_flatten.mpr ⟨O, hO, hb⟩)
    | non => exact ⟨h.1, Rp.mono k hf h.2⟩
    | bl b => exact ⟨h.1, Rp.mono k hf h.2⟩
    | int i => exact ⟨h.1, Rp.mono k hf h.2⟩
    | str x => exact ⟨h.1, Rp.mono k hf h.2⟩
    | tup xs => exact ⟨h.1, Rp.mono k hf h.2⟩

theorem rpl_of_owl {R : List Addr → V → T → Prop} {P : Addr → Prop} : ∀ {xs : List T} {Os : List (List Addr)} {vs : List V}, OwL R Os vs xs → (∀ O v x, O ∈ Os → R O v x → Rp K mg H P v x) → RpL K mg H P vs xs
  | [], _, _, h, _ => h.2
  | x :: xs, _, _, h, m => by
    obtain ⟨O, Os', v, r, rfl, rfl, q, h⟩ := h
    exact ⟨v, r, rfl, m _ _ _ (by simp) q, rpl_of_owl h fun O v x hO => m O v x (by simp [hO])⟩
/-- all is read -/
theorem Ow.rp {P : Addr → Prop} : ∀ {d : Nat} {O : List Addr} {v : V} {t : T}, Ow K mg H F d O v t → (∀ a, F a → P a) → (∀ a ∈ O, P a) → Rp K mg H P v t
  | 0, O, v, t, h, hf, ho => Rp.mono (Kp.refl _ _) hf h.2
  | d + 1, O, v, t, h, hf, ho => by
    cases t with
    | lst xs =>
      obtain ⟨a, vs, Os, rfl, l, rfl, r⟩ := h
      exact ⟨a, vs, rfl, ⟨ho a (by simp), .inl l⟩, rpl_of_owl r fun O v x hO q => Ow.rp q hf fun b hb => ho b (List.mem_cons_of_mem _ (List.mem_flatten.mpr ⟨O, hO, hb⟩))⟩
    | dct ks xs =>
      obtain ⟨a, kvs, Os, rfl, l, e, rfl, r⟩ := h
      exact ⟨a, kvs, rfl, ⟨ho a (by simp), l⟩, e, rpl_of_owl r fun O v x hO q => Ow.rp q hf fun b hb => ho b (List.mem_cons_of_mem _ (List.mem_flatten.mpr ⟨O, hO, hb⟩))⟩
    | dcT ks xs =>
      obtain ⟨a, kvs, Os, rfl, l, e, rfl, r⟩ := h
      exact ⟨a, kvs, rfl, ⟨ho a (by simp), l⟩, e, rpl_of_owl r fun O v x hO q => Ow.rp q hf fun b hb => ho b (List.mem_cons_of_mem _ (List.mem_flatten.mpr ⟨O, hO, hb⟩))⟩
    | ins c fs xs =>
      obtain ⟨a, A, dx, kvs, Os, rfl, l, m, e, rfl, r⟩ := h
      exact ⟨a, A, dx, kvs, rfl, ⟨ho a (by simp), l⟩, m, e, rpl_of_owl r fun O v x hO q => Ow.rp q hf fun b hb => ho b (List.mem_cons_of_mem _ (List.mem_flatten.mpr ⟨O, hO, hb⟩))⟩
    | non => exact Rp.mono (Kp.refl _ _) hf h.2
    | bl b => exact Rp.mono (Kp.refl _ _) hf h.2
    | int i => exact Rp.mono (Kp.refl _ _) hf h.2
    | str x => exact Rp.mono (Kp.refl _ _) hf h.2
    | tup xs => exact Rp.mono (Kp.refl _ _) hf h.2
/-- a scalar or a tuple of such is owned at any depth -/
theorem Ow.of_imm {P : Addr → Prop} {t : T} {v : V} (d : Nat) (i : imm t = true) (h : Rp K mg H P v t) : Ow K mg H F d [] v t := by
  have r : Rp K mg H F v t := Rp.imm i h
  cases d with
  | zero => exact ⟨rfl, r⟩
  | succ d =>
    cases t with
    | lst xs => cases i
    | dct ks xs => cases i
    | dcT ks xs => cases i
    | ins c fs xs => cases i
    | non => exact ⟨rfl, r⟩
    | bl b => exact ⟨rfl, r⟩
    | int i => exact ⟨rfl, r⟩
    | str x => exact ⟨rfl, r⟩
    | tup xs => exact ⟨rfl, r⟩
end

/-! ### modes -/
/-- un: not to be read; sc: a scalar (or a tuple of such); bk l d: d levels borrowed from the region l, frozen below (bk _ 0: frozen); bo l: borrowed from the region l; ow d: d levels owned -/
inductive Md where
  | un | sc | bk (l d : Nat) | bo (l : Nat) | ow (d : Nat)
  deriving DecidableEq
abbrev Md.fr : Md := .bk 0 0

section
variable (K : PySem.W.Frag) (mg : Str → Option Value) (B : Nat → Addr → Prop) (F : Addr → Prop) (H : Hp)
/-- a value by its mode; O: what it owns -/
def VR : Md → List Addr → V → T → Prop
  | .un, _, _, _ => False
  | .sc, O, v, t => O = [] ∧ imm t = true ∧ Rp K mg H F v t
  | .bk l d, O, v, t => O = [] ∧ ∃ O', (∀ a ∈ O', B l a) ∧ Ow K mg H F d O' v t
  | .bo l, O, v, t => O = [] ∧ Rp K mg H (fun a => F a ∨ B l a) v t
  | .ow d, O, v, t => Ow K mg H F d O v t
end

/-- a step: the frozen grows (but not within the borrowed), the frozen and the borrowed stand -/
structure Stp (BL : Addr → Prop) (F : Addr → Prop) (H : Hp) (F' : Addr → Prop) (H' : Hp) : Prop where
  fr : ∀ a, F a → F' a
  gr : ∀ a, F' a → F a ∨ ¬ BL a
  at_ : ∀ a, F a ∨ BL a → H' a = H a
  non : ∀ a o, H a = some o → ¬ Mut (some o) → H' a = some o
  tr : ∀ a, H a ≠ none → H' a ≠ none
  tf : (∀ a, F a → H a ≠ none) → ∀ a, F' a → H' a ≠ none
theorem Stp.refl {BL F : Addr → Prop} {H : Hp} : Stp BL F H F H := ⟨fun _ h => h, fun _ h => .inl h, fun _ _ => rfl, fun _ _ e _ => e, fun _ h => h, fun h => h⟩
theorem Stp.trans {BL F F1 F2 : Addr → Prop} {H H1 H2 : Hp} (a : Stp BL F H F1 H1) (b : Stp BL F1 H1 F2 H2) : Stp BL F H F2 H2 where
  fr := fun x h => b.fr x (a.fr x h)
  gr := fun x h => (b.gr x h).elim (fun z => a.gr x z) .inr
  at_ := fun x h => (b.at_ x (h.imp (a.fr x) id)).trans (a.at_ x h)
  non := fun x o e n => b.non x o (a.non x o e n) n
  tr := fun x h => b.tr x (a.tr x h)
  tf := fun h => b.tf (a.tf h)
theorem Stp.kp {BL F F' : Addr → Prop} {H H' : Hp} (s : Stp BL F H F' H') : Kp (fun a => F a ∨ BL a) H H' := ⟨s.at_, s.non⟩
theorem Stp.kpF {BL F F' : Addr → Prop} {H H' : Hp} (s : Stp BL F H F' H') : Kp F H H' := s.kp.sub fun _ h => .inl h
theorem Stp.less {BL BL' F F' : Addr → Prop} {H H' : Hp} (s : Stp BL F H F' H') (h : ∀ a, BL' a → BL a) : Stp BL' F H F' H' :=
  ⟨s.fr, fun a q => (s.gr a q).imp id fun n z => n (h a z), fun a q => s.at_ a (q.imp id (h a)), s.non, s.tr, s.tf⟩

section
variable {K : PySem.W.Frag} {mg : Str → Option Value} {B : Nat → Addr → Prop} {F F' : Addr → Prop} {H H' : Hp} {L : Nat}
/-- the level of a mode -/
def Md.lv : Md → Nat
  | .bk l _ => l
  | .bo l => l
  | _ => 0
/-- is it owned -/
def Md.own : Md → Bool
  | .ow _ => true
  | _ => false
theorem VR.step {m : Md} {O : List Addr} {v : V} {t : T} (hB : ∀ l l' a, l ≤ l' → B l a → B l' a) (h : VR K mg B F H m O v t) (s : Stp (B L) F H F' H') (hl : m.lv ≤ L) (ho : ∀ a ∈ O, H' a = H a) : VR K mg B F' H' m O v t := by
  cases m with
  | un => exact h
  | sc => exact ⟨h.1, h.2.1, Rp.mono s.kpF s.fr h.2.2⟩
  | bk l d =>
    obtain ⟨e, O', ho', q⟩ := h
    exact ⟨e, O', ho', q.mono s.kpF s.fr fun a ha => s.at_ a (.inr (hB _ _ _ hl (ho' a ha)))⟩
  | bo l =>
    obtain ⟨e, q⟩ := h
    exact ⟨e, Rp.mono (s.kp.sub fun a q => q.imp id (hB _ _ _ hl)) (fun a q => q.imp (s.fr a) id) q⟩
  | ow d => exact Ow.mono h s.kpF s.fr ho
/-- anything is read -/
theorem VR.rp {m : Md} {O : List Addr} {v : V} {t : T} {P : Addr → Prop} (h : VR K mg B F H m O v t) (hf : ∀ a, F a → P a) (hb : ∀ a, B m.lv a → P a) (ho : ∀ a ∈ O, P a) : Rp K mg H P v t := by
  cases m with
  | un => exact h.elim
  | sc => exact Rp.mono (Kp.refl _ _) hf h.2.2
  | bk l d =>
    obtain ⟨e, O', ho', q⟩ := h
    exact q.rp hf fun a ha => hb a (ho' a ha)
  | bo l => exact Rp.mono (Kp.refl _ _) (fun a q => q.elim (hf a) (hb a)) h.2
  | ow d => exact Ow.rp h hf ho
theorem VR.noO {m : Md} {O : List Addr} {v : V} {t : T} (h : VR K mg B F H m O v t) (hm : m.own = false) : O = [] := by
  cases m with
  | un => exact h.elim
  | sc => exact h.1
  | bk l d => exact h.1
  | bo l => exact h.1
  | ow d => cases hm
theorem VR.fr_rp {v : V} {t : T} {O : List Addr} (h : VR K mg B F H .fr O v t) : Rp K mg H F v t := by
  obtain ⟨e, O', _, q⟩ := h
  exact q.2
theorem VR.fr_of {v : V} {t : T} (h : Rp K mg H F v t) : VR K mg B F H .fr [] v t := ⟨rfl, [], by simp, rfl, h⟩
theorem VR.sc_of {v : V} {t : T} (i : imm t = true) (h : Rp K mg H F v t) : VR K mg B F H .sc [] v t := ⟨rfl, i, h⟩
end
end TL

/-! TL2: the state, what an expression's core answers, the first rules -/
namespace TL
open PySem PySem.Spec PyProof.Rows L2

/-- the answer of a piece of core: a value and the slots behind it, an own error, or nothing is said -/
inductive Res (α : Type) where
  | ok (a : α) (τ : List (Option T))
  | exn (c : Str) (fs : List Str) (xs : List T) (τ : List (Option T))
  | stuck
abbrev M (α : Type) := List (Option T) → Res α
def M.bind {α β : Type} (m : M α) (f : α → M β) : M β := fun τ => match m τ with
  | .ok a τ' => f a τ'
  | .exn c fs xs τ' => .exn c fs xs τ'
  | .stuck => .stuck
def M.pure {α : Type} (a : α) : M α := fun τ => .ok a τ
def M.opt {α : Type} : Option α → M α
  | some a => fun τ => .ok a τ
  | none => fun _ => .stuck

/-- a slot by its mode -/
def SlotR (K : PySem.W.Frag) (mg : Str → Option Value) (B : Nat → Addr → Prop) (F : Addr → Prop) (H : Hp) (m : Md) (O : List Addr) (v : Option (Option V)) (t : Option (Option T)) : Prop :=
  (m = .un ∧ O = []) ∨ ∃ v' t', v = some (some v') ∧ t = some (some t') ∧ VR K mg B F H m O v' t'

/-- owned addresses: not frozen, not borrowed, there -/
def Free (BL F : Addr → Prop) (H : Hp) (a : Addr) : Prop := ¬ F a ∧ ¬ BL a ∧ H a ≠ none

/-- what of the slots is fixed: values, trees -/
structure Fx where
  vs : List (Nat × V)
  ts : List (Nat × T)
/-- a level: how many regions are lent, which slots are fixed -/
structure Lv where
  n : Nat
  z : List Nat
instance : Coe Lv Nat := ⟨Lv.n⟩
/-- the state: slots, trees, who owns what -/
structure SR (K : PySem.W.Frag) (mg : Str → Option Value) (B : Nat → Addr → Prop) (fx : Fx) (L : Lv) (Γ : List Md) (F : Addr → Prop) (Os : Nat → List Addr) (H : Hp) (σ : L2.St) (τ : List (Option T)) : Prop where
  lσ : σ.length = Γ.length
  lτ : τ.length = Γ.length
  slot : ∀ (i : Nat) m, Γ[i]? = some m → SlotR K mg B F H m (Os i) σ[i]? τ[i]?
  out : ∀ i, Γ.length ≤ i → Os i = []
  lv : ∀ m ∈ Γ, m.lv ≤ L
  nd : ∀ i, (Os i).Nodup
  dj : ∀ i j a, a ∈ Os i → a ∈ Os j → i = j
  own : ∀ i a, a ∈ Os i → Free (B L) F H a
  trF : ∀ a, F a → H a ≠ none
  trB : ∀ a, B L a → H a ≠ none
  mono : ∀ l l' a, l ≤ l' → B l a → B l' a
  fix : ∀ p ∈ fx.vs, σ[p.1]? = some (some p.2)
  fixT : ∀ p ∈ fx.ts, τ[p.1]? = some (some p.2) ∧ ∀ m, Γ[p.1]? = some m → m.own = false
  fz : (∀ p ∈ fx.vs, p.1 ∈ L.z) ∧ ∀ p ∈ fx.ts, p.1 ∈ L.z

/-- what a value owns beside the slots -/
structure Xt (BL F : Addr → Prop) (H : Hp) (Os : Nat → List Addr) (O : List Addr) : Prop where
  nd : O.Nodup
  own : ∀ a ∈ O, Free BL F H a
  dj : ∀ a ∈ O, ∀ i, a ∉ Os i
theorem Xt.nil {BL F : Addr → Prop} {H : Hp} {Os : Nat → List Addr} : Xt BL F H Os [] := ⟨List.nodup_nil, by simp, by simp⟩

section
variable {K : PySem.W.Frag} {mg : Str → Option Value} {B : Nat → Addr → Prop} {fx : Fx} {L : Lv} {Γ Γ' : List Md} {F F' : Addr → Prop} {Os : Nat → List Addr} {H H' : Hp} {σ : L2.St} {τ : List (Option T)}

theorem SlotR.step {m : Md} {O : List Addr} {v : Option (Option V)} {t : Option (Option T)} (hB : ∀ l l' a, l ≤ l' → B l a → B l' a) (h : SlotR K mg B F H m O v t) (s : Stp (B L) F H F' H') (hl : m.lv ≤ L) (ho : ∀ a ∈ O, H' a = H a) : SlotR K mg B F' H' m O v t := by
  rcases h with h | ⟨v', t', e1, e2, r⟩
  · exact .inl h
  · exact .inr ⟨v', t', e1, e2, r.step hB s hl ho⟩

/-- a step that leaves what the slots own -/
theorem SR.step (S : SR K mg B fx L Γ F Os H σ τ) (s : Stp (B L) F H F' H') (ho : ∀ i a, a ∈ Os i → H' a = H a ∧ ¬ F' a) : SR K mg B fx L Γ F' Os H' σ τ where
  lσ := S.lσ
  lτ := S.lτ
  slot := fun i m e => (S.slot i m e).step S.mono s (S.lv m (List.mem_of_getElem? e)) fun a ha => (ho i a ha).1
  out := S.out
  lv := S.lv
  nd := S.nd
  dj := S.dj
  own := fun i a ha => ⟨(ho i a ha).2, (S.own i a ha).2.1, by rw [(ho i a ha).1]; exact (S.own i a ha).2.2⟩
  trF := s.tf S.trF
  trB := fun a ha => by rw [s.at_ a (.inr ha)]; exact S.trB a ha
  mono := S.mono
  fix := S.fix
  fixT := S.fixT
  fz := S.fz

/-- the new objects of an operation that changes nothing -/
structure New (F : Addr → Prop) (H : Hp) (F' : Addr → Prop) (H' : Hp) (O : List Addr) : Prop where
  same : ∀ a, H a ≠ none → H' a = H a
  fr : ∀ a, F a → F' a
  gr : ∀ a, F' a → F a ∨ (H a = none ∧ H' a ≠ none)
  own : ∀ a ∈ O, H a = none ∧ ¬ F' a ∧ H' a ≠ none
  nd : O.Nodup
theorem New.nil : New F H F H [] := ⟨fun _ _ => rfl, fun _ h => h, fun _ h => .inl h, by simp, List.nodup_nil⟩
theorem New.one {p : Addr} {o : HO} (hp : H p = none) (hF : ∀ a, F a → H a ≠ none) : New F H F (upd H p o) [p] where
  same := fun a h => upd_ne (fun e => h (by rw [e]; exact hp))
  fr := fun _ h => h
  gr := fun _ h => .inl h
  own := fun a ha => by
    have e : a = p := by simpa using ha
    subst e
    exact ⟨hp, fun z => hF _ z hp, by rw [upd_same]; simp⟩
  nd := by simp
theorem New.oneF {p : Addr} {o : HO} (hp : H p = none) : New F H (fun a => F a ∨ a = p) (upd H p o) [] where
  same := fun a h => upd_ne (fun e => h (by rw [e]; exact hp))
  fr := fun _ h => .inl h
  gr := fun a h => h.imp id fun e => by subst e; exact ⟨hp, by rw [upd_same]; simp⟩
  own := by simp
  nd := List.nodup_nil
theorem New.stp {O : List Addr} {BL : Addr → Prop} (n : New F H F' H' O) (hF : ∀ a, F a → H a ≠ none) (hB : ∀ a, BL a → H a ≠ none) : Stp BL F H F' H' where
  fr := n.fr
  gr := fun a h => (n.gr a h).imp id fun e b => hB a b e.1
  at_ := fun a h => n.same a (h.elim (hF a) (hB a))
  non := fun a o e _ => by rw [n.same a (by rw [e]; simp)]; exact e
  tr := fun a h => by rw [n.same a h]; exact h
  tf := fun hF a h => (n.gr a h).elim (fun z => by rw [n.same a (hF a z)]; exact hF a z) fun z => z.2
theorem New.sr {O : List Addr} (n : New F H F' H' O) (S : SR K mg B fx L Γ F Os H σ τ) : SR K mg B fx L Γ F' Os H' σ τ :=
  S.step (n.stp S.trF S.trB) fun i a ha => ⟨n.same a (S.own i a ha).2.2, fun z => (n.gr a z).elim (S.own i a ha).1 fun e => (S.own i a ha).2.2 e.1⟩
theorem New.xt {O : List Addr} (n : New F H F' H' O) (S : SR K mg B fx L Γ F Os H σ τ) : Xt (B L) F' H' Os O :=
  ⟨n.nd, fun a ha => ⟨(n.own a ha).2.1, fun b => S.trB a b (n.own a ha).1, (n.own a ha).2.2⟩, fun a ha i hi => (S.own i a hi).2.2 (n.own a ha).1⟩
end

/-- how an own error lies -/
def ExR (K : PySem.W.Frag) (mg : Str → Option Value) (H : Hp) (cls : Value) (d : Option Addr) (c : Str) (fs : List Str) (xs : List T) : Prop :=
  (∃ C, cls = .ref C ∧ mg c = some (.ref C)) ∧ (fs = [] ∨ ∃ dd kvs, d = some dd ∧ H dd = some (.xd kvs) ∧ kvs.map (·.1) = fs ∧ immL xs = true ∧ RpL K mg H (fun _ => False) (kvs.map (·.2)) xs)

section
variable (K : PySem.W.Frag) (mg : Str → Option Value) (W : WX) (B : Nat → Addr → Prop) (fx : Fx) (L : Lv) (Γh : List Md)
/-- what is wanted behind an own error -/
def PostX (σ : L2.St) (F : Addr → Prop) (H : Hp) (c : Str) (fs : List Str) (xs : List T) (τ' : List (Option T)) : Prop :=
  ∀ F' Os' H' cls d, Stp (B L) F H F' H' → SR K mg B fx L Γh F' Os' H' σ τ' → ExR K mg H' cls d c fs xs → W cls d σ H'
def Post (Γ' : List Md) (m : Md) (σ : L2.St) (Q : VK) (F : Addr → Prop) (H : Hp) : Res T → Prop
  | .ok t τ' => ∀ F' Os' O v H', Stp (B L) F H F' H' → SR K mg B fx L Γ' F' Os' H' σ τ' → Xt (B L) F' H' Os' O → VR K mg B F' H' m O v t → Q v H'
  | .exn c fs xs τ' => PostX K mg W B fx L Γh σ F H c fs xs τ'
  | .stuck => False
/-- the reading of an expression by its core -/
def RE (Γ : List Md) (c : M T) (m : Md) (Γ' : List Md) : TE := fun σ H Q =>
  ∃ B fx F Os τ, SR K mg B fx L Γ F Os H σ τ ∧ Post K mg W B fx L Γh Γ' m σ Q F H (c τ)
/-- values that own nothing, by their modes -/
def VRL (F : Addr → Prop) (H : Hp) : List Md → List V → List T → Prop
  | [], vs, ts => vs = [] ∧ ts = []
  | m :: ms, vs, ts => ∃ v r t ts', vs = v :: r ∧ ts = t :: ts' ∧ m.own = false ∧ m.lv ≤ L ∧ VR K mg B F H m [] v t ∧ VRL F H ms r ts'
def PostA (Γ' : List Md) (ms : List Md) (σ : L2.St) (Q : List V → Hp → Prop) (F : Addr → Prop) (H : Hp) : Res (List T) → Prop
  | .ok ts τ' => ∀ F' Os' vs H', Stp (B L) F H F' H' → SR K mg B fx L Γ' F' Os' H' σ τ' → VRL K mg B L F' H' ms vs ts → Q vs H'
  | .exn c fs xs τ' => PostX K mg W B fx L Γh σ F H c fs xs τ'
  | .stuck => False
def RA (Γ : List Md) (c : M (List T)) (ms : List Md) (Γ' : List Md) : TA := fun σ H Q =>
  ∃ B fx F Os τ, SR K mg B fx L Γ F Os H σ τ ∧ PostA K mg W B fx L Γh Γ' ms σ Q F H (c τ)
def PostT (Γ' : List Md) (σ : L2.St) (Q : Bool → Hp → Prop) (F : Addr → Prop) (H : Hp) : Res Bool → Prop
  | .ok b τ' => ∀ F' Os' H', Stp (B L) F H F' H' → SR K mg B fx L Γ' F' Os' H' σ τ' → Q b H'
  | .exn c fs xs τ' => PostX K mg W B fx L Γh σ F H c fs xs τ'
  | .stuck => False
def RT (Γ : List Md) (c : M Bool) (Γ' : List Md) : TT := fun σ H Q =>
  ∃ B fx F Os τ, SR K mg B fx L Γ F Os H σ τ ∧ PostT K mg W B fx L Γh Γ' σ Q F H (c τ)
end

section
variable {X : Cx} {W : WX} {B : Nat → Addr → Prop} {fx : Fx} {L : Lv} {Γh Γ Γ1 Γ2 Γ' : List Md} {e a b : Expr} {es : List Expr} {c ca cb : M T} {m ma mb : Md} {ms : List Md} {pos : Pos}
abbrev EX (X : Cx) (W : WX) (L : Lv) (Γh Γ : List Md) (e : Expr) (c : M T) (m : Md) (Γ' : List Md) : Prop := PE X e (RE X.K X.mg W L Γh Γ c m Γ')
abbrev TX (X : Cx) (W : WX) (L : Lv) (Γh Γ : List Md) (e : Expr) (c : M Bool) (Γ' : List Md) : Prop := PT X e (RT X.K X.mg W L Γh Γ c Γ')
abbrev TXW (X : Cx) (W : WX) (L : Lv) (Γh Γ : List Md) (e : Expr) (c : M Bool) (Γ' : List Md) : Prop := PW X e (RT X.K X.mg W L Γh Γ c Γ')
abbrev AX (X : Cx) (W : WX) (L : Lv) (Γh Γ : List Md) (es : List Expr) (c : M (List T)) (ms : List Md) (Γ' : List Md) : Prop := PA X es (RA X.K X.mg W L Γh Γ c ms Γ')

theorem PE.imp {e : Expr} {t t' : TE} (h : PE X e t) (i : ∀ σ H Q, t' σ H Q → t σ H Q) : PE X e t' := ⟨fun pins s σ H Q I q => h.run pins s σ H Q I (i _ _ _ q)⟩
theorem PT.imp {e : Expr} {t t' : TT} (h : PT X e t) (i : ∀ σ H Q, t' σ H Q → t σ H Q) : PT X e t' := ⟨fun pins s σ H Q I q => h.run pins s σ H Q I (i _ _ _ q)⟩
theorem PW.imp {e : Expr} {t t' : TT} (h : PW X e t) (i : ∀ σ H Q, t' σ H Q → t σ H Q) : PW X e t' := ⟨fun wh pins s σ H Q I q => h.run wh pins s σ H Q I (i _ _ _ q)⟩
theorem PA.imp {es : List Expr} {t t' : TA} (h : PA X es t) (i : ∀ σ H Q, t' σ H Q → t σ H Q) : PA X es t' := ⟨fun ps pins s σ H Q I q => h.run ps pins s σ H Q I (i _ _ _ q)⟩

theorem PostX.later {K : PySem.W.Frag} {mg : Str → Option Value} {σ : L2.St} {F F1 : Addr → Prop} {H H1 : Hp} {c : Str} {fs : List Str} {xs : List T} {τ' : List (Option T)}
    (p : PostX K mg W B fx L Γh σ F H c fs xs τ') (s : Stp (B L) F H F1 H1) : PostX K mg W B fx L Γh σ F1 H1 c fs xs τ' := fun F' Os' H' cls d s' S x => p F' Os' H' cls d (s.trans s') S x

/-- one part, then an operation that changes nothing -/
def Op1S (K : PySem.W.Frag) (mg : Str → Option Value) (B : Nat → Addr → Prop) (L : Lv) (r : V → Hp → VK → Prop) (ma : Md) (g : T → Option T) (m : Md) : Prop :=
  ∀ F H x tx t Q, (∀ a, F a → H a ≠ none) → VR K mg B F H ma [] x tx → g tx = some t → (∀ F' O v H', New F H F' H' O → VR K mg B F' H' m O v t → Q v H') → r x H Q
def Op2S (K : PySem.W.Frag) (mg : Str → Option Value) (B : Nat → Addr → Prop) (L : Lv) (r : R2) (ma mb : Md) (g : T → T → Option T) (m : Md) : Prop :=
  ∀ F H x y tx ty t Q, (∀ a, F a → H a ≠ none) → VR K mg B F H ma [] x tx → VR K mg B F H mb [] y ty → g tx ty = some t → (∀ F' O v H', New F H F' H' O → VR K mg B F' H' m O v t → Q v H') → r x y H Q
def OpLS (K : PySem.W.Frag) (mg : Str → Option Value) (B : Nat → Addr → Prop) (L : Lv) (r : List V → Hp → VK → Prop) (ms : List Md) (g : List T → Option T) (m : Md) : Prop :=
  ∀ F H vs ts t Q, (∀ a, F a → H a ≠ none) → VRL K mg B L F H ms vs ts → g ts = some t → (∀ F' O v H', New F H F' H' O → VR K mg B F' H' m O v t → Q v H') → r vs H Q

def cOp1 (g : T → Option T) (ca : M T) : M T := M.bind ca fun x => M.opt (g x)
def cOp2 (g : T → T → Option T) (ca cb : M T) : M T := M.bind ca fun x => M.bind cb fun y => M.opt (g x y)
def cOpL (g : List T → Option T) (ca : M (List T)) : M T := M.bind ca fun xs => M.opt (g xs)

/-- the first part's end: hands on to what follows -/
theorem post_bind {K : PySem.W.Frag} {mg : Str → Option Value} {σ : L2.St} {Q Q' : VK} {F : Addr → Prop} {H : Hp} {f : T → M T} {τ : List (Option T)}
    (p : Post K mg W B fx L Γh Γ' m σ Q F H (M.bind ca f τ))
    (k : ∀ t τ' F' Os' O v H', Stp (B L) F H F' H' → SR K mg B fx L Γ1 F' Os' H' σ τ' → Xt (B L) F' H' Os' O → VR K mg B F' H' ma O v t → Post K mg W B fx L Γh Γ' m σ Q F' H' (f t τ') → Q' v H') :
    Post K mg W B fx L Γh Γ1 ma σ Q' F H (ca τ) := by
  unfold M.bind at p
  cases h : ca τ with
  | ok t τ' =>
    rw [h] at p
    intro F' Os' O v H' s S x r
    refine k t τ' F' Os' O v H' s S x r ?_
    have p' : Post K mg W B fx L Γh Γ' m σ Q F H (f t τ') := p
    cases h' : f t τ' with
    | ok t2 τ2 =>
      rw [h'] at p'
      exact fun F2 Os2 O2 v2 H2 s2 S2 x2 r2 => p' F2 Os2 O2 v2 H2 (s.trans s2) S2 x2 r2
    | exn c fs xs τ2 =>
      rw [h'] at p'
      exact PostX.later p' s
    | stuck => rw [h'] at p'; exact p'.elim
  | exn c fs xs τ' => rw [h] at p; exact p
  | stuck => rw [h] at p; exact p.elim

theorem post_later {K : PySem.W.Frag} {mg : Str → Option Value} {σ : L2.St} {Q : VK} {F F1 : Addr → Prop} {H H1 : Hp} {r : Res T} (p : Post K mg W B fx L Γh Γ' m σ Q F H r) (s : Stp (B L) F H F1 H1) : Post K mg W B fx L Γh Γ' m σ Q F1 H1 r := by
  cases r with
  | ok t τ' => exact fun F2 Os2 O2 v2 H2 s2 S2 x2 r2 => p F2 Os2 O2 v2 H2 (s.trans s2) S2 x2 r2
  | exn c fs xs τ' => exact PostX.later p s
  | stuck => exact p

/-- the last operation -/
theorem post_opt {K : PySem.W.Frag} {mg : Str → Option Value} {σ : L2.St} {Q : VK} {F : Addr → Prop} {H : Hp} {Os : Nat → List Addr} {τ : List (Option T)} {o : Option T} (S : SR K mg B fx L Γ' F Os H σ τ)
    (p : Post K mg W B fx L Γh Γ' m σ Q F H (M.opt o τ)) : ∃ t, o = some t ∧ ∀ F' O v H', New F H F' H' O → VR K mg B F' H' m O v t → Q v H' := by
  cases o with
  | none => exact p.elim
  | some t => exact ⟨t, rfl, fun F' O v H' n r => p F' Os O v H' (n.stp S.trF S.trB) (n.sr S) (n.xt S) r⟩

theorem ex_op1 {T1 : TE → TE} {r : V → Hp → VK → Prop} {g : T → Option T} (hT : PE X a (RE X.K X.mg W L Γh Γ ca ma Γ1) → PE X e (tUn r (RE X.K X.mg W L Γh Γ ca ma Γ1)))
    (ha : EX X W L Γh Γ a ca ma Γ1) (na : ma.own = false) (hr : ∀ B, Op1S X.K X.mg B L r ma g m) : EX X W L Γh Γ e (cOp1 g ca) m Γ1 := by
  refine PE.imp (hT ha) fun σ H Q h => ?_
  obtain ⟨B, fx, F, Os, τ, S, p⟩ := h
  refine ⟨B, fx, F, Os, τ, S, post_bind p fun t τ' F' Os' O v H' s S' x v' p' => ?_⟩
  obtain ⟨t', e', k⟩ := post_opt S' p'
  have eO := v'.noO na
  subst eO
  exact hr B F' H' v t t' Q S'.trF v' e' k

theorem ex_op2 {r : R2} {g : T → T → Option T} (hT : PE X a (RE X.K X.mg W L Γh Γ ca ma Γ1) → PE X b (RE X.K X.mg W L Γh Γ1 cb mb Γ2) → PE X e (tOp r (RE X.K X.mg W L Γh Γ ca ma Γ1) (RE X.K X.mg W L Γh Γ1 cb mb Γ2)))
    (ha : EX X W L Γh Γ a ca ma Γ1) (hb : EX X W L Γh Γ1 b cb mb Γ2) (na : ma.own = false) (nb : mb.own = false) (la : ma.lv ≤ L) (hr : ∀ B, Op2S X.K X.mg B L r ma mb g m) : EX X W L Γh Γ e (cOp2 g ca cb) m Γ2 := by
  refine PE.imp (hT ha hb) fun σ H Q h => ?_
  obtain ⟨B, fx, F, Os, τ, S, p⟩ := h
  refine ⟨B, fx, F, Os, τ, S, post_bind p fun t τ' F' Os' O v H' s S' x v' p' => ?_⟩
  have eO := v'.noO na
  subst eO
  refine ⟨B, fx, F', Os', τ', S', post_bind p' fun t2 τ2 F2 Os2 O2 v2 H2 s2 S2 x2 v2' p2 => ?_⟩
  obtain ⟨t', e', k⟩ := post_opt S2 p2
  have eO := v2'.noO nb
  subst eO
  exact hr B F2 H2 v v2 t t2 t' Q S2.trF (v'.step S'.mono s2 la (by simp)) v2' e' k

/-! ### names, constants -/
def cVar (i : Nat) : M T := fun τ => match τ[i]? with
  | some (some t) => .ok t τ
  | _ => .stuck
def cLit (t : T) : M T := M.pure t
theorem ex_var {i : Nat} {x : Str} (hN : X.N[i]? = some x) (hv : Vis X.env.scope x) (hd : (x == ("__debug__" : Str)) = false) (hcd : (x == ("__classdict__" : Str)) = false) (hm : Γ[i]? = some m) (no : m.own = false) (hu : m ≠ .un) : EX X W L Γh Γ (.Name x pos) (cVar i) m Γ := by
  refine PE.imp (pe_var hN hv hd hcd) fun σ H Q h => ?_
  obtain ⟨B, fx, F, Os, τ, S, p⟩ := h
  unfold cVar at p
  rcases S.slot i m hm with ⟨e, _⟩ | ⟨v, t, e1, e2, r⟩
  · exact absurd e hu
  · rw [e2] at p
    have eO := r.noO no
    exact ⟨v, e1, p F Os [] v H Stp.refl S Xt.nil (by rw [eO] at r; exact r)⟩
end
end TL

/-! TL3: constants, modes turned into others, argument lists, displays, operators -/
namespace TL
open PySem PySem.Spec PyProof.Rows L2
section
variable {X : Cx} {W : WX} {B : Nat → Addr → Prop} {fx : Fx} {L : Lv} {Γh Γ Γ1 Γ2 Γ' : List Md} {e a b : Expr} {es : List Expr} {c ca cb : M T} {m ma mb m' : Md} {ms : List Md} {pos : Pos} {cl : M (List T)}

/-! ### constants -/
theorem ex_tC {v : V} {t : T} (h : PE X e (tC v)) (i : imm t = true) (r : ∀ H P, Rp X.K X.mg H P v t) : EX X W L Γh Γ e (cLit t) .sc Γ := by
  refine PE.imp h fun σ H Q h => ?_
  obtain ⟨B, fx, F, Os, τ, S, p⟩ := h
  exact p F Os [] v H Stp.refl S Xt.nil (VR.sc_of i (r H F))
theorem ex_int {i : Int} {j} : EX X W L Γh Γ (.Constant (.int i) j pos) (cLit (.int i)) .sc Γ := ex_tC pe_int rfl fun _ _ => rfl
theorem ex_bl {i : Bool} {j} : EX X W L Γh Γ (.Constant (.bool i) j pos) (cLit (.bl i)) .sc Γ := ex_tC pe_bl rfl fun _ _ => rfl
theorem ex_non {j} : EX X W L Γh Γ (.Constant .none j pos) (cLit .non) .sc Γ := ex_tC pe_non rfl fun _ _ => rfl
theorem ex_str {x : Str} {j} : EX X W L Γh Γ (.Constant (.str x) j pos) (cLit (.str x)) .sc Γ := ex_tC pe_str rfl fun _ _ => rfl
/-- a constant of the module -/
theorem ex_glob {x : Str} {v : V} {u : Value} {t : T} (hg : Gl X x) (hm : X.mg x = some u) (rv : RelV v u) (hd : (x == ("__debug__" : Str)) = false) (r : ∀ H P, Rp X.K X.mg H P v t) : EX X W L Γh Γ (.Name x pos) (cLit t) .fr Γ := by
  refine PE.imp (pe_glob hg hm rv hd) fun σ H Q h => ?_
  obtain ⟨B, fx, F, Os, τ, S, p⟩ := h
  exact p F Os [] v H Stp.refl S Xt.nil (VR.fr_of (r H F))

/-! ### modes -/
theorem ex_mode (h : EX X W L Γh Γ e c m Γ') (k : ∀ (B : Nat → Addr → Prop) F H v t, (∀ l l' a, l ≤ l' → B l a → B l' a) → VR X.K X.mg B F H m [] v t → VR X.K X.mg B F H m' [] v t) (hm : m.own = false) : EX X W L Γh Γ e c m' Γ' := by
  refine PE.imp h fun σ H Q h => ?_
  obtain ⟨B, fx, F, Os, τ, S, p⟩ := h
  refine ⟨B, fx, F, Os, τ, S, ?_⟩
  cases hc : c τ with
  | ok t τ' =>
    rw [hc] at p
    intro F' Os' O v H' s S' x r
    have e := r.noO hm
    subst e
    exact p F' Os' [] v H' s S' x (k B _ _ _ _ S'.mono r)
  | exn c fs xs τ' => rw [hc] at p; exact p
  | stuck => rw [hc] at p; exact p.elim
theorem ex_sc_fr (h : EX X W L Γh Γ e c .sc Γ') : EX X W L Γh Γ e c .fr Γ' := ex_mode h (fun B F H v t _ r => VR.fr_of r.2.2) rfl
theorem ex_sc_ow (d : Nat) (h : EX X W L Γh Γ e c .sc Γ') : EX X W L Γh Γ e c (.ow d) Γ' := ex_mode h (fun B F H v t _ r => Ow.of_imm d r.2.1 r.2.2) rfl
theorem ex_bk0 {l : Nat} (h : EX X W L Γh Γ e c (.bk l 0) Γ') : EX X W L Γh Γ e c .fr Γ' := ex_mode h (fun B F H v t _ ⟨_, O', _, q⟩ => VR.fr_of q.2) rfl
theorem ex_bo {l : Nat} (h : EX X W L Γh Γ e c m Γ') (hm : m.own = false) (hl : m.lv ≤ l) : EX X W L Γh Γ e c (.bo l) Γ' :=
  ex_mode h (fun B F H v t hB r => ⟨rfl, r.rp (fun _ h => .inl h) (fun a h => .inr (hB _ _ _ hl h)) (by simp)⟩) hm
/-- a fresh value is frozen -/
theorem ex_freeze {d : Nat} (h : EX X W L Γh Γ e c (.ow d) Γ') : EX X W L Γh Γ e c .fr Γ' := by
  refine PE.imp h fun σ H Q h => ?_
  obtain ⟨B, fx, F, Os, τ, S, p⟩ := h
  refine ⟨B, fx, F, Os, τ, S, ?_⟩
  cases hc : c τ with
  | ok t τ' =>
    rw [hc] at p
    intro F' Os' O v H' s S' x r
    have s2 : Stp (B L) F' H' (fun a => F' a ∨ a ∈ O) H' := ⟨fun _ h => .inl h, fun a h => h.imp id fun z b => (x.own a z).2.1 b, fun _ _ => rfl, fun _ _ e _ => e, fun _ h => h, fun hF a h => h.elim (hF a) fun z => (x.own a z).2.2⟩
    refine p (fun a => F' a ∨ a ∈ O) Os' [] v H' (s.trans s2) (S'.step s2 fun i a ha => ⟨rfl, fun z => z.elim (S'.own i a ha).1 fun z => x.dj a z i ha⟩) Xt.nil (VR.fr_of (Ow.rp r (fun _ h => .inl h) fun _ h => .inr h))
  | exn c fs xs τ' => rw [hc] at p; exact p
  | stuck => rw [hc] at p; exact p.elim
/-- a look: is it made of scalars -/
def oChk (t : T) : Option T := if imm t = true then some t else none
def cChk (c : M T) : M T := cOp1 oChk c
theorem ex_chk (h : EX X W L Γh Γ e c m Γ') (hm : m.own = false) : EX X W L Γh Γ e (cChk c) .sc Γ' := by
  refine PE.imp h fun σ H Q h => ?_
  obtain ⟨B, fx, F, Os, τ, S, p⟩ := h
  refine ⟨B, fx, F, Os, τ, S, post_bind (Γ1 := Γ') (ma := m) p fun t τ' F' Os' O v H' s S' x r p' => ?_⟩
  have e := r.noO hm
  subst e
  unfold oChk at p'
  by_cases hi : imm t = true
  · rw [if_pos hi] at p'
    exact p' F' Os' [] v H' Stp.refl S' Xt.nil (VR.sc_of hi (Rp.imm (P := fun a => F' a ∨ B m.lv a) hi (r.rp (fun _ h => .inl h) (fun _ h => .inr h) (by simp))))
  · rw [if_neg hi] at p'
    exact p'.elim

/-! ### argument lists -/
def cNil : M (List T) := M.pure []
def cCons (c : M T) (r : M (List T)) : M (List T) := M.bind c fun x => M.bind r fun xs => M.pure (x :: xs)
theorem ax_nil : AX X W L Γh Γ [] cNil [] Γ := by
  refine PA.imp pa_nil fun σ H Q h => ?_
  obtain ⟨B, fx, F, Os, τ, S, p⟩ := h
  exact p F Os [] H Stp.refl S ⟨rfl, rfl⟩
theorem starEach_plain (env : Env) {e : Expr} (h : ∀ v p, e ≠ .Starred v p) : starEach (e :: es) env = (false, eval e env) :: starEach es env := by
  cases e <;> first | rfl | exact absurd rfl (h _ _)
theorem ax_cons (hs : ∀ v p, e ≠ .Starred v p) (he : EX X W L Γh Γ e c m Γ1) (hr : AX X W L Γh Γ1 es cl ms Γ2) (hm : m.own = false) (hl : m.lv ≤ L) : AX X W L Γh Γ (e :: es) (cCons c cl) (m :: ms) Γ2 := by
  refine PA.imp (pa_cons he hr (starEach_plain _ hs)) fun σ H Q h => ?_
  obtain ⟨B, fx, F, Os, τ, S, p⟩ := h
  refine ⟨B, fx, F, Os, τ, S, ?_⟩
  unfold cCons M.bind at p
  cases hc : c τ with
  | ok t τ' =>
    rw [hc] at p
    intro F' Os' O v H' s S' x r
    have e := r.noO hm
    subst e
    refine ⟨B, fx, F', Os', τ', S', ?_⟩
    dsimp only at p
    cases hc' : cl τ' with
    | ok ts τ2 =>
      rw [hc'] at p
      exact fun F2 Os2 vs H2 s2 S2 r2 => p F2 Os2 (v :: vs) H2 (s.trans s2) S2 ⟨v, vs, t, ts, rfl, rfl, hm, hl, r.step S'.mono s2 hl (by simp), r2⟩
    | exn c fs xs τ2 => rw [hc'] at p; exact PostX.later p s
    | stuck => rw [hc'] at p; exact p.elim
  | exn c fs xs τ' => rw [hc] at p; exact p
  | stuck => rw [hc] at p; exact p.elim

/-! ### displays -/
theorem vrl_fr {K : PySem.W.Frag} {mg : Str → Option Value} {F : Addr → Prop} {H : Hp} : ∀ {ms : List Md} {vs : List V} {ts : List T}, VRL K mg B L F H ms vs ts → ms.all (fun m => m == .fr || m == .sc) = true → RpL K mg H F vs ts
  | [], _, _, h, _ => by
    obtain ⟨rfl, rfl⟩ := h
    rfl
  | m :: ms, _, _, h, k => by
    obtain ⟨v, r, t, ts', rfl, rfl, _, _, q, h⟩ := h
    rw [List.all_cons, Bool.and_eq_true] at k
    refine ⟨v, r, rfl, ?_, vrl_fr h k.2⟩
    have k1 := k.1
    rw [Bool.or_eq_true] at k1
    rcases k1 with z | z
    · have e : m = .fr := by simpa using z
      subst e
      exact q.fr_rp
    · have e : m = .sc := by simpa using z
      subst e
      exact q.2.2
def small (n : Nat) : Bool := decide (n ≤ 1000000)
theorem small_le {n : Nat} (h : small n = true) : n ≤ sizeLine := by
  have : n ≤ 1000000 := of_decide_eq_true h
  rw [sizeLine_eq]; omega
def oTup (xs : List T) : Option T := if small xs.length = true then some (.tup xs) else none
def oLst (xs : List T) : Option T := if small xs.length = true then some (.lst xs) else none
theorem vrl_len {K : PySem.W.Frag} {mg : Str → Option Value} {F : Addr → Prop} {H : Hp} : ∀ {ms : List Md} {vs : List V} {ts : List T}, VRL K mg B L F H ms vs ts → vs.length = ts.length
  | [], _, _, h => by
    obtain ⟨rfl, rfl⟩ := h
    rfl
  | m :: ms, _, _, h => by
    obtain ⟨v, r, t, ts', rfl, rfl, _, _, q, h⟩ := h
    simp [vrl_len h]
theorem postA_opt {σ : L2.St} {Q : VK} {F : Addr → Prop} {H : Hp} {Os : Nat → List Addr} {τ : List (Option T)} {g : List T → Option T} (S : SR X.K X.mg B fx L Γ F Os H σ τ)
    (p : Post X.K X.mg W B fx L Γh Γ' m σ Q F H (cOpL g cl τ)) :
    PostA X.K X.mg W B fx L Γh Γ' ms σ (fun vs H' => ∃ F' ts t, (∀ a, F' a → H' a ≠ none) ∧ VRL X.K X.mg B L F' H' ms vs ts ∧ g ts = some t ∧ ∀ F2 O v H2, New F' H' F2 H2 O → VR X.K X.mg B F2 H2 m O v t → Q v H2) F H (cl τ) := by
  unfold cOpL M.bind at p
  cases hc : cl τ with
  | ok ts τ' =>
    rw [hc] at p
    intro F' Os' vs H' s S' r
    obtain ⟨t, e, k⟩ := post_opt S' (post_later (show Post X.K X.mg W B fx L Γh Γ' m σ Q F H (M.opt (g ts) τ') from p) s)
    exact ⟨F', ts, t, S'.trF, r, e, k⟩
  | exn c fs xs τ' => rw [hc] at p; exact p
  | stuck => rw [hc] at p; exact p.elim
theorem ex_tup {j : Nat} (h : AX X W L Γh Γ es cl ms Γ') (k : ms.all (fun m => m == .fr || m == .sc) = true) : EX X W L Γh Γ (.Tuple es j pos) (cOpL oTup cl) .fr Γ' := by
  refine PE.imp (pe_tup h) fun σ H Q h => ?_
  obtain ⟨B, fx, F, Os, τ, S, p⟩ := h
  refine ⟨B, fx, F, Os, τ, S, ?_⟩
  have q := postA_opt (ms := ms) S p
  cases hc : cl τ with
  | ok ts τ' =>
    rw [hc] at q
    intro F' Os' vs H' s S' r
    obtain ⟨F1, ts1, t, tr, r1, e, k1⟩ := q F' Os' vs H' s S' r
    unfold oTup at e
    split at e
    · rename_i hs
      cases e
      refine ⟨by rw [vrl_len r1]; exact small_le hs, fun p hp => k1 F1 [] (.ref p) _ ⟨fun a h => upd_ne (fun e => h (by rw [e]; exact hp)), fun _ h => h, fun _ h => .inl h, by simp, List.nodup_nil⟩ (VR.fr_of ⟨p, vs, rfl, SqT.of upd_same, ?_⟩)⟩
      exact RpL.mono (New.one (o := .tup vs) hp tr |>.stp tr (BL := fun _ => False) (by simp)).kpF (fun _ h => h) (vrl_fr r1 k)
    · cases e
  | exn c fs xs τ' => rw [hc] at q; exact q
  | stuck => rw [hc] at q; exact q.elim
theorem ex_lst (h : AX X W L Γh Γ es cl ms Γ') (k : ms.all (fun m => m == .fr || m == .sc) = true) : EX X W L Γh Γ (.List es pos) (cOpL oLst cl) (.ow 1) Γ' := by
  refine PE.imp (pe_lst h) fun σ H Q h => ?_
  obtain ⟨B, fx, F, Os, τ, S, p⟩ := h
  refine ⟨B, fx, F, Os, τ, S, ?_⟩
  have q := postA_opt (ms := ms) S p
  cases hc : cl τ with
  | ok ts τ' =>
    rw [hc] at q
    intro F' Os' vs H' s S' r
    obtain ⟨F1, ts1, t, tr, r1, e, k1⟩ := q F' Os' vs H' s S' r
    unfold oLst at e
    split at e
    · rename_i hs
      cases e
      refine ⟨by rw [vrl_len r1]; exact small_le hs, fun p hp => k1 F1 [p] (.ref p) _ (New.one hp tr) ⟨p, vs, ts1.map fun _ => [], rfl, upd_same, by rw [flatten_nils], owl_of_rpl ?_⟩⟩
      exact RpL.mono (New.one (o := .lst vs) hp tr |>.stp tr (BL := fun _ => False) (by simp)).kpF (fun _ h => h) (vrl_fr r1 k)
    · cases e
  | exn c fs xs τ' => rw [hc] at q; exact q
  | stuck => rw [hc] at q; exact q.elim
end
end TL

/-! TL4: operators on trees, and that the machine's operators do so -/
namespace TL
open PySem PySem.Spec PyProof.Rows L2
section
variable {X : Cx}
/-- what lies in the machine's heap where a list is read -/
theorem seenL {pins : List (Addr × Obj)} {σ : L2.St} {H : Hp} {s : Shared} {p : Addr} {vs : List V} (I : Inv X pins σ H s) (h : Rd H p (.lst vs)) :
    vs.length ≤ sizeLine ∧ ∃ (us : List Value) (n : Nat), Vals vs us ∧ vs.length = us.length ∧ s.heap.get? p = some { cls := .type "list", data := .seq us.toArray n } := by
  obtain ⟨q, us, n, r, g⟩ := h.ok I.hok
  exact ⟨q, us, n, r, r.length, g⟩
def rCatR : R2 := fun x y H Q => ∃ p q vs ws, (x = .ref p ∧ y = .ref q) ∧ (Rd H p (.lst vs) ∧ Rd H q (.lst ws)) ∧ vs.length + ws.length ≤ sizeLine ∧ ∀ d, H d = none → Q (.ref d) (upd H d (.lst (vs ++ ws)))
theorem op_catR : OpR X (binaryOp .Add) rCatR := by
  intro pins s σ H x y v u Q I rx ry h
  obtain ⟨p, q, vs, ws, ⟨rfl, rfl⟩, ⟨hp, hq⟩, room, k⟩ := h
  cases rx
  cases ry
  obtain ⟨_, us, n, r, el, g⟩ := seenL I hp
  obtain ⟨_, us2, n2, r2, el2, g2⟩ := seenL I hq
  have room' : us.toArray.size + us2.toArray.size ≤ sizeLine := by
    rw [List.size_toArray, List.size_toArray, ← el, ← el2]
    exact room
  refine PySem.P.add_list g g2 ?_ room'
  rw [show us.toArray ++ us2.toArray = (us ++ us2).toArray by simp]
  have J := I.lnew (ys := vs ++ ws) (its := us ++ us2) (t' := s.toks) (r.append r2) (by rw [List.length_append]; exact room)
  exact ⟨.ref _, _, J, rfl, k _ I.fresh⟩
def rRepR : R2 := fun x y H Q => ∃ p i vs, (x = .ref p ∧ y = .int i) ∧ Rd H p (.lst vs) ∧ (-(2 ^ 63) ≤ i ∧ i < 2 ^ 63) ∧ vs.length * i.toNat ≤ sizeLine ∧ ∀ d, H d = none → Q (.ref d) (upd H d (.lst (List.replicate i.toNat vs).flatten))
theorem op_repR : OpR X (binaryOp .Mult) rRepR := by
  intro pins s σ H x y v u Q I rx ry h
  obtain ⟨p, i, vs, ⟨rfl, rfl⟩, hp, ⟨b1, b2⟩, room, k⟩ := h
  cases rx
  obtain ⟨t, rfl⟩ := ry
  obtain ⟨_, us, n, r, el, g⟩ := seenL I hp
  have room' : us.toArray.size * i.toNat ≤ sizeLine := by rw [List.size_toArray, ← el]; exact room
  have c1 : ¬ (!Builtin.List.listFitsIndex i) = true := by rw [fitsIndex_both b1 b2]; decide
  have c2 : ¬ us.toArray.size * i.toNat > (2 ^ 63 - 1) / 8 := by
    have z : (sizeLine : Nat) ≤ (2 ^ 63 - 1) / 8 := by decide
    omega
  have c3 : ¬ Builtin.List.listTooLong (us.toArray.size * i.toNat) = true := by rw [notLongL room']; decide
  have made : List.foldl (fun a b => a ++ b) #[] (List.replicate (if us.toArray.isEmpty = true then 0 else i.toNat) us.toArray) = (List.replicate i.toNat us).flatten.toArray := by
    have one : ∀ j : Nat, List.foldl (fun a b => a ++ b) #[] (List.replicate j us.toArray) = (List.replicate j us).flatten.toArray := fun j => by
      have z := foldl_rep us j []
      rwa [List.nil_append] at z
    rw [one]
    cases us with
    | nil => simp
    | cons _ _ => rw [if_neg (by simp)]
  refine wpAny_binaryOp_repeat_ref (T := "list") (U := "int") (by decide) ⟨_, g, rfl⟩ (fun s' => typeIs_int s' i t) noFill_list_mul F.fills_int_mul F.slot_int_rmul repeat_list F.slot_int_index.lookup ?_
  refine call_meets F.slot_int_rmul (typeIs_int s i t) F.entry_int_rmul (F.args_int_rmul_2 _ _) (int___rmul___int_list i t p us.toArray n) ⟨g, rfl, ⟨_, g, rfl⟩, ?_⟩
  refine call_meets F.slot_list_mul ⟨_, g, rfl⟩ F.entry_list_mul (F.args_list_mul_2 _ _) (AutoListH.list___mul___list_int_3 p us.toArray n i t c1 c2 c3) ⟨g, ?_⟩
  rw [made]
  have J := I.lnew (ys := (List.replicate i.toNat vs).flatten) (t' := s.toks) (r.rep i.toNat) (by rw [PyProof.Rows.lm_len_rep_flat, Nat.mul_comm]; exact room)
  exact ⟨.ref _, _, J, rfl, k _ I.fresh⟩
end

/-! ### the operators on trees -/
def fits (i : Int) : Bool := decide (i.natAbs < 18446744073709551616)
def wide (i : Int) : Bool := decide (i.natAbs.log2 < 9000)
def idx (i : Int) : Bool := decide (-9223372036854775808 ≤ i) && decide (i < 9223372036854775808)
def oAdd : T → T → Option T
  | .int i, .int j => some (.int (i + j))
  | .str x, .str y => if small (x.length + y.length) = true then some (.str (x ++ y)) else none
  | .lst xs, .lst ys => if small (xs.length + ys.length) = true then some (.lst (xs ++ ys)) else none
  | _, _ => none
def oSub : T → T → Option T
  | .int i, .int j => some (.int (i - j))
  | _, _ => none
def oMul : T → T → Option T
  | .int i, .int j => if (fits i || fits j) = true then some (.int (i * j)) else none
  | .lst xs, .int j => if (idx j && small (xs.length * j.toNat)) = true then some (.lst (List.replicate j.toNat xs).flatten) else none
  | _, _ => none
def oDiv : T → T → Option T
  | .int i, .int j => if (decide (0 < j) && wide j) = true then some (.int (i / j)) else none
  | _, _ => none
def oMod : T → T → Option T
  | .int i, .int j => if 0 < j then some (.int (i % j)) else none
  | _, _ => none
def oPow : T → T → Option T
  | .int i, .int j => if (decide (0 ≤ j) && decide (j ≤ 1000000) && fits i) = true then some (.int (i ^ j.toNat)) else none
  | _, _ => none
def oShl : T → T → Option T
  | .int i, .int j => if (decide (0 ≤ j) && decide (j ≤ 1000000) && fits i) = true then some (.int (i * 2 ^ j.toNat)) else none
  | _, _ => none
def oShr : T → T → Option T
  | .int i, .int j => if 0 ≤ j then some (.int (i / 2 ^ j.toNat)) else none
  | _, _ => none
def oAnd : T → T → Option T
  | .int i, .int j => some (.int (Builtin.bitAnd i j))
  | _, _ => none
def oOr : T → T → Option T
  | .int i, .int j => some (.int (Builtin.bitOr i j))
  | _, _ => none
def oXor : T → T → Option T
  | .int i, .int j => some (.int (Builtin.bitXor i j))
  | _, _ => none

section
variable {K : PySem.W.Frag} {mg : Str → Option Value} {B : Nat → Addr → Prop} {L : Lv} {m ma mb : Md}
/-- the readings of the modes by shape -/
theorem vr_int {F : Addr → Prop} {H : Hp} {O : List Addr} {v : V} {i : Int} (h : VR K mg B F H m O v (.int i)) : v = .int i := by
  have r : Rp K mg H (fun _ => True) v (.int i) := h.rp (fun _ _ => trivial) (fun _ _ => trivial) (fun _ _ => trivial)
  exact r
theorem vr_str {F : Addr → Prop} {H : Hp} {O : List Addr} {v : V} {i : Str} (h : VR K mg B F H m O v (.str i)) : v = .str i := by
  have r : Rp K mg H (fun _ => True) v (.str i) := h.rp (fun _ _ => trivial) (fun _ _ => trivial) (fun _ _ => trivial)
  exact r
theorem vr_bl {F : Addr → Prop} {H : Hp} {O : List Addr} {v : V} {i : Bool} (h : VR K mg B F H m O v (.bl i)) : v = .bl i := by
  have r : Rp K mg H (fun _ => True) v (.bl i) := h.rp (fun _ _ => trivial) (fun _ _ => trivial) (fun _ _ => trivial)
  exact r
theorem vr_non {F : Addr → Prop} {H : Hp} {O : List Addr} {v : V} (h : VR K mg B F H m O v .non) : v = .non := by
  have r : Rp K mg H (fun _ => True) v .non := h.rp (fun _ _ => trivial) (fun _ _ => trivial) (fun _ _ => trivial)
  exact r
theorem vr_lst {F : Addr → Prop} {H : Hp} {O : List Addr} {v : V} {xs : List T} (h : VR K mg B F H m O v (.lst xs)) : ∃ a vs, v = .ref a ∧ Rd H a (.lst vs) ∧ RpL K mg H (fun _ => True) vs xs := by
  have r : Rp K mg H (fun _ => True) v (.lst xs) := h.rp (fun _ _ => trivial) (fun _ _ => trivial) (fun _ _ => trivial)
  obtain ⟨a, vs, e, l, q⟩ := r
  exact ⟨a, vs, e, l.2, q⟩
theorem vr_tup {F : Addr → Prop} {H : Hp} {O : List Addr} {v : V} {xs : List T} (h : VR K mg B F H m O v (.tup xs)) : ∃ a vs, v = .ref a ∧ SqT K H a vs ∧ RpL K mg H (fun _ => True) vs xs := by
  have r : Rp K mg H (fun _ => True) v (.tup xs) := h.rp (fun _ _ => trivial) (fun _ _ => trivial) (fun _ _ => trivial)
  exact r
/-- are the items of such a list frozen -/
def Md.kf : Md → Bool
  | .sc => true
  | .bk _ d => decide (d ≤ 1)
  | .ow d => decide (d ≤ 1)
  | _ => false
theorem vr_kids {F : Addr → Prop} {H : Hp} {O : List Addr} {v : V} {xs : List T} (h : VR K mg B F H m O v (.lst xs)) (k : m.kf = true) : ∃ a vs, v = .ref a ∧ Rd H a (.lst vs) ∧ RpL K mg H F vs xs := by
  have one : ∀ d O, d ≤ 1 → Ow K mg H F d O v (.lst xs) → ∃ a vs, v = .ref a ∧ Rd H a (.lst vs) ∧ RpL K mg H F vs xs := fun d O hd q => by
    cases d with
    | zero =>
      obtain ⟨a, vs, e, l, q⟩ := q.2
      exact ⟨a, vs, e, l.2, q⟩
    | succ d =>
      have e : d = 0 := by omega
      subst e
      obtain ⟨a, vs, Os, e, l, _, q⟩ := q
      exact ⟨a, vs, e, .inl l, (owl_zero q).2⟩
  cases m with
  | un => exact h.elim
  | sc => exact absurd h.2.1 (by simp [imm])
  | bk l d =>
    obtain ⟨_, O', _, q⟩ := h
    exact one d O' (of_decide_eq_true k) q
  | bo l => cases k
  | ow d => exact one d O (of_decide_eq_true k) h
theorem new_lst {F : Addr → Prop} {H : Hp} {Q : VK} {vs : List V} {xs : List T} (hF : ∀ a, F a → H a ≠ none) (r : RpL K mg H F vs xs) (k : ∀ F' O v H', New F H F' H' O → VR K mg B F' H' (.ow 1) O v (.lst xs) → Q v H') :
    ∀ d, H d = none → Q (.ref d) (upd H d (.lst vs)) := fun d hd =>
  k F [d] (.ref d) _ (New.one hd hF) ⟨d, vs, xs.map fun _ => [], rfl, upd_same, by rw [flatten_nils], owl_of_rpl (RpL.mono (New.one (o := .lst vs) hd hF |>.stp hF (BL := fun _ => False) (by simp)).kpF (fun _ h => h) r)⟩
theorem fits_ok {i j : Int} (h : (fits i || fits j) = true) : CMul i j := by
  unfold fits at h
  rw [Bool.or_eq_true] at h
  rcases h with h | h
  · have h := of_decide_eq_true h
    exact .inl (by omega)
  · have h := of_decide_eq_true h
    exact .inr (by omega)
theorem fits_abs {i : Int} (h : fits i = true) : i.natAbs < 2 ^ 64 := by
  have h := of_decide_eq_true h
  omega
/-- a scalar result at the same heap -/
theorem fin_sc {F : Addr → Prop} {H : Hp} {Q : VK} {t : T} {v : V} (k : ∀ F' O v H', New F H F' H' O → VR K mg B F' H' .sc O v t → Q v H') (i : imm t = true) (r : Rp K mg H F v t) : Q v H := k F [] v H New.nil (VR.sc_of i r)
theorem fin_ow {F : Addr → Prop} {H : Hp} {Q : VK} {t : T} {v : V} (k : ∀ F' O v H', New F H F' H' O → VR K mg B F' H' (.ow 1) O v t → Q v H') (i : imm t = true) (r : Rp K mg H F v t) : Q v H := k F [] v H New.nil (Ow.of_imm 1 i r)

def rAddT : R2 := fun x y H Q => rI0 (fun i j => .int (i + j)) x y H Q ∨ (fun x y H Q => ∃ i j, x = .str i ∧ y = .str j ∧ i.length + j.length ≤ sizeLine ∧ Q (.str (i ++ j)) H : R2) x y H Q ∨ rCatR x y H Q
theorem op_addT {X : Cx} : OpR X (binaryOp .Add) rAddT := op_add.or (op_add_str.or op_catR)
theorem s_add (ka : ma.kf = true) (kb : mb.kf = true) : Op2S K mg B L rAddT ma mb oAdd (.ow 1) := by
  intro F H x y tx ty t Q hF ra rb e k
  unfold oAdd at e
  split at e
  · cases e
    exact .inl ⟨_, _, vr_int ra, vr_int rb, fin_ow k rfl rfl⟩
  · split at e
    · rename_i h
      cases e
      exact .inr (.inl ⟨_, _, vr_str ra, vr_str rb, small_le h, fin_ow k rfl rfl⟩)
    · cases e
  · split at e
    · rename_i h
      cases e
      obtain ⟨a, vs, rfl, l, q⟩ := vr_kids ra ka
      obtain ⟨b, ws, rfl, l2, q2⟩ := vr_kids rb kb
      exact .inr (.inr ⟨a, b, vs, ws, ⟨rfl, rfl⟩, ⟨l, l2⟩, by rw [rpl_len q, rpl_len q2]; exact small_le h, new_lst hF (rpl_append q q2) k⟩)
    · cases e
  · cases e
/-- where no list is added -/
theorem s_addN : Op2S K mg B L rAddT ma mb (fun x y => (oAdd x y).bind oChk) .sc := by
  intro F H x y tx ty t Q hF ra rb e k
  unfold oAdd at e
  dsimp only at e
  split at e
  · cases e
    exact .inl ⟨_, _, vr_int ra, vr_int rb, fin_sc k rfl rfl⟩
  · split at e
    · rename_i h
      cases e
      exact .inr (.inl ⟨_, _, vr_str ra, vr_str rb, small_le h, fin_sc k rfl rfl⟩)
    · cases e
  · split at e
    · simp [oChk, imm] at e
    · cases e
  · cases e
theorem s_sub : Op2S K mg B L (rI0 fun i j => .int (i - j)) ma mb oSub .sc := by
  intro F H x y tx ty t Q hF ra rb e k
  unfold oSub at e
  split at e
  · cases e
    exact ⟨_, _, vr_int ra, vr_int rb, fin_sc k rfl rfl⟩
  · cases e
def rMulT : R2 := fun x y H Q => rI CMul (fun i j => .int (i * j)) x y H Q ∨ rRepR x y H Q
theorem op_mulT {X : Cx} : OpR X (binaryOp .Mult) rMulT := op_mul.or op_repR
theorem s_mul (ka : ma.kf = true) : Op2S K mg B L rMulT ma mb oMul (.ow 1) := by
  intro F H x y tx ty t Q hF ra rb e k
  unfold oMul at e
  split at e
  · split at e
    · rename_i h
      cases e
      exact .inl ⟨_, _, vr_int ra, vr_int rb, fits_ok h, fin_ow k rfl rfl⟩
    · cases e
  · split at e
    · rename_i h
      cases e
      rw [Bool.and_eq_true] at h
      obtain ⟨a, vs, rfl, l, q⟩ := vr_kids ra ka
      have hi := h.1
      unfold idx at hi
      rw [Bool.and_eq_true] at hi
      exact .inr ⟨a, _, vs, ⟨rfl, vr_int rb⟩, l, ⟨by have := of_decide_eq_true hi.1; omega, by have := of_decide_eq_true hi.2; omega⟩, by rw [rpl_len q]; exact small_le h.2, new_lst hF (rpl_rep _ _ q _) k⟩
    · cases e
  · cases e
theorem s_mulN : Op2S K mg B L rMulT ma mb (fun x y => (oMul x y).bind oChk) .sc := by
  intro F H x y tx ty t Q hF ra rb e k
  unfold oMul at e
  dsimp only at e
  split at e
  · split at e
    · rename_i h
      cases e
      exact .inl ⟨_, _, vr_int ra, vr_int rb, fits_ok h, fin_sc k rfl rfl⟩
    · cases e
  · split at e
    · simp [oChk, imm] at e
    · cases e
  · cases e
theorem s_div : Op2S K mg B L (rI CDivW fun i j => .int (i / j)) ma mb oDiv .sc := by
  intro F H x y tx ty t Q hF ra rb e k
  unfold oDiv at e
  split at e
  · split at e
    · rename_i h
      cases e
      rw [Bool.and_eq_true] at h
      exact ⟨_, _, vr_int ra, vr_int rb, ⟨of_decide_eq_true h.1, of_decide_eq_true h.2⟩, fin_sc k rfl rfl⟩
    · cases e
  · cases e
theorem s_mod : Op2S K mg B L (rI (fun _ j => 0 < j) fun i j => .int (i % j)) ma mb oMod .sc := by
  intro F H x y tx ty t Q hF ra rb e k
  unfold oMod at e
  split at e
  · split at e
    · rename_i h
      cases e
      exact ⟨_, _, vr_int ra, vr_int rb, h, fin_sc k rfl rfl⟩
    · cases e
  · cases e
theorem s_pow : Op2S K mg B L (rI CPow fun i j => .int (i ^ j.toNat)) ma mb oPow .sc := by
  intro F H x y tx ty t Q hF ra rb e k
  unfold oPow at e
  split at e
  · split at e
    · rename_i h
      cases e
      rw [Bool.and_eq_true, Bool.and_eq_true] at h
      exact ⟨_, _, vr_int ra, vr_int rb, ⟨of_decide_eq_true h.1.1, of_decide_eq_true h.1.2, fits_abs h.2⟩, fin_sc k rfl rfl⟩
    · cases e
  · cases e
theorem s_shl : Op2S K mg B L (rI CPow fun i j => .int (i * 2 ^ j.toNat)) ma mb oShl .sc := by
  intro F H x y tx ty t Q hF ra rb e k
  unfold oShl at e
  split at e
  · split at e
    · rename_i h
      cases e
      rw [Bool.and_eq_true, Bool.and_eq_true] at h
      exact ⟨_, _, vr_int ra, vr_int rb, ⟨of_decide_eq_true h.1.1, of_decide_eq_true h.1.2, fits_abs h.2⟩, fin_sc k rfl rfl⟩
    · cases e
  · cases e
theorem s_shr : Op2S K mg B L (rI (fun _ j => 0 ≤ j) fun i j => .int (i / 2 ^ j.toNat)) ma mb oShr .sc := by
  intro F H x y tx ty t Q hF ra rb e k
  unfold oShr at e
  split at e
  · split at e
    · rename_i h
      cases e
      exact ⟨_, _, vr_int ra, vr_int rb, h, fin_sc k rfl rfl⟩
    · cases e
  · cases e
theorem s_and : Op2S K mg B L (rI0 fun i j => .int (Builtin.bitAnd i j)) ma mb oAnd .sc := by
  intro F H x y tx ty t Q hF ra rb e k
  unfold oAnd at e
  split at e
  · cases e
    exact ⟨_, _, vr_int ra, vr_int rb, fin_sc k rfl rfl⟩
  · cases e
theorem s_or : Op2S K mg B L (rI0 fun i j => .int (Builtin.bitOr i j)) ma mb oOr .sc := by
  intro F H x y tx ty t Q hF ra rb e k
  unfold oOr at e
  split at e
  · cases e
    exact ⟨_, _, vr_int ra, vr_int rb, fin_sc k rfl rfl⟩
  · cases e
theorem s_xor : Op2S K mg B L (rI0 fun i j => .int (Builtin.bitXor i j)) ma mb oXor .sc := by
  intro F H x y tx ty t Q hF ra rb e k
  unfold oXor at e
  split at e
  · cases e
    exact ⟨_, _, vr_int ra, vr_int rb, fin_sc k rfl rfl⟩
  · cases e
end
end TL

/-! TL5: weaker modes of the slots; tests; comparisons; and, or, not, if .. else -/
namespace TL
open PySem PySem.Spec PyProof.Rows L2

/-- a mode that asks less -/
def wkM : Md → Md → Bool
  | .un, _ => true
  | .bk l d, .bk l' d' => (decide (l = l') && decide (d = d')) || (decide (d = 0) && decide (d' = 0) && decide (l' ≤ l))
  | .bk l d, .ow _ => decide (l = 0) && decide (d = 0)
  | .bk l d, .sc => decide (l = 0) && decide (d = 0)
  | .bo l, .bo l' => decide (l' ≤ l)
  | .bo l, .bk l' d => decide (l' ≤ l)
  | .bo _, .sc => true
  | .ow d, .ow d' => decide (d = d')
  | .sc, .sc => true
  | _, _ => false
def wkG : List Md → List Md → Bool
  | [], [] => true
  | a :: r, b :: s => wkM a b && wkG r s
  | _, _ => false
theorem wkM_own {m' m : Md} (h : wkM m' m = true) (q : m.own = false) : m'.own = false := by
  cases m' <;> first | rfl | (cases m <;> simp [wkM, Md.own] at h q)
theorem wkG_len : ∀ {Γ' Γ : List Md}, wkG Γ' Γ = true → Γ'.length = Γ.length
  | [], [], _ => rfl
  | a :: r, b :: s, h => by
    have h' : (wkM a b && wkG r s) = true := h
    rw [Bool.and_eq_true] at h'
    simp [wkG_len h'.2]
  | [], _ :: _, h => by cases h
  | _ :: _, [], h => by cases h
theorem wkG_get : ∀ {Γ' Γ : List Md} {i : Nat} {m' : Md}, wkG Γ' Γ = true → Γ'[i]? = some m' → ∃ m, Γ[i]? = some m ∧ wkM m' m = true
  | [], [], _, _, _, e => by simp at e
  | a :: r, b :: s, 0, m', h, e => by
    have h' : (wkM a b && wkG r s) = true := h
    rw [Bool.and_eq_true] at h'
    simp at e
    subst e
    exact ⟨b, rfl, h'.1⟩
  | a :: r, b :: s, i + 1, m', h, e => by
    have h' : (wkM a b && wkG r s) = true := h
    rw [Bool.and_eq_true] at h'
    exact wkG_get (i := i) h'.2 (by simpa using e)
  | [], _ :: _, _, _, h, _ => by cases h
  | _ :: _, [], _, _, h, _ => by cases h

section
variable {K : PySem.W.Frag} {mg : Str → Option Value} {B : Nat → Addr → Prop} {fx : Fx} {L : Lv} {Γ Γ' : List Md} {F F' : Addr → Prop} {Os : Nat → List Addr} {H H' : Hp} {σ : L2.St} {τ : List (Option T)}
/-- what keeps its owner -/
def kept (Γ' : List Md) (i : Nat) : Bool := match Γ'[i]? with
  | some (.ow _) => true
  | _ => false
theorem SR.weakF (S : SR K mg B fx L Γ F Os H σ τ) (w : wkG Γ' Γ = true) (hl : Γ'.all (fun m => decide (m.lv ≤ L)) = true) :
    ∃ F', Stp (B L) F H F' H ∧ SR K mg B fx L Γ' F' (fun i => if kept Γ' i = true then Os i else []) H σ τ ∧ ∀ a, F' a → F a ∨ ∃ i, a ∈ Os i := by
  have len := wkG_len w
  have stp : Stp (B L) F H (fun a => F a ∨ ∃ i, kept Γ' i = false ∧ a ∈ Os i) H :=
    ⟨fun _ h => .inl h, fun a h => h.imp id fun ⟨i, _, z⟩ b => (S.own i a z).2.1 b, fun _ _ => rfl, fun _ _ e _ => e, fun _ h => h, fun hF a h => h.elim (hF a) fun ⟨i, _, z⟩ => (S.own i a z).2.2⟩
  refine ⟨_, stp, ⟨S.lσ.trans len.symm, S.lτ.trans len.symm, fun i m' e => ?_, fun i hi => ?_, fun m hm => ?_, fun i => ?_, fun i j a hi hj => ?_, fun i a ha => ?_, stp.tf S.trF, S.trB, S.mono, S.fix, fun p hp => ⟨(S.fixT p hp).1, fun m' e => ?_⟩, S.fz⟩, fun a h => h.imp id fun ⟨i, _, z⟩ => ⟨i, z⟩⟩
  · obtain ⟨m, em, wm⟩ := wkG_get w e
    have kp : Kp F H H := Kp.refl _ _
    rcases S.slot i m em with ⟨rfl, eo⟩ | ⟨v, t, e1, e2, r⟩
    · have : m' = .un := by
        cases m' <;> first | rfl | (exfalso; revert wm; simp [wkM])
      subst this
      refine .inl ⟨rfl, ?_⟩
      simp [eo]
    · have nk : m'.own = false → (if kept Γ' i = true then Os i else []) = [] := fun h => by
        have : kept Γ' i = false := by
          unfold kept
          rw [e]
          cases m' <;> first | rfl | cases h
        simp [this]
      have kf : m'.own = false → kept Γ' i = false := fun h => by
        unfold kept
        rw [e]
        cases m' <;> first | rfl | cases h
      cases m' with
      | un => exact .inl ⟨rfl, nk rfl⟩
      | sc =>
        rw [nk rfl]
        cases m with
        | sc =>
          exact .inr ⟨v, t, e1, e2, rfl, r.2.1, Rp.mono kp (fun _ h => .inl h) r.2.2⟩
        | _ => exfalso; revert wm; simp [wkM]
      | bk l d =>
        rw [nk rfl]
        refine .inr ⟨v, t, e1, e2, ?_⟩
        cases m with
        | un => exfalso; revert wm; simp [wkM]
        | sc =>
          simp only [wkM, Bool.and_eq_true, decide_eq_true_eq] at wm
          obtain ⟨rfl, rfl⟩ := wm
          exact VR.fr_of (Rp.mono kp (fun _ h => .inl h) r.2.2)
        | bk l' d' =>
          obtain ⟨eo, O', hO', q⟩ := r
          simp only [wkM, Bool.or_eq_true, Bool.and_eq_true, decide_eq_true_eq] at wm
          rcases wm with ⟨rfl, rfl⟩ | ⟨⟨rfl, rfl⟩, _⟩
          · exact ⟨rfl, O', hO', q.mono kp (fun _ h => .inl h) fun _ _ => rfl⟩
          · exact ⟨rfl, [], by simp, rfl, Rp.mono kp (fun _ h => .inl h) q.2⟩
        | bo l' => exfalso; revert wm; simp [wkM]
        | ow d' =>
          simp only [wkM, Bool.and_eq_true, decide_eq_true_eq] at wm
          obtain ⟨rfl, rfl⟩ := wm
          exact VR.fr_of (Ow.rp r (fun _ h => .inl h) fun a ha => .inr ⟨i, kf rfl, ha⟩)
      | bo l =>
        rw [nk rfl]
        refine .inr ⟨v, t, e1, e2, ?_⟩
        cases m with
        | un => exfalso; revert wm; simp [wkM]
        | sc => exact ⟨rfl, Rp.imm r.2.1 r.2.2⟩
        | bk l' d' =>
          obtain ⟨eo, O', hO', q⟩ := r
          simp only [wkM, decide_eq_true_eq] at wm
          exact ⟨rfl, q.rp (fun _ h => .inl (.inl h)) fun a ha => .inr (S.mono _ _ _ wm (hO' a ha))⟩
        | bo l' =>
          simp only [wkM, decide_eq_true_eq] at wm
          exact ⟨rfl, Rp.mono (Kp.refl _ _) (fun a h => h.elim (fun z => .inl (.inl z)) fun z => .inr (S.mono _ _ _ wm z)) r.2⟩
        | ow d' => exfalso; revert wm; simp [wkM]
      | ow d =>
        have k1 : kept Γ' i = true := by unfold kept; rw [e]
        rw [if_pos k1]
        cases m with
        | ow d' =>
          simp only [wkM, decide_eq_true_eq] at wm
          subst wm
          exact .inr ⟨v, t, e1, e2, Ow.mono r kp (fun _ h => .inl h) fun _ _ => rfl⟩
        | _ => exfalso; revert wm; simp [wkM]
  · have := S.out i (by omega)
    simp [this]
  · exact of_decide_eq_true (List.all_eq_true.mp hl m hm)
  · split
    · exact S.nd i
    · exact List.nodup_nil
  · split at hi
    · split at hj
      · exact S.dj i j a hi hj
      · cases hj
    · cases hi
  · split at ha
    · rename_i k
      refine ⟨fun z => ?_, (S.own i a ha).2⟩
      rcases z with z | ⟨j, kj, z⟩
      · exact (S.own i a ha).1 z
      · have := S.dj i j a ha z
        subst this
        rw [k] at kj
        cases kj
    · cases ha
  · obtain ⟨m, em, wm⟩ := wkG_get w e
    exact wkM_own wm ((S.fixT p hp).2 m em)
theorem SR.weak (S : SR K mg B fx L Γ F Os H σ τ) (w : wkG Γ' Γ = true) (hl : Γ'.all (fun m => decide (m.lv ≤ L)) = true) :
    ∃ F', Stp (B L) F H F' H ∧ SR K mg B fx L Γ' F' (fun i => if kept Γ' i = true then Os i else []) H σ τ := by
  obtain ⟨F', s, S', _⟩ := S.weakF w hl
  exact ⟨F', s, S'⟩
end
section
variable {X : Cx} {W : WX} {B : Nat → Addr → Prop} {fx : Fx} {L : Lv} {Γh Γ Γ1 Γ2 Γ' : List Md} {e a b d : Expr} {es rest : List Expr} {c ca cb cd : M T} {m ma mb mc m' : Md} {ms : List Md} {pos : Pos} {cl : M (List T)} {tc ta tb : M Bool}

/-- the slots' modes weakened behind an expression that owns nothing -/
theorem ex_weak (h : EX X W L Γh Γ e c m Γ1) (hm : m.own = false) (hl : m.lv ≤ L) (w : wkG Γ' Γ1 = true) (lv : Γ'.all (fun m => decide (m.lv ≤ L)) = true) : EX X W L Γh Γ e c m Γ' := by
  refine PE.imp h fun σ H Q h => ?_
  obtain ⟨B, fx, F, Os, τ, S, p⟩ := h
  refine ⟨B, fx, F, Os, τ, S, ?_⟩
  cases hc : c τ with
  | ok t τ' =>
    rw [hc] at p
    intro F' Os' O v H' s S' x r
    have eO := r.noO hm
    subst eO
    obtain ⟨F2, s2, S2⟩ := S'.weak w lv
    exact p F2 _ [] v H' (s.trans s2) S2 Xt.nil (r.step S'.mono s2 hl (by simp))
  | exn c fs xs τ' => rw [hc] at p; exact p
  | stuck => rw [hc] at p; exact p.elim
theorem tx_weak (h : TX X W L Γh Γ e tc Γ1) (w : wkG Γ' Γ1 = true) (lv : Γ'.all (fun m => decide (m.lv ≤ L)) = true) : TX X W L Γh Γ e tc Γ' := by
  refine PT.imp h fun σ H Q h => ?_
  obtain ⟨B, fx, F, Os, τ, S, p⟩ := h
  refine ⟨B, fx, F, Os, τ, S, ?_⟩
  cases hc : tc τ with
  | ok t τ' =>
    rw [hc] at p
    intro F' Os' H' s S'
    obtain ⟨F2, s2, S2⟩ := S'.weak w lv
    exact p F2 _ H' (s.trans s2) S2
  | exn c fs xs τ' => rw [hc] at p; exact p
  | stuck => rw [hc] at p; exact p.elim

/-! ### tests -/
/-- a truth value alone -/
def oB : T → Option Bool
  | .bl b => some b
  | _ => none
def cB (c : M T) : M Bool := M.bind c fun x => M.opt (oB x)
theorem rt_re {σ : L2.St} {H : Hp} {Q : Bool → Hp → Prop} (h : RT X.K X.mg W L Γh Γ (cB c) Γ' σ H Q) : RE X.K X.mg W L Γh Γ c m Γ' σ H (fun x H' => ∃ k, x = .bl k ∧ Q k H') := by
  obtain ⟨B, fx, F, Os, τ, S, p⟩ := h
  refine ⟨B, fx, F, Os, τ, S, ?_⟩
  unfold cB M.bind at p
  cases hc : c τ with
  | ok t τ' =>
    rw [hc] at p
    intro F' Os' O v H' s S' x r
    cases t with
    | bl k => exact ⟨k, vr_bl r, p F' Os' H' s S'⟩
    | _ => exact p.elim
  | exn c fs xs τ' => rw [hc] at p; exact p
  | stuck => rw [hc] at p; exact p.elim
theorem tx_val (h : EX X W L Γh Γ e c m Γ') (he : ∀ whole, isTrue e X.env whole = (do let v ← whole; standAt e.pos; holding [v] (truthy v))) : TX X W L Γh Γ e (cB c) Γ' :=
  PT.imp (pt_val h he) fun σ H Q h => rt_re h
theorem re_op2 {r : R2} {g : T → T → Option T} {σ : L2.St} {H : Hp} {Q : VK} (na : ma.own = false) (nb : mb.own = false) (la : ma.lv ≤ L) (hr : ∀ B, Op2S X.K X.mg B L r ma mb g m)
    (h : RE X.K X.mg W L Γh Γ (cOp2 g ca cb) m Γ2 σ H Q) : tOp r (RE X.K X.mg W L Γh Γ ca ma Γ1) (RE X.K X.mg W L Γh Γ1 cb mb Γ2) σ H Q := by
  obtain ⟨B, fx, F, Os, τ, S, p⟩ := h
  refine ⟨B, fx, F, Os, τ, S, post_bind p fun t τ' F' Os' O v H' s S' x v' p' => ?_⟩
  have eO := v'.noO na
  subst eO
  refine ⟨B, fx, F', Os', τ', S', post_bind p' fun t2 τ2 F2 Os2 O2 v2 H2 s2 S2 x2 v2' p2 => ?_⟩
  obtain ⟨t', e', k⟩ := post_opt S2 p2
  have eO := v2'.noO nb
  subst eO
  exact hr B F2 H2 v v2 t t2 t' Q S2.trF (v'.step S'.mono s2 la (by simp)) v2' e' k
theorem ex_bin {op : Operator} {r : R2} {g : T → T → Option T} (ho : OpR X (binaryOp op) r) (ha : EX X W L Γh Γ a ca ma Γ1) (hb : EX X W L Γh Γ1 b cb mb Γ2) (na : ma.own = false) (nb : mb.own = false) (la : ma.lv ≤ L)
    (hr : ∀ B, Op2S X.K X.mg B L r ma mb g m) : EX X W L Γh Γ (.BinOp a op b pos) (cOp2 g ca cb) m Γ2 := PE.imp (pe_op ho ha hb) fun σ H Q h => re_op2 na nb la hr h
theorem ex_cmp {op : CmpOp} {r : R2} {g : T → T → Option T} (ho : OpR X (compareOp op) r) (ha : EX X W L Γh Γ a ca ma Γ1) (hb : EX X W L Γh Γ1 b cb mb Γ2) (na : ma.own = false) (nb : mb.own = false) (la : ma.lv ≤ L) (hm : behindInMarks op b = false)
    (hr : ∀ B, Op2S X.K X.mg B L r ma mb g m) : EX X W L Γh Γ (.Compare a [op] [b] pos) (cOp2 g ca cb) m Γ2 := PE.imp (pe_cmpR ho ha hb hm) fun σ H Q h => re_op2 na nb la hr h
theorem tx_cmp {op : CmpOp} {r : R2} {g : T → T → Option T} (ho : OpR X (compareOp op) r) (ha : EX X W L Γh Γ a ca ma Γ1) (hb : EX X W L Γh Γ1 b cb mb Γ2) (na : ma.own = false) (nb : mb.own = false) (la : ma.lv ≤ L) (hm : behindInMarks op b = false)
    (hr : ∀ B, Op2S X.K X.mg B L r ma mb g m) : TX X W L Γh Γ (.Compare a [op] [b] pos) (cB (cOp2 g ca cb)) Γ2 := PT.imp (pt_cmpR ho ha hb hm) fun σ H Q h => re_op2 na nb la hr (rt_re h)

theorem postT_bind {K : PySem.W.Frag} {mg : Str → Option Value} {σ : L2.St} {Q Q' : Bool → Hp → Prop} {F : Addr → Prop} {H : Hp} {f : Bool → M Bool} {τ : List (Option T)}
    (p : PostT K mg W B fx L Γh Γ' σ Q F H (M.bind tc f τ))
    (k : ∀ t τ' F' Os' H', Stp (B L) F H F' H' → SR K mg B fx L Γ1 F' Os' H' σ τ' → PostT K mg W B fx L Γh Γ' σ Q F' H' (f t τ') → Q' t H') :
    PostT K mg W B fx L Γh Γ1 σ Q' F H (tc τ) := by
  unfold M.bind at p
  cases h : tc τ with
  | ok t τ' =>
    rw [h] at p
    intro F' Os' H' s S
    refine k t τ' F' Os' H' s S ?_
    have p' : PostT K mg W B fx L Γh Γ' σ Q F H (f t τ') := p
    cases h' : f t τ' with
    | ok t2 τ2 =>
      rw [h'] at p'
      exact fun F2 Os2 H2 s2 S2 => p' F2 Os2 H2 (s.trans s2) S2
    | exn c fs xs τ2 =>
      rw [h'] at p'
      exact PostX.later p' s
    | stuck => rw [h'] at p'; exact p'.elim
  | exn c fs xs τ' => rw [h] at p; exact p
  | stuck => rw [h] at p; exact p.elim
/-- a test, then an expression by its answer -/
theorem postT_bindE {K : PySem.W.Frag} {mg : Str → Option Value} {σ : L2.St} {Q : VK} {Q' : Bool → Hp → Prop} {F : Addr → Prop} {H : Hp} {f : Bool → M T} {τ : List (Option T)}
    (p : Post K mg W B fx L Γh Γ' m σ Q F H (M.bind tc f τ))
    (k : ∀ t τ' F' Os' H', Stp (B L) F H F' H' → SR K mg B fx L Γ1 F' Os' H' σ τ' → Post K mg W B fx L Γh Γ' m σ Q F' H' (f t τ') → Q' t H') :
    PostT K mg W B fx L Γh Γ1 σ Q' F H (tc τ) := by
  unfold M.bind at p
  cases h : tc τ with
  | ok t τ' =>
    rw [h] at p
    intro F' Os' H' s S
    exact k t τ' F' Os' H' s S (post_later (show Post K mg W B fx L Γh Γ' m σ Q F H (f t τ') from p) s)
  | exn c fs xs τ' => rw [h] at p; exact p
  | stuck => rw [h] at p; exact p.elim

/-! ### and, or, not as tests -/
def tAndM (x y : M Bool) : M Bool := M.bind x fun k => if k = true then y else M.pure false
def tOrM (x y : M Bool) : M Bool := M.bind x fun k => if k = true then M.pure true else y
def tNotM (x : M Bool) : M Bool := M.bind x fun k => M.pure (!k)
theorem txw_and1 (ha : TX X W L Γh Γ a tc Γ1) : TXW X W L Γh Γ (.BoolOp .And [a] pos) tc Γ1 := pw_and1 ha
theorem txw_or1 (ha : TX X W L Γh Γ a tc Γ1) : TXW X W L Γh Γ (.BoolOp .Or [a] pos) tc Γ1 := pw_or1 ha
/-- what follows must leave the slots as the first part does -/
theorem txw_and (ha : TX X W L Γh Γ a ta Γ1) (hb : TXW X W L Γh Γ1 (.BoolOp .And (b :: rest) pos) tb Γ1) : TXW X W L Γh Γ (.BoolOp .And (a :: b :: rest) pos) (tAndM ta tb) Γ1 := by
  refine PW.imp (pw_and ha hb) fun σ H Q h => ?_
  obtain ⟨B, fx, F, Os, τ, S, p⟩ := h
  refine ⟨B, fx, F, Os, τ, S, postT_bind p fun k τ' F' Os' H' s S' p' => ?_⟩
  cases k with
  | true =>
    rw [if_pos rfl] at p' ⊢
    exact ⟨B, fx, F', Os', τ', S', p'⟩
  | false =>
    rw [if_neg Bool.false_ne_true] at p' ⊢
    exact p' F' Os' H' Stp.refl S'
theorem txw_or (ha : TX X W L Γh Γ a ta Γ1) (hb : TXW X W L Γh Γ1 (.BoolOp .Or (b :: rest) pos) tb Γ1) : TXW X W L Γh Γ (.BoolOp .Or (a :: b :: rest) pos) (tOrM ta tb) Γ1 := by
  refine PW.imp (pw_or ha hb) fun σ H Q h => ?_
  obtain ⟨B, fx, F, Os, τ, S, p⟩ := h
  refine ⟨B, fx, F, Os, τ, S, postT_bind p fun k τ' F' Os' H' s S' p' => ?_⟩
  cases k with
  | false =>
    rw [if_neg Bool.false_ne_true] at p' ⊢
    exact ⟨B, fx, F', Os', τ', S', p'⟩
  | true =>
    rw [if_pos rfl] at p' ⊢
    exact p' F' Os' H' Stp.refl S'
theorem tx_not (ha : TX X W L Γh Γ a ta Γ1) : TX X W L Γh Γ (.UnaryOp .Not a pos) (tNotM ta) Γ1 := by
  refine PT.imp (pt_not ha) fun σ H Q h => ?_
  obtain ⟨B, fx, F, Os, τ, S, p⟩ := h
  exact ⟨B, fx, F, Os, τ, S, postT_bind p fun k τ' F' Os' H' s S' p' => p' F' Os' H' Stp.refl S'⟩

/-! ### .. as values -/
def cAnd (x y : M T) : M T := M.bind x fun k => match k with
  | .bl true => y
  | .bl false => M.pure (.bl false)
  | _ => fun _ => .stuck
def cOr (x y : M T) : M T := M.bind x fun k => match k with
  | .bl true => M.pure (.bl true)
  | .bl false => y
  | _ => fun _ => .stuck
def oNot : T → Option T
  | .bl k => some (.bl (!k))
  | _ => none
theorem vr_bl_of {K : PySem.W.Frag} {mg : Str → Option Value} {F : Addr → Prop} {H : Hp} {k : Bool} : VR K mg B F H .sc [] (.bl k) (.bl k) := ⟨rfl, rfl, rfl⟩
theorem ex_one {op} (ha : EX X W L Γh Γ a c m Γ') : EX X W L Γh Γ (.BoolOp op [a] pos) c m Γ' := pe_one ha
theorem ex_and (ha : EX X W L Γh Γ a ca ma Γ1) (hb : EX X W L Γh Γ1 (.BoolOp .And (b :: rest) pos) cb .sc Γ1) : EX X W L Γh Γ (.BoolOp .And (a :: b :: rest) pos) (cAnd ca cb) .sc Γ1 := by
  refine PE.imp (pe_and ha hb) fun σ H Q h => ?_
  obtain ⟨B, fx, F, Os, τ, S, p⟩ := h
  refine ⟨B, fx, F, Os, τ, S, post_bind p fun t τ' F' Os' O v H' s S' x r p' => ?_⟩
  cases t with
  | bl k =>
    refine ⟨k, vr_bl r, ?_⟩
    cases k with
    | true =>
      rw [if_pos rfl]
      exact ⟨B, fx, F', Os', τ', S', p'⟩
    | false =>
      rw [if_neg Bool.false_ne_true]
      exact p' F' Os' [] (.bl false) H' Stp.refl S' Xt.nil vr_bl_of
  | _ => exact p'.elim
theorem ex_or (ha : EX X W L Γh Γ a ca ma Γ1) (hb : EX X W L Γh Γ1 (.BoolOp .Or (b :: rest) pos) cb .sc Γ1) : EX X W L Γh Γ (.BoolOp .Or (a :: b :: rest) pos) (cOr ca cb) .sc Γ1 := by
  refine PE.imp (pe_or ha hb) fun σ H Q h => ?_
  obtain ⟨B, fx, F, Os, τ, S, p⟩ := h
  refine ⟨B, fx, F, Os, τ, S, post_bind p fun t τ' F' Os' O v H' s S' x r p' => ?_⟩
  cases t with
  | bl k =>
    refine ⟨k, vr_bl r, ?_⟩
    cases k with
    | false =>
      rw [if_neg Bool.false_ne_true]
      exact ⟨B, fx, F', Os', τ', S', p'⟩
    | true =>
      rw [if_pos rfl]
      exact p' F' Os' [] (.bl true) H' Stp.refl S' Xt.nil vr_bl_of
  | _ => exact p'.elim
theorem ex_not (ha : EX X W L Γh Γ a ca ma Γ1) (na : ma.own = false) : EX X W L Γh Γ (.UnaryOp .Not a pos) (cOp1 oNot ca) .sc Γ1 := by
  refine PE.imp (pe_not ha) fun σ H Q h => ?_
  obtain ⟨B, fx, F, Os, τ, S, p⟩ := h
  refine ⟨B, fx, F, Os, τ, S, post_bind p fun t τ' F' Os' O v H' s S' x r p' => ?_⟩
  cases t with
  | bl k => exact ⟨k, vr_bl r, p' F' Os' [] (.bl (!k)) H' Stp.refl S' Xt.nil vr_bl_of⟩
  | _ => exact p'.elim
def cIf (x : M Bool) (y z : M T) : M T := M.bind x fun k => if k = true then y else z
theorem ex_if (hc : TX X W L Γh Γ d tc Γ1) (ha : EX X W L Γh Γ1 a ca m Γ2) (hb : EX X W L Γh Γ1 b cb m Γ2) : EX X W L Γh Γ (.IfExp d a b pos) (cIf tc ca cb) m Γ2 := by
  refine PE.imp (pe_ifExp hc ha hb) fun σ H Q h => ?_
  obtain ⟨B, fx, F, Os, τ, S, p⟩ := h
  refine ⟨B, fx, F, Os, τ, S, postT_bindE p fun k τ' F' Os' H' s S' p' => ?_⟩
  cases k with
  | true =>
    rw [if_pos rfl] at p' ⊢
    exact ⟨B, fx, F', Os', τ', S', p'⟩
  | false =>
    rw [if_neg Bool.false_ne_true] at p' ⊢
    exact ⟨B, fx, F', Os', τ', S', p'⟩

/-! ### a < b < c -/
def cChain (g g' : T → T → Option T) (x y z : M T) : M T := M.bind x fun p => M.bind y fun q => M.bind (M.opt (g p q)) fun k => match k with
  | .bl true => M.bind z fun r => M.opt (g' q r)
  | .bl false => M.pure (.bl false)
  | _ => fun _ => .stuck
theorem re_chain {r r' : R2} {g g' : T → T → Option T} {σ : L2.St} {H : Hp} {Q : VK} (na : ma.own = false) (nb : mb.own = false) (nc : mc.own = false) (la : ma.lv ≤ L) (lb : mb.lv ≤ L) (hr : ∀ B, Op2S X.K X.mg B L r ma mb g .sc) (hr' : ∀ B, Op2S X.K X.mg B L r' mb mc g' .sc)
    (h : RE X.K X.mg W L Γh Γ (cChain g g' ca cb cd) .sc Γ2 σ H Q) : tChain r r' (RE X.K X.mg W L Γh Γ ca ma Γ1) (RE X.K X.mg W L Γh Γ1 cb mb Γ2) (RE X.K X.mg W L Γh Γ2 cd mc Γ2) σ H Q := by
  obtain ⟨B, fx, F, Os, τ, S, p⟩ := h
  refine ⟨B, fx, F, Os, τ, S, post_bind p fun t τ' F' Os' O v H' s S' x v' p' => ?_⟩
  have eO := v'.noO na
  subst eO
  refine ⟨B, fx, F', Os', τ', S', post_bind p' fun t2 τ2 F2 Os2 O2 v2 H2 s2 S2 x2 v2' p2 => ?_⟩
  have eO := v2'.noO nb
  subst eO
  cases hg : g t t2 with
  | none =>
    rw [hg] at p2
    exact p2.elim
  | some k =>
    rw [hg] at p2
    refine hr B F2 H2 v v2 t t2 k _ S2.trF (v'.step S'.mono s2 la (by simp)) v2' hg fun F3 O3 w H3 n3 r3 => ?_
    have S3 := n3.sr S2
    have s3 := n3.stp S2.trF S2.trB
    cases k with
    | bl k =>
      refine ⟨k, vr_bl r3, ?_⟩
      cases k with
      | true =>
        rw [if_pos rfl]
        refine ⟨B, fx, F3, Os2, τ2, S3, post_bind (post_later (show Post X.K X.mg W B fx L Γh Γ2 .sc σ Q F2 H2 (M.bind cd (fun r => M.opt (g' t2 r)) τ2) from p2) s3) fun t4 τ4 F4 Os4 O4 v4 H4 s4 S4 x4 r4 p4 => ?_⟩
        obtain ⟨t', e', k⟩ := post_opt S4 p4
        have eO := r4.noO nc
        subst eO
        exact hr' B F4 H4 v2 v4 t2 t4 t' Q S4.trF ((v2'.step S2.mono s3 lb (by simp)).step S3.mono s4 lb (by simp)) r4 e' k
      | false =>
        rw [if_neg Bool.false_ne_true]
        exact p2 F3 Os2 [] (.bl false) H3 s3 S3 Xt.nil vr_bl_of
    | _ => exact p2.elim
theorem ex_chain {op op' : CmpOp} {r r' : R2} {g g' : T → T → Option T} (ho : OpR X (compareOp op) r) (ho' : OpR X (compareOp op') r') (ha : EX X W L Γh Γ a ca ma Γ1) (hb : EX X W L Γh Γ1 b cb mb Γ2) (hc : EX X W L Γh Γ2 d cd mc Γ2)
    (na : ma.own = false) (nb : mb.own = false) (nc : mc.own = false) (la : ma.lv ≤ L) (lb : mb.lv ≤ L) (hm : lastMarks [op, op'] [b, d] = false) (hr : ∀ B, Op2S X.K X.mg B L r ma mb g .sc) (hr' : ∀ B, Op2S X.K X.mg B L r' mb mc g' .sc) :
    EX X W L Γh Γ (.Compare a [op, op'] [b, d] pos) (cChain g g' ca cb cd) .sc Γ2 := PE.imp (pe_chain ho ho' ha hb hc hm) fun σ H Q h => re_chain na nb nc la lb hr hr' h
theorem tx_chain {op op' : CmpOp} {r r' : R2} {g g' : T → T → Option T} (ho : OpR X (compareOp op) r) (ho' : OpR X (compareOp op') r') (ha : EX X W L Γh Γ a ca ma Γ1) (hb : EX X W L Γh Γ1 b cb mb Γ2) (hc : EX X W L Γh Γ2 d cd mc Γ2)
    (na : ma.own = false) (nb : mb.own = false) (nc : mc.own = false) (la : ma.lv ≤ L) (lb : mb.lv ≤ L) (hm : lastMarks [op, op'] [b, d] = false) (hr : ∀ B, Op2S X.K X.mg B L r ma mb g .sc) (hr' : ∀ B, Op2S X.K X.mg B L r' mb mc g' .sc) :
    TX X W L Γh Γ (.Compare a [op, op'] [b, d] pos) (cB (cChain g g' ca cb cd)) Γ2 := PT.imp (pt_chain ho ho' ha hb hc hm) fun σ H Q h => re_chain na nb nc la lb hr hr' (rt_re h)
end
end TL

/-! TL6: == and its kin, in, is, order; an item; a slice -/
namespace TL
open PySem PySem.Spec PyProof.Rows L2

/-! ### data -/
mutual
def toPy : T → Option PyData
  | .non => some .none
  | .bl b => some (.bool b)
  | .int i => some (.int i)
  | .str x => some (.str x)
  | .lst xs => (toPyL xs).map .list
  | .tup xs => (toPyL xs).map .tuple
  | _ => none
def toPyL : List T → Option (List PyData)
  | [] => some []
  | x :: xs => match toPy x, toPyL xs with
    | some d, some ds => some (d :: ds)
    | _, _ => none
end
section
variable {K : PySem.W.Frag} {mg : Str → Option Value} {H : Hp} {P : Addr → Prop}
mutual
theorem dp_of : ∀ {t : T} {v : V} {d : PyData}, Rp K mg H P v t → toPy t = some d → Dp K H v d
  | .non, v, d, h, e => by
    have h : v = .non := h
    simp only [toPy, Option.some.injEq] at e
    subst h e
    exact .non
  | .bl b, v, d, h, e => by
    have h : v = .bl b := h
    simp only [toPy, Option.some.injEq] at e
    subst h e
    exact .bl b
  | .int b, v, d, h, e => by
    have h : v = .int b := h
    simp only [toPy, Option.some.injEq] at e
    subst h e
    exact .int b
  | .str b, v, d, h, e => by
    have h : v = .str b := h
    simp only [toPy, Option.some.injEq] at e
    subst h e
    exact .str b
  | .lst xs, v, d, h, e => by
    obtain ⟨a, vs, rfl, l, r⟩ := h
    simp only [toPy, Option.map_eq_some_iff] at e
    obtain ⟨ds, e, rfl⟩ := e
    exact .lst (.inl l.2) (dpL_of r e)
  | .tup xs, v, d, h, e => by
    obtain ⟨a, vs, rfl, l, r⟩ := h
    simp only [toPy, Option.map_eq_some_iff] at e
    obtain ⟨ds, e, rfl⟩ := e
    exact .tup l (dpL_of r e)
  | .dct _ _, v, d, h, e => by simp [toPy] at e
  | .dcT _ _, v, d, h, e => by simp [toPy] at e
  | .ins _ _ _, v, d, h, e => by simp [toPy] at e
theorem dpL_of : ∀ {xs : List T} {vs : List V} {ds : List PyData}, RpL K mg H P vs xs → toPyL xs = some ds → DpAll K H vs ds
  | [], vs, ds, h, e => by
    have h : vs = [] := h
    simp only [toPyL, Option.some.injEq] at e
    subst h e
    exact .nil
  | x :: xs, vs, ds, h, e => by
    obtain ⟨v, r, rfl, q, h⟩ := h
    unfold toPyL at e
    cases h1 : toPy x with
    | none => rw [h1] at e; cases e
    | some d =>
      cases h2 : toPyL xs with
      | none => rw [h1, h2] at e; cases e
      | some ds' =>
        rw [h1, h2] at e
        cases e
        exact .cons (dp_of q h1) (dpL_of h h2)
end
end

def data2 (f : PyData → PyData → Bool) (x y : T) : Option T := match toPy x, toPy y with
  | some d, some e => if (SeqAt.shaped d && SeqAt.shaped e) = true then some (.bl (f d e)) else none
  | _, _ => none
def oEq : T → T → Option T := data2 fun d e => PyData.eqv d e
def oNe : T → T → Option T := data2 fun d e => !PyData.eqv d e
def cmpI (f : Int → Int → Bool) : T → T → Option T
  | .int i, .int j => some (.bl (f i j))
  | _, _ => none
def oLt : T → T → Option T := cmpI fun i j => decide (i < j)
def oLe : T → T → Option T := cmpI fun i j => decide (i ≤ j)
def oGt : T → T → Option T := cmpI fun i j => decide (j < i)
def oGe : T → T → Option T := cmpI fun i j => decide (j ≤ i)
def flatT : T → Option V
  | .non => some .non | .bl b => some (.bl b) | .int i => some (.int i) | .str x => some (.str x)
  | _ => none
def flatTL : List T → Option (List V)
  | [] => some []
  | x :: xs => match flatT x, flatTL xs with
    | some v, some vs => some (v :: vs)
    | _, _ => none
/-- a dict's key -/
def keyT : T → Option Key
  | .int i => some (.inl i)
  | .str x => some (.inr x)
  | _ => none
def keyTL : List T → Option (List Key)
  | [] => some []
  | x :: xs => match keyT x, keyTL xs with
    | some k, some ks => some (k :: ks)
    | _, _ => none
/-- the value at a key -/
def lookK {κ : Type} [DecidableEq κ] : List κ → List T → κ → Option T
  | k :: ks, x :: xs, q => if k = q then some x else lookK ks xs q
  | _, _, _ => none
def inB : T → T → Option Bool
  | x, .str z => match x with
    | .str y => some (!(Builtin.Str.occurrences z y 0 z.length 1).isEmpty)
    | _ => none
  | x, .tup ys => match flatT x, flatTL ys with
    | some v, some vs => some (inV v vs)
    | _, _ => none
  | x, .lst ys => match toPy x, toPyL ys with
    | some d, some ds => if (SeqAt.shaped d && SeqAt.shaped (.list ds)) = true then some (ds.any fun z => PyData.eqv z d) else none
    | _, _ => none
  | x, .dct ks xs => (keyT x).map fun k => (lookK ks xs k).isSome
  | x, .dcT ks xs => match x with
    | .tup ys => (keyTL ys).map fun k => (lookK ks xs k).isSome
    | _ => none
  | _, _ => none
def oIn (x y : T) : Option T := (inB x y).map .bl
def oNotIn (x y : T) : Option T := (inB x y).map fun b => .bl (!b)
def isB : T → T → Option Bool
  | x, .non => some (match x with | .non => true | _ => false)
  | .bl c, .bl d => some (c == d)
  | _, _ => none
def oIs (x y : T) : Option T := (isB x y).map .bl
def oIsNot (x y : T) : Option T := (isB x y).map fun b => .bl (!b)

section
variable {K : PySem.W.Frag} {mg : Str → Option Value} {B : Nat → Addr → Prop} {L : Lv} {m ma mb : Md}
abbrev Any : Addr → Prop := fun _ => True
theorem VR.any {F : Addr → Prop} {H : Hp} {O : List Addr} {v : V} {t : T} (h : VR K mg B F H m O v t) : Rp K mg H Any v t := h.rp (fun _ _ => trivial) (fun _ _ => trivial) (fun _ _ => trivial)
theorem s_data {f : PyData → PyData → Bool} : Op2S K mg B L (fun x y H Q => ∃ d e, Dp K H x d ∧ Dp K H y e ∧ SeqAt.shaped d = true ∧ SeqAt.shaped e = true ∧ Q (.bl (f d e)) H) ma mb (data2 f) .sc := by
  intro F H x y tx ty t Q hF ra rb e k
  unfold data2 at e
  split at e
  · rename_i d e' h1 h2
    split at e
    · rename_i h
      cases e
      rw [Bool.and_eq_true] at h
      exact ⟨d, e', dp_of ra.any h1, dp_of rb.any h2, h.1, h.2, fin_sc k rfl rfl⟩
    · cases e
  · cases e
theorem s_eq : Op2S K mg B L (rEqD K) ma mb oEq .sc := s_data
theorem s_ne : Op2S K mg B L (rNeD K) ma mb oNe .sc := s_data
theorem s_cmp {f : Int → Int → Bool} : Op2S K mg B L (rI0 fun i j => .bl (f i j)) ma mb (cmpI f) .sc := by
  intro F H x y tx ty t Q hF ra rb e k
  unfold cmpI at e
  split at e
  · cases e
    exact ⟨_, _, vr_int ra, vr_int rb, fin_sc k rfl rfl⟩
  · cases e
theorem flat_rp {H : Hp} {P : Addr → Prop} {t : T} {v w : V} (h : Rp K mg H P v t) (e : flatT t = some w) : v = w ∧ flatV v = true := by
  cases t <;> first
    | (simp only [flatT, Option.some.injEq] at e; subst e; exact ⟨h, by rw [show v = _ from h]; rfl⟩)
    | cases e
theorem flatL_rp {H : Hp} {P : Addr → Prop} : ∀ {ts : List T} {vs ws : List V}, RpL K mg H P vs ts → flatTL ts = some ws → vs = ws ∧ vs.all flatV = true
  | [], vs, ws, h, e => by
    have h : vs = [] := h
    simp only [flatTL, Option.some.injEq] at e
    subst h e
    exact ⟨rfl, rfl⟩
  | x :: xs, vs, ws, h, e => by
    obtain ⟨v, r, rfl, q, h⟩ := h
    unfold flatTL at e
    cases h1 : flatT x with
    | none => rw [h1] at e; cases e
    | some d =>
      cases h2 : flatTL xs with
      | none => rw [h1, h2] at e; cases e
      | some ds' =>
        rw [h1, h2] at e
        cases e
        obtain ⟨e1, f1⟩ := flat_rp q h1
        obtain ⟨e2, f2⟩ := flatL_rp h h2
        exact ⟨by rw [e1, e2], by rw [List.all_cons, f1, f2]; rfl⟩
theorem key_rp {H : Hp} {P : Addr → Prop} {t : T} {v : V} {k : Key} (h : Rp K mg H P v t) (e : keyT t = some k) : v = kV k := by
  cases t <;> first
    | (simp only [keyT, Option.some.injEq] at e; subst e; exact h)
    | cases e
theorem keyL_rp {H : Hp} {P : Addr → Prop} : ∀ {ts : List T} {vs : List V} {ks : List Key}, RpL K mg H P vs ts → keyTL ts = some ks → vs = ks.map kV
  | [], vs, ws, h, e => by
    have h : vs = [] := h
    simp only [keyTL, Option.some.injEq] at e
    subst h e
    rfl
  | x :: xs, vs, ws, h, e => by
    obtain ⟨v, r, rfl, q, h⟩ := h
    unfold keyTL at e
    cases h1 : keyT x with
    | none => rw [h1] at e; cases e
    | some d =>
      cases h2 : keyTL xs with
      | none => rw [h1, h2] at e; cases e
      | some ds' =>
        rw [h1, h2] at e
        cases e
        rw [key_rp q h1, keyL_rp h h2]
        rfl
theorem look_rp {κ : Type} [DecidableEq κ] {H : Hp} {P : Addr → Prop} {q : κ} : ∀ {kvs : List (κ × V)} {ks : List κ} {xs : List T}, kvs.map (·.1) = ks → RpL K mg H P (kvs.map (·.2)) xs → ((valV kvs q).isSome = (lookK ks xs q).isSome) ∧ ∀ t, lookK ks xs q = some t → ∃ v, valV kvs q = some v ∧ Rp K mg H P v t
  | [], ks, xs, e, h => by
    subst e
    have : xs = [] := by
      cases xs with
      | nil => rfl
      | cons x xs => obtain ⟨v, r, e, _⟩ := h; cases e
    subst this
    exact ⟨rfl, fun t e => by cases e⟩
  | p :: kvs, ks, xs, e, h => by
    subst e
    cases xs with
    | nil => cases h
    | cons x xs =>
      obtain ⟨v, r, e, hv, hr⟩ := h
      cases e
      by_cases hk : p.1 = q
      · rw [valV_pos hk]
        show (_ = (if p.1 = q then some x else lookK _ xs q).isSome) ∧ ∀ t, (if p.1 = q then some x else lookK _ xs q) = some t → _
        rw [if_pos hk]
        exact ⟨rfl, fun t e => by cases e; exact ⟨_, rfl, hv⟩⟩
      · rw [valV_neg hk]
        show (_ = (if p.1 = q then some x else lookK _ xs q).isSome) ∧ ∀ t, (if p.1 = q then some x else lookK _ xs q) = some t → _
        rw [if_neg hk]
        exact look_rp rfl hr

/-- a tuple of keys, wherever it stands -/
theorem keyS {X : Cx} {pins : List (Addr × Obj)} {σ : L2.St} {H : Hp} {s : Shared} {b : Addr} {k : List Key} (I : Inv X pins σ H s) (h : SqT X.K H b (k.map kV)) : (tupleKind (mixKind X.prog X.w)).is s.heap k b := by
  obtain ⟨us, r, t, _⟩ := I.tuple h
  obtain ⟨o, h1, h2, n, h3⟩ := t
  exact ⟨o, us.toArray, n, h1, h2, h3, by simpa using items_are r⟩
def rInAny (K : PySem.W.Frag) (neg : Bool) : R2 := fun x y H Q =>
  (∃ i j, x = .str i ∧ y = .str j ∧ Q (.bl (if neg = true then !(!(Builtin.Str.occurrences j i 0 j.length 1).isEmpty) else !(Builtin.Str.occurrences j i 0 j.length 1).isEmpty)) H) ∨
  (∃ p xs, y = .ref p ∧ SqT K H p xs ∧ flatV x = true ∧ xs.all flatV = true ∧ Q (.bl (if neg = true then !inV x xs else inV x xs)) H) ∨
  (∃ d ds, Dp K H x d ∧ Dp K H y (.list ds) ∧ SeqAt.shaped d = true ∧ SeqAt.shaped (.list ds) = true ∧ Q (.bl (if neg = true then !ds.any fun z => PyData.eqv z d else ds.any fun z => PyData.eqv z d)) H) ∨
  (∃ a o, y = .ref a ∧ DGet H a x o ∧ Q (.bl (if neg = true then !o.isSome else o.isSome)) H) ∨
  (∃ a b kvs k, y = .ref a ∧ x = .ref b ∧ Rd H a (.dT kvs) ∧ SqT K H b (k.map kV) ∧ Q (.bl (if neg = true then !(valV kvs k).isSome else (valV kvs k).isSome)) H)
theorem op_inAny {X : Cx} (hu : X.A.units + 65 < cLine) : OpR X (compareOp .In) (rInAny X.K false) := by
  intro pins s σ H x y v u Q I rx ry h
  rcases h with ⟨i, j, e1, e2, q⟩ | ⟨p, xs, e1, st, f1, f2, q⟩ | ⟨d, ds, d1, d2, s1, s2, q⟩ | ⟨a, o, rfl, g, q⟩ | ⟨a, b, kvs, k, rfl, rfl, g, st, q⟩
  · exact op_in_str pins s σ H x y v u Q I rx ry ⟨i, j, e1, e2, q⟩
  · exact op_in_seq pins s σ H x y v u Q I rx ry ⟨p, xs, e1, .inr st, f1, f2, q⟩
  · exact op_inD hu pins s σ H x y v u Q I rx ry ⟨d, ds, d1, d2, s1, s2, q⟩
  · obtain rfl : u = Value.ref a := ry
    exact d_in (by omega) I g rx fun s3 I3 => ⟨.bl o.isSome, H, I3, rfl, q⟩
  · obtain rfl : u = Value.ref a := ry
    obtain rfl : v = Value.ref b := rx
    obtain ⟨z, hd, xs, rel, dd⟩ := dt_rd I.hok g
    refine wpAny_in_heap (tupleKind_room_in1 (by omega)) (keyS I st) hd dd ?_
    have e := (rel.val k).isSome_eq
    rw [Option.isSome_map] at e
    rw [← e]
    exact ⟨.bl _, H, I.tok _, rfl, q⟩
theorem op_notInAny {X : Cx} (hu : X.A.units + 65 < cLine) : OpR X (compareOp .NotIn) (rInAny X.K true) := by
  intro pins s σ H x y v u Q I rx ry h
  rcases h with ⟨i, j, e1, e2, q⟩ | ⟨p, xs, e1, st, f1, f2, q⟩ | ⟨d, ds, d1, d2, s1, s2, q⟩ | ⟨a, o, rfl, g, q⟩ | ⟨a, b, kvs, k, rfl, rfl, g, st, q⟩
  · exact op_notin_str pins s σ H x y v u Q I rx ry ⟨i, j, e1, e2, q⟩
  · exact op_notIn_seq pins s σ H x y v u Q I rx ry ⟨p, xs, e1, .inr st, f1, f2, q⟩
  · exact op_notInD hu pins s σ H x y v u Q I rx ry ⟨d, ds, d1, d2, s1, s2, q⟩
  · obtain rfl : u = Value.ref a := ry
    exact d_notIn (by omega) I g rx fun s3 I3 => ⟨.bl (!o.isSome), H, I3, rfl, q⟩
  · obtain rfl : u = Value.ref a := ry
    obtain rfl : v = Value.ref b := rx
    obtain ⟨z, hd, xs, rel, dd⟩ := dt_rd I.hok g
    refine wpAny_notIn_heap (tupleKind_room_in1 (by omega)) (keyS I st) hd dd ?_
    have e := (rel.val k).isSome_eq
    rw [Option.isSome_map] at e
    rw [← e]
    exact ⟨.bl _, H, I.tok _, rfl, q⟩
theorem in_any {neg : Bool} {F : Addr → Prop} {H : Hp} {x y : V} {tx ty : T} {b : Bool} {Q : VK} (ra : VR K mg B F H ma [] x tx) (rb : VR K mg B F H mb [] y ty) (e : inB tx ty = some b) (q : Q (.bl (if neg = true then !b else b)) H) : rInAny K neg x y H Q := by
  have ra := ra.any
  have rb := rb.any
  unfold inB at e
  split at e
  · split at e
    · cases e
      exact .inl ⟨_, _, ra, rb, q⟩
    · cases e
  · split at e
    · rename_i ys v vs h1 h2
      cases e
      obtain ⟨a, ws, rfl, st, r⟩ := rb
      obtain ⟨e1, f1⟩ := flat_rp ra h1
      obtain ⟨e2, f2⟩ := flatL_rp r h2
      subst e1 e2
      exact .inr (.inl ⟨a, _, rfl, st, f1, f2, q⟩)
    · cases e
  · rename_i ys
    split at e
    · rename_i d ds h1 h2
      split at e
      · rename_i h
        cases e
        rw [Bool.and_eq_true] at h
        refine .inr (.inr (.inl ⟨d, ds, dp_of ra h1, dp_of rb ?_, h.1, h.2, q⟩))
        simp [toPy, h2]
      · cases e
    · cases e
  · rename_i ks xs
    rw [Option.map_eq_some_iff] at e
    obtain ⟨k, hk, rfl⟩ := e
    obtain ⟨a, kvs, rfl, ⟨_, l⟩, ek, r⟩ := rb
    have e1 := key_rp ra hk
    subst e1
    refine .inr (.inr (.inr (.inl ⟨a, _, rfl, DGet.k l, ?_⟩)))
    rw [(look_rp (q := k) ek r).1]
    exact q
  · rename_i ks xs
    split at e
    · rename_i ys
      rw [Option.map_eq_some_iff] at e
      obtain ⟨k, hk, rfl⟩ := e
      obtain ⟨a, kvs, rfl, ⟨_, l⟩, ek, r⟩ := rb
      obtain ⟨b, vs, rfl, st, r2⟩ := ra
      have e1 := keyL_rp r2 hk
      subst e1
      refine .inr (.inr (.inr (.inr ⟨a, b, kvs, k, rfl, rfl, .inl l, st, ?_⟩)))
      rw [(look_rp (q := k) ek r).1]
      exact q
    · cases e
  · cases e
end
end TL

/-! TL7: an item, a slice, a field, built-ins by their names -/
namespace TL
open PySem PySem.Spec PyProof.Rows L2

section
variable {K : PySem.W.Frag} {mg : Str → Option Value} {B : Nat → Addr → Prop} {L : Lv} {m ma mb : Md}
/-- the mode of what lies within -/
def Md.kid : Md → Md
  | .sc => .sc
  | .bk l (d + 1) => .bk l d
  | .bk _ 0 => .fr
  | .bo l => .bo l
  | _ => .un
/-- within a tuple nothing is owned: where more than one level is, only scalars are taken from it -/
def Md.deep : Md → Bool
  | .bk _ (_ + 2) => true
  | _ => false
theorem owl_get {R : List Addr → V → T → Prop} : ∀ {xs : List T} {Os : List (List Addr)} {vs : List V} {j : Nat} {x : T}, OwL R Os vs xs → xs[j]? = some x → ∃ O v, Os[j]? = some O ∧ vs[j]? = some v ∧ R O v x
  | [], _, _, _, _, _, e => by simp at e
  | y :: xs, _, _, 0, x, h, e => by
    obtain ⟨O, Os', v, r, rfl, rfl, q, h⟩ := h
    simp at e
    subst e
    exact ⟨O, v, rfl, rfl, q⟩
  | y :: xs, _, _, j + 1, x, h, e => by
    obtain ⟨O, Os', v, r, rfl, rfl, q, h⟩ := h
    exact owl_get (j := j) h (by simpa using e)
theorem atI_both {xs : List T} {vs : List V} {i : Int} {x : T} (hl : vs.length = xs.length) (e : atI xs i = some x) : ∃ (j : Nat), xs[j]? = some x ∧ ∀ v, vs[j]? = some v → atI vs i = some v := by
  unfold atI at e
  cases h : ixN xs.length i with
  | none => rw [h] at e; cases e
  | some j =>
    rw [h] at e
    exact ⟨j, e, fun v hv => by unfold atI; rw [hl, h]; exact hv⟩
theorem vr_fr_any {F : Addr → Prop} {H : Hp} {v : V} {t : T} {l : Nat} (h : Rp K mg H F v t) : VR K mg B F H (.bk l 0) [] v t := ⟨rfl, [], by simp, rfl, h⟩
/-- an item of a list -/
theorem vr_item {F : Addr → Prop} {H : Hp} {v : V} {xs : List T} {i : Int} {x : T} (h : VR K mg B F H ma [] v (.lst xs)) (na : ma.own = false) (e : atI xs i = some x) :
    ∃ a vs w, v = .ref a ∧ Rd H a (.lst vs) ∧ atI vs i = some w ∧ VR K mg B F H ma.kid [] w x := by
  cases ma with
  | un => exact h.elim
  | sc => exact absurd h.2.1 (by simp [imm])
  | ow d => cases na
  | bo l =>
    obtain ⟨_, a, vs, rfl, lr, r⟩ := h
    obtain ⟨j, ej, k⟩ := atI_both (rpl_len r) e
    obtain ⟨w, ew, rw'⟩ := rpl_get r ej
    exact ⟨a, vs, w, rfl, lr.2, k w ew, rfl, rw'⟩
  | bk l d =>
    obtain ⟨_, O', hO', q⟩ := h
    cases d with
    | zero =>
      obtain ⟨a, vs, rfl, lr, r⟩ := q.2
      obtain ⟨j, ej, k⟩ := atI_both (rpl_len r) e
      obtain ⟨w, ew, rw'⟩ := rpl_get r ej
      exact ⟨a, vs, w, rfl, lr.2, k w ew, VR.fr_of rw'⟩
    | succ d =>
      obtain ⟨a, vs, Os, rfl, lr, rfl, r⟩ := q
      obtain ⟨j, ej, k⟩ := atI_both (owl_len r).2 e
      obtain ⟨O, w, eO, ew, rw'⟩ := owl_get r ej
      exact ⟨a, vs, w, rfl, .inl lr, k w ew, rfl, O, fun b hb => hO' b (List.mem_cons_of_mem _ (List.mem_flatten.mpr ⟨O, List.mem_of_getElem? eO, hb⟩)), rw'⟩
theorem imm_get : ∀ {xs : List T} {j : Nat} {x : T}, immL xs = true → xs[j]? = some x → imm x = true
  | [], _, _, _, e => by simp at e
  | y :: xs, 0, x, h, e => by
    have h' : (imm y && immL xs) = true := h
    rw [Bool.and_eq_true] at h'
    simp at e
    subst e
    exact h'.1
  | y :: xs, j + 1, x, h, e => by
    have h' : (imm y && immL xs) = true := h
    rw [Bool.and_eq_true] at h'
    exact imm_get (j := j) h'.2 (by simpa using e)
theorem vr_imm {F : Addr → Prop} {H : Hp} {P : Addr → Prop} {v : V} {t : T} (nu : m ≠ .un) (i : imm t = true) (h : Rp K mg H P v t) : VR K mg B F H m [] v t := by
  cases m with
  | un => exact absurd rfl nu
  | sc => exact ⟨rfl, i, Rp.imm i h⟩
  | bk l d => exact ⟨rfl, [], by simp, Ow.of_imm d i h⟩
  | bo l => exact ⟨rfl, Rp.imm i h⟩
  | ow d => exact Ow.of_imm d i h
/-- an item of a tuple -/
theorem vr_itemT {F : Addr → Prop} {H : Hp} {v : V} {xs : List T} {i : Int} {x : T} (h : VR K mg B F H ma [] v (.tup xs)) (na : ma.own = false) (e : atI xs i = some x) (hd : ma.deep = true → imm x = true) :
    ∃ a vs w, v = .ref a ∧ SqT K H a vs ∧ atI vs i = some w ∧ VR K mg B F H ma.kid [] w x := by
  cases ma with
  | un => exact h.elim
  | ow d => cases na
  | sc =>
    obtain ⟨_, im, a, vs, rfl, lr, r⟩ := h
    obtain ⟨j, ej, k⟩ := atI_both (rpl_len r) e
    obtain ⟨w, ew, rw'⟩ := rpl_get r ej
    exact ⟨a, vs, w, rfl, lr, k w ew, rfl, imm_get (show immL xs = true from im) ej, rw'⟩
  | bo l =>
    obtain ⟨_, a, vs, rfl, lr, r⟩ := h
    obtain ⟨j, ej, k⟩ := atI_both (rpl_len r) e
    obtain ⟨w, ew, rw'⟩ := rpl_get r ej
    exact ⟨a, vs, w, rfl, lr, k w ew, rfl, rw'⟩
  | bk l d =>
    obtain ⟨_, O', hO', q⟩ := h
    have q2 : Rp K mg H F v (.tup xs) := by
      cases d with
      | zero => exact q.2
      | succ d => exact q.2
    obtain ⟨a, vs, rfl, lr, r⟩ := q2
    obtain ⟨j, ej, k⟩ := atI_both (rpl_len r) e
    obtain ⟨w, ew, rw'⟩ := rpl_get r ej
    refine ⟨a, vs, w, rfl, lr, k w ew, ?_⟩
    cases d with
    | zero => exact VR.fr_of rw'
    | succ d =>
      cases d with
      | zero => exact vr_fr_any rw'
      | succ d => exact vr_imm (by simp [Md.kid]) (hd rfl) rw'

/-- d[k] -/
theorem look_ow {κ : Type} [DecidableEq κ] {R : List Addr → V → T → Prop} {q : κ} : ∀ {kvs : List (κ × V)} {ks : List κ} {Os : List (List Addr)} {xs : List T} {t : T}, kvs.map (·.1) = ks → OwL R Os (kvs.map (·.2)) xs → lookK ks xs q = some t → ∃ O v, O ∈ Os ∧ valV kvs q = some v ∧ R O v t
  | [], ks, Os, xs, t, e, h, l => by
    subst e
    cases xs <;> cases l
  | p :: kvs, ks, Os, xs, t, e, h, l => by
    subst e
    cases xs with
    | nil => cases l
    | cons x xs =>
      obtain ⟨O, Os', v, r, rfl, e, hv, hr⟩ := h
      cases e
      by_cases hk : p.1 = q
      · rw [valV_pos hk]
        have l' : (if p.1 = q then some x else lookK _ xs q) = some t := l
        rw [if_pos hk] at l'
        cases l'
        exact ⟨O, _, by simp, rfl, hv⟩
      · rw [valV_neg hk]
        have l' : (if p.1 = q then some x else lookK _ xs q) = some t := l
        rw [if_neg hk] at l'
        obtain ⟨O2, v2, h1, h2, h3⟩ := look_ow rfl hr l'
        exact ⟨O2, v2, by simp [h1], h2, h3⟩
theorem vr_dct {F : Addr → Prop} {H : Hp} {v : V} {ks : List Key} {xs : List T} {q : Key} {x : T} (h : VR K mg B F H ma [] v (.dct ks xs)) (na : ma.own = false) (e : lookK ks xs q = some x) :
    ∃ a kvs w, v = .ref a ∧ H a = some (.dK kvs) ∧ valV kvs q = some w ∧ VR K mg B F H ma.kid [] w x := by
  cases ma with
  | un => exact h.elim
  | sc => exact absurd h.2.1 (by simp [imm])
  | ow d => cases na
  | bo l =>
    obtain ⟨_, a, kvs, rfl, lr, ek, r⟩ := h
    obtain ⟨w, ew, rw'⟩ := (look_rp ek r).2 x e
    exact ⟨a, kvs, w, rfl, lr.2, ew, rfl, rw'⟩
  | bk l d =>
    obtain ⟨_, O', hO', q⟩ := h
    cases d with
    | zero =>
      obtain ⟨a, kvs, rfl, lr, ek, r⟩ := q.2
      obtain ⟨w, ew, rw'⟩ := (look_rp ek r).2 x e
      exact ⟨a, kvs, w, rfl, lr.2, ew, VR.fr_of rw'⟩
    | succ d =>
      obtain ⟨a, kvs, Os, rfl, lr, ek, rfl, r⟩ := q
      obtain ⟨O, w, eO, ew, rw'⟩ := look_ow ek r e
      exact ⟨a, kvs, w, rfl, lr, ew, rfl, O, fun b hb => hO' b (List.mem_cons_of_mem _ (List.mem_flatten.mpr ⟨O, eO, hb⟩)), rw'⟩
theorem vr_dcT {F : Addr → Prop} {H : Hp} {v : V} {ks : List (List Key)} {xs : List T} {q : List Key} {x : T} (h : VR K mg B F H ma [] v (.dcT ks xs)) (na : ma.own = false) (e : lookK ks xs q = some x) :
    ∃ a kvs w, v = .ref a ∧ H a = some (.dT kvs) ∧ valV kvs q = some w ∧ VR K mg B F H ma.kid [] w x := by
  cases ma with
  | un => exact h.elim
  | sc => exact absurd h.2.1 (by simp [imm])
  | ow d => cases na
  | bo l =>
    obtain ⟨_, a, kvs, rfl, lr, ek, r⟩ := h
    obtain ⟨w, ew, rw'⟩ := (look_rp ek r).2 x e
    exact ⟨a, kvs, w, rfl, lr.2, ew, rfl, rw'⟩
  | bk l d =>
    obtain ⟨_, O', hO', q⟩ := h
    cases d with
    | zero =>
      obtain ⟨a, kvs, rfl, lr, ek, r⟩ := q.2
      obtain ⟨w, ew, rw'⟩ := (look_rp ek r).2 x e
      exact ⟨a, kvs, w, rfl, lr.2, ew, VR.fr_of rw'⟩
    | succ d =>
      obtain ⟨a, kvs, Os, rfl, lr, ek, rfl, r⟩ := q
      obtain ⟨O, w, eO, ew, rw'⟩ := look_ow ek r e
      exact ⟨a, kvs, w, rfl, lr, ew, rfl, O, fun b hb => hO' b (List.mem_cons_of_mem _ (List.mem_flatten.mpr ⟨O, eO, hb⟩)), rw'⟩

/-- the field of an instance; its names are a list -/
theorem lookF {q : Str} : ∀ {kvs : List (Str × V)} {v : V}, valV kvs q = some v → kvs.lookup q = some v
  | [], _, h => by cases h
  | p :: kvs, v, h => by
    obtain ⟨a, b⟩ := p
    rw [List.lookup_cons]
    by_cases hk : a = q
    · rw [valV_pos (p := (a, b)) hk] at h
      subst hk
      rw [beq_self_eq_true]
      exact h
    · rw [valV_neg (p := (a, b)) hk] at h
      rw [beq_eq_false_iff_ne.mpr (Ne.symm hk)]
      exact lookF h
theorem vr_ins {F : Addr → Prop} {H : Hp} {v : V} {c : Str} {ks : List Str} {xs : List T} {q : Str} {x : T} (h : VR K mg B F H ma [] v (.ins c ks xs)) (na : ma.own = false) (e : lookK ks xs q = some x) :
    ∃ a A dx kvs w, v = .ref a ∧ H a = some (.ins A dx kvs) ∧ mg c = some (.ref A) ∧ kvs.lookup q = some w ∧ VR K mg B F H ma.kid [] w x := by
  cases ma with
  | un => exact h.elim
  | sc => exact absurd h.2.1 (by simp [imm])
  | ow d => cases na
  | bo l =>
    obtain ⟨_, a, A, dx, kvs, rfl, lr, em, ek, r⟩ := h
    obtain ⟨w, ew, rw'⟩ := (look_rp ek r).2 x e
    exact ⟨a, A, dx, kvs, w, rfl, lr.2, em, lookF ew, rfl, rw'⟩
  | bk l d =>
    obtain ⟨_, O', hO', q⟩ := h
    cases d with
    | zero =>
      obtain ⟨a, A, dx, kvs, rfl, lr, em, ek, r⟩ := q.2
      obtain ⟨w, ew, rw'⟩ := (look_rp ek r).2 x e
      exact ⟨a, A, dx, kvs, w, rfl, lr.2, em, lookF ew, VR.fr_of rw'⟩
    | succ d =>
      obtain ⟨a, A, dx, kvs, Os, rfl, lr, em, ek, rfl, r⟩ := q
      obtain ⟨O, w, eO, ew, rw'⟩ := look_ow ek r e
      exact ⟨a, A, dx, kvs, w, rfl, lr, em, lookF ew, rfl, O, fun b hb => hO' b (List.mem_cons_of_mem _ (List.mem_flatten.mpr ⟨O, eO, hb⟩)), rw'⟩
end

/-! ### the item at an index or a key -/
def ixB (deep : Bool) : T → T → Option T
  | .lst xs, .int i => atI xs i
  | .tup xs, .int i => (atI xs i).bind fun x => if (!deep || imm x) = true then some x else none
  | .str z, .int i => if small z.length = true then (atI z.cps.toList i).map fun c => .str ⟨#[c]⟩ else none
  | .dct ks xs, k => (keyT k).bind fun q => lookK ks xs q
  | .dcT ks xs, .tup ys => (keyTL ys).bind fun q => lookK ks xs q
  | _, _ => none
def rIxAny (K : PySem.W.Frag) : R2 := fun x y H Q => rIxL K x y H Q ∨ rIxT K x y H Q ∨ rIxS x y H Q ∨ (∃ a v, x = .ref a ∧ DGet H a y (some v) ∧ Q v H) ∨
  ∃ a b kvs k v, x = .ref a ∧ y = .ref b ∧ Rd H a (.dT kvs) ∧ SqT K H b (k.map kV) ∧ valV kvs k = some v ∧ Q v H
theorem ix_any {X : Cx} (hu : X.A.units + 1 < cLine) : IxR X (rIxAny X.K) := by
  intro value slice pins s σ H x y v u Q I rx ry h hs
  rcases h with h | h | h | ⟨a, w, rfl, g, q⟩ | ⟨a, b, kvs, k, w, rfl, rfl, g, st, l, q⟩
  · exact ix_list value slice pins s σ H x y v u Q I rx ry h hs
  · exact ix_tup value slice pins s σ H x y v u Q I rx ry h hs
  · exact ix_str value slice pins s σ H x y v u Q I rx ry h hs
  · obtain rfl : v = Value.ref a := rx
    exact tail_any (dict_typeIs I g) PySem.F.slot_dict_getitem.lookup (d_getItem hu I g ry fun w' s3 I3 rw' => ⟨w, H, I3, rw', q⟩) hs
  · obtain rfl : v = Value.ref a := rx
    obtain rfl : u = Value.ref b := ry
    obtain ⟨z, hd, xs, rel, dd⟩ := dt_rd I.hok g
    obtain ⟨w', hw, rw'⟩ := RelO.some_of (v := w) (o := (atKey xs k).map (·.2)) (by rw [← l]; exact rel.val k)
    obtain ⟨p, hp, hp2⟩ := Option.map_eq_some_iff.mp hw
    refine tail_any dd.typeIs PySem.F.slot_dict_getitem.lookup (wpAny_getItem_heap (tupleKind_room_in1 hu) (keyS I st) dd hp ?_) hs
    rw [hp2]
    exact ⟨w, H, I.tok _, rw', q⟩
section
variable {K : PySem.W.Frag} {mg : Str → Option Value} {B : Nat → Addr → Prop} {L : Lv} {m ma mb : Md}
theorem kid_nun (h : ma ≠ .un) (na : ma.own = false) : ma.kid ≠ .un := by
  cases ma with
  | un => exact absurd rfl h
  | sc => simp [Md.kid]
  | bk l d => cases d <;> simp [Md.kid]
  | bo l => simp [Md.kid]
  | ow d => cases na
theorem s_ix (na : ma.own = false) : Op2S K mg B L (rIxAny K) ma mb (ixB ma.deep) ma.kid := by
  intro F H x y tx ty t Q hF ra rb e k
  have nu : ma ≠ .un := fun z => by subst z; exact ra.elim
  unfold ixB at e
  split at e
  · obtain ⟨a, vs, w, rfl, lr, ew, r⟩ := vr_item ra na e
    exact .inl ⟨a, vs, _, w, rfl, vr_int rb, .inl lr, ew, k F [] w H New.nil r⟩
  · rw [Option.bind_eq_some_iff] at e
    obtain ⟨x', ex, e⟩ := e
    split at e
    · rename_i hd
      cases e
      obtain ⟨a, vs, w, rfl, lr, ew, r⟩ := vr_itemT ra na ex (fun d => by rw [d] at hd; simpa using hd)
      exact .inr (.inl ⟨a, vs, _, w, rfl, vr_int rb, lr, ew, k F [] w H New.nil r⟩)
    · cases e
  · split at e
    · rename_i hz
      rw [Option.map_eq_some_iff] at e
      obtain ⟨c, ec, rfl⟩ := e
      exact .inr (.inr (.inl ⟨_, _, c, vr_str ra, vr_int rb, small_le hz, ec, k F [] _ H New.nil (vr_imm (P := Any) (kid_nun nu na) rfl rfl)⟩))
    · cases e
  · rw [Option.bind_eq_some_iff] at e
    obtain ⟨q, eq, e⟩ := e
    obtain ⟨a, kvs, w, rfl, hd, ev, r⟩ := vr_dct ra na e
    have ek := key_rp rb.any eq
    subst ek
    exact .inr (.inr (.inr (.inl ⟨a, w, rfl, by rw [← ev]; exact DGet.k hd, k F [] w H New.nil r⟩)))
  · rw [Option.bind_eq_some_iff] at e
    obtain ⟨q, eq, e⟩ := e
    obtain ⟨a, kvs, w, rfl, hd, ev, r⟩ := vr_dcT ra na e
    obtain ⟨b, vs, rfl, st, r2⟩ := rb.any
    have ek := keyL_rp r2 eq
    subst ek
    exact .inr (.inr (.inr (.inr ⟨a, b, kvs, q, w, rfl, rfl, .inl hd, st, ev, k F [] w H New.nil r⟩)))
  · cases e
end

section
variable {X : Cx} {W : WX} {B : Nat → Addr → Prop} {fx : Fx} {L : Lv} {Γh Γ Γ1 Γ2 Γ3 Γ' : List Md} {e a b : Expr} {es : List Expr} {c ca cb : M T} {m ma mb m' : Md} {ms : List Md} {pos p2 : Pos} {cl : M (List T)}
theorem ex_ix (hu : X.A.units + 1 < cLine) (ha : EX X W L Γh Γ a ca ma Γ1) (hb : EX X W L Γh Γ1 b cb mb Γ2) (na : ma.own = false) (nb : mb.own = false) (la : ma.lv ≤ L) (hs : PlainIx b) :
    EX X W L Γh Γ (.Subscript a b pos) (cOp2 (ixB ma.deep) ca cb) ma.kid Γ2 := PE.imp (pe_ix (ix_any hu) ha hb hs) fun σ H Q h => re_op2 na nb la (fun _ => s_ix na) h

/-! ### slices -/
def cutT {α : Type} (xs : List α) (lo hi : Option Int) : List α := (xs.drop (HT.sIx xs.length 0 lo)).take (HT.sIx xs.length xs.length hi - HT.sIx xs.length 0 lo)
/-- one end of a slice: an int, or nothing -/
inductive Pt where
  | no | yes (c : M T)
def oPt : T → Option (Option Int)
  | .int i => some (some i)
  | _ => none
def Pt.run : Pt → M (Option Int)
  | .no => M.pure none
  | .yes c => M.bind c fun x => M.opt (oPt x)
def slB (kf : Bool) (x : T) (lo hi : Option Int) : Option T := match x with
  | .lst xs => if (kf || immL xs) = true then some (.lst (cutT xs lo hi)) else none
  | .str z => if small z.length = true then some (.str (cutS z lo hi)) else none
  | .tup xs => if ((kf || immL xs) && !(decide (HT.sIx xs.length 0 lo = 0) && decide (HT.sIx xs.length xs.length hi = xs.length))) = true then some (.tup (cutT xs lo hi)) else none
  | _ => none
def cSl (kf : Bool) (ca : M T) (lo hi : Pt) : M T := M.bind ca fun x => M.bind lo.run fun l => M.bind hi.run fun h => M.opt (slB kf x l h)
/-- an end's part of the text -/
def PtX (X : Cx) (W : WX) (L : Lv) (Γh Γ : List Md) (e : Option Expr) (p : Pt) (Γ' : List Md) : Prop :=
  (e = none ∧ p = .no ∧ Γ' = Γ) ∨ ∃ e' c m, e = some e' ∧ p = .yes c ∧ m.own = false ∧ EX X W L Γh Γ e' c m Γ'
def PostO (K : PySem.W.Frag) (mg : Str → Option Value) (W : WX) (B : Nat → Addr → Prop) (fx : Fx) (L : Lv) (Γh Γ' : List Md) (σ : L2.St) (Q : Option Int → Hp → Prop) (F : Addr → Prop) (H : Hp) : Res (Option Int) → Prop
  | .ok o τ' => ∀ F' Os' H', Stp (B L) F H F' H' → SR K mg B fx L Γ' F' Os' H' σ τ' → Q o H'
  | .exn c fs xs τ' => PostX K mg W B fx L Γh σ F H c fs xs τ'
  | .stuck => False
def RO (K : PySem.W.Frag) (mg : Str → Option Value) (W : WX) (L : Lv) (Γh Γ : List Md) (p : Pt) (Γ' : List Md) : TO := fun σ H Q =>
  ∃ B fx F Os τ, SR K mg B fx L Γ F Os H σ τ ∧ PostO K mg W B fx L Γh Γ' σ Q F H (p.run τ)
theorem PO.imp {e : Option Expr} {t t' : TO} (h : PO X e t) (i : ∀ σ H Q, t' σ H Q → t σ H Q) : PO X e t' := ⟨fun pins s σ H Q I q => h.run pins s σ H Q I (i _ _ _ q)⟩
theorem po_of {e : Option Expr} {p : Pt} (h : PtX X W L Γh Γ e p Γ') : PO X e (RO X.K X.mg W L Γh Γ p Γ') := by
  rcases h with ⟨rfl, rfl, rfl⟩ | ⟨e', c, m, rfl, rfl, nm, h⟩
  · refine PO.imp po_none fun σ H Q h => ?_
    obtain ⟨B, fx, F, Os, τ, S, p⟩ := h
    exact p F Os H Stp.refl S
  · refine PO.imp (po_some h) fun σ H Q h => ?_
    obtain ⟨B, fx, F, Os, τ, S, p⟩ := h
    refine ⟨B, fx, F, Os, τ, S, ?_⟩
    unfold Pt.run M.bind at p
    dsimp only at p
    cases hc : c τ with
    | ok t τ' =>
      rw [hc] at p
      intro F' Os' O v H' s S' x r
      cases t with
      | int i => exact ⟨i, vr_int r, p F' Os' H' s S'⟩
      | _ => exact p.elim
    | exn c fs xs τ' => rw [hc] at p; exact p
    | stuck => rw [hc] at p; exact p.elim
theorem postO_bind {σ : L2.St} {Q : VK} {Q' : Option Int → Hp → Prop} {F : Addr → Prop} {H : Hp} {p : Pt} {f : Option Int → M T} {τ : List (Option T)}
    (q : Post X.K X.mg W B fx L Γh Γ' m σ Q F H (M.bind p.run f τ))
    (k : ∀ t τ' F' Os' H', Stp (B L) F H F' H' → SR X.K X.mg B fx L Γ1 F' Os' H' σ τ' → Post X.K X.mg W B fx L Γh Γ' m σ Q F' H' (f t τ') → Q' t H') :
    PostO X.K X.mg W B fx L Γh Γ1 σ Q' F H (p.run τ) := by
  unfold M.bind at q
  cases h : p.run τ with
  | ok t τ' =>
    rw [h] at q
    intro F' Os' H' s S
    exact k t τ' F' Os' H' s S (post_later (show Post X.K X.mg W B fx L Γh Γ' m σ Q F H (f t τ') from q) s)
  | exn c fs xs τ' => rw [h] at q; exact q
  | stuck => rw [h] at q; exact q.elim
def rSlAny (K : PySem.W.Frag) : V → Option Int → Option Int → Hp → VK → Prop := fun x lo hi H Q => rSlL K x lo hi H Q ∨ rSlS x lo hi H Q ∨ rSlT K x lo hi H Q
theorem sl_any : SlR X (rSlAny X.K) := sl_list.or (sl_str.or sl_tup)
theorem cut_rp {K : PySem.W.Frag} {mg : Str → Option Value} {H : Hp} {P : Addr → Prop} {vs : List V} {xs : List T} {lo hi : Option Int} (r : RpL K mg H P vs xs) : RpL K mg H P (cutV vs lo hi) (cutT xs lo hi) := by
  unfold cutV cutT
  rw [rpl_len r]
  exact rpl_take _ (rpl_drop _ r)
theorem kids_of {K : PySem.W.Frag} {mg : Str → Option Value} {F : Addr → Prop} {H : Hp} {v : V} {xs : List T} (r : VR K mg B F H ma [] v (.lst xs)) (h : (ma.kf || immL xs) = true) : ∃ a vs, v = .ref a ∧ Rd H a (.lst vs) ∧ RpL K mg H F vs xs := by
  rw [Bool.or_eq_true] at h
  rcases h with h | h
  · exact vr_kids r h
  · obtain ⟨a, vs, rfl, l, q⟩ := vr_lst r
    exact ⟨a, vs, rfl, l, RpL.imm h q⟩
theorem kids_ofT {K : PySem.W.Frag} {mg : Str → Option Value} {F : Addr → Prop} {H : Hp} {v : V} {xs : List T} (r : VR K mg B F H ma [] v (.tup xs)) (h : (ma.kf || immL xs) = true) : ∃ a vs, v = .ref a ∧ SqT K H a vs ∧ RpL K mg H F vs xs := by
  rw [Bool.or_eq_true] at h
  rcases h with h | h
  · cases ma with
    | un => exact r.elim
    | sc => exact r.2.2
    | bk l d =>
      obtain ⟨_, O', _, q⟩ := r
      cases d with
      | zero => exact q.2
      | succ d => exact q.2
    | bo l => cases h
    | ow d =>
      cases d with
      | zero => exact r.2
      | succ d => exact r.2
  · obtain ⟨a, vs, rfl, l, q⟩ := vr_tup r
    exact ⟨a, vs, rfl, l, RpL.imm h q⟩
theorem ex_sl {lo hi : Option Expr} {pl ph : Pt} (ha : EX X W L Γh Γ a ca ma Γ1) (hl : PtX X W L Γh Γ1 lo pl Γ2) (hh : PtX X W L Γh Γ2 hi ph Γ3) (na : ma.own = false) (la : ma.lv ≤ L) :
    EX X W L Γh Γ (.Subscript a (.Slice lo hi none p2) pos) (cSl ma.kf ca pl ph) (.ow 1) Γ3 := by
  refine PE.imp (pe_slice sl_any ha (po_of hl) (po_of hh)) fun σ H Q h => ?_
  obtain ⟨B, fx, F, Os, τ, S, p⟩ := h
  refine ⟨B, fx, F, Os, τ, S, post_bind p fun t τ' F' Os' O v H' s S' x v' p' => ?_⟩
  have eO := v'.noO na
  subst eO
  refine ⟨B, fx, F', Os', τ', S', postO_bind p' fun l τ2 F2 Os2 H2 s2 S2 p2 => ?_⟩
  refine ⟨B, fx, F2, Os2, τ2, S2, postO_bind p2 fun h τ3 F3 Os3 H3 s3 S3 p3 => ?_⟩
  obtain ⟨t', e', k⟩ := post_opt S3 p3
  have v3 := (v'.step S'.mono s2 la (by simp)).step S2.mono s3 la (by simp)
  unfold slB at e'
  split at e'
  · split at e'
    · rename_i hk
      cases e'
      obtain ⟨a, vs, rfl, lr, r⟩ := kids_of v3 hk
      exact .inl ⟨a, vs, rfl, .inl lr, new_lst S3.trF (cut_rp r) k⟩
    · cases e'
  · split at e'
    · rename_i hz
      cases e'
      exact .inr (.inl ⟨_, vr_str v3, small_le hz, fin_ow k rfl rfl⟩)
    · cases e'
  · split at e'
    · rename_i xs hk
      cases e'
      rw [Bool.and_eq_true] at hk
      obtain ⟨a, vs, rfl, lr, r⟩ := kids_ofT v3 hk.1
      refine .inr (.inr ⟨a, vs, rfl, lr, ?_, fun d hd => k F3 [] (.ref d) _ ⟨fun a h => upd_ne (fun e => h (by rw [e]; exact hd)), fun _ h => h, fun _ h => .inl h, by simp, List.nodup_nil⟩ ⟨rfl, d, _, rfl, SqT.of upd_same, ?_⟩⟩)
      · rw [rpl_len r]
        have h2 := hk.2
        intro z
        simp [z.1, z.2] at h2
      · exact cut_rp (RpL.mono (New.one (o := .tup (cutV vs l h)) hd S3.trF |>.stp S3.trF (BL := fun _ => False) (by simp)).kpF (fun _ h => h) r)
    · cases e'
  · cases e'

/-! ### a field -/
/-- what of the text the classes with such fields have -/
def FldOk (K : PySem.W.Frag) (mg : Str → Option Value) (tab : Str → Str → Bool) : Prop := ∀ c f A, tab c f = true → mg c = some (.ref A) → Cls K A ∧ NoAttr K A f
def oFld (tab : Str → Str → Bool) (f : Str) : T → Option T
  | .ins c ks xs => if tab c f = true then lookK ks xs f else none
  | _ => none
theorem ex_fld {tab : Str → Str → Bool} {f : Str} (ok : FldOk X.K X.mg tab) (ha : EX X W L Γh Γ a ca ma Γ1) (na : ma.own = false) (hb : attributeBase a f X.env (eval a X.env) = eval a X.env) :
    EX X W L Γh Γ (.Attribute a f pos) (cOp1 (oFld tab f) ca) ma.kid Γ1 := by
  refine PE.imp (pe_fld ha hb) fun σ H Q h => ?_
  obtain ⟨B, fx, F, Os, τ, S, p⟩ := h
  refine ⟨B, fx, F, Os, τ, S, post_bind p fun t τ' F' Os' O v H' s S' x v' p' => ?_⟩
  obtain ⟨t', e', k⟩ := post_opt S' p'
  have eO := v'.noO na
  subst eO
  unfold oFld at e'
  split at e'
  · split at e'
    · rename_i ht
      obtain ⟨a, A, dx, kvs, w, rfl, hi, em, ew, r⟩ := vr_ins v' na e'
      obtain ⟨c1, c2⟩ := ok _ _ _ ht em
      exact ⟨a, A, dx, kvs, w, rfl, hi, c1, c2, ew, k F' [] w H' New.nil r⟩
    · cases e'
  · cases e'

/-! ### built-in functions and types, called by their names -/
theorem ex_callB {x : Str} {id : String} {r : List V → Hp → VK → Prop} {g : List T → Option T} {p : Pos} (hc : CallR X (.builtin id) r) (hg : Gl X x) (hm : X.mg x = none) (hv : bootBuiltins x = some (.builtin id)) (hn : x ≠ "__name__") (hdb : (x == ("__debug__" : Str)) = false)
    (he : starEach (e :: es) X.env = (false, eval e X.env) :: starEach es X.env) (hpl : (backTo pos (starEach es X.env)).any (·.1) = false) (ha : AX X W L Γh Γ (e :: es) cl ms Γ') (hr : ∀ B, OpLS X.K X.mg B L r ms g m) :
    EX X W L Γh Γ (.Call (.Name x p) (e :: es) [] pos) (cOpL g cl) m Γ' := by
  refine PE.imp (pe_callB hc hg hm hv ha hn hdb he hpl) fun σ H Q h => ?_
  obtain ⟨B, fx, F, Os, τ, S, p⟩ := h
  refine ⟨B, fx, F, Os, τ, S, ?_⟩
  have q := postA_opt (ms := ms) S p
  cases hc : cl τ with
  | ok ts τ' =>
    rw [hc] at q
    intro F' Os' vs H' s S' r'
    obtain ⟨F1, ts1, t, tr, r1, e, k1⟩ := q F' Os' vs H' s S' r'
    exact hr B F1 H' vs ts1 t Q tr r1 e k1
  | exn c fs xs τ' => rw [hc] at q; exact q
  | stuck => rw [hc] at q; exact q.elim
theorem ex_callTy {x : Str} {id : String} {r : List V → Hp → VK → Prop} {g : List T → Option T} {p : Pos} (hc : CallR X (.type id) r) (hg : Gl X x) (hm : X.mg x = none) (hv : bootBuiltins x = some (.type id)) (hn : x ≠ "__name__") (hdb : (x == ("__debug__" : Str)) = false)
    (he : starEach (e :: es) X.env = (false, eval e X.env) :: starEach es X.env) (hpl : (backTo pos (starEach es X.env)).any (·.1) = false) (ha : AX X W L Γh Γ (e :: es) cl ms Γ') (hr : ∀ B, OpLS X.K X.mg B L r ms g m) :
    EX X W L Γh Γ (.Call (.Name x p) (e :: es) [] pos) (cOpL g cl) m Γ' := by
  refine PE.imp (pe_callTy hc hg hm hv ha hn hdb he hpl) fun σ H Q h => ?_
  obtain ⟨B, fx, F, Os, τ, S, p⟩ := h
  refine ⟨B, fx, F, Os, τ, S, ?_⟩
  have q := postA_opt (ms := ms) S p
  cases hc : cl τ with
  | ok ts τ' =>
    rw [hc] at q
    intro F' Os' vs H' s S' r'
    obtain ⟨F1, ts1, t, tr, r1, e, k1⟩ := q F' Os' vs H' s S' r'
    exact hr B F1 H' vs ts1 t Q tr r1 e k1
  | exn c fs xs τ' => rw [hc] at q; exact q
  | stuck => rw [hc] at q; exact q.elim
end
end TL

/-! TL8: what a def promises, by trees; its call -/
namespace TL
open PySem PySem.Spec PyProof.Rows L2

/-- a parameter: frozen, borrowed, handed in and out -/
inductive PM where
  | fr | bo | io (d : Nat)
  deriving DecidableEq
structure Sig where
  pm : List PM
  rm : Md
  deriving DecidableEq
/-- what a def answers: its value, then what the parameters handed out are behind it -/
inductive CR where
  | ok (t : T) (outs : List T)
  | exn (c : Str) (fs : List Str) (xs : List T) (outs : List T)
  | stuck

section
variable (K : PySem.W.Frag) (mg : Str → Option Value) (F : Addr → Prop) (H : Hp)
/-- the parameters at the entry -/
def ArgsR (BL : Addr → Prop) : List PM → List (List Addr) → List V → List T → Prop
  | [], Os, vs, ts => Os = [] ∧ vs = [] ∧ ts = []
  | .fr :: pm, Os, vs, ts => ∃ Os' v r t ts', Os = [] :: Os' ∧ vs = v :: r ∧ ts = t :: ts' ∧ Rp K mg H F v t ∧ ArgsR BL pm Os' r ts'
  | .bo :: pm, Os, vs, ts => ∃ Os' v r t ts', Os = [] :: Os' ∧ vs = v :: r ∧ ts = t :: ts' ∧ Rp K mg H BL v t ∧ ArgsR BL pm Os' r ts'
  | .io d :: pm, Os, vs, ts => ∃ O Os' v r t ts', Os = O :: Os' ∧ vs = v :: r ∧ ts = t :: ts' ∧ Ow K mg H F d O v t ∧ ArgsR BL pm Os' r ts'
/-- what is handed out; the values are those that were handed in -/
def OutsR : List PM → List (List Addr) → List V → List T → Prop
  | [], Os, vs, ts => Os = [] ∧ vs = [] ∧ ts = []
  | .io d :: pm, Os, vs, ts => ∃ O Os' v r t ts', Os = O :: Os' ∧ vs = v :: r ∧ ts = t :: ts' ∧ Ow K mg H F d O v t ∧ OutsR pm Os' r ts'
  | _ :: pm, Os, vs, ts => ∃ v r, vs = v :: r ∧ OutsR pm Os r ts
end

/-- all that a callee may not change -/
def Rest (H : Hp) (W : List Addr) (a : Addr) : Prop := H a ≠ none ∧ a ∉ W
/-- owned apart -/
structure Apart (BL F : Addr → Prop) (H : Hp) (O : List Addr) : Prop where
  nd : O.Nodup
  own : ∀ a ∈ O, Free BL F H a

def PostC (K : PySem.W.Frag) (mg : Str → Option Value) (sg : Sig) (F : Addr → Prop) (H : Hp) (BL : Addr → Prop) (vs : List V) (Q : VK) (E : XK) : CR → Prop
  | .ok t outs => ∀ F' H' Os' O v, Stp BL F H F' H' → OutsR K mg F' H' sg.pm Os' vs outs → VR K mg (fun _ => BL) F' H' sg.rm O v t → Apart BL F' H' (O ++ Os'.flatten) → Q v H'
  | .exn c fs xs outs => ∀ F' H' Os' cls d, Stp BL F H F' H' → OutsR K mg F' H' sg.pm Os' vs outs → ExR K mg H' cls d c fs xs → Apart BL F' H' Os'.flatten → E cls d H'
  | .stuck => False
/-- the promise -/
def spT (K : PySem.W.Frag) (mg : Str → Option Value) (sg : Sig) (g : List T → CR) : Sp := fun vs H Q E =>
  ∃ F Os ts, (∀ a, F a → H a ≠ none) ∧ ArgsR K mg F H (Rest H Os.flatten) sg.pm Os vs ts ∧ Os.flatten.Nodup ∧ (∀ a ∈ Os.flatten, ¬ F a ∧ H a ≠ none) ∧ PostC K mg sg F H (Rest H Os.flatten) vs Q E (g ts)
theorem argsR_len {K : PySem.W.Frag} {mg : Str → Option Value} {F BL : Addr → Prop} {H : Hp} : ∀ {pm : List PM} {Os : List (List Addr)} {vs : List V} {ts : List T}, ArgsR K mg F H BL pm Os vs ts → vs.length = pm.length
  | [], _, _, _, h => by
    obtain ⟨_, rfl, _⟩ := h
    rfl
  | .fr :: pm, _, _, _, h => by
    obtain ⟨_, _, _, _, _, _, rfl, _, _, h⟩ := h
    simp [argsR_len h]
  | .bo :: pm, _, _, _, h => by
    obtain ⟨_, _, _, _, _, _, rfl, _, _, h⟩ := h
    simp [argsR_len h]
  | .io d :: pm, _, _, _, h => by
    obtain ⟨_, _, _, _, _, _, _, rfl, _, _, h⟩ := h
    simp [argsR_len h]
theorem spT_len {K : PySem.W.Frag} {mg : Str → Option Value} {sg : Sig} {g : List T → CR} {vs : List V} {H : Hp} {Q : VK} {E : XK} (h : spT K mg sg g vs H Q E) : vs.length = sg.pm.length := by
  obtain ⟨F, Os, ts, _, h, _⟩ := h
  exact argsR_len h

/-! ### arguments -/
/-- an argument: a value by its mode, or the slot that is handed in and out -/
inductive AI where
  | e (m : Md) | io (i d : Nat)
/-- does it fit the parameter -/
def AI.fits : AI → PM → Bool
  | .e .sc, .fr => true
  | .e (.bk _ d), .fr => decide (d = 0)
  | .e m, .bo => !m.own
  | .io _ d, .io d' => decide (d = d')
  | _, _ => false
def AI.fitsL : List AI → List PM → Bool
  | [], [] => true
  | a :: r, p :: s => a.fits p && AI.fitsL r s
  | _, _ => false
/-- the slots handed out -/
def AI.slots : List AI → List Nat
  | [] => []
  | .io i _ :: r => i :: AI.slots r
  | _ :: r => AI.slots r
/-- the arguments' trees: the slots as they stand at the call -/
def AI.fill (τ : List (Option T)) : List AI → List T → Option (List T)
  | [], [] => some []
  | .e _ :: r, t :: ts => (AI.fill τ r ts).map (t :: ·)
  | .io i _ :: r, _ :: ts => match τ[i]? with
    | some (some t) => (AI.fill τ r ts).map (t :: ·)
    | _ => none
  | _, _ => none
def AI.put (τ : List (Option T)) : List Nat → List T → List (Option T)
  | i :: is, t :: ts => AI.put (τ.set i (some t)) is ts
  | _, _ => τ
def VRI (K : PySem.W.Frag) (mg : Str → Option Value) (B : Nat → Addr → Prop) (L : Lv) (σ : L2.St) (F : Addr → Prop) (H : Hp) : List AI → List V → List T → Prop
  | [], vs, ts => vs = [] ∧ ts = []
  | .e m :: ai, vs, ts => ∃ v r t ts', vs = v :: r ∧ ts = t :: ts' ∧ m.own = false ∧ m.lv ≤ L ∧ VR K mg B F H m [] v t ∧ VRI K mg B L σ F H ai r ts'
  | .io i _ :: ai, vs, ts => ∃ v r t ts', vs = v :: r ∧ ts = t :: ts' ∧ σ[i]? = some (some v) ∧ VRI K mg B L σ F H ai r ts'
def PostI (K : PySem.W.Frag) (mg : Str → Option Value) (W : WX) (B : Nat → Addr → Prop) (fx : Fx) (L : Lv) (Γh : List Md) (Γ' : List Md) (ai : List AI) (σ : L2.St) (Q : List V → Hp → Prop) (F : Addr → Prop) (H : Hp) : Res (List T) → Prop
  | .ok ts τ' => ∀ F' Os' vs H', Stp (B L) F H F' H' → SR K mg B fx L Γ' F' Os' H' σ τ' → VRI K mg B L σ F' H' ai vs ts → Q vs H'
  | .exn c fs xs τ' => PostX K mg W B fx L Γh σ F H c fs xs τ'
  | .stuck => False
def RI (K : PySem.W.Frag) (mg : Str → Option Value) (W : WX) (L : Lv) (Γh Γ : List Md) (c : M (List T)) (ai : List AI) (Γ' : List Md) : TA := fun σ H Q =>
  ∃ B fx F Os τ, SR K mg B fx L Γ F Os H σ τ ∧ PostI K mg W B fx L Γh Γ' ai σ Q F H (c τ)
abbrev IX (X : Cx) (W : WX) (L : Lv) (Γh Γ : List Md) (es : List Expr) (c : M (List T)) (ai : List AI) (Γ' : List Md) : Prop := PA X es (RI X.K X.mg W L Γh Γ c ai Γ')

section
variable {X : Cx} {W : WX} {B : Nat → Addr → Prop} {fx : Fx} {L : Lv} {Γh Γ Γ1 Γ2 Γ' : List Md} {e a b : Expr} {es : List Expr} {c ca : M T} {m : Md} {ai : List AI} {pos : Pos} {cl : M (List T)}
theorem ix_nil : IX X W L Γh Γ [] cNil [] Γ := by
  refine PA.imp pa_nil fun σ H Q h => ?_
  obtain ⟨B, fx, F, Os, τ, S, p⟩ := h
  exact p F Os [] H Stp.refl S ⟨rfl, rfl⟩
theorem ix_cons (hs : ∀ v p, e ≠ .Starred v p) (he : EX X W L Γh Γ e c m Γ1) (hr : IX X W L Γh Γ1 es cl ai Γ2) (hm : m.own = false) (hl : m.lv ≤ L) : IX X W L Γh Γ (e :: es) (cCons c cl) (.e m :: ai) Γ2 := by
  refine PA.imp (pa_cons he hr (starEach_plain _ hs)) fun σ H Q h => ?_
  obtain ⟨B, fx, F, Os, τ, S, p⟩ := h
  refine ⟨B, fx, F, Os, τ, S, ?_⟩
  unfold cCons M.bind at p
  cases hc : c τ with
  | ok t τ' =>
    rw [hc] at p
    intro F' Os' O v H' s S' x r
    have e := r.noO hm
    subst e
    refine ⟨B, fx, F', Os', τ', S', ?_⟩
    dsimp only at p
    cases hc' : cl τ' with
    | ok ts τ2 =>
      rw [hc'] at p
      exact fun F2 Os2 vs H2 s2 S2 r2 => p F2 Os2 (v :: vs) H2 (s.trans s2) S2 ⟨v, vs, t, ts, rfl, rfl, hm, hl, r.step S'.mono s2 hl (by simp), r2⟩
    | exn c fs xs τ2 => rw [hc'] at p; exact PostX.later p s
    | stuck => rw [hc'] at p; exact p.elim
  | exn c fs xs τ' => rw [hc] at p; exact p
  | stuck => rw [hc] at p; exact p.elim
/-- a slot is handed in and out -/
theorem ix_io {i d : Nat} {x : Str} {xp : Pos} (hN : X.N[i]? = some x) (hv : Vis X.env.scope x) (hd : (x == ("__debug__" : Str)) = false) (hcd : (x == ("__classdict__" : Str)) = false) (hm : Γ[i]? = some (.ow d))
    (hr : IX X W L Γh Γ es cl ai Γ2) : IX X W L Γh Γ (.Name x xp :: es) (cCons (cLit .non) cl) (.io i d :: ai) Γ2 := by
  refine PA.imp (pa_cons (pe_var hN hv hd hcd) hr (starEach_plain _ (fun _ _ z => by cases z))) fun σ H Q h => ?_
  obtain ⟨B, fx, F, Os, τ, S, p⟩ := h
  rcases S.slot i _ hm with ⟨z, _⟩ | ⟨v, t, e1, e2, r⟩
  · cases z
  · refine ⟨v, e1, B, fx, F, Os, τ, S, ?_⟩
    unfold cCons cLit M.bind M.pure at p
    dsimp only at p
    cases hc' : cl τ with
    | ok ts τ2 =>
      rw [hc'] at p
      exact fun F2 Os2 vs H2 s2 S2 r2 => p F2 Os2 (v :: vs) H2 s2 S2 ⟨v, vs, .non, ts, rfl, rfl, e1, r2⟩
    | exn c fs xs τ2 => rw [hc'] at p; exact p
    | stuck => rw [hc'] at p; exact p.elim

/-! ### the call's end -/
def cCall (g : List T → CR) (ai : List AI) (cl : M (List T)) : M T := M.bind cl fun ts τ => match AI.fill τ ai ts with
  | none => .stuck
  | some args => match g args with
    | .ok t outs => .ok t (AI.put τ (AI.slots ai) outs)
    | .exn c fs xs outs => .exn c fs xs (AI.put τ (AI.slots ai) outs)
    | .stuck => .stuck
/-- the slots handed out are owned, and different -/
def ioOk (Γ : List Md) : List AI → Bool
  | [] => true
  | .io i d :: r => decide (Γ[i]? = some (.ow d)) && !(AI.slots r).contains i && ioOk Γ r
  | _ :: r => ioOk Γ r
theorem slots_ow {Γ : List Md} : ∀ {ai : List AI} {i : Nat}, ioOk Γ ai = true → i ∈ AI.slots ai → ∃ d, Γ[i]? = some (.ow d)
  | [], _, _, h => by simp [AI.slots] at h
  | .e m :: r, _, ho, h => slots_ow (ai := r) ho h
  | .io j d :: r, i, ho, h => by
    have ho' : (decide (Γ[j]? = some (.ow d)) && !(AI.slots r).contains j && ioOk Γ r) = true := ho
    rw [Bool.and_eq_true, Bool.and_eq_true] at ho'
    rcases List.mem_cons.mp (show i ∈ j :: AI.slots r from h) with e | e
    · subst e; exact ⟨d, of_decide_eq_true ho'.1.1⟩
    · exact slots_ow ho'.2 e
/-- the owned addresses of the arguments -/
def ioOs (Os : Nat → List Addr) : List AI → List (List Addr)
  | [] => []
  | .io i _ :: r => Os i :: ioOs Os r
  | _ :: r => [] :: ioOs Os r
theorem ioOs_mem {Os : Nat → List Addr} {a : Addr} : ∀ {ai : List AI}, a ∈ (ioOs Os ai).flatten ↔ ∃ i ∈ AI.slots ai, a ∈ Os i
  | [] => by simp [ioOs, AI.slots]
  | .io i d :: r => by
    have ih := ioOs_mem (Os := Os) (a := a) (ai := r)
    simp [ioOs, AI.slots, ← ih]
  | .e m :: r => by
    have ih := ioOs_mem (Os := Os) (a := a) (ai := r)
    simp [ioOs, AI.slots, ← ih]
theorem ioOs_nodup {F : Addr → Prop} {Os : Nat → List Addr} {H : Hp} {σ : L2.St} {τ : List (Option T)} (S : SR X.K X.mg B fx L Γ F Os H σ τ) : ∀ {ai : List AI}, ioOk Γ ai = true → (ioOs Os ai).flatten.Nodup
  | [], _ => List.nodup_nil
  | .io i d :: r, h => by
    have h' : (decide (Γ[i]? = some (.ow d)) && !(AI.slots r).contains i && ioOk Γ r) = true := h
    rw [Bool.and_eq_true, Bool.and_eq_true] at h'
    show (Os i ++ (ioOs Os r).flatten).Nodup
    refine List.nodup_append.mpr ⟨S.nd i, ioOs_nodup S h'.2, fun a ha b hb e => ?_⟩
    subst e
    obtain ⟨j, hj, hb⟩ := ioOs_mem.mp hb
    have := S.dj i j a ha hb
    subst this
    have := h'.1.2
    simp [hj] at this
  | .e m :: r, h => ioOs_nodup S (ai := r) h
theorem args_of {F : Addr → Prop} {Os : Nat → List Addr} {H : Hp} {σ : L2.St} {τ : List (Option T)} (S : SR X.K X.mg B fx L Γ F Os H σ τ) (BL : Addr → Prop) (hF : ∀ a, F a → BL a) (hB : ∀ a, B L a → BL a) :
    ∀ {ai : List AI} {pm : List PM} {vs : List V} {ts args : List T}, AI.fitsL ai pm = true → ioOk Γ ai = true → VRI X.K X.mg B L σ F H ai vs ts → AI.fill τ ai ts = some args → ArgsR X.K X.mg F H BL pm (ioOs Os ai) vs args
  | [], [], vs, ts, args, _, _, h, f => by
    obtain ⟨rfl, rfl⟩ := h
    cases f
    exact ⟨rfl, rfl, rfl⟩
  | [], _ :: _, _, _, _, h, _, _, _ => by cases h
  | _ :: _, [], _, _, _, h, _, _, _ => by simp [AI.fitsL] at h
  | .e m :: ai, p :: pm, vs, ts, args, hf, ho, h, f => by
    obtain ⟨v, r, t, ts', rfl, rfl, hm, hl, q, h⟩ := h
    have f' : (AI.fill τ ai ts').map (t :: ·) = some args := f
    rw [Option.map_eq_some_iff] at f'
    obtain ⟨args', fa, rfl⟩ := f'
    have hf' : ((AI.e m).fits p && AI.fitsL ai pm) = true := hf
    rw [Bool.and_eq_true] at hf'
    have ih := args_of S BL hF hB hf'.2 ho h fa
    cases p with
    | fr =>
      refine ⟨_, v, r, t, args', rfl, rfl, rfl, ?_, ih⟩
      cases m with
      | sc => exact q.2.2
      | bk l d =>
        have e : d = 0 := by simpa [AI.fits] using hf'.1
        subst e
        obtain ⟨_, O', _, z⟩ := q
        exact z.2
      | _ => simp [AI.fits] at hf'
    | bo => exact ⟨_, v, r, t, args', rfl, rfl, rfl, q.rp hF (fun a h => hB a (S.mono _ _ _ hl h)) (by simp), ih⟩
    | io d => simp [AI.fits] at hf'
  | .io i d :: ai, p :: pm, vs, ts, args, hf, ho, h, f => by
    obtain ⟨v, r, t, ts', rfl, rfl, hσ, h⟩ := h
    have hf' : ((AI.io i d).fits p && AI.fitsL ai pm) = true := hf
    rw [Bool.and_eq_true] at hf'
    have ho' : (decide (Γ[i]? = some (.ow d)) && !(AI.slots ai).contains i && ioOk Γ ai) = true := ho
    rw [Bool.and_eq_true, Bool.and_eq_true] at ho'
    unfold AI.fill at f
    rcases S.slot i _ (of_decide_eq_true ho'.1.1) with ⟨z, _⟩ | ⟨v2, t2, e1, e2, q⟩
    · cases z
    · rw [e2] at f
      rw [Option.map_eq_some_iff] at f
      obtain ⟨args', fa, rfl⟩ := f
      rw [hσ] at e1
      cases e1
      have ih := args_of S BL hF hB hf'.2 ho'.2 h fa
      cases p with
      | fr => simp [AI.fits] at hf'
      | bo => simp [AI.fits] at hf'
      | io d' =>
        have e : d = d' := by simpa [AI.fits] using hf'.1
        subst e
        exact ⟨_, _, v, r, t2, args', rfl, rfl, rfl, q, ih⟩
/-- where the slots' owned addresses are behind the call -/
def putOs (Os : Nat → List Addr) : List AI → List (List Addr) → Nat → List Addr
  | .io i _ :: r, O :: Os', j => if j = i then O else putOs Os r Os' j
  | .e _ :: r, Os', j => putOs Os r Os' j
  | _, _, j => Os j
theorem putOs_out {Os : Nat → List Addr} : ∀ {ai : List AI} {Os' : List (List Addr)} {j : Nat}, j ∉ AI.slots ai → putOs Os ai Os' j = Os j
  | [], _, _, _ => by simp [putOs]
  | .io i d :: r, [], j, h => by simp [putOs]
  | .io i d :: r, O :: Os', j, h => by
    have hj : j ≠ i := fun e => h (by simp [AI.slots, e])
    show (if j = i then O else putOs Os r Os' j) = Os j
    rw [if_neg hj]
    exact putOs_out fun z => h (by simp [AI.slots, z])
  | .e m :: r, Os', j, h => putOs_out (ai := r) h
theorem putOs_mem {Os : Nat → List Addr} {F : Addr → Prop} {H : Hp} {a : Addr} : ∀ {ai : List AI} {pm : List PM} {Os' : List (List Addr)} {vs : List V} {outs : List T} {j : Nat}, AI.fitsL ai pm = true → OutsR X.K X.mg F H pm Os' vs outs → j ∈ AI.slots ai →
    a ∈ putOs Os ai Os' j → a ∈ Os'.flatten
  | [], _, _, _, _, _, _, _, h, _ => by simp [AI.slots] at h
  | .io i d :: r, [], _, _, _, _, hf, _, _, _ => by simp [AI.fitsL] at hf
  | .e m :: r, [], _, _, _, _, hf, _, _, _ => by simp [AI.fitsL] at hf
  | .io i d :: r, p :: pm, Os', vs, outs, j, hf, ho, hj, ha => by
    have hf' : ((AI.io i d).fits p && AI.fitsL r pm) = true := hf
    rw [Bool.and_eq_true] at hf'
    cases p with
    | fr => simp [AI.fits] at hf'
    | bo => simp [AI.fits] at hf'
    | io d' =>
      obtain ⟨O, Os2, v, vr, t, ts', rfl, rfl, rfl, q, ho⟩ := ho
      have ha' : a ∈ (if j = i then O else putOs Os r Os2 j) := ha
      split at ha'
      · exact List.mem_flatten.mpr ⟨O, by simp, ha'⟩
      · rename_i hji
        have hj' : j ∈ AI.slots r := by
          rcases List.mem_cons.mp (show j ∈ i :: AI.slots r from hj) with e | e
          · exact absurd e hji
          · exact e
        have := putOs_mem hf'.2 ho hj' ha'
        simp only [List.flatten_cons, List.mem_append]
        exact .inr this
  | .e m :: r, p :: pm, Os', vs, outs, j, hf, ho, hj, ha => by
    have hf' : ((AI.e m).fits p && AI.fitsL r pm) = true := hf
    rw [Bool.and_eq_true] at hf'
    cases p with
    | io d => simp [AI.fits] at hf'
    | fr =>
      obtain ⟨v, vr, rfl, ho⟩ := ho
      exact putOs_mem hf'.2 ho hj ha
    | bo =>
      obtain ⟨v, vr, rfl, ho⟩ := ho
      exact putOs_mem hf'.2 ho hj ha
theorem put_len : ∀ (is : List Nat) (ts : List T) (τ : List (Option T)), (AI.put τ is ts).length = τ.length
  | [], _, τ => by simp [AI.put]
  | i :: is, [], τ => by simp [AI.put]
  | i :: is, t :: ts, τ => by
    show (AI.put (τ.set i (some t)) is ts).length = τ.length
    rw [put_len, List.length_set]
theorem put_out : ∀ {is : List Nat} {ts : List T} {τ : List (Option T)} {j : Nat}, j ∉ is → (AI.put τ is ts)[j]? = τ[j]?
  | [], _, τ, j, _ => by simp [AI.put]
  | i :: is, [], τ, j, _ => by simp [AI.put]
  | i :: is, t :: ts, τ, j, h => by
    show (AI.put (τ.set i (some t)) is ts)[j]? = τ[j]?
    rw [put_out (fun z => h (by simp [z])), List.getElem?_set_ne (fun e => h (by simp [e]))]

/-- behind the call: the state again -/
theorem sr_after {F F' : Addr → Prop} {Os : Nat → List Addr} {H H' : Hp} {σ : L2.St} {τ : List (Option T)} {pm : List PM} {Os' : List (List Addr)} {O : List Addr} {vs : List V} {ts outs args : List T} (S : SR X.K X.mg B fx L Γ F Os H σ τ)
    (hf : AI.fitsL ai pm = true) (ho : ioOk Γ ai = true) (hv : VRI X.K X.mg B L σ F H ai vs ts) (s : Stp (Rest H (ioOs Os ai).flatten) F H F' H') (ou : OutsR X.K X.mg F' H' pm Os' vs outs) (ap : Apart (Rest H (ioOs Os ai).flatten) F' H' (O ++ Os'.flatten)) :
    SR X.K X.mg B fx L Γ F' (putOs Os ai Os') H' σ (AI.put τ (AI.slots ai) outs) ∧ Xt (B L) F' H' (putOs Os ai Os') O ∧ Stp (B L) F H F' H' := by
  have hB : ∀ a, B L a → Rest H (ioOs Os ai).flatten a := fun a h => ⟨S.trB a h, fun z => by
    obtain ⟨i, _, hi⟩ := ioOs_mem.mp z
    exact (S.own i a hi).2.1 h⟩
  have s' : Stp (B L) F H F' H' := s.less hB
  have keepO : ∀ j a, j ∉ AI.slots ai → a ∈ Os j → Rest H (ioOs Os ai).flatten a := fun j a hj ha => ⟨(S.own j a ha).2.2, fun z => by
    obtain ⟨i, hi, hia⟩ := ioOs_mem.mp z
    have := S.dj j i a ha hia
    subst this
    exact hj hi⟩
  have free : ∀ {a}, a ∈ Os'.flatten → Free (Rest H (ioOs Os ai).flatten) F' H' a := fun {a} h => ap.own a (List.mem_append_right _ h)
  have nF : ∀ a, Rest H (ioOs Os ai).flatten a → ¬ F a → ¬ F' a := fun a r n z => (s.gr a z).elim n fun z => z r
  have inb : ∀ j a, j ∈ AI.slots ai → a ∈ putOs Os ai Os' j → a ∈ Os'.flatten := fun j a hj ha => putOs_mem hf ou hj ha
  -- each slot handed out
  have slots : ∀ {ai : List AI} {pm : List PM} {vs : List V} {ts outs : List T} {Os' : List (List Addr)} {τ : List (Option T)}, AI.fitsL ai pm = true → ioOk Γ ai = true → VRI X.K X.mg B L σ F H ai vs ts → OutsR X.K X.mg F' H' pm Os' vs outs → Os'.flatten.Nodup → τ.length = Γ.length →
      (∀ i m, i ∈ AI.slots ai → Γ[i]? = some m → SlotR X.K X.mg B F' H' m (putOs Os ai Os' i) σ[i]? (AI.put τ (AI.slots ai) outs)[i]?) ∧ (∀ i j a, i ∈ AI.slots ai → j ∈ AI.slots ai → a ∈ putOs Os ai Os' i → a ∈ putOs Os ai Os' j → i = j) ∧ (∀ i, i ∈ AI.slots ai → (putOs Os ai Os' i).Nodup) := by
    intro ai
    induction ai with
    | nil =>
      intro pm vs ts outs Os' τ _ _ _ _ _ _
      exact ⟨fun i m h => by simp [AI.slots] at h, fun i j a h => by simp [AI.slots] at h, fun i h => by simp [AI.slots] at h⟩
    | cons x ai ih =>
      intro pm vs ts outs Os' τ hf ho hv ou nd len
      cases pm with
      | nil => simp [AI.fitsL] at hf
      | cons p pm =>
        have hf' : (x.fits p && AI.fitsL ai pm) = true := hf
        rw [Bool.and_eq_true] at hf'
        cases x with
        | e m =>
          obtain ⟨v, r, t, ts', rfl, rfl, hm, hl, q, hv⟩ := hv
          cases p with
          | io d => simp [AI.fits] at hf'
          | fr =>
            obtain ⟨v', r', e, ou⟩ := ou
            cases e
            exact ih hf'.2 ho hv ou nd len
          | bo =>
            obtain ⟨v', r', e, ou⟩ := ou
            cases e
            exact ih hf'.2 ho hv ou nd len
        | io i d =>
          obtain ⟨v, r, t, ts', rfl, rfl, hσ, hv⟩ := hv
          have ho' : (decide (Γ[i]? = some (.ow d)) && !(AI.slots ai).contains i && ioOk Γ ai) = true := ho
          rw [Bool.and_eq_true, Bool.and_eq_true] at ho'
          have hg := of_decide_eq_true ho'.1.1
          have hni : i ∉ AI.slots ai := by
            have := ho'.1.2
            simpa using this
          cases p with
          | fr => simp [AI.fits] at hf'
          | bo => simp [AI.fits] at hf'
          | io d' =>
            have e : d = d' := by simpa [AI.fits] using hf'.1
            subst e
            obtain ⟨O1, Os2, v', r', t', outs', rfl, e, rfl, q, ou⟩ := ou
            cases e
            rw [List.flatten_cons] at nd
            have nd' := List.nodup_append.mp nd
            obtain ⟨h1, h2, h3⟩ := ih (τ := τ.set i (some t')) hf'.2 ho'.2 hv ou nd'.2.1 (by rw [List.length_set]; exact len)
            have pe : ∀ j, j ≠ i → putOs Os (.io i d :: ai) (O1 :: Os2) j = putOs Os ai Os2 j := fun j hj => by
              show (if j = i then O1 else putOs Os ai Os2 j) = _
              rw [if_neg hj]
            have pi : putOs Os (.io i d :: ai) (O1 :: Os2) i = O1 := by
              show (if i = i then O1 else putOs Os ai Os2 i) = _
              rw [if_pos rfl]
            have mem : ∀ j, j ∈ AI.slots (.io i d :: ai) → j = i ∨ (j ≠ i ∧ j ∈ AI.slots ai) := fun j hj => by
              rcases List.mem_cons.mp (show j ∈ i :: AI.slots ai from hj) with e | e
              · exact .inl e
              · exact .inr ⟨fun z => hni (z ▸ e), e⟩
            refine ⟨fun j m hj e => ?_, fun j k a hj hk h1' h2' => ?_, fun j hj => ?_⟩
            · rcases mem j hj with rfl | ⟨hne, hj'⟩
              · rw [hg] at e
                cases e
                rw [pi]
                show SlotR _ _ _ _ _ _ _ _ (AI.put (τ.set j (some t')) (AI.slots ai) outs')[j]?
                rw [put_out hni]
                have hi : j < τ.length := by
                  rw [len]
                  exact (List.getElem?_eq_some_iff.mp hg).1
                exact .inr ⟨v, t', hσ, by rw [List.getElem?_set_self hi], q⟩
              · rw [pe j hne]
                exact h1 j m hj' e
            · rcases mem j hj with rfl | ⟨hne, hj'⟩
              · rcases mem k hk with rfl | ⟨hne2, hk'⟩
                · rfl
                · rw [pi] at h1'
                  rw [pe k hne2] at h2'
                  exact absurd rfl (nd'.2.2 a h1' a (putOs_mem hf'.2 ou hk' h2'))
              · rcases mem k hk with rfl | ⟨hne2, hk'⟩
                · rw [pi] at h2'
                  rw [pe j hne] at h1'
                  exact absurd rfl (nd'.2.2 a h2' a (putOs_mem hf'.2 ou hj' h1'))
                · rw [pe j hne] at h1'
                  rw [pe k hne2] at h2'
                  exact h2 j k a hj' hk' h1' h2'
            · rcases mem j hj with rfl | ⟨hne, hj'⟩
              · rw [pi]; exact nd'.1
              · rw [pe j hne]; exact h3 j hj'
  obtain ⟨h1, h2, h3⟩ := slots hf ho hv ou (List.nodup_append.mp ap.nd).2.1 S.lτ
  have inL : ∀ i ∈ AI.slots ai, i < Γ.length := by
    have : ∀ {ai : List AI}, ioOk Γ ai = true → ∀ i ∈ AI.slots ai, i < Γ.length := by
      intro ai
      induction ai with
      | nil => intro _ i h; simp [AI.slots] at h
      | cons x ai ih =>
        intro ho i hi
        cases x with
        | e m => exact ih ho i hi
        | io j d =>
          have ho' : (decide (Γ[j]? = some (.ow d)) && !(AI.slots ai).contains j && ioOk Γ ai) = true := ho
          rw [Bool.and_eq_true, Bool.and_eq_true] at ho'
          rcases List.mem_cons.mp (show i ∈ j :: AI.slots ai from hi) with e | e
          · subst e; exact (List.getElem?_eq_some_iff.mp (of_decide_eq_true ho'.1.1)).1
          · exact ih ho'.2 i e
    exact this ho
  refine ⟨⟨S.lσ, by rw [put_len]; exact S.lτ, fun i m e => ?_, fun i hi => ?_, S.lv, fun i => ?_, fun i j a hi hj => ?_, fun i a ha => ?_, s.tf S.trF, fun a ha => s'.tr a (S.trB a ha), S.mono, S.fix, fun p hp => ⟨?_, (S.fixT p hp).2⟩, S.fz⟩, ⟨(List.nodup_append.mp ap.nd).1, fun a ha => ?_, fun a ha i hi => ?_⟩, s'⟩
  · by_cases hi : i ∈ AI.slots ai
    · exact h1 i m hi e
    · rw [putOs_out hi, put_out hi]
      exact (S.slot i m e).step S.mono s' (S.lv m (List.mem_of_getElem? e)) fun a ha => s.at_ a (.inr (keepO i a hi ha))
  · rw [putOs_out fun z => absurd (inL i z) (by omega)]
    exact S.out i hi
  · by_cases hi : i ∈ AI.slots ai
    · exact h3 i hi
    · rw [putOs_out hi]; exact S.nd i
  · by_cases hi' : i ∈ AI.slots ai
    · by_cases hj' : j ∈ AI.slots ai
      · exact h2 i j a hi' hj' hi hj
      · rw [putOs_out hj'] at hj
        exact absurd (keepO j a hj' hj) (free (inb i a hi' hi)).2.1
    · rw [putOs_out hi'] at hi
      by_cases hj' : j ∈ AI.slots ai
      · exact absurd (keepO i a hi' hi) (free (inb j a hj' hj)).2.1
      · rw [putOs_out hj'] at hj
        exact S.dj i j a hi hj
  · by_cases hi' : i ∈ AI.slots ai
    · have f := free (inb i a hi' ha)
      exact ⟨f.1, fun b => f.2.1 (hB a b), f.2.2⟩
    · rw [putOs_out hi'] at ha
      have k := keepO i a hi' ha
      exact ⟨nF a k (S.own i a ha).1, (S.own i a ha).2.1, s'.tr a (S.own i a ha).2.2⟩
  · rw [put_out fun z => ?_]
    · exact (S.fixT p hp).1
    · obtain ⟨d, e⟩ := slots_ow ho z
      exact absurd ((S.fixT p hp).2 _ e) (by simp [Md.own])
  · have f := ap.own a (List.mem_append_left _ ha)
    exact ⟨f.1, fun b => f.2.1 (hB a b), f.2.2⟩
  · by_cases hi' : i ∈ AI.slots ai
    · exact absurd rfl ((List.nodup_append.mp ap.nd).2.2 a ha a (inb i a hi' hi))
    · rw [putOs_out hi'] at hi
      exact (ap.own a (List.mem_append_left _ ha)).2.1 (keepO i a hi' hi)

/-- may the value's mode leave the callee -/
def Sig.rmOk (sg : Sig) : Bool := match sg.rm with
  | .sc => true
  | .bk l d => decide (l = 0) && decide (d = 0)
  | .ow _ => true
  | _ => false
theorem vr_out {BL F : Addr → Prop} {H : Hp} {O : List Addr} {v : V} {t : T} {m : Md} (h : VR X.K X.mg (fun _ => BL) F H m O v t) (hm : Sig.rmOk ⟨[], m⟩ = true) : VR X.K X.mg B F H m O v t := by
  cases m with
  | un => exact h
  | sc => exact h
  | bk l d =>
    simp only [Sig.rmOk, Bool.and_eq_true, decide_eq_true_eq] at hm
    obtain ⟨rfl, rfl⟩ := hm
    have e := h.1
    subst e
    exact VR.fr_of h.fr_rp
  | bo l => cases hm
  | ow d => exact h

/-- can the slots be left as the handler wants them -/
def HOut (X : Cx) (L : Lv) (Γ Γh : List Md) : Prop := ∀ B fx F Os H σ τ, SR X.K X.mg B fx L Γ F Os H σ τ → ∃ F' Os', Stp (B L) F H F' H ∧ SR X.K X.mg B fx L Γh F' Os' H σ τ
theorem HOut.of {X : Cx} {L : Lv} {Γ Γh : List Md} (w : wkG Γh Γ = true) (lv : Γh.all (fun m => decide (m.lv ≤ L)) = true) : HOut X L Γ Γh := fun B fx F Os H σ τ S => by
  obtain ⟨F2, s2, S2⟩ := S.weak w lv
  exact ⟨F2, _, s2, S2⟩
/-- the arguments are there: the callee's promise from the state -/
theorem call_end {sg : Sig} {g : List T → CR} {σ : L2.St} {Q : VK} {F : Addr → Prop} {Os : Nat → List Addr} {H : Hp} {τ : List (Option T)} {vs : List V} {ts : List T}
    (S : SR X.K X.mg B fx L Γ F Os H σ τ) (hf : AI.fitsL ai sg.pm = true) (ho : ioOk Γ ai = true) (hr : sg.rmOk = true) (hh : HOut X L Γ Γh)
    (hv : VRI X.K X.mg B L σ F H ai vs ts)
    (p : Post X.K X.mg W B fx L Γh Γ sg.rm σ Q F H (match AI.fill τ ai ts with
      | none => .stuck
      | some args => match g args with
        | .ok t outs => .ok t (AI.put τ (AI.slots ai) outs)
        | .exn c fs xs outs => .exn c fs xs (AI.put τ (AI.slots ai) outs)
        | .stuck => .stuck)) : spT X.K X.mg sg g vs H Q (WE W σ) := by
  cases hfill : AI.fill τ ai ts with
  | none => rw [hfill] at p; exact p.elim
  | some args =>
    rw [hfill] at p
    dsimp only at p
    have notW : ∀ a, a ∈ (ioOs Os ai).flatten → ∃ i, a ∈ Os i := fun a h => by
      obtain ⟨i, _, h⟩ := ioOs_mem.mp h
      exact ⟨i, h⟩
    have hF : ∀ a, F a → Rest H (ioOs Os ai).flatten a := fun a h => ⟨S.trF a h, fun z => by
      obtain ⟨i, hi⟩ := notW a z
      exact (S.own i a hi).1 h⟩
    have hB : ∀ a, B L a → Rest H (ioOs Os ai).flatten a := fun a h => ⟨S.trB a h, fun z => by
      obtain ⟨i, hi⟩ := notW a z
      exact (S.own i a hi).2.1 h⟩
    refine ⟨F, ioOs Os ai, args, S.trF, args_of S _ hF hB hf ho hv hfill, ioOs_nodup S ho, fun a h => ?_, ?_⟩
    · obtain ⟨i, hi⟩ := notW a h
      exact ⟨(S.own i a hi).1, (S.own i a hi).2.2⟩
    · cases hg : g args with
      | ok t outs =>
        rw [hg] at p
        intro F' H' Os' O v s ou r ap
        obtain ⟨S', x, s'⟩ := sr_after S hf ho hv s ou ap (args := args)
        exact p F' _ O v H' s' S' x (vr_out r hr)
      | exn c fs xs outs =>
        rw [hg] at p
        intro F' H' Os' cls d s ou r ap
        obtain ⟨S', x, s'⟩ := sr_after (O := []) S hf ho hv s ou (by simpa using ap) (args := args)
        obtain ⟨F2, Os2, s2, S2⟩ := hh B fx F' _ H' σ _ S'
        exact p F2 Os2 H' cls d (s'.trans s2) S2 r
      | stuck => rw [hg] at p; exact p.elim
/-- f(..) -/
theorem ex_call {k : Nat} {f : Addr} {fd : FuncData} {ps : List Str} {sg : Sig} {g : List T → CR} {x : Str} {p : Pos} (tk : Takes X W) (Fn : FnOk X.prog X.w X.K X.mg X.base (L2.CX X.prog X.w) k f fd ps (spT X.K X.mg sg g)) (hr : Room k X.A) (hg : Gl X x)
    (hm : X.mg x = some (.ref f)) (hk : PySem.W.keepIn X.K (.ref f) = true) (hb : Binds X.K fd ps []) (ha : IX X W L Γh Γ (e :: es) cl ai Γ1) (hdb : (x == ("__debug__" : Str)) = false)
    (he : starEach (e :: es) X.env = (false, eval e X.env) :: starEach es X.env) (hpl : (backTo pos (starEach es X.env)).any (·.1) = false)
    (hf : AI.fitsL ai sg.pm = true) (ho : ioOk Γ1 ai = true) (ro : sg.rmOk = true) (hh : HOut X L Γ1 Γh) :
    EX X W L Γh Γ (.Call (.Name x p) (e :: es) [] pos) (cCall g ai cl) sg.rm Γ1 := by
  refine PE.imp (pe_callS (E := WE W) Fn hr hg hm hk hb (fun σ => passAt tk σ) ha hdb he hpl) fun σ H Q h => ?_
  obtain ⟨B, fx, F, Os, τ, S, p⟩ := h
  refine ⟨B, fx, F, Os, τ, S, ?_⟩
  unfold cCall M.bind at p
  cases hc : cl τ with
  | ok ts τ' =>
    rw [hc] at p
    intro F' Os' vs H' s S' hv
    exact call_end S' hf ho ro hh hv (post_later p s)
  | exn c fs xs τ' => rw [hc] at p; exact p
  | stuck => rw [hc] at p; exact p.elim
end
end TL

/-! TL9: methods, new instances -/
namespace TL
open PySem PySem.Spec PyProof.Rows L2

/-- an instance of the class c, without a field m -/
def oIns (c m : Str) : T → Bool
  | .ins c' ks _ => decide (c' = c) && !ks.contains m
  | _ => false
def cFin (g : List T → CR) (ai : List AI) (ts : List T) : M T := fun τ => match AI.fill τ ai ts with
  | none => .stuck
  | some args => match g args with
    | .ok t outs => .ok t (AI.put τ (AI.slots ai) outs)
    | .exn c fs xs outs => .exn c fs xs (AI.put τ (AI.slots ai) outs)
    | .stuck => .stuck
/-- o.m(..), o not handed out -/
def cMethE (c m : Str) (g : List T → CR) (mo : Md) (ai : List AI) (co : M T) (cl : M (List T)) : M T := M.bind co fun x => if oIns c m x = true then M.bind cl fun ts => cFin g (.e mo :: ai) (x :: ts) else fun _ => .stuck
/-- .. the slot i handed in and out -/
def cMethI (c m : Str) (g : List T → CR) (i d : Nat) (ai : List AI) (cl : M (List T)) : M T := M.bind (cVar i) fun x => if oIns c m x = true then M.bind cl fun ts => cFin g (.io i d :: ai) (.non :: ts) else fun _ => .stuck
/-- .. a new object, thrown away behind -/
def cMethT (c m : Str) (g : List T → CR) (co : M T) : M T := M.bind co fun x => if oIns c m x = true then fun τ => match g [x] with
    | .ok t _ => .ok t τ
    | .exn c fs xs _ => .exn c fs xs τ
    | .stuck => .stuck
  else fun _ => .stuck
/-- C(..) -/
def cMake (c : Str) (g : List T → CR) (ai : List AI) (cl : M (List T)) : M T := M.bind cl fun ts τ => match AI.fill τ ai ts with
  | none => .stuck
  | some args => match g (.ins c [] [] :: args) with
    | .ok .non (x :: _) => .ok x τ
    | .ok _ _ => .stuck
    | .exn c fs xs _ => .exn c fs xs τ
    | .stuck => .stuck

section
variable {X : Cx} {W : WX} {B : Nat → Addr → Prop} {fx : Fx} {L : Lv} {Γh Γ Γ1 Γ2 Γ' : List Md} {e a b o : Expr} {es : List Expr} {c ca co : M T} {m mo : Md} {ai : List AI} {pos apos : Pos} {cl : M (List T)}
/-- a method's promise used -/
def tMethT (C : Addr) (nm : Str) (sp : Sp) (E : L2.St → XK) (to : TE) (t : TA) : TE := fun σ H Q => to σ H fun x H1 => ∃ p dx kvs, (x = .ref p ∧ H1 p = some (.ins C dx kvs)) ∧ kvs.lookup nm = none ∧ t σ H1 fun vs H2 => sp (x :: vs) H2 Q (E σ)
theorem pe_methT {k : Nat} {f C : Addr} {fd : FuncData} {ps : List Str} {sp : Sp} {E : L2.St → XK} {nm : Str} {to : TE} {t : TA} {pl : Sem Bool} (ho : PE X o to) (cc : Cls X.K C) (hm : Meth X.K C nm f) (Fn : FnOk X.prog X.w X.K X.mg X.base (L2.CX X.prog X.w) k f fd ps sp)
    (hr : Room k X.A) (hb : Binds X.K fd ps []) (hx : ∀ σ, PassesAt (L2.CX X.prog X.w) X σ (E σ)) (ha : PA X (e :: es) t)
    (hst : starEach (e :: es) X.env = (false, eval e X.env) :: starEach es X.env) (hpl : (backTo pos (starEach es X.env)).any (·.1) = false)
    (ht : eval (.Call (.Attribute o nm apos) (e :: es) [] pos) X.env = (do
      let ov ← eval o X.env
      standAt apos.atName
      let (fn, hd) ← holding [ov] (getMethod ov nm pl)
      callWith pos fn hd (backTo pos (starEach (e :: es) X.env)) (backToKw pos (keywordEach [] X.env)))) :
    PE X (.Call (.Attribute o nm apos) (e :: es) [] pos) (tMethT C nm sp E to t) := by
  refine ⟨fun pins s σ H Q I h => ?_⟩
  refine PySem.W.methodCall_KW (pl := pl) (thn (ho.run pins s σ H _ I h) fun u s1 hu => ?_) ht
  obtain ⟨x, H1, I1, rx, p, dx, kvs, ⟨ex, hp⟩, nl, q⟩ := hu
  subst ex
  obtain rfl : u = Value.ref p := rx
  refine getmeth_ok I1 hp cc hm nl ?_
  have args := ha.run pos pins s1 σ H1 _ I1 q
  refine PySem.W.callWith_K (first := [.ref p]) (h₀ := X.base) I.ok.mod.kin hm.kp (thn args fun us s2 hq => ?_) hst hpl
  obtain ⟨vs, H2, I2, r, q2⟩ := hq
  exact ⟨I2.kIn, run_fnS (us := .ref p :: us) (vs := .ref p :: vs) Fn hr hb (hx σ) I2 (.cons rfl r) q2⟩
theorem pe_methT0 {k : Nat} {f C : Addr} {fd : FuncData} {ps : List Str} {sp : Sp} {E : L2.St → XK} {nm : Str} {to : TE} {pl : Sem Bool} (ho : PE X o to) (cc : Cls X.K C) (hm : Meth X.K C nm f) (Fn : FnOk X.prog X.w X.K X.mg X.base (L2.CX X.prog X.w) k f fd ps sp)
    (hr : Room k X.A) (hb : Binds X.K fd ps []) (hx : ∀ σ, PassesAt (L2.CX X.prog X.w) X σ (E σ))
    (ht : eval (.Call (.Attribute o nm apos) [] [] pos) X.env = (do
      let ov ← eval o X.env
      standAt apos.atName
      let (fn, hd) ← holding [ov] (getMethod ov nm pl)
      callWith pos fn hd (backTo pos (starEach [] X.env)) (backToKw pos (keywordEach [] X.env)))) :
    PE X (.Call (.Attribute o nm apos) [] [] pos) (tMethT C nm sp E to tNil) := by
  refine ⟨fun pins s σ H Q I h => ?_⟩
  refine PySem.W.methodCall_KW (pl := pl) (thn (ho.run pins s σ H _ I h) fun u s1 hu => ?_) ht
  obtain ⟨x, H1, I1, rx, p, dx, kvs, ⟨ex, hp⟩, nl, q⟩ := hu
  subst ex
  obtain rfl : u = Value.ref p := rx
  refine getmeth_ok I1 hp cc hm nl ?_
  exact PySem.W.callWith_K0 (first := [.ref p]) I1.kIn hm.kp (run_fnS (us := [.ref p]) (vs := [.ref p]) Fn hr hb (hx σ) I1 (.cons rfl .nil) q)
/-- f() -/
theorem pe_callT0 {k : Nat} {f : Addr} {fd : FuncData} {ps : List Str} {sp : Sp} {E : L2.St → XK} {x : Str} {p : Pos} (Fn : FnOk X.prog X.w X.K X.mg X.base (L2.CX X.prog X.w) k f fd ps sp) (hr : Room k X.A) (hg : Gl X x) (hm : X.mg x = some (.ref f))
    (hk : PySem.W.keepIn X.K (.ref f) = true) (hb : Binds X.K fd ps []) (hx : ∀ σ, PassesAt (L2.CX X.prog X.w) X σ (E σ)) (hdb : (x == ("__debug__" : Str)) = false) : PE X (.Call (.Name x p) [] [] pos) (tCallS sp E tNil) := by
  refine ⟨fun pins s σ H Q I h => ?_⟩
  refine wpAny_Call_Name_kw (ld_glob I hg hm ?_ hdb)
  exact PySem.W.callWith_K0 I.kIn hk (run_fnS (us := []) (vs := []) Fn hr hb (hx σ) I .nil h)

/-- the class's name tells its address -/
theorem oIns_at {K : PySem.W.Frag} {mg : Str → Option Value} {H : Hp} {P : Addr → Prop} {c nm : Str} {C : Addr} {v : V} {t : T} (hc : mg c = some (.ref C)) (h : oIns c nm t = true) (r : Rp K mg H P v t) : ∃ p dx kvs, (v = .ref p ∧ H p = some (.ins C dx kvs)) ∧ kvs.lookup nm = none := by
  unfold oIns at h
  split at h
  · rename_i c' ks xs
    rw [Bool.and_eq_true] at h
    have e := of_decide_eq_true h.1
    subst e
    obtain ⟨p, A, dx, kvs, rfl, ⟨_, hp⟩, em, ek, _⟩ := r
    rw [hc] at em
    cases em
    refine ⟨p, dx, kvs, ⟨rfl, hp⟩, ?_⟩
    have h2 := h.2
    subst ek
    cases q : kvs.lookup nm with
    | none => rfl
    | some w =>
      have hm := PySem.mem_of_lookup q
      have : nm ∈ kvs.map (·.1) := List.mem_map.mpr ⟨_, hm, rfl⟩
      simp at h2
      exact absurd hm (h2 w)
  · cases h

theorem cVar_run {i : Nat} {t : T} {τ : List (Option T)} (h : τ[i]? = some (some t)) : cVar i τ = .ok t τ := by
  unfold cVar
  rw [h]
theorem M.bind_ok {α β : Type} {m : M α} {f : α → M β} {τ τ' : List (Option T)} {a : α} (h : m τ = .ok a τ') : M.bind m f τ = f a τ' := by
  unfold M.bind
  rw [h]
theorem VRI.step {σ : L2.St} {F F' : Addr → Prop} {H H' : Hp} (hB : ∀ l l' a, l ≤ l' → B l a → B l' a) (s : Stp (B L) F H F' H') : ∀ {ai : List AI} {vs : List V} {ts : List T}, VRI X.K X.mg B L σ F H ai vs ts → VRI X.K X.mg B L σ F' H' ai vs ts
  | [], _, _, h => h
  | .e m :: ai, _, _, h => by
    obtain ⟨v, r, t, ts', rfl, rfl, hm, hl, q, h⟩ := h
    exact ⟨v, r, t, ts', rfl, rfl, hm, hl, q.step hB s hl (by simp), VRI.step hB s h⟩
  | .io i d :: ai, _, _, h => by
    obtain ⟨v, r, t, ts', rfl, rfl, hσ, h⟩ := h
    exact ⟨v, r, t, ts', rfl, rfl, hσ, VRI.step hB s h⟩
theorem postI_bind {σ : L2.St} {Q : VK} {Q' : List V → Hp → Prop} {F : Addr → Prop} {H : Hp} {f : List T → M T} {τ : List (Option T)}
    (p : Post X.K X.mg W B fx L Γh Γ' m σ Q F H (M.bind cl f τ))
    (k : ∀ ts τ' F' Os' vs H', Stp (B L) F H F' H' → SR X.K X.mg B fx L Γ1 F' Os' H' σ τ' → VRI X.K X.mg B L σ F' H' ai vs ts → Post X.K X.mg W B fx L Γh Γ' m σ Q F' H' (f ts τ') → Q' vs H') :
    PostI X.K X.mg W B fx L Γh Γ1 ai σ Q' F H (cl τ) := by
  unfold M.bind at p
  cases hc : cl τ with
  | ok ts τ' =>
    rw [hc] at p
    intro F' Os' vs H' s S' hv
    exact k ts τ' F' Os' vs H' s S' hv (post_later (show Post X.K X.mg W B fx L Γh Γ' m σ Q F H (f ts τ') from p) s)
  | exn c fs xs τ' => rw [hc] at p; exact p
  | stuck => rw [hc] at p; exact p.elim

section
variable {k : Nat} {f C : Addr} {fd : FuncData} {ps : List Str} {sg : Sig} {g : List T → CR} {cn nm x : Str} {p : Pos} {pl : Sem Bool}
theorem ex_call0 (tk : Takes X W) (Fn : FnOk X.prog X.w X.K X.mg X.base (L2.CX X.prog X.w) k f fd ps (spT X.K X.mg sg g)) (hr : Room k X.A) (hg : Gl X x)
    (hm : X.mg x = some (.ref f)) (hk : PySem.W.keepIn X.K (.ref f) = true) (hb : Binds X.K fd ps []) (hdb : (x == ("__debug__" : Str)) = false) (hf : sg.pm = []) (ro : sg.rmOk = true) (hh : HOut X L Γ Γh) :
    EX X W L Γh Γ (.Call (.Name x p) [] [] pos) (cCall g [] cNil) sg.rm Γ := by
  refine PE.imp (pe_callT0 (E := WE W) Fn hr hg hm hk hb (fun σ => passAt tk σ) hdb) fun σ H Q h => ?_
  obtain ⟨B, fx, F, Os, τ, S, p⟩ := h
  exact call_end (ai := []) (ts := []) S (by rw [hf]; rfl) rfl ro hh ⟨rfl, rfl⟩ p
/-- o.m(e, ..), o read alone -/
theorem ex_methE (tk : Takes X W) (ho : EX X W L Γh Γ o co mo Γ1) (nm' : mo.own = false) (lo : mo.lv ≤ L) (hc : X.mg cn = some (.ref C)) (cc : Cls X.K C) (hm : Meth X.K C nm f) (Fn : FnOk X.prog X.w X.K X.mg X.base (L2.CX X.prog X.w) k f fd ps (spT X.K X.mg sg g))
    (hr : Room k X.A) (hb : Binds X.K fd ps []) (ha : IX X W L Γh Γ1 (e :: es) cl ai Γ2)
    (hst : starEach (e :: es) X.env = (false, eval e X.env) :: starEach es X.env) (hpl : (backTo pos (starEach es X.env)).any (·.1) = false)
    (ht : eval (.Call (.Attribute o nm apos) (e :: es) [] pos) X.env = (do
      let ov ← eval o X.env
      standAt apos.atName
      let (fn, hd) ← holding [ov] (getMethod ov nm pl)
      callWith pos fn hd (backTo pos (starEach (e :: es) X.env)) (backToKw pos (keywordEach [] X.env))))
    (hf : AI.fitsL (.e mo :: ai) sg.pm = true) (io : ioOk Γ2 ai = true) (ro : sg.rmOk = true) (hh : HOut X L Γ2 Γh) :
    EX X W L Γh Γ (.Call (.Attribute o nm apos) (e :: es) [] pos) (cMethE cn nm g mo ai co cl) sg.rm Γ2 := by
  refine PE.imp (pe_methT (E := WE W) ho cc hm Fn hr hb (fun σ => passAt tk σ) ha hst hpl ht) fun σ H Q h => ?_
  obtain ⟨B, fx, F, Os, τ, S, p⟩ := h
  refine ⟨B, fx, F, Os, τ, S, post_bind p fun t τ' F' Os' O v H' s S' x v' p' => ?_⟩
  have eO := v'.noO nm'
  subst eO
  by_cases hi : oIns cn nm t = true
  · rw [if_pos hi] at p'
    obtain ⟨q, dx, kvs, h1, h2⟩ := oIns_at hc hi v'.any
    refine ⟨q, dx, kvs, h1, h2, B, fx, F', Os', τ', S', postI_bind p' fun ts τ2 F2 Os2 vs H2 s2 S2 hv p2 => ?_⟩
    exact call_end (ai := .e mo :: ai) (ts := t :: ts) S2 hf io ro hh ⟨v, vs, t, ts, rfl, rfl, nm', lo, v'.step S'.mono s2 lo (by simp), hv⟩ p2
  · rw [if_neg hi] at p'
    exact p'.elim
theorem ex_methE0 (tk : Takes X W) (ho : EX X W L Γh Γ o co mo Γ1) (nm' : mo.own = false) (lo : mo.lv ≤ L) (hc : X.mg cn = some (.ref C)) (cc : Cls X.K C) (hm : Meth X.K C nm f) (Fn : FnOk X.prog X.w X.K X.mg X.base (L2.CX X.prog X.w) k f fd ps (spT X.K X.mg sg g))
    (hr : Room k X.A) (hb : Binds X.K fd ps [])
    (ht : eval (.Call (.Attribute o nm apos) [] [] pos) X.env = (do
      let ov ← eval o X.env
      standAt apos.atName
      let (fn, hd) ← holding [ov] (getMethod ov nm pl)
      callWith pos fn hd (backTo pos (starEach [] X.env)) (backToKw pos (keywordEach [] X.env))))
    (hf : AI.fitsL [.e mo] sg.pm = true) (ro : sg.rmOk = true) (hh : HOut X L Γ1 Γh) :
    EX X W L Γh Γ (.Call (.Attribute o nm apos) [] [] pos) (cMethE cn nm g mo [] co cNil) sg.rm Γ1 := by
  refine PE.imp (pe_methT0 (E := WE W) ho cc hm Fn hr hb (fun σ => passAt tk σ) ht) fun σ H Q h => ?_
  obtain ⟨B, fx, F, Os, τ, S, p⟩ := h
  refine ⟨B, fx, F, Os, τ, S, post_bind p fun t τ' F' Os' O v H' s S' x v' p' => ?_⟩
  have eO := v'.noO nm'
  subst eO
  by_cases hi : oIns cn nm t = true
  · rw [if_pos hi] at p'
    obtain ⟨q, dx, kvs, h1, h2⟩ := oIns_at hc hi v'.any
    exact ⟨q, dx, kvs, h1, h2, call_end (ai := [.e mo]) (ts := [t]) S' hf rfl ro hh ⟨v, [], t, [], rfl, rfl, nm', lo, v', rfl, rfl⟩ p'⟩
  · rw [if_neg hi] at p'
    exact p'.elim
/-- .. the receiver a slot that is handed in and out -/
theorem ex_methI {i d : Nat} {y : Str} {yp : Pos} (tk : Takes X W) (hN : X.N[i]? = some y) (hv : Vis X.env.scope y) (hd : (y == ("__debug__" : Str)) = false) (hcd : (y == ("__classdict__" : Str)) = false) (hmd : Γ[i]? = some (.ow d))
    (hc : X.mg cn = some (.ref C)) (cc : Cls X.K C) (hm : Meth X.K C nm f) (Fn : FnOk X.prog X.w X.K X.mg X.base (L2.CX X.prog X.w) k f fd ps (spT X.K X.mg sg g))
    (hr : Room k X.A) (hb : Binds X.K fd ps []) (ha : IX X W L Γh Γ (e :: es) cl ai Γ2)
    (hst : starEach (e :: es) X.env = (false, eval e X.env) :: starEach es X.env) (hpl : (backTo pos (starEach es X.env)).any (·.1) = false)
    (ht : eval (.Call (.Attribute (.Name y yp) nm apos) (e :: es) [] pos) X.env = (do
      let ov ← eval (.Name y yp) X.env
      standAt apos.atName
      let (fn, hd) ← holding [ov] (getMethod ov nm pl)
      callWith pos fn hd (backTo pos (starEach (e :: es) X.env)) (backToKw pos (keywordEach [] X.env))))
    (hf : AI.fitsL (.io i d :: ai) sg.pm = true) (io : ioOk Γ2 (.io i d :: ai) = true) (ro : sg.rmOk = true) (hh : HOut X L Γ2 Γh) :
    EX X W L Γh Γ (.Call (.Attribute (.Name y yp) nm apos) (e :: es) [] pos) (cMethI cn nm g i d ai cl) sg.rm Γ2 := by
  refine PE.imp (pe_methT (E := WE W) (pe_var hN hv hd hcd) cc hm Fn hr hb (fun σ => passAt tk σ) ha hst hpl ht) fun σ H Q h => ?_
  obtain ⟨B, fx, F, Os, τ, S, p⟩ := h
  rcases S.slot i _ hmd with ⟨z, _⟩ | ⟨v, t, e1, e2, r⟩
  · cases z
  · unfold cMethI at p
    have p' : Post X.K X.mg W B fx L Γh Γ2 sg.rm σ Q F H ((if oIns cn nm t = true then M.bind cl fun ts => cFin g (.io i d :: ai) (.non :: ts) else fun _ => .stuck) τ) := by
      rwa [M.bind_ok (cVar_run e2)] at p
    by_cases hi : oIns cn nm t = true
    · rw [if_pos hi] at p'
      obtain ⟨q, dx, kvs, h1, h2⟩ := oIns_at hc hi r.any
      refine ⟨v, e1, q, dx, kvs, h1, h2, B, fx, F, Os, τ, S, postI_bind p' fun ts τ2 F2 Os2 vs H2 s2 S2 hv p2 => ?_⟩
      exact call_end (ai := .io i d :: ai) (ts := .non :: ts) S2 hf io ro hh ⟨v, vs, .non, ts, rfl, rfl, e1, hv⟩ p2
    · rw [if_neg hi] at p'
      exact p'.elim
theorem ex_methI0 {i d : Nat} {y : Str} {yp : Pos} (tk : Takes X W) (hN : X.N[i]? = some y) (hv : Vis X.env.scope y) (hd : (y == ("__debug__" : Str)) = false) (hcd : (y == ("__classdict__" : Str)) = false) (hmd : Γ[i]? = some (.ow d))
    (hc : X.mg cn = some (.ref C)) (cc : Cls X.K C) (hm : Meth X.K C nm f) (Fn : FnOk X.prog X.w X.K X.mg X.base (L2.CX X.prog X.w) k f fd ps (spT X.K X.mg sg g))
    (hr : Room k X.A) (hb : Binds X.K fd ps [])
    (ht : eval (.Call (.Attribute (.Name y yp) nm apos) [] [] pos) X.env = (do
      let ov ← eval (.Name y yp) X.env
      standAt apos.atName
      let (fn, hd) ← holding [ov] (getMethod ov nm pl)
      callWith pos fn hd (backTo pos (starEach [] X.env)) (backToKw pos (keywordEach [] X.env))))
    (hf : AI.fitsL [.io i d] sg.pm = true) (io : ioOk Γ [.io i d] = true) (ro : sg.rmOk = true) (hh : HOut X L Γ Γh) :
    EX X W L Γh Γ (.Call (.Attribute (.Name y yp) nm apos) [] [] pos) (cMethI cn nm g i d [] cNil) sg.rm Γ := by
  refine PE.imp (pe_methT0 (E := WE W) (pe_var hN hv hd hcd) cc hm Fn hr hb (fun σ => passAt tk σ) ht) fun σ H Q h => ?_
  obtain ⟨B, fx, F, Os, τ, S, p⟩ := h
  rcases S.slot i _ hmd with ⟨z, _⟩ | ⟨v, t, e1, e2, r⟩
  · cases z
  · unfold cMethI at p
    have p' : Post X.K X.mg W B fx L Γh Γ sg.rm σ Q F H ((if oIns cn nm t = true then M.bind cNil fun ts => cFin g (.io i d :: []) (.non :: ts) else fun _ => .stuck) τ) := by
      rwa [M.bind_ok (cVar_run e2)] at p
    by_cases hi : oIns cn nm t = true
    · rw [if_pos hi] at p'
      obtain ⟨q, dx, kvs, h1, h2⟩ := oIns_at hc hi r.any
      exact ⟨v, e1, q, dx, kvs, h1, h2, call_end (ai := [.io i d]) (ts := [.non]) S hf io ro hh ⟨v, [], .non, [], rfl, rfl, e1, rfl, rfl⟩ p'⟩
    · rw [if_neg hi] at p'
      exact p'.elim

/-- a step under which the slots stand -/
theorem sr_keep {F F' : Addr → Prop} {Os : Nat → List Addr} {H H' : Hp} {σ : L2.St} {τ : List (Option T)} {Wn O : List Addr} (S : SR X.K X.mg B fx L Γ F Os H σ τ) (hW : ∀ a ∈ Wn, ¬ B L a ∧ ∀ i, a ∉ Os i) (s : Stp (Rest H Wn) F H F' H') (ap : Apart (Rest H Wn) F' H' O) :
    SR X.K X.mg B fx L Γ F' Os H' σ τ ∧ Xt (B L) F' H' Os O ∧ Stp (B L) F H F' H' := by
  have hB : ∀ a, B L a → Rest H Wn a := fun a h => ⟨S.trB a h, fun z => (hW a z).1 h⟩
  have hO : ∀ i a, a ∈ Os i → Rest H Wn a := fun i a h => ⟨(S.own i a h).2.2, fun z => (hW a z).2 i h⟩
  have s' := s.less hB
  refine ⟨S.step s' fun i a ha => ⟨s.at_ a (.inr (hO i a ha)), fun z => (s.gr a z).elim (S.own i a ha).1 fun z => z (hO i a ha)⟩, ⟨ap.nd, fun a ha => ⟨(ap.own a ha).1, fun b => (ap.own a ha).2.1 (hB a b), (ap.own a ha).2.2⟩, fun a ha i hi => (ap.own a ha).2.1 (hO i a hi)⟩, s'⟩
/-- .. the receiver a new object -/
theorem ex_methT {d : Nat} (tk : Takes X W) (ho : EX X W L Γh Γ o co (.ow d) Γ1) (hc : X.mg cn = some (.ref C)) (cc : Cls X.K C) (hm : Meth X.K C nm f) (Fn : FnOk X.prog X.w X.K X.mg X.base (L2.CX X.prog X.w) k f fd ps (spT X.K X.mg sg g))
    (hr : Room k X.A) (hb : Binds X.K fd ps [])
    (ht : eval (.Call (.Attribute o nm apos) [] [] pos) X.env = (do
      let ov ← eval o X.env
      standAt apos.atName
      let (fn, hd) ← holding [ov] (getMethod ov nm pl)
      callWith pos fn hd (backTo pos (starEach [] X.env)) (backToKw pos (keywordEach [] X.env))))
    (hf : sg.pm = [.io d]) (ro : sg.rmOk = true) (hh : HOut X L Γ1 Γh) :
    EX X W L Γh Γ (.Call (.Attribute o nm apos) [] [] pos) (cMethT cn nm g co) sg.rm Γ1 := by
  refine PE.imp (pe_methT0 (E := WE W) ho cc hm Fn hr hb (fun σ => passAt tk σ) ht) fun σ H Q h => ?_
  obtain ⟨B, fx, F, Os, τ, S, p⟩ := h
  refine ⟨B, fx, F, Os, τ, S, post_bind p fun t τ' F' Os' O v H' s S' x v' p' => ?_⟩
  by_cases hi : oIns cn nm t = true
  · rw [if_pos hi] at p'
    obtain ⟨q, dx, kvs, h1, h2⟩ := oIns_at hc hi v'.any
    refine ⟨q, dx, kvs, h1, h2, F', [O], [t], S'.trF, ?_, by simpa using x.nd, fun a ha => ?_, ?_⟩
    · rw [hf]
      exact ⟨O, [], v, [], t, [], rfl, rfl, rfl, v', rfl, rfl, rfl⟩
    · have ha' : a ∈ O := by simpa using ha
      exact ⟨(x.own a ha').1, (x.own a ha').2.2⟩
    · have eW : ([O] : List (List Addr)).flatten = O := by simp
      rw [eW]
      have hW : ∀ a ∈ O, ¬ B L a ∧ ∀ i, a ∉ Os' i := fun a ha => ⟨(x.own a ha).2.1, x.dj a ha⟩
      cases hg : g [t] with
      | ok t2 outs =>
        rw [hg] at p'
        intro F2 H2 Os2 O2 v2 s2 ou r ap
        have ap' : Apart (Rest H' O) F2 H2 O2 := ⟨(List.nodup_append.mp ap.nd).1, fun a ha => ap.own a (List.mem_append_left _ ha)⟩
        obtain ⟨S2, x2, s2'⟩ := sr_keep S' hW s2 ap'
        exact p' F2 Os' O2 v2 H2 s2' S2 x2 (vr_out r ro)
      | exn c fs xs outs =>
        rw [hg] at p'
        intro F2 H2 Os2 cls d2 s2 ou r ap
        obtain ⟨S2, x2, s2'⟩ := sr_keep (O := []) S' hW s2 ⟨List.nodup_nil, by simp⟩
        obtain ⟨F3, Os3, s3, S3⟩ := hh B fx F2 _ H2 σ _ S2
        exact p' F3 Os3 H2 cls d2 (s2'.trans s3) S3 r
      | stuck => rw [hg] at p'; exact p'.elim
  · rw [if_neg hi] at p'
    exact p'.elim

/-! ### a new instance -/
def tMakeT (C : Addr) (sp : Sp) (E : L2.St → XK) (t : TA) : TE := fun σ H Q => t σ H fun vs H1 => ∀ q dx, H1 q = none → H1 dx = none → dx ≠ q → sp (.ref q :: vs) (upd (upd H1 dx (.own q)) q (.ins C dx [])) (fun v H2 => v = .non ∧ Q (.ref q) H2) (E σ)
theorem run_makeT {sp : Sp} {E : L2.St → XK} {pins : List (Addr × Obj)} {σ : L2.St} {H : Hp} {s : Shared} {Q : VK} {us : List Value} {vs : List V} (Mc : Mk X.K C f) (Fn : FnOk X.prog X.w X.K X.mg X.base (L2.CX X.prog X.w) k f fd ps sp) (hr : Room (k + 1) X.A) (hb : Binds X.K fd ps [])
    (hx : PassesAt (L2.CX X.prog X.w) X σ (E σ)) (I : Inv X pins σ H s) (r : Vals vs us)
    (h : ∀ q dx, H q = none → H dx = none → dx ≠ q → sp (.ref q :: vs) (upd (upd H dx (.own q)) q (.ins C dx [])) (fun v H2 => v = .non ∧ Q (.ref q) H2) (E σ)) : wpAny (model X.prog X.w) X.A (call (.ref C) us) (EP X pins σ Q) X.xe s := by
  have n := s.heap.objs.size
  have h' := h (s.heap.objs.size + 1) s.heap.objs.size (I.hok.fresh (Nat.le_succ _)) (I.hok.fresh (Nat.le_refl _)) (Nat.ne_of_lt (Nat.lt_succ_self _))
  have J := Inv.made (C := C) I
  have rr : Vals (V.ref (s.heap.objs.size + 1) :: vs) (Value.ref (s.heap.objs.size + 1) :: us) := .cons rfl r
  have ln : (Value.ref (s.heap.objs.size + 1) :: us).length = ps.length := by
    rw [← rr.length]
    exact Fn.len _ _ _ _ h'
  have bb := hb _ (Value.ref (s.heap.objs.size + 1) :: us) J.kIn (by rw [List.append_nil]; exact ln)
  rw [List.append_nil] at bb
  refine wpAny_call (make_map (f := f) I.kIn Mc.makes Mc.init (beq_iff_eq.mp Mc.fn) ?_)
  refine codeAny_mono (Fn.run _ X.stack _ _ ⟨Value.ref (s.heap.objs.size + 1) :: us, []⟩ _ _ _ (E σ) (hr.make C us []) (J.env0.make C us []) bb rr h') fun w s' hq => ?_
  cases w with
  | error e => exact hx pins _ _ e s' J hq
  | ok fl =>
    cases fl with
    | ret u =>
      obtain ⟨v, H2, J2, rv, ev, q⟩ := J.after hq
      subst ev
      exact ⟨rv, ⟨V.ref (s.heap.objs.size + 1), H2, J2, rfl, q⟩⟩
    | next => exact hq.elim
    | brk => exact hq.elim
    | cont => exact hq.elim
theorem pe_makeT {sp : Sp} {E : L2.St → XK} {t : TA} (Mc : Mk X.K C f) (Fn : FnOk X.prog X.w X.K X.mg X.base (L2.CX X.prog X.w) k f fd ps sp) (hr : Room (k + 1) X.A) (hg : Gl X x) (hm : X.mg x = some (.ref C)) (hb : Binds X.K fd ps [])
    (hx : ∀ σ, PassesAt (L2.CX X.prog X.w) X σ (E σ)) (ha : PA X (e :: es) t) (hdb : (x == ("__debug__" : Str)) = false) (he : starEach (e :: es) X.env = (false, eval e X.env) :: starEach es X.env) (hpl : (backTo pos (starEach es X.env)).any (·.1) = false) :
    PE X (.Call (.Name x p) (e :: es) [] pos) (tMakeT C sp E t) := by
  refine ⟨fun pins s σ H Q I h => ?_⟩
  refine wpAny_Call_Name_kw (ld_glob I hg hm ?_ hdb)
  have args := ha.run pos pins s σ H _ I h
  refine PySem.W.callWith_K (h₀ := X.base) I.ok.mod.kin Mc.kp (thn args fun us s1 hq => ?_) he hpl
  obtain ⟨vs, H1, I1, r, q⟩ := hq
  exact ⟨I1.kIn, run_makeT Mc Fn hr hb (hx σ) I1 r q⟩
/-- no slot is handed out -/
def noIo : List AI → Bool
  | [] => true
  | .e _ :: r => noIo r
  | _ => false
theorem noIo_os {Os : Nat → List Addr} : ∀ {ai : List AI}, noIo ai = true → (ioOs Os ai).flatten = [] ∧ AI.slots ai = [] ∧ ioOk Γ ai = true
  | [], _ => ⟨rfl, rfl, rfl⟩
  | .e m :: r, h => by
    have := noIo_os (Os := Os) (ai := r) h
    exact ⟨by simpa [ioOs] using this.1, this.2.1, this.2.2⟩
  | .io i d :: r, h => by cases h
theorem ex_make {d : Nat} {pm : List PM} (tk : Takes X W) (Mc : Mk X.K C f) (Fn : FnOk X.prog X.w X.K X.mg X.base (L2.CX X.prog X.w) k f fd ps (spT X.K X.mg sg g)) (hr : Room (k + 1) X.A) (hg : Gl X x) (hm : X.mg x = some (.ref C)) (hb : Binds X.K fd ps [])
    (ha : IX X W L Γh Γ (e :: es) cl ai Γ1) (hdb : (x == ("__debug__" : Str)) = false) (he : starEach (e :: es) X.env = (false, eval e X.env) :: starEach es X.env) (hpl : (backTo pos (starEach es X.env)).any (·.1) = false)
    (hs : sg.pm = .io (d + 1) :: pm) (hrm : sg.rm = .sc) (hf : AI.fitsL ai pm = true) (hn : noIo ai = true) (hh : HOut X L Γ1 Γh) :
    EX X W L Γh Γ (.Call (.Name x p) (e :: es) [] pos) (cMake x g ai cl) (.ow (d + 1)) Γ1 := by
  refine PE.imp (pe_makeT (E := WE W) Mc Fn hr hg hm hb (fun σ => passAt tk σ) ha hdb he hpl) fun σ H Q h => ?_
  obtain ⟨B, fx, F, Os, τ, S, p⟩ := h
  refine ⟨B, fx, F, Os, τ, S, postI_bind p fun ts τ1 F1 Os1 vs H1 s1 S1 hv p1 => ?_⟩
  intro q dx hq hdx hne
  have n : New F1 H1 F1 (upd (upd H1 dx (.own q)) q (.ins C dx [])) [q] := by
    refine ⟨fun a h => ?_, fun _ h => h, fun _ h => .inl h, fun a ha => ?_, by simp⟩
    · rw [upd_ne (fun e => h (by rw [e]; exact hq)), upd_ne (fun e => h (by rw [e]; exact hdx))]
    · have e : a = q := by simpa using ha
      subst e
      exact ⟨hq, fun z => S1.trF a z hq, by rw [upd_same]; simp⟩
  have S2 := n.sr S1
  have x2 := n.xt S1
  have s2 := n.stp (BL := B L) S1.trF S1.trB
  cases hfill : AI.fill τ1 ai ts with
  | none => rw [hfill] at p1; exact p1.elim
  | some args =>
    rw [hfill] at p1
    dsimp only at p1
    obtain ⟨z1, z2, z3⟩ := noIo_os (Γ := Γ1) (Os := Os1) hn
    have hv2 : VRI X.K X.mg B L σ F1 (upd (upd H1 dx (.own q)) q (.ins C dx [])) ai vs ts := hv.step S1.mono s2
    have rest : Rest (upd (upd H1 dx (.own q)) q (.ins C dx [])) ([q] :: ioOs Os1 ai).flatten = Rest (upd (upd H1 dx (.own q)) q (.ins C dx [])) [q] := by
      rw [List.flatten_cons, z1, List.append_nil]
    have hF : ∀ a, F1 a → Rest (upd (upd H1 dx (.own q)) q (.ins C dx [])) [q] a := fun a h => ⟨S2.trF a h, fun z => (n.own a z).2.1 h⟩
    have hB : ∀ a, B L a → Rest (upd (upd H1 dx (.own q)) q (.ins C dx [])) [q] a := fun a h => ⟨S2.trB a h, fun z => (x2.own a z).2.1 h⟩
    refine ⟨F1, [q] :: ioOs Os1 ai, .ins x [] [] :: args, S2.trF, ?_, ?_, ?_, ?_⟩
    · rw [rest, hs]
      exact ⟨[q], ioOs Os1 ai, .ref q, vs, _, args, rfl, rfl, rfl, ⟨q, C, dx, [], [], rfl, upd_same, hm, rfl, rfl, rfl, rfl⟩, args_of S2 _ hF hB hf z3 hv2 hfill⟩
    · rw [List.flatten_cons, z1, List.append_nil]; simp
    · rw [List.flatten_cons, z1, List.append_nil]
      exact fun a ha => ⟨(n.own a ha).2.1, (n.own a ha).2.2⟩
    · rw [rest]
      have hW : ∀ a ∈ [q], ¬ B L a ∧ ∀ i, a ∉ Os1 i := fun a ha => ⟨(x2.own a ha).2.1, x2.dj a ha⟩
      cases hgc : g (.ins x [] [] :: args) with
      | ok t2 outs =>
        rw [hgc] at p1
        intro F2 H2 Os2 O2 v2 s3 ou r ap
        rw [hs] at ou
        obtain ⟨O, Os3, v3, r3, t3, ts3, rfl, e3, rfl, q3, ou3⟩ := ou
        cases e3
        cases t2 with
        | non =>
          refine ⟨vr_non r, ?_⟩
          have ap' : Apart (Rest (upd (upd H1 dx (.own q)) q (.ins C dx [])) [q]) F2 H2 O := by
            have nd := (List.nodup_append.mp ap.nd).2.1
            rw [List.flatten_cons] at nd
            exact ⟨(List.nodup_append.mp nd).1, fun a ha => ap.own a (List.mem_append_right _ (by rw [List.flatten_cons]; exact List.mem_append_left _ ha))⟩
          obtain ⟨S4, x4, s4⟩ := sr_keep S2 hW s3 ap'
          exact p1 F2 Os1 O (.ref q) H2 (s2.trans s4) S4 x4 q3
        | _ => exact p1.elim
      | exn c fs xs outs =>
        rw [hgc] at p1
        intro F2 H2 Os2 cls d2 s3 ou r ap
        obtain ⟨S4, x4, s4⟩ := sr_keep (O := []) S2 hW s3 ⟨List.nodup_nil, by simp⟩
        obtain ⟨F3, Os3, s5, S5⟩ := hh B fx F2 _ H2 σ _ S4
        exact p1 F3 Os3 H2 cls d2 ((s2.trans s4).trans s5) S5 r
      | stuck => rw [hgc] at p1; exact p1.elim
end
end
end TL

/-! TL10: a slot lent for a while; statements -/
namespace TL
open PySem PySem.Spec PyProof.Rows L2

/-! ### lending -/
def lendB (B : Nat → Addr → Prop) (L : Nat) (O : List Addr) : Nat → Addr → Prop := fun l a => if l ≤ L then B l a else B L a ∨ a ∈ O
theorem lendB_le {B : Nat → Addr → Prop} {L : Nat} {O : List Addr} {l : Nat} (h : l ≤ L) : lendB B L O l = B l := by
  funext a
  unfold lendB
  rw [if_pos h]
theorem lendB_gt {B : Nat → Addr → Prop} {L : Nat} {O : List Addr} : lendB B L O (L + 1) = fun a => B L a ∨ a ∈ O := by
  funext a
  unfold lendB
  rw [if_neg (by omega)]
/-- behind the lending: what was borrowed at the upper level is forgotten -/
def backM (L : Nat) : Md → Md
  | .bk l d => if l ≤ L then .bk l d else if d = 0 then .fr else .un
  | .bo l => if l ≤ L then .bo l else .un
  | m => m
def backG (L z d : Nat) (Γ : List Md) : List Md := (Γ.map (backM L)).set z (.ow d)
section
variable {K : PySem.W.Frag} {mg : Str → Option Value} {B : Nat → Addr → Prop} {fx : Fx} {L : Lv} {Γ Γ1 : List Md} {F F1 : Addr → Prop} {Os Os1 : Nat → List Addr} {H H1 : Hp} {σ σ1 : L2.St} {τ τ1 : List (Option T)} {z d : Nat} {v : V} {t : T}
theorem vr_lend {m : Md} {O O' : List Addr} {w : V} {x : T} (hl : m.lv ≤ L) (h : VR K mg B F H m O w x) : VR K mg (lendB B L O') F H m O w x := by
  cases m with
  | un => exact h
  | sc => exact h
  | bk l d =>
    obtain ⟨e, O2, h1, h2⟩ := h
    exact ⟨e, O2, fun a ha => by rw [lendB_le (show l ≤ L from hl)]; exact h1 a ha, h2⟩
  | bo l =>
    obtain ⟨e, q⟩ := h
    exact ⟨e, by rw [lendB_le (show l ≤ L from hl)]; exact q⟩
  | ow d => exact h
theorem vr_unlend {m : Md} {O O' : List Addr} {w : V} {x : T} (hl : m.lv ≤ L) (h : VR K mg (lendB B L O') F H m O w x) : VR K mg B F H m O w x := by
  cases m with
  | un => exact h
  | sc => exact h
  | bk l d =>
    obtain ⟨e, O2, h1, h2⟩ := h
    exact ⟨e, O2, fun a ha => by have q := h1 a ha; rwa [lendB_le (show l ≤ L from hl)] at q, h2⟩
  | bo l =>
    obtain ⟨e, q⟩ := h
    refine ⟨e, ?_⟩
    rwa [lendB_le (show l ≤ L from hl)] at q
  | ow d => exact h
def Lv.up (L : Lv) (z : Nat) : Lv := ⟨L.n + 1, z :: L.z⟩
theorem lendB_up {B : Nat → Addr → Prop} {L : Lv} {O : List Addr} {z : Nat} : lendB B L O (L.up z).n = fun a => B L a ∨ a ∈ O := lendB_gt
theorem SR.lend (S : SR K mg B fx L Γ F Os H σ τ) (e : Γ[z]? = some (.ow d)) (hv : σ[z]? = some (some v)) (ht : τ[z]? = some (some t)) :
    SR K mg (lendB B L (Os z)) ⟨(z, v) :: fx.vs, (z, t) :: fx.ts⟩ (L.up z) (Γ.set z (.bk (L.n + 1) d)) F (fun i => if i = z then [] else Os i) H σ τ := by
  have hz : z < Γ.length := (List.getElem?_eq_some_iff.mp e).1
  refine ⟨by rw [List.length_set]; exact S.lσ, by rw [List.length_set]; exact S.lτ, fun i m em => ?_, fun i hi => ?_, fun m hm => ?_, fun i => ?_, fun i j a hi hj => ?_, fun i a ha => ?_, S.trF, fun a ha => ?_, fun l l' a h q => ?_, fun p hp => ?_, fun p hp => ?_, ⟨fun p hp => ?_, fun p hp => ?_⟩⟩
  · by_cases hi : i = z
    · subst hi
      rw [List.getElem?_set_self hz] at em
      cases em
      rw [if_pos rfl]
      rcases S.slot i _ e with ⟨q, _⟩ | ⟨v', t', e1, e2, r⟩
      · cases q
      · exact .inr ⟨v', t', e1, e2, rfl, Os i, fun a ha => by rw [lendB_gt]; exact .inr ha, r⟩
    · rw [List.getElem?_set_ne (Ne.symm hi)] at em
      rw [if_neg hi]
      rcases S.slot i m em with q | ⟨v', t', e1, e2, r⟩
      · exact .inl q
      · exact .inr ⟨v', t', e1, e2, vr_lend (S.lv m (List.mem_of_getElem? em)) r⟩
  · rw [List.length_set] at hi
    split
    · rfl
    · exact S.out i hi
  · rcases List.mem_or_eq_of_mem_set hm with q | q
    · exact Nat.le_succ_of_le (S.lv m q)
    · subst q; exact Nat.le_refl _
  · split
    · exact List.nodup_nil
    · exact S.nd i
  · split at hi
    · cases hi
    · split at hj
      · cases hj
      · exact S.dj i j a hi hj
  · split at ha
    · cases ha
    · rename_i hi
      refine ⟨(S.own i a ha).1, fun q => ?_, (S.own i a ha).2.2⟩
      rw [lendB_up] at q
      rcases q with q | q
      · exact (S.own i a ha).2.1 q
      · exact hi (S.dj i z a ha q)
  · rw [lendB_up] at ha
    rcases ha with q | q
    · exact S.trB a q
    · exact (S.own z a q).2.2
  · unfold lendB at q ⊢
    by_cases h1 : l ≤ L
    · rw [if_pos h1] at q
      by_cases h2 : l' ≤ L
      · rw [if_pos h2]; exact S.mono _ _ _ h q
      · rw [if_neg h2]; exact .inl (S.mono _ _ _ h1 q)
    · rw [if_neg h1] at q
      rw [if_neg (by omega)]
      exact q
  · rcases List.mem_cons.mp hp with q | q
    · subst q; exact hv
    · exact S.fix p q
  · rcases List.mem_cons.mp hp with q | q
    · subst q
      refine ⟨ht, fun m em => ?_⟩
      rw [List.getElem?_set_self hz] at em
      cases em
      rfl
    · refine ⟨(S.fixT p q).1, fun m em => ?_⟩
      by_cases hi : p.1 = z
      · rw [hi, List.getElem?_set_self hz] at em
        cases em
        rfl
      · rw [List.getElem?_set_ne (Ne.symm hi)] at em
        exact (S.fixT p q).2 m em
  · rcases List.mem_cons.mp hp with q | q
    · subst q; exact List.mem_cons_self
    · exact List.mem_cons_of_mem _ (S.fz.1 p q)
  · rcases List.mem_cons.mp hp with q | q
    · subst q; exact List.mem_cons_self
    · exact List.mem_cons_of_mem _ (S.fz.2 p q)
theorem backM_lv (L : Nat) (m : Md) : (backM L m).lv ≤ L := by
  cases m with
  | bk l d =>
    show (if l ≤ L then Md.bk l d else if d = 0 then Md.fr else Md.un).lv ≤ L
    split
    · assumption
    · split <;> exact Nat.zero_le _
  | bo l =>
    show (if l ≤ L then Md.bo l else Md.un).lv ≤ L
    split
    · assumption
    · exact Nat.zero_le _
  | _ => exact Nat.zero_le _
theorem vr_back {m : Md} {O O' : List Addr} {w : V} {x : T} (hb : backM L m ≠ .un) (h : VR K mg (lendB B L O') F H m O w x) : VR K mg B F H (backM L m) O w x := by
  cases m with
  | un => exact absurd rfl hb
  | sc => exact h
  | ow d => exact h
  | bk l d =>
    change (if l ≤ L then Md.bk l d else if d = 0 then Md.fr else Md.un) ≠ .un at hb
    show VR K mg B F H (if l ≤ L then Md.bk l d else if d = 0 then Md.fr else Md.un) O w x
    by_cases hl : l ≤ L
    · rw [if_pos hl]
      exact vr_unlend hl h
    · rw [if_neg hl] at hb ⊢
      by_cases hd : d = 0
      · rw [if_pos hd]
        subst hd
        obtain ⟨e, O2, _, q⟩ := h
        subst e
        exact VR.fr_of q.2
      · rw [if_neg hd] at hb
        exact absurd rfl hb
  | bo l =>
    change (if l ≤ L then Md.bo l else Md.un) ≠ .un at hb
    show VR K mg B F H (if l ≤ L then Md.bo l else Md.un) O w x
    by_cases hl : l ≤ L
    · rw [if_pos hl]
      exact vr_unlend hl h
    · rw [if_neg hl] at hb
      exact absurd rfl hb
/-- what was lent is had again -/
theorem SR.unlend (S : SR K mg B fx L Γ F Os H σ τ) (e : Γ[z]? = some (.ow d)) (hv : σ[z]? = some (some v)) (ht : τ[z]? = some (some t)) (s : Stp (lendB B L (Os z) (L.n + 1)) F H F1 H1)
    (S1 : SR K mg (lendB B L (Os z)) ⟨(z, v) :: fx.vs, (z, t) :: fx.ts⟩ (L.up z) Γ1 F1 Os1 H1 σ1 τ1) (hl : Γ1.length = Γ.length) :
    SR K mg B fx L (backG L z d Γ1) F1 (fun i => if i = z then Os z else Os1 i) H1 σ1 τ1 ∧ Stp (B L) F H F1 H1 := by
  have hz : z < Γ.length := (List.getElem?_eq_some_iff.mp e).1
  have len : (backG L z d Γ1).length = Γ1.length := by unfold backG; rw [List.length_set, List.length_map]
  have inB : ∀ a ∈ Os z, lendB B L (Os z) (L.n + 1) a := fun a ha => by rw [lendB_gt]; exact .inr ha
  have subB : ∀ a, B L a → lendB B L (Os z) (L.n + 1) a := fun a ha => by rw [lendB_gt]; exact .inl ha
  have fz := S1.fix (z, v) (by simp)
  have ftz := (S1.fixT (z, t) (by simp)).1
  have notO : ∀ i a, a ∈ Os1 i → a ∉ Os z := fun i a h q => (S1.own i a h).2.1 (inB a q)
  refine ⟨⟨by rw [len]; exact S1.lσ, by rw [len]; exact S1.lτ, fun i m em => ?_, fun i hi => ?_, fun m hm => ?_, fun i => ?_, fun i j a hi hj => ?_, fun i a ha => ?_, S1.trF, fun a ha => S1.trB a (subB a ha), S.mono, fun p hp => S1.fix p (List.mem_cons_of_mem _ hp), fun p hp => ⟨(S1.fixT p (List.mem_cons_of_mem _ hp)).1, fun m em => ?_⟩, S.fz⟩, s.less subB⟩
  · by_cases hi : i = z
    · subst hi
      have hz1 : i < (Γ1.map (backM L)).length := by rw [List.length_map, hl]; exact hz
      unfold backG at em
      rw [List.getElem?_set_self hz1] at em
      cases em
      rw [if_pos rfl]
      rcases S.slot i _ e with ⟨q, _⟩ | ⟨v', t', e1, e2, r⟩
      · cases q
      · rw [hv] at e1
        rw [ht] at e2
        cases e1
        cases e2
        exact .inr ⟨v, t, fz, ftz, Ow.mono r s.kpF s.fr fun a ha => s.at_ a (.inr (inB a ha))⟩
    · unfold backG at em
      rw [List.getElem?_set_ne (Ne.symm hi), List.getElem?_map] at em
      rw [if_neg hi]
      cases em1 : Γ1[i]? with
      | none => rw [em1] at em; cases em
      | some m1 =>
        rw [em1] at em
        have em : backM L m1 = m := by simpa using em
        subst em
        by_cases hu : backM L m1 = .un
        · refine .inl ⟨hu, ?_⟩
          rcases S1.slot i m1 em1 with ⟨q, q2⟩ | ⟨v', t', e1, e2, r⟩
          · exact q2
          · refine r.noO ?_
            cases m1 <;> first | rfl | (simp [backM] at hu)
        · rcases S1.slot i m1 em1 with ⟨q, q2⟩ | ⟨v', t', e1, e2, r⟩
          · subst q; exact absurd rfl hu
          · exact .inr ⟨v', t', e1, e2, vr_back hu r⟩
  · rw [len] at hi
    rw [if_neg (by omega)]
    exact S1.out i hi
  · unfold backG at hm
    rcases List.mem_or_eq_of_mem_set hm with q | q
    · obtain ⟨m1, _, rfl⟩ := List.mem_map.mp q
      exact backM_lv L m1
    · subst q; exact Nat.zero_le _
  · split
    · exact S.nd z
    · exact S1.nd i
  · split at hi
    · rename_i h1
      split at hj
      · rename_i h2; rw [h1, h2]
      · exact absurd hi (notO j a hj)
    · split at hj
      · exact absurd hj (notO i a hi)
      · exact S1.dj i j a hi hj
  · split at ha
    · have o := S.own z a ha
      exact ⟨fun q => (s.gr a q).elim o.1 fun n => n (inB a ha), o.2.1, s.tr a o.2.2⟩
    · have o := S1.own i a ha
      exact ⟨o.1, fun q => o.2.1 (subB a q), o.2.2⟩
  · by_cases hi : p.1 = z
    · exfalso
      have := (S.fixT p hp).2 _ (by rw [hi]; exact e)
      cases this
    · unfold backG at em
      rw [List.getElem?_set_ne (Ne.symm hi), List.getElem?_map] at em
      cases em1 : Γ1[p.1]? with
      | none => rw [em1] at em; cases em
      | some m1 =>
        rw [em1] at em
        have em : backM L m1 = m := by simpa using em
        subst em
        have q := (S1.fixT p (List.mem_cons_of_mem _ hp)).2 m1 em1
        cases m1 with
        | bk l d =>
          show (if l ≤ L then Md.bk l d else if d = 0 then Md.fr else Md.un).own = false
          split
          · rfl
          · split <;> rfl
        | bo l =>
          show (if l ≤ L then Md.bo l else Md.un).own = false
          split <;> rfl
        | un => rfl
        | sc => rfl
        | ow d => cases q
end

section
variable {X : Cx} {W : WX} {L : Lv} {Γh Γl Γ Γ1 Γ2 Γ' : List Md} {e a b : Expr} {es : List Expr} {c ca cb : M T} {tc : M Bool} {m : Md} {pos : Pos} {z d : Nat}
/-- may it leave the lending -/
def Md.below (L : Nat) : Md → Bool
  | .un => false
  | .bk l _ => decide (l ≤ L)
  | .bo l => decide (l ≤ L)
  | _ => true
/-- an expression under a slot that is lent -/
theorem ex_lend (h : EX X W (L.up z) Γl (Γ.set z (.bk (L.n + 1) d)) e c m Γ1) (ez : Γ[z]? = some (.ow d)) (hl : Γ1.length = Γ.length) (hm : m.below L = true) (hw : wkG Γh (backG L z d Γl) = true) (hlv : Γh.all (fun m => decide (m.lv ≤ L)) = true) (hll : Γl.length = Γ.length) :
    EX X W L Γh Γ e c m (backG L z d Γ1) := by
  refine PE.imp h fun σ H Q h => ?_
  obtain ⟨B, fx, F, Os, τ, S, p⟩ := h
  rcases S.slot z _ ez with ⟨q, _⟩ | ⟨v, t, e1, e2, r⟩
  · cases q
  · refine ⟨_, _, F, _, τ, S.lend ez e1 e2, ?_⟩
    cases hc : c τ with
    | ok x τ' =>
      rw [hc] at p
      intro F' Os' O w H' s S' xt r'
      obtain ⟨S2, s2⟩ := S.unlend ez e1 e2 s S' hl
      have hmu : m.lv ≤ L := by
        cases m with
        | bk l d => exact of_decide_eq_true hm
        | bo l => exact of_decide_eq_true hm
        | _ => exact Nat.zero_le _
      refine p F' _ O w H' s2 S2 ⟨xt.nd, fun a ha => ⟨(xt.own a ha).1, fun q => (xt.own a ha).2.1 (by rw [lendB_up]; exact .inl q), (xt.own a ha).2.2⟩, fun a ha i hi => ?_⟩ (vr_unlend hmu r')
      split at hi
      · exact (xt.own a ha).2.1 (by rw [lendB_up]; exact .inr hi)
      · exact xt.dj a ha i hi
    | exn c fs xs τ' =>
      rw [hc] at p
      intro F' Os' H' cls dd s S' r'
      obtain ⟨S2, s2⟩ := S.unlend ez e1 e2 s S' hll
      obtain ⟨F3, s3, S3⟩ := S2.weak hw hlv
      exact p F3 _ H' cls dd (s2.trans s3) S3 r'
    | stuck => rw [hc] at p; exact p.elim
theorem tx_lend (h : TX X W (L.up z) Γl (Γ.set z (.bk (L.n + 1) d)) e tc Γ1) (ez : Γ[z]? = some (.ow d)) (hl : Γ1.length = Γ.length) (hw : wkG Γh (backG L z d Γl) = true) (hlv : Γh.all (fun m => decide (m.lv ≤ L)) = true) (hll : Γl.length = Γ.length) :
    TX X W L Γh Γ e tc (backG L z d Γ1) := by
  refine PT.imp h fun σ H Q h => ?_
  obtain ⟨B, fx, F, Os, τ, S, p⟩ := h
  rcases S.slot z _ ez with ⟨q, _⟩ | ⟨v, t, e1, e2, r⟩
  · cases q
  · refine ⟨_, _, F, _, τ, S.lend ez e1 e2, ?_⟩
    cases hc : tc τ with
    | ok x τ' =>
      rw [hc] at p
      intro F' Os' H' s S'
      obtain ⟨S2, s2⟩ := S.unlend ez e1 e2 s S' hl
      exact p F' _ H' s2 S2
    | exn c fs xs τ' =>
      rw [hc] at p
      intro F' Os' H' cls dd s S' r'
      obtain ⟨S2, s2⟩ := S.unlend ez e1 e2 s S' hll
      obtain ⟨F3, s3, S3⟩ := S2.weak hw hlv
      exact p F3 _ H' cls dd (s2.trans s3) S3 r'
    | stuck => rw [hc] at p; exact p.elim
end
end TL

/-! TL11: statements -/
namespace TL
open PySem PySem.Spec PyProof.Rows L2

/-- how a statement ends -/
inductive Fl where
  | nx | rt (t : T) | bk | ct
/-- the static ends: the returned value's mode, the slots at return, break, continue -/
structure En where
  rm : Md
  r : List Md
  b : List Md
  c : List Md
section
variable (K : PySem.W.Frag) (mg : Str → Option Value) (W : WX) (B : Nat → Addr → Prop) (fx : Fx) (L : Lv) (Γh : List Md) (n : En)
def PostS (Γ' : List Md) (D : Ends) (F : Addr → Prop) (H : Hp) : Res Fl → Prop
  | .ok .nx τ' => ∀ F' Os' H' σ', Stp (B L) F H F' H' → SR K mg B fx L Γ' F' Os' H' σ' τ' → D.nx σ' H'
  | .ok (.rt t) τ' => ∀ F' Os' O v H' σ', Stp (B L) F H F' H' → SR K mg B fx L n.r F' Os' H' σ' τ' → Xt (B L) F' H' Os' O → VR K mg B F' H' n.rm O v t → D.rt v H'
  | .ok .bk τ' => ∀ F' Os' H' σ', Stp (B L) F H F' H' → SR K mg B fx L n.b F' Os' H' σ' τ' → D.bk σ' H'
  | .ok .ct τ' => ∀ F' Os' H' σ', Stp (B L) F H F' H' → SR K mg B fx L n.c F' Os' H' σ' τ' → D.ct σ' H'
  | .exn c fs xs τ' => ∀ σ', PostX K mg W B fx L Γh σ' F H c fs xs τ'
  | .stuck => False
def RS (Γ : List Md) (c : M Fl) (Γ' : List Md) : TS := fun D σ H =>
  ∃ B fx F Os τ, SR K mg B fx L Γ F Os H σ τ ∧ PostS K mg W B fx L Γh n Γ' D F H (c τ)
end
abbrev SX (X : Cx) (W : WX) (L : Lv) (Γh : List Md) (n : En) (Γ : List Md) (ss : List Stmt) (c : M Fl) (Γ' : List Md) : Prop := PSs X ss (RS X.K X.mg W L Γh n Γ c Γ')
abbrev SX1 (X : Cx) (W : WX) (L : Lv) (Γh : List Md) (n : En) (Γ : List Md) (s : Stmt) (c : M Fl) (Γ' : List Md) : Prop := PS X s (RS X.K X.mg W L Γh n Γ c Γ')
theorem PS.imp {X : Cx} {st : Stmt} {t t' : TS} (h : PS X st t) (i : ∀ D σ H, t' D σ H → t D σ H) : PS X st t' := ⟨fun pins s σ H D I q => h.run pins s σ H D I (i _ _ _ q)⟩
theorem PSs.imp {X : Cx} {st : List Stmt} {t t' : TS} (h : PSs X st t) (i : ∀ D σ H, t' D σ H → t D σ H) : PSs X st t' := ⟨fun pins s σ H D I q => h.run pins s σ H D I (i _ _ _ q)⟩

section
variable {X : Cx} {W : WX} {B : Nat → Addr → Prop} {fx : Fx} {L : Lv} {Γh Γ Γ1 Γ2 Γ3 Γ' : List Md} {n : En} {e a b : Expr} {es : List Expr} {ca cb : M T} {tc : M Bool} {m : Md} {pos : Pos} {s1 : Stmt} {rest ss ss' : List Stmt} {c c1 c2 : M Fl} {D : Ends}

theorem postS_later {K : PySem.W.Frag} {mg : Str → Option Value} {F F1 : Addr → Prop} {H H1 : Hp} {r : Res Fl} (p : PostS K mg W B fx L Γh n Γ' D F H r) (s : Stp (B L) F H F1 H1) : PostS K mg W B fx L Γh n Γ' D F1 H1 r := by
  cases r with
  | ok f τ' =>
    cases f with
    | nx => exact fun F' Os' H' σ' s' S => p F' Os' H' σ' (s.trans s') S
    | rt t => exact fun F' Os' O v H' σ' s' S x r => p F' Os' O v H' σ' (s.trans s') S x r
    | bk => exact fun F' Os' H' σ' s' S => p F' Os' H' σ' (s.trans s') S
    | ct => exact fun F' Os' H' σ' s' S => p F' Os' H' σ' (s.trans s') S
  | exn c fs xs τ' => exact fun σ' => PostX.later (p σ') s
  | stuck => exact p

/-- an expression, then what follows -/
theorem postS_bind {K : PySem.W.Frag} {mg : Str → Option Value} {σ : L2.St} {Q' : VK} {F : Addr → Prop} {H : Hp} {f : T → M Fl} {τ : List (Option T)}
    (p : PostS K mg W B fx L Γh n Γ' D F H (M.bind ca f τ))
    (k : ∀ t τ' F' Os' O v H', Stp (B L) F H F' H' → SR K mg B fx L Γ1 F' Os' H' σ τ' → Xt (B L) F' H' Os' O → VR K mg B F' H' m O v t → PostS K mg W B fx L Γh n Γ' D F' H' (f t τ') → Q' v H') :
    Post K mg W B fx L Γh Γ1 m σ Q' F H (ca τ) := by
  unfold M.bind at p
  cases h : ca τ with
  | ok t τ' =>
    rw [h] at p
    exact fun F' Os' O v H' s S x r => k t τ' F' Os' O v H' s S x r (postS_later (show PostS K mg W B fx L Γh n Γ' D F H (f t τ') from p) s)
  | exn c fs xs τ' => rw [h] at p; exact p σ
  | stuck => rw [h] at p; exact p.elim
theorem postS_bindT {K : PySem.W.Frag} {mg : Str → Option Value} {σ : L2.St} {Q' : Bool → Hp → Prop} {F : Addr → Prop} {H : Hp} {f : Bool → M Fl} {τ : List (Option T)}
    (p : PostS K mg W B fx L Γh n Γ' D F H (M.bind tc f τ))
    (k : ∀ t τ' F' Os' H', Stp (B L) F H F' H' → SR K mg B fx L Γ1 F' Os' H' σ τ' → PostS K mg W B fx L Γh n Γ' D F' H' (f t τ') → Q' t H') :
    PostT K mg W B fx L Γh Γ1 σ Q' F H (tc τ) := by
  unfold M.bind at p
  cases h : tc τ with
  | ok t τ' =>
    rw [h] at p
    exact fun F' Os' H' s S => k t τ' F' Os' H' s S (postS_later (show PostS K mg W B fx L Γh n Γ' D F H (f t τ') from p) s)
  | exn c fs xs τ' => rw [h] at p; exact p σ
  | stuck => rw [h] at p; exact p.elim
theorem postS_bindA {K : PySem.W.Frag} {mg : Str → Option Value} {σ : L2.St} {Q' : List V → Hp → Prop} {F : Addr → Prop} {H : Hp} {cl : M (List T)} {ms : List Md} {f : List T → M Fl} {τ : List (Option T)}
    (p : PostS K mg W B fx L Γh n Γ' D F H (M.bind cl f τ))
    (k : ∀ t τ' F' Os' vs H', Stp (B L) F H F' H' → SR K mg B fx L Γ1 F' Os' H' σ τ' → VRL K mg B L F' H' ms vs t → PostS K mg W B fx L Γh n Γ' D F' H' (f t τ') → Q' vs H') :
    PostA K mg W B fx L Γh Γ1 ms σ Q' F H (cl τ) := by
  unfold M.bind at p
  cases h : cl τ with
  | ok t τ' =>
    rw [h] at p
    exact fun F' Os' vs H' s S r => k t τ' F' Os' vs H' s S r (postS_later (show PostS K mg W B fx L Γh n Γ' D F H (f t τ') from p) s)
  | exn c fs xs τ' => rw [h] at p; exact p σ
  | stuck => rw [h] at p; exact p.elim

/-! ### blocks -/
def cNx : M Fl := M.pure .nx
def cSeq (a b : M Fl) : M Fl := M.bind a fun f => match f with
  | .nx => b
  | f => M.pure f
theorem sx_nil : SX X W L Γh n Γ [] cNx Γ := by
  refine PSs.imp pss_nil fun D σ H h => ?_
  obtain ⟨B, fx, F, Os, τ, S, p⟩ := h
  exact p F Os H σ Stp.refl S
theorem sx_cons (h1 : SX1 X W L Γh n Γ s1 c1 Γ1) (h2 : SX X W L Γh n Γ1 rest c2 Γ2) : SX X W L Γh n Γ (s1 :: rest) (cSeq c1 c2) Γ2 := by
  refine PSs.imp (pss_cons h1 h2) fun D σ H h => ?_
  obtain ⟨B, fx, F, Os, τ, S, p⟩ := h
  refine ⟨B, fx, F, Os, τ, S, ?_⟩
  unfold cSeq M.bind at p
  cases hc : c1 τ with
  | ok f τ' =>
    rw [hc] at p
    cases f with
    | nx => exact fun F' Os' H' σ' s S' => ⟨B, fx, F', Os', τ', S', postS_later (show PostS X.K X.mg W B fx L Γh n Γ2 D F H (c2 τ') from p) s⟩
    | rt t => exact p
    | bk => exact p
    | ct => exact p
  | exn c fs xs τ' => rw [hc] at p; exact p
  | stuck => rw [hc] at p; exact p.elim
theorem sx_one (h1 : SX1 X W L Γh n Γ s1 c1 Γ1) : SX X W L Γh n Γ [s1] c1 Γ1 := pss_one h1
/-- the slots' modes weakened behind -/
theorem sx_weak (h : SX X W L Γh n Γ ss c Γ1) (w : wkG Γ' Γ1 = true) (lv : Γ'.all (fun m => decide (m.lv ≤ L)) = true) : SX X W L Γh n Γ ss c Γ' := by
  refine PSs.imp h fun D σ H h => ?_
  obtain ⟨B, fx, F, Os, τ, S, p⟩ := h
  refine ⟨B, fx, F, Os, τ, S, ?_⟩
  cases hc : c τ with
  | ok f τ' =>
    rw [hc] at p
    cases f with
    | nx =>
      intro F' Os' H' σ' s S'
      obtain ⟨F2, s2, S2⟩ := S'.weak w lv
      exact p F2 _ H' σ' (s.trans s2) S2
    | rt t => exact p
    | bk => exact p
    | ct => exact p
  | exn c fs xs τ' => rw [hc] at p; exact p
  | stuck => rw [hc] at p; exact p.elim
theorem sx1_weak (h : SX1 X W L Γh n Γ s1 c Γ1) (w : wkG Γ' Γ1 = true) (lv : Γ'.all (fun m => decide (m.lv ≤ L)) = true) : SX1 X W L Γh n Γ s1 c Γ' := by
  refine PS.imp h fun D σ H h => ?_
  obtain ⟨B, fx, F, Os, τ, S, p⟩ := h
  refine ⟨B, fx, F, Os, τ, S, ?_⟩
  cases hc : c τ with
  | ok f τ' =>
    rw [hc] at p
    cases f with
    | nx =>
      intro F' Os' H' σ' s S'
      obtain ⟨F2, s2, S2⟩ := S'.weak w lv
      exact p F2 _ H' σ' (s.trans s2) S2
    | rt t => exact p
    | bk => exact p
    | ct => exact p
  | exn c fs xs τ' => rw [hc] at p; exact p
  | stuck => rw [hc] at p; exact p.elim
/-- .. ahead -/
theorem sx_pre (h : SX X W L Γh n Γ1 ss c Γ') (w : wkG Γ1 Γ = true) (lv : Γ1.all (fun m => decide (m.lv ≤ L)) = true) : SX X W L Γh n Γ ss c Γ' := by
  refine PSs.imp h fun D σ H h => ?_
  obtain ⟨B, fx, F, Os, τ, S, p⟩ := h
  obtain ⟨F2, s2, S2⟩ := S.weak w lv
  exact ⟨B, fx, F2, _, τ, S2, postS_later p s2⟩
theorem sx1_pre (h : SX1 X W L Γh n Γ1 s1 c Γ') (w : wkG Γ1 Γ = true) (lv : Γ1.all (fun m => decide (m.lv ≤ L)) = true) : SX1 X W L Γh n Γ s1 c Γ' := by
  refine PS.imp h fun D σ H h => ?_
  obtain ⟨B, fx, F, Os, τ, S, p⟩ := h
  obtain ⟨F2, s2, S2⟩ := S.weak w lv
  exact ⟨B, fx, F2, _, τ, S2, postS_later p s2⟩
theorem ex_pre (h : EX X W L Γh Γ1 e ca m Γ') (w : wkG Γ1 Γ = true) (lv : Γ1.all (fun m => decide (m.lv ≤ L)) = true) : EX X W L Γh Γ e ca m Γ' := by
  refine PE.imp h fun σ H Q h => ?_
  obtain ⟨B, fx, F, Os, τ, S, p⟩ := h
  obtain ⟨F2, s2, S2⟩ := S.weak w lv
  exact ⟨B, fx, F2, _, τ, S2, post_later p s2⟩

/-! ### plain statements -/
theorem s_pass : SX1 X W L Γh n Γ (.Pass pos) cNx Γ := by
  refine PS.imp ps_pass fun D σ H h => ?_
  obtain ⟨B, fx, F, Os, τ, S, p⟩ := h
  exact p F Os H σ Stp.refl S
theorem s_doc {x j pos'} : SX1 X W L Γh n Γ (.Expr (.Constant (.str x) j pos) pos') cNx Γ := by
  refine PS.imp ps_doc fun D σ H h => ?_
  obtain ⟨B, fx, F, Os, τ, S, p⟩ := h
  exact p F Os H σ Stp.refl S
def cBk : M Fl := M.pure .bk
def cCt : M Fl := M.pure .ct
/-- what a jump finds: the slots, weaker -/
theorem s_break (w : wkG n.b Γ = true) (lv : n.b.all (fun m => decide (m.lv ≤ L)) = true) : SX1 X W L Γh n Γ (.Break pos) cBk Γ' := by
  refine PS.imp ps_break fun D σ H h => ?_
  obtain ⟨B, fx, F, Os, τ, S, p⟩ := h
  obtain ⟨F2, s2, S2⟩ := S.weak w lv
  exact p F2 _ H σ s2 S2
theorem s_continue (w : wkG n.c Γ = true) (lv : n.c.all (fun m => decide (m.lv ≤ L)) = true) : SX1 X W L Γh n Γ (.Continue pos) cCt Γ' := by
  refine PS.imp ps_continue fun D σ H h => ?_
  obtain ⟨B, fx, F, Os, τ, S, p⟩ := h
  obtain ⟨F2, s2, S2⟩ := S.weak w lv
  exact p F2 _ H σ s2 S2
def cDrop (c : M T) : M Fl := M.bind c fun _ => M.pure .nx
theorem s_expr (he : EX X W L Γh Γ e ca m Γ1) (hs : swapsWith e none pos.line X.env = pure false) : SX1 X W L Γh n Γ (.Expr e pos) (cDrop ca) Γ1 := by
  refine PS.imp (ps_expr he hs) fun D σ H h => ?_
  obtain ⟨B, fx, F, Os, τ, S, p⟩ := h
  exact ⟨B, fx, F, Os, τ, S, postS_bind p fun t τ' F' Os' O v H' s S' x r p' => p' F' Os' H' σ Stp.refl S'⟩
def cRet (c : M T) : M Fl := M.bind c fun t => M.pure (.rt t)
theorem s_ret (he : EX X W L Γh Γ e ca m Γ1) (hm : n.rm = m) (w : wkG n.r Γ1 = true) (lv : n.r.all (fun m => decide (m.lv ≤ L)) = true) (ml : m.lv ≤ L) : SX1 X W L Γh n Γ (.Return (some e) pos) (cRet ca) Γ' := by
  refine PS.imp (ps_ret he) fun D σ H h => ?_
  obtain ⟨B, fx, F, Os, τ, S, p⟩ := h
  refine ⟨B, fx, F, Os, τ, S, postS_bind p fun t τ' F' Os' O v H' s S' x r p' => ?_⟩
  obtain ⟨F2, s2, S2, fr⟩ : ∃ F2, Stp (B L) F' H' F2 H' ∧ SR X.K X.mg B fx L n.r F2 (fun i => if kept n.r i = true then Os' i else []) H' σ τ' ∧ ∀ a, F2 a → F' a ∨ ∃ i, a ∈ Os' i := S'.weakF w lv
  refine p' F2 _ O v H' σ s2 S2 ⟨x.nd, fun a ha => ⟨fun q => ?_, (x.own a ha).2⟩, fun a ha i hi => ?_⟩ (by rw [hm]; exact r.step S'.mono s2 ml fun _ _ => rfl)
  · rcases fr a q with q | ⟨i, q⟩
    · exact (x.own a ha).1 q
    · exact x.dj a ha i q
  · split at hi
    · exact x.dj a ha i hi
    · cases hi
def cRetN : M Fl := M.pure (.rt .non)
theorem vr_nonM {K : PySem.W.Frag} {mg : Str → Option Value} {F : Addr → Prop} {H : Hp} {m : Md} (hm : m ≠ .un) : VR K mg B F H m [] .non .non := by
  cases m with
  | un => exact absurd rfl hm
  | sc => exact VR.sc_of rfl rfl
  | bk l d => exact ⟨rfl, [], by simp, Ow.of_imm (P := F) d rfl rfl⟩
  | bo l => exact ⟨rfl, rfl⟩
  | ow d => exact Ow.of_imm (P := F) d rfl rfl
theorem s_retN (hm : n.rm ≠ .un) (w : wkG n.r Γ = true) (lv : n.r.all (fun m => decide (m.lv ≤ L)) = true) : SX1 X W L Γh n Γ (.Return none pos) cRetN Γ' := by
  refine PS.imp ps_retN fun D σ H h => ?_
  obtain ⟨B, fx, F, Os, τ, S, p⟩ := h
  obtain ⟨F2, s2, S2⟩ := S.weak w lv
  exact p F2 _ [] .non H σ s2 S2 Xt.nil (vr_nonM hm)
def cIfS (c : M Bool) (a b : M Fl) : M Fl := M.bind c fun k => if k = true then a else b
theorem s_if {p q : List Stmt} (hc : TX X W L Γh Γ e tc Γ1) (ha : SX X W L Γh n Γ1 p c1 Γ2) (hb : SX X W L Γh n Γ1 q c2 Γ2) : SX1 X W L Γh n Γ (.If e p q pos) (cIfS tc c1 c2) Γ2 := by
  refine PS.imp (ps_if hc ha hb) fun D σ H h => ?_
  obtain ⟨B, fx, F, Os, τ, S, p⟩ := h
  refine ⟨B, fx, F, Os, τ, S, postS_bindT p fun k τ' F' Os' H' s S' p' => ?_⟩
  cases k with
  | true =>
    rw [if_pos rfl] at p' ⊢
    exact ⟨B, fx, F', Os', τ', S', p'⟩
  | false =>
    rw [if_neg Bool.false_ne_true] at p' ⊢
    exact ⟨B, fx, F', Os', τ', S', p'⟩

/-! ### a name is set -/
def cSet (i : Nat) (c : M T) : M Fl := M.bind c fun t τ => .ok .nx (τ.set i (some t))
theorem SR.put {F : Addr → Prop} {Os : Nat → List Addr} {H : Hp} {σ : L2.St} {τ : List (Option T)} {i : Nat} {O : List Addr} {v : V} {t : T} (S : SR X.K X.mg B fx L Γ F Os H σ τ) (x : Xt (B L) F H Os O) (r : VR X.K X.mg B F H m O v t) (hi : i < Γ.length) (hz : L.z.contains i = false) (ml : m.lv ≤ L) :
    SR X.K X.mg B fx L (Γ.set i m) F (fun j => if j = i then O else Os j) H (σ.set i (some v)) (τ.set i (some t)) := by
  have nz : i ∉ L.z := fun z => by
    rw [← List.contains_iff_mem] at z
    rw [z] at hz
    cases hz
  refine ⟨by rw [List.length_set, List.length_set]; exact S.lσ, by rw [List.length_set, List.length_set]; exact S.lτ, fun j m' e => ?_, fun j hj => ?_, fun m' hm => ?_, fun j => ?_, fun j k a hj hk => ?_, fun j a ha => ?_, S.trF, S.trB, S.mono, fun p hp => ?_, fun p hp => ?_, S.fz⟩
  · by_cases hj : j = i
    · subst hj
      rw [List.getElem?_set_self hi] at e
      cases e
      rw [if_pos rfl]
      exact .inr ⟨v, t, List.getElem?_set_self (by rw [S.lσ]; exact hi), List.getElem?_set_self (by rw [S.lτ]; exact hi), r⟩
    · rw [List.getElem?_set_ne (Ne.symm hj)] at e
      rw [if_neg hj, List.getElem?_set_ne (Ne.symm hj), List.getElem?_set_ne (Ne.symm hj)]
      exact S.slot j m' e
  · rw [List.length_set] at hj
    rw [if_neg (by omega)]
    exact S.out j hj
  · rcases List.mem_or_eq_of_mem_set hm with q | q
    · exact S.lv m' q
    · subst q; exact ml
  · split
    · exact x.nd
    · exact S.nd j
  · split at hj
    · rename_i h1
      split at hk
      · rename_i h2; rw [h1, h2]
      · exact absurd hk (x.dj a hj k)
    · split at hk
      · exact absurd hj (x.dj a hk j)
      · exact S.dj j k a hj hk
  · split at ha
    · exact x.own a ha
    · exact S.own j a ha
  · rw [List.getElem?_set_ne (fun z => nz (by rw [z]; exact S.fz.1 p hp))]
    exact S.fix p hp
  · have hne : i ≠ p.1 := fun z => nz (by rw [z]; exact S.fz.2 p hp)
    rw [List.getElem?_set_ne hne, List.getElem?_set_ne hne]
    exact S.fixT p hp
theorem s_set {i : Nat} {x : Str} {pos' : Pos} (hN : X.N.Nodup) (hi : X.N[i]? = some x) (hx : Loc X.env.scope x) (he : EX X W L Γh Γ e ca m Γ1) (hs : swapsWith e (some (.Name x pos')) pos.line X.env = pure false)
    (hf : X.fn x = true ∨ X.env.scope.names.lookup x = some .local) (hl : i < Γ1.length) (hz : L.z.contains i = false) (ml : m.lv ≤ L) :
    SX1 X W L Γh n Γ (.Assign [.Name x pos'] e pos) (cSet i ca) (Γ1.set i m) := by
  refine PS.imp (ps_set hN hi hx he hs hf) fun D σ H h => ?_
  obtain ⟨B, fx, F, Os, τ, S, p⟩ := h
  exact ⟨B, fx, F, Os, τ, S, postS_bind p fun t τ' F' Os' O v H' s S' xt r p' => p' F' _ H' _ Stp.refl (S'.put xt r hl hz ml)⟩
end
end TL

/-! TL12: targets, loops, name op= e, a, b = x, y -/
namespace TL
open PySem PySem.Spec PyProof.Rows L2

/-- a target: a slot, a tuple of targets that takes a tuple or a list -/
inductive Pa where
  | nm (i : Nat) | tup (ps : List Pa) | lst (ps : List Pa)
mutual
def Pa.set : Pa → T → List (Option T) → Option (List (Option T))
  | .nm i, t, τ => some (τ.set i (some t))
  | .tup ps, .tup xs, τ => Pa.setL ps xs τ
  | .lst ps, .lst xs, τ => Pa.setL ps xs τ
  | _, _, _ => none
def Pa.setL : List Pa → List T → List (Option T) → Option (List (Option T))
  | [], [], τ => some τ
  | p :: ps, x :: xs, τ => (p.set x τ).bind fun τ' => Pa.setL ps xs τ'
  | _, _, _ => none
end
mutual
def Pa.slots : Pa → List Nat
  | .nm i => [i]
  | .tup ps => Pa.slotsL ps
  | .lst ps => Pa.slotsL ps
def Pa.slotsL : List Pa → List Nat
  | [] => []
  | p :: ps => p.slots ++ Pa.slotsL ps
end
/-- the mode of a tuple's (a list's) part -/
def Md.part : Md → Md
  | .sc => .sc
  | .bk _ _ => .fr
  | .bo l => .bo l
  | _ => .un
def Md.partL : Md → Md
  | .bk _ 0 => .fr
  | .bk _ 1 => .fr
  | .bo l => .bo l
  | _ => .un
/-- all of one mode -/
def VRs (K : PySem.W.Frag) (mg : Str → Option Value) (B : Nat → Addr → Prop) (F : Addr → Prop) (H : Hp) (m : Md) : List V → List T → Prop
  | vs, [] => vs = []
  | vs, x :: xs => ∃ v r, vs = v :: r ∧ VR K mg B F H m [] v x ∧ VRs K mg B F H m r xs
section
variable (K : PySem.W.Frag) (mg : Str → Option Value) (L : Lv)
def RG (Γ : List Md) (p : Pa) (m : Md) (Γ' : List Md) : TG := fun v σ H Q =>
  ∃ B fx F Os τ t τ', SR K mg B fx L Γ F Os H σ τ ∧ VR K mg B F H m [] v t ∧ p.set t τ = some τ' ∧ ∀ Os' σ', (∀ j : Nat, j ∉ p.slots → σ'[j]? = σ[j]?) → SR K mg B fx L Γ' F Os' H σ' τ' → Q σ' H
def RGs (Γ : List Md) (ps : List Pa) (m : Md) (Γ' : List Md) : TGs := fun vs σ H Q =>
  ∃ B fx F Os τ ts τ', SR K mg B fx L Γ F Os H σ τ ∧ VRs K mg B F H m vs ts ∧ Pa.setL ps ts τ = some τ' ∧ ∀ Os' σ', (∀ j : Nat, j ∉ Pa.slotsL ps → σ'[j]? = σ[j]?) → SR K mg B fx L Γ' F Os' H σ' τ' → Q σ' H
end
abbrev GX (X : Cx) (L : Lv) (Γ : List Md) (tg : Expr) (p : Pa) (m : Md) (Γ' : List Md) : Prop := PG X tg (RG X.K X.mg L Γ p m Γ')
abbrev GXs (X : Cx) (L : Lv) (Γ : List Md) (tg : List Expr) (ps : List Pa) (m : Md) (Γ' : List Md) : Prop := PGs X tg (RGs X.K X.mg L Γ ps m Γ')
theorem PG.imp {X : Cx} {e : Expr} {t t' : TG} (h : PG X e t) (i : ∀ v σ H Q, t' v σ H Q → t v σ H Q) : PG X e t' := ⟨fun pins s σ H v u Q I r q => h.run pins s σ H v u Q I r (i _ _ _ _ q)⟩
theorem PGs.imp {X : Cx} {e : List Expr} {t t' : TGs} (h : PGs X e t) (i : ∀ v σ H Q, t' v σ H Q → t v σ H Q) : PGs X e t' := ⟨fun pins s σ H v u Q I r q => h.run pins s σ H v u Q I r (i _ _ _ _ q)⟩
section
variable {X : Cx} {W : WX} {B : Nat → Addr → Prop} {fx : Fx} {L : Lv} {Γh Γ Γ1 Γ2 Γ3 Γ' Γi Γb : List Md} {n : En} {e a b tg : Expr} {es : List Expr} {ca cb : M T} {tc : M Bool} {m ma mb : Md} {pos : Pos} {s1 : Stmt} {rest ss ss' : List Stmt} {c c1 c2 : M Fl} {D : Ends} {p : Pa} {ps : List Pa}
theorem gx_name {i : Nat} {x : Str} (hN : X.N.Nodup) (hi : X.N[i]? = some x) (hx : Loc X.env.scope x) (hf : X.fn x = true ∨ X.env.scope.names.lookup x = some .local) (hl : i < Γ.length) (hz : L.z.contains i = false) (ml : m.lv ≤ L) : GX X L Γ (.Name x pos) (.nm i) m (Γ.set i m) := by
  refine PG.imp (pg_name hN hi hx hf) fun v σ H Q h => ?_
  obtain ⟨B, fx, F, Os, τ, t, τ', S, r, e, q⟩ := h
  have e' : some (τ.set i (some t)) = some τ' := e
  cases e'
  exact q _ _ (fun j hj => List.getElem?_set_ne (fun e => hj (by rw [← e]; exact List.mem_cons_self))) (S.put Xt.nil r hl hz ml)
theorem gxs_nil : GXs X L Γ [] [] m Γ := by
  refine PGs.imp pgs_nil fun v σ H Q h => ?_
  obtain ⟨B, fx, F, Os, τ, ts, τ', S, r, e, q⟩ := h
  cases ts with
  | nil =>
    have r' : v = [] := r
    have e' : some τ = some τ' := e
    cases e'
    exact ⟨r', q _ _ (fun _ _ => rfl) S⟩
  | cons t ts => exact absurd e (by simp [Pa.setL])
theorem gxs_cons (h1 : GX X L Γ e p m Γ1) (h2 : GXs X L Γ1 es ps m Γ2) (hs : (assignEach (e :: es) X.env).map (·.2) = assign e X.env :: (assignEach es X.env).map (·.2)) : GXs X L Γ (e :: es) (p :: ps) m Γ2 := by
  refine PGs.imp (pgs_cons h1 h2 hs) fun v σ H Q h => ?_
  obtain ⟨B, fx, F, Os, τ, ts, τ', S, r, e, q⟩ := h
  cases ts with
  | nil => exact absurd e (by simp [Pa.setL])
  | cons t ts =>
    obtain ⟨v1, r1, rfl, rv, rr⟩ := r
    have e' : ((p.set t τ).bind fun τ1 => Pa.setL ps ts τ1) = some τ' := e
    rw [Option.bind_eq_some_iff] at e'
    obtain ⟨τ1, e1, e2⟩ := e'
    exact ⟨v1, r1, rfl, B, fx, F, Os, τ, t, τ1, S, rv, e1, fun Os' σ' hσ S' => ⟨B, fx, F, Os', τ1, ts, τ', S', rr, e2, fun Os2 σ2 hσ2 S2 => q Os2 σ2 (fun j hj => (hσ2 j fun z => hj (List.mem_append_right _ z)).trans (hσ j fun z => hj (List.mem_append_left _ z))) S2⟩⟩
theorem vrs_of {K : PySem.W.Frag} {mg : Str → Option Value} {F : Addr → Prop} {H : Hp} {P : Addr → Prop} (h : ∀ v t, Rp K mg H P v t → VR K mg B F H m [] v t) : ∀ {xs : List T} {vs : List V}, RpL K mg H P vs xs → VRs K mg B F H m vs xs
  | [], _, r => r
  | x :: xs, _, r => by
    obtain ⟨v, vr, rfl, q, r⟩ := r
    exact ⟨v, vr, rfl, h v x q, vrs_of h r⟩
theorem vrs_sc {K : PySem.W.Frag} {mg : Str → Option Value} {F : Addr → Prop} {H : Hp} : ∀ {xs : List T} {vs : List V}, immL xs = true → RpL K mg H F vs xs → VRs K mg B F H .sc vs xs
  | [], _, _, r => r
  | x :: xs, _, i, r => by
    obtain ⟨v, vr, rfl, q, r⟩ := r
    have i' : (imm x && immL xs) = true := i
    rw [Bool.and_eq_true] at i'
    exact ⟨v, vr, rfl, VR.sc_of i'.1 q, vrs_sc i'.2 r⟩
theorem vrs_len {K : PySem.W.Frag} {mg : Str → Option Value} {F : Addr → Prop} {H : Hp} : ∀ {xs : List T} {vs : List V}, VRs K mg B F H m vs xs → vs.length = xs.length
  | [], _, r => by
    have e : _ = [] := r
    rw [e]; rfl
  | x :: xs, _, r => by
    obtain ⟨v, vr, rfl, _, r⟩ := r
    simp [vrs_len r]
theorem vr_bo_of {K : PySem.W.Frag} {mg : Str → Option Value} {F : Addr → Prop} {H : Hp} {v : V} {t : T} {l : Nat} (h : Rp K mg H (fun a => F a ∨ B l a) v t) : VR K mg B F H (.bo l) [] v t := ⟨rfl, h⟩
/-- a tuple's parts -/
theorem vr_parts {K : PySem.W.Frag} {mg : Str → Option Value} {F : Addr → Prop} {H : Hp} {v : V} {xs : List T} (h : VR K mg B F H m [] v (.tup xs)) (hm : m.part ≠ .un) : ∃ a vs, v = .ref a ∧ SqT K H a vs ∧ VRs K mg B F H m.part vs xs := by
  cases m with
  | un => exact absurd rfl hm
  | sc =>
    obtain ⟨_, i, a, vs, rfl, s, r⟩ := h
    exact ⟨a, vs, rfl, s, vrs_sc i r⟩
  | bk l d =>
    obtain ⟨_, O', _, q⟩ := h
    have q' : Rp K mg H F v (.tup xs) := by
      cases d with
      | zero => exact q.2
      | succ d => exact q.2
    obtain ⟨a, vs, rfl, s, r⟩ := q'
    exact ⟨a, vs, rfl, s, vrs_of (P := F) (fun _ _ q => VR.fr_of q) r⟩
  | bo l =>
    obtain ⟨_, a, vs, rfl, s, r⟩ := h
    exact ⟨a, vs, rfl, s, vrs_of (P := fun a => F a ∨ B l a) (fun _ _ q => vr_bo_of q) r⟩
  | ow d => exact absurd rfl hm
theorem vr_partsL {K : PySem.W.Frag} {mg : Str → Option Value} {F : Addr → Prop} {H : Hp} {v : V} {xs : List T} (h : VR K mg B F H m [] v (.lst xs)) (hm : m.partL ≠ .un) : ∃ a vs, v = .ref a ∧ SqL K H a vs ∧ VRs K mg B F H m.partL vs xs := by
  cases m with
  | un => exact absurd rfl hm
  | sc => exact absurd rfl hm
  | bk l d =>
    obtain ⟨_, O', _, q⟩ := h
    match d, q, hm with
    | 0, q, hm =>
      obtain ⟨a, vs, rfl, s, r⟩ := q.2
      exact ⟨a, vs, rfl, .inl s.2, vrs_of (P := F) (fun _ _ q => VR.fr_of q) r⟩
    | 1, q, hm =>
      obtain ⟨a, vs, Os, rfl, s, _, r⟩ := q
      exact ⟨a, vs, rfl, .inl (.inl s), vrs_of (P := F) (fun _ _ q => VR.fr_of q) (owl_zero r).2⟩
    | d + 2, q, hm => exact absurd rfl hm
  | bo l =>
    obtain ⟨_, a, vs, rfl, s, r⟩ := h
    exact ⟨a, vs, rfl, .inl s.2, vrs_of (P := fun a => F a ∨ B l a) (fun _ _ q => vr_bo_of q) r⟩
  | ow d => exact absurd rfl hm
theorem setL_len : ∀ {ps : List Pa} {xs : List T} {τ τ' : List (Option T)}, Pa.setL ps xs τ = some τ' → xs.length = ps.length
  | [], [], _, _, _ => rfl
  | p :: ps, x :: xs, τ, τ', e => by
    have e' : ((p.set x τ).bind fun τ1 => Pa.setL ps xs τ1) = some τ' := e
    rw [Option.bind_eq_some_iff] at e'
    obtain ⟨τ1, _, e2⟩ := e'
    simp [setL_len e2]
  | [], _ :: _, _, _, e => by simp [Pa.setL] at e
  | _ :: _, [], _, _, e => by simp [Pa.setL] at e
theorem gx_tup {k : Nat} (hc : X.calm = true) (h : GXs X L Γ es ps m.part Γ') (hm : m.part ≠ .un) (hn : (assignEach es X.env).length = ps.length) (hst : (assignEach es X.env).findIdx? (·.1) = none) : GX X L Γ (.Tuple es k pos) (.tup ps) m Γ' := by
  refine PG.imp (pg_tup hc h hn hst) fun v σ H Q h => ?_
  obtain ⟨B, fx, F, Os, τ, t, τ', S, r, e, q⟩ := h
  cases t with
  | tup xs =>
    obtain ⟨a, vs, rfl, s, rr⟩ := vr_parts r hm
    have e' : Pa.setL ps xs τ = some τ' := e
    exact ⟨a, vs, rfl, s, by rw [vrs_len rr]; exact setL_len e', B, fx, F, Os, τ, xs, τ', S, rr, e', q⟩
  | _ => exact absurd e (by simp [Pa.set])
theorem gx_lst {k : Nat} (hc : X.calm = true) (h : GXs X L Γ es ps m.partL Γ') (hm : m.partL ≠ .un) (hn : (assignEach es X.env).length = ps.length) (hst : (assignEach es X.env).findIdx? (·.1) = none) : GX X L Γ (.Tuple es k pos) (.lst ps) m Γ' := by
  refine PG.imp (pg_lst hc h hn hst) fun v σ H Q h => ?_
  obtain ⟨B, fx, F, Os, τ, t, τ', S, r, e, q⟩ := h
  cases t with
  | lst xs =>
    obtain ⟨a, vs, rfl, s, rr⟩ := vr_partsL r hm
    have e' : Pa.setL ps xs τ = some τ' := e
    exact ⟨a, vs, rfl, s, by rw [vrs_len rr]; exact setL_len e', B, fx, F, Os, τ, xs, τ', S, rr, e', q⟩
  | _ => exact absurd e (by simp [Pa.set])
/-- target = e -/
def cAsg (p : Pa) (c : M T) : M Fl := M.bind c fun t τ => match p.set t τ with
  | some τ' => .ok .nx τ'
  | none => .stuck
theorem s_asg (he : EX X W L Γh Γ e ca m Γ1) (hm : m.own = false) (hg : GX X L Γ1 tg p m Γ2) (hs : swapsWithSole [tg] e pos.line X.env = pure false) (hw : swappedStores [tg] e X.env = pure none) (h1 : (assignEach [tg] X.env).map (·.2) = [assign tg X.env]) :
    SX1 X W L Γh n Γ (.Assign [tg] e pos) (cAsg p ca) Γ2 := by
  refine PS.imp (ps_asg he hg hs hw h1) fun D σ H h => ?_
  obtain ⟨B, fx, F, Os, τ, S, q⟩ := h
  refine ⟨B, fx, F, Os, τ, S, postS_bind q fun t τ' F' Os' O v H' s S' xt r p' => ?_⟩
  have eO := r.noO hm
  subst eO
  cases hq : p.set t τ' with
  | none => rw [hq] at p'; exact p'.elim
  | some τ2 =>
    rw [hq] at p'
    exact ⟨B, fx, F', Os', τ', t, τ2, S', r, hq, fun Os2 σ2 _ S2 => p' F' Os2 H' σ2 Stp.refl S2⟩

/-! ### what is walked -/
def ItOk (K : PySem.W.Frag) (mg : Str → Option Value) (B : Nat → Addr → Prop) (L : Lv) (F : Addr → Prop) (H : Hp) (J : It) (ts : List T) (m : Md) : Prop :=
  ∀ F2 H2, Stp (B L) F H F2 H2 → (∀ a, F2 a → H2 a ≠ none) → (∀ a, B L a → H2 a ≠ none) → (∀ i t, ts[i]? = some t → J.go i H2 ∧ ∀ x H3, J.yld i H2 x H3 → ∃ F3, New F2 H2 F3 H3 [] ∧ VR K mg B F3 H3 m [] x t) ∧ (∀ i, ts.length ≤ i → J.stop i H2)
def PostIt (K : PySem.W.Frag) (mg : Str → Option Value) (W : WX) (B : Nat → Addr → Prop) (fx : Fx) (L : Lv) (Γh Γ' : List Md) (m : Md) (σ : L2.St) (R : It → Hp → Prop) (F : Addr → Prop) (H : Hp) : Res (List T) → Prop
  | .ok ts τ' => ∀ F' Os' H' J, Stp (B L) F H F' H' → SR K mg B fx L Γ' F' Os' H' σ τ' → ItOk K mg B L F' H' J ts m → R J H'
  | .exn c fs xs τ' => PostX K mg W B fx L Γh σ F H c fs xs τ'
  | .stuck => False
def RIt (K : PySem.W.Frag) (mg : Str → Option Value) (W : WX) (L : Lv) (Γh Γ : List Md) (c : M (List T)) (m : Md) (Γ' : List Md) : TI := fun σ H R =>
  ∃ B fx F Os τ, SR K mg B fx L Γ F Os H σ τ ∧ PostIt K mg W B fx L Γh Γ' m σ R F H (c τ)
abbrev WX' (X : Cx) (W : WX) (L : Lv) (Γh Γ : List Md) (tg iter : Expr) (c : M (List T)) (m : Md) (Γ' : List Md) : Prop := PI X tg iter (RIt X.K X.mg W L Γh Γ c m Γ')
theorem PostA.imp {K : PySem.W.Frag} {mg : Str → Option Value} {W : WX} {B : Nat → Addr → Prop} {fx : Fx} {L : Lv} {Γh Γ' : List Md} {ms : List Md} {σ : L2.St} {Q Q' : List V → Hp → Prop} {F : Addr → Prop} {H : Hp} {r : Res (List T)} (p : PostA K mg W B fx L Γh Γ' ms σ Q F H r) (k : ∀ vs H, Q vs H → Q' vs H) : PostA K mg W B fx L Γh Γ' ms σ Q' F H r := by
  cases r with
  | ok ts τ' => exact fun F' Os' vs H' s S r => k _ _ (p F' Os' vs H' s S r)
  | exn c fs xs τ' => exact p
  | stuck => exact p
theorem PI.imp {X : Cx} {tg e : Expr} {t t' : TI} (h : PI X tg e t) (i : ∀ σ H R, t' σ H R → t σ H R) : PI X tg e t' := ⟨fun pins s σ H R I q => h.run pins s σ H R I (i _ _ _ q)⟩

def cForGo (p : Pa) (body : M Fl) : List T → M Fl
  | [] => M.pure .nx
  | t :: ts => fun τ => match p.set t τ with
    | none => .stuck
    | some τ1 => match body τ1 with
      | .ok .nx τ2 => cForGo p body ts τ2
      | .ok .ct τ2 => cForGo p body ts τ2
      | .ok .bk τ2 => .ok .nx τ2
      | r => r
def cFor (p : Pa) (ci : M (List T)) (body : M Fl) : M Fl := M.bind ci fun ts => cForGo p body ts
def En.loop (n : En) (Γi : List Md) : En := ⟨n.rm, n.r, Γi, Γi⟩
theorem s_for {ci : M (List T)} {iter : Expr} {body : List Stmt} (hp : PassesOwn (model X.prog X.w) X.A X.env X.xe) (hc : X.calm = true) (hi : WX' X W L Γh Γ tg iter ci m Γ1) (w : wkG Γi Γ1 = true) (lv : Γi.all (fun m => decide (m.lv ≤ L)) = true)
    (hg : GX X L Γi tg p m Γb) (hb : SX X W L Γh (n.loop Γi) Γb body c Γi) (hs : ∀ x, foldedSetIterable iter X.env x = pure x) : SX1 X W L Γh n Γ (.For tg iter body [] pos) (cFor p ci c) Γi := by
  refine PS.imp (ps_for hp hc hi hg hb hs) fun D σ H h => ?_
  obtain ⟨B, fx, F, Os, τ, S, q⟩ := h
  refine ⟨B, fx, F, Os, τ, S, ?_⟩
  unfold cFor M.bind at q
  cases hci : ci τ with
  | exn c fs xs τ' => rw [hci] at q; exact q σ
  | stuck => rw [hci] at q; exact q.elim
  | ok ts τ1 =>
    rw [hci] at q
    intro F1 Os1 H1 J s1 S1 it
    have q1 : PostS X.K X.mg W B fx L Γh n Γi D F1 H1 (cForGo p c ts τ1) := postS_later (show PostS X.K X.mg W B fx L Γh n Γi D F H (cForGo p c ts τ1) from q) s1
    obtain ⟨F2, s2, S2⟩ := S1.weak w lv
    refine ⟨fun i k σ' H' => k = (ts.drop i).length ∧ ∃ F' Os' τ', Stp (B L) F1 H1 F' H' ∧ SR X.K X.mg B fx L Γi F' Os' H' σ' τ' ∧ PostS X.K X.mg W B fx L Γh n Γi D F' H' (cForGo p c (ts.drop i) τ'), ⟨_, rfl, F2, _, τ1, s2, S2, postS_later q1 s2⟩, ?_⟩
    rintro i k σ' H' ⟨rfl, F', Os', τ', s', S', q'⟩
    obtain ⟨it1, it2⟩ := it F' H' s' S'.trF S'.trB
    by_cases hlt : i < ts.length
    · have ei : ts[i]? = some ts[i] := List.getElem?_eq_getElem hlt
      have ed : ts.drop i = ts[i] :: ts.drop (i + 1) := List.drop_eq_getElem_cons hlt
      obtain ⟨hgo, hy⟩ := it1 i _ ei
      refine .inr ⟨hgo, fun σ2 H2 => ∃ F' Os' τ', Stp (B L) F1 H1 F' H2 ∧ SR X.K X.mg B fx L Γi F' Os' H2 σ2 τ' ∧ PostS X.K X.mg W B fx L Γh n Γi D F' H2 (cForGo p c (ts.drop (i + 1)) τ'), fun σ2 H2 hN => ⟨(ts.drop (i + 1)).length, by rw [ed]; exact Nat.lt_succ_self _, rfl, hN⟩, fun x H3 hx => ?_⟩
      obtain ⟨F3, nw, rx⟩ := hy x H3 hx
      have S3 := nw.sr S'
      have s3 := nw.stp (BL := B L) S'.trF S'.trB
      rw [ed] at q'
      have q3 := postS_later q' s3
      unfold cForGo at q3
      cases hset : p.set ts[i] τ' with
      | none => rw [hset] at q3; exact q3.elim
      | some τ3 =>
        rw [hset] at q3
        dsimp only at q3
        refine ⟨B, fx, F3, Os', τ', ts[i], τ3, S3, rx, hset, fun Os4 σ4 _ S4 => ⟨B, fx, F3, Os4, τ3, S4, ?_⟩⟩
        cases hbody : c τ3 with
        | stuck => rw [hbody] at q3; exact q3.elim
        | exn c' fs xs τ5 => rw [hbody] at q3; exact q3
        | ok f τ5 =>
          rw [hbody] at q3
          cases f with
          | nx => exact fun F5 Os5 H5 σ5 s5 S5 => ⟨F5, Os5, τ5, (s'.trans s3).trans s5, S5, postS_later (show PostS X.K X.mg W B fx L Γh n Γi D F3 H3 (cForGo p c (ts.drop (i + 1)) τ5) from q3) s5⟩
          | ct => exact fun F5 Os5 H5 σ5 s5 S5 => ⟨F5, Os5, τ5, (s'.trans s3).trans s5, S5, postS_later (show PostS X.K X.mg W B fx L Γh n Γi D F3 H3 (cForGo p c (ts.drop (i + 1)) τ5) from q3) s5⟩
          | bk => exact q3
          | rt t => exact q3
    · have ed : ts.drop i = [] := List.drop_eq_nil_of_le (by omega)
      rw [ed] at q'
      exact .inl ⟨it2 i (by omega), q' F' Os' H' σ' Stp.refl S'⟩

def cWhile (c : M Bool) (b : M Fl) : Nat → M Fl
  | 0 => fun _ => .stuck
  | k + 1 => M.bind c fun t => if t = true then fun τ => match b τ with
      | .ok .nx τ2 => cWhile c b k τ2
      | .ok .ct τ2 => cWhile c b k τ2
      | .ok .bk τ2 => .ok .nx τ2
      | r => r
    else M.pure .nx
theorem s_while {body : List Stmt} {k0 : Nat} (hp : PassesOwn (model X.prog X.w) X.A X.env X.xe) (w : wkG Γi Γ = true) (lv : Γi.all (fun m => decide (m.lv ≤ L)) = true) (hc : TX X W L Γh Γi e tc Γi) (hb : SX X W L Γh (n.loop Γi) Γi body c Γi) : SX1 X W L Γh n Γ (.While e body [] pos) (cWhile tc c k0) Γi := by
  refine PS.imp (ps_while hp hc hb) fun D σ H h => ?_
  obtain ⟨B, fx, F, Os, τ, S, q⟩ := h
  obtain ⟨F2, s2, S2⟩ := S.weak w lv
  refine ⟨fun k σ' H' => ∃ F' Os' τ', SR X.K X.mg B fx L Γi F' Os' H' σ' τ' ∧ PostS X.K X.mg W B fx L Γh n Γi D F' H' (cWhile tc c k τ'), ⟨k0, F2, _, τ, S2, postS_later q s2⟩, ?_⟩
  rintro k σ' H' ⟨F', Os', τ', S', q'⟩
  cases k with
  | zero => exact q'.elim
  | succ k =>
    refine ⟨B, fx, F', Os', τ', S', postS_bindT (show PostS X.K X.mg W B fx L Γh n Γi D F' H' (M.bind tc _ τ') from q') fun t τ3 F3 Os3 H3 s3 S3 q3 => ?_⟩
    cases t with
    | false =>
      rw [if_neg Bool.false_ne_true] at q3 ⊢
      exact q3 F3 Os3 H3 σ' Stp.refl S3
    | true =>
      rw [if_pos rfl] at q3 ⊢
      refine ⟨fun σ5 H5 => ∃ F' Os' τ', SR X.K X.mg B fx L Γi F' Os' H5 σ5 τ' ∧ PostS X.K X.mg W B fx L Γh n Γi D F' H5 (cWhile tc c k τ'), fun σ5 H5 hN => ⟨k, Nat.lt_succ_self _, hN⟩, B, fx, F3, Os3, τ3, S3, ?_⟩
      cases hbody : c τ3 with
      | stuck => rw [hbody] at q3; exact q3.elim
      | exn c' fs xs τ5 => rw [hbody] at q3; exact q3
      | ok f τ5 =>
        rw [hbody] at q3
        cases f with
        | nx => exact fun F5 Os5 H5 σ5 s5 S5 => ⟨F5, Os5, τ5, S5, postS_later (show PostS X.K X.mg W B fx L Γh n Γi D F3 H3 (cWhile tc c k τ5) from q3) s5⟩
        | ct => exact fun F5 Os5 H5 σ5 s5 S5 => ⟨F5, Os5, τ5, S5, postS_later (show PostS X.K X.mg W B fx L Γh n Γi D F3 H3 (cWhile tc c k τ5) from q3) s5⟩
        | bk => exact q3
        | rt t => exact q3

/-! ### name op= e; a, b = x, y -/
theorem s_aug {i : Nat} {x : Str} {pos' : Pos} {op : Operator} {r : R2} {g : T → T → Option T} (hN : X.N.Nodup) (hi : X.N[i]? = some x) (hx : Loc X.env.scope x) (ho : OpR X (inplaceOp op) r) (he : EX X W L Γh Γ e ca ma Γ1) (hm : Γ[i]? = some m) (no : m.own = false) (hu : m ≠ .un) (nb : ma.own = false)
    (la : m.lv ≤ L) (hr : ∀ B, Op2S X.K X.mg B L r m ma g .sc) (hf : X.fn x = true ∨ X.env.scope.names.lookup x = some .local) (hl : i < Γ1.length) (hz : L.z.contains i = false) :
    SX1 X W L Γh n Γ (.AugAssign (.Name x pos') op e pos) (cSet i (cOp2 g (cVar i) ca)) (Γ1.set i .sc) := by
  refine PS.imp (ps_aug (ti := r) hN hi hx he ho hf) fun D σ H h => ?_
  obtain ⟨B, fx, F, Os, τ, S, p⟩ := h
  rcases S.slot i m hm with ⟨e, _⟩ | ⟨v, t, e1, e2, rv⟩
  · exact absurd e hu
  · have eO := rv.noO no
    rw [eO] at rv
    refine ⟨v, e1, B, fx, F, Os, τ, S, ?_⟩
    have p2 : PostS X.K X.mg W B fx L Γh n (Γ1.set i .sc) D F H (M.bind ca (fun y => M.bind (M.opt (g t y)) fun z τ => .ok .nx (τ.set i (some z))) τ) := by
      unfold cSet cOp2 at p
      have : M.bind (M.bind (cVar i) fun x => M.bind ca fun y => M.opt (g x y)) (fun z τ => Res.ok Fl.nx (τ.set i (some z))) τ = M.bind ca (fun y => M.bind (M.opt (g t y)) fun z τ => .ok .nx (τ.set i (some z))) τ := by
        unfold M.bind cVar
        rw [e2]
        dsimp only
        cases ca τ <;> rfl
      rw [this] at p
      exact p
    refine postS_bind p2 fun y τ' F' Os' O w H' s S' xt rw' p' => ?_
    have eO2 := rw'.noO nb
    subst eO2
    cases hg : g t y with
    | none => rw [hg] at p'; exact p'.elim
    | some z =>
      rw [hg] at p'
      refine hr B F' H' v w t y z _ S'.trF (rv.step S.mono s la (by simp)) rw' hg fun F2 O2 u H2 nw ru => ?_
      have eO3 := ru.noO rfl
      subst eO3
      exact p' F2 _ H2 _ (nw.stp S'.trF S'.trB) ((nw.sr S').put Xt.nil ru hl hz (Nat.zero_le _))
def cPar (i j : Nat) (ca : M (List T)) : M Fl := M.bind ca fun ts τ => match ts with
  | [s, t] => .ok .nx ((τ.set i (some s)).set j (some t))
  | _ => .stuck
theorem s_par {i j : Nat} {x y : Str} {cl : M (List T)} {px py pt : Pos} {kt k2 pt2} (hc : X.calm = true) (hN : X.N.Nodup) (hi : X.N[i]? = some x) (hj : X.N[j]? = some y) (hij : i ≠ j)
    (hx : X.env.scope.names.lookup x = some .local) (hy : X.env.scope.names.lookup y = some .local) (ha : AX X W L Γh Γ [a, b] cl [ma, mb] Γ1)
    (hw : swappedStores [.Tuple [.Name x px, .Name y py] kt pt] (.Tuple [a, b] k2 pt2) X.env = pure (some [x, y])) (hs : swapsWithSole [.Tuple [.Name x px, .Name y py] kt pt] (.Tuple [a, b] k2 pt2) pos.line X.env = pure false)
    (hl : i < Γ1.length) (hl2 : j < Γ1.length) (hz : L.z.contains i = false) (hz2 : L.z.contains j = false) :
    SX1 X W L Γh n Γ (.Assign [.Tuple [.Name x px, .Name y py] kt pt] (.Tuple [a, b] k2 pt2) pos) (cPar i j cl) ((Γ1.set i ma).set j mb) := by
  refine PS.imp (ps_par hc hN hi hj hij hx hy ha hw hs) fun D σ H h => ?_
  obtain ⟨B, fx, F, Os, τ, S, p⟩ := h
  refine ⟨B, fx, F, Os, τ, S, postS_bindA p fun ts τ' F' Os' vs H' s S' r p' => ?_⟩
  obtain ⟨v, vr, t, tr, rfl, rfl, na, la, rv, w, wr, u, ur, rfl, rfl, nb, lb, rw', rfl, rfl⟩ := r
  refine ⟨v, w, rfl, ?_⟩
  have S2 := S'.put Xt.nil rv hl hz la
  have S3 := S2.put (Os := fun k => if k = i then [] else Os' k) Xt.nil rw' (by rw [List.length_set]; exact hl2) hz2 lb
  exact p' F' _ H' _ Stp.refl S3
end
end TL

/-! TL13: list comprehensions -/
namespace TL
open PySem PySem.Spec PyProof.Rows L2

/-- no test, one test -/
abbrev TXs (X : Cx) (W : WX) (L : Lv) (Γh Γ : List Md) (es : List Expr) (c : M Bool) (Γ' : List Md) : Prop := PTs X es (RT X.K X.mg W L Γh Γ c Γ')
def cYes : M Bool := M.pure true
theorem PTs.imp {X : Cx} {es : List Expr} {t t' : TT} (h : PTs X es t) (i : ∀ σ H Q, t' σ H Q → t σ H Q) : PTs X es t' := ⟨fun pins s σ H Q I q => h.run pins s σ H Q I (i _ _ _ q)⟩
def cLcGo (p : Pa) (ct : M Bool) (ce : M T) : List T → List T → M T
  | [], acc => fun τ => .ok (.lst acc) τ
  | t :: ts, acc => fun τ => match p.set t τ with
    | none => .stuck
    | some τ1 => match ct τ1 with
      | .ok true τ2 => match ce τ2 with
        | .ok y τ3 => if small acc.length = true then cLcGo p ct ce ts (acc ++ [y]) τ3 else .stuck
        | _ => .stuck
      | .ok false τ2 => cLcGo p ct ce ts acc τ2
      | _ => .stuck
/-- the slots of the block's own names as they were -/
def keepS (τ0 : List (Option T)) : List Nat → List (Option T) → List (Option T)
  | [], τ => τ
  | i :: is, τ => (keepS τ0 is τ).set i ((τ0[i]?).getD none)
def keepG (Γ0 : List Md) : List Nat → List Md → List Md
  | [], Γ => Γ
  | i :: is, Γ => (keepG Γ0 is Γ).set i ((Γ0[i]?).getD .un)
def cLc (ci : M (List T)) (ks : List Nat) (p : Pa) (ct : M Bool) (ce : M T) : M T := M.bind ci fun ts τ => match cLcGo p ct ce ts [] τ with
  | .ok y τ' => .ok y (keepS τ ks τ')
  | .exn c fs xs τ' => .exn c fs xs τ'
  | .stuck => .stuck
/-- within a block nothing is raised -/
def W0 : WX := fun _ _ _ _ => False
/-- a level more, the same fixed slots -/
def Lv.over (L : Lv) : Lv := ⟨L.n + 1, L.z⟩

section
variable {K : PySem.W.Frag} {mg : Str → Option Value} {B : Nat → Addr → Prop} {fx : Fx} {L : Lv} {Γ Γ1 : List Md} {F F1 : Addr → Prop} {Os Os1 : Nat → List Addr} {H H1 : Hp} {σ σ1 : L2.St} {τ τ1 : List (Option T)} {O : List Addr}
theorem lendB_over {L : Lv} {B : Nat → Addr → Prop} {O : List Addr} : lendB B L O (L.over).n = fun a => B L a ∨ a ∈ O := lendB_gt
theorem SR.over (S : SR K mg B fx L Γ F Os H σ τ) (x : Xt (B L) F H Os O) : SR K mg (lendB B L O) fx L.over Γ F Os H σ τ := by
  refine ⟨S.lσ, S.lτ, fun i m em => ?_, S.out, fun m hm => Nat.le_succ_of_le (S.lv m hm), S.nd, S.dj, fun i a ha => ⟨(S.own i a ha).1, fun q => ?_, (S.own i a ha).2.2⟩, S.trF, fun a ha => ?_, fun l l' a h q => ?_, S.fix, S.fixT, S.fz⟩
  · rcases S.slot i m em with q | ⟨v', t', e1, e2, r⟩
    · exact .inl q
    · exact .inr ⟨v', t', e1, e2, vr_lend (S.lv m (List.mem_of_getElem? em)) r⟩
  · rw [lendB_over] at q
    rcases q with q | q
    · exact (S.own i a ha).2.1 q
    · exact x.dj a q i ha
  · rw [lendB_over] at ha
    rcases ha with q | q
    · exact S.trB a q
    · exact (x.own a q).2.2
  · unfold lendB at q ⊢
    by_cases h1 : l ≤ L
    · rw [if_pos h1] at q
      by_cases h2 : l' ≤ L
      · rw [if_pos h2]; exact S.mono _ _ _ h q
      · rw [if_neg h2]; exact .inl (S.mono _ _ _ h1 q)
    · rw [if_neg h1] at q
      rw [if_neg (by omega)]
      exact q
theorem SR.under (S : SR K mg B fx L Γ F Os H σ τ) (x : Xt (B L) F H Os O) (s : Stp (lendB B L O L.over.n) F H F1 H1) (S1 : SR K mg (lendB B L O) fx L.over Γ1 F1 Os1 H1 σ1 τ1) (hl : Γ1.all (fun m => decide (m.lv ≤ L)) = true) :
    SR K mg B fx L Γ1 F1 Os1 H1 σ1 τ1 ∧ Stp (B L) F H F1 H1 ∧ Xt (B L) F1 H1 Os1 O ∧ ∀ a ∈ O, H1 a = H a := by
  have subB : ∀ a, B L a → lendB B L O L.over.n a := fun a ha => by rw [lendB_over]; exact .inl ha
  have inB : ∀ a ∈ O, lendB B L O L.over.n a := fun a ha => by rw [lendB_over]; exact .inr ha
  have lv : ∀ m ∈ Γ1, m.lv ≤ L := fun m hm => of_decide_eq_true (List.all_eq_true.mp hl m hm)
  refine ⟨⟨S1.lσ, S1.lτ, fun i m em => ?_, S1.out, lv, S1.nd, S1.dj, fun i a ha => ⟨(S1.own i a ha).1, fun q => (S1.own i a ha).2.1 (subB a q), (S1.own i a ha).2.2⟩, S1.trF, fun a ha => S1.trB a (subB a ha), S.mono, S1.fix, S1.fixT, S1.fz⟩, s.less subB,
    ⟨x.nd, fun a ha => ⟨fun q => (s.gr a q).elim (x.own a ha).1 fun z => z (inB a ha), (x.own a ha).2.1, s.tr a (x.own a ha).2.2⟩, fun a ha i hi => (S1.own i a hi).2.1 (inB a ha)⟩, fun a ha => s.at_ a (.inr (inB a ha))⟩
  rcases S1.slot i m em with q | ⟨v', t', e1, e2, r⟩
  · exact .inl q
  · exact .inr ⟨v', t', e1, e2, vr_unlend (lv m (List.mem_of_getElem? em)) r⟩
/-- other values where nothing is read -/
theorem SR.res {σ' : L2.St} (S : SR K mg B fx L Γ F Os H σ τ) (hl : σ'.length = σ.length) (h : ∀ j : Nat, σ'[j]? = σ[j]? ∨ (Γ[j]? = some .un ∧ j ∉ L.z)) : SR K mg B fx L Γ F Os H σ' τ := by
  refine ⟨hl.trans S.lσ, S.lτ, fun i m em => ?_, S.out, S.lv, S.nd, S.dj, S.own, S.trF, S.trB, S.mono, fun p hp => ?_, S.fixT, S.fz⟩
  · rcases h i with e | ⟨e, _⟩
    · rcases S.slot i m em with q | ⟨v', t', e1, e2, r⟩
      · exact .inl q
      · exact .inr ⟨v', t', by rw [e]; exact e1, e2, r⟩
    · rw [e] at em
      cases em
      rcases S.slot i _ e with q | ⟨v', t', e1, e2, r⟩
      · exact .inl q
      · exact r.elim
  · rcases h p.1 with e | ⟨_, e⟩
    · rw [e]; exact S.fix p hp
    · exact absurd (S.fz.1 p hp) e
/-- a slot that was put aside is had again -/
theorem SR.fill {i : Nat} {m : Md} {v : V} {t : T} (S : SR K mg B fx L Γ F Os H σ τ) (hi : Γ[i]? = some .un) (hz : i ∉ L.z) (hv : σ[i]? = some (some v)) (r : VR K mg B F H m [] v t) (ml : m.lv ≤ L) : SR K mg B fx L (Γ.set i m) F Os H σ (τ.set i (some t)) := by
  have hlt := (List.getElem?_eq_some_iff.mp hi).1
  have eO : Os i = [] := by
    rcases S.slot i _ hi with q | ⟨v', t', e1, e2, r⟩
    · exact q.2
    · exact r.elim
  refine ⟨by rw [List.length_set]; exact S.lσ, by rw [List.length_set, List.length_set]; exact S.lτ, fun j m' e => ?_, fun j hj => S.out j (by rwa [List.length_set] at hj), fun m' hm => ?_, S.nd, S.dj, S.own, S.trF, S.trB, S.mono, S.fix, fun p hp => ?_, S.fz⟩
  · by_cases hj : j = i
    · subst hj
      rw [List.getElem?_set_self hlt] at e
      cases e
      rw [eO]
      exact .inr ⟨v, t, hv, List.getElem?_set_self (by rw [S.lτ]; exact hlt), r⟩
    · rw [List.getElem?_set_ne (Ne.symm hj)] at e
      rw [List.getElem?_set_ne (Ne.symm hj)]
      exact S.slot j m' e
  · rcases List.mem_or_eq_of_mem_set hm with q | q
    · exact S.lv m' q
    · subst q; exact ml
  · have hne : i ≠ p.1 := fun z => hz (by rw [z]; exact S.fz.2 p hp)
    rw [List.getElem?_set_ne hne, List.getElem?_set_ne hne]
    exact S.fixT p hp
theorem keepG_len {Γ0 : List Md} : ∀ {ks : List Nat} {Γ : List Md}, (keepG Γ0 ks Γ).length = Γ.length
  | [], _ => rfl
  | i :: ks, Γ => by
    show ((keepG Γ0 ks Γ).set i _).length = _
    rw [List.length_set]; exact keepG_len
theorem keepG_get {Γ0 : List Md} : ∀ {ks : List Nat} {Γ : List Md} {j : Nat}, j ∉ ks → (keepG Γ0 ks Γ)[j]? = Γ[j]?
  | [], _, _, _ => rfl
  | i :: ks, Γ, j, h => by
    show ((keepG Γ0 ks Γ).set i _)[j]? = _
    rw [List.getElem?_set_ne (fun e => h (by rw [e]; exact List.mem_cons_self))]
    exact keepG_get fun z => h (List.mem_cons_of_mem _ z)
/-- which slots may be kept -/
def keepOk (Γ0 Γ : List Md) : List Nat → Bool
  | [] => true
  | i :: is => (match Γ0[i]? with
      | some m => !m.own && !(m == .un)
      | none => false) && decide (Γ[i]? = some .un) && !is.contains i && keepOk Γ0 Γ is
theorem SR.keep {Γ0 : List Md} {F0 : Addr → Prop} {Os0 : Nat → List Addr} {H0 : Hp} {τ0 : List (Option T)} (S0 : SR K mg B fx L Γ0 F0 Os0 H0 σ τ0) (s : Stp (B L) F0 H0 F H) (S : SR K mg B fx L Γ F Os H σ τ) :
    ∀ {ks : List Nat}, keepOk Γ0 Γ ks = true → (∀ i ∈ ks, i ∉ L.z) → SR K mg B fx L (keepG Γ0 ks Γ) F Os H σ (keepS τ0 ks τ)
  | [], _, _ => S
  | i :: ks, h, hz => by
    have h' : ((match Γ0[i]? with
      | some m => !m.own && !(m == .un)
      | none => false) && decide (Γ[i]? = some .un) && !ks.contains i && keepOk Γ0 Γ ks) = true := h
    simp only [Bool.and_eq_true, decide_eq_true_eq] at h'
    obtain ⟨⟨⟨h1, h2⟩, h3⟩, h4⟩ := h'
    have ih := S0.keep s S h4 fun j hj => hz j (List.mem_cons_of_mem _ hj)
    cases hm : Γ0[i]? with
    | none => rw [hm] at h1; cases h1
    | some m =>
      rw [hm] at h1
      simp only [Bool.and_eq_true] at h1
      have no : m.own = false := by simpa using h1.1
      have nu : m ≠ .un := fun e => by rw [e] at h1; simp at h1
      rcases S0.slot i m hm with ⟨e, _⟩ | ⟨v, t, e1, e2, r⟩
      · exact absurd e nu
      · have eO := r.noO no
        rw [eO] at r
        have hi : (keepG Γ0 ks Γ)[i]? = some .un := by
          rw [keepG_get (fun z => by simp [z] at h3)]
          exact h2
        have q := ih.fill hi (hz i List.mem_cons_self) e1 (r.step S0.mono s (S0.lv m (List.mem_of_getElem? hm)) (by simp)) (S0.lv m (List.mem_of_getElem? hm))
        show SR K mg B fx L ((keepG Γ0 ks Γ).set i ((Γ0[i]?).getD .un)) F Os H σ ((keepS τ0 ks τ).set i ((τ0[i]?).getD none))
        rw [hm, e2]
        exact q
end

theorem wipe_at {σ : L2.St} {i : Nat} : ∀ {vs : List Nat}, i ∉ vs → (wipe σ vs)[i]? = σ[i]?
  | [], _ => rfl
  | v :: vs, h => by
    unfold wipe
    rw [List.getElem?_set_ne (fun e => h (by rw [e]; exact List.mem_cons_self))]
    exact wipe_at fun z => h (List.mem_cons_of_mem _ z)
section
variable {X : Cx} {W : WX} {B : Nat → Addr → Prop} {fx : Fx} {L : Lv} {Γh Γ Γ1 Γ2 Γ3 Γ' Γi Γb Γl : List Md} {e elt tg iter : Expr} {es ifs : List Expr} {ce : M T} {ct : M Bool} {ci : M (List T)} {m mi : Md} {pos : Pos} {p : Pa} {scope : Scope} {own : List (Str × Nat)} {ks : List Nat} {d : Nat}
theorem ex_fr_ow0 {c : M T} (h : EX X W L Γh Γ e c .fr Γ') : EX X W L Γh Γ e c (.ow 0) Γ' := ex_mode h (fun B F H v t _ r => by
  obtain ⟨_, O', _, q⟩ := r
  exact ⟨rfl, q.2⟩) rfl
theorem txs_nil : TXs X W L Γh Γ [] cYes Γ := by
  refine PTs.imp pts_nil fun σ H Q h => ?_
  obtain ⟨B, fx, F, Os, τ, S, p⟩ := h
  exact p F Os H Stp.refl S
theorem txs_one (h : TX X W L Γh Γ e ct Γ') : TXs X W L Γh Γ [e] ct Γ' := pts_one h
theorem vrl_of_owl {K : PySem.W.Frag} {mg : Str → Option Value} {F F' : Addr → Prop} {H H' : Hp} {Ds : List (List Addr)} {vs : List V} {ts : List T} (h : OwL (Ow K mg H F d) Ds vs ts) (k : Kp F H H') (hf : ∀ a, F a → F' a) (ho : ∀ a ∈ Ds.flatten, H' a = H a) : OwL (Ow K mg H' F' d) Ds vs ts :=
  owl_mono h fun O v x hO q => q.mono k hf fun a ha => ho a (List.mem_flatten.mpr ⟨O, hO, ha⟩)

theorem kept_mem {Γ : List Md} {Os : Nat → List Addr} {a : Addr} {i : Nat} (h : a ∈ (fun i => if kept Γ i = true then Os i else []) i) : a ∈ Os i := by
  have h' : a ∈ (if kept Γ i = true then Os i else []) := h
  split at h'
  · exact h'
  · cases h'
theorem wipe_none {σ : L2.St} {i : Nat} : ∀ {vs : List Nat}, i ∈ vs → (wipe σ vs)[i]? = (if i < σ.length then some none else none)
  | v :: vs, h => by
    unfold wipe
    by_cases e : v = i
    · subst e
      split
      · rename_i hl
        exact List.getElem?_set_self (by rw [wipe_length]; exact hl)
      · rename_i hl
        exact List.getElem?_eq_none (by rw [List.length_set, wipe_length]; omega)
    · rw [List.getElem?_set_ne e]
      exact wipe_none ((List.mem_cons.mp h).resolve_left fun z => e z.symm)
theorem wipe_eq {σ σ' : L2.St} {vs : List Nat} (hl : σ'.length = σ.length) (h : ∀ j : Nat, j ∉ vs → σ'[j]? = σ[j]?) : wipe σ' vs = wipe σ vs := by
  refine List.ext_getElem? fun j => ?_
  by_cases hj : j ∈ vs
  · rw [wipe_none hj, wipe_none hj, hl]
  · rw [wipe_at hj, wipe_at hj, h j hj]
/-- the comprehension's reading answered -/
theorem lc_read0 {g : TG} {tt : TT} {te : TE} {wi : TI} {Γ0 : List Md} {F : Addr → Prop} {Os : Nat → List Addr} {τ : List (Option T)}
    (hg : ∀ v σ H Q, RG X.K X.mg L.over Γ0 p mi Γb v σ H Q → g v σ H Q)
    (ht : ∀ σ H Q, RT X.K X.mg W0 L.over Γl Γb ct Γ2 σ H Q → tt σ H Q)
    (he : ∀ σ H Q, RE X.K X.mg W0 L.over Γl Γ2 ce (.ow d) Γ3 σ H Q → te σ H Q)
    (w1 : wkG Γ0 Γ1 = true) (w2 : wkG Γ0 Γ2 = true) (w3 : wkG Γ0 Γ3 = true) (lv : Γ0.all (fun m => decide (m.lv ≤ L)) = true) (lmi : mi.lv ≤ L) (hlen : Γb.length = Γ.length)
    (hun : ∀ i ∈ own.map (·.2), Γ0[i]? = some .un ∧ i ∉ L.z) (hks : keepOk Γ1 Γ0 ks = true) (hkz : ∀ i ∈ ks, i ∉ L.z) (hps : ∀ j ∈ p.slots, j ∈ own.map (·.2)) (σ : L2.St) (H : Hp) (Q : VK)
    (S : SR X.K X.mg B fx L Γ F Os H σ τ) (q : Post X.K X.mg W B fx L Γh (keepG Γ1 ks Γ0) (.ow (d + 1)) σ Q F H (cLc ci ks p ct ce τ))
    (hwi : ∀ R, PostIt X.K X.mg W B fx L Γh Γ1 mi σ R F H (ci τ) → wi σ H R) : tLc wi g tt te (own.map (·.2)) σ H Q := by
  refine hwi _ ?_
  unfold cLc M.bind at q
  cases hci : ci τ with
  | exn c fs xs τ' => rw [hci] at q; exact q
  | stuck => rw [hci] at q; exact q.elim
  | ok ts τ1 =>
    rw [hci] at q
    intro F1 Os1 H1 J s1 S1 it D hD
    dsimp only at q
    -- what is wanted of the rest
    let R (F' : Addr → Prop) (H' : Hp) (r : Res T) : Prop := match r with
      | .ok y τ' => ∀ F2 Os2 O v H2, Stp (B L) F' H' F2 H2 → SR X.K X.mg B fx L Γ0 F2 Os2 H2 σ τ' → Xt (B L) F2 H2 Os2 O → VR X.K X.mg B F2 H2 (.ow (d + 1)) O v y → Q v H2
      | _ => False
    have Rl : ∀ {F' H' F2 H2 r}, R F' H' r → Stp (B L) F' H' F2 H2 → R F2 H2 r := fun {F' H' F2 H2 r} h s => by
      cases r with
      | ok y τ' => exact fun F3 Os3 O v H3 s3 S3 x r => h F3 Os3 O v H3 (s.trans s3) S3 x r
      | exn c fs xs τ' => exact h
      | stuck => exact h
    obtain ⟨F2, s2, S2⟩ := S1.weak w1 lv
    have r0 : R F1 H1 (cLcGo p ct ce ts [] τ1) := by
      cases hgo : cLcGo p ct ce ts [] τ1 with
      | ok y τ' =>
        rw [hgo] at q
        intro F3 Os3 O v H3 s3 S3 x r
        exact q F3 Os3 O v H3 (s1.trans s3) (S1.keep s3 S3 hks hkz) x r
      | exn c fs xs τ' =>
        exfalso
        have : ∀ (ts acc : List T) (τ : List (Option T)) c fs xs τ', cLcGo p ct ce ts acc τ ≠ .exn c fs xs τ' := by
          intro ts
          induction ts with
          | nil => intro acc τ c fs xs τ' h; cases h
          | cons t ts ih =>
            intro acc τ c fs xs τ' h
            unfold cLcGo at h
            split at h
            · cases h
            · split at h
              · split at h
                · split at h
                  · exact ih _ _ _ _ _ _ h
                  · cases h
                · cases h
              · exact ih _ _ _ _ _ _ h
              · cases h
        exact this _ _ _ _ _ _ _ hgo
      | stuck => rw [hgo] at q; exact q
    have n0 : New F2 H1 F2 (upd H1 D (.lst [])) [D] := New.one hD S2.trF
    have S3 := n0.sr S2
    have x3 := n0.xt S2
    have sw : ∀ {σ' : L2.St} {F' Os' H' τ'}, SR X.K X.mg B fx L Γ0 F' Os' H' σ' τ' → wipe σ' (own.map (·.2)) = wipe σ (own.map (·.2)) → SR X.K X.mg B fx L Γ0 F' Os' H' (wipe σ (own.map (·.2))) τ' := fun {σ' F' Os' H' τ'} S' e => by
      refine S'.res (by rw [← e, wipe_length]) fun j => ?_
      by_cases hj : j ∈ own.map (·.2)
      · exact .inr (hun j hj)
      · left
        rw [← e, wipe_at hj]
    have sb : ∀ {F' Os' H' τ'}, SR X.K X.mg B fx L Γ0 F' Os' H' (wipe σ (own.map (·.2))) τ' → SR X.K X.mg B fx L Γ0 F' Os' H' σ τ' := fun {F' Os' H' τ'} S' => by
      refine S'.res (by rw [wipe_length]) fun j => ?_
      by_cases hj : j ∈ own.map (·.2)
      · exact .inr (hun j hj)
      · left
        rw [wipe_at hj]
    refine ⟨fun i k H' => k = (ts.drop i).length ∧ ∃ F' Os' τ' acc Ds vs, Stp (B L) F1 H1 F' H' ∧ SR X.K X.mg B fx L Γ0 F' Os' H' (wipe σ (own.map (·.2))) τ' ∧ H' D = some (.lst vs) ∧ OwL (Ow X.K X.mg H' F' d) Ds vs acc ∧ Xt (B L) F' H' Os' (D :: Ds.flatten) ∧ R F' H' (cLcGo p ct ce (ts.drop i) acc τ'),
      ⟨_, rfl, F2, _, τ1, [], [], [], s2.trans (n0.stp S2.trF S2.trB), sw S3 rfl, upd_same, ⟨rfl, rfl⟩, by simpa using x3, Rl r0 (s2.trans (n0.stp S2.trF S2.trB))⟩, ?_⟩
    rintro i k H' ⟨rfl, F', Os', τ', acc, Ds, vs, s', S', hDl, hacc, xt, q'⟩
    obtain ⟨it1, it2⟩ := it F' H' s' S'.trF S'.trB
    by_cases hlt : i < ts.length
    · have ei : ts[i]? = some ts[i] := List.getElem?_eq_getElem hlt
      have ed : ts.drop i = ts[i] :: ts.drop (i + 1) := List.drop_eq_getElem_cons hlt
      obtain ⟨hgo, hy⟩ := it1 i _ ei
      refine .inr ⟨hgo, fun H2 => ∃ F' Os' τ' acc Ds vs, Stp (B L) F1 H1 F' H2 ∧ SR X.K X.mg B fx L Γ0 F' Os' H2 (wipe σ (own.map (·.2))) τ' ∧ H2 D = some (.lst vs) ∧ OwL (Ow X.K X.mg H2 F' d) Ds vs acc ∧ Xt (B L) F' H2 Os' (D :: Ds.flatten) ∧ R F' H2 (cLcGo p ct ce (ts.drop (i + 1)) acc τ'),
        fun H2 hN => ⟨(ts.drop (i + 1)).length, by rw [ed]; exact Nat.lt_succ_self _, rfl, hN⟩, fun x H3 hx => ?_⟩
      obtain ⟨F3, nw, rx⟩ := hy x H3 hx
      have S3' := nw.sr S'
      have s3 := nw.stp (BL := B L) S'.trF S'.trB
      have hD3 : H3 D = some (.lst vs) := by rw [nw.same D (by rw [hDl]; simp)]; exact hDl
      have sameO : ∀ a ∈ D :: Ds.flatten, H3 a = H' a := fun a ha => nw.same a (xt.own a ha).2.2
      have hacc3 := vrl_of_owl hacc s3.kpF s3.fr fun a ha => sameO a (List.mem_cons_of_mem _ ha)
      have xt3 : Xt (B L) F3 H3 Os' (D :: Ds.flatten) := ⟨xt.nd, fun a ha => ⟨fun z => (nw.gr a z).elim (xt.own a ha).1 fun z => (xt.own a ha).2.2 z.1, (xt.own a ha).2.1, by rw [sameO a ha]; exact (xt.own a ha).2.2⟩, xt.dj⟩
      rw [ed] at q'
      have q3 := Rl q' s3
      unfold cLcGo at q3
      cases hset : p.set ts[i] τ' with
      | none => rw [hset] at q3; exact q3.elim
      | some τ4 =>
        rw [hset] at q3
        dsimp only at q3
        have So := S3'.over xt3
        refine hg _ _ _ _ ⟨lendB B L (D :: Ds.flatten), fx, F3, Os', τ', ts[i], τ4, So, vr_lend lmi rx, hset, fun Os4 σ4 hσ4 S4 => ?_⟩
        have hw4 : wipe σ4 (own.map (·.2)) = wipe σ (own.map (·.2)) := wipe_eq (by rw [S4.lσ, S.lσ, hlen]) fun j hj => by rw [hσ4 j fun z => hj (hps j z), wipe_at hj]
        refine ⟨hw4, ht _ _ _ ⟨lendB B L (D :: Ds.flatten), fx, F3, Os4, τ4, S4, ?_⟩⟩
        cases hct : ct τ4 with
        | exn c fs xs τ5 => rw [hct] at q3; exact q3.elim
        | stuck => rw [hct] at q3; exact q3.elim
        | ok b τ5 =>
          rw [hct] at q3
          intro F5 Os5 H5 s5 S5
          have goB : ∀ {Γe : List Md} {F6 Os6 H6 τ6} , wkG Γ0 Γe = true → Stp (lendB B L (D :: Ds.flatten) L.over.n) F3 H3 F6 H6 → SR X.K X.mg (lendB B L (D :: Ds.flatten)) fx L.over Γe F6 Os6 H6 σ4 τ6 →
              ∃ F7 Os7, (∀ a i, a ∈ Os7 i → a ∈ Os6 i) ∧ Stp (lendB B L (D :: Ds.flatten) L.over.n) F6 H6 F7 H6 ∧ SR X.K X.mg B fx L Γ0 F7 Os7 H6 σ4 τ6 ∧ Stp (B L) F3 H3 F7 H6 ∧ Xt (B L) F7 H6 Os7 (D :: Ds.flatten) ∧ (∀ a ∈ D :: Ds.flatten, H6 a = H3 a) ∧ ∀ a, F7 a → F6 a ∨ ∃ i, a ∈ Os6 i := fun {Γe F6 Os6 H6 τ6} w s6 S6 => by
            have lvo : Γ0.all (fun m => decide (m.lv ≤ L.over)) = true := List.all_eq_true.mpr fun m hm => decide_eq_true (Nat.le_succ_of_le (of_decide_eq_true (List.all_eq_true.mp lv m hm)))
            obtain ⟨F7, s7, S7, f7⟩ := S6.weakF w lvo
            obtain ⟨S8, s8, x8, e8⟩ := S3'.under xt3 (s6.trans s7) S7 lv
            exact ⟨F7, _, fun a i h => kept_mem h, s7, S8, s8, x8, e8, f7⟩
          cases b with
          | false =>
            obtain ⟨F7, Os7, _, _, S7, s7, x7, e7, _⟩ := goB w2 s5 S5
            dsimp only at q3
            simp only [Bool.false_eq_true, if_false]
            refine ⟨F7, Os7, τ5, acc, Ds, vs, (s'.trans s3).trans s7, sw S7 hw4, by rw [e7 D List.mem_cons_self]; exact hD3, vrl_of_owl hacc3 s7.kpF s7.fr fun a ha => e7 a (List.mem_cons_of_mem _ ha), x7, Rl q3 s7⟩
          | true =>
            dsimp only at q3
            simp only [if_true]
            refine he _ _ _ ⟨lendB B L (D :: Ds.flatten), fx, F5, Os5, τ5, S5, ?_⟩
            cases hce : ce τ5 with
            | exn c fs xs τ6 => rw [hce] at q3; exact q3.elim
            | stuck => rw [hce] at q3; exact q3.elim
            | ok y τ6 =>
              rw [hce] at q3
              dsimp only at q3
              intro F6 Os6 O v H6 s6 S6 x6 r6
              by_cases hsm : small acc.length = true
              · rw [if_pos hsm] at q3
                obtain ⟨F7, Os7, o7, sl7, S7, s7, x7, e7, f7⟩ := goB w3 (s5.trans s6) S6
                have n7 : ∀ a, a ∈ O → ∀ i, a ∉ Os7 i := fun a ha i hi => x6.dj a ha i (o7 a i hi)
                have hD7 : H6 D = some (.lst vs) := by rw [e7 D List.mem_cons_self]; exact hD3
                have hacc7 := vrl_of_owl hacc3 s7.kpF s7.fr fun a ha => e7 a (List.mem_cons_of_mem _ ha)
                have len : vs.length = acc.length := (owl_len hacc).2
                refine ⟨vs, hD7, by rw [len]; have := of_decide_eq_true hsm; rw [sizeLine_eq]; omega, ?_⟩
                -- the new item
                have oO : ∀ a ∈ O, ¬ F7 a ∧ ¬ B L a ∧ H6 a ≠ none ∧ a ∉ D :: Ds.flatten := fun a ha => by
                  obtain ⟨o1, o2, o3⟩ := x6.own a ha
                  refine ⟨fun z => (f7 a z).elim o1 fun ⟨i, z⟩ => x6.dj a ha i z, fun z => o2 (by rw [lendB_over]; exact .inl z), o3, fun z => o2 (by rw [lendB_over]; exact .inr z)⟩
                have nD : ∀ a, a ≠ D → (upd H6 D (.lst (vs ++ [v]))) a = H6 a := fun a h => upd_ne h
                have hDf : ¬ F7 D ∧ ¬ B L D := ⟨(x7.own D List.mem_cons_self).1, (x7.own D List.mem_cons_self).2.1⟩
                have sU : Stp (B L) F7 H6 F7 (upd H6 D (.lst (vs ++ [v]))) := by
                  refine ⟨fun _ h => h, fun _ h => .inl h, fun a h => nD a fun e => ?_, fun a o e hm => ?_, fun a h => ?_, fun hF a h => ?_⟩
                  · subst e; exact h.elim hDf.1 hDf.2
                  · by_cases e' : a = D
                    · subst e'
                      rw [hD7] at e
                      cases e
                      exact absurd trivial hm
                    · rw [nD a e']; exact e
                  · by_cases e' : a = D
                    · subst e'; rw [upd_same]; simp
                    · rw [nD a e']; exact h
                  · rw [nD a fun e => hDf.1 (by rw [← e]; exact h)]; exact hF a h
                have r7 : Ow X.K X.mg H6 F7 d O v y := Ow.mono r6 sl7.kpF sl7.fr fun _ _ => rfl
                have k7 : ∀ {O' v' t'}, Ow X.K X.mg H6 F7 d O' v' t' → (∀ a ∈ O', a ≠ D) → Ow X.K X.mg (upd H6 D (.lst (vs ++ [v]))) F7 d O' v' t' := fun {O' v' t'} h hd => h.mono sU.kpF (fun _ h => h) fun a ha => nD a (hd a ha)
                have nd7 := x7.nd
                rw [List.nodup_cons] at nd7
                refine ⟨F7, Os7, τ6, acc ++ [y], Ds ++ [O], vs ++ [v], ((s'.trans s3).trans s7).trans sU, sw (S7.step sU fun i a ha => ⟨nD a fun e => ?_, (S7.own i a ha).1⟩) hw4, upd_same, owl_append (owl_mono hacc7 fun O' v' x' hO' h' => k7 h' fun a ha e => ?_) ⟨O, [], v, [], rfl, rfl, k7 r7 fun a ha e => (oO a ha).2.2.2 (by rw [e]; exact List.mem_cons_self), rfl, rfl⟩, ⟨?_, fun a ha => ?_, fun a ha i hi => ?_⟩, Rl q3 (s7.trans sU)⟩
                · subst e; exact x7.dj a List.mem_cons_self i ha
                · subst e; exact nd7.1 (List.mem_flatten.mpr ⟨O', hO', ha⟩)
                · rw [List.flatten_append, List.nodup_cons, List.nodup_append]
                  have ef : ([O] : List (List Addr)).flatten = O := by simp
                  rw [ef]
                  refine ⟨fun z => (List.mem_append.mp z).elim nd7.1 fun z => (oO D z).2.2.2 List.mem_cons_self, nd7.2, x6.nd, fun a ha b hb e => ?_⟩
                  subst e
                  exact (oO a hb).2.2.2 (List.mem_cons_of_mem _ ha)
                · rw [List.flatten_append] at ha
                  have ef : ([O] : List (List Addr)).flatten = O := by simp
                  rw [ef] at ha
                  have alt : a ∈ D :: Ds.flatten ∨ a ∈ O := by
                    rcases List.mem_cons.mp ha with z | z
                    · exact .inl (by rw [z]; exact List.mem_cons_self)
                    · exact (List.mem_append.mp z).imp (List.mem_cons_of_mem _) id
                  rcases alt with z | z
                  · exact ⟨(x7.own a z).1, (x7.own a z).2.1, sU.tr a (x7.own a z).2.2⟩
                  · exact ⟨(oO a z).1, (oO a z).2.1, sU.tr a (oO a z).2.2.1⟩
                · rw [List.flatten_append] at ha
                  have ef : ([O] : List (List Addr)).flatten = O := by simp
                  rw [ef] at ha
                  have alt : a ∈ D :: Ds.flatten ∨ a ∈ O := by
                    rcases List.mem_cons.mp ha with z | z
                    · exact .inl (by rw [z]; exact List.mem_cons_self)
                    · exact (List.mem_append.mp z).imp (List.mem_cons_of_mem _) id
                  rcases alt with z | z
                  · exact x7.dj a z i hi
                  · exact absurd hi (n7 a z i)
              · rw [if_neg hsm] at q3
                exact q3.elim
    · have ed : ts.drop i = [] := List.drop_eq_nil_of_le (by omega)
      rw [ed] at q'
      refine .inl ⟨it2 i (by omega), q' F' Os' (D :: Ds.flatten) (.ref D) H' Stp.refl (sb S') xt ?_⟩
      exact ⟨D, vs, Ds, rfl, hDl, rfl, hacc⟩
theorem lc_read {g : TG} {tt : TT} {te : TE} {wi : TI} {Γ0 : List Md}
    (hwi : ∀ σ H R, RIt X.K X.mg W L Γh Γ ci mi Γ1 σ H R → wi σ H R)
    (hg : ∀ v σ H Q, RG X.K X.mg L.over Γ0 p mi Γb v σ H Q → g v σ H Q)
    (ht : ∀ σ H Q, RT X.K X.mg W0 L.over Γl Γb ct Γ2 σ H Q → tt σ H Q)
    (he : ∀ σ H Q, RE X.K X.mg W0 L.over Γl Γ2 ce (.ow d) Γ3 σ H Q → te σ H Q)
    (w1 : wkG Γ0 Γ1 = true) (w2 : wkG Γ0 Γ2 = true) (w3 : wkG Γ0 Γ3 = true) (lv : Γ0.all (fun m => decide (m.lv ≤ L)) = true) (lmi : mi.lv ≤ L) (hlen : Γb.length = Γ.length)
    (hun : ∀ i ∈ own.map (·.2), Γ0[i]? = some .un ∧ i ∉ L.z) (hks : keepOk Γ1 Γ0 ks = true) (hkz : ∀ i ∈ ks, i ∉ L.z) (hps : ∀ j ∈ p.slots, j ∈ own.map (·.2)) (σ : L2.St) (H : Hp) (Q : VK)
    (h : RE X.K X.mg W L Γh Γ (cLc ci ks p ct ce) (.ow (d + 1)) (keepG Γ1 ks Γ0) σ H Q) : tLc wi g tt te (own.map (·.2)) σ H Q := by
  obtain ⟨B, fx, F, Os, τ, S, q⟩ := h
  exact lc_read0 hg ht he w1 w2 w3 lv lmi hlen hun hks hkz hps σ H Q S q fun R p => hwi σ H R ⟨B, fx, F, Os, τ, S, p⟩

end
end TL

/-! TL14: what a loop walks; comprehensions as expressions -/
namespace TL
open PySem PySem.Spec PyProof.Rows L2

section
variable {X : Cx} {W : WX} {B : Nat → Addr → Prop} {fx : Fx} {L : Lv} {Γh Γ Γ0 Γ1 Γ2 Γ3 Γ' Γi Γb Γl : List Md} {n : En} {e a b elt tg iter : Expr} {es ifs : List Expr} {ca ce : M T} {ct : M Bool} {ci cl : M (List T)} {m mi ma mb : Md} {ms : List Md} {pos pos' : Pos} {p : Pa} {scope : Scope} {own : List (Str × Nat)} {ks : List Nat} {d : Nat}

/-! ### lists, tuples, texts -/
def charsT (z : Str) : List T := z.cps.toList.map fun c => .str ⟨#[c]⟩
def itB (deep : Bool) : T → Option (List T)
  | .lst xs => some xs
  | .tup xs => if (!deep || immL xs) = true then some xs else none
  | .str z => some (charsT z)
  | _ => none
def cIt (deep : Bool) (c : M T) : M (List T) := M.bind c fun t => match itB deep t with
  | some xs => M.pure xs
  | none => fun _ => .stuck
def iAny (K : PySem.W.Frag) (te : TE) : TI := fun σ H R => te σ H fun x H1 =>
  (∃ a, x = .ref a ∧ (∃ xs, SqL K H1 a xs) ∧ R (Itl K a) H1) ∨ (∃ a, x = .ref a ∧ (∃ xs, SqT K H1 a xs) ∧ R (Itt K a) H1) ∨ ∃ z, x = .str z ∧ R (Its z) H1
theorem pe_known {v : Value} {s1 : Shared} {pins : List (Addr × Obj)} {σ : L2.St} {H1 : Hp} {x : V} {env : Env} (f : TE → Prop) (h : f (tC x)) : f (tC x) := h
theorem pi_any {te : TE} (he : PE X e te) : PI X tg e (iAny X.K te) := by
  refine ⟨fun pins s σ H R I h => thn (he.run pins s σ H _ I h) fun v s1 hq => ?_⟩
  obtain ⟨x, H1, I1, r1, q⟩ := hq
  rcases q with ⟨a, rfl, ⟨xs, hx⟩, q⟩ | ⟨a, rfl, ⟨xs, hx⟩, q⟩ | ⟨z, rfl, q⟩
  · obtain rfl : v = Value.ref a := r1
    obtain ⟨its, rv, pl, _⟩ := I1.list hx
    refine wpAny_pyIter_list pl.isList ⟨s1.heap.objs.size, [s1.heap.objs.size], _, _, H1, rfl, I1.kept (t' := s1.toks) fun b o e => Heap.get?_push_of_some _ e, turn_list a _, ⟨_, Heap.get?_push_size _ rfl, rfl, rfl⟩, fun b hb => ?_, q⟩
    obtain rfl : b = s1.heap.objs.size := by simpa using hb
    exact I1.fpOk (Nat.le_refl _) (I1.hok.fresh (Nat.le_refl _))
  · obtain rfl : v = Value.ref a := r1
    obtain ⟨its, rv, pt, _⟩ := I1.tuple hx
    refine wpAny_pyIter_tuple (show s1.heap.IsTuple a its.toArray from pt) ⟨s1.heap.objs.size, [s1.heap.objs.size], _, _, H1, rfl, I1.kept (t' := s1.toks) fun b o e => Heap.get?_push_of_some _ e, turn_tuple a _, ⟨_, Heap.get?_push_size _ rfl, rfl, rfl⟩, fun b hb => ?_, q⟩
    obtain rfl : b = s1.heap.objs.size := by simpa using hb
    exact I1.fpOk (Nat.le_refl _) (I1.hok.fresh (Nat.le_refl _))
  · obtain ⟨t, rfl⟩ := r1
    cases ha : z.cps.all (· < 128)
    · exact wpAny_pyIter_wide ha (pi_one (tk := s1.toks) I1 _ (turn_str _ z t "str_iterator" (.inr rfl)) ⟨_, Heap.get?_push_size _ rfl, rfl, rfl⟩ q)
    · exact wpAny_pyIter_ascii ha (pi_one (tk := s1.toks) I1 _ (turn_str _ z t "str_ascii_iterator" (.inl rfl)) ⟨_, Heap.get?_push_size _ rfl, rfl, rfl⟩ q)
theorem vr_lenL {K : PySem.W.Frag} {mg : Str → Option Value} {F : Addr → Prop} {H : Hp} {v : V} {xs : List T} (h : VR K mg B F H ma [] v (.lst xs)) (na : ma.own = false) : ∃ a vs, v = .ref a ∧ Rd H a (.lst vs) ∧ vs.length = xs.length := by
  cases ma with
  | un => exact h.elim
  | sc => exact absurd h.2.1 (by simp [imm])
  | ow d => cases na
  | bo l =>
    obtain ⟨_, a, vs, rfl, lr, r⟩ := h
    exact ⟨a, vs, rfl, lr.2, rpl_len r⟩
  | bk l d =>
    obtain ⟨_, O', hO', q⟩ := h
    cases d with
    | zero =>
      obtain ⟨a, vs, rfl, lr, r⟩ := q.2
      exact ⟨a, vs, rfl, lr.2, rpl_len r⟩
    | succ d =>
      obtain ⟨a, vs, Os, rfl, lr, _, r⟩ := q
      exact ⟨a, vs, rfl, .inl lr, (owl_len r).2⟩
theorem atI_at {α : Type} {xs : List α} {j : Nat} {v : α} (h : atI xs (j : Int) = some v) : xs[j]? = some v := by
  cases e : xs[j]? with
  | none =>
    exfalso
    have hl : xs.length ≤ j := List.getElem?_eq_none_iff.mp e
    have hn : ixN xs.length (j : Int) = none := by
      unfold ixN
      rw [if_pos (Int.natCast_nonneg j), if_neg (by omega)]
    unfold atI at h
    rw [hn] at h
    cases h
  | some w =>
    rw [atI_nat e] at h
    exact h
theorem wx_any (he : EX X W L Γh Γ iter ca ma Γ') (na : ma.own = false) (la : ma.lv ≤ L) : WX' X W L Γh Γ tg iter (cIt ma.deep ca) ma.kid Γ' := by
  refine PI.imp (pi_any he) fun σ H R h => ?_
  obtain ⟨B, fx, F, Os, τ, S, p⟩ := h
  refine ⟨B, fx, F, Os, τ, S, ?_⟩
  unfold cIt M.bind at p
  cases hc : ca τ with
  | exn c fs xs τ' => rw [hc] at p; exact p
  | stuck => rw [hc] at p; exact p.elim
  | ok t τ' =>
    rw [hc] at p
    intro F' Os' O v H' s S' x r
    have eO := r.noO na
    subst eO
    have nu : ma ≠ .un := fun z => by subst z; exact r.elim
    cases hit : itB ma.deep t with
    | none => dsimp only at p; rw [hit] at p; exact p.elim
    | some ts =>
      dsimp only at p
      rw [hit] at p
      have p' : ∀ F' Os' H' J, Stp (B L) F H F' H' → SR X.K X.mg B fx L Γ' F' Os' H' σ τ' → ItOk X.K X.mg B L F' H' J ts ma.kid → R J H' := p
      cases t with
      | lst xs =>
        cases hit
        obtain ⟨a, vs, rfl, rd, _⟩ := vr_lenL r na
        refine .inl ⟨a, rfl, ⟨vs, .inl rd⟩, p' F' Os' H' _ s S' fun F2 H2 s2 tr2 trB => ?_⟩
        have r2 := r.step S'.mono s2 la (by simp)
        obtain ⟨a', vs2, e, rd2, ln⟩ := vr_lenL r2 na
        cases e
        refine ⟨fun i t ht => ?_, fun i hi => ⟨vs2, .inl rd2, by omega⟩⟩
        obtain ⟨a', vs3, w, e, rd3, ew, rw'⟩ := vr_item r2 na (atI_nat ht)
        cases e
        refine ⟨⟨vs3, w, .inl rd3, atI_at ew⟩, fun x H3 hy => ?_⟩
        obtain ⟨rfl, hy⟩ := hy
        have ex := hy vs3 (.inl rd3)
        rw [atI_at ew] at ex
        cases ex
        exact ⟨F2, New.nil, rw'⟩
      | tup xs =>
        have hit' : (if (!ma.deep || immL xs) = true then some xs else none) = some ts := hit
        split at hit'
        · rename_i hd
          have e := Option.some.inj hit'
          subst e
          have hdd : ∀ {i : Nat} {x : T}, xs[i]? = some x → ma.deep = true → imm x = true := fun {i x} hx d => by
            rw [d] at hd
            exact imm_get (by simpa using hd) hx
          have sq : ∀ {F2 H2}, VR X.K X.mg B F2 H2 ma [] v (.tup xs) → ∃ a vs, v = .ref a ∧ SqT X.K H2 a vs ∧ vs.length = xs.length := fun {F2 H2} r => by
            obtain ⟨a, vs, rfl, st, r⟩ := r.any
            exact ⟨a, vs, rfl, st, rpl_len r⟩
          obtain ⟨a, vs, rfl, st, _⟩ := sq r
          refine .inr (.inl ⟨a, rfl, ⟨vs, st⟩, p' F' Os' H' _ s S' fun F2 H2 s2 tr2 trB => ?_⟩)
          have r2 := r.step S'.mono s2 la (by simp)
          obtain ⟨a', vs2, e, rd2, ln⟩ := sq r2
          cases e
          refine ⟨fun i t ht => ?_, fun i hi => ⟨vs2, rd2, by omega⟩⟩
          obtain ⟨a', vs3, w, e, rd3, ew, rw'⟩ := vr_itemT r2 na (atI_nat ht) (hdd ht)
          cases e
          refine ⟨⟨vs3, w, rd3, atI_at ew⟩, fun x H3 hy => ?_⟩
          obtain ⟨rfl, hy⟩ := hy
          have ex := hy vs3 rd3
          rw [atI_at ew] at ex
          cases ex
          exact ⟨F2, New.nil, rw'⟩
        · cases hit'
      | str z =>
        cases hit
        obtain rfl : v = .str z := vr_str r
        refine .inr (.inr ⟨z, rfl, p' F' Os' H' _ s S' fun F2 H2 s2 tr2 trB => ⟨fun i t ht => ?_, fun i hi => ?_⟩⟩)
        · unfold charsT at ht
          rw [List.getElem?_map, Option.map_eq_some_iff] at ht
          obtain ⟨c, ec, rfl⟩ := ht
          have ec' : z.cps[i]? = some c := by simpa using ec
          refine ⟨(Array.getElem?_eq_some_iff.mp ec').1, fun x H3 hy => ?_⟩
          obtain ⟨rfl, c', e', rfl⟩ := hy
          rw [ec'] at e'
          cases e'
          exact ⟨F2, New.nil, vr_imm (P := Any) (kid_nun nu na) rfl rfl⟩
        · show z.cps.size ≤ i
          have e : (charsT z).length = z.cps.size := by unfold charsT; simp
          exact e ▸ hi
      | _ => cases hit

/-! ### range -/
def rngT (lo c : Int) (k : Nat) : List T := (List.range k).map fun i => .int (lo + (i : Nat) * c)
def bnd62 (i : Int) : Bool := decide (-(2 ^ 62) ≤ i) && decide (i < 2 ^ 62)
def rgB : List T → Option (List T)
  | [.int j] => if bnd62 j = true then some (rngT 0 1 j.toNat) else none
  | [.int i, .int j] => if (bnd62 i && bnd62 j) = true then some (rngT i 1 (j - i).toNat) else none
  | [.int i, .int j, .int c] => if (decide (c ≠ 0) && decide (c.natAbs < 1073741824) && Builtin.Range.small i j c) = true then some (rngT i c (Builtin.Range.rangeSize i j c).toNat) else none
  | _ => none
def cRng (cl : M (List T)) : M (List T) := M.bind cl fun ts => match rgB ts with
  | some xs => M.pure xs
  | none => fun _ => .stuck
theorem itOk_rng {F : Addr → Prop} {H : Hp} {lo c : Int} {k : Nat} {J : It} (go : ∀ i H, i < k → J.go i H) (yl : ∀ i H x H', J.yld i H x H' → H' = H ∧ x = .int (lo + (i : Nat) * c)) (st : ∀ i H, k ≤ i → J.stop i H) : ItOk X.K X.mg B L F H J (rngT lo c k) .sc := by
  intro F2 H2 s2 tr2 trB
  refine ⟨fun i t ht => ?_, fun i hi => st i H2 ?_⟩
  · unfold rngT at ht
    rw [List.getElem?_map, Option.map_eq_some_iff] at ht
    obtain ⟨j, ej, rfl⟩ := ht
    obtain ⟨hj, ej'⟩ := List.getElem?_eq_some_iff.mp ej
    have e : i = j := by simpa using ej'
    subst e
    rw [List.length_range] at hj
    refine ⟨go i H2 hj, fun x H3 hy => ?_⟩
    obtain ⟨rfl, rfl⟩ := yl _ _ _ _ hy
    exact ⟨F2, New.nil, VR.sc_of rfl rfl⟩
  · simpa [rngT] using hi
/-- arguments, then what is walked -/
theorem postA_it {σ : L2.St} {R : It → Hp → Prop} {F : Addr → Prop} {H : Hp} {τ : List (Option T)} {f : List T → Option (List T)}
    (p : PostIt X.K X.mg W B fx L Γh Γ' mi σ R F H (M.bind cl (fun ts => match f ts with
      | some xs => M.pure xs
      | none => fun _ => Res.stuck) τ)) :
    PostA X.K X.mg W B fx L Γh Γ' ms σ (fun vs H' => ∃ F' Os' ts xs τ', SR X.K X.mg B fx L Γ' F' Os' H' σ τ' ∧ VRL X.K X.mg B L F' H' ms vs ts ∧ f ts = some xs ∧ ∀ J, ItOk X.K X.mg B L F' H' J xs mi → R J H') F H (cl τ) := by
  unfold M.bind at p
  cases hc : cl τ with
  | exn c fs xs τ' => rw [hc] at p; exact p
  | stuck => rw [hc] at p; exact p.elim
  | ok ts τ' =>
    rw [hc] at p
    intro F' Os' vs H' s S' r
    cases hf : f ts with
    | none => dsimp only at p; rw [hf] at p; exact p.elim
    | some xs =>
      dsimp only at p
      rw [hf] at p
      have p' : ∀ F' Os' H' J, Stp (B L) F H F' H' → SR X.K X.mg B fx L Γ' F' Os' H' σ τ' → ItOk X.K X.mg B L F' H' J xs mi → R J H' := p
      exact ⟨F', Os', ts, xs, τ', S', r, hf, fun J it => p' F' Os' H' J s S' it⟩
theorem bnd62_ok {i : Int} (h : bnd62 i = true) : -(2 ^ 62) ≤ i ∧ i < 2 ^ 62 := by
  unfold bnd62 at h
  rw [Bool.and_eq_true] at h
  exact ⟨of_decide_eq_true h.1, of_decide_eq_true h.2⟩
theorem vrl_one {K : PySem.W.Frag} {mg : Str → Option Value} {F : Addr → Prop} {H : Hp} {vs : List V} {ts : List T} (h : VRL K mg B L F H [ma] vs ts) : ∃ v t, vs = [v] ∧ ts = [t] ∧ VR K mg B F H ma [] v t := by
  obtain ⟨v, r, t, ts', rfl, rfl, _, _, q, rfl, rfl⟩ := h
  exact ⟨v, t, rfl, rfl, q⟩
theorem vrl_two {K : PySem.W.Frag} {mg : Str → Option Value} {F : Addr → Prop} {H : Hp} {vs : List V} {ts : List T} (h : VRL K mg B L F H [ma, mb] vs ts) : ∃ v w t u, vs = [v, w] ∧ ts = [t, u] ∧ VR K mg B F H ma [] v t ∧ VR K mg B F H mb [] w u := by
  obtain ⟨v, r, t, ts', rfl, rfl, _, _, q, h⟩ := h
  obtain ⟨w, u, rfl, rfl, q2⟩ := vrl_one h
  exact ⟨v, w, t, u, rfl, rfl, q, q2⟩
theorem wx_range1 {pp : Pos} (hg : Gl X "range") (hm : X.mg "range" = none) (ha : AX X W L Γh Γ [a] cl [ma] Γ') (hs : starEach [a] X.env = [(false, eval a X.env)]) : WX' X W L Γh Γ tg (.Call (.Name "range" pp) [a] [] pos) (cRng cl) .sc Γ' := by
  refine PI.imp (pi_range1 hg hm ha hs) fun σ H R h => ?_
  obtain ⟨B, fx, F, Os, τ, S, p⟩ := h
  refine ⟨B, fx, F, Os, τ, S, PostA.imp (postA_it p) fun vs H' q => ?_⟩
  obtain ⟨F', Os', ts, xs, τ', S', r, e, k⟩ := q
  obtain ⟨v, t, rfl, rfl, q1⟩ := vrl_one r
  cases t with
  | int j =>
    have e' : (if bnd62 j = true then some (rngT 0 1 j.toNat) else none) = some xs := e
    split at e'
    · rename_i hb
      cases e'
      obtain ⟨b1, b2⟩ := bnd62_ok hb
      obtain rfl := vr_int q1
      exact ⟨j, rfl, b1, b2, k _ (itOk_rng (fun i H h => h) (fun i H x H' h => by
        obtain ⟨h1, h2⟩ := h
        exact ⟨h1, by rw [h2]; simp⟩) fun i H h => h)⟩
    · cases e'
  | _ => cases e
theorem wx_range2 {pp : Pos} (hg : Gl X "range") (hm : X.mg "range" = none) (ha : AX X W L Γh Γ [a, b] cl [ma, mb] Γ') (hs : starEach [a, b] X.env = [(false, eval a X.env), (false, eval b X.env)]) (hs2 : starEach [b] X.env = [(false, eval b X.env)]) :
    WX' X W L Γh Γ tg (.Call (.Name "range" pp) [a, b] [] pos) (cRng cl) .sc Γ' := by
  refine PI.imp (pi_range2 hg hm ha hs hs2) fun σ H R h => ?_
  obtain ⟨B, fx, F, Os, τ, S, p⟩ := h
  refine ⟨B, fx, F, Os, τ, S, PostA.imp (postA_it p) fun vs H' q => ?_⟩
  obtain ⟨F', Os', ts, xs, τ', S', r, e, k⟩ := q
  obtain ⟨v, w, t, u, rfl, rfl, q1, q2⟩ := vrl_two r
  unfold rgB at e
  split at e
  · rename_i h; cases h
  · rename_i i j h
    cases h
    split at e
    · rename_i hb
      cases e
      rw [Bool.and_eq_true] at hb
      obtain ⟨b1, b2⟩ := bnd62_ok hb.1
      obtain ⟨b3, b4⟩ := bnd62_ok hb.2
      obtain rfl := vr_int q1
      obtain rfl := vr_int q2
      exact ⟨i, j, rfl, ⟨b1, b2, b3, b4⟩, k _ (itOk_rng (fun i H h => h) (fun i H x H' h => by
        obtain ⟨h1, h2⟩ := h
        exact ⟨h1, by rw [h2]; simp⟩) fun i H h => h)⟩
    · cases e
  · rename_i h; cases h
  · cases e
theorem wx_range3 {c : Expr} {mc : Md} {pp : Pos} (hg : Gl X "range") (hm : X.mg "range" = none) (ha : AX X W L Γh Γ [a, b, c] cl [ma, mb, mc] Γ') (hs : starEach [a, b, c] X.env = (false, eval a X.env) :: starEach [b, c] X.env) (hpl : (backTo pos (starEach [b, c] X.env)).any (·.1) = false) :
    WX' X W L Γh Γ tg (.Call (.Name "range" pp) [a, b, c] [] pos) (cRng cl) .sc Γ' := by
  refine PI.imp (pi_range3 hg hm ha hs hpl) fun σ H R h => ?_
  obtain ⟨B, fx, F, Os, τ, S, p⟩ := h
  refine ⟨B, fx, F, Os, τ, S, PostA.imp (postA_it p) fun vs H' q => ?_⟩
  obtain ⟨F', Os', ts, xs, τ', S', r, e, k⟩ := q
  obtain ⟨v, vr, t, tr, rfl, rfl, _, _, q1, r⟩ := r
  obtain ⟨w, z, u, y, rfl, rfl, q2, q3⟩ := vrl_two r
  unfold rgB at e
  split at e
  · rename_i h; cases h
  · rename_i h; cases h
  · rename_i i j c h
    cases h
    split at e
    · rename_i hb
      cases e
      rw [Bool.and_eq_true, Bool.and_eq_true] at hb
      obtain rfl := vr_int q1
      obtain rfl := vr_int q2
      obtain rfl := vr_int q3
      exact ⟨i, j, c, _, rfl, ⟨of_decide_eq_true hb.1.1, of_decide_eq_true hb.1.2, hb.2, rangeSize_toNat _ _ _⟩, k _ (itOk_rng (fun i H h => h) (fun i H x H' h => h) fun i H h => h)⟩
    · cases e
  · cases e

/-! ### comprehensions -/
def unOk (Γ0 : List Md) (z : List Nat) (own : List (Str × Nat)) : Bool := own.all fun q => decide (Γ0[q.2]? = some .un) && !z.contains q.2
theorem unOk_ok {z : List Nat} (h : unOk Γ0 z own = true) : ∀ i ∈ own.map (·.2), Γ0[i]? = some .un ∧ i ∉ z := fun i hi => by
  obtain ⟨q, hq, rfl⟩ := List.mem_map.mp hi
  have := List.all_eq_true.mp h q hq
  rw [Bool.and_eq_true] at this
  exact ⟨of_decide_eq_true this.1, by simpa using this.2⟩
def inOwn (own : List (Str × Nat)) (p : Pa) (ks : List Nat) : Bool := (p.slots.all fun i => (own.map (·.2)).contains i) && ks.all fun i => (own.map (·.2)).contains i
/-- what a comprehension asks of the modes -/
def lcOk (L : Lv) (own : List (Str × Nat)) (p : Pa) (ks : List Nat) (mi : Md) (Γ Γ0 Γ1 Γb Γ2 Γ3 : List Md) : Bool :=
  wkG Γ0 Γ1 && wkG Γ0 Γ2 && wkG Γ0 Γ3 && Γ0.all (fun m => decide (m.lv ≤ L)) && decide (mi.lv ≤ L) && decide (Γb.length = Γ.length) && unOk Γ0 L.z own && keepOk Γ1 Γ0 ks && inOwn own p ks
theorem ex_lc (hc : X.calm = true) (hN : X.N.Nodup) (hi : WX' X W L Γh Γ tg iter ci mi Γ1) (ok : BlkOk X.N X.env.scope scope own)
    (hg : ∀ (s : Shared) (H : Hp) (C : Addr) (cl : List (Str × Addr)) (fp : List Addr), GX (X.blk s H scope (compEnvC scope cl C X.env) fp) L.over Γ0 tg p mi Γb)
    (ht : ∀ (s : Shared) (H : Hp) (C : Addr) (cl : List (Str × Addr)) (fp : List Addr), TXs (X.blk s H scope (compEnvC scope cl C X.env) fp) W0 L.over Γl Γb ifs ct Γ2)
    (he : ∀ (s : Shared) (H : Hp) (C : Addr) (cl : List (Str × Addr)) (fp : List Addr), EX (X.blk s H scope (compEnvC scope cl C X.env) fp) W0 L.over Γl Γ2 elt ce (.ow d) Γ3)
    (hs : ∀ x, foldedSetIterable iter X.env x = pure x) (h : lcOk L own p ks mi Γ Γ0 Γ1 Γb Γ2 Γ3 = true) :
    EX X W L Γh Γ (.ListComp elt [⟨tg, iter, ifs, 0⟩] scope pos) (cLc ci ks p ct ce) (.ow (d + 1)) (keepG Γ1 ks Γ0) := by
  simp only [lcOk, inOwn, Bool.and_eq_true, decide_eq_true_eq] at h
  obtain ⟨⟨⟨⟨⟨⟨⟨⟨w1, w2⟩, w3⟩, lv⟩, lmi⟩, hlen⟩, hun⟩, hks⟩, hp1, hp2⟩ := h
  have hun' := unOk_ok hun
  refine PE.imp (pe_lc (g := RG X.K X.mg L.over Γ0 p mi Γb) (tt := RT X.K X.mg W0 L.over Γl Γb ct Γ2) (te := RE X.K X.mg W0 L.over Γl Γ2 ce (.ow d) Γ3) hc hN hi ok hg ht he hs) fun σ H Q q => ?_
  exact lc_read (fun _ _ _ h => h) (fun _ _ _ _ h => h) (fun _ _ _ h => h) (fun _ _ _ h => h) w1 w2 w3 lv lmi hlen hun' hks (fun i hi => (hun' i (by simpa using List.all_eq_true.mp hp2 i hi)).2) (fun j hj => by simpa using List.all_eq_true.mp hp1 j hj) σ H Q q
theorem s_setLc {i : Nat} {y : Str} {py spos : Pos} (hc : X.calm = true) (hN : X.N.Nodup) (hy : X.N[i]? = some y) (hyl : X.env.scope.names.lookup y = some .local)
    (hsw : swapsWith (.ListComp elt [⟨tg, iter, ifs, 0⟩] scope pos) (some (.Name y py)) spos.line X.env = pure true) (hi : WX' X W L Γh Γ tg iter ci mi Γ1) (ok : BlkOk X.N X.env.scope scope own)
    (hg : ∀ (s : Shared) (H : Hp) (C : Addr) (cl : List (Str × Addr)) (fp : List Addr), GX (X.blk s H scope (compEnvC scope cl C X.env) fp) L.over Γ0 tg p mi Γb)
    (ht : ∀ (s : Shared) (H : Hp) (C : Addr) (cl : List (Str × Addr)) (fp : List Addr), TXs (X.blk s H scope (compEnvC scope cl C X.env) fp) W0 L.over Γl Γb ifs ct Γ2)
    (he : ∀ (s : Shared) (H : Hp) (C : Addr) (cl : List (Str × Addr)) (fp : List Addr), EX (X.blk s H scope (compEnvC scope cl C X.env) fp) W0 L.over Γl Γ2 elt ce (.ow d) Γ3)
    (hs : ∀ x, foldedSetIterable iter X.env x = pure x) (h : lcOk L own p ks mi Γ Γ0 Γ1 Γb Γ2 Γ3 = true) (hl : i < (keepG Γ1 ks Γ0).length) (hz : L.z.contains i = false) :
    SX1 X W L Γh n Γ (.Assign [.Name y py] (.ListComp elt [⟨tg, iter, ifs, 0⟩] scope pos) spos) (cSet i (cLc ci ks p ct ce)) ((keepG Γ1 ks Γ0).set i (.ow (d + 1))) := by
  simp only [lcOk, inOwn, Bool.and_eq_true, decide_eq_true_eq] at h
  obtain ⟨⟨⟨⟨⟨⟨⟨⟨w1, w2⟩, w3⟩, lv⟩, lmi⟩, hlen⟩, hun⟩, hks⟩, hp1, hp2⟩ := h
  have hun' := unOk_ok hun
  refine PS.imp (ps_setLc (g := RG X.K X.mg L.over Γ0 p mi Γb) (tt := RT X.K X.mg W0 L.over Γl Γb ct Γ2) (te := RE X.K X.mg W0 L.over Γl Γ2 ce (.ow d) Γ3) hc hN hy hyl hsw hi ok hg ht he hs) fun D σ H q => ?_
  obtain ⟨B, fx, F, Os, τ, S, q⟩ := q
  exact lc_read (fun _ _ _ h => h) (fun _ _ _ _ h => h) (fun _ _ _ h => h) (fun _ _ _ h => h) w1 w2 w3 lv lmi hlen hun' hks (fun i hi => (hun' i (by simpa using List.all_eq_true.mp hp2 i hi)).2) (fun j hj => by simpa using List.all_eq_true.mp hp1 j hj) σ H _
    ⟨B, fx, F, Os, τ, S, postS_bind q fun t τ' F' Os' O v H' s S' xt r p' => p' F' _ H' _ Stp.refl (S'.put xt r hl hz (Nat.zero_le _))⟩
end
end TL

/-! TL15: places within an owned tree; a tree is changed at a place -/
namespace TL
open PySem PySem.Spec PyProof.Rows L2

def kids : T → Option (List T)
  | .lst xs => some xs
  | .dct _ xs => some xs
  | .dcT _ xs => some xs
  | .ins _ _ xs => some xs
  | _ => none
def withKids (xs : List T) : T → T
  | .lst _ => .lst xs
  | .dct ks _ => .dct ks xs
  | .dcT ks _ => .dcT ks xs
  | .ins c fs _ => .ins c fs xs
  | t => t
def getP : List Nat → T → Option T
  | [], t => some t
  | j :: π, t => match kids t with
    | some xs => match xs[j]? with
      | some x => getP π x
      | none => none
    | none => none
def setP (s : T) : List Nat → T → T
  | [], _ => s
  | j :: π, t => match kids t with
    | some xs => match xs[j]? with
      | some x => withKids (xs.set j (setP s π x)) t
      | none => t
    | none => t
def kidsH : HO → Option (List V)
  | .lst vs => some vs
  | .dK kvs => some (kvs.map (·.2))
  | .dT kvs => some (kvs.map (·.2))
  | .ins _ _ kvs => some (kvs.map (·.2))
  | _ => none
/-- the value at a place -/
def At (H : Hp) (v : V) : List Nat → V → Prop
  | [], w => w = v
  | j :: π, w => ∃ a o vs u, v = .ref a ∧ H a = some o ∧ kidsH o = some vs ∧ vs[j]? = some u ∧ At H u π w
theorem At.fn {H : Hp} : ∀ {π : List Nat} {v w w' : V}, At H v π w → At H v π w' → w = w'
  | [], v, w, w', h, h' => by
    have e1 : w = v := h
    have e2 : w' = v := h'
    rw [e1, e2]
  | j :: π, v, w, w', h, h' => by
    obtain ⟨a, o, vs, u, rfl, e1, e2, e3, r⟩ := h
    obtain ⟨a', o', vs', u', e, e1', e2', e3', r'⟩ := h'
    cases e
    rw [e1] at e1'
    cases e1'
    rw [e2] at e2'
    cases e2'
    rw [e3] at e3'
    cases e3'
    exact r.fn r'
theorem At.snoc {H : Hp} {a : Addr} {o : HO} {vs : List V} {j : Nat} {u : V} (h1 : H a = some o) (h2 : kidsH o = some vs) (h3 : vs[j]? = some u) : ∀ {π : List Nat} {v : V}, At H v π (.ref a) → At H v (π ++ [j]) u
  | [], v, h => by
    have e : V.ref a = v := h
    exact ⟨a, o, vs, u, e.symm, h1, h2, h3, rfl⟩
  | k :: π, v, h => by
    obtain ⟨b, o', vs', u', rfl, e1, e2, e3, r⟩ := h
    exact ⟨b, o', vs', u', rfl, e1, e2, e3, At.snoc h1 h2 h3 r⟩
section
variable {K : PySem.W.Frag} {mg : Str → Option Value} {B : Nat → Addr → Prop} {fx : Fx} {L : Lv} {Γ Γ1 : List Md} {F F1 : Addr → Prop} {Os Os1 : Nat → List Addr} {H H1 : Hp} {σ σ1 : L2.St} {τ τ1 : List (Option T)} {O : List Addr}
theorem set_flat {α : Type} : ∀ {Os : List (List α)} {j : Nat} {O O' : List α}, Os[j]? = some O → Os.flatten = (Os.take j).flatten ++ O ++ (Os.drop (j + 1)).flatten ∧ (Os.set j O').flatten = (Os.take j).flatten ++ O' ++ (Os.drop (j + 1)).flatten
  | [], _, _, _, h => by simp at h
  | P :: Os, 0, O, O', h => by
    simp at h
    subst h
    simp
  | P :: Os, j + 1, O, O', h => by
    have := set_flat (Os := Os) (j := j) (O := O) (O' := O') (by simpa using h)
    simp [this.1, this.2]
theorem owl_at {R : List Addr → V → T → Prop} : ∀ {xs : List T} {Os : List (List Addr)} {vs : List V} {j : Nat} {x : T}, OwL R Os vs xs → xs[j]? = some x → ∃ O u, Os[j]? = some O ∧ vs[j]? = some u ∧ R O u x ∧
    ∀ (R' : List Addr → V → T → Prop) (O' : List Addr) (x' : T), (∀ O v t, O ∈ Os.take j ∨ O ∈ Os.drop (j + 1) → R O v t → R' O v t) → R' O' u x' → OwL R' (Os.set j O') vs (xs.set j x')
  | [], _, _, _, _, _, e => by simp at e
  | y :: xs, _, _, 0, x, h, e => by
    obtain ⟨O, Os', v, r, rfl, rfl, q, h⟩ := h
    simp at e
    subst e
    exact ⟨O, v, rfl, rfl, q, fun R' O' x' k hr => ⟨O', Os', v, r, rfl, rfl, hr, owl_mono h fun P w t hP => k P w t (.inr (by simpa using hP))⟩⟩
  | y :: xs, _, _, j + 1, x, h, e => by
    obtain ⟨O, Os', v, r, rfl, rfl, q, h⟩ := h
    obtain ⟨P, u, e1, e2, e3, e4⟩ := owl_at (j := j) h (by simpa using e)
    refine ⟨P, u, by simpa using e1, by simpa using e2, e3, fun R' O' x' k hr => ⟨O, Os'.set j O', v, r, rfl, rfl, k O v y (.inl (by simp)) q, e4 R' O' x' (fun Q w t hQ => k Q w t ?_) hr⟩⟩
    rcases hQ with z | z
    · exact .inl (by simp [z])
    · exact .inr (by simpa using z)
/-- an owned container, opened -/
theorem Ow.opn {d : Nat} {v : V} {t : T} {xs : List T} (h : Ow K mg H F (d + 1) O v t) (hk : kids t = some xs) : ∃ a o vs Os, v = .ref a ∧ H a = some o ∧ Mut (some o) ∧ kidsH o = some vs ∧ O = a :: Os.flatten ∧ OwL (Ow K mg H F d) Os vs xs ∧
    ∀ (H' : Hp) (F' : Addr → Prop) (Os' : List (List Addr)) (xs' : List T), H' a = some o → OwL (Ow K mg H' F' d) Os' vs xs' → Ow K mg H' F' (d + 1) (a :: Os'.flatten) v (withKids xs' t) := by
  cases t with
  | lst ys =>
    cases hk
    obtain ⟨a, vs, Os, rfl, l, rfl, r⟩ := h
    exact ⟨a, _, vs, Os, rfl, l, trivial, rfl, rfl, r, fun H' F' Os' xs' e q => ⟨a, vs, Os', rfl, e, rfl, q⟩⟩
  | dct ks ys =>
    cases hk
    obtain ⟨a, kvs, Os, rfl, l, ek, rfl, r⟩ := h
    exact ⟨a, _, _, Os, rfl, l, trivial, rfl, rfl, r, fun H' F' Os' xs' e q => ⟨a, kvs, Os', rfl, e, ek, rfl, q⟩⟩
  | dcT ks ys =>
    cases hk
    obtain ⟨a, kvs, Os, rfl, l, ek, rfl, r⟩ := h
    exact ⟨a, _, _, Os, rfl, l, trivial, rfl, rfl, r, fun H' F' Os' xs' e q => ⟨a, kvs, Os', rfl, e, ek, rfl, q⟩⟩
  | ins c fs ys =>
    cases hk
    obtain ⟨a, A, dx, kvs, Os, rfl, l, m, ek, rfl, r⟩ := h
    exact ⟨a, _, _, Os, rfl, l, trivial, rfl, rfl, r, fun H' F' Os' xs' e q => ⟨a, A, dx, kvs, Os', rfl, e, m, ek, rfl, q⟩⟩
  | _ => cases hk
/-- the focus: what stands at a place, and what becomes of the whole if it is changed -/
theorem Ow.foc : ∀ {π : List Nat} {d : Nat} {O : List Addr} {v : V} {t s : T}, Ow K mg H F (π.length + d) O v t → getP π t = some s → ∃ w A P C, At H v π w ∧ O = A ++ P ++ C ∧ Ow K mg H F d P w s ∧
    ∀ (H' : Hp) (F' : Addr → Prop) (P' : List Addr) (s' : T), (∀ a ∈ A ++ C, H' a = H a) → Kp F H H' → (∀ a, F a → F' a) → Ow K mg H' F' d P' w s' → Ow K mg H' F' (π.length + d) (A ++ P' ++ C) v (setP s' π t)
  | [], d, O, v, t, s, h, e => by
    cases e
    have e0 : ([] : List Nat).length + d = d := by simp
    rw [e0] at h ⊢
    exact ⟨v, [], O, [], rfl, by simp, h, fun H' F' P' s' _ _ _ q => by simpa [setP] using q⟩
  | j :: π, d, O, v, t, s, h, e => by
    have e0 : (j :: π).length + d = (π.length + d) + 1 := by simp; omega
    rw [e0] at h ⊢
    unfold getP at e
    cases hk : kids t with
    | none => rw [hk] at e; cases e
    | some xs =>
      rw [hk] at e
      dsimp only at e
      cases hx : xs[j]? with
      | none => rw [hx] at e; cases e
      | some x =>
        rw [hx] at e
        dsimp only at e
        obtain ⟨a, o, vs, Os, rfl, ho, _, hkh, rfl, r, back⟩ := h.opn hk
        obtain ⟨Q, u, eQ, eu, hq, k⟩ := owl_at r hx
        obtain ⟨w, A, P, C, at1, rfl, hw, upd1⟩ := Ow.foc (π := π) hq e
        obtain ⟨f1, _⟩ := set_flat (O' := []) eQ
        refine ⟨w, a :: (Os.take j).flatten ++ A, P, C ++ (Os.drop (j + 1)).flatten, ⟨a, o, vs, u, rfl, ho, hkh, eu, at1⟩, by rw [f1]; simp, hw, fun H' F' P' s' hs kp hf q => ?_⟩
        have q1 := upd1 H' F' P' s' (fun b hb => hs b (by
          rcases List.mem_append.mp hb with z | z
          · simp [z]
          · simp [z])) kp hf q
        have q2 := k (Ow K mg H' F' (π.length + d)) (A ++ P' ++ C) (setP s' π x) (fun R w' t' hR hr => hr.mono kp hf fun b hb => hs b (by
          rcases hR with z | z
          · have : b ∈ (Os.take j).flatten := List.mem_flatten.mpr ⟨R, z, hb⟩
            simp [this]
          · have : b ∈ (Os.drop (j + 1)).flatten := List.mem_flatten.mpr ⟨R, z, hb⟩
            simp [this])) q1
        have q3 := back H' F' _ _ ((hs a (by simp)).trans ho) q2
        obtain ⟨_, f2⟩ := set_flat (O' := A ++ P' ++ C) eQ
        rw [f2] at q3
        have e4 : setP s' (j :: π) t = withKids (xs.set j (setP s' π x)) t := by
          show (match kids t with
            | some xs => match xs[j]? with
              | some x => withKids (xs.set j (setP s' π x)) t
              | none => t
            | none => t) = _
          rw [hk]
          dsimp only
          rw [hx]
        rw [e4]
        have e5 : a :: (Os.take j).flatten ++ A ++ P' ++ (C ++ (Os.drop (j + 1)).flatten) = a :: ((Os.take j).flatten ++ (A ++ P' ++ C) ++ (Os.drop (j + 1)).flatten) := by simp
        rw [e5]
        exact q3
/-- a place's value stands while what is owned stands -/
theorem At.keep {H' : Hp} : ∀ {π : List Nat} {d : Nat} {O : List Addr} {v w : V} {t s : T}, Ow K mg H F (π.length + d) O v t → getP π t = some s → At H v π w → (∀ a ∈ O, H' a = H a) → At H' v π w
  | [], d, O, v, w, t, s, h, e, a, hs => a
  | j :: π, d, O, v, w, t, s, h, e, at0, hs => by
    have e0 : (j :: π).length + d = (π.length + d) + 1 := by simp; omega
    rw [e0] at h
    unfold getP at e
    cases hk : kids t with
    | none => rw [hk] at e; cases e
    | some xs =>
      rw [hk] at e
      dsimp only at e
      cases hx : xs[j]? with
      | none => rw [hx] at e; cases e
      | some x =>
        rw [hx] at e
        dsimp only at e
        obtain ⟨a, o, vs, Os, rfl, ho, _, hkh, rfl, r, back⟩ := h.opn hk
        obtain ⟨Q, u, eQ, eu, hq, k⟩ := owl_at r hx
        obtain ⟨a', o', vs', u', ea, e1, e2, e3, r'⟩ := at0
        cases ea
        rw [ho] at e1
        cases e1
        rw [hkh] at e2
        cases e2
        rw [eu] at e3
        cases e3
        exact ⟨a, o, vs, u, rfl, (hs a (by simp)).trans ho, hkh, eu, At.keep hq e r' fun b hb => hs b (List.mem_cons_of_mem _ (List.mem_flatten.mpr ⟨Q, List.mem_of_getElem? eQ, hb⟩))⟩

/-- the tree of an owned slot is changed by one write at an owned address -/
theorem SR.mut {z D : Nat} {v : V} {t' : T} {a : Addr} {o o' : HO} {Oy O' : List Addr} (S : SR K mg B fx L Γ F Os H σ τ) (hz : Γ[z]? = some (.ow D)) (hv : σ[z]? = some (some v)) (ha : a ∈ Os z) (ho : H a = some o) (hm : Mut (some o)) (x : Xt (B L) F H Os Oy)
    (nd : O'.Nodup) (sub : ∀ b ∈ O', b ∈ Os z ∨ b ∈ Oy) (hw : Ow K mg (upd H a o') F D O' v t') :
    SR K mg B fx L Γ F (fun j => if j = z then O' else Os j) (upd H a o') σ (τ.set z (some t')) ∧ Stp (B L) F H F (upd H a o') := by
  have fa := S.own z a ha
  have ne : ∀ b, b ≠ a → upd H a o' b = H b := fun b h => upd_ne h
  have s : Stp (B L) F H F (upd H a o') := by
    refine ⟨fun _ h => h, fun _ h => .inl h, fun b h => ne b fun e => ?_, fun b u e n => ?_, fun b h => ?_, fun hF b h => ?_⟩
    · subst e; exact h.elim fa.1 fa.2.1
    · by_cases e' : b = a
      · subst e'
        rw [ho] at e
        cases e
        exact absurd hm n
      · rw [ne b e']; exact e
    · by_cases e' : b = a
      · subst e'; rw [upd_same]; simp
      · rw [ne b e']; exact h
    · rw [ne b fun e => fa.1 (by rw [← e]; exact h)]; exact hF b h
  have hlt := (List.getElem?_eq_some_iff.mp hz).1
  refine ⟨⟨S.lσ, by rw [List.length_set]; exact S.lτ, fun i m em => ?_, fun i hi => ?_, S.lv, fun i => ?_, fun i j b hi hj => ?_, fun i b hb => ?_, s.tf S.trF, fun b hb => s.tr b (S.trB b hb), S.mono, S.fix, fun p hp => ?_, S.fz⟩, s⟩
  · by_cases hi : i = z
    · subst hi
      rw [hz] at em
      cases em
      rw [if_pos rfl]
      exact .inr ⟨v, t', hv, List.getElem?_set_self (by rw [S.lτ]; exact hlt), hw⟩
    · rw [if_neg hi, List.getElem?_set_ne (Ne.symm hi)]
      exact (S.slot i m em).step S.mono s (S.lv m (List.mem_of_getElem? em)) fun b hb => ne b fun e => hi (S.dj i z b hb (by rw [e]; exact ha))
  · rw [if_neg (by omega)]
    exact S.out i hi
  · split
    · exact nd
    · exact S.nd i
  · split at hi
    · rename_i h1
      split at hj
      · rename_i h2; rw [h1, h2]
      · rename_i h2
        rcases sub b hi with q | q
        · exact absurd (S.dj z j b q hj) fun e => h2 e.symm
        · exact absurd hj (x.dj b q j)
    · rename_i h1
      split at hj
      · rcases sub b hj with q | q
        · exact absurd (S.dj i z b hi q) h1
        · exact absurd hi (x.dj b q i)
      · exact S.dj i j b hi hj
  · split at hb
    · rcases sub b hb with q | q
      · exact ⟨(S.own z b q).1, (S.own z b q).2.1, s.tr b (S.own z b q).2.2⟩
      · exact ⟨(x.own b q).1, (x.own b q).2.1, s.tr b (x.own b q).2.2⟩
    · exact ⟨(S.own i b hb).1, (S.own i b hb).2.1, s.tr b (S.own i b hb).2.2⟩
  · have hne : z ≠ p.1 := fun e => by
      have := (S.fixT p hp).2 _ (by rw [← e]; exact hz)
      cases this
    rw [List.getElem?_set_ne hne]
    exact S.fixT p hp

/-! ### places as closures -/
def PostP (K : PySem.W.Frag) (mg : Str → Option Value) (B : Nat → Addr → Prop) (fx : Fx) (L : Lv) (Γ' : List Md) (z : Nat) (σ : L2.St) (Q : VK) (F : Addr → Prop) (H : Hp) : Res (List Nat) → Prop
  | .ok π τ' => ∀ F' Os' H' v w t s, Stp (B L) F H F' H' → SR K mg B fx L Γ' F' Os' H' σ τ' → σ[z]? = some (some v) → τ'[z]? = some (some t) → getP π t = some s → At H' v π w → Q w H'
  | _ => False
/-- a place in the slot z, evaluated where the slot is lent; nothing is raised -/
def RP (K : PySem.W.Frag) (mg : Str → Option Value) (L : Lv) (Γ : List Md) (z : Nat) (c : M (List Nat)) (Γ' : List Md) : TE := fun σ H Q =>
  ∃ B fx F Os τ, SR K mg B fx L Γ F Os H σ τ ∧ PostP K mg B fx L Γ' z σ Q F H (c τ)
end
abbrev PX (X : Cx) (L : Lv) (Γ : List Md) (z : Nat) (e : Expr) (c : M (List Nat)) (Γ' : List Md) : Prop := PE X e (RP X.K X.mg L Γ z c Γ')
def cP0 : M (List Nat) := M.pure []
def ixP (t : Option (Option T)) (π : List Nat) (i : T) : Option (List Nat) := match t, i with
  | some (some t), .int i => match getP π t with
    | some (.lst xs) => (ixN xs.length i).map fun j => π ++ [j]
    | _ => none
  | _, _ => none
/-- the first place of a field -/
def posF (f : Str) : List Str → Option Nat
  | [] => none
  | g :: r => if f = g then some 0 else (posF f r).map (· + 1)
def fldP (tab : Str → Str → Bool) (f : Str) (t : Option (Option T)) (π : List Nat) : Option (List Nat) := match t with
  | some (some t) => match getP π t with
    | some (.ins c fs xs) => if tab c f = true then (posF f fs).map fun j => π ++ [j] else none
    | _ => none
  | _ => none
def cPix (z D : Nat) (cp : M (List Nat)) (ci : M T) : M (List Nat) := M.bind cp fun π => M.bind ci fun i τ => match ixP τ[z]? π i with
  | some π' => if π.length < D then .ok π' τ else .stuck
  | none => .stuck
def cPfld (z D : Nat) (tab : Str → Str → Bool) (f : Str) (cp : M (List Nat)) : M (List Nat) := M.bind cp fun π τ => match fldP tab f τ[z]? π with
  | some π' => if π.length < D then .ok π' τ else .stuck
  | none => .stuck
section
variable {X : Cx} {W : WX} {B : Nat → Addr → Prop} {fx : Fx} {L : Lv} {Γh Γ Γ1 Γ2 Γ3 Γ' Γl : List Md} {e a b p : Expr} {es : List Expr} {c ca ce ci : M T} {cp : M (List Nat)} {m ma mi : Md} {pos apos : Pos} {z D l : Nat}
theorem px_name {x : Str} (hN : X.N[z]? = some x) (hv : Vis X.env.scope x) (hd : (x == ("__debug__" : Str)) = false) (hcd : (x == ("__classdict__" : Str)) = false) (hm : Γ[z]? = some m) (hu : m ≠ .un) : PX X L Γ z (.Name x pos) cP0 Γ := by
  refine PE.imp (pe_var hN hv hd hcd) fun σ H Q h => ?_
  obtain ⟨B, fx, F, Os, τ, S, p⟩ := h
  rcases S.slot z m hm with ⟨e, _⟩ | ⟨v, t, e1, e2, r⟩
  · exact absurd e hu
  · exact ⟨v, e1, p F Os H v v t t Stp.refl S e1 e2 rfl rfl⟩
/-- of a lent slot: its tree, owned by the region -/
theorem lent_ow {K : PySem.W.Frag} {mg : Str → Option Value} {F : Addr → Prop} {Os : Nat → List Addr} {H : Hp} {σ : L2.St} {τ : List (Option T)} {v : V} {t : T} (S : SR K mg B fx L Γ F Os H σ τ) (hm : Γ[z]? = some (.bk l D)) (hv : σ[z]? = some (some v)) (ht : τ[z]? = some (some t)) :
    ∃ O, (∀ a ∈ O, B L a) ∧ Ow K mg H F D O v t := by
  rcases S.slot z _ hm with ⟨e, _⟩ | ⟨v', t', e1, e2, r⟩
  · cases e
  · rw [hv] at e1
    rw [ht] at e2
    cases e1
    cases e2
    obtain ⟨_, O, hO, q⟩ := r
    exact ⟨O, fun a ha => S.mono _ _ _ (S.lv _ (List.mem_of_getElem? hm)) (hO a ha), q⟩
theorem getP_snoc {j : Nat} {s x : T} {xs : List T} : ∀ {π : List Nat} {t : T}, getP π t = some s → kids s = some xs → xs[j]? = some x → getP (π ++ [j]) t = some x
  | [], t, e, hk, hx => by
    have e : t = s := Option.some.inj e
    subst e
    show (match kids t with
      | some xs => match xs[j]? with
        | some x => getP [] x
        | none => none
      | none => none) = some x
    rw [hk]
    dsimp only
    rw [hx]
    rfl
  | k :: π, t, e, hk, hx => by
    unfold getP at e
    show (match kids t with
      | some xs => match xs[k]? with
        | some x => getP (π ++ [j]) x
        | none => none
      | none => none) = some x
    cases h1 : kids t with
    | none => rw [h1] at e; cases e
    | some ys =>
      rw [h1] at e
      dsimp only at e ⊢
      cases h2 : ys[k]? with
      | none => rw [h2] at e; cases e
      | some y =>
        rw [h2] at e
        exact getP_snoc e hk hx
theorem px_ix (hu : X.A.units + 1 < cLine) (hp : PX X L Γ z p cp Γ1) (hi : EX X W0 L Γh Γ1 b ci mi Γ2) (ni : mi.own = false) (hs : PlainIx b) (h1 : Γ1[z]? = some (.bk l D)) (h2 : Γ2[z]? = some (.bk l D)) :
    PX X L Γ z (.Subscript p b pos) (cPix z D cp ci) Γ2 := by
  refine PE.imp (pe_ix (ix_any hu) hp hi hs) fun σ H Q h => ?_
  obtain ⟨B, fx, F, Os, τ, S, q⟩ := h
  refine ⟨B, fx, F, Os, τ, S, ?_⟩
  unfold cPix M.bind at q
  cases hc : cp τ with
  | exn c fs xs τ' => rw [hc] at q; exact q
  | stuck => rw [hc] at q; exact q
  | ok π τ1 =>
    rw [hc] at q
    intro F1 Os1 H1 v w t s s1 S1 ev et eg at1
    refine ⟨B, fx, F1, Os1, τ1, S1, ?_⟩
    dsimp only at q
    cases hci : ci τ1 with
    | exn c fs xs τ' => rw [hci] at q; exact q.elim
    | stuck => rw [hci] at q; exact q.elim
    | ok i τ2 =>
      rw [hci] at q
      dsimp only at q
      intro F2 Os2 O2 u H2 s2 S2 x2 r2
      have eO := r2.noO ni
      subst eO
      cases hx : ixP τ2[z]? π i with
      | none => rw [hx] at q; exact q.elim
      | some π' =>
        rw [hx] at q
        dsimp only at q
        by_cases hlt : π.length < D
        · rw [if_pos hlt] at q
          unfold ixP at hx
          split at hx
          · rename_i _ _ t2 i' et2
            split at hx
            · rename_i xs eg2
              rw [Option.map_eq_some_iff] at hx
              obtain ⟨j, ej, rfl⟩ := hx
              obtain ⟨O1, hO1, ow1⟩ := lent_ow S1 h1 ev et
              obtain ⟨O2', hO2, ow2⟩ := lent_ow S2 h2 ev et2
              obtain ⟨d, rfl⟩ : ∃ d, D = π.length + (d + 1) := ⟨D - π.length - 1, by omega⟩
              have at2 := At.keep ow1 eg at1 fun b hb => s2.at_ b (.inr (hO1 b hb))
              obtain ⟨w2, A, P, C, at3, _, ow3, _⟩ := Ow.foc ow2 eg2
              have ew := at2.fn at3
              subst ew
              obtain ⟨a, o, vs, Os3, rfl, ho, _, hk, _, r3, _⟩ := ow3.opn rfl
              have ol : o = .lst vs := by
                obtain ⟨a', vs', Os', e, l, _⟩ := ow3
                cases e
                rw [ho] at l
                cases l
                cases hk
                rfl
              subst ol
              obtain ⟨k1, k2, _⟩ := ixN_seq ej
              have hlv := (owl_len r3).2
              have ex : xs[j]? = some xs[j] := List.getElem?_eq_getElem k2
              obtain ⟨u', ev'⟩ : ∃ u', vs[j]? = some u' := ⟨vs[j]'(by omega), List.getElem?_eq_getElem (by omega)⟩
              refine .inl ⟨a, vs, i', u', rfl, vr_int r2, .inl (.inl ho), ?_, ?_⟩
              · unfold atI
                have e5 : ixN vs.length i' = some j := by rw [hlv]; exact ej
                rw [e5]
                exact ev'
              · exact q F2 Os2 H2 v u' t2 xs[j] (s1.trans s2) S2 ev et2 (getP_snoc eg2 rfl ex) (At.snoc ho rfl ev' at2)
            · cases hx
          · cases hx
        · rw [if_neg hlt] at q; exact q.elim
theorem posF_get {f : Str} : ∀ {kvs : List (Str × V)} {j : Nat}, posF f (kvs.map (·.1)) = some j → ∃ u, kvs.lookup f = some u ∧ (kvs.map (·.2))[j]? = some u
  | [], _, h => by cases h
  | (g, u) :: r, j, h => by
    unfold posF at h
    rw [List.map_cons] at h
    dsimp only at h
    by_cases e : f = g
    · rw [if_pos e] at h
      cases h
      refine ⟨u, ?_, rfl⟩
      rw [List.lookup_cons]
      simp [e]
    · rw [if_neg e, Option.map_eq_some_iff] at h
      obtain ⟨k, ek, rfl⟩ := h
      obtain ⟨u', e1, e2⟩ := posF_get ek
      refine ⟨u', ?_, by simpa using e2⟩
      rw [List.lookup_cons]
      have : (f == g) = false := by simpa using e
      rw [this]
      exact e1
theorem px_fld {tab : Str → Str → Bool} {f : Str} (ok : FldOk X.K X.mg tab) (hp : PX X L Γ z p cp Γ1) (hb : attributeBase p f X.env (eval p X.env) = eval p X.env) (h1 : Γ1[z]? = some (.bk l D)) : PX X L Γ z (.Attribute p f pos) (cPfld z D tab f cp) Γ1 := by
  refine PE.imp (pe_fld hp hb) fun σ H Q h => ?_
  obtain ⟨B, fx, F, Os, τ, S, q⟩ := h
  refine ⟨B, fx, F, Os, τ, S, ?_⟩
  unfold cPfld M.bind at q
  cases hc : cp τ with
  | exn c fs xs τ' => rw [hc] at q; exact q
  | stuck => rw [hc] at q; exact q
  | ok π τ1 =>
    rw [hc] at q
    intro F1 Os1 H1 v w t s s1 S1 ev et eg at1
    dsimp only at q
    cases hx : fldP tab f τ1[z]? π with
    | none => rw [hx] at q; exact q.elim
    | some π' =>
      rw [hx] at q
      dsimp only at q
      by_cases hlt : π.length < D
      · rw [if_pos hlt] at q
        rw [et] at hx
        unfold fldP at hx
        dsimp only at hx
        rw [eg] at hx
        split at hx
        · rename_i c fs xs eg2
          cases eg2
          split at hx
          · rename_i htab
            rw [Option.map_eq_some_iff] at hx
            obtain ⟨j, ej, rfl⟩ := hx
            obtain ⟨O1, hO1, ow1⟩ := lent_ow S1 h1 ev et
            obtain ⟨d, rfl⟩ : ∃ d, D = π.length + (d + 1) := ⟨D - π.length - 1, by omega⟩
            obtain ⟨w2, A, P, C, at3, _, ow3, _⟩ := Ow.foc ow1 eg
            have ew := at1.fn at3
            subst ew
            obtain ⟨a, A', dx, kvs, Os3, rfl, ho, hmg, ek, _, r3⟩ := ow3
            subst ek
            obtain ⟨u, eu1, eu2⟩ := posF_get ej
            obtain ⟨hcls, hno⟩ := ok c f A' htab hmg
            obtain ⟨_, x, ex⟩ : ∃ _ : True, ∃ x, xs[j]? = some x := by
              have l1 := (owl_len r3).2
              have l2 : j < (kvs.map (·.2)).length := (List.getElem?_eq_some_iff.mp eu2).1
              exact ⟨trivial, xs[j]'(by omega), List.getElem?_eq_getElem (by omega)⟩
            exact ⟨a, A', dx, kvs, u, rfl, ho, hcls, hno, eu1, q F1 Os1 H1 v u t x s1 S1 ev et (getP_snoc eg rfl ex) (At.snoc ho rfl eu2 at1)⟩
          · cases hx
        · cases hx
      · rw [if_neg hlt] at q; exact q.elim
end
end TL

/-! TL16: append, extend, pop, insert; x[i] = e, o.f = e -/
namespace TL
open PySem PySem.Spec PyProof.Rows L2
section
variable {X : Cx} {W : WX} {B : Nat → Addr → Prop} {fx : Fx} {L : Lv} {Γh Γ Γ1 Γ2 Γ3 Γ' Γl : List Md} {n : En} {e e2 a b p : Expr} {es : List Expr} {c ca ce ci ce2 : M T} {cp : M (List Nat)} {m me mi : Md} {pos apos : Pos} {z D d l : Nat}

theorem backG_z {Γ2 : List Md} {L z D : Nat} (h : z < Γ2.length) : (backG L z D Γ2)[z]? = some (.ow D) := by
  unfold backG
  rw [List.getElem?_set_self (by rw [List.length_map]; exact h)]
/-- the end of a change at a place -/
theorem mut_end {K : PySem.W.Frag} {mg : Str → Option Value} {F F2 : Addr → Prop} {Os Os2 : Nat → List Addr} {H H2 : Hp} {σ : L2.St} {τ τ2 : List (Option T)} {v w : V} {t s t2 : T} {π : List Nat} {Oy : List Addr}
    (S : SR K mg B fx L Γ F Os H σ τ) (hz : Γ[z]? = some (.ow D)) (hv : σ[z]? = some (some v)) (ht : τ[z]? = some (some t)) (s2 : Stp (lendB B L (Os z) (L.up z).n) F H F2 H2)
    (S2 : SR K mg (lendB B L (Os z)) ⟨(z, v) :: fx.vs, (z, t) :: fx.ts⟩ (L.up z) Γ2 F2 Os2 H2 σ τ2) (x : Xt (lendB B L (Os z) (L.up z).n) F2 H2 Os2 Oy) (hl : Γ2.length = Γ.length) (hD : π.length + d = D) (et : τ2[z]? = some (some t2)) (eg : getP π t2 = some s) (at2 : At H2 v π w) :
    ∃ P, Ow K mg H2 F2 d P w s ∧ (P ++ Oy).Nodup ∧ (∀ a ∈ P ++ Oy, ¬ F2 a ∧ H2 a ≠ none) ∧ ∀ a o o' O' Or s', a ∈ P → H2 a = some o → Mut (some o) → Ow K mg (upd H2 a o') F2 d O' w s' → (O' ++ Or).Nodup → (∀ b ∈ O' ++ Or, b ∈ P ++ Oy) →
      ∃ Os', SR K mg B fx L (backG L z D Γ2) F2 Os' (upd H2 a o') σ (τ2.set z (some (setP s' π t2))) ∧ Stp (B L) F H F2 (upd H2 a o') ∧ Xt (B L) F2 (upd H2 a o') Os' Or := by
  have hzl := (List.getElem?_eq_some_iff.mp hz).1
  obtain ⟨S3, s3⟩ := S.unlend hz hv ht s2 S2 hl
  have et0 := (S2.fixT (z, t) (by simp)).1
  have e0 : τ2[z]? = some (some t) := et0
  rw [et] at e0
  have e1 : t2 = t := by simpa using e0
  subst e1
  have hz3 : (backG L z D Γ2)[z]? = some (.ow D) := backG_z (by rw [hl]; exact hzl)
  have ow : Ow K mg H2 F2 D (Os z) v t2 := by
    rcases S3.slot z _ hz3 with ⟨q, _⟩ | ⟨v', t', e1, e2, r⟩
    · cases q
    · rw [hv] at e1
      rw [et] at e2
      cases e1
      cases e2
      rw [if_pos rfl] at r
      exact r
  subst hD
  obtain ⟨w2, A, P, C, at3, eO, hw, upd1⟩ := Ow.foc ow eg
  have ew := at2.fn at3
  subst ew
  have x3 : Xt (B L) F2 H2 (fun i => if i = z then Os z else Os2 i) Oy := by
    refine ⟨x.nd, fun a ha => ⟨(x.own a ha).1, fun q => (x.own a ha).2.1 (by rw [lendB_up]; exact .inl q), (x.own a ha).2.2⟩, fun a ha i hi => ?_⟩
    have hi' : a ∈ (if i = z then Os z else Os2 i) := hi
    split at hi'
    · exact (x.own a ha).2.1 (by rw [lendB_up]; exact .inr hi')
    · exact x.dj a ha i hi'
  have ndz : (A ++ P ++ C).Nodup := by
    have := S.nd z
    rw [eO] at this
    exact this
  rw [List.nodup_append] at ndz
  obtain ⟨ndAP, ndC, djC⟩ := ndz
  rw [List.nodup_append] at ndAP
  obtain ⟨ndA, ndP, djA⟩ := ndAP
  have inz : ∀ a, a ∈ A ++ P ++ C → a ∈ Os z := fun a h => by rw [eO]; exact h
  have yz : ∀ a, a ∈ Oy → a ∉ A ++ P ++ C := fun a h h' => x3.dj a h z (by
    show a ∈ (if z = z then Os z else Os2 z)
    rw [if_pos rfl]
    exact inz a h')
  have oz : ∀ a, a ∈ A ++ P ++ C → Free (B L) F2 H2 a := fun a h => S3.own z a (by
    show a ∈ (if z = z then Os z else Os2 z)
    rw [if_pos rfl]
    exact inz a h)
  refine ⟨P, hw, List.nodup_append.mpr ⟨ndP, x.nd, fun a ha b hb e => ?_⟩, fun a ha => ?_, fun a o o' O' Or s' ha ho hm hw' nd sub => ?_⟩
  · subst e
    exact yz a hb (by simp [ha])
  · rcases List.mem_append.mp ha with q | q
    · have := oz a (by simp [q])
      exact ⟨this.1, this.2.2⟩
    · exact ⟨(x.own a q).1, (x.own a q).2.2⟩
  · have nAC : ∀ b, b ∈ A ++ C → b ≠ a := fun b hb e => by
      subst e
      rcases List.mem_append.mp hb with q | q
      · exact djA b q b ha rfl
      · exact djC b (by simp [ha]) b q rfl
    have kp : Kp F2 H2 (upd H2 a o') := ⟨fun b hb => upd_ne fun e => (oz a (by simp [ha])).1 (by rw [← e]; exact hb), fun b u e nm => by
      by_cases e' : b = a
      · subst e'
        rw [ho] at e
        cases e
        exact absurd hm nm
      · rw [upd_ne e']; exact e⟩
    have hall := upd1 (upd H2 a o') F2 O' s' (fun b hb => upd_ne (nAC b hb)) kp (fun _ h => h) hw'
    rw [List.nodup_append] at nd
    obtain ⟨nd1, nd2, nd3⟩ := nd
    have subO : ∀ b ∈ O', b ∈ P ∨ b ∈ Oy := fun b hb => List.mem_append.mp (sub b (List.mem_append_left _ hb))
    have subR : ∀ b ∈ Or, b ∈ P ∨ b ∈ Oy := fun b hb => List.mem_append.mp (sub b (List.mem_append_right _ hb))
    have notA : ∀ b, b ∈ P ∨ b ∈ Oy → b ∉ A := fun b hb hA => hb.elim (fun q => djA b hA b q rfl) fun q => yz b q (by simp [hA])
    have notC : ∀ b, b ∈ P ∨ b ∈ Oy → b ∉ C := fun b hb hC => hb.elim (fun q => djC b (by simp [q]) b hC rfl) fun q => yz b q (by simp [hC])
    have ndall : (A ++ O' ++ C).Nodup := by
      refine List.nodup_append.mpr ⟨List.nodup_append.mpr ⟨ndA, nd1, fun b hb b' hb' e => ?_⟩, ndC, fun b hb b' hb' e => ?_⟩
      · subst e; exact notA b (subO b hb') hb
      · subst e
        rcases List.mem_append.mp hb with q | q
        · exact djC b (by simp [q]) b hb' rfl
        · exact notC b (subO b q) hb'
    obtain ⟨S4, s4⟩ := S3.mut (o' := o') (O' := A ++ O' ++ C) hz3 hv (show a ∈ (if z = z then Os z else Os2 z) from by rw [if_pos rfl]; exact inz a (by simp [ha])) ho hm x3 ndall (fun b hb => by
      show b ∈ (if z = z then Os z else Os2 z) ∨ b ∈ Oy
      rw [if_pos rfl]
      rcases List.mem_append.mp hb with q | q
      · rcases List.mem_append.mp q with q | q
        · exact .inl (inz b (by simp [q]))
        · exact (subO b q).imp (fun q => inz b (by simp [q])) id
      · exact .inl (inz b (by simp [q]))) hall
    refine ⟨_, S4, s3.trans s4, ⟨nd2, fun b hb => ?_, fun b hb i hi => ?_⟩⟩
    · rcases subR b hb with q | q
      · have := oz b (by simp [q])
        exact ⟨this.1, this.2.1, s4.tr b this.2.2⟩
      · have := x3.own b q
        exact ⟨this.1, this.2.1, s4.tr b this.2.2⟩
    · have hi' : b ∈ (if i = z then A ++ O' ++ C else if i = z then Os z else Os2 i) := hi
      by_cases e : i = z
      · rw [if_pos e] at hi'
        rcases List.mem_append.mp hi' with q | q
        · rcases List.mem_append.mp q with q | q
          · exact notA b (subR b hb) q
          · exact nd3 b q b hb rfl
        · exact notC b (subR b hb) q
      · rw [if_neg e, if_neg e] at hi'
        rcases subR b hb with q | q
        · exact e ((S3.dj i z b (by show b ∈ (if i = z then Os z else Os2 i); rw [if_neg e]; exact hi') (by show b ∈ (if z = z then Os z else Os2 z); rw [if_pos rfl]; exact inz b (by simp [q]))))
        · exact x3.dj b q i (by show b ∈ (if i = z then Os z else Os2 i); rw [if_neg e]; exact hi')

/-! ### a method with one argument that changes a list -/
def mutB (π : List Nat) (D d : Nat) (g : T → Option (T × T)) (z : Nat) (τ : List (Option T)) : Res T := match τ[z]? with
  | some (some t) => match getP π t with
    | some s => if π.length + d = D then match g s with
        | some (r, s') => .ok r (τ.set z (some (setP s' π t)))
        | none => .stuck
      else .stuck
    | none => .stuck
  | _ => .stuck
def cMut1 (z D d : Nat) (g : T → T → Option (T × T)) (cp : M (List Nat)) (ce : M T) : M T := M.bind cp fun π => M.bind ce fun y τ => mutB π D d (fun s => g s y) z τ
def isL : T → Bool
  | .lst _ => true
  | _ => false
/-- the operation on the list itself -/
def Lf1S (K : PySem.W.Frag) (mg : Str → Option Value) (B : Nat → Addr → Prop) (d : Nat) (me : Md) (r : V → List V → Hp → VK → Prop) (g : T → T → Option (T × T)) (m : Md) : Prop :=
  ∀ F H w s P y ty Oy ret s' Q, (∀ a, F a → H a ≠ none) → Ow K mg H F d P w s → VR K mg B F H me Oy y ty → (P ++ Oy).Nodup → (∀ a ∈ P ++ Oy, ¬ F a ∧ H a ≠ none) → g s ty = some (ret, s') →
    (∀ a o o' O' Or v, a ∈ P → H a = some o → Mut (some o) → Ow K mg (upd H a o') F d O' w s' → VR K mg B F (upd H a o') m Or v ret → (O' ++ Or).Nodup → (∀ b ∈ O' ++ Or, b ∈ P ++ Oy) → Q v (upd H a o')) → r w [y] H Q
theorem mutB_ok {π : List Nat} {g : T → Option (T × T)} {τ τ' : List (Option T)} {r : T} (h : mutB π D d g z τ = .ok r τ') : ∃ t s s', τ[z]? = some (some t) ∧ getP π t = some s ∧ π.length + d = D ∧ g s = some (r, s') ∧ τ' = τ.set z (some (setP s' π t)) := by
  unfold mutB at h
  split at h
  · rename_i t et
    split at h
    · rename_i s eg
      split at h
      · rename_i hD
        split at h
        · rename_i r' s' hg
          cases h
          exact ⟨t, s, s', et, eg, hD, hg, rfl⟩
        · cases h
      · cases h
    · cases h
  · cases h
theorem mutB_exn {π : List Nat} {g : T → Option (T × T)} {τ τ' : List (Option T)} {c : Str} {fs : List Str} {xs : List T} (h : mutB π D d g z τ = .exn c fs xs τ') : False := by
  unfold mutB at h
  split at h
  · split at h
    · split at h
      · split at h
        · cases h
        · cases h
      · cases h
    · cases h
  · cases h
theorem tyV_l {K : PySem.W.Frag} {mg : Str → Option Value} {F : Addr → Prop} {H : Hp} {P : List Addr} {w : V} {xs : List T} (h : Ow K mg H F (d + 1) P w (.lst xs)) : tyV K "list" w H := by
  obtain ⟨a, vs, Os, rfl, ha, _⟩ := h
  exact .inl ⟨rfl, vs, .inl (.inl ha)⟩
/-- the place of a list: what it is where it has been found -/
def cPL (z D d : Nat) (cp : M (List Nat)) : M (List Nat) := fun τ0 => match cp τ0 with
  | .ok π τ => match τ[z]? with
    | some (some t) => match getP π t with
      | some (.lst _) => if π.length + (d + 1) = D then .ok π τ else .stuck
      | _ => .stuck
    | _ => .stuck
  | _ => .stuck
theorem cPL_ok {π : List Nat} {τ τ' : List (Option T)} (h : cPL z D d cp τ = .ok π τ') : ∃ t xs, cp τ = .ok π τ' ∧ τ'[z]? = some (some t) ∧ getP π t = some (.lst xs) ∧ π.length + (d + 1) = D := by
  unfold cPL at h
  cases hc : cp τ with
  | exn c fs xs τ' => rw [hc] at h; cases h
  | stuck => rw [hc] at h; cases h
  | ok π1 τ1 =>
    rw [hc] at h
    dsimp only at h
    split at h
    · rename_i t et
      split at h
      · rename_i xs eg
        split at h
        · rename_i hD
          cases h
          exact ⟨t, xs, rfl, et, eg, hD⟩
        · cases h
      · cases h
    · cases h
theorem cPL_exn {τ τ' : List (Option T)} {c : Str} {fs : List Str} {xs : List T} (h : cPL z D d cp τ = .exn c fs xs τ') : False := by
  unfold cPL at h
  split at h
  · split at h
    · split at h
      · split at h <;> cases h
      · cases h
    · cases h
  · cases h
theorem ex_mut1 {name : Str} {id : String} {r : V → List V → Hp → VK → Prop} {g : T → T → Option (T × T)} (pa : PlainAttrs "list") (slot : Slot "list" name id) (hty : typeOf (.builtin id) = pure (.type "method_descriptor")) (hm : MtR X id r)
    (hp : PX X (L.up z) (Γ.set z (.bk (L.n + 1) D)) z p cp Γ1) (he : EX X W (L.up z) Γl Γ1 e ce me Γ2) (h1 : Γ1[z]? = some (.bk (L.n + 1) D)) (hz : Γ[z]? = some (.ow D)) (hl : Γ2.length = Γ.length) (lme : me.lv ≤ L)
    (hw : wkG Γh (backG L z D Γl) = true) (hlv : Γh.all (fun m => decide (m.lv ≤ L)) = true) (hll : Γl.length = Γ.length) (sp : ∀ B, Lf1S X.K X.mg B (d + 1) me r g m)
    (hbase : attributeBase p name X.env (eval p X.env) = eval p X.env)
    (hfew : ((backTo pos (starEach [e] X.env)).all (fun x => !x.1) && (backToKw pos (keywordEach [] X.env)).all (fun x => x.1.isSome) && decide ([e].length + ([] : List Keyword).length + (if ([] : List Keyword).isEmpty then 0 else 1) < 30)) = true)
    (hline : (apos.endLine == pos.line) = true) (hs : starEach [e] X.env = (false, eval e X.env) :: starEach [] X.env) (hplain : (backTo pos (starEach [] X.env)).any (·.1) = false) :
    EX X W L Γh Γ (.Call (.Attribute p name apos) [e] [] pos) (cMut1 z D (d + 1) g (cPL z D d cp) ce) m (backG L z D Γ2) := by
  refine PE.imp (pe_bm pa slot hty hm hp (pa_cons he pa_nil hs) hbase hfew hline hs hplain) fun σ H Q h => ?_
  obtain ⟨B, fx, F, Os, τ, S, q⟩ := h
  rcases S.slot z _ hz with ⟨q, _⟩ | ⟨v, t, e1, e2, r0⟩
  · cases q
  · refine ⟨_, _, F, _, τ, S.lend hz e1 e2, ?_⟩
    unfold cMut1 at q
    unfold M.bind at q
    cases hcp : cPL z D d cp τ with
    | exn c fs xs τ' => exact (cPL_exn hcp).elim
    | stuck => rw [hcp] at q; exact q.elim
    | ok π τ1 =>
      rw [hcp] at q
      dsimp only at q
      obtain ⟨t1, xs, hc, et1, eg1, hD⟩ := cPL_ok hcp
      rw [hc]
      intro F1 Os1 H1 v' w t' s s1 S1 ev et eg at1
      rw [e1] at ev
      cases ev
      rw [et1] at et
      cases et
      rw [eg1] at eg
      cases eg
      obtain ⟨O1, hO1, ow1⟩ := lent_ow S1 h1 e1 et1
      subst hD
      obtain ⟨w1, A, P, C, at2, _, ow2, _⟩ := Ow.foc ow1 eg1
      have ew := at1.fn at2
      subst ew
      refine ⟨tyV_l ow2, _, _, F1, Os1, τ1, S1, ?_⟩
      cases hce : ce τ1 with
      | exn c fs xs τ' =>
        rw [hce] at q
        intro F2 Os2 H2 cls dd s2 S2 r2
        obtain ⟨S3, s3⟩ := S.unlend hz e1 e2 (s1.trans s2) S2 hll
        obtain ⟨F4, s4, S4⟩ := S3.weak hw hlv
        exact q F4 _ H2 cls dd (s3.trans s4) S4 r2
      | stuck => rw [hce] at q; exact q.elim
      | ok y τ2 =>
        rw [hce] at q
        dsimp only at q
        intro F2 Os2 Oy vy H2 s2 S2 x2 ry
        show r w [vy] H2 Q
        cases hmb : mutB π (π.length + (d + 1)) (d + 1) (fun s => g s y) z τ2 with
        | exn c fs xs τ' => exact (mutB_exn hmb).elim
        | stuck => rw [hmb] at q; exact q.elim
        | ok ret τ3 =>
          rw [hmb] at q
          obtain ⟨t2, s', s'', et2, eg2, hD, hg, rfl⟩ := mutB_ok hmb
          have at3 := At.keep ow1 eg1 at1 fun b hb => s2.at_ b (.inr (hO1 b hb))
          obtain ⟨P', hw', nd, own, fin⟩ := mut_end S hz e1 e2 (s1.trans s2) S2 x2 hl hD et2 eg2 at3
          refine sp B F2 H2 w s' P' vy y Oy ret s'' Q S2.trF hw' (vr_unlend lme ry) nd own hg fun a o o' O' Or v ha ho hmu hw2 rv nd2 sub => ?_
          obtain ⟨Os', S5, s5, x5⟩ := fin a o o' O' Or s'' ha ho hmu hw2 nd2 sub
          exact q F2 Os' Or v _ s5 S5 x5 rv
end
end TL

/-! TL17: the operations that change a list; x[i] = e, o.f = e -/
namespace TL
open PySem PySem.Spec PyProof.Rows L2
section
variable {K : PySem.W.Frag} {mg : Str → Option Value} {B : Nat → Addr → Prop} {F : Addr → Prop} {H : Hp} {d : Nat} {a : Addr} {o o' : HO}
theorem kp_upd (hF : ¬ F a) (ho : H a = some o) (hm : Mut (some o)) : Kp F H (upd H a o') := ⟨fun b hb => upd_ne fun e => hF (by rw [← e]; exact hb), fun b u e nm => by
  by_cases e' : b = a
  · subst e'
    rw [ho] at e
    cases e
    exact absurd hm nm
  · rw [upd_ne e']; exact e⟩
theorem ow_upd {O : List Addr} {v : V} {t : T} (h : Ow K mg H F d O v t) (hF : ¬ F a) (ho : H a = some o) (hm : Mut (some o)) (hO : a ∉ O) : Ow K mg (upd H a o') F d O v t :=
  h.mono (kp_upd hF ho hm) (fun _ h => h) fun b hb => upd_ne fun e => hO (by rw [← e]; exact hb)
theorem owl_upd {Os : List (List Addr)} {vs : List V} {xs : List T} (h : OwL (Ow K mg H F d) Os vs xs) (hF : ¬ F a) (ho : H a = some o) (hm : Mut (some o)) (hO : a ∉ Os.flatten) : OwL (Ow K mg (upd H a o') F d) Os vs xs :=
  owl_mono h fun O v x hOs q => ow_upd q hF ho hm fun z => hO (List.mem_flatten.mpr ⟨O, hOs, z⟩)

/-! ### append, extend, pop(i) -/
def gApp : T → T → Option (T × T)
  | .lst xs, y => if small xs.length = true then some (.non, .lst (xs ++ [y])) else none
  | _, _ => none
theorem lf_app : Lf1S K mg B (d + 1) (.ow d) rAppend gApp .sc := by
  intro F H w s P y ty Oy ret s' Q hF hw hy nd own e k
  unfold gApp at e
  split at e
  · rename_i xs yy
    split at e
    · rename_i hs
      cases e
      obtain ⟨a, vs, Os, rfl, ha, rfl, r⟩ := hw
      have fa := own a (by simp)
      rw [List.cons_append, List.nodup_cons] at nd
      refine ⟨a, vs, y, rfl, rfl, ha, ?_, ?_⟩
      · rw [(owl_len r).2]
        have := of_decide_eq_true hs
        rw [sizeLine_eq]; omega
      · refine k a _ _ (a :: (Os ++ [Oy]).flatten) [] .non (by simp) ha trivial ⟨a, _, Os ++ [Oy], rfl, upd_same, rfl, owl_append (owl_upd r fa.1 ha trivial fun z => nd.1 (List.mem_append_left _ z)) ⟨Oy, [], y, [], rfl, rfl, ow_upd hy fa.1 ha trivial fun z => nd.1 (List.mem_append_right _ z), rfl, rfl⟩⟩ (VR.sc_of rfl rfl) ?_ fun b hb => ?_
        · rw [List.append_nil, List.flatten_append, List.nodup_cons]
          simpa using nd
        · rw [List.append_nil, List.flatten_append] at hb
          simpa using hb
    · cases e
  · cases e
def gExt : T → T → Option (T × T)
  | .lst xs, .lst ys => if small (xs.length + ys.length) = true then some (.non, .lst (xs ++ ys)) else none
  | _, _ => none
theorem lf_ext : Lf1S K mg B (d + 1) (.ow (d + 1)) rExtend gExt .sc := by
  intro F H w s P y ty Oy ret s' Q hF hw hy nd own e k
  unfold gExt at e
  split at e
  · rename_i xs ys
    split at e
    · rename_i hs
      cases e
      obtain ⟨a, vs, Os, rfl, ha, rfl, r⟩ := hw
      obtain ⟨b, us, Ps, rfl, hb, rfl, r2⟩ := hy
      have fa := own a (by simp)
      rw [List.cons_append, List.nodup_cons] at nd
      have n1 : a ∉ Os.flatten := fun z => nd.1 (List.mem_append_left _ z)
      have n2 : a ∉ Ps.flatten := fun z => nd.1 (List.mem_append_right _ (List.mem_cons_of_mem _ z))
      refine ⟨a, b, vs, us, rfl, rfl, ha, hb, ?_, ?_⟩
      · rw [(owl_len r).2, (owl_len r2).2]
        exact small_le hs
      · refine k a _ _ (a :: (Os ++ Ps).flatten) [] .non (by simp) ha trivial ⟨a, _, Os ++ Ps, rfl, upd_same, rfl, owl_append (owl_upd r fa.1 ha trivial n1) (owl_upd r2 fa.1 ha trivial n2)⟩ (VR.sc_of rfl rfl) ?_ fun c hc => ?_
        · rw [List.append_nil, List.flatten_append, List.nodup_cons]
          have h2 := nd.2
          rw [List.nodup_append] at h2 ⊢
          refine ⟨fun z => ?_, h2.1, (List.nodup_cons.mp h2.2.1).2, fun p hp q hq => h2.2.2 p hp q (List.mem_cons_of_mem _ hq)⟩
          rcases List.mem_append.mp z with z | z
          · exact n1 z
          · exact n2 z
        · rw [List.append_nil, List.flatten_append] at hc
          rcases List.mem_cons.mp hc with z | z
          · subst z; simp
          · rcases List.mem_append.mp z with z | z
            · exact List.mem_append_left _ (List.mem_cons_of_mem _ z)
            · exact List.mem_append_right _ (List.mem_cons_of_mem _ z)
    · cases e
  · cases e
theorem owl_erase {R : List Addr → V → T → Prop} : ∀ {xs : List T} {Os : List (List Addr)} {vs : List V} {j : Nat}, OwL R Os vs xs → OwL R (Os.eraseIdx j) (vs.eraseIdx j) (xs.eraseIdx j)
  | [], _, _, _, h => by
    obtain ⟨rfl, rfl⟩ := h
    exact ⟨rfl, rfl⟩
  | x :: xs, _, _, 0, h => by
    obtain ⟨O, Os', v, r, rfl, rfl, q, h⟩ := h
    exact h
  | x :: xs, _, _, j + 1, h => by
    obtain ⟨O, Os', v, r, rfl, rfl, q, h⟩ := h
    exact ⟨O, _, v, _, rfl, rfl, q, owl_erase h⟩
theorem erase_flat {α : Type} : ∀ {Os : List (List α)} {j : Nat} {O : List α}, Os[j]? = some O → Os.flatten.Nodup → ((Os.eraseIdx j).flatten ++ O).Nodup ∧ ∀ b, b ∈ (Os.eraseIdx j).flatten ++ O → b ∈ Os.flatten
  | [], _, _, h, _ => by simp at h
  | P :: Os, 0, O, h, nd => by
    simp at h
    subst h
    rw [List.flatten_cons] at nd
    refine ⟨?_, fun b hb => ?_⟩
    · show (Os.flatten ++ P).Nodup
      rw [List.nodup_append] at nd ⊢
      exact ⟨nd.2.1, nd.1, fun p hp q hq e => nd.2.2 q hq p hp e.symm⟩
    · have hb' : b ∈ Os.flatten ++ P := hb
      rw [List.flatten_cons]
      rcases List.mem_append.mp hb' with z | z
      · exact List.mem_append_right _ z
      · exact List.mem_append_left _ z
  | P :: Os, j + 1, O, h, nd => by
    rw [List.flatten_cons, List.nodup_append] at nd
    obtain ⟨n1, n2, n3⟩ := nd
    obtain ⟨i1, i2⟩ := erase_flat (Os := Os) (j := j) (by simpa using h) n2
    refine ⟨?_, fun b hb => ?_⟩
    · show ((P ++ (Os.eraseIdx j).flatten) ++ O).Nodup
      rw [List.append_assoc]
      exact List.nodup_append.mpr ⟨n1, i1, fun p hp q hq => n3 p hp q (i2 q hq)⟩
    · have hb' : b ∈ (P ++ (Os.eraseIdx j).flatten) ++ O := hb
      rw [List.append_assoc] at hb'
      rw [List.flatten_cons]
      rcases List.mem_append.mp hb' with z | z
      · exact List.mem_append_left _ z
      · exact List.mem_append_right _ (i2 b z)
def gPopI : T → T → Option (T × T)
  | .lst xs, .int i => if (decide (-(2 ^ 63) ≤ i) && decide (i < 2 ^ 63)) = true then match seqIndex? i xs.length with
      | some j => match xs[j]? with
        | some x => some (x, .lst (xs.eraseIdx j))
        | none => none
      | none => none
    else none
  | _, _ => none
theorem lf_popI {me : Md} (no : me.own = false) : Lf1S K mg B (d + 1) me rPopAt gPopI (.ow d) := by
  intro F H w s P y ty Oy ret s' Q hF hw hy nd own e k
  have eO := hy.noO no
  subst eO
  unfold gPopI at e
  split at e
  · rename_i xs i
    split at e
    · rename_i hb
      split at e
      · rename_i j ej
        split at e
        · rename_i x ex
          cases e
          rw [Bool.and_eq_true] at hb
          obtain ⟨a, vs, Os, rfl, ha, rfl, r⟩ := hw
          have fa := own a (by simp)
          rw [List.append_nil, List.nodup_cons] at nd
          obtain ⟨O, v, eO, ev, rv⟩ := owl_get r ex
          obtain ⟨f1, f2⟩ := erase_flat eO nd.2
          refine ⟨a, vs, i, j, v, rfl, by rw [vr_int hy], ha, of_decide_eq_true hb.1, of_decide_eq_true hb.2, by rw [(owl_len r).2]; exact ej, ev, ?_⟩
          refine k a _ _ (a :: (Os.eraseIdx j).flatten) O v (by simp) ha trivial ⟨a, _, Os.eraseIdx j, rfl, upd_same, rfl, owl_upd (owl_erase r) fa.1 ha trivial fun z => nd.1 (f2 a (List.mem_append_left _ z))⟩ (ow_upd rv fa.1 ha trivial fun z => nd.1 (f2 a (List.mem_append_right _ z))) ?_ fun b hb => ?_
          · rw [List.cons_append, List.nodup_cons]
            exact ⟨fun z => nd.1 (f2 a z), f1⟩
          · rw [List.append_nil]
            rcases List.mem_cons.mp hb with z | z
            · subst z; simp
            · exact List.mem_cons_of_mem _ (f2 b z)
        · cases e
      · cases e
    · cases e
  · cases e
end

section
variable {X : Cx} {W : WX} {B : Nat → Addr → Prop} {fx : Fx} {L : Lv} {Γh Γ Γ1 Γ2 Γ3 Γ' Γl : List Md} {n : En} {e e2 a b p : Expr} {es : List Expr} {c ca ce ci ce2 : M T} {cp : M (List Nat)} {m me mi : Md} {pos apos tpos : Pos} {z D d l : Nat}

/-! ### pop() -/
theorem drop_erase {α : Type} {xs : List α} : xs.dropLast = xs.eraseIdx (xs.length - 1) := by
  rw [List.eraseIdx_eq_take_drop_succ, List.dropLast_eq_take, List.drop_eq_nil_of_le (by omega), List.append_nil]
def gPop : T → Option (T × T)
  | .lst xs => match xs[xs.length - 1]? with
    | some x => some (x, .lst xs.dropLast)
    | none => none
  | _ => none
def cPop (z D d : Nat) (cp : M (List Nat)) : M T := M.bind (cPL z D d cp) fun π τ => mutB π D (d + 1) gPop z τ
theorem ex_pop (hp : PX X (L.up z) (Γ.set z (.bk (L.n + 1) D)) z p cp Γ1) (hz : Γ[z]? = some (.ow D)) (hl : Γ1.length = Γ.length)
    (hbase : attributeBase p "pop" X.env (eval p X.env) = eval p X.env) (hline : (apos.endLine == pos.line) = true) :
    EX X W L Γh Γ (.Call (.Attribute p "pop" apos) [] [] pos) (cPop z D d cp) (.ow d) (backG L z D Γ1) := by
  refine PE.imp (pe_bm0 PySem.F.plainAttrs_list PySem.F.slot_list_pop PySem.F.type_list_pop mt_pop hp hbase hline) fun σ H Q h => ?_
  obtain ⟨B, fx, F, Os, τ, S, q⟩ := h
  rcases S.slot z _ hz with ⟨q, _⟩ | ⟨v, t, e1, e2, r0⟩
  · cases q
  · refine ⟨_, _, F, _, τ, S.lend hz e1 e2, ?_⟩
    unfold cPop at q
    unfold M.bind at q
    cases hcp : cPL z D d cp τ with
    | exn c fs xs τ' => exact (cPL_exn hcp).elim
    | stuck => rw [hcp] at q; exact q.elim
    | ok π τ1 =>
      rw [hcp] at q
      dsimp only at q
      obtain ⟨t1, xs, hc, et1, eg1, hD⟩ := cPL_ok hcp
      rw [hc]
      intro F1 Os1 H1 v' w t' s s1 S1 ev et eg at1
      rw [e1] at ev
      cases ev
      rw [et1] at et
      cases et
      rw [eg1] at eg
      cases eg
      cases hmb : mutB π D (d + 1) gPop z τ1 with
      | exn c fs xs τ' => exact (mutB_exn hmb).elim
      | stuck => rw [hmb] at q; exact q.elim
      | ok ret τ3 =>
        rw [hmb] at q
        obtain ⟨t2, s', s'', et2, eg2, hD, hg, rfl⟩ := mutB_ok hmb
        obtain ⟨P', hw', nd, own, fin⟩ := mut_end (Oy := []) S hz e1 e2 s1 S1 Xt.nil hl hD et2 eg2 at1
        unfold gPop at hg
        split at hg
        · rename_i ys
          split at hg
          · rename_i y ey
            cases hg
            refine ⟨tyV_l hw', ?_⟩
            obtain ⟨a, vs, Ps, rfl, ha, rfl, r⟩ := hw'
            have fa := own a (by simp)
            rw [List.append_nil, List.nodup_cons] at nd
            have hlen := (owl_len r).2
            obtain ⟨O, u, eO, eu, ru⟩ := owl_get r ey
            obtain ⟨f1, f2⟩ := erase_flat eO nd.2
            have e4 : ys.dropLast = ys.eraseIdx (ys.length - 1) := drop_erase
            have e3 : vs.dropLast = vs.eraseIdx (ys.length - 1) := by rw [← hlen]; exact drop_erase
            refine ⟨a, vs, u, rfl, rfl, ha, by rw [hlen]; exact eu, ?_⟩
            rw [e3]
            obtain ⟨Os', S5, s5, x5⟩ := fin a _ (.lst (vs.eraseIdx (ys.length - 1))) (a :: (Ps.eraseIdx (ys.length - 1)).flatten) O (.lst ys.dropLast) (by simp) ha trivial (by rw [e4]; exact ⟨a, _, Ps.eraseIdx (ys.length - 1), rfl, upd_same, rfl, owl_upd (owl_erase r) fa.1 ha trivial fun z => nd.1 (f2 a (List.mem_append_left _ z))⟩) (by
              rw [List.cons_append, List.nodup_cons]
              exact ⟨fun z => nd.1 (f2 a z), f1⟩) (fun b hb => by
              rw [List.append_nil]
              rcases List.mem_cons.mp hb with z | z
              · subst z; simp
              · exact List.mem_cons_of_mem _ (f2 b z))
            exact q F1 Os' O u _ s5 S5 x5 (ow_upd ru fa.1 ha trivial fun z => nd.1 (f2 a (List.mem_append_right _ z)))
          · cases hg
        · cases hg

/-! ### x[i] = e -/
def putKs {κ : Type} [DecidableEq κ] (q : κ) (y : T) : List κ → List T → List κ × List T
  | k :: ks, x :: xs => if k = q then (k :: ks, y :: xs) else let r := putKs q y ks xs; (k :: r.1, x :: r.2)
  | _, _ => ([q], [y])
def gSet (i y : T) : T → Option (T × T)
  | .lst xs => match i with
    | .int i => (ixN xs.length i).map fun j => (.non, .lst (xs.set j y))
    | _ => none
  | .dct ks xs => match keyT i with
    | some q => if (small ks.length && decide ks.Nodup) = true then let r := putKs q y ks xs; some (.non, .dct r.1 r.2) else none
    | none => none
  | _ => none
def rSetLD : TSet := fun o i v H Q => rSetL o i v H Q ∨ rSetD o i v H Q
theorem set_ld (hu : X.A.units + 1 < cLine) : PSet X rSetLD := by
  intro pins s σ H o i v ov iv u Q I ro ri rv h
  rcases h with h | h
  · exact set_list pins s σ H o i v ov iv u Q I ro ri rv h
  · exact set_dict hu pins s σ H o i v ov iv u Q I ro ri rv h
theorem owl_set {R R' : List Addr → V → T → Prop} {O' : List Addr} {u : V} {y : T} : ∀ {xs : List T} {Os : List (List Addr)} {vs : List V} {j : Nat}, OwL R Os vs xs → j < xs.length → (∀ O v t, O ∈ Os → R O v t → R' O v t) → R' O' u y → OwL R' (Os.set j O') (vs.set j u) (xs.set j y)
  | [], _, _, _, _, h, _, _ => absurd h (Nat.not_lt_zero _)
  | x :: xs, _, _, 0, h, _, k, hu => by
    obtain ⟨O, Os', v, r, rfl, rfl, q, h⟩ := h
    exact ⟨O', Os', u, r, rfl, rfl, hu, owl_mono h fun P w t hP => k P w t (by simp [hP])⟩
  | x :: xs, _, _, j + 1, h, hj, k, hu => by
    obtain ⟨O, Os', v, r, rfl, rfl, q, h⟩ := h
    exact ⟨O, Os'.set j O', v, r.set j u, rfl, rfl, k O v x (by simp) q, owl_set h (by simpa using hj) (fun P w t hP => k P w t (by simp [hP])) hu⟩
theorem set_flat_sub {α : Type} {Os : List (List α)} {j : Nat} {O' : List α} : ∀ b, b ∈ (Os.set j O').flatten → b ∈ Os.flatten ∨ b ∈ O' := fun b hb => by
  obtain ⟨P, hP, hb⟩ := List.mem_flatten.mp hb
  rcases List.mem_or_eq_of_mem_set hP with z | z
  · exact .inl (List.mem_flatten.mpr ⟨P, z, hb⟩)
  · exact .inr (by rw [← z]; exact hb)
theorem set_flat_nd {α : Type} : ∀ {Os : List (List α)} {j : Nat} {O' : List α}, (Os.flatten ++ O').Nodup → (Os.set j O').flatten.Nodup
  | [], _, _, _ => by simp
  | P :: Os, 0, O', nd => by
    rw [List.flatten_cons, List.append_assoc, List.nodup_append] at nd
    show (O' ++ Os.flatten).Nodup
    have h := nd.2.1
    rw [List.nodup_append] at h ⊢
    exact ⟨h.2.1, h.1, fun a ha b hb e => h.2.2 b hb a ha e.symm⟩
  | P :: Os, j + 1, O', nd => by
    rw [List.flatten_cons, List.append_assoc, List.nodup_append] at nd
    show (P ++ (Os.set j O').flatten).Nodup
    refine List.nodup_append.mpr ⟨nd.1, set_flat_nd nd.2.1, fun a ha b hb => ?_⟩
    rcases set_flat_sub b hb with z | z
    · exact nd.2.2 a ha b (List.mem_append_left _ z)
    · exact nd.2.2 a ha b (List.mem_append_right _ z)
end
section
variable {K : PySem.W.Frag} {mg : Str → Option Value} {B : Nat → Addr → Prop} {F : Addr → Prop} {H : Hp} {d : Nat} {a : Addr} {o o' : HO}
/-- a value put at a key -/
theorem owl_putK {κ : Type} [DecidableEq κ] {R : List Addr → V → T → Prop} {q : κ} {O' : List Addr} {u : V} {y : T} (hu : R O' u y) : ∀ {kvs : List (κ × V)} {Os : List (List Addr)} {xs : List T}, OwL R Os (kvs.map (·.2)) xs → (Os.flatten ++ O').Nodup → (kvs.map (·.1)).Nodup →
    ∃ Os', (putK kvs q u).map (·.1) = (putKs q y (kvs.map (·.1)) xs).1 ∧ OwL R Os' ((putK kvs q u).map (·.2)) (putKs q y (kvs.map (·.1)) xs).2 ∧ Os'.flatten.Nodup ∧ ∀ b ∈ Os'.flatten, b ∈ Os.flatten ++ O'
  | [], Os, xs, h, nd, ndk => by
    cases xs with
    | nil =>
      obtain ⟨rfl, _⟩ := h
      refine ⟨[O'], rfl, ⟨O', [], u, [], rfl, rfl, hu, rfl, rfl⟩, by simpa using nd, by simp⟩
    | cons x xs =>
      obtain ⟨O, Os', v, r, _, e, _⟩ := h
      cases e
  | (k, w) :: kvs, Os, xs, h, nd, ndk => by
    cases xs with
    | nil =>
      obtain ⟨_, e⟩ := h
      cases e
    | cons x xs =>
      obtain ⟨O, Os', v, r, rfl, e, hv, h⟩ := h
      rw [List.map_cons] at e
      injection e with e1 e2
      subst e1 e2
      rw [List.flatten_cons, List.append_assoc] at nd
      by_cases hk : k = q
      · subst hk
        have e3 : putK ((k, w) :: kvs) k u = (k, u) :: kvs := by
          rw [List.map_cons, List.nodup_cons] at ndk
          unfold putK
          rw [List.any_cons, decide_eq_true (show (k, w).1 = k from rfl), Bool.true_or, if_pos rfl, List.map_cons, if_pos rfl]
          congr 1
          refine (List.map_congr_left fun kv hkv => ?_).trans (List.map_id _)
          rw [if_neg fun e => ndk.1 (by rw [← e]; exact List.mem_map.mpr ⟨kv, hkv, rfl⟩)]
          rfl
        have e4 : putKs k y (((k, w) :: kvs).map (·.1)) (x :: xs) = (k :: kvs.map (·.1), y :: xs) := by simp [putKs]
        rw [e3, e4]
        rw [List.nodup_append] at nd
        refine ⟨O' :: Os', rfl, ⟨O', Os', u, _, rfl, rfl, hu, h⟩, ?_, fun b hb => ?_⟩
        · rw [List.flatten_cons]
          have n2 := nd.2.1
          rw [List.nodup_append] at n2 ⊢
          exact ⟨n2.2.1, n2.1, fun p hp q hq e => n2.2.2 q hq p hp e.symm⟩
        · rw [List.flatten_cons] at hb ⊢
          rcases List.mem_append.mp hb with z | z
          · exact List.mem_append_right _ z
          · exact List.mem_append_left _ (List.mem_append_right _ z)
      · rw [List.nodup_append] at nd
        rw [List.map_cons, List.nodup_cons] at ndk
        obtain ⟨Os2, e5, r5, n5, s5⟩ := owl_putK (κ := κ) (q := q) hu (kvs := kvs) h nd.2.1 ndk.2
        have e3 : putK ((k, w) :: kvs) q u = (k, w) :: putK kvs q u := by
          unfold putK
          rw [List.any_cons, decide_eq_false (show ¬ (k, w).1 = q from hk), Bool.false_or]
          by_cases ha : (kvs.any fun kv => decide (kv.1 = q)) = true
          · rw [if_pos ha, if_pos ha, List.map_cons, if_neg (show ¬ (k, w).1 = q from hk)]
          · rw [if_neg ha, if_neg ha]
            rfl
        have e4 : putKs q y (((k, w) :: kvs).map (·.1)) (x :: xs) = (k :: (putKs q y (kvs.map (·.1)) xs).1, x :: (putKs q y (kvs.map (·.1)) xs).2) := by simp [putKs, hk]
        rw [e3, e4]
        refine ⟨O :: Os2, by rw [List.map_cons, e5], ⟨O, Os2, w, _, rfl, rfl, hv, r5⟩, ?_, fun b hb => ?_⟩
        · rw [List.flatten_cons]
          refine List.nodup_append.mpr ⟨nd.1, n5, fun p hp q hq => nd.2.2 p hp q (s5 q hq)⟩
        · rw [List.flatten_cons] at hb ⊢
          rcases List.mem_append.mp hb with z | z
          · exact List.mem_append_left _ (List.mem_append_left _ z)
          · rcases List.mem_append.mp (s5 b z) with z | z
            · exact List.mem_append_left _ (List.mem_append_right _ z)
            · exact List.mem_append_right _ z
end
end TL

/-! TL18: x[i] = e, o.f = e, o.f op= e -/
namespace TL
open PySem PySem.Spec PyProof.Rows L2
section
variable {K : PySem.W.Frag} {mg : Str → Option Value} {B : Nat → Addr → Prop} {F : Addr → Prop} {H : Hp} {d : Nat} {a : Addr} {o o' : HO}
theorem owl_putF {R : List Addr → V → T → Prop} {q : Str} {O' : List Addr} {u : V} {y : T} (hu : R O' u y) : ∀ {kvs : List (Str × V)} {Os : List (List Addr)} {xs : List T}, OwL R Os (kvs.map (·.2)) xs → (Os.flatten ++ O').Nodup →
    ∃ Os', (putF q u kvs).map (·.1) = (putKs q y (kvs.map (·.1)) xs).1 ∧ OwL R Os' ((putF q u kvs).map (·.2)) (putKs q y (kvs.map (·.1)) xs).2 ∧ Os'.flatten.Nodup ∧ ∀ b ∈ Os'.flatten, b ∈ Os.flatten ++ O'
  | [], Os, xs, h, nd => by
    cases xs with
    | nil =>
      obtain ⟨rfl, _⟩ := h
      refine ⟨[O'], rfl, ⟨O', [], u, [], rfl, rfl, hu, rfl, rfl⟩, by simpa using nd, by simp⟩
    | cons x xs =>
      obtain ⟨O, Os', v, r, _, e, _⟩ := h
      cases e
  | (k, w) :: kvs, Os, xs, h, nd => by
    cases xs with
    | nil =>
      obtain ⟨_, e⟩ := h
      cases e
    | cons x xs =>
      obtain ⟨O, Os', v, r, rfl, e, hv, h⟩ := h
      rw [List.map_cons] at e
      injection e with e1 e2
      subst e1 e2
      rw [List.flatten_cons, List.append_assoc] at nd
      by_cases hk : k = q
      · subst hk
        have e3 : putF k u ((k, w) :: kvs) = (k, u) :: kvs := by simp [putF]
        have e4 : putKs k y (((k, w) :: kvs).map (·.1)) (x :: xs) = (k :: kvs.map (·.1), y :: xs) := by simp [putKs]
        rw [e3, e4]
        rw [List.nodup_append] at nd
        refine ⟨O' :: Os', rfl, ⟨O', Os', u, _, rfl, rfl, hu, h⟩, ?_, fun b hb => ?_⟩
        · rw [List.flatten_cons]
          have n2 := nd.2.1
          rw [List.nodup_append] at n2 ⊢
          exact ⟨n2.2.1, n2.1, fun p hp q hq e => n2.2.2 q hq p hp e.symm⟩
        · rw [List.flatten_cons] at hb ⊢
          rcases List.mem_append.mp hb with z | z
          · exact List.mem_append_right _ z
          · exact List.mem_append_left _ (List.mem_append_right _ z)
      · rw [List.nodup_append] at nd
        obtain ⟨Os2, e5, r5, n5, s5⟩ := owl_putF (q := q) hu (kvs := kvs) h nd.2.1
        have e3 : putF q u ((k, w) :: kvs) = (k, w) :: putF q u kvs := by simp [putF, hk]
        have e4 : putKs q y (((k, w) :: kvs).map (·.1)) (x :: xs) = (k :: (putKs q y (kvs.map (·.1)) xs).1, x :: (putKs q y (kvs.map (·.1)) xs).2) := by simp [putKs, hk]
        rw [e3, e4]
        refine ⟨O :: Os2, by rw [List.map_cons, e5], ⟨O, Os2, w, _, rfl, rfl, hv, r5⟩, ?_, fun b hb => ?_⟩
        · rw [List.flatten_cons]
          refine List.nodup_append.mpr ⟨nd.1, n5, fun p hp q hq => nd.2.2 p hp q (s5 q hq)⟩
        · rw [List.flatten_cons] at hb ⊢
          rcases List.mem_append.mp hb with z | z
          · exact List.mem_append_left _ (List.mem_append_left _ z)
          · rcases List.mem_append.mp (s5 b z) with z | z
            · exact List.mem_append_left _ (List.mem_append_right _ z)
            · exact List.mem_append_right _ z
def gFld (tab : Str → Str → Bool) (f : Str) (y : T) : T → Option (T × T)
  | .ins c fs xs => if (tab c f && decide (fs.length < 1000)) = true then let r := putKs f y fs xs; some (.non, .ins c r.1 r.2) else none
  | _ => none
end

section
variable {X : Cx} {W : WX} {B : Nat → Addr → Prop} {fx : Fx} {L : Lv} {Γh Γ Γ1 Γ2 Γ3 Γ' Γl Γl2 : List Md} {n : En} {e e2 a b p : Expr} {es : List Expr} {c ca ce ci ce2 : M T} {cp : M (List Nat)} {m me mi : Md} {pos apos tpos : Pos} {z D d l : Nat}
def cSetI (z D d : Nat) (ce : M T) (cp : M (List Nat)) (ci : M T) : M Fl := M.bind ce fun y τ => match cp τ with
  | .ok π τ1 => match ci τ1 with
    | .ok i τ2 => match mutB π D (d + 1) (gSet i y) z τ2 with
      | .ok _ τ3 => .ok .nx τ3
      | _ => .stuck
    | _ => .stuck
  | _ => .stuck
theorem PostX.un {σ : L2.St} {F : Addr → Prop} {H : Hp} {Os : Nat → List Addr} {τ : List (Option T)} {v : V} {t : T} {c : Str} {fs : List Str} {xs : List T} {τ' : List (Option T)} (S : SR X.K X.mg B fx L Γ F Os H σ τ) (hz : Γ[z]? = some (.ow D)) (e1 : σ[z]? = some (some v)) (e2 : τ[z]? = some (some t))
    (hw : wkG Γh (backG L z D Γl) = true) (hlv : Γh.all (fun m => decide (m.lv ≤ L)) = true) (hll : Γl.length = Γ.length) (q : PostX X.K X.mg W B fx L Γh σ F H c fs xs τ') :
    PostX X.K X.mg W (lendB B L (Os z)) ⟨(z, v) :: fx.vs, (z, t) :: fx.ts⟩ (L.up z) Γl σ F H c fs xs τ' := fun F2 Os2 H2 cls dd s2 S2 r2 => by
  obtain ⟨S3, s3⟩ := S.unlend hz e1 e2 s2 S2 hll
  obtain ⟨F4, s4, S4⟩ := S3.weak hw hlv
  exact q F4 _ H2 cls dd (s3.trans s4) S4 r2
theorem s_seti (hu : X.A.units + 1 < cLine) (he : EX X W (L.up z) Γl (Γ.set z (.bk (L.n + 1) D)) e ce (.ow d) Γ1) (hp : PX X (L.up z).over Γ1 z p cp Γ2) (hi : EX X W0 (L.up z).over Γl2 Γ2 b ci mi Γ3) (ni : mi.own = false)
    (h2 : Γ2[z]? = some (.bk (L.n + 1) D)) (hz : Γ[z]? = some (.ow D)) (hl : Γ3.length = Γ.length) (lv3 : Γ3.all (fun m => decide (m.lv ≤ L.up z)) = true) (hw : wkG Γh (backG L z D Γl) = true) (hlv : Γh.all (fun m => decide (m.lv ≤ L)) = true) (hll : Γl.length = Γ.length)
    (ha : ∀ v, assign (.Subscript p b tpos) X.env v = (do
      let ov ← holding [v] (eval p X.env)
      let iv ← holding [v, ov] (eval b X.env)
      standAt tpos
      holding [v, ov, iv] (setItem ov iv v)
      release [v, ov, iv] []))
    (hs : swapsWithSole [.Subscript p b tpos] e pos.line X.env = pure false) (hsw : swappedStores [.Subscript p b tpos] e X.env = pure none) (ho : (assignEach [.Subscript p b tpos] X.env).map (·.2) = [assign (.Subscript p b tpos) X.env]) :
    SX1 X W L Γh n Γ (.Assign [.Subscript p b tpos] e pos) (cSetI z D d ce cp ci) (backG L z D Γ3) := by
  refine PS.imp (ps_asg he (pg_sub hp hi (set_ld hu) ha) hs hsw ho) fun Dd σ H h => ?_
  obtain ⟨B, fx, F, Os, τ, S, q⟩ := h
  rcases S.slot z _ hz with ⟨q, _⟩ | ⟨v, t, e1, e2, r0⟩
  · cases q
  · refine ⟨_, _, F, _, τ, S.lend hz e1 e2, ?_⟩
    unfold cSetI M.bind at q
    cases hce : ce τ with
    | exn c fs xs τ' => rw [hce] at q; exact PostX.un S hz e1 e2 hw hlv hll (q σ)
    | stuck => rw [hce] at q; exact q.elim
    | ok y τ1 =>
      rw [hce] at q
      dsimp only at q
      intro F1 Os1 Oy vy H1 s1 S1 x1 ry
      refine ⟨_, _, F1, Os1, τ1, S1.over x1, ?_⟩
      cases hcp : cp τ1 with
      | exn c fs xs τ' => rw [hcp] at q; exact q.elim
      | stuck => rw [hcp] at q; exact q.elim
      | ok π τ2 =>
        rw [hcp] at q
        dsimp only at q
        intro F2 Os2 H2 v' w t2 s sx2 S2 ev et eg at2
        rw [e1] at ev
        cases ev
        refine ⟨_, _, F2, Os2, τ2, S2, ?_⟩
        cases hci : ci τ2 with
        | exn c fs xs τ' => rw [hci] at q; exact q.elim
        | stuck => rw [hci] at q; exact q.elim
        | ok i τ3 =>
          rw [hci] at q
          dsimp only at q
          intro F3 Os3 Oi vi H3 s3 S3 x3 ri
          have eOi := ri.noO ni
          subst eOi
          cases hmb : mutB π D (d + 1) (gSet i y) z τ3 with
          | exn c fs xs τ' => exact (mutB_exn hmb).elim
          | stuck => rw [hmb] at q; exact q.elim
          | ok ret τ4 =>
            rw [hmb] at q
            dsimp only at q
            obtain ⟨t3, s3', s4', et3, eg3, hD, hg, rfl⟩ := mutB_ok hmb
            obtain ⟨S4, s4, x4, same⟩ := S1.under x1 (sx2.trans s3) S3 lv3
            obtain ⟨O2, hO2, ow2⟩ := lent_ow S2 h2 e1 et
            have gsome := eg3
            -- the place stands
            have at3 : At H3 v π w := by
              have : ∃ dd, D = π.length + dd := ⟨d + 1, hD.symm⟩
              obtain ⟨dd, rfl⟩ := this
              exact At.keep ow2 eg at2 fun b hb => s3.at_ b (.inr (hO2 b hb))
            obtain ⟨P, hw', nd, own, fin⟩ := mut_end S hz e1 e2 (s1.trans s4) S4 x4 hl hD et3 eg3 at3
            have ry3 : Ow X.K X.mg H3 F3 d Oy vy y := Ow.mono ry s4.kpF s4.fr same
            unfold gSet at hg
            split at hg
            · rename_i xs
              split at hg
              · rename_i k
                rw [Option.map_eq_some_iff] at hg
                obtain ⟨j, ej, hg⟩ := hg
                cases hg
                obtain ⟨a, vs, Ps, rfl, hA, rfl, r⟩ := hw'
                have fa := own a (by simp)
                rw [List.cons_append, List.nodup_cons] at nd
                obtain ⟨k1, k2, _⟩ := ixN_seq ej
                obtain ⟨Os', S5, s5, x5⟩ := fin a _ (.lst (vs.set j vy)) (a :: (Ps.set j Oy).flatten) [] (.lst (xs.set j y)) (by simp) hA trivial
                  ⟨a, _, Ps.set j Oy, rfl, upd_same, rfl, owl_set r k2 (fun O v t hO q => ow_upd q fa.1 hA trivial fun zz => nd.1 (List.mem_append_left _ (List.mem_flatten.mpr ⟨O, hO, zz⟩))) (ow_upd ry3 fa.1 hA trivial fun zz => nd.1 (List.mem_append_right _ zz))⟩
                  (by
                    rw [List.append_nil, List.nodup_cons]
                    refine ⟨fun zz => nd.1 ?_, set_flat_nd nd.2⟩
                    rcases set_flat_sub a zz with zz | zz
                    · exact List.mem_append_left _ zz
                    · exact List.mem_append_right _ zz)
                  (fun b hb => by
                    rw [List.append_nil] at hb
                    rcases List.mem_cons.mp hb with zz | zz
                    · subst zz; simp
                    · rcases set_flat_sub b zz with zz | zz
                      · exact List.mem_append_left _ (List.mem_cons_of_mem _ zz)
                      · exact List.mem_append_right _ zz)
                exact .inl ⟨a, vs, k, j, rfl, vr_int ri, hA, by rw [(owl_len r).2]; exact ej, q F3 Os' _ σ s5 S5⟩
              · cases hg
            · rename_i ks xs
              split at hg
              · rename_i kq ek
                split at hg
                · rename_i hsm
                  cases hg
                  rw [Bool.and_eq_true] at hsm
                  obtain ⟨a, kvs, Ps, rfl, hA, hks, rfl, r⟩ := hw'
                  subst hks
                  have fa := own a (by simp)
                  rw [List.cons_append, List.nodup_cons] at nd
                  obtain ⟨Ps', e5, r5, n5, s5⟩ := owl_putK (q := kq) (O' := Oy) (u := vy) (y := y) (R := Ow X.K X.mg (upd H3 a (.dK (putK kvs kq vy))) F3 d) (ow_upd ry3 fa.1 hA trivial fun zz => nd.1 (List.mem_append_right _ zz)) (owl_upd r fa.1 hA trivial fun zz => nd.1 (List.mem_append_left _ zz)) nd.2 (of_decide_eq_true hsm.2)
                  obtain ⟨Os', S5, st5, x5⟩ := fin a _ (.dK (putK kvs kq vy)) (a :: Ps'.flatten) [] (.dct (putKs kq y (kvs.map (·.1)) xs).1 (putKs kq y (kvs.map (·.1)) xs).2) (by simp) hA trivial ⟨a, _, Ps', rfl, upd_same, e5, rfl, r5⟩ (by
                      rw [List.append_nil, List.nodup_cons]
                      exact ⟨fun zz => nd.1 (s5 a zz), n5⟩) (fun b hb => by
                      rw [List.append_nil] at hb
                      rcases List.mem_cons.mp hb with zz | zz
                      · subst zz; simp
                      · rcases List.mem_append.mp (s5 b zz) with zz | zz
                        · exact List.mem_append_left _ (List.mem_cons_of_mem _ zz)
                        · exact List.mem_append_right _ zz)
                  have ek2 := key_rp ri.any ek
                  subst ek2
                  refine .inr ⟨a, _, rfl, DPut.k hA ?_, q F3 Os' _ σ st5 S5⟩
                  have := of_decide_eq_true hsm.1
                  rw [List.length_map] at this
                  rw [sizeLine_eq]; omega
                · cases hg
              · cases hg
            · cases hg

/-! ### o.f = e -/
def cSetF (z D d : Nat) (tab : Str → Str → Bool) (f : Str) (ce : M T) (cp : M (List Nat)) : M Fl := M.bind ce fun y τ => match cp τ with
  | .ok π τ1 => match mutB π D (d + 1) (gFld tab f y) z τ1 with
    | .ok _ τ3 => .ok .nx τ3
    | _ => .stuck
  | _ => .stuck
theorem s_fld {tab : Str → Str → Bool} {f : Str} (ok : FldOk X.K X.mg tab) (he : EX X W (L.up z) Γl (Γ.set z (.bk (L.n + 1) D)) e ce (.ow d) Γ1) (hp : PX X (L.up z).over Γ1 z p cp Γ2) (hz : Γ[z]? = some (.ow D)) (hl : Γ2.length = Γ.length)
    (lv3 : Γ2.all (fun m => decide (m.lv ≤ L.up z)) = true) (hw : wkG Γh (backG L z D Γl) = true) (hlv : Γh.all (fun m => decide (m.lv ≤ L)) = true) (hll : Γl.length = Γ.length)
    (hs : swapsWith e (some (.Attribute p f tpos)) pos.line X.env = pure false) : SX1 X W L Γh n Γ (.Assign [.Attribute p f tpos] e pos) (cSetF z D d tab f ce cp) (backG L z D Γ2) := by
  refine PS.imp (ps_fld hp he hs) fun Dd σ H h => ?_
  obtain ⟨B, fx, F, Os, τ, S, q⟩ := h
  rcases S.slot z _ hz with ⟨q, _⟩ | ⟨v, t, e1, e2, r0⟩
  · cases q
  · refine ⟨_, _, F, _, τ, S.lend hz e1 e2, ?_⟩
    unfold cSetF M.bind at q
    cases hce : ce τ with
    | exn c fs xs τ' => rw [hce] at q; exact PostX.un S hz e1 e2 hw hlv hll (q σ)
    | stuck => rw [hce] at q; exact q.elim
    | ok y τ1 =>
      rw [hce] at q
      dsimp only at q
      intro F1 Os1 Oy vy H1 s1 S1 x1 ry
      refine ⟨_, _, F1, Os1, τ1, S1.over x1, ?_⟩
      cases hcp : cp τ1 with
      | exn c fs xs τ' => rw [hcp] at q; exact q.elim
      | stuck => rw [hcp] at q; exact q.elim
      | ok π τ2 =>
        rw [hcp] at q
        dsimp only at q
        intro F2 Os2 H2 v' w t2 s sx2 S2 ev et eg at2
        rw [e1] at ev
        cases ev
        cases hmb : mutB π D (d + 1) (gFld tab f y) z τ2 with
        | exn c fs xs τ' => exact (mutB_exn hmb).elim
        | stuck => rw [hmb] at q; exact q.elim
        | ok ret τ4 =>
          rw [hmb] at q
          dsimp only at q
          obtain ⟨t3, s3', s4', et3, eg3, hD, hg, rfl⟩ := mutB_ok hmb
          obtain ⟨S4, s4, x4, same⟩ := S1.under x1 sx2 S2 lv3
          obtain ⟨P, hw', nd, own, fin⟩ := mut_end S hz e1 e2 (s1.trans s4) S4 x4 hl hD et3 eg3 at2
          have ry3 : Ow X.K X.mg H2 F2 d Oy vy y := Ow.mono ry s4.kpF s4.fr same
          unfold gFld at hg
          split at hg
          · rename_i c fs xs
            split at hg
            · rename_i hsm
              cases hg
              rw [Bool.and_eq_true] at hsm
              obtain ⟨a, A, dx, kvs, Ps, rfl, hA, hmg, hks, rfl, r⟩ := hw'
              subst hks
              have fa := own a (by simp)
              rw [List.cons_append, List.nodup_cons] at nd
              obtain ⟨Ps', e5, r5, n5, s5⟩ := owl_putF (q := f) (O' := Oy) (u := vy) (y := y) (R := Ow X.K X.mg (upd H2 a (.ins A dx (putF f vy kvs))) F2 d) (ow_upd ry3 fa.1 hA trivial fun zz => nd.1 (List.mem_append_right _ zz)) (owl_upd r fa.1 hA trivial fun zz => nd.1 (List.mem_append_left _ zz)) nd.2
              obtain ⟨Os', S5, st5, x5⟩ := fin a _ (.ins A dx (putF f vy kvs)) (a :: Ps'.flatten) [] (.ins c (putKs f y (kvs.map (·.1)) xs).1 (putKs f y (kvs.map (·.1)) xs).2) (by simp) hA trivial ⟨a, A, dx, _, Ps', rfl, upd_same, hmg, e5, rfl, r5⟩ (by
                  rw [List.append_nil, List.nodup_cons]
                  exact ⟨fun zz => nd.1 (s5 a zz), n5⟩) (fun b hb => by
                  rw [List.append_nil] at hb
                  rcases List.mem_cons.mp hb with zz | zz
                  · subst zz; simp
                  · rcases List.mem_append.mp (s5 b zz) with zz | zz
                    · exact List.mem_append_left _ (List.mem_cons_of_mem _ zz)
                    · exact List.mem_append_right _ zz)
              obtain ⟨hcls, hno⟩ := ok c f A hsm.1 hmg
              refine ⟨a, A, dx, kvs, rfl, hA, hcls, hno, ?_, q F2 Os' _ σ st5 S5⟩
              have := of_decide_eq_true hsm.2
              rwa [List.length_map] at this
            · cases hg
          · cases hg

/-! ### o.f op= e, with ints or texts -/
def gFldAug (tab : Str → Str → Bool) (f : Str) (g : T → T → Option T) (y : T) : T → Option (T × T)
  | .ins c fs xs => if (tab c f && decide (fs.length < 1000)) = true then match lookK fs xs f with
      | some old => match g old y with
        | some new => if imm new = true then let r := putKs f new fs xs; some (.non, .ins c r.1 r.2) else none
        | none => none
      | none => none
    else none
  | _ => none
end
end TL

/-! TL19: is, in, built-ins -/
namespace TL
open PySem PySem.Spec PyProof.Rows L2
section
variable {K : PySem.W.Frag} {mg : Str → Option Value} {B : Nat → Addr → Prop} {L : Lv} {m ma mb mc : Md}
/-! ### is, is not, in, not in -/
def rIsAny (neg : Bool) : R2 := fun x y H Q => (y = .non ∧ Q (.bl (if neg = true then !decide (x = .non) else decide (x = .non))) H) ∨ ∃ a b, x = .bl a ∧ y = .bl b ∧ Q (.bl (if neg = true then !decide (a = b) else decide (a = b))) H
theorem op_isAny {X : Cx} : OpR X (compareOp .Is) (rIsAny false) := by
  intro pins s σ H x y v u Q I rx ry h
  rcases h with ⟨e, q⟩ | h
  · exact op_isN pins s σ H x y v u Q I rx ry ⟨e, q⟩
  · exact op_isBl pins s σ H x y v u Q I rx ry h
theorem op_isNotAny {X : Cx} : OpR X (compareOp .IsNot) (rIsAny true) := by
  intro pins s σ H x y v u Q I rx ry h
  rcases h with ⟨e, q⟩ | h
  · exact op_notN pins s σ H x y v u Q I rx ry ⟨e, q⟩
  · exact op_notBl pins s σ H x y v u Q I rx ry h
theorem rp_non {H : Hp} {P : Addr → Prop} {t : T} {v : V} (h : Rp K mg H P v t) : decide (v = .non) = (match t with | .non => true | _ => false) := by
  cases t with
  | non =>
    have e : v = .non := h
    subst e; rfl
  | bl b =>
    have e : v = .bl b := h
    subst e; rfl
  | int i =>
    have e : v = .int i := h
    subst e; rfl
  | str x =>
    have e : v = .str x := h
    subst e; rfl
  | lst xs => obtain ⟨a, vs, rfl, _⟩ := h; rfl
  | tup xs => obtain ⟨a, vs, rfl, _⟩ := h; rfl
  | dct ks xs => obtain ⟨a, vs, rfl, _⟩ := h; rfl
  | dcT ks xs => obtain ⟨a, vs, rfl, _⟩ := h; rfl
  | ins c fs xs => obtain ⟨a, A, dx, kvs, rfl, _⟩ := h; rfl
theorem is_any {neg : Bool} {F : Addr → Prop} {H : Hp} {x y : V} {tx ty : T} {b : Bool} {Q : VK} (ra : VR K mg B F H ma [] x tx) (rb : VR K mg B F H mb [] y ty) (e : isB tx ty = some b) (q : Q (.bl (if neg = true then !b else b)) H) : rIsAny neg x y H Q := by
  unfold isB at e
  split at e
  · cases e
    have ey := vr_non rb
    subst ey
    refine .inl ⟨rfl, ?_⟩
    have h1 := rp_non ra.any
    cases tx <;> first
      | (rw [show decide (x = V.non) = true from h1]; exact q)
      | (rw [show decide (x = V.non) = false from h1]; exact q)
  · cases e
    refine .inr ⟨_, _, vr_bl ra, vr_bl rb, ?_⟩
    rename_i c d
    have e2 : (c == d) = decide (c = d) := by cases c <;> cases d <;> rfl
    rw [e2] at q
    exact q
  · cases e
theorem s_is : Op2S K mg B L (rIsAny false) ma mb oIs .sc := by
  intro F H x y tx ty t Q hF ra rb e k
  unfold oIs at e
  rw [Option.map_eq_some_iff] at e
  obtain ⟨b, eb, rfl⟩ := e
  exact is_any (neg := false) ra rb eb (fin_sc k rfl rfl)
theorem s_isNot : Op2S K mg B L (rIsAny true) ma mb oIsNot .sc := by
  intro F H x y tx ty t Q hF ra rb e k
  unfold oIsNot at e
  rw [Option.map_eq_some_iff] at e
  obtain ⟨b, eb, rfl⟩ := e
  exact is_any (neg := true) ra rb eb (fin_sc k rfl rfl)
theorem s_in : Op2S K mg B L (rInAny K false) ma mb oIn .sc := by
  intro F H x y tx ty t Q hF ra rb e k
  unfold oIn at e
  rw [Option.map_eq_some_iff] at e
  obtain ⟨b, eb, rfl⟩ := e
  exact in_any (neg := false) ra rb eb (fin_sc k rfl rfl)
theorem s_notIn : Op2S K mg B L (rInAny K true) ma mb oNotIn .sc := by
  intro F H x y tx ty t Q hF ra rb e k
  unfold oNotIn at e
  rw [Option.map_eq_some_iff] at e
  obtain ⟨b, eb, rfl⟩ := e
  exact in_any (neg := true) ra rb eb (fin_sc k rfl rfl)

/-! ### len -/
def gLen : List T → Option T
  | [.lst xs] => some (.int xs.length)
  | [.tup xs] => some (.int xs.length)
  | [.str z] => if small z.length = true then some (.int z.length) else none
  | [.dct ks _] => some (.int ks.length)
  | _ => none
def rLenAny (K : PySem.W.Frag) : List V → Hp → VK → Prop := fun xs H Q => (∃ x n, xs = [x] ∧ LenV K x H n ∧ Q (.int n) H) ∨ ∃ a kvs, xs = [V.ref a] ∧ H a = some (.dK kvs) ∧ Q (.int kvs.length) H
theorem call_lenAny {X : Cx} : CallR X (.builtin "len") (rLenAny X.K) := call_len.or call_lenD
theorem l_len : OpLS K mg B L (rLenAny K) [ma] gLen .sc := by
  intro F H vs ts t Q hF r e k
  obtain ⟨v, x, rfl, rfl, q⟩ := vrl_one r
  cases x with
  | lst xs =>
    cases e
    obtain ⟨a, ws, rfl, rd, r⟩ := vr_lst q
    exact .inl ⟨_, xs.length, rfl, .inl ⟨ws, .inl rd, (rpl_len r).symm⟩, fin_sc k rfl rfl⟩
  | tup xs =>
    cases e
    obtain ⟨a, ws, rfl, rd, r⟩ := vr_tup q
    exact .inl ⟨_, xs.length, rfl, .inr ⟨ws, rd, (rpl_len r).symm⟩, fin_sc k rfl rfl⟩
  | str z =>
    have e' : (if small z.length = true then some (T.int z.length) else none) = some t := e
    split at e'
    · rename_i hs
      cases e'
      exact .inl ⟨_, z.length, rfl, by rw [vr_str q]; exact ⟨small_le hs, rfl⟩, fin_sc k rfl rfl⟩
    · cases e'
  | dct ks xs =>
    cases e
    obtain ⟨a, kvs, rfl, ⟨_, l⟩, ek, r⟩ := q.any
    refine .inr ⟨a, kvs, rfl, l, ?_⟩
    subst ek
    rw [List.length_map] at k
    exact fin_sc k rfl rfl
  | _ => cases e

/-! ### int, abs, min, max, str, ord -/
def gInt : List T → Option T
  | [.int i] => some (.int i)
  | [.bl b] => some (.int (if b then 1 else 0))
  | [.str a] => if decide (a.length ≤ 640) = true then (PySem.intText? a).map .int else none
  | _ => none
def rIntAny : List V → Hp → VK → Prop := fun xs H Q => ((∃ i, xs = [.int i] ∧ Q (.int i) H) ∨ ∃ k, xs = [.bl k] ∧ Q (.int (if k then 1 else 0)) H) ∨ ∃ a n, xs = [.str a] ∧ PySem.intText? a = some n ∧ a.length ≤ 640 ∧ Q (.int n) H
theorem call_intAny {X : Cx} : CallR X (.type "int") rIntAny := call_int1.or call_int_str
theorem l_int : OpLS K mg B L rIntAny [ma] gInt .sc := by
  intro F H vs ts t Q hF r e k
  obtain ⟨v, x, rfl, rfl, q⟩ := vrl_one r
  cases x with
  | int i =>
    cases e
    exact .inl (.inl ⟨i, by rw [vr_int q], fin_sc k rfl rfl⟩)
  | bl b =>
    cases e
    exact .inl (.inr ⟨b, by rw [vr_bl q], fin_sc k rfl rfl⟩)
  | str a =>
    have e' : (if decide (a.length ≤ 640) = true then (PySem.intText? a).map T.int else none) = some t := e
    split at e'
    · rename_i h
      rw [Option.map_eq_some_iff] at e'
      obtain ⟨n, en, rfl⟩ := e'
      exact .inr ⟨a, n, by rw [vr_str q], en, of_decide_eq_true h, fin_sc k rfl rfl⟩
    · cases e'
  | _ => cases e
def gAbs : List T → Option T
  | [.int i] => some (.int (if i < 0 then -i else i))
  | _ => none
theorem l_abs : OpLS K mg B L (fun xs H Q => ∃ i, xs = [.int i] ∧ Q (.int (if i < 0 then -i else i)) H) [ma] gAbs .sc := by
  intro F H vs ts t Q hF r e k
  obtain ⟨v, x, rfl, rfl, q⟩ := vrl_one r
  cases x with
  | int i =>
    cases e
    exact ⟨i, by rw [vr_int q], fin_sc k rfl rfl⟩
  | _ => cases e
def gMax2 : List T → Option T
  | [.int i, .int j] => some (.int (if j > i then j else i))
  | _ => none
def gMin2 : List T → Option T
  | [.int i, .int j] => some (.int (if j < i then j else i))
  | _ => none
theorem l_max2 : OpLS K mg B L (fun xs H Q => ∃ i j, xs = [.int i, .int j] ∧ Q (.int (if j > i then j else i)) H) [ma, mb] gMax2 .sc := by
  intro F H vs ts t Q hF r e k
  obtain ⟨v, w, x, y, rfl, rfl, q, q2⟩ := vrl_two r
  unfold gMax2 at e
  split at e
  · rename_i i j h
    cases h
    cases e
    exact ⟨i, j, by rw [vr_int q, vr_int q2], fin_sc k rfl rfl⟩
  · cases e
theorem l_min2 : OpLS K mg B L (fun xs H Q => ∃ i j, xs = [.int i, .int j] ∧ Q (.int (if j < i then j else i)) H) [ma, mb] gMin2 .sc := by
  intro F H vs ts t Q hF r e k
  obtain ⟨v, w, x, y, rfl, rfl, q, q2⟩ := vrl_two r
  unfold gMin2 at e
  split at e
  · rename_i i j h
    cases h
    cases e
    exact ⟨i, j, by rw [vr_int q, vr_int q2], fin_sc k rfl rfl⟩
  · cases e
def gStr : List T → Option T
  | [.int i] => if decide (i.natAbs.log2 < 1920) = true then some (.str (toString i)) else none
  | [.str a] => some (.str a)
  | _ => none
theorem l_str : OpLS K mg B L (fun xs H Q => (∃ i, xs = [.int i] ∧ i.natAbs.log2 < 1920 ∧ Q (.str (toString i)) H) ∨ ∃ a, xs = [.str a] ∧ Q (.str a) H) [ma] gStr .sc := by
  intro F H vs ts t Q hF r e k
  obtain ⟨v, x, rfl, rfl, q⟩ := vrl_one r
  cases x with
  | int i =>
    have e' : (if decide (i.natAbs.log2 < 1920) = true then some (T.str (toString i)) else none) = some t := e
    split at e'
    · rename_i h
      cases e'
      exact .inl ⟨i, by rw [vr_int q], of_decide_eq_true h, fin_sc k rfl rfl⟩
    · cases e'
  | str a =>
    cases e
    exact .inr ⟨a, by rw [vr_str q], fin_sc k rfl rfl⟩
  | _ => cases e
theorem call_strAny {X : Cx} : CallR X (.type "str") (fun xs H Q => (∃ i, xs = [.int i] ∧ i.natAbs.log2 < 1920 ∧ Q (.str (toString i)) H) ∨ ∃ a, xs = [.str a] ∧ Q (.str a) H) := call_str_int.or SkE.call_str_str
def gOrd : List T → Option T
  | [.str x] => if decide (x.length = 1) = true then some (.int (x.cps.getD 0 0 : Nat)) else none
  | _ => none
theorem l_ord : OpLS K mg B L (fun xs H Q => ∃ x, xs = [.str x] ∧ x.length = 1 ∧ Q (.int (x.cps.getD 0 0 : Nat)) H) [ma] gOrd .sc := by
  intro F H vs ts t Q hF r e k
  obtain ⟨v, x, rfl, rfl, q⟩ := vrl_one r
  cases x with
  | str a =>
    have e' : (if decide (a.length = 1) = true then some (T.int (a.cps.getD 0 0 : Nat)) else none) = some t := e
    split at e'
    · rename_i h
      cases e'
      exact ⟨a, by rw [vr_str q], of_decide_eq_true h, fin_sc k rfl rfl⟩
    · cases e'
  | _ => cases e

/-! ### list(x), tuple(x) -/
def gList (kf : Bool) : List T → Option T
  | [.lst xs] => if (kf || immL xs) = true then some (.lst xs) else none
  | [.tup xs] => if (kf || immL xs) = true then some (.lst xs) else none
  | _ => none
def gTuple (kf : Bool) : List T → Option T
  | [.lst xs] => if (kf || immL xs) = true then some (.tup xs) else none
  | [.tup xs] => if (kf || immL xs) = true then some (.tup xs) else none
  | _ => none
theorem l_list (na : ma.own = false) : OpLS K mg B L (fun xs H Q => ∃ p ys, xs = [.ref p] ∧ (SqL K H p ys ∨ SqT K H p ys) ∧ ∀ l, H l = none → Q (.ref l) (upd H l (.lst ys))) [ma] (gList ma.kf) (.ow 1) := by
  intro F H vs ts t Q hF r e k
  obtain ⟨v, x, rfl, rfl, q⟩ := vrl_one r
  cases x with
  | lst xs =>
    have e' : (if (ma.kf || immL xs) = true then some (T.lst xs) else none) = some t := e
    split at e'
    · rename_i h
      cases e'
      obtain ⟨a, ws, rfl, rd, r⟩ := kids_of q h
      exact ⟨a, ws, rfl, .inl (.inl rd), new_lst hF r k⟩
    · cases e'
  | tup xs =>
    have e' : (if (ma.kf || immL xs) = true then some (T.lst xs) else none) = some t := e
    split at e'
    · rename_i h
      cases e'
      obtain ⟨a, ws, rfl, rd, r⟩ := kids_ofT q h
      exact ⟨a, ws, rfl, .inr rd, new_lst hF r k⟩
    · cases e'
  | _ => cases e
theorem l_tuple (na : ma.own = false) : OpLS K mg B L (fun xs H Q => ∃ p ys, xs = [.ref p] ∧ ((SqL K H p ys ∧ ∀ l, H l = none → Q (.ref l) (upd H l (.tup ys))) ∨ (SqT K H p ys ∧ Q (.ref p) H))) [ma] (gTuple ma.kf) .fr := by
  intro F H vs ts t Q hF r e k
  obtain ⟨v, x, rfl, rfl, q⟩ := vrl_one r
  cases x with
  | lst xs =>
    have e' : (if (ma.kf || immL xs) = true then some (T.tup xs) else none) = some t := e
    split at e'
    · rename_i h
      cases e'
      obtain ⟨a, ws, rfl, rd, r⟩ := kids_of q h
      refine ⟨a, ws, rfl, .inl ⟨.inl rd, fun p hp => k F [] (.ref p) _ ⟨fun a h => upd_ne (fun e => h (by rw [e]; exact hp)), fun _ h => h, fun _ h => .inl h, by simp, List.nodup_nil⟩ (VR.fr_of ⟨p, ws, rfl, SqT.of upd_same, ?_⟩)⟩⟩
      exact RpL.mono ((New.one (o := .tup ws) hp hF).stp hF (BL := fun _ => False) (by simp)).kpF (fun _ h => h) r
    · cases e'
  | tup xs =>
    have e' : (if (ma.kf || immL xs) = true then some (T.tup xs) else none) = some t := e
    split at e'
    · rename_i h
      cases e'
      obtain ⟨a, ws, rfl, rd, r⟩ := kids_ofT q h
      exact ⟨a, ws, rfl, .inr ⟨rd, k F [] _ H New.nil (VR.fr_of ⟨a, ws, rfl, rd, r⟩)⟩⟩
    · cases e'
  | _ => cases e

/-! ### all, any, sum -/
def blL : List T → Option (List Bool)
  | [] => some []
  | .bl b :: r => (blL r).map (b :: ·)
  | _ => none
def intL : List T → Option (List Int)
  | [] => some []
  | .int b :: r => (intL r).map (b :: ·)
  | _ => none
theorem blL_rp {H : Hp} {P : Addr → Prop} : ∀ {xs : List T} {vs : List V} {bs : List Bool}, RpL K mg H P vs xs → blL xs = some bs → vs = bs.map V.bl
  | [], vs, bs, h, e => by
    have h : vs = [] := h
    cases e
    rw [h]; rfl
  | x :: xs, vs, bs, h, e => by
    obtain ⟨v, r, rfl, q, h⟩ := h
    cases x with
    | bl b =>
      have e' : (blL xs).map (b :: ·) = some bs := e
      rw [Option.map_eq_some_iff] at e'
      obtain ⟨cs, ec, rfl⟩ := e'
      rw [blL_rp h ec, show v = .bl b from q]
      rfl
    | _ => cases e
theorem intL_rp {H : Hp} {P : Addr → Prop} : ∀ {xs : List T} {vs : List V} {bs : List Int}, RpL K mg H P vs xs → intL xs = some bs → vs = bs.map V.int
  | [], vs, bs, h, e => by
    have h : vs = [] := h
    cases e
    rw [h]; rfl
  | x :: xs, vs, bs, h, e => by
    obtain ⟨v, r, rfl, q, h⟩ := h
    cases x with
    | int b =>
      have e' : (intL xs).map (b :: ·) = some bs := e
      rw [Option.map_eq_some_iff] at e'
      obtain ⟨cs, ec, rfl⟩ := e'
      rw [intL_rp h ec, show v = .int b from q]
      rfl
    | _ => cases e
def gAll : List T → Option T
  | [.lst xs] => (blL xs).map fun bs => .bl (bs.all id)
  | _ => none
def gAny : List T → Option T
  | [.lst xs] => (blL xs).map fun bs => .bl (bs.any id)
  | _ => none
def gSum : List T → Option T
  | [.lst xs] => (intL xs).map fun ns => .int ns.sum
  | _ => none
theorem l_all : OpLS K mg B L (rAll K) [ma] gAll .sc := by
  intro F H vs ts t Q hF r e k
  obtain ⟨v, x, rfl, rfl, q⟩ := vrl_one r
  cases x with
  | lst xs =>
    have e' : (blL xs).map (fun bs => T.bl (bs.all id)) = some t := e
    rw [Option.map_eq_some_iff] at e'
    obtain ⟨bs, eb, rfl⟩ := e'
    obtain ⟨a, ws, rfl, rd, r⟩ := vr_lst q
    rw [blL_rp r eb] at rd
    exact ⟨a, bs, rfl, .inl rd, fin_sc k rfl rfl⟩
  | _ => cases e
theorem l_any : OpLS K mg B L (rAny K) [ma] gAny .sc := by
  intro F H vs ts t Q hF r e k
  obtain ⟨v, x, rfl, rfl, q⟩ := vrl_one r
  cases x with
  | lst xs =>
    have e' : (blL xs).map (fun bs => T.bl (bs.any id)) = some t := e
    rw [Option.map_eq_some_iff] at e'
    obtain ⟨bs, eb, rfl⟩ := e'
    obtain ⟨a, ws, rfl, rd, r⟩ := vr_lst q
    rw [blL_rp r eb] at rd
    exact ⟨a, bs, rfl, .inl rd, fin_sc k rfl rfl⟩
  | _ => cases e
theorem l_sum : OpLS K mg B L (rSum K) [ma] gSum .sc := by
  intro F H vs ts t Q hF r e k
  obtain ⟨v, x, rfl, rfl, q⟩ := vrl_one r
  cases x with
  | lst xs =>
    have e' : (intL xs).map (fun ns => T.int ns.sum) = some t := e
    rw [Option.map_eq_some_iff] at e'
    obtain ⟨ns, en, rfl⟩ := e'
    obtain ⟨a, ws, rfl, rd, r⟩ := vr_lst q
    rw [intL_rp r en] at rd
    exact ⟨a, ns, rfl, .inl rd, fin_sc k rfl rfl⟩
  | _ => cases e
end

/-! ### isinstance with a built-in class -/
def tyN : T → Option String
  | .non => some "NoneType" | .bl _ => some "bool" | .int _ => some "int" | .str _ => some "str" | .lst _ => some "list" | .tup _ => some "tuple" | .dct _ _ => some "dict" | .dcT _ _ => some "dict"
  | .ins _ _ _ => none
def isN (a b : String) : Bool := a == b || (a == "bool" && b == "int")
def isNames : List String := ["NoneType", "bool", "int", "str", "list", "tuple", "dict"]
theorem isN_ok : ∀ a ∈ isNames, ∀ b ∈ ["bool", "int", "str", "list", "tuple", "dict"], kitB a b = some (isN a b) := by decide +kernel
theorem tyN_mem {t : T} {a : String} (h : tyN t = some a) : a ∈ isNames := by
  cases t <;> first
    | (cases h; decide)
    | cases h
def oIsi (c : String) (t : T) : Option T := (tyN t).map fun a => .bl (isN a c)
theorem ty_of {K : PySem.W.Frag} {mg : Str → Option Value} {H : Hp} {P : Addr → Prop} {t : T} {v : V} {a : String} (h : Rp K mg H P v t) (e : tyN t = some a) : TyX K H v (.type a) := by
  cases t with
  | non =>
    cases e
    have h : v = .non := h
    subst h; exact .base .non
  | bl b =>
    cases e
    have h : v = .bl b := h
    subst h; exact .base (.bl b)
  | int b =>
    cases e
    have h : v = .int b := h
    subst h; exact .base (.int b)
  | str b =>
    cases e
    have h : v = .str b := h
    subst h; exact .base (.str b)
  | lst xs =>
    cases e
    obtain ⟨a, vs, rfl, ⟨_, rd⟩, _⟩ := h
    rcases rd with rd | ⟨o, rd⟩
    · exact .base (.lst rd)
    · exact .base (.frz rd)
  | tup xs =>
    cases e
    obtain ⟨a, vs, rfl, rd, _⟩ := h
    rcases rd with (rd | ⟨o, rd⟩) | ⟨o, its, n, ho, hc, _⟩
    · exact .base (.tup rd)
    · exact .fTuple rd
    · exact .kTuple ho hc
  | dct ks xs =>
    cases e
    obtain ⟨a, kvs, rfl, ⟨_, rd⟩, _⟩ := h
    exact .base (.dK rd)
  | dcT ks xs =>
    cases e
    obtain ⟨a, kvs, rfl, ⟨_, rd⟩, _⟩ := h
    exact .base (.dT rd)
  | ins c fs xs => cases e
section
variable {X : Cx} {W : WX} {B : Nat → Addr → Prop} {fx : Fx} {L : Lv} {Γh Γ Γ1 : List Md} {e : Expr} {ce : M T} {m : Md} {pos : Pos}
theorem ex_isi {c : String} {x : Str} {p p2 : Pos} (hc : c ∈ ["bool", "int", "str", "list", "tuple", "dict"]) (hg : Gl X "isinstance") (hm : X.mg "isinstance" = none) (hgx : Gl X x) (hmx : X.mg x = none) (hv : bootBuiltins x = some (.type c)) (hn : x ≠ "__name__") (hdb : (x == ("__debug__" : Str)) = false)
    (he : EX X W L Γh Γ e ce m Γ1) (hs : starEach [e, .Name x p2] X.env = (false, eval e X.env) :: starEach [.Name x p2] X.env) (hs2 : starEach [.Name x p2] X.env = (false, eval (.Name x p2) X.env) :: starEach [] X.env) (hpl : (backTo pos (starEach [.Name x p2] X.env)).any (·.1) = false) :
    EX X W L Γh Γ (.Call (.Name "isinstance" p) [e, .Name x p2] [] pos) (cOp1 (oIsi c) ce) .sc Γ1 := by
  refine PE.imp (pe_callB call_isi hg hm boot_isinstance (pa_cons he (pa_cons (pe_bltn (v := .ty c) hgx hmx hv rfl hn hdb) pa_nil hs2) hs) (by decide) (by decide) hs hpl) fun σ H Q h => ?_
  obtain ⟨B, fx, F, Os, τ, S, p⟩ := h
  refine ⟨B, fx, F, Os, τ, S, post_bind p fun t τ' F' Os' O v H' s S' x r p' => ?_⟩
  show ∃ (x c' : V) (t u : Value) (b : Bool), [v, V.ty c] = [x, c'] ∧ ClsV c' u ∧ TyX X.K H' x t ∧ PySem.W.kitOne X.K t u = some b ∧ Q (.bl b) H'
  obtain ⟨t', e', k⟩ := post_opt S' p'
  unfold oIsi at e'
  rw [Option.map_eq_some_iff] at e'
  obtain ⟨a, ea, rfl⟩ := e'
  refine ⟨v, .ty c, .type a, .type c, isN a c, rfl, .ty c, ty_of (r.any) ea, isN_ok a (tyN_mem ea) c hc, k F' [] _ H' New.nil (VR.sc_of rfl rfl)⟩
end
end TL

/-! TL20: a def keeps its promise; raise -/
namespace TL
open PySem PySem.Spec PyProof.Rows L2

/-- the slots at the entry, at the end -/
def gamP : List PM → List Md
  | [] => []
  | .fr :: r => .fr :: gamP r
  | .bo :: r => .bo 0 :: gamP r
  | .io d :: r => .ow d :: gamP r
def gamR : List PM → List Md
  | [] => []
  | .io d :: r => .ow d :: gamR r
  | _ :: r => .un :: gamR r
def ioSl : Nat → List PM → List Nat
  | _, [] => []
  | i, .io _ :: r => i :: ioSl (i + 1) r
  | i, _ :: r => ioSl (i + 1) r
def outsOf (τ : List (Option T)) : Nat → List PM → Option (List T)
  | _, [] => some []
  | i, .io _ :: r => match τ[i]? with
    | some (some t) => (outsOf τ (i + 1) r).map (t :: ·)
    | _ => none
  | i, _ :: r => outsOf τ (i + 1) r
def Γ0 (pm : List PM) (n : Nat) : List Md := gamP pm ++ List.replicate n .un
def ΓR (pm : List PM) (n : Nat) : List Md := gamR pm ++ List.replicate n .un
def startT (n : Nat) (args : List T) : List (Option T) := args.map some ++ List.replicate n none
def runF (pm : List PM) (n : Nat) (c : M Fl) (args : List T) : CR := match c (startT n args) with
  | .ok .nx τ => match outsOf τ 0 pm with
    | some os => .ok .non os
    | none => .stuck
  | .ok (.rt t) τ => match outsOf τ 0 pm with
    | some os => .ok t os
    | none => .stuck
  | .exn c fs xs τ => match outsOf τ 0 pm with
    | some os => .exn c fs xs os
    | none => .stuck
  | _ => .stuck
theorem gamP_len : ∀ {pm : List PM}, (gamP pm).length = pm.length
  | [] => rfl
  | .fr :: r => by simp [gamP, gamP_len (pm := r)]
  | .bo :: r => by simp [gamP, gamP_len (pm := r)]
  | .io d :: r => by simp [gamP, gamP_len (pm := r)]
theorem gamR_len : ∀ {pm : List PM}, (gamR pm).length = pm.length
  | [] => rfl
  | .fr :: r => by simp [gamR, gamR_len (pm := r)]
  | .bo :: r => by simp [gamR, gamR_len (pm := r)]
  | .io d :: r => by simp [gamR, gamR_len (pm := r)]
section
variable {K : PySem.W.Frag} {mg : Str → Option Value} {F : Addr → Prop} {H : Hp}
theorem args_len {BL : Addr → Prop} : ∀ {pm : List PM} {Os : List (List Addr)} {vs : List V} {ts : List T}, ArgsR K mg F H BL pm Os vs ts → Os.length = pm.length ∧ vs.length = pm.length ∧ ts.length = pm.length
  | [], _, _, _, h => by
    obtain ⟨rfl, rfl, rfl⟩ := h
    exact ⟨rfl, rfl, rfl⟩
  | .fr :: pm, _, _, _, h => by
    obtain ⟨_, _, _, _, _, rfl, rfl, rfl, _, h⟩ := h
    have := args_len h
    simp [this.1, this.2.1, this.2.2]
  | .bo :: pm, _, _, _, h => by
    obtain ⟨_, _, _, _, _, rfl, rfl, rfl, _, h⟩ := h
    have := args_len h
    simp [this.1, this.2.1, this.2.2]
  | .io d :: pm, _, _, _, h => by
    obtain ⟨_, _, _, _, _, _, rfl, rfl, rfl, _, h⟩ := h
    have := args_len h
    simp [this.1, this.2.1, this.2.2]
theorem args_slot {BL : Addr → Prop} (hF : ∀ a, F a → BL a) : ∀ {pm : List PM} {Os : List (List Addr)} {vs : List V} {ts : List T} {i : Nat} {m : Md}, ArgsR K mg F H BL pm Os vs ts → (gamP pm)[i]? = some m →
    ∃ O v t, Os[i]? = some O ∧ vs[i]? = some v ∧ ts[i]? = some t ∧ VR K mg (fun _ => BL) F H m O v t
  | [], _, _, _, _, _, _, e => by simp [gamP] at e
  | .fr :: pm, _, _, _, i, m, h, e => by
    obtain ⟨Os', v, r, t, ts', rfl, rfl, rfl, q, h⟩ := h
    cases i with
    | zero =>
      have e' : some Md.fr = some m := e
      cases e'
      exact ⟨[], v, t, rfl, rfl, rfl, VR.fr_of q⟩
    | succ i => exact args_slot hF (i := i) h (by simpa [gamP] using e)
  | .bo :: pm, _, _, _, i, m, h, e => by
    obtain ⟨Os', v, r, t, ts', rfl, rfl, rfl, q, h⟩ := h
    cases i with
    | zero =>
      have e' : some (Md.bo 0) = some m := e
      cases e'
      exact ⟨[], v, t, rfl, rfl, rfl, rfl, Rp.mono (Kp.refl _ _) (fun _ h => .inr h) q⟩
    | succ i => exact args_slot hF (i := i) h (by simpa [gamP] using e)
  | .io d :: pm, _, _, _, i, m, h, e => by
    obtain ⟨O, Os', v, r, t, ts', rfl, rfl, rfl, q, h⟩ := h
    cases i with
    | zero =>
      have e' : some (Md.ow d) = some m := e
      cases e'
      exact ⟨O, v, t, rfl, rfl, rfl, q⟩
    | succ i => exact args_slot hF (i := i) h (by simpa [gamP] using e)
theorem ioSl_val {vs : List V} : ∀ {pm : List PM} {i : Nat}, ∀ p ∈ ioSl i pm, i ≤ p ∧ p < i + pm.length
  | [], _, p, h => by simp [ioSl] at h
  | .fr :: r, i, p, h => by
    have := ioSl_val (vs := vs) (pm := r) (i := i + 1) p h
    simp; omega
  | .bo :: r, i, p, h => by
    have := ioSl_val (vs := vs) (pm := r) (i := i + 1) p h
    simp; omega
  | .io d :: r, i, p, h => by
    rcases List.mem_cons.mp (show p ∈ i :: ioSl (i + 1) r from h) with e | e
    · subst e; simp
    · have := ioSl_val (vs := vs) (pm := r) (i := i + 1) p e
      simp; omega
/-- what is handed out, read off the slots -/
theorem outs_of {B : Nat → Addr → Prop} {fx : Fx} {L : Lv} {Γ : List Md} {Os : Nat → List Addr} {σ : L2.St} {τ : List (Option T)} (S : SR K mg B fx L Γ F Os H σ τ) : ∀ {pm : List PM} {i : Nat} {vs : List V} {os : List T},
    vs.length = pm.length → (∀ (j : Nat) m, (gamR pm)[j]? = some m → Γ[i + j]? = some m) → (∀ (j : Nat) v, i + j ∈ ioSl i pm → vs[j]? = some v → σ[i + j]? = some (some v)) → outsOf τ i pm = some os →
    ∃ Ol, OutsR K mg F H pm Ol vs os ∧ Ol.flatten.Nodup ∧ ∀ a ∈ Ol.flatten, ∃ j, i ≤ j ∧ a ∈ Os j
  | [], i, vs, os, hl, _, _, e => by
    have : vs = [] := List.eq_nil_of_length_eq_zero hl
    subst this
    cases e
    exact ⟨[], ⟨rfl, rfl, rfl⟩, by simp, by simp⟩
  | .fr :: pm, i, [], os, hl, _, _, _ => by simp at hl
  | .bo :: pm, i, [], os, hl, _, _, _ => by simp at hl
  | .io d :: pm, i, [], os, hl, _, _, _ => by simp at hl
  | .fr :: pm, i, v :: vs, os, hl, hg, hv, e => by
    obtain ⟨Ol, r, nd, sub⟩ := outs_of S (pm := pm) (i := i + 1) (vs := vs) (os := os) (by simpa using hl) (fun j m h => by have := hg (j + 1) m (by simpa [gamR] using h); rwa [show i + (j + 1) = i + 1 + j by omega] at this) (fun j w h h2 => by
      have := hv (j + 1) w (by show i + (j + 1) ∈ ioSl (i + 1) pm; rwa [show i + (j + 1) = i + 1 + j by omega]) (by simpa using h2)
      rwa [show i + (j + 1) = i + 1 + j by omega] at this) e
    exact ⟨Ol, ⟨v, vs, rfl, r⟩, nd, fun a ha => by
      obtain ⟨j, hj, h⟩ := sub a ha
      exact ⟨j, by omega, h⟩⟩
  | .bo :: pm, i, v :: vs, os, hl, hg, hv, e => by
    obtain ⟨Ol, r, nd, sub⟩ := outs_of S (pm := pm) (i := i + 1) (vs := vs) (os := os) (by simpa using hl) (fun j m h => by have := hg (j + 1) m (by simpa [gamR] using h); rwa [show i + (j + 1) = i + 1 + j by omega] at this) (fun j w h h2 => by
      have := hv (j + 1) w (by show i + (j + 1) ∈ ioSl (i + 1) pm; rwa [show i + (j + 1) = i + 1 + j by omega]) (by simpa using h2)
      rwa [show i + (j + 1) = i + 1 + j by omega] at this) e
    exact ⟨Ol, ⟨v, vs, rfl, r⟩, nd, fun a ha => by
      obtain ⟨j, hj, h⟩ := sub a ha
      exact ⟨j, by omega, h⟩⟩
  | .io d :: pm, i, v :: vs, os, hl, hg, hv, e => by
    unfold outsOf at e
    split at e
    · rename_i t et
      rw [Option.map_eq_some_iff] at e
      obtain ⟨os', eo, rfl⟩ := e
      obtain ⟨Ol, r, nd, sub⟩ := outs_of S (pm := pm) (i := i + 1) (vs := vs) (os := os') (by simpa using hl) (fun j m h => by have := hg (j + 1) m (by simpa [gamR] using h); rwa [show i + (j + 1) = i + 1 + j by omega] at this) (fun j w h h2 => by
        have := hv (j + 1) w (by
          show i + (j + 1) ∈ i :: ioSl (i + 1) pm
          rw [show i + (j + 1) = i + 1 + j by omega]
          exact List.mem_cons_of_mem _ h) (by simpa using h2)
        rwa [show i + (j + 1) = i + 1 + j by omega] at this) eo
      have hm : Γ[i]? = some (.ow d) := by simpa using hg 0 (.ow d) rfl
      have hσ : σ[i]? = some (some v) := by simpa using hv 0 v (by show i + 0 ∈ i :: ioSl (i + 1) pm; simp) rfl
      rcases S.slot i _ hm with ⟨q, _⟩ | ⟨v', t', e1, e2, rv⟩
      · cases q
      · rw [hσ] at e1
        rw [et] at e2
        cases e1
        cases e2
        refine ⟨Os i :: Ol, ⟨_, _, v, vs, t, os', rfl, rfl, rfl, rv, r⟩, ?_, fun a ha => ?_⟩
        · rw [List.flatten_cons]
          refine List.nodup_append.mpr ⟨S.nd i, nd, fun a ha b hb e => ?_⟩
          subst e
          obtain ⟨j, hj, h⟩ := sub a hb
          have := S.dj i j a ha h
          omega
        · rw [List.flatten_cons] at ha
          rcases List.mem_append.mp ha with q | q
          · exact ⟨i, Nat.le_refl _, q⟩
          · obtain ⟨j, hj, h⟩ := sub a q
            exact ⟨j, by omega, h⟩
    · cases e
end

section
variable {P : Program} {w : World} {K : PySem.W.Frag} {mg : Str → Option Value} {base : Heap} {x qual : Str} {params : Arguments} {body : List Stmt} {scope : Scope} {dvs : List V} {kws : List (Str × V)} {f : Addr} {fd : FuncData}
def enF (sg : Sig) (n : Nat) : En := ⟨sg.rm, ΓR sg.pm n, [], []⟩
abbrev WEx (E : XK) : WX := fun c d _ H => E c d H
/-- THE RULE for a def -/
theorem fn_ok {N ps : List Str} {k n : Nat} {sg : Sig} {c : M Fl} (F : FunD K x qual params body scope dvs kws f fd) (S : FnScope N ps scope) (hpm : sg.pm.length = ps.length) (hn : N.length = ps.length + n) (hrm : sg.rm ≠ .un)
    (hbody : ∀ (cdv : Value) (A : Around) (outer : List Env) (s : Shared) (H : Hp) (E : XK), Room k (A.deeper (envOfC qual scope s.heap.objs.size f cdv)) →
      SX (cxOf (L2.CX P w) P w K mg base N qual scope f cdv A outer s H E) (WEx E) ⟨0, ioSl 0 sg.pm⟩ (ΓR sg.pm n) (enF sg n) (Γ0 sg.pm n) body c (ΓR sg.pm n)) :
    FnOk P w K mg base (L2.CX P w) (k + 1) f fd ps (spT K mg sg (runF sg.pm n c)) := by
  refine F.ok S (fun vs H Q E h => (spT_len h).trans hpm) fun cdv A outer s H vs Q E hr h => ⟨_, hbody cdv A outer s H E hr, ?_⟩
  obtain ⟨F1, Os, ts, hF, ar, nd, own, pc⟩ := h
  obtain ⟨l1, l2, l3⟩ := args_len ar
  have hFB : ∀ a, F1 a → Rest H Os.flatten a := fun a h => ⟨hF a h, fun z => (own a z).1 h⟩
  have hslotO : ∀ (i : Nat) (a : Addr), a ∈ (Os[i]?).getD [] → ∃ O, Os[i]? = some O ∧ a ∈ O := fun i a h => by
    cases e : Os[i]? with
    | none => rw [e] at h; simp at h
    | some O => rw [e] at h; exact ⟨O, rfl, h⟩
  have memF : ∀ (i : Nat) (a : Addr), a ∈ (Os[i]?).getD [] → a ∈ Os.flatten := fun i a h => by
    obtain ⟨O, e, h⟩ := hslotO i a h
    exact List.mem_flatten.mpr ⟨O, List.mem_of_getElem? e, h⟩
  have nd1 : ∀ {Os : List (List Addr)} (i : Nat), Os.flatten.Nodup → ((Os[i]?).getD []).Nodup := by
    intro Os
    induction Os with
    | nil => intro i _; simp
    | cons O Os ih =>
      intro i h
      rw [List.flatten_cons, List.nodup_append] at h
      cases i with
      | zero => simpa using h.1
      | succ i => simpa using ih i h.2.1
  have dj1 : ∀ {Os : List (List Addr)} (i j : Nat) (a : Addr), Os.flatten.Nodup → a ∈ (Os[i]?).getD [] → a ∈ (Os[j]?).getD [] → i = j := by
    intro Os
    induction Os with
    | nil => intro i j a _ h; simp at h
    | cons O Os ih =>
      intro i j a h hi hj
      rw [List.flatten_cons, List.nodup_append] at h
      have inF : ∀ k : Nat, a ∈ (Os[k]?).getD [] → a ∈ Os.flatten := fun k hk => by
        cases e : Os[k]? with
        | none => rw [e] at hk; simp at hk
        | some O' => rw [e] at hk; exact List.mem_flatten.mpr ⟨O', List.mem_of_getElem? e, hk⟩
      cases i with
      | zero =>
        cases j with
        | zero => rfl
        | succ j => exact absurd rfl (h.2.2 a (by simpa using hi) a (inF j (by simpa using hj)))
      | succ i =>
        cases j with
        | zero => exact absurd rfl (h.2.2 a (by simpa using hj) a (inF i (by simpa using hi)))
        | succ j => rw [ih i j a h.2.1 (by simpa using hi) (by simpa using hj)]
  have gl : (Γ0 sg.pm n).length = ps.length + n := by simp [Γ0, gamP_len, hpm]
  have st : SR K mg (fun _ => Rest H Os.flatten) ⟨(ioSl 0 sg.pm).filterMap fun i => (vs[i]?).map fun v => (i, v), []⟩ ⟨0, ioSl 0 sg.pm⟩ (Γ0 sg.pm n) F1 (fun i => (Os[i]?).getD []) H (start N vs) (startT n ts) := by
    refine ⟨?_, ?_, fun i m em => ?_, fun i hi => ?_, fun m hm => ?_, fun i => nd1 i nd, fun i j a hi hj => dj1 i j a nd hi hj, fun i a ha => ⟨(own a (memF i a ha)).1, fun q => q.2 (memF i a ha), (own a (memF i a ha)).2⟩, hF, fun a ha => ha.1, fun _ _ _ _ h => h, fun p hp => ?_, fun p hp => (nomatch hp), ⟨fun p hp => ?_, fun p hp => (nomatch hp)⟩⟩
    · rw [gl]
      unfold L2.start
      simp [hn, l2, hpm]
    · rw [gl]
      unfold startT
      simp [l3, hpm]
    · unfold Γ0 at em
      by_cases hi : i < (gamP sg.pm).length
      · rw [List.getElem?_append_left hi] at em
        obtain ⟨O, v, t, e1, e2, e3, r⟩ := args_slot hFB ar em
        refine .inr ⟨v, t, ?_, ?_, by rw [e1]; exact r⟩
        · unfold L2.start
          have : i < (vs.map some).length := by rw [List.length_map, l2, ← gamP_len]; exact hi
          rw [List.getElem?_append_left this, List.getElem?_map, e2]
          rfl
        · unfold startT
          have : i < (ts.map some).length := by rw [List.length_map, l3, ← gamP_len]; exact hi
          rw [List.getElem?_append_left this, List.getElem?_map, e3]
          rfl
      · rw [List.getElem?_append_right (by omega)] at em
        have hm : m = .un := by
          have := List.mem_of_getElem? em
          exact (List.mem_replicate.mp this).2
        have : Os[i]? = none := List.getElem?_eq_none (by rw [l1, ← gamP_len]; omega)
        refine .inl ⟨hm, ?_⟩
        rw [this]
        rfl
    · have hi' : ps.length + n ≤ i := by rw [← gl]; exact hi
      have : Os[i]? = none := List.getElem?_eq_none (by rw [l1, hpm]; omega)
      rw [this]
      rfl
    · have : m.lv = 0 := by
        unfold Γ0 at hm
        rcases List.mem_append.mp hm with q | q
        · clear hm
          revert q
          generalize sg.pm = pm
          intro q
          induction pm with
          | nil => cases q
          | cons p pm ih =>
            cases p with
            | fr =>
              rcases List.mem_cons.mp (show m ∈ Md.fr :: gamP pm from q) with e | e
              · rw [e]; rfl
              · exact ih e
            | bo =>
              rcases List.mem_cons.mp (show m ∈ Md.bo 0 :: gamP pm from q) with e | e
              · rw [e]; rfl
              · exact ih e
            | io d =>
              rcases List.mem_cons.mp (show m ∈ Md.ow d :: gamP pm from q) with e | e
              · rw [e]; rfl
              · exact ih e
        · rw [(List.mem_replicate.mp q).2]; rfl
      exact Nat.le_of_eq this
    · obtain ⟨i, hi, e⟩ := List.mem_filterMap.mp hp
      rw [Option.map_eq_some_iff] at e
      obtain ⟨v, ev, rfl⟩ := e
      unfold L2.start
      have hlt := (List.getElem?_eq_some_iff.mp ev).1
      rw [List.getElem?_append_left (by rw [List.length_map]; exact hlt), List.getElem?_map, ev]
      rfl
    · obtain ⟨i, hi, e⟩ := List.mem_filterMap.mp hp
      rw [Option.map_eq_some_iff] at e
      obtain ⟨v, ev, rfl⟩ := e
      exact hi
  refine ⟨_, _, F1, _, _, st, ?_⟩
  -- the end: what the slots hold is handed out
  have fin : ∀ {F' Os' H' σ' τ' os}, SR K mg (fun _ => Rest H Os.flatten) ⟨(ioSl 0 sg.pm).filterMap fun i => (vs[i]?).map fun v => (i, v), []⟩ ⟨0, ioSl 0 sg.pm⟩ (ΓR sg.pm n) F' Os' H' σ' τ' → outsOf τ' 0 sg.pm = some os →
      ∃ Ol, OutsR K mg F' H' sg.pm Ol vs os ∧ Ol.flatten.Nodup ∧ ∀ a ∈ Ol.flatten, ∃ j, a ∈ Os' j := fun {F' Os' H' σ' τ' os} S' e => by
    obtain ⟨Ol, r, nd', sub⟩ := outs_of S' (i := 0) l2 (fun j m h => by
      have : j < (gamR sg.pm).length := (List.getElem?_eq_some_iff.mp h).1
      unfold ΓR
      rw [Nat.zero_add, List.getElem?_append_left this]
      exact h) (fun j v hj ev => by
      rw [Nat.zero_add] at hj ⊢
      exact S'.fix (j, v) (List.mem_filterMap.mpr ⟨j, hj, by rw [ev]; rfl⟩)) e
    exact ⟨Ol, r, nd', fun a ha => by
      obtain ⟨j, _, h⟩ := sub a ha
      exact ⟨j, h⟩⟩
  unfold runF at pc
  show PostS K mg (WEx E) (fun _ => Rest H Os.flatten) _ ⟨0, ioSl 0 sg.pm⟩ (ΓR sg.pm n) (enF sg n) (ΓR sg.pm n) { nx := fun _ H' => Q .non H', rt := Q } F1 H (c (startT n ts))
  cases hc : c (startT n ts) with
  | stuck => rw [hc] at pc; exact pc.elim
  | exn c' fs xs τ' =>
    rw [hc] at pc
    dsimp only at pc
    cases ho : outsOf τ' 0 sg.pm with
    | none => rw [ho] at pc; exact pc.elim
    | some os =>
      rw [ho] at pc
      intro σ' F' Os' H' cls d s' S' r
      obtain ⟨Ol, ro, nd', sub⟩ := fin S' ho
      exact pc F' H' Ol cls d s' ro r ⟨nd', fun a ha => by
        obtain ⟨j, h⟩ := sub a ha
        exact S'.own j a h⟩
  | ok fl τ' =>
    rw [hc] at pc
    cases fl with
    | bk => exact pc.elim
    | ct => exact pc.elim
    | nx =>
      dsimp only at pc
      cases ho : outsOf τ' 0 sg.pm with
      | none => rw [ho] at pc; exact pc.elim
      | some os =>
        rw [ho] at pc
        intro F' Os' H' σ' s' S'
        obtain ⟨Ol, ro, nd', sub⟩ := fin S' ho
        refine pc F' H' Ol [] .non s' ro (vr_nonM hrm) ⟨by simpa using nd', fun a ha => ?_⟩
        obtain ⟨j, h⟩ := sub a (by simpa using ha)
        exact S'.own j a h
    | rt t =>
      dsimp only at pc
      cases ho : outsOf τ' 0 sg.pm with
      | none => rw [ho] at pc; exact pc.elim
      | some os =>
        rw [ho] at pc
        intro F' Os' O v H' σ' s' S' xt r
        obtain ⟨Ol, ro, nd', sub⟩ := fin S' ho
        refine pc F' H' Ol O v s' ro r ⟨List.nodup_append.mpr ⟨xt.nd, nd', fun a ha b hb e => ?_⟩, fun a ha => ?_⟩
        · subst e
          obtain ⟨j, h⟩ := sub a hb
          exact xt.dj a ha j h
        · rcases List.mem_append.mp ha with q | q
          · exact xt.own a q
          · obtain ⟨j, h⟩ := sub a q
            exact S'.own j a h
end

/-! ### raise X('..') -/
section
variable {X : Cx} {W : WX} {L : Lv} {Γh Γ Γ' : List Md} {n : En} {C : Addr} {bmB : List Value} {Bn newId initId : String}
def cRaise (x : Str) : M Fl := fun τ => .exn x [] [] τ
theorem s_raise {x m : Str} {j} {p p2 pos pos2 : Pos} (hc : X.calm = true) (tk : Takes X W) (Fb : ExcBaseFacts Bn newId initId bmB) (q : PySem.W.excIn X.K C bmB newId = true) (gC : X.mg x = some (.ref C)) (kC : PySem.W.keepIn X.K (.ref C) = true) (r : Raises X (.ref C)) (hg : Gl X x)
    (hdb : (x == ("__debug__" : Str)) = false) (hh : HOut X L Γ Γh) : SX1 X W L Γh n Γ (.Raise (some (.Call (.Name x p) [.Constant (.str m) j p2] [] pos)) none pos2) (cRaise x) Γ' := by
  refine PS.imp (ps_raise hc tk (pmk_own Fb q gC kC r hg hdb)) fun D σ H h => ?_
  obtain ⟨B, fx, F, Os, τ, S, pp⟩ := h
  obtain ⟨F3, Os3, s3, S3⟩ := hh B fx F _ H σ _ S
  exact pp σ F3 Os3 H (.ref C) none s3 S3 ⟨⟨C, rfl, gC⟩, .inl rfl⟩
end
end TL

/-! TL21: short words for printed walks -/
namespace TL
open PySem PySem.Spec PyProof.Rows L2

/-- a def as its callers see it -/
structure Cal (P : Program) (w : World) (K : PySem.W.Frag) (mg : Str → Option Value) (base : Heap) (x : Str) (ps : List Str) (k : Nat) (sg : Sig) (g : List T → CR) : Prop where
  ex : ∃ f fd, mg x = some (.ref f) ∧ PySem.W.keepIn K (.ref f) = true ∧ Binds K fd ps [] ∧ FnOk P w K mg base (L2.CX P w) k f fd ps (spT K mg sg g)
/-- a constant of the module -/
def Cn (K : PySem.W.Frag) (mg : Str → Option Value) (x : Str) (t : T) : Prop := ∃ u v, mg x = some u ∧ RelV v u ∧ ∀ H P, Rp K mg H P v t

section
variable {X : Cx} {W : WX} {B : Nat → Addr → Prop} {fx : Fx} {L : Lv} {Γh Γ Γ1 Γ2 Γ' : List Md} {n : En} {e a b : Expr} {es : List Expr} {c ca : M T} {tc : M Bool} {m ma : Md} {ai : List AI} {pos : Pos} {cl : M (List T)} {s1 : Stmt} {ss : List Stmt} {cf : M Fl} {p : Pa} {tg : Expr}
theorem ex_g (h : EX X W L Γh Γ e c m Γ1) (q : Γ1 = Γ') : EX X W L Γh Γ e c m Γ' := q ▸ h
theorem tx_g (h : TX X W L Γh Γ e tc Γ1) (q : Γ1 = Γ') : TX X W L Γh Γ e tc Γ' := q ▸ h
theorem sx_g (h : SX1 X W L Γh n Γ s1 cf Γ1) (q : Γ1 = Γ') : SX1 X W L Γh n Γ s1 cf Γ' := q ▸ h
theorem gx_g (h : GX X L Γ tg p m Γ1) (q : Γ1 = Γ') : GX X L Γ tg p m Γ' := q ▸ h
theorem ex_m (h : EX X W L Γh Γ e c ma Γ1) (q : ma = m) : EX X W L Γh Γ e c m Γ1 := q ▸ h
theorem hu1 {k : Nat} {A : Around} (r : Room k A) : A.units + 1 < cLine := by have := r.un; omega
theorem hu65 {k : Nat} {A : Around} (r : Room k A) : A.units + 65 < cLine := by have := r.un; omega
theorem ex_cal {k j : Nat} {ps : List Str} {sg : Sig} {g : List T → CR} {x : Str} {p : Pos} (tk : Takes X W) (C : Cal X.prog X.w X.K X.mg X.base x ps k sg g) (hr : Room j X.A) (hkj : k ≤ j) (hg : Gl X x)
    (ha : IX X W L Γh Γ (e :: es) cl ai Γ1) (hdb : (x == ("__debug__" : Str)) = false)
    (he : starEach (e :: es) X.env = (false, eval e X.env) :: starEach es X.env) (hpl : (backTo pos (starEach es X.env)).any (·.1) = false)
    (hf : AI.fitsL ai sg.pm = true) (ho : ioOk Γ1 ai = true) (ro : sg.rmOk = true) (w : wkG Γh Γ1 = true) (lv : Γh.all (fun m => decide (m.lv ≤ L)) = true) :
    EX X W L Γh Γ (.Call (.Name x p) (e :: es) [] pos) (cCall g ai cl) sg.rm Γ1 := by
  obtain ⟨f, fd, h1, h2, h3, h4⟩ := C.ex
  exact ex_call tk h4 (hr.mono hkj) hg h1 h2 h3 ha hdb he hpl hf ho ro (HOut.of w lv)
theorem ex_cn {x : Str} {t : T} (C : Cn X.K X.mg x t) (hg : Gl X x) (hd : (x == ("__debug__" : Str)) = false) : EX X W L Γh Γ (.Name x pos) (cLit t) .fr Γ := by
  obtain ⟨u, v, h1, h2, h3⟩ := C
  exact ex_glob hg h1 h2 hd h3
/-- what a slot owns goes on -/
theorem ex_move {i d : Nat} {x : Str} (hN : X.N[i]? = some x) (hv : Vis X.env.scope x) (hd : (x == ("__debug__" : Str)) = false) (hcd : (x == ("__classdict__" : Str)) = false) (hm : Γ[i]? = some (.ow d)) (hz : L.z.contains i = false) :
    EX X W L Γh Γ (.Name x pos) (cVar i) (.ow d) (Γ.set i .un) := by
  refine PE.imp (pe_var hN hv hd hcd) fun σ H Q h => ?_
  obtain ⟨B, fx, F, Os, τ, S, p⟩ := h
  unfold cVar at p
  have nz : i ∉ L.z := fun z => by
    rw [← List.contains_iff_mem] at z
    rw [z] at hz
    cases hz
  have hlt := (List.getElem?_eq_some_iff.mp hm).1
  rcases S.slot i _ hm with ⟨e, _⟩ | ⟨v, t, e1, e2, r⟩
  · cases e
  · rw [e2] at p
    refine ⟨v, e1, p F (fun j => if j = i then [] else Os j) (Os i) v H Stp.refl ?_ ⟨S.nd i, S.own i, fun a ha j hj => ?_⟩ r⟩
    · refine ⟨by rw [List.length_set]; exact S.lσ, by rw [List.length_set]; exact S.lτ, fun j m' e => ?_, fun j hj => ?_, fun m' hm' => ?_, fun j => ?_, fun j k a hj hk => ?_, fun j a ha => ?_, S.trF, S.trB, S.mono, S.fix, fun q hq => ⟨(S.fixT q hq).1, fun m' e => ?_⟩, S.fz⟩
      · by_cases hj : j = i
        · subst hj
          rw [List.getElem?_set_self hlt] at e
          cases e
          exact .inl ⟨rfl, if_pos rfl⟩
        · rw [List.getElem?_set_ne (Ne.symm hj)] at e
          rw [if_neg hj]
          exact S.slot j m' e
      · rw [List.length_set] at hj
        split
        · rfl
        · exact S.out j hj
      · rcases List.mem_or_eq_of_mem_set hm' with q | q
        · exact S.lv m' q
        · subst q; exact Nat.zero_le _
      · split
        · exact List.nodup_nil
        · exact S.nd j
      · split at hj
        · cases hj
        · split at hk
          · cases hk
          · exact S.dj j k a hj hk
      · split at ha
        · cases ha
        · exact S.own j a ha
      · have hne : i ≠ q.1 := fun z => nz (by rw [z]; exact S.fz.2 q hq)
        rw [List.getElem?_set_ne hne] at e
        exact (S.fixT q hq).2 m' e
    · have hj' : a ∈ (if j = i then [] else Os j) := hj
      split at hj'
      · cases hj'
      · rename_i h
        exact h (S.dj j i a hj' ha)
def oNeg : T → Option T
  | .int i => some (.int (-i))
  | _ => none
theorem ex_neg (ha : EX X W L Γh Γ a ca ma Γ1) (na : ma.own = false) : EX X W L Γh Γ (.UnaryOp .USub a pos) (cOp1 oNeg ca) .sc Γ1 := by
  refine PE.imp (pe_un un_neg ha) fun σ H Q h => ?_
  obtain ⟨B, fx, F, Os, τ, S, p⟩ := h
  refine ⟨B, fx, F, Os, τ, S, post_bind p fun t τ' F' Os' O v H' s S' x r p' => ?_⟩
  have eO := r.noO na
  subst eO
  cases t with
  | int i =>
    have p2 : ∀ F2 Os2 O v H2, Stp (B L) F' H' F2 H2 → SR X.K X.mg B fx L Γ1 F2 Os2 H2 σ τ' → Xt (B L) F2 H2 Os2 O → VR X.K X.mg B F2 H2 .sc O v (.int (-i)) → Q v H2 := p'
    exact ⟨i, vr_int r, p2 F' Os' [] _ H' Stp.refl S' Xt.nil (VR.sc_of rfl rfl)⟩
  | _ => exact p'.elim
theorem ex_stuck {m : Md} : EX X W L Γh Γ e (fun _ => .stuck) m Γ' := ⟨fun pins s σ H Q I h => by
  obtain ⟨B, fx, F, Os, τ, S, p⟩ := h
  exact p.elim⟩
theorem tx_stuck : TX X W L Γh Γ e (fun _ => .stuck) Γ' := ⟨fun pins s σ H Q I h => by
  obtain ⟨B, fx, F, Os, τ, S, p⟩ := h
  exact p.elim⟩
theorem s_stuck : SX1 X W L Γh n Γ s1 (fun _ => .stuck) Γ' := ⟨fun pins s σ H D I h => by
  obtain ⟨B, fx, F, Os, τ, S, p⟩ := h
  exact p.elim⟩
end
theorem relS_has {sc : Scope} : ∀ {names : List (Str × NameKind)} {x : Str} {k : NameKind}, names.lookup x = some k →
    ∃ k', (names.map fun (n, k) => if (k == NameKind.free && sc.kind == .function && sc.names.lookup n == some .cell) then (n, NameKind.cell) else (n, k)).lookup x = some k' ∧ (k' = k ∨ (k = .free ∧ k' = .cell))
  | [], _, _, h => by simp at h
  | (n, k₀) :: r, x, k, h => by
    have ih := @relS_has sc r x k
    show ∃ k', List.lookup x ((if (k₀ == NameKind.free && sc.kind == .function && sc.names.lookup n == some .cell) = true then (n, NameKind.cell) else (n, k₀)) :: (r.map _)) = some k' ∧ _
    rw [List.lookup_cons] at h
    by_cases hc : (k₀ == NameKind.free && sc.kind == .function && sc.names.lookup n == some .cell) = true
    · rw [if_pos hc, List.lookup_cons]
      cases hx : x == n with
      | true =>
        rw [hx] at h
        cases h
        simp only [Bool.and_eq_true, beq_iff_eq] at hc
        exact ⟨_, rfl, .inr ⟨hc.1.1, rfl⟩⟩
      | false =>
        rw [hx] at h
        exact ih h
    · rw [if_neg hc, List.lookup_cons]
      cases hx : x == n with
      | true =>
        rw [hx] at h
        cases h
        exact ⟨_, rfl, .inl rfl⟩
      | false =>
        rw [hx] at h
        exact ih h
/-- is the name a block's own, or captured -/
def seenB (scope : Scope) (x : Str) : Bool := match scope.names.lookup x with
  | some .local => true
  | some .cell => true
  | some .free => true
  | _ => false
theorem visB {scope sc : Scope} {x : Str} (h : seenB scope x = true) : Vis (relS scope sc) x := by
  unfold seenB at h
  cases e : scope.names.lookup x with
  | none => rw [e] at h; cases h
  | some k =>
    rw [e] at h
    obtain ⟨k', e', q⟩ := relS_has (sc := sc) e
    have e2 : (relS scope sc).names.lookup x = some k' := e'
    unfold Vis
    rw [e2]
    rcases q with q | ⟨_, q⟩
    · subst q
      cases k' <;> first
        | exact .inl rfl
        | exact .inr (.inl rfl)
        | exact .inr (.inr rfl)
        | cases h
    · subst q
      exact .inr (.inl rfl)
def ownB (scope : Scope) (x : Str) : Bool := match scope.names.lookup x with
  | some .local => true
  | some .cell => true
  | _ => false
theorem locB {scope sc : Scope} {x : Str} (h : ownB scope x = true) : L2.Loc (relS scope sc) x := by
  unfold ownB at h
  cases e : scope.names.lookup x with
  | none => rw [e] at h; cases h
  | some k =>
    rw [e] at h
    obtain ⟨k', e', q⟩ := relS_has (sc := sc) e
    have e2 : (relS scope sc).names.lookup x = some k' := e'
    unfold L2.Loc
    rw [e2]
    rcases q with q | ⟨q0, q⟩
    · subst q
      cases k' <;> first
        | exact .inl rfl
        | exact .inr rfl
        | cases h
    · subst q0
      cases h
end TL

/-! TL22: more words for printed walks: zip, enumerate, the empty list -/
namespace TL
open PySem PySem.Spec PyProof.Rows L2
def oAddN (x y : T) : Option T := (oAdd x y).bind oChk
def oMulN (x y : T) : Option T := (oMul x y).bind oChk
def fuel : Nat := 1000000000000
/-- no name of the machine's -/
def NmOk (x : Str) : Prop := (x == ("__debug__" : Str)) = false ∧ (x == ("__classdict__" : Str)) = false
/-- an own exception class without __init__ of its own -/
def Exc (K : PySem.W.Frag) (mg : Str → Option Value) (x : Str) : Prop := ∃ (C : Addr) (bm : List Value) (B newId initId : String), ExcBaseFacts B newId initId bm ∧ PySem.W.excIn K C bm newId = true ∧ mg x = some (.ref C) ∧ PySem.W.keepIn K (.ref C) = true ∧
  PySem.W.subIn K (.ref C) (.type "BaseException") = some true ∧ PySem.W.typeIn K (.ref C) = some (.type "type")
section
variable {X : Cx} {W : WX} {B : Nat → Addr → Prop} {fx : Fx} {L : Lv} {Γh Γ Γ1 Γ' : List Md} {n : En} {e e2 : Expr} {es elts : List Expr} {c ca : M T} {m ma mb : Md} {pos p tpos : Pos} {cl : M (List T)} {d l kk : Nat}
def rAddS : R2 := fun x y H Q => rI0 (fun i j => .int (i + j)) x y H Q ∨ (fun x y H Q => ∃ i j, x = .str i ∧ y = .str j ∧ i.length + j.length ≤ sizeLine ∧ Q (.str (i ++ j)) H : R2) x y H Q
theorem iop_addS : OpR X (inplaceOp .Add) rAddS := by
  intro pins s σ H x y v u Q I rx ry h
  rcases h with h | h
  · exact iop_add pins s σ H x y v u Q I rx ry h
  · exact iop_add_str pins s σ H x y v u Q I rx ry h
theorem s_addS {K : PySem.W.Frag} {mg : Str → Option Value} : Op2S K mg B L rAddS ma mb oAddN .sc := by
  intro F H x y tx ty t Q hF ra rb e k
  unfold oAddN oAdd at e
  split at e
  · cases e
    exact .inl ⟨_, _, vr_int ra, vr_int rb, fin_sc k rfl rfl⟩
  · split at e
    · rename_i h
      cases e
      exact .inr ⟨_, _, vr_str ra, vr_str rb, small_le h, fin_sc k rfl rfl⟩
    · cases e
  · split at e
    · simp [oChk, imm] at e
    · cases e
  · cases e
theorem s_rais {x y : Str} {j} {p p2 pos2 : Pos} (hc : X.calm = true) (tk : Takes X W) (E : Exc X.K X.mg x) (hg : Gl X x) (q : NmOk x) (w : wkG Γh Γ = true) (lv : Γh.all (fun m => decide (m.lv ≤ L)) = true) :
    SX1 X W L Γh n Γ (.Raise (some (.Call (.Name x p) [.Constant (.str y) j p2] [] pos)) none pos2) (cRaise x) Γ' := by
  obtain ⟨C, bm, Bn, ni, ii, h1, h2, h3, h4, h5, h6⟩ := E
  exact s_raise hc tk h1 h2 h3 h4 (raises_own h5 h6) hg q.1 (HOut.of w lv)
theorem ex_lst0 (h : AX X W L Γh Γ [] cl [] Γ') : EX X W L Γh Γ (.List [] pos) (cOpL oLst cl) (.ow (d + 1)) Γ' := by
  refine PE.imp (pe_lst h) fun σ H Q h => ?_
  obtain ⟨B, fx, F, Os, τ, S, p⟩ := h
  refine ⟨B, fx, F, Os, τ, S, ?_⟩
  have q := postA_opt (ms := []) S p
  cases hc : cl τ with
  | ok ts τ' =>
    rw [hc] at q
    intro F' Os' vs H' s S' r
    obtain ⟨F1, ts1, t, tr, r1, e, k1⟩ := q F' Os' vs H' s S' r
    obtain ⟨rfl, rfl⟩ := r1
    cases e
    exact ⟨Nat.zero_le _, fun p hp => k1 F1 [p] (.ref p) _ (New.one hp tr) ⟨p, [], [], rfl, upd_same, rfl, rfl, rfl⟩⟩
  | exn c fs xs τ' => rw [hc] at q; exact q
  | stuck => rw [hc] at q; exact q.elim

/-! ### zip, enumerate of lists, in a loop with a tuple of names -/
def okM : Md → Bool
  | .bk 0 0 => true
  | .bo _ => true
  | _ => false
def zipT : List T → List T → List T
  | x :: xs, y :: ys => .tup [x, y] :: zipT xs ys
  | _, _ => []
def numT : Nat → List T → List T
  | _, [] => []
  | i, x :: xs => .tup [.int i, x] :: numT (i + 1) xs
def zipB : List T → Option (List T)
  | [.lst xs, .lst ys] => some (zipT xs ys)
  | [.tup xs, .tup ys] => some (zipT xs ys)
  | _ => none
def enumB : List T → Option (List T)
  | [.lst xs] => some (numT 0 xs)
  | _ => none
def cZip (cl : M (List T)) : M (List T) := M.bind cl fun ts => match zipB ts with
  | some xs => M.pure xs
  | none => fun _ => .stuck
def cEnum (cl : M (List T)) : M (List T) := M.bind cl fun ts => match enumB ts with
  | some xs => M.pure xs
  | none => fun _ => .stuck
theorem zipT_get : ∀ {xs ys : List T} {i : Nat} {t : T}, (zipT xs ys)[i]? = some t → ∃ x y, xs[i]? = some x ∧ ys[i]? = some y ∧ t = .tup [x, y]
  | [], _, _, _, h => by simp [zipT] at h
  | _ :: _, [], _, _, h => by simp [zipT] at h
  | x :: xs, y :: ys, 0, t, h => by
    have h' : some (T.tup [x, y]) = some t := h
    cases h'
    exact ⟨x, y, rfl, rfl, rfl⟩
  | x :: xs, y :: ys, i + 1, t, h => zipT_get (xs := xs) (ys := ys) (i := i) (by simpa [zipT] using h)
theorem zipT_len : ∀ {xs ys : List T}, (zipT xs ys).length = min xs.length ys.length
  | [], ys => by simp [zipT]
  | _ :: _, [] => by simp [zipT]
  | x :: xs, y :: ys => by simp [zipT, zipT_len (xs := xs) (ys := ys)]
theorem numT_get : ∀ {xs : List T} {k i : Nat} {t : T}, (numT k xs)[i]? = some t → ∃ x, xs[i]? = some x ∧ t = .tup [.int (k + i : Nat), x]
  | [], _, _, _, h => by simp [numT] at h
  | x :: xs, k, 0, t, h => by
    have h' : some (T.tup [.int k, x]) = some t := h
    cases h'
    exact ⟨x, rfl, rfl⟩
  | x :: xs, k, i + 1, t, h => by
    obtain ⟨y, e, rfl⟩ := numT_get (xs := xs) (k := k + 1) (i := i) (by simpa [numT] using h)
    exact ⟨y, by simpa using e, by rw [show k + 1 + i = k + (i + 1) by omega]⟩
theorem numT_len : ∀ {xs : List T} {k : Nat}, (numT k xs).length = xs.length
  | [], _ => rfl
  | x :: xs, k => by simp [numT, numT_len (xs := xs)]
/-- the region of such a mode -/
def rgn (B : Nat → Addr → Prop) (F : Addr → Prop) : Md → Addr → Prop
  | .bo l => fun a => F a ∨ B l a
  | _ => F
theorem vr_rgn {K : PySem.W.Frag} {mg : Str → Option Value} {F : Addr → Prop} {H : Hp} {v : V} {t : T} (hm : okM m = true) : VR K mg B F H m [] v t ↔ Rp K mg H (rgn B F m) v t := by
  cases m with
  | bk l d =>
    match l, d, hm with
    | 0, 0, _ => exact ⟨fun h => h.fr_rp, fun h => VR.fr_of h⟩
  | bo l => exact ⟨fun h => h.2, fun h => ⟨rfl, h⟩⟩
  | _ => cases hm
theorem rgn_or {F : Addr → Prop} {a : Addr} (h : rgn B F m a) : F a ∨ B m.lv a := by
  cases m with
  | bo l => exact h
  | _ => exact .inl h
theorem rgn_mono {F F' : Addr → Prop} (h : ∀ a, F a → F' a) : ∀ a, rgn B F m a → rgn B F' m a := by
  intro a q
  cases m with
  | bo l => exact q.imp (h a) id
  | _ => exact h a q
theorem tup_new {K : PySem.W.Frag} {mg : Str → Option Value} {F : Addr → Prop} {H : Hp} {v w : V} {x y : T} {q : Addr} (hm : okM m = true) (hq : H q = none) (tF : ∀ a, F a → H a ≠ none) (tB : ∀ a, rgn B F m a → H a ≠ none) (rx : Rp K mg H (rgn B F m) v x) (ry : Rp K mg H (rgn B F m) w y) :
    New F H F (upd H q (.tup [v, w])) [] ∧ VR K mg B F (upd H q (.tup [v, w])) m [] (.ref q) (.tup [x, y]) := by
  have kp : Kp (rgn B F m) H (upd H q (.tup [v, w])) := ⟨fun b hb => upd_ne fun e => tB b hb (by rw [e]; exact hq), fun b u e _ => by rw [upd_ne fun e' => by rw [e', hq] at e; cases e]; exact e⟩
  exact ⟨⟨fun a h => upd_ne (fun e => h (by rw [e]; exact hq)), fun _ h => h, fun _ h => .inl h, by simp, List.nodup_nil⟩,
    (vr_rgn hm).mpr ⟨q, [v, w], rfl, SqT.of upd_same, v, [w], rfl, rx.mono kp fun _ h => h, w, [], rfl, ry.mono kp fun _ h => h, rfl⟩⟩
theorem wx_zip (hg : Gl X "zip") (hm : X.mg "zip" = none) (ha : AX X W L Γh Γ [e, e2] cl [m, m] Γ') (hs : starEach [e, e2] X.env = (false, eval e X.env) :: starEach [e2] X.env) (hpl : (backTo pos (starEach [e2] X.env)).any (·.1) = false) (ok : okM m = true := by rfl) (lm : m.lv ≤ L := by decide) :
    WX' X W L Γh Γ (.Tuple elts kk tpos) (.Call (.Name "zip" p) [e, e2] [] pos) (cZip cl) m Γ' := by
  refine PI.imp (RZ.pi_zipA hg hm ha hs hpl) fun σ H R h => ?_
  obtain ⟨B, fx, F, Os, τ, S, p⟩ := h
  refine ⟨B, fx, F, Os, τ, S, PostA.imp (postA_it p) fun vs H' q => ?_⟩
  obtain ⟨F', Os', ts, xs, τ', S', r, e, k⟩ := q
  obtain ⟨v, w, t, u, rfl, rfl, q1, q2⟩ := vrl_two r
  have tB : ∀ {F2 : Addr → Prop} {H2 : Hp}, (∀ a, F2 a → H2 a ≠ none) → (∀ a, B L a → H2 a ≠ none) → ∀ a, rgn B F2 m a → H2 a ≠ none := fun {F2 H2} t1 t2 a h => (rgn_or h).elim (t1 a) fun z => t2 a (S'.mono _ _ _ lm z)
  unfold zipB at e
  split at e
  · rename_i xs ys h
    cases h
    cases e
    obtain ⟨a, vs, rfl, rd, _⟩ := vr_lst q1
    obtain ⟨b, ws, rfl, rd2, _⟩ := vr_lst q2
    refine ⟨a, b, vs, ws, rfl, .inl ⟨.inl rd, .inl rd2, k _ fun F2 H2 s2 t2 t3 => ?_⟩⟩
    have r1 := (vr_rgn ok).mp (q1.step S'.mono s2 lm (by simp))
    have r2 := (vr_rgn ok).mp (q2.step S'.mono s2 lm (by simp))
    obtain ⟨a', vs2, e1, ⟨_, l1⟩, r1⟩ := r1
    obtain ⟨b', ws2, e2, ⟨_, l2⟩, r2⟩ := r2
    cases e1
    cases e2
    refine ⟨fun i t ht => ?_, fun i hi => ⟨vs2, ws2, .inl l1, .inl l2, ?_⟩⟩
    · obtain ⟨x, y, ex, ey, rfl⟩ := zipT_get ht
      obtain ⟨v, ev, rv⟩ := rpl_get r1 ex
      obtain ⟨w, ew, rw'⟩ := rpl_get r2 ey
      refine ⟨⟨vs2, ws2, v, w, .inl l1, .inl l2, ev, ew⟩, fun z H3 hy => ?_⟩
      obtain ⟨q, v', w', rfl, hq, rfl, h1, h2⟩ := hy
      have e1 := h1 vs2 (.inl l1)
      have e2 := h2 ws2 (.inl l2)
      rw [ev] at e1
      rw [ew] at e2
      cases e1
      cases e2
      exact ⟨F2, tup_new ok hq t2 (tB t2 t3) rv rw'⟩
    · rw [zipT_len] at hi
      rw [rpl_len r1, rpl_len r2]
      omega
  · rename_i xs ys h
    cases h
    cases e
    obtain ⟨a, vs, rfl, rd, _⟩ := vr_tup q1
    obtain ⟨b, ws, rfl, rd2, _⟩ := vr_tup q2
    refine ⟨a, b, vs, ws, rfl, .inr ⟨rd, rd2, k _ fun F2 H2 s2 t2 t3 => ?_⟩⟩
    have r1 := (vr_rgn ok).mp (q1.step S'.mono s2 lm (by simp))
    have r2 := (vr_rgn ok).mp (q2.step S'.mono s2 lm (by simp))
    obtain ⟨a', vs2, e1, l1, r1⟩ := r1
    obtain ⟨b', ws2, e2, l2, r2⟩ := r2
    cases e1
    cases e2
    refine ⟨fun i t ht => ?_, fun i hi => ⟨vs2, ws2, l1, l2, ?_⟩⟩
    · obtain ⟨x, y, ex, ey, rfl⟩ := zipT_get ht
      obtain ⟨v, ev, rv⟩ := rpl_get r1 ex
      obtain ⟨w, ew, rw'⟩ := rpl_get r2 ey
      refine ⟨⟨vs2, ws2, v, w, l1, l2, ev, ew⟩, fun z H3 hy => ?_⟩
      obtain ⟨q, v', w', rfl, hq, rfl, h1, h2⟩ := hy
      have e1 := h1 vs2 l1
      have e2 := h2 ws2 l2
      rw [ev] at e1
      rw [ew] at e2
      cases e1
      cases e2
      exact ⟨F2, tup_new ok hq t2 (tB t2 t3) rv rw'⟩
    · rw [zipT_len] at hi
      rw [rpl_len r1, rpl_len r2]
      omega
  · cases e
theorem wx_enumerate (hg : Gl X "enumerate") (hm : X.mg "enumerate" = none) (ha : AX X W L Γh Γ [e] cl [m] Γ') (hs : starEach [e] X.env = [(false, eval e X.env)]) (ok : okM m = true := by rfl) (lm : m.lv ≤ L := by decide) :
    WX' X W L Γh Γ (.Tuple elts kk tpos) (.Call (.Name "enumerate" p) [e] [] pos) (cEnum cl) m Γ' := by
  refine PI.imp (pi_enum hg hm ha hs) fun σ H R h => ?_
  obtain ⟨B, fx, F, Os, τ, S, p⟩ := h
  refine ⟨B, fx, F, Os, τ, S, PostA.imp (postA_it p) fun vs H' q => ?_⟩
  obtain ⟨F', Os', ts, xs, τ', S', r, e, k⟩ := q
  obtain ⟨v, t, rfl, rfl, q1⟩ := vrl_one r
  have tB : ∀ {F2 : Addr → Prop} {H2 : Hp}, (∀ a, F2 a → H2 a ≠ none) → (∀ a, B L a → H2 a ≠ none) → ∀ a, rgn B F2 m a → H2 a ≠ none := fun {F2 H2} t1 t2 a h => (rgn_or h).elim (t1 a) fun z => t2 a (S'.mono _ _ _ lm z)
  unfold enumB at e
  split at e
  · rename_i xs h
    cases h
    cases e
    obtain ⟨a, vs, rfl, rd, _⟩ := vr_lst q1
    refine ⟨a, vs, rfl, .inl rd, k _ fun F2 H2 s2 t2 t3 => ?_⟩
    have r1 := (vr_rgn ok).mp (q1.step S'.mono s2 lm (by simp))
    obtain ⟨a', vs2, e1, ⟨_, l1⟩, r1⟩ := r1
    cases e1
    refine ⟨fun i t ht => ?_, fun i hi => ⟨vs2, .inl l1, ?_⟩⟩
    · obtain ⟨x, ex, rfl⟩ := numT_get ht
      obtain ⟨v, ev, rv⟩ := rpl_get r1 ex
      refine ⟨⟨vs2, v, .inl l1, ev⟩, fun z H3 hy => ?_⟩
      obtain ⟨q, v', rfl, hq, rfl, h1⟩ := hy
      have e1 := h1 vs2 (.inl l1)
      rw [ev] at e1
      cases e1
      rw [Nat.zero_add]
      exact ⟨F2, tup_new ok hq t2 (tB t2 t3) rfl rv⟩
    · rw [numT_len] at hi
      rw [rpl_len r1]
      omega
  · cases e
end
end TL

/-! TL23: comprehensions of two clauses -/
namespace TL
open PySem PySem.Spec PyProof.Rows L2

/-- a walk whose items lean on nothing but what is frozen -/
def PostItF (K : PySem.W.Frag) (mg : Str → Option Value) (B : Nat → Addr → Prop) (fx : Fx) (L : Lv) (Γ' : List Md) (m : Md) (σ : L2.St) (R : It → Hp → Prop) (F : Addr → Prop) (H : Hp) : Res (List T) → Prop
  | .ok ts τ' => ∀ F' Os' H' J, Stp (B L) F H F' H' → SR K mg B fx L Γ' F' Os' H' σ τ' → ItOk K mg (fun _ _ => False) L F' H' J ts m → R J H'
  | _ => False
def RItF (K : PySem.W.Frag) (mg : Str → Option Value) (L : Lv) (Γ : List Md) (c : M (List T)) (m : Md) (Γ' : List Md) : TI := fun σ H R =>
  ∃ B fx F Os τ, SR K mg B fx L Γ F Os H σ τ ∧ PostItF K mg B fx L Γ' m σ R F H (c τ)
abbrev WXF (X : Cx) (L : Lv) (Γ : List Md) (tg iter : Expr) (c : M (List T)) (m : Md) (Γ' : List Md) : Prop := PI X tg iter (RItF X.K X.mg L Γ c m Γ')

section
variable {X : Cx} {W : WX} {B : Nat → Addr → Prop} {fx : Fx} {L : Lv} {Γh Γ Γ0 Γ1 Γ2 Γ3 Γ4 Γ' Γi Γb Γc Γl : List Md} {n : En} {e e2 a b elt tg iter tg1 iter1 : Expr} {es ifs ifs1 elts : List Expr} {ca ce : M T} {ct ct1 : M Bool} {ci ci1 cl : M (List T)} {m mi mj ma mb : Md} {ms : List Md} {pos pos' pp tpos : Pos} {p p1 : Pa} {scope : Scope} {own : List (Str × Nat)} {ks vs1 : List Nat} {d kk : Nat}
theorem postA_itF {σ : L2.St} {R : It → Hp → Prop} {F : Addr → Prop} {H : Hp} {τ : List (Option T)} {f : List T → Option (List T)}
    (p : PostItF X.K X.mg B fx L Γ' mi σ R F H (M.bind cl (fun ts => match f ts with
      | some xs => M.pure xs
      | none => fun _ => Res.stuck) τ)) :
    PostA X.K X.mg W0 B fx L Γh Γ' ms σ (fun vs H' => ∃ F' Os' ts xs τ', SR X.K X.mg B fx L Γ' F' Os' H' σ τ' ∧ VRL X.K X.mg B L F' H' ms vs ts ∧ f ts = some xs ∧ ∀ J, ItOk X.K X.mg (fun _ _ => False) L F' H' J xs mi → R J H') F H (cl τ) := by
  unfold M.bind at p
  cases hc : cl τ with
  | exn c fs xs τ' => rw [hc] at p; exact p.elim
  | stuck => rw [hc] at p; exact p.elim
  | ok ts τ' =>
    rw [hc] at p
    intro F' Os' vs H' s S' r
    cases hf : f ts with
    | none => dsimp only at p; rw [hf] at p; exact p.elim
    | some xs =>
      dsimp only at p
      rw [hf] at p
      have p' : ∀ F' Os' H' J, Stp (B L) F H F' H' → SR X.K X.mg B fx L Γ' F' Os' H' σ τ' → ItOk X.K X.mg (fun _ _ => False) L F' H' J xs mi → R J H' := p
      exact ⟨F', Os', ts, xs, τ', S', r, hf, fun J it => p' F' Os' H' J s S' it⟩
theorem wxf_range1 (hg : Gl X "range") (hm : X.mg "range" = none) (ha : AX X W0 L Γh Γ [a] cl [ma] Γ') (hs : starEach [a] X.env = [(false, eval a X.env)]) : WXF X L Γ tg (.Call (.Name "range" pp) [a] [] pos) (cRng cl) .sc Γ' := by
  refine PI.imp (pi_range1 hg hm ha hs) fun σ H R h => ?_
  obtain ⟨B, fx, F, Os, τ, S, p⟩ := h
  refine ⟨B, fx, F, Os, τ, S, PostA.imp (postA_itF p) fun vs H' q => ?_⟩
  obtain ⟨F', Os', ts, xs, τ', S', r, e, k⟩ := q
  obtain ⟨v, t, rfl, rfl, q1⟩ := vrl_one r
  cases t with
  | int j =>
    have e' : (if bnd62 j = true then some (rngT 0 1 j.toNat) else none) = some xs := e
    split at e'
    · rename_i hb
      cases e'
      obtain ⟨b1, b2⟩ := bnd62_ok hb
      obtain rfl := vr_int q1
      exact ⟨j, rfl, b1, b2, k _ (itOk_rng (fun i H h => h) (fun i H x H' h => ⟨h.1, by rw [h.2]; simp⟩) fun i H h => h)⟩
    · cases e'
  | _ => cases e
theorem wxf_range2 (hg : Gl X "range") (hm : X.mg "range" = none) (ha : AX X W0 L Γh Γ [a, b] cl [ma, mb] Γ') (hs : starEach [a, b] X.env = [(false, eval a X.env), (false, eval b X.env)]) (hs2 : starEach [b] X.env = [(false, eval b X.env)]) :
    WXF X L Γ tg (.Call (.Name "range" pp) [a, b] [] pos) (cRng cl) .sc Γ' := by
  refine PI.imp (pi_range2 hg hm ha hs hs2) fun σ H R h => ?_
  obtain ⟨B, fx, F, Os, τ, S, p⟩ := h
  refine ⟨B, fx, F, Os, τ, S, PostA.imp (postA_itF p) fun vs H' q => ?_⟩
  obtain ⟨F', Os', ts, xs, τ', S', r, e, k⟩ := q
  obtain ⟨v, w, t, u, rfl, rfl, q1, q2⟩ := vrl_two r
  unfold rgB at e
  split at e
  · rename_i h; cases h
  · rename_i i j h
    cases h
    split at e
    · rename_i hb
      cases e
      rw [Bool.and_eq_true] at hb
      obtain ⟨b1, b2⟩ := bnd62_ok hb.1
      obtain ⟨b3, b4⟩ := bnd62_ok hb.2
      obtain rfl := vr_int q1
      obtain rfl := vr_int q2
      exact ⟨i, j, rfl, ⟨b1, b2, b3, b4⟩, k _ (itOk_rng (fun i H h => h) (fun i H x H' h => ⟨h.1, by rw [h.2]; simp⟩) fun i H h => h)⟩
    · cases e
  · rename_i h; cases h
  · cases e
theorem wxf_zip (hg : Gl X "zip") (hm : X.mg "zip" = none) (ha : AX X W0 L Γh Γ [e, e2] cl [.fr, .fr] Γ') (hs : starEach [e, e2] X.env = (false, eval e X.env) :: starEach [e2] X.env) (hpl : (backTo pos (starEach [e2] X.env)).any (·.1) = false) :
    WXF X L Γ (.Tuple elts kk tpos) (.Call (.Name "zip" pp) [e, e2] [] pos) (cZip cl) .fr Γ' := by
  refine PI.imp (RZ.pi_zipA hg hm ha hs hpl) fun σ H R h => ?_
  obtain ⟨B, fx, F, Os, τ, S, p⟩ := h
  refine ⟨B, fx, F, Os, τ, S, PostA.imp (postA_itF p) fun vs H' q => ?_⟩
  obtain ⟨F', Os', ts, xs, τ', S', r, e, k⟩ := q
  obtain ⟨v, w, t, u, rfl, rfl, q1, q2⟩ := vrl_two r
  have q1 := q1.fr_rp
  have q2 := q2.fr_rp
  unfold zipB at e
  split at e
  · rename_i xs ys h
    cases h
    cases e
    obtain ⟨a, vs, rfl, ⟨_, rd⟩, _⟩ := id q1
    obtain ⟨b, ws, rfl, ⟨_, rd2⟩, _⟩ := id q2
    refine ⟨a, b, vs, ws, rfl, .inl ⟨.inl rd, .inl rd2, k _ fun F2 H2 s2 t2 t3 => ?_⟩⟩
    obtain ⟨a', vs2, e1, ⟨_, l1⟩, r1⟩ := Rp.mono s2.kpF s2.fr q1
    obtain ⟨b', ws2, e2, ⟨_, l2⟩, r2⟩ := Rp.mono s2.kpF s2.fr q2
    cases e1
    cases e2
    refine ⟨fun i t ht => ?_, fun i hi => ⟨vs2, ws2, .inl l1, .inl l2, ?_⟩⟩
    · obtain ⟨x, y, ex, ey, rfl⟩ := zipT_get ht
      obtain ⟨v, ev, rv⟩ := rpl_get r1 ex
      obtain ⟨w, ew, rw'⟩ := rpl_get r2 ey
      refine ⟨⟨vs2, ws2, v, w, .inl l1, .inl l2, ev, ew⟩, fun z H3 hy => ?_⟩
      obtain ⟨q, v', w', rfl, hq, rfl, h1, h2⟩ := hy
      have e1 := h1 vs2 (.inl l1)
      have e2 := h2 ws2 (.inl l2)
      rw [ev] at e1
      rw [ew] at e2
      cases e1
      cases e2
      exact ⟨F2, tup_new (m := .fr) (B := fun _ _ => False) rfl hq t2 t2 rv rw'⟩
    · rw [zipT_len] at hi
      rw [rpl_len r1, rpl_len r2]
      omega
  · rename_i xs ys h
    cases h
    cases e
    obtain ⟨a, vs, rfl, rd, _⟩ := id q1
    obtain ⟨b, ws, rfl, rd2, _⟩ := id q2
    refine ⟨a, b, vs, ws, rfl, .inr ⟨rd, rd2, k _ fun F2 H2 s2 t2 t3 => ?_⟩⟩
    obtain ⟨a', vs2, e1, l1, r1⟩ := Rp.mono s2.kpF s2.fr q1
    obtain ⟨b', ws2, e2, l2, r2⟩ := Rp.mono s2.kpF s2.fr q2
    cases e1
    cases e2
    refine ⟨fun i t ht => ?_, fun i hi => ⟨vs2, ws2, l1, l2, ?_⟩⟩
    · obtain ⟨x, y, ex, ey, rfl⟩ := zipT_get ht
      obtain ⟨v, ev, rv⟩ := rpl_get r1 ex
      obtain ⟨w, ew, rw'⟩ := rpl_get r2 ey
      refine ⟨⟨vs2, ws2, v, w, l1, l2, ev, ew⟩, fun z H3 hy => ?_⟩
      obtain ⟨q, v', w', rfl, hq, rfl, h1, h2⟩ := hy
      have e1 := h1 vs2 l1
      have e2 := h2 ws2 l2
      rw [ev] at e1
      rw [ew] at e2
      cases e1
      cases e2
      exact ⟨F2, tup_new (m := .fr) (B := fun _ _ => False) rfl hq t2 t2 rv rw'⟩
    · rw [zipT_len] at hi
      rw [rpl_len r1, rpl_len r2]
      omega
  · cases e

def cLcIn (p1 : Pa) (ct1 : M Bool) (ce : M T) : List T → List T → M (List T)
  | [], acc => M.pure acc
  | t :: ts, acc => fun τ => match p1.set t τ with
    | none => .stuck
    | some τ1 => match ct1 τ1 with
      | .ok true τ2 => match ce τ2 with
        | .ok y τ3 => if small acc.length = true then cLcIn p1 ct1 ce ts (acc ++ [y]) τ3 else .stuck
        | _ => .stuck
      | .ok false τ2 => cLcIn p1 ct1 ce ts acc τ2
      | _ => .stuck
def cLc2Go (p : Pa) (ct : M Bool) (ci1 : M (List T)) (p1 : Pa) (ct1 : M Bool) (ce : M T) : List T → List T → M T
  | [], acc => fun τ => .ok (.lst acc) τ
  | t :: ts, acc => fun τ => match p.set t τ with
    | none => .stuck
    | some τ1 => match ct τ1 with
      | .ok true τ2 => match ci1 τ2 with
        | .ok us τ3 => match cLcIn p1 ct1 ce us acc τ3 with
          | .ok acc' τ4 => cLc2Go p ct ci1 p1 ct1 ce ts acc' τ4
          | _ => .stuck
        | _ => .stuck
      | .ok false τ2 => cLc2Go p ct ci1 p1 ct1 ce ts acc τ2
      | _ => .stuck
def cLc2 (ci : M (List T)) (p : Pa) (ct : M Bool) (ci1 : M (List T)) (p1 : Pa) (ct1 : M Bool) (ce : M T) : M T := M.bind ci fun ts τ => match cLc2Go p ct ci1 p1 ct1 ce ts [] τ with
  | .ok y τ' => .ok y τ'
  | _ => .stuck
theorem lc2_read {g g1 : TG} {tt tt1 : TT} {te : TE} {wi wi1 : TI}
    (hwi : ∀ σ H R, RIt X.K X.mg W L Γh Γ ci mi Γ1 σ H R → wi σ H R)
    (hg : ∀ v σ H Q, RG X.K X.mg L.over Γ0 p mi Γb v σ H Q → g v σ H Q)
    (ht : ∀ σ H Q, RT X.K X.mg W0 L.over Γl Γb ct Γ2 σ H Q → tt σ H Q)
    (hwi1 : ∀ σ H R, RItF X.K X.mg L.over Γi ci1 mj Γ3 σ H R → wi1 σ H R)
    (hg1 : ∀ v σ H Q, RG X.K X.mg L.over Γi p1 mj Γc v σ H Q → g1 v σ H Q)
    (ht1 : ∀ σ H Q, RT X.K X.mg W0 L.over Γl Γc ct1 Γ4 σ H Q → tt1 σ H Q)
    (he : ∀ σ H Q, RE X.K X.mg W0 L.over Γl Γ4 ce (.ow 0) Γ' σ H Q → te σ H Q)
    (w1 : wkG Γ0 Γ1 = true) (w2 : wkG Γi Γ2 = true) (w3 : wkG Γi Γ3 = true) (w4 : wkG Γi Γ4 = true) (w5 : wkG Γi Γ' = true) (w6 : wkG Γ0 Γi = true) (w7 : wkG Γ0 Γ2 = true) (lv : Γ0.all (fun m => decide (m.lv ≤ L)) = true) (lvi : Γi.all (fun m => decide (m.lv ≤ L)) = true)
    (lmi : mi.lv ≤ L) (hmj : mj = .sc ∨ mj = .fr) (hlen : Γb.length = Γ.length) (hlen1 : Γc.length = Γ.length) (hleni : Γi.length = Γ.length)
    (hun : ∀ i ∈ own.map (·.2), Γ0[i]? = some .un ∧ i ∉ L.z) (hun1 : ∀ i ∈ vs1, Γi[i]? = some .un ∧ i ∉ L.z)
    (hps : ∀ j ∈ p.slots, j ∈ own.map (·.2)) (hps1 : ∀ j ∈ p1.slots, j ∈ vs1) (hvs : ∀ j ∈ vs1, j ∈ own.map (·.2)) (σ : L2.St) (H : Hp) (Q : VK)
    (h : RE X.K X.mg W L Γh Γ (cLc2 ci p ct ci1 p1 ct1 ce) (.ow 1) Γ0 σ H Q) : tLc2 wi g tt wi1 g1 tt1 te (own.map (·.2)) vs1 σ H Q := by
  obtain ⟨B, fx, F, Os, τ, S, q⟩ := h
  refine hwi σ H _ ⟨B, fx, F, Os, τ, S, ?_⟩
  unfold cLc2 M.bind at q
  cases hci : ci τ with
  | exn c fs xs τ' => rw [hci] at q; exact q
  | stuck => rw [hci] at q; exact q.elim
  | ok ts τ1 =>
    rw [hci] at q
    intro F1 Os1 H1 J s1 S1 it D hD
    dsimp only at q
    let R (F' : Addr → Prop) (H' : Hp) (r : Res T) : Prop := match r with
      | .ok y τ' => ∀ F2 Os2 O v H2, Stp (B L) F' H' F2 H2 → SR X.K X.mg B fx L Γ0 F2 Os2 H2 σ τ' → Xt (B L) F2 H2 Os2 O → VR X.K X.mg B F2 H2 (.ow 1) O v y → Q v H2
      | _ => False
    have Rl : ∀ {F' : Addr → Prop} {H' : Hp} {F2 : Addr → Prop} {H2 : Hp} {r : Res T}, R F' H' r → Stp (B L) F' H' F2 H2 → R F2 H2 r := fun {F' H' F2 H2 r} h s => by
      cases r with
      | ok y τ' => exact fun F3 Os3 O v H3 s3 S3 x r => h F3 Os3 O v H3 (s.trans s3) S3 x r
      | exn c fs xs τ' => exact h
      | stuck => exact h
    obtain ⟨F2, s2, S2⟩ := S1.weak w1 lv
    have r0 : R F1 H1 (cLc2Go p ct ci1 p1 ct1 ce ts [] τ1) := by
      cases hgo : cLc2Go p ct ci1 p1 ct1 ce ts [] τ1 with
      | ok y τ' =>
        rw [hgo] at q
        exact fun F3 Os3 O v H3 s3 S3 x r => q F3 Os3 O v H3 (s1.trans s3) S3 x r
      | exn c fs xs τ' => rw [hgo] at q; exact q
      | stuck => rw [hgo] at q; exact q
    -- the state between two turns: D holds what is made
    let LS (Γx : List Md) (F' : Addr → Prop) (Os' : Nat → List Addr) (H' : Hp) (σx : L2.St) (τx : List (Option T)) (acc : List T) : Prop :=
      Stp (B L) F1 H1 F' H' ∧ SR X.K X.mg B fx L Γx F' Os' H' σx τx ∧ (∃ vs, H' D = some (.lst vs) ∧ RpL X.K X.mg H' F' vs acc) ∧ Xt (B L) F' H' Os' [D]
    have n0 : New F2 H1 F2 (upd H1 D (.lst [])) [D] := New.one hD S2.trF
    have S3 := n0.sr S2
    have x3 := n0.xt S2
    have lenσ : σ.length = Γ.length := S.lσ
    have toW : ∀ {F' Os' H' τ'} {σ' : L2.St}, SR X.K X.mg B fx L Γ0 F' Os' H' σ' τ' → wipe σ' (own.map (·.2)) = wipe σ (own.map (·.2)) → SR X.K X.mg B fx L Γ0 F' Os' H' (wipe σ (own.map (·.2))) τ' := fun {F' Os' H' τ' σ'} S' e => by
      refine S'.res (by rw [← e, wipe_length]) fun j => ?_
      by_cases hj : j ∈ own.map (·.2)
      · exact .inr (hun j hj)
      · left
        rw [← e, wipe_at hj]
    have ofW : ∀ {F' Os' H' τ'}, SR X.K X.mg B fx L Γ0 F' Os' H' (wipe σ (own.map (·.2))) τ' → SR X.K X.mg B fx L Γ0 F' Os' H' σ τ' := fun {F' Os' H' τ'} S' => by
      refine S'.res (by rw [wipe_length]) fun j => ?_
      by_cases hj : j ∈ own.map (·.2)
      · exact .inr (hun j hj)
      · left
        rw [wipe_at hj]
    -- a run above the new list, then weaker slots
    have run : ∀ {Γx Γe Γw : List Md} {F' Os' H' σx τx acc}, LS Γx F' Os' H' σx τx acc → Γw.all (fun m => decide (m.lv ≤ L)) = true → ∀ {F6 Os6 H6 σ6 τ6}, wkG Γw Γe = true → Stp (lendB B L [D] L.over.n) F' H' F6 H6 → SR X.K X.mg (lendB B L [D]) fx L.over Γe F6 Os6 H6 σ6 τ6 →
        ∃ F7 Os7, LS Γw F7 Os7 H6 σ6 τ6 acc ∧ Stp (B L) F' H' F7 H6 ∧ Stp (lendB B L [D] L.over.n) F6 H6 F7 H6 ∧ ∀ a, F7 a → F6 a ∨ ∃ i, a ∈ Os6 i := fun {Γx Γe Γw F' Os' H' σx τx acc} ls lvw {F6 Os6 H6 σ6 τ6} w s6 S6 => by
      obtain ⟨sx, Sx, ⟨vs, hDv, rv⟩, xt⟩ := ls
      have lvo : Γw.all (fun m => decide (m.lv ≤ L.over)) = true := List.all_eq_true.mpr fun m hm => decide_eq_true (Nat.le_succ_of_le (of_decide_eq_true (List.all_eq_true.mp lvw m hm)))
      obtain ⟨F7, s7, S7, f7⟩ := S6.weakF w lvo
      obtain ⟨S8, s8, x8, e8⟩ := Sx.under xt (s6.trans s7) S7 lvw
      exact ⟨F7, _, ⟨sx.trans s8, S8, ⟨vs, by rw [e8 D (by simp)]; exact hDv, RpL.mono s8.kpF s8.fr rv⟩, x8⟩, s8, s7, f7⟩
    have ls0 : LS Γ0 F2 (fun i => if kept Γ0 i = true then Os1 i else []) (upd H1 D (.lst [])) (wipe σ (own.map (·.2))) τ1 [] :=
      ⟨s2.trans (n0.stp S2.trF S2.trB), toW S3 rfl, ⟨[], upd_same, rfl⟩, x3⟩
    refine ⟨fun i k H' => k = (ts.drop i).length ∧ ∃ F' Os' τ' acc, LS Γ0 F' Os' H' (wipe σ (own.map (·.2))) τ' acc ∧ R F' H' (cLc2Go p ct ci1 p1 ct1 ce (ts.drop i) acc τ'), ⟨_, rfl, F2, _, τ1, [], ls0, Rl r0 (s2.trans (n0.stp S2.trF S2.trB))⟩, ?_⟩
    rintro i k H' ⟨rfl, F', Os', τ', acc, ls, q'⟩
    obtain ⟨it1, it2⟩ := it F' H' ls.1 ls.2.1.trF ls.2.1.trB
    by_cases hlt : i < ts.length
    · have ei : ts[i]? = some ts[i] := List.getElem?_eq_getElem hlt
      have ed : ts.drop i = ts[i] :: ts.drop (i + 1) := List.drop_eq_getElem_cons hlt
      obtain ⟨hgo, hy⟩ := it1 i _ ei
      refine .inr ⟨hgo, fun H2 => ∃ F' Os' τ' acc, LS Γ0 F' Os' H2 (wipe σ (own.map (·.2))) τ' acc ∧ R F' H2 (cLc2Go p ct ci1 p1 ct1 ce (ts.drop (i + 1)) acc τ'),
        fun H2 hN => ⟨(ts.drop (i + 1)).length, by rw [ed]; exact Nat.lt_succ_self _, rfl, hN⟩, fun x H3 hx => ?_⟩
      obtain ⟨F3, nw, rx⟩ := hy x H3 hx
      obtain ⟨sx, Sx, ⟨vs, hDv, rv⟩, xt⟩ := ls
      have s3 := nw.stp (BL := B L) Sx.trF Sx.trB
      have ls3 : LS Γ0 F3 Os' H3 (wipe σ (own.map (·.2))) τ' acc := by
        refine ⟨sx.trans s3, nw.sr Sx, ⟨vs, by rw [nw.same D (by rw [hDv]; simp)]; exact hDv, RpL.mono s3.kpF s3.fr rv⟩, ⟨xt.nd, fun a ha => ⟨fun z => (nw.gr a z).elim (xt.own a ha).1 fun z => (xt.own a ha).2.2 z.1, (xt.own a ha).2.1, ?_⟩, xt.dj⟩⟩
        rw [nw.same a (xt.own a ha).2.2]
        exact (xt.own a ha).2.2
      rw [ed] at q'
      have q3 := Rl q' s3
      unfold cLc2Go at q3
      cases hset : p.set ts[i] τ' with
      | none => rw [hset] at q3; exact q3.elim
      | some τ4 =>
        rw [hset] at q3
        dsimp only at q3
        refine hg _ _ _ _ ⟨lendB B L [D], fx, F3, Os', τ', ts[i], τ4, ls3.2.1.over ls3.2.2.2, vr_lend lmi rx, hset, fun Os4 σ4 hσ4 S4 => ?_⟩
        have hw4 : wipe σ4 (own.map (·.2)) = wipe σ (own.map (·.2)) := wipe_eq (by rw [S4.lσ, lenσ, hlen]) fun j hj => by rw [hσ4 j fun z => hj (hps j z), wipe_at hj]
        refine ⟨hw4, ht _ _ _ ⟨lendB B L [D], fx, F3, Os4, τ4, S4, ?_⟩⟩
        cases hct : ct τ4 with
        | exn c fs xs τ5 => rw [hct] at q3; exact q3.elim
        | stuck => rw [hct] at q3; exact q3.elim
        | ok bb τ5 =>
          rw [hct] at q3
          intro F5 Os5 H5 s5 S5
          cases bb with
          | false =>
            dsimp only at q3
            simp only [Bool.false_eq_true, if_false]
            obtain ⟨F7, Os7, l7, s7, _, _⟩ := run ls3 lv w7 s5 S5
            exact ⟨F7, Os7, τ5, acc, ⟨l7.1, toW l7.2.1 hw4, l7.2.2⟩, Rl q3 s7⟩
          | true =>
            dsimp only at q3
            simp only [if_true]
            obtain ⟨F7, Os7, l7, s7, _, _⟩ := run ls3 lvi w2 s5 S5
            have q7 := Rl q3 s7
            refine hwi1 _ _ _ ⟨lendB B L [D], fx, F7, Os7, τ5, l7.2.1.over l7.2.2.2, ?_⟩
            cases hci1 : ci1 τ5 with
            | exn c fs xs τ' => rw [hci1] at q7; exact q7.elim
            | stuck => rw [hci1] at q7; exact q7.elim
            | ok us τ8 =>
              rw [hci1] at q7
              dsimp only at q7
              intro F8 Os8 H8 J1 s8 S8 itI
              obtain ⟨F9, Os9, l9, s9, s89, _⟩ := run l7 lvi w3 s8 S8
              have q9 := Rl q7 s9
              -- the inner loop
              let RI (F' : Addr → Prop) (H' : Hp) (r : Res (List T)) : Prop := match r with
                | .ok acc' τ' => R F' H' (cLc2Go p ct ci1 p1 ct1 ce (ts.drop (i + 1)) acc' τ')
                | _ => False
              have RIl : ∀ {F' : Addr → Prop} {H' : Hp} {F2 : Addr → Prop} {H2 : Hp} {r : Res (List T)}, RI F' H' r → Stp (B L) F' H' F2 H2 → RI F2 H2 r := fun {F' H' F2 H2 r} h s => by
                cases r with
                | ok y τ' => exact Rl (show R F' H' (cLc2Go p ct ci1 p1 ct1 ce (ts.drop (i + 1)) y τ') from h) s
                | exn c fs xs τ' => exact h
                | stuck => exact h
              have ri9 : RI F9 H8 (cLcIn p1 ct1 ce us acc τ8) := by
                cases hin : cLcIn p1 ct1 ce us acc τ8 with
                | ok acc' τ' => rw [hin] at q9; exact q9
                | exn c fs xs τ' => rw [hin] at q9; exact q9
                | stuck => rw [hin] at q9; exact q9
              have w1eq : ∀ {σ' : L2.St}, wipe σ' vs1 = wipe σ4 vs1 → wipe σ' (own.map (·.2)) = wipe σ (own.map (·.2)) := fun {σ'} e => by
                have el : σ'.length = σ4.length := by
                  have := congrArg List.length e
                  rwa [wipe_length, wipe_length] at this
                rw [← hw4]
                refine wipe_eq el fun j hj => ?_
                have hj1 : j ∉ vs1 := fun z => hj (hvs j z)
                have e2 : (wipe σ' vs1)[j]? = (wipe σ4 vs1)[j]? := by rw [e]
                rwa [wipe_at hj1, wipe_at hj1] at e2
              have toI : ∀ {F' Os' H' τ'} {σ' : L2.St}, SR X.K X.mg B fx L Γi F' Os' H' σ' τ' → wipe σ' vs1 = wipe σ4 vs1 → SR X.K X.mg B fx L Γi F' Os' H' (wipe σ4 vs1) τ' := fun {F' Os' H' τ' σ'} S' e => by
                refine S'.res (by rw [← e, wipe_length]) fun j => ?_
                by_cases hj : j ∈ vs1
                · exact .inr (hun1 j hj)
                · left
                  rw [← e, wipe_at hj]
              have kF : Kp F8 H8 H8 := Kp.refl _ _
              refine ⟨fun j k H' => k = (us.drop j).length ∧ ∃ F' Os' τ' acc, LS Γi F' Os' H' (wipe σ4 vs1) τ' acc ∧ Stp (B L) F9 H8 F' H' ∧ RI F' H' (cLcIn p1 ct1 ce (us.drop j) acc τ'), ⟨_, rfl, F9, Os9, τ8, acc, ⟨l9.1, toI l9.2.1 rfl, l9.2.2⟩, Stp.refl, ri9⟩, ?_⟩
              rintro j k H' ⟨rfl, F', Os', τ', acc, ls, sI, qI⟩
              have stF : Stp (fun _ => False) F8 H8 F' H' := (s89.less (BL' := fun _ => False) (fun _ z => z.elim)).trans (sI.less fun _ z => z.elim)
              obtain ⟨jt1, jt2⟩ := itI F' H' stF ls.2.1.trF (fun _ z => z.elim)
              by_cases hltj : j < us.length
              · have ej : us[j]? = some us[j] := List.getElem?_eq_getElem hltj
                have edj : us.drop j = us[j] :: us.drop (j + 1) := List.drop_eq_getElem_cons hltj
                obtain ⟨hgoj, hyj⟩ := jt1 j _ ej
                refine .inr ⟨hgoj, fun H2 => ∃ F' Os' τ' acc, LS Γi F' Os' H2 (wipe σ4 vs1) τ' acc ∧ Stp (B L) F9 H8 F' H2 ∧ RI F' H2 (cLcIn p1 ct1 ce (us.drop (j + 1)) acc τ'), fun H2 hN => ⟨(us.drop (j + 1)).length, by rw [edj]; exact Nat.lt_succ_self _, rfl, hN⟩, fun x H3 hx => ?_⟩
                obtain ⟨F3, nw, rx⟩ := hyj x H3 hx
                obtain ⟨sx, Sx, ⟨vs, hDv, rv⟩, xt⟩ := ls
                have s3 := nw.stp (BL := B L) Sx.trF Sx.trB
                have ls3 : LS Γi F3 Os' H3 (wipe σ4 vs1) τ' acc := by
                  refine ⟨sx.trans s3, nw.sr Sx, ⟨vs, by rw [nw.same D (by rw [hDv]; simp)]; exact hDv, RpL.mono s3.kpF s3.fr rv⟩, ⟨xt.nd, fun a ha => ⟨fun z => (nw.gr a z).elim (xt.own a ha).1 fun z => (xt.own a ha).2.2 z.1, (xt.own a ha).2.1, ?_⟩, xt.dj⟩⟩
                  rw [nw.same a (xt.own a ha).2.2]
                  exact (xt.own a ha).2.2
                rw [edj] at qI
                have q3 := RIl qI s3
                unfold cLcIn at q3
                cases hset1 : p1.set us[j] τ' with
                | none => rw [hset1] at q3; exact q3.elim
                | some τ4 =>
                  rw [hset1] at q3
                  dsimp only at q3
                  have rx' : VR X.K X.mg (lendB B L [D]) F3 H3 mj [] x us[j] := by
                    rcases hmj with e | e
                    · subst e; exact rx
                    · subst e; exact VR.fr_of rx.fr_rp
                  refine hg1 _ _ _ _ ⟨lendB B L [D], fx, F3, Os', τ', us[j], τ4, ls3.2.1.over ls3.2.2.2, rx', hset1, fun Os4 σ5 hσ5 S4 => ?_⟩
                  have hw5 : wipe σ5 vs1 = wipe σ4 vs1 := by
                    refine wipe_eq ?_ fun k hk => by rw [hσ5 k fun z => hk (hps1 k z), wipe_at hk]
                    have e1 := S4.lσ
                    have e2 := l9.2.1.lσ
                    rw [e1, e2, hlen1, hleni]
                  refine ⟨hw5, ht1 _ _ _ ⟨lendB B L [D], fx, F3, Os4, τ4, S4, ?_⟩⟩
                  cases hct1 : ct1 τ4 with
                  | exn c fs xs τ5 => rw [hct1] at q3; exact q3.elim
                  | stuck => rw [hct1] at q3; exact q3.elim
                  | ok bb τ5 =>
                    rw [hct1] at q3
                    intro F5 Os5 H5 s5 S5
                    cases bb with
                    | false =>
                      dsimp only at q3
                      simp only [Bool.false_eq_true, if_false]
                      obtain ⟨F7, Os7, l7, s7, _, _⟩ := run ls3 lvi w4 s5 S5
                      exact ⟨F7, Os7, τ5, acc, ⟨l7.1, toI l7.2.1 hw5, l7.2.2⟩, (sI.trans s3).trans s7, RIl q3 s7⟩
                    | true =>
                      dsimp only at q3
                      simp only [if_true]
                      refine he _ _ _ ⟨lendB B L [D], fx, F5, Os5, τ5, S5, ?_⟩
                      cases hce : ce τ5 with
                      | exn c fs xs τ6 => rw [hce] at q3; exact q3.elim
                      | stuck => rw [hce] at q3; exact q3.elim
                      | ok y τ6 =>
                        rw [hce] at q3
                        dsimp only at q3
                        intro F6 Os6 O v H6 s6 S6 x6 r6
                        by_cases hsm : small acc.length = true
                        · rw [if_pos hsm] at q3
                          obtain ⟨F7, Os7, l7, s7, sl7, f7⟩ := run ls3 lvi w5 (s5.trans s6) S6
                          obtain ⟨sx7, S7, ⟨vs7, hD7, rv7⟩, x7⟩ := l7
                          refine ⟨vs7, hD7, by rw [rpl_len rv7]; have := of_decide_eq_true hsm; rw [sizeLine_eq]; omega, ?_⟩
                          have hDf : ¬ F7 D ∧ ¬ B L D := ⟨(x7.own D (by simp)).1, (x7.own D (by simp)).2.1⟩
                          have nD : ∀ a, a ≠ D → (upd H6 D (.lst (vs7 ++ [v]))) a = H6 a := fun a h => upd_ne h
                          have sU : Stp (B L) F7 H6 F7 (upd H6 D (.lst (vs7 ++ [v]))) := by
                            refine ⟨fun _ h => h, fun _ h => .inl h, fun a h => nD a fun e => ?_, fun a o e hm => ?_, fun a h => ?_, fun hF a h => ?_⟩
                            · subst e; exact h.elim hDf.1 hDf.2
                            · by_cases e' : a = D
                              · subst e'
                                rw [hD7] at e
                                cases e
                                exact absurd trivial hm
                              · rw [nD a e']; exact e
                            · by_cases e' : a = D
                              · subst e'; rw [upd_same]; simp
                              · rw [nD a e']; exact h
                            · rw [nD a fun e => hDf.1 (by rw [← e]; exact h)]; exact hF a h
                          have r7 : Rp X.K X.mg H6 F7 v y := Rp.mono sl7.kpF sl7.fr r6.2
                          refine ⟨F7, Os7, τ6, acc ++ [y], ⟨sx7.trans sU, toI (S7.step sU fun i a ha => ⟨nD a fun e => ?_, (S7.own i a ha).1⟩) hw5, ⟨vs7 ++ [v], upd_same, rpl_append (RpL.mono sU.kpF (fun _ h => h) rv7) ⟨v, [], rfl, r7.mono sU.kpF fun _ h => h, rfl⟩⟩, ⟨x7.nd, fun a ha => ⟨(x7.own a ha).1, (x7.own a ha).2.1, sU.tr a (x7.own a ha).2.2⟩, x7.dj⟩⟩, ((sI.trans s3).trans s7).trans sU, RIl q3 (s7.trans sU)⟩
                          subst e
                          exact x7.dj a (by simp) i ha
                        · rw [if_neg hsm] at q3
                          exact q3.elim
              · have edj : us.drop j = [] := List.drop_eq_nil_of_le (by omega)
                rw [edj] at qI
                refine .inl ⟨jt2 j (by omega), ?_⟩
                have qI' : R F' H' (cLc2Go p ct ci1 p1 ct1 ce (ts.drop (i + 1)) acc τ') := qI
                obtain ⟨F10, s10, S10, f10⟩ := ls.2.1.weakF w6 lv
                refine ⟨F10, _, τ', acc, ⟨ls.1.trans s10, toW S10 (w1eq (wipe_eq (by rw [wipe_length]) fun k hk => wipe_at hk)), ?_, ?_⟩, Rl qI' s10⟩
                · obtain ⟨vs, h1, h2⟩ := ls.2.2.1
                  exact ⟨vs, h1, RpL.mono s10.kpF s10.fr h2⟩
                · have xt := ls.2.2.2
                  exact ⟨xt.nd, fun a ha => ⟨fun z => (f10 a z).elim (xt.own a ha).1 fun ⟨i, z⟩ => xt.dj a ha i z, (xt.own a ha).2⟩, fun a ha i hi => xt.dj a ha i (kept_mem hi)⟩
    · have ed : ts.drop i = [] := List.drop_eq_nil_of_le (by omega)
      rw [ed] at q'
      obtain ⟨sx, Sx, ⟨vs, hDv, rv⟩, xt⟩ := ls
      refine .inl ⟨it2 i (by omega), q' F' Os' [D] (.ref D) H' Stp.refl (ofW Sx) xt ⟨D, vs, acc.map fun _ => [], rfl, hDv, by rw [flatten_nils], owl_of_rpl rv⟩⟩
/-- what it asks of the modes -/
def lc2Ok (L : Lv) (own : List (Str × Nat)) (vs1 : List Nat) (p p1 : Pa) (mi mj : Md) (Γ Γ0 Γ1 Γb Γ2 Γi Γ3 Γc Γ4 Γ' : List Md) : Bool :=
  wkG Γ0 Γ1 && wkG Γi Γ2 && wkG Γi Γ3 && wkG Γi Γ4 && wkG Γi Γ' && wkG Γ0 Γi && wkG Γ0 Γ2 && Γ0.all (fun m => decide (m.lv ≤ L)) && Γi.all (fun m => decide (m.lv ≤ L)) && decide (mi.lv ≤ L) && decide (mj = .sc ∨ mj = .fr) &&
    decide (Γb.length = Γ.length) && decide (Γc.length = Γ.length) && decide (Γi.length = Γ.length) && unOk Γ0 L.z own && (vs1.all fun i => decide (Γi[i]? = some .un) && !L.z.contains i) && (p.slots.all fun i => (own.map (·.2)).contains i) && (p1.slots.all fun i => vs1.contains i) && vs1.all fun i => (own.map (·.2)).contains i
theorem ex_lc2 (hc : X.calm = true) (hN : X.N.Nodup) (hi : WX' X W L Γh Γ tg iter ci mi Γ1) (ok : BlkOk X.N X.env.scope scope own)
    (hg : ∀ (s : Shared) (H : Hp) (C : Addr) (cl : List (Str × Addr)) (fp : List Addr), GX (X.blk s H scope (compEnvC scope cl C X.env) fp) L.over Γ0 tg p mi Γb)
    (ht : ∀ (s : Shared) (H : Hp) (C : Addr) (cl : List (Str × Addr)) (fp : List Addr), TXs (X.blk s H scope (compEnvC scope cl C X.env) fp) W0 L.over Γl Γb ifs ct Γ2)
    (hi1 : ∀ (s : Shared) (H : Hp) (C : Addr) (cl : List (Str × Addr)) (fp : List Addr), WXF (X.blk s H scope (compEnvC scope cl C X.env) fp) L.over Γi tg1 iter1 ci1 mj Γ3)
    (hg1 : ∀ (s : Shared) (H : Hp) (C : Addr) (cl : List (Str × Addr)) (fp : List Addr), GX (X.blk s H scope (compEnvC scope cl C X.env) fp) L.over Γi tg1 p1 mj Γc)
    (ht1 : ∀ (s : Shared) (H : Hp) (C : Addr) (cl : List (Str × Addr)) (fp : List Addr), TXs (X.blk s H scope (compEnvC scope cl C X.env) fp) W0 L.over Γl Γc ifs1 ct1 Γ4)
    (he : ∀ (s : Shared) (H : Hp) (C : Addr) (cl : List (Str × Addr)) (fp : List Addr), EX (X.blk s H scope (compEnvC scope cl C X.env) fp) W0 L.over Γl Γ4 elt ce (.ow 0) Γ')
    (hs : ∀ x, foldedSetIterable iter X.env x = pure x) (hs1 : ∀ env x, foldedSetIterable iter1 env x = pure x) (h : lc2Ok L own vs1 p p1 mi mj Γ Γ0 Γ1 Γb Γ2 Γi Γ3 Γc Γ4 Γ' = true) :
    EX X W L Γh Γ (.ListComp elt [⟨tg, iter, ifs, 0⟩, ⟨tg1, iter1, ifs1, 0⟩] scope pos) (cLc2 ci p ct ci1 p1 ct1 ce) (.ow 1) Γ0 := by
  simp only [lc2Ok, Bool.and_eq_true, decide_eq_true_eq] at h
  obtain ⟨⟨⟨⟨⟨⟨⟨⟨⟨⟨⟨⟨⟨⟨⟨⟨⟨⟨w1, w2⟩, w3⟩, w4⟩, w5⟩, w6⟩, w7⟩, lv⟩, lvi⟩, lmi⟩, hmj⟩, hl1⟩, hl2⟩, hl3⟩, hun⟩, hun1⟩, hp0⟩, hp1⟩, hv⟩ := h
  have hun' := unOk_ok hun
  have hv' : ∀ j ∈ vs1, j ∈ own.map (·.2) := fun j hj => by simpa using List.all_eq_true.mp hv j hj
  refine PE.imp (pe_lc2 (g := RG X.K X.mg L.over Γ0 p mi Γb) (tt := RT X.K X.mg W0 L.over Γl Γb ct Γ2) (wi1 := RItF X.K X.mg L.over Γi ci1 mj Γ3) (g1 := RG X.K X.mg L.over Γi p1 mj Γc) (tt1 := RT X.K X.mg W0 L.over Γl Γc ct1 Γ4) (te := RE X.K X.mg W0 L.over Γl Γ4 ce (.ow 0) Γ') hc hN hi ok hv' hg ht hi1 hg1 ht1 he hs hs1) fun σ H Q q => ?_
  exact lc2_read (fun _ _ _ h => h) (fun _ _ _ _ h => h) (fun _ _ _ h => h) (fun _ _ _ h => h) (fun _ _ _ _ h => h) (fun _ _ _ h => h) (fun _ _ _ h => h) w1 w2 w3 w4 w5 w6 w7 lv lvi lmi hmj hl1 hl2 hl3 hun'
    (fun i hi => by
      have := List.all_eq_true.mp hun1 i hi
      rw [Bool.and_eq_true] at this
      exact ⟨of_decide_eq_true this.1, by simpa using this.2⟩) (fun j hj => by simpa using List.all_eq_true.mp hp0 j hj) (fun j hj => by simpa using List.all_eq_true.mp hp1 j hj) hv' σ H Q q
end
end TL

/-! TL24: xs[::-1]; in range(..) -/
namespace TL
open PySem PySem.Spec PyProof.Rows L2
section
variable {X : Cx} {W : WX} {B : Nat → Addr → Prop} {fx : Fx} {L : Lv} {Γh Γ Γ1 Γ2 Γ' : List Md} {n : En} {e e2 a b : Expr} {es : List Expr} {c ca : M T} {m ma mb : Md} {pos p p1 p2 p3 : Pos} {cl : M (List T)} {ms : List Md}
theorem vrl_any {K : PySem.W.Frag} {mg : Str → Option Value} {F : Addr → Prop} {H : Hp} : ∀ {ms : List Md} {vs : List V} {ts : List T}, VRL K mg B L F H ms vs ts → RpL K mg H Any vs ts
  | [], _, _, h => by
    obtain ⟨rfl, rfl⟩ := h
    rfl
  | m :: ms, _, _, h => by
    obtain ⟨v, r, t, ts', rfl, rfl, _, _, q, h⟩ := h
    exact ⟨v, r, rfl, q.any, vrl_any h⟩
def oRev (kf : Bool) : T → Option T
  | .lst xs => if (kf || immL xs) = true then some (.lst xs.reverse) else none
  | _ => none
theorem ex_rev {k : Nat} (ha : EX X W L Γh Γ a ca ma Γ1) (na : ma.own = false) : EX X W L Γh Γ (.Subscript a (.Slice none none (some (.UnaryOp .USub (.Constant (.int 1) k p1) p2)) p3) pos) (cOp1 (oRev ma.kf) ca) (.ow 1) Γ1 := by
  refine PE.imp (pe_revL ha) fun σ H Q h => ?_
  obtain ⟨B, fx, F, Os, τ, S, p⟩ := h
  refine ⟨B, fx, F, Os, τ, S, post_bind p fun t τ' F' Os' O v H' s S' x r p' => ?_⟩
  have eO := r.noO na
  subst eO
  obtain ⟨t', e', k⟩ := post_opt S' p'
  cases t with
  | lst xs =>
    have e2 : (if (ma.kf || immL xs) = true then some (T.lst xs.reverse) else none) = some t' := e'
    split at e2
    · rename_i h
      cases e2
      obtain ⟨a, vs, rfl, rd, rr⟩ := kids_of r h
      exact ⟨a, vs, rfl, .inl rd, new_lst S'.trF (rpl_rev rr) k⟩
    · cases e2
  | _ => cases e'

/-! ### in range(..) -/
def rNotRng : R2 := fun x y H Q => ∃ i a lo hi, x = V.int i ∧ y = V.ref a ∧ H a = some (.rng lo hi) ∧ Q (.bl (!decide (lo ≤ i ∧ i < hi))) H
theorem op_notRng : OpR X (compareOp .NotIn) rNotRng := by
  intro pins s σ H x y v u Q I rx ry h
  obtain ⟨i, a, lo, hi, rfl, rfl, ha, q⟩ := h
  obtain ⟨k, rfl⟩ := rx
  obtain rfl : u = Value.ref a := ry
  obtain ⟨t1, t2, t3, ho⟩ := I.hok a _ ha
  show wpAny _ _ (do return Value.bool (!(← contains (Value.ref a) (Value.int i k)))) _ _ s
  refine wpAny_bind (wpAny_contains_slot (T := "range") ⟨_, ho, rfl⟩ F.slot_range_contains (call_meets F.slot_range_contains ⟨_, ho, rfl⟩ F.entry_range_contains (F.args_range_contains_2 _ _) (q_contains a lo hi i t1 t2 t3 k)
    ⟨ho, wpAny_truthy_bool (wpAny_pure ⟨.bl _, H, I, rfl, ?_⟩)⟩))
  rw [place1]
  exact q
def rRng12 : List V → Hp → VK → Prop := fun vs H Q => (∃ j, vs = [V.int j] ∧ ∀ p, H p = none → Q (.ref p) (upd H p (.rng 0 j))) ∨ ∃ i j, vs = [V.int i, V.int j] ∧ ∀ p, H p = none → Q (.ref p) (upd H p (.rng i j))
theorem cr_rng12 : CallR X (.type "range") rRng12 := by
  intro pins s σ H vs us Q I r h
  rcases h with ⟨j, rfl, q⟩ | ⟨i, j, rfl, q⟩
  · obtain ⟨u1, rfl, rj⟩ := vals1 r
    obtain ⟨u, rfl⟩ := rj
    refine call_range_1 ⟨.ref s.heap.objs.size, upd H s.heap.objs.size (.rng 0 j), I.laid (t' := s.toks + 2) (fun b o e => Heap.get?_push_of_some _ e) (Nat.le_refl _) ?_, rfl, q _ (I.hok.fresh (Nat.le_refl _))⟩
    exact ⟨_, _, _, Heap.get?_push_size _ rfl⟩
  · exact cr_range2 pins s σ H _ us Q I r ⟨i, j, rfl, q⟩
def inRB (neg : Bool) : T → List T → Option T
  | .int i, [.int j] => some (.bl (neg != decide (0 ≤ i ∧ i < j)))
  | .int k, [.int i, .int j] => some (.bl (neg != decide (i ≤ k ∧ k < j)))
  | _, _ => none
def cInR (neg : Bool) (ca : M T) (cl : M (List T)) : M T := M.bind ca fun x => M.bind cl fun ts => M.opt (inRB neg x ts)
def rIR (neg : Bool) : R2 := fun x y H Q => ∃ i a lo hi, x = V.int i ∧ y = V.ref a ∧ H a = some (.rng lo hi) ∧ Q (.bl (neg != decide (lo ≤ i ∧ i < hi))) H
theorem op_inR : OpR X (compareOp .In) (rIR false) := by
  intro pins s σ H x y v u Q I rx ry h
  obtain ⟨i, a, lo, hi, e1, e2, ha, q⟩ := h
  exact op_in_rng pins s σ H x y v u Q I rx ry ⟨i, a, lo, hi, e1, e2, ha, by simpa using q⟩
theorem op_ninR : OpR X (compareOp .NotIn) (rIR true) := by
  intro pins s σ H x y v u Q I rx ry h
  obtain ⟨i, a, lo, hi, e1, e2, ha, q⟩ := h
  exact op_notRng pins s σ H x y v u Q I rx ry ⟨i, a, lo, hi, e1, e2, ha, by simpa using q⟩
theorem re_inR {neg : Bool} {σ : L2.St} {H : Hp} {Q : VK} (na : ma.own = false) (la : ma.lv ≤ L) (h : RE X.K X.mg W L Γh Γ (cInR neg ca cl) .sc Γ2 σ H Q) :
    tOp (rIR neg) (RE X.K X.mg W L Γh Γ ca ma Γ1) (tCB rRng12 (RA X.K X.mg W L Γh Γ1 cl ms Γ2)) σ H Q := by
  obtain ⟨B, fx, F, Os, τ, S, p⟩ := h
  refine ⟨B, fx, F, Os, τ, S, post_bind p fun t τ' F' Os' O v H' s S' x r p' => ?_⟩
  have eO := r.noO na
  subst eO
  refine ⟨B, fx, F', Os', τ', S', ?_⟩
  unfold M.bind at p'
  cases hc : cl τ' with
  | exn c fs xs τ2 => rw [hc] at p'; exact p'
  | stuck => rw [hc] at p'; exact p'.elim
  | ok ts τ2 =>
    rw [hc] at p'
    intro F2 Os2 vs H2 s2 S2 r2
    obtain ⟨t', e', k⟩ := post_opt S2 (post_later (show Post X.K X.mg W B fx L Γh Γ2 .sc σ Q F' H' (M.opt (inRB neg t ts) τ2) from p') s2)
    have fr : ∀ (q : Addr) (o : HO), H2 q = none → New F2 H2 F2 (upd H2 q o) [] := fun q o hq => ⟨fun a h => upd_ne (fun e => h (by rw [e]; exact hq)), fun _ h => h, fun _ h => .inl h, by simp, List.nodup_nil⟩
    unfold inRB at e'
    split at e'
    · cases e'
      rename_i i j
      obtain ⟨w, wr, rfl, q1, r3⟩ := vrl_any r2
      have e4 : wr = [] := r3
      subst e4
      have q1 : w = .int j := q1
      subst q1
      refine .inl ⟨j, rfl, fun q hq => ⟨i, q, 0, j, vr_int r, rfl, upd_same, ?_⟩⟩
      exact k F2 [] _ _ (fr q _ hq) (VR.sc_of rfl rfl)
    · cases e'
      rename_i k' i j
      obtain ⟨w, wr, rfl, q1, w2, wr2, rfl, q2, r3⟩ := vrl_any r2
      have e4 : wr2 = [] := r3
      subst e4
      have q1 : w = .int i := q1
      have q2 : w2 = .int j := q2
      subst q1 q2
      refine .inr ⟨i, j, rfl, fun q hq => ⟨k', q, i, j, vr_int r, rfl, upd_same, ?_⟩⟩
      exact k F2 [] _ _ (fr q _ hq) (VR.sc_of rfl rfl)
    · cases e'
theorem ex_inR {op : CmpOp} {neg : Bool} (ho : OpR X (compareOp op) (rIR neg)) (hg : Gl X "range") (hm : X.mg "range" = none) (ha : EX X W L Γh Γ a ca ma Γ1) (hl : AX X W L Γh Γ1 (e :: es) cl ms Γ2) (na : ma.own = false) (la : ma.lv ≤ L)
    (he : starEach (e :: es) X.env = (false, eval e X.env) :: starEach es X.env) (hpl : (backTo p (starEach es X.env)).any (·.1) = false) :
    EX X W L Γh Γ (.Compare a [op] [.Call (.Name "range" p2) (e :: es) [] p] pos) (cInR neg ca cl) .sc Γ2 :=
  PE.imp (pe_cmpR ho ha (pe_callTy cr_rng12 hg hm PyProof.Rows.boot_range hl (by decide) (by decide) he hpl) rfl) fun σ H Q h => re_inR na la h
theorem tx_inR {op : CmpOp} {neg : Bool} (ho : OpR X (compareOp op) (rIR neg)) (hg : Gl X "range") (hm : X.mg "range" = none) (ha : EX X W L Γh Γ a ca ma Γ1) (hl : AX X W L Γh Γ1 (e :: es) cl ms Γ2) (na : ma.own = false) (la : ma.lv ≤ L)
    (he : starEach (e :: es) X.env = (false, eval e X.env) :: starEach es X.env) (hpl : (backTo p (starEach es X.env)).any (·.1) = false) :
    TX X W L Γh Γ (.Compare a [op] [.Call (.Name "range" p2) (e :: es) [] p] pos) (cB (cInR neg ca cl)) Γ2 :=
  PT.imp (pt_cmpR ho ha (pe_callTy cr_rng12 hg hm PyProof.Rows.boot_range hl (by decide) (by decide) he hpl) rfl) fun σ H Q h => re_inR na la (rt_re h)
end
/-- a def that calls itself, at the bottom -/
theorem cal_stuck {P : Program} {w : World} {K : PySem.W.Frag} {mg : Str → Option Value} {base : Heap} {x : Str} {ps : List Str} {k : Nat} {sg : Sig} {f : Addr} {fd : FuncData} (hm : mg x = some (.ref f)) (hk : PySem.W.keepIn K (.ref f) = true) (hb : Binds K fd ps []) (hl : sg.pm.length = ps.length) :
    Cal P w K mg base x ps k sg (fun _ => .stuck) := by
  refine ⟨f, fd, hm, hk, hb, ⟨fun vs H Q E h => (spT_len h).trans hl, fun A outer s H args us vs Q E hr e0 bb hv hs => ?_⟩⟩
  obtain ⟨F, Os, ts, _, _, _, _, p⟩ := hs
  exact p.elim
theorem hfB {scope sc : Scope} {x : Str} (h : ownB scope x = true) : (scope.names.lookup x == some NameKind.cell) = true ∨ (relS scope sc).names.lookup x = some NameKind.local := by
  unfold ownB at h
  cases e : scope.names.lookup x with
  | none => rw [e] at h; cases h
  | some k =>
    rw [e] at h
    obtain ⟨k', e', q⟩ := relS_has (sc := sc) e
    have e2 : (relS scope sc).names.lookup x = some k' := e'
    rcases q with q | ⟨q0, q⟩
    · subst q
      cases k' <;> first
        | exact .inr e2
        | exact .inl rfl
        | cases h
    · subst q0
      cases h
end TL

/-! TL25: what the head finds; the law's end -/
namespace TL
open PySem PySem.Spec PyProof.Rows L2

/-- the part of the heap that is kept: no lists (the script is one) -/
def plainO : Option Obj → Bool
  | some o => match o.cls with
    | .type c => c != "list"
    | _ => true
  | none => true
def adN (g : Addr → Option Obj) (n : Nat) : List Addr := (He.asD g n).filter fun a => plainO (g a)
def NoL (K : PySem.W.Frag) : Prop := ∀ a o, K.lookup a = some o → o.cls ≠ .type "list"
theorem look_mem {β : Type} : ∀ {l : List (Addr × β)} {a : Addr} {o : β}, l.lookup a = some o → (a, o) ∈ l
  | [], _, _, e => by simp at e
  | (b, p) :: l, a, o, e => by
    rw [List.lookup_cons] at e
    cases q : a == b with
    | true =>
      rw [q] at e
      have e1 : p = o := Option.some.inj e
      have e2 : a = b := beq_iff_eq.mp q
      rw [e1, e2]
      exact List.mem_cons_self
    | false =>
      rw [q] at e
      exact List.mem_cons_of_mem _ (look_mem e)
theorem frN_noL {g : Addr → Option Obj} : ∀ as : List Addr, (∀ a ∈ as, plainO (g a) = true) → NoL (He.frG g as) := fun as h a o e => by
  have e2 := He.frG_at as e
  have hm : a ∈ as := by
    have := look_mem e
    unfold He.frG at this
    obtain ⟨b, hb, e3⟩ := List.mem_filterMap.mp this
    rw [Option.map_eq_some_iff] at e3
    obtain ⟨_, _, e4⟩ := e3
    cases e4
    exact hb
  have := h a hm
  rw [e2] at this
  intro z
  have t2 : (match o.cls with
    | .type c => c != "list"
    | _ => true) = true := this
  rw [z] at t2
  simp at t2
def obsN (n : Nat) (ex : PySem.W.Frag → Bool) (fa : List He.Fa) (fn : List He.DefD) (g : Addr → Option Obj) : He.AlD :=
  (fun K => ((He.obsD fa fn K).1 && ex K, (He.obsD fa fn K).2)) (He.frG g (adN g n))
def hookN (n : Nat) (ex : PySem.W.Frag → Bool) (fa : List He.Fa) (fn : List He.DefD) : PySem.W.Hook where
  α := He.AlD
  obs := fun s => obsN n ex fa fn s.heap.get?
  val := fun _ => He.valD fn
  says := fun _ h => ∃ K : PySem.W.Frag, K.In h ∧ NoL K ∧ ex K = true ∧ He.SaysD fa fn K
  of := fun _ s e => by
    refine ⟨He.frG s.heap.get? (adN s.heap.get? n), He.frG_in, frN_noL _ fun a ha => (List.mem_filter.mp ha).2, ?_⟩
    have e1 : ((He.obsD fa fn (He.frG s.heap.get? (adN s.heap.get? n))).1 && ex (He.frG s.heap.get? (adN s.heap.get? n))) = true := congrArg (fun z : He.AlD => z.1) e
    have e2 : (He.obsD fa fn (He.frG s.heap.get? (adN s.heap.get? n))).2 = fn.map He.DefD.val := congrArg (fun z : He.AlD => z.2) e
    rw [Bool.and_eq_true] at e1
    refine ⟨e1.2, ?_⟩
    show He.obsD fa fn _ = He.valD fn
    exact Prod.ext e1.1 e2
  keeps := fun _ _ _ ⟨K, hK, c⟩ k => ⟨K, PySem.W.Frag.In.keeps hK k, c⟩
theorem obsN_eq {n : Nat} {ex : PySem.W.Frag → Bool} {fa : List He.Fa} {fn : List He.DefD} {g : Addr → Option Obj} {s : Shared} (h : ∀ a, g a = s.heap.get? a) : obsN n ex fa fn g = (hookN n ex fa fn).obs s := by
  have e : g = s.heap.get? := funext h
  rw [e] <;> rfl

/-! ### constants of the module -/
mutual
def repB (K : PySem.W.Frag) : Value → T → Bool
  | .none, .non => true
  | .bool b, .bl c => b == c
  | .int i _, .int j => decide (i = j)
  | .str x _, .str y => decide (x = y)
  | .ref a, .tup xs => match K.lookup a with
    | some ⟨.type c, _, .seq its _, _⟩ => decide (c = "tuple") && (decide (its.size ≤ sizeLine) && repBL K its.toList xs)
    | _ => false
  | _, _ => false
def repBL (K : PySem.W.Frag) : List Value → List T → Bool
  | [], [] => true
  | u :: us, t :: ts => repB K u t && repBL K us ts
  | _, _ => false
end
section
variable {K : PySem.W.Frag} {mg : Str → Option Value}
mutual
theorem repB_ok : ∀ {t : T} {u : Value}, repB K u t = true → ∃ v, RelV v u ∧ ∀ H P, Rp K mg H P v t
  | .non, u, h => by
    cases u <;> first
      | exact ⟨.non, rfl, fun _ _ => rfl⟩
      | cases h
  | .bl c, u, h => by
    cases u <;> first
      | (rename_i b
         have e : b = c := by simpa [repB] using h
         subst e
         exact ⟨.bl b, rfl, fun _ _ => rfl⟩)
      | cases h
  | .int j, u, h => by
    cases u <;> first
      | (rename_i i t
         have e : i = j := by simpa [repB] using h
         subst e
         exact ⟨.int i, ⟨t, rfl⟩, fun _ _ => rfl⟩)
      | cases h
  | .str y, u, h => by
    cases u <;> first
      | (rename_i x t
         have e : x = y := by simpa [repB] using h
         subst e
         exact ⟨.str x, ⟨t, rfl⟩, fun _ _ => rfl⟩)
      | cases h
  | .tup xs, u, h => by
    cases u with
    | ref a =>
      unfold repB at h
      cases q : K.lookup a with
      | none => rw [q] at h; cases h
      | some o =>
        obtain ⟨oc, od, dt, sl⟩ := o
        rw [q] at h
        cases oc with
        | type c =>
          cases dt with
          | seq its n =>
            have h' : (decide (c = "tuple") && (decide (its.size ≤ sizeLine) && repBL K its.toList xs)) = true := h
            rw [Bool.and_eq_true, Bool.and_eq_true] at h'
            obtain ⟨vs, rv, rp⟩ := repBL_ok h'.2.2
            exact ⟨.ref a, rfl, fun H P => ⟨a, vs, rfl, .inr ⟨_, its, n, q, congrArg Value.type (of_decide_eq_true h'.1), rfl, of_decide_eq_true h'.2.1, rv⟩, rp H P⟩⟩
          | _ => cases h
        | _ => cases dt <;> cases h
    | _ => cases h
  | .lst xs, u, h => by cases u <;> cases h
  | .dct ks xs, u, h => by cases u <;> cases h
  | .dcT ks xs, u, h => by cases u <;> cases h
  | .ins c fs xs, u, h => by cases u <;> cases h
theorem repBL_ok : ∀ {ts : List T} {us : List Value}, repBL K us ts = true → ∃ vs, Vals vs us ∧ ∀ H P, RpL K mg H P vs ts
  | [], us, h => by
    cases us with
    | nil => exact ⟨[], .nil, fun _ _ => rfl⟩
    | cons u us => cases h
  | t :: ts, us, h => by
    cases us with
    | nil => cases h
    | cons u us =>
      have h' : (repB K u t && repBL K us ts) = true := h
      rw [Bool.and_eq_true] at h'
      obtain ⟨v, r, rp⟩ := repB_ok h'.1
      obtain ⟨vs, rs, rps⟩ := repBL_ok h'.2
      exact ⟨v :: vs, .cons r rs, fun H P => ⟨v, vs, rfl, rp H P, rps H P⟩⟩
end
def cnB (K : PySem.W.Frag) (x : Str) (t : T) : Bool := match PySem.W.nsIn K mainGlobals x with
  | some (some u) => repB K u t
  | _ => false
theorem cnB_ok {h : Heap} {x : Str} {t : T} (X : K.In h) (G : h.Ns mainGlobals mg) (c : cnB K x t = true) : Cn K mg x t := by
  unfold cnB at c
  split at c
  · rename_i u e
    obtain ⟨v, r, rp⟩ := repB_ok (mg := mg) c
    exact ⟨u, v, PySem.W.mg_of X G e, r, rp⟩
  · cases c

/-! ### the law's own end -/
def intsT (ns : List Int) : List T := ns.map .int
theorem ints_rp {H : Hp} {P : Addr → Prop} : ∀ {ns : List Int}, RpL K mg H P (ns.map V.int) (intsT ns)
  | [] => rfl
  | n :: ns => ⟨.int n, _, rfl, rfl, ints_rp⟩
theorem law_end {g : List T → CR} {H : Hp} {a : Addr} {ns : List Int} {rm : Md} (hK : NoL K) (hS : SqL K H a (ns.map V.int)) (hg : g [.lst (intsT ns)] = .ok (.bl true) []) : spT K mg ⟨[.fr], rm⟩ g [.ref a] H (fun v _ => v = .bl true) fun _ _ _ => False := by
  have rd : Rd H a (.lst (ns.map V.int)) := by
    rcases hS with h | ⟨o, its, n, h1, h2, _⟩
    · exact h
    · exact absurd h2 (hK a o h1)
  have hn : H a ≠ none := by
    rcases rd with h | ⟨o, h⟩ <;> (rw [h]; simp)
  refine ⟨fun b => b = a, [[]], [.lst (intsT ns)], fun b hb => by rw [show b = a from hb]; exact hn, ⟨[], .ref a, [], .lst (intsT ns), [], rfl, rfl, rfl, ⟨a, ns.map V.int, rfl, ⟨rfl, rd⟩, ints_rp⟩, rfl, rfl, rfl⟩, by simp, by simp, ?_⟩
  rw [hg]
  intro F' H' Os' O v s ou r ap
  exact vr_bl r
end
/-- nothing may leave the law -/
theorem fn_cx0 {P : Program} {w : World} {K : PySem.W.Frag} {mg : Str → Option Value} {base : Heap} {k : Nat} {f : Addr} {fd : FuncData} {ps : List Str} {sp : Sp} (F : FnOk P w K mg base (L2.CX P w) k f fd ps sp) : FnOk P w K mg base CX0 k f fd ps (fun vs H Q _ => sp vs H Q fun _ _ _ => False) := by
  refine ⟨fun vs H Q E h => F.len vs H Q _ h, fun A outer s H args us vs Q E hr e0 bb hv hs => ?_⟩
  refine codeAny_mono (F.run A outer s H args us vs Q (fun _ _ _ => False) hr e0 bb hv hs) fun r s' h => ?_
  cases r with
  | ok fl => cases fl <;> exact h
  | error e =>
    obtain ⟨_, _, _, _, _, _, _, _, _, _, _, _, z⟩ := h
    exact z.elim
end TL

/-! TL26: closures run -/
namespace TL
open PySem L2
def fin (pm : List PM) (r : Res Fl) : CR := match r with
  | .ok .nx τ => match outsOf τ 0 pm with
    | some os => .ok .non os
    | none => .stuck
  | .ok (.rt t) τ => match outsOf τ 0 pm with
    | some os => .ok t os
    | none => .stuck
  | .exn c fs xs τ => match outsOf τ 0 pm with
    | some os => .exn c fs xs os
    | none => .stuck
  | _ => .stuck
theorem runF_fin {pm : List PM} {n : Nat} {c : M Fl} {args : List T} : runF pm n c args = fin pm (c (startT n args)) := rfl
theorem cSeq_nx {a b : M Fl} {τ τ' : List (Option T)} (h : a τ = .ok .nx τ') : cSeq a b τ = b τ' := by
  unfold cSeq M.bind
  rw [h]
theorem cSeq_rt {a b : M Fl} {τ τ' : List (Option T)} {t : T} (h : a τ = .ok (.rt t) τ') : cSeq a b τ = .ok (.rt t) τ' := by
  unfold cSeq M.bind
  rw [h]
  rfl
theorem cSet_ok {i : Nat} {c : M T} {τ τ' : List (Option T)} {t : T} (h : c τ = .ok t τ') : cSet i c τ = .ok .nx (τ'.set i (some t)) := by
  unfold cSet M.bind
  rw [h]
theorem cForGo_nil {p : Pa} {b : M Fl} {τ : List (Option T)} : cForGo p b [] τ = .ok .nx τ := rfl
theorem cForGo_nx {p : Pa} {b : M Fl} {t : T} {ts : List T} {τ τ1 τ2 : List (Option T)} (h : p.set t τ = some τ1) (h2 : b τ1 = .ok .nx τ2) : cForGo p b (t :: ts) τ = cForGo p b ts τ2 := by
  conv => lhs; unfold cForGo
  rw [h]
  dsimp only
  rw [h2]
theorem cFor_ok {p : Pa} {ci : M (List T)} {b : M Fl} {τ τ1 : List (Option T)} {ts : List T} (h : ci τ = .ok ts τ1) : cFor p ci b τ = cForGo p b ts τ1 := by
  unfold cFor M.bind
  rw [h]

section
variable {τ τ' : List (Option T)} {t : T} {α β : Type}
theorem r_bind {m : M α} {f : α → M β} : M.bind m f τ = (match m τ with
  | .ok a τ' => f a τ'
  | .exn c fs xs τ' => .exn c fs xs τ'
  | .stuck => .stuck) := rfl
theorem r_pure {a : α} : M.pure a τ = .ok a τ := rfl
theorem r_some {a : α} : M.opt (some a) τ = .ok a τ := rfl
theorem r_none : M.opt (none : Option α) τ = .stuck := rfl
theorem r_var {i : Nat} : cVar i τ = (match τ[i]? with
  | some (some t) => .ok t τ
  | _ => .stuck) := rfl
theorem r_lit : cLit t τ = .ok t τ := rfl
theorem r_nil : cNil τ = .ok [] τ := rfl
theorem r_cons {c : M T} {cl : M (List T)} : cCons c cl = M.bind c fun x => M.bind cl fun xs => M.pure (x :: xs) := rfl
theorem r_op1 {g : T → Option T} {c : M T} : cOp1 g c = M.bind c fun x => M.opt (g x) := rfl
theorem r_op2 {g : T → T → Option T} {a b : M T} : cOp2 g a b = M.bind a fun x => M.bind b fun y => M.opt (g x y) := rfl
theorem r_opL {g : List T → Option T} {c : M (List T)} : cOpL g c = M.bind c fun xs => M.opt (g xs) := rfl
theorem r_chk {c : M T} : cChk c = cOp1 oChk c := rfl
theorem r_B {c : M T} : cB c = M.bind c fun x => M.opt (oB x) := rfl
theorem r_and {x y : M Bool} : tAndM x y = M.bind x fun k => if k = true then y else M.pure false := rfl
theorem r_or {x y : M Bool} : tOrM x y = M.bind x fun k => if k = true then M.pure true else y := rfl
theorem r_not {x : M Bool} : tNotM x = M.bind x fun k => M.pure (!k) := rfl
theorem r_cAnd {x y : M T} : cAnd x y = M.bind x fun k => match k with
  | .bl true => y
  | .bl false => M.pure (.bl false)
  | _ => fun _ => .stuck := rfl
theorem r_cOr {x y : M T} : cOr x y = M.bind x fun k => match k with
  | .bl true => M.pure (.bl true)
  | .bl false => y
  | _ => fun _ => .stuck := rfl
theorem r_if {x : M Bool} {y z : M T} : cIf x y z = M.bind x fun k => if k = true then y else z := rfl
theorem r_ifS {x : M Bool} {y z : M Fl} : cIfS x y z = M.bind x fun k => if k = true then y else z := rfl
theorem r_seq {a b : M Fl} : cSeq a b = M.bind a fun f => match f with
  | .nx => b
  | f => M.pure f := rfl
theorem r_nx : cNx τ = .ok .nx τ := rfl
theorem r_set {i : Nat} {c : M T} : cSet i c = M.bind c fun t τ => .ok .nx (τ.set i (some t)) := rfl
theorem r_ret {c : M T} : cRet c = M.bind c fun t => M.pure (.rt t) := rfl
theorem r_drop {c : M T} : cDrop c = M.bind c fun _ => M.pure .nx := rfl
@[simp] theorem r_oB {b : Bool} : oB (.bl b) = some b := by
  exact id rfl
@[simp] theorem r_ge {i j : Int} : oGe (.int i) (.int j) = some (.bl (decide (j ≤ i))) := by
  exact id rfl
@[simp] theorem r_gt {i j : Int} : oGt (.int i) (.int j) = some (.bl (decide (j < i))) := by
  exact id rfl
@[simp] theorem r_le {i j : Int} : oLe (.int i) (.int j) = some (.bl (decide (i ≤ j))) := by
  exact id rfl
@[simp] theorem r_lt {i j : Int} : oLt (.int i) (.int j) = some (.bl (decide (i < j))) := by
  exact id rfl
@[simp] theorem r_addN {i j : Int} : oAddN (.int i) (.int j) = some (.int (i + j)) := by
  exact id rfl
@[simp] theorem r_sub {i j : Int} : oSub (.int i) (.int j) = some (.int (i - j)) := by
  exact id rfl
theorem r_mulN {i j : Int} (h : (fits i || fits j) = true) : oMulN (.int i) (.int j) = some (.int (i * j)) := by
  show (if (fits i || fits j) = true then some (T.int (i * j)) else none).bind oChk = _
  rw [if_pos h]
  rfl
theorem r_mod {i j : Int} (h : 0 < j) : oMod (.int i) (.int j) = some (.int (i % j)) := if_pos h
theorem r_div {i j : Int} (h : 0 < j) (h2 : wide j = true) : oDiv (.int i) (.int j) = some (.int (i / j)) := by
  show (if (decide (0 < j) && wide j) = true then some (T.int (i / j)) else none) = _
  rw [if_pos (by rw [h2, decide_eq_true h]; rfl)]
@[simp] theorem r_gint {i : Int} : gInt [.int i] = some (.int i) := by
  exact id rfl
@[simp] theorem r_gintb {b : Bool} : gInt [.bl b] = some (.int (if b then 1 else 0)) := by
  exact id rfl
@[simp] theorem r_len {xs : List T} : gLen [.lst xs] = some (.int xs.length) := by
  exact id rfl
@[simp] theorem r_lenT {xs : List T} : gLen [.tup xs] = some (.int xs.length) := by
  exact id rfl
theorem fits_of {i : Int} (h : i.natAbs < 18446744073709551616) : fits i = true := decide_eq_true h
theorem fits_mod {x m : Int} (h : 0 < m) (h2 : m < 18446744073709551616) : fits (x % m) = true := fits_of (by have := Int.emod_nonneg x (Int.ne_of_gt h); have := Int.emod_lt_of_pos x h; omega)
end
end TL

/-! TL27: a zip that stands in a name -/
namespace TL
open PySem PySem.Spec PyProof.Rows L2

def zipH (H : Hp) (q a b : Addr) : Hp :=
  upd (upd (upd (upd (upd H q (.ext fun h => h.IsListIter q a 0)) (q + 1) (.ext fun h => h.IsListIter (q + 1) b 0)) (q + 2) (.ext fun h => PySem.IsPair h (q + 2) (.ref q) (.ref (q + 1)))) (q + 3) (.ext fun h => PySem.IsPair h (q + 3) .none .none)) (q + 4) (.ext fun h => PySem.IsZip h (q + 4) (q + 2) (q + 3) .none)
section
variable {X : Cx} {pins : List (Addr × Obj)} {σ : L2.St} {H : Hp} {s : Shared} {c : Addr} {φ : Heap → Prop}
/-- a thing that was not tracked is tracked -/
theorem inv_track (I : Inv X pins σ H s) (f : FpOk X pins H c) (new : φ s.heap ∧ (∃ o, s.heap.get? c = some o) ∧ ∀ h1 h2 : Heap, φ h1 → (∀ o, h1.get? c = some o → h2.get? c = some o) → φ h2) : Inv X pins σ (upd H c (.ext φ)) s := by
  obtain ⟨f1, f2, f3, f4, f5, f6⟩ := f
  have ne : ∀ b o, H b = some o → b ≠ c := fun b o e z => by rw [z, f1] at e; cases e
  refine ⟨I.ok, I.os, I.bare, ⟨I.base.keep, I.base.slot, fun b o e n hx => ?_, I.base.there, fun b xs e => ?_, fun b o x e => ?_, fun b ps e => ?_⟩, I.loc, I.cell, ?_, fun x c' e => ?_, fun p hp => ?_, fun b o e => ?_, I.len⟩
  · have hb : b ≠ c := fun z => by
      subst z
      rcases f4 with q | q
      · exact hx q
      · exact absurd (Nat.lt_of_lt_of_le (Heap.lt_size e) q) (Nat.lt_irrefl _)
    rw [upd_ne hb]; exact I.base.free b o e n hx
  · have q := I.base.tups b xs e
    rw [upd_ne (ne b _ q)]; exact q
  · have q := I.base.frzs b o x e
    rw [upd_ne (ne b _ q)]; exact q
  · obtain ⟨m, q⟩ := I.base.tbls b ps e
    exact ⟨m, by rw [upd_ne (ne b _ q)]; exact q⟩
  · rw [upd_ne (Ne.symm f2)]; exact I.free
  · rw [upd_ne (f5 x c' e)]; exact I.freeC x c' e
  · obtain ⟨e, n, r⟩ := I.pin p hp
    exact ⟨e, by rw [upd_ne (f6 p hp)]; exact n, r⟩
  · by_cases hb : b = c
    · rw [hb, upd_same] at e
      cases e
      rw [hb]
      exact new
    · rw [upd_ne hb] at e
      exact (I.hok b o e).stay (fun d v _ q => q) (fun d q => by rw [upd_ne (ne d _ q)]; exact q) fun d xs q => by rw [upd_ne (ne d _ q)]; exact q
theorem fp_other (f : FpOk X pins H c) {d : Addr} {o : HO} (n : c ≠ d) : FpOk X pins (upd H d o) c := ⟨by rw [upd_ne n]; exact f.1, f.2⟩
end
def rZipV (K : PySem.W.Frag) (n : Nat) : List V → Hp → VK → Prop := fun vs H Q => ∃ a b xs ys, vs = [V.ref a, V.ref b] ∧ SqL K H a xs ∧ SqL K H b ys ∧ ∀ q, n ≤ q → (∀ c, q ≤ c → H c = none) → a < q → b < q → Q (.ref (q + 4)) (zipH H q a b)
section
variable {X : Cx}
theorem call_zipV : CallR X (.type "zip") (rZipV X.K X.s_0.heap.objs.size) := by
  intro pins s σ H vs us Q I r h
  obtain ⟨a, b, xs, ys, rfl, hx, hy, q⟩ := h
  obtain ⟨u1, u2, rfl, r1, r2⟩ : ∃ u1 u2, us = [u1, u2] ∧ RelV (V.ref a) u1 ∧ RelV (V.ref b) u2 := by
    cases r with
    | cons r r' =>
      cases r' with
      | cons r2 r3 => cases r3; exact ⟨_, _, rfl, r, r2⟩
  obtain rfl : u1 = Value.ref a := r1
  obtain rfl : u2 = Value.ref b := r2
  obtain ⟨i1, rv1, p1, z1⟩ := I.list hx
  obtain ⟨i2, rv2, p2, z2⟩ := I.list hy
  have la : a < s.heap.objs.size := p1.lt
  have lb : b < s.heap.objs.size := p2.lt
  refine call_zip_2 p1.isList p2.isList fun h' hz hTI hTO h1 h2 hsz hk => ?_
  have I0 : Inv X pins σ H { s with heap := h' } := I.kept (t' := s.toks) hk
  have fr : ∀ c, s.heap.objs.size ≤ c → H c = none := fun c hc => I.hok.fresh hc
  have fp : ∀ c, s.heap.objs.size ≤ c → FpOk X pins H c := fun c hc => I.fpOk hc (fr c hc)
  have hn0 := I.sz
  generalize s.heap.objs.size = n at *
  have I1 := inv_track (φ := fun h => h.IsListIter n a 0) I0 (fp n (Nat.le_refl _)) ⟨h1, (by obtain ⟨o, e, _⟩ := h1; exact ⟨o, e⟩), fun ha hb ⟨o, e, z⟩ k => ⟨o, k o e, z⟩⟩
  have I2 := inv_track (φ := fun h => h.IsListIter (n + 1) b 0) I1 (fp_other (fp (n + 1) (by omega)) (by show n + 1 ≠ n; omega)) ⟨h2, (by obtain ⟨o, e, _⟩ := h2; exact ⟨o, e⟩), fun ha hb ⟨o, e, z⟩ k => ⟨o, k o e, z⟩⟩
  have I3 := inv_track (φ := fun h => PySem.IsPair h (n + 2) (.ref n) (.ref (n + 1))) I2 (fp_other (fp_other (fp (n + 2) (by omega)) (by show n + 2 ≠ n; omega)) (by show n + 2 ≠ n + 1; omega)) ⟨hTI, ⟨_, hTI⟩, fun ha hb e k => k _ e⟩
  have I4 := inv_track (φ := fun h => PySem.IsPair h (n + 3) .none .none) I3 (fp_other (fp_other (fp_other (fp (n + 3) (by omega)) (by show n + 3 ≠ n; omega)) (by show n + 3 ≠ n + 1; omega)) (by show n + 3 ≠ n + 2; omega)) ⟨hTO, ⟨_, hTO⟩, fun ha hb e k => k _ e⟩
  have I5 := inv_track (φ := fun h => PySem.IsZip h (n + 4) (n + 2) (n + 3) .none) I4 (fp_other (fp_other (fp_other (fp_other (fp (n + 4) (by omega)) (by show n + 4 ≠ n; omega)) (by show n + 4 ≠ n + 1; omega)) (by show n + 4 ≠ n + 2; omega)) (by show n + 4 ≠ n + 3; omega)) ⟨hz, ⟨_, hz⟩, fun ha hb e k => k _ e⟩
  exact ⟨V.ref (n + 4), zipH H n a b, I5, rfl, q n hn0 fr la lb⟩
def iZipV (K : PySem.W.Frag) (n k : Nat) : TI := fun σ H R => ∃ q a b H1, σ[k]? = some (some (V.ref (q + 4))) ∧ H = zipH H1 q a b ∧ n ≤ q ∧ (∀ c, q ≤ c → H1 c = none) ∧ a < q ∧ b < q ∧ R (Itz K a b) H1
theorem pi_zipV {elts : List Expr} {kk k : Nat} {tpos p : Pos} {x : Str} (hN : X.N[k]? = some x) (hv : Vis X.env.scope x) (hd : (x == ("__debug__" : Str)) = false) (hcd : (x == ("__classdict__" : Str)) = false) :
    PI X (.Tuple elts kk tpos) (.Name x p) (iZipV X.K X.s_0.heap.objs.size k) := by
  refine ⟨fun pins s σ H R I h => ?_⟩
  obtain ⟨q, a, b, H1, hs, eH, hn, hf, la, lb, r⟩ := h
  refine thn ((pe_var (pos := p) (i := k) hN hv hd hcd).run pins s σ H (fun v H1 => v = .ref (q + 4) ∧ H1 = H) I ⟨.ref (q + 4), hs, rfl, rfl⟩) fun u s1 ⟨v, H2, I2, r1, ev, eH2⟩ => ?_
  subst ev
  rw [eH2, eH] at I2
  cases r1
  have n0 := hf q (Nat.le_refl _)
  have n1 := hf (q + 1) (Nat.le_add_right _ _)
  have n2 := hf (q + 2) (Nat.le_add_right _ _)
  have n3 := hf (q + 3) (Nat.le_add_right _ _)
  have n4 := hf (q + 4) (Nat.le_add_right _ _)
  have ne : ∀ {c d : Nat} {H : Hp} {o : HO}, c ≠ d → H c = none → upd H d o c = none := fun {c d H o} h e => by rw [upd_ne h]; exact e
  have ze : (zipH H1 q a b) (q + 4) = some (.ext fun h => PySem.IsZip h (q + 4) (q + 2) (q + 3) .none) := by unfold zipH; exact upd_same
  have hz := (I2.hok _ _ ze).1
  have f4 := (ItX.inv_fp I2 ze (Nat.le_trans hn (Nat.le_add_right _ _))).2
  have J4 := ItX.inv_drop I2 ze
  have e4 : ItX.dropH (zipH H1 q a b) (q + 4) = _ := ItX.dropH_upd (ne (by omega) (ne (by omega) (ne (by omega) (ne (by omega) n4))))
  rw [e4] at J4
  have f3 := (ItX.inv_fp J4 upd_same (Nat.le_trans hn (Nat.le_add_right _ _))).2
  have z3 := (J4.hok _ _ upd_same).1
  have J3 := ItX.inv_drop J4 upd_same
  rw [ItX.dropH_upd (ne (by omega) (ne (by omega) (ne (by omega) n3)))] at J3
  have f2 := (ItX.inv_fp J3 upd_same (Nat.le_trans hn (Nat.le_add_right _ _))).2
  have z2 := (J3.hok _ _ upd_same).1
  have J2 := ItX.inv_drop J3 upd_same
  rw [ItX.dropH_upd (ne (by omega) (ne (by omega) n2))] at J2
  have f1 := (ItX.inv_fp J2 upd_same (Nat.le_trans hn (Nat.le_add_right _ _))).2
  have z1 := (J2.hok _ _ upd_same).1
  have J1 := ItX.inv_drop J2 upd_same
  rw [ItX.dropH_upd (ne (by omega) n1)] at J1
  have f0 := (ItX.inv_fp J1 upd_same hn).2
  have z0 := (J1.hok _ _ upd_same).1
  have J0 := ItX.inv_drop J1 upd_same
  rw [ItX.dropH_upd n0] at J0
  refine wpAny_pyIter_zip hz ?_
  refine ⟨q + 4, [q + 4, q + 2, q + 3, q, q + 1], _, _, H1, rfl, J0, turn_zip (PySem.W.ktu_apart q a b la lb), ⟨hz, z2, ⟨_, _, z3⟩, z0, z1⟩, fun c hc => ?_, r⟩
  have e' : c = q + 4 ∨ c = q + 2 ∨ c = q + 3 ∨ c = q ∨ c = q + 1 := by simpa using hc
  rcases e' with rfl | rfl | rfl | rfl | rfl
  · exact ⟨n4, f4⟩
  · exact ⟨n2, f2⟩
  · exact ⟨n3, f3⟩
  · exact ⟨n0, f0⟩
  · exact ⟨n1, f1⟩
end

/-! ### x = zip(..); return f([.. for .. in x]) -/
def zipBL : List T → Option (List T)
  | [.lst xs, .lst ys] => some (zipT xs ys)
  | _ => none
def cZipL (cl : M (List T)) : M (List T) := M.bind cl fun ts => match zipBL ts with
  | some xs => M.pure xs
  | none => fun _ => .stuck
section
variable {X : Cx} {W : WX} {B : Nat → Addr → Prop} {fx : Fx} {L : Lv} {Γh Γ Γ0 Γ1 Γ2 Γ3 Γ' Γb Γl : List Md} {n : En} {e e1 e2 elt : Expr} {ca ce : M T} {cl : M (List T)} {m : Md} {p : Pa} {scope : Scope} {own : List (Str × Nat)} {D : Ends}
theorem post_ret {σ : L2.St} {F : Addr → Prop} {H : Hp} {τ : List (Option T)} (hm : n.rm = m) (w : wkG n.r Γ1 = true) (lv : n.r.all (fun m => decide (m.lv ≤ L)) = true) (ml : m.lv ≤ L)
    (p : PostS X.K X.mg W B fx L Γh n Γ' D F H (cRet ca τ)) : Post X.K X.mg W B fx L Γh Γ1 m σ D.rt F H (ca τ) := by
  refine postS_bind p fun t τ' F' Os' O v H' s S' x r p' => ?_
  obtain ⟨F2, s2, S2, fr⟩ : ∃ F2, Stp (B L) F' H' F2 H' ∧ SR X.K X.mg B fx L n.r F2 (fun i => if kept n.r i = true then Os' i else []) H' σ τ' ∧ ∀ a, F2 a → F' a ∨ ∃ i, a ∈ Os' i := S'.weakF w lv
  refine p' F2 _ O v H' σ s2 S2 ⟨x.nd, fun a ha => ⟨fun q => ?_, (x.own a ha).2⟩, fun a ha i hi => ?_⟩ (by rw [hm]; exact r.step S'.mono s2 ml fun _ _ => rfl)
  · rcases fr a q with q | ⟨i, q⟩
    · exact (x.own a ha).1 q
    · exact x.dj a ha i q
  · split at hi
    · exact x.dj a ha i hi
    · cases hi
theorem zip_ok {F : Addr → Prop} {H : Hp} {a b : Addr} {xs ys : List T} (r1 : Rp X.K X.mg H F (.ref a) (.lst xs)) (r2 : Rp X.K X.mg H F (.ref b) (.lst ys)) : ItOk X.K X.mg B L F H (Itz X.K a b) (zipT xs ys) .fr := fun F2 H2 s2 t2 t3 => by
  have r1 := Rp.mono s2.kpF s2.fr r1
  have r2 := Rp.mono s2.kpF s2.fr r2
  obtain ⟨a', vs2, e1, ⟨_, l1⟩, r1⟩ := r1
  obtain ⟨b', ws2, e2, ⟨_, l2⟩, r2⟩ := r2
  cases e1
  cases e2
  refine ⟨fun i t ht => ?_, fun i hi => ⟨vs2, ws2, .inl l1, .inl l2, ?_⟩⟩
  · obtain ⟨x, y, ex, ey, rfl⟩ := zipT_get ht
    obtain ⟨v, ev, rv⟩ := rpl_get r1 ex
    obtain ⟨w, ew, rw'⟩ := rpl_get r2 ey
    refine ⟨⟨vs2, ws2, v, w, .inl l1, .inl l2, ev, ew⟩, fun z H3 hy => ?_⟩
    obtain ⟨q, v', w', rfl, hq, rfl, h1, h2⟩ := hy
    have e1 := h1 vs2 (.inl l1)
    have e2 := h2 ws2 (.inl l2)
    rw [ev] at e1
    rw [ew] at e2
    cases e1
    cases e2
    have nw : New F2 H2 F2 (upd H2 q (.tup [v, w])) [] := ⟨fun a h => upd_ne (fun e => h (by rw [e]; exact hq)), fun _ h => h, fun _ h => .inl h, by simp, List.nodup_nil⟩
    have kp : Kp F2 H2 (upd H2 q (.tup [v, w])) := ⟨fun a h => nw.same a (t2 a h), fun a o e _ => by rw [nw.same a (by rw [e]; simp)]; exact e⟩
    exact ⟨F2, nw, VR.fr_of ⟨q, [v, w], rfl, .inl (.inl upd_same), ⟨v, [w], rfl, Rp.mono kp (fun _ h => h) rv, w, [], rfl, Rp.mono kp (fun _ h => h) rw', rfl⟩⟩⟩
  · rw [zipT_len] at hi
    rw [rpl_len r1, rpl_len r2]
    omega
theorem sx_zipret {k j kk : Nat} {x fnm : Str} {ps : List Str} {sg : Sig} {g : List T → CR} {xp zp zpos apos fp tpos xp2 lpos cpos rpos : Pos} {elts : List Expr} {tk0 : Nat}
    (hc : X.calm = true) (hN : X.N.Nodup) (hk : X.N[k]? = some x) (hx : L2.Loc X.env.scope x) (hv : Vis X.env.scope x) (hd : (x == ("__debug__" : Str)) = false) (hcd : (x == ("__classdict__" : Str)) = false) (hf : X.fn x = true ∨ X.env.scope.names.lookup x = some .local)
    (hsw : swapsWith (.Call (.Name "zip" zp) [e1, e2] [] zpos) (some (.Name x xp)) apos.line X.env = pure false)
    (hg : Gl X "zip") (hm : X.mg "zip" = none) (hs : starEach [e1, e2] X.env = (false, eval e1 X.env) :: starEach [e2] X.env) (hpl : (backTo zpos (starEach [e2] X.env)).any (·.1) = false)
    (ha : AX X W L Γh Γ [e1, e2] cl [.fr, .fr] Γ1) (hk1 : Γ1[k]? = some .un) (hkz : L.z.contains k = false)
    (ok : BlkOk X.N X.env.scope scope own)
    (hgx : ∀ (s : Shared) (H : Hp) (C : Addr) (cl : List (Str × Addr)) (fp : List Addr), GX (X.blk s H scope (compEnvC scope cl C X.env) fp) L.over Γ0 (.Tuple elts tk0 tpos) p .fr Γb)
    (he : ∀ (s : Shared) (H : Hp) (C : Addr) (cl : List (Str × Addr)) (fp : List Addr), EX (X.blk s H scope (compEnvC scope cl C X.env) fp) W0 L.over Γl Γb elt ce (.ow 0) Γ3)
    (hs2 : ∀ y, foldedSetIterable (.Name x xp2) X.env y = pure y) (h : lcOk L own p [] .fr Γ1 Γ0 Γ1 Γb Γb Γ3 = true)
    (tk : Takes X W) (C : Cal X.prog X.w X.K X.mg X.base fnm ps kk sg g) (hr : Room j X.A) (hkj : kk ≤ j) (hgf : Gl X fnm) (hdb : (fnm == ("__debug__" : Str)) = false)
    (hs3 : starEach [.ListComp elt [⟨.Tuple elts tk0 tpos, .Name x xp2, [], 0⟩] scope lpos] X.env = (false, eval (.ListComp elt [⟨.Tuple elts tk0 tpos, .Name x xp2, [], 0⟩] scope lpos) X.env) :: starEach [] X.env) (hpl3 : (backTo cpos (starEach [] X.env)).any (·.1) = false)
    (hfit : AI.fitsL [.e .fr] sg.pm = true) (ro : sg.rmOk = true) (w : wkG Γh Γ0 = true) (lv : Γh.all (fun m => decide (m.lv ≤ L)) = true)
    (hm2 : n.rm = sg.rm) (w2 : wkG n.r Γ0 = true) (lv2 : n.r.all (fun m => decide (m.lv ≤ L)) = true) (ml : sg.rm.lv ≤ L) :
    SX X W L Γh n Γ [.Assign [.Name x xp] (.Call (.Name "zip" zp) [e1, e2] [] zpos) apos, .Return (some (.Call (.Name fnm fp) [.ListComp elt [⟨.Tuple elts tk0 tpos, .Name x xp2, [], 0⟩] scope lpos] [] cpos)) rpos]
      (cRet (cCall g [.e .fr] (cCons (cLc (cZipL cl) [] p cYes ce) cNil))) Γ' := by
  simp only [lcOk, inOwn, Bool.and_eq_true, decide_eq_true_eq] at h
  obtain ⟨⟨⟨⟨⟨⟨⟨⟨w1', w2'⟩, w3'⟩, lv'⟩, lmi⟩, hlen⟩, hun⟩, hks⟩, hp1, hp2⟩ := h
  have hun' := unOk_ok hun
  obtain ⟨f, fd, hmf, hkf, hbf, Fn⟩ := C.ex
  refine PSs.imp (pss_cons (ps_set hN hk hx (pe_callTy call_zipV hg hm PyProof.Rows.boot_zip ha (by decide) (by decide) hs hpl) hsw hf) (pss_one (ps_ret (pe_callS (E := WE W) Fn (hr.mono hkj) hgf hmf hkf hbf (fun σ => passAt tk σ)
    (pa_cons (pe_lc (wi := iZipV X.K X.s_0.heap.objs.size k) (g := RG X.K X.mg L.over Γ0 p .fr Γb) (tt := RT X.K X.mg W0 L.over Γl Γb cYes Γb) (te := RE X.K X.mg W0 L.over Γl Γb ce (.ow 0) Γ3) hc hN (pi_zipV hk hv hd hcd) ok hgx (fun _ _ _ _ _ => txs_nil) he hs2) pa_nil hs3) hdb hs3 hpl3)))) fun D σ H h => ?_
  obtain ⟨B, fx, F, Os, τ, S, q⟩ := h
  refine ⟨B, fx, F, Os, τ, S, ?_⟩
  cases hcl : cl τ with
  | exn c fs xs τ' =>
    have e : cRet (cCall g [.e .fr] (cCons (cLc (cZipL cl) [] p cYes ce) cNil)) τ = .exn c fs xs τ' := by
      simp only [cRet, cCall, cCons, cLc, cZipL, M.bind, hcl]
    rw [e] at q
    exact q σ
  | stuck =>
    have e : cRet (cCall g [.e .fr] (cCons (cLc (cZipL cl) [] p cYes ce) cNil)) τ = .stuck := by
      simp only [cRet, cCall, cCons, cLc, cZipL, M.bind, hcl]
    rw [e] at q
    exact q.elim
  | ok ts τ1 =>
    intro F1 Os1 vs H1 s1 S1 hv1
    cases hz : zipBL ts with
    | none =>
      have e : cRet (cCall g [.e .fr] (cCons (cLc (cZipL cl) [] p cYes ce) cNil)) τ = .stuck := by
        simp only [cRet, cCall, cCons, cLc, cZipL, M.bind, hcl, hz]
      rw [e] at q
      exact q.elim
    | some zs =>
      have e : cRet (cCall g [.e .fr] (cCons (cLc (cZipL cl) [] p cYes ce) cNil)) τ = cRet (cCall g [.e .fr] (cCons (cLc (M.pure zs) [] p cYes ce) cNil)) τ1 := by
        simp only [cRet, cCall, cCons, cLc, cZipL, M.bind, hcl, hz, M.pure]
      rw [e] at q
      have q1 := postS_later q s1
      obtain ⟨v, w0, t, u, rfl, rfl, g1, g2⟩ := vrl_two hv1
      unfold zipBL at hz
      split at hz
      · rename_i xs ys hts
        cases hts
        cases hz
        have g1 := g1.fr_rp
        have g2 := g2.fr_rp
        obtain ⟨a, vs, rfl, ⟨_, rd⟩, _⟩ := id g1
        obtain ⟨b, ws, rfl, ⟨_, rd2⟩, _⟩ := id g2
        refine ⟨a, b, vs, ws, rfl, .inl rd, .inl rd2, fun q0 hq hfree hqa hqb => ?_⟩
        have hlt : k < σ.length := by rw [S1.lσ]; exact (List.getElem?_eq_some_iff.mp hk1).1
        refine ⟨q0, a, b, H1, List.getElem?_set_self hlt, rfl, hq, hfree, hqa, hqb, ?_⟩
        have S2 : SR X.K X.mg B fx L Γ1 F1 Os1 H1 (σ.set k (some (V.ref (q0 + 4)))) τ1 := S1.res (by rw [List.length_set]) fun i => by
          by_cases hi : k = i
          · subst hi; exact .inr ⟨hk1, fun z => by
              rw [← List.contains_iff_mem] at z
              rw [z] at hkz
              cases hkz⟩
          · left; rw [List.getElem?_set_ne hi]
        have pr := post_ret (σ := σ.set k (some (V.ref (q0 + 4)))) (Γ1 := Γ0) hm2 w2 lv2 ml q1
        have key := fun QQ => lc_read0 (Q := fun v H2 => spT X.K X.mg sg g [v] H2 D.rt (WE W (σ.set k (some (V.ref (q0 + 4)))))) (ct := cYes) (ce := ce) (d := 0) (Γl := Γl) (wi := fun _ H R => R (Itz X.K a b) H) (W := W) (Γh := Γh) (Γ1 := Γ1) (ci := M.pure (zipT xs ys)) (fun _ _ _ _ h => h) (fun _ _ _ h => h) (fun _ _ _ h => h) w1' w2' w3' lv' lmi hlen hun' hks (by simp) (fun j hj => by simpa using List.all_eq_true.mp hp1 j hj) (σ.set k (some (V.ref (q0 + 4)))) H1 S2 QQ fun R hR => hR F1 Os1 H1 _ Stp.refl S2 (zip_ok g1 g2)
        refine key ?_
        cases hcc : cLc (M.pure (zipT xs ys)) [] p cYes ce τ1 with
        | exn c fs xs' τ' =>
          have e : cCall g [.e .fr] (cCons (cLc (M.pure (zipT xs ys)) [] p cYes ce) cNil) τ1 = .exn c fs xs' τ' := by
            unfold cCall cCons M.bind
            rw [hcc]
          rw [e] at pr
          exact pr
        | stuck =>
          have e : cCall g [.e .fr] (cCons (cLc (M.pure (zipT xs ys)) [] p cYes ce) cNil) τ1 = .stuck := by
            unfold cCall cCons M.bind
            rw [hcc]
          rw [e] at pr
          exact pr.elim
        | ok t τ2 =>
          have e : cCall g [.e .fr] (cCons (cLc (M.pure (zipT xs ys)) [] p cYes ce) cNil) τ1 = (match AI.fill τ2 [.e .fr] [t] with
              | none => .stuck
              | some args => match g args with
                | .ok t outs => .ok t (AI.put τ2 (AI.slots [.e .fr]) outs)
                | .exn c fs xs outs => .exn c fs xs (AI.put τ2 (AI.slots [.e .fr]) outs)
                | .stuck => .stuck) := by
            unfold cCall cCons M.bind
            rw [hcc]
            rfl
          rw [e] at pr
          intro F2 Os2 O v H2 s2 S3 x r
          have s3 : Stp (B L) F2 H2 (fun a => F2 a ∨ a ∈ O) H2 := ⟨fun _ h => .inl h, fun a h => h.imp id fun z b => (x.own a z).2.1 b, fun _ _ => rfl, fun _ _ e _ => e, fun _ h => h, fun hF a h => h.elim (hF a) fun z => (x.own a z).2.2⟩
          have S4 := S3.step s3 fun i a ha => ⟨rfl, fun z => z.elim (S3.own i a ha).1 fun z => x.dj a z i ha⟩
          exact call_end (ai := [.e .fr]) (ts := [t]) (vs := [v]) S4 hfit rfl ro (HOut.of w lv) ⟨v, [], t, [], rfl, rfl, rfl, Nat.zero_le _, VR.fr_of (Ow.rp r (fun _ h => .inl h) fun _ h => .inr h), rfl, rfl⟩ (post_later pr (s2.trans s3))
      · cases hz
end
theorem allb {l : List Bool} (j : Nat) {b : Bool} (h : l.all id = true) (e : l[j]? = some b) : b = true := List.all_eq_true.mp h b (List.mem_of_getElem? e)
end TL

/-! TL28: what a closure comes to, by wishes -/
namespace TL
open PySem L2
abbrev Sl := List (Option T)
abbrev XP := Str → List Str → List T → Sl → Prop
def noE : XP := fun _ _ _ _ => False
section
variable {α β : Type}
class Kt (α : Type) where
  k : α → Sl → Prop
  e : XP
class Ko (α : Type) where
  k : α → Prop
class Kg where
  k : T → List T → Prop
  e : Str → List Str → List T → List T → Prop
class Kf where
  n : Prop
  o : Fl → Prop
def wp (c : M α) (τ : Sl) [P : Kt α] : Prop := match c τ with
  | .ok a τ' => P.k a τ'
  | .exn c fs xs τ' => P.e c fs xs τ'
  | .stuck => False
def wpg (r : CR) [P : Kg] : Prop := match r with
  | .ok t o => P.k t o
  | .exn c fs xs o => P.e c fs xs o
  | .stuck => False
def wpo (o : Option α) [P : Ko α] : Prop := match o with
  | some a => P.k a
  | none => False
@[simp] theorem wpo_some {a : α} {P : α → Prop} : (@wpo _ (some a) ⟨P⟩) = P a := by
  exact id rfl
@[simp] theorem wpo_none {P : α → Prop} : (@wpo _ none ⟨P⟩) = False := by
  exact id rfl
variable {τ : Sl} {P : α → Sl → Prop} {Q : T → Sl → Prop} {Pb : Bool → Sl → Prop} {Pl : List T → Sl → Prop} {Pf : Fl → Sl → Prop} {Pp : List Nat → Sl → Prop} {E : XP}
theorem wp_def {c : M α} : (@wp _ c τ ⟨P, E⟩) = (match c τ with
  | .ok a τ' => P a τ'
  | .exn c fs xs τ' => E c fs xs τ'
  | .stuck => False) := rfl
theorem wp_eq {c : M α} {P P' : α → Sl → Prop} (h : ∀ a τ, P a τ = P' a τ) : ((@wp _ c τ ⟨P, E⟩)) = ((@wp _ c τ ⟨P', E⟩)) := by
  have e : P = P' := by funext a τ; exact h a τ
  rw [e]
@[simp] theorem wp_bind {m : M β} {f : β → M α} : (@wp _ (M.bind m f) τ ⟨P, E⟩) = (@wp _ m τ ⟨(fun a τ' => (@wp _ (f a) τ' ⟨P, E⟩)), E⟩) := by
  unfold wp M.bind
  cases m τ <;> rfl
@[simp] theorem wp_pure {a : α} : (@wp _ (M.pure a) τ ⟨P, E⟩) = P a τ := by
  exact id rfl
@[simp] theorem wp_opt {o : Option α} : (@wp _ (M.opt o) τ ⟨P, E⟩) = (@wpo _ o ⟨(fun a => P a τ)⟩) := by cases o <;> rfl
@[simp] theorem wp_ite {k : Prop} [Decidable k] {y z : M α} : (@wp _ (if k then y else z) τ ⟨P, E⟩) = if k then (@wp _ y τ ⟨P, E⟩) else (@wp _ z τ ⟨P, E⟩) := by split <;> rfl
@[simp] theorem wp_var {i : Nat} : (@wp _ (cVar i) τ ⟨Q, E⟩) = (@wpo _ ((τ[i]?).getD none) ⟨(fun t => Q t τ)⟩) := by
  unfold wp cVar
  cases h : τ[i]? with
  | none => simp
  | some o => cases o <;> simp
@[simp] theorem wp_lit {t : T} : (@wp _ (cLit t) τ ⟨Q, E⟩) = Q t τ := by
  exact id rfl
@[simp] theorem wp_nil : (@wp _ cNil τ ⟨Pl, E⟩) = Pl [] τ := by
  exact id rfl
@[simp] theorem wp_cons {c : M T} {cl : M (List T)} : (@wp _ (cCons c cl) τ ⟨Pl, E⟩) = (@wp _ c τ ⟨(fun x τ1 => (@wp _ cl τ1 ⟨(fun xs τ2 => Pl (x :: xs) τ2), E⟩)), E⟩) := by
  unfold cCons
  rw [wp_bind]
  refine wp_eq fun _ _ => ?_
  rw [wp_bind]
  rfl
@[simp] theorem wp_op1 {g : T → Option T} {c : M T} : (@wp _ (cOp1 g c) τ ⟨Q, E⟩) = (@wp _ c τ ⟨(fun x τ1 => (@wpo _ (g x) ⟨fun t => Q t τ1⟩)), E⟩) := by
  unfold cOp1
  rw [wp_bind]
  refine wp_eq fun _ _ => ?_
  exact wp_opt
@[simp] theorem wp_op2 {g : T → T → Option T} {a b : M T} : (@wp _ (cOp2 g a b) τ ⟨Q, E⟩) = (@wp _ a τ ⟨(fun x τ1 => (@wp _ b τ1 ⟨(fun y τ2 => (@wpo _ (g x y) ⟨fun t => Q t τ2⟩)), E⟩)), E⟩) := by
  unfold cOp2
  rw [wp_bind]
  refine wp_eq fun _ _ => ?_
  rw [wp_bind]
  refine wp_eq fun _ _ => ?_
  exact wp_opt
@[simp] theorem wp_opL {g : List T → Option T} {c : M (List T)} : (@wp _ (cOpL g c) τ ⟨Q, E⟩) = (@wp _ c τ ⟨(fun xs τ1 => (@wpo _ (g xs) ⟨fun t => Q t τ1⟩)), E⟩) := by
  unfold cOpL
  rw [wp_bind]
  refine wp_eq fun _ _ => ?_
  exact wp_opt
@[simp] theorem wp_chk {c : M T} : (@wp _ (cChk c) τ ⟨Q, E⟩) = (@wp _ c τ ⟨(fun x τ1 => (@wpo _ (oChk x) ⟨fun t => Q t τ1⟩)), E⟩) := by
  unfold cChk
  exact wp_op1
@[simp] theorem wp_B {c : M T} : (@wp _ (cB c) τ ⟨Pb, E⟩) = (@wp _ c τ ⟨(fun x τ1 => (@wpo _ (oB x) ⟨fun t => Pb t τ1⟩)), E⟩) := by
  unfold cB
  rw [wp_bind]
  refine wp_eq fun _ _ => ?_
  exact wp_opt
@[simp] theorem wp_tAnd {x y : M Bool} : (@wp _ (tAndM x y) τ ⟨Pb, E⟩) = (@wp _ x τ ⟨(fun k τ1 => if k = true then (@wp _ y τ1 ⟨Pb, E⟩) else Pb false τ1), E⟩) := by
  unfold tAndM
  rw [wp_bind]
  refine wp_eq fun _ _ => ?_
  rw [wp_ite]
  rfl
@[simp] theorem wp_tOr {x y : M Bool} : (@wp _ (tOrM x y) τ ⟨Pb, E⟩) = (@wp _ x τ ⟨(fun k τ1 => if k = true then Pb true τ1 else (@wp _ y τ1 ⟨Pb, E⟩)), E⟩) := by
  unfold tOrM
  rw [wp_bind]
  refine wp_eq fun _ _ => ?_
  rw [wp_ite]
  rfl
@[simp] theorem wp_tNot {x : M Bool} : (@wp _ (tNotM x) τ ⟨Pb, E⟩) = (@wp _ x τ ⟨(fun k τ1 => Pb (!k) τ1), E⟩) := by
  unfold tNotM
  rw [wp_bind]
  rfl
def blP (t : T) [P : Ko Bool] : Prop := match t with
  | .bl b => P.k b
  | _ => False
@[simp] theorem blP_bl {b : Bool} {P : Bool → Prop} : (@blP (.bl b) ⟨P⟩) = P b := by
  exact id rfl
@[simp] theorem wp_cAnd {x y : M T} : (@wp _ (cAnd x y) τ ⟨Q, E⟩) = (@wp _ x τ ⟨(fun k τ1 => (@blP k ⟨fun b => if b = true then (@wp _ y τ1 ⟨Q, E⟩) else Q (.bl false) τ1⟩)), E⟩) := by
  unfold cAnd
  rw [wp_bind]
  refine wp_eq fun k τ1 => ?_
  cases k <;> first
    | rfl
    | (rename_i b; cases b <;> simp)
@[simp] theorem wp_cOr {x y : M T} : (@wp _ (cOr x y) τ ⟨Q, E⟩) = (@wp _ x τ ⟨(fun k τ1 => (@blP k ⟨fun b => if b = true then Q (.bl true) τ1 else (@wp _ y τ1 ⟨Q, E⟩)⟩)), E⟩) := by
  unfold cOr
  rw [wp_bind]
  refine wp_eq fun k τ1 => ?_
  cases k <;> first
    | rfl
    | (rename_i b; cases b <;> simp)
@[simp] theorem wp_cIf {x : M Bool} {y z : M T} : (@wp _ (cIf x y z) τ ⟨Q, E⟩) = (@wp _ x τ ⟨(fun k τ1 => if k = true then (@wp _ y τ1 ⟨Q, E⟩) else (@wp _ z τ1 ⟨Q, E⟩)), E⟩) := by
  unfold cIf
  rw [wp_bind]
  refine wp_eq fun _ _ => ?_
  exact wp_ite
@[simp] theorem wp_cIfS {x : M Bool} {y z : M Fl} : (@wp _ (cIfS x y z) τ ⟨Pf, E⟩) = (@wp _ x τ ⟨(fun k τ1 => if k = true then (@wp _ y τ1 ⟨Pf, E⟩) else (@wp _ z τ1 ⟨Pf, E⟩)), E⟩) := by
  unfold cIfS
  rw [wp_bind]
  refine wp_eq fun _ _ => ?_
  exact wp_ite
@[simp] theorem wp_chain {g g' : T → T → Option T} {x y z : M T} : (@wp _ (cChain g g' x y z) τ ⟨Q, E⟩) = (@wp _ x τ ⟨(fun p τ1 => (@wp _ y τ1 ⟨(fun q τ2 => (@wpo _ (g p q) ⟨fun k => (@blP k ⟨fun b => if b = true then (@wp _ z τ2 ⟨(fun r τ3 => (@wpo _ (g' q r) ⟨fun t => Q t τ3⟩)), E⟩) else Q (.bl false) τ2⟩)⟩)), E⟩)), E⟩) := by
  unfold cChain
  rw [wp_bind]
  refine wp_eq fun p τ1 => ?_
  rw [wp_bind]
  refine wp_eq fun q τ2 => ?_
  rw [wp_bind, wp_opt]
  cases g p q with
  | none => rfl
  | some k =>
    simp only [wpo_some]
    cases k <;> first
      | rfl
      | (rename_i b
         cases b with
         | false => rfl
         | true => show _ = _; simp only [blP_bl, if_true]; rw [wp_bind]; exact wp_eq fun _ _ => wp_opt)
@[simp] theorem wp_nx : (@wp _ cNx τ ⟨Pf, E⟩) = Pf .nx τ := by
  exact id rfl
@[simp] theorem wp_bk : (@wp _ cBk τ ⟨Pf, E⟩) = Pf .bk τ := by
  exact id rfl
@[simp] theorem wp_ct : (@wp _ cCt τ ⟨Pf, E⟩) = Pf .ct τ := by
  exact id rfl
@[simp] theorem wp_retN : (@wp _ cRetN τ ⟨Pf, E⟩) = Pf (.rt .non) τ := by
  exact id rfl
@[simp] theorem wp_raise {x : Str} : (@wp _ (cRaise x) τ ⟨Pf, E⟩) = E x [] [] τ := by
  exact id rfl
def flP (f : Fl) [P : Kf] : Prop := match f with
  | .nx => P.n
  | f => P.o f
@[simp] theorem flP_nx {n : Prop} {o : Fl → Prop} : (@flP .nx ⟨n, o⟩) = n := by
  exact id rfl
@[simp] theorem flP_rt {n : Prop} {o : Fl → Prop} {t : T} : (@flP (.rt t) ⟨n, o⟩) = o (.rt t) := by
  exact id rfl
@[simp] theorem flP_bk {n : Prop} {o : Fl → Prop} : (@flP .bk ⟨n, o⟩) = o .bk := by
  exact id rfl
@[simp] theorem flP_ct {n : Prop} {o : Fl → Prop} : (@flP .ct ⟨n, o⟩) = o .ct := by
  exact id rfl
@[simp] theorem wp_seq {a b : M Fl} : (@wp _ (cSeq a b) τ ⟨Pf, E⟩) = (@wp _ a τ ⟨(fun f τ1 => (@flP f ⟨((@wp _ b τ1 ⟨Pf, E⟩)), fun f => Pf f τ1⟩)), E⟩) := by
  unfold cSeq
  rw [wp_bind]
  refine wp_eq fun f τ1 => ?_
  cases f <;> rfl
@[simp] theorem wp_set {i : Nat} {c : M T} : (@wp _ (cSet i c) τ ⟨Pf, E⟩) = (@wp _ c τ ⟨(fun t τ1 => Pf .nx (τ1.set i (some t))), E⟩) := by
  unfold cSet
  rw [wp_bind]
  rfl
@[simp] theorem wp_ret {c : M T} : (@wp _ (cRet c) τ ⟨Pf, E⟩) = (@wp _ c τ ⟨(fun t τ1 => Pf (.rt t) τ1), E⟩) := by
  unfold cRet
  rw [wp_bind]
  rfl
@[simp] theorem wp_drop {c : M T} : (@wp _ (cDrop c) τ ⟨Pf, E⟩) = (@wp _ c τ ⟨(fun _ τ1 => Pf .nx τ1), E⟩) := by
  unfold cDrop
  rw [wp_bind]
  rfl
@[simp] theorem wp_asg {p : Pa} {c : M T} : (@wp _ (cAsg p c) τ ⟨Pf, E⟩) = (@wp _ c τ ⟨(fun t τ1 => (@wpo _ (p.set t τ1) ⟨fun τ2 => Pf .nx τ2⟩)), E⟩) := by
  unfold cAsg
  rw [wp_bind]
  refine wp_eq fun t τ1 => ?_
  unfold wp
  dsimp only
  cases p.set t τ1 <;> rfl
@[simp] theorem wp_call {g : List T → CR} {ai : List AI} {cl : M (List T)} : (@wp _ (cCall g ai cl) τ ⟨Q, E⟩) = (@wp _ cl τ ⟨(fun ts τ1 => (@wpo _ (AI.fill τ1 ai ts) ⟨fun args => (@wpg (g args) ⟨(fun t outs => Q t (AI.put τ1 (AI.slots ai) outs)), fun c fs xs outs => E c fs xs (AI.put τ1 (AI.slots ai) outs)⟩)⟩)), E⟩) := by
  unfold cCall
  rw [wp_bind]
  refine wp_eq fun ts τ1 => ?_
  unfold wp
  dsimp only
  cases AI.fill τ1 ai ts with
  | none => rfl
  | some args => dsimp only; unfold wpo wpg; dsimp only; cases g args <;> rfl
theorem wpg_run {pm : List PM} {n : Nat} {c : M Fl} {args : List T} {P : T → List T → Prop} {Eg : Str → List Str → List T → List T → Prop} :
    (@wpg (runF pm n c args) ⟨P, Eg⟩) = (@wp _ c (startT n args) ⟨(fun f τ => match f with
      | .nx => (@wpo _ (outsOf τ 0 pm) ⟨fun os => P .non os⟩)
      | .rt t => (@wpo _ (outsOf τ 0 pm) ⟨fun os => P t os⟩)
      | _ => False), fun c fs xs τ => (@wpo _ (outsOf τ 0 pm) ⟨fun os => Eg c fs xs os⟩)⟩) := by
  unfold wpg runF wp
  cases c (startT n args) with
  | stuck => rfl
  | exn c fs xs τ => dsimp only; cases outsOf τ 0 pm <;> rfl
  | ok f τ =>
    dsimp only
    cases f <;> first
      | rfl
      | (dsimp only; cases outsOf τ 0 pm <;> rfl)
@[simp] theorem wp_for {p : Pa} {ci : M (List T)} {b : M Fl} : (@wp _ (cFor p ci b) τ ⟨Pf, E⟩) = (@wp _ ci τ ⟨(fun ts τ1 => (@wp _ (cForGo p b ts) τ1 ⟨Pf, E⟩)), E⟩) := by
  unfold cFor
  rw [wp_bind]
theorem wp_go_nil {p : Pa} {b : M Fl} : (@wp _ (cForGo p b []) τ ⟨Pf, E⟩) = Pf .nx τ := rfl
theorem wp_go_cons {p : Pa} {b : M Fl} {t : T} {ts : List T} : (@wp _ (cForGo p b (t :: ts)) τ ⟨Pf, E⟩) = (@wpo _ (p.set t τ) ⟨fun τ1 => (@wp _ b τ1 ⟨(fun f τ2 => match f with
    | .nx => (@wp _ (cForGo p b ts) τ2 ⟨Pf, E⟩)
    | .ct => (@wp _ (cForGo p b ts) τ2 ⟨Pf, E⟩)
    | .bk => Pf .nx τ2
    | .rt t => Pf (.rt t) τ2), E⟩)⟩) := by
  unfold wp
  conv => lhs; unfold cForGo
  cases p.set t τ with
  | none => rfl
  | some τ1 =>
    dsimp only [wpo]
    cases h : b τ1 with
    | ok f τ2 => cases f <;> (dsimp only; try rw [h])
    | exn c fs xs τ2 => dsimp only; try rw [h]
    | stuck => dsimp only; try rw [h]
/-- a loop by what stands with so many items left -/
theorem wp_loop (I : List T → Sl → Prop) {p : Pa} {b : M Fl} {ts : List T} (h0 : I ts τ)
    (step : ∀ t ts τ, I (t :: ts) τ → (@wpo _ (p.set t τ) ⟨fun τ1 => (@wp _ b τ1 ⟨(fun f τ2 => match f with
      | .nx => I ts τ2
      | .ct => I ts τ2
      | .bk => Pf .nx τ2
      | .rt v => Pf (.rt v) τ2), E⟩)⟩)) (done : ∀ τ, I [] τ → Pf .nx τ) : (@wp _ (cForGo p b ts) τ ⟨Pf, E⟩) := by
  induction ts generalizing τ with
  | nil => exact done τ h0
  | cons t ts ih =>
    rw [wp_go_cons]
    have s := step t ts τ h0
    cases hs : p.set t τ with
    | none => rw [hs] at s; exact s
    | some τ1 =>
      rw [hs] at s
      unfold wp wpo at s ⊢
      dsimp only at s ⊢
      cases hb : b τ1 with
      | ok f τ2 =>
        rw [hb] at s
        cases f with
        | nx => exact ih s
        | ct => exact ih s
        | bk => exact s
        | rt v => exact s
      | exn c fs xs τ2 => rw [hb] at s; exact s
      | stuck => rw [hb] at s; exact s
@[simp] theorem wp_it {deep : Bool} {c : M T} : (@wp _ (cIt deep c) τ ⟨Pl, E⟩) = (@wp _ c τ ⟨(fun t τ1 => (@wpo _ (itB deep t) ⟨fun xs => Pl xs τ1⟩)), E⟩) := by
  unfold cIt
  rw [wp_bind]
  refine wp_eq fun t τ1 => ?_
  cases itB deep t <;> rfl
@[simp] theorem wp_rng {cl : M (List T)} : (@wp _ (cRng cl) τ ⟨Pl, E⟩) = (@wp _ cl τ ⟨(fun ts τ1 => (@wpo _ (rgB ts) ⟨fun xs => Pl xs τ1⟩)), E⟩) := by
  unfold cRng
  rw [wp_bind]
  refine wp_eq fun t τ1 => ?_
  cases rgB t <;> rfl
@[simp] theorem wp_zipL {cl : M (List T)} : (@wp _ (cZipL cl) τ ⟨Pl, E⟩) = (@wp _ cl τ ⟨(fun ts τ1 => (@wpo _ (zipBL ts) ⟨fun xs => Pl xs τ1⟩)), E⟩) := by
  unfold cZipL
  rw [wp_bind]
  refine wp_eq fun t τ1 => ?_
  cases zipBL t <;> rfl
@[simp] theorem wp_zip {cl : M (List T)} : (@wp _ (cZip cl) τ ⟨Pl, E⟩) = (@wp _ cl τ ⟨(fun ts τ1 => (@wpo _ (zipB ts) ⟨fun xs => Pl xs τ1⟩)), E⟩) := by
  unfold cZip
  rw [wp_bind]
  refine wp_eq fun t τ1 => ?_
  cases zipB t <;> rfl
@[simp] theorem wp_enum {cl : M (List T)} : (@wp _ (cEnum cl) τ ⟨Pl, E⟩) = (@wp _ cl τ ⟨(fun ts τ1 => (@wpo _ (enumB ts) ⟨fun xs => Pl xs τ1⟩)), E⟩) := by
  unfold cEnum
  rw [wp_bind]
  refine wp_eq fun t τ1 => ?_
  cases enumB t <;> rfl
@[simp] theorem wp_yes : (@wp _ cYes τ ⟨Pb, E⟩) = Pb true τ := by
  exact id rfl
@[simp] theorem wp_sl {kf : Bool} {ca : M T} {lo hi : Pt} : (@wp _ (cSl kf ca lo hi) τ ⟨Q, E⟩) = (@wp _ ca τ ⟨(fun x τ1 => (@wp _ lo.run τ1 ⟨(fun l τ2 => (@wp _ hi.run τ2 ⟨(fun h τ3 => (@wpo _ (slB kf x l h) ⟨fun t => Q t τ3⟩)), E⟩)), E⟩)), E⟩) := by
  unfold cSl
  rw [wp_bind]
  refine wp_eq fun _ _ => ?_
  rw [wp_bind]
  refine wp_eq fun _ _ => ?_
  rw [wp_bind]
  refine wp_eq fun _ _ => ?_
  exact wp_opt
@[simp] theorem wp_ptN {Po : Option Int → Sl → Prop} : (@wp _ (Pt.run .no) τ ⟨Po, E⟩) = Po none τ := by
  exact id rfl
@[simp] theorem wp_ptY {c : M T} {Po : Option Int → Sl → Prop} : (@wp _ (Pt.run (.yes c)) τ ⟨Po, E⟩) = (@wp _ c τ ⟨(fun t τ1 => (@wpo _ (oPt t) ⟨fun o => Po o τ1⟩)), E⟩) := by
  unfold Pt.run
  rw [wp_bind]
  refine wp_eq fun _ _ => ?_
  exact wp_opt
theorem lcgo_cons {p : Pa} {ct : M Bool} {ce : M T} {t : T} {ts acc : List T} : cLcGo p ct ce (t :: ts) acc τ = (match p.set t τ with
    | none => .stuck
    | some τ1 => match ct τ1 with
      | .ok true τ2 => match ce τ2 with
        | .ok y τ3 => if small acc.length = true then cLcGo p ct ce ts (acc ++ [y]) τ3 else .stuck
        | _ => .stuck
      | .ok false τ2 => cLcGo p ct ce ts acc τ2
      | _ => .stuck) := by
  conv => lhs; unfold cLcGo
  all_goals
    (cases p.set t τ with
     | none => rfl
     | some τ1 =>
       dsimp only
       cases ct τ1 with
       | ok k τ2 =>
         cases k with
         | false => rfl
         | true =>
           dsimp only
           cases ce τ2 <;> rfl
       | exn c fs xs τ2 => rfl
       | stuck => rfl)
/-- a comprehension by what stands with so many items left and so much made -/
theorem wp_lcgo (I : List T → List T → Sl → Prop) {p : Pa} {ct : M Bool} {ce : M T} {ts acc : List T} (h0 : I ts acc τ)
    (step : ∀ t ts acc τ, I (t :: ts) acc τ → (@wpo _ (p.set t τ) ⟨fun τ1 => (@wp _ ct τ1 ⟨(fun k τ2 => if k = true then (@wp _ ce τ2 ⟨(fun y τ3 => small acc.length = true ∧ I ts (acc ++ [y]) τ3), noE⟩) else I ts acc τ2), noE⟩)⟩))
    (done : ∀ acc τ, I [] acc τ → Q (.lst acc) τ) : (@wp _ (cLcGo p ct ce ts acc) τ ⟨Q, E⟩) := by
  induction ts generalizing τ acc with
  | nil => exact done acc τ h0
  | cons t ts ih =>
    have s := step t ts acc τ h0
    unfold wp
    rw [lcgo_cons]
    cases hs : p.set t τ with
    | none => rw [hs] at s; exact s.elim
    | some τ1 =>
      rw [hs] at s
      dsimp only [wpo] at s ⊢
      unfold wp at s
      cases hc : ct τ1 with
      | exn c fs xs τ2 => rw [hc] at s; exact s.elim
      | stuck => rw [hc] at s; exact s.elim
      | ok k τ2 =>
        rw [hc] at s
        cases k with
        | false =>
          dsimp only at s ⊢
          rw [if_neg (by decide)] at s
          exact ih s
        | true =>
          dsimp only at s ⊢
          rw [if_pos rfl] at s
          cases he : ce τ2 with
          | exn c fs xs τ3 => rw [he] at s; exact s.elim
          | stuck => rw [he] at s; exact s.elim
          | ok y τ3 =>
            rw [he] at s
            dsimp only at s ⊢
            rw [if_pos s.1]
            exact ih s.2
theorem wp_lc {ci : M (List T)} {ks : List Nat} {p : Pa} {ct : M Bool} {ce : M T} : (@wp _ (cLc ci ks p ct ce) τ ⟨Q, E⟩) = (@wp _ ci τ ⟨(fun ts τ1 => (@wp _ (cLcGo p ct ce ts []) τ1 ⟨(fun y τ2 => Q y (keepS τ1 ks τ2)), E⟩)), E⟩) := by
  unfold cLc
  rw [wp_bind]
  refine wp_eq fun ts τ1 => ?_
  unfold wp
  dsimp only
  cases cLcGo p ct ce ts [] τ1 <;> rfl
/-- what is wished is had -/
theorem wp_ok {c : M α} (h : (@wp _ c τ ⟨P, noE⟩)) : ∃ a τ', c τ = .ok a τ' ∧ P a τ' := by
  unfold wp at h
  cases hc : c τ with
  | ok a τ' => rw [hc] at h; exact ⟨a, τ', rfl, h⟩
  | exn c fs xs τ' => rw [hc] at h; exact h.elim
  | stuck => rw [hc] at h; exact h.elim
theorem wpg_ok {r : CR} {P : T → List T → Prop} (h : (@wpg r ⟨P, fun _ _ _ _ => False⟩)) : ∃ t o, r = .ok t o ∧ P t o := by
  unfold wpg at h
  cases r with
  | ok t o => exact ⟨t, o, rfl, h⟩
  | exn c fs xs o => exact h.elim
  | stuck => exact h.elim
theorem wp_mono {c : M α} {P' : α → Sl → Prop} {E' : XP} (h : (@wp _ c τ ⟨P, E⟩)) (k : ∀ a τ, P a τ → P' a τ) (ke : ∀ c fs xs τ, E c fs xs τ → E' c fs xs τ) : (@wp _ c τ ⟨P', E'⟩) := by
  unfold wp at h ⊢
  cases hc : c τ with
  | ok a τ' => rw [hc] at h; exact k _ _ h
  | exn c fs xs τ' => rw [hc] at h; exact ke _ _ _ _ h
  | stuck => rw [hc] at h; exact h.elim
end
@[simp] theorem small_iff {n : Nat} : (small n = true) = (n ≤ 1000000) := by unfold small; simp
@[simp] theorem fits_iff {i : Int} : (fits i = true) = (i.natAbs < 18446744073709551616) := by unfold fits; simp
@[simp] theorem wide_small {i : Int} (h : i.natAbs < 18446744073709551616) : wide i = true := by
  unfold wide
  rw [decide_eq_true_eq]
  have h2 : i.natAbs < 2 ^ 64 := h
  by_cases h0 : i.natAbs = 0
  · rw [h0]; decide
  · have := (Nat.log2_lt h0).mpr h2
    omega
@[simp] theorem r_mulN' {i j : Int} : oMulN (.int i) (.int j) = if (fits i || fits j) = true then some (.int (i * j)) else none := by
  show (if (fits i || fits j) = true then some (T.int (i * j)) else none).bind oChk = _
  split <;> rfl
@[simp] theorem r_mod' {i j : Int} : oMod (.int i) (.int j) = if 0 < j then some (.int (i % j)) else none := by
  exact id rfl
@[simp] theorem r_div' {i j : Int} : oDiv (.int i) (.int j) = if (decide (0 < j) && wide j) = true then some (.int (i / j)) else none := by
  exact id rfl
/-- an item of a list by a number -/
@[simp] theorem r_ix {d : Bool} {xs : List T} {i : Int} : ixB d (.lst xs) (.int i) = atI xs i := by
  exact id rfl
@[simp] theorem atI_lit0 {x : T} {xs : List T} : atI (x :: xs) 0 = some x := by unfold atI ixN; simp
theorem atI_nn {xs : List T} {i : Int} (h : 0 ≤ i) : atI xs i = xs[i.toNat]? := by
  unfold atI ixN
  rw [if_pos h]
  split
  · rfl
  · rename_i h2
    rw [List.getElem?_eq_none (by omega)]
    rfl
@[simp] theorem atI_ofNat {xs : List T} {n : Nat} : atI xs (no_index (OfNat.ofNat n) : Int) = xs[(OfNat.ofNat n : Nat)]? := atI_nn (Int.natCast_nonneg n)
@[simp] theorem atI_one {xs : List T} : atI xs 1 = xs[1]? := atI_nn (by decide)
@[simp] theorem atI_zero {xs : List T} : atI xs 0 = xs[0]? := atI_nn (by decide)
@[simp] theorem atI_cast {xs : List T} {n : Nat} : atI xs (n : Int) = xs[n]? := atI_nn (Int.natCast_nonneg _)
@[simp] theorem ints_nil : intsT [] = [] := by
  exact id rfl
@[simp] theorem ints_cons {n : Int} {ns : List Int} : intsT (n :: ns) = .int n :: intsT ns := by
  exact id rfl
@[simp] theorem ints_len {ns : List Int} : (intsT ns).length = ns.length := by unfold intsT; simp
@[simp] theorem ints_get {ns : List Int} {i : Nat} : (intsT ns)[i]? = (ns[i]?).map .int := by unfold intsT; simp
@[simp] theorem ints_getE {ns : List Int} {i : Nat} {h : i < (intsT ns).length} : (intsT ns)[i]'h = .int (ns[i]'(by rwa [ints_len] at h)) := List.getElem_map ..
@[simp] theorem ints_app {ns ms : List Int} : intsT (ns ++ ms) = intsT ns ++ intsT ms := by unfold intsT; simp
theorem wp_seti {z D d : Nat} {ce : M T} {cp : M (List Nat)} {ci : M T} {τ : Sl} {Pf : Fl → Sl → Prop} {E : XP} : (@wp _ (cSetI z D d ce cp ci) τ ⟨Pf, E⟩) = (@wp _ ce τ ⟨(fun y τ1 => (@wp _ cp τ1 ⟨(fun π τ2 => (@wp _ ci τ2 ⟨(fun i τ3 => (@wp _ (fun τ => mutB π D (d + 1) (gSet i y) z τ) τ3 ⟨(fun _ τ4 => Pf .nx τ4), noE⟩)), noE⟩)), noE⟩)), E⟩) := by
  unfold cSetI
  rw [wp_bind]
  refine wp_eq fun y τ1 => ?_
  unfold wp
  dsimp only
  cases cp τ1 with
  | ok π τ2 =>
    dsimp only
    cases ci τ2 with
    | ok i τ3 =>
      dsimp only
      cases mutB π D (d + 1) (gSet i y) z τ3 <;> rfl
    | exn c fs xs τ3 => rfl
    | stuck => rfl
  | exn c fs xs τ2 => rfl
  | stuck => rfl
@[simp] theorem wp_p0 {τ : Sl} {Pp : List Nat → Sl → Prop} {E : XP} : (@wp _ cP0 τ ⟨Pp, E⟩) = Pp [] τ := by
  exact id rfl
@[simp] theorem wp_mutB {π : List Nat} {D d z : Nat} {g : T → Option (T × T)} {τ : Sl} {Q : T → Sl → Prop} {E : XP} : (@wp _ (fun τ => mutB π D d g z τ) τ ⟨Q, E⟩) = (@wpo _ ((τ[z]?).getD none) ⟨fun t => (@wpo _ (getP π t) ⟨fun s => π.length + d = D ∧ (@wpo _ (g s) ⟨fun p => Q p.1 (τ.set z (some (setP p.2 π t)))⟩)⟩)⟩) := by
  unfold wp mutB
  dsimp only
  cases τ[z]? with
  | none => rfl
  | some o =>
    cases o with
    | none => rfl
    | some t =>
      simp only [Option.getD_some, wpo_some]
      cases getP π t with
      | none => rfl
      | some s =>
        simp only [wpo_some]
        by_cases h : π.length + d = D
        · simp only [h, if_true, true_and]
          cases g s <;> rfl
        · simp only [h, if_false, false_and]
@[simp] theorem wp_mut1 {z D d : Nat} {g : T → T → Option (T × T)} {cp : M (List Nat)} {ce : M T} {τ : Sl} {Q : T → Sl → Prop} {E : XP} : (@wp _ (cMut1 z D d g cp ce) τ ⟨Q, E⟩) = (@wp _ cp τ ⟨(fun π τ1 => (@wp _ ce τ1 ⟨(fun y τ2 => (@wpo _ ((τ2[z]?).getD none) ⟨fun t => (@wpo _ (getP π t) ⟨fun s => π.length + d = D ∧ (@wpo _ (g s y) ⟨fun p => Q p.1 (τ2.set z (some (setP p.2 π t)))⟩)⟩)⟩)), E⟩)), E⟩) := by
  unfold cMut1
  rw [wp_bind]
  refine wp_eq fun π τ1 => ?_
  rw [wp_bind]
  refine wp_eq fun y τ2 => ?_
  exact wp_mutB
def isLst (t : T) : Prop := match t with
  | .lst _ => True
  | _ => False
@[simp] theorem isLst_lst {xs : List T} : isLst (.lst xs) = True := by
  exact id rfl
@[simp] theorem wp_pl {z D d : Nat} {cp : M (List Nat)} {τ : Sl} {P : List Nat → Sl → Prop} {E : XP} : (@wp _ (cPL z D d cp) τ ⟨P, E⟩) = (@wp _ cp τ ⟨(fun π τ1 => (@wpo _ ((τ1[z]?).getD none) ⟨fun t => (@wpo _ (getP π t) ⟨fun s => isLst s ∧ π.length + (d + 1) = D ∧ P π τ1⟩)⟩)), noE⟩) := by
  unfold wp cPL
  cases cp τ with
  | exn c fs xs τ1 => rfl
  | stuck => rfl
  | ok π τ1 =>
    dsimp only
    cases τ1[z]? with
    | none => rfl
    | some o =>
      cases o with
      | none => rfl
      | some t =>
        simp only [Option.getD_some, wpo_some]
        cases getP π t with
        | none => rfl
        | some s =>
          cases s <;> simp only [wpo_some, isLst, false_and, true_and]
          by_cases h : π.length + (d + 1) = D
          · simp only [h, if_true, true_and]
          · simp only [h, if_false, false_and]
theorem wp_noE {α : Type} {c : M α} {τ : Sl} {P : α → Sl → Prop} {E : XP} (h : (@wp _ c τ ⟨P, noE⟩)) : (@wp _ c τ ⟨P, E⟩) := wp_mono h (fun _ _ h => h) fun _ _ _ _ h => h.elim
@[simp] theorem getP_nil {t : T} : getP [] t = some t := by
  exact id rfl
@[simp] theorem setP_nil {s t : T} : setP s [] t = s := by
  exact id rfl
@[simp] theorem r_app {xs : List T} {y : T} : gApp (.lst xs) y = if small xs.length = true then some (.non, .lst (xs ++ [y])) else none := by
  exact id rfl
@[simp] theorem oEq_int {i j : Int} : oEq (.int i) (.int j) = some (.bl (decide (i = j))) := by
  have h : oEq (.int i) (.int j) = some (.bl (i == j)) := by exact id rfl
  rw [h, show (i == j) = decide (i = j) from by by_cases q : i = j <;> simp [q]]
@[simp] theorem oNe_int {i j : Int} : oNe (.int i) (.int j) = some (.bl (decide (i ≠ j))) := by
  have h : oNe (.int i) (.int j) = some (.bl (!(i == j))) := by exact id rfl
  rw [h, show (i == j) = decide (i = j) from by by_cases q : i = j <;> simp [q]]
  simp
@[simp] theorem oEq_bl {i j : Bool} : oEq (.bl i) (.bl j) = some (.bl (i == j)) := by
  have h : oEq (.bl i) (.bl j) = some (.bl (i == j)) := by exact id rfl
  exact h
@[simp] theorem oNe_bl {i j : Bool} : oNe (.bl i) (.bl j) = some (.bl (i != j)) := by
  have h : oNe (.bl i) (.bl j) = some (.bl (!(i == j))) := by exact id rfl
  rw [h]
  cases i <;> cases j <;> rfl
@[simp] theorem oIs_bl {i j : Bool} : oIs (.bl i) (.bl j) = some (.bl (i == j)) := by
  exact id rfl
@[simp] theorem oNot_bl {i : Bool} : oNot (.bl i) = some (.bl (!i)) := by
  exact id rfl
@[simp] theorem isiL {c : String} {xs : List T} : oIsi c (.lst xs) = some (.bl (isN "list" c)) := by
  exact id rfl
@[simp] theorem isiT {c : String} {xs : List T} : oIsi c (.tup xs) = some (.bl (isN "tuple" c)) := by
  exact id rfl
@[simp] theorem isiI {c : String} {i : Int} : oIsi c (.int i) = some (.bl (isN "int" c)) := by
  exact id rfl
@[simp] theorem isiB {c : String} {i : Bool} : oIsi c (.bl i) = some (.bl (isN "bool" c)) := by
  exact id rfl
@[simp] theorem isiS {c : String} {i : Str} : oIsi c (.str i) = some (.bl (isN "str" c)) := by
  exact id rfl
@[simp] theorem isiN {c : String} : oIsi c .non = some (.bl (isN "NoneType" c)) := by
  exact id rfl
@[simp] theorem wpg_okR {t : T} {o : List T} {P : T → List T → Prop} {E : Str → List Str → List T → List T → Prop} : (@wpg (.ok t o) ⟨P, E⟩) = P t o := by
  exact id rfl
@[simp] theorem wpg_exnR {c : Str} {fs : List Str} {xs o : List T} {P : T → List T → Prop} {E : Str → List Str → List T → List T → Prop} : (@wpg (.exn c fs xs o) ⟨P, E⟩) = E c fs xs o := by
  exact id rfl
@[simp] theorem fill_nil {τ : Sl} : AI.fill τ [] [] = some [] := by
  exact id rfl
@[simp] theorem fill_e {τ : Sl} {m : Md} {r : List AI} {t : T} {ts : List T} : AI.fill τ (.e m :: r) (t :: ts) = (AI.fill τ r ts).map (t :: ·) := by
  exact id rfl
@[simp] theorem fill_io {τ : Sl} {i d : Nat} {r : List AI} {t : T} {ts : List T} : AI.fill τ (.io i d :: r) (t :: ts) = ((τ[i]?).getD none).bind fun u => (AI.fill τ r ts).map (u :: ·) := by
  show (match τ[i]? with
    | some (some t) => (AI.fill τ r ts).map (t :: ·)
    | _ => none) = _
  cases τ[i]? with
  | none => rfl
  | some o => cases o <;> rfl
@[simp] theorem slots_nil : AI.slots [] = [] := by
  exact id rfl
@[simp] theorem slots_e {m : Md} {r : List AI} : AI.slots (.e m :: r) = AI.slots r := by
  exact id rfl
@[simp] theorem slots_io {i d : Nat} {r : List AI} : AI.slots (.io i d :: r) = i :: AI.slots r := by
  exact id rfl
@[simp] theorem put_nil {τ : Sl} {ts : List T} : AI.put τ [] ts = τ := by
  cases ts <;> rfl
@[simp] theorem put_nilR {τ : Sl} {is : List Nat} : AI.put τ is [] = τ := by
  cases is <;> rfl
@[simp] theorem put_cons {τ : Sl} {i : Nat} {is : List Nat} {t : T} {ts : List T} : AI.put τ (i :: is) (t :: ts) = AI.put (τ.set i (some t)) is ts := by
  exact id rfl
@[simp] theorem outs_nil {τ : Sl} {i : Nat} : outsOf τ i [] = some [] := by
  exact id rfl
@[simp] theorem outs_fr {τ : Sl} {i : Nat} {r : List PM} : outsOf τ i (.fr :: r) = outsOf τ (i + 1) r := by
  exact id rfl
@[simp] theorem outs_bo {τ : Sl} {i : Nat} {r : List PM} : outsOf τ i (.bo :: r) = outsOf τ (i + 1) r := by
  exact id rfl
@[simp] theorem outs_io {τ : Sl} {i d : Nat} {r : List PM} : outsOf τ i (.io d :: r) = ((τ[i]?).getD none).bind fun t => (outsOf τ (i + 1) r).map (t :: ·) := by
  show (match τ[i]? with
    | some (some t) => (outsOf τ (i + 1) r).map (t :: ·)
    | _ => none) = _
  cases τ[i]? with
  | none => rfl
  | some o => cases o <;> rfl
@[simp] theorem pa_nm {i : Nat} {t : T} {τ : Sl} : Pa.set (.nm i) t τ = some (τ.set i (some t)) := by
  simp [Pa.set]
@[simp] theorem pa_tup {ps : List Pa} {xs : List T} {τ : Sl} : Pa.set (.tup ps) (.tup xs) τ = Pa.setL ps xs τ := by
  simp [Pa.set]
@[simp] theorem pa_lnil {τ : Sl} : Pa.setL [] [] τ = some τ := by
  simp [Pa.setL]
@[simp] theorem pa_lcons {p : Pa} {ps : List Pa} {x : T} {xs : List T} {τ : Sl} : Pa.setL (p :: ps) (x :: xs) τ = (p.set x τ).bind fun τ' => Pa.setL ps xs τ' := by
  simp [Pa.setL]
theorem wp_lcgo_nil {p : Pa} {ct : M Bool} {ce : M T} {acc : List T} {τ : Sl} {Q : T → Sl → Prop} {E : XP} : (@wp _ (cLcGo p ct ce [] acc) τ ⟨Q, E⟩) = Q (.lst acc) τ := by
  exact id rfl
theorem wp_lcgo_cons {p : Pa} {ct : M Bool} {ce : M T} {t : T} {ts acc : List T} {τ : Sl} {Q : T → Sl → Prop} {E : XP} : (@wp _ (cLcGo p ct ce (t :: ts) acc) τ ⟨Q, E⟩) = (@wpo _ (p.set t τ) ⟨fun τ1 => (@wp _ ct τ1 ⟨(fun k τ2 => if k = true then (@wp _ ce τ2 ⟨(fun y τ3 => small acc.length = true ∧ (@wp _ (cLcGo p ct ce ts (acc ++ [y])) τ3 ⟨Q, E⟩)), noE⟩) else (@wp _ (cLcGo p ct ce ts acc) τ2 ⟨Q, E⟩)), noE⟩)⟩) := by
  unfold wp
  rw [lcgo_cons]
  cases p.set t τ with
  | none => rfl
  | some τ1 =>
    dsimp only [wpo]
    cases ct τ1 with
    | exn c fs xs τ2 => rfl
    | stuck => rfl
    | ok k τ2 =>
      cases k with
      | false => dsimp only; rw [if_neg (by decide)]
      | true =>
        dsimp only
        rw [if_pos rfl]
        cases ce τ2 with
        | exn c fs xs τ3 => rfl
        | stuck => rfl
        | ok y τ3 =>
          dsimp only
          by_cases h : small acc.length = true
          · rw [if_pos h]; exact propext ⟨fun q => ⟨h, q⟩, fun q => q.2⟩
          · rw [if_neg h]; exact propext ⟨fun q => q.elim, fun q => h q.1⟩
end TL

/-! TL29: arguments under a slot that is lent; own errors as the head finds them; try .. except -/
namespace TL
open PySem PySem.Spec PyProof.Rows L2
section
variable {X : Cx} {W : WX} {L : Lv} {Γh Γl Γ Γ1 Γ2 Γ' : List Md} {es : List Expr} {cl : M (List T)} {ms : List Md} {z d : Nat}
theorem vrl_unlend {K : PySem.W.Frag} {mg : Str → Option Value} {B : Nat → Addr → Prop} {O : List Addr} {F : Addr → Prop} {H : Hp} : ∀ {ms : List Md} {vs : List V} {ts : List T}, ms.all (fun m => m.below L) = true → VRL K mg (lendB B L O) (L.up z) F H ms vs ts → VRL K mg B L F H ms vs ts
  | [], _, _, _, h => h
  | m :: ms, _, _, hm, h => by
    obtain ⟨v, r, t, ts', rfl, rfl, ho, hl, q, h⟩ := h
    rw [List.all_cons, Bool.and_eq_true] at hm
    have hmu : m.lv ≤ L := by
      have hm1 := hm.1
      cases m with
      | bk l d => exact of_decide_eq_true hm1
      | bo l => exact of_decide_eq_true hm1
      | _ => exact Nat.zero_le _
    exact ⟨v, r, t, ts', rfl, rfl, ho, hmu, vr_unlend hmu q, vrl_unlend hm.2 h⟩
theorem ax_lend (h : AX X W (L.up z) Γl (Γ.set z (.bk (L.n + 1) d)) es cl ms Γ1) (ez : Γ[z]? = some (.ow d)) (hl : Γ1.length = Γ.length) (hm : ms.all (fun m => m.below L) = true) (hw : wkG Γh (backG L z d Γl) = true) (hlv : Γh.all (fun m => decide (m.lv ≤ L)) = true) (hll : Γl.length = Γ.length) :
    AX X W L Γh Γ es cl ms (backG L z d Γ1) := by
  refine PA.imp h fun σ H Q h => ?_
  obtain ⟨B, fx, F, Os, τ, S, p⟩ := h
  rcases S.slot z _ ez with ⟨q, _⟩ | ⟨v, t, e1, e2, r⟩
  · cases q
  · refine ⟨_, _, F, _, τ, S.lend ez e1 e2, ?_⟩
    cases hc : cl τ with
    | ok x τ' =>
      rw [hc] at p
      intro F' Os' vs H' s S' r'
      obtain ⟨S2, s2⟩ := S.unlend ez e1 e2 s S' hl
      exact p F' _ vs H' s2 S2 (vrl_unlend hm r')
    | exn c fs xs τ' =>
      rw [hc] at p
      intro F' Os' H' cls dd s S' r'
      obtain ⟨S2, s2⟩ := S.unlend ez e1 e2 s S' hll
      obtain ⟨F3, s3, S3⟩ := S2.weak hw hlv
      exact p F3 _ H' cls dd (s2.trans s3) S3 r'
    | stuck => rw [hc] at p; exact p.elim
theorem ax_g (h : AX X W L Γh Γ es cl ms Γ1) (q : Γ1 = Γ') : AX X W L Γh Γ es cl ms Γ' := q ▸ h
end

/-! ### own errors -/
def bmVE : List Value := [.type "ValueError", .type "Exception", .type "BaseException", .type "object"]
def excB (K : PySem.W.Frag) (x : Str) : Bool := match PySem.W.nsIn K mainGlobals x with
  | some (some (.ref C)) => PySem.W.excIn K C bmVE "ValueError.__new__" && PySem.W.keepIn K (.ref C) && (PySem.W.subIn K (.ref C) (.type "BaseException") == some true) && (PySem.W.typeIn K (.ref C) == some (.type "type"))
  | _ => false
section
variable {K : PySem.W.Frag} {mg : Str → Option Value}
theorem excB_ok {h : Heap} {x : Str} (X : K.In h) (G : h.Ns mainGlobals mg) (c : excB K x = true) : Exc K mg x := by
  unfold excB at c
  split at c
  · rename_i C e
    simp only [Bool.and_eq_true, beq_iff_eq] at c
    exact ⟨C, bmVE, "ValueError", "ValueError.__new__", "ValueError.__init__", PySem.F.excBase_ValueError, c.1.1.1, PySem.W.mg_of X G e, c.1.1.2, c.1.2, c.2⟩
  · cases c
/-- except x: which own errors it takes -/
def TryF (K : PySem.W.Frag) (mg : Str → Option Value) (x : Str) (cf : List (Str × Bool)) : Prop := ∃ hv, mg x = some hv ∧ ∀ p ∈ cf, ∃ C, mg p.1 = some (.ref C) ∧ PySem.W.exmOne K (.ref C) hv = some p.2
def tryB (K : PySem.W.Frag) (x : Str) (cf : List (Str × Bool)) : Bool := match PySem.W.nsIn K mainGlobals x with
  | some (some hv) => cf.all fun p => match PySem.W.nsIn K mainGlobals p.1 with
    | some (some (.ref C)) => decide (PySem.W.exmOne K (.ref C) hv = some p.2)
    | _ => false
  | _ => false
theorem tryB_ok {h : Heap} {x : Str} {cf : List (Str × Bool)} (X : K.In h) (G : h.Ns mainGlobals mg) (c : tryB K x cf = true) : TryF K mg x cf := by
  unfold tryB at c
  split at c
  · rename_i hv e
    refine ⟨hv, PySem.W.mg_of X G e, fun p hp => ?_⟩
    have := List.all_eq_true.mp c p hp
    split at this
    · rename_i C e2
      exact ⟨C, PySem.W.mg_of X G e2, of_decide_eq_true this⟩
    · cases this
  · cases c
end

/-! ### try: .. except x: .. -/
def cTry (cf : List (Str × Bool)) (cb ch : M Fl) : M Fl := fun τ => match cb τ with
  | .exn c fs xs τ' => match cf.lookup c with
    | some true => match ch τ' with
      | .ok f τ2 => .ok f τ2
      | _ => .stuck
    | some false => .exn c fs xs τ'
    | none => .stuck
  | .ok f τ' => .ok f τ'
  | .stuck => .stuck
section
variable {X : Cx} {W : WX} {L : Lv} {Γh Γh0 Γx Γ Γ' : List Md} {n : En} {body suite : List Stmt} {b₀ : Stmt} {cb ch : M Fl} {x : Str} {np pos pos' : Pos} {cf : List (Str × Bool)}
theorem s_try (hs : X.stack = X.env :: X.outer) (hf : X.env.frame = some X.env.locals) (hg : Gl X x) (q : NmOk x) (T : TryF X.K X.mg x cf) (tk : Takes X W)
    (hb : ∀ (W : WX) (pn : List (Addr × Obj)) (xe : Value → Shared → Prop), Takes (X.tr pn xe) W → PassesOwn (model X.prog X.w) X.A X.env xe → SX (X.tr pn xe) W L Γx n Γ body cb Γ')
    (hsu : ∀ (a : Addr) (pn : List (Addr × Obj)), SX (X.suite a pn) W0 L Γh0 n Γx (b₀ :: suite) ch Γ')
    (w : wkG Γh Γx = true) (lv : Γh.all (fun m => decide (m.lv ≤ L)) = true) :
    SX1 X W L Γh n Γ (.Try body [.ExceptHandler (some (.Name x np)) none (b₀ :: suite) pos'] [] [] pos) (cTry cf cb ch) Γ' := by
  obtain ⟨hv, hm, hcf⟩ := T
  refine PS.imp (ps_try_only (c := hv) (ts := fun _ _ _ => RS X.K X.mg W0 L Γh0 n Γx ch Γ') (tb := fun W => RS X.K X.mg W L Γx n Γ cb Γ') hs hf ⟨hg, q.1, .inl hm⟩ tk hb fun a oe cls d pn _ _ => hsu a _) fun D σ H h => ?_
  obtain ⟨B, fx, F, Os, τ, S, p⟩ := h
  refine ⟨B, fx, F, Os, τ, S, ?_⟩
  unfold cTry at p
  cases hc : cb τ with
  | stuck => rw [hc] at p; exact p.elim
  | ok f τ' =>
    rw [hc] at p
    cases f with
    | nx => exact p
    | rt t => exact p
    | bk => exact p
    | ct => exact p
  | exn c fs xs τ' =>
    rw [hc] at p
    dsimp only at p
    intro σ' F' Os' H' cls d s' S' r
    obtain ⟨⟨C, rfl, hmc⟩, _⟩ := id r
    cases hl : cf.lookup c with
    | none => rw [hl] at p; exact p.elim
    | some b =>
      obtain ⟨C', hmc', hex⟩ := hcf (c, b) (look_mem' hl)
      rw [hmc] at hmc'
      cases hmc'
      refine ⟨b, hex, fun hb a ha => ?_, fun hb => ?_⟩
      · subst hb
        rw [hl] at p
        dsimp only at p
        refine ⟨B, fx, F', Os', τ', S', ?_⟩
        cases hch : ch τ' with
        | ok f τ2 =>
          rw [hch] at p
          have p2 := postS_later p s'
          cases f with
          | nx => exact p2
          | rt t => exact p2
          | bk => exact p2
          | ct => exact p2
        | exn c fs xs τ2 => rw [hch] at p; exact p.elim
        | stuck => rw [hch] at p; exact p.elim
      · subst hb
        rw [hl] at p
        dsimp only at p
        obtain ⟨F3, Os3, s3, S3⟩ := HOut.of (X := X) w lv B fx F' Os' H' σ' τ' S'
        exact p σ' F3 Os3 H' (.ref C) d (s'.trans s3) S3 r
where
  look_mem' {c : Str} {b : Bool} : ∀ {cf : List (Str × Bool)}, cf.lookup c = some b → (c, b) ∈ cf := fun h => PySem.mem_of_lookup h
end
section
variable {τ : Sl} {Pf : Fl → Sl → Prop} {E : XP}
@[simp] theorem wp_try {cf : List (Str × Bool)} {cb ch : M Fl} : (@wp _ (cTry cf cb ch) τ ⟨Pf, E⟩) = (@wp _ cb τ ⟨Pf, (fun c fs xs τ' => (@wpo _ (cf.lookup c) ⟨fun b => if b = true then (@wp _ ch τ' ⟨Pf, noE⟩) else E c fs xs τ'⟩))⟩) := by
  unfold wp cTry
  cases cb τ with
  | ok f τ' => rfl
  | stuck => rfl
  | exn c fs xs τ' =>
    dsimp only
    cases cf.lookup c with
    | none => rfl
    | some b =>
      cases b with
      | false => rfl
      | true =>
        dsimp only [wpo]
        cases ch τ' <;> rfl
end
end TL

/-! TL30: the field of 32 elements, polynomials over it: plain mathematics; lists of numbers as trees -/
namespace TL
open PySem L2
def pw (i : Nat) : Nat := Nat.mod (Nat.shiftRight 26123046934389750782758618732681130701236736065 (5 * i)) 32
def ex (a : Nat) : Nat := Nat.mod (Nat.shiftRight 719976087585702537242947323940304841317326324736 (5 * a)) 32
def tm (a b : Nat) : Nat := bif (Nat.beq a 0 || Nat.beq b 0) then 0 else pw (Nat.mod (ex a + ex b) 31)
def iv (a : Nat) : Nat := pw (Nat.mod (31 - ex a) 31)
def xr (a b : Nat) : Nat := Nat.xor a b
theorem all1 {f : Nat → Bool} (h : (List.range 32).all f = true) (a : Nat) (ha : a < 32) : f a = true := List.all_eq_true.mp h a (List.mem_range.mpr ha)
theorem all2 {f : Nat → Nat → Bool} (h : ((List.range 32).all fun a => (List.range 32).all fun b => f a b) = true) (a b : Nat) (ha : a < 32) (hb : b < 32) : f a b = true := all1 (all1 h a ha) b hb
theorem all3 {f : Nat → Nat → Nat → Bool} (h : ((List.range 32).all fun a => (List.range 32).all fun b => (List.range 32).all fun c => f a b c) = true) (a b c : Nat) (ha : a < 32) (hb : b < 32) (hc : c < 32) : f a b c = true := all1 (all2 h a b ha hb) c hc
theorem xr_lt {a b : Nat} (ha : a < 32) (hb : b < 32) : xr a b < 32 := Nat.xor_lt_two_pow (n := 5) ha hb
theorem xr_comm (a b : Nat) : xr a b = xr b a := Nat.xor_comm a b
theorem xr_assoc (a b c : Nat) : xr (xr a b) c = xr a (xr b c) := Nat.xor_assoc a b c
theorem xr_self (a : Nat) : xr a a = 0 := Nat.xor_self a
theorem xr_zero (a : Nat) : xr a 0 = a := Nat.xor_zero a
theorem tm_lt {a b : Nat} (ha : a < 32) (hb : b < 32) : tm a b < 32 := Nat.le_of_ble_eq_true (all2 (f := fun a b => Nat.ble (tm a b + 1) 32) (by kernel_rfl) a b ha hb)
theorem tm_comm {a b : Nat} (ha : a < 32) (hb : b < 32) : tm a b = tm b a := Nat.eq_of_beq_eq_true (all2 (f := fun a b => Nat.beq (tm a b) (tm b a)) (by kernel_rfl) a b ha hb)
theorem tm_one {a : Nat} (ha : a < 32) : tm a 1 = a := Nat.eq_of_beq_eq_true (all1 (f := fun a => Nat.beq (tm a 1) a) (by kernel_rfl) a ha)
theorem tm_zero {a : Nat} (ha : a < 32) : tm a 0 = 0 := Nat.eq_of_beq_eq_true (all1 (f := fun a => Nat.beq (tm a 0) 0) (by kernel_rfl) a ha)
theorem tm_assoc {a b c : Nat} (ha : a < 32) (hb : b < 32) (hc : c < 32) : tm (tm a b) c = tm a (tm b c) := Nat.eq_of_beq_eq_true (all3 (f := fun a b c => Nat.beq (tm (tm a b) c) (tm a (tm b c))) (by kernel_rfl) a b c ha hb hc)
theorem tm_dist {a b c : Nat} (ha : a < 32) (hb : b < 32) (hc : c < 32) : tm a (xr b c) = xr (tm a b) (tm a c) := Nat.eq_of_beq_eq_true (all3 (f := fun a b c => Nat.beq (tm a (xr b c)) (xr (tm a b) (tm a c))) (by kernel_rfl) a b c ha hb hc)
theorem iv_lt {a : Nat} (ha : a < 32) : iv a < 32 := Nat.le_of_ble_eq_true (all1 (f := fun a => Nat.ble (iv a + 1) 32) (by kernel_rfl) a ha)
theorem tm_iv {a : Nat} (ha : a < 32) (h : a ≠ 0) : tm a (iv a) = 1 := by
  have := all1 (f := fun a => Nat.beq a 0 || Nat.beq (tm a (iv a)) 1) (by kernel_rfl) a ha
  rw [Bool.or_eq_true] at this
  exact this.elim (fun z => absurd (Nat.eq_of_beq_eq_true z) h) Nat.eq_of_beq_eq_true
theorem iv_ne {a : Nat} (ha : a < 32) (h : a ≠ 0) : iv a ≠ 0 := fun z => by
  have := tm_iv ha h
  rw [z, tm_zero ha] at this
  cases this
theorem iv_iv {a : Nat} (ha : a < 32) (h : a ≠ 0) : iv (iv a) = a := by
  have := all1 (f := fun a => Nat.beq a 0 || Nat.beq (iv (iv a)) a) (by kernel_rfl) a ha
  rw [Bool.or_eq_true] at this
  exact this.elim (fun z => absurd (Nat.eq_of_beq_eq_true z) h) Nat.eq_of_beq_eq_true
theorem tm_cancel {a b : Nat} (ha : a < 32) (hb : b < 32) (h : b ≠ 0) : tm (tm a b) (iv b) = a := by
  rw [tm_assoc ha hb (iv_lt hb), tm_iv hb h, tm_one ha]
theorem xr_left (a b c : Nat) : xr a (xr b c) = xr b (xr a c) := by rw [← xr_assoc, xr_comm a b, xr_assoc]
theorem zero_xr (a : Nat) : xr 0 a = a := Nat.zero_xor a
theorem zero_tm {a : Nat} (ha : a < 32) : tm 0 a = 0 := by rw [tm_comm (by decide) ha, tm_zero ha]
def Els (xs : List Nat) : Prop := ∀ x ∈ xs, x < 32
def cf (xs : List Nat) (k : Nat) : Nat := xs.getD k 0
theorem cf_lt {xs : List Nat} (h : Els xs) (k : Nat) : cf xs k < 32 := by
  unfold cf
  rw [List.getD_eq_getElem?_getD]
  cases e : xs[k]? with
  | none => decide
  | some x => exact h x (List.mem_of_getElem? e)
theorem cf_of {xs : List Nat} {k : Nat} (h : k < xs.length) : xs[k]? = some (cf xs k) := by
  unfold cf
  rw [List.getD_eq_getElem?_getD, List.getElem?_eq_getElem h]
  rfl
theorem cf_ge {xs : List Nat} {k : Nat} (h : xs.length ≤ k) : cf xs k = 0 := by
  unfold cf
  rw [List.getD_eq_getElem?_getD, List.getElem?_eq_none h]
  rfl
theorem cf_nil (k : Nat) : cf [] k = 0 := cf_ge (Nat.zero_le _)
theorem cf_set {xs : List Nat} {i x k : Nat} (h : i < xs.length) : cf (xs.set i x) k = if i = k then x else cf xs k := by
  unfold cf
  rw [List.getD_eq_getElem?_getD, List.getD_eq_getElem?_getD, List.getElem?_set]
  by_cases e : i = k
  · rw [if_pos e, if_pos e, if_pos h]; rfl
  · rw [if_neg e, if_neg e]
theorem els_set {xs : List Nat} {i x : Nat} (h : Els xs) (hx : x < 32) : Els (xs.set i x) := fun y hy => by
  rcases List.mem_or_eq_of_mem_set hy with q | q
  · exact h y q
  · rw [q]; exact hx
theorem cf_rep (n k : Nat) : cf (List.replicate n 0) k = 0 := by
  by_cases h : k < n
  · unfold cf
    rw [List.getD_eq_getElem?_getD, List.getElem?_replicate, if_pos h]
    rfl
  · exact cf_ge (by simp; omega)
theorem els_rep (n : Nat) : Els (List.replicate n 0) := fun x hx => by rw [(List.mem_replicate.mp hx).2]; decide
theorem list_ext {xs ys : List Nat} (hl : xs.length = ys.length) (h : ∀ k, cf xs k = cf ys k) : xs = ys := by
  apply List.ext_getElem? 
  intro k
  by_cases hk : k < xs.length
  · rw [cf_of hk, cf_of (hl ▸ hk), h k]
  · rw [List.getElem?_eq_none (by omega), List.getElem?_eq_none (by omega)]
/-! no 0 at the end -/
def tlen (xs : List Nat) : Nat → Nat
  | 0 => 0
  | n + 1 => if cf xs n = 0 then tlen xs n else n + 1
def trim (xs : List Nat) : List Nat := xs.take (tlen xs xs.length)
theorem tlen_le (xs : List Nat) : ∀ n, tlen xs n ≤ n
  | 0 => Nat.le_refl _
  | n + 1 => by
    unfold tlen
    split
    · exact Nat.le_succ_of_le (tlen_le xs n)
    · exact Nat.le_refl _
theorem tlen_zero (xs : List Nat) : ∀ n k, tlen xs n ≤ k → k < n → cf xs k = 0
  | 0, k, _, h => absurd h (Nat.not_lt_zero _)
  | n + 1, k, h, h2 => by
    unfold tlen at h
    split at h
    · rename_i e
      by_cases q : k = n
      · rw [q]; exact e
      · exact tlen_zero xs n k h (by omega)
    · omega
theorem tlen_last (xs : List Nat) : ∀ n, tlen xs n = 0 ∨ cf xs (tlen xs n - 1) ≠ 0
  | 0 => .inl rfl
  | n + 1 => by
    unfold tlen
    split
    · exact tlen_last xs n
    · rename_i e; exact .inr e
theorem tlen_bound (xs : List Nat) (m : Nat) (h : ∀ k, m ≤ k → cf xs k = 0) : ∀ n, tlen xs n ≤ m
  | 0 => Nat.zero_le _
  | n + 1 => by
    unfold tlen
    split
    · exact tlen_bound xs m h n
    · rename_i e
      by_cases q : m ≤ n
      · exact absurd (h n q) e
      · omega
theorem trim_len (xs : List Nat) : (trim xs).length = tlen xs xs.length := by
  unfold trim
  rw [List.length_take]
  exact Nat.min_eq_left (tlen_le xs _)
theorem cf_trim (xs : List Nat) (k : Nat) : cf (trim xs) k = cf xs k := by
  by_cases h : k < tlen xs xs.length
  · unfold trim cf
    rw [List.getD_eq_getElem?_getD, List.getD_eq_getElem?_getD, List.getElem?_take, if_pos h]
  · rw [cf_ge (by rw [trim_len]; omega)]
    by_cases h2 : k < xs.length
    · exact (tlen_zero xs _ k (by omega) h2).symm
    · exact (cf_ge (by omega)).symm
theorem els_trim {xs : List Nat} (h : Els xs) : Els (trim xs) := fun x hx => h x (List.mem_of_mem_take hx)
def Tr (xs : List Nat) : Prop := xs = [] ∨ cf xs (xs.length - 1) ≠ 0
theorem tr_trim (xs : List Nat) : Tr (trim xs) := by
  rcases tlen_last xs xs.length with h | h
  · left
    have := trim_len xs
    rw [h] at this
    exact List.eq_nil_of_length_eq_zero this
  · right
    rw [trim_len, cf_trim]
    exact h
theorem tr_ext {xs ys : List Nat} (hx : Tr xs) (hy : Tr ys) (h : ∀ k, cf xs k = cf ys k) : xs = ys := by
  have key : ∀ {xs ys : List Nat}, Tr ys → (∀ k, cf xs k = cf ys k) → ys.length ≤ xs.length := fun {xs ys} hy h => by
    rcases hy with rfl | q
    · exact Nat.zero_le _
    · apply Nat.le_of_not_lt
      intro z
      exact q (by rw [← h]; exact cf_ge (by omega))
  exact list_ext (Nat.le_antisymm (key hx fun k => (h k).symm) (key hy h)) h
theorem trim_ext {xs ys : List Nat} (h : ∀ k, cf xs k = cf ys k) : trim xs = trim ys := tr_ext (tr_trim _) (tr_trim _) fun k => by rw [cf_trim, cf_trim, h]
theorem trim_id {xs : List Nat} (h : Tr xs) : trim xs = xs := tr_ext (tr_trim _) h fun k => cf_trim _ _
theorem trim_trim (xs : List Nat) : trim (trim xs) = trim xs := trim_id (tr_trim _)
theorem trim_zero {xs : List Nat} (h : ∀ k, cf xs k = 0) : trim xs = [] := by
  have : trim xs = trim [] := trim_ext fun k => by rw [h, cf_nil]
  rw [this]
  rfl
/-! sums -/
def xsum (f : Nat → Nat) : Nat → Nat
  | 0 => 0
  | n + 1 => xr (xsum f n) (f n)
theorem xsum_congr {f g : Nat → Nat} : ∀ {n}, (∀ i, i < n → f i = g i) → xsum f n = xsum g n
  | 0, _ => rfl
  | n + 1, h => by
    unfold xsum
    rw [xsum_congr (fun i hi => h i (by omega)), h n (by omega)]
theorem xsum_cut {f : Nat → Nat} {n : Nat} : ∀ {m}, n ≤ m → (∀ i, n ≤ i → f i = 0) → xsum f m = xsum f n
  | 0, h, _ => by rw [Nat.le_zero.mp h]
  | m + 1, h, h0 => by
    by_cases e : n = m + 1
    · rw [e]
    · show xr (xsum f m) (f m) = _
      rw [xsum_cut (by omega) h0, h0 m (by omega), xr_zero]
theorem xsum_upd {f : Nat → Nat} {i x : Nat} (h0 : f i = 0) : ∀ {n}, i < n → xsum (fun j => if j = i then x else f j) n = xr (xsum f n) x
  | 0, h => absurd h (Nat.not_lt_zero _)
  | n + 1, h => by
    show xr (xsum _ n) (if n = i then x else f n) = xr (xr (xsum f n) (f n)) x
    by_cases e : n = i
    · subst e
      rw [if_pos rfl, h0, xr_zero]
      rw [xsum_congr (g := f) fun j hj => if_neg (by omega)]
    · rw [if_neg e, xsum_upd h0 (by omega), xr_assoc, xr_assoc, xr_comm x]
def pt (q s : List Nat) (k i : Nat) : Nat := if i ≤ k then tm (cf q i) (cf s (k - i)) else 0
def pm (q s : List Nat) (k : Nat) : Nat := xsum (pt q s k) q.length
theorem pt_zero {q s : List Nat} (hs : Els s) {k i : Nat} (h : cf q i = 0) : pt q s k i = 0 := by
  unfold pt
  split
  · rw [h]; exact zero_tm (cf_lt hs _)
  · rfl
theorem pm_trim {q s : List Nat} (hs : Els s) (k : Nat) : pm (trim q) s k = pm q s k := by
  unfold pm
  have e : xsum (pt (trim q) s k) (trim q).length = xsum (pt q s k) (trim q).length := xsum_congr fun i _ => by unfold pt; rw [cf_trim]
  rw [e, trim_len]
  exact (xsum_cut (tlen_le q _) fun i hi => pt_zero hs (by
    by_cases h : i < q.length
    · exact tlen_zero q _ i hi h
    · exact cf_ge (by omega))).symm
theorem pm_set {q s : List Nat} (hs : Els s) {i x k : Nat} (hi : i < q.length) (h0 : cf q i = 0) : pm (q.set i x) s k = xr (pm q s k) (if i ≤ k then tm x (cf s (k - i)) else 0) := by
  unfold pm
  rw [List.length_set, ← xsum_upd (pt_zero hs h0) hi]
  refine xsum_congr fun j _ => ?_
  unfold pt
  rw [cf_set hi]
  by_cases e : j = i
  · subst e; rw [if_pos rfl, if_pos rfl]
  · rw [if_neg (show ¬ i = j from fun z => e z.symm), if_neg e]
/-! lists of numbers as trees -/
def natsT (xs : List Nat) : List T := xs.map fun (n : Nat) => T.int (n : Int)
theorem natsT_ints (xs : List Nat) : natsT xs = intsT (xs.map Int.ofNat) := by unfold natsT intsT; rw [List.map_map]; rfl
@[simp] theorem nats_nil : natsT [] = [] := by
  exact id rfl
@[simp] theorem nats_cons {n : Nat} {ns : List Nat} : natsT (n :: ns) = .int (n : Int) :: natsT ns := by
  exact id rfl
@[simp] theorem nats_len {ns : List Nat} : (natsT ns).length = ns.length := by unfold natsT; simp
theorem nats_get {ns : List Nat} {i : Nat} (h : i < ns.length) : (natsT ns)[i]? = some (.int (cf ns i : Nat)) := by
  unfold natsT
  rw [List.getElem?_map, cf_of h]
  rfl
theorem nats_at {ns : List Nat} {i : Nat} (h : i < ns.length) : atI (natsT ns) (i : Int) = some (.int (cf ns i : Nat)) := by
  rw [atI_nn (Int.natCast_nonneg _)]
  exact nats_get h
theorem nats_app {ns ms : List Nat} : natsT (ns ++ ms) = natsT ns ++ natsT ms := by unfold natsT; simp
theorem nats_set {ns : List Nat} {i x : Nat} : (natsT ns).set i (.int (x : Int)) = natsT (ns.set i x) := by unfold natsT; rw [List.map_set]
theorem nats_take {ns : List Nat} {n : Nat} : (natsT ns).take n = natsT (ns.take n) := by unfold natsT; rw [List.map_take]
theorem nats_drop {ns : List Nat} {n : Nat} : (natsT ns).drop n = natsT (ns.drop n) := by unfold natsT; rw [List.map_drop]
theorem nats_rep {n : Nat} : List.replicate n (.int 0) = natsT (List.replicate n 0) := by unfold natsT; rw [List.map_replicate]; rfl
theorem nats_inj : ∀ {xs ys : List Nat}, natsT xs = natsT ys → xs = ys
  | [], [], _ => rfl
  | [], _ :: _, h => by cases h
  | _ :: _, [], h => by cases h
  | x :: xs, y :: ys, h => by
    rw [nats_cons, nats_cons] at h
    injection h with h1 h2
    injection h1 with h1
    rw [Int.ofNat.inj h1, nats_inj h2]
/-- a while by a measure -/
theorem wp_whileG {tc : M Bool} {b : M Fl} {Pf : Fl → Sl → Prop} {E : XP} (I : Nat → Sl → Prop) (step : ∀ m τ, I m τ → (@wp _ tc τ ⟨(fun k τ1 => if k = true then (@wp _ b τ1 ⟨(fun f τ2 => match f with
      | .nx => ∃ m', m' < m ∧ I m' τ2
      | .ct => ∃ m', m' < m ∧ I m' τ2
      | .bk => Pf .nx τ2
      | .rt v => Pf (.rt v) τ2), E⟩) else Pf .nx τ1), E⟩)) : ∀ k m τ, m < k → I m τ → (@wp _ (cWhile tc b k) τ ⟨Pf, E⟩)
  | 0, m, τ, h, _ => absurd h (Nat.not_lt_zero _)
  | k + 1, m, τ, h, i => by
    have s := step m τ i
    unfold cWhile
    rw [wp_bind]
    refine wp_mono s (fun t τ1 q => ?_) fun _ _ _ _ h => h
    by_cases ht : t = true
    · rw [if_pos ht] at q ⊢
      unfold wp at q ⊢
      dsimp only at q ⊢
      cases hb : b τ1 with
      | ok f τ2 =>
        rw [hb] at q
        cases f with
        | nx =>
          obtain ⟨m', h', i'⟩ := q
          exact wp_whileG I step k m' τ2 (by omega) i'
        | ct =>
          obtain ⟨m', h', i'⟩ := q
          exact wp_whileG I step k m' τ2 (by omega) i'
        | bk => exact q
        | rt v => exact q
      | exn c fs xs τ2 => rw [hb] at q; exact q
      | stuck => rw [hb] at q; exact q
    · rw [if_neg ht] at q ⊢
      exact q
/-! loops over ranges and lists by their place -/
theorem rgB1 {n : Nat} (h : n < 4611686018427387904) : rgB [.int (n : Int)] = some (rngT 0 1 n) := by
  have e : rgB [.int (n : Int)] = if bnd62 (n : Int) = true then some (rngT 0 1 (n : Int).toNat) else none := rfl
  rw [e, if_pos (by unfold bnd62; simp; omega)]
  rfl
section
variable {τ : Sl} {Pf : Fl → Sl → Prop} {Q : T → Sl → Prop} {E : XP}
/-- a loop over items that are told by their place -/
theorem wp_loopF (f : Nat → T) (I : Nat → Sl → Prop) {p : Pa} {b : M Fl} {n : Nat} {ts : List T} (hts : ts = (List.range n).map f) (h0 : I 0 τ)
    (step : ∀ i τ, i < n → I i τ → (@wpo _ (p.set (f i) τ) ⟨fun τ1 => (@wp _ b τ1 ⟨(fun fl τ2 => match fl with
      | .nx => I (i + 1) τ2
      | .ct => I (i + 1) τ2
      | .bk => Pf .nx τ2
      | .rt v => Pf (.rt v) τ2), E⟩)⟩)) (done : ∀ τ, I n τ → Pf .nx τ) : (@wp _ (cForGo p b ts) τ ⟨Pf, E⟩) := by
  subst hts
  refine wp_loop (fun us τ => ∃ i, i ≤ n ∧ us = (List.range' i (n - i)).map f ∧ I i τ) ⟨0, Nat.zero_le _, by rw [List.range_eq_range']; rfl, h0⟩ ?_ ?_
  · rintro t us τ ⟨i, hi, e, h⟩
    have hlt : i < n := by
      apply Nat.lt_of_le_of_ne hi
      intro z
      rw [z, Nat.sub_self] at e
      cases e
    rw [show n - i = (n - i - 1) + 1 by omega, List.range'_succ] at e
    injection e with e1 e2
    subst e1
    have s := step i τ hlt h
    cases hs : p.set (f i) τ with
    | none => rw [hs] at s; exact s
    | some τ1 =>
      rw [hs] at s
      refine wp_mono (E := E) (E' := E) s (fun fl τ2 q => ?_) fun _ _ _ _ h => h
      have w : ∀ {τ2}, I (i + 1) τ2 → ∃ j, j ≤ n ∧ us = (List.range' j (n - j)).map f ∧ I j τ2 := fun {τ2} q => ⟨i + 1, hlt, by rw [e2, show n - i - 1 = n - (i + 1) by omega], q⟩
      cases fl with
      | nx => exact w q
      | ct => exact w q
      | bk => exact q
      | rt v => exact q
  · rintro τ ⟨i, hi, e, h⟩
    have := congrArg List.length e
    rw [List.length_map, List.length_range', List.length_nil] at this
    have : i = n := by omega
    rw [this] at h
    exact done τ h
theorem wp_loopR (lo c : Int) (I : Nat → Sl → Prop) {p : Pa} {b : M Fl} {n : Nat} (h0 : I 0 τ)
    (step : ∀ i τ, i < n → I i τ → (@wpo _ (p.set (.int (lo + (i : Nat) * c)) τ) ⟨fun τ1 => (@wp _ b τ1 ⟨(fun fl τ2 => match fl with
      | .nx => I (i + 1) τ2
      | .ct => I (i + 1) τ2
      | .bk => Pf .nx τ2
      | .rt v => Pf (.rt v) τ2), E⟩)⟩)) (done : ∀ τ, I n τ → Pf .nx τ) : (@wp _ (cForGo p b (rngT lo c n)) τ ⟨Pf, E⟩) := wp_loopF (fun i => .int (lo + (i : Nat) * c)) I rfl h0 step done
theorem nats_range (xs : List Nat) : natsT xs = (List.range xs.length).map fun i => T.int (cf xs i : Nat) := by
  apply List.ext_getElem?
  intro k
  rw [List.getElem?_map]
  by_cases h : k < xs.length
  · rw [nats_get h, List.getElem?_range h]
    rfl
  · rw [List.getElem?_eq_none (by rw [nats_len]; omega), List.getElem?_eq_none (by rw [List.length_range]; omega)]
    rfl
/-- a comprehension over items that are told by their place -/
theorem wp_lcF (f : Nat → T) (I : Nat → List T → Sl → Prop) {p : Pa} {ct : M Bool} {ce : M T} {n : Nat} {ts : List T} (hts : ts = (List.range n).map f) (h0 : I 0 [] τ)
    (step : ∀ i acc τ, i < n → I i acc τ → (@wpo _ (p.set (f i) τ) ⟨fun τ1 => (@wp _ ct τ1 ⟨(fun k τ2 => if k = true then (@wp _ ce τ2 ⟨(fun y τ3 => small acc.length = true ∧ I (i + 1) (acc ++ [y]) τ3), noE⟩) else I (i + 1) acc τ2), noE⟩)⟩))
    (done : ∀ acc τ, I n acc τ → Q (.lst acc) τ) : (@wp _ (cLcGo p ct ce ts []) τ ⟨Q, E⟩) := by
  subst hts
  refine wp_lcgo (fun us acc τ => ∃ i, i ≤ n ∧ us = (List.range' i (n - i)).map f ∧ I i acc τ) ⟨0, Nat.zero_le _, by rw [List.range_eq_range']; rfl, h0⟩ ?_ ?_
  · rintro t us acc τ ⟨i, hi, e, h⟩
    have hlt : i < n := by
      apply Nat.lt_of_le_of_ne hi
      intro z
      rw [z, Nat.sub_self] at e
      cases e
    rw [show n - i = (n - i - 1) + 1 by omega, List.range'_succ] at e
    injection e with e1 e2
    subst e1
    have s := step i acc τ hlt h
    cases hs : p.set (f i) τ with
    | none => rw [hs] at s; exact s
    | some τ1 =>
      rw [hs] at s
      have w : ∀ {acc τ2}, I (i + 1) acc τ2 → ∃ j, j ≤ n ∧ us = (List.range' j (n - j)).map f ∧ I j acc τ2 := fun {acc τ2} q => ⟨i + 1, hlt, by rw [e2, show n - i - 1 = n - (i + 1) by omega], q⟩
      refine wp_mono (E := noE) (E' := noE) s (fun k τ2 q => ?_) fun _ _ _ _ h => h
      cases k with
      | false =>
        rw [if_neg (by decide)] at q ⊢
        exact w q
      | true =>
        rw [if_pos rfl] at q ⊢
        exact wp_mono (E := noE) (E' := noE) q (fun y τ3 q => ⟨q.1, w q.2⟩) fun _ _ _ _ h => h
  · rintro acc τ ⟨i, hi, e, h⟩
    have := congrArg List.length e
    rw [List.length_map, List.length_range', List.length_nil] at this
    have : i = n := by omega
    rw [this] at h
    exact done acc τ h
end
theorem cut_to {α : Type} {xs : List α} {n : Nat} (h : n ≤ xs.length) : cutT xs none (some (n : Int)) = xs.take n := by
  unfold cutT
  rw [HT.sIx_none, HT.sIx_nat, Nat.min_eq_left h]
  rfl
theorem cut_from {α : Type} {xs : List α} {n : Nat} (h : n ≤ xs.length) : cutT xs (some (n : Int)) none = xs.drop n := by
  unfold cutT
  rw [HT.sIx_none, HT.sIx_nat, Nat.min_eq_left h]
  exact List.take_of_length_le (by rw [List.length_drop]; omega)
theorem cut_mid {α : Type} {xs : List α} {m n : Nat} (h : m ≤ xs.length) (h2 : n ≤ xs.length) : cutT xs (some (m : Int)) (some (n : Int)) = (xs.drop m).take (n - m) := by
  unfold cutT
  rw [HT.sIx_nat, HT.sIx_nat, Nat.min_eq_left h, Nat.min_eq_left h2]
@[simp] theorem oPt_int {i : Int} : oPt (.int i) = some (some i) := by
  exact id rfl
theorem tlen_succ (xs : List Nat) (n : Nat) : tlen xs (n + 1) = if cf xs n = 0 then tlen xs n else n + 1 := rfl
theorem tlen_pos {xs : List Nat} {n : Nat} (h : n ≠ 0) : tlen xs n = if cf xs (n - 1) = 0 then tlen xs (n - 1) else n := by
  obtain ⟨m, rfl⟩ : ∃ m, n = m + 1 := ⟨n - 1, by omega⟩
  exact tlen_succ xs m
@[simp] theorem r_list {k : Bool} {xs : List T} : gList k [.lst xs] = if (k || immL xs) = true then some (.lst xs) else none := by
  exact id rfl
theorem imm_nats : ∀ xs : List Nat, immL (natsT xs) = true
  | [] => rfl
  | x :: xs => by
    rw [nats_cons]
    show (imm (T.int x) && immL (natsT xs)) = true
    rw [imm_nats xs]
    rfl
theorem imm_ints : ∀ xs : List Int, immL (intsT xs) = true
  | [] => rfl
  | x :: xs => by
    rw [ints_cons]
    show (imm (T.int x) && immL (intsT xs)) = true
    rw [imm_ints xs]
    rfl
theorem wpg_fin {r : CR} {t0 : T} {o0 : List T} (h : (@wpg r ⟨(fun t o => t = t0 ∧ o = o0), (fun _ _ _ _ => False)⟩)) : r = .ok t0 o0 := by
  obtain ⟨t, o, e, h1, h2⟩ := wpg_ok h
  rw [e, h1, h2]
theorem mul_rep {n : Nat} (h : n ≤ 1000) : oMul (.lst [.int 0]) (.int (n : Int)) = some (.lst (natsT (List.replicate n 0))) := by
  have e : oMul (.lst [.int 0]) (.int (n : Int)) = if (idx (n : Int) && small (1 * (n : Int).toNat)) = true then some (.lst (List.replicate (n : Int).toNat [T.int 0]).flatten) else none := rfl
  rw [e, if_pos (by rw [Bool.and_eq_true]; exact ⟨by unfold idx; simp; omega, by simp; omega⟩)]
  have : ∀ k : Nat, (List.replicate k [T.int 0]).flatten = natsT (List.replicate k 0) := fun k => by
    induction k with
    | zero => rfl
    | succ k ih => rw [List.replicate_succ, List.flatten_cons, ih, List.replicate_succ, nats_cons]; rfl
  rw [this]
  rfl
@[simp] theorem r_addL {xs ys : List T} : oAdd (.lst xs) (.lst ys) = if small (xs.length + ys.length) = true then some (.lst (xs ++ ys)) else none := by
  exact id rfl
@[simp] theorem r_max2 {i j : Int} : gMax2 [.int i, .int j] = some (.int (if j > i then j else i)) := by
  exact id rfl
@[simp] theorem r_min2 {i j : Int} : gMin2 [.int i, .int j] = some (.int (if j < i then j else i)) := by
  exact id rfl
/-- zeros behind -/
def pad (xs : List Nat) (n : Nat) : List Nat := xs ++ List.replicate (n - xs.length) 0
theorem cf_pad (xs : List Nat) (n k : Nat) : cf (pad xs n) k = cf xs k := by
  unfold pad
  by_cases h : k < xs.length
  · unfold cf
    rw [List.getD_eq_getElem?_getD, List.getD_eq_getElem?_getD, List.getElem?_append_left h]
  · rw [cf_ge (xs := xs) (by omega)]
    by_cases h2 : k < n
    · unfold cf
      rw [List.getD_eq_getElem?_getD, List.getElem?_append_right (by omega), List.getElem?_replicate]
      split <;> rfl
    · exact cf_ge (by simp; omega)
theorem pad_len {xs : List Nat} {n : Nat} (h : xs.length ≤ n) : (pad xs n).length = n := by unfold pad; simp; omega
theorem els_pad {xs : List Nat} (h : Els xs) (n : Nat) : Els (pad xs n) := fun x hx => by
  rcases List.mem_append.mp hx with q | q
  · exact h x q
  · exact els_rep _ x q
/-- the sum of two, as long as the longer one -/
def padd (xs ys : List Nat) : List Nat := (List.range (max xs.length ys.length)).map fun k => xr (cf xs k) (cf ys k)
theorem cf_padd (xs ys : List Nat) (k : Nat) : cf (padd xs ys) k = xr (cf xs k) (cf ys k) := by
  unfold padd
  by_cases h : k < max xs.length ys.length
  · conv => lhs; unfold cf
    rw [List.getD_eq_getElem?_getD, List.getElem?_map, List.getElem?_range h]
    rfl
  · rw [cf_ge (by simp; omega), cf_ge (xs := xs) (by omega), cf_ge (xs := ys) (by omega)]
    rfl
theorem els_padd {xs ys : List Nat} (hx : Els xs) (hy : Els ys) : Els (padd xs ys) := fun x h => by
  obtain ⟨k, _, rfl⟩ := List.mem_map.mp h
  exact xr_lt (cf_lt hx k) (cf_lt hy k)
theorem padd_len (xs ys : List Nat) : (padd xs ys).length = max xs.length ys.length := by unfold padd; simp
/-- the row that a product's step adds -/
def rowt (f : Nat) (s : List Nat) (a j k : Nat) : Nat := if a ≤ k ∧ k < a + j then tm f (cf s (k - a)) else 0
theorem rowt_full {f : Nat} {s : List Nat} (hf : f < 32) (a k : Nat) : rowt f s a s.length k = if a ≤ k then tm f (cf s (k - a)) else 0 := by
  unfold rowt
  by_cases h : a ≤ k
  · by_cases h2 : k < a + s.length
    · rw [if_pos ⟨h, h2⟩, if_pos h]
    · rw [if_neg (fun z => h2 z.2), if_pos h, cf_ge (xs := s) (by omega), tm_zero hf]
  · rw [if_neg (fun z => h z.1), if_neg h]
theorem rowt_succ {f : Nat} {s : List Nat} (a j k : Nat) : rowt f s a (j + 1) k = if k = a + j then tm f (cf s j) else rowt f s a j k := by
  unfold rowt
  by_cases h : k = a + j
  · subst h
    rw [if_pos ⟨by omega, by omega⟩, if_pos rfl, Nat.add_sub_cancel_left]
  · rw [if_neg h]
    by_cases h2 : a ≤ k ∧ k < a + j
    · rw [if_pos h2, if_pos ⟨h2.1, by omega⟩]
    · rw [if_neg h2, if_neg (fun z => h2 ⟨z.1, by omega⟩)]
theorem rowt_zero {f : Nat} {s : List Nat} (a k : Nat) : rowt f s a 0 k = 0 := if_neg (by omega)
theorem rowt_out {f : Nat} {s : List Nat} (a j k : Nat) (h : a + j ≤ k) : rowt f s a j k = 0 := if_neg (by omega)
theorem zip_range {a b : List Nat} (h : a.length = b.length) : zipT (natsT a) (natsT b) = (List.range a.length).map fun i => T.tup [.int (cf a i : Nat), .int (cf b i : Nat)] := by
  have key : ∀ (xs ys : List T), xs.length = ys.length → ∀ k : Nat, (zipT xs ys)[k]? = (match xs[k]?, ys[k]? with | some x, some y => some (T.tup [x, y]) | _, _ => none) := by
    intro xs
    induction xs with
    | nil => intro ys _ k; cases ys <;> simp [zipT]
    | cons x xs ih =>
      intro ys hl k
      cases ys with
      | nil => cases hl
      | cons y ys =>
        cases k with
        | zero => rfl
        | succ k => simpa [zipT] using ih ys (by simpa using hl) k
  apply List.ext_getElem?
  intro k
  rw [key _ _ (by simp [h]), List.getElem?_map]
  by_cases hk : k < a.length
  · rw [nats_get hk, nats_get (h ▸ hk), List.getElem?_range hk]
    rfl
  · rw [List.getElem?_eq_none (by rw [nats_len]; omega), List.getElem?_eq_none (l := List.range a.length) (by rw [List.length_range]; omega)]
    rfl
theorem pad_T {xs : List Nat} {n : Nat} : natsT xs ++ natsT (List.replicate (n - xs.length) 0) = natsT (pad xs n) := nats_app.symm
theorem nats_atZ {ns : List Nat} {z : Int} {i : Nat} (e : z = (i : Int)) (h : i < ns.length) : atI (natsT ns) z = some (.int (cf ns i : Nat)) := by
  rw [e]; exact nats_at h
theorem nats_setZ {ns : List Nat} {z : Int} {i x : Nat} (e : z = (i : Int)) (h : i < ns.length) : gSet (.int z) (.int (x : Int)) (.lst (natsT ns)) = some (.non, .lst (natsT (ns.set i x))) := by
  have e1 : gSet (.int z) (.int (x : Int)) (.lst (natsT ns)) = (ixN (natsT ns).length z).map fun j => (T.non, T.lst ((natsT ns).set j (.int (x : Int)))) := rfl
  rw [e1, e]
  unfold ixN
  rw [if_pos (Int.natCast_nonneg _), nats_len, if_pos (by omega), Int.toNat_natCast, Option.map_some, nats_set]
theorem nats_last {ns : List Nat} (h : ns ≠ []) : atI (natsT ns) (-1) = some (.int (cf ns (ns.length - 1) : Nat)) := by
  have hl : 0 < ns.length := List.length_pos_iff.mpr h
  unfold atI ixN
  rw [if_neg (by decide), nats_len, if_pos (by omega)]
  have : (-1 + (ns.length : Int)).toNat = ns.length - 1 := by omega
  rw [this]
  exact nats_get (by omega)
@[simp] theorem oNeg_int {i : Int} : oNeg (.int i) = some (.int (-i)) := by
  exact id rfl
theorem rgB_down {m : Nat} (h : m ≤ 1000) : rgB [.int ((m : Int) - 1), .int (-1), .int (-1)] = some (rngT ((m : Int) - 1) (-1) m) := by
  have e : rgB [.int ((m : Int) - 1), .int (-1), .int (-1)] = if (decide ((-1 : Int) ≠ 0) && decide ((-1 : Int).natAbs < 1073741824) && Builtin.Range.small ((m : Int) - 1) (-1) (-1)) = true then some (rngT ((m : Int) - 1) (-1) (Builtin.Range.rangeSize ((m : Int) - 1) (-1) (-1)).toNat) else none := rfl
  have s : Builtin.Range.rangeSize ((m : Int) - 1) (-1) (-1) = (m : Int) := by
    unfold Builtin.Range.rangeSize
    rw [if_neg (by decide)]
    by_cases h0 : (m : Int) - 1 > -1
    · rw [if_pos h0, show -(-1 : Int) = 1 from rfl, Int.ediv_one]
      omega
    · rw [if_neg h0]
      omega
  rw [e, s, Int.toNat_natCast, if_pos]
  rw [Bool.and_eq_true]
  refine ⟨by decide, ?_⟩
  unfold Builtin.Range.small
  rw [s, if_neg (by decide)]
  unfold Builtin.Range.rangeFitsLong
  simp
  omega
theorem xsum_zero {f : Nat → Nat} (h : ∀ i, f i = 0) (n : Nat) : xsum f n = 0 := xsum_cut (Nat.zero_le n) fun i _ => h i
theorem pm_zero {q s : List Nat} (hs : Els s) (h : ∀ i, cf q i = 0) (k : Nat) : pm q s k = 0 := xsum_zero (fun i => pt_zero hs (h i)) _
theorem pt_row {q s : List Nat} (hq : Els q) (k i : Nat) : rowt (cf q i) s i s.length k = pt q s k i := rowt_full (cf_lt hq i) i k
end TL

/-! TL31: equality of lists of numbers -/
namespace TL
open PySem L2
theorem py_ints : ∀ ns : List Int, toPyL (intsT ns) = some (ns.map PyData.int)
  | [] => rfl
  | n :: ns => by
    rw [ints_cons]
    unfold toPyL
    rw [py_ints ns]
    rfl
theorem lay_ints : ∀ ns : List Int, PyData.canLayAll0 (ns.map PyData.int) = true
  | [] => rfl
  | n :: ns => by
    rw [List.map_cons]
    unfold PyData.canLayAll0
    rw [lay_ints ns]
    rfl
theorem eqv_ints : ∀ xs ys : List Int, PyData.eqvAll (xs.map PyData.int) (ys.map PyData.int) = decide (xs = ys)
  | [], [] => rfl
  | [], _ :: _ => rfl
  | _ :: _, [] => rfl
  | x :: xs, y :: ys => by
    rw [List.map_cons, List.map_cons]
    unfold PyData.eqvAll
    rw [eqv_ints xs ys]
    unfold PyData.eqv
    by_cases h : x = y
    · subst h; simp
    · simp [h]
theorem dep_ints : ∀ ns : List Int, PyData.depthAll (ns.map PyData.int) ≤ 1
  | [] => by simp only [List.map_nil, PyData.depthAll]; omega
  | n :: ns => by
    have := dep_ints ns
    simp only [List.map_cons, PyData.depthAll, PyData.depth]
    omega
theorem shp_ints (ns : List Int) : SeqAt.shaped (.list (ns.map PyData.int)) = true := by
  unfold SeqAt.shaped
  rw [Bool.and_eq_true]
  refine ⟨lay_ints ns, ?_⟩
  have := dep_ints ns
  rw [decide_eq_true_eq]
  simp only [PyData.depth]
  omega
theorem oEq_ints {xs ys : List Int} : oEq (.lst (intsT xs)) (.lst (intsT ys)) = some (.bl (decide (xs = ys))) := by
  unfold oEq TL.data2 toPy
  rw [py_ints, py_ints]
  simp only [Option.map_some]
  rw [if_pos (by rw [shp_ints, shp_ints]; rfl)]
  unfold PyData.eqv
  rw [eqv_ints]
theorem oNe_ints {xs ys : List Int} : oNe (.lst (intsT xs)) (.lst (intsT ys)) = some (.bl (!decide (xs = ys))) := by
  unfold oNe TL.data2 toPy
  rw [py_ints, py_ints]
  simp only [Option.map_some]
  rw [if_pos (by rw [shp_ints, shp_ints]; rfl)]
  unfold PyData.eqv
  rw [eqv_ints]
theorem nat_inj {xs ys : List Nat} : (xs.map Int.ofNat = ys.map Int.ofNat) = (xs = ys) := by
  apply propext
  constructor
  · intro h
    apply nats_inj
    rw [natsT_ints, natsT_ints, h]
  · intro h; rw [h]
theorem oEq_nats {xs ys : List Nat} : oEq (.lst (natsT xs)) (.lst (natsT ys)) = some (.bl (decide (xs = ys))) := by
  rw [natsT_ints, natsT_ints, oEq_ints]
  simp only [nat_inj]
theorem oNe_nats {xs ys : List Nat} : oNe (.lst (natsT xs)) (.lst (natsT ys)) = some (.bl (!decide (xs = ys))) := by
  rw [natsT_ints, natsT_ints, oNe_ints]
  simp only [nat_inj]
/-- all of a list of truth values -/
theorem bl_all (f : Nat → Bool) : ∀ n : Nat, gAll [.lst ((List.range n).map fun i => T.bl (f i))] = some (.bl ((List.range n).all f)) := by
  intro n
  have key : ∀ ks : List Nat, blL (ks.map fun i => T.bl (f i)) = some (ks.map f) := fun ks => by
    induction ks with
    | nil => rfl
    | cons k ks ih =>
      rw [List.map_cons]
      unfold blL
      rw [ih]
      rfl
  have e : gAll [.lst ((List.range n).map fun i => T.bl (f i))] = (blL ((List.range n).map fun i => T.bl (f i))).map fun bs => .bl (bs.all id) := rfl
  rw [e, key, Option.map_some, List.all_map]
  rfl
end TL

/-! TL32: len(range(..)), list(range(..)); {}; a dict's keys walked; x[i] op= e -/
namespace TL
open PySem PySem.Spec PyProof.Rows L2
def RngO (i j k : Int) (q : Addr) : HO := .ext fun h => ∃ t u v, IsRange h q i j k t u v
def rRngO : List V → Hp → VK → Prop := fun vs H Q => (∃ j, vs = [V.int j] ∧ ∀ q, H q = none → Q (.ref q) (upd H q (RngO 0 j 1 q))) ∨ (∃ i j, vs = [V.int i, V.int j] ∧ ∀ q, H q = none → Q (.ref q) (upd H q (RngO i j 1 q))) ∨
  ∃ i j k, vs = [V.int i, V.int j, V.int k] ∧ k ≠ 0 ∧ k.natAbs < 1073741824 ∧ ∀ q, H q = none → Q (.ref q) (upd H q (RngO i j k q))
def rLenO : List V → Hp → VK → Prop := fun xs H Q => ∃ q i j k, ∃ n : Nat, xs = [V.ref q] ∧ H q = some (RngO i j k q) ∧ Builtin.Range.rangeSize i j k = n ∧ (n : Int) < 2 ^ 63 ∧ Q (.int n) H
def rgVs (i k : Int) (n : Nat) : List V := (List.range n).map fun m => V.int (i + (m : Nat) * k)
def rListO : List V → Hp → VK → Prop := fun xs H Q => ∃ q i j k, ∃ n : Nat, xs = [V.ref q] ∧ H q = some (RngO i j k q) ∧ Builtin.Range.rangeSize i j k = n ∧ Builtin.Range.small i j k = true ∧ n ≤ 1000000 ∧ ∀ p, H p = none → Q (.ref p) (upd H p (.lst (rgVs i k n)))
section
variable {X : Cx}
theorem rngO_ok {P : Program} {w : World} {H : Hp} {h : Heap} {i j k : Int} {q : Addr} {t u v : Tok} (e : IsRange h q i j k t u v) : ObjOk P w H h q (RngO i j k q) := ⟨⟨t, u, v, e⟩, ⟨_, e⟩, fun h1 h2 ⟨t, u, v, e⟩ kk => ⟨t, u, v, kk _ e⟩⟩
theorem call_rngO : CallR X (.type "range") rRngO := by
  intro pins s σ H vs us Q I r h
  rcases h with ⟨j, rfl, q⟩ | ⟨i, j, rfl, q⟩ | ⟨i, j, k, rfl, k0, k1, q⟩
  · obtain ⟨u1, rfl, rj⟩ := vals1 r
    obtain ⟨u, rfl⟩ := rj
    exact call_range_1 ⟨.ref s.heap.objs.size, upd H s.heap.objs.size (RngO 0 j 1 s.heap.objs.size), I.laid (t' := s.toks + 2) (fun b o e => Heap.get?_push_of_some _ e) (Nat.le_refl _) (rngO_ok (Heap.get?_push_size _ rfl)), rfl, q _ (I.hok.fresh (Nat.le_refl _))⟩
  · cases r with
    | cons r1 rr =>
      cases rr with
      | cons r2 rr =>
        cases rr
        obtain ⟨t, rfl⟩ := r1
        obtain ⟨t', rfl⟩ := r2
        exact call_range_2 ⟨.ref s.heap.objs.size, upd H s.heap.objs.size (RngO i j 1 s.heap.objs.size), I.laid (t' := s.toks + 1) (fun b o e => Heap.get?_push_of_some _ e) (Nat.le_refl _) (rngO_ok (Heap.get?_push_size _ rfl)), rfl, q _ (I.hok.fresh (Nat.le_refl _))⟩
  · cases r with
    | cons r1 rr =>
      cases rr with
      | cons r2 rr =>
        cases rr with
        | cons r3 rr =>
          cases rr
          obtain ⟨t, rfl⟩ := r1
          obtain ⟨t', rfl⟩ := r2
          obtain ⟨t'', rfl⟩ := r3
          exact call_range_3 k0 ⟨.ref s.heap.objs.size, upd H s.heap.objs.size (RngO i j k s.heap.objs.size), I.laid (t' := s.toks) (fun b o e => Heap.get?_push_of_some _ e) (Nat.le_refl _) (rngO_ok (Heap.get?_push_size _ rfl)), rfl, q _ (I.hok.fresh (Nat.le_refl _))⟩ (.inl (PyProof.noPylong_small k1))
theorem call_lenO : CallR X (.builtin "len") rLenO := by
  intro pins s σ H vs us Q I r h
  obtain ⟨q, i, j, k, n, rfl, hq, hn, hb, hQ⟩ := h
  obtain ⟨u1, rfl, rj⟩ := vals1 r
  obtain rfl : u1 = Value.ref q := rj
  obtain ⟨t, u, v, e⟩ := (I.hok _ _ hq).1
  exact call_len_range e hn hb ⟨.int n, H, I.kept (t' := s.toks + 1 + 1) (h' := s.heap) fun b o e => e, ⟨_, rfl⟩, hQ⟩
theorem call_listO (hc : X.calm = true) : CallR X (.type "list") rListO := by
  intro pins s σ H vs us Q I r h
  obtain ⟨q, i, j, k, n, rfl, hq, hn, hs, hb, hQ⟩ := h
  obtain ⟨u1, rfl, rj⟩ := vals1 r
  obtain rfl : u1 = Value.ref q := rj
  obtain ⟨t, u, v, e⟩ := (I.hok _ _ hq).1
  refine call_list_range (I.ok.hd hc) e hs hn (by omega) fun h' tk acc c' hk e' hi => ?_
  have vv : Vals (rgVs i k n) acc.toList := by
    have e1 : acc.toList.length = n := by rw [Array.length_toList]; exact hi.1
    unfold rgVs
    rw [← e1]
    refine vals_of_get acc.toList _ fun j u hj => ?_
    obtain ⟨t, rfl⟩ := hi.2 j u (by rw [← hj, Array.getElem?_toList])
    exact ⟨t, rfl⟩
  refine ⟨.ref s.heap.objs.size, upd H s.heap.objs.size (.lst (rgVs i k n)), I.laid hk (Nat.le_refl _) (show ObjOk X.prog X.w _ _ _ (.lst (rgVs i k n)) from ⟨?_, acc.toList, c', vv, ?_⟩), rfl, hQ _ (I.hok.fresh (Nat.le_refl _))⟩
  · unfold rgVs; rw [List.length_map, List.length_range, sizeLine_eq]; omega
  · rw [Array.toArray_toList]; exact e'
end
def lenR (i j k : Int) : Option T := if (decide (0 ≤ Builtin.Range.rangeSize i j k) && decide (Builtin.Range.rangeSize i j k < 4611686018427387904)) = true then some (.int (Builtin.Range.rangeSize i j k)) else none
def gLenR : List T → Option T
  | [.int j] => lenR 0 j 1
  | [.int i, .int j] => lenR i j 1
  | [.int i, .int j, .int k] => if (decide (k ≠ 0) && decide (k.natAbs < 1073741824)) = true then lenR i j k else none
  | _ => none
def lstR (i j k : Int) : Option T := if (decide (0 ≤ Builtin.Range.rangeSize i j k) && decide (Builtin.Range.rangeSize i j k ≤ 1000000) && Builtin.Range.small i j k) = true then some (.lst (rngT i k (Builtin.Range.rangeSize i j k).toNat)) else none
def gLstR : List T → Option T
  | [.int j] => lstR 0 j 1
  | [.int i, .int j] => lstR i j 1
  | [.int i, .int j, .int k] => if (decide (k ≠ 0) && decide (k.natAbs < 1073741824)) = true then lstR i j k else none
  | _ => none
section
variable {X : Cx} {W : WX} {L : Lv} {Γh Γ Γ' : List Md} {e : Expr} {es : List Expr} {cl : M (List T)} {ms : List Md} {p p2 pos pos2 : Pos}
theorem lenR_ok {i j k : Int} {t : T} (h : lenR i j k = some t) : ∃ n : Nat, Builtin.Range.rangeSize i j k = n ∧ (n : Int) < 2 ^ 63 ∧ t = .int n := by
  unfold lenR at h
  split at h
  · rename_i hh
    rw [Bool.and_eq_true, decide_eq_true_eq, decide_eq_true_eq] at hh
    cases h
    refine ⟨(Builtin.Range.rangeSize i j k).toNat, by omega, by omega, ?_⟩
    rw [Int.toNat_of_nonneg hh.1]
  · cases h
theorem lstR_ok {i j k : Int} {t : T} (h : lstR i j k = some t) : ∃ n : Nat, Builtin.Range.rangeSize i j k = n ∧ Builtin.Range.small i j k = true ∧ n ≤ 1000000 ∧ t = .lst (rngT i k n) := by
  unfold lstR at h
  split at h
  · rename_i hh
    rw [Bool.and_eq_true, Bool.and_eq_true, decide_eq_true_eq, decide_eq_true_eq] at hh
    cases h
    exact ⟨(Builtin.Range.rangeSize i j k).toNat, by omega, hh.2, by omega, rfl⟩
  · cases h
/-- what the range's arguments are -/
theorem rng_args {g : Int → Int → Int → Option T} {F : Addr → Prop} {H : Hp} {B : Nat → Addr → Prop} {vs : List V} {ts : List T} {t : T} {gg : List T → Option T} (r : VRL X.K X.mg B L F H ms vs ts)
    (h1 : ∀ j, gg [.int j] = g 0 j 1) (h2 : ∀ i j, gg [.int i, .int j] = g i j 1) (h3 : ∀ i j k, gg [.int i, .int j, .int k] = if (decide (k ≠ 0) && decide (k.natAbs < 1073741824)) = true then g i j k else none)
    (h0 : ∀ ts, (∀ j, ts ≠ [.int j]) → (∀ i j, ts ≠ [.int i, .int j]) → (∀ i j k, ts ≠ [.int i, .int j, .int k]) → gg ts = none) (hg : gg ts = some t) {Q : VK}
    (k : ∀ i j k, g i j k = some t → ∀ q, H q = none → Q (.ref q) (upd H q (RngO i j k q))) : rRngO vs H Q := by
  by_cases c1 : ∃ j, ts = [.int j]
  · obtain ⟨j, rfl⟩ := c1
    obtain ⟨w, wr, rfl, q1, r3⟩ := vrl_any r
    have e4 : wr = [] := r3
    subst e4
    have q1 : w = .int j := q1
    subst q1
    exact .inl ⟨j, rfl, k _ _ _ (by rw [← h1]; exact hg)⟩
  · by_cases c2 : ∃ i j, ts = [.int i, .int j]
    · obtain ⟨i, j, rfl⟩ := c2
      obtain ⟨w, wr, rfl, q1, w2, wr2, rfl, q2, r3⟩ := vrl_any r
      have e4 : wr2 = [] := r3
      have q1 : w = .int i := q1
      have q2 : w2 = .int j := q2
      subst e4 q1 q2
      exact .inr (.inl ⟨i, j, rfl, k _ _ _ (by rw [← h2]; exact hg)⟩)
    · by_cases c3 : ∃ i j k, ts = [.int i, .int j, .int k]
      · obtain ⟨i, j, kk, rfl⟩ := c3
        obtain ⟨w, wr, rfl, q1, w2, wr2, rfl, q2, w3, wr3, rfl, q3, r3⟩ := vrl_any r
        have e4 : wr3 = [] := r3
        have q1 : w = .int i := q1
        have q2 : w2 = .int j := q2
        have q3 : w3 = .int kk := q3
        subst e4 q1 q2 q3
        rw [h3] at hg
        split at hg
        · rename_i hh
          rw [Bool.and_eq_true, decide_eq_true_eq, decide_eq_true_eq] at hh
          exact .inr (.inr ⟨i, j, kk, rfl, hh.1, hh.2, k _ _ _ hg⟩)
        · cases hg
      · rw [h0 ts (fun j z => c1 ⟨j, z⟩) (fun i j z => c2 ⟨i, j, z⟩) (fun i j k z => c3 ⟨i, j, k, z⟩)] at hg
        cases hg
theorem new_ext {F : Addr → Prop} {H : Hp} {q : Addr} {o : HO} (hq : H q = none) : New F H F (upd H q o) [] := ⟨fun a h => upd_ne (fun e => h (by rw [e]; exact hq)), fun _ h => h, fun _ h => .inl h, by simp, List.nodup_nil⟩
theorem ex_lenrng (hg : Gl X "len") (hm : X.mg "len" = none) (hg2 : Gl X "range") (hm2 : X.mg "range" = none) (ha : AX X W L Γh Γ (e :: es) cl ms Γ') (he : starEach (e :: es) X.env = (false, eval e X.env) :: starEach es X.env) (hpl : (backTo pos2 (starEach es X.env)).any (·.1) = false)
    (he2 : starEach [.Call (.Name "range" p2) (e :: es) [] pos2] X.env = (false, eval (.Call (.Name "range" p2) (e :: es) [] pos2) X.env) :: starEach [] X.env) (hpl2 : (backTo pos (starEach [] X.env)).any (·.1) = false) :
    EX X W L Γh Γ (.Call (.Name "len" p) [.Call (.Name "range" p2) (e :: es) [] pos2] [] pos) (cOpL gLenR cl) .sc Γ' := by
  refine PE.imp (pe_callB call_lenO hg hm PySem.boot_len (pa_cons (pe_callTy call_rngO hg2 hm2 PyProof.Rows.boot_range ha (by decide) (by decide) he hpl) pa_nil he2) (by decide) (by decide) he2 hpl2) fun σ H Q h => ?_
  obtain ⟨B, fx, F, Os, τ, S, p⟩ := h
  refine ⟨B, fx, F, Os, τ, S, ?_⟩
  unfold cOpL M.bind at p
  cases hc : cl τ with
  | exn c fs xs τ2 => rw [hc] at p; exact p
  | stuck => rw [hc] at p; exact p.elim
  | ok ts τ2 =>
    rw [hc] at p
    intro F2 Os2 vs H2 s2 S2 r2
    obtain ⟨t', e', k⟩ := post_opt S2 (post_later (show Post X.K X.mg W B fx L Γh Γ' .sc σ Q F H (M.opt (gLenR ts) τ2) from p) s2)
    refine rng_args (g := lenR) r2 (fun _ => rfl) (fun _ _ => rfl) (fun _ _ _ => rfl) (fun ts a b c => ?_) e' fun i j kk hl q hq => ?_
    · unfold gLenR
      split
      · exact absurd rfl (a _)
      · exact absurd rfl (b _ _)
      · exact absurd rfl (c _ _ _)
      · rfl
    · obtain ⟨n, h1, h2, rfl⟩ := lenR_ok hl
      exact ⟨q, i, j, kk, n, rfl, upd_same, h1, h2, k F2 [] _ _ (new_ext hq) (VR.sc_of rfl rfl)⟩
theorem ex_lstrng (hc : X.calm = true) (hg : Gl X "list") (hm : X.mg "list" = none) (hg2 : Gl X "range") (hm2 : X.mg "range" = none) (ha : AX X W L Γh Γ (e :: es) cl ms Γ') (he : starEach (e :: es) X.env = (false, eval e X.env) :: starEach es X.env) (hpl : (backTo pos2 (starEach es X.env)).any (·.1) = false)
    (he2 : starEach [.Call (.Name "range" p2) (e :: es) [] pos2] X.env = (false, eval (.Call (.Name "range" p2) (e :: es) [] pos2) X.env) :: starEach [] X.env) (hpl2 : (backTo pos (starEach [] X.env)).any (·.1) = false) :
    EX X W L Γh Γ (.Call (.Name "list" p) [.Call (.Name "range" p2) (e :: es) [] pos2] [] pos) (cOpL gLstR cl) (.ow 1) Γ' := by
  refine PE.imp (pe_callTy (call_listO hc) hg hm PySem.Pv.boot_list (pa_cons (pe_callTy call_rngO hg2 hm2 PyProof.Rows.boot_range ha (by decide) (by decide) he hpl) pa_nil he2) (by decide) (by decide) he2 hpl2) fun σ H Q h => ?_
  obtain ⟨B, fx, F, Os, τ, S, p⟩ := h
  refine ⟨B, fx, F, Os, τ, S, ?_⟩
  unfold cOpL M.bind at p
  cases hc : cl τ with
  | exn c fs xs τ2 => rw [hc] at p; exact p
  | stuck => rw [hc] at p; exact p.elim
  | ok ts τ2 =>
    rw [hc] at p
    intro F2 Os2 vs H2 s2 S2 r2
    obtain ⟨t', e', k⟩ := post_opt S2 (post_later (show Post X.K X.mg W B fx L Γh Γ' (.ow 1) σ Q F H (M.opt (gLstR ts) τ2) from p) s2)
    refine rng_args (g := lstR) r2 (fun _ => rfl) (fun _ _ => rfl) (fun _ _ _ => rfl) (fun ts a b c => ?_) e' fun i j kk hl q hq => ?_
    · unfold gLstR
      split
      · exact absurd rfl (a _)
      · exact absurd rfl (b _ _)
      · exact absurd rfl (c _ _ _)
      · rfl
    · obtain ⟨n, h1, h2, h3, rfl⟩ := lstR_ok hl
      refine ⟨q, i, j, kk, n, rfl, upd_same, h1, h2, h3, fun a ha => ?_⟩
      have aq : a ≠ q := fun z => by rw [z, upd_same] at ha; cases ha
      rw [upd_ne aq] at ha
      have nF : ¬ F2 a := fun z => S2.trF a z ha
      refine k F2 [a] _ _ ⟨fun b hb => ?_, fun _ h => h, fun _ h => .inl h, fun b hb => ?_, by simp⟩ ⟨a, rgVs i kk n, List.replicate n [], rfl, upd_same, by simp, ?_⟩
      · rw [upd_ne (fun z => hb (by rw [z]; exact ha)), upd_ne (fun z => hb (by rw [z]; exact hq))]
      · have : b = a := by simpa using hb
        subst this
        exact ⟨ha, nF, by rw [upd_same]; simp⟩
      · have key : ∀ ks : List Nat, OwL (Ow X.K X.mg (upd (upd H2 q (RngO i j kk q)) a (.lst (rgVs i kk n))) F2 0) (List.replicate ks.length []) (ks.map fun m => V.int (i + (m : Nat) * kk)) (ks.map fun m => T.int (i + (m : Nat) * kk)) := fun ks => by
          induction ks with
          | nil => exact ⟨rfl, rfl⟩
          | cons m ks ih => exact ⟨[], _, _, _, rfl, rfl, ⟨rfl, rfl⟩, ih⟩
        have := key (List.range n)
        rw [List.length_range] at this
        exact this
end
end TL

/-! TL33: {}; a dict's keys walked; x[i] op= e -/
namespace TL
open PySem PySem.Spec PyProof.Rows L2
section
variable {X : Cx} {W : WX} {B : Nat → Addr → Prop} {fx : Fx} {L : Lv} {Γh Γl Γl2 Γ Γ1 Γ2 Γ3 Γ' : List Md} {n : En} {e b tg : Expr} {es : List Expr} {cl : M (List T)} {ms : List Md} {ci ce : M T} {mi me : Md} {p p2 pos pos2 tpos : Pos} {d z D i : Nat}
theorem ex_dct0 : EX X W L Γh Γ (.Dict [] [] pos) (cLit (.dct [] [])) (.ow (d + 1)) Γ := by
  refine PE.imp pe_dnewK fun σ H Q h => ?_
  obtain ⟨B, fx, F, Os, τ, S, p⟩ := h
  intro q hq
  have nw : New F H F (upd H q (.dK [])) [q] := New.one hq S.trF
  exact p F Os [q] (.ref q) _ (nw.stp S.trF S.trB) (nw.sr S) (nw.xt S) ⟨q, [], [], rfl, upd_same, rfl, rfl, rfl, rfl⟩

/-! ### a dict that is walked, and not used behind -/
theorem SR.drop {F : Addr → Prop} {Os : Nat → List Addr} {H : Hp} {σ : L2.St} {τ : List (Option T)} (S : SR X.K X.mg B fx L Γ F Os H σ τ) (hlt : i < Γ.length) (nz : i ∉ L.z) : SR X.K X.mg B fx L (Γ.set i .un) F (fun j => if j = i then [] else Os j) H σ τ := by
  refine ⟨by rw [List.length_set]; exact S.lσ, by rw [List.length_set]; exact S.lτ, fun j m' e => ?_, fun j hj => ?_, fun m' hm' => ?_, fun j => ?_, fun j k a hj hk => ?_, fun j a ha => ?_, S.trF, S.trB, S.mono, S.fix, fun q hq => ⟨(S.fixT q hq).1, fun m' e => ?_⟩, S.fz⟩
  · by_cases hj : j = i
    · subst hj
      rw [List.getElem?_set_self hlt] at e
      cases e
      exact .inl ⟨rfl, if_pos rfl⟩
    · rw [List.getElem?_set_ne (Ne.symm hj)] at e
      rw [if_neg hj]
      exact S.slot j m' e
  · rw [List.length_set] at hj
    split
    · rfl
    · exact S.out j hj
  · rcases List.mem_or_eq_of_mem_set hm' with q | q
    · exact S.lv m' q
    · subst q; exact Nat.zero_le _
  · split
    · exact List.nodup_nil
    · exact S.nd j
  · split at hj
    · cases hj
    · split at hk
      · cases hk
      · exact S.dj j k a hj hk
  · split at ha
    · cases ha
    · exact S.own j a ha
  · have hne : i ≠ q.1 := fun z => nz (by rw [z]; exact S.fz.2 q hq)
    rw [List.getElem?_set_ne hne] at e
    exact (S.fixT q hq).2 m' e
def keyTr : Key → T
  | .inl i => .int i
  | .inr x => .str x
def cDKeys (i : Nat) : M (List T) := fun τ => match τ[i]? with
  | some (some (.dct ks _)) => .ok (ks.map keyTr) τ
  | _ => .stuck
def tLockV (i : Nat) : TE := fun σ H Q => ∃ a u, σ[i]? = some (some (V.ref a)) ∧ H a = some u ∧ Mut (some u) ∧ ∀ od, Q (.ref a) (upd H a (.frz od u))
theorem pe_lockV {x : Str} (hN : X.N[i]? = some x) (hv : Vis X.env.scope x) (hd : (x == ("__debug__" : Str)) = false) (hcd : (x == ("__classdict__" : Str)) = false) : PE X (.Name x pos) (tLockV i) := by
  refine ⟨fun pins s σ H Q I h => ?_⟩
  obtain ⟨a, u, hs, ha, mu, q⟩ := h
  refine wpAny_mono ((pe_var (pos := pos) (i := i) hN hv hd hcd).run pins s σ H (fun v H1 => v = .ref a ∧ H1 = H) I ⟨.ref a, hs, rfl, rfl⟩) (fun w s1 h => ?_) fun _ _ z => z
  obtain ⟨v, H1, I1, r1, ev, eH⟩ := h
  subst ev
  rw [eH] at I1
  obtain ⟨od, I2⟩ := I1.lock ha mu
  exact ⟨_, _, I2, r1, q od⟩
theorem wx_dkeys {x : Str} (hN : X.N[i]? = some x) (hv : Vis X.env.scope x) (hd : (x == ("__debug__" : Str)) = false) (hcd : (x == ("__classdict__" : Str)) = false) (hm : Γ[i]? = some (.ow (d + 1))) (hz : L.z.contains i = false) :
    WX' X W L Γh Γ tg (.Name x pos) (cDKeys i) .sc (Γ.set i .un) := by
  refine PI.imp (pi_keys (pe_lockV hN hv hd hcd)) fun σ H R h => ?_
  obtain ⟨B, fx, F, Os, τ, S, p⟩ := h
  have nz : i ∉ L.z := fun z => by
    rw [← List.contains_iff_mem] at z
    rw [z] at hz
    cases hz
  have hlt := (List.getElem?_eq_some_iff.mp hm).1
  unfold cDKeys at p
  rcases S.slot i _ hm with ⟨e, _⟩ | ⟨v, t, e1, e2, r⟩
  · cases e
  · rw [e2] at p
    cases t with
    | dct ks xs =>
      dsimp only at p
      obtain ⟨a, kvs, Ps, rfl, hA, hks, hO, _⟩ := r
      subst hks
      have ha : a ∈ Os i := by rw [hO]; exact List.mem_cons_self
      have fa := S.own i a ha
      refine ⟨a, .dK kvs, e1, hA, trivial, fun od => ⟨a, od, rfl, .inl ⟨kvs, upd_same, ?_⟩⟩⟩
      have nF : ¬ F a := fa.1
      have ne : ∀ c, F c ∨ B L c → c ≠ a := fun c hc z => by
        subst z
        exact hc.elim nF fa.2.1
      have s : Stp (B L) F H (fun c => F c ∨ c = a) (upd H a (.frz od (.dK kvs))) := by
        refine ⟨fun _ h => .inl h, fun c h => h.imp id fun z b => fa.2.1 (by rw [← z]; exact b), fun c h => upd_ne (ne c h), fun c o eo hmu => ?_, fun c h => ?_, fun hF c h => ?_⟩
        · rw [upd_ne (fun z => by rw [z, hA] at eo; cases eo; exact hmu trivial)]; exact eo
        · by_cases hc : c = a
          · rw [hc, upd_same]; simp
          · rw [upd_ne hc]; exact h
        · by_cases hc : c = a
          · rw [hc, upd_same]; simp
          · rw [upd_ne hc]
            exact hF c (h.resolve_right hc)
      have S1 := S.drop hlt nz
      have S2 : SR X.K X.mg B fx L (Γ.set i .un) (fun c => F c ∨ c = a) (fun j => if j = i then [] else Os j) (upd H a (.frz od (.dK kvs))) σ τ := S1.step s fun j c hc => by
        have hc' : c ∈ (if j = i then [] else Os j) := hc
        split at hc'
        · cases hc'
        · rename_i hj
          have hca : c ≠ a := fun z => hj (S.dj j i c hc' (by rw [z]; exact ha))
          exact ⟨upd_ne hca, fun z => z.elim (S.own j c hc').1 hca⟩
      refine p _ _ _ _ s S2 fun F2 H2 s2 t2 t3 => ?_
      have hA2 : H2 a = some (.frz od (.dK kvs)) := by rw [s2.at_ a (.inl (.inr rfl))]; exact upd_same
      refine ⟨fun j t ht => ?_, fun j hj => ⟨hA2, by simpa using hj⟩⟩
      rw [List.map_map, List.getElem?_map, Option.map_eq_some_iff] at ht
      obtain ⟨kv, ekv, rfl⟩ := ht
      refine ⟨⟨hA2, (List.getElem?_eq_some_iff.mp ekv).1⟩, fun y H3 hy => ?_⟩
      obtain ⟨rfl, k, w, ek, rfl⟩ := hy
      rw [ekv] at ek
      cases ek
      refine ⟨F2, New.nil, ?_⟩
      show VR X.K X.mg B F2 H3 .sc [] (kV k) (keyTr k)
      cases k <;> exact VR.sc_of rfl rfl
    | _ => exact p.elim

/-! ### x[i] op= e -/
def rGetL : V → V → Hp → VK → Prop := fun o i H Q => ∃ a vs w, ∃ k : Nat, o = .ref a ∧ i = .int (k : Int) ∧ H a = some (.lst vs) ∧ vs[k]? = some w ∧ Q w H
theorem get_list : PGet X rGetL := by
  intro pins s σ H o i ov iv Q I ro ri h
  obtain ⟨a, vs, w, k, rfl, rfl, hA, hw, q⟩ := h
  obtain rfl : ov = Value.ref a := ro
  obtain ⟨t, rfl⟩ := ri
  obtain ⟨its, r, pl, hz⟩ := I.list (.inl (.inl hA))
  obtain ⟨u, eu, ru⟩ := r.get hw
  have hlt := (List.getElem?_eq_some_iff.mp hw).1
  have hn := line63
  refine wpAny_getItem_list pl.isList (Int.natCast_nonneg _) (by omega) (by rw [Int.toNat_natCast]; simpa using eu) ⟨w, H, I, ru, q⟩
def augB (z D : Nat) (g : T → T → Option T) (i : T) (ce : M T) : M Fl := fun τ1 => match τ1[z]?, i with
  | some (some (.lst xs)), .int (.ofNat k) => match xs[k]? with
    | some x => if imm x = true then match ce τ1 with
        | .ok y τ2 => match g x y with
          | some w => if imm w = true then match mutB [] D D (gSet (.int (k : Int)) w) z τ2 with
              | .ok _ τ3 => .ok .nx τ3
              | _ => .stuck
            else .stuck
          | none => .stuck
        | .exn c fs zs τ2 => .exn c fs zs τ2
        | .stuck => .stuck
      else .stuck
    | none => .stuck
  | _, _ => .stuck
def cAugI (z D : Nat) (g : T → T → Option T) (ci ce : M T) : M Fl := fun τ => match ci τ with
  | .ok i τ1 => augB z D g i ce τ1
  | _ => .stuck
theorem s_augI {x : Str} {np : Pos} {op : Operator} {r : R2} {g : T → T → Option T} (hu : X.A.units + 1 < cLine) (hN : X.N[z]? = some x) (hv : Vis X.env.scope x) (hd : (x == ("__debug__" : Str)) = false) (hcd : (x == ("__classdict__" : Str)) = false)
    (hi : EX X W0 (L.up z) Γl2 (Γ.set z (.bk (L.n + 1) (D + 1))) b ci mi Γ2) (he : EX X W (L.up z) Γl Γ2 e ce me Γ3) (ho : OpR X (inplaceOp op) r) (ni : mi.own = false) (ne : me.own = false) (hr : ∀ B, Op2S X.K X.mg B (L.up z) r .sc me g .sc)
    (h2 : Γ2[z]? = some (.bk (L.n + 1) (D + 1))) (hz : Γ[z]? = some (.ow (D + 1))) (hl : Γ3.length = Γ.length) (hw : wkG Γh (backG L z (D + 1) Γl) = true) (hlv : Γh.all (fun m => decide (m.lv ≤ L)) = true) (hll : Γl.length = Γ.length)
    (ha : ∀ ov iv new, augStore b ov iv new = (do holding [new, ov, iv] (setItem ov iv new); release [new, ov, iv] []; pure .next)) :
    SX1 X W L Γh n Γ (.AugAssign (.Subscript (.Name x np) b tpos) op e pos) (cAugI z (D + 1) g ci ce) (backG L z (D + 1) Γ3) := by
  refine PS.imp (ps_augS (pe_var hN hv hd hcd) hi get_list he ho (set_ld hu) ha) fun Dd σ H h => ?_
  obtain ⟨B, fx, F, Os, τ, S, q⟩ := h
  rcases S.slot z _ hz with ⟨q, _⟩ | ⟨v, t, e1, e2, r0⟩
  · cases q
  · refine ⟨v, e1, _, _, F, _, τ, S.lend hz e1 e2, ?_⟩
    unfold cAugI at q
    cases hci : ci τ with
    | exn c fs xs τ' => rw [hci] at q; exact q.elim
    | stuck => rw [hci] at q; exact q.elim
    | ok ti τ1 =>
      rw [hci] at q
      dsimp only at q
      intro F1 Os1 Oi vi H1 s1 S1 x1 ri
      have eOi := ri.noO ni
      subst eOi
      have et : τ1[z]? = some (some t) := (S1.fixT (z, t) (by simp)).1
      unfold augB at q
      rw [et] at q
      obtain ⟨O1, hO1, ow1⟩ := lent_ow S1 h2 e1 et
      split at q
      · rename_i xs k eq1
        cases eq1
        split at q
        · rename_i x0 ex0
          split at q
          · rename_i hix
            obtain ⟨a, vs, Ps, rfl, hA, rfl, rl⟩ := ow1
            obtain ⟨Q1, u1, eQ1, eu1, ru1, _⟩ := owl_at rl ex0
            have hx0 : Rp X.K X.mg H1 Any u1 x0 := Ow.rp ru1 (fun _ _ => trivial) fun _ _ => trivial
            refine ⟨a, vs, u1, k, rfl, vr_int ri, hA, eu1, _, _, F1, Os1, τ1, S1, ?_⟩
            have rx1 : VR X.K X.mg (lendB B L (Os z)) F1 H1 .sc [] u1 x0 := VR.sc_of hix (Rp.imm hix hx0)
            cases hce : ce τ1 with
            | exn c fs zs τ2 =>
              rw [hce] at q
              exact PostX.later (PostX.un S hz e1 e2 hw hlv hll (q σ)) s1
            | stuck => rw [hce] at q; exact q.elim
            | ok y τ2 =>
              rw [hce] at q
              dsimp only at q
              intro F2 Os2 Oy vy H2 s2 S2 x2 ry
              have eOy := ry.noO ne
              subst eOy
              split at q
              · rename_i w0 eg
                split at q
                · rename_i hiw
                  refine hr _ F2 H2 u1 vy x0 y w0 _ S2.trF (rx1.step S1.mono s2 (Nat.zero_le _) (by simp)) ry eg fun F3 Ow v3 H3 nw rv => ?_
                  have eOw := rv.noO rfl
                  subst eOw
                  have S3 := nw.sr S2
                  have s3 : Stp (lendB B L (Os z) (L.up z).n) F H F3 H3 := (s1.trans s2).trans (nw.stp S2.trF S2.trB)
                  cases hmb : mutB [] (D + 1) (D + 1) (gSet (.int (k : Int)) w0) z τ2 with
                  | exn c fs zs τ3 => exact (mutB_exn hmb).elim
                  | stuck => rw [hmb] at q; exact q.elim
                  | ok ret τ3 =>
                    rw [hmb] at q
                    dsimp only at q
                    obtain ⟨t3, sv, s4', et3, eg3, hD, hg, rfl⟩ := mutB_ok hmb
                    obtain ⟨P, hw', nd, own, fin⟩ := mut_end (Oy := []) S hz e1 e2 s3 S3 Xt.nil hl hD et3 eg3 rfl
                    have t3e : t3 = .lst xs := by
                      have := (S3.fixT (z, .lst xs) (by simp)).1
                      have h4 : τ2[z]? = some (some (.lst xs)) := this
                      rw [et3] at h4
                      cases h4
                      rfl
                    subst t3e
                    have se : sv = .lst xs := by
                      have : some (T.lst xs) = some sv := eg3
                      cases this
                      rfl
                    subst se
                    have ex : gSet (.int (k : Int)) w0 (.lst xs) = (ixN xs.length (k : Int)).map fun j => (T.non, T.lst (xs.set j w0)) := rfl
                    rw [ex, Option.map_eq_some_iff] at hg
                    obtain ⟨j, ej, hg⟩ := hg
                    cases hg
                    obtain ⟨a', vs3, Ps3, ea, hA3, rfl, r3⟩ := hw'
                    cases ea
                    have fa := own a (by simp)
                    rw [List.append_nil, List.nodup_cons] at nd
                    obtain ⟨k1, k2, _⟩ := ixN_seq ej
                    have ry3 : Ow X.K X.mg H3 F3 D [] v3 w0 := Ow.of_imm D hiw rv.2.2
                    obtain ⟨Os', S5, s5, x5⟩ := fin a _ (.lst (vs3.set j v3)) (a :: (Ps3.set j []).flatten) [] (.lst (xs.set j w0)) (by simp) hA3 trivial
                      ⟨a, _, Ps3.set j [], rfl, upd_same, rfl, owl_set r3 k2 (fun O v t hO q => ow_upd q fa.1 hA3 trivial fun zz => nd.1 (List.mem_flatten.mpr ⟨O, hO, zz⟩)) (ow_upd ry3 fa.1 hA3 trivial (by simp))⟩
                      (by
                        rw [List.append_nil, List.nodup_cons]
                        refine ⟨fun zz => nd.1 ?_, set_flat_nd (by simpa using nd.2)⟩
                        rcases set_flat_sub a zz with zz | zz
                        · exact zz
                        · cases zz)
                      (fun b hb => by
                        rw [List.append_nil] at hb
                        rw [List.append_nil]
                        rcases List.mem_cons.mp hb with zz | zz
                        · subst zz; simp
                        · rcases set_flat_sub b zz with zz | zz
                          · exact List.mem_cons_of_mem _ zz
                          · cases zz)
                    exact .inl ⟨a, vs3, (k : Int), j, rfl, vr_int ri, hA3, by rw [(owl_len r3).2]; exact ej, q F3 Os' _ σ s5 S5⟩
                · exact q.elim
              · exact q.elim
          · exact q.elim
        · exact q.elim
      · exact q.elim
end
section
variable {τ : Sl} {Pf : Fl → Sl → Prop} {Pl : List T → Sl → Prop} {E : XP}
@[simp] theorem wp_dkeys {i : Nat} : (@wp _ (cDKeys i) τ ⟨Pl, E⟩) = (@wpo _ (match τ[i]? with | some (some (.dct ks _)) => some (ks.map keyTr) | _ => none) ⟨(fun ts => Pl ts τ)⟩) := by
  unfold wp cDKeys
  cases τ[i]? with
  | none => rfl
  | some o =>
    cases o with
    | none => rfl
    | some t => cases t <;> rfl
@[simp] theorem wp_augI {z D : Nat} {g : T → T → Option T} {ci ce : M T} : (@wp _ (cAugI z D g ci ce) τ ⟨Pf, E⟩) = (@wp _ ci τ ⟨(fun i τ1 => (@wp _ (augB z D g i ce) τ1 ⟨Pf, E⟩)), noE⟩) := by
  unfold wp cAugI
  cases ci τ <;> rfl
theorem wp_augB {z D k : Nat} {g : T → T → Option T} {ce : M T} {xs : List T} (h : τ[z]? = some (some (.lst xs))) {x : T} (hx : xs[k]? = some x) (hi : imm x = true) : (@wp _ (augB z D g (.int (k : Int)) ce) τ ⟨Pf, E⟩) = (@wp _ ce τ ⟨(fun y τ2 => (@wpo _ (g x y) ⟨fun w => imm w = true ∧ (@wp _ (fun τ => mutB [] D D (gSet (.int (k : Int)) w) z τ) τ2 ⟨(fun _ τ3 => Pf .nx τ3), noE⟩)⟩)), E⟩) := by
  unfold wp augB
  rw [h]
  rw [show ((k : Nat) : Int) = Int.ofNat k from rfl]
  dsimp only
  rw [hx]
  dsimp only
  rw [if_pos hi]
  cases ce τ with
  | exn c fs zs τ2 => rfl
  | stuck => rfl
  | ok y τ2 =>
    dsimp only
    cases g x y with
    | none => rfl
    | some w =>
      dsimp only [wpo]
      by_cases hw : imm w = true
      · rw [if_pos hw]
        cases mutB [] D D (gSet (.int (Int.ofNat k)) w) z τ2 <;> simp [hw, noE]
      · rw [if_neg hw]
        simp [hw]
end
theorem ex_cal0 {X : Cx} {W : WX} {L : Lv} {Γh Γ : List Md} {k j : Nat} {ps : List Str} {sg : Sig} {g : List T → CR} {x : Str} {p pos : Pos} (tk : Takes X W) (C : Cal X.prog X.w X.K X.mg X.base x ps k sg g) (hr : Room j X.A) (hkj : k ≤ j) (hg : Gl X x)
    (hdb : (x == ("__debug__" : Str)) = false) (hf : sg.pm = []) (ro : sg.rmOk = true) (w : wkG Γh Γ = true) (lv : Γh.all (fun m => decide (m.lv ≤ L)) = true) :
    EX X W L Γh Γ (.Call (.Name x p) [] [] pos) (cCall g [] cNil) sg.rm Γ := by
  obtain ⟨f, fd, h1, h2, h3, h4⟩ := C.ex
  exact ex_call0 tk h4 (hr.mono hkj) hg h1 h2 h3 hdb hf ro (HOut.of w lv)
end TL

/-! TL34: own classes as their callers see them -/
namespace TL
open PySem PySem.Spec PyProof.Rows L2
structure CalM (P : Program) (w : World) (K : PySem.W.Frag) (mg : Str → Option Value) (base : Heap) (cn m : Str) (ps : List Str) (k : Nat) (sg : Sig) (g : List T → CR) : Prop where
  ex : ∃ C f fd, mg cn = some (.ref C) ∧ Cls K C ∧ Meth K C m f ∧ Binds K fd ps [] ∧ FnOk P w K mg base (L2.CX P w) k f fd ps (spT K mg sg g)
structure CalI (P : Program) (w : World) (K : PySem.W.Frag) (mg : Str → Option Value) (base : Heap) (cn : Str) (ps : List Str) (k : Nat) (sg : Sig) (g : List T → CR) : Prop where
  ex : ∃ C f fd, mg cn = some (.ref C) ∧ Mk K C f ∧ Binds K fd ps [] ∧ FnOk P w K mg base (L2.CX P w) k f fd ps (spT K mg sg g)
section
variable {X : Cx} {W : WX} {L : Lv} {Γh Γ Γ1 Γ2 Γ' : List Md} {e o : Expr} {es : List Expr} {co : M T} {mo : Md} {ai : List AI} {pos apos : Pos} {cl : M (List T)} {k j : Nat} {ps : List Str} {sg : Sig} {g : List T → CR} {cn nm x : Str} {p : Pos} {pl : Sem Bool}
theorem ex_cM (tk : Takes X W) (C : CalM X.prog X.w X.K X.mg X.base cn nm ps k sg g) (hr : Room j X.A) (hkj : k ≤ j) (ho : EX X W L Γh Γ o co mo Γ1) (nm' : mo.own = false) (lo : mo.lv ≤ L) (ha : IX X W L Γh Γ1 (e :: es) cl ai Γ2)
    (hst : starEach (e :: es) X.env = (false, eval e X.env) :: starEach es X.env) (hpl : (backTo pos (starEach es X.env)).any (·.1) = false)
    (ht : eval (.Call (.Attribute o nm apos) (e :: es) [] pos) X.env = (do
      let ov ← eval o X.env
      standAt apos.atName
      let (fn, hd) ← holding [ov] (getMethod ov nm pl)
      callWith pos fn hd (backTo pos (starEach (e :: es) X.env)) (backToKw pos (keywordEach [] X.env))))
    (hf : AI.fitsL (.e mo :: ai) sg.pm = true) (io : ioOk Γ2 ai = true) (ro : sg.rmOk = true) (w : wkG Γh Γ2 = true) (lv : Γh.all (fun m => decide (m.lv ≤ L)) = true) :
    EX X W L Γh Γ (.Call (.Attribute o nm apos) (e :: es) [] pos) (cMethE cn nm g mo ai co cl) sg.rm Γ2 := by
  obtain ⟨C, f, fd, h1, h2, h3, h4, h5⟩ := C.ex
  exact ex_methE tk ho nm' lo h1 h2 h3 h5 (hr.mono hkj) h4 ha hst hpl ht hf io ro (HOut.of w lv)
theorem ex_cM0 (tk : Takes X W) (C : CalM X.prog X.w X.K X.mg X.base cn nm ps k sg g) (hr : Room j X.A) (hkj : k ≤ j) (ho : EX X W L Γh Γ o co mo Γ1) (nm' : mo.own = false) (lo : mo.lv ≤ L)
    (ht : eval (.Call (.Attribute o nm apos) [] [] pos) X.env = (do
      let ov ← eval o X.env
      standAt apos.atName
      let (fn, hd) ← holding [ov] (getMethod ov nm pl)
      callWith pos fn hd (backTo pos (starEach [] X.env)) (backToKw pos (keywordEach [] X.env))))
    (hf : AI.fitsL [.e mo] sg.pm = true) (ro : sg.rmOk = true) (w : wkG Γh Γ1 = true) (lv : Γh.all (fun m => decide (m.lv ≤ L)) = true) :
    EX X W L Γh Γ (.Call (.Attribute o nm apos) [] [] pos) (cMethE cn nm g mo [] co cNil) sg.rm Γ1 := by
  obtain ⟨C, f, fd, h1, h2, h3, h4, h5⟩ := C.ex
  exact ex_methE0 tk ho nm' lo h1 h2 h3 h5 (hr.mono hkj) h4 ht hf ro (HOut.of w lv)
theorem ex_cMI {i d : Nat} {y : Str} {yp : Pos} (tk : Takes X W) (C : CalM X.prog X.w X.K X.mg X.base cn nm ps k sg g) (hr : Room j X.A) (hkj : k ≤ j) (hN : X.N[i]? = some y) (hv : Vis X.env.scope y) (hd : (y == ("__debug__" : Str)) = false) (hcd : (y == ("__classdict__" : Str)) = false) (hmd : Γ[i]? = some (.ow d))
    (ha : IX X W L Γh Γ (e :: es) cl ai Γ2)
    (hst : starEach (e :: es) X.env = (false, eval e X.env) :: starEach es X.env) (hpl : (backTo pos (starEach es X.env)).any (·.1) = false)
    (ht : eval (.Call (.Attribute (.Name y yp) nm apos) (e :: es) [] pos) X.env = (do
      let ov ← eval (.Name y yp) X.env
      standAt apos.atName
      let (fn, hd) ← holding [ov] (getMethod ov nm pl)
      callWith pos fn hd (backTo pos (starEach (e :: es) X.env)) (backToKw pos (keywordEach [] X.env))))
    (hf : AI.fitsL (.io i d :: ai) sg.pm = true) (io : ioOk Γ2 (.io i d :: ai) = true) (ro : sg.rmOk = true) (w : wkG Γh Γ2 = true) (lv : Γh.all (fun m => decide (m.lv ≤ L)) = true) :
    EX X W L Γh Γ (.Call (.Attribute (.Name y yp) nm apos) (e :: es) [] pos) (cMethI cn nm g i d ai cl) sg.rm Γ2 := by
  obtain ⟨C, f, fd, h1, h2, h3, h4, h5⟩ := C.ex
  exact ex_methI tk hN hv hd hcd hmd h1 h2 h3 h5 (hr.mono hkj) h4 ha hst hpl ht hf io ro (HOut.of w lv)
theorem ex_cMI0 {i d : Nat} {y : Str} {yp : Pos} (tk : Takes X W) (C : CalM X.prog X.w X.K X.mg X.base cn nm ps k sg g) (hr : Room j X.A) (hkj : k ≤ j) (hN : X.N[i]? = some y) (hv : Vis X.env.scope y) (hd : (y == ("__debug__" : Str)) = false) (hcd : (y == ("__classdict__" : Str)) = false) (hmd : Γ[i]? = some (.ow d))
    (ht : eval (.Call (.Attribute (.Name y yp) nm apos) [] [] pos) X.env = (do
      let ov ← eval (.Name y yp) X.env
      standAt apos.atName
      let (fn, hd) ← holding [ov] (getMethod ov nm pl)
      callWith pos fn hd (backTo pos (starEach [] X.env)) (backToKw pos (keywordEach [] X.env))))
    (hf : AI.fitsL [.io i d] sg.pm = true) (io : ioOk Γ [.io i d] = true) (ro : sg.rmOk = true) (w : wkG Γh Γ = true) (lv : Γh.all (fun m => decide (m.lv ≤ L)) = true) :
    EX X W L Γh Γ (.Call (.Attribute (.Name y yp) nm apos) [] [] pos) (cMethI cn nm g i d [] cNil) sg.rm Γ := by
  obtain ⟨C, f, fd, h1, h2, h3, h4, h5⟩ := C.ex
  exact ex_methI0 tk hN hv hd hcd hmd h1 h2 h3 h5 (hr.mono hkj) h4 ht hf io ro (HOut.of w lv)
theorem ex_cMk {d : Nat} {pm : List PM} (tk : Takes X W) (C : CalI X.prog X.w X.K X.mg X.base x ps k sg g) (hr : Room j X.A) (hkj : k + 1 ≤ j) (hg : Gl X x)
    (ha : IX X W L Γh Γ (e :: es) cl ai Γ1) (hdb : (x == ("__debug__" : Str)) = false) (he : starEach (e :: es) X.env = (false, eval e X.env) :: starEach es X.env) (hpl : (backTo pos (starEach es X.env)).any (·.1) = false)
    (hs : sg.pm = .io (d + 1) :: pm) (hrm : sg.rm = .sc) (hf : AI.fitsL ai pm = true) (hn : noIo ai = true) (w : wkG Γh Γ1 = true) (lv : Γh.all (fun m => decide (m.lv ≤ L)) = true) :
    EX X W L Γh Γ (.Call (.Name x p) (e :: es) [] pos) (cMake x g ai cl) (.ow (d + 1)) Γ1 := by
  obtain ⟨C, f, fd, h1, h2, h3, h4⟩ := C.ex
  exact ex_make tk h2 h4 (hr.mono hkj) hg h1 h3 ha hdb he hpl hs hrm hf hn (HOut.of w lv)
end
/-- the fields' table -/
def tabOf (l : List (Str × Str)) (c f : Str) : Bool := l.contains (c, f)
theorem tab_ok {K : PySem.W.Frag} {mg : Str → Option Value} {l : List (Str × Str)} (h : ∀ q ∈ l, ∃ A, mg q.1 = some (.ref A) ∧ Cls K A ∧ NoAttr K A q.2) : FldOk K mg (tabOf l) := fun c f A ht hm => by
  unfold tabOf at ht
  rw [List.contains_iff_mem] at ht
  obtain ⟨A', h1, h2, h3⟩ := h (c, f) ht
  rw [hm] at h1
  cases h1
  exact ⟨h2, h3⟩
section
variable {τ : Sl} {Q : T → Sl → Prop} {E : XP}
@[simp] theorem wp_cFin {g : List T → CR} {ai : List AI} {ts : List T} : (@wp _ (cFin g ai ts) τ ⟨Q, E⟩) = (@wpo _ (AI.fill τ ai ts) ⟨fun args => (@wpg (g args) ⟨(fun t outs => Q t (AI.put τ (AI.slots ai) outs)), fun c fs xs outs => E c fs xs (AI.put τ (AI.slots ai) outs)⟩)⟩) := by
  unfold wp cFin
  cases AI.fill τ ai ts with
  | none => rfl
  | some args => dsimp only; unfold wpo wpg; dsimp only; cases g args <;> rfl
@[simp] theorem wp_methE {c m : Str} {g : List T → CR} {mo : Md} {ai : List AI} {co : M T} {cl : M (List T)} : (@wp _ (cMethE c m g mo ai co cl) τ ⟨Q, E⟩) = (@wp _ co τ ⟨(fun x τ1 => oIns c m x = true ∧ (@wp _ cl τ1 ⟨(fun ts τ2 => (@wp _ (cFin g (.e mo :: ai) (x :: ts)) τ2 ⟨Q, E⟩)), E⟩)), E⟩) := by
  unfold cMethE
  rw [wp_bind]
  refine wp_eq fun x τ1 => ?_
  by_cases h : oIns c m x = true
  · rw [if_pos h, wp_bind]
    exact propext ⟨fun q => ⟨h, q⟩, fun q => q.2⟩
  · rw [if_neg h]
    exact propext ⟨fun q => q.elim, fun q => absurd q.1 h⟩
@[simp] theorem wp_methI {c m : Str} {g : List T → CR} {i d : Nat} {ai : List AI} {cl : M (List T)} : (@wp _ (cMethI c m g i d ai cl) τ ⟨Q, E⟩) = (@wpo _ ((τ[i]?).getD none) ⟨fun x => oIns c m x = true ∧ (@wp _ cl τ ⟨(fun ts τ2 => (@wp _ (cFin g (.io i d :: ai) (.non :: ts)) τ2 ⟨Q, E⟩)), E⟩)⟩) := by
  unfold cMethI
  rw [wp_bind, wp_var]
  cases (τ[i]?).getD none with
  | none => rfl
  | some x =>
    simp only [wpo_some]
    by_cases h : oIns c m x = true
    · rw [if_pos h, wp_bind]
      exact propext ⟨fun q => ⟨h, q⟩, fun q => q.2⟩
    · rw [if_neg h]
      exact propext ⟨fun q => q.elim, fun q => absurd q.1 h⟩
def mkP (t : T) (outs : List T) (P : T → Prop) : Prop := match t, outs with
  | .non, x :: _ => P x
  | _, _ => False
@[simp] theorem wp_make {c : Str} {g : List T → CR} {ai : List AI} {cl : M (List T)} : (@wp _ (cMake c g ai cl) τ ⟨Q, E⟩) = (@wp _ cl τ ⟨(fun ts τ1 => (@wpo _ (AI.fill τ1 ai ts) ⟨fun args => (@wpg (g (.ins c [] [] :: args)) ⟨(fun t outs => mkP t outs fun x => Q x τ1), fun c fs xs outs => E c fs xs τ1⟩)⟩)), E⟩) := by
  unfold cMake
  rw [wp_bind]
  refine wp_eq fun ts τ1 => ?_
  unfold wp
  dsimp only
  cases AI.fill τ1 ai ts with
  | none => rfl
  | some args =>
    dsimp only [wpo]
    unfold wpg
    cases g (.ins c [] [] :: args) with
    | ok t outs =>
      dsimp only
      unfold mkP
      cases t <;> first
        | (cases outs <;> rfl)
        | rfl
    | exn c fs xs o => rfl
    | stuck => rfl
@[simp] theorem mkP_non {x : T} {r : List T} {P : T → Prop} : mkP .non (x :: r) P = P x := by
  exact id rfl
end
end TL

namespace K79
open PySem PySem.Spec PyProof.Rows L2 TL
def top (i : Nat) : Stmt := PySem.Challenge.pw_dapple_k79_strength_against_blots.main.body.getD i (.Pass ⟨0, 0, 0, 0⟩)
theorem q_BLOCK : NmOk "BLOCK" := ⟨by decide +kernel, by decide +kernel⟩
theorem q_ELEMENT_BITS : NmOk "ELEMENT_BITS" := ⟨by decide +kernel, by decide +kernel⟩
theorem q__law_added : NmOk "_law_added" := ⟨by decide +kernel, by decide +kernel⟩
theorem q__law_draw : NmOk "_law_draw" := ⟨by decide +kernel, by decide +kernel⟩
theorem q__law_equal : NmOk "_law_equal" := ⟨by decide +kernel, by decide +kernel⟩
theorem q__law_is_int : NmOk "_law_is_int" := ⟨by decide +kernel, by decide +kernel⟩
theorem q__law_lengths : NmOk "_law_lengths" := ⟨by decide +kernel, by decide +kernel⟩
theorem q__law_pool : NmOk "_law_pool" := ⟨by decide +kernel, by decide +kernel⟩
theorem q__law_spread : NmOk "_law_spread" := ⟨by decide +kernel, by decide +kernel⟩
theorem q__law_stands : NmOk "_law_stands" := ⟨by decide +kernel, by decide +kernel⟩
theorem q_added : NmOk "added" := ⟨by decide +kernel, by decide +kernel⟩
theorem q_added_count : NmOk "added_count" := ⟨by decide +kernel, by decide +kernel⟩
theorem q_all : NmOk "all" := ⟨by decide +kernel, by decide +kernel⟩
theorem q_any : NmOk "any" := ⟨by decide +kernel, by decide +kernel⟩
theorem q_bad : NmOk "bad" := ⟨by decide +kernel, by decide +kernel⟩
theorem q_block_count : NmOk "block_count" := ⟨by decide +kernel, by decide +kernel⟩
theorem q_block_lengths : NmOk "block_lengths" := ⟨by decide +kernel, by decide +kernel⟩
theorem q_blocks : NmOk "blocks" := ⟨by decide +kernel, by decide +kernel⟩
theorem q_blot_strength : NmOk "blot_strength" := ⟨by decide +kernel, by decide +kernel⟩
theorem q_bool : NmOk "bool" := ⟨by decide +kernel, by decide +kernel⟩
theorem q_capacity : NmOk "capacity" := ⟨by decide +kernel, by decide +kernel⟩
theorem q_cell : NmOk "cell" := ⟨by decide +kernel, by decide +kernel⟩
theorem q_cells : NmOk "cells" := ⟨by decide +kernel, by decide +kernel⟩
theorem q_column : NmOk "column" := ⟨by decide +kernel, by decide +kernel⟩
theorem q_count : NmOk "count" := ⟨by decide +kernel, by decide +kernel⟩
theorem q_dict : NmOk "dict" := ⟨by decide +kernel, by decide +kernel⟩
theorem q_element_count : NmOk "element_count" := ⟨by decide +kernel, by decide +kernel⟩
theorem q_field_cells : NmOk "field_cells" := ⟨by decide +kernel, by decide +kernel⟩
theorem q_grade : NmOk "grade" := ⟨by decide +kernel, by decide +kernel⟩
theorem q_hit : NmOk "hit" := ⟨by decide +kernel, by decide +kernel⟩
theorem q_index : NmOk "index" := ⟨by decide +kernel, by decide +kernel⟩
theorem q_inner : NmOk "inner" := ⟨by decide +kernel, by decide +kernel⟩
theorem q_int : NmOk "int" := ⟨by decide +kernel, by decide +kernel⟩
theorem q_k : NmOk "k" := ⟨by decide +kernel, by decide +kernel⟩
theorem q_key : NmOk "key" := ⟨by decide +kernel, by decide +kernel⟩
theorem q_left : NmOk "left" := ⟨by decide +kernel, by decide +kernel⟩
theorem q_len : NmOk "len" := ⟨by decide +kernel, by decide +kernel⟩
theorem q_length : NmOk "length" := ⟨by decide +kernel, by decide +kernel⟩
theorem q_lengths : NmOk "lengths" := ⟨by decide +kernel, by decide +kernel⟩
theorem q_list : NmOk "list" := ⟨by decide +kernel, by decide +kernel⟩
theorem q_lost : NmOk "lost" := ⟨by decide +kernel, by decide +kernel⟩
theorem q_lost_counts : NmOk "lost_counts" := ⟨by decide +kernel, by decide +kernel⟩
theorem q_many : NmOk "many" := ⟨by decide +kernel, by decide +kernel⟩
theorem q_mixed : NmOk "mixed" := ⟨by decide +kernel, by decide +kernel⟩
theorem q_most : NmOk "most" := ⟨by decide +kernel, by decide +kernel⟩
theorem q_number : NmOk "number" := ⟨by decide +kernel, by decide +kernel⟩
theorem q_part : NmOk "part" := ⟨by decide +kernel, by decide +kernel⟩
theorem q_pool : NmOk "pool" := ⟨by decide +kernel, by decide +kernel⟩
theorem q_row : NmOk "row" := ⟨by decide +kernel, by decide +kernel⟩
theorem q_salt : NmOk "salt" := ⟨by decide +kernel, by decide +kernel⟩
theorem q_script : NmOk "script" := ⟨by decide +kernel, by decide +kernel⟩
theorem q_side : NmOk "side" := ⟨by decide +kernel, by decide +kernel⟩
theorem q_size : NmOk "size" := ⟨by decide +kernel, by decide +kernel⟩
theorem q_str : NmOk "str" := ⟨by decide +kernel, by decide +kernel⟩
theorem q_sum : NmOk "sum" := ⟨by decide +kernel, by decide +kernel⟩
theorem q_told : NmOk "told" := ⟨by decide +kernel, by decide +kernel⟩
theorem q_top : NmOk "top" := ⟨by decide +kernel, by decide +kernel⟩
theorem q_total : NmOk "total" := ⟨by decide +kernel, by decide +kernel⟩
theorem q_totals : NmOk "totals" := ⟨by decide +kernel, by decide +kernel⟩
theorem q_tuple : NmOk "tuple" := ⟨by decide +kernel, by decide +kernel⟩
theorem q_value : NmOk "value" := ⟨by decide +kernel, by decide +kernel⟩
theorem q_withstands : NmOk "withstands" := ⟨by decide +kernel, by decide +kernel⟩
theorem q_x : NmOk "x" := ⟨by decide +kernel, by decide +kernel⟩
theorem q_y : NmOk "y" := ⟨by decide +kernel, by decide +kernel⟩
def k_BLOCK : T := (.int 31)
def k_ELEMENT_BITS : T := (.int 5)

def tabL : List (PySem.Str × PySem.Str) := []
def tabF : PySem.Str → PySem.Str → Bool := tabOf tabL
/-! _law_pool -/
abbrev st__law_pool : Stmt := (top 19)
abbrev N__law_pool : List PySem.Str := ["script", "salt", "cell"]
theorem S__law_pool : FnScope N__law_pool ["script"] (defScope st__law_pool) := ⟨rfl, rfl, rfl, by decide +kernel, rfl, by decide +kernel, by decide +kernel⟩
theorem lk__law_pool_0 : (defScope st__law_pool).names.lookup ("script" : PySem.Str) = some PySem.NameKind.local := by decide +kernel
theorem vs__law_pool_0 : Vis (defScope st__law_pool) "script" := .inl lk__law_pool_0
theorem lo__law_pool_0 : L2.Loc (defScope st__law_pool) "script" := .inl lk__law_pool_0
theorem lk__law_pool_1 : (defScope st__law_pool).names.lookup ("salt" : PySem.Str) = some PySem.NameKind.local := by decide +kernel
theorem vs__law_pool_1 : Vis (defScope st__law_pool) "salt" := .inl lk__law_pool_1
theorem lo__law_pool_1 : L2.Loc (defScope st__law_pool) "salt" := .inl lk__law_pool_1
theorem lk__law_pool_2 : (defScope st__law_pool).names.lookup ("cell" : PySem.Str) = some PySem.NameKind.local := by decide +kernel
theorem vs__law_pool_2 : Vis (defScope st__law_pool) "cell" := .inl lk__law_pool_2
theorem lo__law_pool_2 : L2.Loc (defScope st__law_pool) "cell" := .inl lk__law_pool_2
def c__law_pool_l1 : M Fl := (cSet 1 (cOp2 oMod (cOpL gInt (cCons (cOp2 oAddN (cOp2 oMulN (cVar 1) (cLit (.int 31))) (cVar 2)) cNil)) (cLit (.int 1000003))))
def c__law_pool : M Fl := (cSeq (cSet 1 (cLit (.int 7))) (cSeq (cFor (.nm 2) (cIt false (cSl true (cVar 0) .no (.yes (cLit (.int 63))))) c__law_pool_l1) (cRet (cOpL oLst (cCons (cOpL (gList true) (cCons (cVar 0) cNil)) (cCons (cLit (.int 0)) (cCons (cLit (.int 0)) (cCons (cLit (.int 0)) (cCons (cVar 1) cNil)))))))))
@[irreducible] def g__law_pool : List T → CR := runF [.fr] 2 c__law_pool
theorem w__law_pool {P : Program} {w : World} {K : PySem.W.Frag} {mg : PySem.Str → Option Value} {base : Heap} {fa : Addr} {fd : FuncData} (mg_int : mg "int" = none) (mg_list : mg "list" = none) (F : FunD K "_law_pool" "_law_pool" (defArgs st__law_pool) (defBody st__law_pool) (defScope st__law_pool) [] [] fa fd) (hm : mg "_law_pool" = some (.ref fa)) : FnOk P w K mg base (L2.CX P w) 1 fa fd ["script"] (spT K mg ⟨[.fr], (.ow 1)⟩ g__law_pool) := by
  unfold g__law_pool
  refine fn_ok (n := 2) (c := c__law_pool) F S__law_pool rfl rfl (by decide) fun cdv A outer s H E hr => ?_
  have tk : Takes (cxOf (L2.CX P w) P w K mg base N__law_pool "_law_pool" (defScope st__law_pool) fa cdv A outer s H E) (WEx E) := takes_of rfl rfl rfl rfl
  have nd := S__law_pool.nd
  exact (sx_cons (sx_g (Γ' := [.fr, .sc, .un]) (s_set (i := 1) nd rfl (lo__law_pool_1) ex_int rfl (.inl rfl) (by decide) rfl (by decide)) rfl)
  (sx_cons (s_for (Γi := [.fr, .sc, .un]) (Γb := [.fr, .sc, .fr]) (p := (.nm 2)) (c := c__law_pool_l1) (passes_of rfl) rfl (wx_any (ma := .fr) (ex_freeze (ex_sl (ma := .fr) (ex_var (i := 0) rfl (vs__law_pool_0) q_script.1 q_script.2 rfl rfl (by decide)) (.inl ⟨rfl, rfl, rfl⟩) (.inr ⟨_, _, _, rfl, rfl, rfl, ex_int⟩) rfl (by decide))) rfl (by decide)) rfl rfl (gx_g (Γ' := [.fr, .sc, .fr]) (gx_name (i := 2) nd rfl (lo__law_pool_2) (.inl rfl) (by decide) rfl (by decide)) rfl)
  (sx_weak (Γ1 := [.fr, .sc, .fr]) (sx_one (sx_g (Γ' := [.fr, .sc, .fr]) (s_set (i := 1) nd rfl (lo__law_pool_1) (ex_bin op_mod (ex_callTy call_intAny rfl mg_int PySem.Pv.boot_int (by decide) q_int.1 rfl rfl (ax_cons (fun _ _ h => nomatch h) (ex_bin op_addT (ex_bin op_mulT (ex_var (i := 1) rfl (vs__law_pool_1) q_salt.1 q_salt.2 rfl rfl (by decide)) ex_int rfl rfl (by decide) (fun _ => s_mulN)) (ex_var (i := 2) rfl (vs__law_pool_2) q_cell.1 q_cell.2 rfl rfl (by decide)) rfl rfl (by decide) (fun _ => s_addN)) ax_nil rfl (by decide)) (fun _ => l_int)) ex_int rfl rfl (by decide) (fun _ => s_mod)) rfl (.inl rfl) (by decide) rfl (by decide)) rfl)) rfl rfl) (fun _ => rfl))
  (sx_one (s_ret (ex_lst (ax_cons (fun _ _ h => nomatch h) (ex_freeze (ex_callTy call_list_of rfl mg_list PySem.Pv.boot_list (by decide) q_list.1 rfl rfl (ax_cons (fun _ _ h => nomatch h) (ex_var (i := 0) rfl (vs__law_pool_0) q_script.1 q_script.2 rfl rfl (by decide)) ax_nil rfl (by decide)) (fun _ => (l_list rfl)))) (ax_cons (fun _ _ h => nomatch h) ex_int (ax_cons (fun _ _ h => nomatch h) ex_int (ax_cons (fun _ _ h => nomatch h) ex_int (ax_cons (fun _ _ h => nomatch h) (ex_var (i := 1) rfl (vs__law_pool_1) q_salt.1 q_salt.2 rfl rfl (by decide)) ax_nil rfl (by decide)) rfl (by decide)) rfl (by decide)) rfl (by decide)) rfl (by decide)) rfl) rfl rfl rfl (by decide)))))
theorem ok__law_pool {P : Program} {w : World} {K : PySem.W.Frag} {mg : PySem.Str → Option Value} {base : Heap} {fa : Addr} {fd : FuncData} (mg_int : mg "int" = none) (mg_list : mg "list" = none) (F : FunD K "_law_pool" "_law_pool" (defArgs st__law_pool) (defBody st__law_pool) (defScope st__law_pool) [] [] fa fd) (hm : mg "_law_pool" = some (.ref fa)) : Cal P w K mg base "_law_pool" ["script"] 1 ⟨[.fr], (.ow 1)⟩ g__law_pool := ⟨fa, fd, hm, F.kp, F.bindsN (fun _ _ _ _ _ _ us hl => match us, hl with | [_], _ => rfl), w__law_pool mg_int mg_list F hm⟩
/-! added_count -/
abbrev st_added_count : Stmt := (top 6)
abbrev N_added_count : List PySem.Str := ["length", "grade"]
theorem S_added_count : FnScope N_added_count ["length", "grade"] (defScope st_added_count) := ⟨rfl, rfl, rfl, by decide +kernel, rfl, by decide +kernel, by decide +kernel⟩
theorem lk_added_count_0 : (defScope st_added_count).names.lookup ("length" : PySem.Str) = some PySem.NameKind.local := by decide +kernel
theorem vs_added_count_0 : Vis (defScope st_added_count) "length" := .inl lk_added_count_0
theorem lo_added_count_0 : L2.Loc (defScope st_added_count) "length" := .inl lk_added_count_0
theorem lk_added_count_1 : (defScope st_added_count).names.lookup ("grade" : PySem.Str) = some PySem.NameKind.local := by decide +kernel
theorem vs_added_count_1 : Vis (defScope st_added_count) "grade" := .inl lk_added_count_1
theorem lo_added_count_1 : L2.Loc (defScope st_added_count) "grade" := .inl lk_added_count_1
def c_added_count : M Fl := (cRet (cOp2 oMulN (cLit (.int 2)) (cOp2 oDiv (cOp2 oMulN (cVar 0) (cVar 1)) (cLit (.int 8)))))
@[irreducible] def g_added_count : List T → CR := runF [.fr, .fr] 0 c_added_count
theorem w_added_count {P : Program} {w : World} {K : PySem.W.Frag} {mg : PySem.Str → Option Value} {base : Heap} {fa : Addr} {fd : FuncData} (F : FunD K "added_count" "added_count" (defArgs st_added_count) (defBody st_added_count) (defScope st_added_count) [] [] fa fd) (hm : mg "added_count" = some (.ref fa)) : FnOk P w K mg base (L2.CX P w) 1 fa fd ["length", "grade"] (spT K mg ⟨[.fr, .fr], .sc⟩ g_added_count) := by
  unfold g_added_count
  refine fn_ok (n := 0) (c := c_added_count) F S_added_count rfl rfl (by decide) fun cdv A outer s H E hr => ?_
  have tk : Takes (cxOf (L2.CX P w) P w K mg base N_added_count "added_count" (defScope st_added_count) fa cdv A outer s H E) (WEx E) := takes_of rfl rfl rfl rfl
  have nd := S_added_count.nd
  exact (sx_one (s_ret (ex_bin op_mulT ex_int (ex_bin op_fdivW (ex_bin op_mulT (ex_var (i := 0) rfl (vs_added_count_0) q_length.1 q_length.2 rfl rfl (by decide)) (ex_var (i := 1) rfl (vs_added_count_1) q_grade.1 q_grade.2 rfl rfl (by decide)) rfl rfl (by decide) (fun _ => s_mulN)) ex_int rfl rfl (by decide) (fun _ => s_div)) rfl rfl (by decide) (fun _ => s_mulN)) rfl rfl rfl (by decide)))
theorem ok_added_count {P : Program} {w : World} {K : PySem.W.Frag} {mg : PySem.Str → Option Value} {base : Heap} {fa : Addr} {fd : FuncData} (F : FunD K "added_count" "added_count" (defArgs st_added_count) (defBody st_added_count) (defScope st_added_count) [] [] fa fd) (hm : mg "added_count" = some (.ref fa)) : Cal P w K mg base "added_count" ["length", "grade"] 1 ⟨[.fr, .fr], .sc⟩ g_added_count := ⟨fa, fd, hm, F.kp, F.bindsN (fun _ _ _ _ _ _ us hl => match us, hl with | [_, _], _ => rfl), w_added_count F hm⟩
/-! element_count -/
abbrev st_element_count : Stmt := (top 3)
abbrev N_element_count : List PySem.Str := ["side"]
theorem S_element_count : FnScope N_element_count ["side"] (defScope st_element_count) := ⟨rfl, rfl, rfl, by decide +kernel, rfl, by decide +kernel, by decide +kernel⟩
theorem lk_element_count_0 : (defScope st_element_count).names.lookup ("side" : PySem.Str) = some PySem.NameKind.local := by decide +kernel
theorem vs_element_count_0 : Vis (defScope st_element_count) "side" := .inl lk_element_count_0
theorem lo_element_count_0 : L2.Loc (defScope st_element_count) "side" := .inl lk_element_count_0
def c_element_count : M Fl := (cRet (cOp2 oDiv (cOp2 oMulN (cOp2 oSub (cVar 0) (cLit (.int 2))) (cOp2 oSub (cVar 0) (cLit (.int 2)))) (cLit k_ELEMENT_BITS)))
@[irreducible] def g_element_count : List T → CR := runF [.fr] 0 c_element_count
theorem w_element_count {P : Program} {w : World} {K : PySem.W.Frag} {mg : PySem.Str → Option Value} {base : Heap} {fa : Addr} {fd : FuncData} (cn_ELEMENT_BITS : Cn K mg "ELEMENT_BITS" k_ELEMENT_BITS) (F : FunD K "element_count" "element_count" (defArgs st_element_count) (defBody st_element_count) (defScope st_element_count) [] [] fa fd) (hm : mg "element_count" = some (.ref fa)) : FnOk P w K mg base (L2.CX P w) 1 fa fd ["side"] (spT K mg ⟨[.fr], .sc⟩ g_element_count) := by
  unfold g_element_count
  refine fn_ok (n := 0) (c := c_element_count) F S_element_count rfl rfl (by decide) fun cdv A outer s H E hr => ?_
  have tk : Takes (cxOf (L2.CX P w) P w K mg base N_element_count "element_count" (defScope st_element_count) fa cdv A outer s H E) (WEx E) := takes_of rfl rfl rfl rfl
  have nd := S_element_count.nd
  exact (sx_one (s_ret (ex_bin op_fdivW (ex_bin op_mulT (ex_bin op_sub (ex_var (i := 0) rfl (vs_element_count_0) q_side.1 q_side.2 rfl rfl (by decide)) ex_int rfl rfl (by decide) (fun _ => s_sub)) (ex_bin op_sub (ex_var (i := 0) rfl (vs_element_count_0) q_side.1 q_side.2 rfl rfl (by decide)) ex_int rfl rfl (by decide) (fun _ => s_sub)) rfl rfl (by decide) (fun _ => s_mulN)) (ex_cn (t := k_ELEMENT_BITS) cn_ELEMENT_BITS rfl q_ELEMENT_BITS.1) rfl rfl (by decide) (fun _ => s_div)) rfl rfl rfl (by decide)))
theorem ok_element_count {P : Program} {w : World} {K : PySem.W.Frag} {mg : PySem.Str → Option Value} {base : Heap} {fa : Addr} {fd : FuncData} (cn_ELEMENT_BITS : Cn K mg "ELEMENT_BITS" k_ELEMENT_BITS) (F : FunD K "element_count" "element_count" (defArgs st_element_count) (defBody st_element_count) (defScope st_element_count) [] [] fa fd) (hm : mg "element_count" = some (.ref fa)) : Cal P w K mg base "element_count" ["side"] 1 ⟨[.fr], .sc⟩ g_element_count := ⟨fa, fd, hm, F.kp, F.bindsN (fun _ _ _ _ _ _ us hl => match us, hl with | [_], _ => rfl), w_element_count cn_ELEMENT_BITS F hm⟩
/-! block_count -/
abbrev st_block_count : Stmt := (top 4)
abbrev N_block_count : List PySem.Str := ["side"]
theorem S_block_count : FnScope N_block_count ["side"] (defScope st_block_count) := ⟨rfl, rfl, rfl, by decide +kernel, rfl, by decide +kernel, by decide +kernel⟩
theorem lk_block_count_0 : (defScope st_block_count).names.lookup ("side" : PySem.Str) = some PySem.NameKind.local := by decide +kernel
theorem vs_block_count_0 : Vis (defScope st_block_count) "side" := .inl lk_block_count_0
theorem lo_block_count_0 : L2.Loc (defScope st_block_count) "side" := .inl lk_block_count_0
def c_block_count : M Fl := (cRet (cOp2 oDiv (cOp2 oSub (cOp2 oAddN (cCall g_element_count [.e .fr] (cCons (cVar 0) cNil)) (cLit k_BLOCK)) (cLit (.int 1))) (cLit k_BLOCK)))
@[irreducible] def g_block_count : List T → CR := runF [.fr] 0 c_block_count
theorem w_block_count {P : Program} {w : World} {K : PySem.W.Frag} {mg : PySem.Str → Option Value} {base : Heap} {fa : Addr} {fd : FuncData} (C_element_count : Cal P w K mg base "element_count" ["side"] 1 ⟨[.fr], .sc⟩ g_element_count) (cn_BLOCK : Cn K mg "BLOCK" k_BLOCK) (F : FunD K "block_count" "block_count" (defArgs st_block_count) (defBody st_block_count) (defScope st_block_count) [] [] fa fd) (hm : mg "block_count" = some (.ref fa)) : FnOk P w K mg base (L2.CX P w) 2 fa fd ["side"] (spT K mg ⟨[.fr], .sc⟩ g_block_count) := by
  unfold g_block_count
  refine fn_ok (n := 0) (c := c_block_count) F S_block_count rfl rfl (by decide) fun cdv A outer s H E hr => ?_
  have tk : Takes (cxOf (L2.CX P w) P w K mg base N_block_count "block_count" (defScope st_block_count) fa cdv A outer s H E) (WEx E) := takes_of rfl rfl rfl rfl
  have nd := S_block_count.nd
  exact (sx_one (s_ret (ex_bin op_fdivW (ex_bin op_sub (ex_bin op_addT (ex_cal (sg := ⟨[.fr], .sc⟩) tk C_element_count hr (by decide) rfl (ix_cons (fun _ _ h => nomatch h) (ex_var (i := 0) rfl (vs_block_count_0) q_side.1 q_side.2 rfl rfl (by decide)) ix_nil rfl (by decide)) q_element_count.1 rfl rfl rfl rfl rfl rfl rfl) (ex_cn (t := k_BLOCK) cn_BLOCK rfl q_BLOCK.1) rfl rfl (by decide) (fun _ => s_addN)) ex_int rfl rfl (by decide) (fun _ => s_sub)) (ex_cn (t := k_BLOCK) cn_BLOCK rfl q_BLOCK.1) rfl rfl (by decide) (fun _ => s_div)) rfl rfl rfl (by decide)))
theorem ok_block_count {P : Program} {w : World} {K : PySem.W.Frag} {mg : PySem.Str → Option Value} {base : Heap} {fa : Addr} {fd : FuncData} (C_element_count : Cal P w K mg base "element_count" ["side"] 1 ⟨[.fr], .sc⟩ g_element_count) (cn_BLOCK : Cn K mg "BLOCK" k_BLOCK) (F : FunD K "block_count" "block_count" (defArgs st_block_count) (defBody st_block_count) (defScope st_block_count) [] [] fa fd) (hm : mg "block_count" = some (.ref fa)) : Cal P w K mg base "block_count" ["side"] 2 ⟨[.fr], .sc⟩ g_block_count := ⟨fa, fd, hm, F.kp, F.bindsN (fun _ _ _ _ _ _ us hl => match us, hl with | [_], _ => rfl), w_block_count C_element_count cn_BLOCK F hm⟩
/-! block_lengths -/
abbrev st_block_lengths : Stmt := (top 5)
abbrev N_block_lengths : List PySem.Str := ["side", "count", "number"]
theorem S_block_lengths : FnScope N_block_lengths ["side"] (defScope st_block_lengths) := ⟨rfl, rfl, rfl, by decide +kernel, rfl, by decide +kernel, by decide +kernel⟩
theorem lk_block_lengths_0 : (defScope st_block_lengths).names.lookup ("side" : PySem.Str) = some PySem.NameKind.cell := by decide +kernel
theorem vs_block_lengths_0 : Vis (defScope st_block_lengths) "side" := .inr (.inl lk_block_lengths_0)
theorem lo_block_lengths_0 : L2.Loc (defScope st_block_lengths) "side" := .inr lk_block_lengths_0
theorem lk_block_lengths_1 : (defScope st_block_lengths).names.lookup ("count" : PySem.Str) = some PySem.NameKind.cell := by decide +kernel
theorem vs_block_lengths_1 : Vis (defScope st_block_lengths) "count" := .inr (.inl lk_block_lengths_1)
theorem lo_block_lengths_1 : L2.Loc (defScope st_block_lengths) "count" := .inr lk_block_lengths_1
def c_block_lengths : M Fl := (cSeq (cSet 1 (cCall g_block_count [.e .fr] (cCons (cVar 0) cNil))) (cRet (cLc (cRng (cCons (cVar 1) cNil)) [] (.nm 2) cYes (cOpL gLenR (cCons (cVar 2) (cCons (cCall g_element_count [.e .fr] (cCons (cVar 0) cNil)) (cCons (cVar 1) cNil)))))))
@[irreducible] def g_block_lengths : List T → CR := runF [.fr] 2 c_block_lengths
theorem w_block_lengths {P : Program} {w : World} {K : PySem.W.Frag} {mg : PySem.Str → Option Value} {base : Heap} {fa : Addr} {fd : FuncData} (C_block_count : Cal P w K mg base "block_count" ["side"] 2 ⟨[.fr], .sc⟩ g_block_count) (C_element_count : Cal P w K mg base "element_count" ["side"] 1 ⟨[.fr], .sc⟩ g_element_count) (mg_len : mg "len" = none) (mg_range : mg "range" = none) (F : FunD K "block_lengths" "block_lengths" (defArgs st_block_lengths) (defBody st_block_lengths) (defScope st_block_lengths) [] [] fa fd) (hm : mg "block_lengths" = some (.ref fa)) : FnOk P w K mg base (L2.CX P w) 3 fa fd ["side"] (spT K mg ⟨[.fr], .fr⟩ g_block_lengths) := by
  unfold g_block_lengths
  refine fn_ok (n := 2) (c := c_block_lengths) F S_block_lengths rfl rfl (by decide) fun cdv A outer s H E hr => ?_
  have tk : Takes (cxOf (L2.CX P w) P w K mg base N_block_lengths "block_lengths" (defScope st_block_lengths) fa cdv A outer s H E) (WEx E) := takes_of rfl rfl rfl rfl
  have nd := S_block_lengths.nd
  exact (sx_cons (sx_g (Γ' := [.fr, .sc, .un]) (s_set (i := 1) nd rfl (lo_block_lengths_1) (ex_cal (sg := ⟨[.fr], .sc⟩) tk C_block_count hr (by decide) rfl (ix_cons (fun _ _ h => nomatch h) (ex_var (i := 0) rfl (vs_block_lengths_0) q_side.1 q_side.2 rfl rfl (by decide)) ix_nil rfl (by decide)) q_block_count.1 rfl rfl rfl rfl rfl rfl rfl) rfl (.inl rfl) (by decide) rfl (by decide)) rfl)
  (sx_one (s_ret (ex_freeze (ex_g (Γ' := [.fr, .sc, .un]) (ex_lc (own := [(("number" : PySem.Str), 2)]) (p := (.nm 2)) (ks := []) (Γ0 := [.fr, .sc, .un]) (Γb := [.fr, .sc, .sc]) (Γl := [.un, .un, .un]) (d := 0) rfl nd (wx_range1 rfl mg_range (ax_cons (fun _ _ h => nomatch h) (ex_var (i := 1) rfl (vs_block_lengths_1) q_count.1 q_count.2 rfl rfl (by decide)) ax_nil rfl (by decide)) rfl) (blkOk_by (by kernel_rfl)) (fun _ _ _ _ _ => (gx_g (Γ' := [.fr, .sc, .sc]) (gx_name (i := 2) nd rfl (locB (by decide +kernel)) (hfB (by decide +kernel)) (by decide) rfl (by decide)) rfl)) (fun _ _ _ _ _ => txs_nil) (fun _ _ _ _ _ => (ex_sc_ow 0 (ex_lenrng rfl mg_len rfl mg_range (ax_cons (fun _ _ h => nomatch h) (ex_var (i := 2) rfl (visB (by decide +kernel)) q_number.1 q_number.2 rfl rfl (by decide)) (ax_cons (fun _ _ h => nomatch h) (ex_cal (sg := ⟨[.fr], .sc⟩) takes0 C_element_count hr (by decide) rfl (ix_cons (fun _ _ h => nomatch h) (ex_var (i := 0) rfl (visB (by decide +kernel)) q_side.1 q_side.2 rfl rfl (by decide)) ix_nil rfl (by decide)) q_element_count.1 rfl rfl rfl rfl rfl rfl rfl) (ax_cons (fun _ _ h => nomatch h) (ex_var (i := 1) rfl (visB (by decide +kernel)) q_count.1 q_count.2 rfl rfl (by decide)) ax_nil rfl (by decide)) rfl (by decide)) rfl (by decide)) rfl rfl rfl rfl))) (fun _ => rfl) (by decide +kernel)) rfl)) rfl rfl rfl (by decide))))
theorem ok_block_lengths {P : Program} {w : World} {K : PySem.W.Frag} {mg : PySem.Str → Option Value} {base : Heap} {fa : Addr} {fd : FuncData} (C_block_count : Cal P w K mg base "block_count" ["side"] 2 ⟨[.fr], .sc⟩ g_block_count) (C_element_count : Cal P w K mg base "element_count" ["side"] 1 ⟨[.fr], .sc⟩ g_element_count) (mg_len : mg "len" = none) (mg_range : mg "range" = none) (F : FunD K "block_lengths" "block_lengths" (defArgs st_block_lengths) (defBody st_block_lengths) (defScope st_block_lengths) [] [] fa fd) (hm : mg "block_lengths" = some (.ref fa)) : Cal P w K mg base "block_lengths" ["side"] 3 ⟨[.fr], .fr⟩ g_block_lengths := ⟨fa, fd, hm, F.kp, F.bindsN (fun _ _ _ _ _ _ us hl => match us, hl with | [_], _ => rfl), w_block_lengths C_block_count C_element_count mg_len mg_range F hm⟩
/-! capacity -/
abbrev st_capacity : Stmt := (top 10)
abbrev N_capacity : List PySem.Str := ["side", "grade", "length"]
theorem S_capacity : FnScope N_capacity ["side", "grade"] (defScope st_capacity) := ⟨rfl, rfl, rfl, by decide +kernel, rfl, by decide +kernel, by decide +kernel⟩
theorem lk_capacity_0 : (defScope st_capacity).names.lookup ("side" : PySem.Str) = some PySem.NameKind.local := by decide +kernel
theorem vs_capacity_0 : Vis (defScope st_capacity) "side" := .inl lk_capacity_0
theorem lo_capacity_0 : L2.Loc (defScope st_capacity) "side" := .inl lk_capacity_0
theorem lk_capacity_1 : (defScope st_capacity).names.lookup ("grade" : PySem.Str) = some PySem.NameKind.cell := by decide +kernel
theorem vs_capacity_1 : Vis (defScope st_capacity) "grade" := .inr (.inl lk_capacity_1)
theorem lo_capacity_1 : L2.Loc (defScope st_capacity) "grade" := .inr lk_capacity_1
def c_capacity : M Fl := (cRet (cLc (cIt false (cCall g_block_lengths [.e .fr] (cCons (cVar 0) cNil))) [] (.nm 2) cYes (cCall g_added_count [.e .fr, .e .fr] (cCons (cVar 2) (cCons (cVar 1) cNil)))))
@[irreducible] def g_capacity : List T → CR := runF [.fr, .fr] 1 c_capacity
theorem w_capacity {P : Program} {w : World} {K : PySem.W.Frag} {mg : PySem.Str → Option Value} {base : Heap} {fa : Addr} {fd : FuncData} (C_added_count : Cal P w K mg base "added_count" ["length", "grade"] 1 ⟨[.fr, .fr], .sc⟩ g_added_count) (C_block_lengths : Cal P w K mg base "block_lengths" ["side"] 3 ⟨[.fr], .fr⟩ g_block_lengths) (F : FunD K "capacity" "capacity" (defArgs st_capacity) (defBody st_capacity) (defScope st_capacity) [] [] fa fd) (hm : mg "capacity" = some (.ref fa)) : FnOk P w K mg base (L2.CX P w) 4 fa fd ["side", "grade"] (spT K mg ⟨[.fr, .fr], .fr⟩ g_capacity) := by
  unfold g_capacity
  refine fn_ok (n := 1) (c := c_capacity) F S_capacity rfl rfl (by decide) fun cdv A outer s H E hr => ?_
  have tk : Takes (cxOf (L2.CX P w) P w K mg base N_capacity "capacity" (defScope st_capacity) fa cdv A outer s H E) (WEx E) := takes_of rfl rfl rfl rfl
  have nd := S_capacity.nd
  exact (sx_one (s_ret (ex_freeze (ex_g (Γ' := [.fr, .fr, .un]) (ex_lc (own := [(("length" : PySem.Str), 2)]) (p := (.nm 2)) (ks := []) (Γ0 := [.fr, .fr, .un]) (Γb := [.fr, .fr, .fr]) (Γl := [.un, .un, .un]) (d := 0) rfl nd (wx_any (ma := .fr) (ex_cal (sg := ⟨[.fr], .fr⟩) tk C_block_lengths hr (by decide) rfl (ix_cons (fun _ _ h => nomatch h) (ex_var (i := 0) rfl (vs_capacity_0) q_side.1 q_side.2 rfl rfl (by decide)) ix_nil rfl (by decide)) q_block_lengths.1 rfl rfl rfl rfl rfl rfl rfl) rfl (by decide)) (blkOk_by (by kernel_rfl)) (fun _ _ _ _ _ => (gx_g (Γ' := [.fr, .fr, .fr]) (gx_name (i := 2) nd rfl (locB (by decide +kernel)) (hfB (by decide +kernel)) (by decide) rfl (by decide)) rfl)) (fun _ _ _ _ _ => txs_nil) (fun _ _ _ _ _ => (ex_sc_ow 0 (ex_cal (sg := ⟨[.fr, .fr], .sc⟩) takes0 C_added_count hr (by decide) rfl (ix_cons (fun _ _ h => nomatch h) (ex_var (i := 2) rfl (visB (by decide +kernel)) q_length.1 q_length.2 rfl rfl (by decide)) (ix_cons (fun _ _ h => nomatch h) (ex_var (i := 1) rfl (visB (by decide +kernel)) q_grade.1 q_grade.2 rfl rfl (by decide)) ix_nil rfl (by decide)) rfl (by decide)) q_added_count.1 rfl rfl rfl rfl rfl rfl rfl))) (fun _ => rfl) (by decide +kernel)) rfl)) rfl rfl rfl (by decide)))
theorem ok_capacity {P : Program} {w : World} {K : PySem.W.Frag} {mg : PySem.Str → Option Value} {base : Heap} {fa : Addr} {fd : FuncData} (C_added_count : Cal P w K mg base "added_count" ["length", "grade"] 1 ⟨[.fr, .fr], .sc⟩ g_added_count) (C_block_lengths : Cal P w K mg base "block_lengths" ["side"] 3 ⟨[.fr], .fr⟩ g_block_lengths) (F : FunD K "capacity" "capacity" (defArgs st_capacity) (defBody st_capacity) (defScope st_capacity) [] [] fa fd) (hm : mg "capacity" = some (.ref fa)) : Cal P w K mg base "capacity" ["side", "grade"] 4 ⟨[.fr, .fr], .fr⟩ g_capacity := ⟨fa, fd, hm, F.kp, F.bindsN (fun _ _ _ _ _ _ us hl => match us, hl with | [_, _], _ => rfl), w_capacity C_added_count C_block_lengths F hm⟩
/-! field_cells -/
abbrev st_field_cells : Stmt := (top 8)
abbrev N_field_cells : List PySem.Str := ["side", "row", "column"]
theorem S_field_cells : FnScope N_field_cells ["side"] (defScope st_field_cells) := ⟨rfl, rfl, rfl, by decide +kernel, rfl, by decide +kernel, by decide +kernel⟩
theorem lk_field_cells_0 : (defScope st_field_cells).names.lookup ("side" : PySem.Str) = some PySem.NameKind.cell := by decide +kernel
theorem vs_field_cells_0 : Vis (defScope st_field_cells) "side" := .inr (.inl lk_field_cells_0)
theorem lo_field_cells_0 : L2.Loc (defScope st_field_cells) "side" := .inr lk_field_cells_0
def c_field_cells : M Fl := (cRet (cLc2 (cRng (cCons (cLit (.int 1)) (cCons (cOp2 oSub (cVar 0) (cLit (.int 1))) cNil))) (.nm 1) cYes (cRng (cCons (cLit (.int 1)) (cCons (cOp2 oSub (cVar 0) (cLit (.int 1))) cNil))) (.nm 2) cYes (cOpL oTup (cCons (cVar 1) (cCons (cVar 2) cNil)))))
@[irreducible] def g_field_cells : List T → CR := runF [.fr] 2 c_field_cells
theorem w_field_cells {P : Program} {w : World} {K : PySem.W.Frag} {mg : PySem.Str → Option Value} {base : Heap} {fa : Addr} {fd : FuncData} (mg_range : mg "range" = none) (F : FunD K "field_cells" "field_cells" (defArgs st_field_cells) (defBody st_field_cells) (defScope st_field_cells) [] [] fa fd) (hm : mg "field_cells" = some (.ref fa)) : FnOk P w K mg base (L2.CX P w) 1 fa fd ["side"] (spT K mg ⟨[.fr], .fr⟩ g_field_cells) := by
  unfold g_field_cells
  refine fn_ok (n := 2) (c := c_field_cells) F S_field_cells rfl rfl (by decide) fun cdv A outer s H E hr => ?_
  have tk : Takes (cxOf (L2.CX P w) P w K mg base N_field_cells "field_cells" (defScope st_field_cells) fa cdv A outer s H E) (WEx E) := takes_of rfl rfl rfl rfl
  have nd := S_field_cells.nd
  exact (sx_one (s_ret (ex_freeze (ex_lc2 (own := [(("row" : PySem.Str), 1), (("column" : PySem.Str), 2)]) (vs1 := [2]) (p := (.nm 1)) (p1 := (.nm 2)) (Γ0 := [.fr, .un, .un]) (Γb := [.fr, .sc, .un]) (Γi := [.fr, .sc, .un]) (Γc := [.fr, .sc, .sc]) (Γl := [.un, .un, .un]) rfl nd (wx_range2 rfl mg_range (ax_cons (fun _ _ h => nomatch h) ex_int (ax_cons (fun _ _ h => nomatch h) (ex_bin op_sub (ex_var (i := 0) rfl (vs_field_cells_0) q_side.1 q_side.2 rfl rfl (by decide)) ex_int rfl rfl (by decide) (fun _ => s_sub)) ax_nil rfl (by decide)) rfl (by decide)) rfl rfl) (blkOk_by (by kernel_rfl)) (fun _ _ _ _ _ => (gx_g (Γ' := [.fr, .sc, .un]) (gx_name (i := 1) nd rfl (locB (by decide +kernel)) (hfB (by decide +kernel)) (by decide) rfl (by decide)) rfl)) (fun _ _ _ _ _ => txs_nil) (fun _ _ _ _ _ => (wxf_range2 (Γh := [.un, .un, .un]) rfl mg_range (ax_cons (fun _ _ h => nomatch h) ex_int (ax_cons (fun _ _ h => nomatch h) (ex_bin op_sub (ex_var (i := 0) rfl (visB (by decide +kernel)) q_side.1 q_side.2 rfl rfl (by decide)) ex_int rfl rfl (by decide) (fun _ => s_sub)) ax_nil rfl (by decide)) rfl (by decide)) rfl rfl)) (fun _ _ _ _ _ => (gx_g (Γ' := [.fr, .sc, .sc]) (gx_name (i := 2) nd rfl (locB (by decide +kernel)) (hfB (by decide +kernel)) (by decide) rfl (by decide)) rfl)) (fun _ _ _ _ _ => txs_nil) (fun _ _ _ _ _ => (ex_fr_ow0 (ex_tup (ax_cons (fun _ _ h => nomatch h) (ex_var (i := 1) rfl (visB (by decide +kernel)) q_row.1 q_row.2 rfl rfl (by decide)) (ax_cons (fun _ _ h => nomatch h) (ex_var (i := 2) rfl (visB (by decide +kernel)) q_column.1 q_column.2 rfl rfl (by decide)) ax_nil rfl (by decide)) rfl (by decide)) rfl))) (fun _ => rfl) (fun _ _ => rfl) (by decide +kernel))) rfl rfl rfl (by decide)))
theorem ok_field_cells {P : Program} {w : World} {K : PySem.W.Frag} {mg : PySem.Str → Option Value} {base : Heap} {fa : Addr} {fd : FuncData} (mg_range : mg "range" = none) (F : FunD K "field_cells" "field_cells" (defArgs st_field_cells) (defBody st_field_cells) (defScope st_field_cells) [] [] fa fd) (hm : mg "field_cells" = some (.ref fa)) : Cal P w K mg base "field_cells" ["side"] 1 ⟨[.fr], .fr⟩ g_field_cells := ⟨fa, fd, hm, F.kp, F.bindsN (fun _ _ _ _ _ _ us hl => match us, hl with | [_], _ => rfl), w_field_cells mg_range F hm⟩
/-! lost_counts -/
abbrev st_lost_counts : Stmt := (top 12)
abbrev N_lost_counts : List PySem.Str := ["side", "top", "left", "size", "cells", "totals", "index", "part", "row", "column"]
theorem S_lost_counts : FnScope N_lost_counts ["side", "top", "left", "size"] (defScope st_lost_counts) := ⟨rfl, rfl, rfl, by decide +kernel, rfl, by decide +kernel, by decide +kernel⟩
theorem lk_lost_counts_0 : (defScope st_lost_counts).names.lookup ("side" : PySem.Str) = some PySem.NameKind.local := by decide +kernel
theorem vs_lost_counts_0 : Vis (defScope st_lost_counts) "side" := .inl lk_lost_counts_0
theorem lo_lost_counts_0 : L2.Loc (defScope st_lost_counts) "side" := .inl lk_lost_counts_0
theorem lk_lost_counts_1 : (defScope st_lost_counts).names.lookup ("top" : PySem.Str) = some PySem.NameKind.cell := by decide +kernel
theorem vs_lost_counts_1 : Vis (defScope st_lost_counts) "top" := .inr (.inl lk_lost_counts_1)
theorem lo_lost_counts_1 : L2.Loc (defScope st_lost_counts) "top" := .inr lk_lost_counts_1
theorem lk_lost_counts_2 : (defScope st_lost_counts).names.lookup ("left" : PySem.Str) = some PySem.NameKind.cell := by decide +kernel
theorem vs_lost_counts_2 : Vis (defScope st_lost_counts) "left" := .inr (.inl lk_lost_counts_2)
theorem lo_lost_counts_2 : L2.Loc (defScope st_lost_counts) "left" := .inr lk_lost_counts_2
theorem lk_lost_counts_3 : (defScope st_lost_counts).names.lookup ("size" : PySem.Str) = some PySem.NameKind.cell := by decide +kernel
theorem vs_lost_counts_3 : Vis (defScope st_lost_counts) "size" := .inr (.inl lk_lost_counts_3)
theorem lo_lost_counts_3 : L2.Loc (defScope st_lost_counts) "size" := .inr lk_lost_counts_3
theorem lk_lost_counts_4 : (defScope st_lost_counts).names.lookup ("cells" : PySem.Str) = some PySem.NameKind.local := by decide +kernel
theorem vs_lost_counts_4 : Vis (defScope st_lost_counts) "cells" := .inl lk_lost_counts_4
theorem lo_lost_counts_4 : L2.Loc (defScope st_lost_counts) "cells" := .inl lk_lost_counts_4
theorem lk_lost_counts_5 : (defScope st_lost_counts).names.lookup ("totals" : PySem.Str) = some PySem.NameKind.local := by decide +kernel
theorem vs_lost_counts_5 : Vis (defScope st_lost_counts) "totals" := .inl lk_lost_counts_5
theorem lo_lost_counts_5 : L2.Loc (defScope st_lost_counts) "totals" := .inl lk_lost_counts_5
theorem lk_lost_counts_6 : (defScope st_lost_counts).names.lookup ("index" : PySem.Str) = some PySem.NameKind.local := by decide +kernel
theorem vs_lost_counts_6 : Vis (defScope st_lost_counts) "index" := .inl lk_lost_counts_6
theorem lo_lost_counts_6 : L2.Loc (defScope st_lost_counts) "index" := .inl lk_lost_counts_6
theorem lk_lost_counts_7 : (defScope st_lost_counts).names.lookup ("part" : PySem.Str) = some PySem.NameKind.local := by decide +kernel
theorem vs_lost_counts_7 : Vis (defScope st_lost_counts) "part" := .inl lk_lost_counts_7
theorem lo_lost_counts_7 : L2.Loc (defScope st_lost_counts) "part" := .inl lk_lost_counts_7
def c_lost_counts_l1 : M Fl := (cSeq (cSet 7 (cSl true (cVar 4) (.yes (cOp2 oMulN (cLit k_ELEMENT_BITS) (cVar 6))) (.yes (cOp2 oMulN (cLit k_ELEMENT_BITS) (cOp2 oAddN (cVar 6) (cLit (.int 1))))))) (cIfS (cB (cOpL gAny (cCons (cLc (cIt false (cVar 7)) [] (.tup [(.nm 8), (.nm 9)]) cYes (cAnd (cChain oLe oLt (cVar 1) (cVar 8) (cOp2 oAddN (cVar 1) (cVar 3))) (cChain oLe oLt (cVar 2) (cVar 9) (cOp2 oAddN (cVar 2) (cVar 3))))) cNil))) (cAugI 5 1 oAddN (cOp2 oMod (cVar 6) (cOpL gLen (cCons (cVar 5) cNil))) (cLit (.int 1))) cNx))
def c_lost_counts : M Fl := (cSeq (cSet 4 (cCall g_field_cells [.e .fr] (cCons (cVar 0) cNil))) (cSeq (cSet 5 (cOp2 oMul (cOpL oLst (cCons (cLit (.int 0)) cNil)) (cCall g_block_count [.e .fr] (cCons (cVar 0) cNil)))) (cSeq (cFor (.nm 6) (cRng (cCons (cCall g_element_count [.e .fr] (cCons (cVar 0) cNil)) cNil)) c_lost_counts_l1) (cRet (cVar 5)))))
@[irreducible] def g_lost_counts : List T → CR := runF [.fr, .fr, .fr, .fr] 6 c_lost_counts
theorem w_lost_counts {P : Program} {w : World} {K : PySem.W.Frag} {mg : PySem.Str → Option Value} {base : Heap} {fa : Addr} {fd : FuncData} (C_block_count : Cal P w K mg base "block_count" ["side"] 2 ⟨[.fr], .sc⟩ g_block_count) (C_element_count : Cal P w K mg base "element_count" ["side"] 1 ⟨[.fr], .sc⟩ g_element_count) (C_field_cells : Cal P w K mg base "field_cells" ["side"] 1 ⟨[.fr], .fr⟩ g_field_cells) (mg_any : mg "any" = none) (mg_len : mg "len" = none) (mg_range : mg "range" = none) (cn_ELEMENT_BITS : Cn K mg "ELEMENT_BITS" k_ELEMENT_BITS) (F : FunD K "lost_counts" "lost_counts" (defArgs st_lost_counts) (defBody st_lost_counts) (defScope st_lost_counts) [] [] fa fd) (hm : mg "lost_counts" = some (.ref fa)) : FnOk P w K mg base (L2.CX P w) 3 fa fd ["side", "top", "left", "size"] (spT K mg ⟨[.fr, .fr, .fr, .fr], .fr⟩ g_lost_counts) := by
  unfold g_lost_counts
  refine fn_ok (n := 6) (c := c_lost_counts) F S_lost_counts rfl rfl (by decide) fun cdv A outer s H E hr => ?_
  have tk : Takes (cxOf (L2.CX P w) P w K mg base N_lost_counts "lost_counts" (defScope st_lost_counts) fa cdv A outer s H E) (WEx E) := takes_of rfl rfl rfl rfl
  have nd := S_lost_counts.nd
  exact (sx_cons (sx_g (Γ' := [.fr, .fr, .fr, .fr, .fr, .un, .un, .un, .un, .un]) (s_set (i := 4) nd rfl (lo_lost_counts_4) (ex_cal (sg := ⟨[.fr], .fr⟩) tk C_field_cells hr (by decide) rfl (ix_cons (fun _ _ h => nomatch h) (ex_var (i := 0) rfl (vs_lost_counts_0) q_side.1 q_side.2 rfl rfl (by decide)) ix_nil rfl (by decide)) q_field_cells.1 rfl rfl rfl rfl rfl rfl rfl) rfl (.inl rfl) (by decide) rfl (by decide)) rfl)
  (sx_cons (sx_g (Γ' := [.fr, .fr, .fr, .fr, .fr, (.ow 1), .un, .un, .un, .un]) (s_set (i := 5) nd rfl (lo_lost_counts_5) (ex_bin op_mulT (ex_freeze (ex_lst (ax_cons (fun _ _ h => nomatch h) ex_int ax_nil rfl (by decide)) rfl)) (ex_cal (sg := ⟨[.fr], .sc⟩) tk C_block_count hr (by decide) rfl (ix_cons (fun _ _ h => nomatch h) (ex_var (i := 0) rfl (vs_lost_counts_0) q_side.1 q_side.2 rfl rfl (by decide)) ix_nil rfl (by decide)) q_block_count.1 rfl rfl rfl rfl rfl rfl rfl) rfl rfl (by decide) (fun _ => s_mul rfl)) rfl (.inl rfl) (by decide) rfl (by decide)) rfl)
  (sx_cons (s_for (Γi := [.fr, .fr, .fr, .fr, .fr, (.ow 1), .un, .un, .un, .un]) (Γb := [.fr, .fr, .fr, .fr, .fr, (.ow 1), .sc, .un, .un, .un]) (p := (.nm 6)) (c := c_lost_counts_l1) (passes_of rfl) rfl (wx_range1 rfl mg_range (ax_cons (fun _ _ h => nomatch h) (ex_cal (sg := ⟨[.fr], .sc⟩) tk C_element_count hr (by decide) rfl (ix_cons (fun _ _ h => nomatch h) (ex_var (i := 0) rfl (vs_lost_counts_0) q_side.1 q_side.2 rfl rfl (by decide)) ix_nil rfl (by decide)) q_element_count.1 rfl rfl rfl rfl rfl rfl rfl) ax_nil rfl (by decide)) rfl) rfl rfl (gx_g (Γ' := [.fr, .fr, .fr, .fr, .fr, (.ow 1), .sc, .un, .un, .un]) (gx_name (i := 6) nd rfl (lo_lost_counts_6) (.inl rfl) (by decide) rfl (by decide)) rfl)
  (sx_weak (Γ1 := [.fr, .fr, .fr, .fr, .fr, (.ow 1), .sc, .fr, .un, .un]) (sx_cons (sx_g (Γ' := [.fr, .fr, .fr, .fr, .fr, (.ow 1), .sc, .fr, .un, .un]) (s_set (i := 7) nd rfl (lo_lost_counts_7) (ex_freeze (ex_sl (ma := .fr) (ex_var (i := 4) rfl (vs_lost_counts_4) q_cells.1 q_cells.2 rfl rfl (by decide)) (.inr ⟨_, _, _, rfl, rfl, rfl, (ex_bin op_mulT (ex_cn (t := k_ELEMENT_BITS) cn_ELEMENT_BITS rfl q_ELEMENT_BITS.1) (ex_var (i := 6) rfl (vs_lost_counts_6) q_index.1 q_index.2 rfl rfl (by decide)) rfl rfl (by decide) (fun _ => s_mulN))⟩) (.inr ⟨_, _, _, rfl, rfl, rfl, (ex_bin op_mulT (ex_cn (t := k_ELEMENT_BITS) cn_ELEMENT_BITS rfl q_ELEMENT_BITS.1) (ex_bin op_addT (ex_var (i := 6) rfl (vs_lost_counts_6) q_index.1 q_index.2 rfl rfl (by decide)) ex_int rfl rfl (by decide) (fun _ => s_addN)) rfl rfl (by decide) (fun _ => s_mulN))⟩) rfl (by decide))) rfl (.inl rfl) (by decide) rfl (by decide)) rfl)
  (sx_one (s_if (Γ2 := [.fr, .fr, .fr, .fr, .fr, (.ow 1), .sc, .fr, .un, .un]) (tx_val (ex_callB (cr_any rfl) rfl mg_any (by decide +kernel) (by decide) q_any.1 rfl rfl (ax_cons (fun _ _ h => nomatch h) (ex_freeze (ex_g (Γ' := [.fr, .fr, .fr, .fr, .fr, (.ow 1), .sc, .fr, .un, .un]) (ex_lc (own := [(("row" : PySem.Str), 8), (("column" : PySem.Str), 9)]) (p := (.tup [(.nm 8), (.nm 9)])) (ks := []) (Γ0 := [.fr, .fr, .fr, .fr, .fr, (.ow 1), .sc, .fr, .un, .un]) (Γb := [.fr, .fr, .fr, .fr, .fr, (.ow 1), .sc, .fr, .fr, .fr]) (Γl := [.un, .un, .un, .un, .un, .un, .un, .un, .un, .un]) (d := 0) rfl nd (wx_any (ma := .fr) (ex_var (i := 7) rfl (vs_lost_counts_7) q_part.1 q_part.2 rfl rfl (by decide)) rfl (by decide)) (blkOk_by (by kernel_rfl)) (fun _ _ _ _ _ => (gx_tup (m := .fr) rfl (gxs_cons (gx_g (Γ' := [.fr, .fr, .fr, .fr, .fr, (.ow 1), .sc, .fr, .fr, .un]) (gx_name (i := 8) nd rfl (locB (by decide +kernel)) (hfB (by decide +kernel)) (by decide) rfl (by decide)) rfl) (gxs_cons (gx_g (Γ' := [.fr, .fr, .fr, .fr, .fr, (.ow 1), .sc, .fr, .fr, .fr]) (gx_name (i := 9) nd rfl (locB (by decide +kernel)) (hfB (by decide +kernel)) (by decide) rfl (by decide)) rfl) gxs_nil rfl) rfl) (by decide) rfl rfl)) (fun _ _ _ _ _ => txs_nil) (fun _ _ _ _ _ => (ex_sc_ow 0 (ex_and (ex_chain op_le op_lt (ex_var (i := 1) rfl (visB (by decide +kernel)) q_top.1 q_top.2 rfl rfl (by decide)) (ex_var (i := 8) rfl (visB (by decide +kernel)) q_row.1 q_row.2 rfl rfl (by decide)) (ex_bin op_addT (ex_var (i := 1) rfl (visB (by decide +kernel)) q_top.1 q_top.2 rfl rfl (by decide)) (ex_var (i := 3) rfl (visB (by decide +kernel)) q_size.1 q_size.2 rfl rfl (by decide)) rfl rfl (by decide) (fun _ => s_addN)) rfl rfl rfl (by decide) (by decide) rfl (fun _ => s_cmp) (fun _ => s_cmp)) (ex_one (ex_chain op_le op_lt (ex_var (i := 2) rfl (visB (by decide +kernel)) q_left.1 q_left.2 rfl rfl (by decide)) (ex_var (i := 9) rfl (visB (by decide +kernel)) q_column.1 q_column.2 rfl rfl (by decide)) (ex_bin op_addT (ex_var (i := 2) rfl (visB (by decide +kernel)) q_left.1 q_left.2 rfl rfl (by decide)) (ex_var (i := 3) rfl (visB (by decide +kernel)) q_size.1 q_size.2 rfl rfl (by decide)) rfl rfl (by decide) (fun _ => s_addN)) rfl rfl rfl (by decide) (by decide) rfl (fun _ => s_cmp) (fun _ => s_cmp)))))) (fun _ => rfl) (by decide +kernel)) rfl)) ax_nil rfl (by decide)) (fun _ => l_any)) (fun _ => rfl))
  (sx_one (sx_g (Γ' := [.fr, .fr, .fr, .fr, .fr, (.ow 1), .sc, .fr, .un, .un]) (s_augI (z := 5) (D := 0) (Γl := [.un, .un, .un, .un, .un, .un, .un, .un, .un, .un]) (Γl2 := [.un, .un, .un, .un, .un, .un, .un, .un, .un, .un]) (hu1 hr) rfl (vs_lost_counts_5) q_totals.1 q_totals.2 (ex_bin op_mod (ex_var (i := 6) rfl (vs_lost_counts_6) q_index.1 q_index.2 rfl rfl (by decide)) (ex_callB call_lenAny rfl mg_len PySem.boot_len (by decide) q_len.1 rfl rfl (ax_cons (fun _ _ h => nomatch h) (ex_var (i := 5) rfl (vs_lost_counts_5) q_totals.1 q_totals.2 rfl rfl (by decide)) ax_nil rfl (by decide)) (fun _ => l_len)) rfl rfl (by decide) (fun _ => s_mod)) ex_int iop_addS rfl rfl (fun _ => s_addS) rfl rfl rfl rfl rfl rfl (fun _ _ _ => rfl)) rfl))
  sx_nil))) rfl rfl) (fun _ => rfl))
  (sx_one (sx1_pre (Γ1 := [.fr, .fr, .fr, .fr, .fr, .fr, .un, .un, .un, .un]) (s_ret (ex_var (i := 5) rfl (vs_lost_counts_5) q_totals.1 q_totals.2 rfl rfl (by decide)) rfl rfl rfl (by decide)) rfl rfl)))))
theorem ok_lost_counts {P : Program} {w : World} {K : PySem.W.Frag} {mg : PySem.Str → Option Value} {base : Heap} {fa : Addr} {fd : FuncData} (C_block_count : Cal P w K mg base "block_count" ["side"] 2 ⟨[.fr], .sc⟩ g_block_count) (C_element_count : Cal P w K mg base "element_count" ["side"] 1 ⟨[.fr], .sc⟩ g_element_count) (C_field_cells : Cal P w K mg base "field_cells" ["side"] 1 ⟨[.fr], .fr⟩ g_field_cells) (mg_any : mg "any" = none) (mg_len : mg "len" = none) (mg_range : mg "range" = none) (cn_ELEMENT_BITS : Cn K mg "ELEMENT_BITS" k_ELEMENT_BITS) (F : FunD K "lost_counts" "lost_counts" (defArgs st_lost_counts) (defBody st_lost_counts) (defScope st_lost_counts) [] [] fa fd) (hm : mg "lost_counts" = some (.ref fa)) : Cal P w K mg base "lost_counts" ["side", "top", "left", "size"] 3 ⟨[.fr, .fr, .fr, .fr], .fr⟩ g_lost_counts := ⟨fa, fd, hm, F.kp, F.bindsN (fun _ _ _ _ _ _ us hl => match us, hl with | [_, _, _, _], _ => rfl), w_lost_counts C_block_count C_element_count C_field_cells mg_any mg_len mg_range cn_ELEMENT_BITS F hm⟩
/-! withstands -/
abbrev st_withstands : Stmt := (top 13)
abbrev N_withstands : List PySem.Str := ["side", "grade", "size", "most", "top", "left", "hit", "lost", "added"]
theorem S_withstands : FnScope N_withstands ["side", "grade", "size"] (defScope st_withstands) := ⟨rfl, rfl, rfl, by decide +kernel, rfl, by decide +kernel, by decide +kernel⟩
theorem lk_withstands_0 : (defScope st_withstands).names.lookup ("side" : PySem.Str) = some PySem.NameKind.local := by decide +kernel
theorem vs_withstands_0 : Vis (defScope st_withstands) "side" := .inl lk_withstands_0
theorem lo_withstands_0 : L2.Loc (defScope st_withstands) "side" := .inl lk_withstands_0
theorem lk_withstands_1 : (defScope st_withstands).names.lookup ("grade" : PySem.Str) = some PySem.NameKind.local := by decide +kernel
theorem vs_withstands_1 : Vis (defScope st_withstands) "grade" := .inl lk_withstands_1
theorem lo_withstands_1 : L2.Loc (defScope st_withstands) "grade" := .inl lk_withstands_1
theorem lk_withstands_2 : (defScope st_withstands).names.lookup ("size" : PySem.Str) = some PySem.NameKind.local := by decide +kernel
theorem vs_withstands_2 : Vis (defScope st_withstands) "size" := .inl lk_withstands_2
theorem lo_withstands_2 : L2.Loc (defScope st_withstands) "size" := .inl lk_withstands_2
theorem lk_withstands_3 : (defScope st_withstands).names.lookup ("most" : PySem.Str) = some PySem.NameKind.local := by decide +kernel
theorem vs_withstands_3 : Vis (defScope st_withstands) "most" := .inl lk_withstands_3
theorem lo_withstands_3 : L2.Loc (defScope st_withstands) "most" := .inl lk_withstands_3
theorem lk_withstands_4 : (defScope st_withstands).names.lookup ("top" : PySem.Str) = some PySem.NameKind.local := by decide +kernel
theorem vs_withstands_4 : Vis (defScope st_withstands) "top" := .inl lk_withstands_4
theorem lo_withstands_4 : L2.Loc (defScope st_withstands) "top" := .inl lk_withstands_4
theorem lk_withstands_5 : (defScope st_withstands).names.lookup ("left" : PySem.Str) = some PySem.NameKind.local := by decide +kernel
theorem vs_withstands_5 : Vis (defScope st_withstands) "left" := .inl lk_withstands_5
theorem lo_withstands_5 : L2.Loc (defScope st_withstands) "left" := .inl lk_withstands_5
theorem lk_withstands_6 : (defScope st_withstands).names.lookup ("hit" : PySem.Str) = some PySem.NameKind.local := by decide +kernel
theorem vs_withstands_6 : Vis (defScope st_withstands) "hit" := .inl lk_withstands_6
theorem lo_withstands_6 : L2.Loc (defScope st_withstands) "hit" := .inl lk_withstands_6
def c_withstands_l1 : M Fl := (cSeq (cSet 6 (cCall g_lost_counts [.e .fr, .e .fr, .e .fr, .e .fr] (cCons (cVar 0) (cCons (cVar 4) (cCons (cVar 5) (cCons (cVar 2) cNil)))))) (cIfS (tNotM (cB (cOpL gAll (cCons (cLc (cZip (cCons (cVar 6) (cCons (cVar 3) cNil))) [] (.tup [(.nm 7), (.nm 8)]) cYes (cOp2 oLe (cVar 7) (cVar 8))) cNil)))) (cRet (cLit (.bl false))) cNx))
def c_withstands_l2 : M Fl := (cFor (.nm 5) (cRng (cCons (cLit (.int 1)) (cCons (cOp2 oSub (cVar 0) (cVar 2)) cNil))) c_withstands_l1)
def c_withstands : M Fl := (cSeq (cSet 3 (cCall g_capacity [.e .fr, .e .fr] (cCons (cVar 0) (cCons (cVar 1) cNil)))) (cSeq (cFor (.nm 4) (cRng (cCons (cLit (.int 1)) (cCons (cOp2 oSub (cVar 0) (cVar 2)) cNil))) c_withstands_l2) (cRet (cLit (.bl true)))))
@[irreducible] def g_withstands : List T → CR := runF [.fr, .fr, .fr] 6 c_withstands
theorem w_withstands {P : Program} {w : World} {K : PySem.W.Frag} {mg : PySem.Str → Option Value} {base : Heap} {fa : Addr} {fd : FuncData} (C_capacity : Cal P w K mg base "capacity" ["side", "grade"] 4 ⟨[.fr, .fr], .fr⟩ g_capacity) (C_lost_counts : Cal P w K mg base "lost_counts" ["side", "top", "left", "size"] 3 ⟨[.fr, .fr, .fr, .fr], .fr⟩ g_lost_counts) (mg_all : mg "all" = none) (mg_range : mg "range" = none) (mg_zip : mg "zip" = none) (F : FunD K "withstands" "withstands" (defArgs st_withstands) (defBody st_withstands) (defScope st_withstands) [] [] fa fd) (hm : mg "withstands" = some (.ref fa)) : FnOk P w K mg base (L2.CX P w) 5 fa fd ["side", "grade", "size"] (spT K mg ⟨[.fr, .fr, .fr], .sc⟩ g_withstands) := by
  unfold g_withstands
  refine fn_ok (n := 6) (c := c_withstands) F S_withstands rfl rfl (by decide) fun cdv A outer s H E hr => ?_
  have tk : Takes (cxOf (L2.CX P w) P w K mg base N_withstands "withstands" (defScope st_withstands) fa cdv A outer s H E) (WEx E) := takes_of rfl rfl rfl rfl
  have nd := S_withstands.nd
  exact (sx_cons (sx_g (Γ' := [.fr, .fr, .fr, .fr, .un, .un, .un, .un, .un]) (s_set (i := 3) nd rfl (lo_withstands_3) (ex_cal (sg := ⟨[.fr, .fr], .fr⟩) tk C_capacity hr (by decide) rfl (ix_cons (fun _ _ h => nomatch h) (ex_var (i := 0) rfl (vs_withstands_0) q_side.1 q_side.2 rfl rfl (by decide)) (ix_cons (fun _ _ h => nomatch h) (ex_var (i := 1) rfl (vs_withstands_1) q_grade.1 q_grade.2 rfl rfl (by decide)) ix_nil rfl (by decide)) rfl (by decide)) q_capacity.1 rfl rfl rfl rfl rfl rfl rfl) rfl (.inl rfl) (by decide) rfl (by decide)) rfl)
  (sx_cons (s_for (Γi := [.fr, .fr, .fr, .fr, .un, .un, .un, .un, .un]) (Γb := [.fr, .fr, .fr, .fr, .sc, .un, .un, .un, .un]) (p := (.nm 4)) (c := c_withstands_l2) (passes_of rfl) rfl (wx_range2 rfl mg_range (ax_cons (fun _ _ h => nomatch h) ex_int (ax_cons (fun _ _ h => nomatch h) (ex_bin op_sub (ex_var (i := 0) rfl (vs_withstands_0) q_side.1 q_side.2 rfl rfl (by decide)) (ex_var (i := 2) rfl (vs_withstands_2) q_size.1 q_size.2 rfl rfl (by decide)) rfl rfl (by decide) (fun _ => s_sub)) ax_nil rfl (by decide)) rfl (by decide)) rfl rfl) rfl rfl (gx_g (Γ' := [.fr, .fr, .fr, .fr, .sc, .un, .un, .un, .un]) (gx_name (i := 4) nd rfl (lo_withstands_4) (.inl rfl) (by decide) rfl (by decide)) rfl)
  (sx_weak (Γ1 := [.fr, .fr, .fr, .fr, .sc, .un, .un, .un, .un]) (sx_one (s_for (Γi := [.fr, .fr, .fr, .fr, .sc, .un, .un, .un, .un]) (Γb := [.fr, .fr, .fr, .fr, .sc, .sc, .un, .un, .un]) (p := (.nm 5)) (c := c_withstands_l1) (passes_of rfl) rfl (wx_range2 rfl mg_range (ax_cons (fun _ _ h => nomatch h) ex_int (ax_cons (fun _ _ h => nomatch h) (ex_bin op_sub (ex_var (i := 0) rfl (vs_withstands_0) q_side.1 q_side.2 rfl rfl (by decide)) (ex_var (i := 2) rfl (vs_withstands_2) q_size.1 q_size.2 rfl rfl (by decide)) rfl rfl (by decide) (fun _ => s_sub)) ax_nil rfl (by decide)) rfl (by decide)) rfl rfl) rfl rfl (gx_g (Γ' := [.fr, .fr, .fr, .fr, .sc, .sc, .un, .un, .un]) (gx_name (i := 5) nd rfl (lo_withstands_5) (.inl rfl) (by decide) rfl (by decide)) rfl)
  (sx_weak (Γ1 := [.fr, .fr, .fr, .fr, .sc, .sc, .fr, .un, .un]) (sx_cons (sx_g (Γ' := [.fr, .fr, .fr, .fr, .sc, .sc, .fr, .un, .un]) (s_set (i := 6) nd rfl (lo_withstands_6) (ex_cal (sg := ⟨[.fr, .fr, .fr, .fr], .fr⟩) tk C_lost_counts hr (by decide) rfl (ix_cons (fun _ _ h => nomatch h) (ex_var (i := 0) rfl (vs_withstands_0) q_side.1 q_side.2 rfl rfl (by decide)) (ix_cons (fun _ _ h => nomatch h) (ex_sc_fr (ex_var (i := 4) rfl (vs_withstands_4) q_top.1 q_top.2 rfl rfl (by decide))) (ix_cons (fun _ _ h => nomatch h) (ex_sc_fr (ex_var (i := 5) rfl (vs_withstands_5) q_left.1 q_left.2 rfl rfl (by decide))) (ix_cons (fun _ _ h => nomatch h) (ex_var (i := 2) rfl (vs_withstands_2) q_size.1 q_size.2 rfl rfl (by decide)) ix_nil rfl (by decide)) rfl (by decide)) rfl (by decide)) rfl (by decide)) q_lost_counts.1 rfl rfl rfl rfl rfl rfl rfl) rfl (.inl rfl) (by decide) rfl (by decide)) rfl)
  (sx_one (s_if (Γ2 := [.fr, .fr, .fr, .fr, .sc, .sc, .fr, .un, .un]) (tx_not (tx_val (ex_callB (cr_all rfl) rfl mg_all (by decide +kernel) (by decide) q_all.1 rfl rfl (ax_cons (fun _ _ h => nomatch h) (ex_freeze (ex_g (Γ' := [.fr, .fr, .fr, .fr, .sc, .sc, .fr, .un, .un]) (ex_lc (own := [(("lost" : PySem.Str), 7), (("added" : PySem.Str), 8)]) (p := (.tup [(.nm 7), (.nm 8)])) (ks := []) (Γ0 := [.fr, .fr, .fr, .fr, .sc, .sc, .fr, .un, .un]) (Γb := [.fr, .fr, .fr, .fr, .sc, .sc, .fr, .fr, .fr]) (Γl := [.un, .un, .un, .un, .un, .un, .un, .un, .un]) (d := 0) rfl nd (wx_zip rfl mg_zip (ax_cons (fun _ _ h => nomatch h) (ex_var (i := 6) rfl (vs_withstands_6) q_hit.1 q_hit.2 rfl rfl (by decide)) (ax_cons (fun _ _ h => nomatch h) (ex_var (i := 3) rfl (vs_withstands_3) q_most.1 q_most.2 rfl rfl (by decide)) ax_nil rfl (by decide)) rfl (by decide)) rfl rfl) (blkOk_by (by kernel_rfl)) (fun _ _ _ _ _ => (gx_tup (m := .fr) rfl (gxs_cons (gx_g (Γ' := [.fr, .fr, .fr, .fr, .sc, .sc, .fr, .fr, .un]) (gx_name (i := 7) nd rfl (locB (by decide +kernel)) (hfB (by decide +kernel)) (by decide) rfl (by decide)) rfl) (gxs_cons (gx_g (Γ' := [.fr, .fr, .fr, .fr, .sc, .sc, .fr, .fr, .fr]) (gx_name (i := 8) nd rfl (locB (by decide +kernel)) (hfB (by decide +kernel)) (by decide) rfl (by decide)) rfl) gxs_nil rfl) rfl) (by decide) rfl rfl)) (fun _ _ _ _ _ => txs_nil) (fun _ _ _ _ _ => (ex_sc_ow 0 (ex_cmp op_le (ex_var (i := 7) rfl (visB (by decide +kernel)) q_lost.1 q_lost.2 rfl rfl (by decide)) (ex_var (i := 8) rfl (visB (by decide +kernel)) q_added.1 q_added.2 rfl rfl (by decide)) rfl rfl (by decide) (nobehind _ (by decide) (by decide)) (fun _ => s_cmp)))) (fun _ => rfl) (by decide +kernel)) rfl)) ax_nil rfl (by decide)) (fun _ => l_all)) (fun _ => rfl)))
  (sx_one (s_ret ex_bl rfl rfl rfl (by decide)))
  sx_nil))) rfl rfl) (fun _ => rfl))) rfl rfl) (fun _ => rfl))
  (sx_one (s_ret ex_bl rfl rfl rfl (by decide)))))
theorem ok_withstands {P : Program} {w : World} {K : PySem.W.Frag} {mg : PySem.Str → Option Value} {base : Heap} {fa : Addr} {fd : FuncData} (C_capacity : Cal P w K mg base "capacity" ["side", "grade"] 4 ⟨[.fr, .fr], .fr⟩ g_capacity) (C_lost_counts : Cal P w K mg base "lost_counts" ["side", "top", "left", "size"] 3 ⟨[.fr, .fr, .fr, .fr], .fr⟩ g_lost_counts) (mg_all : mg "all" = none) (mg_range : mg "range" = none) (mg_zip : mg "zip" = none) (F : FunD K "withstands" "withstands" (defArgs st_withstands) (defBody st_withstands) (defScope st_withstands) [] [] fa fd) (hm : mg "withstands" = some (.ref fa)) : Cal P w K mg base "withstands" ["side", "grade", "size"] 5 ⟨[.fr, .fr, .fr], .sc⟩ g_withstands := ⟨fa, fd, hm, F.kp, F.bindsN (fun _ _ _ _ _ _ us hl => match us, hl with | [_, _, _], _ => rfl), w_withstands C_capacity C_lost_counts mg_all mg_range mg_zip F hm⟩
/-! blot_strength -/
abbrev st_blot_strength : Stmt := (top 14)
abbrev N_blot_strength : List PySem.Str := ["side", "grade", "size"]
theorem S_blot_strength : FnScope N_blot_strength ["side", "grade"] (defScope st_blot_strength) := ⟨rfl, rfl, rfl, by decide +kernel, rfl, by decide +kernel, by decide +kernel⟩
theorem lk_blot_strength_0 : (defScope st_blot_strength).names.lookup ("side" : PySem.Str) = some PySem.NameKind.local := by decide +kernel
theorem vs_blot_strength_0 : Vis (defScope st_blot_strength) "side" := .inl lk_blot_strength_0
theorem lo_blot_strength_0 : L2.Loc (defScope st_blot_strength) "side" := .inl lk_blot_strength_0
theorem lk_blot_strength_1 : (defScope st_blot_strength).names.lookup ("grade" : PySem.Str) = some PySem.NameKind.local := by decide +kernel
theorem vs_blot_strength_1 : Vis (defScope st_blot_strength) "grade" := .inl lk_blot_strength_1
theorem lo_blot_strength_1 : L2.Loc (defScope st_blot_strength) "grade" := .inl lk_blot_strength_1
theorem lk_blot_strength_2 : (defScope st_blot_strength).names.lookup ("size" : PySem.Str) = some PySem.NameKind.local := by decide +kernel
theorem vs_blot_strength_2 : Vis (defScope st_blot_strength) "size" := .inl lk_blot_strength_2
theorem lo_blot_strength_2 : L2.Loc (defScope st_blot_strength) "size" := .inl lk_blot_strength_2
def c_blot_strength_l1 : M Fl := (cSet 2 (cOp2 oAddN (cVar 2) (cLit (.int 1))))
def c_blot_strength : M Fl := (cSeq (cSet 2 (cLit (.int 0))) (cSeq (cWhile (tAndM (cB (cOp2 oLe (cOp2 oAddN (cVar 2) (cLit (.int 1))) (cOp2 oSub (cVar 0) (cLit (.int 2))))) (cB (cCall g_withstands [.e .fr, .e .fr, .e .fr] (cCons (cVar 0) (cCons (cVar 1) (cCons (cOp2 oAddN (cVar 2) (cLit (.int 1))) cNil)))))) c_blot_strength_l1 fuel) (cRet (cVar 2))))
@[irreducible] def g_blot_strength : List T → CR := runF [.fr, .fr] 1 c_blot_strength
theorem w_blot_strength {P : Program} {w : World} {K : PySem.W.Frag} {mg : PySem.Str → Option Value} {base : Heap} {fa : Addr} {fd : FuncData} (C_withstands : Cal P w K mg base "withstands" ["side", "grade", "size"] 5 ⟨[.fr, .fr, .fr], .sc⟩ g_withstands) (F : FunD K "blot_strength" "blot_strength" (defArgs st_blot_strength) (defBody st_blot_strength) (defScope st_blot_strength) [] [] fa fd) (hm : mg "blot_strength" = some (.ref fa)) : FnOk P w K mg base (L2.CX P w) 6 fa fd ["side", "grade"] (spT K mg ⟨[.fr, .fr], .sc⟩ g_blot_strength) := by
  unfold g_blot_strength
  refine fn_ok (n := 1) (c := c_blot_strength) F S_blot_strength rfl rfl (by decide) fun cdv A outer s H E hr => ?_
  have tk : Takes (cxOf (L2.CX P w) P w K mg base N_blot_strength "blot_strength" (defScope st_blot_strength) fa cdv A outer s H E) (WEx E) := takes_of rfl rfl rfl rfl
  have nd := S_blot_strength.nd
  exact (sx_cons (sx_g (Γ' := [.fr, .fr, .sc]) (s_set (i := 2) nd rfl (lo_blot_strength_2) ex_int rfl (.inl rfl) (by decide) rfl (by decide)) rfl)
  (sx_cons (s_while (Γi := [.fr, .fr, .sc]) (c := c_blot_strength_l1) (passes_of rfl) rfl rfl (PW.pt (txw_and (tx_cmp op_le (ex_bin op_addT (ex_var (i := 2) rfl (vs_blot_strength_2) q_size.1 q_size.2 rfl rfl (by decide)) ex_int rfl rfl (by decide) (fun _ => s_addN)) (ex_bin op_sub (ex_var (i := 0) rfl (vs_blot_strength_0) q_side.1 q_side.2 rfl rfl (by decide)) ex_int rfl rfl (by decide) (fun _ => s_sub)) rfl rfl (by decide) (nobehind _ (by decide) (by decide)) (fun _ => s_cmp)) (txw_and1 (tx_val (ex_cal (sg := ⟨[.fr, .fr, .fr], .sc⟩) tk C_withstands hr (by decide) rfl (ix_cons (fun _ _ h => nomatch h) (ex_var (i := 0) rfl (vs_blot_strength_0) q_side.1 q_side.2 rfl rfl (by decide)) (ix_cons (fun _ _ h => nomatch h) (ex_var (i := 1) rfl (vs_blot_strength_1) q_grade.1 q_grade.2 rfl rfl (by decide)) (ix_cons (fun _ _ h => nomatch h) (ex_sc_fr (ex_bin op_addT (ex_var (i := 2) rfl (vs_blot_strength_2) q_size.1 q_size.2 rfl rfl (by decide)) ex_int rfl rfl (by decide) (fun _ => s_addN))) ix_nil rfl (by decide)) rfl (by decide)) rfl (by decide)) q_withstands.1 rfl rfl rfl rfl rfl rfl rfl) (fun _ => rfl)))))
  (sx_one (sx_g (Γ' := [.fr, .fr, .sc]) (s_aug (i := 2) nd rfl (lo_blot_strength_2) iop_addS ex_int rfl rfl (by decide) rfl (by decide) (fun _ => s_addS) (.inl rfl) (by decide) rfl) rfl)))
  (sx_one (s_ret (ex_var (i := 2) rfl (vs_blot_strength_2) q_size.1 q_size.2 rfl rfl (by decide)) rfl rfl rfl (by decide)))))
theorem ok_blot_strength {P : Program} {w : World} {K : PySem.W.Frag} {mg : PySem.Str → Option Value} {base : Heap} {fa : Addr} {fd : FuncData} (C_withstands : Cal P w K mg base "withstands" ["side", "grade", "size"] 5 ⟨[.fr, .fr, .fr], .sc⟩ g_withstands) (F : FunD K "blot_strength" "blot_strength" (defArgs st_blot_strength) (defBody st_blot_strength) (defScope st_blot_strength) [] [] fa fd) (hm : mg "blot_strength" = some (.ref fa)) : Cal P w K mg base "blot_strength" ["side", "grade"] 6 ⟨[.fr, .fr], .sc⟩ g_blot_strength := ⟨fa, fd, hm, F.kp, F.bindsN (fun _ _ _ _ _ _ us hl => match us, hl with | [_, _], _ => rfl), w_blot_strength C_withstands F hm⟩
/-! _law_spread -/
abbrev st__law_spread : Stmt := (top 20)
abbrev N__law_spread : List PySem.Str := ["cell", "mixed", "total", "k"]
theorem S__law_spread : FnScope N__law_spread ["cell"] (defScope st__law_spread) := ⟨rfl, rfl, rfl, by decide +kernel, rfl, by decide +kernel, by decide +kernel⟩
theorem lk__law_spread_0 : (defScope st__law_spread).names.lookup ("cell" : PySem.Str) = some PySem.NameKind.local := by decide +kernel
theorem vs__law_spread_0 : Vis (defScope st__law_spread) "cell" := .inl lk__law_spread_0
theorem lo__law_spread_0 : L2.Loc (defScope st__law_spread) "cell" := .inl lk__law_spread_0
theorem lk__law_spread_1 : (defScope st__law_spread).names.lookup ("mixed" : PySem.Str) = some PySem.NameKind.local := by decide +kernel
theorem vs__law_spread_1 : Vis (defScope st__law_spread) "mixed" := .inl lk__law_spread_1
theorem lo__law_spread_1 : L2.Loc (defScope st__law_spread) "mixed" := .inl lk__law_spread_1
theorem lk__law_spread_2 : (defScope st__law_spread).names.lookup ("total" : PySem.Str) = some PySem.NameKind.local := by decide +kernel
theorem vs__law_spread_2 : Vis (defScope st__law_spread) "total" := .inl lk__law_spread_2
theorem lo__law_spread_2 : L2.Loc (defScope st__law_spread) "total" := .inl lk__law_spread_2
theorem lk__law_spread_3 : (defScope st__law_spread).names.lookup ("k" : PySem.Str) = some PySem.NameKind.local := by decide +kernel
theorem vs__law_spread_3 : Vis (defScope st__law_spread) "k" := .inl lk__law_spread_3
theorem lo__law_spread_3 : L2.Loc (defScope st__law_spread) "k" := .inl lk__law_spread_3
def c__law_spread_l1 : M Fl := (cSeq (cSet 1 (cOp2 oMod (cOpL gInt (cCons (cOp2 oAddN (cOp2 oAddN (cOp2 oMulN (cVar 1) (cLit (.int 48271))) (cLit (.int 12345))) (cVar 3)) cNil)) (cLit (.int 2147483647)))) (cSet 2 (cOp2 oAddN (cOp2 oMulN (cVar 2) (cLit (.int 2147483647))) (cVar 1))))
def c__law_spread : M Fl := (cSeq (cSet 1 (cOp2 oMod (cOpL gInt (cCons (cVar 0) cNil)) (cLit (.int 2147483647)))) (cSeq (cSet 2 (cLit (.int 1))) (cSeq (cFor (.nm 3) (cRng (cCons (cLit (.int 4)) cNil)) c__law_spread_l1) (cRet (cVar 2)))))
@[irreducible] def g__law_spread : List T → CR := runF [.fr] 3 c__law_spread
theorem w__law_spread {P : Program} {w : World} {K : PySem.W.Frag} {mg : PySem.Str → Option Value} {base : Heap} {fa : Addr} {fd : FuncData} (mg_int : mg "int" = none) (mg_range : mg "range" = none) (F : FunD K "_law_spread" "_law_spread" (defArgs st__law_spread) (defBody st__law_spread) (defScope st__law_spread) [] [] fa fd) (hm : mg "_law_spread" = some (.ref fa)) : FnOk P w K mg base (L2.CX P w) 1 fa fd ["cell"] (spT K mg ⟨[.fr], .sc⟩ g__law_spread) := by
  unfold g__law_spread
  refine fn_ok (n := 3) (c := c__law_spread) F S__law_spread rfl rfl (by decide) fun cdv A outer s H E hr => ?_
  have tk : Takes (cxOf (L2.CX P w) P w K mg base N__law_spread "_law_spread" (defScope st__law_spread) fa cdv A outer s H E) (WEx E) := takes_of rfl rfl rfl rfl
  have nd := S__law_spread.nd
  exact (sx_cons (sx_g (Γ' := [.fr, .sc, .un, .un]) (s_set (i := 1) nd rfl (lo__law_spread_1) (ex_bin op_mod (ex_callTy call_intAny rfl mg_int PySem.Pv.boot_int (by decide) q_int.1 rfl rfl (ax_cons (fun _ _ h => nomatch h) (ex_var (i := 0) rfl (vs__law_spread_0) q_cell.1 q_cell.2 rfl rfl (by decide)) ax_nil rfl (by decide)) (fun _ => l_int)) ex_int rfl rfl (by decide) (fun _ => s_mod)) rfl (.inl rfl) (by decide) rfl (by decide)) rfl)
  (sx_cons (sx_g (Γ' := [.fr, .sc, .sc, .un]) (s_set (i := 2) nd rfl (lo__law_spread_2) ex_int rfl (.inl rfl) (by decide) rfl (by decide)) rfl)
  (sx_cons (s_for (Γi := [.fr, .sc, .sc, .un]) (Γb := [.fr, .sc, .sc, .sc]) (p := (.nm 3)) (c := c__law_spread_l1) (passes_of rfl) rfl (wx_range1 rfl mg_range (ax_cons (fun _ _ h => nomatch h) ex_int ax_nil rfl (by decide)) rfl) rfl rfl (gx_g (Γ' := [.fr, .sc, .sc, .sc]) (gx_name (i := 3) nd rfl (lo__law_spread_3) (.inl rfl) (by decide) rfl (by decide)) rfl)
  (sx_weak (Γ1 := [.fr, .sc, .sc, .sc]) (sx_cons (sx_g (Γ' := [.fr, .sc, .sc, .sc]) (s_set (i := 1) nd rfl (lo__law_spread_1) (ex_bin op_mod (ex_callTy call_intAny rfl mg_int PySem.Pv.boot_int (by decide) q_int.1 rfl rfl (ax_cons (fun _ _ h => nomatch h) (ex_bin op_addT (ex_bin op_addT (ex_bin op_mulT (ex_var (i := 1) rfl (vs__law_spread_1) q_mixed.1 q_mixed.2 rfl rfl (by decide)) ex_int rfl rfl (by decide) (fun _ => s_mulN)) ex_int rfl rfl (by decide) (fun _ => s_addN)) (ex_var (i := 3) rfl (vs__law_spread_3) q_k.1 q_k.2 rfl rfl (by decide)) rfl rfl (by decide) (fun _ => s_addN)) ax_nil rfl (by decide)) (fun _ => l_int)) ex_int rfl rfl (by decide) (fun _ => s_mod)) rfl (.inl rfl) (by decide) rfl (by decide)) rfl)
  (sx_one (sx_g (Γ' := [.fr, .sc, .sc, .sc]) (s_set (i := 2) nd rfl (lo__law_spread_2) (ex_bin op_addT (ex_bin op_mulT (ex_var (i := 2) rfl (vs__law_spread_2) q_total.1 q_total.2 rfl rfl (by decide)) ex_int rfl rfl (by decide) (fun _ => s_mulN)) (ex_var (i := 1) rfl (vs__law_spread_1) q_mixed.1 q_mixed.2 rfl rfl (by decide)) rfl rfl (by decide) (fun _ => s_addN)) rfl (.inl rfl) (by decide) rfl (by decide)) rfl))) rfl rfl) (fun _ => rfl))
  (sx_one (s_ret (ex_var (i := 2) rfl (vs__law_spread_2) q_total.1 q_total.2 rfl rfl (by decide)) rfl rfl rfl (by decide))))))
theorem ok__law_spread {P : Program} {w : World} {K : PySem.W.Frag} {mg : PySem.Str → Option Value} {base : Heap} {fa : Addr} {fd : FuncData} (mg_int : mg "int" = none) (mg_range : mg "range" = none) (F : FunD K "_law_spread" "_law_spread" (defArgs st__law_spread) (defBody st__law_spread) (defScope st__law_spread) [] [] fa fd) (hm : mg "_law_spread" = some (.ref fa)) : Cal P w K mg base "_law_spread" ["cell"] 1 ⟨[.fr], .sc⟩ g__law_spread := ⟨fa, fd, hm, F.kp, F.bindsN (fun _ _ _ _ _ _ us hl => match us, hl with | [_], _ => rfl), w__law_spread mg_int mg_range F hm⟩
/-! _law_draw -/
abbrev st__law_draw : Stmt := (top 21)
abbrev N__law_draw : List PySem.Str := ["pool", "many", "cell", "mixed", "value"]
theorem S__law_draw : FnScope N__law_draw ["pool", "many"] (defScope st__law_draw) := ⟨rfl, rfl, rfl, by decide +kernel, rfl, by decide +kernel, by decide +kernel⟩
theorem lk__law_draw_0 : (defScope st__law_draw).names.lookup ("pool" : PySem.Str) = some PySem.NameKind.local := by decide +kernel
theorem vs__law_draw_0 : Vis (defScope st__law_draw) "pool" := .inl lk__law_draw_0
theorem lo__law_draw_0 : L2.Loc (defScope st__law_draw) "pool" := .inl lk__law_draw_0
theorem lk__law_draw_1 : (defScope st__law_draw).names.lookup ("many" : PySem.Str) = some PySem.NameKind.local := by decide +kernel
theorem vs__law_draw_1 : Vis (defScope st__law_draw) "many" := .inl lk__law_draw_1
theorem lo__law_draw_1 : L2.Loc (defScope st__law_draw) "many" := .inl lk__law_draw_1
theorem lk__law_draw_2 : (defScope st__law_draw).names.lookup ("cell" : PySem.Str) = some PySem.NameKind.local := by decide +kernel
theorem vs__law_draw_2 : Vis (defScope st__law_draw) "cell" := .inl lk__law_draw_2
theorem lo__law_draw_2 : L2.Loc (defScope st__law_draw) "cell" := .inl lk__law_draw_2
theorem lk__law_draw_3 : (defScope st__law_draw).names.lookup ("mixed" : PySem.Str) = some PySem.NameKind.local := by decide +kernel
theorem vs__law_draw_3 : Vis (defScope st__law_draw) "mixed" := .inl lk__law_draw_3
theorem lo__law_draw_3 : L2.Loc (defScope st__law_draw) "mixed" := .inl lk__law_draw_3
theorem lk__law_draw_4 : (defScope st__law_draw).names.lookup ("value" : PySem.Str) = some PySem.NameKind.local := by decide +kernel
theorem vs__law_draw_4 : Vis (defScope st__law_draw) "value" := .inl lk__law_draw_4
theorem lo__law_draw_4 : L2.Loc (defScope st__law_draw) "value" := .inl lk__law_draw_4
def c__law_draw : M Fl := (cSeq (cIfS (tAndM (cB (cOp2 oLe (cOp2 (ixB false) (cVar 0) (cLit (.int 2))) (cLit (.int 0)))) (cB (cOp2 oLt (cOp2 (ixB false) (cVar 0) (cLit (.int 1))) (cOpL gLen (cCons (cOp2 (ixB false) (cVar 0) (cLit (.int 0))) cNil))))) (cSeq (cSet 2 (cOp2 (ixB false) (cOp2 (ixB false) (cVar 0) (cLit (.int 0))) (cOp2 (ixB false) (cVar 0) (cLit (.int 1))))) (cSeq (cSetI 0 1 0 (cOp2 oAddN (cOp2 (ixB false) (cVar 0) (cLit (.int 1))) (cLit (.int 1))) cP0 (cLit (.int 1))) (cSeq (cSetI 0 1 0 (cVar 2) cP0 (cLit (.int 2))) (cIfS (cB (cOp2 oLt (cVar 2) (cLit (.int 1000000000000000000)))) (cSetI 0 1 0 (cCall g__law_spread [.e .fr] (cCons (cVar 2) cNil)) cP0 (cLit (.int 2))) cNx)))) cNx) (cSeq (cSetI 0 1 0 (cOp2 oAddN (cOp2 (ixB false) (cVar 0) (cLit (.int 3))) (cLit (.int 1))) cP0 (cLit (.int 3))) (cSeq (cIfS (cB (cOp2 oLe (cOp2 (ixB false) (cVar 0) (cLit (.int 2))) (cLit (.int 0)))) (cSeq (cSet 3 (cOp2 oMod (cOpL gInt (cCons (cOp2 oAddN (cOp2 oAddN (cOp2 oMulN (cOp2 (ixB false) (cVar 0) (cLit (.int 4))) (cLit (.int 48271))) (cOp2 oMulN (cOp2 (ixB false) (cVar 0) (cLit (.int 3))) (cLit (.int 69621)))) (cLit (.int 1))) cNil)) (cLit (.int 2147483647)))) (cSeq (cSet 3 (cOp2 oMod (cOpL gInt (cCons (cOp2 oAddN (cOp2 oMulN (cVar 3) (cLit (.int 16807))) (cOp2 (ixB false) (cVar 0) (cLit (.int 3)))) cNil)) (cLit (.int 2147483629)))) (cRet (cOp2 oMod (cOp2 oDiv (cVar 3) (cLit (.int 5))) (cVar 1))))) cNx) (cSeq (cSet 4 (cOp2 oMod (cOpL gInt (cCons (cOp2 (ixB false) (cVar 0) (cLit (.int 2))) cNil)) (cVar 1))) (cSeq (cSetI 0 1 0 (cOp2 oDiv (cOp2 (ixB false) (cVar 0) (cLit (.int 2))) (cVar 1)) cP0 (cLit (.int 2))) (cRet (cVar 4)))))))
@[irreducible] def g__law_draw : List T → CR := runF [.io 1, .fr] 3 c__law_draw
theorem w__law_draw {P : Program} {w : World} {K : PySem.W.Frag} {mg : PySem.Str → Option Value} {base : Heap} {fa : Addr} {fd : FuncData} (C__law_spread : Cal P w K mg base "_law_spread" ["cell"] 1 ⟨[.fr], .sc⟩ g__law_spread) (mg_int : mg "int" = none) (mg_len : mg "len" = none) (F : FunD K "_law_draw" "_law_draw" (defArgs st__law_draw) (defBody st__law_draw) (defScope st__law_draw) [] [] fa fd) (hm : mg "_law_draw" = some (.ref fa)) : FnOk P w K mg base (L2.CX P w) 2 fa fd ["pool", "many"] (spT K mg ⟨[.io 1, .fr], .sc⟩ g__law_draw) := by
  unfold g__law_draw
  refine fn_ok (n := 3) (c := c__law_draw) F S__law_draw rfl rfl (by decide) fun cdv A outer s H E hr => ?_
  have tk : Takes (cxOf (L2.CX P w) P w K mg base N__law_draw "_law_draw" (defScope st__law_draw) fa cdv A outer s H E) (WEx E) := takes_of rfl rfl rfl rfl
  have nd := S__law_draw.nd
  exact (sx_cons (s_if (Γ2 := [(.ow 1), .fr, .un, .un, .un]) (tx_g (Γ' := [(.ow 1), .fr, .un, .un, .un]) (tx_lend (z := 0) (d := 1) (Γl := [.un, .un, .un, .un, .un]) (PW.pt (txw_and (tx_cmp op_le (ex_ix (ma := (.bk 1 1)) (mb := .sc) (hu1 hr) (ex_var (i := 0) rfl (vs__law_draw_0) q_pool.1 q_pool.2 rfl rfl (by decide)) ex_int rfl rfl (by decide) (fun _ _ => rfl)) ex_int rfl rfl (by decide) (nobehind _ (by decide) (by decide)) (fun _ => s_cmp)) (txw_and1 (tx_cmp op_lt (ex_ix (ma := (.bk 1 1)) (mb := .sc) (hu1 hr) (ex_var (i := 0) rfl (vs__law_draw_0) q_pool.1 q_pool.2 rfl rfl (by decide)) ex_int rfl rfl (by decide) (fun _ _ => rfl)) (ex_callB call_lenAny rfl mg_len PySem.boot_len (by decide) q_len.1 rfl rfl (ax_cons (fun _ _ h => nomatch h) (ex_ix (ma := (.bk 1 1)) (mb := .sc) (hu1 hr) (ex_var (i := 0) rfl (vs__law_draw_0) q_pool.1 q_pool.2 rfl rfl (by decide)) ex_int rfl rfl (by decide) (fun _ _ => rfl)) ax_nil rfl (by decide)) (fun _ => l_len)) rfl rfl (by decide) (nobehind _ (by decide) (by decide)) (fun _ => s_cmp))))) rfl rfl rfl rfl rfl) rfl)
  (sx_weak (Γ1 := [(.ow 1), .fr, .fr, .un, .un]) (sx_cons (sx_g (Γ' := [(.ow 1), .fr, .fr, .un, .un]) (s_set (i := 2) nd rfl (lo__law_draw_2) (ex_g (Γ' := [(.ow 1), .fr, .un, .un, .un]) (ex_lend (z := 0) (d := 1) (Γl := [.un, .un, .un, .un, .un]) (ex_ix (ma := (.bk 1 0)) (mb := (.bk 1 0)) (hu1 hr) (ex_ix (ma := (.bk 1 1)) (mb := .sc) (hu1 hr) (ex_var (i := 0) rfl (vs__law_draw_0) q_pool.1 q_pool.2 rfl rfl (by decide)) ex_int rfl rfl (by decide) (fun _ _ => rfl)) (ex_ix (ma := (.bk 1 1)) (mb := .sc) (hu1 hr) (ex_var (i := 0) rfl (vs__law_draw_0) q_pool.1 q_pool.2 rfl rfl (by decide)) ex_int rfl rfl (by decide) (fun _ _ => rfl)) rfl rfl (by decide) (fun _ _ => rfl)) rfl rfl rfl rfl rfl rfl) rfl) rfl (.inl rfl) (by decide) rfl (by decide)) rfl)
  (sx_cons (sx_g (Γ' := [(.ow 1), .fr, .fr, .un, .un]) (s_seti (z := 0) (D := 1) (d := 0) (Γl := [.un, .un, .un, .un, .un]) (Γl2 := [.un, .un, .un, .un, .un]) (hu1 hr) (ex_sc_ow 0 (ex_bin op_addT (ex_ix (ma := (.bk 1 1)) (mb := .sc) (hu1 hr) (ex_var (i := 0) rfl (vs__law_draw_0) q_pool.1 q_pool.2 rfl rfl (by decide)) ex_int rfl rfl (by decide) (fun _ _ => rfl)) ex_int rfl rfl (by decide) (fun _ => s_addN))) (px_name (z := 0) rfl (vs__law_draw_0) q_pool.1 q_pool.2 rfl (by decide)) ex_int rfl rfl rfl rfl rfl rfl rfl rfl (fun _ => rfl) rfl rfl rfl) rfl)
  (sx_cons (sx_g (Γ' := [(.ow 1), .fr, .fr, .un, .un]) (s_seti (z := 0) (D := 1) (d := 0) (Γl := [.un, .un, .un, .un, .un]) (Γl2 := [.un, .un, .un, .un, .un]) (hu1 hr) (ex_fr_ow0 (ex_var (i := 2) rfl (vs__law_draw_2) q_cell.1 q_cell.2 rfl rfl (by decide))) (px_name (z := 0) rfl (vs__law_draw_0) q_pool.1 q_pool.2 rfl (by decide)) ex_int rfl rfl rfl rfl rfl rfl rfl rfl (fun _ => rfl) rfl rfl rfl) rfl)
  (sx_one (s_if (Γ2 := [(.ow 1), .fr, .fr, .un, .un]) (tx_cmp op_lt (ex_var (i := 2) rfl (vs__law_draw_2) q_cell.1 q_cell.2 rfl rfl (by decide)) ex_int rfl rfl (by decide) (nobehind _ (by decide) (by decide)) (fun _ => s_cmp))
  (sx_one (sx_g (Γ' := [(.ow 1), .fr, .fr, .un, .un]) (s_seti (z := 0) (D := 1) (d := 0) (Γl := [.un, .un, .un, .un, .un]) (Γl2 := [.un, .un, .un, .un, .un]) (hu1 hr) (ex_sc_ow 0 (ex_cal (sg := ⟨[.fr], .sc⟩) tk C__law_spread hr (by decide) rfl (ix_cons (fun _ _ h => nomatch h) (ex_var (i := 2) rfl (vs__law_draw_2) q_cell.1 q_cell.2 rfl rfl (by decide)) ix_nil rfl (by decide)) q__law_spread.1 rfl rfl rfl rfl rfl rfl rfl)) (px_name (z := 0) rfl (vs__law_draw_0) q_pool.1 q_pool.2 rfl (by decide)) ex_int rfl rfl rfl rfl rfl rfl rfl rfl (fun _ => rfl) rfl rfl rfl) rfl))
  sx_nil))))) rfl rfl)
  sx_nil)
  (sx_cons (sx_g (Γ' := [(.ow 1), .fr, .un, .un, .un]) (s_seti (z := 0) (D := 1) (d := 0) (Γl := [.un, .un, .un, .un, .un]) (Γl2 := [.un, .un, .un, .un, .un]) (hu1 hr) (ex_sc_ow 0 (ex_bin op_addT (ex_ix (ma := (.bk 1 1)) (mb := .sc) (hu1 hr) (ex_var (i := 0) rfl (vs__law_draw_0) q_pool.1 q_pool.2 rfl rfl (by decide)) ex_int rfl rfl (by decide) (fun _ _ => rfl)) ex_int rfl rfl (by decide) (fun _ => s_addN))) (px_name (z := 0) rfl (vs__law_draw_0) q_pool.1 q_pool.2 rfl (by decide)) ex_int rfl rfl rfl rfl rfl rfl rfl rfl (fun _ => rfl) rfl rfl rfl) rfl)
  (sx_cons (s_if (Γ2 := [(.ow 1), .fr, .un, .un, .un]) (tx_g (Γ' := [(.ow 1), .fr, .un, .un, .un]) (tx_lend (z := 0) (d := 1) (Γl := [.un, .un, .un, .un, .un]) (tx_cmp op_le (ex_ix (ma := (.bk 1 1)) (mb := .sc) (hu1 hr) (ex_var (i := 0) rfl (vs__law_draw_0) q_pool.1 q_pool.2 rfl rfl (by decide)) ex_int rfl rfl (by decide) (fun _ _ => rfl)) ex_int rfl rfl (by decide) (nobehind _ (by decide) (by decide)) (fun _ => s_cmp)) rfl rfl rfl rfl rfl) rfl)
  (sx_cons (sx_g (Γ' := [(.ow 1), .fr, .un, .sc, .un]) (s_set (i := 3) nd rfl (lo__law_draw_3) (ex_g (Γ' := [(.ow 1), .fr, .un, .un, .un]) (ex_lend (z := 0) (d := 1) (Γl := [.un, .un, .un, .un, .un]) (ex_bin op_mod (ex_callTy call_intAny rfl mg_int PySem.Pv.boot_int (by decide) q_int.1 rfl rfl (ax_cons (fun _ _ h => nomatch h) (ex_bin op_addT (ex_bin op_addT (ex_bin op_mulT (ex_ix (ma := (.bk 1 1)) (mb := .sc) (hu1 hr) (ex_var (i := 0) rfl (vs__law_draw_0) q_pool.1 q_pool.2 rfl rfl (by decide)) ex_int rfl rfl (by decide) (fun _ _ => rfl)) ex_int rfl rfl (by decide) (fun _ => s_mulN)) (ex_bin op_mulT (ex_ix (ma := (.bk 1 1)) (mb := .sc) (hu1 hr) (ex_var (i := 0) rfl (vs__law_draw_0) q_pool.1 q_pool.2 rfl rfl (by decide)) ex_int rfl rfl (by decide) (fun _ _ => rfl)) ex_int rfl rfl (by decide) (fun _ => s_mulN)) rfl rfl (by decide) (fun _ => s_addN)) ex_int rfl rfl (by decide) (fun _ => s_addN)) ax_nil rfl (by decide)) (fun _ => l_int)) ex_int rfl rfl (by decide) (fun _ => s_mod)) rfl rfl rfl rfl rfl rfl) rfl) rfl (.inl rfl) (by decide) rfl (by decide)) rfl)
  (sx_cons (sx_g (Γ' := [(.ow 1), .fr, .un, .sc, .un]) (s_set (i := 3) nd rfl (lo__law_draw_3) (ex_g (Γ' := [(.ow 1), .fr, .un, .sc, .un]) (ex_lend (z := 0) (d := 1) (Γl := [.un, .un, .un, .un, .un]) (ex_bin op_mod (ex_callTy call_intAny rfl mg_int PySem.Pv.boot_int (by decide) q_int.1 rfl rfl (ax_cons (fun _ _ h => nomatch h) (ex_bin op_addT (ex_bin op_mulT (ex_var (i := 3) rfl (vs__law_draw_3) q_mixed.1 q_mixed.2 rfl rfl (by decide)) ex_int rfl rfl (by decide) (fun _ => s_mulN)) (ex_ix (ma := (.bk 1 1)) (mb := .sc) (hu1 hr) (ex_var (i := 0) rfl (vs__law_draw_0) q_pool.1 q_pool.2 rfl rfl (by decide)) ex_int rfl rfl (by decide) (fun _ _ => rfl)) rfl rfl (by decide) (fun _ => s_addN)) ax_nil rfl (by decide)) (fun _ => l_int)) ex_int rfl rfl (by decide) (fun _ => s_mod)) rfl rfl rfl rfl rfl rfl) rfl) rfl (.inl rfl) (by decide) rfl (by decide)) rfl)
  (sx_one (s_ret (ex_bin op_mod (ex_bin op_fdivW (ex_var (i := 3) rfl (vs__law_draw_3) q_mixed.1 q_mixed.2 rfl rfl (by decide)) ex_int rfl rfl (by decide) (fun _ => s_div)) (ex_var (i := 1) rfl (vs__law_draw_1) q_many.1 q_many.2 rfl rfl (by decide)) rfl rfl (by decide) (fun _ => s_mod)) rfl rfl rfl (by decide)))))
  sx_nil)
  (sx_cons (sx_g (Γ' := [(.ow 1), .fr, .un, .un, .sc]) (s_set (i := 4) nd rfl (lo__law_draw_4) (ex_g (Γ' := [(.ow 1), .fr, .un, .un, .un]) (ex_lend (z := 0) (d := 1) (Γl := [.un, .un, .un, .un, .un]) (ex_bin op_mod (ex_callTy call_intAny rfl mg_int PySem.Pv.boot_int (by decide) q_int.1 rfl rfl (ax_cons (fun _ _ h => nomatch h) (ex_ix (ma := (.bk 1 1)) (mb := .sc) (hu1 hr) (ex_var (i := 0) rfl (vs__law_draw_0) q_pool.1 q_pool.2 rfl rfl (by decide)) ex_int rfl rfl (by decide) (fun _ _ => rfl)) ax_nil rfl (by decide)) (fun _ => l_int)) (ex_var (i := 1) rfl (vs__law_draw_1) q_many.1 q_many.2 rfl rfl (by decide)) rfl rfl (by decide) (fun _ => s_mod)) rfl rfl rfl rfl rfl rfl) rfl) rfl (.inl rfl) (by decide) rfl (by decide)) rfl)
  (sx_cons (sx_g (Γ' := [(.ow 1), .fr, .un, .un, .sc]) (s_seti (z := 0) (D := 1) (d := 0) (Γl := [.un, .un, .un, .un, .un]) (Γl2 := [.un, .un, .un, .un, .un]) (hu1 hr) (ex_sc_ow 0 (ex_bin op_fdivW (ex_ix (ma := (.bk 1 1)) (mb := .sc) (hu1 hr) (ex_var (i := 0) rfl (vs__law_draw_0) q_pool.1 q_pool.2 rfl rfl (by decide)) ex_int rfl rfl (by decide) (fun _ _ => rfl)) (ex_var (i := 1) rfl (vs__law_draw_1) q_many.1 q_many.2 rfl rfl (by decide)) rfl rfl (by decide) (fun _ => s_div))) (px_name (z := 0) rfl (vs__law_draw_0) q_pool.1 q_pool.2 rfl (by decide)) ex_int rfl rfl rfl rfl rfl rfl rfl rfl (fun _ => rfl) rfl rfl rfl) rfl)
  (sx_one (s_ret (ex_var (i := 4) rfl (vs__law_draw_4) q_value.1 q_value.2 rfl rfl (by decide)) rfl rfl rfl (by decide))))))))
theorem ok__law_draw {P : Program} {w : World} {K : PySem.W.Frag} {mg : PySem.Str → Option Value} {base : Heap} {fa : Addr} {fd : FuncData} (C__law_spread : Cal P w K mg base "_law_spread" ["cell"] 1 ⟨[.fr], .sc⟩ g__law_spread) (mg_int : mg "int" = none) (mg_len : mg "len" = none) (F : FunD K "_law_draw" "_law_draw" (defArgs st__law_draw) (defBody st__law_draw) (defScope st__law_draw) [] [] fa fd) (hm : mg "_law_draw" = some (.ref fa)) : Cal P w K mg base "_law_draw" ["pool", "many"] 2 ⟨[.io 1, .fr], .sc⟩ g__law_draw := ⟨fa, fd, hm, F.kp, F.bindsN (fun _ _ _ _ _ _ us hl => match us, hl with | [_, _], _ => rfl), w__law_draw C__law_spread mg_int mg_len F hm⟩
/-! _law_equal -/
abbrev st__law_equal : Stmt := (top 22)
abbrev N__law_equal : List PySem.Str := ["x", "y", "k", "key"]
theorem S__law_equal : FnScope N__law_equal ["x", "y"] (defScope st__law_equal) := ⟨rfl, rfl, rfl, by decide +kernel, rfl, by decide +kernel, by decide +kernel⟩
theorem lk__law_equal_0 : (defScope st__law_equal).names.lookup ("x" : PySem.Str) = some PySem.NameKind.cell := by decide +kernel
theorem vs__law_equal_0 : Vis (defScope st__law_equal) "x" := .inr (.inl lk__law_equal_0)
theorem lo__law_equal_0 : L2.Loc (defScope st__law_equal) "x" := .inr lk__law_equal_0
theorem lk__law_equal_1 : (defScope st__law_equal).names.lookup ("y" : PySem.Str) = some PySem.NameKind.cell := by decide +kernel
theorem vs__law_equal_1 : Vis (defScope st__law_equal) "y" := .inr (.inl lk__law_equal_1)
theorem lo__law_equal_1 : L2.Loc (defScope st__law_equal) "y" := .inr lk__law_equal_1
def c__law_equal (g_ : List T → CR) : M Fl := (cSeq (cIfS (tOrM (cB (cOp2 oNe (cOp1 (oIsi "bool") (cVar 0)) (cOp1 (oIsi "bool") (cVar 1)))) (tOrM (cB (cOp2 oNe (cOp1 (oIsi "int") (cVar 0)) (cOp1 (oIsi "int") (cVar 1)))) (cB (cOp2 oNe (cOp1 (oIsi "str") (cVar 0)) (cOp1 (oIsi "str") (cVar 1)))))) (cRet (cLit (.bl false))) cNx) (cSeq (cIfS (tOrM (cB (cOp2 oNe (cOp1 (oIsi "list") (cVar 0)) (cOp1 (oIsi "list") (cVar 1)))) (tOrM (cB (cOp2 oNe (cOp1 (oIsi "tuple") (cVar 0)) (cOp1 (oIsi "tuple") (cVar 1)))) (cB (cOp2 oNe (cOp1 (oIsi "dict") (cVar 0)) (cOp1 (oIsi "dict") (cVar 1)))))) (cRet (cLit (.bl false))) cNx) (cSeq (cIfS (tOrM (cB (cOp1 (oIsi "list") (cVar 1))) (cB (cOp1 (oIsi "tuple") (cVar 1)))) (cRet (cAnd (cOp2 oEq (cOpL gLen (cCons (cVar 0) cNil)) (cOpL gLen (cCons (cVar 1) cNil))) (cOpL gAll (cCons (cLc (cRng (cCons (cOpL gLen (cCons (cVar 1) cNil)) cNil)) [] (.nm 2) cYes (cCall g_ [.e .fr, .e .fr] (cCons (cOp2 (ixB false) (cVar 0) (cVar 2)) (cCons (cOp2 (ixB false) (cVar 1) (cVar 2)) cNil)))) cNil)))) cNx) (cSeq (cIfS (cB (cOp1 (oIsi "dict") (cVar 1))) (cRet (cAnd (cOp2 oEq (cOpL gLen (cCons (cVar 0) cNil)) (cOpL gLen (cCons (cVar 1) cNil))) (cOpL gAll (cCons (cLc (cIt false (cVar 1)) [] (.nm 3) cYes (cAnd (cOp2 oIn (cVar 3) (cVar 0)) (cCall g_ [.e .fr, .e .fr] (cCons (cOp2 (ixB false) (cVar 0) (cVar 3)) (cCons (cOp2 (ixB false) (cVar 1) (cVar 3)) cNil))))) cNil)))) cNx) (cRet (cOp2 oIs (cOp2 oEq (cVar 0) (cVar 1)) (cLit (.bl true))))))))
def gR__law_equal : Nat → List T → CR
  | 0 => fun _ => .stuck
  | n + 1 => runF [.fr, .fr] 2 (c__law_equal (gR__law_equal n))
@[irreducible] def g__law_equal : List T → CR := gR__law_equal 12
theorem w__law_equal {P : Program} {w : World} {K : PySem.W.Frag} {mg : PySem.Str → Option Value} {base : Heap} {fa : Addr} {fd : FuncData} {j : Nat} {g_ : List T → CR} (mg_all : mg "all" = none) (mg_bool : mg "bool" = none) (mg_dict : mg "dict" = none) (mg_int : mg "int" = none) (mg_isinstance : mg "isinstance" = none) (mg_len : mg "len" = none) (mg_list : mg "list" = none) (mg_range : mg "range" = none) (mg_str : mg "str" = none) (mg_tuple : mg "tuple" = none) (F : FunD K "_law_equal" "_law_equal" (defArgs st__law_equal) (defBody st__law_equal) (defScope st__law_equal) [] [] fa fd) (hm : mg "_law_equal" = some (.ref fa)) (C_rec : Cal P w K mg base "_law_equal" ["x", "y"] (0 + j) ⟨[.fr, .fr], .sc⟩ g_) : FnOk P w K mg base (L2.CX P w) (0 + j + 1) fa fd ["x", "y"] (spT K mg ⟨[.fr, .fr], .sc⟩ (runF [.fr, .fr] 2 (c__law_equal g_))) := by
  refine fn_ok (n := 2) (c := (c__law_equal g_)) F S__law_equal rfl rfl (by decide) fun cdv A outer s H E hr => ?_
  have tk : Takes (cxOf (L2.CX P w) P w K mg base N__law_equal "_law_equal" (defScope st__law_equal) fa cdv A outer s H E) (WEx E) := takes_of rfl rfl rfl rfl
  have nd := S__law_equal.nd
  exact (sx_cons (s_if (Γ2 := [.fr, .fr, .un, .un]) (PW.pt (txw_or (tx_cmp (op_neD hr.units) (ex_isi (c := "bool") (by decide) rfl mg_isinstance rfl mg_bool (by decide +kernel) (by decide) q_bool.1 (ex_var (i := 0) rfl (vs__law_equal_0) q_x.1 q_x.2 rfl rfl (by decide)) rfl rfl rfl) (ex_isi (c := "bool") (by decide) rfl mg_isinstance rfl mg_bool (by decide +kernel) (by decide) q_bool.1 (ex_var (i := 1) rfl (vs__law_equal_1) q_y.1 q_y.2 rfl rfl (by decide)) rfl rfl rfl) rfl rfl (by decide) (nobehind _ (by decide) (by decide)) (fun _ => s_ne)) (txw_or (tx_cmp (op_neD hr.units) (ex_isi (c := "int") (by decide) rfl mg_isinstance rfl mg_int (by decide +kernel) (by decide) q_int.1 (ex_var (i := 0) rfl (vs__law_equal_0) q_x.1 q_x.2 rfl rfl (by decide)) rfl rfl rfl) (ex_isi (c := "int") (by decide) rfl mg_isinstance rfl mg_int (by decide +kernel) (by decide) q_int.1 (ex_var (i := 1) rfl (vs__law_equal_1) q_y.1 q_y.2 rfl rfl (by decide)) rfl rfl rfl) rfl rfl (by decide) (nobehind _ (by decide) (by decide)) (fun _ => s_ne)) (txw_or1 (tx_cmp (op_neD hr.units) (ex_isi (c := "str") (by decide) rfl mg_isinstance rfl mg_str (by decide +kernel) (by decide) q_str.1 (ex_var (i := 0) rfl (vs__law_equal_0) q_x.1 q_x.2 rfl rfl (by decide)) rfl rfl rfl) (ex_isi (c := "str") (by decide) rfl mg_isinstance rfl mg_str (by decide +kernel) (by decide) q_str.1 (ex_var (i := 1) rfl (vs__law_equal_1) q_y.1 q_y.2 rfl rfl (by decide)) rfl rfl rfl) rfl rfl (by decide) (nobehind _ (by decide) (by decide)) (fun _ => s_ne))))))
  (sx_one (s_ret ex_bl rfl rfl rfl (by decide)))
  sx_nil)
  (sx_cons (s_if (Γ2 := [.fr, .fr, .un, .un]) (PW.pt (txw_or (tx_cmp (op_neD hr.units) (ex_isi (c := "list") (by decide) rfl mg_isinstance rfl mg_list (by decide +kernel) (by decide) q_list.1 (ex_var (i := 0) rfl (vs__law_equal_0) q_x.1 q_x.2 rfl rfl (by decide)) rfl rfl rfl) (ex_isi (c := "list") (by decide) rfl mg_isinstance rfl mg_list (by decide +kernel) (by decide) q_list.1 (ex_var (i := 1) rfl (vs__law_equal_1) q_y.1 q_y.2 rfl rfl (by decide)) rfl rfl rfl) rfl rfl (by decide) (nobehind _ (by decide) (by decide)) (fun _ => s_ne)) (txw_or (tx_cmp (op_neD hr.units) (ex_isi (c := "tuple") (by decide) rfl mg_isinstance rfl mg_tuple (by decide +kernel) (by decide) q_tuple.1 (ex_var (i := 0) rfl (vs__law_equal_0) q_x.1 q_x.2 rfl rfl (by decide)) rfl rfl rfl) (ex_isi (c := "tuple") (by decide) rfl mg_isinstance rfl mg_tuple (by decide +kernel) (by decide) q_tuple.1 (ex_var (i := 1) rfl (vs__law_equal_1) q_y.1 q_y.2 rfl rfl (by decide)) rfl rfl rfl) rfl rfl (by decide) (nobehind _ (by decide) (by decide)) (fun _ => s_ne)) (txw_or1 (tx_cmp (op_neD hr.units) (ex_isi (c := "dict") (by decide) rfl mg_isinstance rfl mg_dict (by decide +kernel) (by decide) q_dict.1 (ex_var (i := 0) rfl (vs__law_equal_0) q_x.1 q_x.2 rfl rfl (by decide)) rfl rfl rfl) (ex_isi (c := "dict") (by decide) rfl mg_isinstance rfl mg_dict (by decide +kernel) (by decide) q_dict.1 (ex_var (i := 1) rfl (vs__law_equal_1) q_y.1 q_y.2 rfl rfl (by decide)) rfl rfl rfl) rfl rfl (by decide) (nobehind _ (by decide) (by decide)) (fun _ => s_ne))))))
  (sx_one (s_ret ex_bl rfl rfl rfl (by decide)))
  sx_nil)
  (sx_cons (s_if (Γ2 := [.fr, .fr, .un, .un]) (PW.pt (txw_or (tx_val (ex_isi (c := "list") (by decide) rfl mg_isinstance rfl mg_list (by decide +kernel) (by decide) q_list.1 (ex_var (i := 1) rfl (vs__law_equal_1) q_y.1 q_y.2 rfl rfl (by decide)) rfl rfl rfl) (fun _ => rfl)) (txw_or1 (tx_val (ex_isi (c := "tuple") (by decide) rfl mg_isinstance rfl mg_tuple (by decide +kernel) (by decide) q_tuple.1 (ex_var (i := 1) rfl (vs__law_equal_1) q_y.1 q_y.2 rfl rfl (by decide)) rfl rfl rfl) (fun _ => rfl)))))
  (sx_one (s_ret (ex_and (ex_cmp (op_eqD hr.units) (ex_callB call_lenAny rfl mg_len PySem.boot_len (by decide) q_len.1 rfl rfl (ax_cons (fun _ _ h => nomatch h) (ex_var (i := 0) rfl (vs__law_equal_0) q_x.1 q_x.2 rfl rfl (by decide)) ax_nil rfl (by decide)) (fun _ => l_len)) (ex_callB call_lenAny rfl mg_len PySem.boot_len (by decide) q_len.1 rfl rfl (ax_cons (fun _ _ h => nomatch h) (ex_var (i := 1) rfl (vs__law_equal_1) q_y.1 q_y.2 rfl rfl (by decide)) ax_nil rfl (by decide)) (fun _ => l_len)) rfl rfl (by decide) (nobehind _ (by decide) (by decide)) (fun _ => s_eq)) (ex_one (ex_callB (cr_all rfl) rfl mg_all (by decide +kernel) (by decide) q_all.1 rfl rfl (ax_cons (fun _ _ h => nomatch h) (ex_freeze (ex_g (Γ' := [.fr, .fr, .un, .un]) (ex_lc (own := [(("k" : PySem.Str), 2)]) (p := (.nm 2)) (ks := []) (Γ0 := [.fr, .fr, .un, .un]) (Γb := [.fr, .fr, .sc, .un]) (Γl := [.un, .un, .un, .un]) (d := 0) rfl nd (wx_range1 rfl mg_range (ax_cons (fun _ _ h => nomatch h) (ex_callB call_lenAny rfl mg_len PySem.boot_len (by decide) q_len.1 rfl rfl (ax_cons (fun _ _ h => nomatch h) (ex_var (i := 1) rfl (vs__law_equal_1) q_y.1 q_y.2 rfl rfl (by decide)) ax_nil rfl (by decide)) (fun _ => l_len)) ax_nil rfl (by decide)) rfl) (blkOk_by (by kernel_rfl)) (fun _ _ _ _ _ => (gx_g (Γ' := [.fr, .fr, .sc, .un]) (gx_name (i := 2) nd rfl (locB (by decide +kernel)) (hfB (by decide +kernel)) (by decide) rfl (by decide)) rfl)) (fun _ _ _ _ _ => txs_nil) (fun _ _ _ _ _ => (ex_sc_ow 0 (ex_cal (sg := ⟨[.fr, .fr], .sc⟩) takes0 C_rec hr (Nat.le_refl _) rfl (ix_cons (fun _ _ h => nomatch h) (ex_ix (ma := .fr) (mb := .sc) (hu1 hr) (ex_var (i := 0) rfl (visB (by decide +kernel)) q_x.1 q_x.2 rfl rfl (by decide)) (ex_var (i := 2) rfl (visB (by decide +kernel)) q_k.1 q_k.2 rfl rfl (by decide)) rfl rfl (by decide) (fun _ _ => rfl)) (ix_cons (fun _ _ h => nomatch h) (ex_ix (ma := .fr) (mb := .sc) (hu1 hr) (ex_var (i := 1) rfl (visB (by decide +kernel)) q_y.1 q_y.2 rfl rfl (by decide)) (ex_var (i := 2) rfl (visB (by decide +kernel)) q_k.1 q_k.2 rfl rfl (by decide)) rfl rfl (by decide) (fun _ _ => rfl)) ix_nil rfl (by decide)) rfl (by decide)) q__law_equal.1 rfl rfl rfl rfl rfl rfl rfl))) (fun _ => rfl) (by decide +kernel)) rfl)) ax_nil rfl (by decide)) (fun _ => l_all)))) rfl rfl rfl (by decide)))
  sx_nil)
  (sx_cons (s_if (Γ2 := [.fr, .fr, .un, .un]) (tx_val (ex_isi (c := "dict") (by decide) rfl mg_isinstance rfl mg_dict (by decide +kernel) (by decide) q_dict.1 (ex_var (i := 1) rfl (vs__law_equal_1) q_y.1 q_y.2 rfl rfl (by decide)) rfl rfl rfl) (fun _ => rfl))
  (sx_one (s_ret (ex_and (ex_cmp (op_eqD hr.units) (ex_callB call_lenAny rfl mg_len PySem.boot_len (by decide) q_len.1 rfl rfl (ax_cons (fun _ _ h => nomatch h) (ex_var (i := 0) rfl (vs__law_equal_0) q_x.1 q_x.2 rfl rfl (by decide)) ax_nil rfl (by decide)) (fun _ => l_len)) (ex_callB call_lenAny rfl mg_len PySem.boot_len (by decide) q_len.1 rfl rfl (ax_cons (fun _ _ h => nomatch h) (ex_var (i := 1) rfl (vs__law_equal_1) q_y.1 q_y.2 rfl rfl (by decide)) ax_nil rfl (by decide)) (fun _ => l_len)) rfl rfl (by decide) (nobehind _ (by decide) (by decide)) (fun _ => s_eq)) (ex_one (ex_callB (cr_all rfl) rfl mg_all (by decide +kernel) (by decide) q_all.1 rfl rfl (ax_cons (fun _ _ h => nomatch h) (ex_freeze (ex_g (Γ' := [.fr, .fr, .un, .un]) (ex_lc (own := [(("key" : PySem.Str), 3)]) (p := (.nm 3)) (ks := []) (Γ0 := [.fr, .fr, .un, .un]) (Γb := [.fr, .fr, .un, .fr]) (Γl := [.un, .un, .un, .un]) (d := 0) rfl nd (wx_any (ma := .fr) (ex_var (i := 1) rfl (vs__law_equal_1) q_y.1 q_y.2 rfl rfl (by decide)) rfl (by decide)) (blkOk_by (by kernel_rfl)) (fun _ _ _ _ _ => (gx_g (Γ' := [.fr, .fr, .un, .fr]) (gx_name (i := 3) nd rfl (locB (by decide +kernel)) (hfB (by decide +kernel)) (by decide) rfl (by decide)) rfl)) (fun _ _ _ _ _ => txs_nil) (fun _ _ _ _ _ => (ex_sc_ow 0 (ex_and (ex_cmp (op_inAny (hu65 hr)) (ex_var (i := 3) rfl (visB (by decide +kernel)) q_key.1 q_key.2 rfl rfl (by decide)) (ex_var (i := 0) rfl (visB (by decide +kernel)) q_x.1 q_x.2 rfl rfl (by decide)) rfl rfl (by decide) rfl (fun _ => s_in)) (ex_one (ex_cal (sg := ⟨[.fr, .fr], .sc⟩) takes0 C_rec hr (Nat.le_refl _) rfl (ix_cons (fun _ _ h => nomatch h) (ex_ix (ma := .fr) (mb := .fr) (hu1 hr) (ex_var (i := 0) rfl (visB (by decide +kernel)) q_x.1 q_x.2 rfl rfl (by decide)) (ex_var (i := 3) rfl (visB (by decide +kernel)) q_key.1 q_key.2 rfl rfl (by decide)) rfl rfl (by decide) (fun _ _ => rfl)) (ix_cons (fun _ _ h => nomatch h) (ex_ix (ma := .fr) (mb := .fr) (hu1 hr) (ex_var (i := 1) rfl (visB (by decide +kernel)) q_y.1 q_y.2 rfl rfl (by decide)) (ex_var (i := 3) rfl (visB (by decide +kernel)) q_key.1 q_key.2 rfl rfl (by decide)) rfl rfl (by decide) (fun _ _ => rfl)) ix_nil rfl (by decide)) rfl (by decide)) q__law_equal.1 rfl rfl rfl rfl rfl rfl rfl))))) (fun _ => rfl) (by decide +kernel)) rfl)) ax_nil rfl (by decide)) (fun _ => l_all)))) rfl rfl rfl (by decide)))
  sx_nil)
  (sx_one (s_ret (ex_cmp op_isAny (ex_cmp (op_eqD hr.units) (ex_var (i := 0) rfl (vs__law_equal_0) q_x.1 q_x.2 rfl rfl (by decide)) (ex_var (i := 1) rfl (vs__law_equal_1) q_y.1 q_y.2 rfl rfl (by decide)) rfl rfl (by decide) (nobehind _ (by decide) (by decide)) (fun _ => s_eq)) ex_bl rfl rfl (by decide) (nobehind _ (by decide) (by decide)) (fun _ => s_is)) rfl rfl rfl (by decide)))))))
theorem okR__law_equal {P : Program} {w : World} {K : PySem.W.Frag} {mg : PySem.Str → Option Value} {base : Heap} {fa : Addr} {fd : FuncData} (mg_all : mg "all" = none) (mg_bool : mg "bool" = none) (mg_dict : mg "dict" = none) (mg_int : mg "int" = none) (mg_isinstance : mg "isinstance" = none) (mg_len : mg "len" = none) (mg_list : mg "list" = none) (mg_range : mg "range" = none) (mg_str : mg "str" = none) (mg_tuple : mg "tuple" = none) (F : FunD K "_law_equal" "_law_equal" (defArgs st__law_equal) (defBody st__law_equal) (defScope st__law_equal) [] [] fa fd) (hm : mg "_law_equal" = some (.ref fa)) : ∀ j, Cal P w K mg base "_law_equal" ["x", "y"] (0 + j) ⟨[.fr, .fr], .sc⟩ (gR__law_equal j)
  | 0 => cal_stuck hm F.kp (F.bindsN (fun _ _ _ _ _ _ us hl => match us, hl with | [_, _], _ => rfl)) rfl
  | j + 1 => ⟨fa, fd, hm, F.kp, F.bindsN (fun _ _ _ _ _ _ us hl => match us, hl with | [_, _], _ => rfl), w__law_equal mg_all mg_bool mg_dict mg_int mg_isinstance mg_len mg_list mg_range mg_str mg_tuple F hm (okR__law_equal mg_all mg_bool mg_dict mg_int mg_isinstance mg_len mg_list mg_range mg_str mg_tuple F hm j)⟩
theorem ok__law_equal {P : Program} {w : World} {K : PySem.W.Frag} {mg : PySem.Str → Option Value} {base : Heap} {fa : Addr} {fd : FuncData} (mg_all : mg "all" = none) (mg_bool : mg "bool" = none) (mg_dict : mg "dict" = none) (mg_int : mg "int" = none) (mg_isinstance : mg "isinstance" = none) (mg_len : mg "len" = none) (mg_list : mg "list" = none) (mg_range : mg "range" = none) (mg_str : mg "str" = none) (mg_tuple : mg "tuple" = none) (F : FunD K "_law_equal" "_law_equal" (defArgs st__law_equal) (defBody st__law_equal) (defScope st__law_equal) [] [] fa fd) (hm : mg "_law_equal" = some (.ref fa)) : Cal P w K mg base "_law_equal" ["x", "y"] 12 ⟨[.fr, .fr], .sc⟩ g__law_equal := by
  unfold g__law_equal
  exact okR__law_equal mg_all mg_bool mg_dict mg_int mg_isinstance mg_len mg_list mg_range mg_str mg_tuple F hm 12
/-! _law_is_int -/
abbrev st__law_is_int : Stmt := (top 16)
abbrev N__law_is_int : List PySem.Str := ["x"]
theorem S__law_is_int : FnScope N__law_is_int ["x"] (defScope st__law_is_int) := ⟨rfl, rfl, rfl, by decide +kernel, rfl, by decide +kernel, by decide +kernel⟩
theorem lk__law_is_int_0 : (defScope st__law_is_int).names.lookup ("x" : PySem.Str) = some PySem.NameKind.local := by decide +kernel
theorem vs__law_is_int_0 : Vis (defScope st__law_is_int) "x" := .inl lk__law_is_int_0
theorem lo__law_is_int_0 : L2.Loc (defScope st__law_is_int) "x" := .inl lk__law_is_int_0
def c__law_is_int : M Fl := (cRet (cAnd (cOp1 (oIsi "int") (cVar 0)) (cOp1 oNot (cOp1 (oIsi "bool") (cVar 0)))))
@[irreducible] def g__law_is_int : List T → CR := runF [.fr] 0 c__law_is_int
theorem w__law_is_int {P : Program} {w : World} {K : PySem.W.Frag} {mg : PySem.Str → Option Value} {base : Heap} {fa : Addr} {fd : FuncData} (mg_bool : mg "bool" = none) (mg_int : mg "int" = none) (mg_isinstance : mg "isinstance" = none) (F : FunD K "_law_is_int" "_law_is_int" (defArgs st__law_is_int) (defBody st__law_is_int) (defScope st__law_is_int) [] [] fa fd) (hm : mg "_law_is_int" = some (.ref fa)) : FnOk P w K mg base (L2.CX P w) 1 fa fd ["x"] (spT K mg ⟨[.fr], .sc⟩ g__law_is_int) := by
  unfold g__law_is_int
  refine fn_ok (n := 0) (c := c__law_is_int) F S__law_is_int rfl rfl (by decide) fun cdv A outer s H E hr => ?_
  have tk : Takes (cxOf (L2.CX P w) P w K mg base N__law_is_int "_law_is_int" (defScope st__law_is_int) fa cdv A outer s H E) (WEx E) := takes_of rfl rfl rfl rfl
  have nd := S__law_is_int.nd
  exact (sx_one (s_ret (ex_and (ex_isi (c := "int") (by decide) rfl mg_isinstance rfl mg_int (by decide +kernel) (by decide) q_int.1 (ex_var (i := 0) rfl (vs__law_is_int_0) q_x.1 q_x.2 rfl rfl (by decide)) rfl rfl rfl) (ex_one (ex_not (ex_isi (c := "bool") (by decide) rfl mg_isinstance rfl mg_bool (by decide +kernel) (by decide) q_bool.1 (ex_var (i := 0) rfl (vs__law_is_int_0) q_x.1 q_x.2 rfl rfl (by decide)) rfl rfl rfl) rfl))) rfl rfl rfl (by decide)))
theorem ok__law_is_int {P : Program} {w : World} {K : PySem.W.Frag} {mg : PySem.Str → Option Value} {base : Heap} {fa : Addr} {fd : FuncData} (mg_bool : mg "bool" = none) (mg_int : mg "int" = none) (mg_isinstance : mg "isinstance" = none) (F : FunD K "_law_is_int" "_law_is_int" (defArgs st__law_is_int) (defBody st__law_is_int) (defScope st__law_is_int) [] [] fa fd) (hm : mg "_law_is_int" = some (.ref fa)) : Cal P w K mg base "_law_is_int" ["x"] 1 ⟨[.fr], .sc⟩ g__law_is_int := ⟨fa, fd, hm, F.kp, F.bindsN (fun _ _ _ _ _ _ us hl => match us, hl with | [_], _ => rfl), w__law_is_int mg_bool mg_int mg_isinstance F hm⟩
/-! _law_lengths -/
abbrev st__law_lengths : Stmt := (top 17)
abbrev N__law_lengths : List PySem.Str := ["side", "count", "blocks", "k"]
theorem S__law_lengths : FnScope N__law_lengths ["side"] (defScope st__law_lengths) := ⟨rfl, rfl, rfl, by decide +kernel, rfl, by decide +kernel, by decide +kernel⟩
theorem lk__law_lengths_0 : (defScope st__law_lengths).names.lookup ("side" : PySem.Str) = some PySem.NameKind.local := by decide +kernel
theorem vs__law_lengths_0 : Vis (defScope st__law_lengths) "side" := .inl lk__law_lengths_0
theorem lo__law_lengths_0 : L2.Loc (defScope st__law_lengths) "side" := .inl lk__law_lengths_0
theorem lk__law_lengths_1 : (defScope st__law_lengths).names.lookup ("count" : PySem.Str) = some PySem.NameKind.cell := by decide +kernel
theorem vs__law_lengths_1 : Vis (defScope st__law_lengths) "count" := .inr (.inl lk__law_lengths_1)
theorem lo__law_lengths_1 : L2.Loc (defScope st__law_lengths) "count" := .inr lk__law_lengths_1
theorem lk__law_lengths_2 : (defScope st__law_lengths).names.lookup ("blocks" : PySem.Str) = some PySem.NameKind.cell := by decide +kernel
theorem vs__law_lengths_2 : Vis (defScope st__law_lengths) "blocks" := .inr (.inl lk__law_lengths_2)
theorem lo__law_lengths_2 : L2.Loc (defScope st__law_lengths) "blocks" := .inr lk__law_lengths_2
def c__law_lengths : M Fl := (cSeq (cSet 1 (cOp2 oDiv (cOp2 oMulN (cOp2 oSub (cVar 0) (cLit (.int 2))) (cOp2 oSub (cVar 0) (cLit (.int 2)))) (cLit (.int 5)))) (cSeq (cSet 2 (cOp2 oDiv (cOp2 oAddN (cVar 1) (cLit (.int 30))) (cLit (.int 31)))) (cRet (cLc (cRng (cCons (cVar 2) cNil)) [] (.nm 3) cYes (cOpL gLenR (cCons (cVar 3) (cCons (cVar 1) (cCons (cVar 2) cNil))))))))
@[irreducible] def g__law_lengths : List T → CR := runF [.fr] 3 c__law_lengths
theorem w__law_lengths {P : Program} {w : World} {K : PySem.W.Frag} {mg : PySem.Str → Option Value} {base : Heap} {fa : Addr} {fd : FuncData} (mg_len : mg "len" = none) (mg_range : mg "range" = none) (F : FunD K "_law_lengths" "_law_lengths" (defArgs st__law_lengths) (defBody st__law_lengths) (defScope st__law_lengths) [] [] fa fd) (hm : mg "_law_lengths" = some (.ref fa)) : FnOk P w K mg base (L2.CX P w) 1 fa fd ["side"] (spT K mg ⟨[.fr], .fr⟩ g__law_lengths) := by
  unfold g__law_lengths
  refine fn_ok (n := 3) (c := c__law_lengths) F S__law_lengths rfl rfl (by decide) fun cdv A outer s H E hr => ?_
  have tk : Takes (cxOf (L2.CX P w) P w K mg base N__law_lengths "_law_lengths" (defScope st__law_lengths) fa cdv A outer s H E) (WEx E) := takes_of rfl rfl rfl rfl
  have nd := S__law_lengths.nd
  exact (sx_cons (sx_g (Γ' := [.fr, .sc, .un, .un]) (s_set (i := 1) nd rfl (lo__law_lengths_1) (ex_bin op_fdivW (ex_bin op_mulT (ex_bin op_sub (ex_var (i := 0) rfl (vs__law_lengths_0) q_side.1 q_side.2 rfl rfl (by decide)) ex_int rfl rfl (by decide) (fun _ => s_sub)) (ex_bin op_sub (ex_var (i := 0) rfl (vs__law_lengths_0) q_side.1 q_side.2 rfl rfl (by decide)) ex_int rfl rfl (by decide) (fun _ => s_sub)) rfl rfl (by decide) (fun _ => s_mulN)) ex_int rfl rfl (by decide) (fun _ => s_div)) rfl (.inl rfl) (by decide) rfl (by decide)) rfl)
  (sx_cons (sx_g (Γ' := [.fr, .sc, .sc, .un]) (s_set (i := 2) nd rfl (lo__law_lengths_2) (ex_bin op_fdivW (ex_bin op_addT (ex_var (i := 1) rfl (vs__law_lengths_1) q_count.1 q_count.2 rfl rfl (by decide)) ex_int rfl rfl (by decide) (fun _ => s_addN)) ex_int rfl rfl (by decide) (fun _ => s_div)) rfl (.inl rfl) (by decide) rfl (by decide)) rfl)
  (sx_one (s_ret (ex_freeze (ex_g (Γ' := [.fr, .sc, .sc, .un]) (ex_lc (own := [(("k" : PySem.Str), 3)]) (p := (.nm 3)) (ks := []) (Γ0 := [.fr, .sc, .sc, .un]) (Γb := [.fr, .sc, .sc, .sc]) (Γl := [.un, .un, .un, .un]) (d := 0) rfl nd (wx_range1 rfl mg_range (ax_cons (fun _ _ h => nomatch h) (ex_var (i := 2) rfl (vs__law_lengths_2) q_blocks.1 q_blocks.2 rfl rfl (by decide)) ax_nil rfl (by decide)) rfl) (blkOk_by (by kernel_rfl)) (fun _ _ _ _ _ => (gx_g (Γ' := [.fr, .sc, .sc, .sc]) (gx_name (i := 3) nd rfl (locB (by decide +kernel)) (hfB (by decide +kernel)) (by decide) rfl (by decide)) rfl)) (fun _ _ _ _ _ => txs_nil) (fun _ _ _ _ _ => (ex_sc_ow 0 (ex_lenrng rfl mg_len rfl mg_range (ax_cons (fun _ _ h => nomatch h) (ex_var (i := 3) rfl (visB (by decide +kernel)) q_k.1 q_k.2 rfl rfl (by decide)) (ax_cons (fun _ _ h => nomatch h) (ex_var (i := 1) rfl (visB (by decide +kernel)) q_count.1 q_count.2 rfl rfl (by decide)) (ax_cons (fun _ _ h => nomatch h) (ex_var (i := 2) rfl (visB (by decide +kernel)) q_blocks.1 q_blocks.2 rfl rfl (by decide)) ax_nil rfl (by decide)) rfl (by decide)) rfl (by decide)) rfl rfl rfl rfl))) (fun _ => rfl) (by decide +kernel)) rfl)) rfl rfl rfl (by decide)))))
theorem ok__law_lengths {P : Program} {w : World} {K : PySem.W.Frag} {mg : PySem.Str → Option Value} {base : Heap} {fa : Addr} {fd : FuncData} (mg_len : mg "len" = none) (mg_range : mg "range" = none) (F : FunD K "_law_lengths" "_law_lengths" (defArgs st__law_lengths) (defBody st__law_lengths) (defScope st__law_lengths) [] [] fa fd) (hm : mg "_law_lengths" = some (.ref fa)) : Cal P w K mg base "_law_lengths" ["side"] 1 ⟨[.fr], .fr⟩ g__law_lengths := ⟨fa, fd, hm, F.kp, F.bindsN (fun _ _ _ _ _ _ us hl => match us, hl with | [_], _ => rfl), w__law_lengths mg_len mg_range F hm⟩
/-! _law_added -/
abbrev st__law_added : Stmt := (top 18)
abbrev N__law_added : List PySem.Str := ["length", "grade"]
theorem S__law_added : FnScope N__law_added ["length", "grade"] (defScope st__law_added) := ⟨rfl, rfl, rfl, by decide +kernel, rfl, by decide +kernel, by decide +kernel⟩
theorem lk__law_added_0 : (defScope st__law_added).names.lookup ("length" : PySem.Str) = some PySem.NameKind.local := by decide +kernel
theorem vs__law_added_0 : Vis (defScope st__law_added) "length" := .inl lk__law_added_0
theorem lo__law_added_0 : L2.Loc (defScope st__law_added) "length" := .inl lk__law_added_0
theorem lk__law_added_1 : (defScope st__law_added).names.lookup ("grade" : PySem.Str) = some PySem.NameKind.local := by decide +kernel
theorem vs__law_added_1 : Vis (defScope st__law_added) "grade" := .inl lk__law_added_1
theorem lo__law_added_1 : L2.Loc (defScope st__law_added) "grade" := .inl lk__law_added_1
def c__law_added : M Fl := (cRet (cOp2 oMulN (cLit (.int 2)) (cOp2 oDiv (cOp2 oMulN (cVar 0) (cVar 1)) (cLit (.int 8)))))
@[irreducible] def g__law_added : List T → CR := runF [.fr, .fr] 0 c__law_added
theorem w__law_added {P : Program} {w : World} {K : PySem.W.Frag} {mg : PySem.Str → Option Value} {base : Heap} {fa : Addr} {fd : FuncData} (F : FunD K "_law_added" "_law_added" (defArgs st__law_added) (defBody st__law_added) (defScope st__law_added) [] [] fa fd) (hm : mg "_law_added" = some (.ref fa)) : FnOk P w K mg base (L2.CX P w) 1 fa fd ["length", "grade"] (spT K mg ⟨[.fr, .fr], .sc⟩ g__law_added) := by
  unfold g__law_added
  refine fn_ok (n := 0) (c := c__law_added) F S__law_added rfl rfl (by decide) fun cdv A outer s H E hr => ?_
  have tk : Takes (cxOf (L2.CX P w) P w K mg base N__law_added "_law_added" (defScope st__law_added) fa cdv A outer s H E) (WEx E) := takes_of rfl rfl rfl rfl
  have nd := S__law_added.nd
  exact (sx_one (s_ret (ex_bin op_mulT ex_int (ex_bin op_fdivW (ex_bin op_mulT (ex_var (i := 0) rfl (vs__law_added_0) q_length.1 q_length.2 rfl rfl (by decide)) (ex_var (i := 1) rfl (vs__law_added_1) q_grade.1 q_grade.2 rfl rfl (by decide)) rfl rfl (by decide) (fun _ => s_mulN)) ex_int rfl rfl (by decide) (fun _ => s_div)) rfl rfl (by decide) (fun _ => s_mulN)) rfl rfl rfl (by decide)))
theorem ok__law_added {P : Program} {w : World} {K : PySem.W.Frag} {mg : PySem.Str → Option Value} {base : Heap} {fa : Addr} {fd : FuncData} (F : FunD K "_law_added" "_law_added" (defArgs st__law_added) (defBody st__law_added) (defScope st__law_added) [] [] fa fd) (hm : mg "_law_added" = some (.ref fa)) : Cal P w K mg base "_law_added" ["length", "grade"] 1 ⟨[.fr, .fr], .sc⟩ g__law_added := ⟨fa, fd, hm, F.kp, F.bindsN (fun _ _ _ _ _ _ us hl => match us, hl with | [_, _], _ => rfl), w__law_added F hm⟩
/-! _law_stands -/
abbrev st__law_stands : Stmt := (top 23)
abbrev N__law_stands : List PySem.Str := ["side", "grade", "size", "lengths", "many", "inner", "top", "left", "hit", "row", "column", "bad", "index", "k"]
theorem S__law_stands : FnScope N__law_stands ["side", "grade", "size"] (defScope st__law_stands) := ⟨rfl, rfl, rfl, by decide +kernel, rfl, by decide +kernel, by decide +kernel⟩
theorem lk__law_stands_0 : (defScope st__law_stands).names.lookup ("side" : PySem.Str) = some PySem.NameKind.local := by decide +kernel
theorem vs__law_stands_0 : Vis (defScope st__law_stands) "side" := .inl lk__law_stands_0
theorem lo__law_stands_0 : L2.Loc (defScope st__law_stands) "side" := .inl lk__law_stands_0
theorem lk__law_stands_1 : (defScope st__law_stands).names.lookup ("grade" : PySem.Str) = some PySem.NameKind.cell := by decide +kernel
theorem vs__law_stands_1 : Vis (defScope st__law_stands) "grade" := .inr (.inl lk__law_stands_1)
theorem lo__law_stands_1 : L2.Loc (defScope st__law_stands) "grade" := .inr lk__law_stands_1
theorem lk__law_stands_2 : (defScope st__law_stands).names.lookup ("size" : PySem.Str) = some PySem.NameKind.local := by decide +kernel
theorem vs__law_stands_2 : Vis (defScope st__law_stands) "size" := .inl lk__law_stands_2
theorem lo__law_stands_2 : L2.Loc (defScope st__law_stands) "size" := .inl lk__law_stands_2
theorem lk__law_stands_3 : (defScope st__law_stands).names.lookup ("lengths" : PySem.Str) = some PySem.NameKind.cell := by decide +kernel
theorem vs__law_stands_3 : Vis (defScope st__law_stands) "lengths" := .inr (.inl lk__law_stands_3)
theorem lo__law_stands_3 : L2.Loc (defScope st__law_stands) "lengths" := .inr lk__law_stands_3
theorem lk__law_stands_4 : (defScope st__law_stands).names.lookup ("many" : PySem.Str) = some PySem.NameKind.local := by decide +kernel
theorem vs__law_stands_4 : Vis (defScope st__law_stands) "many" := .inl lk__law_stands_4
theorem lo__law_stands_4 : L2.Loc (defScope st__law_stands) "many" := .inl lk__law_stands_4
theorem lk__law_stands_5 : (defScope st__law_stands).names.lookup ("inner" : PySem.Str) = some PySem.NameKind.local := by decide +kernel
theorem vs__law_stands_5 : Vis (defScope st__law_stands) "inner" := .inl lk__law_stands_5
theorem lo__law_stands_5 : L2.Loc (defScope st__law_stands) "inner" := .inl lk__law_stands_5
theorem lk__law_stands_6 : (defScope st__law_stands).names.lookup ("top" : PySem.Str) = some PySem.NameKind.local := by decide +kernel
theorem vs__law_stands_6 : Vis (defScope st__law_stands) "top" := .inl lk__law_stands_6
theorem lo__law_stands_6 : L2.Loc (defScope st__law_stands) "top" := .inl lk__law_stands_6
theorem lk__law_stands_7 : (defScope st__law_stands).names.lookup ("left" : PySem.Str) = some PySem.NameKind.local := by decide +kernel
theorem vs__law_stands_7 : Vis (defScope st__law_stands) "left" := .inl lk__law_stands_7
theorem lo__law_stands_7 : L2.Loc (defScope st__law_stands) "left" := .inl lk__law_stands_7
theorem lk__law_stands_8 : (defScope st__law_stands).names.lookup ("hit" : PySem.Str) = some PySem.NameKind.local := by decide +kernel
theorem vs__law_stands_8 : Vis (defScope st__law_stands) "hit" := .inl lk__law_stands_8
theorem lo__law_stands_8 : L2.Loc (defScope st__law_stands) "hit" := .inl lk__law_stands_8
theorem lk__law_stands_9 : (defScope st__law_stands).names.lookup ("row" : PySem.Str) = some PySem.NameKind.local := by decide +kernel
theorem vs__law_stands_9 : Vis (defScope st__law_stands) "row" := .inl lk__law_stands_9
theorem lo__law_stands_9 : L2.Loc (defScope st__law_stands) "row" := .inl lk__law_stands_9
theorem lk__law_stands_10 : (defScope st__law_stands).names.lookup ("column" : PySem.Str) = some PySem.NameKind.local := by decide +kernel
theorem vs__law_stands_10 : Vis (defScope st__law_stands) "column" := .inl lk__law_stands_10
theorem lo__law_stands_10 : L2.Loc (defScope st__law_stands) "column" := .inl lk__law_stands_10
theorem lk__law_stands_11 : (defScope st__law_stands).names.lookup ("bad" : PySem.Str) = some PySem.NameKind.cell := by decide +kernel
theorem vs__law_stands_11 : Vis (defScope st__law_stands) "bad" := .inr (.inl lk__law_stands_11)
theorem lo__law_stands_11 : L2.Loc (defScope st__law_stands) "bad" := .inr lk__law_stands_11
theorem lk__law_stands_12 : (defScope st__law_stands).names.lookup ("index" : PySem.Str) = some PySem.NameKind.local := by decide +kernel
theorem vs__law_stands_12 : Vis (defScope st__law_stands) "index" := .inl lk__law_stands_12
theorem lo__law_stands_12 : L2.Loc (defScope st__law_stands) "index" := .inl lk__law_stands_12
def c__law_stands_l1 : M Fl := (cSetI 8 1 0 (cLit (.bl true)) cP0 (cOp2 oDiv (cOp2 oAddN (cOp2 oMulN (cVar 9) (cVar 5)) (cVar 10)) (cLit (.int 5))))
def c__law_stands_l2 : M Fl := (cFor (.nm 10) (cRng (cCons (cVar 7) (cCons (cOp2 oAddN (cVar 7) (cVar 2)) cNil))) c__law_stands_l1)
def c__law_stands_l3 : M Fl := (cIfS (cB (cOp2 oLt (cVar 12) (cOpL gSum (cCons (cVar 3) cNil)))) (cSetI 11 1 0 (cOp2 oAddN (cOp2 (ixB false) (cVar 11) (cOp2 oMod (cOpL gInt (cCons (cVar 12) cNil)) (cVar 4))) (cLit (.int 1))) cP0 (cOp2 oMod (cOpL gInt (cCons (cVar 12) cNil)) (cVar 4))) cNx)
def c__law_stands_l4 : M Fl := (cSeq (cSet 8 (cLit (.dct [] []))) (cSeq (cFor (.nm 9) (cRng (cCons (cVar 6) (cCons (cOp2 oAddN (cVar 6) (cVar 2)) cNil))) c__law_stands_l2) (cSeq (cSet 11 (cOp2 oMul (cOpL oLst (cCons (cLit (.int 0)) cNil)) (cVar 4))) (cSeq (cFor (.nm 12) (cDKeys 8) c__law_stands_l3) (cIfS (cB (cOp2 oGt (cOpL gLen (cCons (cLc (cRng (cCons (cVar 4) cNil)) [] (.nm 13) (cB (cOp2 oGt (cOp2 (ixB false) (cVar 11) (cVar 13)) (cCall g__law_added [.e .fr, .e .fr] (cCons (cOp2 (ixB false) (cVar 3) (cVar 13)) (cCons (cVar 1) cNil))))) (cVar 13)) cNil)) (cLit (.int 0)))) (cRet (cLit (.bl false))) cNx)))))
def c__law_stands_l5 : M Fl := (cFor (.nm 7) (cRng (cCons (cOp2 oAddN (cOp2 oSub (cVar 5) (cVar 2)) (cLit (.int 1))) cNil)) c__law_stands_l4)
def c__law_stands : M Fl := (cSeq (cSet 3 (cCall g__law_lengths [.e .fr] (cCons (cVar 0) cNil))) (cSeq (cSet 4 (cOpL gLen (cCons (cVar 3) cNil))) (cSeq (cSet 5 (cOp2 oSub (cVar 0) (cLit (.int 2)))) (cSeq (cFor (.nm 6) (cRng (cCons (cOp2 oAddN (cOp2 oSub (cVar 5) (cVar 2)) (cLit (.int 1))) cNil)) c__law_stands_l5) (cRet (cLit (.bl true)))))))
@[irreducible] def g__law_stands : List T → CR := runF [.fr, .fr, .fr] 11 c__law_stands
theorem w__law_stands {P : Program} {w : World} {K : PySem.W.Frag} {mg : PySem.Str → Option Value} {base : Heap} {fa : Addr} {fd : FuncData} (C__law_added : Cal P w K mg base "_law_added" ["length", "grade"] 1 ⟨[.fr, .fr], .sc⟩ g__law_added) (C__law_lengths : Cal P w K mg base "_law_lengths" ["side"] 1 ⟨[.fr], .fr⟩ g__law_lengths) (mg_int : mg "int" = none) (mg_len : mg "len" = none) (mg_range : mg "range" = none) (mg_sum : mg "sum" = none) (F : FunD K "_law_stands" "_law_stands" (defArgs st__law_stands) (defBody st__law_stands) (defScope st__law_stands) [] [] fa fd) (hm : mg "_law_stands" = some (.ref fa)) : FnOk P w K mg base (L2.CX P w) 2 fa fd ["side", "grade", "size"] (spT K mg ⟨[.fr, .fr, .fr], .sc⟩ g__law_stands) := by
  unfold g__law_stands
  refine fn_ok (n := 11) (c := c__law_stands) F S__law_stands rfl rfl (by decide) fun cdv A outer s H E hr => ?_
  have tk : Takes (cxOf (L2.CX P w) P w K mg base N__law_stands "_law_stands" (defScope st__law_stands) fa cdv A outer s H E) (WEx E) := takes_of rfl rfl rfl rfl
  have nd := S__law_stands.nd
  exact (sx_cons (sx_g (Γ' := [.fr, .fr, .fr, .fr, .un, .un, .un, .un, .un, .un, .un, .un, .un, .un]) (s_set (i := 3) nd rfl (lo__law_stands_3) (ex_cal (sg := ⟨[.fr], .fr⟩) tk C__law_lengths hr (by decide) rfl (ix_cons (fun _ _ h => nomatch h) (ex_var (i := 0) rfl (vs__law_stands_0) q_side.1 q_side.2 rfl rfl (by decide)) ix_nil rfl (by decide)) q__law_lengths.1 rfl rfl rfl rfl rfl rfl rfl) rfl (.inl rfl) (by decide) rfl (by decide)) rfl)
  (sx_cons (sx_g (Γ' := [.fr, .fr, .fr, .fr, .sc, .un, .un, .un, .un, .un, .un, .un, .un, .un]) (s_set (i := 4) nd rfl (lo__law_stands_4) (ex_callB call_lenAny rfl mg_len PySem.boot_len (by decide) q_len.1 rfl rfl (ax_cons (fun _ _ h => nomatch h) (ex_var (i := 3) rfl (vs__law_stands_3) q_lengths.1 q_lengths.2 rfl rfl (by decide)) ax_nil rfl (by decide)) (fun _ => l_len)) rfl (.inl rfl) (by decide) rfl (by decide)) rfl)
  (sx_cons (sx_g (Γ' := [.fr, .fr, .fr, .fr, .sc, .sc, .un, .un, .un, .un, .un, .un, .un, .un]) (s_set (i := 5) nd rfl (lo__law_stands_5) (ex_bin op_sub (ex_var (i := 0) rfl (vs__law_stands_0) q_side.1 q_side.2 rfl rfl (by decide)) ex_int rfl rfl (by decide) (fun _ => s_sub)) rfl (.inl rfl) (by decide) rfl (by decide)) rfl)
  (sx_cons (s_for (Γi := [.fr, .fr, .fr, .fr, .sc, .sc, .un, .un, .un, .un, .un, .un, .un, .un]) (Γb := [.fr, .fr, .fr, .fr, .sc, .sc, .sc, .un, .un, .un, .un, .un, .un, .un]) (p := (.nm 6)) (c := c__law_stands_l5) (passes_of rfl) rfl (wx_range1 rfl mg_range (ax_cons (fun _ _ h => nomatch h) (ex_bin op_addT (ex_bin op_sub (ex_var (i := 5) rfl (vs__law_stands_5) q_inner.1 q_inner.2 rfl rfl (by decide)) (ex_var (i := 2) rfl (vs__law_stands_2) q_size.1 q_size.2 rfl rfl (by decide)) rfl rfl (by decide) (fun _ => s_sub)) ex_int rfl rfl (by decide) (fun _ => s_addN)) ax_nil rfl (by decide)) rfl) rfl rfl (gx_g (Γ' := [.fr, .fr, .fr, .fr, .sc, .sc, .sc, .un, .un, .un, .un, .un, .un, .un]) (gx_name (i := 6) nd rfl (lo__law_stands_6) (.inl rfl) (by decide) rfl (by decide)) rfl)
  (sx_weak (Γ1 := [.fr, .fr, .fr, .fr, .sc, .sc, .sc, .un, .un, .un, .un, .un, .un, .un]) (sx_one (s_for (Γi := [.fr, .fr, .fr, .fr, .sc, .sc, .sc, .un, .un, .un, .un, .un, .un, .un]) (Γb := [.fr, .fr, .fr, .fr, .sc, .sc, .sc, .sc, .un, .un, .un, .un, .un, .un]) (p := (.nm 7)) (c := c__law_stands_l4) (passes_of rfl) rfl (wx_range1 rfl mg_range (ax_cons (fun _ _ h => nomatch h) (ex_bin op_addT (ex_bin op_sub (ex_var (i := 5) rfl (vs__law_stands_5) q_inner.1 q_inner.2 rfl rfl (by decide)) (ex_var (i := 2) rfl (vs__law_stands_2) q_size.1 q_size.2 rfl rfl (by decide)) rfl rfl (by decide) (fun _ => s_sub)) ex_int rfl rfl (by decide) (fun _ => s_addN)) ax_nil rfl (by decide)) rfl) rfl rfl (gx_g (Γ' := [.fr, .fr, .fr, .fr, .sc, .sc, .sc, .sc, .un, .un, .un, .un, .un, .un]) (gx_name (i := 7) nd rfl (lo__law_stands_7) (.inl rfl) (by decide) rfl (by decide)) rfl)
  (sx_weak (Γ1 := [.fr, .fr, .fr, .fr, .sc, .sc, .sc, .sc, .un, .un, .un, .fr, .un, .un]) (sx_cons (sx_g (Γ' := [.fr, .fr, .fr, .fr, .sc, .sc, .sc, .sc, (.ow 1), .un, .un, .un, .un, .un]) (s_set (i := 8) nd rfl (lo__law_stands_8) (ex_dct0 (d := 0)) rfl (.inl rfl) (by decide) rfl (by decide)) rfl)
  (sx_cons (s_for (Γi := [.fr, .fr, .fr, .fr, .sc, .sc, .sc, .sc, (.ow 1), .un, .un, .un, .un, .un]) (Γb := [.fr, .fr, .fr, .fr, .sc, .sc, .sc, .sc, (.ow 1), .sc, .un, .un, .un, .un]) (p := (.nm 9)) (c := c__law_stands_l2) (passes_of rfl) rfl (wx_range2 rfl mg_range (ax_cons (fun _ _ h => nomatch h) (ex_var (i := 6) rfl (vs__law_stands_6) q_top.1 q_top.2 rfl rfl (by decide)) (ax_cons (fun _ _ h => nomatch h) (ex_bin op_addT (ex_var (i := 6) rfl (vs__law_stands_6) q_top.1 q_top.2 rfl rfl (by decide)) (ex_var (i := 2) rfl (vs__law_stands_2) q_size.1 q_size.2 rfl rfl (by decide)) rfl rfl (by decide) (fun _ => s_addN)) ax_nil rfl (by decide)) rfl (by decide)) rfl rfl) rfl rfl (gx_g (Γ' := [.fr, .fr, .fr, .fr, .sc, .sc, .sc, .sc, (.ow 1), .sc, .un, .un, .un, .un]) (gx_name (i := 9) nd rfl (lo__law_stands_9) (.inl rfl) (by decide) rfl (by decide)) rfl)
  (sx_weak (Γ1 := [.fr, .fr, .fr, .fr, .sc, .sc, .sc, .sc, (.ow 1), .sc, .un, .un, .un, .un]) (sx_one (s_for (Γi := [.fr, .fr, .fr, .fr, .sc, .sc, .sc, .sc, (.ow 1), .sc, .un, .un, .un, .un]) (Γb := [.fr, .fr, .fr, .fr, .sc, .sc, .sc, .sc, (.ow 1), .sc, .sc, .un, .un, .un]) (p := (.nm 10)) (c := c__law_stands_l1) (passes_of rfl) rfl (wx_range2 rfl mg_range (ax_cons (fun _ _ h => nomatch h) (ex_var (i := 7) rfl (vs__law_stands_7) q_left.1 q_left.2 rfl rfl (by decide)) (ax_cons (fun _ _ h => nomatch h) (ex_bin op_addT (ex_var (i := 7) rfl (vs__law_stands_7) q_left.1 q_left.2 rfl rfl (by decide)) (ex_var (i := 2) rfl (vs__law_stands_2) q_size.1 q_size.2 rfl rfl (by decide)) rfl rfl (by decide) (fun _ => s_addN)) ax_nil rfl (by decide)) rfl (by decide)) rfl rfl) rfl rfl (gx_g (Γ' := [.fr, .fr, .fr, .fr, .sc, .sc, .sc, .sc, (.ow 1), .sc, .sc, .un, .un, .un]) (gx_name (i := 10) nd rfl (lo__law_stands_10) (.inl rfl) (by decide) rfl (by decide)) rfl)
  (sx_weak (Γ1 := [.fr, .fr, .fr, .fr, .sc, .sc, .sc, .sc, (.ow 1), .sc, .sc, .un, .un, .un]) (sx_one (sx_g (Γ' := [.fr, .fr, .fr, .fr, .sc, .sc, .sc, .sc, (.ow 1), .sc, .sc, .un, .un, .un]) (s_seti (z := 8) (D := 1) (d := 0) (Γl := [.un, .un, .un, .un, .un, .un, .un, .un, .un, .un, .un, .un, .un, .un]) (Γl2 := [.un, .un, .un, .un, .un, .un, .un, .un, .un, .un, .un, .un, .un, .un]) (hu1 hr) (ex_sc_ow 0 ex_bl) (px_name (z := 8) rfl (vs__law_stands_8) q_hit.1 q_hit.2 rfl (by decide)) (ex_bin op_fdivW (ex_bin op_addT (ex_bin op_mulT (ex_var (i := 9) rfl (vs__law_stands_9) q_row.1 q_row.2 rfl rfl (by decide)) (ex_var (i := 5) rfl (vs__law_stands_5) q_inner.1 q_inner.2 rfl rfl (by decide)) rfl rfl (by decide) (fun _ => s_mulN)) (ex_var (i := 10) rfl (vs__law_stands_10) q_column.1 q_column.2 rfl rfl (by decide)) rfl rfl (by decide) (fun _ => s_addN)) ex_int rfl rfl (by decide) (fun _ => s_div)) rfl rfl rfl rfl rfl rfl rfl rfl (fun _ => rfl) rfl rfl rfl) rfl)) rfl rfl) (fun _ => rfl))) rfl rfl) (fun _ => rfl))
  (sx_cons (sx_g (Γ' := [.fr, .fr, .fr, .fr, .sc, .sc, .sc, .sc, (.ow 1), .un, .un, (.ow 1), .un, .un]) (s_set (i := 11) nd rfl (lo__law_stands_11) (ex_bin op_mulT (ex_freeze (ex_lst (ax_cons (fun _ _ h => nomatch h) ex_int ax_nil rfl (by decide)) rfl)) (ex_var (i := 4) rfl (vs__law_stands_4) q_many.1 q_many.2 rfl rfl (by decide)) rfl rfl (by decide) (fun _ => s_mul rfl)) rfl (.inl rfl) (by decide) rfl (by decide)) rfl)
  (sx_cons (s_for (Γi := [.fr, .fr, .fr, .fr, .sc, .sc, .sc, .sc, .un, .un, .un, (.ow 1), .un, .un]) (Γb := [.fr, .fr, .fr, .fr, .sc, .sc, .sc, .sc, .un, .un, .un, (.ow 1), .sc, .un]) (p := (.nm 12)) (c := c__law_stands_l3) (passes_of rfl) rfl (wx_dkeys (i := 8) (d := 0) rfl (vs__law_stands_8) q_hit.1 q_hit.2 rfl rfl) rfl rfl (gx_g (Γ' := [.fr, .fr, .fr, .fr, .sc, .sc, .sc, .sc, .un, .un, .un, (.ow 1), .sc, .un]) (gx_name (i := 12) nd rfl (lo__law_stands_12) (.inl rfl) (by decide) rfl (by decide)) rfl)
  (sx_weak (Γ1 := [.fr, .fr, .fr, .fr, .sc, .sc, .sc, .sc, .un, .un, .un, (.ow 1), .sc, .un]) (sx_one (s_if (Γ2 := [.fr, .fr, .fr, .fr, .sc, .sc, .sc, .sc, .un, .un, .un, (.ow 1), .sc, .un]) (tx_cmp op_lt (ex_var (i := 12) rfl (vs__law_stands_12) q_index.1 q_index.2 rfl rfl (by decide)) (ex_callB (cr_sum rfl) rfl mg_sum (by decide +kernel) (by decide) q_sum.1 rfl rfl (ax_cons (fun _ _ h => nomatch h) (ex_var (i := 3) rfl (vs__law_stands_3) q_lengths.1 q_lengths.2 rfl rfl (by decide)) ax_nil rfl (by decide)) (fun _ => l_sum)) rfl rfl (by decide) (nobehind _ (by decide) (by decide)) (fun _ => s_cmp))
  (sx_one (sx_g (Γ' := [.fr, .fr, .fr, .fr, .sc, .sc, .sc, .sc, .un, .un, .un, (.ow 1), .sc, .un]) (s_seti (z := 11) (D := 1) (d := 0) (Γl := [.un, .un, .un, .un, .un, .un, .un, .un, .un, .un, .un, .un, .un, .un]) (Γl2 := [.un, .un, .un, .un, .un, .un, .un, .un, .un, .un, .un, .un, .un, .un]) (hu1 hr) (ex_sc_ow 0 (ex_bin op_addT (ex_ix (ma := (.bk 1 1)) (mb := .sc) (hu1 hr) (ex_var (i := 11) rfl (vs__law_stands_11) q_bad.1 q_bad.2 rfl rfl (by decide)) (ex_bin op_mod (ex_callTy call_intAny rfl mg_int PySem.Pv.boot_int (by decide) q_int.1 rfl rfl (ax_cons (fun _ _ h => nomatch h) (ex_var (i := 12) rfl (vs__law_stands_12) q_index.1 q_index.2 rfl rfl (by decide)) ax_nil rfl (by decide)) (fun _ => l_int)) (ex_var (i := 4) rfl (vs__law_stands_4) q_many.1 q_many.2 rfl rfl (by decide)) rfl rfl (by decide) (fun _ => s_mod)) rfl rfl (by decide) (fun _ _ => rfl)) ex_int rfl rfl (by decide) (fun _ => s_addN))) (px_name (z := 11) rfl (vs__law_stands_11) q_bad.1 q_bad.2 rfl (by decide)) (ex_bin op_mod (ex_callTy call_intAny rfl mg_int PySem.Pv.boot_int (by decide) q_int.1 rfl rfl (ax_cons (fun _ _ h => nomatch h) (ex_var (i := 12) rfl (vs__law_stands_12) q_index.1 q_index.2 rfl rfl (by decide)) ax_nil rfl (by decide)) (fun _ => l_int)) (ex_var (i := 4) rfl (vs__law_stands_4) q_many.1 q_many.2 rfl rfl (by decide)) rfl rfl (by decide) (fun _ => s_mod)) rfl rfl rfl rfl rfl rfl rfl rfl (fun _ => rfl) rfl rfl rfl) rfl))
  sx_nil)) rfl rfl) (fun _ => rfl))
  (sx_one (sx1_pre (Γ1 := [.fr, .fr, .fr, .fr, .sc, .sc, .sc, .sc, .un, .un, .un, .fr, .un, .un]) (s_if (Γ2 := [.fr, .fr, .fr, .fr, .sc, .sc, .sc, .sc, .un, .un, .un, .fr, .un, .un]) (tx_cmp op_gt (ex_callB call_lenAny rfl mg_len PySem.boot_len (by decide) q_len.1 rfl rfl (ax_cons (fun _ _ h => nomatch h) (ex_freeze (ex_g (Γ' := [.fr, .fr, .fr, .fr, .sc, .sc, .sc, .sc, .un, .un, .un, .fr, .un, .un]) (ex_lc (own := [(("k" : PySem.Str), 13)]) (p := (.nm 13)) (ks := []) (Γ0 := [.fr, .fr, .fr, .fr, .sc, .sc, .sc, .sc, .un, .un, .un, .fr, .un, .un]) (Γb := [.fr, .fr, .fr, .fr, .sc, .sc, .sc, .sc, .un, .un, .un, .fr, .un, .sc]) (Γl := [.un, .un, .un, .un, .un, .un, .un, .un, .un, .un, .un, .un, .un, .un]) (d := 0) rfl nd (wx_range1 rfl mg_range (ax_cons (fun _ _ h => nomatch h) (ex_var (i := 4) rfl (vs__law_stands_4) q_many.1 q_many.2 rfl rfl (by decide)) ax_nil rfl (by decide)) rfl) (blkOk_by (by kernel_rfl)) (fun _ _ _ _ _ => (gx_g (Γ' := [.fr, .fr, .fr, .fr, .sc, .sc, .sc, .sc, .un, .un, .un, .fr, .un, .sc]) (gx_name (i := 13) nd rfl (locB (by decide +kernel)) (hfB (by decide +kernel)) (by decide) rfl (by decide)) rfl)) (fun _ _ _ _ _ => (txs_one (tx_cmp op_gt (ex_ix (ma := .fr) (mb := .sc) (hu1 hr) (ex_var (i := 11) rfl (visB (by decide +kernel)) q_bad.1 q_bad.2 rfl rfl (by decide)) (ex_var (i := 13) rfl (visB (by decide +kernel)) q_k.1 q_k.2 rfl rfl (by decide)) rfl rfl (by decide) (fun _ _ => rfl)) (ex_cal (sg := ⟨[.fr, .fr], .sc⟩) takes0 C__law_added hr (by decide) rfl (ix_cons (fun _ _ h => nomatch h) (ex_ix (ma := .fr) (mb := .sc) (hu1 hr) (ex_var (i := 3) rfl (visB (by decide +kernel)) q_lengths.1 q_lengths.2 rfl rfl (by decide)) (ex_var (i := 13) rfl (visB (by decide +kernel)) q_k.1 q_k.2 rfl rfl (by decide)) rfl rfl (by decide) (fun _ _ => rfl)) (ix_cons (fun _ _ h => nomatch h) (ex_var (i := 1) rfl (visB (by decide +kernel)) q_grade.1 q_grade.2 rfl rfl (by decide)) ix_nil rfl (by decide)) rfl (by decide)) q__law_added.1 rfl rfl rfl rfl rfl rfl rfl) rfl rfl (by decide) (nobehind _ (by decide) (by decide)) (fun _ => s_cmp)))) (fun _ _ _ _ _ => (ex_sc_ow 0 (ex_var (i := 13) rfl (visB (by decide +kernel)) q_k.1 q_k.2 rfl rfl (by decide)))) (fun _ => rfl) (by decide +kernel)) rfl)) ax_nil rfl (by decide)) (fun _ => l_len)) ex_int rfl rfl (by decide) (nobehind _ (by decide) (by decide)) (fun _ => s_cmp))
  (sx_one (s_ret ex_bl rfl rfl rfl (by decide)))
  sx_nil) rfl rfl)))))) rfl rfl) (fun _ => rfl))) rfl rfl) (fun _ => rfl))
  (sx_one (s_ret ex_bl rfl rfl rfl (by decide)))))))
theorem ok__law_stands {P : Program} {w : World} {K : PySem.W.Frag} {mg : PySem.Str → Option Value} {base : Heap} {fa : Addr} {fd : FuncData} (C__law_added : Cal P w K mg base "_law_added" ["length", "grade"] 1 ⟨[.fr, .fr], .sc⟩ g__law_added) (C__law_lengths : Cal P w K mg base "_law_lengths" ["side"] 1 ⟨[.fr], .fr⟩ g__law_lengths) (mg_int : mg "int" = none) (mg_len : mg "len" = none) (mg_range : mg "range" = none) (mg_sum : mg "sum" = none) (F : FunD K "_law_stands" "_law_stands" (defArgs st__law_stands) (defBody st__law_stands) (defScope st__law_stands) [] [] fa fd) (hm : mg "_law_stands" = some (.ref fa)) : Cal P w K mg base "_law_stands" ["side", "grade", "size"] 2 ⟨[.fr, .fr, .fr], .sc⟩ g__law_stands := ⟨fa, fd, hm, F.kp, F.bindsN (fun _ _ _ _ _ _ us hl => match us, hl with | [_, _, _], _ => rfl), w__law_stands C__law_added C__law_lengths mg_int mg_len mg_range mg_sum F hm⟩
/-! law -/
abbrev st_law : Stmt := (top 24)
abbrev N_law : List PySem.Str := ["script", "pool", "side", "grade", "told"]
theorem S_law : FnScope N_law ["script"] (defScope st_law) := ⟨rfl, rfl, rfl, by decide +kernel, rfl, by decide +kernel, by decide +kernel⟩
theorem lk_law_0 : (defScope st_law).names.lookup ("script" : PySem.Str) = some PySem.NameKind.local := by decide +kernel
theorem vs_law_0 : Vis (defScope st_law) "script" := .inl lk_law_0
theorem lo_law_0 : L2.Loc (defScope st_law) "script" := .inl lk_law_0
theorem lk_law_1 : (defScope st_law).names.lookup ("pool" : PySem.Str) = some PySem.NameKind.local := by decide +kernel
theorem vs_law_1 : Vis (defScope st_law) "pool" := .inl lk_law_1
theorem lo_law_1 : L2.Loc (defScope st_law) "pool" := .inl lk_law_1
theorem lk_law_2 : (defScope st_law).names.lookup ("side" : PySem.Str) = some PySem.NameKind.local := by decide +kernel
theorem vs_law_2 : Vis (defScope st_law) "side" := .inl lk_law_2
theorem lo_law_2 : L2.Loc (defScope st_law) "side" := .inl lk_law_2
theorem lk_law_3 : (defScope st_law).names.lookup ("grade" : PySem.Str) = some PySem.NameKind.local := by decide +kernel
theorem vs_law_3 : Vis (defScope st_law) "grade" := .inl lk_law_3
theorem lo_law_3 : L2.Loc (defScope st_law) "grade" := .inl lk_law_3
theorem lk_law_4 : (defScope st_law).names.lookup ("told" : PySem.Str) = some PySem.NameKind.local := by decide +kernel
theorem vs_law_4 : Vis (defScope st_law) "told" := .inl lk_law_4
theorem lo_law_4 : L2.Loc (defScope st_law) "told" := .inl lk_law_4
def c_law : M Fl := (cSeq (cSet 1 (cCall g__law_pool [.e .fr] (cCons (cVar 0) cNil))) (cSeq (cSet 2 (cOp2 (ixB false) (cOpL oLst (cCons (cLit (.int 11)) (cCons (cLit (.int 13)) (cCons (cLit (.int 11)) (cCons (cLit (.int 13)) (cCons (cLit (.int 11)) (cCons (cLit (.int 17)) cNil))))))) (cCall g__law_draw [.io 1 1, .e .fr] (cCons (cLit .non) (cCons (cLit (.int 6)) cNil))))) (cSeq (cSet 3 (cOp2 oAddN (cLit (.int 1)) (cCall g__law_draw [.io 1 1, .e .fr] (cCons (cLit .non) (cCons (cLit (.int 3)) cNil))))) (cSeq (cSet 4 (cCall g_blot_strength [.e .fr, .e .fr] (cCons (cVar 2) (cCons (cVar 3) cNil)))) (cSeq (cIfS (tOrM (tNotM (cB (cCall g__law_is_int [.e .fr] (cCons (cVar 4) cNil)))) (tOrM (cB (cOp2 oLt (cVar 4) (cLit (.int 0)))) (cB (cOp2 oGt (cVar 4) (cOp2 oSub (cVar 2) (cLit (.int 2))))))) (cRet (cLit (.bl false))) cNx) (cSeq (cIfS (tAndM (cB (cOp2 oGt (cVar 4) (cLit (.int 0)))) (tNotM (cB (cCall g__law_stands [.e .fr, .e .fr, .e .fr] (cCons (cVar 2) (cCons (cVar 3) (cCons (cVar 4) cNil))))))) (cRet (cLit (.bl false))) cNx) (cRet (cOr (cCall g__law_equal [.e .fr, .e .fr] (cCons (cVar 4) (cCons (cOp2 oSub (cVar 2) (cLit (.int 2))) cNil))) (cOp1 oNot (cCall g__law_stands [.e .fr, .e .fr, .e .fr] (cCons (cVar 2) (cCons (cVar 3) (cCons (cOp2 oAddN (cVar 4) (cLit (.int 1))) cNil)))))))))))))
@[irreducible] def g_law : List T → CR := runF [.fr] 4 c_law
theorem w_law {P : Program} {w : World} {K : PySem.W.Frag} {mg : PySem.Str → Option Value} {base : Heap} {fa : Addr} {fd : FuncData} (C__law_draw : Cal P w K mg base "_law_draw" ["pool", "many"] 2 ⟨[.io 1, .fr], .sc⟩ g__law_draw) (C__law_equal : Cal P w K mg base "_law_equal" ["x", "y"] 12 ⟨[.fr, .fr], .sc⟩ g__law_equal) (C__law_is_int : Cal P w K mg base "_law_is_int" ["x"] 1 ⟨[.fr], .sc⟩ g__law_is_int) (C__law_pool : Cal P w K mg base "_law_pool" ["script"] 1 ⟨[.fr], (.ow 1)⟩ g__law_pool) (C__law_stands : Cal P w K mg base "_law_stands" ["side", "grade", "size"] 2 ⟨[.fr, .fr, .fr], .sc⟩ g__law_stands) (C_blot_strength : Cal P w K mg base "blot_strength" ["side", "grade"] 6 ⟨[.fr, .fr], .sc⟩ g_blot_strength) (F : FunD K "law" "law" (defArgs st_law) (defBody st_law) (defScope st_law) [] [] fa fd) (hm : mg "law" = some (.ref fa)) : FnOk P w K mg base (L2.CX P w) 13 fa fd ["script"] (spT K mg ⟨[.fr], .sc⟩ g_law) := by
  unfold g_law
  refine fn_ok (n := 4) (c := c_law) F S_law rfl rfl (by decide) fun cdv A outer s H E hr => ?_
  have tk : Takes (cxOf (L2.CX P w) P w K mg base N_law "law" (defScope st_law) fa cdv A outer s H E) (WEx E) := takes_of rfl rfl rfl rfl
  have nd := S_law.nd
  exact (sx_cons (sx_g (Γ' := [.fr, (.ow 1), .un, .un, .un]) (s_set (i := 1) nd rfl (lo_law_1) (ex_cal (sg := ⟨[.fr], (.ow 1)⟩) tk C__law_pool hr (by decide) rfl (ix_cons (fun _ _ h => nomatch h) (ex_var (i := 0) rfl (vs_law_0) q_script.1 q_script.2 rfl rfl (by decide)) ix_nil rfl (by decide)) q__law_pool.1 rfl rfl rfl rfl rfl rfl rfl) rfl (.inl rfl) (by decide) rfl (by decide)) rfl)
  (sx_cons (sx_g (Γ' := [.fr, (.ow 1), .fr, .un, .un]) (s_set (i := 2) nd rfl (lo_law_2) (ex_ix (ma := .fr) (mb := .sc) (hu1 hr) (ex_freeze (ex_lst (ax_cons (fun _ _ h => nomatch h) ex_int (ax_cons (fun _ _ h => nomatch h) ex_int (ax_cons (fun _ _ h => nomatch h) ex_int (ax_cons (fun _ _ h => nomatch h) ex_int (ax_cons (fun _ _ h => nomatch h) ex_int (ax_cons (fun _ _ h => nomatch h) ex_int ax_nil rfl (by decide)) rfl (by decide)) rfl (by decide)) rfl (by decide)) rfl (by decide)) rfl (by decide)) rfl)) (ex_cal (sg := ⟨[.io 1, .fr], .sc⟩) tk C__law_draw hr (by decide) rfl (ix_io (i := 1) (d := 1) rfl (vs_law_1) q_pool.1 q_pool.2 rfl (ix_cons (fun _ _ h => nomatch h) (ex_sc_fr ex_int) ix_nil rfl (by decide))) q__law_draw.1 rfl rfl rfl rfl rfl rfl rfl) rfl rfl (by decide) (fun _ _ => rfl)) rfl (.inl rfl) (by decide) rfl (by decide)) rfl)
  (sx_cons (sx_g (Γ' := [.fr, (.ow 1), .fr, .sc, .un]) (s_set (i := 3) nd rfl (lo_law_3) (ex_bin op_addT ex_int (ex_cal (sg := ⟨[.io 1, .fr], .sc⟩) tk C__law_draw hr (by decide) rfl (ix_io (i := 1) (d := 1) rfl (vs_law_1) q_pool.1 q_pool.2 rfl (ix_cons (fun _ _ h => nomatch h) (ex_sc_fr ex_int) ix_nil rfl (by decide))) q__law_draw.1 rfl rfl rfl rfl rfl rfl rfl) rfl rfl (by decide) (fun _ => s_addN)) rfl (.inl rfl) (by decide) rfl (by decide)) rfl)
  (sx_cons (sx_g (Γ' := [.fr, (.ow 1), .fr, .sc, .sc]) (s_set (i := 4) nd rfl (lo_law_4) (ex_cal (sg := ⟨[.fr, .fr], .sc⟩) tk C_blot_strength hr (by decide) rfl (ix_cons (fun _ _ h => nomatch h) (ex_var (i := 2) rfl (vs_law_2) q_side.1 q_side.2 rfl rfl (by decide)) (ix_cons (fun _ _ h => nomatch h) (ex_sc_fr (ex_var (i := 3) rfl (vs_law_3) q_grade.1 q_grade.2 rfl rfl (by decide))) ix_nil rfl (by decide)) rfl (by decide)) q_blot_strength.1 rfl rfl rfl rfl rfl rfl rfl) rfl (.inl rfl) (by decide) rfl (by decide)) rfl)
  (sx_cons (s_if (Γ2 := [.fr, (.ow 1), .fr, .sc, .sc]) (PW.pt (txw_or (tx_not (tx_val (ex_cal (sg := ⟨[.fr], .sc⟩) tk C__law_is_int hr (by decide) rfl (ix_cons (fun _ _ h => nomatch h) (ex_sc_fr (ex_var (i := 4) rfl (vs_law_4) q_told.1 q_told.2 rfl rfl (by decide))) ix_nil rfl (by decide)) q__law_is_int.1 rfl rfl rfl rfl rfl rfl rfl) (fun _ => rfl))) (txw_or (tx_cmp op_lt (ex_var (i := 4) rfl (vs_law_4) q_told.1 q_told.2 rfl rfl (by decide)) ex_int rfl rfl (by decide) (nobehind _ (by decide) (by decide)) (fun _ => s_cmp)) (txw_or1 (tx_cmp op_gt (ex_var (i := 4) rfl (vs_law_4) q_told.1 q_told.2 rfl rfl (by decide)) (ex_bin op_sub (ex_var (i := 2) rfl (vs_law_2) q_side.1 q_side.2 rfl rfl (by decide)) ex_int rfl rfl (by decide) (fun _ => s_sub)) rfl rfl (by decide) (nobehind _ (by decide) (by decide)) (fun _ => s_cmp))))))
  (sx_one (s_ret ex_bl rfl rfl rfl (by decide)))
  sx_nil)
  (sx_cons (s_if (Γ2 := [.fr, (.ow 1), .fr, .sc, .sc]) (PW.pt (txw_and (tx_cmp op_gt (ex_var (i := 4) rfl (vs_law_4) q_told.1 q_told.2 rfl rfl (by decide)) ex_int rfl rfl (by decide) (nobehind _ (by decide) (by decide)) (fun _ => s_cmp)) (txw_and1 (tx_not (tx_val (ex_cal (sg := ⟨[.fr, .fr, .fr], .sc⟩) tk C__law_stands hr (by decide) rfl (ix_cons (fun _ _ h => nomatch h) (ex_var (i := 2) rfl (vs_law_2) q_side.1 q_side.2 rfl rfl (by decide)) (ix_cons (fun _ _ h => nomatch h) (ex_sc_fr (ex_var (i := 3) rfl (vs_law_3) q_grade.1 q_grade.2 rfl rfl (by decide))) (ix_cons (fun _ _ h => nomatch h) (ex_sc_fr (ex_var (i := 4) rfl (vs_law_4) q_told.1 q_told.2 rfl rfl (by decide))) ix_nil rfl (by decide)) rfl (by decide)) rfl (by decide)) q__law_stands.1 rfl rfl rfl rfl rfl rfl rfl) (fun _ => rfl))))))
  (sx_one (s_ret ex_bl rfl rfl rfl (by decide)))
  sx_nil)
  (sx_one (s_ret (ex_or (ex_cal (sg := ⟨[.fr, .fr], .sc⟩) tk C__law_equal hr (by decide) rfl (ix_cons (fun _ _ h => nomatch h) (ex_sc_fr (ex_var (i := 4) rfl (vs_law_4) q_told.1 q_told.2 rfl rfl (by decide))) (ix_cons (fun _ _ h => nomatch h) (ex_sc_fr (ex_bin op_sub (ex_var (i := 2) rfl (vs_law_2) q_side.1 q_side.2 rfl rfl (by decide)) ex_int rfl rfl (by decide) (fun _ => s_sub))) ix_nil rfl (by decide)) rfl (by decide)) q__law_equal.1 rfl rfl rfl rfl rfl rfl rfl) (ex_one (ex_not (ex_cal (sg := ⟨[.fr, .fr, .fr], .sc⟩) tk C__law_stands hr (by decide) rfl (ix_cons (fun _ _ h => nomatch h) (ex_var (i := 2) rfl (vs_law_2) q_side.1 q_side.2 rfl rfl (by decide)) (ix_cons (fun _ _ h => nomatch h) (ex_sc_fr (ex_var (i := 3) rfl (vs_law_3) q_grade.1 q_grade.2 rfl rfl (by decide))) (ix_cons (fun _ _ h => nomatch h) (ex_sc_fr (ex_bin op_addT (ex_var (i := 4) rfl (vs_law_4) q_told.1 q_told.2 rfl rfl (by decide)) ex_int rfl rfl (by decide) (fun _ => s_addN))) ix_nil rfl (by decide)) rfl (by decide)) rfl (by decide)) q__law_stands.1 rfl rfl rfl rfl rfl rfl rfl) rfl))) rfl rfl rfl (by decide)))))))))
theorem ok_law {P : Program} {w : World} {K : PySem.W.Frag} {mg : PySem.Str → Option Value} {base : Heap} {fa : Addr} {fd : FuncData} (C__law_draw : Cal P w K mg base "_law_draw" ["pool", "many"] 2 ⟨[.io 1, .fr], .sc⟩ g__law_draw) (C__law_equal : Cal P w K mg base "_law_equal" ["x", "y"] 12 ⟨[.fr, .fr], .sc⟩ g__law_equal) (C__law_is_int : Cal P w K mg base "_law_is_int" ["x"] 1 ⟨[.fr], .sc⟩ g__law_is_int) (C__law_pool : Cal P w K mg base "_law_pool" ["script"] 1 ⟨[.fr], (.ow 1)⟩ g__law_pool) (C__law_stands : Cal P w K mg base "_law_stands" ["side", "grade", "size"] 2 ⟨[.fr, .fr, .fr], .sc⟩ g__law_stands) (C_blot_strength : Cal P w K mg base "blot_strength" ["side", "grade"] 6 ⟨[.fr, .fr], .sc⟩ g_blot_strength) (F : FunD K "law" "law" (defArgs st_law) (defBody st_law) (defScope st_law) [] [] fa fd) (hm : mg "law" = some (.ref fa)) : Cal P w K mg base "law" ["script"] 13 ⟨[.fr], .sc⟩ g_law := ⟨fa, fd, hm, F.kp, F.bindsN (fun _ _ _ _ _ _ us hl => match us, hl with | [_], _ => rfl), w_law C__law_draw C__law_equal C__law_is_int C__law_pool C__law_stands C_blot_strength F hm⟩
/-! the head -/
def d__law_pool : He.DefD := ⟨("_law_pool", none), "_law_pool", "_law_pool", defArgs st__law_pool, defBody st__law_pool, defScope st__law_pool, [], []⟩
def d_added_count : He.DefD := ⟨("added_count", none), "added_count", "added_count", defArgs st_added_count, defBody st_added_count, defScope st_added_count, [], []⟩
def d_element_count : He.DefD := ⟨("element_count", none), "element_count", "element_count", defArgs st_element_count, defBody st_element_count, defScope st_element_count, [], []⟩
def d_block_count : He.DefD := ⟨("block_count", none), "block_count", "block_count", defArgs st_block_count, defBody st_block_count, defScope st_block_count, [], []⟩
def d_block_lengths : He.DefD := ⟨("block_lengths", none), "block_lengths", "block_lengths", defArgs st_block_lengths, defBody st_block_lengths, defScope st_block_lengths, [], []⟩
def d_capacity : He.DefD := ⟨("capacity", none), "capacity", "capacity", defArgs st_capacity, defBody st_capacity, defScope st_capacity, [], []⟩
def d_field_cells : He.DefD := ⟨("field_cells", none), "field_cells", "field_cells", defArgs st_field_cells, defBody st_field_cells, defScope st_field_cells, [], []⟩
def d_lost_counts : He.DefD := ⟨("lost_counts", none), "lost_counts", "lost_counts", defArgs st_lost_counts, defBody st_lost_counts, defScope st_lost_counts, [], []⟩
def d_withstands : He.DefD := ⟨("withstands", none), "withstands", "withstands", defArgs st_withstands, defBody st_withstands, defScope st_withstands, [], []⟩
def d_blot_strength : He.DefD := ⟨("blot_strength", none), "blot_strength", "blot_strength", defArgs st_blot_strength, defBody st_blot_strength, defScope st_blot_strength, [], []⟩
def d__law_spread : He.DefD := ⟨("_law_spread", none), "_law_spread", "_law_spread", defArgs st__law_spread, defBody st__law_spread, defScope st__law_spread, [], []⟩
def d__law_draw : He.DefD := ⟨("_law_draw", none), "_law_draw", "_law_draw", defArgs st__law_draw, defBody st__law_draw, defScope st__law_draw, [], []⟩
def d__law_equal : He.DefD := ⟨("_law_equal", none), "_law_equal", "_law_equal", defArgs st__law_equal, defBody st__law_equal, defScope st__law_equal, [], []⟩
def d__law_is_int : He.DefD := ⟨("_law_is_int", none), "_law_is_int", "_law_is_int", defArgs st__law_is_int, defBody st__law_is_int, defScope st__law_is_int, [], []⟩
def d__law_lengths : He.DefD := ⟨("_law_lengths", none), "_law_lengths", "_law_lengths", defArgs st__law_lengths, defBody st__law_lengths, defScope st__law_lengths, [], []⟩
def d__law_added : He.DefD := ⟨("_law_added", none), "_law_added", "_law_added", defArgs st__law_added, defBody st__law_added, defScope st__law_added, [], []⟩
def d__law_stands : He.DefD := ⟨("_law_stands", none), "_law_stands", "_law_stands", defArgs st__law_stands, defBody st__law_stands, defScope st__law_stands, [], []⟩
def d_law : He.DefD := ⟨("law", none), "law", "law", defArgs st_law, defBody st_law, defScope st_law, [], []⟩
def fn : List He.DefD := [d__law_pool, d_added_count, d_element_count, d_block_count, d_block_lengths, d_capacity, d_field_cells, d_lost_counts, d_withstands, d_blot_strength, d__law_spread, d__law_draw, d__law_equal, d__law_is_int, d__law_lengths, d__law_added, d__law_stands, d_law]
def fa : List He.Fa := [.glo "_law_pool", .glo "added_count", .glo "element_count", .glo "block_count", .glo "block_lengths", .glo "capacity", .glo "field_cells", .glo "lost_counts", .glo "withstands", .glo "blot_strength", .glo "_law_spread", .glo "_law_draw", .glo "_law_equal", .glo "_law_is_int", .glo "_law_lengths", .glo "_law_added", .glo "_law_stands", .glo "law", .free "all", .free "any", .free "bool", .free "dict", .free "int", .free "isinstance", .free "len", .free "list", .free "range", .free "str", .free "sum", .free "tuple", .free "zip"]
def exB (K : PySem.W.Frag) : Bool := [cnB K "BLOCK" k_BLOCK, cnB K "ELEMENT_BITS" k_ELEMENT_BITS].all id
abbrev R : PySem.W.OpenRow := PySem.W.OpenLaw.row PySem.Challenge.rw_dapple_k79_strength_against_blots
abbrev hk : PySem.W.Hook := hookN 4 exB fa fn
def ob (s : PySem.W.SharedT) : He.AlD := obsN 4 exB fa fn (HandSHeadRun.getT s)
theorem ob_eq (s : PySem.W.SharedT) : ob s = hk.obs s.abs := obsN_eq (HandSHeadRun.getT_eq s)
def loose : List PySem.Str := (["ELEMENT_BITS", "BLOCK", "element_count", "block_count", "block_lengths", "added_count", "field_cells", "capacity", "lost_counts", "withstands", "blot_strength", "_law_is_int", "_law_lengths", "_law_added", "_law_pool", "_law_spread", "_law_draw", "_law_equal", "_law_stands"] : List PySem.Str)
theorem run (w : World) : HandSHeadRun.RunEq R (PySem.W.view R.prog [24]) hk ob 4000 loose w := by
  intro os
  kernel_rfl
theorem facts {P : Program} {w : World} {K : PySem.W.Frag} {h : Heap} {mg : PySem.Str → Option Value} {f : Addr} (X : K.In h) (G : h.Ns mainGlobals mg) (hex : exB K = true) (hfa : mg ("law" : PySem.Str) = some (.ref f)) (c : He.SaysD fa fn K) :
    ∃ fd : FuncData, (∀ (s : Shared) (v : Value), BindsTo s fd ⟨[v], []⟩ [("script", v)]) ∧ ∀ base : Heap, FnOk P w K mg base (L2.CX P w) 13 f fd ["script"] (spT K mg ⟨[.fr], .sc⟩ g_law) := by
  obtain ⟨fd_0, F_0⟩ := c.def_ 0 (d := d__law_pool) rfl
  obtain ⟨fd_1, F_1⟩ := c.def_ 1 (d := d_added_count) rfl
  obtain ⟨fd_2, F_2⟩ := c.def_ 2 (d := d_element_count) rfl
  obtain ⟨fd_3, F_3⟩ := c.def_ 3 (d := d_block_count) rfl
  obtain ⟨fd_4, F_4⟩ := c.def_ 4 (d := d_block_lengths) rfl
  obtain ⟨fd_5, F_5⟩ := c.def_ 5 (d := d_capacity) rfl
  obtain ⟨fd_6, F_6⟩ := c.def_ 6 (d := d_field_cells) rfl
  obtain ⟨fd_7, F_7⟩ := c.def_ 7 (d := d_lost_counts) rfl
  obtain ⟨fd_8, F_8⟩ := c.def_ 8 (d := d_withstands) rfl
  obtain ⟨fd_9, F_9⟩ := c.def_ 9 (d := d_blot_strength) rfl
  obtain ⟨fd_10, F_10⟩ := c.def_ 10 (d := d__law_spread) rfl
  obtain ⟨fd_11, F_11⟩ := c.def_ 11 (d := d__law_draw) rfl
  obtain ⟨fd_12, F_12⟩ := c.def_ 12 (d := d__law_equal) rfl
  obtain ⟨fd_13, F_13⟩ := c.def_ 13 (d := d__law_is_int) rfl
  obtain ⟨fd_14, F_14⟩ := c.def_ 14 (d := d__law_lengths) rfl
  obtain ⟨fd_15, F_15⟩ := c.def_ 15 (d := d__law_added) rfl
  obtain ⟨fd_16, F_16⟩ := c.def_ 16 (d := d__law_stands) rfl
  obtain ⟨fd_17, F_17⟩ := c.def_ 17 (d := d_law) rfl
  have m_0 := He.glo_ok X G (c.fact 0 (f := .glo "_law_pool") rfl)
  have m_1 := He.glo_ok X G (c.fact 1 (f := .glo "added_count") rfl)
  have m_2 := He.glo_ok X G (c.fact 2 (f := .glo "element_count") rfl)
  have m_3 := He.glo_ok X G (c.fact 3 (f := .glo "block_count") rfl)
  have m_4 := He.glo_ok X G (c.fact 4 (f := .glo "block_lengths") rfl)
  have m_5 := He.glo_ok X G (c.fact 5 (f := .glo "capacity") rfl)
  have m_6 := He.glo_ok X G (c.fact 6 (f := .glo "field_cells") rfl)
  have m_7 := He.glo_ok X G (c.fact 7 (f := .glo "lost_counts") rfl)
  have m_8 := He.glo_ok X G (c.fact 8 (f := .glo "withstands") rfl)
  have m_9 := He.glo_ok X G (c.fact 9 (f := .glo "blot_strength") rfl)
  have m_10 := He.glo_ok X G (c.fact 10 (f := .glo "_law_spread") rfl)
  have m_11 := He.glo_ok X G (c.fact 11 (f := .glo "_law_draw") rfl)
  have m_12 := He.glo_ok X G (c.fact 12 (f := .glo "_law_equal") rfl)
  have m_13 := He.glo_ok X G (c.fact 13 (f := .glo "_law_is_int") rfl)
  have m_14 := He.glo_ok X G (c.fact 14 (f := .glo "_law_lengths") rfl)
  have m_15 := He.glo_ok X G (c.fact 15 (f := .glo "_law_added") rfl)
  have m_16 := He.glo_ok X G (c.fact 16 (f := .glo "_law_stands") rfl)
  have m_17 := He.glo_ok X G (c.fact 17 (f := .glo "law") rfl)
  have mg_all := He.free_ok X G (c.fact 18 (f := .free "all") rfl)
  have mg_any := He.free_ok X G (c.fact 19 (f := .free "any") rfl)
  have mg_bool := He.free_ok X G (c.fact 20 (f := .free "bool") rfl)
  have mg_dict := He.free_ok X G (c.fact 21 (f := .free "dict") rfl)
  have mg_int := He.free_ok X G (c.fact 22 (f := .free "int") rfl)
  have mg_isinstance := He.free_ok X G (c.fact 23 (f := .free "isinstance") rfl)
  have mg_len := He.free_ok X G (c.fact 24 (f := .free "len") rfl)
  have mg_list := He.free_ok X G (c.fact 25 (f := .free "list") rfl)
  have mg_range := He.free_ok X G (c.fact 26 (f := .free "range") rfl)
  have mg_str := He.free_ok X G (c.fact 27 (f := .free "str") rfl)
  have mg_sum := He.free_ok X G (c.fact 28 (f := .free "sum") rfl)
  have mg_tuple := He.free_ok X G (c.fact 29 (f := .free "tuple") rfl)
  have mg_zip := He.free_ok X G (c.fact 30 (f := .free "zip") rfl)
  have cn_BLOCK : Cn K mg "BLOCK" k_BLOCK := cnB_ok X G (allb 0 hex rfl)
  have cn_ELEMENT_BITS : Cn K mg "ELEMENT_BITS" k_ELEMENT_BITS := cnB_ok X G (allb 1 hex rfl)
  have e := hfa.symm.trans m_17
  cases e
  refine ⟨fd_17, fun s v => FunD.bindsA (ps := ["script"]) F_17 (fun _ _ _ _ _ _ us hl => match us, hl with | [_], _ => rfl) s [v] rfl, fun base => ?_⟩
  have C__law_pool := ok__law_pool (P := P) (w := w) (base := base) mg_int mg_list F_0 m_0
  have C_added_count := ok_added_count (P := P) (w := w) (base := base) F_1 m_1
  have C_element_count := ok_element_count (P := P) (w := w) (base := base) cn_ELEMENT_BITS F_2 m_2
  have C_block_count := ok_block_count (P := P) (w := w) (base := base) C_element_count cn_BLOCK F_3 m_3
  have C_block_lengths := ok_block_lengths (P := P) (w := w) (base := base) C_block_count C_element_count mg_len mg_range F_4 m_4
  have C_capacity := ok_capacity (P := P) (w := w) (base := base) C_added_count C_block_lengths F_5 m_5
  have C_field_cells := ok_field_cells (P := P) (w := w) (base := base) mg_range F_6 m_6
  have C_lost_counts := ok_lost_counts (P := P) (w := w) (base := base) C_block_count C_element_count C_field_cells mg_any mg_len mg_range cn_ELEMENT_BITS F_7 m_7
  have C_withstands := ok_withstands (P := P) (w := w) (base := base) C_capacity C_lost_counts mg_all mg_range mg_zip F_8 m_8
  have C_blot_strength := ok_blot_strength (P := P) (w := w) (base := base) C_withstands F_9 m_9
  have C__law_spread := ok__law_spread (P := P) (w := w) (base := base) mg_int mg_range F_10 m_10
  have C__law_draw := ok__law_draw (P := P) (w := w) (base := base) C__law_spread mg_int mg_len F_11 m_11
  have C__law_equal := ok__law_equal (P := P) (w := w) (base := base) mg_all mg_bool mg_dict mg_int mg_isinstance mg_len mg_list mg_range mg_str mg_tuple F_12 m_12
  have C__law_is_int := ok__law_is_int (P := P) (w := w) (base := base) mg_bool mg_int mg_isinstance F_13 m_13
  have C__law_lengths := ok__law_lengths (P := P) (w := w) (base := base) mg_len mg_range F_14 m_14
  have C__law_added := ok__law_added (P := P) (w := w) (base := base) F_15 m_15
  have C__law_stands := ok__law_stands (P := P) (w := w) (base := base) C__law_added C__law_lengths mg_int mg_len mg_range mg_sum F_16 m_16
  exact w_law C__law_draw C__law_equal C__law_is_int C__law_pool C__law_stands C_blot_strength F_17 m_17
end K79

namespace K79
open PySem L2 TL
def poolT (ns : List Int) (i x n s : Int) : T := .lst [.lst (intsT ns), .int i, .int x, .int n, .int s]
theorem ints_cut (ns : List Int) (lo hi : Option Int) : cutT (intsT ns) lo hi = intsT (cutT ns lo hi) := by unfold cutT intsT; simp [List.map_take, List.map_drop]
theorem pool_ok (ns : List Int) : ∃ s, g__law_pool [.lst (intsT ns)] = .ok (poolT ns 0 0 0 s) [] := by
  have h : (@wpg (g__law_pool [.lst (intsT ns)]) ⟨(fun t o => ∃ s, t = poolT ns 0 0 0 s ∧ o = []), (fun _ _ _ _ => False)⟩) := by
    unfold g__law_pool
    rw [wpg_run]
    unfold c__law_pool startT
    simp [slB, ints_cut, itB, oPt]
    refine wp_loop (fun ts τ => ∃ ns' s j, ts = intsT ns' ∧ τ = [some (.lst (intsT ns)), some (.int s), j]) ⟨_, _, _, rfl, rfl⟩ ?_ ?_
    · rintro t ts τ ⟨ns', s, j, e, rfl⟩
      cases ns' with
      | nil => cases e
      | cons n ns' =>
        cases e
        unfold c__law_pool_l1
        simp [Pa.set]
        exact ⟨ns', rfl⟩
    · rintro τ ⟨ns', s, j, e, rfl⟩
      simp [gList, oLst, outsOf, poolT]
  obtain ⟨t, o, e, s, rfl, rfl⟩ := wpg_ok h
  exact ⟨s, e⟩
theorem spread_ok (c : Int) : ∃ r, g__law_spread [.int c] = .ok (.int r) [] := by
  have h : (@wpg (g__law_spread [.int c]) ⟨(fun t o => ∃ r, t = .int r ∧ o = []), (fun _ _ _ _ => False)⟩) := by
    unfold g__law_spread
    rw [wpg_run]
    unfold c__law_spread startT
    simp [rgB]
    refine wp_loop (fun ts τ => ∃ ns' m t j, ts = intsT ns' ∧ τ = [some (.int c), some (.int m), some (.int t), j]) ⟨[0, 1, 2, 3], _, _, _, rfl, rfl⟩ ?_ ?_
    · rintro t ts τ ⟨ns', m, t1, j, e, rfl⟩
      cases ns' with
      | nil => cases e
      | cons n ns' =>
        cases e
        unfold c__law_spread_l1
        simp [Pa.set]
        exact ⟨ns', rfl⟩
    · rintro τ ⟨ns', m, t1, j, e, rfl⟩
      simp [outsOf]
  obtain ⟨t, o, e, s, rfl, rfl⟩ := wpg_ok h
  exact ⟨s, e⟩
theorem draw_ok (ns : List Int) (i x n s m : Int) (hi : 0 ≤ i) (hm : 0 < m) (hm2 : m.natAbs < 18446744073709551616) :
    ∃ v i' x' n', 0 ≤ i' ∧ 0 ≤ v ∧ v < m ∧ g__law_draw [poolT ns i x n s, .int m] = .ok (.int v) [poolT ns i' x' n' s] := by
  have h : (@wpg (g__law_draw [poolT ns i x n s, .int m]) ⟨(fun t o => ∃ v i' x' n', 0 ≤ i' ∧ 0 ≤ v ∧ v < m ∧ t = .int v ∧ o = [poolT ns i' x' n' s]), (fun _ _ _ _ => False)⟩) := by
    unfold g__law_draw
    rw [wpg_run]
    unfold c__law_draw startT poolT
    have e0 : ∀ r : Int, 0 ≤ r % m ∧ r % m < m := fun r => ⟨Int.emod_nonneg _ (by omega), Int.emod_lt_of_pos _ hm⟩
    by_cases h1 : x ≤ 0 ∧ i < ns.length
    · obtain ⟨h1, h2⟩ := h1
      have hlt : i.toNat < ns.length := by omega
      obtain ⟨r, hr⟩ := spread_ok (ns[i.toNat])
      by_cases h3 : ns[i.toNat] < 1000000000000000000
      · by_cases h4 : r ≤ 0
        · simp [wp_seti, gSet, ixN, h1, h2, hi, atI_nn, hlt, h3, AI.fill, hr, wpg, AI.put, AI.slots, h4, hm, outsOf]
          exact ⟨_, _, by omega, (e0 _).1, (e0 _).2, rfl, rfl⟩
        · simp [wp_seti, gSet, ixN, h1, h2, hi, atI_nn, hlt, h3, AI.fill, hr, wpg, AI.put, AI.slots, h4, hm, hm2, outsOf]
          exact ⟨_, _, by omega, (e0 _).1, (e0 _).2, rfl, rfl⟩
      · have h4 : ¬ ns[i.toNat] ≤ 0 := by omega
        simp [wp_seti, gSet, ixN, h1, h2, hi, atI_nn, hlt, h3, h4, hm, hm2, outsOf]
        exact ⟨_, _, by omega, (e0 _).1, (e0 _).2, rfl, rfl⟩
    · by_cases h4 : x ≤ 0
      · have h2 : ¬ i < ns.length := fun z => h1 ⟨h4, z⟩
        simp [wp_seti, gSet, ixN, h4, h2, hm, outsOf, hi]
        exact ⟨_, _, hi, (e0 _).1, (e0 _).2, rfl, rfl⟩
      · simp [wp_seti, gSet, ixN, h4, hm, hm2, outsOf, hi]
        exact ⟨_, _, hi, (e0 _).1, (e0 _).2, rfl, rfl⟩
  obtain ⟨t, o, e, v, i', x', n', h1, h2, h3, rfl, rfl⟩ := wpg_ok h
  exact ⟨v, i', x', n', h1, h2, h3, e⟩
end K79


namespace K79
open PySem L2 TL
theorem eq_int (n : Nat) (x y : Int) : gR__law_equal (n + 1) [.int x, .int y] = .ok (.bl (decide (x = y))) [] := by
  have h : (@wpg (gR__law_equal (n + 1) [.int x, .int y]) ⟨(fun t o => t = .bl (decide (x = y)) ∧ o = []), (fun _ _ _ _ => False)⟩) := by
    unfold gR__law_equal
    rw [wpg_run]
    unfold c__law_equal startT
    simp [isN]
    trace_state
  obtain ⟨t, o, e, rfl, rfl⟩ := wpg_ok h
  exact e
end K79


namespace K79
open PySem L2 TL
def cellT (p : Nat × Nat) : T := .tup [.int (p.1 : Int), .int (p.2 : Int)]
def inB (t l z : Nat) (p : Nat × Nat) : Bool := (Nat.ble t p.1 && Nat.ble (p.1 + 1) (t + z)) && (Nat.ble l p.2 && Nat.ble (p.2 + 1) (l + z))
def hit (cs : List (Nat × Nat)) (t l z i : Nat) : Bool := ((cs.drop (5 * i)).take 5).any (inB t l z)
def tots (b : Nat) (h : Nat → Bool) : Nat → List Nat
  | 0 => List.replicate b 0
  | i + 1 => let x := tots b h i; bif h i then x.set (i % b) (cf x (i % b) + 1) else x
theorem tots_len (b : Nat) (h : Nat → Bool) : ∀ i, (tots b h i).length = b
  | 0 => List.length_replicate
  | i + 1 => by
    unfold tots
    dsimp only
    cases h i with
    | true => simp only [cond_true, List.length_set]; exact tots_len b h i
    | false => simp only [cond_false]; exact tots_len b h i
theorem tots_le (b : Nat) (h : Nat → Bool) : ∀ i k, cf (tots b h i) k ≤ i
  | 0, k => by unfold tots; rw [cf_rep]; exact Nat.le_refl _
  | i + 1, k => by
    unfold tots
    dsimp only
    have e := tots_le b h i
    cases h i with
    | true =>
      simp only [cond_true]
      by_cases hb : i % b < (tots b h i).length
      · rw [cf_set hb]
        split
        · have := e (i % b); omega
        · exact Nat.le_succ_of_le (e k)
      · rw [List.set_eq_of_length_le (by omega)]
        exact Nat.le_succ_of_le (e k)
    | false => simp only [cond_false]; exact Nat.le_succ_of_le (e k)
structure Fd (s b w : Nat) (cs : List (Nat × Nat)) : Prop where
  fc : g_field_cells [.int (s : Int)] = .ok (.lst (cs.map cellT)) []
  bc : g_block_count [.int (s : Int)] = .ok (.int (b : Int)) []
  ec : g_element_count [.int (s : Int)] = .ok (.int (w : Int)) []
  hl : 5 * w ≤ cs.length
  h0 : 0 < b
  hb : b ≤ 1000
  hw : w ≤ 1000
theorem any_map {α : Type} (f : α → Bool) (xs : List α) : gAny [.lst (xs.map fun x => T.bl (f x))] = some (.bl (xs.any f)) := by
  have key : blL (xs.map fun i => T.bl (f i)) = some (xs.map f) := by
    induction xs with
    | nil => rfl
    | cons k ks ih =>
      rw [List.map_cons]
      unfold blL
      rw [ih]
      rfl
  have e : gAny [.lst (xs.map fun i => T.bl (f i))] = (blL (xs.map fun i => T.bl (f i))).map fun bs => .bl (bs.any id) := rfl
  rw [e, key, Option.map_some, List.any_map]
  rfl
theorem lost_lc {s : T} {t l z : Nat} {cs tot : T} {i : T} {pt : T} {xs : List (Nat × Nat)} {acc : List T} {o8 o9 : Option T} (hl : acc.length + xs.length ≤ 1000) {Q : T → Sl → Prop} {E : XP}
    (q : ∀ o8 o9, Q (.lst (acc ++ xs.map fun p => T.bl (inB t l z p))) [some s, some (.int (t : Int)), some (.int (l : Int)), some (.int (z : Int)), some cs, some tot, some i, some pt, o8, o9]) :
    (@wp _ (cLcGo (.tup [(.nm 8), (.nm 9)]) cYes (cAnd (cChain oLe oLt (cVar 1) (cVar 8) (cOp2 oAddN (cVar 1) (cVar 3))) (cChain oLe oLt (cVar 2) (cVar 9) (cOp2 oAddN (cVar 2) (cVar 3)))) (xs.map cellT) acc) [some s, some (.int (t : Int)), some (.int (l : Int)), some (.int (z : Int)), some cs, some tot, some i, some pt, o8, o9] ⟨Q, E⟩) := by
  induction xs generalizing acc o8 o9 with
  | nil =>
    rw [List.map_nil, wp_lcgo_nil]
    have := q o8 o9
    rw [List.map_nil, List.append_nil] at this
    exact this
  | cons p xs ih =>
    obtain ⟨r, c⟩ := p
    rw [List.map_cons, wp_lcgo_cons]
    simp only [List.length_cons] at hl
    have hs : acc.length ≤ 1000000 := by omega
    have go : ∀ bb, bb = inB t l z (r, c) → (@wp _ (cLcGo (.tup [(.nm 8), (.nm 9)]) cYes (cAnd (cChain oLe oLt (cVar 1) (cVar 8) (cOp2 oAddN (cVar 1) (cVar 3))) (cChain oLe oLt (cVar 2) (cVar 9) (cOp2 oAddN (cVar 2) (cVar 3)))) (xs.map cellT) (acc ++ [T.bl bb])) [some s, some (.int (t : Int)), some (.int (l : Int)), some (.int (z : Int)), some cs, some tot, some i, some pt, some (.int (r : Int)), some (.int (c : Int))] ⟨Q, E⟩) := fun bb hbb => by
      subst hbb
      refine ih (by simp; omega) fun o8 o9 => ?_
      have := q o8 o9
      rw [List.map_cons] at this
      rw [List.append_assoc]
      exact this
    simp only [cellT, wpo_some, pa_tup, pa_lcons, pa_lnil, pa_nm, Option.bind_some, List.set_cons_zero, List.set_cons_succ]
    simp [hs]
    unfold inB at go
    have i1 : ((t : Int) ≤ (r : Int)) = (t ≤ r) := propext (by omega)
    have i3 : ((l : Int) ≤ (c : Int)) = (l ≤ c) := propext (by omega)
    have i2 : ((r : Int) < (t : Int) + (z : Int)) = (r + 1 ≤ t + z) := propext (by omega)
    have i4 : ((c : Int) < (l : Int) + (z : Int)) = (c + 1 ≤ l + z) := propext (by omega)
    simp only [i2, i4]
    by_cases h1 : t ≤ r
    · by_cases h2 : r + 1 ≤ t + z
      · by_cases h3 : l ≤ c
        · simp only [h1, h2, h3, if_true]
          have b4 : decide (c + 1 ≤ l + z) = (c + 1).ble (l + z) := Bool.eq_iff_iff.mpr (by rw [decide_eq_true_iff, Nat.ble_eq])
          refine go _ ?_
          dsimp only
          rw [b4, show t.ble r = true from Nat.ble_eq.mpr h1, show (r + 1).ble (t + z) = true from Nat.ble_eq.mpr h2, show l.ble c = true from Nat.ble_eq.mpr h3]
          rfl
        · simp only [h1, h2, h3, if_true, if_false]
          exact go false (by simp [h1, h2, h3])
      · simp only [h1, h2, if_true, if_false]
        exact go false (by simp [h1]; omega)
    · simp only [h1, if_false]
      exact go false (by simp [h1])
theorem lost_ok {s b w : Nat} {cs : List (Nat × Nat)} (D : Fd s b w cs) (t l z : Nat) : g_lost_counts [.int (s : Int), .int (t : Int), .int (l : Int), .int (z : Int)] = .ok (.lst (natsT (tots b (hit cs t l z) w))) [] := by
  refine wpg_fin ?_
  unfold g_lost_counts
  rw [wpg_run]
  unfold c_lost_counts startT
  have hb := D.hb
  have h0 := D.h0
  have hw := D.hw
  have hcl := D.hl
  simp [D.fc, D.bc, D.ec, mul_rep hb, oLst, imm, rgB1 (n := w) (by omega)]
  refine wp_loopR 0 1 (fun i τ => ∃ o6 o7 o8 o9, τ = [some (.int (s : Int)), some (.int (t : Int)), some (.int (l : Int)), some (.int (z : Int)), some (.lst (cs.map cellT)), some (.lst (natsT (tots b (hit cs t l z) i))), o6, o7, o8, o9]) ⟨none, none, none, none, rfl⟩ ?_ ?_
  · rintro i τ hi ⟨o6, o7, o8, o9, rfl⟩
    unfold c_lost_counts_l1 k_ELEMENT_BITS
    have e1 : 5 * (i : Int) = ((5 * i : Nat) : Int) := by omega
    have e2 : 5 * ((i : Int) + 1) = ((5 * i + 5 : Nat) : Int) := by omega
    simp [oPt, slB, e1, e2, -Int.natCast_add, -Int.natCast_mul]
    rw [cut_mid (by rw [List.length_map]; omega) (by rw [List.length_map]; omega), Nat.add_sub_cancel_left, ← List.map_drop, ← List.map_take]
    rw [wp_lc]
    simp [itB]
    rw [← List.map_drop, ← List.map_take]
    refine lost_lc (xs := (cs.drop (5 * i)).take 5) (acc := []) (by rw [List.length_nil, List.length_take]; omega) fun p8 p9 => ?_
    have ea : gAny [.lst ([] ++ ((cs.drop (5 * i)).take 5).map fun p => T.bl (inB t l z p))] = some (.bl (hit cs t l z i)) := any_map (inB t l z) _
    have hlt : i % b < (tots b (hit cs t l z) i).length := by rw [tots_len]; exact Nat.mod_lt _ h0
    have em : (i : Int) % (b : Int) = ((i % b : Nat) : Int) := by omega
    simp at ea
    simp only [keepS]
    have hn : tots b (hit cs t l z) (i + 1) = bif hit cs t l z i then (tots b (hit cs t l z) i).set (i % b) (cf (tots b (hit cs t l z) i) (i % b) + 1) else tots b (hit cs t l z) i := rfl
    have hbi : (0 : Int) < (b : Int) := by omega
    cases hh : hit cs t l z i with
    | true =>
      rw [hh, cond_true] at hn
      rw [hh] at ea
      simp [ea, oB, gLen, tots_len, em, h0, -Int.natCast_emod]
      rw [wp_augB (xs := natsT (tots b (hit cs t l z) i)) rfl (nats_get hlt) rfl]
      have e3 : ((cf (tots b (hit cs t l z) i) (i % b) : Nat) : Int) + 1 = ((cf (tots b (hit cs t l z) i) (i % b) + 1 : Nat) : Int) := by omega
      simp [e3, imm, nats_setZ (i := i % b) (x := cf (tots b (hit cs t l z) i) (i % b) + 1) rfl hlt, -Int.natCast_add, -Int.natCast_emod]
      rw [hn]
    | false =>
      rw [hh, cond_false] at hn
      rw [hh] at ea
      simp [ea, oB]
      rw [hn]
  · rintro τ ⟨o6, o7, o8, o9, rfl⟩
    simp
end K79


namespace K79
open PySem L2 TL
def goodL (x caps : List Nat) : Bool := (List.range x.length).all fun k => Nat.ble (cf x k) (cf caps k)
def okA (cs : List (Nat × Nat)) (b w z m : Nat) (caps : List Nat) : Bool := (List.range m).all fun t => (List.range m).all fun l => goodL (tots b (hit cs (1 + t) (1 + l) z) w) caps
theorem all_false {f : Nat → Bool} {n i : Nat} (hi : i < n) (h : f i = false) : (List.range n).all f = false := by
  rw [Bool.eq_false_iff]
  intro z
  have := List.all_eq_true.mp z i (List.mem_range.mpr hi)
  rw [h] at this
  cases this
theorem all_true {f : Nat → Bool} {n : Nat} (h : ∀ i, i < n → f i = true) : (List.range n).all f = true := List.all_eq_true.mpr fun i hi => h i (List.mem_range.mp hi)
theorem rgB2 {i j : Int} {n : Nat} (h1 : (-(2 ^ 62) : Int) ≤ i ∧ i < 2 ^ 62) (h2 : (-(2 ^ 62) : Int) ≤ j ∧ j < 2 ^ 62) (e : (j - i).toNat = n) : rgB [.int i, .int j] = some (rngT i 1 n) := by
  have q : rgB [.int i, .int j] = if (bnd62 i && bnd62 j) = true then some (rngT i 1 (j - i).toNat) else none := rfl
  rw [q, if_pos (by unfold bnd62; simp; omega), e]
theorem with_ok {s b w : Nat} {cs : List (Nat × Nat)} (D : Fd s b w cs) {g : T} {caps : List Nat} (hc : g_capacity [.int (s : Int), g] = .ok (.lst (natsT caps)) []) (hcl : caps.length = b) (hs : s ≤ 1000) (z : Nat) (hz : z ≤ s) : g_withstands [.int (s : Int), g, .int (z : Int)] = .ok (.bl (okA cs b w z (s - z - 1) caps)) [] := by
  refine wpg_fin ?_
  unfold g_withstands
  rw [wpg_run]
  unfold c_withstands startT okA
  simp [hc]
  rw [rgB2 (n := s - z - 1) (by omega) (by omega) (by omega)]
  simp
  refine wp_loopR 1 1 (fun i τ => (∀ t, t < i → ((List.range (s - z - 1)).all fun l => goodL (tots b (hit cs (1 + t) (1 + l) z) w) caps) = true) ∧ ∃ o4 o5 o6 o7 o8, τ = [some (.int (s : Int)), some g, some (.int (z : Int)), some (.lst (natsT caps)), o4, o5, o6, o7, o8]) ⟨fun t h => absurd h (Nat.not_lt_zero _), none, none, none, none, none, rfl⟩ ?_ ?_
  · rintro t τ ht ⟨hall, o4, o5, o6, o7, o8, rfl⟩
    unfold c_withstands_l2
    have e1 : 1 + (t : Int) = ((1 + t : Nat) : Int) := by omega
    simp
    rw [rgB2 (n := s - z - 1) (by omega) (by omega) (by omega), e1]
    simp [-Int.natCast_add]
    refine wp_loopR 1 1 (fun i τ => (∀ l, l < i → goodL (tots b (hit cs (1 + t) (1 + l) z) w) caps = true) ∧ ∃ o5 o6 o7 o8, τ = [some (.int (s : Int)), some g, some (.int (z : Int)), some (.lst (natsT caps)), some (.int ((1 + t : Nat) : Int)), o5, o6, o7, o8]) ⟨fun t h => absurd h (Nat.not_lt_zero _), _, _, _, _, rfl⟩ ?_ ?_
    · rintro l τ hl ⟨hrow, o5, o6, o7, o8, rfl⟩
      unfold c_withstands_l1
      have e2 : 1 + (l : Int) = ((1 + l : Nat) : Int) := by omega
      simp [e2, -Int.natCast_add]
      rw [lost_ok D (1 + t) (1 + l) z]
      simp [-Int.natCast_add]
      have hn : (tots b (hit cs (1 + t) (1 + l) z) w).length = b := tots_len _ _ _
      rw [wp_lc]
      simp [zipB, -Int.natCast_add]
      rw [zip_range (by rw [hn, hcl]), hn]
      refine wp_lcF _ (fun i acc τ => i ≤ b ∧ acc = ((List.range i).map fun k => T.bl (Nat.ble (cf (tots b (hit cs (1 + t) (1 + l) z) w) k) (cf caps k))) ∧ ∃ o7 o8, τ = [some (.int (s : Int)), some g, some (.int (z : Int)), some (.lst (natsT caps)), some (.int ((1 + t : Nat) : Int)), some (.int ((1 + l : Nat) : Int)), some (.lst (natsT (tots b (hit cs (1 + t) (1 + l) z) w))), o7, o8]) rfl ⟨Nat.zero_le _, rfl, _, _, rfl⟩ ?_ ?_
      · rintro i acc τ hi ⟨_, rfl, o7, o8, rfl⟩
        have hb := D.hb
        have b4 : decide (cf (tots b (hit cs (1 + t) (1 + l) z) w) i ≤ cf caps i) = Nat.ble (cf (tots b (hit cs (1 + t) (1 + l) z) w) i) (cf caps i) := Bool.eq_iff_iff.mpr (by rw [decide_eq_true_iff, Nat.ble_eq])
        simp [-Int.natCast_add, List.range_succ, b4]
        omega
      · rintro acc τ ⟨_, rfl, o7, o8, rfl⟩
        have ea : gAll [.lst ((List.range b).map fun k => T.bl (Nat.ble (cf (tots b (hit cs (1 + t) (1 + l) z) w) k) (cf caps k)))] = some (.bl (goodL (tots b (hit cs (1 + t) (1 + l) z) w) caps)) := by
          have := bl_all (fun k => Nat.ble (cf (tots b (hit cs (1 + t) (1 + l) z) w) k) (cf caps k)) b
          unfold goodL
          rw [hn]
          exact this
        simp only [keepS]
        simp [ea, oB]
        cases hg : goodL (tots b (hit cs (1 + t) (1 + l) z) w) caps with
        | true =>
          simp
          refine fun l' hl' => ?_
          by_cases e : l' = l
          · rw [e]; exact hg
          · exact hrow l' (by omega)
        | false =>
          simp
          exact ⟨t, ht, l, hl, hg⟩
    · rintro τ ⟨hrow, o5, o6, o7, o8, rfl⟩
      refine ⟨fun t' h' => ?_, _, _, _, _, _, rfl⟩
      by_cases e : t' = t
      · rw [e]; exact all_true hrow
      · exact hall t' (by omega)
  · rintro τ ⟨hall, o4, o5, o6, o7, o8, rfl⟩
    simp
    exact fun t ht l hl => List.all_eq_true.mp (hall t ht) l (List.mem_range.mpr hl)
end K79


namespace K79
open PySem L2 TL
def putD (q : Nat) (D : List Nat) : List Nat := if D.elem q then D else D ++ [q]
def keyI (q : Nat) : Key := .inl (q : Int)
theorem keyI_inj {a b : Nat} (h : keyI a = keyI b) : a = b := by
  have := Sum.inl.inj h
  omega
theorem putD_nodup {q : Nat} {D : List Nat} (h : D.Nodup) : (putD q D).Nodup := by
  unfold putD
  split
  · exact h
  · rename_i n
    rw [List.nodup_append]
    refine ⟨h, by simp, fun a ha b hb e => ?_⟩
    rw [List.mem_singleton] at hb
    subst hb
    subst e
    exact n (by rw [List.elem_eq_mem]; simpa using ha)
theorem putD_len (q : Nat) (D : List Nat) : (putD q D).length ≤ D.length + 1 := by
  unfold putD
  split
  · omega
  · simp
theorem keys_nodup : ∀ {D : List Nat}, D.Nodup → (D.map keyI).Nodup
  | [], _ => by simp
  | d :: D, h => by
    rw [List.nodup_cons] at h
    rw [List.map_cons, List.nodup_cons]
    refine ⟨fun z => ?_, keys_nodup h.2⟩
    obtain ⟨a, ha, e⟩ := List.mem_map.mp z
    rw [keyI_inj e] at ha
    exact h.1 ha
theorem putKs_D (q : Nat) : ∀ D : List Nat, putKs (keyI q) (.bl true) (D.map keyI) (D.map fun _ => T.bl true) = ((putD q D).map keyI, (putD q D).map fun _ => T.bl true)
  | [] => rfl
  | d :: D => by
    rw [List.map_cons, List.map_cons]
    unfold putKs
    have ih := putKs_D q D
    by_cases h : d = q
    · subst h
      rw [if_pos rfl]
      unfold putD
      rw [if_pos (by simp)]
      rfl
    · rw [if_neg (fun z => h (keyI_inj z)), ih]
      dsimp only
      unfold putD
      by_cases m : D.elem q = true
      · have m' : List.elem q (d :: D) = true := by
          rw [List.elem_eq_mem] at m ⊢
          exact decide_eq_true (List.mem_cons_of_mem _ (of_decide_eq_true m))
        rw [if_pos m, if_pos m']
        rfl
      · have h' : ¬ q = d := fun z => h z.symm
        have m' : ¬ List.elem q (d :: D) = true := by
          rw [List.elem_eq_mem] at m ⊢
          simp at m ⊢
          exact ⟨h', m⟩
        rw [if_neg m, if_neg m']
        rfl
def colsD (n z r c : Nat) (D : List Nat) : Nat → List Nat
  | 0 => D
  | j + 1 => putD (((r * n) + (c + j)) / 5) (colsD n z r c D j)
def rowsD (n z t l : Nat) : Nat → List Nat
  | 0 => []
  | i + 1 => colsD n z (t + i) l (rowsD n z t l i) z
def stepB (b w : Nat) (bad : List Nat) (e : Nat) : List Nat := bif Nat.ble (e + 1) w then bad.set (e % b) (cf bad (e % b) + 1) else bad
def badB (b w : Nat) (D : List Nat) : List Nat := D.foldl (stepB b w) (List.replicate b 0)
def goodB (caps bad : List Nat) (b : Nat) : Bool := (List.range b).all fun k => Nat.ble (cf bad k) (cf caps k)
def okB (n b w z m : Nat) (caps : List Nat) : Bool := (List.range m).all fun t => (List.range m).all fun l => goodB caps (badB b w (rowsD n z t l z)) b
structure Ld (s b w g : Nat) (lens caps : List Nat) : Prop where
  lg : g__law_lengths [.int (s : Int)] = .ok (.lst (natsT lens)) []
  hl : lens.length = b
  sm : gSum [.lst (natsT lens)] = some (.int (w : Int))
  ad : ∀ k, k < b → g__law_added [.int (cf lens k : Nat), .int (g : Int)] = .ok (.int (cf caps k : Nat)) []
  h0 : 0 < b
  hb : b ≤ 1000
  hs : 2 ≤ s ∧ s ≤ 100
theorem r_putD {q : Nat} {D : List Nat} (h : D.Nodup) (hl : D.length ≤ 1000000) : gSet (.int (q : Int)) (.bl true) (.dct (D.map keyI) (D.map fun _ => T.bl true)) = some (.non, .dct ((putD q D).map keyI) ((putD q D).map fun _ => T.bl true)) := by
  have e : gSet (.int (q : Int)) (.bl true) (.dct (D.map keyI) (D.map fun _ => T.bl true)) = if (small (D.map keyI).length && decide (D.map keyI).Nodup) = true then let r := putKs (keyI q) (.bl true) (D.map keyI) (D.map fun _ => T.bl true); some (.non, .dct r.1 r.2) else none := rfl
  rw [e, if_pos (by rw [List.length_map]; simp [hl, keys_nodup h]), putKs_D]
def dctT (D : List Nat) : T := .dct (D.map keyI) (D.map fun _ => T.bl true)
@[irreducible] def colsM : M Fl := c__law_stands_l2
theorem colsM_eq : c__law_stands_l2 = colsM := by unfold colsM; rfl
theorem cols_ok {E : XP} {P : Fl → Sl → Prop} {s g z b n t l i w : Nat} {lens D0 : List Nat} {o10 o11 o12 o13 : Option T} (hD : D0.Nodup) (hl : D0.length ≤ i * z) (hi : i < z) (hz : z ≤ 100) (ht : l + z ≤ 1000) (hn : n ≤ 100) (htn : t + z ≤ 1000)
    (q : ∀ o10, (colsD n z (t + i) l D0 z).Nodup → (colsD n z (t + i) l D0 z).length ≤ (i + 1) * z → P .nx [some (.int (s : Int)), some (.int (g : Int)), some (.int (z : Int)), some (.lst (natsT lens)), some (.int (b : Int)), some (.int (n : Int)), some (.int (t : Int)), some (.int (l : Int)), some (dctT (colsD n z (t + i) l D0 z)), some (.int ((t + i : Nat) : Int)), o10, o11, o12, o13]) :
    (@wp _ colsM [some (.int (s : Int)), some (.int (g : Int)), some (.int (z : Int)), some (.lst (natsT lens)), some (.int (b : Int)), some (.int (n : Int)), some (.int (t : Int)), some (.int (l : Int)), some (dctT D0), some (.int ((t + i : Nat) : Int)), o10, o11, o12, o13] ⟨P, E⟩) := by
  rw [← colsM_eq]
  unfold c__law_stands_l2
  simp [-Int.natCast_add]
  rw [rgB2 (n := z) (by omega) (by omega) (by omega)]
  simp [-Int.natCast_add]
  have hb : i * z ≤ 100 * 100 := Nat.mul_le_mul (by omega) hz
  refine wp_loopR _ 1 (fun j τ => (colsD n z (t + i) l D0 j).Nodup ∧ (colsD n z (t + i) l D0 j).length ≤ i * z + j ∧ ∃ o10, τ = [some (.int (s : Int)), some (.int (g : Int)), some (.int (z : Int)), some (.lst (natsT lens)), some (.int (b : Int)), some (.int (n : Int)), some (.int (t : Int)), some (.int (l : Int)), some (dctT (colsD n z (t + i) l D0 j)), some (.int ((t + i : Nat) : Int)), o10, o11, o12, o13]) ⟨hD, hl, _, rfl⟩ ?_ ?_
  · rintro j τ hj ⟨nd, len, o10, rfl⟩
    unfold c__law_stands_l1
    have e1 : (((t + i : Nat) : Int) * (n : Int) + ((l : Int) + (j : Int))) / 5 = ((((t + i) * n + (l + j)) / 5 : Nat) : Int) := by simp [Int.natCast_ediv]
    have hn' : n < 18446744073709551616 := by omega
    have hw : wide (((t + i : Nat) : Int) * (n : Int) + ((l : Int) + (j : Int))) = true := by
      have h1 : (t + i) * n ≤ 1000 * 100 := Nat.mul_le_mul (by omega) hn
      refine wide_small ?_
      rw [show ((t + i : Nat) : Int) * (n : Int) + ((l : Int) + (j : Int)) = (((t + i) * n + (l + j) : Nat) : Int) by simp, Int.natAbs_natCast]
      omega
    simp [wp_seti, e1, hn', hw, dctT, r_putD nd (by omega), -Int.natCast_add, -Int.natCast_mul, -Int.natCast_ediv]
    exact ⟨putD_nodup nd, by have := putD_len (((t + i) * n + (l + j)) / 5) (colsD n z (t + i) l D0 j); show (putD _ _).length ≤ _; omega, rfl, rfl⟩
  · rintro τ ⟨nd, len, o10, rfl⟩
    exact q _ nd (by rw [Nat.succ_mul]; exact len)
end K79


namespace K79
open PySem L2 TL
theorem step_len {b w e : Nat} {bad : List Nat} (h : bad.length = b) : (stepB b w bad e).length = b := by
  unfold stepB
  cases Nat.ble (e + 1) w with
  | true => rw [cond_true, List.length_set]; exact h
  | false => exact h
theorem step_le {b w e c : Nat} {bad : List Nat} (h : ∀ k, cf bad k ≤ c) : ∀ k, cf (stepB b w bad e) k ≤ c + 1 := fun k => by
  unfold stepB
  cases Nat.ble (e + 1) w with
  | true =>
    rw [cond_true]
    by_cases hb : e % b < bad.length
    · rw [cf_set hb]
      split
      · have := h (e % b); omega
      · have := h k; omega
    · rw [List.set_eq_of_length_le (by omega)]
      have := h k; omega
  | false => rw [cond_false]; have := h k; omega
theorem keys_tr (D : List Nat) : (D.map keyI).map keyTr = natsT D := by
  rw [List.map_map]
  rfl
theorem bad_ok {E : XP} {P : Fl → Sl → Prop} {b w : Nat} {lens D0 : List Nat} {o0 o1 o2 o5 o6 o7 o8 o9 o10 o12 o13 : Option T} (h0 : 0 < b) (sm : gSum [.lst (natsT lens)] = some (.int (w : Int))) (hD : D0.length ≤ 100000)
    (q : ∀ o12, (badB b w D0).length = b → P .nx [o0, o1, o2, some (.lst (natsT lens)), some (.int (b : Int)), o5, o6, o7, o8, o9, o10, some (.lst (natsT (badB b w D0))), o12, o13]) :
    (@wp _ (cForGo (.nm 12) c__law_stands_l3 (natsT D0)) [o0, o1, o2, some (.lst (natsT lens)), some (.int (b : Int)), o5, o6, o7, o8, o9, o10, some (.lst (natsT (List.replicate b 0))), o12, o13] ⟨P, E⟩) := by
  refine wp_loop (fun us τ => ∃ D bad c, us = natsT D ∧ bad.length = b ∧ (∀ k, cf bad k ≤ c) ∧ c + D.length ≤ 100000 ∧ D.foldl (stepB b w) bad = badB b w D0 ∧ ∃ o12, τ = [o0, o1, o2, some (.lst (natsT lens)), some (.int (b : Int)), o5, o6, o7, o8, o9, o10, some (.lst (natsT bad)), o12, o13]) ⟨D0, _, 0, rfl, List.length_replicate, fun k => by rw [cf_rep]; exact Nat.le_refl _, by omega, rfl, _, rfl⟩ ?_ ?_
  · rintro t us τ ⟨D, bad, c, e, hl, hc, hcl, hf, o12, rfl⟩
    cases D with
    | nil => cases e
    | cons d D =>
      rw [nats_cons] at e
      injection e with e1 e2
      subst e1
      subst e2
      unfold c__law_stands_l3
      have em : (d : Int) % (b : Int) = ((d % b : Nat) : Int) := by omega
      have hlt : d % b < bad.length := by rw [hl]; exact Nat.mod_lt _ h0
      rw [List.foldl_cons] at hf
      rw [List.length_cons] at hcl
      have fin : ∀ bad', bad' = stepB b w bad d → ∃ D', natsT D = natsT D' ∧ ∃ x : List Nat, x.length = b ∧ ∃ c', (∀ k, cf x k ≤ c') ∧ c' + D'.length ≤ 100000 ∧ D'.foldl (stepB b w) x = badB b w D0 ∧ natsT bad' = natsT x := fun bad' hb => by
        subst hb
        exact ⟨D, rfl, _, step_len hl, c + 1, step_le hc, by omega, hf, rfl⟩
      simp only [wpo_some, pa_nm, List.set_cons_zero, List.set_cons_succ, wp_cIfS, wp_B, wp_op2, wp_var, List.getElem?_cons_zero, List.getElem?_cons_succ, Option.getD_some, wp_opL, wp_cons, wp_nil, sm]
      by_cases hd : d < w
      · have hs : stepB b w bad d = bad.set (d % b) (cf bad (d % b) + 1) := by
          unfold stepB
          rw [show Nat.ble (d + 1) w = true from Nat.ble_eq.mpr hd, cond_true]
        have e3 : ((cf bad (d % b) : Nat) : Int) + 1 = ((cf bad (d % b) + 1 : Nat) : Int) := by omega
        simp [oB, hd, wp_seti, gInt, em, h0, nats_atZ (i := d % b) rfl hlt, e3, nats_setZ (i := d % b) (x := cf bad (d % b) + 1) rfl hlt, -Int.natCast_add, -Int.natCast_emod]
        exact fin _ hs.symm
      · have hs : stepB b w bad d = bad := by
          unfold stepB
          rw [show Nat.ble (d + 1) w = false from Bool.eq_false_iff.mpr fun z => hd (Nat.ble_eq.mp z), cond_false]
        simp [oB, hd]
        exact fin _ hs.symm
  · rintro τ ⟨D, bad, c, e, hl, hc, hcl, hf, o12, rfl⟩
    cases D with
    | cons d D => cases e
    | nil =>
      rw [List.foldl_nil] at hf
      subst hf
      exact q _ hl
theorem stand_ok {s b w g : Nat} {lens caps : List Nat} (L : Ld s b w g lens caps) (z : Nat) (hz : z ≤ s - 2) : g__law_stands [.int (s : Int), .int (g : Int), .int (z : Int)] = .ok (.bl (okB (s - 2) b w z (s - 2 - z + 1) caps)) [] := by
  obtain ⟨hs1, hs2⟩ := L.hs
  refine wpg_fin ?_
  unfold g__law_stands
  rw [wpg_run]
  unfold c__law_stands startT okB
  have en : (s : Int) - 2 = ((s - 2 : Nat) : Int) := by omega
  have em : ((s - 2 : Nat) : Int) - (z : Int) + 1 = ((s - 2 - z + 1 : Nat) : Int) := by omega
  generalize hN : s - 2 = n at *
  simp only [wp_seq, wp_set, wp_call, wp_cons, wp_nil, wp_var]
  simp [L.lg, gLen, L.hl, en, em, rgB1 (n := n - z + 1) (by omega), -Int.natCast_add]
  refine wp_loopR 0 1 (fun i τ => (∀ t, t < i → ((List.range (n - z + 1)).all fun l => goodB caps (badB b w (rowsD n z t l z)) b) = true) ∧ ∃ o6 o7 o8 o9 o10 o11 o12 o13, τ = [some (.int (s : Int)), some (.int (g : Int)), some (.int (z : Int)), some (.lst (natsT lens)), some (.int (b : Int)), some (.int (n : Int)), o6, o7, o8, o9, o10, o11, o12, o13]) ⟨fun t h => absurd h (Nat.not_lt_zero _), none, none, none, none, none, none, none, none, rfl⟩ ?_ ?_
  · rintro t τ ht ⟨hall, o6, o7, o8, o9, o10, o11, o12, o13, rfl⟩
    unfold c__law_stands_l5
    simp [em, rgB1 (n := n - z + 1) (by omega), -Int.natCast_add]
    refine wp_loopR 0 1 (fun i τ => (∀ l, l < i → goodB caps (badB b w (rowsD n z t l z)) b = true) ∧ ∃ o7 o8 o9 o10 o11 o12 o13, τ = [some (.int (s : Int)), some (.int (g : Int)), some (.int (z : Int)), some (.lst (natsT lens)), some (.int (b : Int)), some (.int (n : Int)), some (.int (t : Int)), o7, o8, o9, o10, o11, o12, o13]) ⟨fun t h => absurd h (Nat.not_lt_zero _), _, _, _, _, _, _, _, rfl⟩ ?_ ?_
    · rintro l τ hl ⟨hrow, o7, o8, o9, o10, o11, o12, o13, rfl⟩
      unfold c__law_stands_l4
      simp [-Int.natCast_add]
      rw [rgB2 (n := z) (by omega) (by omega) (by omega)]
      simp [-Int.natCast_add]
      refine wp_loopR _ 1 (fun i τ => (rowsD n z t l i).Nodup ∧ (rowsD n z t l i).length ≤ i * z ∧ ∃ o9 o10, τ = [some (.int (s : Int)), some (.int (g : Int)), some (.int (z : Int)), some (.lst (natsT lens)), some (.int (b : Int)), some (.int (n : Int)), some (.int (t : Int)), some (.int (l : Int)), some (dctT (rowsD n z t l i)), o9, o10, o11, o12, o13]) ⟨List.nodup_nil, by simp [rowsD], _, _, rfl⟩ ?_ ?_
      · rintro i τ hi ⟨nd, len, o9, o10, rfl⟩
        have e1 : (t : Int) + (i : Int) = ((t + i : Nat) : Int) := by omega
        simp [e1, -Int.natCast_add]
        have z1 : z ≤ 100 := by omega
        have z2 : l + z ≤ 1000 := by omega
        have z3 : n ≤ 100 := by omega
        have z4 : t + z ≤ 1000 := by omega
        rw [colsM_eq]
        exact cols_ok (w := 0) nd len hi z1 z2 z3 z4 fun o10' nd' len' => ⟨nd', len', _, _, rfl⟩
      · rintro τ ⟨nd, len, o9, o10, rfl⟩
        have hb := L.hb
        have hzz : z * z ≤ 100 * 100 := Nat.mul_le_mul (by omega) (by omega)
        simp [mul_rep hb, oLst, imm, dctT, -Int.natCast_add]
        have ek : ∀ D : List Nat, D.map (keyTr ∘ keyI) = natsT D := fun D => rfl
        rw [ek]
        refine bad_ok L.h0 L.sm (by omega) fun o12 hbl => ?_
        simp
        rw [wp_lc]
        simp [rgB1 (n := b) (by omega)]
        refine wp_lcF _ (fun i acc τ => i ≤ b ∧ acc.length ≤ i ∧ (acc.length = 0 ↔ ((List.range i).all fun k => Nat.ble (cf (badB b w (rowsD n z t l z)) k) (cf caps k)) = true) ∧ ∃ o12 o13, τ = [some (.int (s : Int)), some (.int (g : Int)), some (.int (z : Int)), some (.lst (natsT lens)), some (.int (b : Int)), some (.int (n : Int)), some (.int (t : Int)), some (.int (l : Int)), some (dctT (rowsD n z t l z)), o9, o10, some (.lst (natsT (badB b w (rowsD n z t l z)))), o12, o13]) rfl ⟨Nat.zero_le _, Nat.zero_le _, by simp, _, _, rfl⟩ ?_ ?_
        · rintro i acc τ hi ⟨_, hal, hiff, o12, o13, rfl⟩
          have hli : i < lens.length := by rw [L.hl]; exact hi
          have hbi : i < (badB b w (rowsD n z t l z)).length := by rw [hbl]; exact hi
          simp [nats_at hli, nats_at hbi, L.ad i hi]
          by_cases hx : cf caps i < cf (badB b w (rowsD n z t l z)) i
          · rw [if_pos hx]
            exact ⟨by omega, hi, hal, i, by omega, hx⟩
          · rw [if_neg hx]
            refine ⟨hi, by omega, ?_⟩
            have hiff' : acc = [] ↔ ∀ x, x < i → cf (badB b w (rowsD n z t l z)) x ≤ cf caps x := by simpa using hiff
            rw [hiff']
            refine ⟨fun h x hx' => ?_, fun h x hx' => h x (by omega)⟩
            by_cases e : x = i
            · rw [e]; omega
            · exact h x (by omega)
        · rintro acc τ ⟨_, hal, hiff, o12, o13, rfl⟩
          simp only [keepS]
          have hiff' : acc.length = 0 ↔ goodB caps (badB b w (rowsD n z t l z)) b = true := hiff
          cases hg : goodB caps (badB b w (rowsD n z t l z)) b with
          | true =>
            have e0 := hiff'.mpr hg
            simp [gLen, oB, e0]
            refine fun l' hl' => ?_
            by_cases e : l' = l
            · rw [e]; exact hg
            · exact hrow l' (by omega)
          | false =>
            have e0 : 0 < acc.length := by
              apply Nat.pos_of_ne_zero
              intro z0
              rw [hiff'.mp z0] at hg
              cases hg
            simp [gLen, oB, e0]
            exact ⟨t, ht, l, hl, hg⟩
    · rintro τ ⟨hrow, o7, o8, o9, o10, o11, o12, o13, rfl⟩
      refine ⟨fun t' h' => ?_, _, _, _, _, _, _, _, _, rfl⟩
      by_cases e : t' = t
      · rw [e]; exact all_true hrow
      · exact hall t' (by omega)
  · rintro τ ⟨hall, o6, o7, o8, o9, o10, o11, o12, o13, rfl⟩
    simp
    exact fun t ht l hl => List.all_eq_true.mp (hall t ht) l (List.mem_range.mpr hl)
end K79


namespace K79
open PySem L2 TL
theorem str_ok {s b w g t : Nat} {cs : List (Nat × Nat)} {caps : List Nat} (D : Fd s b w cs) (hc : g_capacity [.int (s : Int), .int (g : Int)] = .ok (.lst (natsT caps)) []) (hcl : caps.length = b) (hs : s ≤ 100) (ht : t < s - 2)
    (ha : ((List.range t).all fun i => okA cs b w (i + 1) (s - (i + 1) - 1) caps) = true) (hf : okA cs b w (t + 1) (s - (t + 1) - 1) caps = false) : g_blot_strength [.int (s : Int), .int (g : Int)] = .ok (.int (t : Int)) [] := by
  refine wpg_fin ?_
  unfold g_blot_strength
  rw [wpg_run]
  unfold c_blot_strength startT
  simp
  refine wp_whileG (fun m τ => ∃ i : Nat, i ≤ t ∧ m = t - i ∧ τ = [some (.int (s : Int)), some (.int (g : Int)), some (.int (i : Int))]) ?_ _ t _ (by unfold fuel; omega) ⟨0, Nat.zero_le _, rfl, rfl⟩
  rintro m τ ⟨i, hi, rfl, rfl⟩
  have e1 : (i : Int) + 1 = ((i + 1 : Nat) : Int) := by omega
  have e2 : ((i + 1 : Nat) : Int) ≤ (s : Int) - 2 := by omega
  have hw := with_ok D hc hcl (by omega) (i + 1) (by omega)
  simp only [wp_tAnd, wp_B, wp_op2, wp_var, wp_lit, wp_call, wp_cons, wp_nil, List.getElem?_cons_zero, List.getElem?_cons_succ, Option.getD_some, wpo_some]
  by_cases h : i = t
  · subst h
    rw [hf] at hw
    simp [e1, e2, hw, oB, -Int.natCast_add]
  · have hok := List.all_eq_true.mp ha i (List.mem_range.mpr (by omega))
    rw [hok] at hw
    unfold c_blot_strength_l1
    simp [e1, e2, hw, oB, -Int.natCast_add]
    exact ⟨t - (i + 1), by omega, i + 1, by omega, rfl, rfl⟩
end K79


namespace K79
open PySem L2 TL
def cellsN (n : Nat) : List (Nat × Nat) := (List.range n).flatMap fun r => (List.range n).map fun c => (1 + r, 1 + c)
theorem fd11 : Fd 11 1 16 (cellsN 9) := ⟨by kernel_rfl, by kernel_rfl, by kernel_rfl, by decide, by decide, by decide, by decide⟩
theorem ad11_1 : ∀ k, k < 1 → g__law_added [.int (cf [16] k : Nat), .int ((1 : Nat) : Int)] = .ok (.int (cf [4] k : Nat)) [] := by
  intro k hk
  have h : k = 0 := by omega
  subst h
  kernel_rfl
theorem ld11_1 : Ld 11 1 16 1 [16] [4] := ⟨by kernel_rfl, by decide, by kernel_rfl, ad11_1, by decide, by decide, by decide⟩
theorem cp11_1 : g_capacity [.int ((11 : Nat) : Int), .int ((1 : Nat) : Int)] = .ok (.lst (natsT [4])) [] := by kernel_rfl
theorem a11_1 : ((List.range 2).all fun i => okA (cellsN 9) 1 16 (i + 1) (11 - (i + 1) - 1) [4]) = true := by kernel_rfl
theorem f11_1 : okA (cellsN 9) 1 16 (2 + 1) (11 - (2 + 1) - 1) [4] = false := by kernel_rfl
theorem b11_1 : okB (11 - 2) 1 16 2 (11 - 2 - 2 + 1) [4] = true := by kernel_rfl
theorem c11_1 : okB (11 - 2) 1 16 (2 + 1) (11 - 2 - (2 + 1) + 1) [4] = false := by kernel_rfl
theorem ad11_2 : ∀ k, k < 1 → g__law_added [.int (cf [16] k : Nat), .int ((2 : Nat) : Int)] = .ok (.int (cf [8] k : Nat)) [] := by
  intro k hk
  have h : k = 0 := by omega
  subst h
  kernel_rfl
theorem ld11_2 : Ld 11 1 16 2 [16] [8] := ⟨by kernel_rfl, by decide, by kernel_rfl, ad11_2, by decide, by decide, by decide⟩
theorem cp11_2 : g_capacity [.int ((11 : Nat) : Int), .int ((2 : Nat) : Int)] = .ok (.lst (natsT [8])) [] := by kernel_rfl
theorem a11_2 : ((List.range 4).all fun i => okA (cellsN 9) 1 16 (i + 1) (11 - (i + 1) - 1) [8]) = true := by kernel_rfl
theorem f11_2 : okA (cellsN 9) 1 16 (4 + 1) (11 - (4 + 1) - 1) [8] = false := by kernel_rfl
theorem b11_2 : okB (11 - 2) 1 16 4 (11 - 2 - 4 + 1) [8] = true := by kernel_rfl
theorem c11_2 : okB (11 - 2) 1 16 (4 + 1) (11 - 2 - (4 + 1) + 1) [8] = false := by kernel_rfl
theorem ad11_3 : ∀ k, k < 1 → g__law_added [.int (cf [16] k : Nat), .int ((3 : Nat) : Int)] = .ok (.int (cf [12] k : Nat)) [] := by
  intro k hk
  have h : k = 0 := by omega
  subst h
  kernel_rfl
theorem ld11_3 : Ld 11 1 16 3 [16] [12] := ⟨by kernel_rfl, by decide, by kernel_rfl, ad11_3, by decide, by decide, by decide⟩
theorem cp11_3 : g_capacity [.int ((11 : Nat) : Int), .int ((3 : Nat) : Int)] = .ok (.lst (natsT [12])) [] := by kernel_rfl
theorem a11_3 : ((List.range 6).all fun i => okA (cellsN 9) 1 16 (i + 1) (11 - (i + 1) - 1) [12]) = true := by kernel_rfl
theorem f11_3 : okA (cellsN 9) 1 16 (6 + 1) (11 - (6 + 1) - 1) [12] = false := by kernel_rfl
theorem b11_3 : okB (11 - 2) 1 16 6 (11 - 2 - 6 + 1) [12] = true := by kernel_rfl
theorem c11_3 : okB (11 - 2) 1 16 (6 + 1) (11 - 2 - (6 + 1) + 1) [12] = false := by kernel_rfl
theorem fd13 : Fd 13 1 24 (cellsN 11) := ⟨by kernel_rfl, by kernel_rfl, by kernel_rfl, by decide, by decide, by decide, by decide⟩
theorem ad13_1 : ∀ k, k < 1 → g__law_added [.int (cf [24] k : Nat), .int ((1 : Nat) : Int)] = .ok (.int (cf [6] k : Nat)) [] := by
  intro k hk
  have h : k = 0 := by omega
  subst h
  kernel_rfl
theorem ld13_1 : Ld 13 1 24 1 [24] [6] := ⟨by kernel_rfl, by decide, by kernel_rfl, ad13_1, by decide, by decide, by decide⟩
theorem cp13_1 : g_capacity [.int ((13 : Nat) : Int), .int ((1 : Nat) : Int)] = .ok (.lst (natsT [6])) [] := by kernel_rfl
theorem a13_1 : ((List.range 3).all fun i => okA (cellsN 11) 1 24 (i + 1) (13 - (i + 1) - 1) [6]) = true := by kernel_rfl
theorem f13_1 : okA (cellsN 11) 1 24 (3 + 1) (13 - (3 + 1) - 1) [6] = false := by kernel_rfl
theorem b13_1 : okB (13 - 2) 1 24 3 (13 - 2 - 3 + 1) [6] = true := by kernel_rfl
theorem c13_1 : okB (13 - 2) 1 24 (3 + 1) (13 - 2 - (3 + 1) + 1) [6] = false := by kernel_rfl
theorem ad13_2 : ∀ k, k < 1 → g__law_added [.int (cf [24] k : Nat), .int ((2 : Nat) : Int)] = .ok (.int (cf [12] k : Nat)) [] := by
  intro k hk
  have h : k = 0 := by omega
  subst h
  kernel_rfl
theorem ld13_2 : Ld 13 1 24 2 [24] [12] := ⟨by kernel_rfl, by decide, by kernel_rfl, ad13_2, by decide, by decide, by decide⟩
theorem cp13_2 : g_capacity [.int ((13 : Nat) : Int), .int ((2 : Nat) : Int)] = .ok (.lst (natsT [12])) [] := by kernel_rfl
theorem a13_2 : ((List.range 6).all fun i => okA (cellsN 11) 1 24 (i + 1) (13 - (i + 1) - 1) [12]) = true := by kernel_rfl
theorem f13_2 : okA (cellsN 11) 1 24 (6 + 1) (13 - (6 + 1) - 1) [12] = false := by kernel_rfl
theorem b13_2 : okB (13 - 2) 1 24 6 (13 - 2 - 6 + 1) [12] = true := by kernel_rfl
theorem c13_2 : okB (13 - 2) 1 24 (6 + 1) (13 - 2 - (6 + 1) + 1) [12] = false := by kernel_rfl
theorem ad13_3 : ∀ k, k < 1 → g__law_added [.int (cf [24] k : Nat), .int ((3 : Nat) : Int)] = .ok (.int (cf [18] k : Nat)) [] := by
  intro k hk
  have h : k = 0 := by omega
  subst h
  kernel_rfl
theorem ld13_3 : Ld 13 1 24 3 [24] [18] := ⟨by kernel_rfl, by decide, by kernel_rfl, ad13_3, by decide, by decide, by decide⟩
theorem cp13_3 : g_capacity [.int ((13 : Nat) : Int), .int ((3 : Nat) : Int)] = .ok (.lst (natsT [18])) [] := by kernel_rfl
theorem a13_3 : ((List.range 8).all fun i => okA (cellsN 11) 1 24 (i + 1) (13 - (i + 1) - 1) [18]) = true := by kernel_rfl
theorem f13_3 : okA (cellsN 11) 1 24 (8 + 1) (13 - (8 + 1) - 1) [18] = false := by kernel_rfl
theorem b13_3 : okB (13 - 2) 1 24 8 (13 - 2 - 8 + 1) [18] = true := by kernel_rfl
theorem c13_3 : okB (13 - 2) 1 24 (8 + 1) (13 - 2 - (8 + 1) + 1) [18] = false := by kernel_rfl
theorem fd17 : Fd 17 2 45 (cellsN 15) := ⟨by kernel_rfl, by kernel_rfl, by kernel_rfl, by decide, by decide, by decide, by decide⟩
theorem ad17_1 : ∀ k, k < 2 → g__law_added [.int (cf [23, 22] k : Nat), .int ((1 : Nat) : Int)] = .ok (.int (cf [4, 4] k : Nat)) [] := by
  intro k hk
  have h : k = 0 ∨ k = 1 := by omega
  rcases h with rfl | rfl
  · kernel_rfl
  · kernel_rfl
theorem ld17_1 : Ld 17 2 45 1 [23, 22] [4, 4] := ⟨by kernel_rfl, by decide, by kernel_rfl, ad17_1, by decide, by decide, by decide⟩
theorem cp17_1 : g_capacity [.int ((17 : Nat) : Int), .int ((1 : Nat) : Int)] = .ok (.lst (natsT [4, 4])) [] := by kernel_rfl
theorem a17_1 : ((List.range 4).all fun i => okA (cellsN 15) 2 45 (i + 1) (17 - (i + 1) - 1) [4, 4]) = true := by kernel_rfl
theorem f17_1 : okA (cellsN 15) 2 45 (4 + 1) (17 - (4 + 1) - 1) [4, 4] = false := by kernel_rfl
theorem b17_1 : okB (17 - 2) 2 45 4 (17 - 2 - 4 + 1) [4, 4] = true := by kernel_rfl
theorem c17_1 : okB (17 - 2) 2 45 (4 + 1) (17 - 2 - (4 + 1) + 1) [4, 4] = false := by kernel_rfl
theorem ad17_2 : ∀ k, k < 2 → g__law_added [.int (cf [23, 22] k : Nat), .int ((2 : Nat) : Int)] = .ok (.int (cf [10, 10] k : Nat)) [] := by
  intro k hk
  have h : k = 0 ∨ k = 1 := by omega
  rcases h with rfl | rfl
  · kernel_rfl
  · kernel_rfl
theorem ld17_2 : Ld 17 2 45 2 [23, 22] [10, 10] := ⟨by kernel_rfl, by decide, by kernel_rfl, ad17_2, by decide, by decide, by decide⟩
theorem cp17_2 : g_capacity [.int ((17 : Nat) : Int), .int ((2 : Nat) : Int)] = .ok (.lst (natsT [10, 10])) [] := by kernel_rfl
theorem a17_2 : ((List.range 6).all fun i => okA (cellsN 15) 2 45 (i + 1) (17 - (i + 1) - 1) [10, 10]) = true := by kernel_rfl
theorem f17_2 : okA (cellsN 15) 2 45 (6 + 1) (17 - (6 + 1) - 1) [10, 10] = false := by kernel_rfl
theorem b17_2 : okB (17 - 2) 2 45 6 (17 - 2 - 6 + 1) [10, 10] = true := by kernel_rfl
theorem c17_2 : okB (17 - 2) 2 45 (6 + 1) (17 - 2 - (6 + 1) + 1) [10, 10] = false := by kernel_rfl
theorem ad17_3 : ∀ k, k < 2 → g__law_added [.int (cf [23, 22] k : Nat), .int ((3 : Nat) : Int)] = .ok (.int (cf [16, 16] k : Nat)) [] := by
  intro k hk
  have h : k = 0 ∨ k = 1 := by omega
  rcases h with rfl | rfl
  · kernel_rfl
  · kernel_rfl
theorem ld17_3 : Ld 17 2 45 3 [23, 22] [16, 16] := ⟨by kernel_rfl, by decide, by kernel_rfl, ad17_3, by decide, by decide, by decide⟩
theorem cp17_3 : g_capacity [.int ((17 : Nat) : Int), .int ((3 : Nat) : Int)] = .ok (.lst (natsT [16, 16])) [] := by kernel_rfl
theorem a17_3 : ((List.range 10).all fun i => okA (cellsN 15) 2 45 (i + 1) (17 - (i + 1) - 1) [16, 16]) = true := by kernel_rfl
theorem f17_3 : okA (cellsN 15) 2 45 (10 + 1) (17 - (10 + 1) - 1) [16, 16] = false := by kernel_rfl
theorem b17_3 : okB (17 - 2) 2 45 10 (17 - 2 - 10 + 1) [16, 16] = true := by kernel_rfl
theorem c17_3 : okB (17 - 2) 2 45 (10 + 1) (17 - 2 - (10 + 1) + 1) [16, 16] = false := by kernel_rfl
end K79


namespace K79
open PySem L2 TL
theorem eqI (x y : Int) : g__law_equal [.int x, .int y] = .ok (.bl (decide (x = y))) [] := by
  unfold g__law_equal
  exact eq_int 11 x y
theorem isint (x : Int) : g__law_is_int [.int x] = .ok (.bl true) [] := by
  refine wpg_fin ?_
  unfold g__law_is_int
  rw [wpg_run]
  unfold c__law_is_int startT
  simp [isN]
theorem st11_1 : g__law_stands [.int 11, .int 1, .int 2] = .ok (.bl true) [] := by
  have h := stand_ok ld11_1 2 (by decide)
  rw [b11_1] at h
  exact h
theorem sf11_1 : g__law_stands [.int 11, .int 1, .int 3] = .ok (.bl false) [] := by
  have h := stand_ok ld11_1 3 (by decide)
  rw [c11_1] at h
  exact h
theorem st11_2 : g__law_stands [.int 11, .int 2, .int 4] = .ok (.bl true) [] := by
  have h := stand_ok ld11_2 4 (by decide)
  rw [b11_2] at h
  exact h
theorem sf11_2 : g__law_stands [.int 11, .int 2, .int 5] = .ok (.bl false) [] := by
  have h := stand_ok ld11_2 5 (by decide)
  rw [c11_2] at h
  exact h
theorem st11_3 : g__law_stands [.int 11, .int 3, .int 6] = .ok (.bl true) [] := by
  have h := stand_ok ld11_3 6 (by decide)
  rw [b11_3] at h
  exact h
theorem sf11_3 : g__law_stands [.int 11, .int 3, .int 7] = .ok (.bl false) [] := by
  have h := stand_ok ld11_3 7 (by decide)
  rw [c11_3] at h
  exact h
theorem st13_1 : g__law_stands [.int 13, .int 1, .int 3] = .ok (.bl true) [] := by
  have h := stand_ok ld13_1 3 (by decide)
  rw [b13_1] at h
  exact h
theorem sf13_1 : g__law_stands [.int 13, .int 1, .int 4] = .ok (.bl false) [] := by
  have h := stand_ok ld13_1 4 (by decide)
  rw [c13_1] at h
  exact h
theorem st13_2 : g__law_stands [.int 13, .int 2, .int 6] = .ok (.bl true) [] := by
  have h := stand_ok ld13_2 6 (by decide)
  rw [b13_2] at h
  exact h
theorem sf13_2 : g__law_stands [.int 13, .int 2, .int 7] = .ok (.bl false) [] := by
  have h := stand_ok ld13_2 7 (by decide)
  rw [c13_2] at h
  exact h
theorem st13_3 : g__law_stands [.int 13, .int 3, .int 8] = .ok (.bl true) [] := by
  have h := stand_ok ld13_3 8 (by decide)
  rw [b13_3] at h
  exact h
theorem sf13_3 : g__law_stands [.int 13, .int 3, .int 9] = .ok (.bl false) [] := by
  have h := stand_ok ld13_3 9 (by decide)
  rw [c13_3] at h
  exact h
theorem st17_1 : g__law_stands [.int 17, .int 1, .int 4] = .ok (.bl true) [] := by
  have h := stand_ok ld17_1 4 (by decide)
  rw [b17_1] at h
  exact h
theorem sf17_1 : g__law_stands [.int 17, .int 1, .int 5] = .ok (.bl false) [] := by
  have h := stand_ok ld17_1 5 (by decide)
  rw [c17_1] at h
  exact h
theorem st17_2 : g__law_stands [.int 17, .int 2, .int 6] = .ok (.bl true) [] := by
  have h := stand_ok ld17_2 6 (by decide)
  rw [b17_2] at h
  exact h
theorem sf17_2 : g__law_stands [.int 17, .int 2, .int 7] = .ok (.bl false) [] := by
  have h := stand_ok ld17_2 7 (by decide)
  rw [c17_2] at h
  exact h
theorem st17_3 : g__law_stands [.int 17, .int 3, .int 10] = .ok (.bl true) [] := by
  have h := stand_ok ld17_3 10 (by decide)
  rw [b17_3] at h
  exact h
theorem sf17_3 : g__law_stands [.int 17, .int 3, .int 11] = .ok (.bl false) [] := by
  have h := stand_ok ld17_3 11 (by decide)
  rw [c17_3] at h
  exact h
theorem facts_ok : ∀ s g : Int, (s = 11 ∨ s = 13 ∨ s = 17) → (g = 1 ∨ g = 2 ∨ g = 3) → ∃ t : Int, 0 < t ∧ t < s - 2 ∧ g_blot_strength [.int s, .int g] = .ok (.int t) [] ∧ g__law_stands [.int s, .int g, .int t] = .ok (.bl true) [] ∧ g__law_stands [.int s, .int g, .int (t + 1)] = .ok (.bl false) [] := by
  intro s g hs hg
  rcases hs with rfl | rfl | rfl <;> rcases hg with rfl | rfl | rfl
  · exact ⟨2, by decide, by decide, str_ok fd11 cp11_1 rfl (by decide) (by decide) a11_1 f11_1, st11_1, sf11_1⟩
  · exact ⟨4, by decide, by decide, str_ok fd11 cp11_2 rfl (by decide) (by decide) a11_2 f11_2, st11_2, sf11_2⟩
  · exact ⟨6, by decide, by decide, str_ok fd11 cp11_3 rfl (by decide) (by decide) a11_3 f11_3, st11_3, sf11_3⟩
  · exact ⟨3, by decide, by decide, str_ok fd13 cp13_1 rfl (by decide) (by decide) a13_1 f13_1, st13_1, sf13_1⟩
  · exact ⟨6, by decide, by decide, str_ok fd13 cp13_2 rfl (by decide) (by decide) a13_2 f13_2, st13_2, sf13_2⟩
  · exact ⟨8, by decide, by decide, str_ok fd13 cp13_3 rfl (by decide) (by decide) a13_3 f13_3, st13_3, sf13_3⟩
  · exact ⟨4, by decide, by decide, str_ok fd17 cp17_1 rfl (by decide) (by decide) a17_1 f17_1, st17_1, sf17_1⟩
  · exact ⟨6, by decide, by decide, str_ok fd17 cp17_2 rfl (by decide) (by decide) a17_2 f17_2, st17_2, sf17_2⟩
  · exact ⟨10, by decide, by decide, str_ok fd17 cp17_3 rfl (by decide) (by decide) a17_3 f17_3, st17_3, sf17_3⟩
theorem law_true (ns : List Int) (_ : ns.length ≤ 63) : g_law [.lst (intsT ns)] = .ok (.bl true) [] := by
  refine wpg_fin ?_
  unfold g_law
  rw [wpg_run]
  unfold c_law startT
  obtain ⟨s, e⟩ := pool_ok ns
  obtain ⟨v, i1, x1, n1, hi1, v0, v1, e1⟩ := draw_ok ns 0 0 0 s 6 (by decide) (by decide) (by decide)
  obtain ⟨u, i2, x2, n2, hi2, u0, u1, e2⟩ := draw_ok ns i1 x1 n1 s 3 hi1 (by decide) (by decide)
  obtain ⟨sd, hsd, e3⟩ : ∃ sd : Int, (sd = 11 ∨ sd = 13 ∨ sd = 17) ∧ atI [T.int 11, T.int 13, T.int 11, T.int 13, T.int 11, T.int 17] v = some (.int sd) := by
    have : v = 0 ∨ v = 1 ∨ v = 2 ∨ v = 3 ∨ v = 4 ∨ v = 5 := by omega
    rcases this with rfl | rfl | rfl | rfl | rfl | rfl
    · exact ⟨11, by decide, rfl⟩
    · exact ⟨13, by decide, rfl⟩
    · exact ⟨11, by decide, rfl⟩
    · exact ⟨13, by decide, rfl⟩
    · exact ⟨11, by decide, rfl⟩
    · exact ⟨17, by decide, rfl⟩
  obtain ⟨t, t0, t1, f1, f2, f3⟩ := facts_ok sd (1 + u) hsd (by omega)
  have n1 : ¬ t < 0 := by omega
  have n2 : ¬ sd - 2 < t := by omega
  have n3 : ¬ t = sd - 2 := by omega
  simp [e, e1, oLst, e3, e2, f1, isint, n1, n2, t0, f2, eqI, n3, f3]
end K79


open PySem PySem.W PySem.Calls PyProof.Rows
theorem PySem.Challenge.cw_dapple_k79_strength_against_blots_holds : PySem.Challenge.rw_dapple_k79_strength_against_blots.Holds := by
  w_on; o_law
  refine HandSHeadRun.head_any (r := OpenLaw.row PySem.Challenge.rw_dapple_k79_strength_against_blots) (q := view (OpenLaw.row PySem.Challenge.rw_dapple_k79_strength_against_blots).prog [24]) (H := K79.hk) (ob := K79.ob) (M := 4000) (loose := K79.loose) (d := HandSHeadRun.topDef (OpenLaw.row PySem.Challenge.rw_dapple_k79_strength_against_blots).prog 24) (kwd := []) K79.ob_eq
    (by kernel_rfl) (fun s => by kernel_rfl) K79.run (by kernel_rfl) (by kernel_rfl) (by kernel_rfl) (by rfl) (by first | assumption | decide +kernel) (by decide +kernel) ⟨rfl, rfl, rfl, rfl, rfl, by decide +kernel⟩ ?hw ?hc
  case hw => w_witness2
  case hc =>
    refine L2.walk_ofE (l := PySem.Challenge.rw_dapple_k79_strength_against_blots) (n := 63) (k := 13) (x := "script") (CX := L2.CX0) rfl (by decide) (by kernel_rfl) ⟨rfl, by decide, by decide⟩ ?F (fun _ _ _ _ z => z)
    intro w mg fa h Y G hmg0
    obtain ⟨K, KX, hN, hx, c⟩ := Y
    have hmg : mg ("law" : PySem.Str) = some (.ref fa) := by
      have e : (HandSHeadRun.topDef (OpenLaw.row PySem.Challenge.rw_dapple_k79_strength_against_blots).prog 24).name = ("law" : PySem.Str) := by kernel_rfl
      rw [← e]
      exact hmg0
    obtain ⟨fd, hb, hF⟩ := K79.facts (P := (PySem.Challenge.rw_dapple_k79_strength_against_blots).prog) (w := w) KX G hx hmg c
    exact ⟨K, fd, fun vs H Q _ => TL.spT K mg ⟨[.fr], .sc⟩ K79.g_law vs H Q fun _ _ _ => False, KX, hb, fun H a ns hl _ hS => TL.law_end hN hS (K79.law_true ns hl), fun base _ _ => TL.fn_cx0 (hF base)⟩

