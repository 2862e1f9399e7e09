import PyProof.Rows.All
import Wide.All
import OpenK.AllK
import Wide.FinOn
import HandS.ForMost
import HandS.Walk
import HandS.More
import HandS.Defaults
import HandS.Wide
import HandS.WideBits
import HandS.RevRange
import HandS.IsInst
import HandS.Deep
import HandS.ClsMeth
import HandS.HeadHook1
import HandS.HeadHook2
import KE.KStateDown
import HandS.Head0
import HandS.Head1
import HandS.Head2
import HandS.HeadEnd
import KE.KEqSeq
import KE.KEqDeep
import HandS.Text
import HandS.Zip
import HandS.SortKw
import KE.DataMinMax
import KE.SortKeyHeap
import HandS.ExcValue
import PySem.Challenge.RW_factorforge_k69_whole_looked
set_option Elab.async false
set_option linter.all false
section
set_option autoImplicit false
/-! FM1: polynomials over the whole numbers mod N, as classes of lists; a commutative ring. -/
namespace FF
/-! ### lists as polynomials -/
def co (f : List Int) (k : Nat) : Int := f.getD k 0
theorem co_nil (k : Nat) : co [] k = 0 := rfl
theorem co_zero (a : Int) (f : List Int) : co (a :: f) 0 = a := rfl
theorem co_succ (a : Int) (f : List Int) (k : Nat) : co (a :: f) (k + 1) = co f k := rfl
theorem co_ge {f : List Int} {k : Nat} (h : f.length ≤ k) : co f k = 0 := by
  unfold co; rw [List.getD_eq_getElem?_getD, List.getElem?_eq_none h]; rfl
theorem co_lt {f : List Int} {k : Nat} (h : k < f.length) : co f k = f[k] := by
  unfold co; rw [List.getD_eq_getElem?_getD, List.getElem?_eq_getElem h]; rfl
def ev : List Int → Int → Int
  | [], _ => 0
  | a :: f, x => a + x * ev f x
def addL : List Int → List Int → List Int
  | [], g => g
  | a :: f, [] => a :: f
  | a :: f, b :: g => (a + b) :: addL f g
def sclL (c : Int) (f : List Int) : List Int := f.map (c * ·)
def mulL : List Int → List Int → List Int
  | [], _ => []
  | a :: f, g => addL (sclL a g) (0 :: mulL f g)
def subL (f g : List Int) : List Int := addL f (sclL (-1) g)
theorem addL_nil (f : List Int) : addL f [] = f := by cases f <;> rfl
theorem ev_add (x : Int) : ∀ f g : List Int, ev (addL f g) x = ev f x + ev g x
  | [], g => by simp [addL, ev]
  | a :: f, [] => by simp [addL, ev]
  | a :: f, b :: g => by simp only [addL, ev, ev_add x f g]; grind
theorem ev_scl (c x : Int) : ∀ f : List Int, ev (sclL c f) x = c * ev f x
  | [] => by simp [sclL, ev]
  | a :: f => by
    have h := ev_scl c x f
    simp only [sclL, List.map_cons, ev] at *
    rw [h]; grind
theorem ev_mul (x : Int) : ∀ f g : List Int, ev (mulL f g) x = ev f x * ev g x
  | [], g => by simp [mulL, ev]
  | a :: f, g => by simp only [mulL, ev_add, ev_scl, ev, ev_mul x f g]; grind
theorem ev_sub (x : Int) (f g : List Int) : ev (subL f g) x = ev f x - ev g x := by
  unfold subL; rw [ev_add, ev_scl]; grind
theorem co_add : ∀ (f g : List Int) (k : Nat), co (addL f g) k = co f k + co g k
  | [], g, k => by simp [addL, co_nil]
  | a :: f, [], k => by simp [addL, co_nil]
  | a :: f, b :: g, 0 => by simp [addL, co_zero]
  | a :: f, b :: g, k + 1 => by simp only [addL, co_succ]; exact co_add f g k
theorem co_scl (c : Int) : ∀ (f : List Int) (k : Nat), co (sclL c f) k = c * co f k
  | [], k => by simp [sclL, co_nil]
  | a :: f, 0 => rfl
  | a :: f, k + 1 => by
    have h := co_scl c f k
    simp only [sclL, List.map_cons, co_succ] at *
    exact h
theorem co_sub (f g : List Int) (k : Nat) : co (subL f g) k = co f k - co g k := by
  unfold subL; rw [co_add, co_scl]; grind
theorem len_add : ∀ f g : List Int, (addL f g).length = max f.length g.length
  | [], g => by simp [addL]
  | a :: f, [] => by simp [addL]
  | a :: f, b :: g => by simp only [addL, List.length_cons, len_add f g]; omega
theorem len_scl (c : Int) (f : List Int) : (sclL c f).length = f.length := List.length_map _
theorem len_sub (f g : List Int) : (subL f g).length = max f.length g.length := by unfold subL; rw [len_add, len_scl]
theorem len_mul : ∀ (f : List Int) {g : List Int}, f ≠ [] → g ≠ [] → (mulL f g).length = f.length + g.length - 1
  | [], _, h, _ => absurd rfl h
  | [a], g, _, h => by
    have : 0 < g.length := List.length_pos_iff.mpr h
    simp only [mulL, len_add, len_scl, List.length_cons, List.length_nil]; omega
  | a :: b :: f, g, _, h => by
    have ih := len_mul (b :: f) (g := g) (by simp) h
    have : 0 < g.length := List.length_pos_iff.mpr h
    rw [mulL, len_add, len_scl]
    simp only [List.length_cons] at *
    omega
/-- vanishing at all great places means nought -/
theorem co_of_ev : ∀ (f : List Int) (M : Int), (∀ x, M ≤ x → ev f x = 0) → ∀ k, co f k = 0
  | [], _, _, k => co_nil k
  | a :: f, M, h, k => by
    have ha : a = 0 := by
      have h1 := h (max M 0 + a.natAbs + 1) (by omega)
      have hx : ∃ x : Int, x = max M 0 + a.natAbs + 1 := ⟨_, rfl⟩
      obtain ⟨x, hx⟩ := hx
      rw [← hx] at h1
      simp only [ev] at h1
      have hd : x ∣ a := ⟨-(ev f x), by grind⟩
      have hlt : a.natAbs < x.natAbs := by omega
      exact Int.eq_zero_of_dvd_of_natAbs_lt_natAbs hd hlt
    subst ha
    have hf : ∀ x, max M 1 ≤ x → ev f x = 0 := fun x hx => by
      have h1 := h x (by omega)
      simp only [ev, Int.zero_add] at h1
      rcases Int.mul_eq_zero.mp h1 with h2 | h2
      · omega
      · exact h2
    cases k with
    | zero => rfl
    | succ k => exact co_of_ev f (max M 1) hf k
theorem ev_ext : ∀ (f g : List Int), (∀ k, co f k = co g k) → ∀ x, ev f x = ev g x
  | [], [], _, x => rfl
  | [], b :: g, h, x => by
    have h0 := h 0
    have ht := ev_ext [] g (fun k => h (k + 1)) x
    simp only [co_nil, co_zero] at h0
    simp only [ev] at ht ⊢
    rw [← h0, ← ht]; omega
  | a :: f, [], h, x => by
    have h0 := h 0
    have ht := ev_ext f [] (fun k => h (k + 1)) x
    simp only [co_nil, co_zero] at h0
    simp only [ev] at ht ⊢
    rw [h0, ht]; omega
  | a :: f, b :: g, h, x => by
    have h0 := h 0
    have ht := ev_ext f g (fun k => h (k + 1)) x
    simp only [co_zero] at h0
    simp only [ev]
    rw [h0, ht]
/-! ### the classes -/
def rel (N : Int) (f g : List Int) : Prop := ∃ h : List Int, ∀ x, ev f x = ev g x + N * ev h x
theorem rel_iff {N : Int} {f g : List Int} : rel N f g ↔ ∀ k, N ∣ co f k - co g k := by
  constructor
  · rintro ⟨h, e⟩ k
    have z := co_of_ev (subL f (addL g (sclL N h))) 0 (fun x _ => by
      rw [ev_sub, ev_add, ev_scl, e x]; omega) k
    rw [co_sub, co_add, co_scl] at z
    exact ⟨co h k, by omega⟩
  · intro e
    refine ⟨(subL f g).map (· / N), fun x => ?_⟩
    have e2 : ∀ k, co (subL f g) k = co (sclL N ((subL f g).map (· / N))) k := fun k => by
      rw [co_scl]
      have : co ((subL f g).map (· / N)) k = co (subL f g) k / N := by
        unfold co
        rw [List.getD_eq_getElem?_getD, List.getD_eq_getElem?_getD, List.getElem?_map]
        cases (subL f g)[k]? <;> simp
      rw [this, Int.mul_ediv_cancel']
      rw [co_sub]; exact e k
    have e3 := ev_ext _ _ e2 x
    rw [ev_sub, ev_scl] at e3
    omega
def PS (N : Int) : Setoid (List Int) where
  r := rel N
  iseqv := ⟨fun f => ⟨[], fun x => by simp [ev]⟩, fun ⟨h, e⟩ => ⟨sclL (-1) h, fun x => by rw [ev_scl, e x]; grind⟩,
    fun ⟨h, e⟩ ⟨h', e'⟩ => ⟨addL h h', fun x => by rw [ev_add, e x, e' x]; grind⟩⟩
def Pm (N : Int) : Type := Quotient (PS N)
def cl (N : Int) (f : List Int) : Pm N := Quotient.mk (PS N) f
variable {N : Int}
theorem cl_of {f g : List Int} (h : List Int) (e : ∀ x, ev f x = ev g x + N * ev h x) : cl N f = cl N g := Quotient.sound (s := PS N) ⟨h, e⟩
theorem cl_ev {f g : List Int} (e : ∀ x, ev f x = ev g x) : cl N f = cl N g := cl_of [] fun x => by rw [e x]; simp [ev]
theorem cl_iff {f g : List Int} : cl N f = cl N g ↔ ∀ k, N ∣ co f k - co g k := ⟨fun e => rel_iff.mp (Quotient.exact (s := PS N) e), fun e => Quotient.sound (s := PS N) (rel_iff.mpr e)⟩
theorem cl_ex (u : Pm N) : ∃ f, cl N f = u := Quotient.exists_rep u
def padd (u v : Pm N) : Pm N := Quotient.liftOn₂ (s₁ := PS N) (s₂ := PS N) u v (fun f g => cl N (addL f g)) fun f g f' g' ⟨h, e⟩ ⟨h', e'⟩ => cl_of (addL h h') fun x => by simp only [ev_add, e x, e' x]; grind
def pmul (u v : Pm N) : Pm N := Quotient.liftOn₂ (s₁ := PS N) (s₂ := PS N) u v (fun f g => cl N (mulL f g)) fun f g f' g' ⟨h, e⟩ ⟨h', e'⟩ =>
  cl_of (addL (mulL h g') (addL (mulL f' h') (sclL N (mulL h h')))) fun x => by simp only [ev_add, ev_mul, ev_scl, e x, e' x]; grind
def pneg (u : Pm N) : Pm N := Quotient.liftOn (s := PS N) u (fun f => cl N (sclL (-1) f)) fun f f' ⟨h, e⟩ => cl_of (sclL (-1) h) fun x => by simp only [ev_scl, e x]; grind
instance : Add (Pm N) := ⟨padd⟩
instance : Mul (Pm N) := ⟨pmul⟩
instance : Neg (Pm N) := ⟨pneg⟩
instance : Sub (Pm N) := ⟨fun u v => u + -v⟩
def C (c : Int) : Pm N := cl N [c]
instance (n : Nat) : OfNat (Pm N) n := ⟨C n⟩
instance : NatCast (Pm N) := ⟨fun n => C n⟩
instance : IntCast (Pm N) := ⟨fun n => C n⟩
def ppow (u : Pm N) : Nat → Pm N
  | 0 => C 1
  | n + 1 => ppow u n * u
instance : HPow (Pm N) Nat (Pm N) := ⟨ppow⟩
instance : SMul Nat (Pm N) := ⟨fun n u => C n * u⟩
instance : SMul Int (Pm N) := ⟨fun n u => C n * u⟩
theorem cl_add (f g : List Int) : cl N (addL f g) = cl N f + cl N g := rfl
theorem cl_mul (f g : List Int) : cl N (mulL f g) = cl N f * cl N g := rfl
theorem cl_neg (f : List Int) : cl N (sclL (-1) f) = -cl N f := rfl
theorem cl_sub (f g : List Int) : cl N (subL f g) = cl N f - cl N g := rfl
theorem C_nat (n : Nat) : (C (n : Int) : Pm N) = (n : Pm N) := rfl
theorem padd_zero (a : Pm N) : a + 0 = a := by
  obtain ⟨f, rfl⟩ := cl_ex a
  exact cl_ev (f := addL f [0]) fun x => by rw [ev_add]; simp [ev]
theorem padd_comm (a b : Pm N) : a + b = b + a := by
  obtain ⟨f, rfl⟩ := cl_ex a
  obtain ⟨g, rfl⟩ := cl_ex b
  exact cl_ev (f := addL f g) (g := addL g f) fun x => by rw [ev_add, ev_add]; grind
theorem padd_assoc (a b c : Pm N) : a + b + c = a + (b + c) := by
  obtain ⟨f, rfl⟩ := cl_ex a
  obtain ⟨g, rfl⟩ := cl_ex b
  obtain ⟨h, rfl⟩ := cl_ex c
  exact cl_ev (f := addL (addL f g) h) (g := addL f (addL g h)) fun x => by simp only [ev_add]; grind
theorem pmul_assoc (a b c : Pm N) : a * b * c = a * (b * c) := by
  obtain ⟨f, rfl⟩ := cl_ex a
  obtain ⟨g, rfl⟩ := cl_ex b
  obtain ⟨h, rfl⟩ := cl_ex c
  exact cl_ev (f := mulL (mulL f g) h) (g := mulL f (mulL g h)) fun x => by simp only [ev_mul]; grind
theorem pmul_comm (a b : Pm N) : a * b = b * a := by
  obtain ⟨f, rfl⟩ := cl_ex a
  obtain ⟨g, rfl⟩ := cl_ex b
  exact cl_ev (f := mulL f g) (g := mulL g f) fun x => by rw [ev_mul, ev_mul]; grind
theorem pmul_one (a : Pm N) : a * 1 = a := by
  obtain ⟨f, rfl⟩ := cl_ex a
  exact cl_ev (f := mulL f [1]) fun x => by rw [ev_mul]; simp [ev]
theorem pdistrib (a b c : Pm N) : a * (b + c) = a * b + a * c := by
  obtain ⟨f, rfl⟩ := cl_ex a
  obtain ⟨g, rfl⟩ := cl_ex b
  obtain ⟨h, rfl⟩ := cl_ex c
  exact cl_ev (f := mulL f (addL g h)) (g := addL (mulL f g) (mulL f h)) fun x => by simp only [ev_mul, ev_add]; grind
theorem pzero_mul (a : Pm N) : 0 * a = 0 := by
  obtain ⟨f, rfl⟩ := cl_ex a
  exact cl_ev (f := mulL [0] f) (g := [0]) fun x => by rw [ev_mul]; simp [ev]
theorem pneg_add (a : Pm N) : -a + a = 0 := by
  obtain ⟨f, rfl⟩ := cl_ex a
  exact cl_ev (f := addL (sclL (-1) f) f) (g := [0]) fun x => by rw [ev_add, ev_scl]; simp [ev]; omega
theorem C_add (a b : Int) : (C (a + b) : Pm N) = C a + C b := rfl
theorem C_mul (a b : Int) : (C (a * b) : Pm N) = C a * C b := cl_ev fun x => by rw [ev_mul]; simp [ev]
theorem C_neg (a : Int) : (C (-a) : Pm N) = -C a := cl_ev fun x => by rw [ev_scl]; simp [ev]
instance : Lean.Grind.CommRing (Pm N) where
  add_zero := padd_zero
  add_comm := padd_comm
  add_assoc := padd_assoc
  mul_assoc := pmul_assoc
  mul_comm := pmul_comm
  mul_one := pmul_one
  one_mul := fun a => by rw [pmul_comm, pmul_one]
  left_distrib := pdistrib
  right_distrib := fun a b c => by rw [pmul_comm, pdistrib, pmul_comm c, pmul_comm c]
  zero_mul := pzero_mul
  mul_zero := fun a => by rw [pmul_comm, pzero_mul]
  pow_zero := fun _ => rfl
  pow_succ := fun _ _ => rfl
  ofNat_succ := fun a => C_add a 1
  neg_add_cancel := pneg_add
  sub_eq_add_neg := fun _ _ => rfl
  neg_zsmul := fun i a => show C (-i) * a = -(C i * a) from by
    rw [C_neg]
    obtain ⟨f, rfl⟩ := cl_ex a
    exact cl_ev (f := mulL (sclL (-1) [i]) f) (g := sclL (-1) (mulL [i] f)) fun x => by rw [ev_mul, ev_scl, ev_scl, ev_mul]; grind
  intCast_neg := fun i => C_neg i
theorem C_sub (a b : Int) : (C (a - b) : Pm N) = C a - C b := by
  rw [Int.sub_eq_add_neg, C_add, C_neg]; rfl
theorem C_zero : (C 0 : Pm N) = 0 := rfl
theorem C_one : (C 1 : Pm N) = 1 := rfl
theorem cl_nil : cl N [] = 0 := cl_ev fun x => by simp [ev]
theorem C_eq {a b : Int} : (C a : Pm N) = C b ↔ N ∣ a - b := by
  unfold C
  rw [cl_iff]
  constructor
  · intro h; exact h 0
  · intro h k
    cases k with
    | zero => exact h
    | succ k => simp [co_succ, co_nil]
theorem C_N : (C N : Pm N) = 0 := C_eq.mpr ⟨1, by show N - ((0 : Nat) : Int) = N * 1; simp⟩
theorem C_eq0 {a : Int} : (C a : Pm N) = 0 ↔ N ∣ a := by
  rw [← C_zero, C_eq, Int.sub_zero]
def X : Pm N := cl N [0, 1]
theorem cl_cons (a : Int) (f : List Int) : cl N (a :: f) = C a + X * cl N f := cl_ev fun x => by rw [ev_add, ev_mul]; simp [ev]
theorem cl_scl (c : Int) (f : List Int) : cl N (sclL c f) = C c * cl N f := cl_ev fun x => by rw [ev_mul, ev_scl]; simp [ev]
theorem cl_append (f g : List Int) : cl N (f ++ g) = cl N f + X ^ f.length * cl N g := by
  induction f with
  | nil => rw [List.nil_append, cl_nil, List.length_nil]; grind
  | cons a f ih => rw [List.cons_append, cl_cons, cl_cons, ih, List.length_cons]; grind
theorem cl_mapmod (f : List Int) : cl N (f.map (· % N)) = cl N f := by
  rw [cl_iff]
  intro k
  have : co (f.map (· % N)) k = co f k % N := by
    unfold co
    rw [List.getD_eq_getElem?_getD, List.getD_eq_getElem?_getD, List.getElem?_map]
    cases f[k]? <;> simp
  rw [this]
  exact ⟨-(co f k / N), by have := Int.emod_add_mul_ediv (co f k) N; grind⟩
end FF
end
section
set_option autoImplicit false
/-! FM2: lists in form, degrees, division by what has the lead 1. -/
namespace FF
variable {N : Int}
/-! ### noughts cut off -/
def trimZ : List Int → List Int
  | [] => []
  | a :: f => match trimZ f with
    | [] => if a = 0 then [] else [a]
    | b :: r => a :: b :: r
theorem trimZ_co : ∀ (f : List Int) (k : Nat), co (trimZ f) k = co f k
  | [], _ => rfl
  | a :: f, k => by
    have ih := trimZ_co f
    unfold trimZ
    cases h : trimZ f with
    | nil =>
      rw [h] at ih
      by_cases ha : a = 0
      · simp only [ha, if_true]
        cases k with
        | zero => rfl
        | succ k => rw [co_succ, ← ih k]; rfl
      · simp only [ha, if_false]
        cases k with
        | zero => rfl
        | succ k => rw [co_succ, co_succ, ← ih k]
    | cons b r =>
      rw [h] at ih
      cases k with
      | zero => rfl
      | succ k => rw [co_succ, co_succ, ← ih k]
theorem trimZ_snoc0 : ∀ f : List Int, trimZ (f ++ [0]) = trimZ f
  | [] => rfl
  | a :: f => by
    rw [List.cons_append, trimZ, trimZ_snoc0 f, trimZ]
theorem trimZ_snoc {a : Int} (h : a ≠ 0) : ∀ f : List Int, trimZ (f ++ [a]) = f ++ [a]
  | [] => by simp [trimZ, h]
  | b :: f => by
    rw [List.cons_append, trimZ, trimZ_snoc h f]
    cases f <;> rfl
theorem trimZ_end : ∀ f : List Int, trimZ f = [] ∨ ∃ g a, trimZ f = g ++ [a] ∧ a ≠ 0
  | [] => .inl rfl
  | a :: f => by
    have ih := trimZ_end f
    unfold trimZ
    cases h : trimZ f with
    | nil =>
      by_cases ha : a = 0
      · simp [ha]
      · simp only [ha, if_false]
        exact .inr ⟨[], a, rfl, ha⟩
    | cons b r =>
      rw [h] at ih
      rcases ih with ih | ⟨g, c, e, hc⟩
      · cases ih
      · exact .inr ⟨a :: g, c, by show a :: b :: r = _; rw [e]; rfl, hc⟩
theorem trimZ_mem : ∀ (f : List Int) (x : Int), x ∈ trimZ f → x ∈ f
  | [], _, h => h
  | a :: f, x, h => by
    have ih := trimZ_mem f x
    unfold trimZ at h
    cases h2 : trimZ f with
    | nil =>
      rw [h2] at h
      by_cases ha : a = 0
      · simp [ha] at h
      · simp only [ha, if_false] at h
        simp at h; simp [h]
    | cons b r =>
      rw [h2] at h ih
      rcases List.mem_cons.mp h with h | h
      · simp [h]
      · exact List.mem_cons_of_mem _ (ih h)
theorem trimZ_len (f : List Int) : (trimZ f).length ≤ f.length := by
  induction f with
  | nil => exact Nat.le_refl _
  | cons a f ih =>
    unfold trimZ
    cases h : trimZ f with
    | nil => by_cases ha : a = 0 <;> simp [ha]
    | cons b r => rw [h] at ih; simp at *; omega
def tr (N : Int) (f : List Int) : List Int := trimZ (f.map (· % N))
/-- in form -/
structure Cn (N : Int) (f : List Int) : Prop where
  red : ∀ a ∈ f, a % N = a
  top : f = [] ∨ ∃ g a, f = g ++ [a] ∧ a ≠ 0
theorem co_mapmod (f : List Int) (k : Nat) : co (f.map (· % N)) k = co f k % N := by
  unfold co
  rw [List.getD_eq_getElem?_getD, List.getD_eq_getElem?_getD, List.getElem?_map]
  cases f[k]? <;> simp
theorem tr_co (f : List Int) (k : Nat) : co (tr N f) k = co f k % N := by unfold tr; rw [trimZ_co, co_mapmod]
theorem cl_tr (f : List Int) : cl N (tr N f) = cl N f := by
  rw [← cl_mapmod f, cl_iff]
  intro k
  unfold tr
  rw [trimZ_co]
  exact ⟨0, by omega⟩
theorem tr_Cn (f : List Int) : Cn N (tr N f) := by
  refine ⟨fun a ha => ?_, trimZ_end _⟩
  have h := trimZ_mem _ _ ha
  obtain ⟨b, _, rfl⟩ := List.mem_map.mp h
  exact Int.emod_emod b N
theorem co_red {f : List Int} (h : Cn N f) (k : Nat) : co f k % N = co f k := by
  by_cases hk : k < f.length
  · rw [co_lt hk]; exact h.red _ (List.getElem_mem hk)
  · rw [co_ge (by omega)]; simp
theorem co_last (g : List Int) (a : Int) : co (g ++ [a]) g.length = a := by
  rw [co_lt (by simp)]; simp
theorem ext_co {f g : List Int} (hl : f.length = g.length) (h : ∀ k, co f k = co g k) : f = g := by
  apply List.ext_getElem hl
  intro i h1 h2
  have := h i
  rw [co_lt h1, co_lt h2] at this
  exact this
theorem Cn.len_le {f g : List Int} (hf : Cn N f) (h : ∀ k, co f k = co g k) : f.length ≤ g.length := by
  rcases hf.top with e | ⟨f0, a, e, ha⟩
  · rw [e]; exact Nat.zero_le _
  · by_cases hl : f.length ≤ g.length
    · exact hl
    · exfalso
      have h1 := h f0.length
      rw [e, co_last, co_ge (by rw [e] at hl; simp at hl; omega)] at h1
      exact ha h1
theorem Cn.eq {f g : List Int} (hf : Cn N f) (hg : Cn N g) (h : cl N f = cl N g) : f = g := by
  have hc : ∀ k, co f k = co g k := fun k => by
    have h1 := cl_iff.mp h k
    rw [← co_red hf k, ← co_red hg k]
    exact Int.emod_eq_emod_iff_emod_sub_eq_zero.mpr (Int.emod_eq_zero_of_dvd h1)
  exact ext_co (Nat.le_antisymm (hf.len_le hc) (hg.len_le fun k => (hc k).symm)) hc
theorem tr_id {f : List Int} (hf : Cn N f) : tr N f = f := (tr_Cn f).eq hf (cl_tr f)
theorem tr_eq {f g : List Int} : tr N f = tr N g ↔ cl N f = cl N g := ⟨fun e => by rw [← cl_tr f, ← cl_tr g, e], fun e => (tr_Cn f).eq (tr_Cn g) (by rw [cl_tr, cl_tr, e])⟩
theorem tr_tr (f : List Int) : tr N (tr N f) = tr N f := tr_id (tr_Cn f)
theorem tr_co_eq {f g : List Int} (h : ∀ k, N ∣ co f k - co g k) : tr N f = tr N g := tr_eq.mpr (cl_iff.mpr h)
theorem tr_len (f : List Int) : (tr N f).length ≤ f.length := by
  unfold tr; exact Nat.le_trans (trimZ_len _) (by simp)
theorem tr_nil_iff {f : List Int} : tr N f = [] ↔ cl N f = 0 := by
  rw [← cl_nil, ← tr_eq]
  exact Iff.rfl
/-! ### degrees -/
/-- of a degree less than n -/
def Dg (u : Pm N) (n : Nat) : Prop := ∃ f : List Int, f.length ≤ n ∧ cl N f = u
theorem Dg.mono {u : Pm N} {n m : Nat} (h : Dg u n) (hn : n ≤ m) : Dg u m := let ⟨f, hf, e⟩ := h; ⟨f, Nat.le_trans hf hn, e⟩
theorem Dg.zero : Dg (0 : Pm N) 0 := ⟨[], Nat.le_refl _, cl_nil⟩
theorem Dg.C (c : Int) : Dg (C c : Pm N) 1 := ⟨[c], Nat.le_refl _, rfl⟩
theorem Dg.of_cl (f : List Int) : Dg (cl N f) f.length := ⟨f, Nat.le_refl _, rfl⟩
theorem Dg.add {u v : Pm N} {n m : Nat} (h : Dg u n) (h' : Dg v m) : Dg (u + v) (max n m) := by
  obtain ⟨f, hf, rfl⟩ := h
  obtain ⟨g, hg, rfl⟩ := h'
  exact ⟨addL f g, by rw [len_add]; omega, rfl⟩
theorem Dg.add' {u v : Pm N} {n : Nat} (h : Dg u n) (h' : Dg v n) : Dg (u + v) n := (h.add h').mono (by omega)
theorem Dg.neg {u : Pm N} {n : Nat} (h : Dg u n) : Dg (-u) n := by
  obtain ⟨f, hf, rfl⟩ := h
  exact ⟨sclL (-1) f, by rw [len_scl]; exact hf, rfl⟩
theorem Dg.sub' {u v : Pm N} {n : Nat} (h : Dg u n) (h' : Dg v n) : Dg (u - v) n := h.add' h'.neg
theorem Dg.eq0 {u : Pm N} (h : Dg u 0) : u = 0 := by
  obtain ⟨f, hf, rfl⟩ := h
  have : f = [] := List.length_eq_zero_iff.mp (by omega)
  rw [this, cl_nil]
theorem Dg.mul {u v : Pm N} {n m : Nat} (h : Dg u n) (h' : Dg v m) : Dg (u * v) (n + m - 1) := by
  obtain ⟨f, hf, rfl⟩ := h
  obtain ⟨g, hg, rfl⟩ := h'
  by_cases h1 : f = []
  · subst h1; rw [cl_nil]; exact ⟨[], Nat.zero_le _, by rw [cl_nil]; grind⟩
  · by_cases h2 : g = []
    · subst h2; rw [cl_nil]; exact ⟨[], Nat.zero_le _, by rw [cl_nil]; grind⟩
    · exact ⟨mulL f g, by rw [len_mul f h1 h2]; omega, rfl⟩
theorem cl_shift (n : Nat) (f : List Int) : cl N (List.replicate n 0 ++ f) = X ^ n * cl N f := by
  rw [cl_append, List.length_replicate]
  have : cl N (List.replicate n 0) = 0 := by
    induction n with
    | zero => exact cl_nil
    | succ n ih => rw [List.replicate_succ, cl_cons, ih, C_zero]; grind
  rw [this]; grind
theorem Dg.X (n : Nat) : Dg (X ^ n : Pm N) (n + 1) := ⟨List.replicate n 0 ++ [1], by simp, by
  rw [cl_shift]
  show FF.X ^ n * 1 = FF.X ^ n
  grind⟩
theorem Dg.Xmul {u : Pm N} {n : Nat} (k : Nat) (h : Dg u n) : Dg (FF.X ^ k * u) (k + n) := by
  obtain ⟨f, hf, rfl⟩ := h
  exact ⟨List.replicate k 0 ++ f, by simp; exact hf, cl_shift k f⟩
theorem Dg.Cmul {u : Pm N} {n : Nat} (c : Int) (h : Dg u n) : Dg (FF.C c * u) n := by
  obtain ⟨f, hf, rfl⟩ := h
  exact ⟨sclL c f, by rw [len_scl]; exact hf, cl_scl c f⟩
theorem dg_iff {f : List Int} {n : Nat} : Dg (cl N f) n ↔ ∀ k, n ≤ k → N ∣ co f k := by
  constructor
  · rintro ⟨g, hg, e⟩ k hk
    have := cl_iff.mp e.symm k
    rwa [co_ge (f := g) (by omega), Int.sub_zero] at this
  · intro h
    refine ⟨f.take n, by rw [List.length_take]; omega, cl_iff.mpr fun k => ?_⟩
    by_cases hk : k < n
    · have : co (f.take n) k = co f k := by
        unfold co
        rw [List.getD_eq_getElem?_getD, List.getD_eq_getElem?_getD, List.getElem?_take_of_lt hk]
      rw [this]; exact ⟨0, by omega⟩
    · rw [co_ge (f := f.take n) (by rw [List.length_take]; omega)]
      have := h k (by omega)
      rw [Int.zero_sub]
      exact Int.dvd_neg.mpr this
theorem dg_tr {f : List Int} {n : Nat} : Dg (cl N f) n ↔ (tr N f).length ≤ n := by
  constructor
  · intro h
    rw [← cl_tr] at h
    rcases (tr_Cn (N := N) f).top with e | ⟨g, a, e, ha⟩
    · rw [e]; exact Nat.zero_le _
    · by_cases hl : (tr N f).length ≤ n
      · exact hl
      · exfalso
        have h1 := dg_iff.mp h g.length (by rw [e] at hl; simp at hl; omega)
        have h2 := co_red (tr_Cn (N := N) f) g.length
        rw [e, co_last] at h1 h2
        exact ha (by rw [← h2]; exact Int.emod_eq_zero_of_dvd h1)
  · intro h
    exact ⟨tr N f, h, cl_tr f⟩
theorem Dg.list {u : Pm N} {n : Nat} (h : Dg u n) : ∃ f : List Int, Cn N f ∧ f.length ≤ n ∧ cl N f = u := by
  obtain ⟨f, hf, rfl⟩ := h
  exact ⟨tr N f, tr_Cn f, Nat.le_trans (tr_len f) hf, cl_tr f⟩
/-- coefficient by coefficient, up to n -/
theorem dg_coefs {f : List Int} {c : Int} {n : Nat} (h : Dg (cl N f + X ^ n * C c) n) (hf : f.length ≤ n) : N ∣ c := by
  have e : cl N f + X ^ n * C c = cl N (addL f (List.replicate n 0 ++ [c])) := by rw [cl_add, cl_shift]; rfl
  rw [e] at h
  have := dg_iff.mp h n (Nat.le_refl _)
  have h2 : co (List.replicate n 0 ++ [c]) n = c := by
    have := co_last (List.replicate n 0) c
    rwa [List.length_replicate] at this
  rw [co_add, co_ge hf, h2] at this
  simpa using this
/-! ### the lead 1 -/
/-- of degree n with the lead 1 -/
def Mon (g : Pm N) (n : Nat) : Prop := ∃ r, Dg r n ∧ g = X ^ n + r
theorem Mon.dg {g : Pm N} {n : Nat} (h : Mon g n) : Dg g (n + 1) := by
  obtain ⟨r, hr, rfl⟩ := h
  exact (Dg.X n).add' (hr.mono (by omega))
theorem Mon.of_list {f : List Int} : Mon (cl N (f ++ [1])) f.length := ⟨cl N f, Dg.of_cl f, by
  rw [cl_append]
  show cl N f + X ^ f.length * 1 = X ^ f.length + cl N f
  grind⟩
theorem Mon.list {g : Pm N} {n : Nat} (h : Mon g n) : ∃ f : List Int, f.length = n ∧ cl N (f ++ [1]) = g := by
  obtain ⟨r, ⟨f, hf, rfl⟩, rfl⟩ := h
  refine ⟨f ++ List.replicate (n - f.length) 0, by simp; omega, ?_⟩
  rw [cl_append]
  have e : cl N (f ++ List.replicate (n - f.length) 0) = cl N f := by
    rw [cl_append]
    have := cl_shift (N := N) (n - f.length) []
    rw [List.append_nil, cl_nil] at this
    rw [this]; grind
  have e2 : (f ++ List.replicate (n - f.length) 0).length = n := by simp; omega
  rw [e, e2]
  show cl N f + X ^ n * 1 = X ^ n + cl N f
  grind
theorem pow_add (u : Pm N) (a b : Nat) : u ^ (a + b) = u ^ a * u ^ b := by
  induction b with
  | zero => grind
  | succ b ih => rw [← Nat.add_assoc]; grind
theorem pow_mul (u : Pm N) (a b : Nat) : u ^ (a * b) = (u ^ a) ^ b := by
  induction b with
  | zero => grind
  | succ b ih => rw [Nat.mul_succ, pow_add, ih]; grind
theorem Mon.mul {g h : Pm N} {n m : Nat} (hg : Mon g n) (hh : Mon h m) : Mon (g * h) (n + m) := by
  obtain ⟨r, hr, rfl⟩ := hg
  obtain ⟨t, ht, rfl⟩ := hh
  refine ⟨X ^ n * t + X ^ m * r + r * t, ?_, by rw [pow_add]; grind⟩
  exact ((ht.Xmul n).add' ((hr.Xmul m).mono (by omega))).add' ((hr.mul ht).mono (by omega))
theorem Mon.one : Mon (1 : Pm N) 0 := ⟨0, Dg.zero, by grind⟩
/-- what is multiplied by such a one is nought or longer -/
theorem Mon.cancel {g q : Pm N} {n : Nat} (h : Mon g n) (hd : Dg (q * g) n) : q = 0 := by
  obtain ⟨f, hf, _, rfl⟩ := (show ∃ f : List Int, Cn N f ∧ True ∧ cl N f = q from by
    obtain ⟨f, rfl⟩ := cl_ex q
    exact ⟨tr N f, tr_Cn f, trivial, cl_tr f⟩)
  rcases hf.top with e | ⟨f0, c, e, hc⟩
  · rw [e, cl_nil]
  · exfalso
    obtain ⟨r, hr, rfl⟩ := h
    have h1 : Dg (cl N f0 * X ^ n + cl N f * r) (f0.length + n) := by
      refine Dg.add' ?_ ?_
      · have := (Dg.of_cl (N := N) f0).Xmul n
        rw [pmul_comm] at this
        exact this.mono (by omega)
      · have := (Dg.of_cl (N := N) f).mul hr
        rw [e] at this
        rw [e]
        exact this.mono (by simp <;> omega)
    obtain ⟨b, hb, eb⟩ := h1
    have h2 : cl N f * (X ^ n + r) = cl N b + X ^ (f0.length + n) * C c := by
      rw [eb, pow_add]
      have : cl N f = cl N f0 + X ^ f0.length * C c := by rw [e, cl_append]; rfl
      rw [this]; grind
    rw [h2] at hd
    have h3 := dg_coefs (hd.mono (show n ≤ f0.length + n by omega)) hb
    have h4 := hf.red c (by rw [e]; simp)
    exact hc (by rw [← h4]; exact Int.emod_eq_zero_of_dvd h3)
theorem Mon.divide {g : Pm N} {n : Nat} (h : Mon g n) (u : Pm N) : ∃ q r : Pm N, u = q * g + r ∧ Dg r n := by
  obtain ⟨f, rfl⟩ := cl_ex u
  obtain ⟨t, ht, rfl⟩ := h
  induction f with
  | nil => exact ⟨0, 0, by rw [cl_nil]; grind, Dg.zero.mono (Nat.zero_le _)⟩
  | cons a f ih =>
    obtain ⟨q, r, e, ⟨l, hl, el⟩⟩ := ih
    obtain ⟨c, l2, hl2, e2⟩ : ∃ (c : Int) (l2 : List Int), l2.length ≤ n ∧ C a + X * r = cl N l2 + X ^ n * C c := by
      by_cases hn : l.length < n
      · refine ⟨0, a :: l, hn, ?_⟩
        rw [cl_cons, el, C_zero]; grind
      · have hne : l.length = n := by omega
        rcases Nat.eq_zero_or_pos n with h0 | h0
        · subst h0
          refine ⟨a, [], Nat.le_refl _, ?_⟩
          have : l = [] := List.length_eq_zero_iff.mp hne
          rw [this] at el
          rw [← el, cl_nil]; grind
        · have hl0 : l ≠ [] := by intro z; rw [z] at hne; simp at hne; omega
          refine ⟨l.getLast hl0, a :: l.dropLast, by simp [hne]; omega, ?_⟩
          have h5 := List.dropLast_concat_getLast hl0
          have h6 : cl N l = cl N l.dropLast + X ^ (n - 1) * C (l.getLast hl0) := by
            have : l.dropLast.length = n - 1 := by simp; omega
            rw [← this]
            show _ = cl N l.dropLast + X ^ l.dropLast.length * cl N [l.getLast hl0]
            rw [← cl_append, h5]
          have h7 : (X : Pm N) ^ n = X * X ^ (n - 1) := by
            have : n = 1 + (n - 1) := by omega
            rw [this, pow_add]
            simp only [Nat.add_sub_cancel_left]
            grind
          rw [cl_cons, ← el, h6, h7]; grind
    refine ⟨X * q + C c, cl N l2 - C c * t, ?_, (Dg.mono ⟨l2, Nat.le_refl _, rfl⟩ hl2).sub' (ht.Cmul c)⟩
    rw [cl_cons, e]
    have : C a + X * (q * (X ^ n + t) + r) = X * q * (X ^ n + t) + (C a + X * r) := by grind
    rw [this, e2]; grind
/-- two with the lead 1, of which each goes into the other, are the same -/
theorem Mon.le_of_dvd {a b u : Pm N} {n m : Nat} (ha : Mon a n) (hb : Mon b m) (e : a = u * b) (h1 : ¬ N ∣ 1) : m ≤ n := by
  by_cases hl : m ≤ n
  · exact hl
  · exfalso
    have hd : Dg (u * b) m := by rw [← e]; exact ha.dg.mono (by omega)
    have hu := hb.cancel hd
    rw [hu] at e
    have ea : a = 0 := by rw [e]; grind
    obtain ⟨r, ⟨f, hf, rfl⟩, er⟩ := ha
    have h0 : Dg (cl N f + X ^ n * C 1) n := by
      have : cl N f + X ^ n * C 1 = a := by
        rw [er]
        show cl N f + X ^ n * 1 = X ^ n + cl N f
        grind
      rw [this, ea]
      exact Dg.zero.mono (Nat.zero_le _)
    exact h1 (dg_coefs h0 hf)
theorem Mon.eq_of_dvd {a b u : Pm N} {n : Nat} (ha : Mon a n) (hb : Mon b n) (e : a = u * b) : a = b := by
  obtain ⟨r, hr, er⟩ := ha
  obtain ⟨t, ht, et⟩ := id hb
  have hd : Dg ((u - 1) * b) n := by
    have : (u - 1) * b = r - t := by
      have : (u - 1) * b = a - b := by rw [e]; grind
      rw [this, er, et]; grind
    rw [this]; exact hr.sub' ht
  have := hb.cancel hd
  have hu : u = 1 := by grind
  rw [e, hu]; grind
theorem Mon.antisymm {a b u v : Pm N} {n m : Nat} (ha : Mon a n) (hb : Mon b m) (e : a = u * b) (e' : b = v * a) (h1 : ¬ N ∣ 1) : a = b ∧ n = m := by
  have h2 := Mon.le_of_dvd ha hb e h1
  have h3 := Mon.le_of_dvd hb ha e' h1
  have : n = m := Nat.le_antisymm h3 h2
  subst this
  exact ⟨Mon.eq_of_dvd ha hb e, rfl⟩
theorem Mon.deg_eq {a : Pm N} {n m : Nat} (ha : Mon a n) (hb : Mon a m) (h1 : ¬ N ∣ 1) : n = m := (Mon.antisymm (u := 1) (v := 1) ha hb (by grind) (by grind) h1).2
end FF
end
section
set_option autoImplicit false
/-! FM3: primes, what goes into what, substitution, the slope, powers by the prime, x^p - x. -/
namespace FF
/-! ### primes -/
def IsP (p : Nat) : Prop := 2 ≤ p ∧ ∀ d, d ∣ p → d = 1 ∨ d = p
theorem inv_nat {p : Nat} (hp : IsP p) : ∀ (n c : Nat), c ≤ n → 0 < c → c < p → ∃ d : Int, (p : Int) ∣ (c : Int) * d - 1
  | 0, c, h, h0, _ => by omega
  | n + 1, c, h, h0, h1 => by
    by_cases hc : c = 1
    · subst hc; exact ⟨1, ⟨0, by simp⟩⟩
    · have hr : p % c ≠ 0 := fun z => by
        rcases hp.2 c (Nat.dvd_of_mod_eq_zero z) with e | e <;> omega
      have hlt := Nat.mod_lt p h0
      obtain ⟨d, k, e⟩ := inv_nat hp n (p % c) (by omega) (by omega) (by omega)
      have hm := Nat.div_add_mod p c
      refine ⟨-((p / c : Nat) : Int) * d, ⟨k - d, ?_⟩⟩
      have hz : (c : Int) * ((p / c : Nat) : Int) + ((p % c : Nat) : Int) = (p : Int) := by exact_mod_cast hm
      grind
theorem IsP.pos {p : Nat} (hp : IsP p) : 0 < p := by have := hp.1; omega
theorem IsP.inv {p : Nat} (hp : IsP p) {c : Int} (h : ¬ (p : Int) ∣ c) : ∃ d : Int, (p : Int) ∣ c * d - 1 := by
  have h0 : (0 : Int) < p := by have := hp.pos; omega
  have h1 := Int.emod_nonneg c (show (p : Int) ≠ 0 by omega)
  have h2 := Int.emod_lt_of_pos c h0
  have h3 : c % p ≠ 0 := fun z => h (Int.dvd_of_emod_eq_zero z)
  obtain ⟨d, k, e⟩ := inv_nat hp _ (c % p).toNat (Nat.le_refl _) (by omega) (by omega)
  have h4 : (((c % p).toNat : Nat) : Int) = c % p := Int.toNat_of_nonneg h1
  rw [h4] at e
  have h5 := Int.emod_add_mul_ediv c p
  exact ⟨d, ⟨k + c / p * d, by grind⟩⟩
theorem IsP.one {p : Nat} (hp : IsP p) : ¬ (p : Int) ∣ 1 := fun h => by
  have := Int.le_of_dvd (by omega) h
  have := hp.1; omega
theorem IsP.dvd_mul {p : Nat} (hp : IsP p) {a b : Int} (h : (p : Int) ∣ a * b) : (p : Int) ∣ a ∨ (p : Int) ∣ b := by
  by_cases ha : (p : Int) ∣ a
  · exact .inl ha
  · obtain ⟨d, k, e⟩ := hp.inv ha
    obtain ⟨m, hm⟩ := h
    exact .inr ⟨m * d - b * k, by grind⟩
variable {N : Int}
theorem C_inv {p : Nat} (hp : IsP p) {c : Int} (h : (C c : Pm p) ≠ 0) : ∃ d : Int, (C d : Pm p) * C c = 1 := by
  obtain ⟨d, hd⟩ := hp.inv (fun z => h (C_eq0.mpr z))
  refine ⟨d, ?_⟩
  rw [← C_mul, ← C_one, C_eq, Int.mul_comm]
  exact hd
theorem one_ne {p : Nat} (hp : IsP p) : (1 : Pm p) ≠ 0 := fun e => hp.one (C_eq0.mp (show (C 1 : Pm p) = 0 from e))
/-! ### what goes into what -/
def Dv (a b : Pm N) : Prop := ∃ c, b = c * a
def Cop (a b : Pm N) : Prop := ∃ u v, u * a + v * b = 1
theorem Dv.refl (a : Pm N) : Dv a a := ⟨1, by grind⟩
theorem Dv.trans {a b c : Pm N} (h : Dv a b) (h' : Dv b c) : Dv a c := by
  obtain ⟨x, rfl⟩ := h; obtain ⟨y, rfl⟩ := h'; exact ⟨y * x, by grind⟩
theorem Dv.mul_l {a b : Pm N} (c : Pm N) (h : Dv a b) : Dv a (c * b) := by obtain ⟨x, rfl⟩ := h; exact ⟨c * x, by grind⟩
theorem Dv.mul_r {a b : Pm N} (c : Pm N) (h : Dv a b) : Dv a (b * c) := by obtain ⟨x, rfl⟩ := h; exact ⟨c * x, by grind⟩
theorem Dv.add {a b c : Pm N} (h : Dv a b) (h' : Dv a c) : Dv a (b + c) := by obtain ⟨x, rfl⟩ := h; obtain ⟨y, rfl⟩ := h'; exact ⟨x + y, by grind⟩
theorem Dv.sub {a b c : Pm N} (h : Dv a b) (h' : Dv a c) : Dv a (b - c) := by obtain ⟨x, rfl⟩ := h; obtain ⟨y, rfl⟩ := h'; exact ⟨x - y, by grind⟩
theorem Dv.zero (a : Pm N) : Dv a 0 := ⟨0, by grind⟩
theorem Cop.symm {a b : Pm N} (h : Cop a b) : Cop b a := by obtain ⟨u, v, e⟩ := h; exact ⟨v, u, by grind⟩
theorem Cop.one (a : Pm N) : Cop a 1 := ⟨0, 1, by grind⟩
theorem Cop.mul {a b c : Pm N} (h : Cop a c) (h' : Cop b c) : Cop (a * b) c := by
  obtain ⟨u, v, e⟩ := h; obtain ⟨s, t, e'⟩ := h'
  refine ⟨u * s, u * a * t + v * s * b + v * t * c, ?_⟩
  have : (u * a + v * c) * (s * b + t * c) = 1 := by rw [e, e']; grind
  grind
theorem Cop.of_dv {a b c : Pm N} (h : Cop a c) (d : Dv b a) : Cop b c := by
  obtain ⟨u, v, e⟩ := h; obtain ⟨x, rfl⟩ := d
  exact ⟨u * x, v, by grind⟩
theorem Cop.both {a b c : Pm N} (h : Cop a b) (h1 : Dv a c) (h2 : Dv b c) : Dv (a * b) c := by
  obtain ⟨u, v, e⟩ := h; obtain ⟨x, e1⟩ := h1; obtain ⟨y, e2⟩ := h2
  exact ⟨u * y + v * x, by
    have : c = (u * a + v * b) * c := by rw [e]; grind
    grind⟩
theorem Cop.cancel {a b c : Pm N} (h : Cop a b) (h1 : Dv a (b * c)) : Dv a c := by
  obtain ⟨u, v, e⟩ := h; obtain ⟨x, e1⟩ := h1
  exact ⟨u * c + v * x, by
    have : c = (u * a + v * b) * c := by rw [e]; grind
    grind⟩
/-- products of lists -/
def prd : List (Pm N) → Pm N
  | [] => 1
  | a :: l => a * prd l
theorem prd_append (l m : List (Pm N)) : prd (l ++ m) = prd l * prd m := by
  induction l with
  | nil => simp only [List.nil_append, prd]; grind
  | cons a l ih => simp only [List.cons_append, prd, ih]; grind
theorem prd_perm {l m : List (Pm N)} (h : l.Perm m) : prd l = prd m := by
  induction h with
  | nil => rfl
  | cons a _ ih => simp only [prd, ih]
  | swap a b l => simp only [prd]; grind
  | trans _ _ ih ih' => rw [ih, ih']
theorem prd_cop {l : List (Pm N)} {c : Pm N} (h : ∀ a ∈ l, Cop a c) : Cop (prd l) c := by
  induction l with
  | nil => exact (Cop.one c).symm
  | cons a l ih => exact (h a (by simp)).mul (ih fun b hb => h b (by simp [hb]))
theorem prd_dv {l : List (Pm N)} {c : Pm N} (hp : l.Pairwise Cop) (h : ∀ a ∈ l, Dv a c) : Dv (prd l) c := by
  induction l with
  | nil => exact ⟨c, by simp only [prd]; grind⟩
  | cons a l ih =>
    rw [List.pairwise_cons] at hp
    exact (prd_cop (c := a) fun b hb => (hp.1 b hb).symm).symm.both (h a (by simp)) (ih hp.2 fun b hb => h b (by simp [hb]))
theorem mem_dv_prd {l : List (Pm N)} {a : Pm N} (h : a ∈ l) : Dv a (prd l) := by
  induction l with
  | nil => cases h
  | cons b l ih =>
    rcases List.mem_cons.mp h with h | h
    · exact ⟨prd l, by subst h; simp only [prd]; grind⟩
    · exact (ih h).mul_l b
/-! ### substitution -/
def sbL (v : Pm N) : List Int → Pm N
  | [] => 0
  | a :: f => C a + v * sbL v f
theorem sbL_zero (v : Pm N) : ∀ f : List Int, (∀ k, N ∣ co f k) → sbL v f = 0
  | [], _ => rfl
  | a :: f, h => by
    have h0 : (C a : Pm N) = 0 := C_eq0.mpr (h 0)
    rw [sbL, h0, sbL_zero v f fun k => h (k + 1)]; grind
theorem sbL_add (v : Pm N) : ∀ f g : List Int, sbL v (addL f g) = sbL v f + sbL v g
  | [], g => by simp only [addL, sbL]; grind
  | a :: f, [] => by simp only [addL, sbL]; grind
  | a :: f, b :: g => by simp only [addL, sbL, sbL_add v f g, C_add]; grind
theorem sbL_scl (v : Pm N) (c : Int) : ∀ f : List Int, sbL v (sclL c f) = C c * sbL v f
  | [] => by simp only [sclL, List.map_nil, sbL]; grind
  | a :: f => by
    have := sbL_scl v c f
    simp only [sclL, List.map_cons, sbL] at *
    rw [this, C_mul]; grind
theorem sbL_mul (v : Pm N) : ∀ f g : List Int, sbL v (mulL f g) = sbL v f * sbL v g
  | [], g => by simp only [mulL, sbL]; grind
  | a :: f, g => by simp only [mulL, sbL_add, sbL_scl, sbL, sbL_mul v f g, C_zero]; grind
def sb (v u : Pm N) : Pm N := Quotient.liftOn (s := PS N) u (sbL v) fun f g h => by
  have := sbL_zero v (subL f g) fun k => by rw [co_sub]; exact rel_iff.mp h k
  unfold subL at this
  rw [sbL_add, sbL_scl, C_neg, C_one] at this
  grind
theorem sb_cl (v : Pm N) (f : List Int) : sb v (cl N f) = sbL v f := rfl
theorem sb_add (v a b : Pm N) : sb v (a + b) = sb v a + sb v b := by
  obtain ⟨f, rfl⟩ := cl_ex a; obtain ⟨g, rfl⟩ := cl_ex b
  exact sbL_add v f g
theorem sb_mul (v a b : Pm N) : sb v (a * b) = sb v a * sb v b := by
  obtain ⟨f, rfl⟩ := cl_ex a; obtain ⟨g, rfl⟩ := cl_ex b
  exact sbL_mul v f g
theorem sb_C (v : Pm N) (c : Int) : sb v (C c) = C c := by
  show sbL v [c] = C c
  simp only [sbL]; grind
theorem sb_one (v : Pm N) : sb v 1 = 1 := sb_C v 1
theorem sb_X (v : Pm N) : sb v X = v := by
  show sbL v [0, 1] = v
  simp only [sbL, C_zero, C_one]; grind
theorem sb_neg (v a : Pm N) : sb v (-a) = -sb v a := by
  have := sb_add v (-a) a
  have e : -a + a = 0 := by grind
  rw [e] at this
  have e0 : sb v 0 = 0 := sb_C v 0
  grind
theorem sb_sub (v a b : Pm N) : sb v (a - b) = sb v a - sb v b := by
  have e : a - b = a + -b := by grind
  rw [e, sb_add, sb_neg]; grind
theorem sb_pow (v a : Pm N) (n : Nat) : sb v (a ^ n) = sb v a ^ n := by
  induction n with
  | zero => exact sb_one v
  | succ n ih =>
    have e : a ^ (n + 1) = a ^ n * a := by grind
    rw [e, sb_mul, ih]; grind
/-! ### the slope -/
def derL : List Int → List Int
  | [] => []
  | _ :: f => addL f (0 :: derL f)
theorem co_der : ∀ (f : List Int) (k : Nat), co (derL f) k = ((k : Int) + 1) * co f (k + 1)
  | [], k => by simp [derL, co_nil]
  | a :: f, 0 => by simp [derL, co_add, co_succ, co_zero]
  | a :: f, k + 1 => by
    rw [derL, co_add, co_succ, co_succ, co_der f k]; push_cast; grind
def sl (u : Pm N) : Pm N := Quotient.liftOn (s := PS N) u (fun f => cl N (derL f)) fun f g h => cl_iff.mpr fun k => by
  rw [co_der, co_der]
  obtain ⟨c, e⟩ := rel_iff.mp h (k + 1)
  exact ⟨((k : Int) + 1) * c, by grind⟩
theorem sl_cl (f : List Int) : sl (cl N f) = cl N (derL f) := rfl
theorem sl_add (a b : Pm N) : sl (a + b) = sl a + sl b := by
  obtain ⟨f, rfl⟩ := cl_ex a; obtain ⟨g, rfl⟩ := cl_ex b
  rw [← cl_add, sl_cl, sl_cl, sl_cl, ← cl_add, cl_iff]
  intro k
  rw [co_der, co_add, co_add, co_der, co_der]
  exact ⟨0, by grind⟩
theorem sl_scl (c : Int) (a : Pm N) : sl (C c * a) = C c * sl a := by
  obtain ⟨f, rfl⟩ := cl_ex a
  rw [← cl_scl, sl_cl, sl_cl, ← cl_scl, cl_iff]
  intro k
  rw [co_der, co_scl, co_scl, co_der]
  exact ⟨0, by grind⟩
theorem sl_X (a : Pm N) : sl (X * a) = a + X * sl a := by
  obtain ⟨f, rfl⟩ := cl_ex a
  have e : X * cl N f = cl N (0 :: f) := by rw [cl_cons, C_zero]; grind
  rw [e, sl_cl, sl_cl, derL, cl_add, cl_cons, C_zero]; grind
theorem sl_mul (a b : Pm N) : sl (a * b) = sl a * b + a * sl b := by
  obtain ⟨f, rfl⟩ := cl_ex a
  induction f with
  | nil =>
    have e0 : sl (0 : Pm N) = 0 := by
      have := sl_scl (N := N) 0 0
      rw [C_zero] at this
      have e1 : (0 : Pm N) * 0 = 0 := by grind
      rw [e1] at this
      rw [this]; grind
    rw [cl_nil, e0]
    have e1 : (0 : Pm N) * b = 0 := by grind
    rw [e1, e0]; grind
  | cons c f ih =>
    have e1 : sl (cl N (c :: f)) = cl N f + X * sl (cl N f) := by
      rw [sl_cl, derL, cl_add, cl_cons, C_zero, sl_cl]; grind
    have e2 : cl N (c :: f) * b = C c * b + X * (cl N f * b) := by rw [cl_cons]; grind
    rw [e2, sl_add, sl_scl, sl_X, ih, e1, cl_cons]; grind
theorem sl_one : sl (1 : Pm N) = 0 := by
  show cl N (derL [1]) = 0
  exact cl_ev (g := [0]) fun x => by simp [derL, addL, ev]
theorem sl_pow (a : Pm N) (n : Nat) : sl (a ^ (n + 1)) = C (n + 1) * a ^ n * sl a := by
  induction n with
  | zero =>
    have e : a ^ (0 + 1) = a := by grind
    rw [e]
    show sl a = C (0 + 1) * a ^ 0 * sl a
    rw [Int.zero_add, C_one]; grind
  | succ n ih =>
    have e : a ^ (n + 1 + 1) = a ^ (n + 1) * a := by grind
    rw [e, sl_mul, ih]
    have : (C ((n + 1 : Nat) + 1) : Pm N) = C (n + 1) + 1 := by rw [C_add, C_one]; rfl
    rw [this]; grind
theorem sl_ppow {p : Nat} (hp : IsP p) (a : Pm p) : sl (a ^ p) = 0 := by
  obtain ⟨n, rfl⟩ : ∃ n, p = n + 1 := ⟨p - 1, by have := hp.1; omega⟩
  rw [sl_pow]
  have : (C ((n : Int) + 1) : Pm ((n + 1 : Nat) : Int)) = 0 := C_N
  rw [this]; grind
/-- free of squares: no two of its divisors' halves have anything in common -/
theorem sq_cop {f h c : Pm N} (hs : Cop f (sl f)) (e : f = h * c) : Cop h c := by
  obtain ⟨u, v, e1⟩ := hs
  rw [e, sl_mul] at e1
  exact ⟨u * c + v * sl c, v * sl h, by grind⟩
/-! ### powers by the prime -/
theorem dg_const {p : Nat} (hp : IsP p) {u : Pm p} (hd : Dg u p) (hs : sl u = 0) : ∃ c, u = C c := by
  obtain ⟨f, hf, rfl⟩ := hd
  refine ⟨co f 0, ?_⟩
  unfold C
  rw [cl_iff]
  intro k
  cases k with
  | zero => rw [co_zero]; exact ⟨0, by omega⟩
  | succ k =>
    rw [co_succ, co_nil, Int.sub_zero]
    by_cases hk : k + 1 < f.length
    · rw [sl_cl, ← cl_nil, cl_iff] at hs
      have := hs k
      rw [co_der, co_nil, Int.sub_zero] at this
      rcases hp.dvd_mul this with h | h
      · have := Int.le_of_dvd (by omega) h
        omega
      · exact h
    · rw [co_ge (by omega)]; exact ⟨0, by omega⟩
theorem Mon.X1 (c : Int) : Mon (X + C c : Pm N) 1 := ⟨C c, Dg.C c, by grind⟩
theorem Mon.pow {g : Pm N} {n : Nat} (h : Mon g n) (k : Nat) : Mon (g ^ k) (n * k) := by
  induction k with
  | zero =>
    have e : g ^ 0 = 1 := by grind
    rw [e, Nat.mul_zero]; exact Mon.one
  | succ k ih =>
    have e : g ^ (k + 1) = g ^ k * g := by grind
    rw [e, Nat.mul_succ]; exact ih.mul h
theorem frob1 {p : Nat} (hp : IsP p) : (X + 1 : Pm p) ^ p = X ^ p + 1 := by
  have h1 : Mon ((X + 1 : Pm p) ^ p) p := by
    have := (Mon.X1 (N := p) 1).pow p
    rwa [Nat.one_mul] at this
  obtain ⟨r, hr, er⟩ := h1
  have hd : Dg ((X + 1 : Pm p) ^ p - X ^ p - 1) p := by
    have : (X + 1 : Pm p) ^ p - X ^ p - 1 = r - C 1 := by rw [er, C_one]; grind
    rw [this]
    exact hr.sub' ((Dg.C 1).mono hp.pos)
  have hs : sl ((X + 1 : Pm p) ^ p - X ^ p - 1) = 0 := by
    have e : (X + 1 : Pm p) ^ p - X ^ p - 1 = (X + 1 : Pm p) ^ p + (C (-1) * X ^ p + C (-1) * 1) := by rw [C_neg, C_one]; grind
    rw [e, sl_add, sl_add, sl_scl, sl_scl, sl_ppow hp, sl_ppow hp, sl_one]; grind
  obtain ⟨c, hc⟩ := dg_const hp hd hs
  have h0 : sb 0 ((X + 1 : Pm p) ^ p - X ^ p - 1) = 0 := by
    rw [sb_sub, sb_sub, sb_pow, sb_pow, sb_add, sb_X, sb_one]
    obtain ⟨n, hn⟩ : ∃ n, p = n + 1 := ⟨p - 1, by have := hp.1; omega⟩
    have e1 : ∀ n : Nat, ((0 : Pm p) + 1) ^ n = 1 := fun n => by
      induction n with
      | zero => grind
      | succ n ih =>
        have : ((0 : Pm p) + 1) ^ (n + 1) = ((0 : Pm p) + 1) ^ n * (0 + 1) := by grind
        rw [this, ih]; grind
    have e2 : (0 : Pm p) ^ p = 0 := by
      have : ∀ n : Nat, (0 : Pm p) ^ (n + 1) = 0 := fun n => by grind
      have h := this n
      rwa [← hn] at h
    rw [e1, e2]; grind
  rw [hc, sb_C] at h0
  rw [h0] at hc
  grind
theorem frob_one {p : Nat} (hp : IsP p) (v : Pm p) : (v + 1) ^ p = v ^ p + 1 := by
  have := congrArg (sb v) (frob1 hp)
  rwa [sb_pow, sb_add, sb_add, sb_pow, sb_X, sb_one] at this
theorem C_pow (a : Int) (n : Nat) : (C (a ^ n) : Pm N) = C a ^ n := by
  induction n with
  | zero => rw [Int.pow_zero, C_one]; grind
  | succ n ih => rw [Int.pow_succ, C_mul, ih]; grind
theorem fermat {p : Nat} (hp : IsP p) (c : Int) : (C c : Pm p) ^ p = C c := by
  have hn : ∀ n : Nat, (C (n : Int) : Pm p) ^ p = C n := fun n => by
    induction n with
    | zero =>
      obtain ⟨m, hm⟩ : ∃ m, p = m + 1 := ⟨p - 1, by have := hp.1; omega⟩
      have : ∀ m : Nat, (0 : Pm p) ^ (m + 1) = 0 := fun n => by grind
      have h := this m
      rw [← hm] at h
      exact h
    | succ n ih =>
      have e : (C ((n + 1 : Nat) : Int) : Pm p) = C n + 1 := by push_cast; rw [C_add, C_one]
      rw [e, frob_one hp, ih]
  have hm : (C c : Pm p) = C (c % p).toNat := by
    rw [C_eq]
    have h1 := Int.emod_nonneg c (show (p : Int) ≠ 0 by have := hp.pos; omega)
    rw [Int.toNat_of_nonneg h1]
    exact ⟨c / p, by have := Int.emod_add_mul_ediv c p; grind⟩
  rw [hm, hn]
theorem mul_pow (a b : Pm N) (n : Nat) : (a * b) ^ n = a ^ n * b ^ n := by
  induction n with
  | zero => grind
  | succ n ih =>
    have e : (a * b) ^ (n + 1) = (a * b) ^ n * (a * b) := by grind
    rw [e, ih]; grind
theorem frob_c {p : Nat} (hp : IsP p) (c : Int) (v : Pm p) : (C c + v) ^ p = C c + v ^ p := by
  by_cases h : (C c : Pm p) = 0
  · rw [h]
    have e : (0 : Pm p) + v = v := by grind
    rw [e]; grind
  · obtain ⟨d, hd⟩ := C_inv hp h
    have e : C c + v = C c * (C d * v + 1) := by grind
    rw [e, mul_pow, frob_one hp, mul_pow, fermat hp, fermat hp]; grind
/-- the powers of x by the multiples of the prime, with a list's numbers -/
def frL (p : Nat) : List Int → Pm p
  | [] => 0
  | a :: f => C a + X ^ p * frL p f
theorem frob {p : Nat} (hp : IsP p) : ∀ f : List Int, (cl p f) ^ p = frL p f
  | [] => by
    obtain ⟨n, hn⟩ : ∃ n, p = n + 1 := ⟨p - 1, by have := hp.1; omega⟩
    have : ∀ n : Nat, (0 : Pm p) ^ (n + 1) = 0 := fun n => by grind
    have h := this n
    rw [← hn] at h
    rw [cl_nil, frL]; exact h
  | a :: f => by rw [cl_cons, frob_c hp, mul_pow, frob hp f, frL]
theorem frob_add {p : Nat} (hp : IsP p) (u v : Pm p) : (u + v) ^ p = u ^ p + v ^ p := by
  obtain ⟨f, rfl⟩ := cl_ex u; obtain ⟨g, rfl⟩ := cl_ex v
  have : ∀ f g : List Int, frL p (addL f g) = frL p f + frL p g := fun f => by
    induction f with
    | nil => intro g; simp only [addL, frL]; grind
    | cons a f ih =>
      intro g
      cases g with
      | nil => simp only [addL, frL]; grind
      | cons b g => simp only [addL, frL, ih g, C_add]; grind
  rw [← cl_add, frob hp, frob hp, frob hp, this]
theorem frob_scl {p : Nat} (hp : IsP p) (c : Int) (u : Pm p) : (C c * u) ^ p = C c * u ^ p := by rw [mul_pow, fermat hp]
theorem frob_neg {p : Nat} (hp : IsP p) (u : Pm p) : (-u) ^ p = -(u ^ p) := by
  have e : -u = C (-1) * u := by rw [C_neg, C_one]; grind
  rw [e, frob_scl hp, C_neg, C_one]; grind
theorem frob_sub {p : Nat} (hp : IsP p) (u v : Pm p) : (u - v) ^ p = u ^ p - v ^ p := by
  have e : u - v = u + -v := by grind
  rw [e, frob_add hp, frob_neg hp]; grind
/-! ### x^p - x -/
/-- v less each number from 0 to n - 1 -/
def lessAll (v : Pm N) : Nat → List (Pm N)
  | 0 => []
  | n + 1 => lessAll v n ++ [v - C n]
theorem mem_lessAll {v a : Pm N} : ∀ {n : Nat}, a ∈ lessAll v n ↔ ∃ s : Nat, s < n ∧ a = v - C s
  | 0 => by simp [lessAll]
  | n + 1 => by
    simp only [lessAll, List.mem_append, List.mem_singleton, mem_lessAll (n := n)]
    constructor
    · rintro (⟨s, hs, rfl⟩ | rfl)
      · exact ⟨s, by omega, rfl⟩
      · exact ⟨n, by omega, rfl⟩
    · rintro ⟨s, hs, rfl⟩
      by_cases h : s = n
      · exact .inr (by rw [h])
      · exact .inl ⟨s, by omega, rfl⟩
theorem less_cop {p : Nat} (hp : IsP p) (v : Pm p) {s t : Nat} (hs : s < p) (ht : t < p) (hn : s ≠ t) : Cop (v - C s) (v - C t) := by
  have h : (C ((t : Int) - s) : Pm p) ≠ 0 := fun z => by
    have h1 := C_eq0.mp z
    have h2 := Int.le_of_dvd (a := p) (b := ((t : Int) - s).natAbs) (by omega) (by exact Int.dvd_natAbs.mpr h1)
    omega
  obtain ⟨d, hd⟩ := C_inv hp h
  refine ⟨C d, -C d, ?_⟩
  rw [C_sub] at hd
  grind
theorem lessAll_pw {p : Nat} (hp : IsP p) (v : Pm p) : ∀ n : Nat, n ≤ p → (lessAll v n).Pairwise Cop
  | 0, _ => List.Pairwise.nil
  | n + 1, h => by
    rw [lessAll, List.pairwise_append]
    refine ⟨lessAll_pw hp v n (by omega), List.pairwise_singleton _ _, fun a ha b hb => ?_⟩
    obtain ⟨s, hs, rfl⟩ := mem_lessAll.mp ha
    rw [List.mem_singleton.mp hb]
    exact less_cop hp v (by omega) (by omega) (by omega)
theorem lessAll_mon : ∀ n : Nat, Mon (prd (lessAll (X : Pm N) n)) n
  | 0 => Mon.one
  | n + 1 => by
    rw [lessAll, prd_append]
    refine (lessAll_mon n).mul ?_
    have := Mon.X1 (N := N) (-(n : Int))
    have e : prd [(X : Pm N) - C n] = X + C (-(n : Int)) := by simp only [prd]; rw [C_neg]; grind
    rw [e]; exact this
theorem sub_dv_pow (u c : Pm N) (n : Nat) : Dv (u - c) (u ^ n - c ^ n) := by
  induction n with
  | zero => exact ⟨0, by grind⟩
  | succ n ih =>
    obtain ⟨w, hw⟩ := ih
    exact ⟨u * w + c ^ n, by grind⟩
theorem less_dv {p : Nat} (hp : IsP p) (v : Pm p) (s : Int) : Dv (v - C s) (v ^ p - v) := by
  obtain ⟨w, hw⟩ := sub_dv_pow v (C s) p
  rw [fermat hp] at hw
  exact ⟨w - 1, by grind⟩
theorem lessAll_X {p : Nat} (hp : IsP p) : prd (lessAll (X : Pm p) p) = X ^ p - X := by
  have hd : Dv (prd (lessAll (X : Pm p) p)) (X ^ p - X) := prd_dv (lessAll_pw hp X p (Nat.le_refl _)) fun a ha => by
    obtain ⟨s, _, rfl⟩ := mem_lessAll.mp ha
    exact less_dv hp X s
  obtain ⟨w, hw⟩ := hd
  have hm : Mon (X ^ p - X : Pm p) p := ⟨-X, (show Dg (-X : Pm p) p from ((show Dg (X : Pm p) 2 from ⟨[0, 1], Nat.le_refl _, rfl⟩).neg).mono hp.1), by grind⟩
  exact (hm.eq_of_dvd (lessAll_mon p) hw).symm
theorem sb_prd (v : Pm N) (l : List (Pm N)) : sb v (prd l) = prd (l.map (sb v)) := by
  induction l with
  | nil => exact sb_one v
  | cons a l ih => simp only [prd, List.map_cons, sb_mul, ih]
theorem sb_lessAll (v : Pm N) : ∀ n : Nat, (lessAll X n).map (sb v) = lessAll v n
  | 0 => rfl
  | n + 1 => by rw [lessAll, List.map_append, sb_lessAll v n, List.map_singleton, sb_sub, sb_X, sb_C, lessAll]
theorem lessAll_prd {p : Nat} (hp : IsP p) (v : Pm p) : prd (lessAll v p) = v ^ p - v := by
  have := congrArg (sb v) (lessAll_X hp)
  rwa [sb_prd, sb_lessAll, sb_sub, sb_pow, sb_X] at this
end FF
end
section
set_option autoImplicit false
/-! FM4: finite sums, vectors that depend on one another, tables turned to echelon form. -/
namespace FF
section
variable {R : Type} [Lean.Grind.CommRing R]
def sm (n : Nat) (f : Nat → R) : R := match n with
  | 0 => 0
  | n + 1 => sm n f + f n
theorem sm_congr {n : Nat} {f g : Nat → R} (h : ∀ i, i < n → f i = g i) : sm n f = sm n g := by
  induction n with
  | zero => rfl
  | succ n ih => rw [sm, sm, ih fun i hi => h i (by omega), h n (by omega)]
theorem sm_zero {n : Nat} {f : Nat → R} (h : ∀ i, i < n → f i = 0) : sm n f = 0 := by
  induction n with
  | zero => rfl
  | succ n ih => rw [sm, ih fun i hi => h i (by omega), h n (by omega)]; grind
theorem sm_add (n : Nat) (f g : Nat → R) : sm n (fun i => f i + g i) = sm n f + sm n g := by
  induction n with
  | zero => simp only [sm]; grind
  | succ n ih => simp only [sm, ih]; grind
theorem sm_sub (n : Nat) (f g : Nat → R) : sm n (fun i => f i - g i) = sm n f - sm n g := by
  induction n with
  | zero => simp only [sm]; grind
  | succ n ih => simp only [sm, ih]; grind
theorem sm_mul (n : Nat) (c : R) (f : Nat → R) : sm n (fun i => c * f i) = c * sm n f := by
  induction n with
  | zero => simp only [sm]; grind
  | succ n ih => simp only [sm, ih]; grind
theorem sm_mul_r (n : Nat) (c : R) (f : Nat → R) : sm n (fun i => f i * c) = sm n f * c := by
  induction n with
  | zero => simp only [sm]; grind
  | succ n ih => simp only [sm, ih]; grind
theorem sm_swap (n m : Nat) (f : Nat → Nat → R) : sm n (fun i => sm m fun j => f i j) = sm m fun j => sm n fun i => f i j := by
  induction n with
  | zero => simp only [sm]; exact (sm_zero fun _ _ => rfl).symm
  | succ n ih => simp only [sm, ih, sm_add]
theorem sm_one {n k : Nat} {f : Nat → R} (hk : k < n) (h : ∀ i, i < n → i ≠ k → f i = 0) : sm n f = f k := by
  induction n with
  | zero => omega
  | succ n ih =>
    rw [sm]
    by_cases e : k = n
    · subst e
      rw [sm_zero fun i hi => h i (by omega) (by omega)]; grind
    · rw [ih (by omega) fun i hi hn => h i (by omega) hn, h n (by omega) (by omega)]; grind
def skp (i0 i : Nat) : Nat := if i < i0 then i else i + 1
theorem sm_skip {n i0 : Nat} (f : Nat → R) (h : i0 ≤ n) : sm (n + 1) f = sm n (fun i => f (skp i0 i)) + f i0 := by
  induction n with
  | zero =>
    have : i0 = 0 := by omega
    subst this; simp only [sm]
  | succ n ih =>
    by_cases e : i0 = n + 1
    · subst e
      rw [sm, sm_congr (g := fun i => f (skp (n + 1) i))]
      intro i hi
      show f i = f (if i < n + 1 then i else i + 1)
      rw [if_pos hi]
    · have : skp i0 n = n + 1 := by unfold skp; rw [if_neg (by omega)]
      rw [sm, ih (by omega)]
      show _ = sm n (fun i => f (skp i0 i)) + f (skp i0 n) + f i0
      rw [this]; grind
/-- 1 from corner to corner -/
def dl (i j : Nat) : R := if i = j then 1 else 0
theorem sm_dl {n k : Nat} (hk : k < n) (f : Nat → R) : sm n (fun i => f i * dl i k) = f k := by
  rw [sm_one hk fun i _ hn => by unfold dl; rw [if_neg hn]; grind]
  unfold dl; rw [if_pos rfl]; grind
theorem sm_dl' {n k : Nat} (hk : k < n) (f : Nat → R) : sm n (fun i => dl k i * f i) = f k := by
  rw [sm_one hk fun i _ hn => by unfold dl; rw [if_neg (Ne.symm hn)]; grind]
  unfold dl; rw [if_pos rfl]; grind
theorem sm_assoc (n m : Nat) (a : Nat → R) (B : Nat → Nat → R) (c : Nat → R) : sm n (fun i => a i * sm m fun j => B i j * c j) = sm m fun j => sm n (fun i => a i * B i j) * c j := by
  have h1 : sm n (fun i => a i * sm m fun j => B i j * c j) = sm n fun i => sm m fun j => a i * B i j * c j :=
    sm_congr fun i _ => by rw [← sm_mul]; exact sm_congr fun j _ => by grind
  rw [h1, sm_swap]
  exact sm_congr fun j _ => sm_mul_r _ _ _
end
variable {N : Int}
theorem C_sm (n : Nat) (f : Nat → Int) : (C (sm n f) : Pm N) = sm n fun i => C (f i) := by
  induction n with
  | zero => rfl
  | succ n ih => simp only [sm, C_add, ih]
theorem Dv.sm {a : Pm N} {n : Nat} {f : Nat → Pm N} (h : ∀ i, i < n → Dv a (f i)) : Dv a (sm n f) := by
  induction n with
  | zero => exact Dv.zero a
  | succ n ih => exact (ih fun i hi => h i (by omega)).add (h n (by omega))
theorem Dg.sm {n d : Nat} {f : Nat → Pm N} (h : ∀ i, i < n → Dg (f i) d) : Dg (sm n f) d := by
  induction n with
  | zero => exact Dg.zero.mono (Nat.zero_le _)
  | succ n ih => exact (ih fun i hi => h i (by omega)).add' (h n (by omega))
/-! ### vectors that depend on one another -/
theorem depend {p : Nat} (hp : IsP p) : ∀ (m : Nat) (L : Nat → Nat → Int), ∃ b : Nat → Int, (∃ i, i < m + 1 ∧ (C (b i) : Pm p) ≠ 0) ∧ ∀ j, j < m → sm (m + 1) (fun i => (C (b i) : Pm p) * C (L i j)) = 0
  | 0, L => ⟨fun _ => 1, ⟨0, by omega, one_ne hp⟩, fun j hj => by omega⟩
  | m + 1, L => by
    by_cases ha : ∃ i0, i0 < m + 2 ∧ (C (L i0 m) : Pm p) ≠ 0
    · obtain ⟨i0, h0, h1⟩ := ha
      obtain ⟨u, hu⟩ := C_inv hp h1
      obtain ⟨b, ⟨i, hi, hb⟩, hs⟩ := depend hp m fun i j => L (skp i0 i) j - L (skp i0 i) m * u * L i0 j
      have hs2 : ∀ j, j < m + 1 → sm (m + 1) (fun i => (C (b i) : Pm p) * C (L (skp i0 i) j - L (skp i0 i) m * u * L i0 j)) = 0 := fun j hj => by
        by_cases e : j = m
        · subst e
          refine sm_zero fun i _ => ?_
          rw [C_sub, C_mul, C_mul]; grind
        · exact hs j (by omega)
      let w := sm (m + 1) fun i => b i * L (skp i0 i) m
      refine ⟨fun i => if i < i0 then b i else if i = i0 then -(w * u) else b (i - 1), ⟨skp i0 i, by unfold skp; split <;> omega, ?_⟩, fun j hj => ?_⟩
      · have : (if skp i0 i < i0 then b (skp i0 i) else if skp i0 i = i0 then -(w * u) else b (skp i0 i - 1)) = b i := by
          unfold skp
          by_cases h : i < i0
          · simp only [h, if_true]
          · simp only [h, if_false]
            rw [if_neg (by omega), if_neg (by omega)]; rfl
        show C (if skp i0 i < i0 then b (skp i0 i) else if skp i0 i = i0 then -(w * u) else b (skp i0 i - 1)) ≠ 0
        rw [this]; exact hb
      · rw [sm_skip _ (show i0 ≤ m + 1 by omega)]
        have e1 : ∀ i, (if skp i0 i < i0 then b (skp i0 i) else if skp i0 i = i0 then -(w * u) else b (skp i0 i - 1)) = b i := fun i => by
          unfold skp
          by_cases h : i < i0
          · simp only [h, if_true]
          · simp only [h, if_false]
            rw [if_neg (by omega), if_neg (by omega)]; rfl
        simp only [e1, Nat.lt_irrefl, if_false, if_true]
        have h3 := hs2 j hj
        have h4 : sm (m + 1) (fun i => (C (b i) : Pm p) * C (L (skp i0 i) j - L (skp i0 i) m * u * L i0 j)) = sm (m + 1) (fun i => (C (b i) : Pm p) * C (L (skp i0 i) j)) - sm (m + 1) (fun i => C (b i * L (skp i0 i) m)) * (C u * C (L i0 j)) := by
          rw [← sm_mul_r, ← sm_sub]
          exact sm_congr fun i _ => by rw [C_sub, C_mul, C_mul, C_mul]; grind
        rw [h4, ← C_sm] at h3
        have h5 : (C (-(w * u)) : Pm p) = -(C w * C u) := by rw [C_neg, C_mul]
        rw [h5]
        show sm (m + 1) (fun i => (C (b i) : Pm p) * C (L (skp i0 i) j)) + -(C w * C u) * C (L i0 j) = 0
        have h6 : sm (m + 1) (fun i => (C (b i) : Pm p) * C (L (skp i0 i) j)) = C w * (C u * C (L i0 j)) := by
          have : ∀ a b : Pm p, a - b = 0 → a = b := fun a b h => by grind
          exact this _ _ h3
        rw [h6]; grind
    · have ha2 : ∀ i, i < m + 2 → (C (L i m) : Pm p) = 0 := fun i hi => by
        by_cases h : (C (L i m) : Pm p) = 0
        · exact h
        · exact absurd ⟨i, hi, h⟩ ha
      obtain ⟨b, ⟨i, hi, hb⟩, hs⟩ := depend hp m L
      refine ⟨fun i => if i < m + 1 then b i else 0, ⟨i, by omega, by show C (if i < m + 1 then b i else 0) ≠ 0; rw [if_pos hi]; exact hb⟩, fun j hj => ?_⟩
      rw [sm]
      simp only [Nat.lt_irrefl, if_false]
      have e1 : sm (m + 1) (fun i => (C (if i < m + 1 then b i else 0) : Pm p) * C (L i j)) = sm (m + 1) (fun i => (C (b i) : Pm p) * C (L i j)) := sm_congr fun i hi => by rw [if_pos hi]
      rw [e1, C_zero]
      by_cases e : j = m
      · subst e
        rw [sm_zero (f := fun i => (C (b i) : Pm p) * C (L i j)) fun i hi => by rw [ha2 i (by omega)]; grind]; grind
      · rw [hs j (by omega)]; grind
/-! ### echelon forms -/
/-- F is T times M, in echelon form with r rows other than nought, their places piv; B turns T back -/
structure Ech (p n m : Nat) (M F T B : Nat → Nat → Int) (r : Nat) (piv : Nat → Nat) : Prop where
  ft : ∀ i, i < n → ∀ j, j < m → (C (F i j) : Pm p) = sm n fun k => C (T i k) * C (M k j)
  bt : ∀ i, i < n → ∀ j, j < n → sm n (fun k => (C (B i k) : Pm p) * C (T k j)) = dl i j
  tb : ∀ i, i < n → ∀ j, j < n → sm n (fun k => (C (T i k) : Pm p) * C (B k j)) = dl i j
  rn : r ≤ n
  pm : ∀ i, i < r → piv i < m
  p1 : ∀ i, i < r → F i (piv i) = 1
  p0 : ∀ i, i < r → ∀ k, k < n → k ≠ i → F k (piv i) = 0
  zr : ∀ i, r ≤ i → i < n → ∀ j, j < m → F i j = 0
section
variable {p n m : Nat} {M F T B : Nat → Nat → Int} {r : Nat} {piv : Nat → Nat}
/-- what M takes to nought is made of the rows of T from r on -/
theorem Ech.span (E : Ech p n m M F T B r piv) {v : Nat → Int} (hv : ∀ j, j < m → sm n (fun k => (C (v k) : Pm p) * C (M k j)) = 0) :
    ∃ u : Nat → Int, ∀ j, j < n → (C (v j) : Pm p) = sm (n - r) fun k => C (u k) * C (T (r + k) j) := by
  let u : Nat → Int := fun i => sm n fun k => v k * B k i
  have hu : ∀ i, (C (u i) : Pm p) = sm n fun k => C (v k) * C (B k i) := fun i => by
    show (C (sm n fun k => v k * B k i) : Pm p) = _
    rw [C_sm]; exact sm_congr fun k _ => C_mul _ _
  have h1 : ∀ j, j < n → (C (v j) : Pm p) = sm n fun k => C (u k) * C (T k j) := fun j hj => by
    have : sm n (fun k => (C (u k) : Pm p) * C (T k j)) = sm n fun k => C (v k) * sm n fun i => C (B k i) * C (T i j) := by
      rw [sm_assoc]
      exact sm_congr fun k _ => by rw [hu]
    rw [this, ← sm_dl hj fun k => (C (v k) : Pm p)]
    exact sm_congr fun k hk => by rw [E.bt k hk j hj]
  have h2 : ∀ j, j < m → sm n (fun k => (C (u k) : Pm p) * C (F k j)) = 0 := fun j hj => by
    have : sm n (fun k => (C (u k) : Pm p) * C (F k j)) = sm n fun i => (sm n fun k => C (u k) * C (T k i)) * C (M i j) := by
      rw [← sm_assoc]
      exact sm_congr fun k hk => by rw [E.ft k hk j hj]
    rw [this, ← hv j hj]
    exact sm_congr fun i hi => by rw [← h1 i hi]
  have h3 : ∀ i, i < r → (C (u i) : Pm p) = 0 := fun i hi => by
    have h := h2 (piv i) (E.pm i hi)
    rw [sm_one (k := i) (by have := E.rn; omega) fun k hk hne => by rw [E.p0 i hi k hk hne, C_zero]; grind] at h
    rw [E.p1 i hi, C_one] at h
    grind
  refine ⟨fun k => u (r + k), fun j hj => ?_⟩
  rw [h1 j hj]
  have h4 : ∀ t, r + t ≤ n → sm (r + t) (fun k => (C (u k) : Pm p) * C (T k j)) = sm t fun k => C (u (r + k)) * C (T (r + k) j) := fun t => by
    induction t with
    | zero => intro _; exact sm_zero fun i hi => by rw [h3 i (by omega)]; grind
    | succ t ih => intro h; show sm (r + t) _ + _ = sm t _ + _; rw [ih (by omega)]; rfl
  have := h4 (n - r) (by have := E.rn; omega)
  rwa [show r + (n - r) = n by have := E.rn; omega] at this
/-- the rows from r on take M to nought -/
theorem Ech.null (E : Ech p n m M F T B r piv) {i : Nat} (h : r ≤ i) (hi : i < n) : ∀ j, j < m → sm n (fun k => (C (T i k) : Pm p) * C (M k j)) = 0 := fun j hj => by
  rw [← E.ft i hi j hj, E.zr i h hi j hj, C_zero]
theorem Ech.nonzero (E : Ech p n m M F T B r piv) (hp : IsP p) {i : Nat} (hi : i < n) : ∃ k, k < n ∧ (C (T i k) : Pm p) ≠ 0 := by
  by_cases h : ∃ k, k < n ∧ (C (T i k) : Pm p) ≠ 0
  · exact h
  · exfalso
    have h1 := E.tb i hi i hi
    rw [sm_zero fun k hk => by
      have : (C (T i k) : Pm p) = 0 := Classical.byContradiction fun z => h ⟨k, hk, z⟩
      rw [this]; grind] at h1
    unfold dl at h1
    rw [if_pos rfl] at h1
    exact one_ne hp h1.symm
/-- all rows other than nought: the columns of their places, turned, are 1 from corner to corner -/
theorem Ech.right (E : Ech p n m M F T B r piv) (hr : r = n) {i j : Nat} (hi : i < n) (hj : j < n) : sm n (fun k => (C (M i (piv k)) : Pm p) * C (T k j)) = dl i j := by
  subst hr
  have hTC : ∀ a, a < r → ∀ b, b < r → sm r (fun k => (C (T a k) : Pm p) * C (M k (piv b))) = dl a b := fun a ha b hb => by
    rw [← E.ft a ha _ (E.pm b hb)]
    unfold dl
    by_cases e : a = b
    · subst e; rw [if_pos rfl, E.p1 a ha, C_one]
    · rw [if_neg e, E.p0 b hb a ha e, C_zero]
  have hC : ∀ k, k < r → (C (M i (piv k)) : Pm p) = C (B i k) := fun k hk => by
    have h1 : sm r (fun a => (C (B i a) : Pm p) * sm r fun c => C (T a c) * C (M c (piv k))) = C (B i k) := by
      rw [← sm_dl hk fun a => (C (B i a) : Pm p)]
      exact sm_congr fun a ha => by rw [hTC a ha k hk]
    rw [sm_assoc] at h1
    rw [← h1, ← sm_dl' hi fun c => (C (M c (piv k)) : Pm p)]
    exact sm_congr fun c hc => by rw [E.bt i hi c hc]
  rw [← E.bt i hi j hj]
  exact sm_congr fun k hk => by rw [hC k hk]
end
end FF
end
section
set_option autoImplicit false
/-! FM5: what the powering leaves as it is: a polynomial free of squares parted over the rests. -/
namespace FF
variable {p : Nat}
/-- what the powering leaves is a number by h -/
def Smp (h : Pm p) : Prop := ∀ v : Pm p, Dv h (v ^ p - v) → ∃ c : Int, Dv h (v - C c)
theorem dv_pow {a b : Pm p} (hp : IsP p) (h : Dv a b) : Dv a (b ^ p) := by
  obtain ⟨n, hn⟩ : ∃ n, p = n + 1 := ⟨p - 1, by have := hp.1; omega⟩
  have : b ^ p = b ^ n * b := by
    have : ∀ n : Nat, b ^ (n + 1) = b ^ n * b := fun n => by grind
    have h := this n
    rwa [← hn] at h
  rw [this]; exact h.mul_l _
theorem dv_fix {a b : Pm p} (hp : IsP p) (h : Dv a b) : Dv a (b ^ p - b) := (dv_pow hp h).sub h
theorem crt_lift (hp : IsP p) {f h c v : Pm p} (hc : Cop h c) (e : f = h * c) (hv : Dv h (v ^ p - v)) : ∃ w, Dv h (w - v) ∧ Dv c w ∧ Dv f (w ^ p - w) := by
  obtain ⟨u, t, e1⟩ := hc
  refine ⟨v * (t * c), ⟨-(v * u), by grind⟩, ⟨v * t, by grind⟩, ?_⟩
  rw [e]
  refine Cop.both ⟨u, t, e1⟩ ?_ (dv_fix hp ⟨v * t, by grind⟩)
  have e2 : v * (t * c) = v - v * u * h := by grind
  rw [e2, frob_sub hp]
  have h2 : Dv h (v * u * h) := ⟨v * u, rfl⟩
  obtain ⟨x, hx⟩ := hv
  obtain ⟨y, hy⟩ := dv_fix hp h2
  exact ⟨x - y, by grind⟩
theorem const_zero {h : Pm p} {d : Nat} {b : Int} (hm : Mon h d) (hd : 1 ≤ d) (hb : Dv h (C b)) : (C b : Pm p) = 0 := by
  obtain ⟨c, hc⟩ := hb
  have : c = 0 := hm.cancel (by rw [← hc]; exact (Dg.C b).mono hd)
  rw [hc, this]; grind
/-- all that is left is made of W: a piece by which each of W is a number -/
theorem smp_all (hp : IsP p) {f h c : Pm p} {m : Nat} {W : Nat → Pm p} (span : ∀ v, Dv f (v ^ p - v) → ∃ a : Nat → Int, Dv f (v - sm m fun j => C (a j) * W j))
    (hc : Cop h c) (e : f = h * c) (hs : ∀ j, j < m → ∃ s : Int, Dv h (W j - C s)) : Smp h := fun v hv => by
  obtain ⟨w, h1, _, h3⟩ := crt_lift hp hc e hv
  obtain ⟨a, ha⟩ := span w h3
  obtain ⟨s, hs⟩ : ∃ s : Nat → Int, ∀ j, j < m → Dv h (W j - C (s j)) := by
    refine ⟨fun j => if hj : j < m then Classical.choose (hs j hj) else 0, fun j hj => ?_⟩
    simp only [hj, dif_pos]
    exact Classical.choose_spec (hs j hj)
  refine ⟨sm m fun j => a j * s j, ?_⟩
  have hd : Dv h f := ⟨c, by grind⟩
  have h4 : Dv h (sm m fun j => C (a j) * W j - C (a j) * C (s j)) := Dv.sm fun j hj => by
    have e : (C (a j) : Pm p) * W j - C (a j) * C (s j) = C (a j) * (W j - C (s j)) := by grind
    rw [e]; exact (hs j hj).mul_l _
  rw [sm_sub] at h4
  have e5 : (C (sm m fun j => a j * s j) : Pm p) = sm m fun j => C (a j) * C (s j) := by
    rw [C_sm]; exact sm_congr fun j _ => C_mul _ _
  rw [e5]
  have h6 := ((hd.trans ha).add h4).sub h1
  obtain ⟨x, hx⟩ := h6
  exact ⟨x, by grind⟩
/-- as many pieces as W has -/
theorem smp_count (hp : IsP p) {f : Pm p} {m : Nat} {W H : Nat → Pm p} (span : ∀ v, Dv f (v ^ p - v) → ∃ a : Nat → Int, Dv f (v - sm m fun j => C (a j) * W j))
    (hm : ∀ i, i < m → ∃ d, 1 ≤ d ∧ Mon (H i) d) (hc : ∀ i, i < m → ∃ c, f = H i * c ∧ Cop (H i) c ∧ ∀ j, j < m → j ≠ i → Dv (H j) c) : ∀ i, i < m → Smp (H i) := by
  intro i0 hi0 v hv
  obtain ⟨c0, f0, cp0, hj0⟩ := hc i0 hi0
  obtain ⟨w, w1, w2, w3⟩ := crt_lift hp cp0 f0 hv
  have hE : ∃ E : Nat → Pm p, ∀ i, i < m → Dv (H i) (E i - 1) ∧ (∀ j, j < m → j ≠ i → Dv (H j) (E i)) ∧ Dv f (E i ^ p - E i) := by
    have h1 : ∀ i, i < m → ∃ e, Dv (H i) (e - 1) ∧ (∀ j, j < m → j ≠ i → Dv (H j) e) ∧ Dv f (e ^ p - e) := fun i hi => by
      obtain ⟨c, f1, cp, hj⟩ := hc i hi
      have h1 : ((1 : Pm p) ^ p - 1) = 0 := by
        have := fermat hp 1
        rw [C_one] at this
        rw [this]; grind
      obtain ⟨e, e1, e2, e3⟩ := crt_lift (v := 1) hp cp f1 (by rw [h1]; exact Dv.zero _)
      exact ⟨e, e1, fun j hj1 hn => (hj j hj1 hn).trans e2, e3⟩
    refine ⟨fun i => if hi : i < m then Classical.choose (h1 i hi) else 0, fun i hi => ?_⟩
    simp only [hi, dif_pos]
    exact Classical.choose_spec (h1 i hi)
  obtain ⟨E, hE⟩ := hE
  let U : Nat → Pm p := fun i => if i < m then E i else w
  have hU : ∀ i, ∃ a : Nat → Int, i < m + 1 → Dv f (U i - sm m fun j => C (a j) * W j) := fun i => by
    by_cases hi : i < m
    · obtain ⟨a, ha⟩ := span (E i) (hE i hi).2.2
      refine ⟨a, fun _ => ?_⟩
      show Dv f ((if i < m then E i else w) - _)
      rw [if_pos hi]; exact ha
    · obtain ⟨a, ha⟩ := span w w3
      refine ⟨a, fun _ => ?_⟩
      show Dv f ((if i < m then E i else w) - _)
      rw [if_neg hi]; exact ha
  let L : Nat → Nat → Int := fun i => Classical.choose (hU i)
  have hL : ∀ i, i < m + 1 → Dv f (U i - sm m fun j => C (L i j) * W j) := fun i => Classical.choose_spec (hU i)
  obtain ⟨b, ⟨ib, hib, hb⟩, hs⟩ := depend hp m L
  have hsum : Dv f (sm (m + 1) fun i => C (b i) * U i) := by
    have h1 : Dv f (sm (m + 1) fun i => C (b i) * U i - C (b i) * sm m fun j => C (L i j) * W j) := Dv.sm fun i hi => by
      have e : (C (b i) : Pm p) * U i - C (b i) * (sm m fun j => C (L i j) * W j) = C (b i) * (U i - sm m fun j => C (L i j) * W j) := by grind
      rw [e]; exact (hL i hi).mul_l _
    rw [sm_sub, sm_assoc] at h1
    rw [sm_zero (n := m) fun j hj => by rw [hs j hj]; grind] at h1
    obtain ⟨x, hx⟩ := h1
    exact ⟨x, by grind⟩
  have e2 : (sm (m + 1) fun i => C (b i) * U i) = sm m (fun i => C (b i) * E i) + C (b m) * w := by
    show sm m (fun i => C (b i) * U i) + C (b m) * U m = _
    have e3 : U m = w := by show (if m < m then E m else w) = w; rw [if_neg (Nat.lt_irrefl _)]
    rw [e3]
    congr 1
    exact sm_congr fun i hi => by
      show C (b i) * (if i < m then E i else w) = _
      rw [if_pos hi]
  rw [e2] at hsum
  have hmod : ∀ i, i < m → Dv (H i) (C (b i) + C (b m) * w) := fun i hi => by
    obtain ⟨c, f1, _, _⟩ := hc i hi
    have hd : Dv (H i) f := ⟨c, by grind⟩
    have h1 : Dv (H i) (sm m fun j => C (b j) * E j - C (b j) * dl j i) := Dv.sm fun j hj => by
      by_cases e : j = i
      · subst e
        have e4 : (C (b j) : Pm p) * E j - C (b j) * dl j j = C (b j) * (E j - 1) := by unfold dl; rw [if_pos rfl]; grind
        rw [e4]; exact (hE j hj).1.mul_l _
      · have e4 : (C (b j) : Pm p) * E j - C (b j) * dl j i = C (b j) * E j := by unfold dl; rw [if_neg e]; grind
        rw [e4]; exact ((hE j hj).2.1 i hi (Ne.symm e)).mul_l _
    rw [sm_sub, sm_dl hi] at h1
    obtain ⟨x, hx⟩ := (hd.trans hsum).sub h1
    exact ⟨x, by grind⟩
  have hz : ∀ i, i < m → i ≠ i0 → (C (b i) : Pm p) = 0 := fun i hi hn => by
    obtain ⟨d, h1, h2⟩ := hm i hi
    refine const_zero h2 h1 ?_
    have h3 := hmod i hi
    have h4 : Dv (H i) (C (b m) * w) := ((hj0 i hi hn).trans w2).mul_l _
    obtain ⟨x, hx⟩ := h3.sub h4
    exact ⟨x, by grind⟩
  have h5 : Dv (H i0) (C (b i0) + C (b m) * v) := by
    obtain ⟨x, hx⟩ := hmod i0 hi0
    obtain ⟨y, hy⟩ := w1
    exact ⟨x - C (b m) * y, by grind⟩
  by_cases hbm : (C (b m) : Pm p) = 0
  · exfalso
    have h6 : (C (b i0) : Pm p) = 0 := by
      obtain ⟨d, h1, h2⟩ := hm i0 hi0
      refine const_zero h2 h1 ?_
      rw [hbm] at h5
      obtain ⟨x, hx⟩ := h5
      exact ⟨x, by grind⟩
    by_cases h7 : ib = m
    · rw [h7] at hb; exact hb hbm
    · by_cases h8 : ib = i0
      · rw [h8] at hb; exact hb h6
      · exact hb (hz ib (by omega) h8)
  · obtain ⟨d, hd⟩ := C_inv hp hbm
    refine ⟨-(d * b i0), ?_⟩
    rw [C_neg, C_mul]
    obtain ⟨x, hx⟩ := h5
    exact ⟨C d * x, by grind⟩
/-! ### a list of pieces -/
theorem pieces_at {f : Pm p} (hs : Cop f (sl f)) : ∀ {Ps : List (Pm p)}, f = prd Ps → ∀ i, i < Ps.length → ∃ c, f = Ps.getD i 1 * c ∧ Cop (Ps.getD i 1) c ∧ ∀ j, j < Ps.length → j ≠ i → Dv (Ps.getD j 1) c := by
  intro Ps e i hi
  have e1 : Ps = Ps.take i ++ Ps[i] :: Ps.drop (i + 1) := by simp
  have e2 : Ps.getD i 1 = Ps[i] := by simp [hi]
  have e3 : f = Ps[i] * (prd (Ps.take i) * prd (Ps.drop (i + 1))) := by
    rw [e]
    have : prd Ps = prd (Ps.take i ++ Ps[i] :: Ps.drop (i + 1)) := by rw [← e1]
    rw [this, prd_append]; simp only [prd]; grind
  refine ⟨prd (Ps.take i) * prd (Ps.drop (i + 1)), by rw [e2]; exact e3, by rw [e2]; exact sq_cop hs e3, fun j hj hn => ?_⟩
  have e4 : Ps.getD j 1 = Ps[j] := by simp [hj]
  rw [e4]
  by_cases h : j < i
  · refine Dv.mul_r _ (mem_dv_prd ?_)
    rw [List.mem_take_iff_getElem]
    exact ⟨j, by omega, rfl⟩
  · refine Dv.mul_l _ (mem_dv_prd ?_)
    rw [List.mem_drop_iff_getElem]
    exact ⟨j - (i + 1), by omega, by congr 1; omega⟩
theorem pieces_pw {f : Pm p} (hs : Cop f (sl f)) {Ps : List (Pm p)} (e : f = prd Ps) : Ps.Pairwise Cop := by
  rw [List.pairwise_iff_getElem]
  intro i j hi hj hij
  obtain ⟨c, _, h2, h3⟩ := pieces_at hs e i hi
  have h4 := h3 j hj (by omega)
  have e4 : Ps.getD j 1 = Ps[j] := by simp [hj]
  have e2 : Ps.getD i 1 = Ps[i] := by simp [hi]
  rw [e4] at h4
  rw [e2] at h2
  exact (h2.symm.of_dv h4).symm
/-! ### a piece parted by what it has in common with w less each number -/
structure PInv (h w : Pm p) (i : Nat) (F : List (Pm p)) : Prop where
  mem : ∀ c ∈ F, ∃ s : Nat, s < i ∧ Dv c h ∧ Dv c (w - C s)
  pw : F.Pairwise Cop
  comb : ∃ a b, prd F = a * h + b * prd (lessAll w i)
theorem PInv.start (h w : Pm p) : PInv h w 0 [] := ⟨fun c hc => (by cases hc), List.Pairwise.nil, 0, 1, by simp only [prd, lessAll]; grind⟩
theorem lessAll_succ (w : Pm p) (i : Nat) : prd (lessAll w (i + 1)) = prd (lessAll w i) * (w - C i) := by rw [lessAll, prd_append]; simp only [prd]; grind
theorem PInv.keep {h w c : Pm p} {i : Nat} {F : List (Pm p)} (P : PInv h w i F) (hp : IsP p) (hi : i < p) (h1 : Dv c h) (h2 : Dv c (w - C i)) (h3 : ∃ a b, c = a * h + b * (w - C i)) : PInv h w (i + 1) (F ++ [c]) := by
  refine ⟨fun d hd => ?_, ?_, ?_⟩
  · rcases List.mem_append.mp hd with hd | hd
    · obtain ⟨s, hs, h4, h5⟩ := P.mem d hd
      exact ⟨s, by omega, h4, h5⟩
    · rw [List.mem_singleton.mp hd]; exact ⟨i, by omega, h1, h2⟩
  · rw [List.pairwise_append]
    refine ⟨P.pw, List.pairwise_singleton _ _, fun a ha b hb => ?_⟩
    rw [List.mem_singleton.mp hb]
    obtain ⟨s, hs, _, h5⟩ := P.mem a ha
    exact ((less_cop hp w (show s < p by omega) hi (by omega)).of_dv h5).symm.of_dv h2 |>.symm
  · obtain ⟨a, b, e⟩ := P.comb
    obtain ⟨a', b', e'⟩ := h3
    refine ⟨a * c + b * prd (lessAll w i) * a', b * b', ?_⟩
    rw [prd_append, lessAll_succ, e]
    simp only [prd]
    rw [e']; grind
theorem PInv.skip {h w c : Pm p} {i : Nat} {F : List (Pm p)} (P : PInv h w i F) (hc : c = 1) (h3 : ∃ a b, c = a * h + b * (w - C i)) : PInv h w (i + 1) F := by
  refine ⟨fun d hd => ?_, P.pw, ?_⟩
  · obtain ⟨s, hs, h4, h5⟩ := P.mem d hd
    exact ⟨s, by omega, h4, h5⟩
  · obtain ⟨a, b, e⟩ := P.comb
    obtain ⟨a', b', e'⟩ := h3
    refine ⟨a + b * prd (lessAll w i) * a', b * b', ?_⟩
    have e2 : prd F = prd F * c := by rw [hc]; grind
    rw [e2, lessAll_succ, e, e']
    have : (a * h + b * prd (lessAll w i)) * (a' * h + b' * (w - C i)) = a * h * c + b * prd (lessAll w i) * (a' * h + b' * (w - C i)) := by rw [e']; grind
    rw [this, hc]; grind
theorem PInv.dv {h w : Pm p} {i : Nat} {F : List (Pm p)} (P : PInv h w i F) : Dv (prd F) h := prd_dv P.pw fun c hc => by
  obtain ⟨s, _, h1, _⟩ := P.mem c hc
  exact h1
theorem PInv.full {h w : Pm p} {F : List (Pm p)} (P : PInv h w p F) (hp : IsP p) (hw : Dv h (w ^ p - w)) : Dv h (prd F) := by
  obtain ⟨a, b, e⟩ := P.comb
  rw [lessAll_prd hp] at e
  rw [e]
  exact (Dv.mul_l a (Dv.refl h)).add (hw.mul_l b)
/-! ### the powering -/
theorem frob_sm (hp : IsP p) (n : Nat) (a : Nat → Int) (e : Nat → Nat) : (sm n fun k => (C (a k) : Pm p) * X ^ e k) ^ p = sm n fun k => C (a k) * X ^ (p * e k) := by
  induction n with
  | zero =>
    have := frob hp []
    rw [cl_nil, frL] at this
    exact this
  | succ n ih =>
    show (sm n (fun k => (C (a k) : Pm p) * X ^ e k) + C (a n) * X ^ e n) ^ p = sm n (fun k => C (a k) * X ^ (p * e k)) + C (a n) * X ^ (p * e n)
    rw [frob_add hp, ih, frob_scl hp, ← pow_mul, Nat.mul_comm]
theorem sm_dg (n : Nat) (a : Nat → Int) : Dg (sm n fun k => (C (a k) : Pm p) * X ^ k) n := Dg.sm fun i hi => ((Dg.X i).mono (by omega)).Cmul _
theorem sm_coef : ∀ (n : Nat) (a : Nat → Int), (sm n fun k => (C (a k) : Pm p) * X ^ k) = 0 → ∀ k, k < n → (C (a k) : Pm p) = 0
  | 0, _, _, k, hk => by omega
  | n + 1, a, h, k, hk => by
    obtain ⟨l, hl, el⟩ := sm_dg (p := p) n a
    have h1 : (C (a n) : Pm p) = 0 := C_eq0.mpr (dg_coefs (f := l) (n := n) (by
      have : cl p l + X ^ n * C (a n) = 0 := by
        rw [el, ← h]
        show _ = sm n (fun k => (C (a k) : Pm p) * X ^ k) + C (a n) * X ^ n
        grind
      rw [this]; exact Dg.zero.mono (Nat.zero_le _)) hl)
    by_cases e : k = n
    · rw [e]; exact h1
    · refine sm_coef n a ?_ k (by omega)
      have h2 : sm n (fun k => (C (a k) : Pm p) * X ^ k) + C (a n) * X ^ n = 0 := h
      rw [h1] at h2
      grind
theorem dg_sm : ∀ {n : Nat} {u : Pm p}, Dg u n → ∃ a : Nat → Int, u = sm n fun k => C (a k) * X ^ k := by
  intro n u h
  obtain ⟨f, hf, rfl⟩ := h
  refine ⟨co f, ?_⟩
  have h0 : ∀ (n : Nat) (f : List Int), f.length = n → cl p f = sm n fun k => C (co f k) * X ^ k := fun n => by
    induction n with
    | zero =>
      intro f hf
      rw [List.length_eq_zero_iff.mp hf]
      exact cl_nil
    | succ n ih =>
      intro f hf
      have hne : f ≠ [] := fun z => by rw [z] at hf; cases hf
      obtain ⟨g, a, rfl⟩ : ∃ g a, f = g ++ [a] := ⟨f.dropLast, f.getLast hne, (List.dropLast_concat_getLast hne).symm⟩
      have hg : g.length = n := by simpa using hf
      rw [cl_append, hg]
      show cl p g + X ^ n * C a = sm n (fun k => (C (co (g ++ [a]) k) : Pm p) * X ^ k) + C (co (g ++ [a]) n) * X ^ n
      have hl := co_last g a
      rw [hg] at hl
      rw [hl, ih g hg, pmul_comm]
      congr 1
      exact sm_congr fun k hk => by
        have : co (g ++ [a]) k = co g k := by
          unfold co
          rw [List.getD_eq_getElem?_getD, List.getD_eq_getElem?_getD, List.getElem?_append_left (by omega)]
        rw [this]
  have h1 : ∀ f : List Int, cl p f = sm f.length fun k => C (co f k) * X ^ k := fun f => h0 _ f rfl
  rw [h1]
  have h2 : ∀ t, (sm (f.length + t) fun k => (C (co f k) : Pm p) * X ^ k) = sm f.length fun k => C (co f k) * X ^ k := fun t => by
    induction t with
    | zero => rfl
    | succ t ih =>
      show sm (f.length + t) _ + C (co f (f.length + t)) * X ^ (f.length + t) = _
      rw [ih, co_ge (by omega), C_zero]; grind
  have := h2 (n - f.length)
  rw [show f.length + (n - f.length) = n by omega] at this
  rw [this]
theorem dv_dg {f u : Pm p} {n : Nat} (hm : Mon f n) (h : Dv f u) (hd : Dg u n) : u = 0 := by
  obtain ⟨c, hc⟩ := h
  have : c = 0 := hm.cancel (by rw [← hc]; exact hd)
  rw [hc, this]; grind
/-- x^p - x of a sum of powers, by the table -/
theorem phi (hp : IsP p) {f : Pm p} {n m : Nat} {e : Nat → Nat} {M : Nat → Nat → Int} (hM : ∀ k, k < n → Dv f (X ^ (p * e k) - X ^ e k - sm m fun j => C (M k j) * X ^ j)) (v : Nat → Int) :
    Dv f ((sm n fun k => C (v k) * X ^ e k) ^ p - (sm n fun k => C (v k) * X ^ e k) - sm m fun j => C (sm n fun k => v k * M k j) * X ^ j) := by
  have h1 : Dv f (sm n fun k => C (v k) * (X ^ (p * e k) - X ^ e k - sm m fun j => C (M k j) * X ^ j)) := Dv.sm fun k hk => (hM k hk).mul_l _
  have e1 : (sm n fun k => (C (v k) : Pm p) * (X ^ (p * e k) - X ^ e k - sm m fun j => C (M k j) * X ^ j)) =
      (sm n fun k => C (v k) * X ^ (p * e k)) - (sm n fun k => C (v k) * X ^ e k) - sm n fun k => C (v k) * sm m fun j => C (M k j) * X ^ j := by
    rw [← sm_sub, ← sm_sub]
    exact sm_congr fun k _ => by grind
  rw [e1, sm_assoc] at h1
  rw [frob_sm hp]
  have e2 : (sm m fun j => (C (sm n fun k => v k * M k j) : Pm p) * X ^ j) = sm m fun j => (sm n fun k => (C (v k) : Pm p) * C (M k j)) * X ^ j := sm_congr fun j _ => by
    rw [C_sm]
    congr 1
    exact sm_congr fun k _ => C_mul _ _
  rw [e2]; exact h1
section
variable {n : Nat} {f : Pm p} {M F T B : Nat → Nat → Int} {r : Nat} {piv : Nat → Nat}
theorem fix_iff (hp : IsP p) {m : Nat} {e : Nat → Nat} (hm : Mon f m) (hM : ∀ k, k < n → Dv f (X ^ (p * e k) - X ^ e k - sm m fun j => C (M k j) * X ^ j)) (v : Nat → Int) :
    Dv f ((sm n fun k => C (v k) * X ^ e k) ^ p - sm n fun k => C (v k) * X ^ e k) ↔ ∀ j, j < m → sm n (fun k => (C (v k) : Pm p) * C (M k j)) = 0 := by
  have h1 := phi hp hM v
  have hc : ∀ j, (C (sm n fun k => v k * M k j) : Pm p) = sm n fun k => C (v k) * C (M k j) := fun j => by
    rw [C_sm]; exact sm_congr fun k _ => C_mul _ _
  constructor
  · intro h j hj
    have h2 : Dv f (sm m fun j => C (sm n fun k => v k * M k j) * X ^ j) := by
      obtain ⟨x, hx⟩ := h.sub h1
      exact ⟨x, by grind⟩
    have h3 := sm_coef m _ (dv_dg hm h2 (sm_dg m _)) j hj
    rw [← hc]; exact h3
  · intro h
    have h2 : (sm m fun j => (C (sm n fun k => v k * M k j) : Pm p) * X ^ j) = 0 := sm_zero fun j hj => by rw [hc, h j hj]; grind
    rw [h2] at h1
    obtain ⟨x, hx⟩ := h1
    exact ⟨x, by grind⟩
/-- the ways: rows from r on -/
def wayP (n : Nat) (T : Nat → Nat → Int) (i : Nat) : Pm p := sm n fun k => C (T i k) * X ^ k
theorem way_fix (hp : IsP p) (hm : Mon f n) (hM : ∀ k, k < n → Dv f (X ^ (p * k) - X ^ k - sm n fun j => C (M k j) * X ^ j)) (E : Ech p n n M F T B r piv) {i : Nat} (h : r ≤ i) (hi : i < n) :
    Dv f (wayP n T i ^ p - wayP n T i) := (fix_iff (e := fun k => k) hp hm hM (T i)).mpr (E.null h hi)
theorem way_span (hp : IsP p) (hm : Mon f n) (hM : ∀ k, k < n → Dv f (X ^ (p * k) - X ^ k - sm n fun j => C (M k j) * X ^ j)) (E : Ech p n n M F T B r piv) (v : Pm p) (hv : Dv f (v ^ p - v)) :
    ∃ a : Nat → Int, Dv f (v - sm (n - r) fun j => C (a j) * wayP n T (r + j)) := by
  obtain ⟨q, t, e, ht⟩ := hm.divide v
  obtain ⟨a, ea⟩ := dg_sm ht
  have h1 : Dv f (t ^ p - t) := by
    have h2 : Dv f (q * f) := ⟨q, rfl⟩
    have e2 : t = v - q * f := by grind
    rw [e2, frob_sub hp]
    obtain ⟨x, hx⟩ := hv
    obtain ⟨y, hy⟩ := dv_fix hp h2
    exact ⟨x - y, by grind⟩
  rw [ea] at h1
  obtain ⟨u, hu⟩ := E.span ((fix_iff (e := fun k => k) hp hm hM a).mp h1)
  refine ⟨u, q, ?_⟩
  have e3 : (sm (n - r) fun j => (C (u j) : Pm p) * wayP n T (r + j)) = t := by
    unfold wayP
    rw [sm_assoc, ea]
    exact sm_congr fun j hj => by rw [hu j hj]
  rw [e3]; grind
/-- by a piece that parts no further all rows but the first are other than nought -/
theorem full_rank (hp : IsP p) {h : Pm p} {d : Nat} (hm : Mon h d) (hd : 1 ≤ d) (hs : Smp h) (hM : ∀ k, k < d - 1 → Dv h (X ^ (p * (k + 1)) - X ^ (k + 1) - sm d fun j => C (M k j) * X ^ j)) (E : Ech p (d - 1) d M F T B r piv) : r = d - 1 := by
  by_cases hr : r = d - 1
  · exact hr
  · exfalso
    have hlt : r < d - 1 := by have := E.rn; omega
    have h1 := (fix_iff (e := fun k => k + 1) hp hm hM (T r)).mpr (E.null (Nat.le_refl r) hlt)
    obtain ⟨c, hc⟩ := hs _ h1
    have hdg : Dg ((sm (d - 1) fun k => (C (T r k) : Pm p) * X ^ (k + 1)) - C c) d := by
      refine Dg.sub' (Dg.sm fun i hi => ?_) ((Dg.C c).mono hd)
      exact ((Dg.X (i + 1)).mono (by omega)).Cmul _
    have h2 := dv_dg hm hc hdg
    have h3 : (sm d fun k => (C ((fun k => if k = 0 then -c else T r (k - 1)) k) : Pm p) * X ^ k) = 0 := by
      obtain ⟨t, rfl⟩ : ∃ t, d = t + 1 := ⟨d - 1, by omega⟩
      rw [sm_skip (i0 := 0) _ (Nat.zero_le _)]
      have e1 : (sm t fun i => (C ((fun k => if k = 0 then -c else T r (k - 1)) (skp 0 i)) : Pm p) * X ^ skp 0 i) = sm (t + 1 - 1) fun k => C (T r k) * X ^ (k + 1) := sm_congr fun i _ => rfl
      rw [e1]
      have e2 : (C ((fun k => if k = 0 then -c else T r (k - 1)) 0) : Pm p) * X ^ 0 = -C c := by
        show (C (-c) : Pm p) * X ^ 0 = -C c
        rw [C_neg]; grind
      rw [e2, ← h2]; grind
    have h4 := sm_coef d _ h3
    obtain ⟨k, hk, hne⟩ := E.nonzero hp hlt
    have h5 := h4 (k + 1) (by omega)
    simp only [Nat.succ_ne_zero, if_false, Nat.add_sub_cancel] at h5
    exact hne h5
end
end FF
end
section
set_option autoImplicit false
/-! FM6: pieces lifted. -/
namespace FF
variable {M m : Int}
/-- what holds by M holds by what goes into M -/
theorem cl_down {f g : List Int} (hd : m ∣ M) (h : cl M f = cl M g) : cl m f = cl m g := cl_iff.mpr fun k => Int.dvd_trans hd (cl_iff.mp h k)
theorem cl_mult {l : List Int} (h : cl m l = 0) : ∃ v : Pm M, cl M l = C m * v := by
  rw [← cl_nil, cl_iff] at h
  refine ⟨cl M (l.map (· / m)), ?_⟩
  rw [← cl_scl, cl_iff]
  intro k
  rw [co_scl]
  have h1 := h k
  rw [co_nil, Int.sub_zero] at h1
  have : co (l.map (· / m)) k = co l k / m := by
    unfold co
    rw [List.getD_eq_getElem?_getD, List.getD_eq_getElem?_getD, List.getElem?_map]
    cases l[k]? <;> simp
  rw [this, Int.mul_ediv_cancel' h1]
  exact ⟨0, by omega⟩
theorem mult_cl {l : List Int} (hd : m ∣ M) {v : Pm M} (h : cl M l = C m * v) : cl m l = 0 := by
  obtain ⟨f, rfl⟩ := cl_ex v
  rw [← cl_scl] at h
  rw [cl_down hd h, cl_scl, C_N]; grind
theorem sq_zero (h2 : M ∣ m * m) : (C m : Pm M) * C m = 0 := by rw [← C_mul]; exact C_eq0.mpr h2
/-- quotient and rest of a multiple of m are multiples of m -/
theorem div_mult {h u q r : Pm M} {d : Nat} (hh : Mon h d) (e : C m * u = q * h + r) (hr : Dg r d) : (∃ q', q = C m * q') ∧ ∃ r', r = C m * r' := by
  obtain ⟨q', r', e', hr'⟩ := hh.divide u
  have h1 : (q - C m * q') * h = C m * r' - r := by rw [e'] at e; grind
  have h2 : q - C m * q' = 0 := hh.cancel (by rw [h1]; exact (hr'.Cmul m).sub' hr)
  refine ⟨⟨q', by grind⟩, ⟨r', ?_⟩⟩
  rw [h2] at h1
  grind
theorem better_gh {f g h s t e q r e' w : Pm M} {d : Nat} (h2 : M ∣ m * m) (hh : Mon h d) (he : e = f - g * h) (hem : e = C m * e') (hst : s * g + t * h = 1 + C m * w) (hdiv : s * e = q * h + r) (hr : Dg r d) :
    (g + (t * e + q * g)) * (h + r) = f ∧ (∃ x, t * e + q * g = C m * x) ∧ ∃ y, r = C m * y := by
  have hz := sq_zero (M := M) h2
  obtain ⟨⟨q', hq⟩, ⟨r', hr'⟩⟩ := div_mult (m := m) (u := s * e') hh (by rw [← hdiv, hem]; grind) hr
  refine ⟨?_, ⟨t * e' + q' * g, by rw [hq, hem]; grind⟩, ⟨r', hr'⟩⟩
  have h3 : (g + (t * e + q * g)) * (h + r) = g * h + e * (s * g + t * h) + r * (t * e + q * g) := by
    have : (g + (t * e + q * g)) * (h + r) = g * h + g * (q * h + r) + t * h * e + r * (t * e + q * g) := by grind
    rw [this, ← hdiv]; grind
  rw [h3, hst]
  have h4 : r * (t * e + q * g) = 0 := by
    rw [hr', hem, hq]
    have : C m * r' * (t * (C m * e') + C m * q' * g) = C m * C m * (r' * (t * e' + q' * g)) := by grind
    rw [this, hz]; grind
  have h5 : e * (C m * w) = 0 := by
    rw [hem]
    have : C m * e' * (C m * w) = C m * C m * (e' * w) := by grind
    rw [this, hz]; grind
  rw [h4]
  have : g * h + e * (1 + C m * w) + 0 = g * h + e + e * (C m * w) := by grind
  rw [this, h5, he]; grind
theorem better_st {g h s t b q r b' : Pm M} {d : Nat} (h2 : M ∣ m * m) (hh : Mon h d) (hb : b = s * g + t * h - 1) (hbm : b = C m * b') (hdiv : s * b = q * h + r) (hr : Dg r d) :
    (s - r) * g + (t - t * b - q * g) * h = 1 ∧ (∃ y, r = C m * y) ∧ ∃ x, t * b + q * g = C m * x := by
  have hz := sq_zero (M := M) h2
  obtain ⟨⟨q', hq⟩, ⟨r', hr'⟩⟩ := div_mult (m := m) (u := s * b') hh (by rw [← hdiv, hbm]; grind) hr
  refine ⟨?_, ⟨r', hr'⟩, ⟨t * b' + q' * g, by rw [hq, hbm]; grind⟩⟩
  have h3 : (s - r) * g + (t - t * b - q * g) * h = (s * g + t * h) - g * (q * h + r) - t * b * h := by grind
  rw [h3, ← hdiv]
  have h4 : s * g + t * h = 1 + b := by rw [hb]; grind
  have h5 : s * g + t * h - g * (s * b) - t * b * h = (s * g + t * h) - b * (s * g + t * h) := by grind
  rw [h5, h4]
  have h6 : b * b = 0 := by
    rw [hbm]
    have : C m * b' * (C m * b') = C m * C m * (b' * b') := by grind
    rw [this, hz]; grind
  have h7 : 1 + b - b * (1 + b) = 1 - b * b := by grind
  rw [h7, h6]; grind
/-- what leaves the lead 1 when multiplied with such a one has it -/
theorem Mon.quot {f g h : Pm M} {n d : Nat} (hf : Mon f n) (hh : Mon h d) (e : f = g * h) (h1 : ¬ M ∣ 1) : d ≤ n ∧ Mon g (n - d) := by
  have hdn := Mon.le_of_dvd hf hh e h1
  refine ⟨hdn, ?_⟩
  obtain ⟨l, hl, rfl⟩ : ∃ l, Cn M l ∧ cl M l = g := by
    obtain ⟨l, rfl⟩ := cl_ex g
    exact ⟨tr M l, tr_Cn l, cl_tr l⟩
  have hf2 := hf
  obtain ⟨a, ⟨fl, hfl, efl⟩, ea⟩ := hf2
  rcases hl.top with e0 | ⟨l0, c, e0, hc⟩
  · exfalso
    rw [e0, cl_nil] at e
    have : f = 0 := by rw [e]; grind
    have h2 : Dg (cl M fl + X ^ n * C 1) n := by
      have e3 : cl M fl + X ^ n * C 1 = f := by rw [efl, ea, C_one]; grind
      rw [e3, this]; exact Dg.zero.mono (Nat.zero_le _)
    exact h1 (dg_coefs h2 hfl)
  · obtain ⟨b, hb, eb⟩ := hh
    have hlow : Dg (cl M l0 * X ^ d + cl M l * b) (l0.length + d) := by
      refine Dg.add' ?_ ?_
      · have := (Dg.of_cl (N := M) l0).Xmul d
        rw [pmul_comm] at this
        exact this.mono (by omega)
      · have := (Dg.of_cl (N := M) l).mul hb
        rw [e0] at this
        rw [e0]
        exact this.mono (by simp <;> omega)
    obtain ⟨lw, hlw, elw⟩ := hlow
    have e4 : f = cl M lw + X ^ (l0.length + d) * C c := by
      rw [e, eb, elw, pow_add]
      have : cl M l = cl M l0 + X ^ l0.length * C c := by rw [e0, cl_append]; rfl
      rw [this]; grind
    have hred := hl.red c (by rw [e0]; simp)
    have hc2 : ¬ M ∣ c := fun z => hc (by rw [← hred]; exact Int.emod_eq_zero_of_dvd z)
    have hle : l0.length + d ≤ n := by
      by_cases h3 : l0.length + d ≤ n
      · exact h3
      · exfalso
        exact hc2 (dg_coefs (f := lw) (n := l0.length + d) (by rw [← e4]; exact hf.dg.mono (by omega)) hlw)
    have hge : n ≤ l0.length + d := by
      by_cases h3 : n ≤ l0.length + d
      · exact h3
      · exfalso
        have h5 : Dg (cl M fl + X ^ n * C 1) n := by
          have e5 : cl M fl + X ^ n * C 1 = f := by rw [efl, ea, C_one]; grind
          rw [e5, e4]
          exact (Dg.mono ⟨lw, hlw, rfl⟩ (by omega)).add' (((Dg.X _).mul (Dg.C c)).mono (by omega))
        exact h1 (dg_coefs h5 hfl)
    have heq : l0.length + d = n := by omega
    have hc3 : (C c : Pm M) = 1 := by
      have h5 : Dg (cl M fl + X ^ n * C (1 - c)) n := by
        have e5 : cl M fl + X ^ n * C (1 - c) = cl M lw := by
          rw [C_sub, C_one, efl]
          rw [heq] at e4
          have : a = f - X ^ n := by rw [ea]; grind
          rw [this, e4]; grind
        rw [e5]; exact Dg.mono ⟨lw, hlw, rfl⟩ (by omega)
      have := C_eq0.mpr (dg_coefs h5 hfl)
      rw [C_sub, C_one] at this
      grind
    refine ⟨cl M l0, (Dg.of_cl l0).mono (by omega), ?_⟩
    have e6 : cl M l = cl M l0 + X ^ l0.length * C c := by rw [e0, cl_append]; rfl
    rw [e6, hc3, show n - d = l0.length by omega]; grind
/-- a list in form whose class has the lead 1 ends with 1 -/
theorem mon_list {l : List Int} {n : Nat} (hl : Cn M l) (hm : Mon (cl M l) n) (h1 : 1 % M = 1) : ∃ l0, l = l0 ++ [1] ∧ l0.length = n := by
  obtain ⟨f, hf, e⟩ := hm.list
  have hc : Cn M (f.map (· % M) ++ [1]) := ⟨fun a ha => by
    rcases List.mem_append.mp ha with ha | ha
    · obtain ⟨b, _, rfl⟩ := List.mem_map.mp ha
      exact Int.emod_emod b M
    · rw [List.mem_singleton.mp ha]; exact h1, .inr ⟨_, 1, rfl, by omega⟩⟩
  have e2 : cl M (f.map (· % M) ++ [1]) = cl M l := by
    rw [← e, cl_append, cl_append, cl_mapmod, List.length_map]
  exact ⟨_, hl.eq hc e2.symm, by simpa using hf⟩
end FF
end
section
set_option autoImplicit false
/-! FM7: row operations keep what turns a table. -/
namespace FF
/-- F is T times M; T can be turned back -/
structure EB (p n m : Nat) (M F T : Nat → Nat → Int) : Prop where
  ft : ∀ i, i < n → ∀ j, j < m → (C (F i j) : Pm p) = sm n fun k => C (T i k) * C (M k j)
  b : ∃ B : Nat → Nat → Pm p, (∀ i j, ∃ z : Int, B i j = C z) ∧ (∀ i, i < n → ∀ j, j < n → sm n (fun k => B i k * C (T k j)) = dl i j) ∧ ∀ i, i < n → ∀ j, j < n → sm n (fun k => C (T i k) * B k j) = dl i j
section
variable {p n m : Nat} {M F T F' T' : Nat → Nat → Int}
theorem sm_at {k : Nat} (hk : k < n) (c : Pm p) : sm n (fun i => dl i k * c) = c := by
  rw [sm_one hk fun i _ hn => by unfold dl; rw [if_neg hn]; grind]
  unfold dl; rw [if_pos rfl]; grind
/-- a row and a multiple of another one -/
theorem EB.addm (E : EB p n m M F T) {k t : Nat} {x : Int} (hk : k < n) (ht : t < n) (hkt : k ≠ t)
    (hF : ∀ i, i < n → ∀ j, j < m → (C (F' i j) : Pm p) = if i = k then C (F k j) + C x * C (F t j) else C (F i j))
    (hT : ∀ i, i < n → ∀ j, j < n → (C (T' i j) : Pm p) = if i = k then C (T k j) + C x * C (T t j) else C (T i j)) : EB p n m M F' T' := by
  obtain ⟨B, bc, bt, tb⟩ := E.b
  refine ⟨fun i hi j hj => ?_, fun i j => if j = t then B i t - C x * B i k else B i j, fun i j => ?_, fun i hi j hj => ?_, fun i hi j hj => ?_⟩
  · rw [hF i hi j hj]
    by_cases e : i = k
    · subst e
      rw [if_pos rfl, E.ft i hi j hj, E.ft t ht j hj, ← sm_mul, ← sm_add]
      exact sm_congr fun l hl => by rw [hT i hi l hl, if_pos rfl]; grind
    · rw [if_neg e, E.ft i hi j hj]
      exact sm_congr fun l hl => by rw [hT i hi l hl, if_neg e]
  · obtain ⟨z1, h1⟩ := bc i t
    obtain ⟨z2, h2⟩ := bc i k
    obtain ⟨z3, h3⟩ := bc i j
    by_cases e : j = t
    · exact ⟨z1 - x * z2, by dsimp only; rw [if_pos e, C_sub, C_mul, h1, h2]⟩
    · exact ⟨z3, by dsimp only; rw [if_neg e, h3]⟩
  · rw [← bt i hi j hj]
    have : sm n (fun l => (if l = t then B i t - C x * B i k else B i l) * C (T' l j)) = sm n fun l => (B i l * C (T l j) + dl l k * (B i k * C x * C (T t j))) - dl l t * (C x * B i k * C (T t j)) := sm_congr fun l hl => by
      rw [hT l hl j hj]
      unfold dl
      by_cases e1 : l = t
      · subst e1
        rw [if_pos rfl, if_neg (Ne.symm hkt), if_neg (Ne.symm hkt), if_pos rfl]; grind
      · by_cases e2 : l = k
        · subst e2
          rw [if_neg e1, if_pos rfl, if_pos rfl, if_neg e1]; grind
        · rw [if_neg e1, if_neg e2, if_neg e2, if_neg e1]; grind
    rw [this, sm_sub, sm_add, sm_at hk, sm_at ht]; grind
  · have h1 : ∀ i, i < n → ∀ l, l < n → (C (T' i l) : Pm p) = C (T i l) + (dl i k : Pm p) * (C x * C (T t l)) := fun i hi l hl => by
      rw [hT i hi l hl]
      unfold dl
      by_cases e : i = k
      · subst e; rw [if_pos rfl, if_pos rfl]; grind
      · rw [if_neg e, if_neg e]; grind
    have : sm n (fun l => C (T' i l) * (if j = t then B l t - C x * B l k else B l j)) = (sm n (fun l => C (T i l) * B l j) + (dl i k : Pm p) * C x * sm n (fun l => C (T t l) * B l j)) - (dl j t : Pm p) * C x * (sm n (fun l => C (T i l) * B l k) + (dl i k : Pm p) * C x * sm n (fun l => C (T t l) * B l k)) := by
      rw [← sm_mul, ← sm_mul, ← sm_add, ← sm_add, ← sm_mul, ← sm_sub]
      refine sm_congr fun l hl => ?_
      rw [h1 i hi l hl]
      by_cases e : j = t
      · subst e
        have : (dl j j : Pm p) = 1 := by unfold dl; rw [if_pos rfl]
        rw [if_pos rfl, this]; grind
      · have : (dl j t : Pm p) = 0 := by unfold dl; rw [if_neg e]
        rw [if_neg e, this]; grind
    rw [this, tb i hi j hj, tb t ht j hj, tb i hi k hk, tb t ht k hk]
    have h0 : (dl t k : Pm p) = 0 := by unfold dl; rw [if_neg (Ne.symm hkt)]
    rw [h0]
    by_cases e1 : i = k
    · subst e1
      have h2 : (dl i i : Pm p) = 1 := by unfold dl; rw [if_pos rfl]
      have h3 : (dl t j : Pm p) = dl j t := by
        unfold dl
        by_cases e : t = j
        · rw [if_pos e, if_pos e.symm]
        · rw [if_neg e, if_neg (Ne.symm e)]
      rw [h2, h3]; grind
    · have h2 : (dl i k : Pm p) = 0 := by unfold dl; rw [if_neg e1]
      rw [h2]; grind
/-- a row taken with a number that can be turned -/
theorem EB.scale (E : EB p n m M F T) {t : Nat} {x y : Int} (ht : t < n) (hxy : (C x : Pm p) * C y = 1)
    (hF : ∀ i, i < n → ∀ j, j < m → (C (F' i j) : Pm p) = if i = t then C x * C (F t j) else C (F i j))
    (hT : ∀ i, i < n → ∀ j, j < n → (C (T' i j) : Pm p) = if i = t then C x * C (T t j) else C (T i j)) : EB p n m M F' T' := by
  obtain ⟨B, bc, bt, tb⟩ := E.b
  refine ⟨fun i hi j hj => ?_, fun i j => if j = t then C y * B i t else B i j, fun i j => ?_, fun i hi j hj => ?_, fun i hi j hj => ?_⟩
  · rw [hF i hi j hj]
    by_cases e : i = t
    · subst e
      rw [if_pos rfl, E.ft i hi j hj, ← sm_mul]
      exact sm_congr fun l hl => by rw [hT i hi l hl, if_pos rfl]; grind
    · rw [if_neg e, E.ft i hi j hj]
      exact sm_congr fun l hl => by rw [hT i hi l hl, if_neg e]
  · obtain ⟨z1, h1⟩ := bc i t
    obtain ⟨z3, h3⟩ := bc i j
    by_cases e : j = t
    · exact ⟨y * z1, by dsimp only; rw [if_pos e, C_mul, h1]⟩
    · exact ⟨z3, by dsimp only; rw [if_neg e, h3]⟩
  · rw [← bt i hi j hj]
    refine sm_congr fun l hl => ?_
    rw [hT l hl j hj]
    by_cases e : l = t
    · subst e; dsimp only; rw [if_pos rfl, if_pos rfl]; grind
    · dsimp only; rw [if_neg e, if_neg e]
  · have h1 : sm n (fun l => C (T' i l) * (if j = t then C y * B l t else B l j)) = (if i = t then C x else 1) * (if j = t then C y else 1) * sm n fun l => C (T i l) * B l j := by
      rw [← sm_mul]
      refine sm_congr fun l hl => ?_
      rw [hT i hi l hl]
      by_cases e : i = t
      · subst e
        by_cases e2 : j = i
        · subst e2; simp only [if_true]; grind
        · simp only [if_true, e2, if_false]; grind
      · by_cases e2 : j = t
        · subst e2; simp only [if_true, e, if_false]; grind
        · simp only [e, e2, if_false]; grind
    rw [h1, tb i hi j hj]
    unfold dl
    by_cases e : i = j
    · subst e
      by_cases e2 : i = t
      · simp only [e2, if_true]; grind
      · simp only [e2, if_false, if_true]; grind
    · rw [if_neg e]; grind
def sw2 (a b i : Nat) : Nat := if i = a then b else if i = b then a else i
theorem sw2_sw2 (a b i : Nat) : sw2 a b (sw2 a b i) = i := by
  unfold sw2
  by_cases h1 : i = a
  · subst h1
    by_cases h2 : b = i
    · simp [h2]
    · simp [h2]
  · by_cases h2 : i = b
    · subst h2; simp [h1]
    · simp [h1, h2]
theorem sw2_lt {a b i : Nat} (ha : a < n) (hb : b < n) (hi : i < n) : sw2 a b i < n := by
  unfold sw2
  by_cases h1 : i = a
  · rw [if_pos h1]; exact hb
  · by_cases h2 : i = b
    · rw [if_neg h1, if_pos h2]; exact ha
    · rw [if_neg h1, if_neg h2]; exact hi
theorem sm_sw {a b : Nat} (ha : a < n) (hb : b < n) (f : Nat → Pm p) : sm n (fun i => f (sw2 a b i)) = sm n f := by
  have : sm n (fun i => f (sw2 a b i)) = sm n fun i => (f i + dl i a * (f b - f a)) + dl i b * (f a - f b) := sm_congr fun i hi => by
    unfold sw2 dl
    by_cases h1 : i = a
    · subst h1
      by_cases h2 : i = b
      · subst h2; simp only [if_true]; grind
      · simp only [if_true, h2, if_false]; grind
    · by_cases h2 : i = b
      · subst h2; simp only [if_true, h1, if_false]; grind
      · simp only [h1, h2, if_false]; grind
  rw [this, sm_add, sm_add, sm_at ha, sm_at hb]; grind
theorem EB.swap (E : EB p n m M F T) {a b : Nat} (ha : a < n) (hb : b < n) (hF : ∀ i, i < n → ∀ j, j < m → F' i j = F (sw2 a b i) j) (hT : ∀ i, i < n → ∀ j, j < n → T' i j = T (sw2 a b i) j) : EB p n m M F' T' := by
  obtain ⟨B, bc, bt, tb⟩ := E.b
  refine ⟨fun i hi j hj => ?_, fun i j => B i (sw2 a b j), fun i j => bc _ _, fun i hi j hj => ?_, fun i hi j hj => ?_⟩
  · rw [hF i hi j hj, E.ft _ (sw2_lt ha hb hi) j hj]
    exact sm_congr fun l hl => by rw [hT i hi l hl]
  · rw [← bt i hi j hj, ← sm_sw ha hb fun l => B i l * C (T l j)]
    exact sm_congr fun l hl => by rw [hT l hl j hj]
  · have h1 := tb _ (sw2_lt ha hb hi) _ (sw2_lt ha hb hj)
    have h2 : sm n (fun l => C (T' i l) * B l (sw2 a b j)) = dl (sw2 a b i) (sw2 a b j) := by
      rw [← h1]
      exact sm_congr fun l hl => by rw [hT i hi l hl]
    rw [h2]
    unfold dl
    by_cases e : i = j
    · subst e; rw [if_pos rfl, if_pos rfl]
    · have : sw2 a b i ≠ sw2 a b j := fun z => e (by rw [← sw2_sw2 a b i, z, sw2_sw2])
      rw [if_neg e, if_neg this]
theorem EB.start (hF : ∀ i, i < n → ∀ j, j < m → (C (F i j) : Pm p) = C (M i j)) (hT : ∀ i, i < n → ∀ j, j < n → (C (T i j) : Pm p) = dl i j) : EB p n m M F T := by
  refine ⟨fun i hi j hj => ?_, fun i j => dl i j, fun i j => ?_, fun i hi j hj => ?_, fun i hi j hj => ?_⟩
  · rw [hF i hi j hj, ← sm_dl' hi fun k => (C (M k j) : Pm p)]
    exact sm_congr fun k hk => by rw [hT i hi k hk]
  · unfold dl
    by_cases e : i = j
    · exact ⟨1, by dsimp only; rw [if_pos e, C_one]⟩
    · exact ⟨0, by dsimp only; rw [if_neg e, C_zero]⟩
  · rw [sm_congr fun k hk => by rw [hT k hk j hj], sm_dl' hi]
  · rw [sm_congr fun k hk => by rw [hT i hi k hk], sm_dl' hi]
end
end FF
end
section
/-! FM8: bounded quotients; the Hensel step on lists. -/
namespace FF
variable {N : Int}
theorem div_bdd {h : Pm N} {d : Nat} (hh : Mon h d) : ∀ (n : Nat) (u : Pm N), Dg u (n + d) → ∃ q r : Pm N, Dg q n ∧ Dg r d ∧ u = q * h + r
  | 0, u, hu => ⟨0, u, Dg.zero, by rwa [Nat.zero_add] at hu, by grind⟩
  | n + 1, u, hu => by
    obtain ⟨f, hf, rfl⟩ := hu
    -- the top coefficient
    have e1 : ∃ u0 : Pm N, Dg u0 (n + d) ∧ cl N f = u0 + X ^ (n + d) * C (co f (n + d)) := by
      refine ⟨cl N (f.take (n + d)), (Dg.of_cl _).mono (by simp; omega), ?_⟩
      by_cases h : n + d < f.length
      · have e : f = f.take (n + d) ++ [co f (n + d)] := by
          rw [co_lt h]
          have := List.take_append_drop (n + d) f
          conv => lhs; rw [← this]
          congr 1
          rw [List.drop_eq_getElem_cons h]
          have : f.drop (n + d + 1) = [] := List.drop_of_length_le (by omega)
          rw [this]
        have e2 : cl N f = cl N (f.take (n + d) ++ [co f (n + d)]) := by rw [← e]
        rw [e2, cl_append, cl_cons, cl_nil, List.length_take, Nat.min_eq_left (by omega)]
        grind
      · rw [List.take_of_length_le (by omega), co_ge (by omega), C_zero]; grind
    obtain ⟨u0, d0, e0⟩ := e1
    obtain ⟨h0, dh, eh⟩ : ∃ h0 : Pm N, Dg h0 d ∧ h = h0 + X ^ d := by
      obtain ⟨l, hl, e⟩ := hh.list
      refine ⟨cl N l, by have := Dg.of_cl (N := N) l; rwa [hl] at this, ?_⟩
      rw [← e, cl_append, cl_cons, cl_nil, hl, C_one]; grind
    have d1 : Dg (u0 - X ^ n * (C (co f (n + d)) * h0)) (n + d) := Dg.sub' d0 (Dg.Xmul n (Dg.Cmul _ dh))
    obtain ⟨q, r, dq, dr, e⟩ := div_bdd hh n _ d1
    refine ⟨q + X ^ n * C (co f (n + d)), r, ?_, dr, ?_⟩
    · refine Dg.add' (dq.mono (by omega)) ?_
      exact Dg.Xmul n (Dg.C _)
    · rw [e0]
      have e3 : (X : Pm N) ^ (n + d) = X ^ n * X ^ d := pow_add _ _ _
      rw [e3]
      have e4 : q * h = u0 - X ^ n * (C (co f (n + d)) * h0) - r := by grind
      have e5 : (q + X ^ n * C (co f (n + d))) * h = q * h + X ^ n * C (co f (n + d)) * h := by grind
      rw [e5, e4, eh]; grind
theorem dg_quot {t h : Pm N} {n d : Nat} (hh : Mon h d) (hd : Dg (t * h) (n + d)) : Dg t n := by
  obtain ⟨q, r, dq, dr, e⟩ := div_bdd hh n _ hd
  have h1 : t - q = 0 := hh.cancel (by
    have : (t - q) * h = r := by grind
    rw [this]; exact dr)
  have : t = q := by grind
  rw [this]; exact dq
structure HenR (N : Int) (f g h s t : List Int) : Prop where
  cg : Cn N g
  ch : Cn N h
  cs : Cn N s
  ct : Cn N t
  hm : ∃ h0, h = h0 ++ [1]
  fg : cl N f = cl N g * cl N h
  st : cl N s * cl N g + cl N t * cl N h = 1
  lg : g.length ≤ 12
  lh : h.length ≤ 12
  ls : s.length ≤ 30
  lt : t.length ≤ 60
theorem cn_dg {l : List Int} {n : Nat} (h : Cn N l) (hd : Dg (cl N l) n) : l.length ≤ n := by
  have := dg_tr.mp hd
  rwa [tr_id h] at this
theorem one_mod {N : Int} (h : 1 < N) : (1 : Int) % N = 1 := Int.emod_eq_of_lt (by omega) h
theorem not_dvd_one {N : Int} (h : 1 < N) : ¬ N ∣ 1 := fun z => by
  have := Int.le_of_dvd (by omega) z
  omega
theorem lin1 {a b : Pm N} (h : a - 1 = b) : a = 1 + b := by grind
theorem lin2 {a b c : Pm N} (h : a + b = c) : b = c - a := by grind
theorem lin3 {a b : Pm N} : a + b - a = b := by grind
theorem lin4 {a b : Pm N} (h : a - b = 0) : a = b := by grind
theorem lin5 {a b : Pm N} : a - b = -(b - a) := by grind
theorem hen_step {N m : Int} {f f0 g h s t e se qu re g1 h1 b sb qu2 re2 s1 t1 : List Int} (hNm : N ∣ m * m) (hmN : m ∣ N) (N1 : 1 < N) (R : HenR m f g h s t) (ef : f = f0 ++ [1]) (lf : f0.length ≤ 10)
    (He : cl N e = cl N f - cl N g * cl N h) (D1 : cl N s * cl N e = cl N qu * cl N h + cl N re) (l1 : re.length < h.length)
    (Hg1 : cl N g1 = cl N g + (cl N t * cl N e + cl N qu * cl N g)) (Hh1 : cl N h1 = cl N h + cl N re)
    (Hb : cl N b = cl N s * cl N g1 + cl N t * cl N h1 - 1) (D2 : cl N s * cl N b = cl N qu2 * cl N h1 + cl N re2) (l2 : re2.length < h1.length) (cg1 : Cn N g1) (ch1 : Cn N h1) (cs1 : Cn N s1) (ct1 : Cn N t1)
    (Hs1 : cl N s1 = cl N s - cl N re2) (Ht1 : cl N t1 = cl N t - cl N t * cl N b - cl N qu2 * cl N g1) :
    HenR N f g1 h1 s1 t1 ∧ cl m g1 = cl m g ∧ cl m h1 = cl m h ∧ h1.length = h.length := by
  obtain ⟨h0, eh⟩ := R.hm
  have lh : h.length = h0.length + 1 := by rw [eh]; simp
  have mh : Mon (cl N h) h0.length := by rw [eh]; exact Mon.of_list
  have dre : Dg (cl N re) h0.length := (Dg.of_cl re).mono (by omega)
  -- e is a multiple of m
  obtain ⟨e', he'⟩ : ∃ v : Pm N, cl N (subL f (mulL g h)) = C m * v := cl_mult (by rw [cl_sub, cl_mul, R.fg]; grind)
  rw [cl_sub, cl_mul] at he'
  obtain ⟨w, hw⟩ : ∃ v : Pm N, cl N (subL (addL (mulL s g) (mulL t h)) [1]) = C m * v := cl_mult (by
    rw [cl_sub, cl_add, cl_mul, cl_mul, R.st]
    have : cl m [1] = 1 := rfl
    rw [this]; grind)
  rw [cl_sub, cl_add, cl_mul, cl_mul] at hw
  have c1 : cl N [1] = 1 := rfl
  rw [c1] at hw
  obtain ⟨k1, ⟨x, kx⟩, ⟨y, ky⟩⟩ := better_gh (m := m) (f := cl N f) (g := cl N g) (h := cl N h) (s := cl N s) (t := cl N t) (e := cl N e) (q := cl N qu) (r := cl N re) (e' := e') (w := w) hNm mh He (by rw [He]; exact he') (lin1 hw) D1 dre
  have mg1 : cl m g1 = cl m g := by
    have h1 : cl m (subL g1 g) = 0 := mult_cl (M := N) hmN (v := x) (by rw [cl_sub, Hg1, ← kx]; exact lin3)
    rw [cl_sub] at h1
    exact lin4 h1
  have mh1 : cl m h1 = cl m h := by
    have h2 : cl m (subL h1 h) = 0 := mult_cl (M := N) hmN (v := y) (by rw [cl_sub, Hh1, ← ky]; exact lin3)
    rw [cl_sub] at h2
    exact lin4 h2
  -- h1
  have monh1 : Mon (cl N h1) h0.length := by
    rw [Hh1, eh, cl_append, cl_cons, cl_nil, C_one]
    refine ⟨cl N h0 + cl N re, Dg.add' (Dg.of_cl h0) dre, by grind⟩
  obtain ⟨h10, eh1, lh1⟩ := mon_list ch1 monh1 (one_mod N1)
  have lh1' : h1.length = h0.length + 1 := by rw [eh1]; simp [lh1]
  have dre2 : Dg (cl N re2) h0.length := (Dg.of_cl re2).mono (by omega)
  obtain ⟨b', hb'⟩ : ∃ v : Pm N, cl N (subL (addL (mulL s g1) (mulL t h1)) [1]) = C m * v := cl_mult (by
    rw [cl_sub, cl_add, cl_mul, cl_mul, mg1, mh1, R.st]
    have : cl m [1] = 1 := rfl
    rw [this]; grind)
  rw [cl_sub, cl_add, cl_mul, cl_mul, c1] at hb'
  obtain ⟨k2, _, _⟩ := better_st (m := m) (g := cl N g1) (h := cl N h1) (s := cl N s) (t := cl N t) (b := cl N b) (q := cl N qu2) (r := cl N re2) (b' := b') hNm monh1 Hb (by rw [Hb]; exact hb') D2 dre2
  have fg1 : cl N f = cl N g1 * cl N h1 := by rw [Hg1, Hh1]; exact k1.symm
  have st1 : cl N s1 * cl N g1 + cl N t1 * cl N h1 = 1 := by rw [Hs1, Ht1]; exact k2
  have mf : Mon (cl N f) f0.length := by rw [ef]; exact Mon.of_list
  obtain ⟨hdn, mg⟩ := Mon.quot mf monh1 fg1 (not_dvd_one N1)
  obtain ⟨g10, eg1, lg1⟩ := mon_list cg1 mg (one_mod N1)
  have Rls := R.ls
  have Rlh := R.lh
  have ls1 : s1.length ≤ 30 := by
    refine cn_dg cs1 ?_
    rw [Hs1]
    exact Dg.sub' ((Dg.of_cl s).mono Rls) (dre2.mono (by omega))
  have lg1' : g1.length ≤ 12 := by rw [eg1]; simp; omega
  refine ⟨⟨cg1, ch1, cs1, ct1, ⟨h10, eh1⟩, fg1, st1, lg1', by omega, ls1, ?_⟩, mg1, mh1, by omega⟩
  refine cn_dg ct1 (dg_quot monh1 ?_)
  have e9 : cl N t1 * cl N h1 = 1 - cl N s1 * cl N g1 := lin2 st1
  rw [e9]
  refine Dg.sub' (Dg.mono (n := 1) ?_ (by omega)) ((Dg.mul (Dg.of_cl s1) (Dg.of_cl g1)).mono (by omega))
  rw [← C_one]; exact Dg.C 1
end FF
end
section
set_option Elab.async false
set_option linter.all false
set_option maxRecDepth 100000
set_option maxHeartbeats 4000000
/-! FW0: the text by places, what the top leaves. -/
namespace FF
open PySem PySem.Spec PyProof.Rows L2
def top (i : Nat) : Stmt := PySem.Challenge.pw_factorforge_k69_whole_looked.main.body.getD i (.Pass ⟨0, 0, 0, 0⟩)
abbrev s_trimmed : Stmt := top 8
abbrev s_number_at : Stmt := top 9
abbrev s_plus : Stmt := top 10
abbrev s_less : Stmt := top 11
abbrev s_times : Stmt := top 12
abbrev s_scaled : Stmt := top 13
abbrev s_slope : Stmt := top 14
abbrev s_divided : Stmt := top 15
abbrev s_with_lead_one : Stmt := top 17
abbrev s_common : Stmt := top 18
abbrev s_shares : Stmt := top 19
abbrev s_is_prime : Stmt := top 23
abbrev s_turned : Stmt := top 24
abbrev s_Kind_init : Stmt := inClass (top 25) 0
abbrev s_Kind_plain : Stmt := inClass (top 25) 1
abbrev s_Kind_plus : Stmt := inClass (top 25) 2
abbrev s_Kind_less : Stmt := inClass (top 25) 3
abbrev s_Kind_times : Stmt := inClass (top 25) 4
abbrev s_Kind_over : Stmt := inClass (top 25) 5
abbrev s_Wholes_init : Stmt := inClass (top 26) 0
abbrev s_Wholes_plain : Stmt := inClass (top 26) 1
abbrev s_Wholes_over : Stmt := inClass (top 26) 2
abbrev s_Rests_init : Stmt := inClass (top 27) 0
abbrev s_Powers_init : Stmt := inClass (top 28) 0
abbrev s_bound : Stmt := top 31
abbrev s_is_good : Stmt := top 32
abbrev s_good_prime : Stmt := top 33
abbrev s_many_for : Stmt := top 34
abbrev s_sets_of : Stmt := top 36
abbrev s_sets : Stmt := top 37
abbrev s_nearest : Stmt := top 38
abbrev s_candidate : Stmt := top 39
abbrev s_looked_at : Stmt := top 41
abbrev s_better : Stmt := top 42
abbrev s_lifted_pair : Stmt := top 43
abbrev s_lifted : Stmt := top 44
abbrev s_raised : Stmt := top 46
abbrev s_powering : Stmt := top 47
abbrev s_row_plus : Stmt := top 49
abbrev s_row_times : Stmt := top 50
abbrev s_square : Stmt := top 51
abbrev s_first_row : Stmt := top 52
abbrev s_exchange : Stmt := top 53
abbrev s_cleared : Stmt := top 54
abbrev s_echelon : Stmt := top 55
abbrev s_kernel : Stmt := top 56
abbrev s_rank : Stmt := top 58
abbrev s_less_one : Stmt := top 59
abbrev s_kept_rows : Stmt := top 60
abbrev s_parted_by : Stmt := top 61
abbrev s_split : Stmt := top 62
abbrev s_first_place : Stmt := top 64
abbrev s_paper : Stmt := top 65
abbrev s_divisor : Stmt := top 67
abbrev s_bared : Stmt := top 68
abbrev s_steps : Stmt := top 69
abbrev s_looked : Stmt := top 71
abbrev s_L_cell_at : Stmt := top 73
abbrev s_L_head : Stmt := top 74
abbrev s_L_trim : Stmt := top 75
abbrev s_L_times : Stmt := top 76
abbrev s_L_plus : Stmt := top 77
abbrev s_L_divisor : Stmt := top 78
abbrev s_L_content : Stmt := top 79
abbrev s_L_bare : Stmt := top 80
abbrev s_L_bound : Stmt := top 81
abbrev s_L_is_prime : Stmt := top 82
abbrev s_L_size_of : Stmt := top 83
abbrev s_L_rest : Stmt := top 84
abbrev s_L_raised : Stmt := top 85
abbrev s_L_left : Stmt := top 86
abbrev s_L_slope : Stmt := top 87
abbrev s_L_opened : Stmt := top 88
abbrev s_L_righted : Stmt := top 89
abbrev s_L_good : Stmt := top 90
abbrev s_L_whole : Stmt := top 91
abbrev s_L_row_of_wholes : Stmt := top 92
abbrev s_L_paper_shaped : Stmt := top 93
abbrev s_L_rows_of_wholes : Stmt := top 94
abbrev s_L_whole_paper_shaped : Stmt := top 95
abbrev s_L_ones : Stmt := top 96
abbrev s_L_sets : Stmt := top 97
abbrev s_L_candidate : Stmt := top 98
abbrev s_L_barred : Stmt := top 99
abbrev s_L_made_of : Stmt := top 100
abbrev s_L_whole_good : Stmt := top 101
abbrev s_L_steps : Stmt := top 102
abbrev s_L_free : Stmt := top 103
abbrev s_L_drawn : Stmt := top 104
abbrev s_L_a_part : Stmt := top 105
abbrev s_law : Stmt := top 106
/-- a def of the top -/
def DF (K : PySem.W.Frag) (mg : Str → Option Value) (x : Str) (st : Stmt) : Prop := ∃ f fd, mg x = some (.ref f) ∧ FunD K x x (defArgs st) (defBody st) (defScope st) [] [] f fd
/-- a method, reached through a class -/
def MF (K : PySem.W.Frag) (C : Addr) (m q : Str) (st : Stmt) : Prop := ∃ f fd, Meth K C m f ∧ FunD K m q (defArgs st) (defBody st) (defScope st) [] [] f fd
/-- a class's making -/
def IF (K : PySem.W.Frag) (C : Addr) (q : Str) (st : Stmt) : Prop := ∃ f fd, Mk K C f ∧ FunD K "__init__" q (defArgs st) (defBody st) (defScope st) [] [] f fd
/-- Kind's own __init__, read off Kind -/
def KF (K : PySem.W.Frag) (C : Addr) (st : Stmt) : Prop := ∃ f fd, ClX.CRead K C (.type "type") ∧ PySem.W.findCls K (.ref C) (.type "type") "__init__" = some (.val (.ref f)) ∧ FunD K "__init__" "Kind.__init__" (defArgs st) (defBody st) (defScope st) [] [] f fd
/-- the class at C -/
structure TWholes (K : PySem.W.Frag) (mg : Str → Option Value) (C : Addr) : Prop where
  g : mg "Wholes" = some (.ref C)
  cl : Cls K C
  nS : NoAttr K C "size"
  init : IF K C "Wholes.__init__" s_Wholes_init
  plain : MF K C "plain" "Wholes.plain" s_Wholes_plain
  plus : MF K C "plus" "Kind.plus" s_Kind_plus
  less : MF K C "less" "Kind.less" s_Kind_less
  times : MF K C "times" "Kind.times" s_Kind_times
  over : MF K C "over" "Wholes.over" s_Wholes_over
structure TRests (K : PySem.W.Frag) (mg : Str → Option Value) (C : Addr) : Prop where
  g : mg "Rests" = some (.ref C)
  cl : Cls K C
  nS : NoAttr K C "size"
  init : IF K C "Rests.__init__" s_Rests_init
  plain : MF K C "plain" "Kind.plain" s_Kind_plain
  plus : MF K C "plus" "Kind.plus" s_Kind_plus
  less : MF K C "less" "Kind.less" s_Kind_less
  times : MF K C "times" "Kind.times" s_Kind_times
  over : MF K C "over" "Kind.over" s_Kind_over
structure TPowers (K : PySem.W.Frag) (mg : Str → Option Value) (C : Addr) : Prop where
  g : mg "Powers" = some (.ref C)
  cl : Cls K C
  nS : NoAttr K C "size"
  nP : NoAttr K C "prime"
  init : IF K C "Powers.__init__" s_Powers_init
  plain : MF K C "plain" "Kind.plain" s_Kind_plain
  plus : MF K C "plus" "Kind.plus" s_Kind_plus
  less : MF K C "less" "Kind.less" s_Kind_less
  times : MF K C "times" "Kind.times" s_Kind_times
  over : MF K C "over" "Kind.over" s_Kind_over
structure TX (K : PySem.W.Frag) (mg : Str → Option Value) : Prop where
  d_trimmed : DF K mg "trimmed" s_trimmed
  d_number_at : DF K mg "number_at" s_number_at
  d_plus : DF K mg "plus" s_plus
  d_less : DF K mg "less" s_less
  d_times : DF K mg "times" s_times
  d_scaled : DF K mg "scaled" s_scaled
  d_slope : DF K mg "slope" s_slope
  d_divided : DF K mg "divided" s_divided
  d_with_lead_one : DF K mg "with_lead_one" s_with_lead_one
  d_common : DF K mg "common" s_common
  d_shares : DF K mg "shares" s_shares
  d_is_prime : DF K mg "is_prime" s_is_prime
  d_turned : DF K mg "turned" s_turned
  d_bound : DF K mg "bound" s_bound
  d_is_good : DF K mg "is_good" s_is_good
  d_good_prime : DF K mg "good_prime" s_good_prime
  d_many_for : DF K mg "many_for" s_many_for
  d_sets_of : DF K mg "sets_of" s_sets_of
  d_sets : DF K mg "sets" s_sets
  d_nearest : DF K mg "nearest" s_nearest
  d_candidate : DF K mg "candidate" s_candidate
  d_looked_at : DF K mg "looked_at" s_looked_at
  d_better : DF K mg "better" s_better
  d_lifted_pair : DF K mg "lifted_pair" s_lifted_pair
  d_lifted : DF K mg "lifted" s_lifted
  d_raised : DF K mg "raised" s_raised
  d_powering : DF K mg "powering" s_powering
  d_row_plus : DF K mg "row_plus" s_row_plus
  d_row_times : DF K mg "row_times" s_row_times
  d_square : DF K mg "square" s_square
  d_first_row : DF K mg "first_row" s_first_row
  d_exchange : DF K mg "exchange" s_exchange
  d_cleared : DF K mg "cleared" s_cleared
  d_echelon : DF K mg "echelon" s_echelon
  d_kernel : DF K mg "kernel" s_kernel
  d_rank : DF K mg "rank" s_rank
  d_less_one : DF K mg "less_one" s_less_one
  d_kept_rows : DF K mg "kept_rows" s_kept_rows
  d_parted_by : DF K mg "parted_by" s_parted_by
  d_split : DF K mg "split" s_split
  d_first_place : DF K mg "first_place" s_first_place
  d_paper : DF K mg "paper" s_paper
  d_divisor : DF K mg "divisor" s_divisor
  d_bared : DF K mg "bared" s_bared
  d_steps : DF K mg "steps" s_steps
  d_looked : DF K mg "looked" s_looked
  d_L_cell_at : DF K mg "_law_cell_at" s_L_cell_at
  d_L_head : DF K mg "_law_head" s_L_head
  d_L_trim : DF K mg "_law_trim" s_L_trim
  d_L_times : DF K mg "_law_times" s_L_times
  d_L_plus : DF K mg "_law_plus" s_L_plus
  d_L_divisor : DF K mg "_law_divisor" s_L_divisor
  d_L_content : DF K mg "_law_content" s_L_content
  d_L_bare : DF K mg "_law_bare" s_L_bare
  d_L_bound : DF K mg "_law_bound" s_L_bound
  d_L_is_prime : DF K mg "_law_is_prime" s_L_is_prime
  d_L_size_of : DF K mg "_law_size_of" s_L_size_of
  d_L_rest : DF K mg "_law_rest" s_L_rest
  d_L_raised : DF K mg "_law_raised" s_L_raised
  d_L_left : DF K mg "_law_left" s_L_left
  d_L_slope : DF K mg "_law_slope" s_L_slope
  d_L_opened : DF K mg "_law_opened" s_L_opened
  d_L_righted : DF K mg "_law_righted" s_L_righted
  d_L_good : DF K mg "_law_good" s_L_good
  d_L_whole : DF K mg "_law_whole" s_L_whole
  d_L_row_of_wholes : DF K mg "_law_row_of_wholes" s_L_row_of_wholes
  d_L_paper_shaped : DF K mg "_law_paper_shaped" s_L_paper_shaped
  d_L_rows_of_wholes : DF K mg "_law_rows_of_wholes" s_L_rows_of_wholes
  d_L_whole_paper_shaped : DF K mg "_law_whole_paper_shaped" s_L_whole_paper_shaped
  d_L_ones : DF K mg "_law_ones" s_L_ones
  d_L_sets : DF K mg "_law_sets" s_L_sets
  d_L_candidate : DF K mg "_law_candidate" s_L_candidate
  d_L_barred : DF K mg "_law_barred" s_L_barred
  d_L_made_of : DF K mg "_law_made_of" s_L_made_of
  d_L_whole_good : DF K mg "_law_whole_good" s_L_whole_good
  d_L_steps : DF K mg "_law_steps" s_L_steps
  d_L_free : DF K mg "_law_free" s_L_free
  d_L_drawn : DF K mg "_law_drawn" s_L_drawn
  d_L_a_part : DF K mg "_law_a_part" s_L_a_part
  d_law : DF K mg "law" s_law
  cWholes : ∃ C, TWholes K mg C
  cRests : ∃ C, TRests K mg C
  cPowers : ∃ C, TPowers K mg C
  cKind : ∃ C, mg "Kind" = some (.ref C) ∧ KF K C s_Kind_init
  b_len : mg "len" = none
  b_max : mg "max" = none
  b_min : mg "min" = none
  b_range : mg "range" = none
  b_enumerate : mg "enumerate" = none
  b_zip : mg "zip" = none
  b_sum : mg "sum" = none
  b_abs : mg "abs" = none
  b_sorted : mg "sorted" = none
  b_reversed : mg "reversed" = none
  b_divmod : mg "divmod" = none
  b_list : mg "list" = none
  b_int : mg "int" = none
  b_tuple : mg "tuple" = none
  b_isinstance : mg "isinstance" = none
  b_str : mg "str" = none
  b_bool : mg "bool" = none
  iG : ∃ t, mg "GREATEST" = some (.int 9973 t)
  iM : ∃ t, mg "MOST" = some (.int 400 t)
  iP : ∃ t, mg "MOST_PRIME" = some (.int 9973 t)
/-! ### scopes -/
abbrev n_trimmed : List Str := ["kind", "f", "row", "number"]
theorem sc_trimmed : FnScope n_trimmed ["kind", "f"] (defScope s_trimmed) := ⟨rfl, rfl, rfl, by decide +kernel, rfl, by decide +kernel, by decide +kernel⟩
abbrev n_number_at : List Str := ["f", "k"]
theorem sc_number_at : FnScope n_number_at ["f", "k"] (defScope s_number_at) := ⟨rfl, rfl, rfl, by decide +kernel, rfl, by decide +kernel, by decide +kernel⟩
abbrev n_plus : List Str := ["kind", "f", "g", "many", "k"]
theorem sc_plus : FnScope n_plus ["kind", "f", "g"] (defScope s_plus) := ⟨rfl, rfl, rfl, by decide +kernel, rfl, by decide +kernel, by decide +kernel⟩
abbrev n_less : List Str := ["kind", "f", "g", "many", "k"]
theorem sc_less : FnScope n_less ["kind", "f", "g"] (defScope s_less) := ⟨rfl, rfl, rfl, by decide +kernel, rfl, by decide +kernel, by decide +kernel⟩
abbrev n_times : List Str := ["kind", "f", "g", "row", "i", "one", "k", "other"]
theorem sc_times : FnScope n_times ["kind", "f", "g"] (defScope s_times) := ⟨rfl, rfl, rfl, by decide +kernel, rfl, by decide +kernel, by decide +kernel⟩
abbrev n_scaled : List Str := ["kind", "f", "number", "one"]
theorem sc_scaled : FnScope n_scaled ["kind", "f", "number"] (defScope s_scaled) := ⟨rfl, rfl, rfl, by decide +kernel, rfl, by decide +kernel, by decide +kernel⟩
abbrev n_slope : List Str := ["kind", "f", "k"]
theorem sc_slope : FnScope n_slope ["kind", "f"] (defScope s_slope) := ⟨rfl, rfl, rfl, by decide +kernel, rfl, by decide +kernel, by decide +kernel⟩
abbrev n_divided : List Str := ["kind", "f", "g", "rest", "by", "quotient", "at"]
theorem sc_divided : FnScope n_divided ["kind", "f", "g"] (defScope s_divided) := ⟨rfl, rfl, rfl, by decide +kernel, rfl, by decide +kernel, by decide +kernel⟩
abbrev n_with_lead_one : List Str := ["kind", "f", "row"]
theorem sc_with_lead_one : FnScope n_with_lead_one ["kind", "f"] (defScope s_with_lead_one) := ⟨rfl, rfl, rfl, by decide +kernel, rfl, by decide +kernel, by decide +kernel⟩
abbrev n_common : List Str := ["kind", "f", "g", "one", "other", "rest"]
theorem sc_common : FnScope n_common ["kind", "f", "g"] (defScope s_common) := ⟨rfl, rfl, rfl, by decide +kernel, rfl, by decide +kernel, by decide +kernel⟩
abbrev n_shares : List Str := ["kind", "f", "g", "one", "other", "ones", "others", "often", "rest", "turn", "by", "k"]
theorem sc_shares : FnScope n_shares ["kind", "f", "g"] (defScope s_shares) := ⟨rfl, rfl, rfl, by decide +kernel, rfl, by decide +kernel, by decide +kernel⟩
abbrev n_is_prime : List Str := ["number", "by"]
theorem sc_is_prime : FnScope n_is_prime ["number"] (defScope s_is_prime) := ⟨rfl, rfl, rfl, by decide +kernel, rfl, by decide +kernel, by decide +kernel⟩
abbrev n_turned : List Str := ["number", "size", "one", "other", "near", "far", "often", "rest"]
theorem sc_turned : FnScope n_turned ["number", "size"] (defScope s_turned) := ⟨rfl, rfl, rfl, by decide +kernel, rfl, by decide +kernel, by decide +kernel⟩
abbrev n_Kind_init : List Str := ["self", "size"]
theorem sc_Kind_init : FnScope n_Kind_init ["self", "size"] (defScope s_Kind_init) := ⟨rfl, rfl, rfl, by decide +kernel, rfl, by decide +kernel, by decide +kernel⟩
abbrev n_Kind_plain : List Str := ["self", "number"]
theorem sc_Kind_plain : FnScope n_Kind_plain ["self", "number"] (defScope s_Kind_plain) := ⟨rfl, rfl, rfl, by decide +kernel, rfl, by decide +kernel, by decide +kernel⟩
abbrev n_Kind_plus : List Str := ["self", "a", "b"]
theorem sc_Kind_plus : FnScope n_Kind_plus ["self", "a", "b"] (defScope s_Kind_plus) := ⟨rfl, rfl, rfl, by decide +kernel, rfl, by decide +kernel, by decide +kernel⟩
abbrev n_Kind_less : List Str := ["self", "a", "b"]
theorem sc_Kind_less : FnScope n_Kind_less ["self", "a", "b"] (defScope s_Kind_less) := ⟨rfl, rfl, rfl, by decide +kernel, rfl, by decide +kernel, by decide +kernel⟩
abbrev n_Kind_times : List Str := ["self", "a", "b"]
theorem sc_Kind_times : FnScope n_Kind_times ["self", "a", "b"] (defScope s_Kind_times) := ⟨rfl, rfl, rfl, by decide +kernel, rfl, by decide +kernel, by decide +kernel⟩
abbrev n_Kind_over : List Str := ["self", "a", "b"]
theorem sc_Kind_over : FnScope n_Kind_over ["self", "a", "b"] (defScope s_Kind_over) := ⟨rfl, rfl, rfl, by decide +kernel, rfl, by decide +kernel, by decide +kernel⟩
abbrev n_Wholes_init : List Str := ["self"]
theorem sc_Wholes_init : FnScope n_Wholes_init ["self"] (defScope s_Wholes_init) := ⟨rfl, rfl, rfl, by decide +kernel, rfl, by decide +kernel, by decide +kernel⟩
abbrev n_Wholes_plain : List Str := ["self", "number"]
theorem sc_Wholes_plain : FnScope n_Wholes_plain ["self", "number"] (defScope s_Wholes_plain) := ⟨rfl, rfl, rfl, by decide +kernel, rfl, by decide +kernel, by decide +kernel⟩
abbrev n_Wholes_over : List Str := ["self", "a", "b"]
theorem sc_Wholes_over : FnScope n_Wholes_over ["self", "a", "b"] (defScope s_Wholes_over) := ⟨rfl, rfl, rfl, by decide +kernel, rfl, by decide +kernel, by decide +kernel⟩
abbrev n_Rests_init : List Str := ["self", "prime"]
theorem sc_Rests_init : FnScope n_Rests_init ["self", "prime"] (defScope s_Rests_init) := ⟨rfl, rfl, rfl, by decide +kernel, rfl, by decide +kernel, by decide +kernel⟩
abbrev n_Powers_init : List Str := ["self", "prime", "many", "size", "k"]
theorem sc_Powers_init : FnScope n_Powers_init ["self", "prime", "many"] (defScope s_Powers_init) := ⟨rfl, rfl, rfl, by decide +kernel, rfl, by decide +kernel, by decide +kernel⟩
abbrev n_bound : List Str := ["g", "row", "found", "turn", "number"]
theorem sc_bound : FnScope n_bound ["g"] (defScope s_bound) := ⟨rfl, rfl, rfl, by decide +kernel, rfl, by decide +kernel, by decide +kernel⟩
abbrev n_is_good : List Str := ["row", "prime", "kind"]
theorem sc_is_good : FnScope n_is_good ["row", "prime"] (defScope s_is_good) := ⟨rfl, rfl, rfl, by decide +kernel, rfl, by decide +kernel, by decide +kernel⟩
abbrev n_good_prime : List Str := ["g", "row", "prime"]
theorem sc_good_prime : FnScope n_good_prime ["g"] (defScope s_good_prime) := ⟨rfl, rfl, rfl, by decide +kernel, rfl, by decide +kernel, by decide +kernel⟩
abbrev n_many_for : List Str := ["prime", "g", "most", "size", "many"]
theorem sc_many_for : FnScope n_many_for ["prime", "g"] (defScope s_many_for) := ⟨rfl, rfl, rfl, by decide +kernel, rfl, by decide +kernel, by decide +kernel⟩
abbrev n_sets_of : List Str := ["count", "few", "top", "bits"]
theorem sc_sets_of : FnScope n_sets_of ["count", "few"] (defScope s_sets_of) := ⟨rfl, rfl, rfl, by decide +kernel, rfl, by decide +kernel, by decide +kernel⟩
abbrev n_sets : List Str := ["count", "found", "few"]
theorem sc_sets : FnScope n_sets ["count"] (defScope s_sets) := ⟨rfl, rfl, rfl, by decide +kernel, rfl, by decide +kernel, by decide +kernel⟩
abbrev n_nearest : List Str := ["number", "size", "rest"]
theorem sc_nearest : FnScope n_nearest ["number", "size"] (defScope s_nearest) := ⟨rfl, rfl, rfl, by decide +kernel, rfl, by decide +kernel, by decide +kernel⟩
abbrev n_candidate : List Str := ["g", "size", "ups", "bits", "whole", "made", "k", "up", "number"]
theorem sc_candidate : FnScope n_candidate ["g", "size", "ups", "bits"] (defScope s_candidate) := ⟨rfl, rfl, rfl, by decide +kernel, rfl, by decide +kernel, by decide +kernel⟩
abbrev n_looked_at : List Str := ["prime", "ones", "f", "pieces", "row", "made", "k", "other"]
theorem sc_looked_at : FnScope n_looked_at ["prime", "ones", "f", "pieces"] (defScope s_looked_at) := ⟨rfl, rfl, rfl, by decide +kernel, rfl, by decide +kernel, by decide +kernel⟩
abbrev n_better : List Str := ["kind", "f", "pair", "turns", "g", "h", "s", "t", "wrong", "often", "rest"]
theorem sc_better : FnScope n_better ["kind", "f", "pair", "turns"] (defScope s_better) := ⟨rfl, rfl, rfl, by decide +kernel, rfl, by decide +kernel, by decide +kernel⟩
abbrev n_lifted_pair : List Str := ["prime", "many", "f", "g", "h", "turns", "pair", "done"]
theorem sc_lifted_pair : FnScope n_lifted_pair ["prime", "many", "f", "g", "h"] (defScope s_lifted_pair) := ⟨rfl, rfl, rfl, by decide +kernel, rfl, by decide +kernel, by decide +kernel⟩
abbrev n_lifted : List Str := ["prime", "many", "f", "pieces", "ones", "kind", "piece", "first", "left", "made", "k", "others", "one"]
theorem sc_lifted : FnScope n_lifted ["prime", "many", "f", "pieces"] (defScope s_lifted) := ⟨rfl, rfl, rfl, by decide +kernel, rfl, by decide +kernel, by decide +kernel⟩
abbrev n_raised : List Str := ["kind", "f", "many", "g", "made", "by"]
theorem sc_raised : FnScope n_raised ["kind", "f", "many", "g"] (defScope s_raised) := ⟨rfl, rfl, rfl, by decide +kernel, rfl, by decide +kernel, by decide +kernel⟩
abbrev n_powering : List Str := ["kind", "g", "many", "step", "made", "rows", "k"]
theorem sc_powering : FnScope n_powering ["kind", "g"] (defScope s_powering) := ⟨rfl, rfl, rfl, by decide +kernel, rfl, by decide +kernel, by decide +kernel⟩
abbrev n_row_plus : List Str := ["kind", "row", "other", "number", "a", "b"]
theorem sc_row_plus : FnScope n_row_plus ["kind", "row", "other", "number"] (defScope s_row_plus) := ⟨rfl, rfl, rfl, by decide +kernel, rfl, by decide +kernel, by decide +kernel⟩
abbrev n_row_times : List Str := ["kind", "row", "number", "a"]
theorem sc_row_times : FnScope n_row_times ["kind", "row", "number"] (defScope s_row_times) := ⟨rfl, rfl, rfl, by decide +kernel, rfl, by decide +kernel, by decide +kernel⟩
abbrev n_square : List Str := ["many", "i", "k"]
theorem sc_square : FnScope n_square ["many"] (defScope s_square) := ⟨rfl, rfl, rfl, by decide +kernel, rfl, by decide +kernel, by decide +kernel⟩
abbrev n_first_row : List Str := ["rows", "top", "column", "at"]
theorem sc_first_row : FnScope n_first_row ["rows", "top", "column"] (defScope s_first_row) := ⟨rfl, rfl, rfl, by decide +kernel, rfl, by decide +kernel, by decide +kernel⟩
abbrev n_exchange : List Str := ["rows", "one", "other", "kept"]
theorem sc_exchange : FnScope n_exchange ["rows", "one", "other"] (defScope s_exchange) := ⟨rfl, rfl, rfl, by decide +kernel, rfl, by decide +kernel, by decide +kernel⟩
abbrev n_cleared : List Str := ["kind", "form", "turn", "across", "top", "column", "k", "number"]
theorem sc_cleared : FnScope n_cleared ["kind", "form", "turn", "across", "top", "column"] (defScope s_cleared) := ⟨rfl, rfl, rfl, by decide +kernel, rfl, by decide +kernel, by decide +kernel⟩
abbrev n_echelon : List Str := ["kind", "rows", "number", "form", "turn", "across", "top", "column", "at", "by", "back", "row", "k"]
theorem sc_echelon : FnScope n_echelon ["kind", "rows"] (defScope s_echelon) := ⟨rfl, rfl, rfl, by decide +kernel, rfl, by decide +kernel, by decide +kernel⟩
abbrev n_kernel : List Str := ["kind", "rows", "form", "turn", "back", "k"]
theorem sc_kernel : FnScope n_kernel ["kind", "rows"] (defScope s_kernel) := ⟨rfl, rfl, rfl, by decide +kernel, rfl, by decide +kernel, by decide +kernel⟩
abbrev n_rank : List Str := ["g"]
theorem sc_rank : FnScope n_rank ["g"] (defScope s_rank) := ⟨rfl, rfl, rfl, by decide +kernel, rfl, by decide +kernel, by decide +kernel⟩
abbrev n_less_one : List Str := ["kind", "rows", "made", "i", "row", "k", "number"]
theorem sc_less_one : FnScope n_less_one ["kind", "rows"] (defScope s_less_one) := ⟨rfl, rfl, rfl, by decide +kernel, rfl, by decide +kernel, by decide +kernel⟩
abbrev n_kept_rows : List Str := ["kind", "g"]
theorem sc_kept_rows : FnScope n_kept_rows ["kind", "g"] (defScope s_kept_rows) := ⟨rfl, rfl, rfl, by decide +kernel, rfl, by decide +kernel, by decide +kernel⟩
abbrev n_parted_by : List Str := ["kind", "piece", "way", "found", "left", "number", "one"]
theorem sc_parted_by : FnScope n_parted_by ["kind", "piece", "way"] (defScope s_parted_by) := ⟨rfl, rfl, rfl, by decide +kernel, rfl, by decide +kernel, by decide +kernel⟩
abbrev n_split : List Str := ["kind", "g", "pieces", "ways", "way", "made", "piece"]
theorem sc_split : FnScope n_split ["kind", "g"] (defScope s_split) := ⟨rfl, rfl, rfl, by decide +kernel, rfl, by decide +kernel, by decide +kernel⟩
abbrev n_first_place : List Str := ["row", "k", "number"]
theorem sc_first_place : FnScope n_first_place ["row"] (defScope s_first_place) := ⟨rfl, rfl, rfl, by decide +kernel, rfl, by decide +kernel, by decide +kernel⟩
abbrev n_paper : List Str := ["kind", "g", "row", "degree", "given", "form", "turn", "back", "right", "i", "one", "at", "k"]
theorem sc_paper : FnScope n_paper ["kind", "g"] (defScope s_paper) := ⟨rfl, rfl, rfl, by decide +kernel, rfl, by decide +kernel, by decide +kernel⟩
abbrev n_divisor : List Str := ["one", "other", "rest"]
theorem sc_divisor : FnScope n_divisor ["one", "other"] (defScope s_divisor) := ⟨rfl, rfl, rfl, by decide +kernel, rfl, by decide +kernel, by decide +kernel⟩
abbrev n_bared : List Str := ["f", "row", "content", "number"]
theorem sc_bared : FnScope n_bared ["f"] (defScope s_bared) := ⟨rfl, rfl, rfl, by decide +kernel, rfl, by decide +kernel, by decide +kernel⟩
abbrev n_steps : List Str := ["f", "c", "kind", "rest", "by", "quotient", "at", "often", "step"]
theorem sc_steps : FnScope n_steps ["f", "c"] (defScope s_steps) := ⟨rfl, rfl, rfl, by decide +kernel, rfl, by decide +kernel, by decide +kernel⟩
abbrev n_looked : List Str := ["g", "row", "prime", "many", "kind", "pieces", "ups", "size", "rows", "bits", "c", "q", "r", "piece"]
theorem sc_looked : FnScope n_looked ["g"] (defScope s_looked) := ⟨rfl, rfl, rfl, by decide +kernel, rfl, by decide +kernel, by decide +kernel⟩
abbrev n_L_cell_at : List Str := ["_law_script", "_law_k"]
theorem sc_L_cell_at : FnScope n_L_cell_at ["_law_script", "_law_k"] (defScope s_L_cell_at) := ⟨rfl, rfl, rfl, by decide +kernel, rfl, by decide +kernel, by decide +kernel⟩
abbrev n_L_head : List Str := ["_law_script", "_law_number"]
theorem sc_L_head : FnScope n_L_head ["_law_script"] (defScope s_L_head) := ⟨rfl, rfl, rfl, by decide +kernel, rfl, by decide +kernel, by decide +kernel⟩
abbrev n_L_trim : List Str := ["_law_row", "_law_size", "_law_number"]
theorem sc_L_trim : FnScope n_L_trim ["_law_row", "_law_size"] (defScope s_L_trim) := ⟨rfl, rfl, rfl, by decide +kernel, rfl, by decide +kernel, by decide +kernel⟩
abbrev n_L_times : List Str := ["_law_f", "_law_g", "_law_size", "_law_row", "_law_i", "_law_k"]
theorem sc_L_times : FnScope n_L_times ["_law_f", "_law_g", "_law_size"] (defScope s_L_times) := ⟨rfl, rfl, rfl, by decide +kernel, rfl, by decide +kernel, by decide +kernel⟩
abbrev n_L_plus : List Str := ["_law_f", "_law_g", "_law_size", "_law_many", "_law_fs", "_law_gs", "_law_k"]
theorem sc_L_plus : FnScope n_L_plus ["_law_f", "_law_g", "_law_size"] (defScope s_L_plus) := ⟨rfl, rfl, rfl, by decide +kernel, rfl, by decide +kernel, by decide +kernel⟩
abbrev n_L_divisor : List Str := ["_law_one", "_law_other", "_law_rest_here"]
theorem sc_L_divisor : FnScope n_L_divisor ["_law_one", "_law_other"] (defScope s_L_divisor) := ⟨rfl, rfl, rfl, by decide +kernel, rfl, by decide +kernel, by decide +kernel⟩
abbrev n_L_content : List Str := ["_law_f", "_law_found", "_law_number"]
theorem sc_L_content : FnScope n_L_content ["_law_f"] (defScope s_L_content) := ⟨rfl, rfl, rfl, by decide +kernel, rfl, by decide +kernel, by decide +kernel⟩
abbrev n_L_bare : List Str := ["_law_f", "_law_content_here", "_law_number"]
theorem sc_L_bare : FnScope n_L_bare ["_law_f"] (defScope s_L_bare) := ⟨rfl, rfl, rfl, by decide +kernel, rfl, by decide +kernel, by decide +kernel⟩
abbrev n_L_bound : List Str := ["_law_g", "_law_found", "_law_turn", "_law_number"]
theorem sc_L_bound : FnScope n_L_bound ["_law_g"] (defScope s_L_bound) := ⟨rfl, rfl, rfl, by decide +kernel, rfl, by decide +kernel, by decide +kernel⟩
abbrev n_L_is_prime : List Str := ["_law_number", "_law_at"]
theorem sc_L_is_prime : FnScope n_L_is_prime ["_law_number"] (defScope s_L_is_prime) := ⟨rfl, rfl, rfl, by decide +kernel, rfl, by decide +kernel, by decide +kernel⟩
abbrev n_L_size_of : List Str := ["_law_prime", "_law_many", "_law_size", "_law_turn"]
theorem sc_L_size_of : FnScope n_L_size_of ["_law_prime", "_law_many"] (defScope s_L_size_of) := ⟨rfl, rfl, rfl, by decide +kernel, rfl, by decide +kernel, by decide +kernel⟩
abbrev n_L_rest : List Str := ["_law_row", "_law_g", "_law_prime", "_law_lead", "_law_k", "_law_at", "_law_number"]
theorem sc_L_rest : FnScope n_L_rest ["_law_row", "_law_g", "_law_prime"] (defScope s_L_rest) := ⟨rfl, rfl, rfl, by decide +kernel, rfl, by decide +kernel, by decide +kernel⟩
abbrev n_L_raised : List Str := ["_law_g", "_law_prime", "_law_made", "_law_turn"]
theorem sc_L_raised : FnScope n_L_raised ["_law_g", "_law_prime"] (defScope s_L_raised) := ⟨rfl, rfl, rfl, by decide +kernel, rfl, by decide +kernel, by decide +kernel⟩
abbrev n_L_left : List Str := ["_law_g", "_law_prime", "_law_step", "_law_row", "_law_made", "_law_i", "_law_k", "_law_number"]
theorem sc_L_left : FnScope n_L_left ["_law_g", "_law_prime"] (defScope s_L_left) := ⟨rfl, rfl, rfl, by decide +kernel, rfl, by decide +kernel, by decide +kernel⟩
abbrev n_L_slope : List Str := ["_law_f", "_law_k"]
theorem sc_L_slope : FnScope n_L_slope ["_law_f"] (defScope s_L_slope) := ⟨rfl, rfl, rfl, by decide +kernel, rfl, by decide +kernel, by decide +kernel⟩
abbrev n_L_opened : List Str := ["_law_g", "_law_a", "_law_b", "_law_prime", "_law_one", "_law_other", "_law_many", "_law_k"]
theorem sc_L_opened : FnScope n_L_opened ["_law_g", "_law_a", "_law_b", "_law_prime"] (defScope s_L_opened) := ⟨rfl, rfl, rfl, by decide +kernel, rfl, by decide +kernel, by decide +kernel⟩
abbrev n_L_righted : List Str := ["_law_g", "_law_right", "_law_prime", "_law_i", "_law_row", "_law_j", "_law_k"]
theorem sc_L_righted : FnScope n_L_righted ["_law_g", "_law_right", "_law_prime"] (defScope s_L_righted) := ⟨rfl, rfl, rfl, by decide +kernel, rfl, by decide +kernel, by decide +kernel⟩
abbrev n_L_good : List Str := ["_law_g", "_law_a", "_law_b", "_law_right", "_law_prime", "_law_row"]
theorem sc_L_good : FnScope n_L_good ["_law_g", "_law_a", "_law_b", "_law_right", "_law_prime"] (defScope s_L_good) := ⟨rfl, rfl, rfl, by decide +kernel, rfl, by decide +kernel, by decide +kernel⟩
abbrev n_L_whole : List Str := ["_law_found"]
theorem sc_L_whole : FnScope n_L_whole ["_law_found"] (defScope s_L_whole) := ⟨rfl, rfl, rfl, by decide +kernel, rfl, by decide +kernel, by decide +kernel⟩
abbrev n_L_row_of_wholes : List Str := ["_law_found", "_law_number"]
theorem sc_L_row_of_wholes : FnScope n_L_row_of_wholes ["_law_found"] (defScope s_L_row_of_wholes) := ⟨rfl, rfl, rfl, by decide +kernel, rfl, by decide +kernel, by decide +kernel⟩
abbrev n_L_paper_shaped : List Str := ["_law_found", "_law_row"]
theorem sc_L_paper_shaped : FnScope n_L_paper_shaped ["_law_found"] (defScope s_L_paper_shaped) := ⟨rfl, rfl, rfl, by decide +kernel, rfl, by decide +kernel, by decide +kernel⟩
abbrev n_L_rows_of_wholes : List Str := ["_law_found", "_law_row"]
theorem sc_L_rows_of_wholes : FnScope n_L_rows_of_wholes ["_law_found"] (defScope s_L_rows_of_wholes) := ⟨rfl, rfl, rfl, by decide +kernel, rfl, by decide +kernel, by decide +kernel⟩
abbrev n_L_whole_paper_shaped : List Str := ["_law_found", "_law_one", "_law_row"]
theorem sc_L_whole_paper_shaped : FnScope n_L_whole_paper_shaped ["_law_found"] (defScope s_L_whole_paper_shaped) := ⟨rfl, rfl, rfl, by decide +kernel, rfl, by decide +kernel, by decide +kernel⟩
abbrev n_L_ones : List Str := ["_law_bits", "_law_found"]
theorem sc_L_ones : FnScope n_L_ones ["_law_bits"] (defScope s_L_ones) := ⟨rfl, rfl, rfl, by decide +kernel, rfl, by decide +kernel, by decide +kernel⟩
abbrev n_L_sets : List Str := ["_law_count", "_law_found", "_law_few", "_law_bits"]
theorem sc_L_sets : FnScope n_L_sets ["_law_count"] (defScope s_L_sets) := ⟨rfl, rfl, rfl, by decide +kernel, rfl, by decide +kernel, by decide +kernel⟩
abbrev n_L_candidate : List Str := ["_law_g", "_law_size", "_law_ups", "_law_bits", "_law_made", "_law_k", "_law_near", "_law_number"]
theorem sc_L_candidate : FnScope n_L_candidate ["_law_g", "_law_size", "_law_ups", "_law_bits"] (defScope s_L_candidate) := ⟨rfl, rfl, rfl, by decide +kernel, rfl, by decide +kernel, by decide +kernel⟩
abbrev n_L_barred : List Str := ["_law_g", "_law_c", "_law_q", "_law_r", "_law_ends", "_law_due", "_law_turn", "_law_number"]
theorem sc_L_barred : FnScope n_L_barred ["_law_g", "_law_c", "_law_q", "_law_r"] (defScope s_L_barred) := ⟨rfl, rfl, rfl, by decide +kernel, rfl, by decide +kernel, by decide +kernel⟩
abbrev n_L_made_of : List Str := ["_law_g", "_law_size", "_law_prime", "_law_ups", "_law_papers", "_law_made", "_law_kept", "_law_k", "_law_up", "_law_small"]
theorem sc_L_made_of : FnScope n_L_made_of ["_law_g", "_law_size", "_law_prime", "_law_ups", "_law_papers"] (defScope s_L_made_of) := ⟨rfl, rfl, rfl, by decide +kernel, rfl, by decide +kernel, by decide +kernel⟩
abbrev n_L_whole_good : List Str := ["_law_g", "_law_bundle", "_law_prime", "_law_many", "_law_ups", "_law_papers", "_law_rows", "_law_size", "_law_due", "_law_k"]
theorem sc_L_whole_good : FnScope n_L_whole_good ["_law_g", "_law_bundle"] (defScope s_L_whole_good) := ⟨rfl, rfl, rfl, by decide +kernel, rfl, by decide +kernel, by decide +kernel⟩
abbrev n_L_steps : List Str := ["_law_f", "_law_c", "_law_rest_here", "_law_q", "_law_top", "_law_k", "_law_at", "_law_number"]
theorem sc_L_steps : FnScope n_L_steps ["_law_f", "_law_c"] (defScope s_L_steps) := ⟨rfl, rfl, rfl, by decide +kernel, rfl, by decide +kernel, by decide +kernel⟩
abbrev n_L_free : List Str := ["_law_g", "_law_one", "_law_other", "_law_rest_here"]
theorem sc_L_free : FnScope n_L_free ["_law_g"] (defScope s_L_free) := ⟨rfl, rfl, rfl, by decide +kernel, rfl, by decide +kernel, by decide +kernel⟩
abbrev n_L_drawn : List Str := ["_law_script", "_law_wide", "_law_degree", "_law_row", "_law_k"]
theorem sc_L_drawn : FnScope n_L_drawn ["_law_script", "_law_wide", "_law_degree"] (defScope s_L_drawn) := ⟨rfl, rfl, rfl, by decide +kernel, rfl, by decide +kernel, by decide +kernel⟩
abbrev n_L_a_part : List Str := ["_law_g", "_law_found"]
theorem sc_L_a_part : FnScope n_L_a_part ["_law_g", "_law_found"] (defScope s_L_a_part) := ⟨rfl, rfl, rfl, by decide +kernel, rfl, by decide +kernel, by decide +kernel⟩
abbrev n_law : List Str := ["_law_script", "_law_head_here", "_law_g", "_law_handed", "_law_kept", "_law_answer"]
theorem sc_law : FnScope n_law ["_law_script"] (defScope s_law) := ⟨rfl, rfl, rfl, by decide +kernel, rfl, by decide +kernel, by decide +kernel⟩
/-! ### a def that keeps a promise -/
section
variable {P : Program} {w : World} {K : PySem.W.Frag} {mg : Str → Option Value} {base : Heap}
/-- the def x keeps sp, at level k -/
def FO (P : Program) (w : World) (K : PySem.W.Frag) (mg : Str → Option Value) (base : Heap) (k : Nat) (x : Str) (ps : List Str) (sp : Sp) : Prop :=
  ∃ f fd, mg x = some (.ref f) ∧ PySem.W.keepIn K (.ref f) = true ∧ Binds K fd ps [] ∧ FnOk P w K mg base CX0 k f fd ps sp
/-- the method m of the class at C keeps sp -/
def MO (P : Program) (w : World) (K : PySem.W.Frag) (mg : Str → Option Value) (base : Heap) (k : Nat) (C : Addr) (m : Str) (ps : List Str) (sp : Sp) : Prop :=
  ∃ f fd, Meth K C m f ∧ Binds K fd ps [] ∧ FnOk P w K mg base CX0 k f fd ps sp
abbrev BindF (x q : Str) (st : Stmt) (ps : List Str) : Prop := ∀ (kV doc pm : Value) (an : Option Addr) (cdv ct : Value) (us : List Value), us.length = ps.length → bindArgs (PySem.W.fnOf x q (defArgs st) (defBody st) (defScope st) .none kV doc pm an cdv ct) ⟨us, []⟩ = pure (ps.zip us)
abbrev BodyF (P : Program) (w : World) (K : PySem.W.Frag) (mg : Str → Option Value) (base : Heap) (q : Str) (st : Stmt) (N : List Str) (f : Addr) (k : Nat) (sp : Sp) : Prop :=
  ∀ (cdv : Value) (A : Around) (outer : List Env) (s : Shared) (H : Hp) (vs : List V) (Q : VK) (E : XK), Room k (A.deeper (envOfC q (defScope st) s.heap.objs.size f cdv)) → sp vs H Q E →
      ∃ t, PSs (cxOf CX0 P w K mg base N q (defScope st) f cdv A outer s H E).nox (defBody st) t ∧ t { nx := fun _ H' => Q .non H', rt := Q } (start N vs) H
theorem FO.mk {x : Str} {st : Stmt} {N ps : List Str} {k : Nat} {sp : Sp} (D : DF K mg x st) (S : FnScope N ps (defScope st)) (B : BindF x x st ps) (len : ∀ vs H Q E, sp vs H Q E → vs.length = ps.length)
    (body : ∀ f, BodyF P w K mg base x st N f k sp) : FO P w K mg base (k + 1) x ps sp := by
  obtain ⟨f, fd, g, F⟩ := D
  refine ⟨f, fd, g, F.kp, F.bindsN B, F.ok S len fun cdv A outer s H vs Q E hr h => ?_⟩
  obtain ⟨t, h1, h2⟩ := body f cdv A outer s H vs Q E hr h
  exact ⟨t, h1.nox, h2⟩
theorem MO.mk {C : Addr} {m q : Str} {st : Stmt} {N ps : List Str} {k : Nat} {sp : Sp} (D : MF K C m q st) (S : FnScope N ps (defScope st)) (B : BindF m q st ps) (len : ∀ vs H Q E, sp vs H Q E → vs.length = ps.length)
    (body : ∀ f, BodyF P w K mg base q st N f k sp) : MO P w K mg base (k + 1) C m ps sp := by
  obtain ⟨f, fd, g, F⟩ := D
  refine ⟨f, fd, g, F.bindsN B, F.ok S len fun cdv A outer s H vs Q E hr h => ?_⟩
  obtain ⟨t, h1, h2⟩ := body f cdv A outer s H vs Q E hr h
  exact ⟨t, h1.nox, h2⟩
/-- C.m(e, ..), C a class of one's own, m a plain def of it -/
def tKFn (C : Addr) (sp : Sp) (dvs : List V) (E : XK) (ta : TE) (t : TA) : TE := fun σ H Q => ta σ H fun x H1 => x = .ref C ∧ t σ H1 fun vs H2 => sp (vs ++ dvs) H2 Q E
theorem pe_clsfn {X : Cx} {CX : CXT} {k : Nat} {C f : Addr} {mc : Value} {fd : FuncData} {ps : List Str} {ds : List Value} {dvs : List V} {sp : Sp} {E : XK} {o e : Expr} {es : List Expr} {m : Str} {pos apos : Pos} {ta : TE} {t : TA} {pl : Sem Bool}
    (he : PE X o ta) (r : ClX.CRead X.K C mc) (c : PySem.W.findCls X.K (.ref C) mc m = some (.val (.ref f))) (hk : PySem.W.keepIn X.K (.ref f) = true) (F : FnOk X.prog X.w X.K X.mg X.base CX k f fd ps sp) (hr : Room k X.A) (hb : Binds X.K fd ps ds) (hd : Vals dvs ds) (hx : Passes CX X E) (ha : PA X (e :: es) t)
    (hst : starEach (e :: es) X.env = (false, eval e X.env) :: starEach es X.env := by rfl) (hpl : (backTo pos (starEach es X.env)).any (·.1) = false := by rfl)
    (ht : eval (.Call (.Attribute o m apos) (e :: es) [] pos) X.env = (do
      let ov ← eval o X.env
      standAt apos.atName
      let (f, first) ← holding [ov] (getMethod ov m pl)
      callWith pos f first (backTo pos (starEach (e :: es) X.env)) (backToKw pos (keywordEach [] X.env))) := by rfl) :
    PE X (.Call (.Attribute o m apos) (e :: es) [] pos) (tKFn C sp dvs E ta t) := by
  refine ⟨fun pins s σ H Q I h => ?_⟩
  refine PySem.W.methodCall_KW (pl := pl) (thn (he.run pins s σ H _ I h) fun u s1 ⟨x, H1, I1, rx, ex, q⟩ => ?_) ht
  subst ex
  obtain rfl : u = Value.ref C := rx
  refine PySem.W.method_cls I1.kIn r.ga (PySem.W.cls_value I1.kIn r.rd c rfl ?_)
  have I2 := I1.tok (s1.toks + 1)
  refine PySem.W.callWith_K (first := []) (h₀ := X.base) I2.ok.mod.kin hk (thn (ha.run pos pins _ σ H1 _ I2 q) fun us s2 ⟨vs, H2, I3, rv, q2⟩ => ⟨I3.kIn, ?_⟩) hst hpl
  exact run_fn (us := us) (vs := vs) F hr hb hd hx I3 rv q2
end
/-- len of a list or a tuple -/
abbrev rLenK (K : PySem.W.Frag) : List V → Hp → VK → Prop := fun xs H Q => ∃ p ys, xs = [.ref p] ∧ (SqL K H p ys ∨ SqT K H p ys) ∧ Q (.int ys.length) H
/-! ### heaps -/
theorem same_new {H H' : Hp} {p : Addr} {o : HO} (e : Same H H') (h : H p = none) : Same H (upd H' p o) := fun b x q => by
  rw [upd_ne (ne_of_none q h)]
  exact e b x q
theorem same_nw {H H' : Hp} {p : Addr} {o : HO} (e : Same H H') (h : H' p = none) : Same H (upd H' p o) := same_new e (e.free h)
theorem sqT_same {K : PySem.W.Frag} {H H' : Hp} {a : Addr} {xs : List V} (e : Same H H') (h : SqT K H a xs) : SqT K H' a xs := by
  rcases h with (h | ⟨o, h⟩) | h
  · exact .inl (.inl (e _ _ h))
  · exact .inl (.inr ⟨o, e _ _ h⟩)
  · exact .inr h
theorem sqL_of {K : PySem.W.Frag} {H : Hp} {a : Addr} {xs : List V} (h : H a = some (.lst xs)) : SqL K H a xs := .inl (.inl h)
theorem sqT_of {K : PySem.W.Frag} {H : Hp} {a : Addr} {xs : List V} (h : H a = some (.tup xs)) : SqT K H a xs := .inl (.inl h)
theorem small_le {n : Nat} (h : n ≤ 100000) : n ≤ sizeLine := Nat.le_trans h (by decide)
theorem small_lt {n : Nat} (h : n ≤ 100000) : n < sizeLine := Nat.lt_of_le_of_lt h (by decide)
/-! ### tests whose answer is known -/
theorem ifNe {c A B : Prop} [Decidable c] (h : ¬ c) (a : A) : if (!decide c) = true then A else B := by
  rw [decide_eq_false h]; exact a
theorem ifEq {c A B : Prop} [Decidable c] (h : c) (b : B) : if (!decide c) = true then A else B := by
  rw [decide_eq_true h]; exact b
theorem ifD {c A B : Prop} [Decidable c] (h : c) (a : A) : if decide c = true then A else B := by
  rw [decide_eq_true h]; exact a
theorem ifN {c A B : Prop} [Decidable c] (h : ¬ c) (b : B) : if decide c = true then A else B := by
  rw [decide_eq_false h]; exact b
theorem vint {a b : Int} : (V.int a = V.int b) ↔ a = b := ⟨fun h => V.int.inj h, fun h => by rw [h]⟩
end FF
end
section
set_option Elab.async false
set_option linter.all false
set_option maxRecDepth 100000
set_option maxHeartbeats 4000000
namespace FF
open PySem PySem.Spec PyProof.Rows L2
def d_trimmed : He.DefD := ⟨("trimmed", none), "trimmed", "trimmed", defArgs s_trimmed, defBody s_trimmed, defScope s_trimmed, [], []⟩
def d_number_at : He.DefD := ⟨("number_at", none), "number_at", "number_at", defArgs s_number_at, defBody s_number_at, defScope s_number_at, [], []⟩
def d_plus : He.DefD := ⟨("plus", none), "plus", "plus", defArgs s_plus, defBody s_plus, defScope s_plus, [], []⟩
def d_less : He.DefD := ⟨("less", none), "less", "less", defArgs s_less, defBody s_less, defScope s_less, [], []⟩
def d_times : He.DefD := ⟨("times", none), "times", "times", defArgs s_times, defBody s_times, defScope s_times, [], []⟩
def d_scaled : He.DefD := ⟨("scaled", none), "scaled", "scaled", defArgs s_scaled, defBody s_scaled, defScope s_scaled, [], []⟩
def d_slope : He.DefD := ⟨("slope", none), "slope", "slope", defArgs s_slope, defBody s_slope, defScope s_slope, [], []⟩
def d_divided : He.DefD := ⟨("divided", none), "divided", "divided", defArgs s_divided, defBody s_divided, defScope s_divided, [], []⟩
def d_with_lead_one : He.DefD := ⟨("with_lead_one", none), "with_lead_one", "with_lead_one", defArgs s_with_lead_one, defBody s_with_lead_one, defScope s_with_lead_one, [], []⟩
def d_common : He.DefD := ⟨("common", none), "common", "common", defArgs s_common, defBody s_common, defScope s_common, [], []⟩
def d_shares : He.DefD := ⟨("shares", none), "shares", "shares", defArgs s_shares, defBody s_shares, defScope s_shares, [], []⟩
def d_is_prime : He.DefD := ⟨("is_prime", none), "is_prime", "is_prime", defArgs s_is_prime, defBody s_is_prime, defScope s_is_prime, [], []⟩
def d_turned : He.DefD := ⟨("turned", none), "turned", "turned", defArgs s_turned, defBody s_turned, defScope s_turned, [], []⟩
def d_bound : He.DefD := ⟨("bound", none), "bound", "bound", defArgs s_bound, defBody s_bound, defScope s_bound, [], []⟩
def d_is_good : He.DefD := ⟨("is_good", none), "is_good", "is_good", defArgs s_is_good, defBody s_is_good, defScope s_is_good, [], []⟩
def d_good_prime : He.DefD := ⟨("good_prime", none), "good_prime", "good_prime", defArgs s_good_prime, defBody s_good_prime, defScope s_good_prime, [], []⟩
def d_many_for : He.DefD := ⟨("many_for", none), "many_for", "many_for", defArgs s_many_for, defBody s_many_for, defScope s_many_for, [], []⟩
def d_sets_of : He.DefD := ⟨("sets_of", none), "sets_of", "sets_of", defArgs s_sets_of, defBody s_sets_of, defScope s_sets_of, [], []⟩
def d_sets : He.DefD := ⟨("sets", none), "sets", "sets", defArgs s_sets, defBody s_sets, defScope s_sets, [], []⟩
def d_nearest : He.DefD := ⟨("nearest", none), "nearest", "nearest", defArgs s_nearest, defBody s_nearest, defScope s_nearest, [], []⟩
def d_candidate : He.DefD := ⟨("candidate", none), "candidate", "candidate", defArgs s_candidate, defBody s_candidate, defScope s_candidate, [], []⟩
def d_looked_at : He.DefD := ⟨("looked_at", none), "looked_at", "looked_at", defArgs s_looked_at, defBody s_looked_at, defScope s_looked_at, [], []⟩
def d_better : He.DefD := ⟨("better", none), "better", "better", defArgs s_better, defBody s_better, defScope s_better, [], []⟩
def d_lifted_pair : He.DefD := ⟨("lifted_pair", none), "lifted_pair", "lifted_pair", defArgs s_lifted_pair, defBody s_lifted_pair, defScope s_lifted_pair, [], []⟩
def d_lifted : He.DefD := ⟨("lifted", none), "lifted", "lifted", defArgs s_lifted, defBody s_lifted, defScope s_lifted, [], []⟩
def d_raised : He.DefD := ⟨("raised", none), "raised", "raised", defArgs s_raised, defBody s_raised, defScope s_raised, [], []⟩
def d_powering : He.DefD := ⟨("powering", none), "powering", "powering", defArgs s_powering, defBody s_powering, defScope s_powering, [], []⟩
def d_row_plus : He.DefD := ⟨("row_plus", none), "row_plus", "row_plus", defArgs s_row_plus, defBody s_row_plus, defScope s_row_plus, [], []⟩
def d_row_times : He.DefD := ⟨("row_times", none), "row_times", "row_times", defArgs s_row_times, defBody s_row_times, defScope s_row_times, [], []⟩
def d_square : He.DefD := ⟨("square", none), "square", "square", defArgs s_square, defBody s_square, defScope s_square, [], []⟩
def d_first_row : He.DefD := ⟨("first_row", none), "first_row", "first_row", defArgs s_first_row, defBody s_first_row, defScope s_first_row, [], []⟩
def d_exchange : He.DefD := ⟨("exchange", none), "exchange", "exchange", defArgs s_exchange, defBody s_exchange, defScope s_exchange, [], []⟩
def d_cleared : He.DefD := ⟨("cleared", none), "cleared", "cleared", defArgs s_cleared, defBody s_cleared, defScope s_cleared, [], []⟩
def d_echelon : He.DefD := ⟨("echelon", none), "echelon", "echelon", defArgs s_echelon, defBody s_echelon, defScope s_echelon, [], []⟩
def d_kernel : He.DefD := ⟨("kernel", none), "kernel", "kernel", defArgs s_kernel, defBody s_kernel, defScope s_kernel, [], []⟩
def d_rank : He.DefD := ⟨("rank", none), "rank", "rank", defArgs s_rank, defBody s_rank, defScope s_rank, [], []⟩
def d_less_one : He.DefD := ⟨("less_one", none), "less_one", "less_one", defArgs s_less_one, defBody s_less_one, defScope s_less_one, [], []⟩
def d_kept_rows : He.DefD := ⟨("kept_rows", none), "kept_rows", "kept_rows", defArgs s_kept_rows, defBody s_kept_rows, defScope s_kept_rows, [], []⟩
def d_parted_by : He.DefD := ⟨("parted_by", none), "parted_by", "parted_by", defArgs s_parted_by, defBody s_parted_by, defScope s_parted_by, [], []⟩
def d_split : He.DefD := ⟨("split", none), "split", "split", defArgs s_split, defBody s_split, defScope s_split, [], []⟩
def d_first_place : He.DefD := ⟨("first_place", none), "first_place", "first_place", defArgs s_first_place, defBody s_first_place, defScope s_first_place, [], []⟩
def d_paper : He.DefD := ⟨("paper", none), "paper", "paper", defArgs s_paper, defBody s_paper, defScope s_paper, [], []⟩
def d_divisor : He.DefD := ⟨("divisor", none), "divisor", "divisor", defArgs s_divisor, defBody s_divisor, defScope s_divisor, [], []⟩
def d_bared : He.DefD := ⟨("bared", none), "bared", "bared", defArgs s_bared, defBody s_bared, defScope s_bared, [], []⟩
def d_steps : He.DefD := ⟨("steps", none), "steps", "steps", defArgs s_steps, defBody s_steps, defScope s_steps, [], []⟩
def d_looked : He.DefD := ⟨("looked", none), "looked", "looked", defArgs s_looked, defBody s_looked, defScope s_looked, [], []⟩
def d_L_cell_at : He.DefD := ⟨("_law_cell_at", none), "_law_cell_at", "_law_cell_at", defArgs s_L_cell_at, defBody s_L_cell_at, defScope s_L_cell_at, [], []⟩
def d_L_head : He.DefD := ⟨("_law_head", none), "_law_head", "_law_head", defArgs s_L_head, defBody s_L_head, defScope s_L_head, [], []⟩
def d_L_trim : He.DefD := ⟨("_law_trim", none), "_law_trim", "_law_trim", defArgs s_L_trim, defBody s_L_trim, defScope s_L_trim, [], []⟩
def d_L_times : He.DefD := ⟨("_law_times", none), "_law_times", "_law_times", defArgs s_L_times, defBody s_L_times, defScope s_L_times, [], []⟩
def d_L_plus : He.DefD := ⟨("_law_plus", none), "_law_plus", "_law_plus", defArgs s_L_plus, defBody s_L_plus, defScope s_L_plus, [], []⟩
def d_L_divisor : He.DefD := ⟨("_law_divisor", none), "_law_divisor", "_law_divisor", defArgs s_L_divisor, defBody s_L_divisor, defScope s_L_divisor, [], []⟩
def d_L_content : He.DefD := ⟨("_law_content", none), "_law_content", "_law_content", defArgs s_L_content, defBody s_L_content, defScope s_L_content, [], []⟩
def d_L_bare : He.DefD := ⟨("_law_bare", none), "_law_bare", "_law_bare", defArgs s_L_bare, defBody s_L_bare, defScope s_L_bare, [], []⟩
def d_L_bound : He.DefD := ⟨("_law_bound", none), "_law_bound", "_law_bound", defArgs s_L_bound, defBody s_L_bound, defScope s_L_bound, [], []⟩
def d_L_is_prime : He.DefD := ⟨("_law_is_prime", none), "_law_is_prime", "_law_is_prime", defArgs s_L_is_prime, defBody s_L_is_prime, defScope s_L_is_prime, [], []⟩
def d_L_size_of : He.DefD := ⟨("_law_size_of", none), "_law_size_of", "_law_size_of", defArgs s_L_size_of, defBody s_L_size_of, defScope s_L_size_of, [], []⟩
def d_L_rest : He.DefD := ⟨("_law_rest", none), "_law_rest", "_law_rest", defArgs s_L_rest, defBody s_L_rest, defScope s_L_rest, [], []⟩
def d_L_raised : He.DefD := ⟨("_law_raised", none), "_law_raised", "_law_raised", defArgs s_L_raised, defBody s_L_raised, defScope s_L_raised, [], []⟩
def d_L_left : He.DefD := ⟨("_law_left", none), "_law_left", "_law_left", defArgs s_L_left, defBody s_L_left, defScope s_L_left, [], []⟩
def d_L_slope : He.DefD := ⟨("_law_slope", none), "_law_slope", "_law_slope", defArgs s_L_slope, defBody s_L_slope, defScope s_L_slope, [], []⟩
def d_L_opened : He.DefD := ⟨("_law_opened", none), "_law_opened", "_law_opened", defArgs s_L_opened, defBody s_L_opened, defScope s_L_opened, [], []⟩
def d_L_righted : He.DefD := ⟨("_law_righted", none), "_law_righted", "_law_righted", defArgs s_L_righted, defBody s_L_righted, defScope s_L_righted, [], []⟩
def d_L_good : He.DefD := ⟨("_law_good", none), "_law_good", "_law_good", defArgs s_L_good, defBody s_L_good, defScope s_L_good, [], []⟩
def d_L_whole : He.DefD := ⟨("_law_whole", none), "_law_whole", "_law_whole", defArgs s_L_whole, defBody s_L_whole, defScope s_L_whole, [], []⟩
def d_L_row_of_wholes : He.DefD := ⟨("_law_row_of_wholes", none), "_law_row_of_wholes", "_law_row_of_wholes", defArgs s_L_row_of_wholes, defBody s_L_row_of_wholes, defScope s_L_row_of_wholes, [], []⟩
def d_L_paper_shaped : He.DefD := ⟨("_law_paper_shaped", none), "_law_paper_shaped", "_law_paper_shaped", defArgs s_L_paper_shaped, defBody s_L_paper_shaped, defScope s_L_paper_shaped, [], []⟩
def d_L_rows_of_wholes : He.DefD := ⟨("_law_rows_of_wholes", none), "_law_rows_of_wholes", "_law_rows_of_wholes", defArgs s_L_rows_of_wholes, defBody s_L_rows_of_wholes, defScope s_L_rows_of_wholes, [], []⟩
def d_L_whole_paper_shaped : He.DefD := ⟨("_law_whole_paper_shaped", none), "_law_whole_paper_shaped", "_law_whole_paper_shaped", defArgs s_L_whole_paper_shaped, defBody s_L_whole_paper_shaped, defScope s_L_whole_paper_shaped, [], []⟩
def d_L_ones : He.DefD := ⟨("_law_ones", none), "_law_ones", "_law_ones", defArgs s_L_ones, defBody s_L_ones, defScope s_L_ones, [], []⟩
def d_L_sets : He.DefD := ⟨("_law_sets", none), "_law_sets", "_law_sets", defArgs s_L_sets, defBody s_L_sets, defScope s_L_sets, [], []⟩
def d_L_candidate : He.DefD := ⟨("_law_candidate", none), "_law_candidate", "_law_candidate", defArgs s_L_candidate, defBody s_L_candidate, defScope s_L_candidate, [], []⟩
def d_L_barred : He.DefD := ⟨("_law_barred", none), "_law_barred", "_law_barred", defArgs s_L_barred, defBody s_L_barred, defScope s_L_barred, [], []⟩
def d_L_made_of : He.DefD := ⟨("_law_made_of", none), "_law_made_of", "_law_made_of", defArgs s_L_made_of, defBody s_L_made_of, defScope s_L_made_of, [], []⟩
def d_L_whole_good : He.DefD := ⟨("_law_whole_good", none), "_law_whole_good", "_law_whole_good", defArgs s_L_whole_good, defBody s_L_whole_good, defScope s_L_whole_good, [], []⟩
def d_L_steps : He.DefD := ⟨("_law_steps", none), "_law_steps", "_law_steps", defArgs s_L_steps, defBody s_L_steps, defScope s_L_steps, [], []⟩
def d_L_free : He.DefD := ⟨("_law_free", none), "_law_free", "_law_free", defArgs s_L_free, defBody s_L_free, defScope s_L_free, [], []⟩
def d_L_drawn : He.DefD := ⟨("_law_drawn", none), "_law_drawn", "_law_drawn", defArgs s_L_drawn, defBody s_L_drawn, defScope s_L_drawn, [], []⟩
def d_L_a_part : He.DefD := ⟨("_law_a_part", none), "_law_a_part", "_law_a_part", defArgs s_L_a_part, defBody s_L_a_part, defScope s_L_a_part, [], []⟩
def d_law : He.DefD := ⟨("law", none), "law", "law", defArgs s_law, defBody s_law, defScope s_law, [], []⟩
def d_Kind_init : He.DefD := ⟨("Kind", some "__init__"), "__init__", "Kind.__init__", defArgs s_Kind_init, defBody s_Kind_init, defScope s_Kind_init, [], []⟩
def d_Wholes_init : He.DefD := ⟨("Wholes", some "__init__"), "__init__", "Wholes.__init__", defArgs s_Wholes_init, defBody s_Wholes_init, defScope s_Wholes_init, [], []⟩
def d_Wholes_plain : He.DefD := ⟨("Wholes", some "plain"), "plain", "Wholes.plain", defArgs s_Wholes_plain, defBody s_Wholes_plain, defScope s_Wholes_plain, [], []⟩
def d_Wholes_plus : He.DefD := ⟨("Wholes", some "plus"), "plus", "Kind.plus", defArgs s_Kind_plus, defBody s_Kind_plus, defScope s_Kind_plus, [], []⟩
def d_Wholes_less : He.DefD := ⟨("Wholes", some "less"), "less", "Kind.less", defArgs s_Kind_less, defBody s_Kind_less, defScope s_Kind_less, [], []⟩
def d_Wholes_times : He.DefD := ⟨("Wholes", some "times"), "times", "Kind.times", defArgs s_Kind_times, defBody s_Kind_times, defScope s_Kind_times, [], []⟩
def d_Wholes_over : He.DefD := ⟨("Wholes", some "over"), "over", "Wholes.over", defArgs s_Wholes_over, defBody s_Wholes_over, defScope s_Wholes_over, [], []⟩
def d_Rests_init : He.DefD := ⟨("Rests", some "__init__"), "__init__", "Rests.__init__", defArgs s_Rests_init, defBody s_Rests_init, defScope s_Rests_init, [], []⟩
def d_Rests_plain : He.DefD := ⟨("Rests", some "plain"), "plain", "Kind.plain", defArgs s_Kind_plain, defBody s_Kind_plain, defScope s_Kind_plain, [], []⟩
def d_Rests_plus : He.DefD := ⟨("Rests", some "plus"), "plus", "Kind.plus", defArgs s_Kind_plus, defBody s_Kind_plus, defScope s_Kind_plus, [], []⟩
def d_Rests_less : He.DefD := ⟨("Rests", some "less"), "less", "Kind.less", defArgs s_Kind_less, defBody s_Kind_less, defScope s_Kind_less, [], []⟩
def d_Rests_times : He.DefD := ⟨("Rests", some "times"), "times", "Kind.times", defArgs s_Kind_times, defBody s_Kind_times, defScope s_Kind_times, [], []⟩
def d_Rests_over : He.DefD := ⟨("Rests", some "over"), "over", "Kind.over", defArgs s_Kind_over, defBody s_Kind_over, defScope s_Kind_over, [], []⟩
def d_Powers_init : He.DefD := ⟨("Powers", some "__init__"), "__init__", "Powers.__init__", defArgs s_Powers_init, defBody s_Powers_init, defScope s_Powers_init, [], []⟩
def d_Powers_plain : He.DefD := ⟨("Powers", some "plain"), "plain", "Kind.plain", defArgs s_Kind_plain, defBody s_Kind_plain, defScope s_Kind_plain, [], []⟩
def d_Powers_plus : He.DefD := ⟨("Powers", some "plus"), "plus", "Kind.plus", defArgs s_Kind_plus, defBody s_Kind_plus, defScope s_Kind_plus, [], []⟩
def d_Powers_less : He.DefD := ⟨("Powers", some "less"), "less", "Kind.less", defArgs s_Kind_less, defBody s_Kind_less, defScope s_Kind_less, [], []⟩
def d_Powers_times : He.DefD := ⟨("Powers", some "times"), "times", "Kind.times", defArgs s_Kind_times, defBody s_Kind_times, defScope s_Kind_times, [], []⟩
def d_Powers_over : He.DefD := ⟨("Powers", some "over"), "over", "Kind.over", defArgs s_Kind_over, defBody s_Kind_over, defScope s_Kind_over, [], []⟩
def fn : List He.DefD := [d_trimmed, d_number_at, d_plus, d_less, d_times, d_scaled, d_slope, d_divided, d_with_lead_one, d_common, d_shares, d_is_prime, d_turned, d_bound, d_is_good, d_good_prime, d_many_for, d_sets_of, d_sets, d_nearest, d_candidate, d_looked_at, d_better, d_lifted_pair, d_lifted, d_raised, d_powering, d_row_plus, d_row_times, d_square, d_first_row, d_exchange, d_cleared, d_echelon, d_kernel, d_rank, d_less_one, d_kept_rows, d_parted_by, d_split, d_first_place, d_paper, d_divisor, d_bared, d_steps, d_looked, d_L_cell_at, d_L_head, d_L_trim, d_L_times, d_L_plus, d_L_divisor, d_L_content, d_L_bare, d_L_bound, d_L_is_prime, d_L_size_of, d_L_rest, d_L_raised, d_L_left, d_L_slope, d_L_opened, d_L_righted, d_L_good, d_L_whole, d_L_row_of_wholes, d_L_paper_shaped, d_L_rows_of_wholes, d_L_whole_paper_shaped, d_L_ones, d_L_sets, d_L_candidate, d_L_barred, d_L_made_of, d_L_whole_good, d_L_steps, d_L_free, d_L_drawn, d_L_a_part, d_law, d_Kind_init, d_Wholes_init, d_Wholes_plain, d_Wholes_plus, d_Wholes_less, d_Wholes_times, d_Wholes_over, d_Rests_init, d_Rests_plain, d_Rests_plus, d_Rests_less, d_Rests_times, d_Rests_over, d_Powers_init, d_Powers_plain, d_Powers_plus, d_Powers_less, d_Powers_times, d_Powers_over]
def fa : List He.Fa := [.glo "trimmed", .glo "number_at", .glo "plus", .glo "less", .glo "times", .glo "scaled", .glo "slope", .glo "divided", .glo "with_lead_one", .glo "common", .glo "shares", .glo "is_prime", .glo "turned", .glo "bound", .glo "is_good", .glo "good_prime", .glo "many_for", .glo "sets_of", .glo "sets", .glo "nearest", .glo "candidate", .glo "looked_at", .glo "better", .glo "lifted_pair", .glo "lifted", .glo "raised", .glo "powering", .glo "row_plus", .glo "row_times", .glo "square", .glo "first_row", .glo "exchange", .glo "cleared", .glo "echelon", .glo "kernel", .glo "rank", .glo "less_one", .glo "kept_rows", .glo "parted_by", .glo "split", .glo "first_place", .glo "paper", .glo "divisor", .glo "bared", .glo "steps", .glo "looked", .glo "_law_cell_at", .glo "_law_head", .glo "_law_trim", .glo "_law_times", .glo "_law_plus", .glo "_law_divisor", .glo "_law_content", .glo "_law_bare", .glo "_law_bound", .glo "_law_is_prime", .glo "_law_size_of", .glo "_law_rest", .glo "_law_raised", .glo "_law_left", .glo "_law_slope", .glo "_law_opened", .glo "_law_righted", .glo "_law_good", .glo "_law_whole", .glo "_law_row_of_wholes", .glo "_law_paper_shaped", .glo "_law_rows_of_wholes", .glo "_law_whole_paper_shaped", .glo "_law_ones", .glo "_law_sets", .glo "_law_candidate", .glo "_law_barred", .glo "_law_made_of", .glo "_law_whole_good", .glo "_law_steps", .glo "_law_free", .glo "_law_drawn", .glo "_law_a_part", .glo "law", .glo "Kind", .glo "Wholes", .glo "Rests", .glo "Powers", .cls "Wholes", .mkr "Wholes", .noat "Wholes" "size", .meth "Wholes" "plain", .meth "Wholes" "plus", .meth "Wholes" "less", .meth "Wholes" "times", .meth "Wholes" "over", .cls "Rests", .mkr "Rests", .noat "Rests" "size", .meth "Rests" "plain", .meth "Rests" "plus", .meth "Rests" "less", .meth "Rests" "times", .meth "Rests" "over", .cls "Powers", .mkr "Powers", .noat "Powers" "size", .meth "Powers" "plain", .meth "Powers" "plus", .meth "Powers" "less", .meth "Powers" "times", .meth "Powers" "over", .noat "Powers" "prime", .free "len", .free "max", .free "min", .free "range", .free "enumerate", .free "zip", .free "sum", .free "abs", .free "sorted", .free "reversed", .free "divmod", .free "list", .free "int", .free "tuple", .free "isinstance", .free "str", .free "bool", .int "GREATEST" 9973, .int "MOST" 400, .int "MOST_PRIME" 9973]
def loose0 : List PySem.Str := ["ForgeError", "NoOver", "NoPrime", "NoPower", "HasParts", "BadLift", "GREATEST", "MOST", "MOST_PRIME", "Kind", "Wholes", "Rests", "Powers", "trimmed", "number_at", "plus"]
def loose1 : List PySem.Str := ["less", "times", "scaled", "slope", "divided", "with_lead_one", "common", "shares", "is_prime", "turned", "bound", "is_good", "good_prime", "many_for", "sets_of", "sets"]
def loose2 : List PySem.Str := ["nearest", "candidate", "looked_at", "better", "lifted_pair", "lifted", "raised", "powering", "row_plus", "row_times", "square", "first_row", "exchange", "cleared", "echelon", "kernel"]
def loose3 : List PySem.Str := ["rank", "less_one", "kept_rows", "parted_by", "split", "first_place", "paper", "divisor", "bared", "steps", "looked", "_law_cell_at", "_law_head", "_law_trim", "_law_times", "_law_plus"]
def loose4 : List PySem.Str := ["_law_divisor", "_law_content", "_law_bare", "_law_bound", "_law_is_prime", "_law_size_of", "_law_rest", "_law_raised", "_law_left", "_law_slope", "_law_opened", "_law_righted", "_law_good", "_law_whole", "_law_row_of_wholes", "_law_paper_shaped"]
def loose5 : List PySem.Str := ["_law_rows_of_wholes", "_law_whole_paper_shaped", "_law_ones", "_law_sets", "_law_candidate", "_law_barred", "_law_made_of", "_law_whole_good", "_law_steps", "_law_free", "_law_drawn", "_law_a_part"]
def loose : List PySem.Str := loose0 ++ (loose1 ++ (loose2 ++ (loose3 ++ (loose4 ++ (loose5)))))
abbrev R : PySem.W.OpenRow := PySem.W.OpenLaw.row PySem.Challenge.rw_factorforge_k69_whole_looked
def adrs : List Addr := mainGlobals :: List.range 715
def kdB (K : PySem.W.Frag) : Bool := PySem.W.readsIn K (He.ga K "Kind") (.type "type") && (He.eqO (PySem.W.specialIn K (.ref (He.ga K "Kind")) "__getattribute__") (some (some (.builtin "type.__getattribute__"))) && (match PySem.W.findCls K (.ref (He.ga K "Kind")) (.type "type") "__init__" with
  | some (.val (.ref f)) => decide (f = He.fAd K ("Kind", some "__init__"))
  | _ => false))
def obsK (K : PySem.W.Frag) : Bool × He.AlD := (kdB K, He.obsD fa fn K)
def valK : Bool × He.AlD := (true, He.valD fn)
def obsX (g : Addr → Option Obj) : Bool × He.AlD := obsK (He.frG g adrs)
abbrev hk : PySem.W.Hook where
  α := Bool × He.AlD
  obs := fun s => obsX s.heap.get?
  val := fun _ => valK
  says := fun _ h => ∃ K : PySem.W.Frag, K.In h ∧ obsK K = valK
  of := fun _ _ e => ⟨_, He.frG_in, e⟩
  keeps := fun _ _ _ ⟨K, hK, c⟩ k => ⟨K, PySem.W.Frag.In.keeps hK k, c⟩
def ob (s : PySem.W.SharedT) : Bool × He.AlD := obsX (HandSHeadRun.getT s)
theorem ob_eq (s : PySem.W.SharedT) : ob s = hk.obs s.abs := by
  have e : HandSHeadRun.getT s = s.abs.heap.get? := funext (HandSHeadRun.getT_eq s)
  show obsX _ = obsX _
  rw [e]
set_option maxHeartbeats 0 in
theorem run (w : World) : HandSHeadRun.RunEq R (PySem.W.view R.prog [106]) hk ob 6000 loose w := by
  intro os
  kernel_rfl
end FF
end
section
set_option Elab.async false
set_option linter.all false
set_option maxRecDepth 100000
set_option maxHeartbeats 4000000
/-! FW1: the kinds. -/
namespace FF
open PySem PySem.Spec PyProof.Rows L2
/-! ### a kind as an object -/
structure KAt (C : Addr) (wh : Bool) (H : Hp) (q : Addr) (N : Int) : Prop where
  ob : ∃ dx fs, H q = some (.ins C dx fs) ∧ (fs = ([(("size" : Str), V.int N)] : List (Str × V)) ∨ ∃ p : Int, fs = ([(("size" : Str), V.int N), (("prime" : Str), V.int p)] : List (Str × V)))
  w : wh = true → N = 0
  r : wh = false → 1 < N ∧ N < 2 ^ 63
theorem KAt.same {C : Addr} {wh : Bool} {H H' : Hp} {q : Addr} {N : Int} (k : KAt C wh H q N) (e : Same H H') : KAt C wh H' q N := by
  obtain ⟨⟨dx, fs, h, z⟩, w, r⟩ := k
  exact ⟨⟨dx, fs, e _ _ h, z⟩, w, r⟩
theorem fs_size {fs : List (Str × V)} {N : Int} (h : fs = ([(("size" : Str), V.int N)] : List (Str × V)) ∨ ∃ p : Int, fs = ([(("size" : Str), V.int N), (("prime" : Str), V.int p)] : List (Str × V))) : fs.lookup ("size" : Str) = some (.int N) := by
  rcases h with rfl | ⟨p, rfl⟩ <;> simp [List.lookup]
theorem fs_none {fs : List (Str × V)} {N : Int} {m : Str} (h : fs = ([(("size" : Str), V.int N)] : List (Str × V)) ∨ ∃ p : Int, fs = ([(("size" : Str), V.int N), (("prime" : Str), V.int p)] : List (Str × V))) (h1 : (m == ("size" : Str)) = false) (h2 : (m == ("prime" : Str)) = false) : fs.lookup m = none := by
  rcases h with rfl | ⟨p, rfl⟩ <;> simp [List.lookup, h1, h2]
def spPlain (C : Addr) (wh : Bool) : Sp := fun vs H Q _ => ∃ (q : Addr) (x N : Int), vs = [.ref q, .int x] ∧ KAt C wh H q N ∧ Q (.int (x % N)) H
def spBin (C : Addr) (wh : Bool) (g : Int → Int → Int) (D : Int → Int → Prop) : Sp := fun vs H Q _ => ∃ (q : Addr) (a b N : Int), vs = [.ref q, .int a, .int b] ∧ KAt C wh H q N ∧ D a b ∧ Q (.int (g a b % N)) H
section
variable {P : Program} {w : World} {K : PySem.W.Frag} {mg : Str → Option Value} {base : Heap}
theorem ok_plainW {C : Addr} (T : TWholes K mg C) : MO P w K mg base 1 C "plain" ["self", "number"] (spPlain C true) := by
  refine MO.mk T.plain sc_Wholes_plain (fun _ _ _ _ _ _ us hl => match us, hl with | [_, _], _ => rfl) (fun vs H Q E h => ?_) (fun f cdv A outer s H vs Q E hr h => ?_)
  · obtain ⟨q, x, N, rfl, _⟩ := h; rfl
  · obtain ⟨q, x, N, rfl, k, hq⟩ := h
    refine ⟨_, pss_one (ps_ret (pv 1)), ?_⟩
    refine ⟨.int x, rfl, ?_⟩
    rw [k.w rfl, Int.emod_zero] at hq
    exact hq
theorem plainK {C : Addr} (cl : Cls K C) (nS : NoAttr K C "size") (D : MF K C "plain" "Kind.plain" s_Kind_plain) : MO P w K mg base 1 C "plain" ["self", "number"] (spPlain C false) := by
  refine MO.mk D sc_Kind_plain (fun _ _ _ _ _ _ us hl => match us, hl with | [_, _], _ => rfl) (fun vs H Q E h => ?_) (fun f cdv A outer s H vs Q E hr h => ?_)
  · obtain ⟨q, x, N, rfl, _⟩ := h; rfl
  · obtain ⟨q, x, N, rfl, k, hq⟩ := h
    obtain ⟨⟨dx, fs, ho, hfs⟩, _, hn⟩ := k
    have hN := (hn rfl).1
    refine ⟨_, pss_one (ps_ret (pe_op op_modN (pv 1) (pe_fld (pv 0) rfl))), ?_⟩
    refine ⟨_, rfl, _, rfl, q, C, dx, fs, _, rfl, ho, cl, nS, fs_size hfs, x, N, rfl, rfl, (show N ≠ 0 by omega), ?_⟩
    show Q (.int (x.fmod N)) H
    rw [Int.fmod_eq_emod_of_nonneg x (by omega)]
    exact hq
theorem plusK {C : Addr} {wh : Bool} (cl : Cls K C) (Pl : MO P w K mg base 1 C "plain" ["self", "number"] (spPlain C wh)) (D : MF K C "plus" "Kind.plus" s_Kind_plus) : MO P w K mg base 2 C "plus" ["self", "a", "b"] (spBin C wh (· + ·) fun _ _ => True) := by
  refine MO.mk D sc_Kind_plus (fun _ _ _ _ _ _ us hl => match us, hl with | [_, _, _], _ => rfl) (fun vs H Q E h => ?_) (fun f cdv A outer s H vs Q E hr h => ?_)
  · obtain ⟨q, a, b, N, rfl, _⟩ := h; rfl
  · obtain ⟨q, a, b, N, rfl, k, _, hq⟩ := h
    obtain ⟨f1, fd1, m1, b1, G1⟩ := Pl
    have k2 := k
    obtain ⟨⟨dx, fs, ho, hfs⟩, _, _⟩ := k2
    refine ⟨_, pss_one (ps_ret (pe_meth (pv 0) cl m1 G1 hr b1 .nil pass0 (pa_cons (pe_op op_add (pv 1) (pv 2)) pa_nil))), ?_⟩
    exact ⟨_, rfl, q, dx, fs, rfl, ho, fs_none hfs (by decide) (by decide), _, rfl, _, rfl, a, b, rfl, rfl, q, a + b, N, rfl, k, hq⟩
theorem lessK {C : Addr} {wh : Bool} (cl : Cls K C) (Pl : MO P w K mg base 1 C "plain" ["self", "number"] (spPlain C wh)) (D : MF K C "less" "Kind.less" s_Kind_less) : MO P w K mg base 2 C "less" ["self", "a", "b"] (spBin C wh (· - ·) fun _ _ => True) := by
  refine MO.mk D sc_Kind_less (fun _ _ _ _ _ _ us hl => match us, hl with | [_, _, _], _ => rfl) (fun vs H Q E h => ?_) (fun f cdv A outer s H vs Q E hr h => ?_)
  · obtain ⟨q, a, b, N, rfl, _⟩ := h; rfl
  · obtain ⟨q, a, b, N, rfl, k, _, hq⟩ := h
    obtain ⟨f1, fd1, m1, b1, G1⟩ := Pl
    have k2 := k
    obtain ⟨⟨dx, fs, ho, hfs⟩, _, _⟩ := k2
    refine ⟨_, pss_one (ps_ret (pe_meth (pv 0) cl m1 G1 hr b1 .nil pass0 (pa_cons (pe_op op_sub (pv 1) (pv 2)) pa_nil))), ?_⟩
    exact ⟨_, rfl, q, dx, fs, rfl, ho, fs_none hfs (by decide) (by decide), _, rfl, _, rfl, a, b, rfl, rfl, q, a - b, N, rfl, k, hq⟩
theorem timesK {C : Addr} {wh : Bool} (cl : Cls K C) (Pl : MO P w K mg base 1 C "plain" ["self", "number"] (spPlain C wh)) (D : MF K C "times" "Kind.times" s_Kind_times) : MO P w K mg base 2 C "times" ["self", "a", "b"] (spBin C wh (· * ·) CMul) := by
  refine MO.mk D sc_Kind_times (fun _ _ _ _ _ _ us hl => match us, hl with | [_, _, _], _ => rfl) (fun vs H Q E h => ?_) (fun f cdv A outer s H vs Q E hr h => ?_)
  · obtain ⟨q, a, b, N, rfl, _⟩ := h; rfl
  · obtain ⟨q, a, b, N, rfl, k, hm, hq⟩ := h
    obtain ⟨f1, fd1, m1, b1, G1⟩ := Pl
    have k2 := k
    obtain ⟨⟨dx, fs, ho, hfs⟩, _, _⟩ := k2
    refine ⟨_, pss_one (ps_ret (pe_meth (pv 0) cl m1 G1 hr b1 .nil pass0 (pa_cons (pe_op op_mul (pv 1) (pv 2)) pa_nil))), ?_⟩
    exact ⟨_, rfl, q, dx, fs, rfl, ho, fs_none hfs (by decide) (by decide), _, rfl, _, rfl, a, b, rfl, rfl, hm, q, a * b, N, rfl, k, hq⟩
/-! ### turned: the one that times a number leaves 1 -/
def spTurned : Sp := fun vs H Q _ => ∃ (n N : Int), vs = [.int n, .int N] ∧ 1 < N ∧ N < 2 ^ 63 ∧ (∃ c, N ∣ n * c - 1) ∧ ∀ (t : Int) (H' : Hp), Same H H' → 0 ≤ t → t < N → N ∣ n * t - 1 → Q (.int t) H'
structure TInv (n N one other near far : Int) : Prop where
  o1 : 0 ≤ one
  o2 : 0 ≤ other
  o3 : one ≤ N
  o4 : other < N
  e1 : N ∣ n * near - one
  e2 : N ∣ n * far - other
  u : ∃ a b, a * one + b * other = 1
theorem tinv_start {n N : Int} (h : 1 < N) (hc : ∃ c, N ∣ n * c - 1) : TInv n N N (n % N) 0 1 := by
  refine ⟨by omega, Int.emod_nonneg _ (by omega), Int.le_refl _, Int.emod_lt_of_pos _ (by omega), ⟨-1, by grind⟩, ⟨n / N, ?_⟩, ?_⟩
  · have := Int.emod_add_mul_ediv n N; grind
  · obtain ⟨c, k, e⟩ := hc
    refine ⟨c * (n / N) - k, c, ?_⟩
    have := Int.emod_add_mul_ediv n N; grind
theorem tinv_step {n N one other near far : Int} (t : TInv n N one other near far) (h : other ≠ 0) : TInv n N other (one % other) far (near - one / other * far) := by
  obtain ⟨o1, o2, o3, o4, ⟨a, ea⟩, ⟨b, eb⟩, ⟨u, v, eu⟩⟩ := t
  have hd := Int.emod_add_mul_ediv one other
  have h1 := Int.emod_lt_of_pos one (show 0 < other by omega)
  refine ⟨o2, Int.emod_nonneg _ h, by omega, by omega, ⟨b, eb⟩, ⟨a - one / other * b, by grind⟩, ⟨u * (one / other) + v, u, by grind⟩⟩
theorem tinv_end {n N one near far : Int} (t : TInv n N one 0 near far) : one = 1 := by
  obtain ⟨u, v, eu⟩ := t.u
  have h : one ∣ 1 := ⟨u, by grind⟩
  have := Int.le_of_dvd (by omega) h
  have := t.o1
  have h0 : one ≠ 0 := fun z => by rw [z] at eu; omega
  omega
theorem divp_small {i j : Int} (hj : 0 < j) (h0 : 0 ≤ i) (h : i < 2 ^ 63) : CDivP i j := by
  refine divp_ok hj ?_
  have := intBits_le_64 (k := i) (by omega) (by omega)
  omega
theorem ok_turned (T : TX K mg) : FO P w K mg base 1 "turned" ["number", "size"] spTurned := by
  refine FO.mk T.d_turned sc_turned (fun _ _ _ _ _ _ us hl => match us, hl with | [_, _], _ => rfl) (fun vs H Q E h => ?_) (fun f cdv A outer s H vs Q E hr h => ?_)
  · obtain ⟨n, N, rfl, _⟩ := h; rfl
  · obtain ⟨n, N, rfl, h1, h63, hc, hq⟩ := h
    refine ⟨_, (pss_cons (ps_set (i := 2) sc_turned.nd rfl (Or.inl rfl) (pv 1))
      (pss_cons (ps_set (i := 3) sc_turned.nd rfl (Or.inl rfl) (pe_op op_modN (pv 0) (pv 1)))
      (pss_cons (ps_set (i := 4) sc_turned.nd rfl (Or.inl rfl) pe_int)
      (pss_cons (ps_set (i := 5) sc_turned.nd rfl (Or.inl rfl) pe_int)
      (pss_cons (ps_while PassesOwn.never (pt_cmpR op_ne (pv 3) pe_int (nomark _))
        (pss_cons (ps_asg (pe_callB call_divmodW (by rfl) T.b_divmod (by decide +kernel) (pa_cons (pv 2) (pa_cons (pv 3) pa_nil))) (pg_tup rfl (pgs_cons (pg_name (i := 6) sc_turned.nd rfl (Or.inl rfl)) (pgs_cons (pg_name (i := 7) sc_turned.nd rfl (Or.inl rfl)) pgs_nil))))
        (pss_cons (ps_set (i := 2) sc_turned.nd rfl (Or.inl rfl) (pv 3))
        (pss_cons (ps_set (i := 3) sc_turned.nd rfl (Or.inl rfl) (pv 7))
        (pss_cons (ps_set (i := 7) sc_turned.nd rfl (Or.inl rfl) (pe_op op_sub (pv 4) (pe_op op_mul (pv 6) (pv 5))))
        (pss_cons (ps_set (i := 4) sc_turned.nd rfl (Or.inl rfl) (pv 5))
        (pss_one (ps_set (i := 5) sc_turned.nd rfl (Or.inl rfl) (pv 7)))))))))
      (pss_cons (ps_if (pt_cmpR op_ne (pv 2) pe_int (nomark _)) (pss_one ps_never) pss_nil)
      (pss_one (ps_ret (pe_op op_modN (pv 4) (pv 1)))))))))), ?_⟩
    refine ⟨_, rfl, _, rfl, _, rfl, n, N, rfl, rfl, (show N ≠ 0 by omega), ?_⟩
    have e0 : n.fmod N = n % N := Int.fmod_eq_emod_of_nonneg n (by omega)
    refine ⟨fun m σ H' => ∃ (one other near far : Int) (x6 x7 : Option V), m = other.toNat ∧ σ = [some (.int n), some (.int N), some (.int one), some (.int other), some (.int near), some (.int far), x6, x7] ∧ Same H H' ∧ TInv n N one other near far,
      ⟨_, N, n % N, 0, 1, none, none, rfl, ?_, Same.refl _, tinv_start h1 hc⟩, fun m σ H' hW => ?_⟩
    · rw [← e0]; rfl
    · obtain ⟨one, other, near, far, x6, x7, rfl, rfl, sm, t⟩ := hW
      refine ⟨_, rfl, rfl, _, rfl, ?_⟩
      by_cases ho : other = 0
      · subst ho
        refine ifEq rfl ?_
        have e1 := tinv_end t
        subst e1
        refine ⟨_, rfl, rfl, _, rfl, ?_⟩
        refine ifEq rfl ?_
        refine ⟨_, rfl, _, rfl, near, N, rfl, rfl, (show N ≠ 0 by omega), ?_⟩
        show Q (.int (near.fmod N)) H'
        rw [Int.fmod_eq_emod_of_nonneg near (by omega)]
        refine hq _ _ sm (Int.emod_nonneg _ (by omega)) (Int.emod_lt_of_pos _ (by omega)) ?_
        obtain ⟨k, e⟩ := t.e1
        have := Int.emod_add_mul_ediv near N
        exact ⟨k - n * (near / N), by grind⟩
      · refine ifNe (fun z => ho (vint.mp z)) ?_
        have hp : 0 < other := by have := t.o2; omega
        have hq0 : 0 ≤ one / other := Int.ediv_nonneg t.o1 t.o2
        have hq1 : one / other ≤ one := Int.ediv_le_self _ t.o1
        refine ⟨fun σ' H2 => ∃ (near2 far2 : Int) (x6 x7 : Option V), σ' = [some (.int n), some (.int N), some (.int other), some (.int (one % other)), some (.int near2), some (.int far2), x6, x7] ∧ Same H H2 ∧ TInv n N other (one % other) near2 far2, fun σ' H2 ⟨near2, far2, y6, y7, e, s2, t2⟩ => ⟨(one % other).toNat, ?_, other, one % other, near2, far2, y6, y7, rfl, e, s2, t2⟩, ?_⟩
        · have h3 := Int.emod_lt_of_pos one hp
          have h4 := Int.emod_nonneg one ho
          omega
        · refine ⟨_, rfl, _, rfl, one, other, rfl, divp_small hp t.o1 (by have := t.o3; omega), fun p hpn => ?_⟩
          refine ⟨p, _, rfl, sqT_of upd_same, rfl, _, _, rfl, _, _, rfl, rfl, ?_⟩
          refine ⟨_, rfl, _, rfl, _, rfl, _, rfl, _, rfl, _, _, rfl, rfl, .inl ⟨by omega, by have := t.o3; omega⟩, _, _, rfl, rfl, ?_⟩
          exact ⟨_, rfl, _, rfl, far, near - one / other * far, _, _, rfl, same_nw sm hpn, tinv_step t ho⟩
end
end FF
end
section
set_option Elab.async false
set_option linter.all false
set_option maxRecDepth 100000
set_option maxHeartbeats 4000000
/-! FW2: over; primes; the kinds made. -/
namespace FF
open PySem PySem.Spec PyProof.Rows L2
/-- a prime of the program -/
def PrZ (n : Int) : Prop := 2 ≤ n ∧ n ≤ 9973 ∧ IsP n.toNat
structure PrInv (n : Int) (by_ : Int) : Prop where
  b2 : 2 ≤ by_
  bn : by_ ≤ n
  nd : ∀ d : Int, 2 ≤ d → d < by_ → ¬ d ∣ n
theorem prinv_prime {n b : Int} (h : PrInv n b) (h2 : 2 ≤ n) (hb : n < b * b) : IsP n.toNat := by
  refine ⟨by omega, fun d hd => ?_⟩
  have hn : ((n.toNat : Nat) : Int) = n := Int.toNat_of_nonneg (by omega)
  obtain ⟨e, he⟩ := hd
  have he2 : n = (d : Int) * (e : Int) := by rw [← hn, he]; push_cast; rfl
  by_cases h1 : d = 1
  · exact .inl h1
  · by_cases h3 : e = 1
    · right; rw [he, h3]; omega
    · exfalso
      have hd0 : d ≠ 0 := fun z => by rw [z] at he2; simp at he2; omega
      have he0 : e ≠ 0 := fun z => by rw [z] at he2; simp at he2; omega
      have a1 := h.nd d (by omega)
      have a2 := h.nd e (by omega)
      by_cases hdb : (d : Int) < b
      · exact a1 hdb ⟨e, he2⟩
      · by_cases heb : (e : Int) < b
        · exact a2 heb ⟨d, by rw [he2]; exact Int.mul_comm _ _⟩
        · have h5 : b * b ≤ (d : Int) * e := by
            have q1 : b * b ≤ (d : Int) * b := Int.mul_le_mul_of_nonneg_right (by omega) (by have := h.b2; omega)
            have q2 : (d : Int) * b ≤ d * e := Int.mul_le_mul_of_nonneg_left (by omega) (by omega)
            omega
          omega
theorem prinv_not {n b : Int} (h : PrInv n b) (h2 : 2 ≤ n) (hb : b * b ≤ n) (hd : n % b = 0) : ¬ IsP n.toNat := fun hp => by
  have hb0 := h.b2
  have hdv : b ∣ n := Int.dvd_of_emod_eq_zero hd
  have hlt : b < n := by
    have : b * 2 ≤ b * b := Int.mul_le_mul_of_nonneg_left (by omega) (by omega)
    omega
  have h4 : b.toNat ∣ n.toNat := by
    have h5 : ((b.toNat : Nat) : Int) ∣ ((n.toNat : Nat) : Int) := by rw [Int.toNat_of_nonneg (by omega), Int.toNat_of_nonneg (by omega)]; exact hdv
    exact Int.natCast_dvd_natCast.mp h5
  rcases hp.2 _ h4 with h | h <;> omega
theorem prinv_step {n b : Int} (h : PrInv n b) (hb : b * b ≤ n) (hd : ¬ n % b = 0) : PrInv n (b + 1) := by
  have hb0 := h.b2
  refine ⟨by omega, ?_, fun d h1 h2 hdv => ?_⟩
  · have : b * 2 ≤ b * b := Int.mul_le_mul_of_nonneg_left (by omega) (by omega)
    omega
  · by_cases e : d = b
    · rw [e] at hdv; exact hd (Int.emod_eq_zero_of_dvd hdv)
    · exact h.nd d h1 (by omega) hdv
def spPrime : Sp := fun vs H Q _ => ∃ n : Int, vs = [.int n] ∧ ∀ b : Bool, (b = true ↔ PrZ n) → Q (.bl b) H
section
variable {P : Program} {w : World} {K : PySem.W.Frag} {mg : Str → Option Value} {base : Heap}
theorem ok_is_prime (T : TX K mg) : FO P w K mg base 1 "is_prime" ["number"] spPrime := by
  refine FO.mk T.d_is_prime sc_is_prime (fun _ _ _ _ _ _ us hl => match us, hl with | [_], _ => rfl) (fun vs H Q E h => ?_) (fun f cdv A outer s H vs Q E hr h => ?_)
  · obtain ⟨n, rfl, _⟩ := h; rfl
  · obtain ⟨n, rfl, hq⟩ := h
    obtain ⟨tG, mg_GREATEST⟩ := T.iG
    refine ⟨_, (pss_cons (ps_if (PW.pt (pw_or (pt_cmpR op_lt (pv 0) pe_int (nomark _)) (pw_or1 (pt_cmpR op_gt (pv 0) (pe_glob (v := .int 9973) rfl mg_GREATEST ⟨_, rfl⟩) (nomark _))))) (pss_one (ps_ret pe_bl)) pss_nil)
      (pss_cons (ps_set (i := 1) sc_is_prime.nd rfl (Or.inl rfl) pe_int)
      (pss_cons (ps_while PassesOwn.never (pt_cmpR op_le (pe_op op_mul (pv 1) (pv 1)) (pv 0) (nomark _))
        (pss_cons (ps_if (pt_cmpR op_eq (pe_op op_modN (pv 0) (pv 1)) pe_int (nomark _)) (pss_one (ps_ret pe_bl)) pss_nil)
        (pss_one (ps_aug (i := 1) sc_is_prime.nd rfl (Or.inl rfl) pe_int ip_add))))
      (pss_one (ps_ret pe_bl))))), ?_⟩
    refine ⟨_, rfl, n, 2, rfl, rfl, _, rfl, ?_⟩
    by_cases h2 : n < 2
    · refine ifD h2 (iteT ?_)
      exact hq false ⟨fun z => (by cases z), fun z => by have := z.1; omega⟩
    · refine ifN h2 ⟨_, rfl, n, 9973, rfl, rfl, _, rfl, ?_⟩
      by_cases h3 : 9973 < n
      · rw [decide_eq_true h3]
        refine iteT ?_
        exact hq false ⟨fun z => (by cases z), fun z => by have := z.2.1; omega⟩
      · rw [decide_eq_false h3]
        refine iteF ?_
        refine ⟨fun m σ H' => ∃ b : Int, m = (n - b).toNat ∧ σ = [some (.int n), some (.int b)] ∧ H' = H ∧ PrInv n b, ⟨_, 2, rfl, rfl, rfl, ⟨by omega, by omega, fun d _ _ => by omega⟩⟩, fun m σ H' hW => ?_⟩
        obtain ⟨b, rfl, rfl, rfl, hi⟩ := hW
        have hb1 := hi.b2
        have hb2 := hi.bn
        refine ⟨_, rfl, _, rfl, b, b, rfl, rfl, .inl ⟨by omega, by omega⟩, _, rfl, b * b, n, rfl, rfl, _, rfl, ?_⟩
        by_cases h4 : b * b ≤ n
        · refine ifD h4 ?_
          refine ⟨fun σ' H2 => σ' = [some (.int n), some (.int (b + 1))] ∧ H2 = H' ∧ PrInv n (b + 1) ∧ b < n, fun σ' H2 ⟨e1, e2, e3, e4⟩ => ⟨(n - (b + 1)).toNat, by omega, b + 1, rfl, e1, e2, e3⟩, ?_⟩
          refine ⟨_, rfl, _, rfl, n, b, rfl, rfl, (show b ≠ 0 by omega), rfl, _, rfl, ?_⟩
          have e0 : n.fmod b = n % b := Int.fmod_eq_emod_of_nonneg n (by omega)
          by_cases h5 : n % b = 0
          · refine ifD (vint.mpr (by show n.fmod b = 0; rw [e0]; exact h5)) ?_
            exact hq false ⟨fun z => (by cases z), fun z => (prinv_not hi (by omega) h4 h5 z.2.2).elim⟩
          · refine ifN (fun z => h5 (by rw [← e0]; exact vint.mp z)) ?_
            have h6 := prinv_step hi h4 h5
            exact ⟨_, rfl, b, 1, rfl, rfl, rfl, rfl, h6, by have := h6.bn; omega⟩
        · refine ifN h4 ?_
          exact hq true ⟨fun _ => ⟨by omega, by omega, prinv_prime hi (by omega) (by omega)⟩, fun _ => rfl⟩
def spOver (C : Addr) : Sp := fun vs H Q _ => ∃ (q : Addr) (a b N : Int), vs = [.ref q, .int a, .int b] ∧ KAt C false H q N ∧ (∃ c, N ∣ b * c - 1) ∧ ∀ (c : Int) (H' : Hp), Same H H' → 0 ≤ c → c < N → N ∣ b * c - a → Q (.int c) H'
theorem overK {C : Addr} (T : TX K mg) (cl : Cls K C) (nS : NoAttr K C "size") (Pl : MO P w K mg base 1 C "plain" ["self", "number"] (spPlain C false)) (D : MF K C "over" "Kind.over" s_Kind_over) : MO P w K mg base 2 C "over" ["self", "a", "b"] (spOver C) := by
  refine MO.mk D sc_Kind_over (fun _ _ _ _ _ _ us hl => match us, hl with | [_, _, _], _ => rfl) (fun vs H Q E h => ?_) (fun f cdv A outer s H vs Q E hr h => ?_)
  · obtain ⟨q, a, b, N, rfl, _⟩ := h; rfl
  · obtain ⟨q, a, b, N, rfl, k, hc, hq⟩ := h
    obtain ⟨f1, fd1, m_plain, b_plain, G_plain⟩ := Pl
    obtain ⟨f_turned, fd_turned, g_turned, k_turned, b_turned, G_turned⟩ := ok_turned (P := P) (w := w) (base := base) T
    have k2 := k
    obtain ⟨⟨dx, fs, ho, hfs⟩, _, hn⟩ := k2
    have h1 := hn rfl
    refine ⟨_, (pss_one (ps_ret (pe_meth (pv 0) cl m_plain G_plain (hr.mono (by decide)) b_plain .nil pass0 (pa_cons (pe_op op_mul (pv 1) (pe_call G_turned (hr.mono (by decide)) (by rfl) g_turned k_turned b_turned .nil pass0 (pa_cons (pv 2) (pa_cons (pe_fld (pv 0) rfl) pa_nil)))) pa_nil)))), ?_⟩
    refine ⟨_, rfl, q, dx, fs, rfl, ho, fs_none hfs (by decide) (by decide), _, rfl, _, rfl, _, rfl, q, C, dx, fs, _, rfl, ho, cl, nS, fs_size hfs, b, N, rfl, h1.1, h1.2, hc, fun t H' sm t0 t1 t2 => ?_⟩
    refine ⟨a, t, rfl, rfl, .inr ⟨by omega, by omega⟩, q, a * t, N, rfl, k.same sm, ?_⟩
    refine hq _ _ sm (Int.emod_nonneg _ (by omega)) (Int.emod_lt_of_pos _ (by omega)) ?_
    obtain ⟨x, hx⟩ := t2
    have := Int.emod_add_mul_ediv (a * t) N
    exact ⟨a * x - b * (a * t / N), by grind⟩
/-! ### the kinds made -/
def spKInit (C : Addr) : Sp := fun vs H Q _ => ∃ (q dx : Addr) (n : Int), vs = [.ref q, .int n] ∧ H q = some (.ins C dx []) ∧ Q .non (upd H q (.ins C dx [(("size" : Str), V.int n)]))
theorem kinit {Cx : Addr} {D : Addr} (cl : Cls K D) (nS : NoAttr K D "size") (F : KF K Cx s_Kind_init) : ∃ f fd, ClX.CRead K Cx (.type "type") ∧ PySem.W.findCls K (.ref Cx) (.type "type") "__init__" = some (.val (.ref f)) ∧ PySem.W.keepIn K (.ref f) = true ∧ Binds K fd ["self", "size"] [] ∧ FnOk P w K mg base CX0 1 f fd ["self", "size"] (spKInit D) := by
  obtain ⟨f, fd, r, c, F⟩ := F
  refine ⟨f, fd, r, c, F.kp, F.bindsN (fun _ _ _ _ _ _ us hl => match us, hl with | [_, _], _ => rfl), F.ok sc_Kind_init (fun vs H Q E h => ?_) fun cdv A outer s H vs Q E hr h => ?_⟩
  · obtain ⟨q, dx, n, rfl, _⟩ := h; rfl
  · obtain ⟨q, dx, n, rfl, ho, hq⟩ := h
    refine ⟨_, PSs.nox (pss_one (ps_fld (pv 0) (pv 1) rfl)), ?_⟩
    exact ⟨_, rfl, _, rfl, q, D, dx, [], rfl, ho, cl, nS, by decide, hq⟩
def spInit (C : Addr) (args : List V) (ok : Prop) (fs : List (Str × V)) : Sp := fun vs H Q _ => ∃ (q dx : Addr), vs = .ref q :: args ∧ ok ∧ H q = some (.ins C dx []) ∧ ∀ H', Same (upd H q (.ins C dx fs)) H' → (∀ b, b ≠ q → H' b = H b) → Q .non H'
/-- C(..) makes such an instance -/
def MkO (P : Program) (w : World) (K : PySem.W.Frag) (mg : Str → Option Value) (base : Heap) (k : Nat) (x : Str) (C : Addr) (ps : List Str) (sp : Sp) : Prop :=
  ∃ f fd, mg x = some (.ref C) ∧ Mk K C f ∧ Binds K fd ps [] ∧ FnOk P w K mg base CX0 k f fd ps sp
theorem MkO.mk {x q : Str} {C : Addr} {st : Stmt} {N ps : List Str} {k : Nat} {sp : Sp} (g : mg x = some (.ref C)) (D : IF K C q st) (S : FnScope N ps (defScope st)) (B : BindF "__init__" q st ps) (len : ∀ vs H Q E, sp vs H Q E → vs.length = ps.length)
    (body : ∀ f, BodyF P w K mg base q st N f k sp) : MkO P w K mg base (k + 1) x C ps sp := by
  obtain ⟨f, fd, m, F⟩ := D
  refine ⟨f, fd, g, m, F.bindsN B, F.ok S len fun cdv A outer s H vs Q E hr h => ?_⟩
  obtain ⟨t, h1, h2⟩ := body f cdv A outer s H vs Q E hr h
  exact ⟨t, h1.nox, h2⟩
def spInitW (C : Addr) : Sp := fun vs H Q _ => ∃ (q dx : Addr), vs = [.ref q] ∧ H q = some (.ins C dx []) ∧ Q .non (upd H q (.ins C dx [(("size" : Str), V.int 0)]))
def spInitR (C : Addr) : Sp := fun vs H Q _ => ∃ (q dx : Addr) (p : Int), vs = [.ref q, .int p] ∧ PrZ p ∧ H q = some (.ins C dx []) ∧ Q .non (upd H q (.ins C dx [(("size" : Str), V.int p)]))
def spInitP (C : Addr) : Sp := fun vs H Q _ => ∃ (q dx : Addr) (p : Int) (m : Nat), vs = [.ref q, .int p, .int m] ∧ PrZ p ∧ 1 ≤ m ∧ m ≤ 400 ∧ H q = some (.ins C dx []) ∧
  Q .non (upd (upd H q (.ins C dx [(("size" : Str), V.int (p ^ m))])) q (.ins C dx [(("size" : Str), V.int (p ^ m)), (("prime" : Str), V.int p)]))
theorem ok_initW {C : Addr} (T : TX K mg) (c : TWholes K mg C) : MkO P w K mg base 2 "Wholes" C ["self"] (spInitW C) := by
  refine MkO.mk c.g c.init sc_Wholes_init (fun _ _ _ _ _ _ us hl => match us, hl with | [_], _ => rfl) (fun vs H Q E h => ?_) (fun f cdv A outer s H vs Q E hr h => ?_)
  · obtain ⟨q, dx, rfl, _⟩ := h; rfl
  · obtain ⟨q, dx, rfl, ho, hq⟩ := h
    obtain ⟨Ck, gK, KF⟩ := T.cKind
    obtain ⟨f1, fd1, rK, cK, kpK, bK, GK⟩ := kinit (P := P) (w := w) (mg := mg) (base := base) c.cl c.nS KF
    refine ⟨_, (pss_one (ps_expr (pe_clsfn (pe_glob (v := .ref Ck) rfl gK rfl) rK cK kpK GK (hr.mono (by decide)) bK .nil pass0 (pa_cons (pv 0) (pa_cons pe_int pa_nil))))), ?_⟩
    exact ⟨rfl, _, rfl, q, dx, 0, rfl, ho, hq⟩
theorem ok_initR {C : Addr} (T : TX K mg) (c : TRests K mg C) : MkO P w K mg base 2 "Rests" C ["self", "prime"] (spInitR C) := by
  refine MkO.mk c.g c.init sc_Rests_init (fun _ _ _ _ _ _ us hl => match us, hl with | [_, _], _ => rfl) (fun vs H Q E h => ?_) (fun f cdv A outer s H vs Q E hr h => ?_)
  · obtain ⟨q, dx, p, rfl, _⟩ := h; rfl
  · obtain ⟨q, dx, p, rfl, hp, ho, hq⟩ := h
    obtain ⟨Ck, gK, KF⟩ := T.cKind
    obtain ⟨f1, fd1, rK, cK, kpK, bK, GK⟩ := kinit (P := P) (w := w) (mg := mg) (base := base) c.cl c.nS KF
    obtain ⟨f_is_prime, fd_is_prime, g_is_prime, k_is_prime, b_is_prime, G_is_prime⟩ := ok_is_prime (P := P) (w := w) (base := base) T
    refine ⟨_, (pss_cons (ps_if (pt_not (pt_val (pe_call G_is_prime (hr.mono (by decide)) (by rfl) g_is_prime k_is_prime b_is_prime .nil pass0 (pa_cons (pv 1) pa_nil)))) (pss_one ps_never) pss_nil)
      (pss_one (ps_expr (pe_clsfn (pe_glob (v := .ref Ck) rfl gK rfl) rK cK kpK GK (hr.mono (by decide)) bK .nil pass0 (pa_cons (pv 0) (pa_cons (pv 1) pa_nil)))))), ?_⟩
    refine ⟨_, rfl, p, rfl, fun b hb => ⟨b, rfl, ?_⟩⟩
    rw [hb.mpr hp]
    refine iteF ?_
    exact ⟨rfl, _, rfl, _, rfl, q, dx, p, rfl, ho, hq⟩
theorem ok_initP {C : Addr} (T : TX K mg) (c : TPowers K mg C) : MkO P w K mg base 2 "Powers" C ["self", "prime", "many"] (spInitP C) := by
  refine MkO.mk c.g c.init sc_Powers_init (fun _ _ _ _ _ _ us hl => match us, hl with | [_, _, _], _ => rfl) (fun vs H Q E h => ?_) (fun f cdv A outer s H vs Q E hr h => ?_)
  · obtain ⟨q, dx, p, m, rfl, _⟩ := h; rfl
  · obtain ⟨q, dx, p, m, rfl, hp, hm1, hm4, ho, hq⟩ := h
    obtain ⟨Ck, gK, KF⟩ := T.cKind
    obtain ⟨tM, mg_MOST⟩ := T.iM
    obtain ⟨f1, fd1, rK, cK, kpK, bK, GK⟩ := kinit (P := P) (w := w) (mg := mg) (base := base) c.cl c.nS KF
    obtain ⟨f_is_prime, fd_is_prime, g_is_prime, k_is_prime, b_is_prime, G_is_prime⟩ := ok_is_prime (P := P) (w := w) (base := base) T
    refine ⟨_, (pss_cons (ps_if (pt_not (pt_val (pe_call G_is_prime (hr.mono (by decide)) (by rfl) g_is_prime k_is_prime b_is_prime .nil pass0 (pa_cons (pv 1) pa_nil)))) (pss_one ps_never) pss_nil)
      (pss_cons (ps_if (PW.pt (pw_or (pt_cmpR op_lt (pv 2) pe_int (nomark _)) (pw_or1 (pt_cmpR op_gt (pv 2) (pe_glob (v := .int 400) rfl mg_MOST ⟨_, rfl⟩) (nomark _))))) (pss_one ps_never) pss_nil)
      (pss_cons (ps_set (i := 3) sc_Powers_init.nd rfl (Or.inl rfl) pe_int)
      (pss_cons (ps_for PassesOwn.never rfl (pi_range1 (by rfl) T.b_range (pa_cons (pv 2) pa_nil)) (pg_name (i := 4) sc_Powers_init.nd rfl (Or.inl rfl))
        (pss_one (ps_set (i := 3) sc_Powers_init.nd rfl (Or.inl rfl) (pe_op op_mul (pv 3) (pv 1)))))
      (pss_cons (ps_expr (pe_clsfn (pe_glob (v := .ref Ck) rfl gK rfl) rK cK kpK GK (hr.mono (by decide)) bK .nil pass0 (pa_cons (pv 0) (pa_cons (pv 3) pa_nil))))
      (pss_one (ps_fld (pv 0) (pv 1) rfl))))))), ?_⟩
    refine ⟨_, rfl, p, rfl, fun b hb => ⟨b, rfl, ?_⟩⟩
    rw [hb.mpr hp]
    refine iteF ?_
    refine ⟨_, rfl, m, 1, rfl, rfl, _, rfl, ?_⟩
    refine ifN (by omega) ⟨_, rfl, m, 400, rfl, rfl, _, rfl, ?_⟩
    rw [decide_eq_false (show ¬ (400 : Int) < m by omega)]
    refine iteF ?_
    refine ⟨_, rfl, m, rfl, by omega, by omega, for_range (lo := 0) (n := ((m : Int)).toNat) (fun i σ H' => ∃ x4, σ = [some (.ref q), some (.int p), some (.int m), some (.int (p ^ i)), x4] ∧ H' = H) ⟨none, by rw [Int.pow_zero]; rfl, rfl⟩ (fun i σ H' hi hW => ?_) (fun σ H' hW => ?_)⟩
    · obtain ⟨x4, rfl, rfl⟩ := hW
      have := hp.2.1
      have := hp.1
      refine ⟨_, rfl, _, rfl, p ^ i, p, rfl, rfl, .inr ⟨by omega, by omega⟩, some (.int (0 + i)), ?_, rfl⟩
      rw [Int.pow_succ]; rfl
    · obtain ⟨x4, rfl, rfl⟩ := hW
      have e : ((m : Int)).toNat = m := rfl
      refine ⟨rfl, _, rfl, _, rfl, q, dx, p ^ m, rfl, ho, ?_⟩
      exact ⟨_, rfl, _, rfl, q, C, dx, _, rfl, upd_same, c.cl, c.nP, by simp, hq⟩
end
end FF
end
section
set_option Elab.async false
set_option linter.all false
set_option maxRecDepth 100000
set_option maxHeartbeats 4000000
/-! FW3: comprehensions in short; lists of ints compared; what a kind does, whichever it is. -/
namespace FF
open PySem PySem.Spec PyProof.Rows L2
/-! ### comprehensions -/
section
variable {K : PySem.W.Frag} {J : It} {n : Nat} {G : Hp → Prop} {Y : Nat → Hp → V → Hp → Prop}
theorem lcG (wk : Walk J n G Y) {g : TG} {te : TE} {vs : List Nat} {σ : L2.St} {H1 : Hp} {D : Addr} {Qd : Hp → Prop} (v : Nat → V) (hn : n ≤ 100000) (hD : H1 D = none) (hG : ∀ H', Same H1 H' → G H')
    (he : ∀ i x H' H'', i < n → Same H1 H'' → Y i H' x H'' → ∀ Qe : VK, (∀ H4, Same H'' H4 → Qe (v i) H4) → g x (wipe σ vs) H'' fun σ2 H2 => wipe σ2 vs = wipe σ vs ∧ te σ2 H2 Qe)
    (hY : ∀ i x H' H'', Y i H' x H'' → Same H' H'')
    (hd : ∀ H', Same H1 H' → H' D = some (.lst ((List.range n).map v)) → Qd H') :
    ∃ W : Nat → Nat → Hp → Prop, (∃ m, W 0 m (upd H1 D (.lst []))) ∧ ∀ i m H, W i m H →
      (J.stop i H ∧ Qd H) ∨ (J.go i H ∧ ∃ Nx : Hp → Prop, (∀ H', Nx H' → ∃ m', m' < m ∧ W (i + 1) m' H') ∧ ∀ x H', J.yld i H x H' → g x (wipe σ vs) H' fun σ2 H2 => wipe σ2 vs = wipe σ vs ∧ tYes σ2 H2 fun b H3 =>
        if b = true then te σ2 H3 fun y H4 => ∃ acc, H4 D = some (.lst acc) ∧ acc.length < sizeLine ∧ Nx (upd H4 D (.lst (acc ++ [y]))) else Nx H3) := by
  refine lc_it wk (fun i H' => Same H1 H' ∧ H' D = some (.lst ((List.range i).map v))) ⟨same_new (Same.refl _) hD, upd_same⟩ (fun i H' _ p => hG H' p.1) (fun i x H' H'' hi p y => ?_) (fun H' p => hd H' p.1 p.2)
  have s2 := hY i x H' H'' y
  have q := he i x H' H'' hi (p.1.trans s2) y (fun y' H4 => ∃ acc, H4 D = some (.lst acc) ∧ acc.length < sizeLine ∧ (Same H1 (upd H4 D (.lst (acc ++ [y']))) ∧ (upd H4 D (.lst (acc ++ [y']))) D = some (.lst ((List.range (i + 1)).map v)))) (fun H4 s4 => by
    refine ⟨_, s4 _ _ (s2 _ _ p.2), small_lt (by simp; omega), same_new (p.1.trans (s2.trans s4)) hD, ?_⟩
    rw [upd_same, List.range_succ, List.map_append]; rfl)
  exact q
end
section
variable {K : PySem.W.Frag} {te : TE} {j : Nat} {vs : List Nat} {σ : L2.St} {H1 : Hp} {D : Addr} {Qd : Hp → Prop}
/-- over a list; each element a value by its place -/
theorem lcL {a : Addr} {xs : List V} (v : Nat → V) (hn : xs.length ≤ 100000) (hx : SqL K H1 a xs) (hD : H1 D = none) (hw : ∀ x, wipe ((wipe σ vs).set j (some x)) vs = wipe σ vs)
    (he : ∀ i x H', xs[i]? = some x → Same H1 H' → ∀ Qe : VK, (∀ H4, Same H' H4 → Qe (v i) H4) → te ((wipe σ vs).set j (some x)) H' Qe)
    (hd : ∀ H', Same H1 H' → H' D = some (.lst ((List.range xs.length).map v)) → Qd H') :
    ∃ W : Nat → Nat → Hp → Prop, (∃ m, W 0 m (upd H1 D (.lst []))) ∧ ∀ i m H, W i m H →
      ((Itl K a).stop i H ∧ Qd H) ∨ ((Itl K a).go i H ∧ ∃ Nx : Hp → Prop, (∀ H', Nx H' → ∃ m', m' < m ∧ W (i + 1) m' H') ∧ ∀ x H', (Itl K a).yld i H x H' → gName j x (wipe σ vs) H' fun σ2 H2 => wipe σ2 vs = wipe σ vs ∧ tYes σ2 H2 fun b H3 =>
        if b = true then te σ2 H3 fun y H4 => ∃ acc, H4 D = some (.lst acc) ∧ acc.length < sizeLine ∧ Nx (upd H4 D (.lst (acc ++ [y]))) else Nx H3) :=
  lcG (walk_list (xs := xs)) v hn hD (fun H' e => e.seq hx) (fun i x H' H'' hi e y Qe q => by
    obtain ⟨rfl, hx⟩ := y
    exact ⟨hw x, he i x H'' hx e Qe q⟩) (fun i x H' H'' y => by obtain ⟨rfl, _⟩ := y; exact Same.refl _) hd
/-- over a range -/
theorem lcR {lo : Int} {n : Nat} (v : Nat → V) (hn : n ≤ 100000) (hD : H1 D = none) (hw : ∀ x, wipe ((wipe σ vs).set j (some x)) vs = wipe σ vs)
    (he : ∀ (i : Nat) H', i < n → Same H1 H' → ∀ Qe : VK, (∀ H4, Same H' H4 → Qe (v i) H4) → te ((wipe σ vs).set j (some (.int (lo + i)))) H' Qe)
    (hd : ∀ H', Same H1 H' → H' D = some (.lst ((List.range n).map v)) → Qd H') :
    ∃ W : Nat → Nat → Hp → Prop, (∃ m, W 0 m (upd H1 D (.lst []))) ∧ ∀ i m H, W i m H →
      ((Itr lo n).stop i H ∧ Qd H) ∨ ((Itr lo n).go i H ∧ ∃ Nx : Hp → Prop, (∀ H', Nx H' → ∃ m', m' < m ∧ W (i + 1) m' H') ∧ ∀ x H', (Itr lo n).yld i H x H' → gName j x (wipe σ vs) H' fun σ2 H2 => wipe σ2 vs = wipe σ vs ∧ tYes σ2 H2 fun b H3 =>
        if b = true then te σ2 H3 fun y H4 => ∃ acc, H4 D = some (.lst acc) ∧ acc.length < sizeLine ∧ Nx (upd H4 D (.lst (acc ++ [y]))) else Nx H3) :=
  lcG (walk_range (lo := lo) (n := n)) v hn hD (fun _ _ => trivial) (fun i x H' H'' hi e y Qe q => by
    obtain ⟨rfl, rfl⟩ := y
    exact ⟨hw _, he i H'' hi e Qe q⟩) (fun i x H' H'' y => by obtain ⟨rfl, _⟩ := y; exact Same.refl _) hd
end
/-! ### lists of ints -/
theorem range_map_get {α : Type} (l : List Int) (f : Int → α) : (List.range l.length).map (fun i => f (co l i)) = l.map f := by
  apply List.ext_getElem
  · simp
  · intro i h1 h2
    simp only [List.getElem_map, List.getElem_range]
    rw [co_lt (by simpa using h1)]
theorem map_get {l : List Int} {i : Nat} {x : V} (h : (l.map V.int)[i]? = some x) : x = .int (co l i) ∧ i < l.length := by
  rw [List.getElem?_map] at h
  cases e : l[i]? with
  | none => rw [e] at h; cases h
  | some y =>
    rw [e] at h
    obtain ⟨h1, h2⟩ := List.getElem?_eq_some_iff.mp e
    refine ⟨?_, h1⟩
    rw [co_lt h1, h2]
    exact (Option.some.inj h).symm
theorem at_co {l : List Int} {i : Nat} (h : i < l.length) : atI (l.map V.int) (i : Int) = some (.int (co l i)) := by
  refine atI_nat (j := i) ?_
  rw [List.getElem?_map, List.getElem?_eq_getElem h, co_lt h]; rfl
theorem at_last (l : List Int) (a : Int) : atI ((l ++ [a]).map V.int) (-1) = some (.int a) := by
  rw [List.map_append]
  exact atI_last _ _
theorem dpAll_ints {K : PySem.W.Frag} {H : Hp} : ∀ l : List Int, DpAll K H (l.map V.int) (l.map PyData.int)
  | [] => .nil
  | a :: l => .cons (.int a) (dpAll_ints l)
theorem dp_ints {K : PySem.W.Frag} {H : Hp} {a : Addr} {l : List Int} (h : SqL K H a (l.map V.int)) : Dp K H (.ref a) (.list (l.map PyData.int)) := .lst h (dpAll_ints l)
theorem eqD_ints {K : PySem.W.Frag} {H : Hp} {a b : Addr} {l m : List Int} {Q : VK} (h1 : SqL K H a (l.map V.int)) (h2 : SqL K H b (m.map V.int)) (q : Q (.bl (decide (l = m))) H) : rEqD K (.ref a) (.ref b) H Q := by
  refine ⟨_, _, dp_ints h1, dp_ints h2, PySem.W.ke_shaped_ints l, PySem.W.ke_shaped_ints m, ?_⟩
  have e : PyData.eqv (.list (l.map PyData.int)) (.list (m.map PyData.int)) = decide (l = m) := by
    show PyData.eqvAll _ _ = _
    exact PySem.W.ked_eqvAll l m
  rw [e]; exact q
theorem neD_ints {K : PySem.W.Frag} {H : Hp} {a b : Addr} {l m : List Int} {Q : VK} (h1 : SqL K H a (l.map V.int)) (h2 : SqL K H b (m.map V.int)) (q : Q (.bl (!decide (l = m))) H) : rNeD K (.ref a) (.ref b) H Q := by
  refine ⟨_, _, dp_ints h1, dp_ints h2, PySem.W.ke_shaped_ints l, PySem.W.ke_shaped_ints m, ?_⟩
  have e : PyData.eqv (.list (l.map PyData.int)) (.list (m.map PyData.int)) = decide (l = m) := by
    show PyData.eqvAll _ _ = _
    exact PySem.W.ked_eqvAll l m
  rw [e]; exact q
/-! ### what a kind does -/
section
variable {P : Program} {w : World} {K : PySem.W.Frag} {mg : Str → Option Value} {base : Heap}
def KC (mg : Str → Option Value) (C : Addr) (wh : Bool) : Prop := (mg "Wholes" = some (.ref C) ∧ wh = true) ∨ (mg "Rests" = some (.ref C) ∧ wh = false) ∨ (mg "Powers" = some (.ref C) ∧ wh = false)
structure KM (P : Program) (w : World) (K : PySem.W.Frag) (mg : Str → Option Value) (base : Heap) (C : Addr) (wh : Bool) : Prop where
  cl : Cls K C
  nS : NoAttr K C "size"
  plain : MO P w K mg base 1 C "plain" ["self", "number"] (spPlain C wh)
  plus : MO P w K mg base 2 C "plus" ["self", "a", "b"] (spBin C wh (· + ·) fun _ _ => True)
  less : MO P w K mg base 2 C "less" ["self", "a", "b"] (spBin C wh (· - ·) fun _ _ => True)
  times : MO P w K mg base 2 C "times" ["self", "a", "b"] (spBin C wh (· * ·) CMul)
  over : wh = false → MO P w K mg base 2 C "over" ["self", "a", "b"] (spOver C)
theorem km_of (T : TX K mg) {C : Addr} {wh : Bool} (h : KC mg C wh) : KM P w K mg base C wh := by
  rcases h with ⟨h, rfl⟩ | ⟨h, rfl⟩ | ⟨h, rfl⟩
  · obtain ⟨C', c⟩ := T.cWholes
    have e : C' = C := by have := c.g.symm.trans h; simpa using this
    subst e
    have pl := ok_plainW (P := P) (w := w) (base := base) c
    exact ⟨c.cl, c.nS, pl, plusK c.cl pl c.plus, lessK c.cl pl c.less, timesK c.cl pl c.times, fun z => nomatch z⟩
  · obtain ⟨C', c⟩ := T.cRests
    have e : C' = C := by have := c.g.symm.trans h; simpa using this
    subst e
    have pl := plainK (P := P) (w := w) (mg := mg) (base := base) c.cl c.nS c.plain
    exact ⟨c.cl, c.nS, pl, plusK c.cl pl c.plus, lessK c.cl pl c.less, timesK c.cl pl c.times, fun _ => overK T c.cl c.nS pl c.over⟩
  · obtain ⟨C', c⟩ := T.cPowers
    have e : C' = C := by have := c.g.symm.trans h; simpa using this
    subst e
    have pl := plainK (P := P) (w := w) (mg := mg) (base := base) c.cl c.nS c.plain
    exact ⟨c.cl, c.nS, pl, plusK c.cl pl c.plus, lessK c.cl pl c.less, timesK c.cl pl c.times, fun _ => overK T c.cl c.nS pl c.over⟩
/-- a kind at q, of the size N -/
def Kd (mg : Str → Option Value) (H : Hp) (q : Addr) (N : Int) (wh : Bool) : Prop := ∃ C, KC mg C wh ∧ KAt C wh H q N
theorem Kd.same {H H' : Hp} {q : Addr} {N : Int} {wh : Bool} (k : Kd mg H q N wh) (e : Same H H') : Kd mg H' q N wh := by
  obtain ⟨C, c, k⟩ := k
  exact ⟨C, c, k.same e⟩
/-- the makings, with what is behind them -/
theorem mk_wholes (T : TX K mg) : ∃ C f fd, mg "Wholes" = some (.ref C) ∧ Mk K C f ∧ Binds K fd ["self"] [] ∧ FnOk P w K mg base CX0 2 f fd ["self"] (spInitW C) := by
  obtain ⟨C, c⟩ := T.cWholes
  obtain ⟨f, fd, g, m, b, F⟩ := ok_initW (P := P) (w := w) (base := base) T c
  exact ⟨C, f, fd, g, m, b, F⟩
theorem mk_rests (T : TX K mg) : ∃ C f fd, mg "Rests" = some (.ref C) ∧ Mk K C f ∧ Binds K fd ["self", "prime"] [] ∧ FnOk P w K mg base CX0 2 f fd ["self", "prime"] (spInitR C) := by
  obtain ⟨C, c⟩ := T.cRests
  obtain ⟨f, fd, g, m, b, F⟩ := ok_initR (P := P) (w := w) (base := base) T c
  exact ⟨C, f, fd, g, m, b, F⟩
theorem mk_powers (T : TX K mg) : ∃ C f fd, mg "Powers" = some (.ref C) ∧ Mk K C f ∧ Binds K fd ["self", "prime", "many"] [] ∧ FnOk P w K mg base CX0 2 f fd ["self", "prime", "many"] (spInitP C) := by
  obtain ⟨C, c⟩ := T.cPowers
  obtain ⟨f, fd, g, m, b, F⟩ := ok_initP (P := P) (w := w) (base := base) T c
  exact ⟨C, f, fd, g, m, b, F⟩
theorem made_same {H : Hp} {x dx C : Addr} {fs fs' : List (Str × V)} (h1 : H x = none) (h2 : H dx = none) (hn : dx ≠ x) : Same H (upd (upd (upd H dx (.own x)) x (.ins C dx fs)) x (.ins C dx fs')) := by
  rw [upd_upd]
  exact same_new (same_new (Same.refl _) h2) h1
theorem made_at {H : Hp} {x dx C : Addr} {fs fs' : List (Str × V)} : (upd (upd (upd H dx (.own x)) x (.ins C dx fs)) x (.ins C dx fs')) x = some (.ins C dx fs') := upd_same
end
end FF
end
section
set_option Elab.async false
set_option linter.all false
set_option maxRecDepth 100000
set_option maxHeartbeats 4000000
/-! FW4: trimmed, number_at, plus, less, times, scaled, slope. -/
namespace FF
open PySem PySem.Spec PyProof.Rows L2
/-- a new list of these ints, all else as it was -/
def NewL (H : Hp) (r : List Int) (Q : VK) : Prop := ∀ H' p, Same H H' → H p = none → H' p = some (.lst (r.map V.int)) → Q (.ref p) H'
theorem NewL.of {H H1 : Hp} {r : List Int} {Q : VK} (h : NewL H r Q) (e : Same H H1) : NewL H1 r Q := fun H' p s n q => h H' p (e.trans s) (e.free n) q
def spTrim (K : PySem.W.Frag) (mg : Str → Option Value) : Sp := fun vs H Q _ => ∃ (q a : Addr) (N : Int) (wh : Bool) (f : List Int), vs = [.ref q, .ref a] ∧ Kd mg H q N wh ∧ SqL K H a (f.map V.int) ∧ f.length ≤ 10000 ∧ NewL H (tr N f) Q
def spAt (K : PySem.W.Frag) : Sp := fun vs H Q _ => ∃ (a : Addr) (f : List Int) (k : Nat), vs = [.ref a, .int k] ∧ SqL K H a (f.map V.int) ∧ Q (.int (co f k)) H
/-- two lists, the answer a new one -/
def sp2 (K : PySem.W.Frag) (mg : Str → Option Value) (g : Int → List Int → List Int → List Int) (D : List Int → List Int → Prop) : Sp := fun vs H Q _ => ∃ (q a b : Addr) (N : Int) (wh : Bool) (f h : List Int), vs = [.ref q, .ref a, .ref b] ∧ Kd mg H q N wh ∧ SqL K H a (f.map V.int) ∧ SqL K H b (h.map V.int) ∧
  f.length ≤ 1000 ∧ h.length ≤ 1000 ∧ D f h ∧ NewL H (g N f h) Q
def spScl (K : PySem.W.Frag) (mg : Str → Option Value) : Sp := fun vs H Q _ => ∃ (q a : Addr) (N c : Int) (wh : Bool) (f : List Int), vs = [.ref q, .ref a, .int c] ∧ Kd mg H q N wh ∧ SqL K H a (f.map V.int) ∧ f.length ≤ 1000 ∧ (∀ x ∈ f, CMul x c) ∧ NewL H (tr N (sclL c f)) Q
def spSlope (K : PySem.W.Frag) (mg : Str → Option Value) : Sp := fun vs H Q _ => ∃ (q a : Addr) (N : Int) (wh : Bool) (f : List Int), vs = [.ref q, .ref a] ∧ Kd mg H q N wh ∧ SqL K H a (f.map V.int) ∧ f.length ≤ 1000 ∧ NewL H (tr N (derL f)) Q
section
variable {P : Program} {w : World} {K : PySem.W.Frag} {mg : Str → Option Value} {base : Heap}
theorem snoc_cases (l : List Int) : l = [] ∨ ∃ g a, l = g ++ [a] := by
  by_cases h : l = []
  · exact .inl h
  · exact .inr ⟨l.dropLast, l.getLast h, (List.dropLast_concat_getLast h).symm⟩
theorem ok_trimmed (T : TX K mg) : FO P w K mg base 2 "trimmed" ["kind", "f"] (spTrim K mg) := by
  refine FO.mk T.d_trimmed sc_trimmed (fun _ _ _ _ _ _ us hl => match us, hl with | [_, _], _ => rfl) (fun vs H Q E h => ?_) (fun f cdv A outer s H vs Q E hr h => ?_)
  · obtain ⟨q, a, N, wh, f, rfl, _⟩ := h; rfl
  · obtain ⟨q, a, N, wh, f, rfl, ⟨C, hC, hk⟩, hS, hl, hq⟩ := h
    have M := km_of (P := P) (w := w) (base := base) T hC
    have cl := M.cl
    obtain ⟨f_p, fd_p, m_plain, b_plain, G_plain⟩ := M.plain
    refine ⟨_, (pss_cons (ps_setLc (i := 2) (own := [("number", 3)]) rfl sc_trimmed.nd rfl rfl (sw_true rfl rfl rfl (by decide +kernel)) (pi_list (pv 1)) (blkOk_by (N := n_trimmed) (sc := defScope s_trimmed) (by decide +kernel)) (fun _ _ _ _ _ => (pg_name (i := 3) sc_trimmed.nd rfl (Or.inl rfl))) (fun _ _ _ _ _ => pts_nil) (fun _ _ _ _ _ => (pe_meth (pv 0) cl m_plain G_plain (hr.mono (by decide)) b_plain .nil pass0 (pa_cons (pv 3) pa_nil))))
      (pss_cons (ps_while PassesOwn.never (PW.pt (pw_and (pt_cmpR op_gt (pe_callB call_len_seq (by rfl) T.b_len (by decide +kernel) (pa_cons (pv 2) pa_nil)) pe_int (nomark _)) (pw_and1 (pt_cmpR op_eq (pe_ix ix_list (pv 2) (pe_un un_neg pe_int) (fun _ _ => rfl)) pe_int (nomark _)))))
        (pss_one (ps_expr (pe_bm0 PySem.F.plainAttrs_list PySem.F.slot_list_pop PySem.F.type_list_pop mt_pop (pv 2)))))
      (pss_one (ps_ret (pv 2))))), ?_⟩
    refine ⟨_, rfl, a, rfl, ⟨_, hS⟩, fun D hD => lcL (fun i => .int (co f i % N)) (by simpa using (by omega : f.length ≤ 100000)) hS hD (fun x => rfl) (fun i x H' hx e Qe q => ?_) (fun H1 s1 h1 => ?_)⟩
    · obtain ⟨rfl, hi⟩ := map_get hx
      obtain ⟨⟨dx, fs, ho, hfs⟩, _, _⟩ := id hk
      exact ⟨_, rfl, _, dx, fs, rfl, e _ _ ho, fs_none hfs (by decide) (by decide), _, rfl, _, co f i, N, rfl, hk.same e, q H' (Same.refl _)⟩
    · rw [List.length_map, range_map_get f fun x => V.int (x % N)] at h1
      have h1 : H1 D = some (.lst ((f.map (· % N)).map V.int)) := by rw [h1, List.map_map]; rfl
      refine ⟨fun m σ H' => ∃ l : List Int, ∃ x3, m = l.length ∧ σ = [some (.ref q), some (.ref a), some (.ref D), x3] ∧ Same H H' ∧ H' D = some (.lst (l.map V.int)) ∧ trimZ l = tr N f, ⟨_, f.map (· % N), none, rfl, rfl, s1, h1, rfl⟩, fun m σ H' hW => ?_⟩
      obtain ⟨l, x3, rfl, rfl, s2, hl2, e2⟩ := hW
      rcases snoc_cases l with rfl | ⟨g, c, rfl⟩
      · refine ⟨_, rfl, D, _, rfl, .inl (sqL_of hl2), _, 0, rfl, rfl, _, rfl, ?_⟩
        refine iteF (iteF ?_)
        refine ⟨_, rfl, ?_⟩
        refine hq H' D s2 hD ?_
        rw [hl2, ← e2]; rfl
      · refine ⟨_, rfl, D, _, rfl, .inl (sqL_of hl2), _, 0, rfl, rfl, _, rfl, ?_⟩
        refine ifD (by simp) ?_
        refine ⟨_, rfl, 1, rfl, D, _, -1, _, rfl, rfl, sqL_of hl2, at_last g c, rfl, _, rfl, ?_⟩
        by_cases hc : c = 0
        · subst hc
          refine ifD rfl ?_
          refine ⟨fun σ' H2 => ∃ x3, σ' = [some (.ref q), some (.ref a), some (.ref D), x3] ∧ Same H H2 ∧ H2 D = some (.lst (g.map V.int)), fun σ' H2 ⟨y3, e3, s3, h3⟩ => ⟨g.length, by simp, g, y3, rfl, e3, s3, h3, by rw [← e2, trimZ_snoc0]⟩, ?_⟩
          refine ⟨_, rfl, .inl ⟨rfl, _, sqL_of hl2⟩, D, _, .int 0, rfl, rfl, hl2, by simp, x3, rfl, same_new s2 hD, ?_⟩
          rw [upd_same]; simp
        · refine ifN (fun z => hc (vint.mp z)) ?_
          refine ⟨_, rfl, ?_⟩
          refine hq H' D s2 hD ?_
          rw [hl2, ← e2, trimZ_snoc hc]
theorem ok_number_at (T : TX K mg) : FO P w K mg base 1 "number_at" ["f", "k"] (spAt K) := by
  refine FO.mk T.d_number_at sc_number_at (fun _ _ _ _ _ _ us hl => match us, hl with | [_, _], _ => rfl) (fun vs H Q E h => ?_) (fun f cdv A outer s H vs Q E hr h => ?_)
  · obtain ⟨a, f, k, rfl, _⟩ := h; rfl
  · obtain ⟨a, f, k, rfl, hS, hq⟩ := h
    refine ⟨_, (pss_cons (ps_if (pt_cmpR op_lt (pv 1) (pe_callB call_len_seq (by rfl) T.b_len (by decide +kernel) (pa_cons (pv 0) pa_nil)) (nomark _)) (pss_one (ps_ret (pe_ix ix_list (pv 0) (pv 1) (fun _ _ => rfl)))) pss_nil)
      (pss_one (ps_ret pe_int))), ?_⟩
    refine ⟨_, rfl, _, rfl, a, _, rfl, .inl hS, k, _, rfl, rfl, _, rfl, ?_⟩
    rw [List.length_map]
    by_cases h : k < f.length
    · refine ifD (by omega) ?_
      exact ⟨_, rfl, _, rfl, a, _, k, _, rfl, rfl, hS, at_co h, hq⟩
    · refine ifN (by omega) ?_
      rw [co_ge (by omega)] at hq
      exact hq
theorem co_map (l : List Int) (k : Nat) : ∀ i, co ((List.range k).map fun i => co l i) i = if i < k then co l i else 0 := fun i => by
  by_cases h : i < k
  · rw [if_pos h, co_lt (by simpa using h)]; simp
  · rw [if_neg h, co_ge (by simpa using h)]
theorem co_rmap (g : Nat → Int) (k i : Nat) : co ((List.range k).map g) i = if i < k then g i else 0 := by
  by_cases h : i < k
  · rw [if_pos h, co_lt (by simpa using h)]; simp
  · rw [if_neg h, co_ge (by simpa using h)]
theorem max_if (i j : Nat) : (if (j : Int) > i then (j : Int) else i) = ((max i j : Nat) : Int) := by
  by_cases h : (j : Int) > i
  · rw [if_pos h]; omega
  · rw [if_neg h]; omega
theorem ok_plus (T : TX K mg) : FO P w K mg base 3 "plus" ["kind", "f", "g"] (sp2 K mg (fun N f h => tr N (addL f h)) fun _ _ => True) := by
  refine FO.mk T.d_plus sc_plus (fun _ _ _ _ _ _ us hl => match us, hl with | [_, _, _], _ => rfl) (fun vs H Q E h => ?_) (fun f cdv A outer s H vs Q E hr h => ?_)
  · obtain ⟨q, a, b, N, wh, f, h, rfl, _⟩ := h; rfl
  · obtain ⟨q, a, b, N, wh, f, h, rfl, hK, hf, hh, lf, lh, _, hq⟩ := h
    have hK2 := hK
    obtain ⟨C, hC, hk⟩ := hK2
    have M := km_of (P := P) (w := w) (base := base) T hC
    have cl := M.cl
    obtain ⟨f_p, fd_p, m_plus, b_plus, G_plus⟩ := M.plus
    obtain ⟨f_trimmed, fd_trimmed, g_trimmed, k_trimmed, b_trimmed, G_trimmed⟩ := ok_trimmed (P := P) (w := w) (base := base) T
    obtain ⟨f_number_at, fd_number_at, g_number_at, k_number_at, b_number_at, G_number_at⟩ := ok_number_at (P := P) (w := w) (base := base) T
    refine ⟨_, (pss_cons (ps_set (i := 3) sc_plus.nd rfl (Or.inl rfl) (pe_callB (call_max2 rfl) (by rfl) T.b_max (by decide +kernel) (pa_cons (pe_callB call_len_seq (by rfl) T.b_len (by decide +kernel) (pa_cons (pv 1) pa_nil)) (pa_cons (pe_callB call_len_seq (by rfl) T.b_len (by decide +kernel) (pa_cons (pv 2) pa_nil)) pa_nil))))
      (pss_one (ps_ret (pe_call G_trimmed (hr.mono (by decide)) (by rfl) g_trimmed k_trimmed b_trimmed .nil pass0 (pa_cons (pv 0) (pa_cons (pe_lc (own := [("k", 4)])  rfl sc_plus.nd (pi_range1 (by rfl) T.b_range (pa_cons (pv 3) pa_nil)) (blkOk_by (N := n_plus) (sc := defScope s_plus) (by decide +kernel)) (fun _ _ _ _ _ => (pg_name (i := 4) sc_plus.nd rfl (Or.inl rfl))) (fun _ _ _ _ _ => pts_nil) (fun _ _ _ _ _ => (pe_meth (pv 0) cl m_plus G_plus (hr.mono (by decide)) b_plus .nil pass0 (pa_cons (pe_call G_number_at (hr.mono (by decide)) (by rfl) g_number_at k_number_at b_number_at .nil pass0 (pa_cons (pv 1) (pa_cons (pv 4) pa_nil))) (pa_cons (pe_call G_number_at (hr.mono (by decide)) (by rfl) g_number_at k_number_at b_number_at .nil pass0 (pa_cons (pv 2) (pa_cons (pv 4) pa_nil))) pa_nil))))) pa_nil)))))), ?_⟩
    refine ⟨_, rfl, a, _, rfl, .inl hf, _, rfl, b, _, rfl, .inl hh, _, _, rfl, ?_⟩
    rw [List.length_map, List.length_map, max_if]
    refine ⟨_, rfl, _, rfl, (max f.length h.length : Nat), rfl, by omega, by omega, fun D hD => lcR (n := ((max f.length h.length : Nat) : Int).toNat) (fun i => .int ((co f i + co h i) % N)) (by omega) hD (fun x => rfl) (fun i H' hi e Qe q => ?_) (fun H1 s1 h1 => ?_)⟩
    · obtain ⟨⟨dx, fs, ho, hfs⟩, _, _⟩ := id hk
      have e0 : (0 : Int) + (i : Int) = i := Int.zero_add _
      refine ⟨_, rfl, _, dx, fs, rfl, e _ _ ho, fs_none hfs (by decide) (by decide), _, rfl, _, rfl, a, f, i, by rw [e0]; rfl, e.seq hf, _, rfl, _, rfl, b, h, i, by rw [e0]; rfl, e.seq hh, _, co f i, co h i, N, rfl, hk.same e, trivial, q H' (Same.refl _)⟩
    · refine ⟨q, D, N, wh, (List.range (max f.length h.length)).map (fun i => (co f i + co h i) % N), rfl, hK.same s1, sqL_of (by rw [h1, List.map_map]; rfl), by simp; omega, ?_⟩
      have e3 : tr N ((List.range (max f.length h.length)).map fun i => (co f i + co h i) % N) = tr N (addL f h) := tr_co_eq fun k => by
        rw [co_rmap, co_add]
        by_cases hk : k < max f.length h.length
        · rw [if_pos hk]
          exact ⟨-((co f k + co h k) / N), by have := Int.emod_add_mul_ediv (co f k + co h k) N; grind⟩
        · rw [if_neg hk, co_ge (f := f) (by omega), co_ge (f := h) (by omega)]
          exact ⟨0, by omega⟩
      rw [e3]
      exact hq.of s1
end
end FF
end
section
set_option Elab.async false
set_option linter.all false
set_option maxRecDepth 100000
set_option maxHeartbeats 4000000
/-! FW5: less, scaled, slope, times. -/
namespace FF
open PySem PySem.Spec PyProof.Rows L2
theorem C_mod {N : Int} (a : Int) : (C (a % N) : Pm N) = C a := C_eq.mpr ⟨-(a / N), by have := Int.emod_add_mul_ediv a N; grind⟩
theorem cl_set {N : Int} (v : Int) : ∀ (l : List Int) (k : Nat), k < l.length → cl N (l.set k v) = cl N l + FF.X ^ k * (C v - C (co l k))
  | [], k, h => by simp at h
  | a :: l, 0, _ => by rw [List.set_cons_zero, cl_cons, cl_cons, co_zero]; grind
  | a :: l, k + 1, h => by
    rw [List.set_cons_succ, cl_cons, cl_cons, cl_set v l k (by simpa using h), co_succ]; grind
theorem cl_take {N : Int} (f : List Int) {i : Nat} (h : i < f.length) : cl N (f.take (i + 1)) = cl N (f.take i) + FF.X ^ i * C (co f i) := by
  rw [List.take_succ_eq_append_getElem h, cl_append, List.length_take, co_lt h]
  have : min i f.length = i := by omega
  rw [this]; rfl
theorem cl_rep0 {N : Int} (n : Nat) : cl N (List.replicate n 0) = 0 := by
  have := cl_shift (N := N) n []
  rw [List.append_nil, cl_nil] at this
  rw [this]; grind
theorem co_mem {f : List Int} {i : Nat} (h : i < f.length) : co f i ∈ f := by rw [co_lt h]; exact List.getElem_mem h
theorem flat1 (n : Nat) (x : V) : (List.replicate n [x]).flatten = List.replicate n x := by
  induction n with
  | zero => rfl
  | succ n ih => rw [List.replicate_succ, List.flatten_cons, ih, List.replicate_succ]; rfl
theorem flat0 (n : Nat) : (List.replicate n [V.int 0]).flatten = (List.replicate n (0 : Int)).map V.int := by
  rw [flat1, List.map_replicate]
theorem set_map (l : List Int) (k : Nat) (v : Int) : (l.map V.int).set k (.int v) = (l.set k v).map V.int := by rw [List.map_set]
theorem ix_nat {n k : Nat} (h : k < n) : ixN n (k : Int) = some k := by
  unfold ixN
  rw [if_pos (by omega), if_pos (by omega)]; rfl
section
variable {P : Program} {w : World} {K : PySem.W.Frag} {mg : Str → Option Value} {base : Heap}
theorem ok_less (T : TX K mg) : FO P w K mg base 3 "less" ["kind", "f", "g"] (sp2 K mg (fun N f h => tr N (subL f h)) fun _ _ => True) := by
  refine FO.mk T.d_less sc_less (fun _ _ _ _ _ _ us hl => match us, hl with | [_, _, _], _ => rfl) (fun vs H Q E h => ?_) (fun f cdv A outer s H vs Q E hr h => ?_)
  · obtain ⟨q, a, b, N, wh, f, h, rfl, _⟩ := h; rfl
  · obtain ⟨q, a, b, N, wh, f, h, rfl, hK, hf, hh, lf, lh, _, hq⟩ := h
    have hK2 := hK
    obtain ⟨C, hC, hk⟩ := hK2
    have M := km_of (P := P) (w := w) (base := base) T hC
    have cl := M.cl
    obtain ⟨f_p, fd_p, m_less, b_less, G_less⟩ := M.less
    obtain ⟨f_trimmed, fd_trimmed, g_trimmed, k_trimmed, b_trimmed, G_trimmed⟩ := ok_trimmed (P := P) (w := w) (base := base) T
    obtain ⟨f_number_at, fd_number_at, g_number_at, k_number_at, b_number_at, G_number_at⟩ := ok_number_at (P := P) (w := w) (base := base) T
    refine ⟨_, (pss_cons (ps_set (i := 3) sc_less.nd rfl (Or.inl rfl) (pe_callB (call_max2 rfl) (by rfl) T.b_max (by decide +kernel) (pa_cons (pe_callB (r := rLenK K) call_len_seq (by rfl) T.b_len (by decide +kernel) (pa_cons (pv 1) pa_nil)) (pa_cons (pe_callB (r := rLenK K) call_len_seq (by rfl) T.b_len (by decide +kernel) (pa_cons (pv 2) pa_nil)) pa_nil))))
      (pss_one (ps_ret (pe_call G_trimmed (hr.mono (by decide)) (by rfl) g_trimmed k_trimmed b_trimmed .nil pass0 (pa_cons (pv 0) (pa_cons (pe_lc (own := [("k", 4)])  rfl sc_less.nd (pi_range1 (by rfl) T.b_range (pa_cons (pv 3) pa_nil)) (blkOk_by (N := n_less) (sc := defScope s_less) (by decide +kernel)) (fun _ _ _ _ _ => (pg_name (i := 4) sc_less.nd rfl (Or.inl rfl))) (fun _ _ _ _ _ => pts_nil) (fun _ _ _ _ _ => (pe_meth (pv 0) cl m_less G_less (hr.mono (by decide)) b_less .nil pass0 (pa_cons (pe_call G_number_at (hr.mono (by decide)) (by rfl) g_number_at k_number_at b_number_at .nil pass0 (pa_cons (pv 1) (pa_cons (pv 4) pa_nil))) (pa_cons (pe_call G_number_at (hr.mono (by decide)) (by rfl) g_number_at k_number_at b_number_at .nil pass0 (pa_cons (pv 2) (pa_cons (pv 4) pa_nil))) pa_nil))))) pa_nil)))))), ?_⟩
    refine ⟨_, rfl, a, _, rfl, .inl hf, _, rfl, b, _, rfl, .inl hh, _, _, rfl, ?_⟩
    rw [List.length_map, List.length_map, max_if]
    refine ⟨_, rfl, _, rfl, (max f.length h.length : Nat), rfl, by omega, by omega, fun D hD => lcR (n := ((max f.length h.length : Nat) : Int).toNat) (fun i => .int ((co f i - co h i) % N)) (by omega) hD (fun x => rfl) (fun i H' hi e Qe q => ?_) (fun H1 s1 h1 => ?_)⟩
    · obtain ⟨⟨dx, fs, ho, hfs⟩, _, _⟩ := id hk
      have e0 : (0 : Int) + (i : Int) = i := Int.zero_add _
      refine ⟨_, rfl, _, dx, fs, rfl, e _ _ ho, fs_none hfs (by decide) (by decide), _, rfl, _, rfl, a, f, i, by rw [e0]; rfl, e.seq hf, _, rfl, _, rfl, b, h, i, by rw [e0]; rfl, e.seq hh, _, co f i, co h i, N, rfl, hk.same e, trivial, q H' (Same.refl _)⟩
    · refine ⟨q, D, N, wh, (List.range (max f.length h.length)).map (fun i => (co f i - co h i) % N), rfl, hK.same s1, sqL_of (by rw [h1, List.map_map]; rfl), by simp; omega, ?_⟩
      have e3 : tr N ((List.range (max f.length h.length)).map fun i => (co f i - co h i) % N) = tr N (subL f h) := tr_co_eq fun k => by
        rw [co_rmap, co_sub]
        by_cases hk : k < max f.length h.length
        · rw [if_pos hk]
          exact ⟨-((co f k - co h k) / N), by have := Int.emod_add_mul_ediv (co f k - co h k) N; grind⟩
        · rw [if_neg hk, co_ge (f := f) (by omega), co_ge (f := h) (by omega)]
          exact ⟨0, by omega⟩
      rw [e3]
      exact hq.of s1
theorem ok_scaled (T : TX K mg) : FO P w K mg base 3 "scaled" ["kind", "f", "number"] (spScl K mg) := by
  refine FO.mk T.d_scaled sc_scaled (fun _ _ _ _ _ _ us hl => match us, hl with | [_, _, _], _ => rfl) (fun vs H Q E h => ?_) (fun f cdv A outer s H vs Q E hr h => ?_)
  · obtain ⟨q, a, N, c, wh, f, rfl, _⟩ := h; rfl
  · obtain ⟨q, a, N, c, wh, f, rfl, hK, hf, lf, hm, hq⟩ := h
    have hK2 := hK
    obtain ⟨C, hC, hk⟩ := hK2
    have M := km_of (P := P) (w := w) (base := base) T hC
    have cl := M.cl
    obtain ⟨f_p, fd_p, m_times, b_times, G_times⟩ := M.times
    obtain ⟨f_trimmed, fd_trimmed, g_trimmed, k_trimmed, b_trimmed, G_trimmed⟩ := ok_trimmed (P := P) (w := w) (base := base) T
    refine ⟨_, (pss_one (ps_ret (pe_call G_trimmed (hr.mono (by decide)) (by rfl) g_trimmed k_trimmed b_trimmed .nil pass0 (pa_cons (pv 0) (pa_cons (pe_lc (own := [("one", 3)])  rfl sc_scaled.nd (pi_list (pv 1)) (blkOk_by (N := n_scaled) (sc := defScope s_scaled) (by decide +kernel)) (fun _ _ _ _ _ => (pg_name (i := 3) sc_scaled.nd rfl (Or.inl rfl))) (fun _ _ _ _ _ => pts_nil) (fun _ _ _ _ _ => (pe_meth (pv 0) cl m_times G_times (hr.mono (by decide)) b_times .nil pass0 (pa_cons (pv 3) (pa_cons (pv 2) pa_nil))))) pa_nil))))), ?_⟩
    refine ⟨_, rfl, _, rfl, a, rfl, ⟨_, hf⟩, fun D hD => lcL (fun i => .int ((co f i * c) % N)) (by simp; omega) hf hD (fun x => rfl) (fun i x H' hx e Qe q => ?_) (fun H1 s1 h1 => ?_)⟩
    · obtain ⟨rfl, hi⟩ := map_get hx
      obtain ⟨⟨dx, fs, ho, hfs⟩, _, _⟩ := id hk
      exact ⟨_, rfl, _, dx, fs, rfl, e _ _ ho, fs_none hfs (by decide) (by decide), _, rfl, _, rfl, _, co f i, c, N, rfl, hk.same e, hm _ (co_mem hi), q H' (Same.refl _)⟩
    · rw [List.length_map] at h1
      refine ⟨q, D, N, wh, (List.range f.length).map (fun i => (co f i * c) % N), rfl, hK.same s1, sqL_of (by rw [h1, List.map_map]; rfl), by simp; omega, ?_⟩
      have e3 : tr N ((List.range f.length).map fun i => (co f i * c) % N) = tr N (sclL c f) := tr_co_eq fun k => by
        rw [co_rmap, co_scl]
        by_cases hk : k < f.length
        · rw [if_pos hk]
          exact ⟨-((co f k * c) / N), by have := Int.emod_add_mul_ediv (co f k * c) N; grind⟩
        · rw [if_neg hk, co_ge (f := f) (by omega)]
          exact ⟨0, by omega⟩
      rw [e3]
      exact hq.of s1
theorem ok_slope (T : TX K mg) : FO P w K mg base 3 "slope" ["kind", "f"] (spSlope K mg) := by
  refine FO.mk T.d_slope sc_slope (fun _ _ _ _ _ _ us hl => match us, hl with | [_, _], _ => rfl) (fun vs H Q E h => ?_) (fun f cdv A outer s H vs Q E hr h => ?_)
  · obtain ⟨q, a, N, wh, f, rfl, _⟩ := h; rfl
  · obtain ⟨q, a, N, wh, f, rfl, hK, hf, lf, hq⟩ := h
    have hK2 := hK
    obtain ⟨C, hC, hk⟩ := hK2
    have M := km_of (P := P) (w := w) (base := base) T hC
    have cl := M.cl
    obtain ⟨f_p, fd_p, m_times, b_times, G_times⟩ := M.times
    obtain ⟨f_trimmed, fd_trimmed, g_trimmed, k_trimmed, b_trimmed, G_trimmed⟩ := ok_trimmed (P := P) (w := w) (base := base) T
    refine ⟨_, (pss_one (ps_ret (pe_call G_trimmed (hr.mono (by decide)) (by rfl) g_trimmed k_trimmed b_trimmed .nil pass0 (pa_cons (pv 0) (pa_cons (pe_lc (own := [("k", 2)])  rfl sc_slope.nd (pi_range2 (by rfl) T.b_range (pa_cons pe_int (pa_cons (pe_callB (r := rLenK K) call_len_seq (by rfl) T.b_len (by decide +kernel) (pa_cons (pv 1) pa_nil)) pa_nil))) (blkOk_by (N := n_slope) (sc := defScope s_slope) (by decide +kernel)) (fun _ _ _ _ _ => (pg_name (i := 2) sc_slope.nd rfl (Or.inl rfl))) (fun _ _ _ _ _ => pts_nil) (fun _ _ _ _ _ => (pe_meth (pv 0) cl m_times G_times (hr.mono (by decide)) b_times .nil pass0 (pa_cons (pv 2) (pa_cons (pe_ix (r := rIxL K) ix_list (pv 1) (pv 2) (fun _ _ => rfl)) pa_nil))))) pa_nil))))), ?_⟩
    refine ⟨_, rfl, _, rfl, a, _, rfl, .inl hf, 1, _, rfl, ⟨by omega, by omega, by omega, by simp; omega⟩, fun D hD => lcR (fun i => .int ((((i : Nat) : Int) + 1) * co f (i + 1) % N)) (by simp; omega) hD (fun x => rfl) (fun i H' hi e Qe q => ?_) (fun H1 s1 h1 => ?_)⟩
    · obtain ⟨⟨dx, fs, ho, hfs⟩, _, _⟩ := id hk
      have hi2 : i + 1 < f.length := by simp at hi; omega
      have e0 : (1 : Int) + (i : Int) = (i + 1 : Nat) := by omega
      rw [e0]
      refine ⟨_, rfl, _, dx, fs, rfl, e _ _ ho, fs_none hfs (by decide) (by decide), _, rfl, _, rfl, _, rfl, a, _, _, _, rfl, rfl, e.seq hf, at_co hi2, _, _, _, N, rfl, hk.same e, .inl ⟨by omega, by omega⟩, ?_⟩
      have := q H' (Same.refl _)
      push_cast
      exact this
    · have e1 : ((((f.map V.int).length : Nat) : Int) - 1).toNat = f.length - 1 := by simp
      rw [e1] at h1
      refine ⟨q, D, N, wh, (List.range (f.length - 1)).map (fun i => (((i : Nat) : Int) + 1) * co f (i + 1) % N), rfl, hK.same s1, sqL_of (by rw [h1, List.map_map]; rfl), by simp; omega, ?_⟩
      have e3 : tr N ((List.range (f.length - 1)).map fun i => (((i : Nat) : Int) + 1) * co f (i + 1) % N) = tr N (derL f) := tr_co_eq fun k => by
        rw [co_rmap, co_der]
        by_cases hk : k < f.length - 1
        · rw [if_pos hk]
          exact ⟨-((((k : Nat) : Int) + 1) * co f (k + 1) / N), by have := Int.emod_add_mul_ediv ((((k : Nat) : Int) + 1) * co f (k + 1)) N; grind⟩
        · rw [if_neg hk, co_ge (f := f) (by omega)]
          exact ⟨0, by simp⟩
      rw [e3]
      exact hq.of s1
theorem ok_times (T : TX K mg) : FO P w K mg base 3 "times" ["kind", "f", "g"] (sp2 K mg (fun N f h => tr N (mulL f h)) fun f h => ∀ x ∈ f, ∀ y ∈ h, CMul x y) := by
  refine FO.mk T.d_times sc_times (fun _ _ _ _ _ _ us hl => match us, hl with | [_, _, _], _ => rfl) (fun vs H Q E h => ?_) (fun f cdv A outer s H vs Q E hr h => ?_)
  · obtain ⟨q, a, b, N, wh, f, h, rfl, _⟩ := h; rfl
  · obtain ⟨q, a, b, N, wh, f, h, rfl, hK, hf, hh, lf, lh, hm, hq⟩ := h
    have hK2 := hK
    obtain ⟨Cc, hC, hk⟩ := hK2
    have M := km_of (P := P) (w := w) (base := base) T hC
    have cl := M.cl
    obtain ⟨f_p, fd_p, m_plus, b_plus, G_plus⟩ := M.plus
    obtain ⟨f_p2, fd_p2, m_times, b_times, G_times⟩ := M.times
    obtain ⟨f_trimmed, fd_trimmed, g_trimmed, k_trimmed, b_trimmed, G_trimmed⟩ := ok_trimmed (P := P) (w := w) (base := base) T
    refine ⟨_, (pss_cons (ps_set (i := 3) sc_times.nd rfl (Or.inl rfl) (pe_op op_rep (pe_lst (pa_cons pe_int pa_nil)) (pe_op op_add (pe_callB (r := rLenK K) call_len_seq (by rfl) T.b_len (by decide +kernel) (pa_cons (pv 1) pa_nil)) (pe_callB (r := rLenK K) call_len_seq (by rfl) T.b_len (by decide +kernel) (pa_cons (pv 2) pa_nil)))))
      (pss_cons (ps_for PassesOwn.never rfl (pi_enum (by rfl) T.b_enumerate (pa_cons (pv 1) pa_nil)) (pg_tup rfl (pgs_cons (pg_name (i := 4) sc_times.nd rfl (Or.inl rfl)) (pgs_cons (pg_name (i := 5) sc_times.nd rfl (Or.inl rfl)) pgs_nil)))
        (pss_one (ps_for PassesOwn.never rfl (pi_enum (by rfl) T.b_enumerate (pa_cons (pv 2) pa_nil)) (pg_tup rfl (pgs_cons (pg_name (i := 6) sc_times.nd rfl (Or.inl rfl)) (pgs_cons (pg_name (i := 7) sc_times.nd rfl (Or.inl rfl)) pgs_nil)))
          (pss_one (ps_asg (pe_meth (pv 0) cl m_plus G_plus (hr.mono (by decide)) b_plus .nil pass0 (pa_cons (pe_ix (r := rIxL K) ix_list (pv 3) (pe_op op_add (pv 4) (pv 6)) (fun _ _ => rfl)) (pa_cons (pe_meth (pv 0) cl m_times G_times (hr.mono (by decide)) b_times .nil pass0 (pa_cons (pv 5) (pa_cons (pv 7) pa_nil))) pa_nil))) (pg_sub (pv 3) (pe_op op_add (pv 4) (pv 6)) set_list))))))
      (pss_one (ps_ret (pe_call G_trimmed (hr.mono (by decide)) (by rfl) g_trimmed k_trimmed b_trimmed .nil pass0 (pa_cons (pv 0) (pa_cons (pv 3) pa_nil))))))), ?_⟩
    -- row = [0] * (len(f) + len(g))
    refine ⟨by show 1 ≤ sizeLine; decide, fun L hL => ⟨_, rfl, a, _, rfl, .inl ((same_new (Same.refl _) hL).seq hf), _, rfl, b, _, rfl, .inl ((same_new (Same.refl _) hL).seq hh), _, _, rfl, rfl, L, _, _, rfl, rfl, upd_same, by simp; omega, by simp; omega, small_le (by simp; omega), fun D hD => ?_⟩⟩
    have sD : Same H (upd (upd H L (.lst [.int 0])) D (.lst ((List.replicate (((f.map V.int).length : Int) + ((h.map V.int).length : Int)).toNat [V.int 0]).flatten))) := same_nw (same_new (Same.refl _) hL) hD
    have hDH : H D = none := (same_new (Same.refl _) hL).free hD
    have e0 : (((f.map V.int).length : Int) + ((h.map V.int).length : Int)).toNat = f.length + h.length := by simp <;> omega
    rw [e0, flat0] at sD ⊢
    refine ⟨_, rfl, a, _, rfl, sD.seq hf, for_it (walk_enum (xs := f.map V.int)) (fun i σ H' => ∃ (row : List Int) (x4 x5 x6 x7 : Option V), σ = [some (.ref q), some (.ref a), some (.ref b), some (.ref D), x4, x5, x6, x7] ∧ Same H H' ∧ H' D = some (.lst (row.map V.int)) ∧ row.length = f.length + h.length ∧ FF.cl N row = FF.cl N (f.take i) * FF.cl N h)
      ⟨_, none, none, none, none, rfl, sD, upd_same, by simp, by rw [cl_rep0, List.take_zero, cl_nil]; grind⟩ (fun i σ H' _ ⟨_, _, _, _, _, _, s, _⟩ => s.seq hf) (fun i x σ H' H'' hi hP hY => ?_) (fun σ H' hP => ?_)⟩
    · obtain ⟨row, x4, x5, x6, x7, rfl, s1, h1, l1, c1⟩ := hP
      obtain ⟨t, y1, y2, rfl, nt, rfl, hy1, hy2⟩ := hY
      obtain rfl : V.int (i : Nat) = y1 := Option.some.inj hy1
      obtain ⟨rfl, hif⟩ := map_get hy2
      refine ⟨t, _, rfl, sqT_of upd_same, rfl, _, _, rfl, _, _, rfl, rfl, ?_⟩
      have s2 := same_nw (o := .tup [V.int (i : Nat), V.int (co f i)]) s1 nt
      have hD2 : (upd H' t (.tup [V.int (i : Nat), V.int (co f i)])) D = some (.lst (row.map V.int)) := by rw [upd_ne (ne_of_none h1 nt)]; exact h1
      refine ⟨_, rfl, b, _, rfl, s2.seq hh, for_it (walk_enum (xs := h.map V.int)) (fun j σ H' => ∃ (row : List Int) (x6 x7 : Option V), σ = [some (.ref q), some (.ref a), some (.ref b), some (.ref D), some (.int (i : Nat)), some (.int (co f i)), x6, x7] ∧ Same H H' ∧ H' D = some (.lst (row.map V.int)) ∧ row.length = f.length + h.length ∧ FF.cl N row = FF.cl N (f.take i) * FF.cl N h + FF.X ^ i * C (co f i) * FF.cl N (h.take j))
        ⟨row, x6, x7, rfl, s2, hD2, l1, by rw [c1, List.take_zero, cl_nil]; grind⟩ (fun i σ H' _ ⟨_, _, _, _, s, _⟩ => s.seq hh) (fun j x σ H3 H4 hj hP hY => ?_) (fun σ H3 hP => ?_)⟩
      · obtain ⟨row, x6, x7, rfl, s1, h1, l1, c1⟩ := hP
        obtain ⟨t, y1, y2, rfl, nt, rfl, hy1, hy2⟩ := hY
        obtain rfl : V.int (j : Nat) = y1 := Option.some.inj hy1
        obtain ⟨rfl, hjh⟩ := map_get hy2
        refine ⟨t, _, rfl, sqT_of upd_same, rfl, _, _, rfl, _, _, rfl, rfl, ?_⟩
        have s2 := same_nw (o := .tup [V.int (j : Nat), V.int (co h j)]) s1 nt
        have hD2 : (upd H3 t (.tup [V.int (j : Nat), V.int (co h j)])) D = some (.lst (row.map V.int)) := by rw [upd_ne (ne_of_none h1 nt)]; exact h1
        have hk2 := hk.same s2
        obtain ⟨⟨dx, fs, ho, hfs⟩, _, _⟩ := id hk2
        have hij : i + j < row.length := by omega
        refine ⟨_, rfl, q, dx, fs, rfl, ho, fs_none hfs (by decide) (by decide), _, rfl, _, rfl, _, rfl, (i : Nat), (j : Nat), rfl, rfl, D, _, ((i + j : Nat) : Int), _, rfl, rfl, sqL_of hD2, at_co hij, ?_⟩
        refine ⟨_, rfl, q, dx, fs, rfl, ho, fs_none hfs (by decide) (by decide), _, rfl, _, rfl, q, co f i, co h j, N, rfl, hk2, hm _ (co_mem hif) _ (co_mem hjh), q, co row (i + j), co f i * co h j % N, N, rfl, hk2, trivial, ?_⟩
        refine ⟨_, rfl, _, rfl, _, rfl, (i : Nat), (j : Nat), rfl, rfl, D, _, ((i + j : Nat) : Int), i + j, rfl, rfl, hD2, by rw [List.length_map]; exact ix_nat hij, ?_⟩
        refine ⟨row.set (i + j) ((co row (i + j) + co f i * co h j % N) % N), _, _, rfl, same_new s2 hDH, by rw [upd_same, set_map], by simp; omega, ?_⟩
        rw [cl_set _ _ _ hij, c1, cl_take h hjh, C_mod, C_add, C_mod, C_mul, pow_add]; grind
      · obtain ⟨row, x6, x7, rfl, s1, h1, l1, c1⟩ := hP
        refine ⟨row, _, _, _, _, rfl, s1, h1, l1, ?_⟩
        rw [List.length_map, List.take_length] at c1
        rw [c1, cl_take f hif]; grind
    · obtain ⟨row, x4, x5, x6, x7, rfl, s1, h1, l1, c1⟩ := hP
      refine ⟨_, rfl, _, rfl, q, D, N, wh, row, rfl, hK.same s1, sqL_of h1, by omega, ?_⟩
      rw [List.length_map, List.take_length] at c1
      have e3 : tr N row = tr N (mulL f h) := tr_eq.mpr (by rw [c1, cl_mul])
      rw [e3]
      exact hq.of s1
end
end FF
end
section
set_option Elab.async false
set_option linter.all false
set_option maxRecDepth 100000
set_option maxHeartbeats 4000000
/-! FW3b: tables; comprehensions that make rows. -/
namespace FF
open PySem PySem.Spec PyProof.Rows L2
theorem blkOk_in {N : List Str} {sc scope0 scope : Scope} {own : List (Str × Nat)} {cl : List (Str × Addr)} {C : Addr} {env : Env} (he : env.scope = sc) (h : blkC N (relS scope0 sc) scope own = true) : BlkOk N (compEnvC scope0 cl C env).scope scope own := by
  subst he
  exact blkOk_by h
/-- a list of lists of ints at a -/
def Tab (H : Hp) (a : Addr) (M : List (List Int)) : Prop := ∃ ps : List Addr, H a = some (.lst (ps.map V.ref)) ∧ ps.length = M.length ∧ ∀ (i : Nat) p r, ps[i]? = some p → M[i]? = some r → H p = some (.lst (r.map V.int))
theorem Tab.same {H H' : Hp} {a : Addr} {M : List (List Int)} (t : Tab H a M) (e : Same H H') : Tab H' a M := by
  obtain ⟨ps, h, l, k⟩ := t
  exact ⟨ps, e _ _ h, l, fun i p r h1 h2 => e _ _ (k i p r h1 h2)⟩
theorem Tab.row {H : Hp} {a : Addr} {M : List (List Int)} (t : Tab H a M) {i : Nat} {r : List Int} (h : M[i]? = some r) : ∃ (xs : List V) (p : Addr), H a = some (.lst xs) ∧ xs[i]? = some (.ref p) ∧ H p = some (.lst (r.map V.int)) ∧ xs.length = M.length := by
  obtain ⟨ps, h1, l, k⟩ := t
  have hi : i < ps.length := by rw [l]; exact (List.getElem?_eq_some_iff.mp h).1
  exact ⟨_, ps[i], h1, by rw [List.getElem?_map, List.getElem?_eq_getElem hi]; rfl, k i _ r (List.getElem?_eq_getElem hi) h, by simpa using l⟩
theorem Tab.len {H : Hp} {a : Addr} {M : List (List Int)} (t : Tab H a M) : ∃ xs : List V, H a = some (.lst xs) ∧ xs.length = M.length := by
  obtain ⟨ps, h1, l, k⟩ := t
  exact ⟨_, h1, by simpa using l⟩
theorem getD_at {M : List (List Int)} {i : Nat} (h : i < M.length) : M[i]? = some (M.getD i []) := by
  rw [List.getD_eq_getElem?_getD, List.getElem?_eq_getElem h]; rfl
/-- a table at a, none of whose rows stands at one of av -/
def TabA (H : Hp) (a : Addr) (M : List (List Int)) (av : Addr → Prop) : Prop := ∃ ps : List Addr, H a = some (.lst (ps.map V.ref)) ∧ ps.length = M.length ∧ ∀ (i : Nat) p r, ps[i]? = some p → M[i]? = some r → H p = some (.lst (r.map V.int)) ∧ ¬ av p
/-- all but what stands at av is as it was -/
def SameX (av : Addr → Prop) (H H' : Hp) : Prop := ∀ b o, ¬ av b → H b = some o → H' b = some o
theorem SameX.of {av : Addr → Prop} {H H' : Hp} (h : Same H H') : SameX av H H' := fun b o _ e => h b o e
theorem SameX.trans {av : Addr → Prop} {H H1 H2 : Hp} (a : SameX av H H1) (b : SameX av H1 H2) : SameX av H H2 := fun c o n e => b c o n (a c o n e)
theorem TabA.weak {H : Hp} {a : Addr} {M : List (List Int)} {av av' : Addr → Prop} (t : TabA H a M av) (h : ∀ p, av' p → av p) : TabA H a M av' := by
  obtain ⟨ps, h1, l, k⟩ := t
  exact ⟨ps, h1, l, fun i p r h2 h3 => ⟨(k i p r h2 h3).1, fun z => (k i p r h2 h3).2 (h p z)⟩⟩
theorem TabA.more {H : Hp} {a : Addr} {M : List (List Int)} {av av' : Addr → Prop} (t : TabA H a M av) (h : ∀ (p : Addr) (r : List Int), H p = some (.lst (r.map V.int)) → ¬ av p → ¬ av' p) : TabA H a M av' := by
  obtain ⟨ps, h1, l, k⟩ := t
  exact ⟨ps, h1, l, fun i p r h2 h3 => ⟨(k i p r h2 h3).1, h p r (k i p r h2 h3).1 (k i p r h2 h3).2⟩⟩
theorem TabA.tab {H : Hp} {a : Addr} {M : List (List Int)} {av : Addr → Prop} (t : TabA H a M av) : Tab H a M := by
  obtain ⟨ps, h1, l, k⟩ := t
  exact ⟨ps, h1, l, fun i p r h h' => (k i p r h h').1⟩
theorem TabA.frame {H H' : Hp} {a : Addr} {M : List (List Int)} {av : Addr → Prop} (t : TabA H a M av) (hF : SameX av H H') (ha : ∀ o, H a = some o → H' a = some o) : TabA H' a M av := by
  obtain ⟨ps, h1, l, k⟩ := t
  exact ⟨ps, ha _ h1, l, fun i p r h h' => ⟨hF _ _ (k i p r h h').2 (k i p r h h').1, (k i p r h h').2⟩⟩
theorem TabA.same {H H' : Hp} {a : Addr} {M : List (List Int)} {av : Addr → Prop} (t : TabA H a M av) (e : Same H H') : TabA H' a M av := t.frame (SameX.of e) fun o h => e _ _ h
theorem TabA.other {H : Hp} {a b : Addr} {o : HO} {M : List (List Int)} {av : Addr → Prop} (t : TabA H a M av) (hb : av b) (hn : a ≠ b) : TabA (upd H b o) a M av :=
  t.frame (fun c x hc h => by rw [upd_ne (fun z => hc (by rw [z]; exact hb))]; exact h) fun x h => by rw [upd_ne hn]; exact h
theorem TabA.row {H : Hp} {a : Addr} {M : List (List Int)} {av : Addr → Prop} (t : TabA H a M av) {i : Nat} (h : i < M.length) : ∃ (xs : List V) (p : Addr), H a = some (.lst xs) ∧ atI xs (i : Int) = some (.ref p) ∧ H p = some (.lst ((M.getD i []).map V.int)) ∧ xs.length = M.length ∧ ¬ av p := by
  obtain ⟨ps, h1, l, k⟩ := t
  have hi : i < ps.length := by omega
  have hk := k i _ _ (List.getElem?_eq_getElem hi) (getD_at h)
  exact ⟨_, ps[i], h1, atI_nat (j := i) (by rw [List.getElem?_map, List.getElem?_eq_getElem hi]; rfl), hk.1, by simpa using l, hk.2⟩
theorem TabA.len {H : Hp} {a : Addr} {M : List (List Int)} {av : Addr → Prop} (t : TabA H a M av) : ∃ xs : List V, H a = some (.lst xs) ∧ xs.length = M.length := t.tab.len
/-- a row put in the k-th one's place -/
theorem TabA.set {H : Hp} {a p : Addr} {M : List (List Int)} {r : List Int} {k : Nat} {av : Addr → Prop} (t : TabA H a M av) (ha : av a) (hp : H p = some (.lst (r.map V.int))) (hpa : ¬ av p) (hk : k < M.length) : ∃ xs : List V, H a = some (.lst xs) ∧ xs.length = M.length ∧ TabA (upd H a (.lst (xs.set k (.ref p)))) a (M.set k r) av := by
  obtain ⟨ps, h1, l, q⟩ := t
  have hne : ∀ c, ¬ av c → c ≠ a := fun c hc z => hc (by rw [z]; exact ha)
  refine ⟨_, h1, by simpa using l, ps.set k p, by rw [upd_same, List.map_set], by simp [l], fun i p' r' h2 h3 => ?_⟩
  by_cases hi : k = i
  · subst hi
    rw [List.getElem?_set_self (by omega)] at h2 h3
    simp at h2 h3
    subst h2 h3
    exact ⟨by rw [upd_ne (hne _ hpa)]; exact hp, hpa⟩
  · rw [List.getElem?_set_ne hi] at h2 h3
    obtain ⟨h4, h5⟩ := q i p' r' h2 h3
    exact ⟨by rw [upd_ne (hne _ h5)]; exact h4, h5⟩
/-- one row more -/
theorem TabA.snoc {H : Hp} {a p : Addr} {M : List (List Int)} {r : List Int} {av : Addr → Prop} (t : TabA H a M av) (ha : av a) (hp : H p = some (.lst (r.map V.int))) (hpa : ¬ av p) : ∃ xs : List V, H a = some (.lst xs) ∧ xs.length = M.length ∧ TabA (upd H a (.lst (xs ++ [.ref p]))) a (M ++ [r]) av := by
  obtain ⟨ps, h1, l, k⟩ := t
  have hne : ∀ c, ¬ av c → c ≠ a := fun c hc z => hc (by rw [z]; exact ha)
  refine ⟨_, h1, by simpa using l, ps ++ [p], by rw [upd_same, List.map_append]; rfl, by simp [l], fun i p' r' h2 h3 => ?_⟩
  by_cases hi : i < ps.length
  · rw [List.getElem?_append_left hi] at h2
    rw [List.getElem?_append_left (by omega)] at h3
    obtain ⟨h4, h5⟩ := k i p' r' h2 h3
    exact ⟨by rw [upd_ne (hne _ h5)]; exact h4, h5⟩
  · have hi2 : i = ps.length := by
      have := (List.getElem?_eq_some_iff.mp h2).1
      simp at this; omega
    subst hi2
    rw [List.getElem?_append_right (Nat.le_refl _)] at h2
    rw [l, List.getElem?_append_right (Nat.le_refl _)] at h3
    simp at h2 h3
    subst h2 h3
    exact ⟨by rw [upd_ne (hne _ hpa)]; exact hp, hpa⟩
theorem TabA.new {H : Hp} {a : Addr} {av : Addr → Prop} : TabA (upd H a (.lst [])) a [] av := ⟨[], upd_same, rfl, fun i p r h => by simp at h⟩
/-- no row standing at a itself -/
abbrev TabN (H : Hp) (a : Addr) (M : List (List Int)) : Prop := TabA H a M (fun p => p = a)
section
variable {K : PySem.W.Frag} {J : It} {n : Nat} {G : Hp → Prop} {Y : Nat → Hp → V → Hp → Prop}
theorem lcT (wk : Walk J n G Y) {g : TG} {te : TE} {vs : List Nat} {σ : L2.St} {H1 : Hp} {D : Addr} {Qd : Hp → Prop} (rows : Nat → List Int) (hn : n ≤ 100000) (hD : H1 D = none) (hG : ∀ H', Same H1 H' → G H')
    (he : ∀ i x H' H'', i < n → Same H1 H'' → Y i H' x H'' → ∀ Qe : VK, (∀ p H4, Same H'' H4 → H4 p = some (.lst ((rows i).map V.int)) → H'' p = none → Qe (.ref p) H4) → g x (wipe σ vs) H'' fun σ2 H2 => wipe σ2 vs = wipe σ vs ∧ te σ2 H2 Qe)
    (hY : ∀ i x H' H'', Y i H' x H'' → Same H' H'')
    (hd : ∀ H', Same H1 H' → TabA H' D ((List.range n).map rows) (fun p => p = D ∨ H1 p ≠ none) → Qd H') :
    ∃ W : Nat → Nat → Hp → Prop, (∃ m, W 0 m (upd H1 D (.lst []))) ∧ ∀ i m H, W i m H →
      (J.stop i H ∧ Qd H) ∨ (J.go i H ∧ ∃ Nx : Hp → Prop, (∀ H', Nx H' → ∃ m', m' < m ∧ W (i + 1) m' H') ∧ ∀ x H', J.yld i H x H' → g x (wipe σ vs) H' fun σ2 H2 => wipe σ2 vs = wipe σ vs ∧ tYes σ2 H2 fun b H3 =>
        if b = true then te σ2 H3 fun y H4 => ∃ acc, H4 D = some (.lst acc) ∧ acc.length < sizeLine ∧ Nx (upd H4 D (.lst (acc ++ [y]))) else Nx H3) := by
  refine lc_it wk (fun i H' => Same H1 H' ∧ ∃ ps : List Addr, H' D = some (.lst (ps.map V.ref)) ∧ ps.length = i ∧ ∀ (j : Nat) p, ps[j]? = some p → H' p = some (.lst ((rows j).map V.int)) ∧ ¬ (p = D ∨ H1 p ≠ none)) ⟨same_new (Same.refl _) hD, [], upd_same, rfl, fun j p h => by simp at h⟩ (fun i H' _ p => hG H' p.1) (fun i x H' H'' hi p y => ?_) (fun H' p => ?_)
  · obtain ⟨s1, ps, h1, l1, k1⟩ := p
    have s2 := hY i x H' H'' y
    refine he i x H' H'' hi (s1.trans s2) y _ fun p H4 s4 hp np => ?_
    have hpD : p ≠ D := (ne_of_none (s2 _ _ h1) np).symm
    refine ⟨_, s4 _ _ (s2 _ _ h1), small_lt (by simp; omega), same_new (s1.trans (s2.trans s4)) hD, ps ++ [p], by rw [upd_same, List.map_append]; rfl, by simp [l1], fun j q hq => ?_⟩
    by_cases hj : j < ps.length
    · rw [List.getElem?_append_left hj] at hq
      obtain ⟨h2, h3⟩ := k1 j q hq
      exact ⟨by rw [upd_ne (fun z => h3 (.inl z))]; exact s4 _ _ (s2 _ _ h2), h3⟩
    · have hj2 : j = ps.length := by
        have := (List.getElem?_eq_some_iff.mp hq).1
        simp at this; omega
      subst hj2
      rw [List.getElem?_append_right (Nat.le_refl _)] at hq
      simp at hq
      subst hq
      exact ⟨by rw [upd_ne hpD, l1]; exact hp, fun z => z.elim hpD fun z => z ((s1.trans s2).free np)⟩
  · obtain ⟨s1, ps, h1, l1, k1⟩ := p
    refine hd H' s1 ⟨ps, h1, by simp [l1], fun i p r h2 h3 => ?_⟩
    refine ⟨?_, (k1 i p h2).2⟩
    rw [(k1 i p h2).1]
    have : i < n := by rw [← l1]; exact (List.getElem?_eq_some_iff.mp h2).1
    rw [List.getElem?_map, List.getElem?_range this] at h3
    rw [← Option.some.inj h3]
theorem lcTL {a : Addr} {xs : List V} {te : TE} {j : Nat} {vs : List Nat} {σ : L2.St} {H1 : Hp} {D : Addr} {Qd : Hp → Prop} (rows : Nat → List Int) (hn : xs.length ≤ 100000) (hx : SqL K H1 a xs) (hD : H1 D = none) (hw : ∀ x, wipe ((wipe σ vs).set j (some x)) vs = wipe σ vs)
    (he : ∀ i x H', xs[i]? = some x → Same H1 H' → ∀ Qe : VK, (∀ p H4, Same H' H4 → H4 p = some (.lst ((rows i).map V.int)) → H' p = none → Qe (.ref p) H4) → te ((wipe σ vs).set j (some x)) H' Qe)
    (hd : ∀ H', Same H1 H' → TabA H' D ((List.range xs.length).map rows) (fun p => p = D ∨ H1 p ≠ none) → Qd H') :
    ∃ W : Nat → Nat → Hp → Prop, (∃ m, W 0 m (upd H1 D (.lst []))) ∧ ∀ i m H, W i m H →
      ((Itl K a).stop i H ∧ Qd H) ∨ ((Itl K a).go i H ∧ ∃ Nx : Hp → Prop, (∀ H', Nx H' → ∃ m', m' < m ∧ W (i + 1) m' H') ∧ ∀ x H', (Itl K a).yld i H x H' → gName j x (wipe σ vs) H' fun σ2 H2 => wipe σ2 vs = wipe σ vs ∧ tYes σ2 H2 fun b H3 =>
        if b = true then te σ2 H3 fun y H4 => ∃ acc, H4 D = some (.lst acc) ∧ acc.length < sizeLine ∧ Nx (upd H4 D (.lst (acc ++ [y]))) else Nx H3) :=
  lcT (walk_list (xs := xs)) rows hn hD (fun H' e => e.seq hx) (fun i x H' H'' hi e y Qe q => by
    obtain ⟨rfl, hx⟩ := y
    exact ⟨hw x, he i x H'' hx e Qe q⟩) (fun i x H' H'' y => by obtain ⟨rfl, _⟩ := y; exact Same.refl _) hd
theorem lcTR {lo : Int} {n : Nat} {te : TE} {j : Nat} {vs : List Nat} {σ : L2.St} {H1 : Hp} {D : Addr} {Qd : Hp → Prop} (rows : Nat → List Int) (hn : n ≤ 100000) (hD : H1 D = none) (hw : ∀ x, wipe ((wipe σ vs).set j (some x)) vs = wipe σ vs)
    (he : ∀ (i : Nat) H', i < n → Same H1 H' → ∀ Qe : VK, (∀ p H4, Same H' H4 → H4 p = some (.lst ((rows i).map V.int)) → H' p = none → Qe (.ref p) H4) → te ((wipe σ vs).set j (some (.int (lo + i)))) H' Qe)
    (hd : ∀ H', Same H1 H' → TabA H' D ((List.range n).map rows) (fun p => p = D ∨ H1 p ≠ none) → Qd H') :
    ∃ W : Nat → Nat → Hp → Prop, (∃ m, W 0 m (upd H1 D (.lst []))) ∧ ∀ i m H, W i m H →
      ((Itr lo n).stop i H ∧ Qd H) ∨ ((Itr lo n).go i H ∧ ∃ Nx : Hp → Prop, (∀ H', Nx H' → ∃ m', m' < m ∧ W (i + 1) m' H') ∧ ∀ x H', (Itr lo n).yld i H x H' → gName j x (wipe σ vs) H' fun σ2 H2 => wipe σ2 vs = wipe σ vs ∧ tYes σ2 H2 fun b H3 =>
        if b = true then te σ2 H3 fun y H4 => ∃ acc, H4 D = some (.lst acc) ∧ acc.length < sizeLine ∧ Nx (upd H4 D (.lst (acc ++ [y]))) else Nx H3) :=
  lcT (walk_range (lo := lo) (n := n)) rows hn hD (fun _ _ => trivial) (fun i x H' H'' hi e y Qe q => by
    obtain ⟨rfl, rfl⟩ := y
    exact ⟨hw _, he i H'' hi e Qe q⟩) (fun i x H' H'' y => by obtain ⟨rfl, _⟩ := y; exact Same.refl _) hd
end
end FF
end
section
set_option Elab.async false
set_option linter.all false
set_option maxRecDepth 100000
set_option maxHeartbeats 4000000
/-! FW6: divided. -/
namespace FF
open PySem PySem.Spec PyProof.Rows L2
/-- what divided hands back -/
structure DivR (N : Int) (f g qu re : List Int) : Prop where
  cn : Cn N re
  lt : re.length < (tr N g).length
  eq : FF.cl N f = FF.cl N qu * FF.cl N g + FF.cl N re
  qr : ∀ x ∈ qu, 0 ≤ x ∧ x < N
  ql : qu.length = (tr N f).length + 1 - (tr N g).length
def spDiv (K : PySem.W.Frag) (mg : Str → Option Value) : Sp := fun vs H Q _ => ∃ (q a b : Addr) (N : Int) (f g : List Int), vs = [.ref q, .ref a, .ref b] ∧ Kd mg H q N false ∧ SqL K H a (f.map V.int) ∧ SqL K H b (g.map V.int) ∧ f.length ≤ 400 ∧ g.length ≤ 400 ∧
  (∃ g0 l c, tr N g = g0 ++ [l] ∧ N ∣ l * c - 1) ∧ ∀ H' T p1 p2 qu re, Same H H' → H T = none → H p1 = none → H p2 = none → H' T = some (.tup [.ref p1, .ref p2]) → H' p1 = some (.lst (qu.map V.int)) → H' p2 = some (.lst (re.map V.int)) → DivR N f g qu re → Q (.ref T) H'
/-- between two turns -/
structure DInv (N : Int) (f g by_ rest qu : List Int) : Prop where
  cn : Cn N rest
  eq : FF.cl N f = FF.cl N qu * FF.cl N g + FF.cl N rest
  qr : ∀ x ∈ qu, 0 ≤ x ∧ x < N
  ql : qu.length = (tr N f).length + 1 - by_.length
  le : rest.length ≤ (tr N f).length
  z : ∀ k, k + by_.length ≤ rest.length → co qu k = 0
theorem dinv_step {N : Int} {f g b0 r0 qu : List Int} {l x c : Int} (hN : 1 < N) (hb : tr N g = b0 ++ [l]) (h : DInv N f g (b0 ++ [l]) (r0 ++ [x]) qu) (hl : b0.length ≤ r0.length) (hc : N ∣ l * c - x) (c0 : 0 ≤ c) (c1 : c < N) :
    let rest := tr N (subL (r0 ++ [x]) (List.replicate (r0.length - b0.length) 0 ++ tr N (sclL c (b0 ++ [l]))))
    DInv N f g (b0 ++ [l]) rest (qu.set (r0.length - b0.length) c) ∧ rest.length < (r0 ++ [x]).length := by
  intro rest
  have hat : r0.length - b0.length < qu.length := by rw [h.ql]; have := h.le; simp at this ⊢; omega
  have e1 : FF.cl N (r0 ++ [x]) = FF.cl N r0 + FF.X ^ r0.length * C x := by rw [cl_append]; rfl
  have e2 : FF.cl N (b0 ++ [l]) = FF.cl N b0 + FF.X ^ b0.length * C l := by rw [cl_append]; rfl
  have e3 : FF.cl N g = FF.cl N (b0 ++ [l]) := by rw [← hb, cl_tr]
  have er : FF.cl N rest = FF.cl N (r0 ++ [x]) - FF.X ^ (r0.length - b0.length) * (C c * FF.cl N (b0 ++ [l])) := by
    show FF.cl N (tr N _) = _
    rw [cl_tr, cl_sub, cl_shift, cl_tr, cl_scl]
  have ec : (C x : Pm N) = C c * C l := by
    rw [← C_mul, C_eq, Int.mul_comm c l]
    obtain ⟨k, e⟩ := hc
    exact ⟨-k, by grind⟩
  have ep : (FF.X : Pm N) ^ r0.length = FF.X ^ (r0.length - b0.length) * FF.X ^ b0.length := by
    rw [← pow_add]; congr 1; omega
  have hlen : rest.length ≤ r0.length := by
    have hd : Dg (FF.cl N (subL (r0 ++ [x]) (List.replicate (r0.length - b0.length) 0 ++ tr N (sclL c (b0 ++ [l]))))) r0.length := by
      rw [← cl_tr]
      show Dg (FF.cl N rest) r0.length
      rw [er, e1, e2, ec, ep]
      have : FF.cl N r0 + FF.X ^ (r0.length - b0.length) * FF.X ^ b0.length * (C c * C l) - FF.X ^ (r0.length - b0.length) * (C c * (FF.cl N b0 + FF.X ^ b0.length * C l)) = FF.cl N r0 - FF.X ^ (r0.length - b0.length) * (C c * FF.cl N b0) := by grind
      rw [this]
      exact (Dg.of_cl r0).sub' ((((Dg.of_cl b0).Cmul c).Xmul _).mono (by omega))
    exact dg_tr.mp hd
  have hle := h.le
  refine ⟨⟨tr_Cn _, ?_, fun y hy => ?_, by rw [List.length_set]; exact h.ql, by simp at hle; omega, fun k hk => ?_⟩, by simp; omega⟩
  · rw [cl_set _ _ _ hat, h.z _ (by simp; omega), er, h.eq, e3, C_zero]; grind
  · rcases List.mem_or_eq_of_mem_set hy with h1 | h1
    · exact h.qr y h1
    · rw [h1]; exact ⟨c0, c1⟩
  · have hk1 : k ≠ r0.length - b0.length := by simp at hk; omega
    have : co (qu.set (r0.length - b0.length) c) k = co qu k := by
      unfold co
      rw [List.getD_eq_getElem?_getD, List.getD_eq_getElem?_getD, List.getElem?_set_ne (Ne.symm hk1)]
    rw [this]
    exact h.z k (by simp at hk ⊢; omega)
theorem cn_range {N : Int} (hN : 1 < N) {l : List Int} (h : Cn N l) {x : Int} (hx : x ∈ l) : 0 ≤ x ∧ x < N := by
  rw [← h.red x hx]
  exact ⟨Int.emod_nonneg _ (by omega), Int.emod_lt_of_pos _ (by omega)⟩
section
variable {P : Program} {w : World} {K : PySem.W.Frag} {mg : Str → Option Value} {base : Heap}
theorem Kd.bnd {H : Hp} {q : Addr} {N : Int} (k : Kd mg H q N false) : 1 < N ∧ N < 2 ^ 63 := by
  obtain ⟨C, _, k⟩ := k
  exact k.r rfl
theorem ok_divided (T : TX K mg) : FO P w K mg base 4 "divided" ["kind", "f", "g"] (spDiv K mg) := by
  refine FO.mk T.d_divided sc_divided (fun _ _ _ _ _ _ us hl => match us, hl with | [_, _, _], _ => rfl) (fun vs H Q E h => ?_) (fun f cdv A outer s H vs Q E hr h => ?_)
  · obtain ⟨q, a, b, N, f, g, rfl, _⟩ := h; rfl
  · obtain ⟨q, a, b, N, f, g, rfl, hK, hf, hg, lf, lg, ⟨b0, l, u, hb, hu⟩, hq⟩ := h
    have hN := hK.bnd
    have hK2 := hK
    obtain ⟨Cc, hC, hk⟩ := hK2
    have M := km_of (P := P) (w := w) (base := base) T hC
    have cl := M.cl
    obtain ⟨f_p, fd_p, m_over, b_over, G_over⟩ := M.over rfl
    obtain ⟨f_less, fd_less, g_less, k_less, b_less, G_less⟩ := ok_less (P := P) (w := w) (base := base) T
    obtain ⟨f_scaled, fd_scaled, g_scaled, k_scaled, b_scaled, G_scaled⟩ := ok_scaled (P := P) (w := w) (base := base) T
    obtain ⟨f_trimmed, fd_trimmed, g_trimmed, k_trimmed, b_trimmed, G_trimmed⟩ := ok_trimmed (P := P) (w := w) (base := base) T
    refine ⟨_, (pss_cons (ps_set (i := 3) sc_divided.nd rfl (Or.inl rfl) (pe_call G_trimmed (hr.mono (by decide)) (by rfl) g_trimmed k_trimmed b_trimmed .nil pass0 (pa_cons (pv 0) (pa_cons (pv 1) pa_nil))))
      (pss_cons (ps_set (i := 4) sc_divided.nd rfl (Or.inl rfl) (pe_call G_trimmed (hr.mono (by decide)) (by rfl) g_trimmed k_trimmed b_trimmed .nil pass0 (pa_cons (pv 0) (pa_cons (pv 2) pa_nil))))
      (pss_cons (ps_if (pt_cmpR (op_eqD hr.units) (pv 4) (pe_lst pa_nil) (nomark _)) (pss_one ps_never) pss_nil)
      (pss_cons (ps_set (i := 5) sc_divided.nd rfl (Or.inl rfl) (pe_op op_rep (pe_lst (pa_cons pe_int pa_nil)) (pe_callB (call_max2 rfl) (by rfl) T.b_max (by decide +kernel) (pa_cons pe_int (pa_cons (pe_op op_add (pe_op op_sub (pe_callB (r := rLenK K) call_len_seq (by rfl) T.b_len (by decide +kernel) (pa_cons (pv 3) pa_nil)) (pe_callB (r := rLenK K) call_len_seq (by rfl) T.b_len (by decide +kernel) (pa_cons (pv 4) pa_nil))) pe_int) pa_nil)))))
      (pss_cons (ps_while PassesOwn.never (pt_cmpR op_ge (pe_callB (r := rLenK K) call_len_seq (by rfl) T.b_len (by decide +kernel) (pa_cons (pv 3) pa_nil)) (pe_callB (r := rLenK K) call_len_seq (by rfl) T.b_len (by decide +kernel) (pa_cons (pv 4) pa_nil)) (nomark _))
        (pss_cons (ps_set (i := 6) sc_divided.nd rfl (Or.inl rfl) (pe_op op_sub (pe_callB (r := rLenK K) call_len_seq (by rfl) T.b_len (by decide +kernel) (pa_cons (pv 3) pa_nil)) (pe_callB (r := rLenK K) call_len_seq (by rfl) T.b_len (by decide +kernel) (pa_cons (pv 4) pa_nil))))
        (pss_cons (ps_asg (pe_meth (pv 0) cl m_over G_over (hr.mono (by decide)) b_over .nil pass0 (pa_cons (pe_ix (r := rIxL K) ix_list (pv 3) (pe_un un_neg pe_int) (fun _ _ => rfl)) (pa_cons (pe_ix (r := rIxL K) ix_list (pv 4) (pe_un un_neg pe_int) (fun _ _ => rfl)) pa_nil))) (pg_sub (pv 5) (pv 6) set_list))
        (pss_one (ps_set (i := 3) sc_divided.nd rfl (Or.inl rfl) (pe_call G_less (hr.mono (by decide)) (by rfl) g_less k_less b_less .nil pass0 (pa_cons (pv 0) (pa_cons (pv 3) (pa_cons (pe_op op_cat (pe_op op_rep (pe_lst (pa_cons pe_int pa_nil)) (pv 6)) (pe_call G_scaled (hr.mono (by decide)) (by rfl) g_scaled k_scaled b_scaled .nil pass0 (pa_cons (pv 0) (pa_cons (pv 4) (pa_cons (pe_ix (r := rIxL K) ix_list (pv 5) (pv 6) (fun _ _ => rfl)) pa_nil))))) pa_nil)))))))))
      (pss_one (ps_ret (pe_tup (pa_cons (pv 5) (pa_cons (pv 3) pa_nil)))))))))), ?_⟩
    refine ⟨_, rfl, _, rfl, q, a, N, false, f, rfl, hK, hf, by omega, fun H1 pR s1 n1 h1 => ?_⟩
    refine ⟨_, rfl, _, rfl, q, b, N, false, g, rfl, hK.same s1, s1.seq hg, by omega, fun H2 pB s2 n2 h2 => ?_⟩
    have s12 := s1.trans s2
    rw [hb] at h2
    -- if by == []
    refine ⟨_, rfl, by show 0 ≤ sizeLine; decide, fun pE hE => ?_⟩
    have s3 := same_nw (o := .lst []) s12 hE
    have hB3 : (upd H2 pE (.lst [])) pB = some (.lst ((b0 ++ [l]).map V.int)) := by rw [upd_ne (ne_of_none h2 hE)]; exact h2
    refine eqD_ints (l := b0 ++ [l]) (m := []) (sqL_of hB3) (sqL_of upd_same) ?_
    refine ⟨_, rfl, ?_⟩
    refine ifN (by simp) ?_
    -- quotient
    have hR3 : (upd H2 pE (.lst [])) pR = some (.lst ((tr N f).map V.int)) := by rw [upd_ne (ne_of_none (s2 _ _ h1) hE)]; exact s2 _ _ h1
    have lR : (tr N f).length ≤ 400 := Nat.le_trans (tr_len f) lf
    have lB : (b0 ++ [l]).length ≤ 400 := by rw [← hb]; exact Nat.le_trans (tr_len g) lg
    generalize hH3 : upd H2 pE (.lst []) = H3 at *
    refine ⟨by show 1 ≤ sizeLine; decide, fun pO hO => ?_⟩
    have s4 := same_nw (o := .lst [V.int 0]) s3 hO
    have hR4 : (upd H3 pO (.lst [V.int 0])) pR = some (.lst ((tr N f).map V.int)) := by rw [upd_ne (ne_of_none hR3 hO)]; exact hR3
    have hB4 : (upd H3 pO (.lst [V.int 0])) pB = some (.lst ((b0 ++ [l]).map V.int)) := by rw [upd_ne (ne_of_none hB3 hO)]; exact hB3
    have hO4 : (upd H3 pO (.lst [V.int 0])) pO = some (.lst [V.int 0]) := upd_same
    generalize hH4 : upd H3 pO (.lst [V.int 0]) = H4 at *
    refine ⟨_, rfl, pR, _, rfl, .inl (sqL_of hR4), _, rfl, pB, _, rfl, .inl (sqL_of hB4), _, _, rfl, rfl, _, 1, rfl, rfl, 0, _, rfl, ?_⟩
    rw [List.length_map, List.length_map]
    have em : (if (((tr N f).length : Int) - ((b0 ++ [l]).length : Int) + 1) > 0 then (((tr N f).length : Int) - ((b0 ++ [l]).length : Int) + 1) else 0) = (((tr N f).length + 1 - (b0 ++ [l]).length : Nat) : Int) := by split <;> omega
    rw [em]
    refine ⟨pO, _, _, rfl, rfl, hO4, by omega, by omega, small_le (by simp <;> omega), fun pQ hQ => ?_⟩
    have s5 := same_nw (o := .lst ((List.replicate (tr N f).length (0 : Int)).map V.int)) s4 hQ
    rw [show (((tr N f).length + 1 - (b0 ++ [l]).length : Nat) : Int).toNat = (tr N f).length + 1 - (b0 ++ [l]).length from rfl, flat0]
    have hQ0 : H pQ = none := s4.free hQ
    have hQB : pB ≠ pQ := ne_of_none hB4 hQ
    have hQR : pR ≠ pQ := ne_of_none hR4 hQ
    refine ⟨fun m σ H' => ∃ (rest qu : List Int) (pr : Addr) (x6 : Option V), m = rest.length ∧ σ = [some (.ref q), some (.ref a), some (.ref b), some (.ref pr), some (.ref pB), some (.ref pQ), x6] ∧ Same H H' ∧ H pr = none ∧ H' pr = some (.lst (rest.map V.int)) ∧ pr ≠ pQ ∧ H' pQ = some (.lst (qu.map V.int)) ∧ H' pB = some (.lst ((b0 ++ [l]).map V.int)) ∧ DInv N f g (b0 ++ [l]) rest qu,
      ⟨_, tr N f, List.replicate ((tr N f).length + 1 - (b0 ++ [l]).length) 0, pR, none, rfl, rfl, same_nw s4 hQ, n1, by rw [upd_ne hQR]; exact hR4, hQR, upd_same, by rw [upd_ne hQB]; exact hB4, ⟨tr_Cn f, by rw [cl_rep0, cl_tr]; grind, fun x hx => by rw [List.eq_of_mem_replicate hx]; omega, by simp, Nat.le_refl _, fun k _ => ?_⟩⟩, fun m σ H' hW => ?_⟩
    · by_cases hk : k < (List.replicate ((tr N f).length + 1 - (b0 ++ [l]).length) (0 : Int)).length
      · exact List.eq_of_mem_replicate (co_mem hk)
      · exact co_ge (by omega)
    · obtain ⟨rest, qu, pr, x6, rfl, rfl, sm, hr0, hr1, hrQ, hq1, hb1, I⟩ := hW
      refine ⟨_, rfl, pr, _, rfl, .inl (sqL_of hr1), _, rfl, pB, _, rfl, .inl (sqL_of hb1), _, _, rfl, rfl, _, rfl, ?_⟩
      rw [List.length_map, List.length_map]
      have hle := I.le
      by_cases hge : (b0 ++ [l]).length ≤ rest.length
      · refine ifD (by omega) ?_
        rcases snoc_cases rest with rfl | ⟨r0, x, rfl⟩
        · simp at hge
        have hbl : b0.length ≤ r0.length := by simp at hge; omega
        refine ⟨fun σ' H2 => ∃ (rest2 qu2 : List Int) (pr2 : Addr) (x6 : Option V), rest2.length < (r0 ++ [x]).length ∧ σ' = [some (.ref q), some (.ref a), some (.ref b), some (.ref pr2), some (.ref pB), some (.ref pQ), x6] ∧ Same H H2 ∧ H pr2 = none ∧ H2 pr2 = some (.lst (rest2.map V.int)) ∧ pr2 ≠ pQ ∧ H2 pQ = some (.lst (qu2.map V.int)) ∧ H2 pB = some (.lst ((b0 ++ [l]).map V.int)) ∧ DInv N f g (b0 ++ [l]) rest2 qu2,
          fun σ' H2 ⟨rest2, qu2, pr2, y6, l2, e2, a1, a2, a3, a4, a5, a6, a7⟩ => ⟨rest2.length, l2, rest2, qu2, pr2, y6, rfl, e2, a1, a2, a3, a4, a5, a6, a7⟩, ?_⟩
        refine ⟨_, rfl, pr, _, rfl, .inl (sqL_of hr1), _, rfl, pB, _, rfl, .inl (sqL_of hb1), _, _, rfl, rfl, ?_⟩
        have eat : (((r0 ++ [x]).map V.int).length : Int) - (((b0 ++ [l]).map V.int).length : Int) = ((r0.length - b0.length : Nat) : Int) := by simp; omega
        dsimp only
        rw [eat]
        -- quotient[at] = kind.over(..)
        have hk2 := hk.same sm
        obtain ⟨⟨dx, fs, ho, hfs⟩, _, _⟩ := id hk2
        have hlr : 0 ≤ l ∧ l < N := cn_range hN.1 (tr_Cn (N := N) g) (by rw [hb]; simp)
        refine ⟨_, rfl, q, dx, fs, rfl, ho, fs_none hfs (by decide) (by decide), _, rfl, 1, rfl, pr, _, -1, _, rfl, rfl, sqL_of hr1, at_last r0 x, _, rfl, 1, rfl, pB, _, -1, _, rfl, rfl, sqL_of hb1, at_last b0 l, q, x, l, N, rfl, hk2, ⟨u, hu⟩, fun c H5 s5 c0 c1 hc => ?_⟩
        have hq5 := s5 _ _ hq1
        have hat : r0.length - b0.length < qu.length := by rw [I.ql]; simp at hle ⊢; omega
        refine ⟨_, rfl, _, rfl, pQ, _, _, _, rfl, rfl, hq5, by rw [List.length_map]; exact ix_nat hat, ?_⟩
        rw [set_map]
        have hb5 := s5 _ _ hb1
        have hr5 := s5 _ _ hr1
        have s6 : Same H (upd H5 pQ (.lst ((qu.set (r0.length - b0.length) c).map V.int))) := same_new (sm.trans s5) hQ0
        have hB6 : (upd H5 pQ (.lst ((qu.set (r0.length - b0.length) c).map V.int))) pB = some (.lst ((b0 ++ [l]).map V.int)) := by rw [upd_ne hQB]; exact hb5
        have hR6 : (upd H5 pQ (.lst ((qu.set (r0.length - b0.length) c).map V.int))) pr = some (.lst ((r0 ++ [x]).map V.int)) := by rw [upd_ne hrQ]; exact hr5
        have hQ6 : (upd H5 pQ (.lst ((qu.set (r0.length - b0.length) c).map V.int))) pQ = some (.lst ((qu.set (r0.length - b0.length) c).map V.int)) := upd_same
        generalize hH6 : upd H5 pQ (.lst ((qu.set (r0.length - b0.length) c).map V.int)) = H6 at *
        -- rest = less(kind, rest, [0] * at + scaled(kind, by, quotient[at]))
        refine ⟨_, rfl, _, rfl, by show 1 ≤ sizeLine; decide, fun p1 n1 => ?_⟩
        refine ⟨_, rfl, p1, _, _, rfl, rfl, upd_same, by omega, by simp at hle; omega, small_le (by simp at hle ⊢; omega), fun p2 n2 => ?_⟩
        rw [show (((r0.length - b0.length : Nat) : Int)).toNat = r0.length - b0.length from rfl, flat0]
        have s7 : Same H6 (upd (upd H6 p1 (.lst [V.int 0])) p2 (.lst ((List.replicate (r0.length - b0.length) (0 : Int)).map V.int))) := same_nw (same_nw (Same.refl _) n1) n2
        have hz7 : (upd (upd H6 p1 (.lst [V.int 0])) p2 (.lst ((List.replicate (r0.length - b0.length) (0 : Int)).map V.int))) p2 = some (.lst ((List.replicate (r0.length - b0.length) (0 : Int)).map V.int)) := upd_same
        generalize hH7 : upd (upd H6 p1 (.lst [V.int 0])) p2 (.lst ((List.replicate (r0.length - b0.length) (0 : Int)).map V.int)) = H7 at *
        have hco : co (qu.set (r0.length - b0.length) c) (r0.length - b0.length) = c := by
          rw [co_lt (by simpa using hat)]; simp
        refine ⟨_, rfl, _, rfl, _, rfl, _, rfl, pQ, _, _, _, rfl, rfl, sqL_of (s7 _ _ hQ6), at_co (by simpa using hat), ?_⟩
        rw [hco]
        refine ⟨q, pB, N, c, false, b0 ++ [l], rfl, hK.same (s6.trans s7), sqL_of (s7 _ _ hB6), by omega, fun y hy => .inr ⟨by omega, by omega⟩, fun H8 p3 s8 n3 h3 => ?_⟩
        refine ⟨p2, p3, _, _, rfl, rfl, s8 _ _ hz7, h3, ?_, fun p4 n4 => ?_⟩
        · refine small_le ?_
          have h9 : (tr N (sclL c (b0 ++ [l]))).length ≤ (b0 ++ [l]).length := by rw [← len_scl c (b0 ++ [l])]; exact tr_len _
          simp at h9 hle lB ⊢; omega
        rw [← List.map_append]
        have s9 : Same H6 (upd H8 p4 (.lst ((List.replicate (r0.length - b0.length) 0 ++ tr N (sclL c (b0 ++ [l]))).map V.int))) := same_nw (s7.trans s8) n4
        refine ⟨q, pr, p4, N, false, r0 ++ [x], List.replicate (r0.length - b0.length) 0 ++ tr N (sclL c (b0 ++ [l])), rfl, hK.same (s6.trans s9), sqL_of (s9 _ _ hR6), sqL_of upd_same, by simp at hle ⊢; omega, ?_, trivial, fun H10 p5 s10 n5 h5 => ?_⟩
        · have h9 : (tr N (sclL c (b0 ++ [l]))).length ≤ (b0 ++ [l]).length := by rw [← len_scl c (b0 ++ [l])]; exact tr_len _
          simp at h9 hle lB ⊢; omega
        obtain ⟨I2, hlt⟩ := dinv_step hN.1 hb I hbl hc c0 c1
        have s11 := s9.trans s10
        exact ⟨_, _, p5, _, hlt, rfl, s6.trans s11, (s6.trans s9).free n5, h5, (ne_of_none (s9 _ _ hQ6) n5).symm, s11 _ _ hQ6, s11 _ _ hB6, I2⟩
      · refine ifN (by omega) ?_
        refine ⟨_, rfl, _, rfl, by show 2 ≤ sizeLine; decide, fun pT hT => ?_⟩
        refine hq _ pT pQ pr qu rest (same_nw sm hT) (sm.free hT) hQ0 hr0 upd_same (by rw [upd_ne (ne_of_none hq1 hT)]; exact hq1) (by rw [upd_ne (ne_of_none hr1 hT)]; exact hr1) ⟨I.cn, ?_, I.eq, I.qr, ?_⟩
        · rw [hb]; omega
        · rw [hb]; exact I.ql
end
end FF
end
section
set_option Elab.async false
set_option linter.all false
set_option maxRecDepth 100000
set_option maxHeartbeats 4000000
/-! FW7: what is common. -/
namespace FF
open PySem PySem.Spec PyProof.Rows L2
/-- the greatest that goes into both -/
structure GcdR (N : Int) (f g d : List Int) : Prop where
  cn : Cn N d
  top : d = [] ∨ ∃ d0, d = d0 ++ [1]
  df : Dv (FF.cl N d) (FF.cl N f)
  dg : Dv (FF.cl N d) (FF.cl N g)
  comb : ∃ a b, FF.cl N d = a * FF.cl N f + b * FF.cl N g
def PrN (N : Int) : Prop := ∃ p : Nat, IsP p ∧ N = p
theorem PrN.gt {N : Int} (h : PrN N) : 1 < N := by obtain ⟨p, hp, rfl⟩ := h; have := hp.1; omega
theorem PrN.unit {N l : Int} (h : PrN N) (h0 : l ≠ 0) (hl : l % N = l) : ∃ c, N ∣ l * c - 1 := by
  obtain ⟨p, hp, rfl⟩ := h
  obtain ⟨d, hd⟩ := hp.inv (c := l) fun z => h0 (by rw [← hl]; exact Int.emod_eq_zero_of_dvd z)
  exact ⟨d, hd⟩
theorem cn_end {N : Int} {l : List Int} (h : Cn N l) (hn : l ≠ []) : ∃ g a, l = g ++ [a] ∧ a ≠ 0 ∧ a % N = a := by
  rcases h.top with e | ⟨g, a, e, ha⟩
  · exact absurd e hn
  · exact ⟨g, a, e, ha, h.red a (by rw [e]; simp)⟩
/-- scaled to the lead 1 -/
theorem lead_one {N : Int} {g0 : List Int} {l c : Int} (h1 : 1 < N) (hc : Cn N (g0 ++ [l])) (h : N ∣ l * c - 1) : ∃ d0, tr N (sclL c (g0 ++ [l])) = d0 ++ [1] ∧ d0.length = g0.length := by
  have hm : Mon (FF.cl N (tr N (sclL c (g0 ++ [l])))) g0.length := by
    rw [cl_tr, cl_scl, cl_append]
    refine ⟨C c * FF.cl N g0, (Dg.of_cl g0).Cmul c, ?_⟩
    have e : (C c : Pm N) * C l = 1 := by
      rw [← C_mul, ← C_one, C_eq, Int.mul_comm]; exact h
    show C c * (FF.cl N g0 + FF.X ^ g0.length * C l) = _
    grind
  exact mon_list (tr_Cn _) hm (Int.emod_eq_of_lt (by omega) h1)
theorem dv_scl {N c l : Int} {u : Pm N} {v : Pm N} (h : N ∣ l * c - 1) (d : Dv u v) : Dv (C c * u) v := by
  obtain ⟨x, hx⟩ := d
  refine ⟨x * C l, ?_⟩
  have e : (C l : Pm N) * C c = 1 := by rw [← C_mul, ← C_one, C_eq]; exact h
  grind
def spLead (K : PySem.W.Frag) (mg : Str → Option Value) : Sp := fun vs H Q _ => ∃ (q a : Addr) (N : Int) (f : List Int), vs = [.ref q, .ref a] ∧ Kd mg H q N false ∧ PrN N ∧ SqL K H a (f.map V.int) ∧ f.length ≤ 400 ∧
  ∀ d : List Int, Cn N d → (d = [] ∨ ∃ d0, d = d0 ++ [1]) → (∃ x y, FF.cl N d = x * FF.cl N f ∧ FF.cl N f = y * FF.cl N d) → NewL H d Q
def spGcd (K : PySem.W.Frag) (mg : Str → Option Value) : Sp := fun vs H Q _ => ∃ (q a b : Addr) (N : Int) (f g : List Int), vs = [.ref q, .ref a, .ref b] ∧ Kd mg H q N false ∧ PrN N ∧ SqL K H a (f.map V.int) ∧ SqL K H b (g.map V.int) ∧ f.length ≤ 300 ∧ g.length ≤ 300 ∧
  ∀ d : List Int, GcdR N f g d → NewL H d Q
section
variable {P : Program} {w : World} {K : PySem.W.Frag} {mg : Str → Option Value} {base : Heap}
theorem ok_with_lead_one (T : TX K mg) : FO P w K mg base 4 "with_lead_one" ["kind", "f"] (spLead K mg) := by
  refine FO.mk T.d_with_lead_one sc_with_lead_one (fun _ _ _ _ _ _ us hl => match us, hl with | [_, _], _ => rfl) (fun vs H Q E h => ?_) (fun f cdv A outer s H vs Q E hr h => ?_)
  · obtain ⟨q, a, N, f, rfl, _⟩ := h; rfl
  · obtain ⟨q, a, N, f, rfl, hK, hp, hf, lf, hq⟩ := h
    have hN := hK.bnd
    obtain ⟨Cc, hC, hk⟩ := id hK
    have M := km_of (P := P) (w := w) (base := base) T hC
    have cl := M.cl
    obtain ⟨f_p, fd_p, m_over, b_over, G_over⟩ := M.over rfl
    obtain ⟨f_scaled, fd_scaled, g_scaled, k_scaled, b_scaled, G_scaled⟩ := ok_scaled (P := P) (w := w) (base := base) T
    obtain ⟨f_trimmed, fd_trimmed, g_trimmed, k_trimmed, b_trimmed, G_trimmed⟩ := ok_trimmed (P := P) (w := w) (base := base) T
    refine ⟨_, (pss_cons (ps_set (i := 2) sc_with_lead_one.nd rfl (Or.inl rfl) (pe_call G_trimmed (hr.mono (by decide)) (by rfl) g_trimmed k_trimmed b_trimmed .nil pass0 (pa_cons (pv 0) (pa_cons (pv 1) pa_nil))))
      (pss_cons (ps_if (pt_cmpR (op_eqD hr.units) (pv 2) (pe_lst pa_nil) (nomark _)) (pss_one (ps_ret (pv 2))) pss_nil)
      (pss_one (ps_ret (pe_call G_scaled (hr.mono (by decide)) (by rfl) g_scaled k_scaled b_scaled .nil pass0 (pa_cons (pv 0) (pa_cons (pv 2) (pa_cons (pe_meth (pv 0) cl m_over G_over (hr.mono (by decide)) b_over .nil pass0 (pa_cons pe_int (pa_cons (pe_ix (r := rIxL K) ix_list (pv 2) (pe_un un_neg pe_int) (fun _ _ => rfl)) pa_nil))) pa_nil)))))))), ?_⟩
    refine ⟨_, rfl, _, rfl, q, a, N, false, f, rfl, hK, hf, by omega, fun H1 pR s1 n1 h1 => ?_⟩
    refine ⟨_, rfl, by show 0 ≤ sizeLine; decide, fun pE hE => ?_⟩
    have s2 := same_nw (o := .lst []) s1 hE
    have hR2 : (upd H1 pE (.lst [])) pR = some (.lst ((tr N f).map V.int)) := by rw [upd_ne (ne_of_none h1 hE)]; exact h1
    have hE2 : (upd H1 pE (.lst [])) pE = some (.lst []) := upd_same
    generalize upd H1 pE (.lst []) = H2 at *
    refine eqD_ints (l := tr N f) (m := []) (sqL_of hR2) (sqL_of hE2) ?_
    refine ⟨_, rfl, ?_⟩
    by_cases he : tr N f = []
    · refine ifD he ?_
      refine ⟨_, rfl, ?_⟩
      rw [he] at hR2
      refine hq [] ⟨fun a ha => (by cases ha), .inl rfl⟩ (.inl rfl) ⟨0, 0, ?_, ?_⟩ H2 pR s2 n1 hR2
      · rw [cl_nil]; grind
      · rw [tr_nil_iff.mp he]; grind
    · refine ifN he ?_
      obtain ⟨g0, l, e, l0, lr⟩ := cn_end (tr_Cn (N := N) f) he
      rw [e] at hR2
      have hk2 := hk.same s2
      obtain ⟨⟨dx, fs, ho, hfs⟩, _, _⟩ := id hk2
      refine ⟨_, rfl, _, rfl, _, rfl, q, dx, fs, rfl, ho, fs_none hfs (by decide) (by decide), _, rfl, 1, rfl, pR, _, -1, _, rfl, rfl, sqL_of hR2, at_last g0 l, q, 1, l, N, rfl, hk2, hp.unit l0 lr, fun c H3 s3 c0 c1 hc => ?_⟩
      have hg : Cn N (g0 ++ [l]) := by rw [← e]; exact tr_Cn f
      have lg : (g0 ++ [l]).length ≤ 400 := by rw [← e]; exact Nat.le_trans (tr_len f) lf
      obtain ⟨d0, ed, _⟩ := lead_one hN.1 hg hc
      refine ⟨q, pR, N, c, false, g0 ++ [l], rfl, hK.same (s2.trans s3), sqL_of (s3 _ _ hR2), by omega, fun y hy => .inr ⟨by omega, by omega⟩, ?_⟩
      have e2 : FF.cl N f = FF.cl N (g0 ++ [l]) := by rw [← e, cl_tr]
      refine NewL.of (hq _ (tr_Cn _) (.inr ⟨d0, ed⟩) ⟨C c, C l, by rw [cl_tr, cl_scl, e2], ?_⟩) (s2.trans s3)
      have e4 : (C l : Pm N) * C c = 1 := by rw [← C_mul, ← C_one, C_eq]; exact hc
      rw [cl_tr, cl_scl, e2]; grind
/-- between two turns of Euclid's way -/
structure EInv (N : Int) (f g one other : List Int) : Prop where
  c1 : Cn N one
  c2 : Cn N other
  d : ∀ u : Pm N, Dv u (FF.cl N one) → Dv u (FF.cl N other) → Dv u (FF.cl N f) ∧ Dv u (FF.cl N g)
  l1 : one.length ≤ 300
  l2 : other.length ≤ 300
theorem einv_step {N : Int} {f g one other qu re : List Int} (I : EInv N f g one other) (D : DivR N one other qu re) : EInv N f g other re := by
  refine ⟨I.c2, D.cn, fun u h1 h2 => I.d u ?_ h1, I.l2, ?_⟩
  · rw [D.eq]; exact (h1.mul_l _).add h2
  · have := D.lt; rw [tr_id I.c2] at this; have := I.l2; omega
theorem ok_common (T : TX K mg) : FO P w K mg base 5 "common" ["kind", "f", "g"] (spGcd K mg) := by
  refine FO.mk T.d_common sc_common (fun _ _ _ _ _ _ us hl => match us, hl with | [_, _, _], _ => rfl) (fun vs H Q E h => ?_) (fun f cdv A outer s H vs Q E hr h => ?_)
  · obtain ⟨q, a, b, N, f, g, rfl, _⟩ := h; rfl
  · obtain ⟨q, a, b, N, f, g, rfl, hK, hp, hf, hg, lf, lg, hq⟩ := h
    obtain ⟨f_with_lead_one, fd_with_lead_one, g_with_lead_one, k_with_lead_one, b_with_lead_one, G_with_lead_one⟩ := ok_with_lead_one (P := P) (w := w) (base := base) T
    obtain ⟨f_divided, fd_divided, g_divided, k_divided, b_divided, G_divided⟩ := ok_divided (P := P) (w := w) (base := base) T
    obtain ⟨f_trimmed, fd_trimmed, g_trimmed, k_trimmed, b_trimmed, G_trimmed⟩ := ok_trimmed (P := P) (w := w) (base := base) T
    refine ⟨_, (pss_cons (ps_set (i := 3) sc_common.nd rfl (Or.inl rfl) (pe_call G_trimmed (hr.mono (by decide)) (by rfl) g_trimmed k_trimmed b_trimmed .nil pass0 (pa_cons (pv 0) (pa_cons (pv 1) pa_nil))))
      (pss_cons (ps_set (i := 4) sc_common.nd rfl (Or.inl rfl) (pe_call G_trimmed (hr.mono (by decide)) (by rfl) g_trimmed k_trimmed b_trimmed .nil pass0 (pa_cons (pv 0) (pa_cons (pv 2) pa_nil))))
      (pss_cons (ps_while PassesOwn.never (pt_cmpR (op_neD hr.units) (pv 4) (pe_lst pa_nil) (nomark _))
        (pss_cons (ps_set (i := 5) sc_common.nd rfl (Or.inl rfl) (pe_ix (r := rIxT K) ix_tup (pe_call G_divided (hr.mono (by decide)) (by rfl) g_divided k_divided b_divided .nil pass0 (pa_cons (pv 0) (pa_cons (pv 3) (pa_cons (pv 4) pa_nil)))) pe_int (fun _ _ => rfl)))
        (pss_cons (ps_set (i := 3) sc_common.nd rfl (Or.inl rfl) (pv 4))
        (pss_one (ps_set (i := 4) sc_common.nd rfl (Or.inl rfl) (pv 5))))))
      (pss_one (ps_ret (pe_call G_with_lead_one (hr.mono (by decide)) (by rfl) g_with_lead_one k_with_lead_one b_with_lead_one .nil pass0 (pa_cons (pv 0) (pa_cons (pv 3) pa_nil)))))))), ?_⟩
    refine ⟨_, rfl, _, rfl, q, a, N, false, f, rfl, hK, hf, by omega, fun H1 p1 s1 n1 h1 => ?_⟩
    refine ⟨_, rfl, _, rfl, q, b, N, false, g, rfl, hK.same s1, s1.seq hg, by omega, fun H2 p2 s2 n2 h2 => ?_⟩
    have s12 := s1.trans s2
    refine ⟨fun m σ H' => ∃ (one other : List Int) (pa pb : Addr) (x5 : Option V), m = other.length ∧ σ = [some (.ref q), some (.ref a), some (.ref b), some (.ref pa), some (.ref pb), x5] ∧ Same H H' ∧ H' pa = some (.lst (one.map V.int)) ∧ H' pb = some (.lst (other.map V.int)) ∧ EInv N f g one other ∧
        (∃ x y, FF.cl N one = x * FF.cl N f + y * FF.cl N g) ∧ ∃ x y, FF.cl N other = x * FF.cl N f + y * FF.cl N g,
      ⟨_, tr N f, tr N g, p1, p2, none, rfl, rfl, s12, s2 _ _ h1, h2, ⟨tr_Cn f, tr_Cn g, fun u h1 h2 => ?_, Nat.le_trans (tr_len f) lf, Nat.le_trans (tr_len g) lg⟩, ⟨1, 0, ?_⟩, ⟨0, 1, ?_⟩⟩, fun m σ H' hW => ?_⟩
    · rw [cl_tr] at h1 h2; exact ⟨h1, h2⟩
    · rw [cl_tr]; grind
    · rw [cl_tr]; grind
    · obtain ⟨one, other, pa, pb, x5, rfl, rfl, sm, ha, hb, I, ⟨x1, y1, e1⟩, ⟨x2, y2, e2⟩⟩ := hW
      refine ⟨_, rfl, by show 0 ≤ sizeLine; decide, fun pE hE => ?_⟩
      have s3 := same_nw (o := .lst []) sm hE
      have ha3 : (upd H' pE (.lst [])) pa = some (.lst (one.map V.int)) := by rw [upd_ne (ne_of_none ha hE)]; exact ha
      have hb3 : (upd H' pE (.lst [])) pb = some (.lst (other.map V.int)) := by rw [upd_ne (ne_of_none hb hE)]; exact hb
      have hE3 : (upd H' pE (.lst [])) pE = some (.lst []) := upd_same
      generalize upd H' pE (.lst []) = H3 at *
      refine neD_ints (l := other) (m := []) (sqL_of hb3) (sqL_of hE3) ?_
      refine ⟨_, rfl, ?_⟩
      by_cases he : other = []
      · refine ifEq he ?_
        subst he
        refine ⟨_, rfl, _, rfl, q, pa, N, one, rfl, hK.same s3, hp, sqL_of ha3, by have := I.l1; omega, fun d cd td ⟨x, y, ex, ey⟩ => ?_⟩
        refine NewL.of (hq d ⟨cd, td, ?_, ?_, x * x1, x * y1, ?_⟩) s3
        · exact (I.d _ ⟨y, ey⟩ (by rw [cl_nil]; exact Dv.zero _)).1
        · exact (I.d _ ⟨y, ey⟩ (by rw [cl_nil]; exact Dv.zero _)).2
        · rw [ex, e1]; grind
      · refine ifNe he ?_
        obtain ⟨g0, l, eo, l0, lr⟩ := cn_end I.c2 he
        refine ⟨fun σ' H2 => ∃ (qu re : List Int) (pb2 : Addr) (x5 : Option V), DivR N one other qu re ∧ σ' = [some (.ref q), some (.ref a), some (.ref b), some (.ref pb), some (.ref pb2), x5] ∧ Same H H2 ∧ H2 pb = some (.lst (other.map V.int)) ∧ H2 pb2 = some (.lst (re.map V.int)),
          fun σ' H2 ⟨qu, re, pb2, y5, D, e5, a1, a2, a3⟩ => ⟨re.length, by have := D.lt; rw [tr_id I.c2] at this; exact this, other, re, pb, pb2, y5, rfl, e5, a1, a2, a3, einv_step I D, ⟨x2, y2, e2⟩, ⟨x1 - FF.cl N qu * x2, y1 - FF.cl N qu * y2, ?_⟩⟩, ?_⟩
        · have := D.eq
          rw [e1, e2] at this
          grind
        · obtain ⟨u, hu⟩ := hp.unit l0 lr
          refine ⟨_, rfl, _, rfl, _, rfl, q, pa, pb, N, one, other, rfl, hK.same s3, sqL_of ha3, sqL_of hb3, by have := I.l1; omega, by have := I.l2; omega, ⟨g0, l, u, by rw [tr_id I.c2]; exact eo, hu⟩, fun H4 pT pq pr qu re s4 nT nq nr hT hpq hpr D => ?_⟩
          refine ⟨pT, _, 1, _, rfl, rfl, sqT_of hT, atI_nat (j := 1) rfl, ?_⟩
          exact ⟨_, rfl, _, rfl, qu, re, pr, _, D, rfl, s3.trans s4, s4 _ _ hb3, hpr⟩
end
end FF
end
section
set_option Elab.async false
set_option linter.all false
set_option maxRecDepth 100000
set_option maxHeartbeats 4000000
/-! FW8: shares. -/
namespace FF
open PySem PySem.Spec PyProof.Rows L2
structure ShR (N : Int) (f g d a b : List Int) : Prop where
  gcd : GcdR N f g d
  eq : FF.cl N a * FF.cl N f + FF.cl N b * FF.cl N g = FF.cl N d
  ca : Cn N a
  cb : Cn N b
  la : a.length ≤ f.length + g.length + 2
  lb : b.length ≤ f.length + g.length + 2
def spShares (K : PySem.W.Frag) (mg : Str → Option Value) : Sp := fun vs H Q _ => ∃ (q a b : Addr) (N : Int) (f g : List Int), vs = [.ref q, .ref a, .ref b] ∧ Kd mg H q N false ∧ PrN N ∧ SqL K H a (f.map V.int) ∧ SqL K H b (g.map V.int) ∧ f.length ≤ 100 ∧ g.length ≤ 100 ∧
  ∀ H' T p0 p1 p2 d x y, Same H H' → (H T = none ∧ H p1 = none ∧ H p2 = none) → H' T = some (.tup [.ref p0, .ref p1, .ref p2]) → H' p0 = some (.lst (d.map V.int)) → H' p1 = some (.lst (x.map V.int)) → H' p2 = some (.lst (y.map V.int)) → ShR N f g d x y → Q (.ref T) H'
/-- a pair of lists at p -/
def Two (H : Hp) (p : Addr) (x y : List Int) : Prop := ∃ a b, H p = some (.lst [.ref a, .ref b]) ∧ H a = some (.lst (x.map V.int)) ∧ H b = some (.lst (y.map V.int))
theorem Two.same {H H' : Hp} {p : Addr} {x y : List Int} (t : Two H p x y) (e : Same H H') : Two H' p x y := by
  obtain ⟨a, b, h, h1, h2⟩ := t
  exact ⟨a, b, e _ _ h, e _ _ h1, e _ _ h2⟩
structure SInv (N : Int) (f g one other o0 o1 u0 u1 : List Int) : Prop where
  E : EInv N f g one other
  e1 : FF.cl N one = FF.cl N o0 * FF.cl N f + FF.cl N o1 * FF.cl N g
  e2 : FF.cl N other = FF.cl N u0 * FF.cl N f + FF.cl N u1 * FF.cl N g
  b0 : o0.length + one.length + other.length ≤ f.length + g.length + 2
  b1 : o1.length + one.length + other.length ≤ f.length + g.length + 2
  b2 : u0.length + one.length + other.length ≤ f.length + g.length + 2
  b3 : u1.length + one.length + other.length ≤ f.length + g.length + 2
theorem mul_len (f g : List Int) : (mulL f g).length ≤ f.length + g.length := by
  by_cases h1 : f = []
  · subst h1; simp [mulL]
  · by_cases h2 : g = []
    · subst h2
      have : ∀ f : List Int, (mulL f []).length ≤ f.length := fun f => by
        induction f with
        | nil => simp [mulL]
        | cons a f ih => simp only [mulL, sclL, List.map_nil, addL, List.length_cons]; omega
      exact this f
    · rw [len_mul f h1 h2]; omega
theorem turn_len {N : Int} {o u qu : List Int} : (tr N (subL o (tr N (mulL qu u)))).length ≤ max o.length (qu.length + u.length) := by
  have h1 := tr_len (N := N) (subL o (tr N (mulL qu u)))
  have h2 := tr_len (N := N) (mulL qu u)
  have h3 := mul_len qu u
  rw [len_sub] at h1
  omega
theorem mul_nil_len {u : List Int} : mulL [] u = [] := rfl
theorem sinv_step {N : Int} {f g one other o0 o1 u0 u1 qu re : List Int} (I : SInv N f g one other o0 o1 u0 u1) (D : DivR N one other qu re) :
    SInv N f g other re u0 u1 (tr N (subL o0 (tr N (mulL qu u0)))) (tr N (subL o1 (tr N (mulL qu u1)))) := by
  have hlt := D.lt
  have hql := D.ql
  rw [tr_id I.E.c2] at hlt hql
  rw [tr_id I.E.c1] at hql
  have b0 := I.b0; have b1 := I.b1; have b2 := I.b2; have b3 := I.b3
  have hre : re.length ≤ one.length ∨ one.length + 1 - other.length ≠ 0 := by
    by_cases h : one.length + 1 - other.length = 0
    · left
      have hq0 : qu = [] := List.length_eq_zero_iff.mp (by omega)
      have := D.eq
      rw [hq0, cl_nil] at this
      have e : FF.cl N one = FF.cl N re := by rw [this]; grind
      rw [I.E.c1.eq D.cn e]
      exact Nat.le_refl _
    · right; exact h
  have t0 := turn_len (N := N) (o := o0) (u := u0) (qu := qu)
  have t1 := turn_len (N := N) (o := o1) (u := u1) (qu := qu)
  have z0 : qu.length = 0 → (tr N (subL o0 (tr N (mulL qu u0)))).length ≤ o0.length := fun h => by
    have hq0 : qu = [] := List.length_eq_zero_iff.mp h
    have h1 := tr_len (N := N) (subL o0 (tr N (mulL qu u0)))
    rw [len_sub, hq0, mul_nil_len] at h1
    have e : tr N ([] : List Int) = [] := rfl
    rw [e] at h1
    rw [hq0, mul_nil_len, e]
    simpa using h1
  have z1 : qu.length = 0 → (tr N (subL o1 (tr N (mulL qu u1)))).length ≤ o1.length := fun h => by
    have hq0 : qu = [] := List.length_eq_zero_iff.mp h
    have h1 := tr_len (N := N) (subL o1 (tr N (mulL qu u1)))
    rw [len_sub, hq0, mul_nil_len] at h1
    have e : tr N ([] : List Int) = [] := rfl
    rw [e] at h1
    rw [hq0, mul_nil_len, e]
    simpa using h1
  have key : re.length + other.length ≤ one.length + other.length := by
    rcases hre with h | h
    · omega
    · omega
  refine ⟨einv_step I.E D, I.e2, ?_, by omega, by omega, ?_, ?_⟩
  · have h := D.eq
    rw [cl_tr, cl_tr, cl_sub, cl_sub, cl_tr, cl_tr, cl_mul, cl_mul]
    have e1 := I.e1
    have e2 := I.e2
    rw [e1, e2] at h
    grind
  · rcases Nat.eq_zero_or_pos qu.length with h | h
    · have := z0 h; omega
    · omega
  · rcases Nat.eq_zero_or_pos qu.length with h | h
    · have := z1 h; omega
    · omega
section
variable {P : Program} {w : World} {K : PySem.W.Frag} {mg : Str → Option Value} {base : Heap}
theorem ok_shares (T : TX K mg) : FO P w K mg base 5 "shares" ["kind", "f", "g"] (spShares K mg) := by
  refine FO.mk T.d_shares sc_shares (fun _ _ _ _ _ _ us hl => match us, hl with | [_, _, _], _ => rfl) (fun vs H Q E h => ?_) (fun f cdv A outer s H vs Q E hr h => ?_)
  · obtain ⟨q, a, b, N, f, g, rfl, _⟩ := h; rfl
  · obtain ⟨q, a, b, N, f, g, rfl, hK, hp, hf, hg, lf, lg, hq⟩ := h
    have hN := hK.bnd
    obtain ⟨Cc, hC, hk⟩ := id hK
    have M := km_of (P := P) (w := w) (base := base) T hC
    have cl := M.cl
    obtain ⟨f_p, fd_p, m_over, b_over, G_over⟩ := M.over rfl
    obtain ⟨f_trimmed, fd_trimmed, g_trimmed, k_trimmed, b_trimmed, G_trimmed⟩ := ok_trimmed (P := P) (w := w) (base := base) T
    obtain ⟨f_divided, fd_divided, g_divided, k_divided, b_divided, G_divided⟩ := ok_divided (P := P) (w := w) (base := base) T
    obtain ⟨f_less, fd_less, g_less, k_less, b_less, G_less⟩ := ok_less (P := P) (w := w) (base := base) T
    obtain ⟨f_times, fd_times, g_times, k_times, b_times, G_times⟩ := ok_times (P := P) (w := w) (base := base) T
    obtain ⟨f_scaled, fd_scaled, g_scaled, k_scaled, b_scaled, G_scaled⟩ := ok_scaled (P := P) (w := w) (base := base) T
    refine ⟨_, (pss_cons (ps_set (i := 3) sc_shares.nd rfl (Or.inl rfl) (pe_call G_trimmed (hr.mono (by decide)) (by rfl) g_trimmed k_trimmed b_trimmed .nil pass0 (pa_cons (pv 0) (pa_cons (pv 1) pa_nil))))
      (pss_cons (ps_set (i := 4) sc_shares.nd rfl (Or.inl rfl) (pe_call G_trimmed (hr.mono (by decide)) (by rfl) g_trimmed k_trimmed b_trimmed .nil pass0 (pa_cons (pv 0) (pa_cons (pv 2) pa_nil))))
      (pss_cons (ps_set (i := 5) sc_shares.nd rfl (Or.inr rfl) (pe_lst (pa_cons (pe_lst (pa_cons pe_int pa_nil)) (pa_cons (pe_lst pa_nil) pa_nil))))
      (pss_cons (ps_set (i := 6) sc_shares.nd rfl (Or.inr rfl) (pe_lst (pa_cons (pe_lst pa_nil) (pa_cons (pe_lst (pa_cons pe_int pa_nil)) pa_nil))))
      (pss_cons (ps_while PassesOwn.never (pt_cmpR (op_neD hr.units) (pv 4) (pe_lst pa_nil) (nomark _))
        (pss_cons (ps_asg (pe_call G_divided (hr.mono (by decide)) (by rfl) g_divided k_divided b_divided .nil pass0 (pa_cons (pv 0) (pa_cons (pv 3) (pa_cons (pv 4) pa_nil)))) (pg_tup rfl (pgs_cons (pg_name (i := 7) sc_shares.nd rfl (Or.inr rfl)) (pgs_cons (pg_name (i := 8) sc_shares.nd rfl (Or.inl rfl)) pgs_nil))))
        (pss_cons (ps_set (i := 3) sc_shares.nd rfl (Or.inl rfl) (pv 4))
        (pss_cons (ps_set (i := 4) sc_shares.nd rfl (Or.inl rfl) (pv 8))
        (pss_cons (ps_setLc (i := 9) (own := [("k", 11)])  rfl sc_shares.nd rfl rfl (sw_true rfl rfl rfl (by decide +kernel)) (pi_range1 (by rfl) T.b_range (pa_cons pe_int pa_nil)) (blkOk_by (N := n_shares) (sc := defScope s_shares) (by decide +kernel)) (fun _ _ _ _ _ => (pg_name (i := 11) sc_shares.nd rfl (Or.inl rfl))) (fun _ _ _ _ _ => pts_nil) (fun _ _ _ _ _ => (pe_call G_less (hr.mono (by decide)) (by rfl) g_less k_less b_less .nil pass0 (pa_cons (pv 0) (pa_cons (pe_ix (r := rIxL K) ix_list (pv 5) (pv 11) (fun _ _ => rfl)) (pa_cons (pe_call G_times (hr.mono (by decide)) (by rfl) g_times k_times b_times .nil pass0 (pa_cons (pv 0) (pa_cons (pv 7) (pa_cons (pe_ix (r := rIxL K) ix_list (pv 6) (pv 11) (fun _ _ => rfl)) pa_nil)))) pa_nil))))))
        (pss_cons (ps_set (i := 5) sc_shares.nd rfl (Or.inr rfl) (pv 6))
        (pss_one (ps_set (i := 6) sc_shares.nd rfl (Or.inr rfl) (pv 9)))))))))
      (pss_cons (ps_if (pt_cmpR (op_eqD hr.units) (pv 3) (pe_lst pa_nil) (nomark _)) (pss_one (ps_ret (pe_tup (pa_cons (pe_lst pa_nil) (pa_cons (pe_lst pa_nil) (pa_cons (pe_lst pa_nil) pa_nil)))))) pss_nil)
      (pss_cons (ps_set (i := 10) sc_shares.nd rfl (Or.inl rfl) (pe_meth (pv 0) cl m_over G_over (hr.mono (by decide)) b_over .nil pass0 (pa_cons pe_int (pa_cons (pe_ix (r := rIxL K) ix_list (pv 3) (pe_un un_neg pe_int) (fun _ _ => rfl)) pa_nil))))
      (pss_one (ps_ret (pe_tup (pa_cons (pe_call G_scaled (hr.mono (by decide)) (by rfl) g_scaled k_scaled b_scaled .nil pass0 (pa_cons (pv 0) (pa_cons (pv 3) (pa_cons (pv 10) pa_nil)))) (pa_cons (pe_call G_scaled (hr.mono (by decide)) (by rfl) g_scaled k_scaled b_scaled .nil pass0 (pa_cons (pv 0) (pa_cons (pe_ix (r := rIxL K) ix_list (pv 5) pe_int (fun _ _ => rfl)) (pa_cons (pv 10) pa_nil)))) (pa_cons (pe_call G_scaled (hr.mono (by decide)) (by rfl) g_scaled k_scaled b_scaled .nil pass0 (pa_cons (pv 0) (pa_cons (pe_ix (r := rIxL K) ix_list (pv 5) pe_int (fun _ _ => rfl)) (pa_cons (pv 10) pa_nil)))) pa_nil))))))))))))), ?_⟩
    refine ⟨_, rfl, _, rfl, q, a, N, false, f, rfl, hK, hf, by omega, fun H1 p1 s1 n1 h1 => ?_⟩
    refine ⟨_, rfl, _, rfl, q, b, N, false, g, rfl, hK.same s1, s1.seq hg, by omega, fun H2 p2 s2 n2 h2 => ?_⟩
    have s12 := s1.trans s2
    have h1' := s2 _ _ h1
    -- ones = [[1], []]
    refine ⟨by show 1 ≤ sizeLine; decide, fun a1 na1 => ⟨by show 0 ≤ sizeLine; decide, fun a2 na2 => ⟨by show 2 ≤ sizeLine; decide, fun a3 na3 => ?_⟩⟩⟩
    have t1 : Two (upd (upd (upd H2 a1 (.lst [V.int 1])) a2 (.lst [])) a3 (.lst [.ref a1, .ref a2])) a3 [1] [] := by
      have q1 : (upd (upd H2 a1 (.lst [V.int 1])) a2 (.lst [])) a1 = some (.lst [V.int 1]) := by rw [upd_ne (ne_of_none upd_same na2)]; exact upd_same
      exact ⟨a1, a2, upd_same, by rw [upd_ne (ne_of_none q1 na3)]; exact q1, by rw [upd_ne (ne_of_none upd_same na3)]; exact upd_same⟩
    have s3 : Same H2 (upd (upd (upd H2 a1 (.lst [V.int 1])) a2 (.lst [])) a3 (.lst [.ref a1, .ref a2])) := same_nw (same_nw (same_nw (Same.refl _) na1) na2) na3
    generalize upd (upd (upd H2 a1 (.lst [V.int 1])) a2 (.lst [])) a3 (.lst [.ref a1, .ref a2]) = H3 at *
    -- others = [[], [1]]
    refine ⟨by show 0 ≤ sizeLine; decide, fun b1 nb1 => ⟨by show 1 ≤ sizeLine; decide, fun b2 nb2 => ⟨by show 2 ≤ sizeLine; decide, fun b3 nb3 => ?_⟩⟩⟩
    have t2 : Two (upd (upd (upd H3 b1 (.lst [])) b2 (.lst [V.int 1])) b3 (.lst [.ref b1, .ref b2])) b3 [] [1] := by
      have q1 : (upd (upd H3 b1 (.lst [])) b2 (.lst [V.int 1])) b1 = some (.lst []) := by rw [upd_ne (ne_of_none upd_same nb2)]; exact upd_same
      exact ⟨b1, b2, upd_same, by rw [upd_ne (ne_of_none q1 nb3)]; exact q1, by rw [upd_ne (ne_of_none upd_same nb3)]; exact upd_same⟩
    have s4 : Same H3 (upd (upd (upd H3 b1 (.lst [])) b2 (.lst [V.int 1])) b3 (.lst [.ref b1, .ref b2])) := same_nw (same_nw (same_nw (Same.refl _) nb1) nb2) nb3
    generalize upd (upd (upd H3 b1 (.lst [])) b2 (.lst [V.int 1])) b3 (.lst [.ref b1, .ref b2]) = H4 at *
    have e0 : FF.cl N [1] = 1 := rfl
    refine ⟨fun m σ H' => ∃ (one other o0 o1 u0 u1 : List Int) (pa pb pO pU : Addr) (x7 x8 x9 x10 x11 : Option V), m = other.length ∧ σ = [some (.ref q), some (.ref a), some (.ref b), some (.ref pa), some (.ref pb), some (.ref pO), some (.ref pU), x7, x8, x9, x10, x11] ∧ Same H H' ∧ H' pa = some (.lst (one.map V.int)) ∧ H' pb = some (.lst (other.map V.int)) ∧ Two H' pO o0 o1 ∧ Two H' pU u0 u1 ∧ SInv N f g one other o0 o1 u0 u1,
      ⟨_, tr N f, tr N g, [1], [], [], [1], p1, p2, a3, b3, none, none, none, none, none, rfl, rfl, s12.trans (s3.trans s4), s4 _ _ (s3 _ _ h1'), s4 _ _ (s3 _ _ h2), t1.same s4, t2, ?_⟩, fun m σ H' hW => ?_⟩
    · have lf1 := tr_len (N := N) f
      have lg1 := tr_len (N := N) g
      refine ⟨⟨tr_Cn f, tr_Cn g, fun u h1 h2 => by rw [cl_tr] at h1 h2; exact ⟨h1, h2⟩, by omega, by omega⟩, ?_, ?_, ?_, ?_, ?_, ?_⟩
      · rw [cl_tr, e0, cl_nil]; grind
      · rw [cl_tr, e0, cl_nil]; grind
      all_goals simp only [List.length_cons, List.length_nil]; omega
    · obtain ⟨one, other, o0, o1, u0, u1, pa, pb, pO, pU, x7, x8, x9, x10, x11, rfl, rfl, sm, ha, hb, tO, tU, I⟩ := hW
      refine ⟨_, rfl, by show 0 ≤ sizeLine; decide, fun pE hE => ?_⟩
      have s5 : Same H' (upd H' pE (.lst [])) := same_nw (Same.refl _) hE
      have hE5 : (upd H' pE (.lst [])) pE = some (.lst []) := upd_same
      have ha5 := s5 _ _ ha
      have hb5 := s5 _ _ hb
      have tO5 := tO.same s5
      have tU5 := tU.same s5
      generalize upd H' pE (.lst []) = H5 at *
      have s05 := sm.trans s5
      refine neD_ints (l := other) (m := []) (sqL_of hb5) (sqL_of hE5) ?_
      refine ⟨_, rfl, ?_⟩
      have b0 := I.b0; have b1 := I.b1; have b2 := I.b2; have b3 := I.b3
      by_cases he : other = []
      · refine ifEq he ?_
        subst he
        -- if one == []
        refine ⟨_, rfl, by show 0 ≤ sizeLine; decide, fun pE2 hE2 => ?_⟩
        have s6 : Same H5 (upd H5 pE2 (.lst [])) := same_nw (Same.refl _) hE2
        have hE6 : (upd H5 pE2 (.lst [])) pE2 = some (.lst []) := upd_same
        have ha6 := s6 _ _ ha5
        have tO6 := tO5.same s6
        generalize upd H5 pE2 (.lst []) = H6 at *
        have s06 := s05.trans s6
        refine eqD_ints (l := one) (m := []) (sqL_of ha6) (sqL_of hE6) ?_
        refine ⟨_, rfl, ?_⟩
        have hd : ∀ u : Pm N, Dv u (FF.cl N one) → Dv u (FF.cl N f) ∧ Dv u (FF.cl N g) := fun u hu => I.E.d u hu (by rw [cl_nil]; exact Dv.zero u)
        by_cases h0 : one = []
        · refine ifD h0 ?_
          subst h0
          refine ⟨by show 0 ≤ sizeLine; decide, fun c1 nc1 => ⟨by show 0 ≤ sizeLine; decide, fun c2 nc2 => ⟨by show 0 ≤ sizeLine; decide, fun c3 nc3 => ⟨by show 3 ≤ sizeLine; decide, fun c4 nc4 => ?_⟩⟩⟩⟩
          have q1 : (upd (upd H6 c1 (.lst [])) c2 (.lst [])) c1 = some (.lst []) := by rw [upd_ne (ne_of_none upd_same nc2)]; exact upd_same
          have q2 : (upd (upd (upd H6 c1 (.lst [])) c2 (.lst [])) c3 (.lst [])) c1 = some (.lst []) := by rw [upd_ne (ne_of_none q1 nc3)]; exact q1
          have q3 : (upd (upd (upd H6 c1 (.lst [])) c2 (.lst [])) c3 (.lst [])) c2 = some (.lst []) := by rw [upd_ne (ne_of_none upd_same nc3)]; exact upd_same
          have hz : Cn N ([] : List Int) := ⟨fun a ha => (by cases ha), .inl rfl⟩
          refine hq _ c4 c1 c2 c3 [] [] [] (same_nw (same_nw (same_nw (same_nw s06 nc1) nc2) nc3) nc4) ⟨(same_nw (same_nw (same_nw s06 nc1) nc2) nc3).free nc4, (same_nw s06 nc1).free nc2, (same_nw (same_nw s06 nc1) nc2).free nc3⟩ upd_same (by rw [upd_ne (ne_of_none q2 nc4)]; exact q2) (by rw [upd_ne (ne_of_none q3 nc4)]; exact q3) (by rw [upd_ne (ne_of_none upd_same nc4)]; exact upd_same)
            ⟨⟨hz, .inl rfl, (hd _ (Dv.refl _)).1, (hd _ (Dv.refl _)).2, 0, 0, by rw [cl_nil]; grind⟩, by rw [cl_nil]; grind, hz, hz, by simp, by simp⟩
        · refine ifN h0 ?_
          obtain ⟨g0, l, e, l0, lr⟩ := cn_end I.E.c1 h0
          subst e
          have hk2 := hk.same s06
          obtain ⟨⟨dx, fs, ho, hfs⟩, _, _⟩ := id hk2
          refine ⟨_, rfl, q, dx, fs, rfl, ho, fs_none hfs (by decide) (by decide), _, rfl, 1, rfl, pa, _, -1, _, rfl, rfl, sqL_of ha6, at_last g0 l, q, 1, l, N, rfl, hk2, hp.unit l0 lr, fun c H7 s7 c0 c1 hc => ?_⟩
          have s07 := s06.trans s7
          obtain ⟨d0, ed, _⟩ := lead_one hN.1 I.E.c1 hc
          have l1 := I.E.l1
          refine ⟨_, rfl, _, rfl, _, rfl, q, pa, N, c, false, g0 ++ [l], rfl, hK.same s07, sqL_of (s7 _ _ ha6), by omega, fun y hy => .inr ⟨by omega, by omega⟩, fun H8 r0 s8 m0 k0 => ?_⟩
          obtain ⟨w0, w1, hw, hw0, hw1⟩ := tO6.same (s7.trans s8)
          have lo0 : o0.length ≤ 300 := by omega
          have lo1 : o1.length ≤ 300 := by omega
          refine ⟨_, rfl, _, rfl, pO, _, 0, _, rfl, rfl, sqL_of hw, atI_nat (j := 0) rfl, _, rfl, q, w0, N, c, false, o0, rfl, hK.same (s07.trans s8), sqL_of hw0, by omega, fun y hy => .inr ⟨by omega, by omega⟩, fun H9 r1 s9 m1 k1 => ?_⟩
          refine ⟨_, rfl, _, rfl, pO, _, 1, _, rfl, rfl, sqL_of (s9 _ _ hw), atI_nat (j := 1) rfl, _, rfl, q, w1, N, c, false, o1, rfl, hK.same ((s07.trans s8).trans s9), sqL_of (s9 _ _ hw1), by omega, fun y hy => .inr ⟨by omega, by omega⟩, fun H10 r2 s10 m2 k2 => ?_⟩
          refine ⟨by show 3 ≤ sizeLine; decide, fun pT nT => ?_⟩
          have s010 := ((s07.trans s8).trans s9).trans s10
          have z0 := s10 _ _ (s9 _ _ k0)
          have z1 := s10 _ _ k1
          refine hq _ pT r0 r1 r2 _ _ _ (same_nw s010 nT) ⟨s010.free nT, (s07.trans s8).free m1, ((s07.trans s8).trans s9).free m2⟩ upd_same (by rw [upd_ne (ne_of_none z0 nT)]; exact z0) (by rw [upd_ne (ne_of_none z1 nT)]; exact z1) (by rw [upd_ne (ne_of_none k2 nT)]; exact k2)
            ⟨⟨tr_Cn _, .inr ⟨d0, ed⟩, ?_, ?_, C c * FF.cl N o0, C c * FF.cl N o1, ?_⟩, ?_, tr_Cn _, tr_Cn _, ?_, ?_⟩
          · rw [cl_tr, cl_scl]; exact dv_scl hc (hd _ (Dv.refl _)).1
          · rw [cl_tr, cl_scl]; exact dv_scl hc (hd _ (Dv.refl _)).2
          · rw [cl_tr, cl_scl, I.e1]; grind
          · rw [cl_tr, cl_scl, cl_tr, cl_scl, cl_tr, cl_scl, I.e1]; grind
          · have := tr_len (N := N) (sclL c o0); rw [len_scl] at this; omega
          · have := tr_len (N := N) (sclL c o1); rw [len_scl] at this; omega
      · refine ifNe he ?_
        obtain ⟨g0, l, eo, l0, lr⟩ := cn_end I.E.c2 he
        obtain ⟨u, hu⟩ := hp.unit l0 lr
        have l1 := I.E.l1; have l2 := I.E.l2
        refine ⟨fun σ' H2 => ∃ (qu re : List Int) (pb2 pU2 : Addr) (x7 x8 x9 x10 x11 : Option V), DivR N one other qu re ∧ σ' = [some (.ref q), some (.ref a), some (.ref b), some (.ref pb), some (.ref pb2), some (.ref pU), some (.ref pU2), x7, x8, x9, x10, x11] ∧ Same H H2 ∧ H2 pb = some (.lst (other.map V.int)) ∧ H2 pb2 = some (.lst (re.map V.int)) ∧ Two H2 pU u0 u1 ∧ Two H2 pU2 (tr N (subL o0 (tr N (mulL qu u0)))) (tr N (subL o1 (tr N (mulL qu u1)))),
          fun σ' H2 ⟨qu, re, pb2, pU2, y7, y8, y9, y10, y11, D, e5, a1, a2, a3, a4, a5⟩ => ⟨re.length, by have := D.lt; rw [tr_id I.E.c2] at this; exact this, other, re, u0, u1, _, _, pb, pb2, pU, pU2, y7, y8, y9, y10, y11, rfl, e5, a1, a2, a3, a4, a5, sinv_step I D⟩, ?_⟩
        refine ⟨_, rfl, _, rfl, _, rfl, q, pa, pb, N, one, other, rfl, hK.same s05, sqL_of ha5, sqL_of hb5, by omega, by omega, ⟨g0, l, u, by rw [tr_id I.E.c2]; exact eo, hu⟩, fun H6 pT pq pr qu re s6 nT nq nr hT hpq hpr D => ?_⟩
        refine ⟨pT, _, rfl, sqT_of hT, rfl, _, _, rfl, _, _, rfl, rfl, ?_⟩
        refine ⟨_, rfl, _, rfl, ?_⟩
        have s06 := s05.trans s6
        have hql := D.ql
        rw [tr_id I.E.c1, tr_id I.E.c2] at hql
        obtain ⟨oa, ob, hO, hoa, hob⟩ := tO5.same s6
        obtain ⟨ua, ub, hU, hua, hub⟩ := tU5.same s6
        refine ⟨2, rfl, by omega, by omega, fun D9 hD9 => lcTR (n := 2) (fun i => if i = 0 then tr N (subL o0 (tr N (mulL qu u0))) else tr N (subL o1 (tr N (mulL qu u1)))) (by omega) hD9 (fun x => rfl) (fun i H7 hi s7 Qe q7 => ?_) (fun H7 s7 t7 => ?_)⟩
        · have hcm : ∀ x ∈ qu, ∀ y : Int, CMul x y := fun x hx y => .inl ⟨by have := D.qr x hx; omega, by have := D.qr x hx; omega⟩
          have hi2 : i = 0 ∨ i = 1 := by omega
          rcases hi2 with rfl | rfl
          · refine ⟨_, rfl, _, rfl, _, rfl, pO, _, _, _, rfl, rfl, sqL_of (s7 _ _ hO), atI_nat (j := 0) rfl, _, rfl, _, rfl, _, rfl, _, rfl, pU, _, _, _, rfl, rfl, sqL_of (s7 _ _ hU), atI_nat (j := 0) rfl, ?_⟩
            refine ⟨q, pq, ua, N, false, qu, u0, rfl, hK.same (s06.trans s7), sqL_of (s7 _ _ hpq), sqL_of (s7 _ _ hua), by omega, by have := I.b2; omega, fun x hx y _ => hcm x hx y, fun H8 p8 s8 n8 k8 => ?_⟩
            have hl8 : (tr N (mulL qu u0)).length ≤ 1000 := by
              have := tr_len (N := N) (mulL qu u0); have := mul_len qu u0; have := I.b2; omega
            refine ⟨q, oa, p8, N, false, o0, _, rfl, hK.same ((s06.trans s7).trans s8), sqL_of (s8 _ _ (s7 _ _ hoa)), sqL_of k8, by omega, hl8, trivial, fun H9 p9 s9 n9 k9 => q7 p9 H9 (s8.trans s9) k9 (s8.free n9)⟩
          · refine ⟨_, rfl, _, rfl, _, rfl, pO, _, _, _, rfl, rfl, sqL_of (s7 _ _ hO), atI_nat (j := 1) rfl, _, rfl, _, rfl, _, rfl, _, rfl, pU, _, _, _, rfl, rfl, sqL_of (s7 _ _ hU), atI_nat (j := 1) rfl, ?_⟩
            refine ⟨q, pq, ub, N, false, qu, u1, rfl, hK.same (s06.trans s7), sqL_of (s7 _ _ hpq), sqL_of (s7 _ _ hub), by omega, by have := I.b3; omega, fun x hx y _ => hcm x hx y, fun H8 p8 s8 n8 k8 => ?_⟩
            have hl8 : (tr N (mulL qu u1)).length ≤ 1000 := by
              have := tr_len (N := N) (mulL qu u1); have := mul_len qu u1; have := I.b3; omega
            refine ⟨q, ob, p8, N, false, o1, _, rfl, hK.same ((s06.trans s7).trans s8), sqL_of (s8 _ _ (s7 _ _ hob)), sqL_of k8, by omega, hl8, trivial, fun H9 p9 s9 n9 k9 => q7 p9 H9 (s8.trans s9) k9 (s8.free n9)⟩
        · replace t7 := t7.tab
          obtain ⟨xs, r0, g1, g2, g3, _⟩ := t7.row (i := 0) rfl
          obtain ⟨ys, r1, k1, k2, k3, k4⟩ := t7.row (i := 1) rfl
          have ez : xs = ys := by rw [g1] at k1; simpa using k1
          subst ez
          have exs : xs = [V.ref r0, V.ref r1] := by
            match xs, k4, g2, k2 with
            | [x, y], _, h1, h2 =>
              simp at h1 h2
              rw [h1, h2]
          refine ⟨_, rfl, _, rfl, ?_⟩
          refine ⟨qu, re, pr, D9, _, _, _, _, _, D, rfl, s06.trans s7, s7 _ _ (s6 _ _ hb5), s7 _ _ hpr, ⟨ua, ub, s7 _ _ hU, s7 _ _ hua, s7 _ _ hub⟩, r0, r1, by rw [g1, exs], g3, k3⟩
end
end FF
end
section
set_option Elab.async false
set_option linter.all false
set_option maxRecDepth 100000
set_option maxHeartbeats 4000000
/-! FW9: raised, powering. -/
namespace FF
open PySem PySem.Spec PyProof.Rows L2
theorem DivR.dv {N : Int} {f g qu re : List Int} (D : DivR N f g qu re) : Dv (FF.cl N g) (FF.cl N f - FF.cl N re) := ⟨FF.cl N qu, by rw [D.eq]; grind⟩
theorem dv_mulc {N : Int} {g a b c d : Pm N} (h1 : Dv g (a - b)) (h2 : Dv g (c - d)) : Dv g (a * c - b * d) := by
  obtain ⟨x, hx⟩ := h1
  obtain ⟨y, hy⟩ := h2
  exact ⟨x * c + b * y, by grind⟩
theorem dv_tr {N : Int} {g a b c : Pm N} (h1 : Dv g (a - b)) (h2 : Dv g (b - c)) : Dv g (a - c) := by
  obtain ⟨x, hx⟩ := h1
  obtain ⟨y, hy⟩ := h2
  exact ⟨x + y, by grind⟩
structure RInv (N : Int) (g f : List Int) (M m : Nat) (made by_ : List Int) : Prop where
  c1 : Cn N made
  c2 : Cn N by_
  l1 : made.length < g.length
  l2 : by_.length < g.length
  e : Dv (FF.cl N g) (FF.cl N f ^ M - FF.cl N made * FF.cl N by_ ^ m)
theorem sq_pow {N : Int} (a : Pm N) (m : Nat) : a ^ (2 * m) = (a * a) ^ m := by
  rw [pow_mul]; congr 1; grind
theorem dv_powc {N : Int} {g a b : Pm N} (h : Dv g (a - b)) (m : Nat) : Dv g (a ^ m - b ^ m) := by
  induction m with
  | zero => exact ⟨0, by grind⟩
  | succ m ih =>
    have e1 : a ^ (m + 1) = a ^ m * a := by grind
    have e2 : b ^ (m + 1) = b ^ m * b := by grind
    rw [e1, e2]
    exact dv_mulc ih h
def spRaised (K : PySem.W.Frag) (mg : Str → Option Value) : Sp := fun vs H Q _ => ∃ (q a b : Addr) (N : Int) (m : Nat) (f g : List Int), vs = [.ref q, .ref a, .int m, .ref b] ∧ Kd mg H q N false ∧ SqL K H a (f.map V.int) ∧ SqL K H b (g.map V.int) ∧ f.length ≤ 100 ∧ g.length ≤ 100 ∧ Cn N g ∧
  (∃ g0, g = g0 ++ [1] ∧ g0 ≠ []) ∧ ∀ r : List Int, Cn N r → r.length < g.length → Dv (FF.cl N g) (FF.cl N f ^ m - FF.cl N r) → NewL H r Q
section
variable {P : Program} {w : World} {K : PySem.W.Frag} {mg : Str → Option Value} {base : Heap}
theorem bit1 {m : Nat} : Builtin.bitAnd (m : Int) 1 = ((m % 2 : Nat) : Int) := by
  have := Bits.bitAnd_mask (x := (m : Int)) 1 (by omega)
  have e : ((2 : Int) ^ 1 - 1) = 1 := by decide
  rw [e] at this
  rw [this]; omega
theorem cn_cm {N : Int} (h : N < 2 ^ 63) (h1 : 1 < N) {f g : List Int} (hf : Cn N f) : ∀ x ∈ f, ∀ y ∈ g, CMul x y := fun x hx y _ => .inl (by have := cn_range h1 hf hx; omega)
theorem unit1 {N : Int} : ∃ c : Int, N ∣ 1 * c - 1 := ⟨1, ⟨0, by omega⟩⟩
theorem ok_raised (T : TX K mg) : FO P w K mg base 5 "raised" ["kind", "f", "many", "g"] (spRaised K mg) := by
  refine FO.mk T.d_raised sc_raised (fun _ _ _ _ _ _ us hl => match us, hl with | [_, _, _, _], _ => rfl) (fun vs H Q E h => ?_) (fun f cdv A outer s H vs Q E hr h => ?_)
  · obtain ⟨q, a, b, N, m, f, g, rfl, _⟩ := h; rfl
  · obtain ⟨q, a, b, N, M, f, g, rfl, hK, hf, hg, lf, lg, cg, ⟨g0, eg, hg0⟩, hq⟩ := h
    have hN := hK.bnd
    have hl0 : 0 < g0.length := List.length_pos_iff.mpr hg0
    have hgl : g.length = g0.length + 1 := by rw [eg]; simp
    have hu : ∃ g0 l c, tr N g = g0 ++ [l] ∧ N ∣ l * c - 1 := ⟨g0, 1, _, by rw [tr_id cg]; exact eg, unit1.choose_spec⟩
    obtain ⟨f_divided, fd_divided, g_divided, k_divided, b_divided, G_divided⟩ := ok_divided (P := P) (w := w) (base := base) T
    obtain ⟨f_times, fd_times, g_times, k_times, b_times, G_times⟩ := ok_times (P := P) (w := w) (base := base) T
    refine ⟨_, (pss_cons (ps_set (i := 4) sc_raised.nd rfl (Or.inl rfl) (pe_ix (r := rIxT K) ix_tup (pe_call G_divided (hr.mono (by decide)) (by rfl) g_divided k_divided b_divided .nil pass0 (pa_cons (pv 0) (pa_cons (pe_lst (pa_cons pe_int pa_nil)) (pa_cons (pv 3) pa_nil)))) pe_int (fun _ _ => rfl)))
      (pss_cons (ps_set (i := 5) sc_raised.nd rfl (Or.inl rfl) (pe_ix (r := rIxT K) ix_tup (pe_call G_divided (hr.mono (by decide)) (by rfl) g_divided k_divided b_divided .nil pass0 (pa_cons (pv 0) (pa_cons (pv 1) (pa_cons (pv 3) pa_nil)))) pe_int (fun _ _ => rfl)))
      (pss_cons (ps_while PassesOwn.never (pt_cmpR op_gt (pv 2) pe_int (nomark _))
        (pss_cons (ps_if (pt_cmpR op_eq (pe_op op_and (pv 2) pe_int) pe_int (nomark _)) (pss_one (ps_set (i := 4) sc_raised.nd rfl (Or.inl rfl) (pe_ix (r := rIxT K) ix_tup (pe_call G_divided (hr.mono (by decide)) (by rfl) g_divided k_divided b_divided .nil pass0 (pa_cons (pv 0) (pa_cons (pe_call G_times (hr.mono (by decide)) (by rfl) g_times k_times b_times .nil pass0 (pa_cons (pv 0) (pa_cons (pv 4) (pa_cons (pv 5) pa_nil)))) (pa_cons (pv 3) pa_nil)))) pe_int (fun _ _ => rfl)))) pss_nil)
        (pss_cons (ps_set (i := 5) sc_raised.nd rfl (Or.inl rfl) (pe_ix (r := rIxT K) ix_tup (pe_call G_divided (hr.mono (by decide)) (by rfl) g_divided k_divided b_divided .nil pass0 (pa_cons (pv 0) (pa_cons (pe_call G_times (hr.mono (by decide)) (by rfl) g_times k_times b_times .nil pass0 (pa_cons (pv 0) (pa_cons (pv 5) (pa_cons (pv 5) pa_nil)))) (pa_cons (pv 3) pa_nil)))) pe_int (fun _ _ => rfl)))
        (pss_one (ps_set (i := 2) sc_raised.nd rfl (Or.inl rfl) (pe_op op_shr (pv 2) pe_int))))))
      (pss_one (ps_ret (pv 4)))))), ?_⟩
    -- made = divided(kind, [1], g)[1]
    refine ⟨_, rfl, by show 1 ≤ sizeLine; decide, fun p1 n1 => ?_⟩
    have s1 : Same H (upd H p1 (.lst [V.int 1])) := same_nw (Same.refl _) n1
    have h1 : (upd H p1 (.lst [V.int 1])) p1 = some (.lst (([1] : List Int).map V.int)) := upd_same
    generalize upd H p1 (.lst [V.int 1]) = H1 at *
    refine ⟨_, rfl, q, p1, b, N, [1], g, rfl, hK.same s1, sqL_of h1, s1.seq hg, by simp, by omega, hu, fun H2 T2 pq2 pr2 qu2 re2 s2 nT2 nq2 nr2 hT2 _ hr2 D2 => ?_⟩
    refine ⟨T2, _, 1, _, rfl, rfl, sqT_of hT2, atI_nat (j := 1) rfl, ?_⟩
    have s12 := s1.trans s2
    refine ⟨_, rfl, _, rfl, _, rfl, q, a, b, N, f, g, rfl, hK.same s12, s12.seq hf, s12.seq hg, by omega, by omega, hu, fun H3 T3 pq3 pr3 qu3 re3 s3 nT3 nq3 nr3 hT3 _ hr3 D3 => ?_⟩
    refine ⟨T3, _, 1, _, rfl, rfl, sqT_of hT3, atI_nat (j := 1) rfl, ?_⟩
    have s13 := s12.trans s3
    have lt2 := D2.lt; have lt3 := D3.lt
    rw [tr_id cg] at lt2 lt3
    refine ⟨fun m σ H' => ∃ (made by_ : List Int) (pm pb : Addr), σ = [some (.ref q), some (.ref a), some (.int m), some (.ref b), some (.ref pm), some (.ref pb)] ∧ Same H H' ∧ H pm = none ∧ H' pm = some (.lst (made.map V.int)) ∧ H' pb = some (.lst (by_.map V.int)) ∧ RInv N g f M m made by_,
      ⟨M, re2, re3, pr2, pr3, rfl, s13, s1.free nr2, s3 _ _ hr2, hr3, ⟨D2.cn, D3.cn, lt2, lt3, ?_⟩⟩, fun m σ H' hW => ?_⟩
    · have e1 := dv_mulc D2.dv (dv_powc D3.dv M)
      have e2 : FF.cl N [1] = 1 := rfl
      rw [e2] at e1
      have e3 : (1 : Pm N) * FF.cl N f ^ M = FF.cl N f ^ M := by grind
      rwa [e3] at e1
    · obtain ⟨made, by_, pm, pb, rfl, sm, hm0, hm, hb, I⟩ := hW
      refine ⟨_, rfl, _, 0, rfl, rfl, _, rfl, ?_⟩
      have lm := I.l1; have lb := I.l2
      by_cases h0 : 0 < m
      · refine ifD (by omega) ?_
        refine ⟨fun σ' H2 => ∃ (made2 by2 : List Int) (pm2 pb2 : Addr), σ' = [some (.ref q), some (.ref a), some (.int ((m / 2 : Nat) : Int)), some (.ref b), some (.ref pm2), some (.ref pb2)] ∧ Same H H2 ∧ H pm2 = none ∧ H2 pm2 = some (.lst (made2.map V.int)) ∧ H2 pb2 = some (.lst (by2.map V.int)) ∧ RInv N g f M (m / 2) made2 by2,
          fun σ' H2 ⟨made2, by2, pm2, pb2, e5, a1, a2, a3, a4, a5⟩ => ⟨m / 2, by omega, made2, by2, pm2, pb2, e5, a1, a2, a3, a4, a5⟩, ?_⟩
        refine ⟨_, rfl, m, 1, rfl, rfl, rfl, _, rfl, ?_⟩
        -- behind the if
        have rest : ∀ (H5 : Hp) (made' : List Int) (pm' : Addr), Same H' H5 → H pm' = none → H5 pm' = some (.lst (made'.map V.int)) → Cn N made' → made'.length < g.length → Dv (FF.cl N g) (FF.cl N f ^ M - FF.cl N made' * FF.cl N by_ ^ (2 * (m / 2))) →
            tSeq (tAsg (tOp (rIxT K) (tCall (spDiv K mg) [] E0 (tCons (tVar 0) (tCons (tCall (sp2 K mg (fun N f h => tr N (mulL f h)) fun f h => ∀ x ∈ f, ∀ y ∈ h, CMul x y) [] E0 (tCons (tVar 0) (tCons (tVar 5) (tCons (tVar 5) tNil)))) (tCons (tVar 3) tNil)))) (tC (V.int 1))) (gName 5))
              (tAsg (tOp (rI (fun _ j => 0 ≤ j) fun i j => .int (i / 2 ^ j.toNat)) (tVar 2) (tC (V.int 1))) (gName 2))
              { nx := fun σ' H2 => ∃ (made2 by2 : List Int) (pm2 pb2 : Addr), σ' = [some (.ref q), some (.ref a), some (.int ((m / 2 : Nat) : Int)), some (.ref b), some (.ref pm2), some (.ref pb2)] ∧ Same H H2 ∧ H pm2 = none ∧ H2 pm2 = some (.lst (made2.map V.int)) ∧ H2 pb2 = some (.lst (by2.map V.int)) ∧ RInv N g f M (m / 2) made2 by2, rt := Q }
              [some (.ref q), some (.ref a), some (.int m), some (.ref b), some (.ref pm'), some (.ref pb)] H5 := fun H5 made' pm' s5 h50 h5 c5 l5 e5 => by
          have s05 := sm.trans s5
          refine ⟨_, rfl, _, rfl, _, rfl, _, rfl, q, pb, pb, N, false, by_, by_, rfl, hK.same s05, sqL_of (s5 _ _ hb), sqL_of (s5 _ _ hb), by omega, by omega, cn_cm hN.2 hN.1 I.c2, fun H6 p6 s6 n6 h6 => ?_⟩
          have l6 : (tr N (mulL by_ by_)).length ≤ 400 := by have := tr_len (N := N) (mulL by_ by_); have := mul_len by_ by_; omega
          refine ⟨_, rfl, q, p6, b, N, _, g, rfl, hK.same (s05.trans s6), sqL_of h6, (s05.trans s6).seq hg, l6, by omega, hu, fun H7 T7 pq7 pr7 qu7 re7 s7 nT7 nq7 nr7 hT7 _ hr7 D7 => ?_⟩
          refine ⟨T7, _, 1, _, rfl, rfl, sqT_of hT7, atI_nat (j := 1) rfl, ?_⟩
          refine ⟨_, rfl, m, 1, rfl, rfl, (show (0 : Int) ≤ 1 by decide), ?_⟩
          have lt7 := D7.lt
          rw [tr_id cg] at lt7
          refine ⟨made', re7, pm', pr7, ?_, s05.trans (s6.trans s7), h50, s7 _ _ (s6 _ _ h5), hr7, ⟨c5, D7.cn, l5, lt7, ?_⟩⟩
          · rfl
          · have e7 := D7.dv
            rw [cl_tr, cl_mul] at e7
            rw [sq_pow] at e5
            exact dv_tr e5 (dv_mulc ⟨0, by grind⟩ (dv_powc e7 (m / 2)))
        by_cases ho : m % 2 = 1
        · refine ifD (vint.mpr (by rw [bit1, ho]; rfl)) ?_
          refine ⟨_, rfl, _, rfl, _, rfl, _, rfl, q, pm, pb, N, false, made, by_, rfl, hK.same sm, sqL_of hm, sqL_of hb, by omega, by omega, cn_cm hN.2 hN.1 I.c1, fun H6 p6 s6 n6 h6 => ?_⟩
          have l6 : (tr N (mulL made by_)).length ≤ 400 := by have := tr_len (N := N) (mulL made by_); have := mul_len made by_; omega
          refine ⟨_, rfl, q, p6, b, N, _, g, rfl, hK.same (sm.trans s6), sqL_of h6, (sm.trans s6).seq hg, l6, by omega, hu, fun H7 T7 pq7 pr7 qu7 re7 s7 nT7 nq7 nr7 hT7 _ hr7 D7 => ?_⟩
          refine ⟨T7, _, 1, _, rfl, rfl, sqT_of hT7, atI_nat (j := 1) rfl, ?_⟩
          have lt7 := D7.lt
          rw [tr_id cg] at lt7
          refine rest H7 re7 pr7 (s6.trans s7) ((sm.trans s6).free nr7) hr7 D7.cn lt7 ?_
          have e7 := D7.dv
          rw [cl_tr, cl_mul] at e7
          have em : FF.cl N made * FF.cl N by_ ^ m = FF.cl N made * FF.cl N by_ * FF.cl N by_ ^ (2 * (m / 2)) := by
            have : m = 2 * (m / 2) + 1 := by omega
            have e9 : FF.cl N by_ ^ m = FF.cl N by_ ^ (2 * (m / 2)) * FF.cl N by_ := by
              have e10 : FF.cl N by_ ^ m = FF.cl N by_ ^ (2 * (m / 2) + 1) := congrArg (fun t : Nat => FF.cl N by_ ^ t) this
              rw [e10]; grind
            rw [e9]; grind
          have e8 := I.e
          rw [em] at e8
          exact dv_tr e8 (dv_mulc e7 ⟨0, by grind⟩)
        · refine ifN (fun z => ho (by have := vint.mp z; rw [bit1] at this; omega)) ?_
          refine rest H' made pm (Same.refl _) hm0 hm I.c1 I.l1 ?_
          have : 2 * (m / 2) = m := by omega
          rw [this]; exact I.e
      · refine ifN (by omega) ?_
        have : m = 0 := by omega
        subst this
        refine ⟨_, rfl, hq made I.c1 I.l1 ?_ H' pm sm hm0 hm⟩
        · have e8 := I.e
          have e9 : FF.cl N made * FF.cl N by_ ^ 0 = FF.cl N made := by grind
          rwa [e9] at e8
end
/-- the rows of the powering -/
def PowR (p : Nat) (g : List Int) (d : Nat) (k : Nat) (r : List Int) : Prop := r.length = d ∧ (∀ x ∈ r, 0 ≤ x ∧ x < (p : Int)) ∧ Dv (FF.cl p g) (FF.X ^ (p * k) - FF.cl p r)
def spPowering (K : PySem.W.Frag) (mg : Str → Option Value) : Sp := fun vs H Q _ => ∃ (q b : Addr) (p : Nat) (g g0 : List Int), vs = [.ref q, .ref b] ∧ Kd mg H q p false ∧ IsP p ∧ SqL K H b (g.map V.int) ∧ Cn p g ∧ g = g0 ++ [1] ∧ g0 ≠ [] ∧ g.length ≤ 50 ∧
  ∀ (rows : List (List Int)) (H' : Hp) (R : Addr), Same H H' → H R = none → TabN H' R rows → rows.length = g0.length → (∀ (i : Nat) r, rows[i]? = some r → PowR p g g0.length i r) → Q (.ref R) H'
section
variable {P : Program} {w : World} {K : PySem.W.Frag} {mg : Str → Option Value} {base : Heap}
theorem ok_powering (T : TX K mg) : FO P w K mg base 6 "powering" ["kind", "g"] (spPowering K mg) := by
  refine FO.mk T.d_powering sc_powering (fun _ _ _ _ _ _ us hl => match us, hl with | [_, _], _ => rfl) (fun vs H Q E h => ?_) (fun f cdv A outer s H vs Q E hr h => ?_)
  · obtain ⟨q, b, p, g, g0, rfl, _⟩ := h; rfl
  · obtain ⟨q, b, p, g, g0, rfl, hK, hp, hg, cg, eg, hg0, lg, hq⟩ := h
    have hN := hK.bnd
    have hl0 : 0 < g0.length := List.length_pos_iff.mpr hg0
    have hgl : g.length = g0.length + 1 := by rw [eg]; simp
    have hu : ∃ g0 l c, tr (p : Int) g = g0 ++ [l] ∧ (p : Int) ∣ l * c - 1 := ⟨g0, 1, _, by rw [tr_id cg]; exact eg, unit1.choose_spec⟩
    obtain ⟨Cc, hC, hk⟩ := id hK
    have M := km_of (P := P) (w := w) (base := base) T hC
    have cl := M.cl
    obtain ⟨f_divided, fd_divided, g_divided, k_divided, b_divided, G_divided⟩ := ok_divided (P := P) (w := w) (base := base) T
    obtain ⟨f_times, fd_times, g_times, k_times, b_times, G_times⟩ := ok_times (P := P) (w := w) (base := base) T
    obtain ⟨f_raised, fd_raised, g_raised, k_raised, b_raised, G_raised⟩ := ok_raised (P := P) (w := w) (base := base) T
    obtain ⟨f_trimmed, fd_trimmed, g_trimmed, k_trimmed, b_trimmed, G_trimmed⟩ := ok_trimmed (P := P) (w := w) (base := base) T
    refine ⟨_, (pss_cons (ps_set (i := 2) sc_powering.nd rfl (Or.inl rfl) (pe_op op_sub (pe_callB (r := rLenK K) call_len_seq (by rfl) T.b_len (by decide +kernel) (pa_cons (pe_call G_trimmed (hr.mono (by decide)) (by rfl) g_trimmed k_trimmed b_trimmed .nil pass0 (pa_cons (pv 0) (pa_cons (pv 1) pa_nil))) pa_nil)) pe_int))
      (pss_cons (ps_set (i := 3) sc_powering.nd rfl (Or.inl rfl) (pe_call G_raised (hr.mono (by decide)) (by rfl) g_raised k_raised b_raised .nil pass0 (pa_cons (pv 0) (pa_cons (pe_lst (pa_cons pe_int (pa_cons pe_int pa_nil))) (pa_cons (pe_fld (pv 0) rfl) (pa_cons (pv 1) pa_nil))))))
      (pss_cons (ps_set (i := 4) sc_powering.nd rfl (Or.inl rfl) (pe_lst (pa_cons pe_int pa_nil)))
      (pss_cons (ps_set (i := 5) sc_powering.nd rfl (Or.inl rfl) (pe_lst pa_nil))
      (pss_cons (ps_for PassesOwn.never rfl (pi_range1 (by rfl) T.b_range (pa_cons (pv 2) pa_nil)) (pg_name (i := 6) sc_powering.nd rfl (Or.inl rfl))
        (pss_cons (ps_expr (pe_bm PySem.F.plainAttrs_list PySem.F.slot_list_append PySem.F.type_list_append mt_append (pv 5) (pa_cons (pe_op op_cat (pv 4) (pe_op op_rep (pe_lst (pa_cons pe_int pa_nil)) (pe_op op_sub (pv 2) (pe_callB (r := rLenK K) call_len_seq (by rfl) T.b_len (by decide +kernel) (pa_cons (pv 4) pa_nil))))) pa_nil)))
        (pss_one (ps_set (i := 4) sc_powering.nd rfl (Or.inl rfl) (pe_ix (r := rIxT K) ix_tup (pe_call G_divided (hr.mono (by decide)) (by rfl) g_divided k_divided b_divided .nil pass0 (pa_cons (pv 0) (pa_cons (pe_call G_times (hr.mono (by decide)) (by rfl) g_times k_times b_times .nil pass0 (pa_cons (pv 0) (pa_cons (pv 4) (pa_cons (pv 3) pa_nil)))) (pa_cons (pv 1) pa_nil)))) pe_int (fun _ _ => rfl))))))
      (pss_one (ps_ret (pv 5)))))))), ?_⟩
    refine ⟨_, rfl, _, rfl, q, b, p, false, g, rfl, hK, hg, by omega, fun H1 p1 s1 n1 h1 => ?_⟩
    rw [tr_id cg] at h1
    refine ⟨p1, _, rfl, .inl (sqL_of h1), _, 1, rfl, rfl, ?_⟩
    -- step
    refine ⟨_, rfl, by show 2 ≤ sizeLine; decide, fun p2 n2 => ?_⟩
    have s2 : Same H (upd H1 p2 (.lst [V.int 0, V.int 1])) := same_nw s1 n2
    have h2 : (upd H1 p2 (.lst [V.int 0, V.int 1])) p2 = some (.lst (([0, 1] : List Int).map V.int)) := upd_same
    generalize upd H1 p2 (.lst [V.int 0, V.int 1]) = H2 at *
    obtain ⟨⟨dx, fs, ho, hfs⟩, _, _⟩ := hk.same s2
    refine ⟨_, rfl, q, Cc, dx, fs, _, rfl, ho, cl, M.nS, fs_size hfs, _, rfl, q, p2, b, p, p, [0, 1], g, rfl, hK.same s2, sqL_of h2, s2.seq hg, by simp, by omega, cg, ⟨g0, eg, hg0⟩, fun st cst lst est H3 p3 s3 n3 h3 => ?_⟩
    have s03 := s2.trans s3
    have est2 : Dv (FF.cl p g) (FF.X ^ p - FF.cl p st) := est
    -- made = [1], rows = []
    refine ⟨by show 1 ≤ sizeLine; decide, fun p4 n4 => ⟨by show 0 ≤ sizeLine; decide, fun p5 n5 => ?_⟩⟩
    have s4 : Same H3 (upd H3 p4 (.lst [V.int 1])) := same_nw (Same.refl _) n4
    have h4 : (upd H3 p4 (.lst [V.int 1])) p4 = some (.lst (([1] : List Int).map V.int)) := upd_same
    have h34 := s4 _ _ h3
    generalize upd H3 p4 (.lst [V.int 1]) = H4 at *
    have s5 : Same H4 (upd H4 p5 (.lst [])) := same_nw (Same.refl _) n5
    have n50 : H p5 = none := (s03.trans s4).free n5
    have ed : ((((g.map V.int).length : Nat) : Int) - 1) = ((g0.length : Nat) : Int) := by rw [List.length_map, hgl]; omega
    refine ⟨_, rfl, g0.length, ?_, by omega, by omega, for_range (lo := 0) (n := ((g0.length : Nat) : Int).toNat) (fun i σ H' => ∃ (made : List Int) (rows : List (List Int)) (pm : Addr) (x6 : Option V), σ = [some (.ref q), some (.ref b), some (.int (g0.length : Nat)), some (.ref p3), some (.ref pm), some (.ref p5), x6] ∧ Same H H' ∧ H' p3 = some (.lst (st.map V.int)) ∧ H' pm = some (.lst (made.map V.int)) ∧ pm ≠ p5 ∧
        TabN H' p5 rows ∧ rows.length = i ∧ (∀ (j : Nat) r, rows[j]? = some r → PowR p g g0.length j r) ∧ made.length ≤ g0.length ∧ (∀ x ∈ made, 0 ≤ x ∧ x < (p : Int)) ∧ Dv (FF.cl p g) (FF.X ^ (p * i) - FF.cl p made))
      ⟨[1], [], p4, none, ?_, (s03.trans s4).trans s5, s5 _ _ h34, s5 _ _ h4, ne_of_none h4 n5, TabA.new, rfl, fun j r h => by simp at h, by simp; omega, fun x hx => by simp at hx; omega, ?_⟩ (fun i σ H' hi hW => ?_) (fun σ H' hW => ?_)⟩
    · dsimp only; rw [ed]
    · dsimp only; rw [ed]; rfl
    · have e1 : FF.cl (p : Int) [1] = 1 := rfl
      rw [e1, Nat.mul_zero]; exact ⟨0, by grind⟩
    · obtain ⟨made, rows, pm, x6, rfl, sm, h3', hm, hmn, tR, lR, hR, lm, rm, em⟩ := hW
      have hi2 : i < g0.length := hi
      refine ⟨_, rfl, .inl ⟨rfl, _, sqL_of tR.tab.len.choose_spec.1⟩, ?_⟩
      refine ⟨_, rfl, by show 1 ≤ sizeLine; decide, fun p6 n6 => ?_⟩
      have s6 : Same H' (upd H' p6 (.lst [V.int 0])) := same_nw (Same.refl _) n6
      have h6 : (upd H' p6 (.lst [V.int 0])) p6 = some (.lst [V.int 0]) := upd_same
      have hm6 := s6 _ _ hm
      have tR6 := tR.same s6
      have h36 := s6 _ _ h3'
      generalize upd H' p6 (.lst [V.int 0]) = H6 at *
      refine ⟨_, rfl, _, rfl, pm, _, rfl, .inl (sqL_of hm6), _, _, rfl, rfl, p6, _, _, rfl, rfl, h6, by simp <;> omega, by simp <;> omega, small_le (by simp <;> omega), fun p7 n7 => ?_⟩
      have ec : (((g0.length : Nat) : Int) - (((made.map V.int).length : Nat) : Int)).toNat = g0.length - made.length := by simp
      rw [ec, flat0]
      have s7 : Same H6 (upd H6 p7 (.lst ((List.replicate (g0.length - made.length) (0 : Int)).map V.int))) := same_nw (Same.refl _) n7
      have h7 : (upd H6 p7 (.lst ((List.replicate (g0.length - made.length) (0 : Int)).map V.int))) p7 = some (.lst ((List.replicate (g0.length - made.length) (0 : Int)).map V.int)) := upd_same
      have hm7 := s7 _ _ hm6
      have tR7 := tR6.same s7
      have h37 := s7 _ _ h36
      generalize upd H6 p7 (.lst ((List.replicate (g0.length - made.length) (0 : Int)).map V.int)) = H7 at *
      refine ⟨pm, p7, _, _, rfl, rfl, hm7, h7, small_le (by simp; omega), fun p8 n8 => ?_⟩
      rw [← List.map_append]
      have s8 : Same H7 (upd H7 p8 (.lst ((made ++ List.replicate (g0.length - made.length) 0).map V.int))) := same_nw (Same.refl _) n8
      have h8 : (upd H7 p8 (.lst ((made ++ List.replicate (g0.length - made.length) 0).map V.int))) p8 = some (.lst ((made ++ List.replicate (g0.length - made.length) 0).map V.int)) := upd_same
      have hm8 := s8 _ _ hm7
      have tR8 := tR7.same s8
      have h38 := s8 _ _ h37
      have n85 : p8 ≠ p5 := by
        obtain ⟨xs, hx, _⟩ := tR7.tab.len
        exact (ne_of_none hx n8).symm
      generalize upd H7 p8 (.lst ((made ++ List.replicate (g0.length - made.length) 0).map V.int)) = H8 at *
      obtain ⟨xs, hx, lx, tR9⟩ := tR8.snoc rfl h8 n85
      refine ⟨p5, xs, .ref p8, rfl, rfl, hx, small_lt (by omega), ?_⟩
      have s08 : Same H H8 := (((sm.trans s6).trans s7).trans s8)
      have s9 : Same H (upd H8 p5 (.lst (xs ++ [.ref p8]))) := same_new s08 n50
      have n53 : p3 ≠ p5 := by
        intro z
        have z1 := (s03.trans s4).free n5
        rw [← z] at n5
        rw [h34] at n5; cases n5
      have h39 : (upd H8 p5 (.lst (xs ++ [.ref p8]))) p3 = some (.lst (st.map V.int)) := by rw [upd_ne n53]; exact h38
      have hm9 : (upd H8 p5 (.lst (xs ++ [.ref p8]))) pm = some (.lst (made.map V.int)) := by rw [upd_ne hmn]; exact hm8
      have hx9 : (upd H8 p5 (.lst (xs ++ [.ref p8]))) p5 = some (.lst (xs ++ [.ref p8])) := upd_same
      generalize upd H8 p5 (.lst (xs ++ [.ref p8])) = H9 at *
      refine ⟨_, rfl, _, rfl, _, rfl, _, rfl, q, pm, p3, p, false, made, st, rfl, hK.same s9, sqL_of hm9, sqL_of h39, by omega, by omega, fun x hx y _ => .inl (by have := rm x hx; omega), fun H10 p10 s10 n10 h10 => ?_⟩
      have l10 : (tr (p : Int) (mulL made st)).length ≤ 400 := by have := tr_len (N := p) (mulL made st); have := mul_len made st; omega
      refine ⟨_, rfl, q, p10, b, p, _, g, rfl, hK.same (s9.trans s10), sqL_of h10, (s9.trans s10).seq hg, l10, by omega, hu, fun H11 T11 pq11 pr11 qu11 re11 s11 nT11 nq11 nr11 hT11 _ hr11 D11 => ?_⟩
      refine ⟨T11, _, 1, _, rfl, rfl, sqT_of hT11, atI_nat (j := 1) rfl, ?_⟩
      have lt11 := D11.lt
      rw [tr_id cg] at lt11
      have s911 := s10.trans s11
      refine ⟨re11, rows ++ [made ++ List.replicate (g0.length - made.length) 0], pr11, _, rfl, s9.trans s911, s911 _ _ h39, hr11, ?_, tR9.same s911, by simp [lR], fun j r hj => ?_, by omega, fun x hx => cn_range hN.1 D11.cn hx, ?_⟩
      · have := s10 _ _ hx9
        exact (ne_of_none this nr11).symm
      · by_cases hj2 : j < rows.length
        · rw [List.getElem?_append_left hj2] at hj
          exact hR j r hj
        · have hj3 : j = rows.length := by
            have := (List.getElem?_eq_some_iff.mp hj).1
            simp at this; omega
          subst hj3
          rw [List.getElem?_append_right (Nat.le_refl _)] at hj
          simp at hj
          subst hj
          refine ⟨by simp; omega, fun x hx => ?_, ?_⟩
          · rcases List.mem_append.mp hx with h | h
            · exact rm x h
            · rw [List.eq_of_mem_replicate h]; omega
          · rw [lR, cl_append, cl_rep0]
            have : FF.cl (p : Int) made + FF.X ^ made.length * 0 = FF.cl p made := by grind
            rw [this]; exact em
      · have e11 := D11.dv
        rw [cl_tr, cl_mul] at e11
        have e12 := dv_mulc em est2
        have e13 : (FF.X : Pm p) ^ (p * i) * FF.X ^ p = FF.X ^ (p * (i + 1)) := by rw [← pow_add, Nat.mul_succ]
        rw [e13] at e12
        exact dv_tr e12 e11
    · obtain ⟨made, rows, pm, x6, rfl, sm, h3', hm, hmn, tR, lR, hR, lm, rm, em⟩ := hW
      exact ⟨_, rfl, hq rows H' p5 sm n50 tR lR hR⟩
end
end FF
end
section
set_option Elab.async false
set_option linter.all false
set_option maxRecDepth 100000
set_option maxHeartbeats 4000000
/-! FW10: rows and tables. -/
namespace FF
open PySem PySem.Spec PyProof.Rows L2
def en (M : List (List Int)) (i j : Nat) : Int := co (M.getD i []) j
theorem en_set {M : List (List Int)} {k : Nat} {r : List Int} (hk : k < M.length) (i j : Nat) : en (M.set k r) i j = if i = k then co r j else en M i j := by
  unfold en
  rw [List.getD_eq_getElem?_getD, List.getD_eq_getElem?_getD]
  by_cases h : i = k
  · subst h; rw [List.getElem?_set_self hk, if_pos rfl]; rfl
  · rw [List.getElem?_set_ne (Ne.symm h), if_neg h]
/-- a row and a multiple of another one -/
def rpl (N : Int) (r o : List Int) (x : Int) : List Int := (List.range r.length).map fun i => (co r i + co o i * x % N) % N
def rtm (N : Int) (r : List Int) (x : Int) : List Int := (List.range r.length).map fun i => co r i * x % N
theorem rpl_len (N : Int) (r o : List Int) (x : Int) : (rpl N r o x).length = r.length := by simp [rpl]
theorem rtm_len (N : Int) (r : List Int) (x : Int) : (rtm N r x).length = r.length := by simp [rtm]
theorem rpl_co {N : Int} (r o : List Int) (x : Int) {i : Nat} (h : i < r.length) : (C (co (rpl N r o x) i) : Pm N) = C (co r i) + C (co o i) * C x := by
  unfold rpl
  rw [co_rmap, if_pos h, C_mod, C_add, C_mod, C_mul]
theorem rtm_co {N : Int} (r : List Int) (x : Int) {i : Nat} (h : i < r.length) : (C (co (rtm N r x) i) : Pm N) = C (co r i) * C x := by
  unfold rtm
  rw [co_rmap, if_pos h, C_mod, C_mul]
theorem rpl_range {N : Int} (h : 1 < N) (r o : List Int) (x : Int) : ∀ y ∈ rpl N r o x, 0 ≤ y ∧ y < N := fun y hy => by
  obtain ⟨i, _, rfl⟩ := List.mem_map.mp hy
  exact ⟨Int.emod_nonneg _ (by omega), Int.emod_lt_of_pos _ (by omega)⟩
theorem rtm_range {N : Int} (h : 1 < N) (r : List Int) (x : Int) : ∀ y ∈ rtm N r x, 0 ≤ y ∧ y < N := fun y hy => by
  obtain ⟨i, _, rfl⟩ := List.mem_map.mp hy
  exact ⟨Int.emod_nonneg _ (by omega), Int.emod_lt_of_pos _ (by omega)⟩
def spRowPlus (K : PySem.W.Frag) (mg : Str → Option Value) : Sp := fun vs H Q _ => ∃ (q a b : Addr) (N x : Int) (wh : Bool) (r o : List Int), vs = [.ref q, .ref a, .ref b, .int x] ∧ Kd mg H q N wh ∧ SqL K H a (r.map V.int) ∧ SqL K H b (o.map V.int) ∧ r.length = o.length ∧ r.length ≤ 1000 ∧ -(2 ^ 64) < x ∧ x < 2 ^ 64 ∧ NewL H (rpl N r o x) Q
def spRowTimes (K : PySem.W.Frag) (mg : Str → Option Value) : Sp := fun vs H Q _ => ∃ (q a : Addr) (N x : Int) (wh : Bool) (r : List Int), vs = [.ref q, .ref a, .int x] ∧ Kd mg H q N wh ∧ SqL K H a (r.map V.int) ∧ r.length ≤ 1000 ∧ -(2 ^ 64) < x ∧ x < 2 ^ 64 ∧ NewL H (rtm N r x) Q
def idM (n : Nat) : List (List Int) := (List.range n).map fun i => (List.range n).map fun k => if i = k then 1 else 0
def spSquare : Sp := fun vs H Q _ => ∃ n : Nat, vs = [.int n] ∧ n ≤ 1000 ∧ ∀ H' a, Same H H' → H a = none → TabA H' a (idM n) (fun p => p = a ∨ H p ≠ none) → Q (.ref a) H'
section
variable {P : Program} {w : World} {K : PySem.W.Frag} {mg : Str → Option Value} {base : Heap}
theorem ok_row_plus (T : TX K mg) : FO P w K mg base 3 "row_plus" ["kind", "row", "other", "number"] (spRowPlus K mg) := by
  refine FO.mk T.d_row_plus sc_row_plus (fun _ _ _ _ _ _ us hl => match us, hl with | [_, _, _, _], _ => rfl) (fun vs H Q E h => ?_) (fun f cdv A outer s H vs Q E hr h => ?_)
  · obtain ⟨q, a, b, N, x, wh, r, o, rfl, _⟩ := h; rfl
  · obtain ⟨q, a, b, N, x, wh, r, o, rfl, ⟨Cc, hC, hk⟩, ha, hb, hl, l1, x0, x1, hq⟩ := h
    have M := km_of (P := P) (w := w) (base := base) T hC
    have cl := M.cl
    obtain ⟨f_p, fd_p, m_plus, b_plus, G_plus⟩ := M.plus
    obtain ⟨f_p2, fd_p2, m_times, b_times, G_times⟩ := M.times
    refine ⟨_, (pss_one (ps_ret (pe_lc (own := [("a", 4), ("b", 5)]) (g := gTup K 2 (gCons (gName 4) (gCons (gName 5) gNil))) rfl sc_row_plus.nd (pi_zip (by rfl) T.b_zip (pa_cons (pv 1) (pa_cons (pv 2) pa_nil))) (blkOk_by (N := n_row_plus) (sc := defScope s_row_plus) (by decide +kernel)) (fun _ _ _ _ _ => (by exact (pg_tup rfl (pgs_cons (pg_name (i := 4) sc_row_plus.nd rfl (Or.inl rfl)) (pgs_cons (pg_name (i := 5) sc_row_plus.nd rfl (Or.inl rfl)) pgs_nil))))) (fun _ _ _ _ _ => pts_nil) (fun _ _ _ _ _ => (pe_meth (pv 0) cl m_plus G_plus (hr.mono (by decide)) b_plus .nil pass0 (pa_cons (pv 4) (pa_cons (pe_meth (pv 0) cl m_times G_times (hr.mono (by decide)) b_times .nil pass0 (pa_cons (pv 5) (pa_cons (pv 3) pa_nil))) pa_nil))))))), ?_⟩
    refine ⟨_, rfl, _, rfl, a, b, _, _, rfl, ha, hb, fun D hD => lcG (walk_zip (n := r.length) (xs := r.map V.int) (ys := o.map V.int) (by simp [hl])) (fun i => .int ((co r i + co o i * x % N) % N)) (by omega) hD (fun H' e => ⟨e.seq ha, e.seq hb⟩) (fun i y H' H'' hi e hY Qe q => ?_) (fun i y H' H'' hY => ?_) (fun H1 s1 h1 => ?_)⟩
    · obtain ⟨t, y1, y2, rfl, nt, rfl, hy1, hy2⟩ := hY
      obtain ⟨rfl, _⟩ := map_get hy1
      obtain ⟨rfl, _⟩ := map_get hy2
      refine ⟨t, _, rfl, sqT_of upd_same, rfl, _, _, rfl, _, _, rfl, rfl, rfl, ?_⟩
      have hk2 := hk.same e
      obtain ⟨⟨dx, fs, ho, hfs⟩, _, _⟩ := id hk2
      exact ⟨_, rfl, _, dx, fs, rfl, ho, fs_none hfs (by decide) (by decide), _, rfl, _, rfl, _, dx, fs, rfl, ho, fs_none hfs (by decide) (by decide), _, rfl, _, rfl, _, co o i, x, N, rfl, hk2, .inr ⟨x0, x1⟩, _, co r i, co o i * x % N, N, rfl, hk2, trivial, q _ (Same.refl _)⟩
    · obtain ⟨t, y1, y2, rfl, nt, rfl, hy1, hy2⟩ := hY
      exact same_nw (Same.refl _) nt
    · refine hq H1 D s1 hD ?_
      rw [h1]
      unfold rpl
      rw [List.map_map]; rfl
theorem ok_row_times (T : TX K mg) : FO P w K mg base 3 "row_times" ["kind", "row", "number"] (spRowTimes K mg) := by
  refine FO.mk T.d_row_times sc_row_times (fun _ _ _ _ _ _ us hl => match us, hl with | [_, _, _], _ => rfl) (fun vs H Q E h => ?_) (fun f cdv A outer s H vs Q E hr h => ?_)
  · obtain ⟨q, a, N, x, wh, r, rfl, _⟩ := h; rfl
  · obtain ⟨q, a, N, x, wh, r, rfl, ⟨Cc, hC, hk⟩, ha, l1, x0, x1, hq⟩ := h
    have M := km_of (P := P) (w := w) (base := base) T hC
    have cl := M.cl
    obtain ⟨f_p2, fd_p2, m_times, b_times, G_times⟩ := M.times
    refine ⟨_, (pss_one (ps_ret (pe_lc (own := [("a", 3)])  rfl sc_row_times.nd (pi_list (pv 1)) (blkOk_by (N := n_row_times) (sc := defScope s_row_times) (by decide +kernel)) (fun _ _ _ _ _ => (pg_name (i := 3) sc_row_times.nd rfl (Or.inl rfl))) (fun _ _ _ _ _ => pts_nil) (fun _ _ _ _ _ => (pe_meth (pv 0) cl m_times G_times (hr.mono (by decide)) b_times .nil pass0 (pa_cons (pv 3) (pa_cons (pv 2) pa_nil))))))), ?_⟩
    refine ⟨_, rfl, a, rfl, ⟨_, ha⟩, fun D hD => lcL (fun i => .int (co r i * x % N)) (by simp; omega) ha hD (fun x => rfl) (fun i y H' hx e Qe q => ?_) (fun H1 s1 h1 => ?_)⟩
    · obtain ⟨rfl, hi⟩ := map_get hx
      have hk2 := hk.same e
      obtain ⟨⟨dx, fs, ho, hfs⟩, _, _⟩ := id hk2
      exact ⟨_, rfl, _, dx, fs, rfl, ho, fs_none hfs (by decide) (by decide), _, rfl, _, rfl, _, co r i, x, N, rfl, hk2, .inr ⟨x0, x1⟩, q _ (Same.refl _)⟩
    · refine hq H1 D s1 hD ?_
      rw [h1, List.length_map]
      unfold rtm
      rw [List.map_map]; rfl
theorem ok_square (T : TX K mg) : FO P w K mg base 1 "square" ["many"] spSquare := by
  refine FO.mk T.d_square sc_square (fun _ _ _ _ _ _ us hl => match us, hl with | [_], _ => rfl) (fun vs H Q E h => ?_) (fun f cdv A outer s H vs Q E hr h => ?_)
  · obtain ⟨n, rfl, _⟩ := h; rfl
  · obtain ⟨n, rfl, hn, hq⟩ := h
    refine ⟨_, (pss_one (ps_ret (pe_lc (own := [("i", 1)])  rfl sc_square.nd (pi_range1 (by rfl) T.b_range (pa_cons (pv 0) pa_nil)) (blkOk_by (N := n_square) (sc := defScope s_square) (by decide +kernel)) (fun _ _ _ _ _ => (pg_name (i := 1) sc_square.nd rfl (Or.inr rfl))) (fun _ _ _ _ _ => pts_nil) (fun _ _ _ _ _ => (pe_lc (own := [("k", 2)])  rfl sc_square.nd (pi_range1 (by rfl) T.b_range (pa_cons (pv 0) pa_nil)) (blkOk_in (N := n_square) (sc := defScope s_square) rfl (by decide +kernel)) (fun _ _ _ _ _ => (pg_name (i := 2) sc_square.nd rfl (Or.inl rfl))) (fun _ _ _ _ _ => pts_nil) (fun _ _ _ _ _ => (pe_callTy call_int1 (by rfl) T.b_int (by decide +kernel) (pa_cons (pe_cmpR op_eq (pv 1) (pv 2) (nomark _)) pa_nil)))))))), ?_⟩
    refine ⟨_, rfl, n, rfl, by omega, by omega, fun D hD => lcTR (n := ((n : Int)).toNat) (fun i => (List.range n).map fun k => if i = k then 1 else 0) (by omega) hD (fun x => rfl) (fun i H1 hi s1 Qe q => ?_) (fun H1 s1 t1 => ?_)⟩
    · refine ⟨_, rfl, n, rfl, by omega, by omega, fun D2 hD2 => lcR (n := ((n : Int)).toNat) (fun k => .int (if i = k then 1 else 0)) (by omega) hD2 (fun x => rfl) (fun k H2 hk s2 Qe2 q2 => ?_) (fun H2 s2 h2 => ?_)⟩
      · refine ⟨_, rfl, _, rfl, rfl, .inr ⟨_, rfl, ?_⟩⟩
        have := q2 H2 (Same.refl _)
        by_cases e : i = k
        · subst e
          rw [if_pos rfl] at this
          rw [decide_eq_true rfl]; exact this
        · rw [if_neg e] at this
          rw [decide_eq_false (fun z => e (by have := vint.mp z; omega))]; exact this
      · refine q D2 H2 s2 ?_ hD2
        rw [h2, List.map_map]; rfl
    · exact hq H1 D s1 hD t1
/-- the first row from the top on that has a number in a column -/
def spFirst : Sp := fun vs H Q _ => ∃ (a : Addr) (M : List (List Int)) (t c : Nat), vs = [.ref a, .int t, .int c] ∧ Tab H a M ∧ t ≤ M.length ∧ (∀ r ∈ M, c < r.length) ∧ ∀ k : Nat, t ≤ k → k ≤ M.length → (∀ i, t ≤ i → i < k → en M i c = 0) → (k < M.length → en M k c ≠ 0) → Q (.int k) H
theorem Tab.at {H : Hp} {a : Addr} {M : List (List Int)} (t : Tab H a M) {i : Nat} (h : i < M.length) : ∃ (xs : List V) (p : Addr), H a = some (.lst xs) ∧ atI xs (i : Int) = some (.ref p) ∧ H p = some (.lst ((M.getD i []).map V.int)) ∧ xs.length = M.length := by
  obtain ⟨ps, h1, l, k⟩ := t
  have hi : i < ps.length := by omega
  exact ⟨_, ps[i], h1, atI_nat (j := i) (by rw [List.getElem?_map, List.getElem?_eq_getElem hi]; rfl), k i _ _ (List.getElem?_eq_getElem hi) (getD_at h), by simpa using l⟩
theorem ok_first_row (T : TX K mg) : FO P w K mg base 1 "first_row" ["rows", "top", "column"] spFirst := by
  refine FO.mk T.d_first_row sc_first_row (fun _ _ _ _ _ _ us hl => match us, hl with | [_, _, _], _ => rfl) (fun vs H Q E h => ?_) (fun f cdv A outer s H vs Q E hr h => ?_)
  · obtain ⟨a, M, t, c, rfl, _⟩ := h; rfl
  · obtain ⟨a, M, t, c, rfl, tM, ht, hc, hq⟩ := h
    obtain ⟨xs, hx, lx⟩ := tM.len
    refine ⟨_, (pss_cons (ps_set (i := 3) sc_first_row.nd rfl (Or.inl rfl) (pv 1))
      (pss_cons (ps_while PassesOwn.never (PW.pt (pw_and (pt_cmpR op_lt (pv 3) (pe_callB (r := rLenK K) call_len_seq (by rfl) T.b_len (by decide +kernel) (pa_cons (pv 0) pa_nil)) (nomark _)) (pw_and1 (pt_cmpR op_eq (pe_ix (r := rIxL K) ix_list (pe_ix (r := rIxL K) ix_list (pv 0) (pv 3) (fun _ _ => rfl)) (pv 2) (fun _ _ => rfl)) pe_int (nomark _)))))
        (pss_one (ps_aug (i := 3) sc_first_row.nd rfl (Or.inl rfl) pe_int ip_add)))
      (pss_one (ps_ret (pv 3))))), ?_⟩
    refine ⟨_, rfl, fun m σ H' => ∃ k : Nat, m = M.length - k ∧ σ = [some (.ref a), some (.int t), some (.int c), some (.int k)] ∧ H' = H ∧ t ≤ k ∧ k ≤ M.length ∧ ∀ i, t ≤ i → i < k → en M i c = 0, ⟨_, t, rfl, rfl, rfl, Nat.le_refl _, ht, fun i _ _ => by omega⟩, fun m σ H' hW => ?_⟩
    obtain ⟨k, rfl, rfl, rfl, h1, h2, h3⟩ := hW
    refine ⟨_, rfl, _, rfl, a, _, rfl, .inl (sqL_of hx), _, _, rfl, rfl, _, rfl, ?_⟩
    by_cases hk : k < M.length
    · refine ifD (by omega) ?_
      obtain ⟨ys, p, g1, g2, g3, _⟩ := tM.at hk
      have hck : c < (M.getD k []).length := hc _ (by have := getD_at hk; exact List.mem_of_getElem? this)
      refine ⟨_, rfl, _, rfl, a, _, _, _, rfl, rfl, sqL_of g1, g2, _, rfl, p, _, _, _, rfl, rfl, sqL_of g3, at_co hck, rfl, _, rfl, ?_⟩
      by_cases hz : en M k c = 0
      · refine ifD (vint.mpr hz) ?_
        refine ⟨fun σ' H2 => σ' = [some (.ref a), some (.int t), some (.int c), some (.int ((k + 1 : Nat) : Int))] ∧ H2 = H', fun σ' H2 ⟨e1, e2⟩ => ⟨M.length - (k + 1), by omega, k + 1, rfl, e1, e2, by omega, by omega, fun i hi1 hi2 => ?_⟩, ?_⟩
        · by_cases e : i = k
          · rw [e]; exact hz
          · exact h3 i hi1 (by omega)
        · exact ⟨_, rfl, k, 1, rfl, rfl, rfl, rfl⟩
      · refine ifN (fun z => hz (vint.mp z)) ?_
        exact ⟨_, rfl, hq k h1 h2 h3 fun _ => hz⟩
    · refine ifN (by omega) ?_
      exact iteF ⟨_, rfl, hq k h1 h2 h3 fun z => absurd z hk⟩
/-- two rows put in one another's place -/
def swp (M : List (List Int)) (i j : Nat) : List (List Int) := (M.set i (M.getD j [])).set j (M.getD i [])
theorem swp_len (M : List (List Int)) (i j : Nat) : (swp M i j).length = M.length := by simp [swp]
theorem swp_en {M : List (List Int)} {a b : Nat} (ha : a < M.length) (hb : b < M.length) (i j : Nat) : en (swp M a b) i j = en M (sw2 a b i) j := by
  unfold swp sw2
  rw [en_set (by simpa using hb), en_set ha]
  by_cases h1 : i = a
  · subst h1
    by_cases h2 : i = b
    · subst h2; simp only [if_true]; rfl
    · simp only [h2, if_false, if_true]; rfl
  · by_cases h2 : i = b
    · subst h2; simp only [if_true, h1, if_false]; rfl
    · simp only [h1, h2, if_false]
theorem swp_mem {M : List (List Int)} {a b : Nat} (ha : a < M.length) (hb : b < M.length) {r : List Int} (h : r ∈ swp M a b) : r ∈ M := by
  unfold swp at h
  have m1 : M.getD a [] ∈ M := List.mem_of_getElem? (getD_at ha)
  have m2 : M.getD b [] ∈ M := List.mem_of_getElem? (getD_at hb)
  rcases List.mem_or_eq_of_mem_set h with h | h
  · rcases List.mem_or_eq_of_mem_set h with h | h
    · exact h
    · rw [h]; exact m2
  · rw [h]; exact m1
def spExch : Sp := fun vs H Q _ => ∃ (a : Addr) (M : List (List Int)) (i j : Nat) (av : Addr → Prop), vs = [.ref a, .int i, .int j] ∧ av a ∧ TabA H a M av ∧ i < M.length ∧ j < M.length ∧ ∀ H', (∀ b, b ≠ a → H' b = H b) → TabA H' a (swp M i j) av → Q .non H'
theorem ok_exchange (T : TX K mg) : FO P w K mg base 1 "exchange" ["rows", "one", "other"] spExch := by
  refine FO.mk T.d_exchange sc_exchange (fun _ _ _ _ _ _ us hl => match us, hl with | [_, _, _], _ => rfl) (fun vs H Q E h => ?_) (fun f cdv A outer s H vs Q E hr h => ?_)
  · obtain ⟨a, M, i, j, av, rfl, _⟩ := h; rfl
  · obtain ⟨a, M, i, j, av, rfl, ha, t, hi, hj, hq⟩ := h
    refine ⟨_, (pss_cons (ps_set (i := 3) sc_exchange.nd rfl (Or.inl rfl) (pe_ix (r := rIxL K) ix_list (pv 0) (pv 1) (fun _ _ => rfl)))
      (pss_cons (ps_asg (pe_ix (r := rIxL K) ix_list (pv 0) (pv 2) (fun _ _ => rfl)) (pg_sub (pv 0) (pv 1) set_list))
      (pss_one (ps_asg (pv 3) (pg_sub (pv 0) (pv 2) set_list))))), ?_⟩
    obtain ⟨xs, p, g1, g2, g3, lx, gp⟩ := t.row hi
    obtain ⟨ys, r, k1, k2, k3, _, kr⟩ := t.row hj
    obtain rfl : xs = ys := by rw [g1] at k1; simpa using k1
    have hpa : p ≠ a := fun z => gp (by rw [z]; exact ha)
    have hra : r ≠ a := fun z => kr (by rw [z]; exact ha)
    refine ⟨_, rfl, _, rfl, a, _, _, _, rfl, rfl, sqL_of g1, g2, ?_⟩
    refine ⟨_, rfl, _, rfl, a, _, _, _, rfl, rfl, sqL_of g1, k2, ?_⟩
    obtain ⟨zs, z1, z2, t2⟩ := t.set ha k3 kr hi
    obtain rfl : xs = zs := by rw [g1] at z1; simpa using z1
    refine ⟨_, rfl, _, rfl, a, _, _, i, rfl, rfl, g1, ix_nat (by omega), ?_⟩
    have g4 : (upd H a (.lst (xs.set i (.ref r)))) p = some (.lst ((M.getD i []).map V.int)) := by rw [upd_ne hpa]; exact g3
    obtain ⟨us, u1, u2, t3⟩ := t2.set (k := j) ha g4 gp (by simpa using hj)
    obtain rfl : xs.set i (.ref r) = us := by rw [upd_same] at u1; simpa using u1
    refine ⟨_, rfl, _, rfl, _, rfl, a, _, _, j, rfl, rfl, upd_same, ix_nat (by simp; omega), ?_⟩
    exact hq _ (fun b hb => by rw [upd_ne hb, upd_ne hb]) t3
end
end FF
end
section
set_option Elab.async false
set_option linter.all false
set_option maxRecDepth 100000
set_option maxHeartbeats 4000000
/-! FW11: cleared. -/
namespace FF
open PySem PySem.Spec PyProof.Rows L2
/-- n rows of m numbers -/
def Shp (M : List (List Int)) (n m : Nat) : Prop := M.length = n ∧ ∀ r ∈ M, r.length = m
/-- .. of the kind N -/
def ShpN (N : Int) (M : List (List Int)) (n m : Nat) : Prop := Shp M n m ∧ ∀ r ∈ M, ∀ x ∈ r, 0 ≤ x ∧ x < N
theorem Shp.at {M : List (List Int)} {n m i : Nat} (h : Shp M n m) (hi : i < n) : (M.getD i []).length = m := h.2 _ (List.mem_of_getElem? (getD_at (by rw [h.1]; exact hi)))
theorem ShpN.en {N : Int} {M : List (List Int)} {n m i j : Nat} (h : ShpN N M n m) (hi : i < n) (hj : j < m) : 0 ≤ en M i j ∧ en M i j < N := by
  have h1 := h.1.at hi
  exact h.2 _ (List.mem_of_getElem? (getD_at (by rw [h.1.1]; exact hi))) _ (co_mem (by rw [h1]; exact hj))
theorem Shp.set {M : List (List Int)} {n m k : Nat} {r : List Int} (h : Shp M n m) (hr : r.length = m) : Shp (M.set k r) n m := by
  refine ⟨by rw [List.length_set]; exact h.1, fun x hx => ?_⟩
  rcases List.mem_or_eq_of_mem_set hx with h1 | h1
  · exact h.2 x h1
  · rw [h1]; exact hr
theorem ShpN.set {N : Int} {M : List (List Int)} {n m k : Nat} {r : List Int} (h : ShpN N M n m) (hr : r.length = m) (hx : ∀ x ∈ r, 0 ≤ x ∧ x < N) : ShpN N (M.set k r) n m := by
  refine ⟨h.1.set hr, fun x h1 => ?_⟩
  rcases List.mem_or_eq_of_mem_set h1 with h1 | h1
  · exact h.2 x h1
  · rw [h1]; exact hx
theorem getD_set_ne {M : List (List Int)} {k i : Nat} {r : List Int} (h : i ≠ k) : (M.set k r).getD i [] = M.getD i [] := by
  rw [List.getD_eq_getElem?_getD, List.getD_eq_getElem?_getD, List.getElem?_set_ne (Ne.symm h)]
/-- the three tables -/
structure Three (H : Hp) (aF aT aA : Addr) (F T A : List (List Int)) : Prop where
  d1 : aF ≠ aT
  d2 : aF ≠ aA
  d3 : aT ≠ aA
  tF : TabA H aF F (fun p => p = aF ∨ p = aT ∨ p = aA)
  tT : TabA H aT T (fun p => p = aF ∨ p = aT ∨ p = aA)
  tA : TabA H aA A (fun p => p = aF ∨ p = aT ∨ p = aA)
theorem Three.same {H H' : Hp} {aF aT aA : Addr} {F T A : List (List Int)} (t : Three H aF aT aA F T A) (e : Same H H') : Three H' aF aT aA F T A := ⟨t.d1, t.d2, t.d3, t.tF.same e, t.tT.same e, t.tA.same e⟩
theorem Three.setF {H : Hp} {aF aT aA p : Addr} {F T A : List (List Int)} {r : List Int} {k : Nat} (t : Three H aF aT aA F T A) (hp : H p = some (.lst (r.map V.int))) (hn : ¬ (p = aF ∨ p = aT ∨ p = aA)) (hk : k < F.length) :
    ∃ xs : List V, H aF = some (.lst xs) ∧ xs.length = F.length ∧ Three (upd H aF (.lst (xs.set k (.ref p)))) aF aT aA (F.set k r) T A := by
  obtain ⟨xs, h1, h2, h3⟩ := t.tF.set (.inl rfl) hp hn hk
  exact ⟨xs, h1, h2, t.d1, t.d2, t.d3, h3, t.tT.other (.inl rfl) t.d1.symm, t.tA.other (.inl rfl) t.d2.symm⟩
theorem Three.setT {H : Hp} {aF aT aA p : Addr} {F T A : List (List Int)} {r : List Int} {k : Nat} (t : Three H aF aT aA F T A) (hp : H p = some (.lst (r.map V.int))) (hn : ¬ (p = aF ∨ p = aT ∨ p = aA)) (hk : k < T.length) :
    ∃ xs : List V, H aT = some (.lst xs) ∧ xs.length = T.length ∧ Three (upd H aT (.lst (xs.set k (.ref p)))) aF aT aA F (T.set k r) A := by
  obtain ⟨xs, h1, h2, h3⟩ := t.tT.set (.inr (.inl rfl)) hp hn hk
  exact ⟨xs, h1, h2, t.d1, t.d2, t.d3, t.tF.other (.inr (.inl rfl)) t.d1, h3, t.tA.other (.inr (.inl rfl)) t.d3.symm⟩
theorem Three.setA {H : Hp} {aF aT aA p : Addr} {F T A : List (List Int)} {r : List Int} {k : Nat} (t : Three H aF aT aA F T A) (hp : H p = some (.lst (r.map V.int))) (hn : ¬ (p = aF ∨ p = aT ∨ p = aA)) (hk : k < A.length) :
    ∃ xs : List V, H aA = some (.lst xs) ∧ xs.length = A.length ∧ Three (upd H aA (.lst (xs.set k (.ref p)))) aF aT aA F T (A.set k r) := by
  obtain ⟨xs, h1, h2, h3⟩ := t.tA.set (.inr (.inr rfl)) hp hn hk
  exact ⟨xs, h1, h2, t.d1, t.d2, t.d3, t.tF.other (.inr (.inr rfl)) t.d2, t.tT.other (.inr (.inr rfl)) t.d3, h3⟩
/-- a new object stands at none of the three -/
theorem Three.newp {H : Hp} {aF aT aA p : Addr} {F T A : List (List Int)} (t : Three H aF aT aA F T A) (hp : H p = none) : ¬ (p = aF ∨ p = aT ∨ p = aA) := by
  obtain ⟨x, hx, _⟩ := t.tF.len
  obtain ⟨y, hy, _⟩ := t.tT.len
  obtain ⟨z, hz, _⟩ := t.tA.len
  rintro (e | e | e)
  · rw [e, hx] at hp; cases hp
  · rw [e, hy] at hp; cases hp
  · rw [e, hz] at hp; cases hp
/-- the three and the kind: only the three are changed -/
abbrev X3 (aF aT aA : Addr) (H H' : Hp) : Prop := SameX (fun p => p = aF ∨ p = aT ∨ p = aA) H H'
theorem x3_upd {aF aT aA b : Addr} {o : HO} {H H' : Hp} (e : X3 aF aT aA H H') (hb : b = aF ∨ b = aT ∨ b = aA) : X3 aF aT aA H (upd H' b o) := fun c x hc h => by
  rw [upd_ne (fun z => hc (by rw [z]; exact hb))]
  exact e c x hc h
theorem Kd.x3 {mg : Str → Option Value} {aF aT aA : Addr} {H H' : Hp} {q : Addr} {N : Int} {wh : Bool} {F T A : List (List Int)} (k : Kd mg H q N wh) (t : Three H aF aT aA F T A) (e : X3 aF aT aA H H') : Kd mg H' q N wh := by
  obtain ⟨C, c, ⟨dx, fs, ho, hfs⟩, h1, h2⟩ := k
  obtain ⟨x, hx, _⟩ := t.tF.len
  obtain ⟨y, hy, _⟩ := t.tT.len
  obtain ⟨z, hz, _⟩ := t.tA.len
  refine ⟨C, c, ⟨dx, fs, e _ _ ?_ ho, hfs⟩, h1, h2⟩
  rintro (e | e | e)
  · rw [e, hx] at ho; cases ho
  · rw [e, hy] at ho; cases ho
  · rw [e, hz] at ho; cases ho
/-- what clearing leaves -/
structure ClR (N : Int) (F T A F' T' A' : List (List Int)) (n m top col k : Nat) : Prop where
  sF : ShpN N F' n m
  sT : ShpN N T' n n
  sA : Shp A' n n
  eF : ∀ i, i < n → ∀ j, j < m → (C (en F' i j) : Pm N) = if i < k ∧ i ≠ top then C (en F i j) - C (en F i col) * C (en F top j) else C (en F i j)
  rF : ∀ i, i < n → (k ≤ i ∨ i = top) → F'.getD i [] = F.getD i []
  rT : T'.getD top [] = T.getD top []
  eb : ∀ (p : Nat) (M : Nat → Nat → Int), N = p → EB p n m M (en F) (en T) → EB p n m M (en F') (en T')
def spCleared (mg : Str → Option Value) : Sp := fun vs H Q _ => ∃ (q aF aT aA : Addr) (N : Int) (top col n m : Nat) (F T A : List (List Int)), vs = [.ref q, .ref aF, .ref aT, .ref aA, .int top, .int col] ∧ Kd mg H q N false ∧ Three H aF aT aA F T A ∧ ShpN N F n m ∧ ShpN N T n n ∧ Shp A n n ∧ top < n ∧ col < m ∧ n ≤ 100 ∧ m ≤ 100 ∧
  ∀ H' F' T' A', X3 aF aT aA H H' → Three H' aF aT aA F' T' A' → ClR N F T A F' T' A' n m top col n → Q .non H'
section
variable {P : Program} {w : World} {K : PySem.W.Frag} {mg : Str → Option Value} {base : Heap}
theorem clr_step {N : Int} {F T A F' T' A' : List (List Int)} {n m top col k : Nat} (h1 : 1 < N) (hk : k < n) (ht : top < n) (hc : col < m) (hkt : k ≠ top) (R : ClR N F T A F' T' A' n m top col k) :
    ClR N F T A (F'.set k (rpl N (F'.getD k []) (F'.getD top []) (0 - en F' k col))) (T'.set k (rpl N (T'.getD k []) (T'.getD top []) (0 - en F' k col))) (A'.set top (rpl N (A'.getD top []) (A'.getD k []) (en F' k col))) n m top col (k + 1) := by
  have lk := R.sF.1.at hk
  have lt := R.sT.1.at hk
  have la := R.sA.at ht
  have hFl : k < F'.length := by rw [R.sF.1.1]; exact hk
  have hTl : k < T'.length := by rw [R.sT.1.1]; exact hk
  have ek : F'.getD k [] = F.getD k [] := R.rF k hk (.inl (Nat.le_refl _))
  have et : F'.getD top [] = F.getD top [] := R.rF top ht (.inr rfl)
  refine ⟨R.sF.set (by rw [rpl_len]; exact lk) (rpl_range h1 _ _ _), R.sT.set (by rw [rpl_len]; exact lt) (rpl_range h1 _ _ _), R.sA.set (by rw [rpl_len]; exact la), fun i hi j hj => ?_, fun i hi h => ?_, ?_, fun p M hN E => ?_⟩
  · rw [en_set hFl]
    by_cases e : i = k
    · subst e
      rw [if_pos rfl, if_pos ⟨by omega, hkt⟩, rpl_co _ _ _ (by rw [lk]; exact hj), C_sub, C_zero]
      show C (co (F'.getD i []) j) + C (co (F'.getD top []) j) * (0 - C (co (F'.getD i []) col)) = _
      rw [ek, et]
      show C (en F i j) + C (en F top j) * (0 - C (en F i col)) = _
      grind
    · rw [if_neg e, R.eF i hi j hj]
      by_cases h2 : i < k ∧ i ≠ top
      · rw [if_pos h2, if_pos ⟨by omega, h2.2⟩]
      · rw [if_neg h2, if_neg (fun z => h2 ⟨by omega, z.2⟩)]
  · have : i ≠ k := by rcases h with h | h <;> omega
    rw [getD_set_ne this]
    exact R.rF i hi (h.elim (fun h => .inl (by omega)) .inr)
  · rw [getD_set_ne (Ne.symm hkt)]; exact R.rT
  · subst hN
    refine (R.eb p M rfl E).addm (k := k) (t := top) (x := 0 - en F' k col) hk ht hkt (fun i hi j hj => ?_) (fun i hi j hj => ?_)
    · rw [en_set hFl]
      by_cases e : i = k
      · subst e
        rw [if_pos rfl, if_pos rfl, rpl_co _ _ _ (by rw [lk]; exact hj)]
        show C (en F' i j) + C (en F' top j) * C (0 - en F' i col) = _
        grind
      · rw [if_neg e, if_neg e]
    · rw [en_set hTl]
      by_cases e : i = k
      · subst e
        rw [if_pos rfl, if_pos rfl, rpl_co _ _ _ (by rw [lt]; exact hj)]
        show C (en T' i j) + C (en T' top j) * C (0 - en F' i col) = _
        grind
      · rw [if_neg e, if_neg e]
theorem clr_skip {N : Int} {F T A F' T' A' : List (List Int)} {n m top col k : Nat} (hk : k < n) (hc : col < m) (h : k = top ∨ en F' k col = 0) (R : ClR N F T A F' T' A' n m top col k) : ClR N F T A F' T' A' n m top col (k + 1) := by
  have ek : F'.getD k [] = F.getD k [] := R.rF k hk (.inl (Nat.le_refl _))
  refine ⟨R.sF, R.sT, R.sA, fun i hi j hj => ?_, fun i hi h => R.rF i hi (h.elim (fun h => .inl (by omega)) .inr), R.rT, R.eb⟩
  rw [R.eF i hi j hj]
  by_cases h2 : i < k ∧ i ≠ top
  · rw [if_pos h2, if_pos ⟨by omega, h2.2⟩]
  · by_cases h3 : i < k + 1 ∧ i ≠ top
    · have e : i = k := by omega
      subst e
      rcases h with h | h
      · exact absurd h h3.2
      · have : en F i col = 0 := by rw [← h]; unfold en; rw [ek]
        rw [if_neg h2, if_pos h3, this, C_zero]; grind
    · rw [if_neg h2, if_neg h3]
theorem ok_cleared (T : TX K mg) : FO P w K mg base 4 "cleared" ["kind", "form", "turn", "across", "top", "column"] (spCleared mg) := by
  refine FO.mk T.d_cleared sc_cleared (fun _ _ _ _ _ _ us hl => match us, hl with | [_, _, _, _, _, _], _ => rfl) (fun vs H Q E h => ?_) (fun f cdv A outer s H vs Q E hr h => ?_)
  · obtain ⟨q, aF, aT, aA, N, top, col, n, m, F, T', A, rfl, _⟩ := h; rfl
  · obtain ⟨q, aF, aT, aA, N, top, col, n, m, F, Tt, Aa, rfl, hK, t3, sF, sT, sA, ht, hc, ln, lm, hq⟩ := h
    have hN := hK.bnd
    obtain ⟨f_row_plus, fd_row_plus, g_row_plus, k_row_plus, b_row_plus, G_row_plus⟩ := ok_row_plus (P := P) (w := w) (base := base) T
    refine ⟨_, (pss_one (ps_for PassesOwn.never rfl (pi_range1 (by rfl) T.b_range (pa_cons (pe_callB (r := rLenK K) call_len_seq (by rfl) T.b_len (by decide +kernel) (pa_cons (pv 1) pa_nil)) pa_nil)) (pg_name (i := 6) sc_cleared.nd rfl (Or.inl rfl))
        (pss_cons (ps_set (i := 7) sc_cleared.nd rfl (Or.inl rfl) (pe_ix (r := rIxL K) ix_list (pe_ix (r := rIxL K) ix_list (pv 1) (pv 6) (fun _ _ => rfl)) (pv 5) (fun _ _ => rfl)))
        (pss_one (ps_if (PW.pt (pw_and (pt_cmpR op_ne (pv 6) (pv 4) (nomark _)) (pw_and1 (pt_cmpR op_ne (pv 7) pe_int (nomark _))))) (pss_cons (ps_asg (pe_call G_row_plus (hr.mono (by decide)) (by rfl) g_row_plus k_row_plus b_row_plus .nil pass0 (pa_cons (pv 0) (pa_cons (pe_ix (r := rIxL K) ix_list (pv 1) (pv 6) (fun _ _ => rfl)) (pa_cons (pe_ix (r := rIxL K) ix_list (pv 1) (pv 4) (fun _ _ => rfl)) (pa_cons (pe_op op_sub pe_int (pv 7)) pa_nil))))) (pg_sub (pv 1) (pv 6) set_list))
          (pss_cons (ps_asg (pe_call G_row_plus (hr.mono (by decide)) (by rfl) g_row_plus k_row_plus b_row_plus .nil pass0 (pa_cons (pv 0) (pa_cons (pe_ix (r := rIxL K) ix_list (pv 2) (pv 6) (fun _ _ => rfl)) (pa_cons (pe_ix (r := rIxL K) ix_list (pv 2) (pv 4) (fun _ _ => rfl)) (pa_cons (pe_op op_sub pe_int (pv 7)) pa_nil))))) (pg_sub (pv 2) (pv 6) set_list))
          (pss_one (ps_asg (pe_call G_row_plus (hr.mono (by decide)) (by rfl) g_row_plus k_row_plus b_row_plus .nil pass0 (pa_cons (pv 0) (pa_cons (pe_ix (r := rIxL K) ix_list (pv 3) (pv 4) (fun _ _ => rfl)) (pa_cons (pe_ix (r := rIxL K) ix_list (pv 3) (pv 6) (fun _ _ => rfl)) (pa_cons (pv 7) pa_nil))))) (pg_sub (pv 3) (pv 4) set_list))))) pss_nil))))), ?_⟩
    obtain ⟨xs, hx, lx⟩ := t3.tF.len
    refine ⟨_, rfl, aF, _, rfl, .inl (sqL_of hx), n, ?_, by omega, by omega, for_range (lo := 0) (n := ((n : Nat) : Int).toNat) (fun k σ H' => ∃ (F' T' A' : List (List Int)) (x6 x7 : Option V), σ = [some (.ref q), some (.ref aF), some (.ref aT), some (.ref aA), some (.int top), some (.int col), x6, x7] ∧ X3 aF aT aA H H' ∧ Three H' aF aT aA F' T' A' ∧ ClR N F Tt Aa F' T' A' n m top col k)
      ⟨F, Tt, Aa, none, none, rfl, fun b o _ e => e, t3, ⟨sF, sT, sA, fun i hi j hj => by rw [if_neg (by omega)], fun i _ _ => rfl, rfl, fun p M _ E => E⟩⟩ (fun k σ H' hk hW => ?_) (fun σ H' hW => ?_)⟩
    · rw [lx, sF.1.1]
    · obtain ⟨F', T', A', x6, x7, rfl, e1, t, R⟩ := hW
      have hk2 : k < n := hk
      have e0 : (0 : Int) + (k : Int) = (k : Nat) := Int.zero_add _
      rw [e0]
      have hFk : k < F'.length := by rw [R.sF.1.1]; exact hk2
      have hFt : top < F'.length := by rw [R.sF.1.1]; exact ht
      have hTk : k < T'.length := by rw [R.sT.1.1]; exact hk2
      have hTt : top < T'.length := by rw [R.sT.1.1]; exact ht
      have hAk : k < A'.length := by rw [R.sA.1]; exact hk2
      have hAt : top < A'.length := by rw [R.sA.1]; exact ht
      obtain ⟨xk, pk, g1, g2, g3, _, _⟩ := t.tF.row hFk
      have lk := R.sF.1.at hk2
      have lkt := R.sF.1.at ht
      refine ⟨_, rfl, _, rfl, aF, _, _, _, rfl, rfl, sqL_of g1, g2, _, rfl, pk, _, _, _, rfl, rfl, sqL_of g3, at_co (by rw [lk]; exact hc), ?_⟩
      have hrng := R.sF.en hk2 hc
      refine ⟨_, rfl, _, rfl, rfl, _, rfl, ?_⟩
      by_cases hkt : k = top
      · refine ifEq (by rw [hkt]) ?_
        refine iteF ?_
        exact ⟨F', T', A', _, _, rfl, e1, t, clr_skip hk2 hc (.inl hkt) R⟩
      · refine ifNe (fun z => hkt (by have := vint.mp z; omega)) ?_
        refine ⟨_, rfl, rfl, _, rfl, ?_⟩
        by_cases hz : en F' k col = 0
        · have hz2 : V.int (co (F'.getD k []) col) = V.int 0 := vint.mpr hz
          rw [decide_eq_true hz2]
          refine iteF ?_
          exact ⟨F', T', A', _, _, rfl, e1, t, clr_skip hk2 hc (.inr hz) R⟩
        · have hz2 : ¬ V.int (co (F'.getD k []) col) = V.int 0 := fun z => hz (vint.mp z)
          rw [decide_eq_false hz2]
          refine iteT ?_
          have hKk : Kd mg H' q N false := hK.x3 t3 e1
          -- form[k]
          obtain ⟨xt, pt, k1, k2, k3, _, _⟩ := t.tF.row hFt
          refine ⟨_, rfl, _, rfl, _, rfl, aF, _, _, _, rfl, rfl, sqL_of g1, g2, _, rfl, _, rfl, aF, _, _, _, rfl, rfl, sqL_of k1, k2, _, rfl, 0, _, rfl, rfl, ?_⟩
          have hb : -(2 ^ 64) < 0 - en F' k col ∧ 0 - en F' k col < 2 ^ 64 := by omega
          refine ⟨q, pk, pt, N, 0 - en F' k col, false, _, _, rfl, hKk, sqL_of g3, sqL_of k3, by rw [lk, lkt], by omega, hb.1, hb.2, fun H1 p1 s1 n1 h1 => ?_⟩
          have t1 := t.same s1
          obtain ⟨ys, y1, y2, t2⟩ := t1.setF (k := k) h1 (t.newp n1) hFk
          have e2 : X3 aF aT aA H (upd H1 aF (.lst (ys.set k (.ref p1)))) := x3_upd (e1.trans (SameX.of s1)) (.inl rfl)
          refine ⟨_, rfl, _, rfl, aF, _, _, k, rfl, rfl, y1, ix_nat (by omega), ?_⟩
          generalize upd H1 aF (.lst (ys.set k (.ref p1))) = H2 at *
          -- turn[k]
          obtain ⟨x3, p3, a1, a2, a3, _, _⟩ := t2.tT.row hTk
          obtain ⟨x4, p4, b1, b2, b3, _, _⟩ := t2.tT.row hTt
          refine ⟨_, rfl, _, rfl, _, rfl, aT, _, _, _, rfl, rfl, sqL_of a1, a2, _, rfl, _, rfl, aT, _, _, _, rfl, rfl, sqL_of b1, b2, _, rfl, 0, _, rfl, rfl, ?_⟩
          refine ⟨q, p3, p4, N, 0 - en F' k col, false, _, _, rfl, hK.x3 t3 e2, sqL_of a3, sqL_of b3, by rw [R.sT.1.at hk2, R.sT.1.at ht], by rw [R.sT.1.at hk2]; omega, hb.1, hb.2, fun H3 p5 s3 n3 h3 => ?_⟩
          have t3' := t2.same s3
          obtain ⟨zs, z1, z2, t4⟩ := t3'.setT (k := k) h3 (t2.newp n3) hTk
          have e3 : X3 aF aT aA H (upd H3 aT (.lst (zs.set k (.ref p5)))) := x3_upd (e2.trans (SameX.of s3)) (.inr (.inl rfl))
          refine ⟨_, rfl, _, rfl, aT, _, _, k, rfl, rfl, z1, ix_nat (by omega), ?_⟩
          generalize upd H3 aT (.lst (zs.set k (.ref p5))) = H4 at *
          -- across[top]
          obtain ⟨x5, p6, c1, c2, c3, _, _⟩ := t4.tA.row hAt
          obtain ⟨x8, p7, d1, d2, d3, _, _⟩ := t4.tA.row hAk
          refine ⟨_, rfl, _, rfl, _, rfl, aA, _, _, _, rfl, rfl, sqL_of c1, c2, _, rfl, _, rfl, aA, _, _, _, rfl, rfl, sqL_of d1, d2, _, rfl, ?_⟩
          refine ⟨q, p6, p7, N, en F' k col, false, _, _, rfl, hK.x3 t3 e3, sqL_of c3, sqL_of d3, by rw [R.sA.at hk2, R.sA.at ht], by rw [R.sA.at ht]; omega, by omega, by omega, fun H5 p8 s5 n5 h5 => ?_⟩
          have t5 := t4.same s5
          obtain ⟨us, u1, u2, t6⟩ := t5.setA (k := top) h5 (t4.newp n5) hAt
          refine ⟨_, rfl, _, rfl, aA, _, _, top, rfl, rfl, u1, ix_nat (by omega), ?_⟩
          exact ⟨_, _, _, _, _, rfl, x3_upd (e3.trans (SameX.of s5)) (.inr (.inr rfl)), t6, clr_step hN.1 hk2 ht hc hkt R⟩
    · obtain ⟨F', T', A', x6, x7, rfl, e1, t, R⟩ := hW
      exact hq H' F' T' A' e1 t R
end
end FF
end
section
set_option Elab.async false
set_option linter.all false
set_option maxRecDepth 100000
set_option maxHeartbeats 4000000
/-! FW12a: max(xs, default=d) of ints. -/
namespace FF
open PySem PySem.Spec PyProof.Rows L2
def rMaxD (K : PySem.W.Frag) : List V → List V → Hp → VK → Prop := fun vs zs H Q => ∃ (a : Addr) (ns : List Int) (d : Int), vs = [V.ref a] ∧ zs = [V.int d] ∧ SqL K H a (ns.map V.int) ∧ (ns = [] → Q (.int d) H) ∧ ∀ m, m ∈ ns → (∀ y, y ∈ ns → y ≤ m) → Q (.int m) H
theorem depth_ints : ∀ ns : List Int, PyData.depthAll (ns.map PyData.int) = 0
  | [] => rfl
  | n :: ns => by
    rw [List.map_cons, PyData.depthAll, depth_ints ns]; rfl
theorem maxfold (n : Int) : ∀ ns : List Int, n ≤ ns.foldl max n ∧ (∀ y ∈ ns, y ≤ ns.foldl max n) ∧ (ns.foldl max n = n ∨ ns.foldl max n ∈ ns) := fun ns => by
  induction ns generalizing n with
  | nil => exact ⟨Int.le_refl _, fun y h => (by cases h), .inl rfl⟩
  | cons a ns ih =>
    obtain ⟨h1, h2, h3⟩ := ih (max n a)
    rw [List.foldl_cons]
    refine ⟨by omega, fun y hy => ?_, ?_⟩
    · rcases List.mem_cons.mp hy with e | e
      · omega
      · exact h2 y e
    · rcases h3 with h | h
      · rw [h]
        rcases Int.le_total n a with q | q
        · right; rw [Int.max_eq_right q]; simp
        · left; rw [Int.max_eq_left q]
      · right; simp [h]
theorem alike_ints (ns : List Int) : PySem.W.AlikeAll (ns.map PyData.int) := by
  refine ⟨fun x hx y hy => ?_, fun x hx => ?_⟩
  · obtain ⟨i, _, rfl⟩ := List.mem_map.mp hx
    obtain ⟨j, _, rfl⟩ := List.mem_map.mp hy
    rfl
  · obtain ⟨i, _, rfl⟩ := List.mem_map.mp hx
    intro z; cases z
theorem cr_maxD {X : Cx} {k : Nat} (hc : X.calm = true) (hr : Room k X.A) : CallRK X (.builtin "max") [Str.ofString "default"] (rMaxD X.K) := by
  intro pins s σ H xs zs us ws Q I r1 r2 h
  obtain ⟨a, ns, d, rfl, rfl, hs, h0, hm⟩ := h
  obtain ⟨its, rv, hl, _⟩ := I.list hs
  rw [Vals.ref1 r1]
  obtain ⟨u, rfl, t, rfl⟩ := vals1 r2
  refine PySem.W.max_list_default (xs := ns.map PyData.int) (I.ok.hd hc) hl.isList (IntsAre.reads _ rv.ints) (alike_ints ns) ?_ (fun e h' tk hk => ?_) (fun y ys i v h' tk bs e hv hR hk => ?_)
  · rw [depth_ints]; have := hr.units; omega
  · exact ⟨.int d, H, I.kept hk, ⟨_, rfl⟩, h0 (by simpa using e)⟩
  · cases ns with
    | nil => cases e
    | cons n ns =>
      rw [List.map_cons] at e
      obtain ⟨rfl, rfl⟩ := List.cons.inj e
      rw [PySem.W.maxD_ints] at hR
      obtain ⟨g1, g2, g3⟩ := maxfold n ns
      generalize ns.foldl max n = mm at *
      cases hR with
      | int _ t2 =>
        refine ⟨.int mm, H, I.kept hk, ⟨_, rfl⟩, hm mm ?_ fun y hy => ?_⟩
        · rcases g3 with g3 | g3
          · rw [g3]; simp
          · simp [g3]
        · rcases List.mem_cons.mp hy with e | e
          · omega
          · exact g2 y e
end FF
end
section
set_option Elab.async false
set_option linter.all false
set_option maxRecDepth 100000
set_option maxHeartbeats 4000000
/-! FW12: the echelon form. -/
namespace FF
open PySem PySem.Spec PyProof.Rows L2
theorem C_inj {N x y : Int} (h : (C x : Pm N) = C y) (hx : 0 ≤ x ∧ x < N) (hy : 0 ≤ y ∧ y < N) : x = y := by
  have h1 := C_eq.mp h
  have h2 := Int.emod_eq_emod_iff_emod_sub_eq_zero.mpr (Int.emod_eq_zero_of_dvd h1)
  rwa [Int.emod_eq_of_lt hx.1 hx.2, Int.emod_eq_of_lt hy.1 hy.2] at h2
/-- behind the columns below c: t rows have their places -/
structure EI (p n m : Nat) (M : Nat → Nat → Int) (F T A : List (List Int)) (t c : Nat) (piv : Nat → Nat) : Prop where
  sF : ShpN p F n m
  sT : ShpN p T n n
  sA : Shp A n n
  eb : EB p n m M (en F) (en T)
  tn : t ≤ n
  pm : ∀ i, i < t → piv i < c
  p1 : ∀ i, i < t → en F i (piv i) = 1
  p0 : ∀ i, i < t → ∀ k, k < n → k ≠ i → en F k (piv i) = 0
  zr : ∀ i, t ≤ i → i < n → ∀ j, j < c → en F i j = 0
  fp : ∀ i, i < t → ∀ j, j < piv i → en F i j = 0
theorem EI.skip {p n m : Nat} {M : Nat → Nat → Int} {F T A : List (List Int)} {t c : Nat} {piv : Nat → Nat} (I : EI p n m M F T A t c piv) (h : ∀ i, t ≤ i → i < n → en F i c = 0) : EI p n m M F T A t (c + 1) piv :=
  { I with
    pm := fun i hi => Nat.lt_succ_of_lt (I.pm i hi)
    zr := fun i h1 h2 j hj => by
      by_cases e : j = c
      · rw [e]; exact h i h1 h2
      · exact I.zr i h1 h2 j (by omega) }
theorem shp_swp {M : List (List Int)} {n m a b : Nat} (h : Shp M n m) (ha : a < n) (hb : b < n) : Shp (swp M a b) n m :=
  ⟨by rw [swp_len]; exact h.1, fun r hr => h.2 r (swp_mem (by rw [h.1]; exact ha) (by rw [h.1]; exact hb) hr)⟩
theorem shpN_swp {N : Int} {M : List (List Int)} {n m a b : Nat} (h : ShpN N M n m) (ha : a < n) (hb : b < n) : ShpN N (swp M a b) n m :=
  ⟨shp_swp h.1 ha hb, fun r hr => h.2 r (swp_mem (by rw [h.1.1]; exact ha) (by rw [h.1.1]; exact hb) hr)⟩
theorem EI.step {p n m : Nat} {M : Nat → Nat → Int} {F T A F3 T3 A3 : List (List Int)} {t c at_ : Nat} {piv : Nat → Nat} {by_ : Int} (h1 : 1 < (p : Int)) (I : EI p n m M F T A t c piv) (hc : c < m) (ha : t ≤ at_) (han : at_ < n) (hne : en F at_ c ≠ 0)
    (hby : (p : Int) ∣ en (swp F t at_) t c * by_ - 1)
    (R : ClR p ((swp F t at_).set t (rtm p ((swp F t at_).getD t []) by_)) ((swp T t at_).set t (rtm p ((swp T t at_).getD t []) by_)) ((swp A t at_).set t (rtm p ((swp A t at_).getD t []) (en (swp F t at_) t c))) F3 T3 A3 n m t c n) :
    ∃ piv', EI p n m M F3 T3 A3 (t + 1) (c + 1) piv' := by
  have ht : t < n := by omega
  have lF := I.sF.1.1
  have lT := I.sT.1.1
  have hF1 := shpN_swp I.sF ht han
  have hT1 := shpN_swp I.sT ht han
  have l1 : t < (swp F t at_).length := by rw [swp_len, lF]; exact ht
  have l2 : t < (swp T t at_).length := by rw [swp_len, lT]; exact ht
  have e1 : ∀ i j, en (swp F t at_) i j = en F (sw2 t at_ i) j := fun i j => swp_en (by omega) (by omega) i j
  have hlow : ∀ i, i < t → sw2 t at_ i = i := fun i hi => by unfold sw2; rw [if_neg (by omega), if_neg (by omega)]
  have hhigh : ∀ i, t ≤ i → i < n → t ≤ sw2 t at_ i ∧ sw2 t at_ i < n := fun i h1 h2 => by
    unfold sw2
    by_cases h3 : i = t
    · rw [if_pos h3]; omega
    · by_cases h4 : i = at_
      · rw [if_neg h3, if_pos h4]; omega
      · rw [if_neg h3, if_neg h4]; omega
  -- the second table
  let F2 := (swp F t at_).set t (rtm p ((swp F t at_).getD t []) by_)
  have e2 : ∀ i, i < n → ∀ j, j < m → (C (en F2 i j) : Pm p) = if i = t then C (en (swp F t at_) t j) * C by_ else C (en (swp F t at_) i j) := fun i hi j hj => by
    show (C (en ((swp F t at_).set t _) i j) : Pm p) = _
    rw [en_set l1]
    by_cases e : i = t
    · rw [if_pos e, if_pos e, rtm_co _ _ (by rw [hF1.1.at ht]; exact hj)]; rfl
    · rw [if_neg e, if_neg e]
  have hz1 : ∀ j, j < c → en (swp F t at_) t j = 0 := fun j hj => by
    rw [e1]
    obtain ⟨q1, q2⟩ := hhigh t (Nat.le_refl _) ht
    exact I.zr _ q1 q2 j hj
  have hz2 : ∀ j, j < c → (C (en F2 t j) : Pm p) = 0 := fun j hj => by
    rw [e2 t ht j (by omega), if_pos rfl, hz1 j hj, C_zero]; grind
  have h1c : (C (en F2 t c) : Pm p) = 1 := by
    rw [e2 t ht c hc, if_pos rfl, ← C_mul, ← C_one, C_eq]; exact hby
  have lowj : ∀ i, i < n → i ≠ t → ∀ j, j < c → (C (en F3 i j) : Pm p) = C (en F (sw2 t at_ i) j) := fun i hi hn j hj => by
    rw [R.eF i hi j (by omega), if_pos ⟨hi, hn⟩, hz2 j hj, e2 i hi j (by omega), if_neg hn, e1]; grind
  have topj : ∀ j, j < m → (C (en F3 t j) : Pm p) = C (en F2 t j) := fun j hj => by
    rw [R.eF t ht j hj, if_neg (fun z => z.2 rfl)]
  have colc : ∀ i, i < n → i ≠ t → (C (en F3 i c) : Pm p) = 0 := fun i hi hn => by
    rw [R.eF i hi c hc, if_pos ⟨hi, hn⟩, h1c]; grind
  have z0 : (0 : Int) ≤ 0 ∧ (0 : Int) < (p : Int) := ⟨Int.le_refl _, by omega⟩
  have ex : ∀ i j, i < n → j < m → ∀ y : Int, 0 ≤ y ∧ y < (p : Int) → (C (en F3 i j) : Pm p) = C y → en F3 i j = y := fun i j hi hj y hy h => C_inj h (R.sF.en hi hj) hy
  refine ⟨fun i => if i = t then c else piv i, ⟨R.sF, R.sT, R.sA, ?_, by omega, fun i hi => ?_, fun i hi => ?_, fun i hi k hk hn => ?_, fun i q1 q2 j hj => ?_, fun i hi j hj => ?_⟩⟩
  · refine R.eb p M rfl ?_
    have E1 : EB p n m M (en (swp F t at_)) (en (swp T t at_)) := I.eb.swap ht han (fun i hi j hj => e1 i j) (fun i hi j hj => swp_en (by omega) (by omega) i j)
    refine E1.scale (t := t) (x := by_) (y := en (swp F t at_) t c) ht ?_ (fun i hi j hj => ?_) (fun i hi j hj => ?_)
    · rw [← C_mul, ← C_one, C_eq, Int.mul_comm]; exact hby
    · have := e2 i hi j hj
      rw [this]
      by_cases e : i = t
      · rw [if_pos e, if_pos e]; grind
      · rw [if_neg e, if_neg e]
    · rw [en_set l2]
      by_cases e : i = t
      · rw [if_pos e, if_pos e, rtm_co _ _ (by rw [hT1.1.at ht]; exact hj)]
        show C (en (swp T t at_) t j) * C by_ = _
        grind
      · rw [if_neg e, if_neg e]
  · by_cases e : i = t
    · simp only [e, if_true]; omega
    · simp only [e, if_false]; have := I.pm i (by omega); omega
  · by_cases e : i = t
    · subst e
      simp only [if_true]
      refine ex i c ht hc 1 ⟨by omega, h1⟩ ?_
      rw [topj c hc, h1c, C_one]
    · simp only [e, if_false]
      have hp := I.pm i (by omega)
      refine ex i _ (by omega) (by omega) 1 ⟨by omega, h1⟩ ?_
      rw [lowj i (by omega) e _ hp, hlow i (by omega), I.p1 i (by omega)]
  · by_cases e : i = t
    · subst e
      simp only [if_true]
      exact ex k c hk hc 0 z0 (by rw [colc k hk hn, C_zero])
    · simp only [e, if_false]
      have hp := I.pm i (by omega)
      refine ex k _ hk (by omega) 0 z0 ?_
      by_cases e2 : k = t
      · subst e2
        rw [topj _ (by omega), hz2 _ hp, C_zero]
      · rw [lowj k hk e2 _ hp]
        by_cases e3 : k < t
        · rw [hlow k e3, I.p0 i (by omega) k hk hn]
        · obtain ⟨q1, q2⟩ := hhigh k (by omega) hk
          rw [I.zr _ q1 q2 _ hp]
  · by_cases e : j = c
    · rw [e]
      exact ex i c q2 hc 0 z0 (by rw [colc i q2 (by omega), C_zero])
    · refine ex i j q2 (by omega) 0 z0 ?_
      rw [lowj i q2 (by omega) j (by omega)]
      obtain ⟨q3, q4⟩ := hhigh i (by omega) q2
      rw [I.zr _ q3 q4 j (by omega)]
  · by_cases e : i = t
    · subst e
      simp only [if_true] at hj
      exact ex i j ht (by omega) 0 z0 (by rw [topj j (by omega), hz2 j hj, C_zero])
    · simp only [e, if_false] at hj
      have hp := I.pm i (by omega)
      refine ex i j (by omega) (by omega) 0 z0 ?_
      rw [lowj i (by omega) e j (by omega), hlow i (by omega), I.fp i (by omega) j hj]
/-- what echelon hands back -/
structure EchR (p n m : Nat) (M : Nat → Nat → Int) (F T : List (List Int)) (r : Nat) (piv : Nat → Nat) : Prop where
  sF : ShpN p F n m
  sT : ShpN p T n n
  ech : ∃ B, Ech p n m M (en F) (en T) B r piv
  fp : ∀ i, i < r → ∀ j, j < piv i → en F i j = 0
theorem EI.done {p n m : Nat} {M : Nat → Nat → Int} {F T A : List (List Int)} {t c : Nat} {piv : Nat → Nat} (I : EI p n m M F T A t c piv) (h : n = 0 ∨ c = m) : EchR p n m M F T t piv := by
  obtain ⟨B, bc, bt, tb⟩ := I.eb.b
  let B' : Nat → Nat → Int := fun i j => Classical.choose (bc i j)
  have hB : ∀ i j, B i j = C (B' i j) := fun i j => Classical.choose_spec (bc i j)
  refine ⟨I.sF, I.sT, ⟨B', I.eb.ft, fun i hi j hj => ?_, fun i hi j hj => ?_, I.tn, fun i hi => ?_, I.p1, I.p0, fun i h1 h2 j hj => ?_⟩, I.fp⟩
  · rw [← bt i hi j hj]
    exact sm_congr fun k _ => by rw [hB]
  · rw [← tb i hi j hj]
    exact sm_congr fun k _ => by rw [hB]
  · have := I.pm i hi
    have := I.tn
    rcases h with h | h <;> omega
  · have := I.tn
    rcases h with h | h
    · omega
    · exact I.zr i h1 h2 j (by omega)
theorem rMaxD_of {K : PySem.W.Frag} {H : Hp} {a : Addr} {ns : List Int} {d : Int} {Q : VK} (h : SqL K H a (ns.map V.int)) (q : ∀ c, ((ns = [] ∧ c = d) ∨ (c ∈ ns ∧ ∀ y ∈ ns, y ≤ c)) → Q (.int c) H) : rMaxD K [.ref a] [.int d] H Q :=
  ⟨a, ns, d, rfl, rfl, h, fun e => q d (.inl ⟨e, rfl⟩), fun m h1 h2 => q m (.inr ⟨h1, h2⟩)⟩
theorem Three.chF {H H' : Hp} {aF aT aA : Addr} {F T A F2 : List (List Int)} (t : Three H aF aT aA F T A) (e : ∀ b, b ≠ aF → H' b = H b) (k : TabA H' aF F2 (fun p => p = aF ∨ p = aT ∨ p = aA)) : Three H' aF aT aA F2 T A :=
  ⟨t.d1, t.d2, t.d3, k, t.tT.frame (fun b o hb h => by rw [e b fun z => hb (.inl z)]; exact h) (fun o h => by rw [e _ t.d1.symm]; exact h), t.tA.frame (fun b o hb h => by rw [e b fun z => hb (.inl z)]; exact h) (fun o h => by rw [e _ t.d2.symm]; exact h)⟩
theorem Three.chT {H H' : Hp} {aF aT aA : Addr} {F T A T2 : List (List Int)} (t : Three H aF aT aA F T A) (e : ∀ b, b ≠ aT → H' b = H b) (k : TabA H' aT T2 (fun p => p = aF ∨ p = aT ∨ p = aA)) : Three H' aF aT aA F T2 A :=
  ⟨t.d1, t.d2, t.d3, t.tF.frame (fun b o hb h => by rw [e b fun z => hb (.inr (.inl z))]; exact h) (fun o h => by rw [e _ t.d1]; exact h), k, t.tA.frame (fun b o hb h => by rw [e b fun z => hb (.inr (.inl z))]; exact h) (fun o h => by rw [e _ t.d3.symm]; exact h)⟩
theorem Three.chA {H H' : Hp} {aF aT aA : Addr} {F T A A2 : List (List Int)} (t : Three H aF aT aA F T A) (e : ∀ b, b ≠ aA → H' b = H b) (k : TabA H' aA A2 (fun p => p = aF ∨ p = aT ∨ p = aA)) : Three H' aF aT aA F T A2 :=
  ⟨t.d1, t.d2, t.d3, t.tF.frame (fun b o hb h => by rw [e b fun z => hb (.inr (.inr z))]; exact h) (fun o h => by rw [e _ t.d2]; exact h), t.tT.frame (fun b o hb h => by rw [e b fun z => hb (.inr (.inr z))]; exact h) (fun o h => by rw [e _ t.d3]; exact h), k⟩
theorem x3_ch {aF aT aA b : Addr} {H H' H2 : Hp} (e : X3 aF aT aA H H') (hb : b = aF ∨ b = aT ∨ b = aA) (k : ∀ c, c ≠ b → H2 c = H' c) : X3 aF aT aA H H2 := fun c x hc h => by
  rw [k c (fun z => hc (by rw [z]; exact hb))]
  exact e c x hc h
theorem maxD_go {K : PySem.W.Frag} {H : Hp} {a : Addr} {ns : List Int} {d : Int} {Q : VK} {σ τ : L2.St} (h : SqL K H a (ns.map V.int)) (q : ∀ c, ((ns = [] ∧ c = d) ∨ (c ∈ ns ∧ ∀ y ∈ ns, y ≤ c)) → Q (.int c) H) :
    (fun x H1 => tNil σ H1 fun xs H2 => (fun vs H1 => tCons (tC (V.int d)) tNil τ H1 fun zs H2 => rMaxD K vs zs H2 Q) (x :: xs) H2) (V.ref a) H := rMaxD_of h q
def spEchelon (mg : Str → Option Value) : Sp := fun vs H Q _ => ∃ (q a : Addr) (p n m : Nat) (rows : List (List Int)), vs = [.ref q, .ref a] ∧ Kd mg H q p false ∧ IsP p ∧ Tab H a rows ∧ Shp rows n m ∧ n ≤ 50 ∧ m ≤ 50 ∧
  ∀ H' T aF aT aB F Tt r piv, Same H H' → H' T = some (.tup [.ref aF, .ref aT, .ref aB]) → Tab H' aF F → Tab H' aT Tt → EchR p n m (en rows) F Tt r piv → Q (.ref T) H'
theorem range_getD {α : Type} (f : Nat → α) (n i : Nat) (h : i < n) : ((List.range n).map f)[i]? = some (f i) := by
  rw [List.getElem?_map, List.getElem?_range h]; rfl
theorem getD_range (f : Nat → List Int) {n i : Nat} (h : i < n) : ((List.range n).map f).getD i [] = f i := by
  rw [List.getD_eq_getElem?_getD, range_getD f n i h]; rfl
theorem id_shp (N : Int) (h : 1 < N) (n : Nat) : ShpN N (idM n) n n := by
  refine ⟨⟨by simp [idM], fun r hr => ?_⟩, fun r hr x hx => ?_⟩
  · obtain ⟨i, _, rfl⟩ := List.mem_map.mp hr; simp
  · obtain ⟨i, _, rfl⟩ := List.mem_map.mp hr
    obtain ⟨k, _, rfl⟩ := List.mem_map.mp hx
    split <;> omega
theorem id_en {n i j : Nat} (hi : i < n) (hj : j < n) : en (idM n) i j = if i = j then 1 else 0 := by
  unfold en idM
  rw [getD_range _ hi, co_rmap, if_pos hj]
section
variable {P : Program} {w : World} {K : PySem.W.Frag} {mg : Str → Option Value} {base : Heap}
theorem ok_echelon (T : TX K mg) : FO P w K mg base 5 "echelon" ["kind", "rows"] (spEchelon mg) := by
  refine FO.mk T.d_echelon sc_echelon (fun _ _ _ _ _ _ us hl => match us, hl with | [_, _], _ => rfl) (fun vs H Q E h => ?_) (fun f cdv A outer s H vs Q E hr h => ?_)
  · obtain ⟨q, a, p, n, m, rows, rfl, _⟩ := h; rfl
  · obtain ⟨q, a, p, n, m, rows, rfl, hK, hp, tR, sR, ln, lm, hq⟩ := h
    have hN := hK.bnd
    obtain ⟨Cc, hC, hk⟩ := id hK
    have M := km_of (P := P) (w := w) (base := base) T hC
    have cl := M.cl
    obtain ⟨f_p, fd_p, m_plain, b_plain, G_plain⟩ := M.plain
    obtain ⟨f_o, fd_o, m_over, b_over, G_over⟩ := M.over rfl
    obtain ⟨f_cleared, fd_cleared, g_cleared, k_cleared, b_cleared, G_cleared⟩ := ok_cleared (P := P) (w := w) (base := base) T
    obtain ⟨f_row_times, fd_row_times, g_row_times, k_row_times, b_row_times, G_row_times⟩ := ok_row_times (P := P) (w := w) (base := base) T
    obtain ⟨f_exchange, fd_exchange, g_exchange, k_exchange, b_exchange, G_exchange⟩ := ok_exchange (P := P) (w := w) (base := base) T
    obtain ⟨f_first_row, fd_first_row, g_first_row, k_first_row, b_first_row, G_first_row⟩ := ok_first_row (P := P) (w := w) (base := base) T
    obtain ⟨f_square, fd_square, g_square, k_square, b_square, G_square⟩ := ok_square (P := P) (w := w) (base := base) T
    refine ⟨_, (pss_cons (ps_setLc (i := 3) (own := [("row", 11)])  rfl sc_echelon.nd rfl rfl (sw_true rfl rfl rfl (by decide +kernel)) (pi_list (pv 1)) (blkOk_by (N := n_echelon) (sc := defScope s_echelon) (by decide +kernel)) (fun _ _ _ _ _ => (pg_name (i := 11) sc_echelon.nd rfl (Or.inl rfl))) (fun _ _ _ _ _ => pts_nil) (fun _ _ _ _ _ => (pe_lc (own := [("number", 2)])  (wi := iList K (tVar 11)) rfl sc_echelon.nd (pi_list (pv 11)) (blkOk_in (N := n_echelon) (sc := defScope s_echelon) rfl (by decide +kernel)) (fun _ _ _ _ _ => (pg_name (i := 2) sc_echelon.nd rfl (Or.inl rfl))) (fun _ _ _ _ _ => pts_nil) (fun _ _ _ _ _ => (pe_meth (pv 0) cl m_plain G_plain (hr.mono (by decide)) b_plain .nil pass0 (pa_cons (pv 2) pa_nil))))))
      (pss_cons (ps_set (i := 4) sc_echelon.nd rfl (Or.inl rfl) (pe_call G_square (hr.mono (by decide)) (by rfl) g_square k_square b_square .nil pass0 (pa_cons (pe_callB (r := rLenK K) call_len_seq (by rfl) T.b_len (by decide +kernel) (pa_cons (pv 3) pa_nil)) pa_nil)))
      (pss_cons (ps_set (i := 5) sc_echelon.nd rfl (Or.inr rfl) (pe_call G_square (hr.mono (by decide)) (by rfl) g_square k_square b_square .nil pass0 (pa_cons (pe_callB (r := rLenK K) call_len_seq (by rfl) T.b_len (by decide +kernel) (pa_cons (pv 3) pa_nil)) pa_nil)))
      (pss_cons (ps_set (i := 6) sc_echelon.nd rfl (Or.inl rfl) pe_int)
      (pss_cons (ps_for PassesOwn.never rfl (pi_range1 (by rfl) T.b_range (pa_cons (pe_callBK (r := rMaxD K) (cr_maxD rfl hr) (by rfl) T.b_max (by decide +kernel) (pa_cons (pe_lc (own := [("row", 11)])  rfl sc_echelon.nd (pi_list (pv 3)) (blkOk_by (N := n_echelon) (sc := defScope s_echelon) (by decide +kernel)) (fun _ _ _ _ _ => (pg_name (i := 11) sc_echelon.nd rfl (Or.inl rfl))) (fun _ _ _ _ _ => pts_nil) (fun _ _ _ _ _ => (pe_callB (r := rLenK K) call_len_seq (by rfl) T.b_len (by decide +kernel) (pa_cons (pv 11) pa_nil)))) pa_nil) (pk_cons pe_int pk_nil)) pa_nil)) (pg_name (i := 7) sc_echelon.nd rfl (Or.inl rfl))
        (pss_cons (ps_set (i := 8) sc_echelon.nd rfl (Or.inl rfl) (pe_call G_first_row (hr.mono (by decide)) (by rfl) g_first_row k_first_row b_first_row .nil pass0 (pa_cons (pv 3) (pa_cons (pv 6) (pa_cons (pv 7) pa_nil)))))
        (pss_one (ps_if (pt_cmpR op_lt (pv 8) (pe_callB (r := rLenK K) call_len_seq (by rfl) T.b_len (by decide +kernel) (pa_cons (pv 3) pa_nil)) (nomark _)) (pss_cons (ps_expr (pe_call G_exchange (hr.mono (by decide)) (by rfl) g_exchange k_exchange b_exchange .nil pass0 (pa_cons (pv 3) (pa_cons (pv 6) (pa_cons (pv 8) pa_nil)))))
          (pss_cons (ps_expr (pe_call G_exchange (hr.mono (by decide)) (by rfl) g_exchange k_exchange b_exchange .nil pass0 (pa_cons (pv 4) (pa_cons (pv 6) (pa_cons (pv 8) pa_nil)))))
          (pss_cons (ps_expr (pe_call G_exchange (hr.mono (by decide)) (by rfl) g_exchange k_exchange b_exchange .nil pass0 (pa_cons (pv 5) (pa_cons (pv 6) (pa_cons (pv 8) pa_nil)))))
          (pss_cons (ps_set (i := 2) sc_echelon.nd rfl (Or.inl rfl) (pe_ix (r := rIxL K) ix_list (pe_ix (r := rIxL K) ix_list (pv 3) (pv 6) (fun _ _ => rfl)) (pv 7) (fun _ _ => rfl)))
          (pss_cons (ps_set (i := 9) sc_echelon.nd rfl (Or.inl rfl) (pe_meth (pv 0) cl m_over G_over (hr.mono (by decide)) b_over .nil pass0 (pa_cons pe_int (pa_cons (pv 2) pa_nil))))
          (pss_cons (ps_asg (pe_call G_row_times (hr.mono (by decide)) (by rfl) g_row_times k_row_times b_row_times .nil pass0 (pa_cons (pv 0) (pa_cons (pe_ix (r := rIxL K) ix_list (pv 3) (pv 6) (fun _ _ => rfl)) (pa_cons (pv 9) pa_nil)))) (pg_sub (pv 3) (pv 6) set_list))
          (pss_cons (ps_asg (pe_call G_row_times (hr.mono (by decide)) (by rfl) g_row_times k_row_times b_row_times .nil pass0 (pa_cons (pv 0) (pa_cons (pe_ix (r := rIxL K) ix_list (pv 4) (pv 6) (fun _ _ => rfl)) (pa_cons (pv 9) pa_nil)))) (pg_sub (pv 4) (pv 6) set_list))
          (pss_cons (ps_asg (pe_call G_row_times (hr.mono (by decide)) (by rfl) g_row_times k_row_times b_row_times .nil pass0 (pa_cons (pv 0) (pa_cons (pe_ix (r := rIxL K) ix_list (pv 5) (pv 6) (fun _ _ => rfl)) (pa_cons (pv 2) pa_nil)))) (pg_sub (pv 5) (pv 6) set_list))
          (pss_cons (ps_expr (pe_call G_cleared (hr.mono (by decide)) (by rfl) g_cleared k_cleared b_cleared .nil pass0 (pa_cons (pv 0) (pa_cons (pv 3) (pa_cons (pv 4) (pa_cons (pv 5) (pa_cons (pv 6) (pa_cons (pv 7) pa_nil))))))))
          (pss_one (ps_aug (i := 6) sc_echelon.nd rfl (Or.inl rfl) pe_int ip_add))))))))))) pss_nil))))
      (pss_cons (ps_setLc (i := 10) (own := [("k", 12)])  rfl sc_echelon.nd rfl rfl (sw_true rfl rfl rfl (by decide +kernel)) (pi_range1 (by rfl) T.b_range (pa_cons (pe_callB (r := rLenK K) call_len_seq (by rfl) T.b_len (by decide +kernel) (pa_cons (pv 5) pa_nil)) pa_nil)) (blkOk_by (N := n_echelon) (sc := defScope s_echelon) (by decide +kernel)) (fun _ _ _ _ _ => (pg_name (i := 12) sc_echelon.nd rfl (Or.inr rfl))) (fun _ _ _ _ _ => pts_nil) (fun _ _ _ _ _ => (pe_lc (own := [("row", 11)])  (wi := iList K (tVar 5)) rfl sc_echelon.nd (pi_list (pv 5)) (blkOk_in (N := n_echelon) (sc := defScope s_echelon) rfl (by decide +kernel)) (fun _ _ _ _ _ => (pg_name (i := 11) sc_echelon.nd rfl (Or.inl rfl))) (fun _ _ _ _ _ => pts_nil) (fun _ _ _ _ _ => (pe_ix (r := rIxL K) ix_list (pv 11) (pv 12) (fun _ _ => rfl))))))
      (pss_one (ps_ret (pe_tup (pa_cons (pv 3) (pa_cons (pv 4) (pa_cons (pv 10) pa_nil)))))))))))), ?_⟩
    -- form
    obtain ⟨ps, hps, lps, kps⟩ := tR
    have lR := sR.1
    refine ⟨_, rfl, a, rfl, ⟨_, sqL_of hps⟩, fun aF nF => lcTL (xs := ps.map V.ref) (fun i => (rows.getD i []).map (· % (p : Int))) (by simp; omega) (sqL_of hps) nF (fun x => rfl) (fun i x H1 hx s1 Qe qe => ?_) (fun H1 s1 tF => ?_)⟩
    · rw [List.getElem?_map] at hx
      cases e : ps[i]? with
      | none => rw [e] at hx; cases hx
      | some pr =>
        rw [e] at hx
        obtain rfl : V.ref pr = x := Option.some.inj hx
        have hi : i < rows.length := by rw [← lps]; exact (List.getElem?_eq_some_iff.mp e).1
        have hpr := kps i pr _ e (getD_at hi)
        have lr : (rows.getD i []).length = m := sR.at (by omega)
        refine ⟨_, rfl, pr, rfl, ⟨_, sqL_of (s1 _ _ hpr)⟩, fun D2 hD2 => lcL (xs := (rows.getD i []).map V.int) (fun j => .int (co (rows.getD i []) j % p)) (by rw [List.length_map, lr]; omega) (sqL_of (s1 _ _ hpr)) hD2 (fun x => rfl) (fun j x H2 hx2 s2 Qe2 q2 => ?_) (fun H2 s2 h2 => ?_)⟩
        · obtain ⟨rfl, hj⟩ := map_get hx2
          have hk2 := hk.same (s1.trans s2)
          obtain ⟨⟨dx, fs, ho, hfs⟩, _, _⟩ := id hk2
          exact ⟨_, rfl, _, dx, fs, rfl, ho, fs_none hfs (by decide) (by decide), _, rfl, _, co (rows.getD i []) j, p, rfl, hk2, q2 H2 (Same.refl _)⟩
        · refine qe D2 H2 s2 ?_ hD2
          rw [h2, List.length_map, range_map_get (rows.getD i []) fun x => V.int (x % p), List.map_map]; rfl
    · rw [List.length_map, lps, lR] at tF
      generalize hF0 : (List.range n).map (fun i => (rows.getD i []).map (· % (p : Int))) = F0 at *
      have sF0 : ShpN p F0 n m := by
        rw [← hF0]
        refine ⟨⟨by simp, fun r hr => ?_⟩, fun r hr x hx => ?_⟩
        · obtain ⟨i, hi, rfl⟩ := List.mem_map.mp hr
          rw [List.length_map]
          exact sR.at (List.mem_range.mp hi)
        · obtain ⟨i, hi, rfl⟩ := List.mem_map.mp hr
          obtain ⟨y, _, rfl⟩ := List.mem_map.mp hx
          exact ⟨Int.emod_nonneg _ (by omega), Int.emod_lt_of_pos _ (by omega)⟩
      have eF0 : ∀ i, i < n → ∀ j, j < m → (C (en F0 i j) : Pm p) = C (en rows i j) := fun i hi j hj => by
        rw [← hF0]
        unfold en
        rw [getD_range _ hi, co_mapmod, C_mod]
      obtain ⟨xF, hxF, lxF⟩ := tF.len
      have lF0 := sF0.1.1
      -- turn = square(len(form))
      refine ⟨_, rfl, aF, _, rfl, .inl (sqL_of hxF), n, by rw [lxF, lF0]; rfl, by omega, fun H2 aT s2 nT tT => ?_⟩
      have hxF2 := s2 _ _ hxF
      refine ⟨_, rfl, aF, _, rfl, .inl (sqL_of hxF2), n, by rw [lxF, lF0]; rfl, by omega, fun H3 aA s3 nA tA => ?_⟩
      have d1 : aF ≠ aT := ne_of_none hxF nT
      have d2 : aF ≠ aA := ne_of_none hxF2 nA
      obtain ⟨xT, hxT, _⟩ := tT.len
      have d3 : aT ≠ aA := ne_of_none hxT nA
      have t3 : Three H3 aF aT aA F0 (idM n) (idM n) := by
        refine ⟨d1, d2, d3, (TabA.more tF fun p' r h1 h2 => ?_).same (s2.trans s3), (TabA.more tT fun p' r h1 h2 => ?_).same s3, TabA.more tA fun p' r h1 h2 => ?_⟩
        · rintro (e | e | e)
          · exact h2 (.inl e)
          · rw [e, nT] at h1; cases h1
          · have := s2 _ _ h1
            rw [e, nA] at this; cases this
        · rintro (e | e | e)
          · exact h2 (.inr (by rw [e, hxF]; intro z; cases z))
          · exact h2 (.inl e)
          · rw [e, nA] at h1; cases h1
        · rintro (e | e | e)
          · exact h2 (.inr (by rw [e, hxF2]; intro z; cases z))
          · exact h2 (.inr (by rw [e, hxT]; intro z; cases z))
          · exact h2 (.inl e)
      have s03 : Same H H3 := s1.trans (s2.trans s3)
      have nF' : H aF = none := nF
      have nT' : H aT = none := s1.free nT
      have nA' : H aA = none := (s1.trans s2).free nA
      have x3same : ∀ H', X3 aF aT aA H3 H' → Same H H' := fun H' e b o hb => e b o (by rintro (z | z | z) <;> (rw [z] at hb; simp_all)) (s03 b o hb)
      have hKx : ∀ H', X3 aF aT aA H3 H' → Kd mg H' q p false := fun H' e => hK.same (x3same H' e)
      -- the columns
      obtain ⟨xs3, hx3, lx3⟩ := t3.tF.len
      obtain ⟨ps3, hps3, lps3, kps3⟩ := t3.tF
      refine ⟨_, rfl, aF, rfl, ⟨_, sqL_of hps3⟩, fun D hD => lcL (xs := ps3.map V.ref) (fun i => .int ((F0.getD i []).length : Nat)) (by simp; omega) (sqL_of hps3) hD (fun x => rfl) (fun i x H4 hx s4 Qe qe => ?_) (fun H4 s4 h4 => ?_)⟩
      · rw [List.getElem?_map] at hx
        cases e : ps3[i]? with
        | none => rw [e] at hx; cases hx
        | some pr =>
          rw [e] at hx
          obtain rfl : V.ref pr = x := Option.some.inj hx
          have hi : i < F0.length := by rw [← lps3]; exact (List.getElem?_eq_some_iff.mp e).1
          have hpr := (kps3 i pr _ e (getD_at hi)).1
          refine ⟨_, rfl, pr, _, rfl, .inl (sqL_of (s4 _ _ hpr)), ?_⟩
          have := qe H4 (Same.refl _)
          rw [List.length_map]; exact this
      · rw [List.length_map, lps3, lF0] at h4
        have hns : (List.range n).map (fun i => V.int ((F0.getD i []).length : Nat)) = (List.replicate n (m : Int)).map V.int := by
          apply List.ext_getElem
          · simp
          · intro i h1 h2
            have hi : i < n := by simpa using h1
            simp only [List.getElem_map, List.getElem_range, List.getElem_replicate]
            rw [sF0.1.at hi]
        rw [hns] at h4
        have t4 := t3.same s4
        have e34 : X3 aF aT aA H3 H4 := SameX.of s4
        refine maxD_go (sqL_of h4) fun c hc => ?_
        obtain ⟨cE, rfl, hcm, hcl⟩ : ∃ cE : Nat, c = cE ∧ (n = 0 ∨ cE = m) ∧ cE ≤ m := by
          rcases hc with ⟨h, rfl⟩ | ⟨h, _⟩
          · have h2 := congrArg List.length h
            simp at h2
            exact ⟨0, rfl, .inl h2, by omega⟩
          · have := (List.mem_replicate.mp h).2
            exact ⟨m, this, .inr rfl, Nat.le_refl _⟩
        refine ⟨cE, rfl, by omega, by omega, for_range (lo := 0) (n := ((cE : Nat) : Int).toNat) (fun k σ H' => ∃ (F' T' A' : List (List Int)) (t : Nat) (piv : Nat → Nat) (x2 x7 x8 x9 : Option V), σ = [some (.ref q), some (.ref a), x2, some (.ref aF), some (.ref aT), some (.ref aA), some (.int t), x7, x8, x9, none, none, none] ∧ X3 aF aT aA H3 H' ∧ Three H' aF aT aA F' T' A' ∧ EI p n m (en rows) F' T' A' t k piv)
          ⟨F0, idM n, idM n, 0, fun _ => 0, none, none, none, none, rfl, e34, t4, ⟨sF0, id_shp _ hN.1 n, (id_shp p hN.1 n).1, EB.start eF0 (fun i hi j hj => by rw [id_en hi hj]; unfold dl; split <;> rfl), Nat.zero_le _, fun i h => by omega, fun i h => by omega, fun i h => by omega, fun i _ _ j h => by omega, fun i h => by omega⟩⟩ (fun k σ H' hkc hW => ?_) (fun σ H' hW => ?_)⟩
        · obtain ⟨F', T', A', t, piv, x2, x7, x8, x9, rfl, e1, t5, I⟩ := hW
          have hk2 : k < m := by have : k < cE := hkc; omega
          have e0 : (0 : Int) + (k : Int) = (k : Nat) := Int.zero_add _
          rw [e0]
          have lF := I.sF.1.1
          have lT := I.sT.1.1
          have lA := I.sA.1
          have tn := I.tn
          refine ⟨_, rfl, _, rfl, _, rfl, aF, F', t, k, rfl, t5.tF.tab, by omega, fun r hr => by rw [I.sF.1.2 r hr]; exact hk2, fun at_ ha hb hz hnz => ?_⟩
          obtain ⟨xs, hx, lx⟩ := t5.tF.len
          refine ⟨_, rfl, _, rfl, aF, _, rfl, .inl (sqL_of hx), _, _, rfl, rfl, _, rfl, ?_⟩
          by_cases han : at_ < n
          · refine ifD (by omega) ?_
            have tn2 : t < n := by omega
            refine ⟨_, rfl, _, rfl, _, rfl, aF, F', t, at_, _, rfl, .inl rfl, t5.tF, by omega, by omega, fun H5 e5 k5 => ?_⟩
            have t6 := t5.chF e5 k5
            refine ⟨_, rfl, _, rfl, _, rfl, aT, T', t, at_, _, rfl, .inr (.inl rfl), t6.tT, by omega, by omega, fun H6 e6 k6 => ?_⟩
            have t7 := t6.chT e6 k6
            refine ⟨_, rfl, _, rfl, _, rfl, aA, A', t, at_, _, rfl, .inr (.inr rfl), t7.tA, by omega, by omega, fun H7 e7 k7 => ?_⟩
            have t8 := t7.chA e7 k7
            have x8 : X3 aF aT aA H3 H7 := x3_ch (x3_ch (x3_ch e1 (.inl rfl) e5) (.inr (.inl rfl)) e6) (.inr (.inr rfl)) e7
            have sF1 := shpN_swp I.sF tn2 han
            have sT1 := shpN_swp I.sT tn2 han
            have sA1 := shp_swp I.sA tn2 han
            have hFt : t < (swp F' t at_).length := by rw [swp_len]; omega
            have hTt : t < (swp T' t at_).length := by rw [swp_len]; omega
            have hAt : t < (swp A' t at_).length := by rw [swp_len]; omega
            -- number
            obtain ⟨xk, pk, g1, g2, g3, _, _⟩ := t8.tF.row hFt
            have lk := sF1.1.at tn2
            refine ⟨_, rfl, _, rfl, aF, _, _, _, rfl, rfl, sqL_of g1, g2, _, rfl, pk, _, _, _, rfl, rfl, sqL_of g3, at_co (by rw [lk]; exact hk2), ?_⟩
            have hrng := sF1.en tn2 hk2
            have hat : en (swp F' t at_) t k = en F' at_ k := by rw [swp_en (by omega) (by omega)]; unfold sw2; rw [if_pos rfl]
            have hne : en F' at_ k ≠ 0 := hnz (by omega)
            have hun : ∃ c, (p : Int) ∣ en (swp F' t at_) t k * c - 1 := PrN.unit ⟨p, hp, rfl⟩ (by rw [hat]; exact hne) (Int.emod_eq_of_lt hrng.1 hrng.2)
            have hk8 := hk.same (x3same H7 x8)
            obtain ⟨⟨dx, fs, ho, hfs⟩, _, _⟩ := id hk8
            refine ⟨_, rfl, q, dx, fs, rfl, ho, fs_none hfs (by decide) (by decide), _, rfl, q, 1, _, p, rfl, hk8, hun, fun by_ H8 s8 c0 c1 hby => ?_⟩
            have t9 := t8.same s8
            have x9 : X3 aF aT aA H3 H8 := x8.trans (SameX.of s8)
            -- form[top]
            obtain ⟨xa, pa, a1, a2, a3, _, _⟩ := t9.tF.row hFt
            refine ⟨_, rfl, _, rfl, _, rfl, aF, _, _, _, rfl, rfl, sqL_of a1, a2, _, rfl, q, pa, p, by_, false, _, rfl, hKx H8 x9, sqL_of a3, by rw [lk]; omega, by omega, by omega, fun H9 p1 s9 n1 h1 => ?_⟩
            have t10 := t9.same s9
            obtain ⟨ys, y1, y2, t11⟩ := t10.setF (k := t) h1 (t9.newp n1) hFt
            have x10 : X3 aF aT aA H3 (upd H9 aF (.lst (ys.set t (.ref p1)))) := x3_upd (x9.trans (SameX.of s9)) (.inl rfl)
            refine ⟨_, rfl, _, rfl, aF, _, _, t, rfl, rfl, y1, ix_nat (by omega), ?_⟩
            generalize upd H9 aF (.lst (ys.set t (.ref p1))) = HA at *
            -- turn[top]
            obtain ⟨xb, pb, b1, b2, b3, _, _⟩ := t11.tT.row hTt
            refine ⟨_, rfl, _, rfl, _, rfl, aT, _, _, _, rfl, rfl, sqL_of b1, b2, _, rfl, q, pb, p, by_, false, _, rfl, hKx HA x10, sqL_of b3, by rw [sT1.1.at tn2]; omega, by omega, by omega, fun HB p2 s10 n2 h2 => ?_⟩
            have t12 := t11.same s10
            obtain ⟨zs, z1, z2, t13⟩ := t12.setT (k := t) h2 (t11.newp n2) hTt
            have x11 : X3 aF aT aA H3 (upd HB aT (.lst (zs.set t (.ref p2)))) := x3_upd (x10.trans (SameX.of s10)) (.inr (.inl rfl))
            refine ⟨_, rfl, _, rfl, aT, _, _, t, rfl, rfl, z1, ix_nat (by omega), ?_⟩
            generalize upd HB aT (.lst (zs.set t (.ref p2))) = HC at *
            -- across[top]
            obtain ⟨xc, pc, d1', d2', d3', _, _⟩ := t13.tA.row hAt
            refine ⟨_, rfl, _, rfl, _, rfl, aA, _, _, _, rfl, rfl, sqL_of d1', d2', _, rfl, q, pc, p, _, false, _, rfl, hKx HC x11, sqL_of d3', by rw [sA1.at tn2]; omega, by have : 0 ≤ co ((swp F' t at_).getD t []) k := hrng.1; omega, by have : co ((swp F' t at_).getD t []) k < p := hrng.2; omega, fun HD p3 s11 n3 h3 => ?_⟩
            have t14 := t13.same s11
            obtain ⟨us, u1, u2, t15⟩ := t14.setA (k := t) h3 (t13.newp n3) hAt
            have x12 : X3 aF aT aA H3 (upd HD aA (.lst (us.set t (.ref p3)))) := x3_upd (x11.trans (SameX.of s11)) (.inr (.inr rfl))
            refine ⟨_, rfl, _, rfl, aA, _, _, t, rfl, rfl, u1, ix_nat (by omega), ?_⟩
            generalize upd HD aA (.lst (us.set t (.ref p3))) = HE at *
            -- cleared
            refine ⟨_, rfl, _, rfl, _, rfl, _, rfl, _, rfl, _, rfl, q, aF, aT, aA, p, t, k, n, m, _, _, _, rfl, hKx HE x12, t15, sF1.set (by rw [rtm_len, lk]) (rtm_range hN.1 _ _), sT1.set (by rw [rtm_len, sT1.1.at tn2]) (rtm_range hN.1 _ _), sA1.set (by rw [rtm_len, sA1.at tn2]), tn2, hk2, by omega, by omega, fun HF F3 T3 A3 x13 t16 R => ?_⟩
            obtain ⟨piv', I'⟩ := I.step hN.1 hk2 ha han hne hby R
            exact ⟨_, rfl, t, 1, rfl, rfl, F3, T3, A3, t + 1, piv', _, _, _, _, rfl, x12.trans x13, t16, I'⟩
          · refine ifN (by omega) ?_
            exact ⟨F', T', A', t, piv, x2, _, _, x9, rfl, e1, t5, I.skip fun i h1 h2 => hz i h1 (by omega)⟩
        · obtain ⟨F', T', A', t, piv, x2, x7, x8, x9, rfl, e1, t5, I⟩ := hW
          obtain ⟨xs, hx, lx⟩ := t5.tA.len
          obtain ⟨pa, hpa, lpa, kpa⟩ := t5.tA
          have lA := I.sA.1
          refine ⟨_, rfl, aA, _, rfl, .inl (sqL_of hx), n, by rw [lx, lA], by omega, by omega, fun aB nB => lcTR (n := ((n : Int)).toNat) (fun k => (List.range n).map fun i => en A' i k) (by omega) nB (fun x => rfl) (fun i H5 hi s5 Qe qe => ?_) (fun H5 s5 tB => ?_)⟩
          · have hi2 : i < n := hi
            refine ⟨_, rfl, aA, rfl, ⟨_, sqL_of (s5 _ _ hpa)⟩, fun D2 hD2 => lcL (xs := pa.map V.ref) (fun j => .int (en A' j i)) (by simp; omega) (sqL_of (s5 _ _ hpa)) hD2 (fun x => rfl) (fun j x H6 hx s6 Qe6 q6 => ?_) (fun H6 s6 h6 => ?_)⟩
            · rw [List.getElem?_map] at hx
              cases e : pa[j]? with
              | none => rw [e] at hx; cases hx
              | some pr =>
                rw [e] at hx
                obtain rfl : V.ref pr = x := Option.some.inj hx
                have hj : j < A'.length := by rw [← lpa]; exact (List.getElem?_eq_some_iff.mp e).1
                have hpr := (kpa j pr _ e (getD_at hj)).1
                have e0 : (0 : Int) + (i : Int) = (i : Nat) := Int.zero_add _
                refine ⟨_, rfl, _, rfl, pr, _, i, _, rfl, by rw [e0], sqL_of (s6 _ _ (s5 _ _ hpr)), at_co (by rw [I.sA.at (by omega)]; exact hi2), ?_⟩
                exact q6 H6 (Same.refl _)
            · refine qe D2 H6 s6 ?_ hD2
              rw [h6, List.length_map, lpa, lA, List.map_map]; rfl
          · refine ⟨_, rfl, _, rfl, _, rfl, ?_⟩
            refine ⟨by show 3 ≤ sizeLine; decide, fun pT hT => ?_⟩
            have s6 : Same H5 (upd H5 pT (.tup [.ref aF, .ref aT, .ref aB])) := same_nw (Same.refl _) hT
            exact hq _ pT aF aT aB F' T' t piv ((x3same H' e1).trans (s5.trans s6)) upd_same (t5.tF.tab.same (s5.trans s6)) (t5.tT.tab.same (s5.trans s6)) (I.done (by omega))
end
end FF
end
section
set_option Elab.async false
set_option linter.all false
set_option maxRecDepth 100000
set_option maxHeartbeats 4000000
/-! FW13: the kernel, less one. -/
namespace FF
open PySem PySem.Spec PyProof.Rows L2
section
variable {K : PySem.W.Frag}
/-- over a range, only some of the places kept -/
theorem lcRF {lo : Int} {n : Nat} {tt : TT} {te : TE} {j : Nat} {vs : List Nat} {σ : L2.St} {H1 : Hp} {D : Addr} {Qd : Hp → Prop} (keep : Nat → Bool) (v : Nat → V) (hn : n ≤ 100000) (hD : H1 D = none) (hw : ∀ x, wipe ((wipe σ vs).set j (some x)) vs = wipe σ vs)
    (he : ∀ (i : Nat) H', i < n → Same H1 H' → ∀ (Qe : VK) (Qn : Hp → Prop), (keep i = true → Qe (v i) H') → (keep i = false → Qn H') → tt ((wipe σ vs).set j (some (.int (lo + i)))) H' fun b H3 => if b = true then te ((wipe σ vs).set j (some (.int (lo + i)))) H3 Qe else Qn H3)
    (hd : ∀ H', Same H1 H' → H' D = some (.lst (((List.range n).filter keep).map v)) → Qd H') :
    ∃ W : Nat → Nat → Hp → Prop, (∃ m, W 0 m (upd H1 D (.lst []))) ∧ ∀ i m H, W i m H →
      ((Itr lo n).stop i H ∧ Qd H) ∨ ((Itr lo n).go i H ∧ ∃ Nx : Hp → Prop, (∀ H', Nx H' → ∃ m', m' < m ∧ W (i + 1) m' H') ∧ ∀ x H', (Itr lo n).yld i H x H' → gName j x (wipe σ vs) H' fun σ2 H2 => wipe σ2 vs = wipe σ vs ∧ tt σ2 H2 fun b H3 =>
        if b = true then te σ2 H3 fun y H4 => ∃ acc, H4 D = some (.lst acc) ∧ acc.length < sizeLine ∧ Nx (upd H4 D (.lst (acc ++ [y]))) else Nx H3) := by
  refine lc_it (walk_range (lo := lo) (n := n)) (fun i H' => Same H1 H' ∧ H' D = some (.lst (((List.range i).filter keep).map v))) ⟨same_new (Same.refl _) hD, upd_same⟩ (fun i H' _ p => trivial) (fun i x H' H'' hi p y => ?_) (fun H' p => hd H' p.1 p.2)
  obtain ⟨rfl, rfl⟩ := y
  have hlen : (((List.range i).filter keep).map v).length ≤ i := by
    rw [List.length_map]; exact Nat.le_trans (List.length_filter_le _ _) (by simp)
  refine ⟨hw _, he i H'' hi p.1 (fun y' H4 => ∃ acc, H4 D = some (.lst acc) ∧ acc.length < sizeLine ∧ (Same H1 (upd H4 D (.lst (acc ++ [y']))) ∧ (upd H4 D (.lst (acc ++ [y']))) D = some (.lst (((List.range (i + 1)).filter keep).map v)))) (fun H4 => Same H1 H4 ∧ H4 D = some (.lst (((List.range (i + 1)).filter keep).map v))) (fun k => ?_) (fun k => ?_)⟩
  · refine ⟨_, p.2, small_lt (by omega), same_new p.1 hD, ?_⟩
    rw [upd_same, List.range_succ, List.filter_append, List.map_append]
    simp [k]
  · refine ⟨p.1, ?_⟩
    rw [p.2, List.range_succ, List.filter_append, List.map_append]
    simp [k]
end
theorem filter_range {α : Type} (xs : List α) (d : α) (r n : Nat) (h : xs.length = n) : ((List.range n).filter (fun i => decide (r ≤ i))).map (fun i => xs.getD i d) = xs.drop r := by
  have key : ∀ n, ((List.range n).filter (fun i => decide (r ≤ i))).map (fun i => xs.getD i d) = (List.range (n - r)).map fun j => xs.getD (r + j) d := fun n => by
    induction n with
    | zero => simp
    | succ n ih =>
      rw [List.range_succ, List.filter_append, List.map_append, ih]
      by_cases e : r ≤ n
      · have : n + 1 - r = (n - r) + 1 := by omega
        rw [this, List.range_succ, List.map_append]
        simp [e]
      · have : n + 1 - r = n - r := by omega
        rw [this]
        simp [e]
  rw [key]
  apply List.ext_getElem
  · simp; omega
  · intro i h1 h2
    simp at h1 h2 ⊢
    have : r + i < xs.length := by omega
    simp [this]
theorem Tab.drop {H : Hp} {a : Addr} {ps : List Addr} {M : List (List Int)} {r : Nat} (h : H a = some (.lst ((ps.map V.ref).drop r))) (l : ps.length = M.length) (k : ∀ (i : Nat) p x, ps[i]? = some p → M[i]? = some x → H p = some (.lst (x.map V.int))) : Tab H a (M.drop r) :=
  ⟨ps.drop r, by rw [h, List.map_drop], by simp [l], fun i p x h1 h2 => k (r + i) p x (by rw [← h1, List.getElem?_drop]) (by rw [← h2, List.getElem?_drop])⟩
theorem ref_get {ps : List Addr} {i : Nat} {x : V} (h : (ps.map V.ref)[i]? = some x) : ∃ p, x = V.ref p ∧ ps[i]? = some p := by
  rw [List.getElem?_map] at h
  cases e : ps[i]? with
  | none => rw [e] at h; cases h
  | some pr => rw [e] at h; exact ⟨pr, (Option.some.inj h).symm, rfl⟩
def spKernel (mg : Str → Option Value) : Sp := fun vs H Q _ => ∃ (q a : Addr) (p n m : Nat) (rows : List (List Int)), vs = [.ref q, .ref a] ∧ Kd mg H q p false ∧ IsP p ∧ Tab H a rows ∧ Shp rows n m ∧ n ≤ 50 ∧ m ≤ 50 ∧ 0 < m ∧
  ∀ H' W F Tt r piv, Same H H' → Tab H' W (Tt.drop r) → EchR p n m (en rows) F Tt r piv → Q (.ref W) H'
theorem EchR.max0 {p n m : Nat} {M : Nat → Nat → Int} {F T : List (List Int)} {r : Nat} {piv : Nat → Nat} (R : EchR p n m M F T r piv) (hm : 0 < m) {i : Nat} (hi : i < n) {x : Int} (h1 : x ∈ F.getD i []) (h2 : ∀ y ∈ F.getD i [], y ≤ x) : (x = 0 ↔ r ≤ i) := by
  obtain ⟨B, E⟩ := R.ech
  have hl := R.sF.1.at hi
  refine ⟨fun e => ?_, fun e => ?_⟩
  · refine Nat.le_of_not_lt fun h => ?_
    have h3 := E.p1 i h
    have h4 := h2 (en F i (piv i)) (co_mem (by rw [hl]; exact E.pm i h))
    omega
  · obtain ⟨j, hj, e2⟩ := List.mem_iff_getElem.mp h1
    have := E.zr i e hi j (by omega)
    unfold en at this
    rw [co_lt hj, e2] at this
    exact this
section
variable {P : Program} {w : World} {K : PySem.W.Frag} {mg : Str → Option Value} {base : Heap}
theorem ok_kernel (T : TX K mg) : FO P w K mg base 6 "kernel" ["kind", "rows"] (spKernel mg) := by
  refine FO.mk T.d_kernel sc_kernel (fun _ _ _ _ _ _ us hl => match us, hl with | [_, _], _ => rfl) (fun vs H Q E h => ?_) (fun f cdv A outer s H vs Q E hr h => ?_)
  · obtain ⟨q, a, p, n, m, rows, rfl, _⟩ := h; rfl
  · obtain ⟨q, a, p, n, m, rows, rfl, hK, hp, tR, sR, ln, lm, m0, hq⟩ := h
    obtain ⟨f_echelon, fd_echelon, g_echelon, k_echelon, b_echelon, G_echelon⟩ := ok_echelon (P := P) (w := w) (base := base) T
    refine ⟨_, (pss_cons (ps_asg (pe_call G_echelon (hr.mono (by decide)) (by rfl) g_echelon k_echelon b_echelon .nil pass0 (pa_cons (pv 0) (pa_cons (pv 1) pa_nil))) (pg_tup rfl (pgs_cons (pg_name (i := 2) sc_kernel.nd rfl (Or.inr rfl)) (pgs_cons (pg_name (i := 3) sc_kernel.nd rfl (Or.inr rfl)) (pgs_cons (pg_name (i := 4) sc_kernel.nd rfl (Or.inl rfl)) pgs_nil)))))
      (pss_one (ps_ret (pe_lc (own := [("k", 5)])  rfl sc_kernel.nd (pi_range1 (by rfl) T.b_range (pa_cons (pe_callB (r := rLenK K) call_len_seq (by rfl) T.b_len (by decide +kernel) (pa_cons (pv 2) pa_nil)) pa_nil)) (blkOk_by (N := n_kernel) (sc := defScope s_kernel) (by decide +kernel)) (fun _ _ _ _ _ => (pg_name (i := 5) sc_kernel.nd rfl (Or.inl rfl))) (fun _ _ _ _ _ => (pts_one (pt_cmpR op_eq (pe_callB (r := rMax K) (cr_max rfl) (by rfl) T.b_max (by decide +kernel) (pa_cons (pe_ix (r := rIxL K) ix_list (pv 2) (pv 5) (fun _ _ => rfl)) pa_nil)) pe_int (nomark _)))) (fun _ _ _ _ _ => (pe_ix (r := rIxL K) ix_list (pv 3) (pv 5) (fun _ _ => rfl))))))), ?_⟩
    refine ⟨_, rfl, _, rfl, q, a, p, n, m, rows, rfl, hK, hp, tR, sR, ln, lm, fun H1 Tp aF aT aB F Tt r piv s1 hT tF tT R => ?_⟩
    obtain ⟨xs, hx, lx⟩ := tF.len
    obtain ⟨pf, hpf, lpf, kpf⟩ := id tF
    obtain ⟨pt, hpt, lpt, kpt⟩ := id tT
    have lF := R.sF.1.1
    have lT := R.sT.1.1
    refine ⟨Tp, _, rfl, sqT_of hT, rfl, _, _, rfl, _, _, rfl, _, _, rfl, rfl, ?_⟩
    refine ⟨_, rfl, aF, _, rfl, .inl (sqL_of hx), n, by rw [lx, lF], by omega, by omega, fun D hD => lcRF (n := ((n : Int)).toNat) (fun i => decide (r ≤ i)) (fun i => (pt.map V.ref).getD i .non) (by omega) hD (fun x => rfl) (fun i H2 hi s2 Qe Qn q1 q2 => ?_) (fun H2 s2 h2 => ?_)⟩
    · have hi2 : i < n := hi
      have e0 : (0 : Int) + (i : Int) = (i : Nat) := Int.zero_add _
      rw [e0]
      obtain ⟨ys, pr, g1, g2, g3, _⟩ := (tF.same s2).at (i := i) (by omega)
      refine ⟨_, rfl, _, rfl, aF, _, _, _, rfl, rfl, sqL_of g1, g2, pr, _, rfl, sqL_of g3, by rw [R.sF.1.at hi2]; exact m0, fun x h1 h3 => ?_⟩
      have key := R.max0 m0 hi2 h1 h3
      refine ⟨rfl, _, rfl, ?_⟩
      by_cases e : r ≤ i
      · refine ifD (vint.mpr (key.mpr e)) ?_
        obtain ⟨zs, pr2, k1, k2, k3, _⟩ := (tT.same s2).row (getD_at (i := i) (by omega))
        refine ⟨_, rfl, _, rfl, aT, _, _, _, rfl, rfl, sqL_of k1, atI_nat k2, ?_⟩
        have := q1 (decide_eq_true e)
        have e2 : (pt.map V.ref).getD i .non = V.ref pr2 := by
          have h5 : H2 aT = some (.lst (pt.map V.ref)) := s2 _ _ hpt
          rw [k1] at h5
          have h6 : zs = pt.map V.ref := by simpa using h5
          rw [← h6, List.getD_eq_getElem?_getD]
          rw [k2]; rfl
        rw [e2] at this
        exact this
      · refine ifN (fun z => e (key.mp (vint.mp z))) ?_
        exact q2 (decide_eq_false e)
    · rw [filter_range _ _ r _ (by simp [lpt, lT])] at h2
      refine hq H2 D F Tt r piv (s1.trans s2) (Tab.drop h2 lpt fun i p' x a b => s2 _ _ (kpt i p' x a b)) R
/-- one less at the place i -/
def lo1 (N : Int) (i : Nat) (r : List Int) : List Int := (List.range r.length).map fun k => (co r k - if i = k then 1 else 0) % N
def lom (N : Int) (M : List (List Int)) : List (List Int) := (List.range M.length).map fun i => lo1 N i (M.getD i [])
def spLessOne (mg : Str → Option Value) : Sp := fun vs H Q _ => ∃ (q a : Addr) (p n m : Nat) (rows : List (List Int)), vs = [.ref q, .ref a] ∧ Kd mg H q p false ∧ Tab H a rows ∧ Shp rows n m ∧ n ≤ 1000 ∧ m ≤ 1000 ∧ ∀ H' D, Same H H' → H D = none → Tab H' D (lom p rows) → Q (.ref D) H'
theorem lom_take (N : Int) (M : List (List Int)) {i : Nat} : ((List.range (i + 1)).map fun i => lo1 N i (M.getD i [])) = ((List.range i).map fun i => lo1 N i (M.getD i [])) ++ [lo1 N i (M.getD i [])] := by
  rw [List.range_succ, List.map_append]; rfl
theorem ok_less_one (T : TX K mg) : FO P w K mg base 3 "less_one" ["kind", "rows"] (spLessOne mg) := by
  refine FO.mk T.d_less_one sc_less_one (fun _ _ _ _ _ _ us hl => match us, hl with | [_, _], _ => rfl) (fun vs H Q E h => ?_) (fun f cdv A outer s H vs Q E hr h => ?_)
  · obtain ⟨q, a, p, n, m, rows, rfl, _⟩ := h; rfl
  · obtain ⟨q, a, p, n, m, rows, rfl, hK, tR, sR, ln, lm, hq⟩ := h
    obtain ⟨Cc, hC, hk⟩ := id hK
    have M := km_of (P := P) (w := w) (base := base) T hC
    have cl := M.cl
    obtain ⟨f_p, fd_p, m_less, b_less, G_less⟩ := M.less
    refine ⟨_, (pss_cons (ps_set (i := 2) sc_less_one.nd rfl (Or.inl rfl) (pe_lst pa_nil))
      (pss_cons (ps_for PassesOwn.never rfl (pi_enum (by rfl) T.b_enumerate (pa_cons (pv 1) pa_nil)) (pg_tup rfl (pgs_cons (pg_name (i := 3) sc_less_one.nd rfl (Or.inr rfl)) (pgs_cons (pg_name (i := 4) sc_less_one.nd rfl (Or.inl rfl)) pgs_nil)))
        (pss_one (ps_expr (pe_bm PySem.F.plainAttrs_list PySem.F.slot_list_append PySem.F.type_list_append mt_append (pv 2) (pa_cons (pe_lc (own := [("k", 5), ("number", 6)]) (g := gTup K 2 (gCons (gName 5) (gCons (gName 6) gNil))) rfl sc_less_one.nd (pi_enum (by rfl) T.b_enumerate (pa_cons (pv 4) pa_nil)) (blkOk_by (N := n_less_one) (sc := defScope s_less_one) (by decide +kernel)) (fun _ _ _ _ _ => (by exact (pg_tup rfl (pgs_cons (pg_name (i := 5) sc_less_one.nd rfl (Or.inl rfl)) (pgs_cons (pg_name (i := 6) sc_less_one.nd rfl (Or.inl rfl)) pgs_nil))))) (fun _ _ _ _ _ => pts_nil) (fun _ _ _ _ _ => (pe_meth (pv 0) cl m_less G_less (hr.mono (by decide)) b_less .nil pass0 (pa_cons (pv 6) (pa_cons (pe_callTy call_int1 (by rfl) T.b_int (by decide +kernel) (pa_cons (pe_cmpR op_eq (pv 3) (pv 5) (nomark _)) pa_nil)) pa_nil))))) pa_nil)))))
      (pss_one (ps_ret (pv 2))))), ?_⟩
    obtain ⟨ps, hps, lps, kps⟩ := id tR
    have lR := sR.1
    refine ⟨by show 0 ≤ sizeLine; decide, fun D hD => ?_⟩
    have sD : Same H (upd H D (.lst [])) := same_new (Same.refl _) hD
    refine ⟨_, rfl, a, _, rfl, sD.seq (sqL_of hps), for_it (walk_enum (xs := ps.map V.ref)) (fun i σ H' => ∃ x3 x4 : Option V, σ = [some (.ref q), some (.ref a), some (.ref D), x3, x4, none, none] ∧ Same H H' ∧ TabN H' D ((List.range i).map fun i => lo1 p i (rows.getD i [])))
      ⟨none, none, rfl, sD, TabA.new⟩ (fun i σ H' _ ⟨_, _, _, s, _⟩ => s.seq (sqL_of hps)) (fun i x σ H' H'' hi hP hY => ?_) (fun σ H' hP => ?_)⟩
    · obtain ⟨x3, x4, rfl, s1, t1⟩ := hP
      obtain ⟨t, y1, y2, rfl, nt, rfl, hy1, hy2⟩ := hY
      obtain rfl : V.int (i : Nat) = y1 := Option.some.inj hy1
      have hi1 : i < rows.length := by rw [List.length_map] at hi; omega
      obtain ⟨pr, rfl, e⟩ := ref_get hy2
      · skip
        have hpr := kps i pr _ e (getD_at hi1)
        have lr : (rows.getD i []).length = m := sR.at (by omega)
        refine ⟨t, _, rfl, sqT_of upd_same, rfl, _, _, rfl, _, _, rfl, rfl, ?_⟩
        have s2 := same_nw (o := .tup [V.int (i : Nat), V.ref pr]) s1 nt
        have t2 := t1.same (same_nw (o := .tup [V.int (i : Nat), V.ref pr]) (Same.refl _) nt)
        generalize upd H' t (.tup [V.int (i : Nat), V.ref pr]) = H2 at *
        refine ⟨_, rfl, .inl ⟨rfl, _, sqL_of t2.tab.len.choose_spec.1⟩, ?_⟩
        refine ⟨_, rfl, pr, _, rfl, s2.seq (sqL_of hpr), fun D2 hD2 => lcG (walk_enum (xs := (rows.getD i []).map V.int)) (fun k => .int ((co (rows.getD i []) k - if i = k then 1 else 0) % p)) (by rw [List.length_map]; omega) hD2 (fun H' e => (s2.trans e).seq (sqL_of hpr)) (fun k y H' H'' hk2 e hY Qe qe => ?_) (fun k y H' H'' hY => ?_) (fun H3 s3 h3 => ?_)⟩
        · obtain ⟨t, y1, y2, rfl, nt, rfl, hy1, hy2⟩ := hY
          obtain rfl : V.int (k : Nat) = y1 := Option.some.inj hy1
          obtain ⟨rfl, _⟩ := map_get hy2
          refine ⟨t, _, rfl, sqT_of upd_same, rfl, _, _, rfl, _, _, rfl, rfl, rfl, ?_⟩
          have hk3 := hk.same (s2.trans e)
          obtain ⟨⟨dx, fs, ho, hfs⟩, _, _⟩ := id hk3
          refine ⟨_, rfl, q, dx, fs, rfl, ho, fs_none hfs (by decide) (by decide), _, rfl, _, rfl, _, rfl, rfl, .inr ⟨_, rfl, ?_⟩⟩
          have := qe _ (Same.refl _)
          by_cases e2 : i = k
          · subst e2
            rw [if_pos rfl] at this
            rw [decide_eq_true rfl]
            exact ⟨q, co (rows.getD i []) i, 1, p, rfl, hk3, trivial, this⟩
          · rw [if_neg e2] at this
            rw [decide_eq_false (fun z => e2 (by have := vint.mp z; omega))]
            exact ⟨q, co (rows.getD i []) k, 0, p, rfl, hk3, trivial, this⟩
        · obtain ⟨t, y1, y2, rfl, nt, rfl, hy1, hy2⟩ := hY
          exact same_nw (Same.refl _) nt
        · have t3 := t2.same s3
          have n2 : D2 ≠ D := by
            obtain ⟨z, hz, _⟩ := t2.len
            exact (ne_of_none hz hD2).symm
          have h3' : H3 D2 = some (.lst ((lo1 p i (rows.getD i [])).map V.int)) := by
            rw [h3, List.length_map]; unfold lo1; rw [List.map_map]; rfl
          obtain ⟨xs, hx, lx, t4⟩ := t3.snoc rfl h3' n2
          refine ⟨D, xs, .ref D2, rfl, rfl, hx, small_lt (by rw [lx]; simp; omega), _, _, rfl, same_new (s2.trans s3) hD, ?_⟩
          rw [lom_take]; exact t4
    · obtain ⟨x3, x4, rfl, s1, t1⟩ := hP
      rw [List.length_map, lps] at t1
      exact ⟨_, rfl, hq H' D s1 hD t1.tab⟩
end
end FF
end
section
set_option Elab.async false
set_option linter.all false
set_option maxRecDepth 100000
set_option maxHeartbeats 4000000
/-! FW14: the ways, the parting. -/
namespace FF
open PySem PySem.Spec PyProof.Rows L2
theorem cl_sm {N : Int} (f : List Int) : FF.cl N f = sm f.length fun k => C (co f k) * FF.X ^ k := by
  have key : ∀ i, i ≤ f.length → FF.cl N (f.take i) = sm i fun k => C (co f k) * FF.X ^ k := fun i => by
    induction i with
    | zero => intro _; rw [List.take_zero, cl_nil]; rfl
    | succ i ih =>
      intro h
      rw [cl_take f h, ih (by omega)]
      show _ = (sm i fun k => C (co f k) * FF.X ^ k) + C (co f i) * FF.X ^ i
      grind
  have := key f.length (Nat.le_refl _)
  rwa [List.take_length] at this
theorem lo1_len (N : Int) (i : Nat) (r : List Int) : (lo1 N i r).length = r.length := by simp [lo1]
theorem cl_lo1 {N : Int} {i : Nat} {r : List Int} (h : i < r.length) : FF.cl N (lo1 N i r) = FF.cl N r - FF.X ^ i := by
  have h2 := cl_sm (N := N) (lo1 N i r)
  rw [lo1_len] at h2
  rw [h2, cl_sm r]
  have e : sm r.length (fun k => (C (co (lo1 N i r) k) : Pm N) * FF.X ^ k) = sm r.length fun k => C (co r k) * FF.X ^ k - dl i k * FF.X ^ k := sm_congr fun k hk => by
    unfold lo1 dl
    rw [co_rmap, if_pos hk, C_mod, C_sub]
    by_cases e : i = k
    · rw [if_pos e, if_pos e, C_one]; grind
    · rw [if_neg e, if_neg e, C_zero]; grind
  rw [e, sm_sub, sm_dl' h fun k => (FF.X : Pm N) ^ k]
/-- what is known of the ways -/
structure WaysR (p n : Nat) (g : List Int) (ways : List (List Int)) : Prop where
  len : ∀ r ∈ ways, r.length = n
  fix : ∀ r ∈ ways, Dv (FF.cl (p : Int) g) (FF.cl p r ^ p - FF.cl p r)
  rng : ∀ r ∈ ways, ∀ x ∈ r, 0 ≤ x ∧ x < (p : Int)
  span : ∀ v : Pm p, Dv (FF.cl (p : Int) g) (v ^ p - v) → ∃ a : Nat → Int, Dv (FF.cl (p : Int) g) (v - sm ways.length fun j => C (a j) * FF.cl p (ways.getD j []))
theorem ways_of {p n : Nat} {g g0 : List Int} {rows F Tt : List (List Int)} {r : Nat} {piv : Nat → Nat} (hp : IsP p) (eg : g = g0 ++ [1]) (hn : n = g0.length) (lr : rows.length = n) (hR : ∀ (i : Nat) x, rows[i]? = some x → PowR p g n i x)
    (R : EchR p n n (en (lom p rows)) F Tt r piv) : WaysR p n g (Tt.drop r) := by
  have hm : Mon (FF.cl (p : Int) g) n := by rw [eg, hn]; exact Mon.of_list
  obtain ⟨B, E⟩ := R.ech
  have hM : ∀ k, k < n → Dv (FF.cl (p : Int) g) (FF.X ^ (p * k) - FF.X ^ k - sm n fun j => C (en (lom p rows) k j) * FF.X ^ j) := fun k hk => by
    have hk2 := hR k _ (getD_at (M := rows) (i := k) (by omega))
    have e : (sm n fun j => (C (en (lom p rows) k j) : Pm p) * FF.X ^ j) = FF.cl p (rows.getD k []) - FF.X ^ k := by
      rw [← cl_lo1 (N := p) (i := k) (r := rows.getD k []) (by rw [hk2.1]; exact hk), cl_sm, lo1_len, hk2.1]
      unfold en lom
      rw [getD_range _ (by omega)]
    rw [e]
    have := hk2.2.2
    have e2 : (FF.X : Pm p) ^ (p * k) - FF.X ^ k - (FF.cl p (rows.getD k []) - FF.X ^ k) = FF.X ^ (p * k) - FF.cl p (rows.getD k []) := by grind
    rw [e2]; exact this
  have lT := R.sT.1.1
  have way : ∀ j, r + j < n → wayP n (en Tt) (r + j) = FF.cl (p : Int) ((Tt.drop r).getD j []) := fun j hj => by
    have e : (Tt.drop r).getD j [] = Tt.getD (r + j) [] := by
      rw [List.getD_eq_getElem?_getD, List.getD_eq_getElem?_getD, List.getElem?_drop]
    rw [e, cl_sm, R.sT.1.at hj]; rfl
  have mem : ∀ x ∈ Tt.drop r, ∃ j, r + j < n ∧ x = (Tt.drop r).getD j [] ∧ x ∈ Tt := fun x hx => by
    obtain ⟨j, hj, e⟩ := List.mem_iff_getElem.mp hx
    refine ⟨j, by rw [List.length_drop] at hj; omega, ?_, List.mem_of_mem_drop hx⟩
    rw [List.getD_eq_getElem?_getD, List.getElem?_eq_getElem hj, e]; rfl
  refine ⟨fun x hx => ?_, fun x hx => ?_, fun x hx => ?_, fun v hv => ?_⟩
  · obtain ⟨j, _, _, h⟩ := mem x hx
    exact R.sT.1.2 x h
  · obtain ⟨j, hj, e, h⟩ := mem x hx
    rw [e, ← way j hj]
    exact way_fix hp hm hM E (by omega) hj
  · obtain ⟨j, _, _, h⟩ := mem x hx
    exact R.sT.2 x h
  · obtain ⟨a, ha⟩ := way_span hp hm hM E v hv
    refine ⟨a, ?_⟩
    have e : (Tt.drop r).length = n - r := by rw [List.length_drop, lT]
    rw [e]
    have e2 : (sm (n - r) fun j => (C (a j) : Pm p) * FF.cl p ((Tt.drop r).getD j [])) = sm (n - r) fun j => C (a j) * wayP n (en Tt) (r + j) := sm_congr fun j hj => by rw [way j (by omega)]
    rw [e2]; exact ha
def spKept (K : PySem.W.Frag) (mg : Str → Option Value) : Sp := fun vs H Q _ => ∃ (q b : Addr) (p : Nat) (g g0 : List Int), vs = [.ref q, .ref b] ∧ Kd mg H q p false ∧ IsP p ∧ SqL K H b (g.map V.int) ∧ Cn p g ∧ g = g0 ++ [1] ∧ g0 ≠ [] ∧ g.length ≤ 50 ∧
  ∀ (ways : List (List Int)) (H' : Hp) (D : Addr), Same H H' → Tab H' D ways → WaysR p g0.length g ways → Q (.ref D) H'
section
variable {P : Program} {w : World} {K : PySem.W.Frag} {mg : Str → Option Value} {base : Heap}
theorem ok_kept_rows (T : TX K mg) : FO P w K mg base 7 "kept_rows" ["kind", "g"] (spKept K mg) := by
  refine FO.mk T.d_kept_rows sc_kept_rows (fun _ _ _ _ _ _ us hl => match us, hl with | [_, _], _ => rfl) (fun vs H Q E h => ?_) (fun f cdv A outer s H vs Q E hr h => ?_)
  · obtain ⟨q, b, p, g, g0, rfl, _⟩ := h; rfl
  · obtain ⟨q, b, p, g, g0, rfl, hK, hp, hg, cg, eg, hg0, lg, hq⟩ := h
    have hl0 : 0 < g0.length := List.length_pos_iff.mpr hg0
    have hgl : g.length = g0.length + 1 := by rw [eg]; simp
    obtain ⟨f_kernel, fd_kernel, g_kernel, k_kernel, b_kernel, G_kernel⟩ := ok_kernel (P := P) (w := w) (base := base) T
    obtain ⟨f_less_one, fd_less_one, g_less_one, k_less_one, b_less_one, G_less_one⟩ := ok_less_one (P := P) (w := w) (base := base) T
    obtain ⟨f_powering, fd_powering, g_powering, k_powering, b_powering, G_powering⟩ := ok_powering (P := P) (w := w) (base := base) T
    refine ⟨_, (pss_one (ps_ret (pe_call G_kernel (hr.mono (by decide)) (by rfl) g_kernel k_kernel b_kernel .nil pass0 (pa_cons (pv 0) (pa_cons (pe_call G_less_one (hr.mono (by decide)) (by rfl) g_less_one k_less_one b_less_one .nil pass0 (pa_cons (pv 0) (pa_cons (pe_call G_powering (hr.mono (by decide)) (by rfl) g_powering k_powering b_powering .nil pass0 (pa_cons (pv 0) (pa_cons (pv 1) pa_nil))) pa_nil))) pa_nil))))), ?_⟩
    refine ⟨_, rfl, _, rfl, _, rfl, _, rfl, q, b, p, g, g0, rfl, hK, hp, hg, cg, eg, hg0, lg, fun rows H1 R1 s1 n1 t1 l1 hR => ?_⟩
    have sR : Shp rows g0.length g0.length := ⟨l1, fun r hr => by
      obtain ⟨j, hj, e⟩ := List.mem_iff_getElem.mp hr
      exact (hR j r (by rw [List.getElem?_eq_getElem hj, e])).1⟩
    refine ⟨q, R1, p, g0.length, g0.length, rows, rfl, hK.same s1, t1.tab, sR, by omega, by omega, fun H2 D2 s2 n2 t2 => ?_⟩
    have sL : Shp (lom p rows) g0.length g0.length := ⟨by simp [lom, l1], fun r hr => by
      unfold lom at hr
      obtain ⟨j, hj, e⟩ := List.mem_map.mp hr
      rw [← e, lo1_len]
      exact sR.at (by rw [List.mem_range] at hj; omega)⟩
    exact ⟨q, D2, p, g0.length, g0.length, lom p rows, rfl, (hK.same s1).same s2, hp, t2, sL, by omega, by omega, hl0, fun H3 W F Tt r piv s3 t3 R => hq _ H3 W (s1.trans (s2.trans s3)) t3 (ways_of hp eg rfl l1 hR R)⟩
end
end FF
end
section
set_option Elab.async false
set_option linter.all false
set_option maxRecDepth 100000
set_option maxHeartbeats 4000000
/-! FW15: the parting. -/
namespace FF
open PySem PySem.Spec PyProof.Rows L2
/-- a canonical row with the lead 1 and with an x -/
def Mo (p : Int) (c : List Int) : Prop := Cn p c ∧ ∃ c0, c = c0 ++ [1] ∧ c0 ≠ []
theorem Mo.mon {p : Int} {c : List Int} (h : Mo p c) : Mon (FF.cl p c) (c.length - 1) := by
  obtain ⟨_, c0, rfl, _⟩ := h
  have := Mon.of_list (N := p) (f := c0)
  simpa using this
theorem Mo.len {p : Int} {c : List Int} (h : Mo p c) : 2 ≤ c.length := by
  obtain ⟨_, c0, rfl, h0⟩ := h
  have := List.length_pos_iff.mpr h0
  simp; omega
theorem prd_mon {N : Int} : ∀ {F : List (List Int)}, (∀ c ∈ F, Mo N c) → Mon (prd (F.map (FF.cl N))) (F.map fun c => c.length - 1).sum
  | [], _ => Mon.one
  | c :: F, h => by
    rw [List.map_cons, List.map_cons, prd, List.sum_cons]
    exact (h c (by simp)).mon.mul (prd_mon fun d hd => h d (by simp [hd]))
structure PartR (p : Nat) (h w : List Int) (F : List (List Int)) : Prop where
  cn : ∀ c ∈ F, Mo p c
  con : ∀ c ∈ F, ∃ s : Int, Dv (FF.cl p c) (FF.cl (p : Int) w - C s)
  pw : (F.map (FF.cl (p : Int))).Pairwise Cop
  prd : prd (F.map (FF.cl (p : Int))) = FF.cl p h
theorem dg_one {N : Int} {u : Pm N} (h : Dg u 1) : ∃ c : Int, u = C c := by
  obtain ⟨f, hf, e⟩ := h
  match f, hf with
  | [], _ => exact ⟨0, by rw [← e, cl_nil, C_zero]⟩
  | [a], _ => exact ⟨a, by rw [← e, cl_cons, cl_nil]; grind⟩
theorem part_lin {p : Nat} {h w : List Int} (hh : Mo p h) (l : h.length = 2) : PartR p h w [h] := by
  refine ⟨fun c hc => ?_, fun c hc => ?_, by simp, ?_⟩
  · rw [List.mem_singleton] at hc; rw [hc]; exact hh
  · rw [List.mem_singleton] at hc
    subst hc
    have hm := hh.mon
    rw [l] at hm
    obtain ⟨q, r, e, dr⟩ := hm.divide (FF.cl (p : Int) w)
    obtain ⟨s, hs⟩ := dg_one dr
    exact ⟨s, q, by rw [e, hs]; grind⟩
  · rw [List.map_singleton]; simp only [FF.prd]; grind
theorem part_done {p : Nat} {h w : List Int} {F : List (List Int)} {i : Nat} (hp : IsP p) (hh : Mo p h) (P : PInv (FF.cl (p : Int) h) (FF.cl p w) i (F.map (FF.cl (p : Int)))) (hF : ∀ c ∈ F, Mo p c)
    (e : (F.map fun c => c.length - 1).sum = h.length - 1 ∨ (i = p ∧ Dv (FF.cl (p : Int) h) (FF.cl p w ^ p - FF.cl p w))) : PartR p h w F := by
  refine ⟨hF, fun c hc => ?_, P.pw, ?_⟩
  · obtain ⟨s, _, _, h2⟩ := P.mem _ (List.mem_map_of_mem hc)
    exact ⟨s, h2⟩
  · obtain ⟨u, hu⟩ := P.dv
    have m1 := prd_mon hF
    have m2 := hh.mon
    rcases e with e | ⟨rfl, e⟩
    · rw [e] at m1
      exact (m2.eq_of_dvd m1 hu).symm
    · obtain ⟨v, hv⟩ := P.full hp e
      exact (Mon.antisymm m1 m2 hv hu hp.one).1
def spParted (K : PySem.W.Frag) (mg : Str → Option Value) : Sp := fun vs H Q _ => ∃ (q a b : Addr) (p : Nat) (h v : List Int), vs = [.ref q, .ref a, .ref b] ∧ Kd mg H q p false ∧ IsP p ∧ (p : Int) < 2 ^ 62 ∧ H a = some (.lst (h.map V.int)) ∧ H b = some (.lst (v.map V.int)) ∧ Mo p h ∧ h.length ≤ 100 ∧ v.length ≤ 100 ∧ Dv (FF.cl (p : Int) h) (FF.cl p v ^ p - FF.cl p v) ∧
  ∀ (F : List (List Int)) (H' : Hp) (D : Addr), Same H H' → Tab H' D F → PartR p h v F → Q (.ref D) H'
section
variable {P : Program} {w : World} {K : PySem.W.Frag} {mg : Str → Option Value} {base : Heap}
theorem ok_parted_by (T : TX K mg) : FO P w K mg base 6 "parted_by" ["kind", "piece", "way"] (spParted K mg) := by
  refine FO.mk T.d_parted_by sc_parted_by (fun _ _ _ _ _ _ us hl => match us, hl with | [_, _, _], _ => rfl) (fun vs H Q E h => ?_) (fun f cdv A outer s H vs Q E hr h => ?_)
  · obtain ⟨q, a, b, p, h, v, rfl, _⟩ := h; rfl
  · obtain ⟨q, a, b, p, h, v, rfl, hK, hp, p62, ha, hb, hh, lh, lw, hw, hq⟩ := h
    have hN := hK.bnd
    obtain ⟨Cc, hC, hk⟩ := id hK
    have M := km_of (P := P) (w := w) (base := base) T hC
    have cl := M.cl
    obtain ⟨f_common, fd_common, g_common, k_common, b_common, G_common⟩ := ok_common (P := P) (w := w) (base := base) T
    obtain ⟨f_less, fd_less, g_less, k_less, b_less, G_less⟩ := ok_less (P := P) (w := w) (base := base) T
    refine ⟨_, (pss_cons (ps_if (pt_cmpR op_eq (pe_callB (r := rLenK K) call_len_seq (by rfl) T.b_len (by decide +kernel) (pa_cons (pv 1) pa_nil)) pe_int (nomark _)) (pss_one (ps_ret (pe_lst (pa_cons (pv 1) pa_nil)))) pss_nil)
      (pss_cons (ps_set (i := 3) sc_parted_by.nd rfl (Or.inl rfl) (pe_lst pa_nil))
      (pss_cons (ps_set (i := 4) sc_parted_by.nd rfl (Or.inl rfl) (pe_op op_sub (pe_callB (r := rLenK K) call_len_seq (by rfl) T.b_len (by decide +kernel) (pa_cons (pv 1) pa_nil)) pe_int))
      (pss_cons (ps_for PassesOwn.never rfl (pi_range1 (by rfl) T.b_range (pa_cons (pe_fld (pv 0) rfl) pa_nil)) (pg_name (i := 5) sc_parted_by.nd rfl (Or.inl rfl))
        (pss_cons (ps_set (i := 6) sc_parted_by.nd rfl (Or.inl rfl) (pe_call G_common (hr.mono (by decide)) (by rfl) g_common k_common b_common .nil pass0 (pa_cons (pv 0) (pa_cons (pv 1) (pa_cons (pe_call G_less (hr.mono (by decide)) (by rfl) g_less k_less b_less .nil pass0 (pa_cons (pv 0) (pa_cons (pv 2) (pa_cons (pe_lst (pa_cons (pv 5) pa_nil)) pa_nil)))) pa_nil)))))
        (pss_cons (ps_if (pt_cmpR op_gt (pe_callB (r := rLenK K) call_len_seq (by rfl) T.b_len (by decide +kernel) (pa_cons (pv 6) pa_nil)) pe_int (nomark _)) (pss_cons (ps_expr (pe_bm PySem.F.plainAttrs_list PySem.F.slot_list_append PySem.F.type_list_append mt_append (pv 3) (pa_cons (pv 6) pa_nil)))
          (pss_one (ps_aug (i := 4) sc_parted_by.nd rfl (Or.inl rfl) (pe_op op_sub (pe_callB (r := rLenK K) call_len_seq (by rfl) T.b_len (by decide +kernel) (pa_cons (pv 6) pa_nil)) pe_int) ip_sub))) pss_nil)
        (pss_one (ps_if (pt_cmpR op_eq (pv 4) pe_int (nomark _)) (pss_one ps_break) pss_nil)))))
      (pss_one (ps_ret (pv 3))))))), ?_⟩
    have h2 := hh.len
    refine ⟨_, rfl, a, _, rfl, .inl (sqL_of ha), rfl, _, rfl, ?_⟩
    by_cases hl : h.length = 2
    · refine ifD (vint.mpr (by rw [List.length_map]; omega)) ?_
      refine ⟨_, rfl, by show 1 ≤ sizeLine; decide, fun D hD => ?_⟩
      have sD : Same H (upd H D (.lst [.ref a])) := same_nw (Same.refl _) hD
      refine hq [h] _ D sD ⟨[a], upd_same, rfl, fun i p' r e1 e2 => ?_⟩ (part_lin hh hl)
      match i, e1, e2 with
      | 0, e1, e2 =>
        obtain rfl : a = p' := by simpa using e1
        obtain rfl : h = r := by simpa using e2
        exact sD _ _ ha
    · refine ifN (fun z => hl (by have := vint.mp z; rw [List.length_map] at this; omega)) ?_
      refine ⟨by show 0 ≤ sizeLine; decide, fun pF nF => ?_⟩
      have s1 : Same H (upd H pF (.lst [])) := same_new (Same.refl _) nF
      have ha1 := s1 _ _ ha
      have hb1 := s1 _ _ hb
      obtain ⟨⟨dx, fs, ho, hfs⟩, _, _⟩ := hk.same s1
      refine ⟨_, rfl, a, _, rfl, .inl (sqL_of ha1), _, 1, rfl, rfl, ?_⟩
      have hl0 : (((h.map V.int).length : Nat) : Int) - 1 = ((h.length - 1 : Nat) : Int) := by rw [List.length_map]; omega
      refine ⟨_, rfl, q, Cc, dx, fs, _, rfl, ho, cl, M.nS, fs_size hfs, p, rfl, by omega, by omega, for_range (lo := 0) (n := ((p : Nat) : Int).toNat) (fun i σ H' => ∃ (F : List (List Int)) (x5 x6 : Option V), σ = [some (.ref q), some (.ref a), some (.ref b), some (.ref pF), some (.int (((h.length - 1 : Nat) : Int) - ((F.map fun c => c.length - 1).sum : Nat))), x5, x6] ∧ Same H H' ∧ TabN H' pF F ∧ (∀ c ∈ F, Mo p c) ∧ PInv (FF.cl (p : Int) h) (FF.cl p v) i (F.map (FF.cl (p : Int))))
        ⟨[], none, none, by show [some (V.ref q), some (V.ref a), some (V.ref b), some (V.ref pF), some (V.int ((((h.map V.int).length : Nat) : Int) - 1)), none, none] = _; rw [hl0]; simp, s1, TabA.new, fun c hc => (by cases hc), PInv.start _ _⟩ (fun i σ H' hi hW => ?_) (fun σ H' hW => ?_)⟩
      · obtain ⟨F, x5, x6, rfl, s2, tF, hF, I⟩ := hW
        have hi2 : i < p := hi
        have e0 : (0 : Int) + (i : Int) = (i : Nat) := Int.zero_add _
        rw [e0]
        refine ⟨_, rfl, _, rfl, _, rfl, _, rfl, _, rfl, by show 1 ≤ sizeLine; decide, fun pN nN => ?_⟩
        have s3 : Same H' (upd H' pN (.lst [.int (i : Nat)])) := same_nw (Same.refl _) nN
        have hN3 : (upd H' pN (.lst [.int (i : Nat)])) pN = some (.lst (([(i : Int)] : List Int).map V.int)) := upd_same
        have t3 := tF.same s3
        generalize upd H' pN (.lst [.int (i : Nat)]) = H3 at *
        have s13 := s2.trans s3
        refine ⟨q, b, pN, p, false, v, [(i : Int)], rfl, hK.same s13, sqL_of (s13 _ _ hb), sqL_of hN3, by omega, by simp, trivial, fun H4 p4 s4 n4 h4 => ?_⟩
        have s14 := s13.trans s4
        have l4 : (tr (p : Int) (subL v [(i : Int)])).length ≤ 300 := by
          have := tr_len (N := p) (subL v [(i : Int)])
          have := len_sub v [(i : Int)]
          simp at this; omega
        refine ⟨q, a, p4, p, h, _, rfl, hK.same s14, ⟨p, hp, rfl⟩, sqL_of (s14 _ _ ha), sqL_of h4, by omega, l4, fun d G => fun H5 p5 s5 n5 h5 => ?_⟩
        have s15 := s14.trans s5
        have t5 := t3.same (s4.trans s5)
        have ed : FF.cl (p : Int) (tr (p : Int) (subL v [(i : Int)])) = FF.cl p v - C i := by
          rw [cl_tr, cl_sub, cl_cons, cl_nil]; grind
        have hdg := G.dg
        rw [ed] at hdg
        have hcomb := G.comb
        rw [ed] at hcomb
        have hd0 : ∃ d0, d = d0 ++ [1] := by
          rcases G.top with z | z
          · exfalso
            have h1 := G.df
            rw [z, cl_nil] at h1
            obtain ⟨x, hx⟩ := h1
            have h2 := hh.mon
            have h3 : FF.cl (p : Int) h = 0 := by rw [hx]; grind
            rw [h3] at h2
            have := h2.cancel (q := 1) (by
              have : (1 : Pm p) * 0 = 0 := by grind
              rw [this]; exact Dg.zero.mono (Nat.zero_le _))
            exact one_ne hp this
          · exact z
        obtain ⟨d0, ed0⟩ := hd0
        refine ⟨_, rfl, p5, _, rfl, .inl (sqL_of h5), _, 1, rfl, rfl, _, rfl, ?_⟩
        by_cases hd1 : d0 = []
        · have hlen : ((d.map V.int).length : Int) = 1 := by rw [ed0, hd1]; rfl
          refine ifN (by omega) ?_
          have e1 : FF.cl (p : Int) d = 1 := by rw [ed0, hd1]; rfl
          have I2 := I.skip e1 hcomb
          refine ⟨_, rfl, rfl, _, rfl, ?_⟩
          by_cases hz : (F.map fun c => c.length - 1).sum = h.length - 1
          · refine ifD (vint.mpr (by omega)) ?_
            exact ⟨_, rfl, hq F H5 pF (s15) t5.tab (part_done hp hh I2 hF (.inl hz))⟩
          · refine ifN (fun z => hz (by have := vint.mp z; omega)) ?_
            exact ⟨F, _, _, rfl, s15, t5, hF, I2⟩
        · have hlen : ((d.map V.int).length : Int) = (d0.length : Int) + 1 := by rw [ed0]; simp
          have hd2 : 0 < d0.length := List.length_pos_iff.mpr hd1
          refine ifD (by omega) ?_
          have md : Mo p d := ⟨G.cn, d0, ed0, hd1⟩
          have I2 := I.keep hp hi2 G.df hdg hcomb
          have n5F : p5 ≠ pF := by
            obtain ⟨z, hz, _⟩ := t3.len
            exact (ne_of_none ((s4) _ _ hz) n5).symm
          obtain ⟨xs, hx, lx, t6⟩ := t5.snoc rfl h5 n5F
          refine ⟨_, rfl, .inl ⟨rfl, _, sqL_of hx⟩, ?_⟩
          refine ⟨_, rfl, pF, xs, .ref p5, rfl, rfl, hx, small_lt (by
            rw [lx]
            have m1 := prd_mon hF
            obtain ⟨u, hu⟩ := I.dv
            have m3 := Mon.le_of_dvd hh.mon m1 hu hp.one
            have : ∀ F : List (List Int), (∀ c ∈ F, Mo p c) → F.length ≤ (F.map fun c => c.length - 1).sum := fun F => by
              induction F with
              | nil => intro _; simp
              | cons c F ih =>
                intro hF
                have := (hF c (by simp)).len
                have := ih fun x hx => hF x (by simp [hx])
                rw [List.map_cons, List.sum_cons, List.length_cons]; omega
            have := this F hF
            omega), ?_⟩
          have s6 : Same H (upd H5 pF (.lst (xs ++ [.ref p5]))) := same_new s15 nF
          have h6 : (upd H5 pF (.lst (xs ++ [.ref p5]))) p5 = some (.lst (d.map V.int)) := by rw [upd_ne n5F]; exact h5
          generalize upd H5 pF (.lst (xs ++ [.ref p5])) = H6 at *
          refine ⟨_, rfl, _, rfl, p5, _, rfl, .inl (sqL_of h6), _, 1, rfl, rfl, _, _, rfl, rfl, ?_⟩
          have hF2 : ∀ c ∈ F ++ [d], Mo p c := fun c hc => by
            rcases List.mem_append.mp hc with z | z
            · exact hF c z
            · rw [List.mem_singleton] at z; rw [z]; exact md
          have hs2 : ((F ++ [d]).map fun c => c.length - 1).sum = (F.map fun c => c.length - 1).sum + d0.length := by
            rw [List.map_append, List.sum_append]; simp [ed0]
          have I3 : PInv (FF.cl (p : Int) h) (FF.cl p v) (i + 1) ((F ++ [d]).map (FF.cl (p : Int))) := by rw [List.map_append]; exact I2
          refine ⟨_, rfl, rfl, _, rfl, ?_⟩
          by_cases hz : ((F ++ [d]).map fun c => c.length - 1).sum = h.length - 1
          · refine ifD (vint.mpr (by show ((h.length - 1 : Nat) : Int) - ((F.map fun c => c.length - 1).sum : Nat) - (((d.map V.int).length : Nat) - 1 : Int) = 0; omega)) ?_
            exact ⟨_, rfl, hq (F ++ [d]) H6 pF s6 t6.tab (part_done hp hh I3 hF2 (.inl hz))⟩
          · refine ifN (fun z => hz (by have z2 : ((h.length - 1 : Nat) : Int) - ((F.map fun c => c.length - 1).sum : Nat) - (((d.map V.int).length : Nat) - 1 : Int) = 0 := vint.mp z; omega)) ?_
            refine ⟨F ++ [d], some (.int (i : Nat)), some (.ref p5), ?_, s6, t6, hF2, I3⟩
            have e9 : ((h.length - 1 : Nat) : Int) - ((F.map fun c => c.length - 1).sum : Nat) - (((d.map V.int).length : Nat) - 1 : Int) = ((h.length - 1 : Nat) : Int) - (((F ++ [d]).map fun c => c.length - 1).sum : Nat) := by rw [hs2]; omega
            rw [← e9]; rfl
      · obtain ⟨F, x5, x6, rfl, s2, tF, hF, I⟩ := hW
        exact ⟨_, rfl, hq F H' pF s2 tF.tab (part_done hp hh I hF (.inr ⟨rfl, hw⟩))⟩
end
end FF
end
section
set_option Elab.async false
set_option linter.all false
set_option maxRecDepth 100000
set_option maxHeartbeats 4000000
/-! FW16a: sorted by a def that gives (length, list). -/
namespace FF
open PySem PySem.Spec PyProof.Rows L2
def Sx (X : Cx) : Cx := { X with A := X.A.in1.in1, xe := fun _ _ => False }
theorem sx_ok {X : Cx} (o : X.Ok) : (Sx X).Ok :=
  ⟨o.mod, o.kind, o.glob, o.blt, o.above, o.inj, o.has, o.cab, o.hd, o.frames, o.stk, o.exf, o.bs, o.bsz, o.noex, o.exfs, o.funs, o.frf⟩
section
variable {X : Cx} {pins : List (Addr × Obj)} {σ : L2.St} {H : Hp} {s : Shared}
theorem inv_in (I : Inv X pins σ H s) : Inv (Sx X) pins σ H s := ⟨sx_ok I.ok, I.os, I.bare, I.base, I.loc, I.cell, I.free, I.freeC, I.pin, I.hok, I.len⟩
theorem inv_out (o : X.Ok) (I : Inv (Sx X) pins σ H s) : Inv X pins σ H s := ⟨o, I.os, I.bare, I.base, I.loc, I.cell, I.free, I.freeC, I.pin, I.hok, I.len⟩
def spRank : Sp := fun vs H Q _ => ∃ (g : Addr) (r : List Int), vs = [.ref g] ∧ H g = some (.lst (r.map V.int)) ∧ ∀ H' t, Same H H' → H' t = some (.tup [.int r.length, .ref g]) → Q (.ref t) H'
/-- the key as data -/
def rankD (r : List Int) : PyData := .tuple [.int r.length, .list (r.map PyData.int)]
theorem rank_alike (rows : List (List Int)) : PySem.W.AllAlike (rows.map rankD) := by
  intro d hd d' hd'
  obtain ⟨r, _, rfl⟩ := List.mem_map.mp hd
  obtain ⟨r', _, rfl⟩ := List.mem_map.mp hd'
  simp [rankD, PySem.W.alike, PySem.W.alikeAll, PySem.W.alike_ints]
theorem rank_sortable (rows : List (List Int)) : PySem.W.Sortable (rows.map rankD) := .inl fun d hd => by
  obtain ⟨r, _, rfl⟩ := List.mem_map.mp hd
  exact ⟨_, _, rfl⟩
theorem rank_depth (r : List Int) : (rankD r).depth ≤ 8 := by
  have := depth_ints r
  simp [rankD, PyData.depth, PyData.depthAll, this]
theorem vals_refs : ∀ {ps : List Addr} {its : List Value}, Vals (ps.map V.ref) its → its = ps.map Value.ref
  | [], [], _ => rfl
  | [], _ :: _, h => by cases h
  | _ :: _, [], h => by cases h
  | p :: ps, v :: its, h => by
    cases h with
    | cons h1 t =>
      rw [List.map_cons, ← vals_refs t]
      obtain rfl : v = Value.ref p := h1
      rfl
theorem each_idx {α β : Type} {R : α → β → Prop} : ∀ {as : List α} {bs : List β}, as.length = bs.length → (∀ (i : Nat) a b, as[i]? = some a → bs[i]? = some b → R a b) → PySem.W.EachIs R as bs
  | [], [], _, _ => .nil
  | [], _ :: _, h, _ => by cases h
  | _ :: _, [], h, _ => by cases h
  | a :: as, b :: bs, h, k => .cons (k 0 a b rfl rfl) (each_idx (by simpa using h) fun i x y h1 h2 => k (i + 1) x y (by simpa using h1) (by simpa using h2))
theorem reads_ints {h : Heap} : ∀ {r : List Int} {its : List Value}, Vals (r.map V.int) its → ReadsAll h its (r.map PyData.int) []
  | [], [], _ => .nil
  | [], _ :: _, h => by cases h
  | _ :: _, [], h => by cases h
  | n :: r, v :: its, e => by
    cases e with
    | cons h1 t =>
      obtain ⟨tk, rfl⟩ := h1
      exact ReadsAll.cons (as := []) (bs := []) (Reads.int n tk) (reads_ints t)
/-- a tuple (int, list of ints) reads as the key -/
theorem reads_rank {P : Program} {w : World} {h : Heap} (hok : HOk P w H h) {t g : Addr} {r : List Int} (ht : H t = some (.tup [.int r.length, .ref g])) (hg : H g = some (.lst (r.map V.int))) : ∃ as, Reads h (.ref t) (rankD r) as := by
  obtain ⟨_, its, rv, o, ho, hc, n, hd⟩ := hok t _ ht
  obtain ⟨_, gs, m, rg, hgo⟩ := hok g _ hg
  cases rv with
  | cons h1 t1 =>
    cases t1 with
    | cons h2 t2 =>
      cases t2
      obtain ⟨tk, rfl⟩ := h1
      cases h2
      exact ⟨_, Reads.tuple (vs := #[_, _]) ho hc hd (ReadsAll.cons (Reads.int _ tk) (ReadsAll.cons (Reads.list hgo rfl rfl (reads_ints rg)) .nil))⟩
/-- where a list stands in the abstract heap -/
theorem hok_lst {P : Program} {w : World} {h : Heap} {a : Addr} {xs : List V} (hok : HOk P w H h) (ha : H a = some (.lst xs)) : ∃ its n, Vals xs its ∧ xs.length ≤ sizeLine ∧ h.get? a = some (PyProof.Rows.seqObj "list" its.toArray n) := by
  obtain ⟨h1, its, n, h2, h3⟩ := hok a _ ha
  exact ⟨its, n, h2, h1, h3⟩
def atO (a : Addr) (o : Obj) : HO := .ext fun h => h.get? a = some o
theorem atO_ok {P : Program} {w : World} {H : Hp} {h : Heap} {a : Addr} {o : Obj} (e : h.get? a = some o) : ObjOk P w H h a (atO a o) := ⟨e, ⟨o, e⟩, fun h1 h2 e1 k => k o e1⟩
def unref : Value → Addr
  | .ref p => p
  | _ => 0
theorem perm_refs {out : List Value} {ps : List Addr} (h : out.Perm (ps.map Value.ref)) : ∃ qs : List Addr, out = qs.map Value.ref ∧ qs.Perm ps := by
  refine ⟨out.map unref, ?_, ?_⟩
  · rw [List.map_map]
    have : ∀ v ∈ out, (Value.ref ∘ unref) v = v := fun v hv => by
      obtain ⟨p, _, rfl⟩ := List.mem_map.mp (h.mem_iff.mp hv)
      rfl
    rw [List.map_congr_left this, List.map_id'']
    intro x; rfl
  · have := h.map unref
    rw [List.map_map] at this
    have e : ps.map (unref ∘ Value.ref) = ps := by
      have : ∀ p ∈ ps, (unref ∘ Value.ref) p = p := fun p _ => rfl
      rw [List.map_congr_left this, List.map_id'']
      intro x; rfl
    rwa [e] at this
theorem sorted_perm {κ : PyProof.Rows.KeyKind} {ks vs : List Value} (h : ks.length = vs.length) : (PySem.W.sortVals κ false ks vs).Perm vs := by
  unfold PySem.W.sortVals
  have h1 := (List.mergeSort_perm (ks.zip vs) (PySem.W.sortLe κ.toKeyOrd false fun p : Keyed => PySem.W.keyD κ p.1)).map Prod.snd
  have h2 : (ks.zip vs).map Prod.snd = vs := by rw [List.map_snd_zip]; omega
  rwa [h2] at h1
theorem vals_mk : ∀ qs : List Addr, Vals (qs.map V.ref) (qs.map Value.ref)
  | [] => .nil
  | q :: qs => .cons (show RelV (V.ref q) (Value.ref q) from rfl) (vals_mk qs)
structure RankInv (X : Cx) (pins : List (Addr × Obj)) (σ : L2.St) (H : Hp) (ps : List Addr) (lens : Nat → Int) (a kS : Addr) (oA : Obj) (j : Nat) (s' : Shared) : Prop where
  ex : ∃ (H' : Hp) (ks : List V), Inv (Sx X) pins σ H' s' ∧ Same H H' ∧ H' a = some (atO a oA) ∧ H' kS = some (.lst ks) ∧ ks.length = j ∧ ∀ (i : Nat) x g, ks[i]? = some x → ps[i]? = some g → ∃ t, x = V.ref t ∧ H' t = some (.tup [.int (lens i), .ref g])
theorem sort_by {k : Nat} {f l : Addr} {fd : FuncData} {ps : List Addr} {rows : List (List Int)} {Q : VK} (F : FnOk X.prog X.w X.K X.mg X.base CX0 k f fd ["g"] spRank) (hr : Room (k + 2) X.A) (hb : Binds X.K fd ["g"] []) (hex : X.ex = []) (h0 : ∀ b, H b = none → X.H_0 b = none)
    (I : Inv X pins σ H s) (hl : SqL X.K H l (ps.map V.ref)) (lr : ps.length = rows.length) (hrow : ∀ (i : Nat) p r, ps[i]? = some p → rows[i]? = some r → H p = some (.lst (r.map V.int)))
    (q : ∀ H' D qs, Same H H' → H D = none → List.Perm qs ps → H' D = some (.lst (qs.map V.ref)) → Q (.ref D) H') :
    wpAny (model X.prog X.w) X.A (call (.builtin "sorted") [.ref l] [(Str.ofString "key", .ref f)]) (EP X pins σ Q) X.xe s := by
  obtain ⟨its, rv, hL, hz⟩ := I.list hl
  obtain rfl := vals_refs rv
  rw [List.length_map] at hz
  have hz2 : (ps.map Value.ref).length ≤ sizeLine := by rw [List.length_map]; exact hz
  refine PySem.W.sorted_of_sort hL.isList hz2 (ksk_s1 _ _) (fun x => ksk_l1 _ _) fun E' => ?_
  rw [ksk_t1]
  obtain ⟨a, ea⟩ : ∃ a, a = s.heap.objs.size + 1 := ⟨_, rfl⟩
  have c0 := PySem.W.copyHeap_at s.heap (ps.map Value.ref)
  have cO : ∀ b o, s.heap.get? b = some o → (PySem.W.copyHeap s.heap (ps.map Value.ref)).get? b = some o := fun b o e => PySem.W.copyHeap_old e
  rw [← ea] at c0 ⊢
  obtain ⟨hp, ehp⟩ : ∃ hp, hp = PySem.W.copyHeap s.heap (ps.map Value.ref) := ⟨_, rfl⟩
  rw [← ehp] at c0 cO ⊢
  have haN : s.heap.get? a = none := Heap.get?_none_of_le (by omega)
  obtain ⟨e1, c1⟩ : ∃ e1, (hp.update a (Obj.mapSeq fun _ => (#[] : Array Value))).get? a = some (PyProof.Rows.seqObj "list" #[] e1) := ⟨_, get?_update_seq c0 fun _ => #[]⟩
  have cN : ∀ b o, b ≠ a → hp.get? b = some o → (hp.update a (Obj.mapSeq fun _ => (#[] : Array Value))).get? b = some o := fun b o hb e => by rw [Heap.get?_update_ne _ _ _ _ hb]; exact e
  have ltA : a < (hp.update a (Obj.mapSeq fun _ => (#[] : Array Value))).objs.size := Heap.lt_size c1
  unfold ksk_tree
  refine wpAny_bind (listItems_at c0 rfl (wpAny_bind (listUpdate_at c0 rfl (wpAny_bind (seqEpoch_at c1 rfl (wpAny_bind (wpAny_newTuple (wpAny_bind (wpAny_newList (wpAny_holding ?_) (Nat.zero_le _))) (by simpa using hz2))))) (by rw [List.size_toArray]; exact hz2) (Nat.zero_le _))))
  generalize hp.update a (Obj.mapSeq fun _ => (#[] : Array Value)) = hq at *
  obtain ⟨h2, e2⟩ : ∃ h2, h2 = hq.push { cls := .type "tuple", data := .seq ((ps.map Value.ref).toArray.toList).toArray } := ⟨_, rfl⟩
  have k2 : ∀ b o, hq.get? b = some o → h2.get? b = some o := fun b o e => by rw [e2]; exact Heap.get?_push_of_some _ e
  have z2 : h2.objs.size = hq.objs.size + 1 := by rw [e2, size_push']
  show wpAny _ _ _ _ _ { s with heap := (hq.push _).push _ }
  rw [← e2]
  obtain ⟨kS, eK⟩ : ∃ kS, kS = h2.objs.size := ⟨_, rfl⟩
  rw [← eK]
  obtain ⟨h3, e3⟩ : ∃ h3, h3 = h2.push { cls := .type "list", data := .seq ([] : List Value).toArray } := ⟨_, rfl⟩
  have k3 : ∀ b o, h2.get? b = some o → h3.get? b = some o := fun b o e => by rw [e3]; exact Heap.get?_push_of_some _ e
  have n3 : h3.get? kS = some (PyProof.Rows.seqObj "list" #[] 0) := by rw [e3, eK]; exact Heap.get?_push_size _ rfl
  show wpAny _ _ _ _ _ { s with heap := h2.push _ }
  rw [← e3]
  have hne : kS ≠ a := by omega
  have oldO : ∀ b o, s.heap.get? b = some o → b ≠ a ∧ h2.get? b = some o := fun b o e => by
    have hb : b ≠ a := Nat.ne_of_lt (Nat.lt_of_lt_of_le (Heap.lt_size e) (by omega))
    exact ⟨hb, k2 b o (cN b o hb (cO b o e))⟩
  have I1 : Inv (Sx X) pins σ (upd H a (atO a (PyProof.Rows.seqObj "list" #[] e1))) { s with heap := h2, toks := s.toks } := (inv_in I).laidN (fun b o e => (oldO b o e).2) haN (I.hok.fresh (by omega)) (atO_ok (k2 _ _ c1))
  have hkN : h2.get? kS = none := Heap.get?_none_of_le (by omega)
  have hkS0 : s.heap.get? kS = none := Heap.get?_none_of_le (by omega)
  have hkH : upd H a (atO a (PyProof.Rows.seqObj "list" #[] e1)) kS = none := by rw [upd_ne hne]; exact I.hok.fresh (by omega)
  have I2 : Inv (Sx X) pins σ (upd (upd H a (atO a (PyProof.Rows.seqObj "list" #[] e1))) kS (.lst [])) { s with heap := h3, toks := s.toks } := I1.laidN k3 hkN hkH ⟨Nat.zero_le _, [], 0, .nil, n3⟩
  have hlen : (ps.map Value.ref).length = ps.length := List.length_map _
  have lens : ∀ i, i < ps.length → ∃ r, rows[i]? = some r := fun i h => ⟨_, List.getElem?_eq_getElem (by omega)⟩
  have dA : H a = none := I.hok.fresh (by omega)
  have dK : H kS = none := I.hok.fresh (by omega)
  have s02 : Same H (upd (upd H a (atO a (PyProof.Rows.seqObj "list" #[] e1))) kS (.lst [])) := same_nw (same_nw (Same.refl _) dA) hkH
  have start : RankInv X pins σ H ps (fun i => ((rows.getD i []).length : Nat)) a kS (PyProof.Rows.seqObj "list" #[] e1) 0 { s with heap := h3 } :=
    ⟨_, [], I2, s02, by rw [upd_ne hne.symm, upd_same], upd_same, rfl, fun i x g h => by simp at h⟩
  unfold ksk_rest
  refine wpAny_bind (wpAny_rule ?_)
  rw [List.forIn_toArray]
  refine wpAny_bind (ksk_fold (fun i s' => RankInv X pins σ H ps (fun i => ((rows.getD i []).length : Nat)) a kS (PyProof.Rows.seqObj "list" #[] e1) i s') (ps.map Value.ref) 0 _ start (fun j x s' hx hJ => ?_) fun s' hJ => ?_)
  · simp only [Nat.zero_add] at hJ ⊢
    obtain ⟨H', ks, J, sm, ja, jk, lk, hks⟩ := hJ
    obtain ⟨g, rfl, hg⟩ : ∃ g, x = Value.ref g ∧ ps[j]? = some g := by
      rw [List.getElem?_map] at hx
      cases e : ps[j]? with
      | none => rw [e] at hx; cases hx
      | some g => rw [e] at hx; exact ⟨g, (Option.some.inj hx).symm, rfl⟩
    obtain ⟨r, hr2⟩ := lens j (List.getElem?_eq_some_iff.mp hg).1
    have hgl := hrow j g r hg hr2
    have run := run_fn (X := Sx X) (E := E0) (us := [.ref g]) (vs := [.ref g]) (Q := fun v H2 => Same H' H2 ∧ ∃ t, v = V.ref t ∧ H2 t = some (.tup [.int r.length, .ref g])) F (Room.in1 (Room.in1 hr)) hb .nil pass0 J (.cons rfl .nil) ⟨g, r, rfl, sm _ _ hgl, fun H2 t a1 a2 => ⟨a1, t, rfl, a2⟩⟩
    refine wpAny_bind (wpAny_attempt (wpAny_mono run (fun v s2 hq2 => ?_) fun _ _ hF => hF.elim))
    obtain ⟨vv, H2, J2, rvv, sm2, t, rfl, ht⟩ := hq2
    obtain rfl : v = Value.ref t := rvv
    obtain ⟨kA, m, rk, zk, ko⟩ := hok_lst J2.hok (sm2 _ _ jk)
    have lkA : kA.length = ks.length := rk.length.symm
    have hjl : j < ps.length := (List.getElem?_eq_some_iff.mp hg).1
    obtain ⟨m2, ko2⟩ : ∃ m2, (s2.heap.update kS (Obj.mapSeq (·.push (Value.ref t)))).get? kS = some (PyProof.Rows.seqObj "list" (kA.toArray.push (Value.ref t)) m2) := ⟨_, get?_update_seq ko (·.push (Value.ref t))⟩
    have J3 : Inv (Sx X) pins σ (upd H2 kS (.lst (ks ++ [.ref t]))) { s2 with heap := s2.heap.update kS (Obj.mapSeq (·.push (Value.ref t))), toks := s2.toks } :=
      J2.write (by rw [sm2 _ _ jk]; trivial) (.inl rfl) (fun b u hb e => by rw [Heap.get?_update_ne _ _ _ _ hb]; exact e) ⟨_, ko2⟩ ⟨by simp; omega, kA ++ [.ref t], m2, rk.append (.cons (show RelV (V.ref t) (Value.ref t) from rfl) .nil), by rw [ko2]; simp [PyProof.Rows.seqObj]⟩
    refine wpAny_bind (listUpdate_at ko rfl (wpAny_pure ⟨rfl, _, _, J3, ?_, ?_, upd_same, by simp; omega, fun i x g' h1 h2 => ?_⟩) (by rw [List.size_toArray]; omega) (by simp; omega))
    · exact same_new (sm.trans sm2) dK
    · rw [upd_ne hne.symm]; exact sm2 _ _ ja
    · have hK2 : H2 kS = some (.lst ks) := sm2 _ _ jk
      by_cases hi : i < ks.length
      · rw [List.getElem?_append_left hi] at h1
        obtain ⟨t', e1', e2'⟩ := hks i x g' h1 h2
        refine ⟨t', e1', ?_⟩
        have e3' := sm2 _ _ e2'
        rw [upd_ne (fun z => by rw [z, hK2] at e3'; cases e3')]
        exact e3'
      · have hij : i = j := by
          have := (List.getElem?_eq_some_iff.mp h1).1
          rw [List.length_append, List.length_singleton] at this
          omega
        subst hij
        rw [List.getElem?_append_right (by omega), lk, Nat.sub_self] at h1
        obtain rfl : V.ref t = x := Option.some.inj h1
        rw [hg] at h2
        obtain rfl := Option.some.inj h2
        refine ⟨t, rfl, ?_⟩
        rw [upd_ne (fun z => by rw [z, hK2] at ht; cases ht)]
        have : rows.getD i [] = r := by rw [List.getD_eq_getElem?_getD, hr2]; rfl
        show H2 t = some (.tup [.int ((rows.getD i []).length : Nat), .ref g])
        rw [this]; exact ht
  · obtain ⟨H', ks, J, sm, ja, jk, lk, hks⟩ := hJ
    rw [Nat.zero_add, hlen] at lk
    obtain ⟨kA, m, rk, zk, ko⟩ := hok_lst J.hok jk
    have lkA : kA.length = ps.length := by rw [← rk.length, lk]
    refine wpAny_bind (listItems_at ko rfl ?_)
    have hread : PySem.W.EachIs (fun v d => ∃ as, Reads s'.heap v d as) kA.toArray.toList (rows.map rankD) := by
      refine each_idx (by simp [lkA, lr]) fun i v d h1 h2 => ?_
      rw [List.getElem?_map] at h2
      cases e : rows[i]? with
      | none => rw [e] at h2; cases h2
      | some r =>
        rw [e] at h2
        obtain rfl : rankD r = d := Option.some.inj h2
        have hi : i < ps.length := by have := (List.getElem?_eq_some_iff.mp e).1; omega
        have hi2 : i < ks.length := by omega
        obtain ⟨t, e1', e2'⟩ := hks i ks[i] ps[i] (List.getElem?_eq_getElem hi2) (List.getElem?_eq_getElem hi)
        obtain ⟨u, e3', e4'⟩ := rk.get (i := i) (x := ks[i]) (List.getElem?_eq_getElem hi2)
        have : v = u := by
          simp at h1
          rw [h1] at e3'
          exact Option.some.inj e3'
        subst this
        rw [e1'] at e4'
        obtain rfl : v = Value.ref t := e4'
        have er : rows.getD i [] = r := by rw [List.getD_eq_getElem?_getD, e]; rfl
        have e5' : H' t = some (.tup [.int ((rows.getD i []).length : Nat), .ref ps[i]]) := e2'
        rw [er] at e5'
        exact reads_rank J.hok e5' (sm _ _ (hrow i _ r (List.getElem?_eq_getElem hi) e))
    have na : s'.heap.get? a = some (PyProof.Rows.seqObj "list" #[] e1) := (J.hok a _ ja).1
    have S := PySem.W.SortsAt.data (prog := X.prog) (w := X.w) (A := X.A.in1.in1) (s := s') hread (rank_alike rows) (rank_sortable rows) (fun d hd => by
      obtain ⟨r, _, rfl⟩ := List.mem_map.mp hd
      have h1 := rank_depth r
      have h2 := hr.un
      show X.A.units + 1 + 1 + _ < cLine
      omega)
    -- the heap without the two
    have J4 : Inv (Sx X) pins σ (upd H' kS (atO kS (PyProof.Rows.seqObj "list" kA.toArray m))) { s' with heap := s'.heap, toks := s'.toks } :=
      J.write (by rw [jk]; trivial) (.inl rfl) (fun b u hb e => e) ⟨_, ko⟩ (atO_ok ko)
    obtain ⟨G1, g1, g2, J5⟩ := J4.untrack (upd_same) (fr0_none (h0 kS dK)) hex
    have ja5 : delH (upd H' kS (atO kS (PyProof.Rows.seqObj "list" kA.toArray m))) kS a = some (atO a (PyProof.Rows.seqObj "list" #[] e1)) := by
      unfold delH; rw [if_neg hne.symm, upd_ne hne.symm]; exact ja
    obtain ⟨G2, g3, g4, J6⟩ := J5.untrack ja5 (fr0_none (h0 a dA)) hex
    have kp : PySem.W.KeepsBut a G2 s'.heap := fun b o _ e => g1 _ _ (g3 _ _ e)
    have hG : G2.get? kS = none := by
      cases e : G2.get? kS with
      | none => rfl
      | some o => have := g3 _ _ e; rw [g2] at this; cases this
    refine PySem.W.keyH_end kp hG ko na hne S (by simp [lkA]) hz2 fun h' tk c k' hres => ⟨rfl, ?_⟩
    obtain ⟨qs, eqs, pq⟩ := perm_refs (sorted_perm (κ := PySem.W.dataKind s'.heap (rows.map rankD)) (ks := kA.toArray.toList) (vs := ps.map Value.ref) (by simp [lkA]))
    rw [eqs] at hres
    have hfree : delH (delH (upd H' kS (atO kS (PyProof.Rows.seqObj "list" kA.toArray m))) kS) a a = none := delH_same
    have J7 := J6.laidN (h' := h') (t' := tk) (o := .lst (qs.map V.ref)) (fun b u e => k' b u (fun z => by rw [z, g4] at e; cases e) e) g4 hfree ⟨by rw [List.length_map, pq.length_eq]; exact hz, qs.map Value.ref, c, vals_mk qs, hres⟩
    refine ⟨.ref a, _, inv_out I.ok J7, rfl, q _ a qs (fun b o e => ?_) dA pq upd_same⟩
    have hb1 : b ≠ a := fun z => by rw [z, dA] at e; cases e
    have hb2 : b ≠ kS := fun z => by rw [z, dK] at e; cases e
    rw [upd_ne hb1]
    unfold delH
    rw [if_neg hb1, if_neg hb2, upd_ne hb2]
    exact sm b o e
def rSortF (K : PySem.W.Frag) (H0 : Hp) (f : Addr) : List V → List V → Hp → VK → Prop := fun vs zs H Q => ∃ (l : Addr) (ps : List Addr) (rows : List (List Int)), vs = [V.ref l] ∧ zs = [V.ref f] ∧ (∀ b, H b = none → H0 b = none) ∧ SqL K H l (ps.map V.ref) ∧ ps.length = rows.length ∧
  (∀ (i : Nat) p r, ps[i]? = some p → rows[i]? = some r → H p = some (.lst (r.map V.int))) ∧ ∀ H' D qs, Same H H' → H D = none → List.Perm qs ps → H' D = some (.lst (qs.map V.ref)) → Q (.ref D) H'
theorem cr_sortF {k : Nat} {f : Addr} {fd : FuncData} (F : FnOk X.prog X.w X.K X.mg X.base CX0 k f fd ["g"] spRank) (hr : Room (k + 2) X.A) (hb : Binds X.K fd ["g"] []) (hex : X.ex = []) : CallRK X (.builtin "sorted") [Str.ofString "key"] (rSortF X.K X.H_0 f) := by
  intro pins s σ H vs zs us ws Q I r rz h
  obtain ⟨l, ps, rows, rfl, rfl, h0, hl, lr, hrow, q⟩ := h
  obtain rfl := Vals.ref1 r
  obtain ⟨w1, rfl, e1⟩ := vals1 rz
  obtain rfl : w1 = Value.ref f := e1
  exact sort_by F hr hb hex h0 I hl lr hrow q
end
end FF
end
section
set_option Elab.async false
set_option linter.all false
set_option maxRecDepth 100000
set_option maxHeartbeats 4000000
/-! FW16: rank, split. -/
namespace FF
open PySem PySem.Spec PyProof.Rows L2
/-- the pieces of a polynomial over rests -/
structure PcR (p : Nat) (g : List Int) (Ps : List (List Int)) : Prop where
  cn : ∀ c ∈ Ps, Mo p c
  prd : FF.cl (p : Int) g = prd (Ps.map (FF.cl (p : Int)))
structure SplitR (p : Nat) (g : List Int) (Ps : List (List Int)) : Prop extends PcR p g Ps where
  smp : ∀ c ∈ Ps, Smp (FF.cl (p : Int) c)
theorem PcR.dv {p : Nat} {g : List Int} {Ps : List (List Int)} (R : PcR p g Ps) {c : List Int} (h : c ∈ Ps) : Dv (FF.cl (p : Int) c) (FF.cl p g) := by
  rw [R.prd]; exact mem_dv_prd (List.mem_map_of_mem h)
theorem len_sum {p : Int} : ∀ {F : List (List Int)}, (∀ c ∈ F, Mo p c) → F.length ≤ (F.map fun c => c.length - 1).sum
  | [], _ => by simp
  | c :: F, h => by
    have h1 := (h c (by simp)).len
    have h2 := len_sum (p := p) (F := F) fun x hx => h x (by simp [hx])
    rw [List.map_cons, List.sum_cons, List.length_cons]; omega
theorem PcR.len {p : Nat} {g : List Int} {Ps : List (List Int)} (R : PcR p g Ps) (hp : IsP p) (hg : Mo p g) : (Ps.map fun c => c.length - 1).sum = g.length - 1 := by
  have m1 := prd_mon R.cn
  rw [← R.prd] at m1
  exact m1.deg_eq hg.mon hp.one
theorem PcR.le {p : Nat} {g : List Int} {Ps : List (List Int)} (R : PcR p g Ps) (hp : IsP p) (hg : Mo p g) : Ps.length ≤ g.length - 1 := by
  rw [← R.len hp hg]; exact len_sum R.cn
theorem PcR.clen {p : Nat} {g : List Int} {Ps : List (List Int)} (R : PcR p g Ps) (hp : IsP p) (hg : Mo p g) {c : List Int} (h : c ∈ Ps) : c.length ≤ g.length := by
  obtain ⟨u, hu⟩ := R.dv h
  have := Mon.le_of_dvd hg.mon (R.cn c h).mon hu hp.one
  have := (R.cn c h).len
  have := hg.len
  omega
theorem smp_of_all {p m : Nat} {g : List Int} {Ps ways : List (List Int)} (hp : IsP p) (hs : Cop (FF.cl (p : Int) g) (sl (FF.cl p g))) (W : WaysR p m g ways) (R : PcR p g Ps)
    (h : ∀ j, j < ways.length → ∀ c ∈ Ps, ∃ s : Int, Dv (FF.cl (p : Int) c) (FF.cl p (ways.getD j []) - C s)) : SplitR p g Ps := by
  refine ⟨R, fun c hc => ?_⟩
  obtain ⟨i, hi, e⟩ := List.mem_iff_getElem.mp hc
  obtain ⟨c2, e1, e2, _⟩ := pieces_at hs R.prd i (by simpa using hi)
  have e3 : (Ps.map (FF.cl (p : Int))).getD i 1 = FF.cl p c := by
    rw [List.getD_eq_getElem?_getD, List.getElem?_map, List.getElem?_eq_getElem hi, e]; rfl
  rw [e3] at e1 e2
  exact smp_all hp W.span e2 e1 fun j hj => h j hj c hc
theorem smp_of_count {p m : Nat} {g : List Int} {Ps ways : List (List Int)} (hp : IsP p) (hs : Cop (FF.cl (p : Int) g) (sl (FF.cl p g))) (W : WaysR p m g ways) (R : PcR p g Ps) (hl : Ps.length = ways.length) : SplitR p g Ps := by
  refine ⟨R, fun c hc => ?_⟩
  obtain ⟨i, hi, e⟩ := List.mem_iff_getElem.mp hc
  have hg : ∀ i (hi : i < Ps.length), (Ps.map (FF.cl (p : Int))).getD i 1 = FF.cl p Ps[i] := fun i hi => by
    rw [List.getD_eq_getElem?_getD, List.getElem?_map, List.getElem?_eq_getElem hi]; rfl
  have := smp_count (H := fun i => (Ps.map (FF.cl (p : Int))).getD i 1) hp W.span (fun i hi => ?_) (fun i hi => ?_) i (by omega)
  · rw [hg i hi, e] at this; exact this
  · have hi2 : i < Ps.length := by omega
    have hc := R.cn _ (List.getElem_mem hi2)
    refine ⟨Ps[i].length - 1, by have := hc.len; omega, ?_⟩
    rw [hg i hi2]; exact hc.mon
  · have hi2 : i < Ps.length := by omega
    obtain ⟨c2, e1, e2, e3⟩ := pieces_at hs R.prd i (by simpa using hi2)
    exact ⟨c2, e1, e2, fun j hj hn => e3 j (by simp; omega) hn⟩
theorem row_ne {H : Hp} {p D : Addr} {r : List Int} {qs : List Addr} (h1 : H p = some (.lst (r.map V.int))) (hr : r ≠ []) (h2 : H D = some (.lst (qs.map V.ref))) : p ≠ D := by
  intro z
  rw [z, h2] at h1
  match r, hr with
  | a :: r, _ =>
    match qs with
    | [] => simp at h1
    | q :: qs => simp at h1
theorem TabA.ext {H : Hp} {D D2 : Addr} {M F : List (List Int)} (t : TabN H D M) (k : Tab H D2 F) (hF : ∀ r ∈ F, r ≠ []) : ∃ xs zs : List V, H D = some (.lst xs) ∧ xs.length = M.length ∧ H D2 = some (.lst zs) ∧ zs.length = F.length ∧ TabN (upd H D (.lst (xs ++ zs))) D (M ++ F) := by
  obtain ⟨ps, h1, l1, k1⟩ := t
  obtain ⟨qs, h2, l2, k2⟩ := k
  refine ⟨_, _, h1, by simp [l1], h2, by simp [l2], ps ++ qs, by rw [upd_same, List.map_append], by simp [l1, l2], fun i p r e1 e2 => ?_⟩
  by_cases hi : i < ps.length
  · rw [List.getElem?_append_left hi] at e1
    rw [List.getElem?_append_left (by omega)] at e2
    obtain ⟨a1, a2⟩ := k1 i p r e1 e2
    exact ⟨by rw [upd_ne a2]; exact a1, a2⟩
  · rw [List.getElem?_append_right (by omega)] at e1
    rw [List.getElem?_append_right (by omega), ← l1] at e2
    have a1 := k2 _ p r e1 e2
    have a2 := row_ne a1 (hF r (List.mem_of_getElem? e2)) h1
    exact ⟨by rw [upd_ne a2]; exact a1, a2⟩
def unint : V → Int
  | .int n => n
  | _ => 0
/-- the ints of a list in the heap -/
def cont (H : Hp) (a : Addr) : List Int := match H a with
  | some (.lst xs) => xs.map unint
  | _ => []
theorem cont_of {H : Hp} {a : Addr} {r : List Int} (h : H a = some (.lst (r.map V.int))) : cont H a = r := by
  unfold cont
  rw [h]
  show (r.map V.int).map unint = r
  rw [List.map_map]
  have : ∀ x ∈ r, (unint ∘ V.int) x = x := fun x _ => rfl
  rw [List.map_congr_left this, List.map_id'']
  intro x; rfl
theorem tab_perm {H H' : Hp} {D : Addr} {ps qs : List Addr} {M : List (List Int)} (l : ps.length = M.length) (k : ∀ (i : Nat) p r, ps[i]? = some p → M[i]? = some r → H p = some (.lst (r.map V.int))) (s : Same H H') (pq : List.Perm qs ps) (hD : H' D = some (.lst (qs.map V.ref))) :
    ∃ M' : List (List Int), M'.Perm M ∧ Tab H' D M' := by
  have eM : M = ps.map (cont H) := by
    apply List.ext_getElem
    · simp [l]
    · intro i h1 h2
      rw [List.getElem_map, cont_of (k i _ _ (List.getElem?_eq_getElem (by omega)) (List.getElem?_eq_getElem h1))]
  refine ⟨qs.map (cont H), by rw [eM]; exact pq.map _, qs, hD, by simp, fun i p r e1 e2 => ?_⟩
  rw [List.getElem?_map, e1] at e2
  obtain rfl : cont H p = r := Option.some.inj e2
  have hp := pq.mem_iff.mp (List.mem_of_getElem? e1)
  obtain ⟨j, hj, e⟩ := List.mem_iff_getElem.mp hp
  have := k j p _ (by rw [List.getElem?_eq_getElem hj, e]) (List.getElem?_eq_getElem (by omega))
  rw [cont_of this]
  exact s _ _ this
theorem SplitR.perm {p : Nat} {g : List Int} {Ps Qs : List (List Int)} (R : SplitR p g Ps) (h : Qs.Perm Ps) : SplitR p g Qs :=
  ⟨⟨fun c hc => R.cn c (h.mem_iff.mp hc), by rw [R.prd]; exact (prd_perm (h.map _)).symm⟩, fun c hc => R.smp c (h.mem_iff.mp hc)⟩
def spSplit (K : PySem.W.Frag) (mg : Str → Option Value) : Sp := fun vs H Q _ => ∃ (q b : Addr) (p : Nat) (g : List Int), vs = [.ref q, .ref b] ∧ Kd mg H q p false ∧ IsP p ∧ (p : Int) < 2 ^ 62 ∧ SqL K H b (g.map V.int) ∧ Mo p g ∧ g.length ≤ 50 ∧ Cop (FF.cl (p : Int) g) (sl (FF.cl p g)) ∧
  ∀ (Ps : List (List Int)) (H' : Hp) (D : Addr), Same H H' → H D = none → Tab H' D Ps → SplitR p g Ps → Q (.ref D) H'
section
variable {P : Program} {w : World} {K : PySem.W.Frag} {mg : Str → Option Value} {base : Heap}
theorem ok_rank (T : TX K mg) : FO P w K mg base 1 "rank" ["g"] spRank := by
  refine FO.mk T.d_rank sc_rank (fun _ _ _ _ _ _ us hl => match us, hl with | [_], _ => rfl) (fun vs H Q E h => ?_) (fun f cdv A outer s H vs Q E hr h => ?_)
  · obtain ⟨g, r, rfl, _⟩ := h; rfl
  · obtain ⟨g, r, rfl, hg, hq⟩ := h
    refine ⟨_, (pss_one (ps_ret (pe_tup (pa_cons (pe_callB (r := rLenK K) call_len_seq (by rfl) T.b_len (by decide +kernel) (pa_cons (pv 0) pa_nil)) (pa_cons (pv 0) pa_nil))))), ?_⟩
    refine ⟨_, rfl, g, _, rfl, .inl (sqL_of hg), ?_⟩
    refine ⟨_, rfl, by show 2 ≤ sizeLine; decide, fun t ht => ?_⟩
    refine hq _ t (same_nw (Same.refl _) ht) ?_
    rw [upd_same, List.length_map]
theorem ok_split (T : TX K mg) : FO P w K mg base 8 "split" ["kind", "g"] (spSplit K mg) := by
  refine FO.mk T.d_split sc_split (fun _ _ _ _ _ _ us hl => match us, hl with | [_, _], _ => rfl) (fun vs H Q E h => ?_) (fun f cdv A outer s H vs Q E hr h => ?_)
  · obtain ⟨q, b, p, g, rfl, _⟩ := h; rfl
  · obtain ⟨q, b, p, g, rfl, hK, hp, p62, hg, mg0, lg, hsf, hq⟩ := h
    have hN := hK.bnd
    obtain ⟨cg, g0, eg, hg0⟩ := id mg0
    obtain ⟨f_rank, fd_rank, g_rank, k_rank, b_rank, G_rank⟩ := ok_rank (P := P) (w := w) (base := base) T
    obtain ⟨f_parted_by, fd_parted_by, g_parted_by, k_parted_by, b_parted_by, G_parted_by⟩ := ok_parted_by (P := P) (w := w) (base := base) T
    obtain ⟨f_kept_rows, fd_kept_rows, g_kept_rows, k_kept_rows, b_kept_rows, G_kept_rows⟩ := ok_kept_rows (P := P) (w := w) (base := base) T
    obtain ⟨f_trimmed, fd_trimmed, g_trimmed, k_trimmed, b_trimmed, G_trimmed⟩ := ok_trimmed (P := P) (w := w) (base := base) T
    refine ⟨_, (pss_cons (ps_set (i := 2) sc_split.nd rfl (Or.inl rfl) (pe_lst (pa_cons (pe_call G_trimmed (hr.mono (by decide)) (by rfl) g_trimmed k_trimmed b_trimmed .nil pass0 (pa_cons (pv 0) (pa_cons (pv 1) pa_nil))) pa_nil)))
      (pss_cons (ps_set (i := 3) sc_split.nd rfl (Or.inl rfl) (pe_call G_kept_rows (hr.mono (by decide)) (by rfl) g_kept_rows k_kept_rows b_kept_rows .nil pass0 (pa_cons (pv 0) (pa_cons (pv 1) pa_nil))))
      (pss_cons (ps_for PassesOwn.never rfl (pi_list (pv 3)) (pg_name (i := 4) sc_split.nd rfl (Or.inl rfl))
        (pss_cons (ps_if (pt_cmpR op_eq (pe_callB (r := rLenK K) call_len_seq (by rfl) T.b_len (by decide +kernel) (pa_cons (pv 2) pa_nil)) (pe_callB (r := rLenK K) call_len_seq (by rfl) T.b_len (by decide +kernel) (pa_cons (pv 3) pa_nil)) (nomark _)) (pss_one ps_break) pss_nil)
        (pss_cons (ps_set (i := 5) sc_split.nd rfl (Or.inl rfl) (pe_lst pa_nil))
        (pss_cons (ps_for PassesOwn.never rfl (pi_list (pv 2)) (pg_name (i := 6) sc_split.nd rfl (Or.inl rfl))
          (pss_one (ps_expr (pe_bm PySem.F.plainAttrs_list PySem.F.slot_list_extend PySem.F.type_list_extend mt_extend (pv 5) (pa_cons (pe_call G_parted_by (hr.mono (by decide)) (by rfl) g_parted_by k_parted_by b_parted_by .nil pass0 (pa_cons (pv 0) (pa_cons (pv 6) (pa_cons (pv 4) pa_nil)))) pa_nil)))))
        (pss_one (ps_set (i := 2) sc_split.nd rfl (Or.inl rfl) (pv 5)))))))
      (pss_one (ps_ret (pe_callBK (r := rSortF K H f_rank) (cr_sortF G_rank (hr.mono (by decide)) b_rank rfl) (by rfl) T.b_sorted (by decide +kernel) (pa_cons (pv 2) pa_nil) (pk_cons (pe_glob rfl g_rank (show RelV (V.ref f_rank) (Value.ref f_rank) from rfl)) pk_nil))))))), ?_⟩
    refine ⟨_, rfl, _, rfl, q, b, p, false, g, rfl, hK, hg, by omega, fun H1 p1 s1 n1 h1 => ?_⟩
    rw [tr_id cg] at h1
    refine ⟨by show 1 ≤ sizeLine; decide, fun pP nP => ?_⟩
    have s2 : Same H (upd H1 pP (.lst [.ref p1])) := same_nw s1 nP
    have t2 : Tab (upd H1 pP (.lst [.ref p1])) pP [g] := ⟨[p1], upd_same, rfl, fun i p' r e1 e2 => by
      match i, e1, e2 with
      | 0, e1, e2 =>
        obtain rfl : p1 = p' := by simpa using e1
        obtain rfl : g = r := by simpa using e2
        rw [upd_ne (ne_of_none h1 nP)]; exact h1⟩
    generalize upd H1 pP (.lst [.ref p1]) = H2 at *
    refine ⟨_, rfl, _, rfl, q, b, p, g, g0, rfl, hK.same s2, hp, s2.seq hg, cg, eg, hg0, lg, fun ways H3 W s3 tW WR => ?_⟩
    have s03 := s2.trans s3
    obtain ⟨ws, hws, lws, kws⟩ := id tW
    have R0 : PcR p g [g] := ⟨fun c hc => by rw [List.mem_singleton] at hc; rw [hc]; exact mg0, by simp only [List.map, FF.prd]; grind⟩
    refine ⟨_, rfl, W, rfl, ⟨_, sqL_of hws⟩, for_list (xs := ws.map V.ref) (fun i σ H' => ∃ (Ps : List (List Int)) (pA : Addr) (x4 x5 x6 : Option V), σ = [some (.ref q), some (.ref b), some (.ref pA), some (.ref W), x4, x5, x6] ∧ Same H3 H' ∧ Tab H' pA Ps ∧ PcR p g Ps ∧ ∀ j, j < i → ∀ c ∈ Ps, ∃ z : Int, Dv (FF.cl (p : Int) c) (FF.cl p (ways.getD j []) - C z))
      ⟨[g], pP, none, none, none, rfl, Same.refl _, t2.same s3, R0, fun j hj => by omega⟩ (fun i σ H' _ ⟨_, _, _, _, _, _, s, _⟩ => sqL_of (s _ _ hws)) (fun i x σ H' hx hW => ?_) (fun σ H' hW => ?_)⟩
    · obtain ⟨Ps, pA, x4, x5, x6, rfl, sm, tP, RP, hcon⟩ := hW
      obtain ⟨wp, rfl, hwp⟩ := ref_get hx
      have hi : i < ways.length := by rw [← lws]; exact (List.getElem?_eq_some_iff.mp hwp).1
      have hway := kws i wp _ hwp (getD_at hi)
      have mway : ways.getD i [] ∈ ways := List.mem_of_getElem? (getD_at hi)
      obtain ⟨pp, hpp, lpp, kpp⟩ := id tP
      refine ⟨_, rfl, pA, _, rfl, .inl (sqL_of hpp), _, rfl, W, _, rfl, .inl (sqL_of (sm _ _ hws)), rfl, _, rfl, ?_⟩
      by_cases hl : Ps.length = ways.length
      · refine ifD (vint.mpr (by simp [lpp, lws, hl])) ?_
        have hS := smp_of_count hp hsf WR RP hl
        refine ⟨_, rfl, pA, pp, Ps, rfl, rfl, fun c hc => (s03.trans sm).free hc, sqL_of hpp, lpp, kpp, fun H4 D qs s4 n4 pq h4 => ?_⟩
        obtain ⟨M', pM, tM⟩ := tab_perm lpp kpp s4 pq h4
        exact hq M' H4 D (s03.trans (sm.trans s4)) ((s03.trans sm).free n4) tM (hS.perm pM)
      · refine ifN (fun z => hl (by have := vint.mp z; simp [lpp, lws] at this; omega)) ?_
        refine ⟨by show 0 ≤ sizeLine; decide, fun D nD => ?_⟩
        have sD : Same H' (upd H' D (.lst [])) := same_new (Same.refl _) nD
        have hpD := sD _ _ hpp
        refine ⟨_, rfl, pA, rfl, ⟨_, sqL_of hpD⟩, for_list (xs := pp.map V.ref) (fun k σ H4 => ∃ (Fs : List (List Int)) (x6 : Option V), σ = [some (.ref q), some (.ref b), some (.ref pA), some (.ref W), some (.ref wp), some (.ref D), x6] ∧ Same H' H4 ∧ TabN H4 D Fs ∧ (∀ c ∈ Fs, Mo p c) ∧ prd (Fs.map (FF.cl (p : Int))) = prd ((Ps.take k).map (FF.cl (p : Int))) ∧
            ∀ c ∈ Fs, (∃ c0 ∈ Ps, Dv (FF.cl (p : Int) c) (FF.cl p c0)) ∧ ∃ z : Int, Dv (FF.cl (p : Int) c) (FF.cl p (ways.getD i []) - C z))
          ⟨[], x6, rfl, sD, TabA.new, fun c hc => (by cases hc), rfl, fun c hc => (by cases hc)⟩ (fun k σ H4 _ ⟨_, _, _, s, _⟩ => sqL_of (s _ _ hpp)) (fun k x σ H4 hx4 hW4 => ?_) (fun σ H4 hW4 => ?_)⟩
        · obtain ⟨Fs, y6, rfl, s4, tF, mF, eF, cF⟩ := hW4
          obtain ⟨pk, rfl, hpk⟩ := ref_get hx4
          have hk : k < Ps.length := by rw [← lpp]; exact (List.getElem?_eq_some_iff.mp hpk).1
          have hpc := s4 _ _ (kpp k pk _ hpk (getD_at hk))
          have mem : Ps.getD k [] ∈ Ps := List.mem_of_getElem? (getD_at hk)
          have s34 := sm.trans s4
          refine ⟨_, rfl, .inl ⟨rfl, _, sqL_of tF.tab.len.choose_spec.1⟩, ?_⟩
          have lw := WR.len _ mway
          have lg0 : g.length = g0.length + 1 := by rw [eg]; simp
          have fixw : Dv (FF.cl (p : Int) (Ps.getD k [])) (FF.cl p (ways.getD i []) ^ p - FF.cl p (ways.getD i [])) := (RP.dv mem).trans (WR.fix _ mway)
          refine ⟨_, rfl, _, rfl, _, rfl, q, pk, wp, p, Ps.getD k [], ways.getD i [], rfl, hK.same (s03.trans s34), hp, p62, hpc, s34 _ _ hway, RP.cn _ mem, by have := RP.clen hp mg0 mem; omega, by omega, fixw, fun F H5 D5 s5 t5 PR => ?_⟩
          have tF5 := tF.same s5
          obtain ⟨xs, zs, a1, a2, a3, a4, t6⟩ := tF5.ext t5 (fun r hr e => by have := (PR.cn r hr).len; rw [e] at this; simp at this)
          have mF2 : ∀ c ∈ Fs ++ F, Mo p c := fun c hc => (List.mem_append.mp hc).elim (mF c) (PR.cn c)
          have eF2 : prd ((Fs ++ F).map (FF.cl (p : Int))) = prd ((Ps.take (k + 1)).map (FF.cl (p : Int))) := by
            rw [List.map_append, prd_append, eF, PR.prd, List.take_add_one, getD_at hk, List.map_append, prd_append]
            simp only [Option.toList, List.map, FF.prd]; grind
          have lFs : (Fs ++ F).length ≤ 100 := by
            have h1 := len_sum mF2
            have h2 := prd_mon mF2
            rw [eF2] at h2
            have h3 := prd_mon (F := Ps.take (k + 1)) fun c hc => RP.cn c (List.mem_of_mem_take hc)
            have h4 := h2.deg_eq h3 hp.one
            have h5 : ((Ps.take (k + 1)).map fun c => c.length - 1).sum ≤ (Ps.map fun c => c.length - 1).sum := by
              conv => rhs; rw [← List.take_append_drop (k + 1) Ps]
              rw [List.map_append, List.sum_append]; omega
            have h6 := RP.len hp mg0
            omega
          refine ⟨D, D5, xs, zs, rfl, rfl, a1, a3, by rw [a2, a4, ← List.length_append]; exact small_le (by omega), ?_⟩
          refine ⟨Fs ++ F, _, rfl, ?_, t6, mF2, eF2, fun c hc => ?_⟩
          · exact same_new (s4.trans s5) nD
          · rcases List.mem_append.mp hc with h | h
            · exact cF c h
            · refine ⟨⟨_, mem, ?_⟩, PR.con c h⟩
              rw [← PR.prd]
              exact mem_dv_prd (List.mem_map_of_mem h)
        · obtain ⟨Fs, y6, rfl, s4, tF, mF, eF, cF⟩ := hW4
          rw [List.length_map, lpp, List.take_length] at eF
          refine ⟨_, rfl, Fs, D, _, _, _, rfl, sm.trans s4, tF.tab, ⟨mF, by rw [RP.prd, eF]⟩, fun j hj c hc => ?_⟩
          obtain ⟨⟨c0, h0, d0⟩, z, hz⟩ := cF c hc
          by_cases e : j = i
          · rw [e]; exact ⟨z, hz⟩
          · obtain ⟨z2, hz2⟩ := hcon j (by omega) c0 h0
            exact ⟨z2, d0.trans hz2⟩
    · obtain ⟨Ps, pA, x4, x5, x6, rfl, sm, tP, RP, hcon⟩ := hW
      obtain ⟨pp, hpp, lpp, kpp⟩ := id tP
      rw [List.length_map, lws] at hcon
      have hS := smp_of_all hp hsf WR RP hcon
      refine ⟨_, rfl, pA, pp, Ps, rfl, rfl, fun c hc => (s03.trans sm).free hc, sqL_of hpp, lpp, kpp, fun H4 D qs s4 n4 pq h4 => ?_⟩
      obtain ⟨M', pM, tM⟩ := tab_perm lpp kpp s4 pq h4
      exact hq M' H4 D (s03.trans (sm.trans s4)) ((s03.trans sm).free n4) tM (hS.perm pM)
end
end FF
end
section
set_option Elab.async false
set_option linter.all false
set_option maxRecDepth 100000
set_option maxHeartbeats 4000000
/-! FW17: first_place, paper. -/
namespace FF
open PySem PySem.Spec PyProof.Rows L2
theorem cut_from (xs : List V) (n : Nat) (h : n ≤ xs.length) : cutV xs (some (n : Int)) none = xs.drop n := by
  have e1 : HT.sIx xs.length 0 (some (n : Int)) = n := by rw [HT.sIx_nat]; omega
  have e2 : HT.sIx xs.length xs.length none = xs.length := HT.sIx_none _ _
  unfold cutV
  rw [e1, e2, List.take_of_length_le (by simp)]
theorem der_len : ∀ f : List Int, (derL f).length ≤ f.length
  | [] => Nat.le_refl _
  | a :: f => by
    have := der_len f
    rw [derL, len_add, List.length_cons, List.length_cons]; omega
theorem gcd_one {p : Nat} {f g d : List Int} (hp : IsP p) (G : GcdR p f g d) (h : Cop (FF.cl (p : Int) f) (FF.cl p g)) : d = [1] := by
  have hd : Dv (FF.cl (p : Int) d) 1 := by
    obtain ⟨a, b, e⟩ := h
    obtain ⟨u, hu⟩ := G.df
    obtain ⟨v, hv⟩ := G.dg
    exact ⟨a * u + b * v, by rw [← e, hu, hv]; grind⟩
  rcases G.top with z | ⟨d0, rfl⟩
  · exfalso
    rw [z, cl_nil] at hd
    obtain ⟨u, hu⟩ := hd
    exact one_ne hp (by rw [hu]; grind)
  · obtain ⟨u, hu⟩ := hd
    have := Mon.le_of_dvd Mon.one (Mon.of_list (N := p) (f := d0)) hu hp.one
    have : d0 = [] := List.length_eq_zero_iff.mp (by omega)
    rw [this]; rfl
theorem cut1 (xs : List V) (h : 1 ≤ xs.length) : cutV xs (some 1) none = xs.drop 1 := cut_from xs 1 h
structure PaperR (p : Nat) (g a b : List Int) (right : List (List Int)) : Prop where
  op : FF.cl (p : Int) a * FF.cl p g + FF.cl p b * sl (FF.cl p g) = 1
  ca : Cn p a
  cb : Cn p b
  la : a.length ≤ 2 * g.length + 2
  lb : b.length ≤ 2 * g.length + 2
  shp : ShpN p right (g.length - 1) (g.length - 2)
  rt : ∀ i, i < g.length - 2 → ∀ r : List Int, r.length = g.length - 1 → Dv (FF.cl (p : Int) g) (FF.X ^ (p * (i + 1)) - FF.cl p r) → ∀ j, j < g.length - 2 → sm (g.length - 1) (fun k => ((C (co r k) : Pm p) - dl (i + 1) k) * C (en right k j)) = dl i j
structure RtInv (p d n i : Nat) (piv : Nat → Nat) (T right : List (List Int)) : Prop where
  shp : ShpN p right d n
  sum : ∀ (f : Nat → Pm p) j, j < n → sm d (fun k => f k * C (en right k j)) = sm i fun k => f (piv k) * C (en T k j)
  zero : ∀ k, k < d → (∀ l, l < i → piv l ≠ k) → ∀ j, j < n → en right k j = 0
theorem rt_start {p d n : Nat} {piv : Nat → Nat} {T : List (List Int)} (h : 1 < (p : Int)) : RtInv p d n 0 piv T ((List.range d).map fun _ => List.replicate n 0) := by
  have e0 : ∀ k, k < d → ∀ j, en ((List.range d).map fun _ => List.replicate n (0 : Int)) k j = 0 := fun k hk j => by
    unfold en
    rw [getD_range _ hk]
    by_cases hj : j < n
    · rw [co_lt (by simpa using hj)]; simp
    · exact co_ge (by simpa using hj)
  refine ⟨⟨⟨by simp, fun r hr => ?_⟩, fun r hr x hx => ?_⟩, fun f j hj => ?_, fun k hk _ j _ => e0 k hk j⟩
  · obtain ⟨_, _, rfl⟩ := List.mem_map.mp hr; simp
  · obtain ⟨_, _, rfl⟩ := List.mem_map.mp hr
    rw [List.eq_of_mem_replicate hx]; omega
  · show _ = 0
    exact sm_zero fun k hk => by rw [e0 k hk, C_zero]; grind
theorem rt_step {p d n i : Nat} {piv : Nat → Nat} {T right : List (List Int)} (I : RtInv p d n i piv T right) (h1 : piv i < d) (h2 : ∀ l, l < i → piv l ≠ piv i) (lt : (T.getD i []).length = n) (rt : ∀ x ∈ T.getD i [], 0 ≤ x ∧ x < (p : Int)) : RtInv p d n (i + 1) piv T (right.set (piv i) (T.getD i [])) := by
  have l0 := I.shp.1.1
  have hp : piv i < right.length := by omega
  refine ⟨I.shp.set lt rt, fun f j hj => ?_, fun k hk hn j hj => ?_⟩
  · have e : sm d (fun k => f k * (C (en (right.set (piv i) (T.getD i [])) k j) : Pm p)) = sm d fun k => f k * C (en right k j) + dl (piv i) k * (f k * C (en T i j)) := sm_congr fun k hk => by
      rw [en_set hp]
      unfold dl
      by_cases e : k = piv i
      · rw [if_pos e, if_pos e.symm, e, I.zero (piv i) h1 h2 j hj, C_zero]
        show f (piv i) * C (en T i j) = _
        grind
      · rw [if_neg e, if_neg (Ne.symm e)]; grind
    rw [e, sm_add, I.sum f j hj, sm_dl' h1 fun k => f k * C (en T i j)]
    rfl
  · rw [en_set hp]
    have e : k ≠ piv i := fun z => hn i (by omega) z.symm
    rw [if_neg e]
    exact I.zero k hk (fun l hl => hn l (by omega)) j hj
theorem lom_sm {p n : Nat} {g : List Int} {rows : List (List Int)} (lr : rows.length = n) (hR : ∀ (i : Nat) x, rows[i]? = some x → PowR p g n i x) : ∀ k, k < n → Dv (FF.cl (p : Int) g) (FF.X ^ (p * k) - FF.X ^ k - sm n fun j => C (en (lom p rows) k j) * FF.X ^ j) := fun k hk => by
  have hk2 := hR k _ (getD_at (M := rows) (i := k) (by omega))
  have e : (sm n fun j => (C (en (lom p rows) k j) : Pm p) * FF.X ^ j) = FF.cl p (rows.getD k []) - FF.X ^ k := by
    rw [← cl_lo1 (N := p) (i := k) (r := rows.getD k []) (by rw [hk2.1]; exact hk), cl_sm, lo1_len, hk2.1]
    unfold en lom
    rw [getD_range _ (by omega)]
  rw [e]
  have e2 : (FF.X : Pm p) ^ (p * k) - FF.X ^ k - (FF.cl p (rows.getD k []) - FF.X ^ k) = FF.X ^ (p * k) - FF.cl p (rows.getD k []) := by grind
  rw [e2]; exact hk2.2.2
theorem en_lom {p n : Nat} {g : List Int} {rows : List (List Int)} (lr : rows.length = n) (hR : ∀ (i : Nat) x, rows[i]? = some x → PowR p g n i x) {k j : Nat} (hk : k < n) (hj : j < n) : (C (en (lom p rows) k j) : Pm p) = C (co (rows.getD k []) j) - dl k j := by
  have hk2 := hR k _ (getD_at (M := rows) (i := k) (by omega))
  unfold en lom lo1 dl
  rw [getD_range _ (by omega), co_rmap, if_pos (by rw [hk2.1]; exact hj), C_mod, C_sub]
  by_cases e : k = j
  · rw [if_pos e, if_pos e, C_one]
  · rw [if_neg e, if_neg e, C_zero]
theorem en_drop (M : List (List Int)) (k j : Nat) : en (M.drop 1) k j = en M (k + 1) j := by
  unfold en
  rw [List.getD_eq_getElem?_getD, List.getD_eq_getElem?_getD, List.getElem?_drop, Nat.add_comm]
/-- the last step of the paper -/
theorem paper_done {p d : Nat} {g g0 : List Int} {rows F T : List (List Int)} {r : Nat} {piv : Nat → Nat} (hp : IsP p) (eg : g = g0 ++ [1]) (hd : d = g0.length) (hg0 : g0 ≠ []) (hs : Smp (FF.cl (p : Int) g)) (lr : rows.length = d) (hR : ∀ (i : Nat) x, rows[i]? = some x → PowR p g d i x)
    (R : EchR p (d - 1) d (en ((lom p rows).drop 1)) F T r piv) : r = d - 1 ∧ ∀ right, RtInv p d (d - 1) (d - 1) piv T right → ∀ i, i < d - 1 → ∀ x : List Int, x.length = d → Dv (FF.cl (p : Int) g) (FF.X ^ (p * (i + 1)) - FF.cl p x) → ∀ j, j < d - 1 → sm d (fun k => ((C (co x k) : Pm p) - dl (i + 1) k) * C (en right k j)) = dl i j := by
  have hm : Mon (FF.cl (p : Int) g) d := by rw [eg, hd]; exact Mon.of_list
  obtain ⟨B, E⟩ := R.ech
  have hd1 : 1 ≤ d := by rw [hd]; exact List.length_pos_iff.mpr hg0
  have hM : ∀ k, k < d - 1 → Dv (FF.cl (p : Int) g) (FF.X ^ (p * (k + 1)) - FF.X ^ (k + 1) - sm d fun j => C (en ((lom p rows).drop 1) k j) * FF.X ^ j) := fun k hk => by
    have := lom_sm lr hR (k + 1) (by omega)
    have e : (sm d fun j => (C (en ((lom p rows).drop 1) k j) : Pm p) * FF.X ^ j) = sm d fun j => C (en (lom p rows) (k + 1) j) * FF.X ^ j := sm_congr fun j hj => by rw [en_drop]
    rw [e]; exact this
  have er := full_rank hp hm hd1 hs hM E
  refine ⟨er, fun right I i hi x lx hx j hj => ?_⟩
  have hk2 := hR (i + 1) _ (getD_at (M := rows) (i := i + 1) (by omega))
  have same : ∀ k, k < d → (C (co x k) : Pm p) = C (co (rows.getD (i + 1) []) k) := fun k hk => by
    have h1 : Dv (FF.cl (p : Int) g) (FF.cl p x - FF.cl p (rows.getD (i + 1) [])) := by
      obtain ⟨u, hu⟩ := hx
      obtain ⟨v, hv⟩ := hk2.2.2
      exact ⟨v - u, by grind⟩
    have h2 : FF.cl (p : Int) x - FF.cl p (rows.getD (i + 1) []) = 0 := by
      refine dv_dg hm h1 (Dg.sub' ?_ ?_)
      · have := Dg.of_cl (N := p) x
        rwa [lx] at this
      · have := Dg.of_cl (N := p) (rows.getD (i + 1) [])
        rwa [hk2.1] at this
    have h3 : FF.cl (p : Int) x = FF.cl p (rows.getD (i + 1) []) := by grind
    exact C_eq.mpr (cl_iff.mp h3 k)
  have e1 : sm d (fun k => ((C (co x k) : Pm p) - dl (i + 1) k) * C (en right k j)) = sm d fun k => C (en ((lom p rows).drop 1) i k) * C (en right k j) := sm_congr fun k hk => by
    rw [en_drop, en_lom lr hR (by omega) hk, same k hk]
  rw [e1, I.sum _ j hj]
  exact E.right er hi hj
def spFP (K : PySem.W.Frag) : Sp := fun vs H Q _ => ∃ (a : Addr) (r : List Int), vs = [.ref a] ∧ SqL K H a (r.map V.int) ∧ ∀ (k : Nat) H', Same H H' → k ≤ r.length → (∀ i, i < k → co r i = 0) → (k < r.length → co r k ≠ 0) → Q (.int k) H'
theorem Tab.new {H : Hp} {a : Addr} {M : List (List Int)} {p : Addr} (t : Tab H a M) (n : H p = none) {o : HO} : Tab (upd H p o) a M := t.same (same_nw (Same.refl _) n)
def spPaper (K : PySem.W.Frag) (mg : Str → Option Value) : Sp := fun vs H Q _ => ∃ (q b : Addr) (p : Nat) (g : List Int), vs = [.ref q, .ref b] ∧ Kd mg H q p false ∧ IsP p ∧ SqL K H b (g.map V.int) ∧ Mo p g ∧ g.length ≤ 40 ∧ Cop (FF.cl (p : Int) g) (sl (FF.cl p g)) ∧ Smp (FF.cl (p : Int) g) ∧
  ∀ H' T p1 p2 aR x y right, Same H H' → H' T = some (.tup [.ref p1, .ref p2, .ref aR]) → H' p1 = some (.lst (x.map V.int)) → H' p2 = some (.lst (y.map V.int)) → TabA H' aR right (fun p => H p ≠ none) → (H p1 = none ∧ H p2 = none ∧ H aR = none) → PaperR p g x y right → Q (.ref T) H'
section
variable {P : Program} {w : World} {K : PySem.W.Frag} {mg : Str → Option Value} {base : Heap}
theorem ok_first_place (T : TX K mg) : FO P w K mg base 1 "first_place" ["row"] (spFP K) := by
  refine FO.mk T.d_first_place sc_first_place (fun _ _ _ _ _ _ us hl => match us, hl with | [_], _ => rfl) (fun vs H Q E h => ?_) (fun f cdv A outer s H vs Q E hr h => ?_)
  · obtain ⟨a, r, rfl, _⟩ := h; rfl
  · obtain ⟨a, r, rfl, ha, hq⟩ := h
    refine ⟨_, (pss_cons (ps_for PassesOwn.never rfl (pi_enum (by rfl) T.b_enumerate (pa_cons (pv 0) pa_nil)) (pg_tup rfl (pgs_cons (pg_name (i := 1) sc_first_place.nd rfl (Or.inl rfl)) (pgs_cons (pg_name (i := 2) sc_first_place.nd rfl (Or.inl rfl)) pgs_nil)))
        (pss_one (ps_if (pt_cmpR op_ne (pv 2) pe_int (nomark _)) (pss_one (ps_ret (pv 1))) pss_nil)))
      (pss_one (ps_ret (pe_callB (r := rLenK K) call_len_seq (by rfl) T.b_len (by decide +kernel) (pa_cons (pv 0) pa_nil))))), ?_⟩
    refine ⟨_, rfl, a, _, rfl, ha, for_it (walk_enum (xs := r.map V.int)) (fun i σ H' => ∃ x1 x2 : Option V, σ = [some (.ref a), x1, x2] ∧ Same H H' ∧ ∀ j, j < i → co r j = 0)
      ⟨none, none, rfl, Same.refl _, fun j hj => by omega⟩ (fun i σ H' _ ⟨_, _, _, s, _⟩ => s.seq ha) (fun i x σ H' H'' hi hP hY => ?_) (fun σ H' hP => ?_)⟩
    · obtain ⟨x1, x2, rfl, s1, hz⟩ := hP
      obtain ⟨t, y1, y2, rfl, nt, rfl, hy1, hy2⟩ := hY
      obtain rfl : V.int (i : Nat) = y1 := Option.some.inj hy1
      obtain ⟨rfl, hir⟩ := map_get hy2
      refine ⟨t, _, rfl, sqT_of upd_same, rfl, _, _, rfl, _, _, rfl, rfl, ?_⟩
      have s2 := same_nw (o := .tup [V.int (i : Nat), V.int (co r i)]) s1 nt
      refine ⟨_, rfl, rfl, _, rfl, ?_⟩
      by_cases e : co r i = 0
      · refine ifEq (vint.mpr e) ?_
        exact ⟨_, _, rfl, s2, fun j hj => by
          by_cases e2 : j = i
          · rw [e2]; exact e
          · exact hz j (by omega)⟩
      · refine ifNe (fun z => e (vint.mp z)) ?_
        exact ⟨_, rfl, hq i _ s2 (by omega) hz fun _ => e⟩
    · obtain ⟨x1, x2, rfl, s1, hz⟩ := hP
      rw [List.length_map] at hz
      refine ⟨_, rfl, a, _, rfl, .inl (s1.seq ha), ?_⟩
      rw [List.length_map]
      exact hq r.length H' s1 (Nat.le_refl _) hz fun z => absurd z (Nat.lt_irrefl _)
theorem ok_paper (T : TX K mg) : FO P w K mg base 7 "paper" ["kind", "g"] (spPaper K mg) := by
  refine FO.mk T.d_paper sc_paper (fun _ _ _ _ _ _ us hl => match us, hl with | [_, _], _ => rfl) (fun vs H Q E h => ?_) (fun f cdv A outer s H vs Q E hr h => ?_)
  · obtain ⟨q, b, p, g, rfl, _⟩ := h; rfl
  · obtain ⟨q, b, p, g, rfl, hK, hp, hg, mg0, lg, hsf, hs, hq⟩ := h
    have hN := hK.bnd
    obtain ⟨cg, g0, eg, hg0⟩ := id mg0
    have hl0 : 0 < g0.length := List.length_pos_iff.mpr hg0
    have hgl : g.length = g0.length + 1 := by rw [eg]; simp
    have hm : Mon (FF.cl (p : Int) g) g0.length := by rw [eg]; exact Mon.of_list
    obtain ⟨f_trimmed, fd_trimmed, g_trimmed, k_trimmed, b_trimmed, G_trimmed⟩ := ok_trimmed (P := P) (w := w) (base := base) T
    obtain ⟨f_shares, fd_shares, g_shares, k_shares, b_shares, G_shares⟩ := ok_shares (P := P) (w := w) (base := base) T
    obtain ⟨f_slope, fd_slope, g_slope, k_slope, b_slope, G_slope⟩ := ok_slope (P := P) (w := w) (base := base) T
    obtain ⟨f_echelon, fd_echelon, g_echelon, k_echelon, b_echelon, G_echelon⟩ := ok_echelon (P := P) (w := w) (base := base) T
    obtain ⟨f_less_one, fd_less_one, g_less_one, k_less_one, b_less_one, G_less_one⟩ := ok_less_one (P := P) (w := w) (base := base) T
    obtain ⟨f_powering, fd_powering, g_powering, k_powering, b_powering, G_powering⟩ := ok_powering (P := P) (w := w) (base := base) T
    obtain ⟨f_first_place, fd_first_place, g_first_place, k_first_place, b_first_place, G_first_place⟩ := ok_first_place (P := P) (w := w) (base := base) T
    refine ⟨_, (pss_cons (ps_set (i := 2) sc_paper.nd rfl (Or.inl rfl) (pe_call G_trimmed (hr.mono (by decide)) (by rfl) g_trimmed k_trimmed b_trimmed .nil pass0 (pa_cons (pv 0) (pa_cons (pv 1) pa_nil))))
      (pss_cons (ps_set (i := 3) sc_paper.nd rfl (Or.inr rfl) (pe_op op_sub (pe_callB (r := rLenK K) call_len_seq (by rfl) T.b_len (by decide +kernel) (pa_cons (pv 2) pa_nil)) pe_int))
      (pss_cons (ps_set (i := 4) sc_paper.nd rfl (Or.inl rfl) (pe_call G_shares (hr.mono (by decide)) (by rfl) g_shares k_shares b_shares .nil pass0 (pa_cons (pv 0) (pa_cons (pv 2) (pa_cons (pe_call G_slope (hr.mono (by decide)) (by rfl) g_slope k_slope b_slope .nil pass0 (pa_cons (pv 0) (pa_cons (pv 2) pa_nil))) pa_nil)))))
      (pss_cons (ps_if (pt_cmpR (op_neD hr.units) (pe_ix (r := rIxT K) ix_tup (pv 4) pe_int (fun _ _ => rfl)) (pe_lst (pa_cons pe_int pa_nil)) (nomark _)) (pss_one ps_never) pss_nil)
      (pss_cons (ps_asg (pe_call G_echelon (hr.mono (by decide)) (by rfl) g_echelon k_echelon b_echelon .nil pass0 (pa_cons (pv 0) (pa_cons (pe_slice sl_list (pe_call G_less_one (hr.mono (by decide)) (by rfl) g_less_one k_less_one b_less_one .nil pass0 (pa_cons (pv 0) (pa_cons (pe_call G_powering (hr.mono (by decide)) (by rfl) g_powering k_powering b_powering .nil pass0 (pa_cons (pv 0) (pa_cons (pv 2) pa_nil))) pa_nil))) (po_some pe_int) po_none) pa_nil))) (pg_tup rfl (pgs_cons (pg_name (i := 5) sc_paper.nd rfl (Or.inl rfl)) (pgs_cons (pg_name (i := 6) sc_paper.nd rfl (Or.inl rfl)) (pgs_cons (pg_name (i := 7) sc_paper.nd rfl (Or.inl rfl)) pgs_nil)))))
      (pss_cons (ps_setLc (i := 8) (own := [("k", 12)])  rfl sc_paper.nd rfl rfl (sw_true rfl rfl rfl (by decide +kernel)) (pi_range1 (by rfl) T.b_range (pa_cons (pv 3) pa_nil)) (blkOk_by (N := n_paper) (sc := defScope s_paper) (by decide +kernel)) (fun _ _ _ _ _ => (pg_name (i := 12) sc_paper.nd rfl (Or.inl rfl))) (fun _ _ _ _ _ => pts_nil) (fun _ _ _ _ _ => (pe_op op_rep (pe_lst (pa_cons pe_int pa_nil)) (pe_op op_sub (pv 3) pe_int))))
      (pss_cons (ps_for PassesOwn.never rfl (pi_enum (by rfl) T.b_enumerate (pa_cons (pv 5) pa_nil)) (pg_tup rfl (pgs_cons (pg_name (i := 9) sc_paper.nd rfl (Or.inl rfl)) (pgs_cons (pg_name (i := 10) sc_paper.nd rfl (Or.inl rfl)) pgs_nil)))
        (pss_cons (ps_set (i := 11) sc_paper.nd rfl (Or.inl rfl) (pe_call G_first_place (hr.mono (by decide)) (by rfl) g_first_place k_first_place b_first_place .nil pass0 (pa_cons (pv 10) pa_nil)))
        (pss_cons (ps_if (pt_cmpR op_eq (pv 11) (pv 3) (nomark _)) (pss_one ps_never) pss_nil)
        (pss_one (ps_asg (pe_callTy call_list_of (by rfl) T.b_list (by decide +kernel) (pa_cons (pe_ix (r := rIxL K) ix_list (pv 6) (pv 9) (fun _ _ => rfl)) pa_nil)) (pg_sub (pv 8) (pv 11) set_list))))))
      (pss_one (ps_ret (pe_tup (pa_cons (pe_ix (r := rIxT K) ix_tup (pv 4) pe_int (fun _ _ => rfl)) (pa_cons (pe_ix (r := rIxT K) ix_tup (pv 4) pe_int (fun _ _ => rfl)) (pa_cons (pv 8) pa_nil))))))))))))), ?_⟩
    refine ⟨_, rfl, _, rfl, q, b, p, false, g, rfl, hK, hg, by omega, fun H1 p1 s1 n1 h1 => ?_⟩
    rw [tr_id cg] at h1
    refine ⟨_, rfl, p1, _, rfl, .inl (sqL_of h1), _, 1, rfl, rfl, ?_⟩
    -- given
    refine ⟨_, rfl, _, rfl, _, rfl, _, rfl, q, p1, p, false, g, rfl, hK.same s1, sqL_of h1, by omega, fun H2 p2 s2 n2 h2 => ?_⟩
    have s02 := s1.trans s2
    have lsl : (tr (p : Int) (derL g)).length ≤ 100 := by
      have h1 := tr_len (N := p) (derL g)
      have h2 := der_len g
      omega
    refine ⟨q, p1, p2, p, g, tr p (derL g), rfl, hK.same s02, ⟨p, hp, rfl⟩, sqL_of (s2 _ _ h1), sqL_of h2, by omega, lsl, fun H3 T3 q0 q1 q2 d x y s3 ⟨nT, nq1, nq2⟩ hT h30 h31 h32 SR => ?_⟩
    have s03 := s02.trans s3
    have ed : d = [1] := gcd_one hp SR.gcd (by rw [cl_tr, ← sl_cl]; exact hsf)
    subst ed
    refine ⟨_, rfl, T3, _, 0, _, rfl, rfl, sqT_of hT, atI_nat (j := 0) rfl, by show 1 ≤ sizeLine; decide, fun pE nE => ?_⟩
    have s4 : Same H3 (upd H3 pE (.lst [.int 1])) := same_nw (Same.refl _) nE
    have hE : (upd H3 pE (.lst [.int 1])) pE = some (.lst (([1] : List Int).map V.int)) := upd_same
    generalize upd H3 pE (.lst [.int 1]) = H4 at *
    refine neD_ints (l := [1]) (m := [1]) (sqL_of (s4 _ _ h30)) (sqL_of hE) ?_
    refine ⟨_, rfl, ifEq rfl ?_⟩
    have s04 := s03.trans s4
    have h14 := s4 _ _ (s3 _ _ (s2 _ _ h1))
    refine ⟨_, rfl, _, rfl, _, rfl, _, rfl, q, p1, p, g, g0, rfl, hK.same s04, hp, sqL_of h14, cg, eg, hg0, by omega, fun rows H5 R5 s5 n5 t5 l5 hR => ?_⟩
    have s05 := s04.trans s5
    have sR : Shp rows g0.length g0.length := ⟨l5, fun r hr => by
      obtain ⟨j, hj, e⟩ := List.mem_iff_getElem.mp hr
      exact (hR j r (by rw [List.getElem?_eq_getElem hj, e])).1⟩
    refine ⟨q, R5, p, g0.length, g0.length, rows, rfl, hK.same s05, t5.tab, sR, by omega, by omega, fun H6 D6 s6 n6 t6 => ?_⟩
    have s06 := s05.trans s6
    obtain ⟨ps6, hps6, lps6, kps6⟩ := id t6
    have lL : (lom (p : Int) rows).length = g0.length := by simp [lom, l5]
    refine ⟨1, rfl, D6, _, rfl, sqL_of hps6, fun p7 n7 => ?_⟩
    have s7 : Same H6 (upd H6 p7 (.lst (cutV (ps6.map V.ref) (some 1) none))) := same_nw (Same.refl _) n7
    have h7 : (upd H6 p7 (.lst (cutV (ps6.map V.ref) (some 1) none))) p7 = some (.lst ((ps6.map V.ref).drop 1)) := by
      rw [upd_same, cut1 _ (by rw [List.length_map]; omega)]
    generalize upd H6 p7 (.lst (cutV (ps6.map V.ref) (some 1) none)) = H7 at *
    have t7 : Tab H7 p7 ((lom (p : Int) rows).drop 1) := Tab.drop h7 lps6 fun i p' x a b => s7 _ _ (kps6 i p' x a b)
    have s07 := s06.trans s7
    have sL : Shp ((lom (p : Int) rows).drop 1) (g0.length - 1) g0.length := ⟨by rw [List.length_drop, lL], fun r hr => by
      have hr := List.mem_of_mem_drop hr
      unfold lom at hr
      obtain ⟨j, hj, e⟩ := List.mem_map.mp hr
      rw [← e, lo1_len]
      exact sR.at (by rw [List.mem_range] at hj; omega)⟩
    refine ⟨q, p7, p, g0.length - 1, g0.length, _, rfl, hK.same s07, hp, t7, sL, by omega, by omega, fun H8 T8 aF aT aB F Tt r piv s8 hT8 tF tT ER => ?_⟩
    refine ⟨T8, _, rfl, sqT_of hT8, rfl, _, _, rfl, _, _, rfl, _, _, rfl, rfl, ?_⟩
    have s08 := s07.trans s8
    obtain ⟨hr1, hdone⟩ := paper_done (d := g0.length) hp eg rfl hg0 hs l5 hR ER
    have ed : ((((g.map V.int).length : Nat) : Int) - 1) = ((g0.length : Nat) : Int) := by rw [List.length_map, hgl]; omega
    have h38 : Same H3 H8 := s4.trans (s5.trans (s6.trans (s7.trans s8)))
    refine ⟨_, rfl, g0.length, ?_, by omega, by omega, fun aR nR => lcTR (n := ((g0.length : Nat) : Int).toNat) (fun _ => List.replicate (g0.length - 1) 0) (by omega) nR (fun x => rfl) (fun i H9 hi s9 Qe qe => ?_) (fun H9 s9 tR => ?_)⟩
    · dsimp only; rw [ed]
    · refine ⟨by show 1 ≤ sizeLine; decide, fun pL nL => ?_⟩
      refine ⟨_, rfl, _, 1, rfl, rfl, pL, _, _, rfl, rfl, upd_same, by simp <;> omega, by simp <;> omega, small_le (by simp <;> omega), fun pD nD => ?_⟩
      have ec : (((g.map V.int).length : Int) - 1 - 1).toNat = g0.length - 1 := by rw [List.length_map, hgl]; omega
      rw [ec, flat0]
      refine qe pD _ (same_nw (same_nw (Same.refl _) nL) nD) upd_same ?_
      exact (same_nw (o := .lst [V.int 0]) (Same.refl _) nL).free nD
    · rw [show ((g0.length : Nat) : Int).toNat = g0.length from rfl] at tR
      have t9F := tF.same s9
      have t9T := tT.same s9
      obtain ⟨pf, hpf, lpf, kpf⟩ := id t9F
      obtain ⟨pt, hpt, lpt, kpt⟩ := id t9T
      have lF := ER.sF.1.1
      have lT := ER.sT.1.1
      obtain ⟨B, EE⟩ := ER.ech
      have tRn : TabA H9 aR ((List.range g0.length).map fun _ => List.replicate (g0.length - 1) 0) (fun p => p = aR ∨ H8 p ≠ none) := tR
      have inj : ∀ i l, i < r → l < r → l ≠ i → piv l ≠ piv i := fun i l h1 h2 h3 e => by
        have a1 := EE.p1 l h2
        have a2 := EE.p0 i h1 l (by omega) h3
        rw [← e, a1] at a2
        cases a2
      have tR8 := tRn
      refine ⟨_, rfl, aF, _, rfl, sqL_of hpf, for_it (walk_enum (xs := pf.map V.ref)) (fun i σ H' => ∃ (right : List (List Int)) (x9 x10 x11 : Option V), σ = [some (.ref q), some (.ref b), some (.ref p1), some (.int (g0.length : Nat)), some (.ref T3), some (.ref aF), some (.ref aT), some (.ref aB), some (.ref aR), x9, x10, x11, none] ∧ Same H8 H' ∧ TabA H' aR right (fun p => p = aR ∨ H8 p ≠ none) ∧ RtInv p g0.length (g0.length - 1) i piv Tt right)
        ⟨_, none, none, none, ?_, s9, tRn, rt_start hN.1⟩ (fun i σ H' _ ⟨_, _, _, _, _, s, _⟩ => ?_) (fun i x σ H' H'' hi hP hY => ?_) (fun σ H' hP => ?_)⟩
      · rw [← ed]; rfl
      · obtain ⟨pf2, hpf2, _, _⟩ := id tF
        have e1 := s9 _ _ hpf2
        rw [hpf] at e1
        have e2 := s _ _ hpf2
        rw [← e1] at e2
        exact sqL_of e2
      · obtain ⟨right, x9, x10, x11, rfl, sm, tRt, I⟩ := hP
        obtain ⟨t, y1, y2, rfl, nt, rfl, hy1, hy2⟩ := hY
        obtain rfl : V.int (i : Nat) = y1 := Option.some.inj hy1
        obtain ⟨pr, rfl, hpr⟩ := ref_get hy2
        have hi2 : i < g0.length - 1 := by rw [List.length_map, lpf, lF] at hi; exact hi
        have hiF : i < F.length := by omega
        obtain ⟨xs8, pr8, z1, z2, z3, _⟩ := tF.row (getD_at hiF)
        have epr : pr8 = pr := by
          have e1 := s9 _ _ z1
          rw [hpf] at e1
          have e2 : pf.map V.ref = xs8 := by simpa using e1
          rw [← e2, List.getElem?_map, hpr] at z2
          simpa using z2.symm
        subst epr
        refine ⟨t, _, rfl, sqT_of upd_same, rfl, _, _, rfl, _, _, rfl, rfl, ?_⟩
        have s2' : Same H8 (upd H' t (.tup [V.int (i : Nat), V.ref pr8])) := same_nw sm nt
        have tRt2 := tRt.same (same_nw (o := .tup [V.int (i : Nat), V.ref pr8]) (Same.refl _) nt)
        generalize upd H' t (.tup [V.int (i : Nat), V.ref pr8]) = HA at *
        refine ⟨_, rfl, pr8, _, rfl, sqL_of (s2' _ _ z3), fun k HB sB hk hz hnz => ?_⟩
        have lrow : (F.getD i []).length = g0.length := ER.sF.1.at hi2
        have pvm := EE.pm i (by omega)
        have ek : k = piv i := by
          have p1' := EE.p1 i (by omega)
          rcases Nat.lt_trichotomy k (piv i) with h | h | h
          · exact absurd (ER.fp i (by omega) k h) (hnz (by omega))
          · exact h
          · have := hz _ h
            unfold en at p1'
            rw [this] at p1'; cases p1'
        subst ek
        refine ⟨_, rfl, _, rfl, rfl, _, rfl, ?_⟩
        refine ifN (fun z => by have := vint.mp z; omega) ?_
        have sB8 := s2'.trans sB
        have tRB := tRt2.same sB
        obtain ⟨xs9, pt9, w1, w2, w3, _⟩ := (tT.same sB8).row (getD_at (i := i) (by omega))
        refine ⟨_, rfl, _, rfl, aT, _, _, _, rfl, rfl, sqL_of w1, atI_nat w2, pt9, _, rfl, .inl (sqL_of w3), fun pl nl => ?_⟩
        have hpl : (upd HB pl (.lst ((Tt.getD i []).map V.int))) pl = some (.lst ((Tt.getD i []).map V.int)) := upd_same
        have sC : Same H8 (upd HB pl (.lst ((Tt.getD i []).map V.int))) := same_nw sB8 nl
        have tRC := tRB.same (same_nw (o := .lst ((Tt.getD i []).map V.int)) (Same.refl _) nl)
        have npl : pl ≠ aR := by
          obtain ⟨z, hz, _⟩ := tRB.len
          exact (ne_of_none hz nl).symm
        generalize upd HB pl (.lst ((Tt.getD i []).map V.int)) = HC at *
        have lri := I.shp.1.1
        obtain ⟨us, u1, u2, tRD⟩ := tRC.set (k := piv i) (.inl rfl) hpl (fun z => z.elim npl fun z => z (sB8.free nl)) (by omega)
        refine ⟨_, rfl, _, rfl, aR, _, _, piv i, rfl, rfl, u1, ix_nat (by omega), ?_⟩
        have mT : Tt.getD i [] ∈ Tt := List.mem_of_getElem? (getD_at (by omega))
        exact ⟨_, _, _, _, rfl, same_new sC nR, tRD, rt_step I pvm (fun l hl => inj i l (by omega) (by omega) (by omega)) (ER.sT.1.2 _ mT) (ER.sT.2 _ mT)⟩
      · obtain ⟨right, x9, x10, x11, rfl, sm, tRt, I⟩ := hP
        rw [List.length_map, lpf, lF] at I
        have s3' := h38.trans sm
        refine ⟨_, rfl, T3, _, 1, _, rfl, rfl, sqT_of (s3' _ _ hT), atI_nat (j := 1) rfl, _, rfl, T3, _, 2, _, rfl, rfl, sqT_of (s3' _ _ hT), atI_nat (j := 2) rfl, _, rfl, by show 3 ≤ sizeLine; decide, fun pT nT' => ?_⟩
        have sE : Same H' (upd H' pT (.tup [.ref q1, .ref q2, .ref aR])) := same_nw (Same.refl _) nT'
        refine hq _ pT q1 q2 aR x y right ((s03.trans s3').trans sE) upd_same (sE _ _ (s3' _ _ h31)) (sE _ _ (s3' _ _ h32)) ((tRt.same sE).weak fun p' h => .inr fun z => h (s08.free z)) ⟨s02.free nq1, s02.free nq2, s08.free nR⟩ ⟨?_, SR.ca, SR.cb, ?_, ?_, ?_, ?_⟩
        · have e1 := SR.eq
          rw [cl_tr, ← sl_cl] at e1
          rw [e1]; rfl
        · have := SR.la
          have := tr_len (N := p) (derL g)
          have := der_len g
          omega
        · have := SR.lb
          have := tr_len (N := p) (derL g)
          have := der_len g
          omega
        · rw [hgl]; exact I.shp
        · rw [hgl]; exact hdone right I
end
end FF
end
section
set_option Elab.async false
set_option linter.all false
set_option maxRecDepth 100000
set_option maxHeartbeats 4000000
/-! FW18: divisor, bared, steps. -/
namespace FF
open PySem PySem.Spec PyProof.Rows L2
def spDivisor : Sp := fun vs H Q _ => ∃ x y : Int, vs = [.int x, .int y] ∧ Q (.int (Int.gcd x y : Nat)) H
theorem gcd_fmod (x y : Int) : Int.gcd y (x.fmod y) = Int.gcd x y := by
  have e : x.fmod y = x - y * x.fdiv y := by have := Int.mul_fdiv_add_fmod x y; omega
  rw [e, Int.gcd_comm x y]
  apply Nat.dvd_antisymm
  · refine Int.dvd_gcd (Int.gcd_dvd_left ..) ?_
    have h1 : ((Int.gcd y (x - y * x.fdiv y) : Nat) : Int) ∣ x - y * x.fdiv y := Int.gcd_dvd_right ..
    have h2 : ((Int.gcd y (x - y * x.fdiv y) : Nat) : Int) ∣ y * x.fdiv y := Int.dvd_mul_of_dvd_left (Int.gcd_dvd_left ..)
    have := Int.dvd_add h1 h2
    rwa [Int.sub_add_cancel] at this
  · refine Int.dvd_gcd (Int.gcd_dvd_left ..) ?_
    exact Int.dvd_sub (Int.gcd_dvd_right ..) (Int.dvd_mul_of_dvd_left (Int.gcd_dvd_left ..))
theorem fmod_lt (x : Int) {y : Int} (h : y ≠ 0) : (x.fmod y).natAbs < y.natAbs := by
  rcases Int.lt_or_gt_of_ne h with h | h
  · rw [Int.fmod_eq_emod]
    have h1 := Int.emod_nonneg x (b := y) (by omega)
    have h2 := Int.emod_lt x (b := y) (by omega)
    split <;> rename_i h3
    · rcases h3 with h3 | h3
      · omega
      · have := Int.emod_eq_zero_of_dvd h3
        omega
    · have : x % y ≠ 0 := fun z => h3 (.inr (Int.dvd_of_emod_eq_zero z))
      omega
  · have h1 := Int.fmod_nonneg_of_pos x h
    have h2 := Int.fmod_lt_of_pos x h
    omega
section
variable {mg : Str → Option Value} {H : Hp} {x dx C : Addr} {fs : List (Str × V)}
theorem kd_wholes (m : mg "Wholes" = some (.ref C)) : Kd mg (upd (upd (upd H dx (.own x)) x (.ins C dx fs)) x (.ins C dx [(("size" : Str), V.int 0)])) x 0 true :=
  ⟨C, .inl ⟨m, rfl⟩, ⟨dx, _, upd_same, .inl rfl⟩, fun _ => rfl, fun h => (by cases h)⟩
theorem kd_rests {p : Int} (m : mg "Rests" = some (.ref C)) (h1 : 1 < p) (h2 : p < 2 ^ 63) : Kd mg (upd (upd (upd H dx (.own x)) x (.ins C dx fs)) x (.ins C dx [(("size" : Str), V.int p)])) x p false :=
  ⟨C, .inr (.inl ⟨m, rfl⟩), ⟨dx, _, upd_same, .inl rfl⟩, fun h => (by cases h), fun _ => ⟨h1, h2⟩⟩
theorem kd_powers {N p : Int} {o : HO} (m : mg "Powers" = some (.ref C)) (h1 : 1 < N) (h2 : N < 2 ^ 63) : Kd mg (upd (upd (upd (upd H dx (.own x)) x (.ins C dx fs)) x o) x (.ins C dx [(("size" : Str), V.int N), (("prime" : Str), V.int p)])) x N false :=
  ⟨C, .inr (.inr ⟨m, rfl⟩), ⟨dx, _, upd_same, .inr ⟨p, rfl⟩⟩, fun h => (by cases h), fun _ => ⟨h1, h2⟩⟩
theorem same_made2 {o o' : HO} (h1 : H x = none) (h2 : H dx = none) : Same H (upd (upd (upd H dx (.own x)) x o) x o') := by
  rw [upd_upd]
  exact same_new (same_new (Same.refl _) h2) h1
theorem same_made3 {o o' o2 : HO} (h1 : H x = none) (h2 : H dx = none) : Same H (upd (upd (upd (upd H dx (.own x)) x o) x o') x o2) := by
  rw [upd_upd, upd_upd]
  exact same_new (same_new (Same.refl _) h2) h1
end
def gcdL (l : List Int) : Nat := l.foldl (fun a x => Int.gcd (a : Int) x) 0
theorem gcdF_dvd : ∀ (l : List Int) (a : Nat) (d : Int), d ∣ (a : Int) → (∀ x ∈ l, d ∣ x) → d ∣ ((l.foldl (fun a x => Int.gcd (a : Int) x) a : Nat) : Int)
  | [], _, _, h, _ => h
  | x :: l, a, d, h, k => gcdF_dvd l _ d (Int.dvd_coe_gcd h (k x (by simp))) fun y hy => k y (by simp [hy])
theorem gcdF_le : ∀ (l : List Int) (a : Nat), ((l.foldl (fun a x => Int.gcd (a : Int) x) a : Nat) : Int) ∣ (a : Int) ∧ ∀ x ∈ l, ((l.foldl (fun a x => Int.gcd (a : Int) x) a : Nat) : Int) ∣ x
  | [], _ => ⟨Int.dvd_refl _, fun x hx => (by cases hx)⟩
  | y :: l, a => by
    obtain ⟨h1, h2⟩ := gcdF_le l (Int.gcd (a : Int) y)
    refine ⟨Int.dvd_trans h1 (Int.gcd_dvd_left ..), fun x hx => ?_⟩
    rcases List.mem_cons.mp hx with e | e
    · rw [e]; exact Int.dvd_trans h1 (Int.gcd_dvd_right ..)
    · exact h2 x e
theorem gcdL_dvd {l : List Int} {x : Int} (h : x ∈ l) : (gcdL l : Int) ∣ x := (gcdF_le l 0).2 x h
theorem dvd_gcdL {l : List Int} {d : Int} (h : ∀ x ∈ l, d ∣ x) : d ∣ (gcdL l : Int) := gcdF_dvd l 0 d (Int.dvd_zero d) h
def spBared (K : PySem.W.Frag) : Sp := fun vs H Q _ => ∃ (a : Addr) (f r0 : List Int) (l : Int), vs = [.ref a] ∧ SqL K H a (f.map V.int) ∧ f.length ≤ 1000 ∧ tr 0 f = r0 ++ [l] ∧ 0 < l ∧ l < 2 ^ 29 ∧
  ∀ H' T p, Same H H' → H' T = some (.tup [.int (gcdL (tr 0 f)), .ref p]) → H' p = some (.lst (((tr 0 f).map (· / (gcdL (tr 0 f) : Int))).map V.int)) → Q (.ref T) H'
/-- x = v0; if c: x = e -/
theorem ifAsg2 {c : Prop} [Decidable c] {te : TE} {i : Nat} {D : Ends} {σ : L2.St} {H : Hp} (v : V) (rest : D.nx (σ.set i (some v)) H) (h1 : c → ∀ Q : VK, Q v H → te σ H Q) (h2 : ¬ c → σ.set i (some v) = σ) : if decide c = true then tAsg te (gName i) D σ H else tNext D σ H := by
  by_cases h : c
  · rw [decide_eq_true h]
    exact h1 h _ rest
  · rw [decide_eq_false h]
    rw [h2 h] at rest
    exact rest
theorem at_end {l : List Int} {n : Nat} (h : l.length = n + 1) : atI (l.map V.int) (-1) = some (.int (co l n)) := by
  rcases List.eq_nil_or_concat l with e | ⟨g, a, e⟩
  · rw [e] at h; simp at h
  · rw [List.concat_eq_append] at e
    subst e
    have hn : n = g.length := by simp at h; omega
    rw [hn, co_lt (by simp)]
    simp only [List.getElem_append_right (Nat.le_refl _), Nat.sub_self]
    exact at_last g a
theorem cl_top {N : Int} (r : List Int) (n : Nat) (h : r.length ≤ n + 1) : FF.cl N r = FF.cl N (r.take n) + FF.X ^ n * C (co r n) := by
  by_cases e : n < r.length
  · have := cl_take (N := N) r e
    rw [List.take_of_length_le (by omega)] at this
    exact this
  · rw [List.take_of_length_le (by omega), co_ge (by omega), C_zero]; grind
/-- what the steps leave: a multiple of f by a power of the lead of c is q times c and r -/
structure StR (f c : List Int) (l : Int) (k : Nat) (q r : List Int) : Prop where
  eq : (C (l ^ k) : Pm 0) * FF.cl 0 f = FF.cl 0 q * FF.cl 0 c + FF.cl 0 r
  cr : Cn 0 r
  cq : Cn 0 q
  lq : q.length ≤ f.length + 1
def spSteps (K : PySem.W.Frag) : Sp := fun vs H Q _ => ∃ (a b : Addr) (f c c0 : List Int) (l : Int), vs = [.ref a, .ref b] ∧ SqL K H a (f.map V.int) ∧ SqL K H b (c.map V.int) ∧ Cn 0 f ∧ Cn 0 c ∧ c = c0 ++ [l] ∧ c.length ≤ f.length ∧ f.length ≤ 100 ∧ (∀ x ∈ c, -(2 ^ 64) < x ∧ x < 2 ^ 64) ∧
  ∀ H' T p1 p2 q r, Same H H' → H' T = some (.tup [.ref p1, .ref p2]) → H' p1 = some (.lst (q.map V.int)) → H' p2 = some (.lst (r.map V.int)) → r.length < c.length → StR f c l (f.length - c.length + 1) q r → Q (.ref T) H'
section
variable {P : Program} {w : World} {K : PySem.W.Frag} {mg : Str → Option Value} {base : Heap}
theorem ok_divisor (T : TX K mg) : FO P w K mg base 1 "divisor" ["one", "other"] spDivisor := by
  refine FO.mk T.d_divisor sc_divisor (fun _ _ _ _ _ _ us hl => match us, hl with | [_, _], _ => rfl) (fun vs H Q E h => ?_) (fun f cdv A outer s H vs Q E hr h => ?_)
  · obtain ⟨x, y, rfl, _⟩ := h; rfl
  · obtain ⟨x, y, rfl, hq⟩ := h
    refine ⟨_, (pss_cons (ps_while PassesOwn.never (pt_cmpR op_ne (pv 1) pe_int (nomark _))
        (pss_cons (ps_set (i := 2) sc_divisor.nd rfl (Or.inl rfl) (pe_op op_modN (pv 0) (pv 1)))
        (pss_cons (ps_set (i := 0) sc_divisor.nd rfl (Or.inl rfl) (pv 1))
        (pss_one (ps_set (i := 1) sc_divisor.nd rfl (Or.inl rfl) (pv 2))))))
      (pss_one (ps_ret (pe_callB call_abs (by rfl) T.b_abs (by decide +kernel) (pa_cons (pv 0) pa_nil))))), ?_⟩
    refine ⟨fun m σ H' => ∃ (a b : Int) (x2 : Option V), m = b.natAbs ∧ σ = [some (.int a), some (.int b), x2] ∧ H' = H ∧ Int.gcd a b = Int.gcd x y, ⟨_, x, y, none, rfl, rfl, rfl, rfl⟩, fun m σ H' hW => ?_⟩
    obtain ⟨a, b, x2, rfl, rfl, rfl, hg⟩ := hW
    refine ⟨_, rfl, rfl, _, rfl, ?_⟩
    by_cases hb : b = 0
    · refine ifEq (vint.mpr hb) ?_
      refine ⟨_, rfl, a, rfl, ?_⟩
      subst hb
      rw [Int.gcd_zero_right] at hg
      have e : (if a < 0 then -a else a) = ((Int.gcd x y : Nat) : Int) := by rw [← hg]; split <;> omega
      rw [e]; exact hq
    · refine ifNe (fun z => hb (vint.mp z)) ?_
      refine ⟨fun σ' H2 => σ' = [some (.int b), some (.int (a.fmod b)), some (.int (a.fmod b))] ∧ H2 = H', fun σ' H2 ⟨e1, e2⟩ => ⟨(a.fmod b).natAbs, fmod_lt a hb, b, a.fmod b, _, rfl, e1, e2, by rw [gcd_fmod]; exact hg⟩, ?_⟩
      exact ⟨_, rfl, _, rfl, a, b, rfl, rfl, hb, _, rfl, _, rfl, rfl, rfl⟩
theorem ok_bared (T : TX K mg) : FO P w K mg base 4 "bared" ["f"] (spBared K) := by
  refine FO.mk T.d_bared sc_bared (fun _ _ _ _ _ _ us hl => match us, hl with | [_], _ => rfl) (fun vs H Q E h => ?_) (fun f cdv A outer s H vs Q E hr h => ?_)
  · obtain ⟨a, f, r0, l, rfl, _⟩ := h; rfl
  · obtain ⟨a, f, r0, l, rfl, hf, lf, er, l0, l1, hq⟩ := h
    obtain ⟨f_trimmed, fd_trimmed, g_trimmed, k_trimmed, b_trimmed, G_trimmed⟩ := ok_trimmed (P := P) (w := w) (base := base) T
    obtain ⟨f_divisor, fd_divisor, g_divisor, k_divisor, b_divisor, G_divisor⟩ := ok_divisor (P := P) (w := w) (base := base) T
    obtain ⟨C_Wholes, f_Wholes, fd_Wholes, m_Wholes, M_Wholes, b_Wholes, G_Wholes⟩ := mk_wholes (P := P) (w := w) (base := base) T
    refine ⟨_, (pss_cons (ps_set (i := 1) sc_bared.nd rfl (Or.inl rfl) (pe_call G_trimmed (hr.mono (by decide)) (by rfl) g_trimmed k_trimmed b_trimmed .nil pass0 (pa_cons (pe_make0 M_Wholes G_Wholes (hr.mono (by decide)) rfl m_Wholes b_Wholes .nil pass0) (pa_cons (pv 0) pa_nil))))
      (pss_cons (ps_if (pt_cmpR (op_eqD hr.units) (pv 1) (pe_lst pa_nil) (nomark _)) (pss_one (ps_ret (pe_tup (pa_cons pe_int (pa_cons (pe_lst pa_nil) pa_nil))))) pss_nil)
      (pss_cons (ps_set (i := 2) sc_bared.nd rfl (Or.inr rfl) pe_int)
      (pss_cons (ps_for PassesOwn.never rfl (pi_list (pv 1)) (pg_name (i := 3) sc_bared.nd rfl (Or.inl rfl))
        (pss_one (ps_set (i := 2) sc_bared.nd rfl (Or.inr rfl) (pe_call G_divisor (hr.mono (by decide)) (by rfl) g_divisor k_divisor b_divisor .nil pass0 (pa_cons (pv 2) (pa_cons (pv 3) pa_nil))))))
      (pss_cons (ps_if (pt_cmpR op_lt (pe_ix (r := rIxL K) ix_list (pv 1) (pe_un un_neg pe_int) (fun _ _ => rfl)) pe_int (nomark _)) (pss_one (ps_set (i := 2) sc_bared.nd rfl (Or.inr rfl) (pe_op op_sub pe_int (pv 2)))) pss_nil)
      (pss_one (ps_ret (pe_tup (pa_cons (pv 2) (pa_cons (pe_lc (own := [("number", 3)])  rfl sc_bared.nd (pi_list (pv 1)) (blkOk_by (N := n_bared) (sc := defScope s_bared) (by decide +kernel)) (fun _ _ _ _ _ => (pg_name (i := 3) sc_bared.nd rfl (Or.inl rfl))) (fun _ _ _ _ _ => pts_nil) (fun _ _ _ _ _ => (pe_op op_fdivN (pv 3) (pv 2)))) pa_nil)))))))))), ?_⟩
    refine fun pk dk hk1 hk2 hk3 => ⟨pk, dk, rfl, upd_same, rfl, ?_⟩
    have sK := same_made2 (o := .ins C_Wholes dk []) (o' := .ins C_Wholes dk [(("size" : Str), V.int 0)]) hk1 hk2
    have hK := kd_wholes (H := H) (x := pk) (dx := dk) (fs := []) m_Wholes
    generalize upd (upd (upd H dk (.own pk)) pk (.ins C_Wholes dk [])) pk (.ins C_Wholes dk [(("size" : Str), V.int 0)]) = HK at *
    refine ⟨_, rfl, pk, a, 0, true, f, rfl, hK, sK.seq hf, by omega, fun H1 p1 s1 n1 h1 => ?_⟩
    have s01 := sK.trans s1
    refine ⟨_, rfl, by show 0 ≤ sizeLine; decide, fun pE hE => ?_⟩
    have s2 := same_nw (o := .lst []) s01 hE
    have h12 : (upd H1 pE (.lst [])) p1 = some (.lst ((tr 0 f).map V.int)) := by rw [upd_ne (ne_of_none h1 hE)]; exact h1
    have hE2 : (upd H1 pE (.lst [])) pE = some (.lst []) := upd_same
    generalize upd H1 pE (.lst []) = H2 at *
    have lrow : (tr 0 f).length ≤ 1000 := Nat.le_trans (tr_len f) lf
    generalize tr 0 f = row at *
    refine eqD_ints (l := row) (m := []) (sqL_of h12) (sqL_of hE2) ?_
    refine ⟨_, rfl, ifN (by rw [er]; simp) ?_⟩
    refine ⟨_, rfl, p1, rfl, ⟨_, sqL_of h12⟩, for_list (xs := row.map V.int) (fun i σ H' => ∃ (c : Nat) (x3 : Option V), c = (row.take i).foldl (fun a x => Int.gcd (a : Int) x) 0 ∧ σ = [some (.ref a), some (.ref p1), some (.int (c : Nat)), x3] ∧ H' = H2)
      ⟨0, none, rfl, rfl, rfl⟩ (fun i σ H' _ ⟨_, _, _, _, e⟩ => by rw [e]; exact sqL_of h12) (fun i x σ H' hx hW => ?_) (fun σ H' hW => ?_)⟩
    · obtain ⟨c, x3, ec, rfl, rfl⟩ := hW
      obtain ⟨rfl, hi⟩ := map_get hx
      refine ⟨_, rfl, _, rfl, c, co row i, rfl, _, _, ?_, rfl, rfl⟩
      rw [List.take_add_one, List.foldl_append, ← ec, List.getElem?_eq_getElem hi, co_lt hi]; rfl
    · obtain ⟨c, x3, ec, rfl, rfl⟩ := hW
      rw [List.length_map, List.take_length] at ec
      have ec2 : c = gcdL row := ec
      subst ec2
      have hlast : atI (row.map V.int) (-1) = some (.int l) := by rw [er]; exact at_last r0 l
      refine ⟨_, rfl, 1, rfl, p1, _, -1, _, rfl, rfl, sqL_of h12, hlast, _, _, rfl, rfl, _, rfl, ifN (by omega) ?_⟩
      have hcl : (gcdL row : Int) ∣ l := gcdL_dvd (by rw [er]; simp)
      have hc0 : (0 : Int) < (gcdL row : Int) := by
        rcases Nat.eq_zero_or_pos (gcdL row) with h | h
        · rw [h] at hcl
          have := Int.zero_dvd.mp hcl
          omega
        · omega
      have hc1 : (gcdL row : Int) ≤ l := Int.le_of_dvd l0 hcl
      refine ⟨_, rfl, _, rfl, p1, rfl, ⟨_, sqL_of h12⟩, fun D hD => lcL (xs := row.map V.int) (fun i => .int (co row i / (gcdL row : Int))) (by rw [List.length_map]; omega) (sqL_of h12) hD (fun x => rfl) (fun i x H3 hx s3 Qe qe => ?_) (fun H3 s3 h3 => ?_)⟩
      · obtain ⟨rfl, hi⟩ := map_get hx
        refine ⟨_, rfl, _, rfl, co row i, (gcdL row : Int), rfl, rfl, ⟨by omega, by omega⟩, ?_⟩
        have e := qe H3 (Same.refl _)
        rw [← Int.fdiv_eq_ediv_of_nonneg _ (by omega)] at e
        exact e
      · refine ⟨by show 2 ≤ sizeLine; decide, fun pT nT => ?_⟩
        refine hq _ pT D ((s2.trans s3).trans (same_nw (Same.refl _) nT)) upd_same ?_
        rw [upd_ne (ne_of_none h3 nT), h3, List.length_map, range_map_get row fun x => V.int (x / (gcdL row : Int)), List.map_map]; rfl
theorem ok_steps (T : TX K mg) : FO P w K mg base 4 "steps" ["f", "c"] (spSteps K) := by
  refine FO.mk T.d_steps sc_steps (fun _ _ _ _ _ _ us hl => match us, hl with | [_, _], _ => rfl) (fun vs H Q E h => ?_) (fun f cdv A outer s H vs Q E hr h => ?_)
  · obtain ⟨a, b, f, c, c0, l, rfl, _⟩ := h; rfl
  · obtain ⟨a, b, f, c, c0, l, rfl, hf, hc, cf, cc, ec, lcf, lf, hb, hq⟩ := h
    obtain ⟨f_trimmed, fd_trimmed, g_trimmed, k_trimmed, b_trimmed, G_trimmed⟩ := ok_trimmed (P := P) (w := w) (base := base) T
    obtain ⟨f_plus, fd_plus, g_plus, k_plus, b_plus, G_plus⟩ := ok_plus (P := P) (w := w) (base := base) T
    obtain ⟨f_scaled, fd_scaled, g_scaled, k_scaled, b_scaled, G_scaled⟩ := ok_scaled (P := P) (w := w) (base := base) T
    obtain ⟨f_less, fd_less, g_less, k_less, b_less, G_less⟩ := ok_less (P := P) (w := w) (base := base) T
    obtain ⟨f_times, fd_times, g_times, k_times, b_times, G_times⟩ := ok_times (P := P) (w := w) (base := base) T
    obtain ⟨C_Wholes, f_Wholes, fd_Wholes, m_Wholes, M_Wholes, b_Wholes, G_Wholes⟩ := mk_wholes (P := P) (w := w) (base := base) T
    refine ⟨_, (pss_cons (ps_set (i := 2) sc_steps.nd rfl (Or.inl rfl) (pe_make0 M_Wholes G_Wholes (hr.mono (by decide)) rfl m_Wholes b_Wholes .nil pass0))
      (pss_cons (ps_set (i := 3) sc_steps.nd rfl (Or.inl rfl) (pe_call G_trimmed (hr.mono (by decide)) (by rfl) g_trimmed k_trimmed b_trimmed .nil pass0 (pa_cons (pv 2) (pa_cons (pv 0) pa_nil))))
      (pss_cons (ps_set (i := 4) sc_steps.nd rfl (Or.inl rfl) (pe_call G_trimmed (hr.mono (by decide)) (by rfl) g_trimmed k_trimmed b_trimmed .nil pass0 (pa_cons (pv 2) (pa_cons (pv 1) pa_nil))))
      (pss_cons (ps_set (i := 5) sc_steps.nd rfl (Or.inl rfl) (pe_lst pa_nil))
      (pss_cons (ps_for PassesOwn.never rfl (pi_revR (by rfl) T.b_reversed (prg_1 (by rfl) T.b_range (pe_op op_add (pe_op op_sub (pe_callB (r := rLenK K) call_len_seq (by rfl) T.b_len (by decide +kernel) (pa_cons (pv 3) pa_nil)) (pe_callB (r := rLenK K) call_len_seq (by rfl) T.b_len (by decide +kernel) (pa_cons (pv 4) pa_nil))) pe_int))) (pg_name (i := 6) sc_steps.nd rfl (Or.inl rfl))
        (pss_cons (ps_set (i := 7) sc_steps.nd rfl (Or.inl rfl) pe_int)
        (pss_cons (ps_if (pt_cmpR op_eq (pe_callB (r := rLenK K) call_len_seq (by rfl) T.b_len (by decide +kernel) (pa_cons (pv 3) pa_nil)) (pe_op op_add (pe_callB (r := rLenK K) call_len_seq (by rfl) T.b_len (by decide +kernel) (pa_cons (pv 4) pa_nil)) (pv 6)) (nomark _)) (pss_one (ps_set (i := 7) sc_steps.nd rfl (Or.inl rfl) (pe_ix (r := rIxL K) ix_list (pv 3) (pe_un un_neg pe_int) (fun _ _ => rfl)))) pss_nil)
        (pss_cons (ps_set (i := 8) sc_steps.nd rfl (Or.inl rfl) (pe_op op_cat (pe_op op_rep (pe_lst (pa_cons pe_int pa_nil)) (pv 6)) (pe_lst (pa_cons (pv 7) pa_nil))))
        (pss_cons (ps_set (i := 5) sc_steps.nd rfl (Or.inl rfl) (pe_call G_plus (hr.mono (by decide)) (by rfl) g_plus k_plus b_plus .nil pass0 (pa_cons (pv 2) (pa_cons (pe_call G_scaled (hr.mono (by decide)) (by rfl) g_scaled k_scaled b_scaled .nil pass0 (pa_cons (pv 2) (pa_cons (pv 5) (pa_cons (pe_ix (r := rIxL K) ix_list (pv 4) (pe_un un_neg pe_int) (fun _ _ => rfl)) pa_nil)))) (pa_cons (pv 8) pa_nil)))))
        (pss_one (ps_set (i := 3) sc_steps.nd rfl (Or.inl rfl) (pe_call G_less (hr.mono (by decide)) (by rfl) g_less k_less b_less .nil pass0 (pa_cons (pv 2) (pa_cons (pe_call G_scaled (hr.mono (by decide)) (by rfl) g_scaled k_scaled b_scaled .nil pass0 (pa_cons (pv 2) (pa_cons (pv 3) (pa_cons (pe_ix (r := rIxL K) ix_list (pv 4) (pe_un un_neg pe_int) (fun _ _ => rfl)) pa_nil)))) (pa_cons (pe_call G_times (hr.mono (by decide)) (by rfl) g_times k_times b_times .nil pass0 (pa_cons (pv 2) (pa_cons (pv 8) (pa_cons (pv 4) pa_nil)))) pa_nil)))))))))))
      (pss_one (ps_ret (pe_tup (pa_cons (pv 5) (pa_cons (pv 3) pa_nil)))))))))), ?_⟩
    refine fun pk dk hk1 hk2 hk3 => ⟨pk, dk, rfl, upd_same, rfl, ?_⟩
    have sK := same_made2 (o := .ins C_Wholes dk []) (o' := .ins C_Wholes dk [(("size" : Str), V.int 0)]) hk1 hk2
    have hK := kd_wholes (H := H) (x := pk) (dx := dk) (fs := []) m_Wholes
    generalize upd (upd (upd H dk (.own pk)) pk (.ins C_Wholes dk [])) pk (.ins C_Wholes dk [(("size" : Str), V.int 0)]) = HK at *
    refine ⟨_, rfl, _, rfl, pk, a, 0, true, f, rfl, hK, sK.seq hf, by omega, fun H1 p1 s1 n1 h1 => ?_⟩
    rw [tr_id cf] at h1
    have s01 := sK.trans s1
    refine ⟨_, rfl, _, rfl, pk, b, 0, true, c, rfl, hK.same s1, s01.seq hc, by omega, fun H2 p2 s2 n2 h2 => ?_⟩
    rw [tr_id cc] at h2
    have s02 := s01.trans s2
    refine ⟨by show 0 ≤ sizeLine; decide, fun pq nq => ?_⟩
    have s3 : Same H2 (upd H2 pq (.lst [])) := same_nw (Same.refl _) nq
    have hq3 : (upd H2 pq (.lst [])) pq = some (.lst (([] : List Int).map V.int)) := upd_same
    have s23 := s2.trans s3
    have h13 := s3 _ _ (s2 _ _ h1)
    have h23 := s3 _ _ h2
    have hK3 := hK.same (s1.trans s23)
    generalize upd H2 pq (.lst []) = H3 at *
    refine ⟨_, rfl, p1, _, rfl, .inl (sqL_of h13), _, rfl, p2, _, rfl, .inl (sqL_of h23), _, _, rfl, rfl, _, 1, rfl, rfl, ?_⟩
    have lc : c.length = c0.length + 1 := by rw [ec]; simp
    obtain ⟨n0, en0⟩ : ∃ n0, n0 = f.length - c.length + 1 := ⟨_, rfl⟩
    have hl : -(2 ^ 64) < l ∧ l < 2 ^ 64 := hb l (by rw [ec]; simp)
    have hlast : atI (c.map V.int) (-1) = some (.int l) := by rw [ec]; exact at_last c0 l
    rw [← en0] at hq
    refine ⟨(n0 : Nat), congrArg V.int (by simp; omega), by omega, by omega, by omega, by omega, for_rangeC (n := ((n0 : Nat) : Int).toNat) (fun i σ H' => ∃ (qu re : List Int) (pQ pR : Addr) (x6 x7 x8 : Option V), σ = [some (.ref a), some (.ref b), some (.ref pk), some (.ref pR), some (.ref p2), some (.ref pQ), x6, x7, x8] ∧ Same H3 H' ∧ H' pQ = some (.lst (qu.map V.int)) ∧ H' pR = some (.lst (re.map V.int)) ∧
        re.length + i ≤ f.length ∧ qu.length ≤ f.length + 1 ∧ StR f c l i qu re) ⟨[], f, pq, p1, none, none, none, rfl, Same.refl _, hq3, h13, by omega, by simp, ⟨?_, cf, (show Cn 0 [] from ⟨fun a ha => (by cases ha), .inl rfl⟩), by simp⟩⟩ (fun i σ H' hi hW => ?_) (fun σ H' hW => ?_)⟩
    · rw [Int.pow_zero, C_one, cl_nil]; grind
    · obtain ⟨qu, re, pQ, pR, x6, x7, x8, rfl, sm, hQ, hR, lre, lqu, S⟩ := hW
      have hi2 : i < n0 := hi
      obtain ⟨at_, eat⟩ : ∃ at_, at_ = n0 - 1 - i := ⟨_, rfl⟩
      have ev : (0 + (((((n0 : Nat) : Int) - 0).toNat : Nat) : Int) - 1 + (i : Int) * (-1)) = ((at_ : Nat) : Int) := by omega
      rw [ev]
      obtain ⟨o, eo⟩ : ∃ o, o = co re (c0.length + at_) := ⟨_, rfl⟩
      have hc2 := sm _ _ h23
      refine ⟨_, rfl, pR, _, rfl, .inl (sqL_of hR), _, rfl, p2, _, rfl, .inl (sqL_of hc2), _, rfl, _, _, rfl, rfl, rfl, _, rfl, ifAsg2 (.int o) ?_ (fun h Q q => ?_) (fun h => ?_)⟩
      · refine ⟨by show 1 ≤ sizeLine; decide, fun pL nL => ⟨_, rfl, pL, _, _, rfl, rfl, upd_same, by simp <;> omega, by simp <;> omega, small_le (by simp <;> omega), fun pD nD => ?_⟩⟩
        have ec2 : ((at_ : Nat) : Int).toNat = at_ := rfl
        rw [ec2, flat0]
        have sL : Same H' (upd H' pL (.lst [.int 0])) := same_nw (Same.refl _) nL
        have sD : Same H' (upd (upd H' pL (.lst [.int 0])) pD (.lst ((List.replicate at_ (0 : Int)).map V.int))) := same_nw sL nD
        have hD : (upd (upd H' pL (.lst [.int 0])) pD (.lst ((List.replicate at_ (0 : Int)).map V.int))) pD = some (.lst ((List.replicate at_ (0 : Int)).map V.int)) := upd_same
        generalize upd (upd H' pL (.lst [.int 0])) pD (.lst ((List.replicate at_ (0 : Int)).map V.int)) = HA at *
        refine ⟨_, rfl, by show 1 ≤ sizeLine; decide, fun pO nO => ?_⟩
        have sO : Same HA (upd HA pO (.lst [.int o])) := same_nw (Same.refl _) nO
        have hO : (upd HA pO (.lst [.int o])) pO = some (.lst (([o] : List Int).map V.int)) := upd_same
        have hD2 := sO _ _ hD
        have sA := sD.trans sO
        generalize upd HA pO (.lst [.int o]) = HB at *
        refine ⟨pD, pO, _, _, rfl, rfl, hD2, hO, small_le (by simp; omega), fun p8 n8 => ?_⟩
        rw [← List.map_append]
        obtain ⟨st, est⟩ : ∃ st, st = List.replicate at_ (0 : Int) ++ [o] := ⟨_, rfl⟩
        have lst' : st.length = at_ + 1 := by rw [est]; simp
        rw [← est]
        have s8 : Same H' (upd HB p8 (.lst (st.map V.int))) := same_nw sA n8
        have h8 : (upd HB p8 (.lst (st.map V.int))) p8 = some (.lst (st.map V.int)) := upd_same
        generalize upd HB p8 (.lst (st.map V.int)) = HC at *
        have hKC := hK3.same (sm.trans s8)
        have hQC := s8 _ _ hQ
        have hRC := s8 _ _ hR
        have hcC := s8 _ _ hc2
        refine ⟨_, rfl, _, rfl, _, rfl, _, rfl, 1, rfl, p2, _, -1, _, rfl, rfl, sqL_of hcC, hlast, pk, pQ, 0, l, true, qu, rfl, hKC, sqL_of hQC, by omega, fun x hx => .inr hl, fun H5 p5 s5 n5 h5 => ?_⟩
        have l5 : (tr 0 (sclL l qu)).length ≤ 1000 := by have := tr_len (N := 0) (sclL l qu); rw [len_scl] at this; omega
        refine ⟨_, rfl, pk, p5, p8, 0, true, _, st, rfl, hKC.same s5, sqL_of h5, sqL_of (s5 _ _ h8), l5, by omega, trivial, fun H6 p6 s6 n6 h6 => ?_⟩
        have s86 := s5.trans s6
        have hcD := s86 _ _ hcC
        refine ⟨_, rfl, _, rfl, _, rfl, _, rfl, 1, rfl, p2, _, -1, _, rfl, rfl, sqL_of hcD, hlast, pk, pR, 0, l, true, re, rfl, hKC.same s86, sqL_of (s86 _ _ hRC), by omega, fun x hx => .inr hl, fun H7 p7 s7 n7 h7 => ?_⟩
        have s87 := s86.trans s7
        refine ⟨_, rfl, _, rfl, _, rfl, pk, p8, p2, 0, true, st, c, rfl, hKC.same s87, sqL_of (s87 _ _ h8), sqL_of (s87 _ _ hcC), by omega, by omega, fun x hx y hy => .inr (hb y hy), fun H9 p9 s9 n9 h9 => ?_⟩
        have s89 := s87.trans s9
        have l7 : (tr 0 (sclL l re)).length ≤ 1000 := by have := tr_len (N := 0) (sclL l re); rw [len_scl] at this; omega
        have l9 : (tr 0 (mulL st c)).length ≤ 1000 := by have := tr_len (N := 0) (mulL st c); have := mul_len st c; omega
        refine ⟨pk, p7, p9, 0, true, _, _, rfl, hKC.same s89, sqL_of (s9 _ _ h7), sqL_of h9, l7, l9, trivial, fun H10 p10 s10 n10 h10 => ?_⟩
        have cst : FF.cl (0 : Int) st = FF.X ^ at_ * C o := by
          rw [est, cl_append, cl_rep0, cl_cons, cl_nil, List.length_replicate]; grind
        have eR : FF.cl (0 : Int) (tr 0 (subL (tr 0 (sclL l re)) (tr 0 (mulL st c)))) = C l * FF.cl 0 re - FF.X ^ at_ * C o * FF.cl 0 c := by
          rw [cl_tr, cl_sub, cl_tr, cl_scl, cl_tr, cl_mul, cst]
        have eQ : FF.cl (0 : Int) (tr 0 (addL (tr 0 (sclL l qu)) st)) = C l * FF.cl 0 qu + FF.X ^ at_ * C o := by
          rw [cl_tr, cl_add, cl_tr, cl_scl, cst]
        have lR : (tr 0 (subL (tr 0 (sclL l re)) (tr 0 (mulL st c)))).length ≤ c0.length + at_ := by
          refine dg_tr.mp ?_
          have e1 : FF.cl (0 : Int) (subL (tr 0 (sclL l re)) (tr 0 (mulL st c))) = C l * FF.cl 0 (re.take (c0.length + at_)) - FF.X ^ at_ * (C o * FF.cl 0 c0) := by
            rw [cl_sub, cl_tr, cl_scl, cl_tr, cl_mul, cst, ec, cl_append, cl_cons, cl_nil, cl_top re (c0.length + at_) (by omega), ← eo, pow_add]; grind
          rw [e1]
          refine Dg.sub' (Dg.Cmul l ((Dg.of_cl _).mono ?_)) ?_
          · rw [List.length_take]; omega
          · have := Dg.Xmul (N := 0) at_ (Dg.Cmul o (Dg.of_cl c0))
            rwa [Nat.add_comm] at this
        refine ⟨tr 0 (addL (tr 0 (sclL l qu)) st), tr 0 (subL (tr 0 (sclL l re)) (tr 0 (mulL st c))), p6, p10, _, _, _, rfl, sm.trans (s8.trans (s89.trans s10)), s10 _ _ (s9 _ _ (s7 _ _ h6)), h10, by omega, ?_, ⟨?_, tr_Cn _, tr_Cn _, ?_⟩⟩
        · have h1 := tr_len (N := 0) (addL (tr 0 (sclL l qu)) st)
          have h2 := tr_len (N := 0) (sclL l qu)
          rw [len_scl] at h2
          rw [len_add] at h1
          omega
        · rw [eR, eQ, Int.pow_succ, C_mul]
          have := S.eq
          grind
        · have h1 := tr_len (N := 0) (addL (tr 0 (sclL l qu)) st)
          have h2 := tr_len (N := 0) (sclL l qu)
          rw [len_scl] at h2
          rw [len_add] at h1
          omega
      · have e1 : (((re.map V.int).length : Nat) : Int) = ((c.map V.int).length : Nat) + ((at_ : Nat) : Int) := vint.mp h
        rw [List.length_map, List.length_map] at e1
        refine ⟨_, rfl, 1, rfl, pR, _, -1, _, rfl, rfl, sqL_of hR, ?_, q⟩
        have e2 : re.length = c0.length + at_ + 1 := by omega
        rw [eo]
        exact at_end e2
      · have e1 : ¬ (re.length = c.length + at_) := fun z => h (vint.mpr (by rw [List.length_map, List.length_map]; omega))
        have : o = 0 := by rw [eo]; exact co_ge (by omega)
        rw [this]; rfl
    · obtain ⟨qu, re, pQ, pR, x6, x7, x8, rfl, sm, hQ, hR, lre, lqu, S⟩ := hW
      have lre2 : re.length + n0 ≤ f.length := lre
      refine ⟨_, rfl, _, rfl, by show 2 ≤ sizeLine; decide, fun pT nT => ?_⟩
      have sE : Same H' (upd H' pT (.tup [.ref pQ, .ref pR])) := same_nw (Same.refl _) nT
      exact hq _ pT pQ pR qu re (((s01.trans s23).trans sm).trans sE) upd_same (sE _ _ hQ) (sE _ _ hR) (by omega) S
end
end FF
end
section
set_option Elab.async false
set_option linter.all false
set_option maxRecDepth 100000
set_option maxHeartbeats 4000000
/-! FW19: bound, is_good, good_prime, many_for. -/
namespace FF
open PySem PySem.Spec PyProof.Rows L2
def iabs (i : Int) : Int := if i < 0 then -i else i
def bnd (f : List Int) : Int := 2 ^ (f.length - 1) * (f.map iabs).sum
def spBound (K : PySem.W.Frag) : Sp := fun vs H Q _ => ∃ (a : Addr) (f : List Int), vs = [.ref a] ∧ SqL K H a (f.map V.int) ∧ f.length ≤ 1000 ∧ ∀ H', Same H H' → Q (.int (bnd (tr 0 f))) H'
def GoodP (f : List Int) (l : Int) (p : Nat) : Prop := ¬ (p : Int) ∣ l ∧ Cop (FF.cl (p : Int) f) (sl (FF.cl p f))
def spIsGood (K : PySem.W.Frag) : Sp := fun vs H Q _ => ∃ (a : Addr) (f f0 : List Int) (l : Int) (p : Nat), vs = [.ref a, .int p] ∧ SqL K H a (f.map V.int) ∧ f = f0 ++ [l] ∧ f.length ≤ 100 ∧ PrZ p ∧ ∀ (b : Bool) H', Same H H' → (b = true ↔ GoodP f l p) → Q (.bl b) H'
def spGoodPrime (K : PySem.W.Frag) : Sp := fun vs H Q _ => ∃ (a : Addr) (f f0 : List Int) (l : Int), vs = [.ref a] ∧ SqL K H a (f.map V.int) ∧ Cn 0 f ∧ f = f0 ++ [l] ∧ f.length ≤ 100 ∧ (∃ p : Nat, PrZ p ∧ GoodP f l p) ∧ ∀ (p : Nat) H', Same H H' → PrZ p → GoodP f l p → Q (.int p) H'
def spManyFor (K : PySem.W.Frag) : Sp := fun vs H Q _ => ∃ (a : Addr) (f : List Int) (p : Nat), vs = [.int p, .ref a] ∧ SqL K H a (f.map V.int) ∧ Cn 0 f ∧ f.length ≤ 100 ∧ PrZ p ∧ bnd f < 2 ^ 44 ∧ ∀ (m : Nat) H', Same H H' → 1 ≤ m → m ≤ 60 → 2 * bnd f < (p : Int) ^ m → (p : Int) ^ m < 2 ^ 60 → Q (.int m) H'
theorem prz_isp {p : Nat} (h : PrZ (p : Int)) : IsP p := by have := h.2.2; simpa using this
section
variable {P : Program} {w : World} {K : PySem.W.Frag} {mg : Str → Option Value} {base : Heap}
theorem ok_bound (T : TX K mg) : FO P w K mg base 4 "bound" ["g"] (spBound K) := by
  refine FO.mk T.d_bound sc_bound (fun _ _ _ _ _ _ us hl => match us, hl with | [_], _ => rfl) (fun vs H Q E h => ?_) (fun f cdv A outer s H vs Q E hr h => ?_)
  · obtain ⟨a, f, rfl, _⟩ := h; rfl
  · obtain ⟨a, f, rfl, hf, lf, hq⟩ := h
    obtain ⟨f_trimmed, fd_trimmed, g_trimmed, k_trimmed, b_trimmed, G_trimmed⟩ := ok_trimmed (P := P) (w := w) (base := base) T
    obtain ⟨C_Wholes, f_Wholes, fd_Wholes, m_Wholes, M_Wholes, b_Wholes, G_Wholes⟩ := mk_wholes (P := P) (w := w) (base := base) T
    refine ⟨_, (pss_cons (ps_set (i := 1) sc_bound.nd rfl (Or.inl rfl) (pe_call G_trimmed (hr.mono (by decide)) (by rfl) g_trimmed k_trimmed b_trimmed .nil pass0 (pa_cons (pe_make0 M_Wholes G_Wholes (hr.mono (by decide)) rfl m_Wholes b_Wholes .nil pass0) (pa_cons (pv 0) pa_nil))))
      (pss_cons (ps_set (i := 2) sc_bound.nd rfl (Or.inl rfl) (pe_callB (cr_sum rfl) (by rfl) T.b_sum (by decide +kernel) (pa_cons (pe_lc (own := [("number", 4)])  rfl sc_bound.nd (pi_list (pv 1)) (blkOk_by (N := n_bound) (sc := defScope s_bound) (by decide +kernel)) (fun _ _ _ _ _ => (pg_name (i := 4) sc_bound.nd rfl (Or.inl rfl))) (fun _ _ _ _ _ => pts_nil) (fun _ _ _ _ _ => (pe_callB call_abs (by rfl) T.b_abs (by decide +kernel) (pa_cons (pv 4) pa_nil)))) pa_nil)))
      (pss_cons (ps_for PassesOwn.never rfl (pi_range1 (by rfl) T.b_range (pa_cons (pe_op op_sub (pe_callB (r := rLenK K) call_len_seq (by rfl) T.b_len (by decide +kernel) (pa_cons (pv 1) pa_nil)) pe_int) pa_nil)) (pg_name (i := 3) sc_bound.nd rfl (Or.inl rfl))
        (pss_one (ps_set (i := 2) sc_bound.nd rfl (Or.inl rfl) (pe_op op_mul pe_int (pv 2)))))
      (pss_one (ps_ret (pv 2)))))), ?_⟩
    refine fun pk dk hk1 hk2 hk3 => ⟨pk, dk, rfl, upd_same, rfl, ?_⟩
    have sK := same_made2 (o := .ins C_Wholes dk []) (o' := .ins C_Wholes dk [(("size" : Str), V.int 0)]) hk1 hk2
    have hK := kd_wholes (H := H) (x := pk) (dx := dk) (fs := []) m_Wholes
    generalize upd (upd (upd H dk (.own pk)) pk (.ins C_Wholes dk [])) pk (.ins C_Wholes dk [(("size" : Str), V.int 0)]) = HK at *
    refine ⟨_, rfl, pk, a, 0, true, f, rfl, hK, sK.seq hf, by omega, fun H1 p1 s1 n1 h1 => ?_⟩
    have s01 := sK.trans s1
    have lrow : (tr 0 f).length ≤ 1000 := Nat.le_trans (tr_len f) lf
    generalize tr 0 f = row at *
    refine ⟨_, rfl, p1, rfl, ⟨_, sqL_of h1⟩, fun D hD => lcL (xs := row.map V.int) (fun i => .int (iabs (co row i))) (by rw [List.length_map]; omega) (sqL_of h1) hD (fun x => rfl) (fun i x H3 hx s3 Qe qe => ?_) (fun H3 s3 h3 => ?_)⟩
    · obtain ⟨rfl, hi⟩ := map_get hx
      exact ⟨_, rfl, co row i, rfl, qe H3 (Same.refl _)⟩
    · have h3' : H3 D = some (.lst ((row.map iabs).map V.int)) := by
        rw [h3, List.length_map, range_map_get row fun x => V.int (iabs x), List.map_map]; rfl
      have s03 := s01.trans s3
      refine ⟨D, row.map iabs, rfl, sqL_of h3', ?_⟩
      refine ⟨_, rfl, p1, _, rfl, .inl (sqL_of (s3 _ _ h1)), _, 1, rfl, rfl, (row.length : Int) - 1, by rw [List.length_map], by omega, by omega, for_range (lo := 0) (n := ((row.length : Int) - 1).toNat) (fun i σ H' => ∃ x3 : Option V, σ = [some (.ref a), some (.ref p1), some (.int (2 ^ i * (row.map iabs).sum)), x3, none] ∧ H' = H3)
        ⟨none, by simp; rfl, rfl⟩ (fun i σ H' hi hW => ?_) (fun σ H' hW => ?_)⟩
      · obtain ⟨x3, rfl, rfl⟩ := hW
        refine ⟨_, rfl, 2, _, rfl, rfl, .inl (by omega), some (.int (0 + (i : Int))), ?_, rfl⟩
        have e : (2 : Int) ^ (i + 1) * (row.map iabs).sum = 2 * (2 ^ i * (row.map iabs).sum) := by rw [Int.pow_succ]; grind
        rw [e]; rfl
      · obtain ⟨x3, rfl, rfl⟩ := hW
        refine ⟨_, rfl, ?_⟩
        have e : ((row.length : Int) - 1).toNat = row.length - 1 := by omega
        rw [e]
        exact hq H' s03
theorem ok_is_good (T : TX K mg) : FO P w K mg base 6 "is_good" ["row", "prime"] (spIsGood K) := by
  refine FO.mk T.d_is_good sc_is_good (fun _ _ _ _ _ _ us hl => match us, hl with | [_, _], _ => rfl) (fun vs H Q E h => ?_) (fun f cdv A outer s H vs Q E hr h => ?_)
  · obtain ⟨a, f, f0, l, p, rfl, _⟩ := h; rfl
  · obtain ⟨a, f, f0, l, p, rfl, hf, ef, lf, hP, hq⟩ := h
    have hp := prz_isp hP
    obtain ⟨f_common, fd_common, g_common, k_common, b_common, G_common⟩ := ok_common (P := P) (w := w) (base := base) T
    obtain ⟨f_slope, fd_slope, g_slope, k_slope, b_slope, G_slope⟩ := ok_slope (P := P) (w := w) (base := base) T
    obtain ⟨C_Rests, f_Rests, fd_Rests, m_Rests, M_Rests, b_Rests, G_Rests⟩ := mk_rests (P := P) (w := w) (base := base) T
    refine ⟨_, (pss_cons (ps_if (pt_cmpR op_eq (pe_op op_modN (pe_ix (r := rIxL K) ix_list (pv 0) (pe_un un_neg pe_int) (fun _ _ => rfl)) (pv 1)) pe_int (nomark _)) (pss_one (ps_ret pe_bl)) pss_nil)
      (pss_cons (ps_set (i := 2) sc_is_good.nd rfl (Or.inl rfl) (pe_make M_Rests G_Rests (hr.mono (by decide)) rfl m_Rests b_Rests .nil pass0 (pa_cons (pv 1) pa_nil)))
      (pss_one (ps_ret (pe_cmpR op_eq (pe_callB (r := rLenK K) call_len_seq (by rfl) T.b_len (by decide +kernel) (pa_cons (pe_call G_common (hr.mono (by decide)) (by rfl) g_common k_common b_common .nil pass0 (pa_cons (pv 2) (pa_cons (pv 0) (pa_cons (pe_call G_slope (hr.mono (by decide)) (by rfl) g_slope k_slope b_slope .nil pass0 (pa_cons (pv 2) (pa_cons (pv 0) pa_nil))) pa_nil)))) pa_nil)) pe_int (nomark _)))))), ?_⟩
    have hlast : atI (f.map V.int) (-1) = some (.int l) := by rw [ef]; exact at_last f0 l
    have p2 := hP.1
    have p3 := hP.2.1
    refine ⟨_, rfl, 1, rfl, a, _, -1, _, rfl, rfl, hf, hlast, _, rfl, l, p, rfl, rfl, (show (p : Int) ≠ 0 by omega), rfl, _, rfl, ?_⟩
    by_cases hd : (p : Int) ∣ l
    · refine ifD (vint.mpr (by rw [Int.fmod_eq_emod_of_nonneg _ (by omega)]; exact Int.emod_eq_zero_of_dvd hd)) ?_
      exact hq false H (Same.refl _) ⟨fun z => (by cases z), fun z => absurd hd z.1⟩
    · refine ifN (fun z => hd (by
        have z2 := vint.mp z
        rw [Int.fmod_eq_emod_of_nonneg _ (by omega)] at z2
        exact Int.dvd_of_emod_eq_zero z2)) ?_
      refine ⟨_, rfl, fun pk dk hk1 hk2 hk3 => ⟨pk, dk, p, rfl, hP, upd_same, rfl, ?_⟩⟩
      have sK := same_made2 (o := .ins C_Rests dk []) (o' := .ins C_Rests dk [(("size" : Str), V.int p)]) hk1 hk2
      have hK := kd_rests (H := H) (x := pk) (dx := dk) (fs := []) (p := p) m_Rests (by omega) (by omega)
      generalize upd (upd (upd H dk (.own pk)) pk (.ins C_Rests dk [])) pk (.ins C_Rests dk [(("size" : Str), V.int p)]) = HK at *
      refine ⟨_, rfl, _, rfl, _, rfl, _, rfl, pk, a, p, false, f, rfl, hK, sK.seq hf, by omega, fun H1 p1 s1 n1 h1 => ?_⟩
      have ls : (tr (p : Int) (derL f)).length ≤ 300 := by
        have := tr_len (N := p) (derL f)
        have := der_len f
        omega
      refine ⟨pk, a, p1, p, f, _, rfl, hK.same s1, ⟨p, hp, rfl⟩, (sK.trans s1).seq hf, sqL_of h1, by omega, ls, fun d G => fun H2 p2 s2 n2 h2 => ?_⟩
      refine ⟨p2, _, rfl, .inl (sqL_of h2), rfl, ?_⟩
      refine hq _ H2 ((sK.trans s1).trans s2) ?_
      have e1 : FF.cl (p : Int) (tr (p : Int) (derL f)) = sl (FF.cl p f) := by rw [cl_tr, sl_cl]
      constructor
      · intro z
        have z2 : (d.map V.int).length = 1 := by have := vint.mp (of_decide_eq_true z); omega
        rw [List.length_map] at z2
        refine ⟨hd, ?_⟩
        rcases G.top with h | ⟨d0, h⟩
        · rw [h] at z2; cases z2
        · have : d0 = [] := by rw [h] at z2; simp at z2; exact z2
          obtain ⟨x, y, e⟩ := G.comb
          rw [h, this, e1] at e
          exact ⟨x, y, e.symm⟩
      · intro z
        have := gcd_one hp G (by rw [e1]; exact z.2)
        rw [this]; rfl
theorem ok_good_prime (T : TX K mg) : FO P w K mg base 7 "good_prime" ["g"] (spGoodPrime K) := by
  refine FO.mk T.d_good_prime sc_good_prime (fun _ _ _ _ _ _ us hl => match us, hl with | [_], _ => rfl) (fun vs H Q E h => ?_) (fun f cdv A outer s H vs Q E hr h => ?_)
  · obtain ⟨a, f, f0, l, rfl, _⟩ := h; rfl
  · obtain ⟨a, f, f0, l, rfl, hf, cf, ef, lf, ⟨p0, hP0, hG0⟩, hq⟩ := h
    obtain ⟨tP, mg_MOST_PRIME⟩ := T.iP
    obtain ⟨f_trimmed, fd_trimmed, g_trimmed, k_trimmed, b_trimmed, G_trimmed⟩ := ok_trimmed (P := P) (w := w) (base := base) T
    obtain ⟨f_is_good, fd_is_good, g_is_good, k_is_good, b_is_good, G_is_good⟩ := ok_is_good (P := P) (w := w) (base := base) T
    obtain ⟨f_is_prime, fd_is_prime, g_is_prime, k_is_prime, b_is_prime, G_is_prime⟩ := ok_is_prime (P := P) (w := w) (base := base) T
    obtain ⟨C_Wholes, f_Wholes, fd_Wholes, m_Wholes, M_Wholes, b_Wholes, G_Wholes⟩ := mk_wholes (P := P) (w := w) (base := base) T
    refine ⟨_, (pss_cons (ps_set (i := 1) sc_good_prime.nd rfl (Or.inl rfl) (pe_call G_trimmed (hr.mono (by decide)) (by rfl) g_trimmed k_trimmed b_trimmed .nil pass0 (pa_cons (pe_make0 M_Wholes G_Wholes (hr.mono (by decide)) rfl m_Wholes b_Wholes .nil pass0) (pa_cons (pv 0) pa_nil))))
      (pss_cons (ps_for PassesOwn.never rfl (pi_range2 (by rfl) T.b_range (pa_cons pe_int (pa_cons (pe_op op_add (pe_glob (v := .int 9973) rfl mg_MOST_PRIME ⟨_, rfl⟩) pe_int) pa_nil))) (pg_name (i := 2) sc_good_prime.nd rfl (Or.inl rfl))
        (pss_one (ps_if (PW.pt (pw_and (pt_val (pe_call G_is_prime (hr.mono (by decide)) (by rfl) g_is_prime k_is_prime b_is_prime .nil pass0 (pa_cons (pv 2) pa_nil))) (pw_and1 (pt_val (pe_call G_is_good (hr.mono (by decide)) (by rfl) g_is_good k_is_good b_is_good .nil pass0 (pa_cons (pv 1) (pa_cons (pv 2) pa_nil))))))) (pss_one (ps_ret (pv 2))) pss_nil)))
      (pss_one ps_never))), ?_⟩
    refine fun pk dk hk1 hk2 hk3 => ⟨pk, dk, rfl, upd_same, rfl, ?_⟩
    have sK := same_made2 (o := .ins C_Wholes dk []) (o' := .ins C_Wholes dk [(("size" : Str), V.int 0)]) hk1 hk2
    have hK := kd_wholes (H := H) (x := pk) (dx := dk) (fs := []) m_Wholes
    generalize upd (upd (upd H dk (.own pk)) pk (.ins C_Wholes dk [])) pk (.ins C_Wholes dk [(("size" : Str), V.int 0)]) = HK at *
    refine ⟨_, rfl, pk, a, 0, true, f, rfl, hK, sK.seq hf, by omega, fun H1 p1 s1 n1 h1 => ?_⟩
    rw [tr_id cf] at h1
    have s01 := sK.trans s1
    refine ⟨_, _, rfl, rfl, 2, 9974, rfl, ⟨by omega, by omega, by omega, by omega⟩, for_range (lo := 2) (n := ((9974 : Int) - 2).toNat) (fun i σ H' => ∃ x2 : Option V, σ = [some (.ref a), some (.ref p1), x2] ∧ Same H1 H' ∧ ∀ j : Nat, j < i → ¬ (PrZ (2 + j : Nat) ∧ GoodP f l (2 + j))) ⟨none, rfl, Same.refl _, fun j h => by omega⟩ (fun i σ H' hi hW => ?_) (fun σ H' hW => ?_)⟩
    · obtain ⟨x2, rfl, sm, hj⟩ := hW
      have e0 : (2 : Int) + (i : Int) = ((2 + i : Nat) : Int) := by omega
      rw [e0]
      refine ⟨_, rfl, _, rfl, fun b1 hb1 => ⟨b1, rfl, ?_⟩⟩
      cases b1 with
      | true =>
        have hP := hb1.mp rfl
        refine iteT ⟨_, rfl, _, rfl, p1, f, f0, l, 2 + i, rfl, sqL_of (sm _ _ h1), ef, lf, hP, fun b2 H2 s2 hb2 => ⟨b2, rfl, ?_⟩⟩
        cases b2 with
        | true => exact iteT ⟨_, rfl, hq (2 + i) H2 ((s01.trans sm).trans s2) hP (hb2.mp rfl)⟩
        | false =>
          refine iteF ⟨_, rfl, sm.trans s2, fun j hj2 => ?_⟩
          by_cases e : j = i
          · rw [e]; intro z; have := hb2.mpr z.2; cases this
          · exact hj j (by omega)
      | false =>
        refine iteF (iteF ⟨_, rfl, sm, fun j hj2 => ?_⟩)
        by_cases e : j = i
        · rw [e]; intro z; have := hb1.mpr z.1; cases this
        · exact hj j (by omega)
    · obtain ⟨x2, rfl, sm, hj⟩ := hW
      exfalso
      have h2 := hP0.1
      have h3 := hP0.2.1
      have e : 2 + (p0 - 2) = p0 := by omega
      exact hj (p0 - 2) (by show p0 - 2 < 9972; omega) (by rw [e]; exact ⟨hP0, hG0⟩)
theorem ok_many_for (T : TX K mg) : FO P w K mg base 5 "many_for" ["prime", "g"] (spManyFor K) := by
  refine FO.mk T.d_many_for sc_many_for (fun _ _ _ _ _ _ us hl => match us, hl with | [_, _], _ => rfl) (fun vs H Q E h => ?_) (fun f cdv A outer s H vs Q E hr h => ?_)
  · obtain ⟨a, f, p, rfl, _⟩ := h; rfl
  · obtain ⟨a, f, p, rfl, hf, cf, lf, hP, hb, hq⟩ := h
    obtain ⟨f_bound, fd_bound, g_bound, k_bound, b_bound, G_bound⟩ := ok_bound (P := P) (w := w) (base := base) T
    refine ⟨_, (pss_cons (ps_set (i := 2) sc_many_for.nd rfl (Or.inl rfl) (pe_op op_mul pe_int (pe_call G_bound (hr.mono (by decide)) (by rfl) g_bound k_bound b_bound .nil pass0 (pa_cons (pv 1) pa_nil))))
      (pss_cons (ps_set (i := 3) sc_many_for.nd rfl (Or.inl rfl) (pv 0))
      (pss_cons (ps_set (i := 4) sc_many_for.nd rfl (Or.inl rfl) pe_int)
      (pss_cons (ps_while PassesOwn.never (pt_cmpR op_le (pv 3) (pv 2) (nomark _))
        (pss_cons (ps_set (i := 3) sc_many_for.nd rfl (Or.inl rfl) (pe_op op_mul (pv 3) (pv 0)))
        (pss_one (ps_aug (i := 4) sc_many_for.nd rfl (Or.inl rfl) pe_int ip_add))))
      (pss_one (ps_ret (pv 4))))))), ?_⟩
    have p2 := hP.1
    have p3 := hP.2.1
    refine ⟨_, rfl, a, f, rfl, hf, by omega, fun H1 s1 => ?_⟩
    rw [tr_id cf]
    refine ⟨2, bnd f, rfl, rfl, .inl (by omega), ?_⟩
    refine ⟨_, rfl, fun m σ H' => ∃ k : Nat, m = (2 * bnd f + 1 - (p : Int) ^ (k + 1)).toNat ∧ σ = [some (.int p), some (.ref a), some (.int (2 * bnd f)), some (.int ((p : Int) ^ (k + 1))), some (.int ((k + 1 : Nat) : Int))] ∧ H' = H1 ∧ (k = 0 ∨ (p : Int) ^ k ≤ 2 * bnd f), ⟨_, 0, rfl, by rw [Int.pow_succ, Int.pow_zero, Int.one_mul]; rfl, rfl, .inl rfl⟩, fun m σ H' hW => ?_⟩
    obtain ⟨k, rfl, rfl, rfl, hk⟩ := hW
    refine ⟨_, rfl, _, rfl, _, _, rfl, rfl, _, rfl, ?_⟩
    have hpos : ∀ n : Nat, (0 : Int) < (p : Int) ^ n := fun n => Int.pow_pos (by omega)
    by_cases hc : (p : Int) ^ (k + 1) ≤ 2 * bnd f
    · refine ifD hc ?_
      refine ⟨fun σ' H2 => σ' = [some (.int p), some (.ref a), some (.int (2 * bnd f)), some (.int ((p : Int) ^ (k + 1 + 1))), some (.int ((k + 1 + 1 : Nat) : Int))] ∧ H2 = H', fun σ' H2 ⟨e1, e2⟩ => ⟨(2 * bnd f + 1 - (p : Int) ^ (k + 1 + 1)).toNat, ?_, k + 1, rfl, e1, e2, .inr hc⟩, ?_⟩
      · have h1 := hpos (k + 1)
        have h2 : (p : Int) ^ (k + 1) * 2 ≤ (p : Int) ^ (k + 1 + 1) := by
          rw [Int.pow_succ (p : Int) (k + 1)]
          exact Int.mul_le_mul_of_nonneg_left p2 (by omega)
        omega
      · refine ⟨_, rfl, _, rfl, (p : Int) ^ (k + 1), p, rfl, rfl, .inr ⟨by omega, by omega⟩, _, rfl, ((k + 1 : Nat) : Int), 1, rfl, rfl, ?_, rfl⟩
        have e : (p : Int) ^ (k + 1 + 1) = (p : Int) ^ (k + 1) * p := Int.pow_succ _ _
        rw [e]; rfl
    · refine ifN hc ?_
      refine ⟨_, rfl, hq (k + 1) H' s1 (by omega) ?_ (by omega) ?_⟩
      · rcases hk with h | h
        · omega
        · have h1 : (2 : Int) ^ k ≤ (p : Int) ^ k := by
            have : ∀ n : Nat, (2 : Int) ^ n ≤ (p : Int) ^ n := fun n => by
              induction n with
              | zero => simp
              | succ n ih =>
                rw [Int.pow_succ, Int.pow_succ]
                exact Int.mul_le_mul ih p2 (by omega) (by have := hpos n; omega)
            exact this k
          refine Nat.le_of_not_lt fun h3 => ?_
          have h4 : (2 : Int) ^ 46 ≤ 2 ^ k := by
            have := Nat.pow_le_pow_right (n := 2) (by omega) (show 46 ≤ k by omega)
            exact_mod_cast this
          have h5 : (2 : Int) ^ 46 = 70368744177664 := by decide
          have h6 : (2 : Int) ^ 44 = 17592186044416 := by decide
          omega
      · have h6 : (2 : Int) ^ 44 = 17592186044416 := by decide
        have h7 : (2 : Int) ^ 60 = 1152921504606846976 := by decide
        have e : (p : Int) ^ (k + 1) = (p : Int) ^ k * p := Int.pow_succ _ _
        rcases hk with h | h
        · rw [h, Int.pow_succ, Int.pow_zero, Int.one_mul]; omega
        · rw [e]
          have h1 : (p : Int) ^ k * p ≤ (2 * bnd f) * 9973 := Int.mul_le_mul h p3 (by omega) (by have := hpos k; omega)
          omega
end
end FF
end
section
set_option Elab.async false
set_option linter.all false
set_option maxRecDepth 100000
set_option maxHeartbeats 4000000
/-! FW20: sets_of, sets, nearest, candidate. -/
namespace FF
open PySem PySem.Spec PyProof.Rows L2
def setsOf : Nat → Nat → List Int
  | _, 0 => [0]
  | 0, _ + 1 => []
  | c + 1, f + 1 => if c + 1 < f + 1 then [] else setsOf c (f + 1) ++ (setsOf c f).map fun b => Builtin.bitOr (2 ^ c) b
def setsAll (c : Nat) : List Int := (List.range (c / 2)).flatMap fun i => setsOf c (i + 1)
def spSetsOf : Nat → Sp
  | 0 => fun _ _ _ _ => False
  | n + 1 => fun vs H Q _ => ∃ c f : Nat, vs = [.int c, .int f] ∧ c ≤ n ∧ c ≤ 10 ∧ NewL H (setsOf c f) Q
theorem setsOf_len : ∀ c f, (setsOf c f).length ≤ 2 ^ c
  | c, 0 => by
    have : (setsOf c 0) = [0] := by cases c <;> rfl
    rw [this]; exact Nat.one_le_two_pow
  | 0, f + 1 => by simp [setsOf]
  | c + 1, f + 1 => by
    have h1 := setsOf_len c (f + 1)
    have h2 := setsOf_len c f
    unfold setsOf
    rw [Nat.pow_succ]
    split
    · simp
    · rw [List.length_append, List.length_map]; omega
theorem setsAll_take (c i : Nat) : ((List.range (i + 1)).flatMap fun i => setsOf c (i + 1)) = ((List.range i).flatMap fun i => setsOf c (i + 1)) ++ setsOf c (i + 1) := by
  rw [List.range_succ, List.flatMap_append]; simp
theorem setsF_len (c : Nat) : ∀ i, ((List.range i).flatMap fun i => setsOf c (i + 1)).length ≤ i * 2 ^ c
  | 0 => by simp
  | i + 1 => by
    rw [setsAll_take, List.length_append, Nat.succ_mul]
    have := setsF_len c i
    have := setsOf_len c (i + 1)
    omega
def spSets : Sp := fun vs H Q _ => ∃ c : Nat, vs = [.int c] ∧ c ≤ 9 ∧ NewL H (setsAll c) Q
/-- the nearest of a class -/
def near (N x : Int) : Int := if N < 2 * (x % N) then x % N - N else x % N
def spNear : Sp := fun vs H Q _ => ∃ x N : Int, vs = [.int x, .int N] ∧ 0 < N ∧ Q (.int (near N x)) H
theorem near_mod {N x y : Int} (h : N ∣ x - y) : near N x = near N y := by
  unfold near
  rw [Int.emod_eq_emod_iff_emod_sub_eq_zero.mpr (Int.emod_eq_zero_of_dvd h)]
theorem near_zero {N : Int} (h : 0 < N) : near N 0 = 0 := by unfold near; rw [Int.zero_emod]; rw [if_neg (by omega)]
theorem near_dvd (N x : Int) : N ∣ near N x - x := by
  unfold near
  have h := Int.emod_add_mul_ediv x N
  split
  · exact ⟨-(x / N) - 1, by rw [Int.mul_sub, Int.mul_neg]; omega⟩
  · exact ⟨-(x / N), by rw [Int.mul_neg]; omega⟩
theorem near_le {N : Int} (h : 0 < N) (x : Int) : -N < 2 * near N x ∧ 2 * near N x ≤ N := by
  unfold near
  have := Int.emod_nonneg x (b := N) (by omega)
  have := Int.emod_lt_of_pos x h
  split <;> omega
theorem near_self {N x : Int} (h1 : -N < 2 * x) (h2 : 2 * x ≤ N) : near N x = x := by
  unfold near
  rcases Int.lt_or_le x 0 with h | h
  · have e : x % N = x + N := by
      rw [← Int.add_emod_right x N]; exact Int.emod_eq_of_lt (by omega) (by omega)
    rw [e, if_pos (by omega)]; omega
  · have e : x % N = x := Int.emod_eq_of_lt h (by omega)
    rw [e, if_neg (by omega)]
/-- the candidate's list -/
def nearL (N : Int) (f : List Int) : List Int := tr 0 (f.map (near N))
theorem co_near {N : Int} (h : 0 < N) (f : List Int) (k : Nat) : co (f.map (near N)) k = near N (co f k) := by
  by_cases hk : k < f.length
  · rw [co_lt (by simpa using hk), co_lt hk]; simp
  · rw [co_ge (by simpa using hk), co_ge (by omega), near_zero h]
theorem nearL_eq {N : Int} (h : 0 < N) {f g : List Int} (e : FF.cl N f = FF.cl N g) : nearL N f = nearL N g := by
  refine tr_co_eq fun k => ?_
  rw [co_near h, co_near h, near_mod (cl_iff.mp e k)]
  exact ⟨0, by omega⟩
theorem nearL_cl {N : Int} (h : 0 < N) (f : List Int) : FF.cl N (nearL N f) = FF.cl N f := by
  refine cl_iff.mpr fun k => ?_
  unfold nearL
  rw [tr_co, Int.emod_zero, co_near h]
  exact near_dvd N _
theorem nearL_rng {N : Int} (h : 0 < N) (f : List Int) : ∀ x ∈ nearL N f, -N < 2 * x ∧ 2 * x ≤ N := fun x hx => by
  obtain ⟨k, hk, e⟩ := List.mem_iff_getElem.mp hx
  have : co (nearL N f) k = x := by rw [co_lt hk, e]
  unfold nearL at this
  rw [tr_co, Int.emod_zero, co_near h] at this
  rw [← this]
  exact near_le h _
/-- the product of the ups that the bits name, as far as k -/
def selP (N : Int) (ups : List (List Int)) (bits : Nat) : Nat → Pm N
  | 0 => 1
  | k + 1 => if bits / 2 ^ k % 2 = 1 then selP N ups bits k * FF.cl N (ups.getD k []) else selP N ups bits k
def spCand (K : PySem.W.Frag) : Sp := fun vs H Q _ => ∃ (a b : Addr) (N : Int) (f f0 : List Int) (l : Int) (ups : List (List Int)) (bits : Nat), vs = [.ref a, .int N, .ref b, .int bits] ∧ SqL K H a (f.map V.int) ∧ Cn 0 f ∧ f = f0 ++ [l] ∧ f.length ≤ 100 ∧ 0 < N ∧ N < 2 ^ 62 ∧ Tab H b ups ∧ ups.length ≤ 10 ∧ (∀ u ∈ ups, u.length ≤ 20 ∧ ∀ x ∈ u, 0 ≤ x ∧ x < N) ∧
  ∀ made : List Int, FF.cl N made = C l * selP N ups bits ups.length → NewL H (nearL N made) Q
section
variable {P : Program} {w : World} {K : PySem.W.Frag} {mg : Str → Option Value} {base : Heap}
theorem ok_sets_of (T : TX K mg) : ∀ n, FO P w K mg base (n + 1) "sets_of" ["count", "few"] (spSetsOf n)
  | 0 => FO.mk T.d_sets_of sc_sets_of (fun _ _ _ _ _ _ us hl => match us, hl with | [_, _], _ => rfl) (fun vs H Q E h => h.elim) (fun f cdv A outer s H vs Q E hr h => h.elim)
  | n + 1 => by
    have IH := ok_sets_of T n
    refine FO.mk T.d_sets_of sc_sets_of (fun _ _ _ _ _ _ us hl => match us, hl with | [_, _], _ => rfl) (fun vs H Q E h => ?_) (fun f cdv A outer s H vs Q E hr h => ?_)
    · obtain ⟨c, k, rfl, _⟩ := h; rfl
    · obtain ⟨c, k, rfl, hc, h10, hq⟩ := h
      obtain ⟨f_sets_of, fd_sets_of, g_sets_of, k_sets_of, b_sets_of, G_sets_of⟩ := IH
      refine ⟨_, (pss_cons (ps_if (pt_cmpR op_eq (pv 1) pe_int (nomark _)) (pss_one (ps_ret (pe_lst (pa_cons pe_int pa_nil)))) pss_nil)
        (pss_cons (ps_if (pt_cmpR op_gt (pv 1) (pv 0) (nomark _)) (pss_one (ps_ret (pe_lst pa_nil))) pss_nil)
        (pss_cons (ps_set (i := 2) sc_sets_of.nd rfl (Or.inr rfl) (pe_op op_shl pe_int (pe_op op_sub (pv 0) pe_int)))
        (pss_one (ps_ret (pe_op op_cat (pe_call G_sets_of hr (by rfl) g_sets_of k_sets_of b_sets_of .nil pass0 (pa_cons (pe_op op_sub (pv 0) pe_int) (pa_cons (pv 1) pa_nil))) (pe_lc (own := [("bits", 3)])  rfl sc_sets_of.nd (pi_list (pe_call G_sets_of hr (by rfl) g_sets_of k_sets_of b_sets_of .nil pass0 (pa_cons (pe_op op_sub (pv 0) pe_int) (pa_cons (pe_op op_sub (pv 1) pe_int) pa_nil)))) (blkOk_by (N := n_sets_of) (sc := defScope s_sets_of) (by decide +kernel)) (fun _ _ _ _ _ => (pg_name (i := 3) sc_sets_of.nd rfl (Or.inl rfl))) (fun _ _ _ _ _ => pts_nil) (fun _ _ _ _ _ => (pe_op op_or (pv 2) (pv 3)))))))))), ?_⟩
      refine ⟨_, rfl, rfl, _, rfl, ?_⟩
      by_cases hk : k = 0
      · refine ifD (vint.mpr (by omega)) ?_
        refine ⟨by show 1 ≤ sizeLine; decide, fun D hD => ?_⟩
        refine hq _ D (same_nw (Same.refl _) hD) hD ?_
        have e : setsOf c k = [0] := by rw [hk]; cases c <;> rfl
        rw [upd_same, e]; rfl
      · refine ifN (fun z => hk (by have := vint.mp z; omega)) ?_
        refine ⟨_, rfl, _, rfl, _, _, rfl, rfl, _, rfl, ?_⟩
        by_cases hkc : c < k
        · refine ifD (by omega) ?_
          refine ⟨by show 0 ≤ sizeLine; decide, fun D hD => ?_⟩
          refine hq _ D (same_nw (Same.refl _) hD) hD ?_
          have e : setsOf c k = [] := by
            match c, k, hk, hkc with
            | 0, f + 1, _, _ => rfl
            | c + 1, f + 1, _, h => unfold setsOf; rw [if_pos h]
          rw [upd_same, e]; rfl
        · refine ifN (by omega) ?_
          cases n with
          | zero => omega
          | succ m =>
            obtain ⟨c', rfl⟩ : ∃ c', c = c' + 1 := ⟨c - 1, by omega⟩
            obtain ⟨k', rfl⟩ : ∃ k', k = k' + 1 := ⟨k - 1, by omega⟩
            have ec : ((c' + 1 : Nat) : Int) - 1 = (c' : Nat) := by omega
            have ek : ((k' + 1 : Nat) : Int) - 1 = (k' : Nat) := by omega
            have e2 : (1 : Int) * 2 ^ (((c' + 1 : Nat) : Int) - 1).toNat = 2 ^ c' := by rw [ec, Int.one_mul]; rfl
            have hq2 : NewL H (setsOf c' (k' + 1) ++ (setsOf c' k').map fun b => Builtin.bitOr (2 ^ c') b) Q := by
              have : setsOf (c' + 1) (k' + 1) = setsOf c' (k' + 1) ++ (setsOf c' k').map fun b => Builtin.bitOr (2 ^ c') b := by
                rw [setsOf, if_neg hkc]
              rw [← this]; exact hq
            refine ⟨_, rfl, ((c' + 1 : Nat) : Int), 1, rfl, rfl, 1, _, rfl, rfl, ⟨by omega, by omega, by decide⟩, ?_⟩
            refine ⟨_, rfl, ((c' + 1 : Nat) : Int), 1, rfl, rfl, _, rfl, c', k' + 1, by dsimp only; rw [ec]; rfl, by omega, by omega, fun H1 p1 s1 n1 h1 => ?_⟩
            refine ⟨_, rfl, ((c' + 1 : Nat) : Int), 1, rfl, rfl, _, rfl, ((k' + 1 : Nat) : Int), 1, rfl, rfl, c', k', by dsimp only; rw [ec, ek]; rfl, by omega, by omega, fun H2 p2 s2 n2 h2 => ?_⟩
            have hlen := setsOf_len c' k'
            have hlen2 := setsOf_len c' (k' + 1)
            have hpw : 2 ^ c' ≤ 2 ^ 10 := Nat.pow_le_pow_right (by omega) (by omega)
            have h10' : 2 ^ 10 = 1024 := by decide
            refine ⟨p2, rfl, ⟨_, sqL_of h2⟩, fun D hD => lcL (xs := (setsOf c' k').map V.int) (fun i => .int (Builtin.bitOr (2 ^ c') (co (setsOf c' k') i))) (by rw [List.length_map]; omega) (sqL_of h2) hD (fun x => rfl) (fun i x H3 hx s3 Qe qe => ?_) (fun H3 s3 h3 => ?_)⟩
            · obtain ⟨rfl, hi⟩ := map_get hx
              have := qe H3 (Same.refl _)
              refine ⟨_, rfl, _, rfl, _, _, rfl, rfl, ?_⟩
              rw [← e2] at this
              exact this
            · have h1' := s3 _ _ (s2 _ _ h1)
              rw [List.length_map, range_map_get (setsOf c' k') fun x => V.int (Builtin.bitOr (2 ^ c') x)] at h3
              refine ⟨p1, D, _, _, rfl, rfl, h1', h3, small_le (by simp; omega), fun p4 n4 => ?_⟩
              refine hq2 _ p4 ((s1.trans (s2.trans s3)).trans (same_nw (Same.refl _) n4)) ((s1.trans (s2.trans s3)).free n4) ?_
              rw [upd_same, List.map_append, List.map_map]; rfl
theorem ok_sets (T : TX K mg) : FO P w K mg base 12 "sets" ["count"] spSets := by
  refine FO.mk T.d_sets sc_sets (fun _ _ _ _ _ _ us hl => match us, hl with | [_], _ => rfl) (fun vs H Q E h => ?_) (fun f cdv A outer s H vs Q E hr h => ?_)
  · obtain ⟨c, rfl, _⟩ := h; rfl
  · obtain ⟨c, rfl, hc, hq⟩ := h
    obtain ⟨f_sets_of, fd_sets_of, g_sets_of, k_sets_of, b_sets_of, G_sets_of⟩ := ok_sets_of (P := P) (w := w) (base := base) T 10
    refine ⟨_, (pss_cons (ps_set (i := 1) sc_sets.nd rfl (Or.inl rfl) (pe_lst pa_nil))
      (pss_cons (ps_for PassesOwn.never rfl (pi_range2 (by rfl) T.b_range (pa_cons pe_int (pa_cons (pe_op op_add (pe_op op_fdivN (pv 0) pe_int) pe_int) pa_nil))) (pg_name (i := 2) sc_sets.nd rfl (Or.inl rfl))
        (pss_one (ps_expr (pe_bm PySem.F.plainAttrs_list PySem.F.slot_list_extend PySem.F.type_list_extend mt_extend (pv 1) (pa_cons (pe_call G_sets_of (hr.mono (by decide)) (by rfl) g_sets_of k_sets_of b_sets_of .nil pass0 (pa_cons (pv 0) (pa_cons (pv 2) pa_nil))) pa_nil)))))
      (pss_one (ps_ret (pv 1))))), ?_⟩
    refine ⟨by show 0 ≤ sizeLine; decide, fun D hD => ?_⟩
    have sD : Same H (upd H D (.lst [])) := same_new (Same.refl _) hD
    have hpw : 2 ^ c ≤ 2 ^ 9 := Nat.pow_le_pow_right (by omega) hc
    have h9' : 2 ^ 9 = 512 := by decide
    have ef : ((c : Nat) : Int).fdiv 2 = ((c / 2 : Nat) : Int) := by rw [Int.fdiv_eq_ediv_of_nonneg _ (by omega)]; rfl
    refine ⟨_, rfl, _, _, rfl, rfl, ⟨by omega, by decide⟩, _, _, rfl, rfl, 1, ((c / 2 : Nat) : Int) + 1, by dsimp only; rw [ef], ⟨by omega, by omega, by omega, by omega⟩, for_range (lo := 1) (n := (((c / 2 : Nat) : Int) + 1 - 1).toNat) (fun i σ H' => ∃ x2 : Option V, σ = [some (.int c), some (.ref D), x2] ∧ Same H H' ∧ H' D = some (.lst (((List.range i).flatMap fun i => setsOf c (i + 1)).map V.int)))
      ⟨none, rfl, sD, upd_same⟩ (fun i σ H' hi hW => ?_) (fun σ H' hW => ?_)⟩
    · obtain ⟨x2, rfl, sm, hd⟩ := hW
      have e0 : (1 : Int) + (i : Int) = ((i + 1 : Nat) : Int) := by omega
      rw [e0]
      refine ⟨_, rfl, .inl ⟨rfl, _, sqL_of hd⟩, _, rfl, _, rfl, c, i + 1, rfl, by omega, by omega, fun H1 p1 s1 n1 h1 => ?_⟩
      have hd1 := s1 _ _ hd
      have hi2 : i < c / 2 := by omega
      refine ⟨D, p1, _, _, rfl, rfl, hd1, h1, small_le ?_, _, rfl, same_new (sm.trans s1) hD, ?_⟩
      · have h1 := setsF_len c i
        have h2 := setsOf_len c (i + 1)
        rw [List.length_map, List.length_map]
        have h3 : i * 2 ^ c ≤ 4 * 512 := Nat.mul_le_mul (by omega) (by omega)
        omega
      · rw [upd_same, setsAll_take, List.map_append]
    · obtain ⟨x2, rfl, sm, hd⟩ := hW
      have e : (((c / 2 : Nat) : Int) + 1 - 1).toNat = c / 2 := by omega
      rw [e] at hd
      exact ⟨_, rfl, hq H' D sm hD hd⟩
theorem ok_nearest (T : TX K mg) : FO P w K mg base 1 "nearest" ["number", "size"] spNear := by
  refine FO.mk T.d_nearest sc_nearest (fun _ _ _ _ _ _ us hl => match us, hl with | [_, _], _ => rfl) (fun vs H Q E h => ?_) (fun f cdv A outer s H vs Q E hr h => ?_)
  · obtain ⟨x, N, rfl, _⟩ := h; rfl
  · obtain ⟨x, N, rfl, hN, hq⟩ := h
    refine ⟨_, (pss_cons (ps_set (i := 2) sc_nearest.nd rfl (Or.inl rfl) (pe_op op_modN (pv 0) (pv 1)))
      (pss_cons (ps_if (pt_cmpR op_gt (pe_op op_mul pe_int (pv 2)) (pv 1) (nomark _)) (pss_one (ps_ret (pe_op op_sub (pv 2) (pv 1)))) pss_nil)
      (pss_one (ps_ret (pv 2))))), ?_⟩
    have e := Int.fmod_eq_emod_of_nonneg x (show 0 ≤ N by omega)
    refine ⟨_, rfl, _, rfl, x, N, rfl, rfl, (show N ≠ 0 by omega), ?_⟩
    refine ⟨_, rfl, 2, x.fmod N, rfl, rfl, .inl (by omega), _, rfl, _, _, rfl, rfl, _, rfl, ?_⟩
    unfold near at hq
    rw [← e] at hq
    by_cases h : N < 2 * x.fmod N
    · rw [if_pos h] at hq
      exact ifD h ⟨_, rfl, _, rfl, _, _, rfl, rfl, hq⟩
    · rw [if_neg h] at hq
      exact ifN h ⟨_, rfl, hq⟩
end
end FF
end
section
set_option Elab.async false
set_option linter.all false
set_option maxRecDepth 100000
set_option maxHeartbeats 4000000
/-! FW21: candidate. -/
namespace FF
open PySem PySem.Spec PyProof.Rows L2
section
variable {P : Program} {w : World} {K : PySem.W.Frag} {mg : Str → Option Value} {base : Heap}
theorem ok_candidate (T : TX K mg) : FO P w K mg base 5 "candidate" ["g", "size", "ups", "bits"] (spCand K) := by
  refine FO.mk T.d_candidate sc_candidate (fun _ _ _ _ _ _ us hl => match us, hl with | [_, _, _, _], _ => rfl) (fun vs H Q E h => ?_) (fun f cdv A outer s H vs Q E hr h => ?_)
  · obtain ⟨a, b, N, f, f0, l, ups, bits, rfl, _⟩ := h; rfl
  · obtain ⟨a, b, N, f, f0, l, ups, bits, rfl, hf, cf, ef, lf, hN, hN2, tU, lU, hU, hq⟩ := h
    obtain ⟨f_trimmed, fd_trimmed, g_trimmed, k_trimmed, b_trimmed, G_trimmed⟩ := ok_trimmed (P := P) (w := w) (base := base) T
    obtain ⟨f_times, fd_times, g_times, k_times, b_times, G_times⟩ := ok_times (P := P) (w := w) (base := base) T
    obtain ⟨f_nearest, fd_nearest, g_nearest, k_nearest, b_nearest, G_nearest⟩ := ok_nearest (P := P) (w := w) (base := base) T
    obtain ⟨C_Wholes, f_Wholes, fd_Wholes, m_Wholes, M_Wholes, b_Wholes, G_Wholes⟩ := mk_wholes (P := P) (w := w) (base := base) T
    refine ⟨_, (pss_cons (ps_set (i := 4) sc_candidate.nd rfl (Or.inl rfl) (pe_make0 M_Wholes G_Wholes (hr.mono (by decide)) rfl m_Wholes b_Wholes .nil pass0))
      (pss_cons (ps_set (i := 5) sc_candidate.nd rfl (Or.inl rfl) (pe_lst (pa_cons (pe_op op_modN (pe_ix (r := rIxL K) ix_list (pe_call G_trimmed (hr.mono (by decide)) (by rfl) g_trimmed k_trimmed b_trimmed .nil pass0 (pa_cons (pv 4) (pa_cons (pv 0) pa_nil))) (pe_un un_neg pe_int) (fun _ _ => rfl)) (pv 1)) pa_nil)))
      (pss_cons (ps_for PassesOwn.never rfl (pi_enum (by rfl) T.b_enumerate (pa_cons (pv 2) pa_nil)) (pg_tup rfl (pgs_cons (pg_name (i := 6) sc_candidate.nd rfl (Or.inl rfl)) (pgs_cons (pg_name (i := 7) sc_candidate.nd rfl (Or.inl rfl)) pgs_nil)))
        (pss_one (ps_if (pt_cmpR op_eq (pe_op op_and (pe_op op_shr (pv 3) (pv 6)) pe_int) pe_int (nomark _)) (pss_one (ps_setLc (i := 5) (own := [("number", 8)])  rfl sc_candidate.nd rfl rfl (sw_true rfl rfl rfl (by decide +kernel)) (pi_list (pe_call G_times (hr.mono (by decide)) (by rfl) g_times k_times b_times .nil pass0 (pa_cons (pv 4) (pa_cons (pv 5) (pa_cons (pv 7) pa_nil))))) (blkOk_by (N := n_candidate) (sc := defScope s_candidate) (by decide +kernel)) (fun _ _ _ _ _ => (pg_name (i := 8) sc_candidate.nd rfl (Or.inl rfl))) (fun _ _ _ _ _ => pts_nil) (fun _ _ _ _ _ => (pe_op op_modN (pv 8) (pv 1))))) pss_nil)))
      (pss_one (ps_ret (pe_call G_trimmed (hr.mono (by decide)) (by rfl) g_trimmed k_trimmed b_trimmed .nil pass0 (pa_cons (pv 4) (pa_cons (pe_lc (own := [("number", 8)])  rfl sc_candidate.nd (pi_list (pv 5)) (blkOk_by (N := n_candidate) (sc := defScope s_candidate) (by decide +kernel)) (fun _ _ _ _ _ => (pg_name (i := 8) sc_candidate.nd rfl (Or.inl rfl))) (fun _ _ _ _ _ => pts_nil) (fun _ _ _ _ _ => (pe_call G_nearest (hr.mono (by decide)) (by rfl) g_nearest k_nearest b_nearest .nil pass0 (pa_cons (pv 8) (pa_cons (pv 1) pa_nil))))) pa_nil)))))))), ?_⟩
    refine fun pk dk hk1 hk2 hk3 => ⟨pk, dk, rfl, upd_same, rfl, ?_⟩
    have sK := same_made2 (o := .ins C_Wholes dk []) (o' := .ins C_Wholes dk [(("size" : Str), V.int 0)]) hk1 hk2
    have hK := kd_wholes (H := H) (x := pk) (dx := dk) (fs := []) m_Wholes
    generalize upd (upd (upd H dk (.own pk)) pk (.ins C_Wholes dk [])) pk (.ins C_Wholes dk [(("size" : Str), V.int 0)]) = HK at *
    refine ⟨_, rfl, _, rfl, pk, a, 0, true, f, rfl, hK, sK.seq hf, by omega, fun H1 p1 s1 n1 h1 => ?_⟩
    rw [tr_id cf] at h1
    have s01 := sK.trans s1
    have hlast : atI (f.map V.int) (-1) = some (.int l) := by rw [ef]; exact at_last f0 l
    have eN : ∀ x : Int, x.fmod N = x % N := fun x => Int.fmod_eq_emod_of_nonneg x (by omega)
    refine ⟨1, rfl, p1, _, -1, _, rfl, rfl, sqL_of h1, hlast, _, rfl, l, N, rfl, rfl, (show N ≠ 0 by omega), by show 1 ≤ sizeLine; decide, fun pM nM => ?_⟩
    have sM : Same H1 (upd H1 pM (.lst [.int (l.fmod N)])) := same_nw (Same.refl _) nM
    have hM : (upd H1 pM (.lst [.int (l.fmod N)])) pM = some (.lst (([l % N] : List Int).map V.int)) := by rw [upd_same, eN]; rfl
    have s02 := s01.trans sM
    have hK2 := hK.same (s1.trans sM)
    obtain ⟨H2, eH2⟩ : ∃ H2, H2 = upd H1 pM (.lst [.int (l.fmod N)]) := ⟨_, rfl⟩
    show gName 5 (.ref pM) _ (upd H1 pM (.lst [.int (l.fmod N)])) _
    rw [← eH2] at sM hM s02 hK2 ⊢
    obtain ⟨pu, hpu, lpu, kpu⟩ := tU.same s02
    have m0 : ∀ x : Int, 0 ≤ x % N ∧ x % N < N := fun x => ⟨Int.emod_nonneg _ (by omega), Int.emod_lt_of_pos _ hN⟩
    refine ⟨_, rfl, b, _, rfl, sqL_of hpu, for_it (walk_enum (xs := pu.map V.ref)) (fun k σ H' => ∃ (made : List Int) (pm : Addr) (x6 x7 : Option V), σ = [some (.ref a), some (.int N), some (.ref b), some (.int bits), some (.ref pk), some (.ref pm), x6, x7, none] ∧ Same H2 H' ∧ H' pm = some (.lst (made.map V.int)) ∧ (∀ x ∈ made, 0 ≤ x ∧ x < N) ∧ made.length ≤ 1 + 20 * k ∧ FF.cl N made = C l * selP N ups bits k)
      ⟨[l % N], pM, none, none, rfl, Same.refl _, hM, fun x hx => by rw [List.mem_singleton] at hx; rw [hx]; exact m0 l, by simp, ?_⟩ (fun i σ H' _ ⟨_, _, _, _, _, s, _⟩ => sqL_of (s _ _ hpu)) (fun i x σ H' H'' hi hP hY => ?_) (fun σ H' hP => ?_)⟩
    · rw [cl_cons, cl_nil, C_mod]; show C l + _ = C l * 1; grind
    · obtain ⟨made, pm, x6, x7, rfl, sm, hm, rm, lm, em⟩ := hP
      obtain ⟨t, y1, y2, rfl, nt, rfl, hy1, hy2⟩ := hY
      obtain rfl : V.int (i : Nat) = y1 := Option.some.inj hy1
      obtain ⟨pr, rfl, hpr⟩ := ref_get hy2
      have hi1 : i < ups.length := by rw [← lpu]; exact (List.getElem?_eq_some_iff.mp hpr).1
      have hrow := kpu i pr _ hpr (getD_at hi1)
      have mU : ups.getD i [] ∈ ups := List.mem_of_getElem? (getD_at hi1)
      refine ⟨t, _, rfl, sqT_of upd_same, rfl, _, _, rfl, _, _, rfl, rfl, ?_⟩
      have s2' : Same H2 (upd H' t (.tup [V.int (i : Nat), V.ref pr])) := same_nw sm nt
      have hm2 : (upd H' t (.tup [V.int (i : Nat), V.ref pr])) pm = some (.lst (made.map V.int)) := by rw [upd_ne (ne_of_none hm nt)]; exact hm
      generalize upd H' t (.tup [V.int (i : Nat), V.ref pr]) = HA at *
      refine ⟨_, rfl, _, rfl, (bits : Int), (i : Int), rfl, rfl, (show (0 : Int) ≤ (i : Int) by omega), _, _, rfl, rfl, rfl, _, rfl, ?_⟩
      have eb : Builtin.bitAnd ((bits : Int) / 2 ^ ((i : Nat) : Int).toNat) 1 = ((bits / 2 ^ i % 2 : Nat) : Int) := by
        have : (bits : Int) / 2 ^ ((i : Nat) : Int).toNat = ((bits / 2 ^ i : Nat) : Int) := by simp
        rw [this]; exact bit1
      by_cases hbit : bits / 2 ^ i % 2 = 1
      · refine ifD (vint.mpr (by rw [eb, hbit]; rfl)) ?_
        obtain ⟨lu, ru⟩ := hU _ mU
        have l10 : 20 * i ≤ 200 := by omega
        refine ⟨_, rfl, _, rfl, _, rfl, pk, pm, pr, 0, true, made, ups.getD i [], rfl, hK2.same s2', sqL_of hm2, sqL_of (s2' _ _ hrow), by omega, by omega, fun x hx y hy => .inl (by have := rm x hx; omega), fun H5 p5 s5 n5 h5 => ?_⟩
        have s25 := s2'.trans s5
        have l5 : (tr 0 (mulL made (ups.getD i []))).length ≤ 1 + 20 * i + 20 := by
          have := tr_len (N := 0) (mulL made (ups.getD i []))
          have := mul_len made (ups.getD i [])
          omega
        have e5 : FF.cl N (tr 0 (mulL made (ups.getD i []))) = FF.cl N made * FF.cl N (ups.getD i []) := by
          rw [← cl_mul]
          refine cl_iff.mpr fun k => ?_
          rw [tr_co, Int.emod_zero]; exact ⟨0, by omega⟩
        have h5' : H5 p5 = some (.lst ((tr 0 (mulL made (ups.getD i []))).map V.int)) := h5
        generalize tr 0 (mulL made (ups.getD i [])) = pr5 at *
        refine ⟨p5, rfl, ⟨_, sqL_of h5'⟩, fun D hD => lcL (xs := pr5.map V.int) (fun k => .int (co pr5 k % N)) (by rw [List.length_map]; omega) (sqL_of h5') hD (fun x => rfl) (fun k x H6 hx s6 Qe qe => ?_) (fun H6 s6 h6 => ?_)⟩
        · obtain ⟨rfl, hk⟩ := map_get hx
          refine ⟨_, rfl, _, rfl, co pr5 k, N, rfl, rfl, (show N ≠ 0 by omega), ?_⟩
          have := qe H6 (Same.refl _)
          rw [← eN] at this
          exact this
        · have h6' : H6 D = some (.lst ((pr5.map (· % N)).map V.int)) := by
            rw [h6, List.length_map, range_map_get pr5 fun x => V.int (x % N), List.map_map]; rfl
          refine ⟨pr5.map (· % N), D, some (.int (i : Nat)), some (.ref pr), rfl, s25.trans s6, h6', fun x hx => ?_, by rw [List.length_map]; omega, ?_⟩
          · obtain ⟨y, _, rfl⟩ := List.mem_map.mp hx; exact m0 y
          · rw [cl_mapmod, e5, em, selP, if_pos hbit]; grind
      · refine ifN (fun z => hbit (by have z2 := vint.mp z; rw [eb] at z2; omega)) ?_
        exact ⟨made, pm, _, _, rfl, s2', hm2, rm, by omega, by rw [selP, if_neg hbit]; exact em⟩
    · obtain ⟨made, pm, x6, x7, rfl, sm, hm, rm, lm, em⟩ := hP
      rw [List.length_map, lpu] at em lm
      have l10 : 20 * ups.length ≤ 200 := by omega
      refine ⟨_, rfl, _, rfl, pm, rfl, ⟨_, sqL_of hm⟩, fun D hD => lcL (xs := made.map V.int) (fun k => .int (near N (co made k))) (by rw [List.length_map]; omega) (sqL_of hm) hD (fun x => rfl) (fun k x H6 hx s6 Qe qe => ?_) (fun H6 s6 h6 => ?_)⟩
      · obtain ⟨rfl, hk⟩ := map_get hx
        exact ⟨_, rfl, _, rfl, co made k, N, rfl, hN, qe H6 (Same.refl _)⟩
      · have h6' : H6 D = some (.lst ((made.map (near N)).map V.int)) := by
          rw [h6, List.length_map, range_map_get made fun x => V.int (near N x), List.map_map]; rfl
        have s26 := sm.trans s6
        refine ⟨pk, D, 0, true, made.map (near N), rfl, hK2.same s26, sqL_of h6', by rw [List.length_map]; omega, fun H7 p7 s7 n7 h7 => ?_⟩
        exact hq made em H7 p7 (s02.trans (s26.trans s7)) ((s02.trans s26).free n7) h7
end
end FF
end
section
set_option Elab.async false
set_option linter.all false
set_option maxRecDepth 100000
set_option maxHeartbeats 4000000
/-! FW22: looked_at. -/
namespace FF
open PySem PySem.Spec PyProof.Rows L2
theorem cut_to (xs : List V) (n : Nat) (h : n ≤ xs.length) : cutV xs none (some (n : Int)) = xs.take n := by
  have e1 : HT.sIx xs.length xs.length (some (n : Int)) = n := by rw [HT.sIx_nat]; omega
  have e2 : HT.sIx xs.length 0 none = 0 := HT.sIx_none _ _
  unfold cutV
  rw [e1, e2]; rfl
def spLookedAt (K : PySem.W.Frag) (mg : Str → Option Value) : Sp := fun vs H Q _ => ∃ (q a b : Addr) (p : Nat) (f f0 : List Int) (l : Int) (Ps : List (List Int)), vs = [.int p, .ref q, .ref a, .ref b] ∧ Kd mg H q p false ∧ IsP p ∧ SqL K H a (f.map V.int) ∧ Cn 0 f ∧ f = f0 ++ [l] ∧ f.length ≤ 100 ∧ ¬ (p : Int) ∣ l ∧ Tab H b Ps ∧ Ps ≠ [] ∧ Ps.length ≤ 20 ∧ (∀ c ∈ Ps, Mo p c ∧ c.length ≤ 20) ∧ (Ps.map (FF.cl (p : Int))).Pairwise Cop ∧
  C l * prd (Ps.map (FF.cl (p : Int))) = FF.cl p f ∧ ∀ H', Same H H' → Q .non H'
section
variable {P : Program} {w : World} {K : PySem.W.Frag} {mg : Str → Option Value} {base : Heap}
theorem ok_looked_at (T : TX K mg) : FO P w K mg base 6 "looked_at" ["prime", "ones", "f", "pieces"] (spLookedAt K mg) := by
  refine FO.mk T.d_looked_at sc_looked_at (fun _ _ _ _ _ _ us hl => match us, hl with | [_, _, _, _], _ => rfl) (fun vs H Q E h => ?_) (fun f cdv A outer s H vs Q E hr h => ?_)
  · obtain ⟨q, a, b, p, f, f0, l, Ps, rfl, _⟩ := h; rfl
  · obtain ⟨q, a, b, p, f, f0, l, Ps, rfl, hKq, hp, hf, cf, ef, lf, hd, tP, hne, lP, mP, pw, ePrd, hq⟩ := h
    have hN := hKq.bnd
    obtain ⟨f_trimmed, fd_trimmed, g_trimmed, k_trimmed, b_trimmed, G_trimmed⟩ := ok_trimmed (P := P) (w := w) (base := base) T
    obtain ⟨f_common, fd_common, g_common, k_common, b_common, G_common⟩ := ok_common (P := P) (w := w) (base := base) T
    obtain ⟨f_times, fd_times, g_times, k_times, b_times, G_times⟩ := ok_times (P := P) (w := w) (base := base) T
    obtain ⟨C_Wholes, f_Wholes, fd_Wholes, m_Wholes, M_Wholes, b_Wholes, G_Wholes⟩ := mk_wholes (P := P) (w := w) (base := base) T
    refine ⟨_, (pss_cons (ps_set (i := 4) sc_looked_at.nd rfl (Or.inl rfl) (pe_call G_trimmed (hr.mono (by decide)) (by rfl) g_trimmed k_trimmed b_trimmed .nil pass0 (pa_cons (pe_make0 M_Wholes G_Wholes (hr.mono (by decide)) rfl m_Wholes b_Wholes .nil pass0) (pa_cons (pv 2) pa_nil))))
      (pss_cons (ps_if (PW.pt (pw_or (pt_cmpR (op_eqD hr.units) (pv 4) (pe_lst pa_nil) (nomark _)) (pw_or1 (pt_cmpR op_eq (pe_op op_modN (pe_ix (r := rIxL K) ix_list (pv 4) (pe_un un_neg pe_int) (fun _ _ => rfl)) (pv 0)) pe_int (nomark _))))) (pss_one ps_never) pss_nil)
      (pss_cons (ps_set (i := 5) sc_looked_at.nd rfl (Or.inl rfl) (pe_lst (pa_cons (pe_ix (r := rIxL K) ix_list (pv 4) (pe_un un_neg pe_int) (fun _ _ => rfl)) pa_nil)))
      (pss_cons (ps_for PassesOwn.never rfl (pi_range1 (by rfl) T.b_range (pa_cons (pe_callB (r := rLenK K) call_len_seq (by rfl) T.b_len (by decide +kernel) (pa_cons (pv 3) pa_nil)) pa_nil)) (pg_name (i := 6) sc_looked_at.nd rfl (Or.inl rfl))
        (pss_cons (ps_if (PW.pt (pw_or (pt_cmpR op_lt (pe_callB (r := rLenK K) call_len_seq (by rfl) T.b_len (by decide +kernel) (pa_cons (pe_ix (r := rIxL K) ix_list (pv 3) (pv 6) (fun _ _ => rfl)) pa_nil)) pe_int (nomark _)) (pw_or1 (pt_cmpR op_ne (pe_ix (r := rIxL K) ix_list (pe_ix (r := rIxL K) ix_list (pv 3) (pv 6) (fun _ _ => rfl)) (pe_un un_neg pe_int) (fun _ _ => rfl)) pe_int (nomark _))))) (pss_one ps_never) pss_nil)
        (pss_cons (ps_for PassesOwn.never rfl (pi_list (pe_slice sl_list (pv 3) po_none (po_some (pv 6)))) (pg_name (i := 7) sc_looked_at.nd rfl (Or.inl rfl))
          (pss_one (ps_if (pt_cmpR (op_neD hr.units) (pe_call G_common (hr.mono (by decide)) (by rfl) g_common k_common b_common .nil pass0 (pa_cons (pv 1) (pa_cons (pe_ix (r := rIxL K) ix_list (pv 3) (pv 6) (fun _ _ => rfl)) (pa_cons (pv 7) pa_nil)))) (pe_lst (pa_cons pe_int pa_nil)) (nomark _)) (pss_one ps_never) pss_nil)))
        (pss_one (ps_set (i := 5) sc_looked_at.nd rfl (Or.inl rfl) (pe_call G_times (hr.mono (by decide)) (by rfl) g_times k_times b_times .nil pass0 (pa_cons (pv 1) (pa_cons (pv 5) (pa_cons (pe_ix (r := rIxL K) ix_list (pv 3) (pv 6) (fun _ _ => rfl)) pa_nil)))))))))
      (pss_one (ps_if (pt_cmpR (op_neD hr.units) (pv 5) (pe_call G_trimmed (hr.mono (by decide)) (by rfl) g_trimmed k_trimmed b_trimmed .nil pass0 (pa_cons (pv 1) (pa_cons (pv 2) pa_nil))) (nomark _)) (pss_one ps_never) pss_nil)))))), ?_⟩
    refine fun pk dk hk1 hk2 hk3 => ⟨pk, dk, rfl, upd_same, rfl, ?_⟩
    have sK := same_made2 (o := .ins C_Wholes dk []) (o' := .ins C_Wholes dk [(("size" : Str), V.int 0)]) hk1 hk2
    have hK := kd_wholes (H := H) (x := pk) (dx := dk) (fs := []) m_Wholes
    generalize upd (upd (upd H dk (.own pk)) pk (.ins C_Wholes dk [])) pk (.ins C_Wholes dk [(("size" : Str), V.int 0)]) = HK at *
    refine ⟨_, rfl, pk, a, 0, true, f, rfl, hK, sK.seq hf, by omega, fun H1 p1 s1 n1 h1 => ?_⟩
    rw [tr_id cf] at h1
    have s01 := sK.trans s1
    have hlast : atI (f.map V.int) (-1) = some (.int l) := by rw [ef]; exact at_last f0 l
    refine ⟨_, rfl, by show 0 ≤ sizeLine; decide, fun pE hE => ?_⟩
    have s2 := same_nw (o := .lst []) s01 hE
    have h12 : (upd H1 pE (.lst [])) p1 = some (.lst (f.map V.int)) := by rw [upd_ne (ne_of_none h1 hE)]; exact h1
    have hE2 : (upd H1 pE (.lst [])) pE = some (.lst []) := upd_same
    generalize upd H1 pE (.lst []) = H2 at *
    refine eqD_ints (l := f) (m := []) (sqL_of h12) (sqL_of hE2) ?_
    refine ⟨_, rfl, ifN (by rw [ef]; simp) ?_⟩
    refine ⟨_, rfl, 1, rfl, p1, _, -1, _, rfl, rfl, sqL_of h12, hlast, _, rfl, l, p, rfl, rfl, (show (p : Int) ≠ 0 by omega), rfl, _, rfl, ifN (fun z => hd (by
        have z2 := vint.mp z
        rw [Int.fmod_eq_emod_of_nonneg _ (by omega)] at z2
        exact Int.dvd_of_emod_eq_zero z2)) ?_⟩
    refine ⟨_, rfl, 1, rfl, p1, _, -1, _, rfl, rfl, sqL_of h12, hlast, by show 1 ≤ sizeLine; decide, fun pM nM => ?_⟩
    have sM : Same H2 (upd H2 pM (.lst [.int l])) := same_nw (Same.refl _) nM
    have hM : (upd H2 pM (.lst [.int l])) pM = some (.lst (([l] : List Int).map V.int)) := upd_same
    have s03 := s2.trans sM
    generalize upd H2 pM (.lst [.int l]) = H3 at *
    obtain ⟨pp, hpp, lpp, kpp⟩ := tP.same s03
    refine ⟨_, rfl, b, _, rfl, .inl (sqL_of hpp), Ps.length, by rw [List.length_map, lpp], by omega, by omega, for_range (lo := 0) (n := ((Ps.length : Nat) : Int).toNat) (fun k σ H' => ∃ (made : List Int) (pm : Addr) (x6 x7 : Option V), σ = [some (.int p), some (.ref q), some (.ref a), some (.ref b), some (.ref p1), some (.ref pm), x6, x7] ∧ Same H3 H' ∧ H' pm = some (.lst (made.map V.int)) ∧ (k = 0 ∨ Cn p made) ∧ made.length ≤ 1 + 20 * k ∧ FF.cl (p : Int) made = C l * prd ((Ps.take k).map (FF.cl (p : Int))))
      ⟨[l], pM, none, none, rfl, Same.refl _, hM, .inl rfl, by simp, by rw [cl_cons, cl_nil]; show _ = C l * 1; grind⟩ (fun k σ H' hk hW => ?_) (fun σ H' hW => ?_)⟩
    · obtain ⟨made, pm, x6, x7, rfl, sm, hm, cm, lm, em⟩ := hW
      have hk2 : k < Ps.length := hk
      have e0 : (0 : Int) + (k : Int) = (k : Nat) := Int.zero_add _
      rw [e0]
      have hk3 : k < pp.length := by omega
      have hpk : pp[k]? = some pp[k] := List.getElem?_eq_getElem hk3
      have hrow := kpp k _ _ hpk (getD_at hk2)
      have mem : Ps.getD k [] ∈ Ps := List.mem_of_getElem? (getD_at hk2)
      obtain ⟨mk, lk⟩ := mP _ mem
      obtain ⟨ck, c0, ec, hc0⟩ := id mk
      have hpp' := sm _ _ hpp
      have hrow' := sm _ _ hrow
      have atk : atI (pp.map V.ref) ((k : Nat) : Int) = some (.ref pp[k]) := atI_nat (by rw [List.getElem?_map, hpk]; rfl)
      have hlk : atI ((Ps.getD k []).map V.int) (-1) = some (.int 1) := by rw [ec]; exact at_last c0 1
      refine ⟨_, rfl, _, rfl, b, _, _, _, rfl, rfl, sqL_of hpp', atk, pp[k], _, rfl, .inl (sqL_of hrow'), _, 2, rfl, rfl, _, rfl, ifN (by rw [List.length_map]; have := mk.len; omega) ?_⟩
      refine ⟨_, rfl, _, rfl, b, _, _, _, rfl, rfl, sqL_of hpp', atk, 1, rfl, pp[k], _, -1, _, rfl, rfl, sqL_of hrow', hlk, rfl, _, rfl, ifEq rfl ?_⟩
      refine ⟨_, rfl, _, rfl, (k : Int), rfl, b, _, rfl, sqL_of hpp', fun pS nS => ?_⟩
      have sS : Same H' (upd H' pS (.lst (cutV (pp.map V.ref) none (some (k : Int))))) := same_nw (Same.refl _) nS
      have hS : (upd H' pS (.lst (cutV (pp.map V.ref) none (some (k : Int))))) pS = some (.lst ((pp.map V.ref).take k)) := by
        rw [upd_same, cut_to _ k (by rw [List.length_map]; omega)]
      generalize upd H' pS (.lst (cutV (pp.map V.ref) none (some (k : Int)))) = H4 at *
      refine ⟨pS, rfl, ⟨_, sqL_of hS⟩, for_list (xs := (pp.map V.ref).take k) (fun j σ H' => ∃ x7 : Option V, σ = [some (.int p), some (.ref q), some (.ref a), some (.ref b), some (.ref p1), some (.ref pm), some (.int (k : Nat)), x7] ∧ Same H4 H')
        ⟨x7, rfl, Same.refl _⟩ (fun j σ H' _ ⟨_, _, s⟩ => sqL_of (s _ _ hS)) (fun j x σ H5 hx hW => ?_) (fun σ H5 hW => ?_)⟩
      · obtain ⟨x7, rfl, s5⟩ := hW
        have hjk : j < k := by have := (List.getElem?_eq_some_iff.mp hx).1; rw [List.length_take] at this; omega
        rw [List.getElem?_take_of_lt hjk] at hx
        obtain ⟨pj, rfl, hpj⟩ := ref_get hx
        have hj : j < Ps.length := by omega
        have s35 := (sm.trans sS).trans s5
        have hrj := s35 _ _ (kpp j _ _ hpj (getD_at hj))
        have memj : Ps.getD j [] ∈ Ps := List.mem_of_getElem? (getD_at hj)
        obtain ⟨mj, lj⟩ := mP _ memj
        have hco : Cop (FF.cl (p : Int) (Ps.getD k [])) (FF.cl p (Ps.getD j [])) := by
          have := List.pairwise_iff_getElem.mp pw j k (by simpa using hj) (by simpa using hk2) hjk
          rw [List.getElem_map, List.getElem_map] at this
          have e1 : Ps.getD j [] = Ps[j] := by rw [List.getD_eq_getElem?_getD, List.getElem?_eq_getElem hj]; rfl
          have e2 : Ps.getD k [] = Ps[k] := by rw [List.getD_eq_getElem?_getD, List.getElem?_eq_getElem hk2]; rfl
          rw [e1, e2]
          exact this.symm
        refine ⟨_, rfl, _, rfl, _, rfl, b, _, _, _, rfl, rfl, sqL_of (s35 _ _ hpp), atk, _, rfl, q, pp[k], pj, p, Ps.getD k [], Ps.getD j [], rfl, hKq.same (s03.trans s35), ⟨p, hp, rfl⟩, sqL_of (s35 _ _ hrow), sqL_of hrj, by omega, by omega, fun d G => fun H6 p6 s6 n6 h6 => ?_⟩
        refine ⟨by show 1 ≤ sizeLine; decide, fun pO nO => ?_⟩
        have sO : Same H6 (upd H6 pO (.lst [.int 1])) := same_nw (Same.refl _) nO
        have hO : (upd H6 pO (.lst [.int 1])) pO = some (.lst (([1] : List Int).map V.int)) := upd_same
        generalize upd H6 pO (.lst [.int 1]) = H7 at *
        refine neD_ints (l := d) (m := [1]) (sqL_of (sO _ _ h6)) (sqL_of hO) ?_
        refine ⟨_, rfl, ifEq (gcd_one hp G hco) ?_⟩
        exact ⟨_, rfl, s5.trans (s6.trans sO)⟩
      · obtain ⟨x7, rfl, s5⟩ := hW
        have s35 := (sm.trans sS).trans s5
        have hm5 := s5 _ _ (sS _ _ hm)
        refine ⟨_, rfl, _, rfl, _, rfl, _, rfl, b, _, _, _, rfl, rfl, sqL_of (s35 _ _ hpp), atk, q, pm, pp[k], p, false, made, Ps.getD k [], rfl, hKq.same (s03.trans s35), sqL_of hm5, sqL_of (s35 _ _ hrow), by omega, by omega, fun x hx y hy => .inr (by have := cn_range hN.1 ck hy; omega), fun H6 p6 s6 n6 h6 => ?_⟩
        refine ⟨_, p6, _, _, rfl, s35.trans s6, h6, .inr (tr_Cn _), ?_, ?_⟩
        · have h1 := tr_len (N := p) (mulL made (Ps.getD k []))
          have h2 := mul_len made (Ps.getD k [])
          show (tr (p : Int) (mulL made (Ps.getD k []))).length ≤ _
          omega
        · show FF.cl (p : Int) (tr (p : Int) (mulL made (Ps.getD k []))) = _
          rw [cl_tr, cl_mul, em, List.take_add_one, getD_at hk2, List.map_append, prd_append]
          simp only [Option.toList, List.map, FF.prd]; grind
    · obtain ⟨made, pm, x6, x7, rfl, sm, hm, cm, lm, em⟩ := hW
      have hl0 : 0 < Ps.length := List.length_pos_iff.mpr hne
      have e0 : ((Ps.length : Nat) : Int).toNat = Ps.length := rfl
      rw [e0, List.take_length, ePrd] at em
      have cm2 : Cn p made := by
        rcases cm with h | h
        · omega
        · exact h
      refine ⟨_, rfl, _, rfl, _, rfl, q, a, p, false, f, rfl, hKq.same (s03.trans sm), (s03.trans sm).seq hf, by omega, fun H6 p6 s6 n6 h6 => ?_⟩
      refine neD_ints (l := made) (m := tr p f) (sqL_of (s6 _ _ hm)) (sqL_of h6) ?_
      refine ⟨_, rfl, ifEq ?_ ?_⟩
      · rw [← tr_id cm2]; exact tr_eq.mpr em
      · exact hq H6 ((s03.trans sm).trans s6)
end
end FF
end
section
set_option Elab.async false
set_option linter.all false
set_option maxRecDepth 100000
set_option maxHeartbeats 4000000
/-! FW23: better. -/
namespace FF
open PySem PySem.Spec PyProof.Rows L2
theorem cn_up {m N : Int} {l : List Int} (h : Cn m l) (h1 : 1 < m) (h2 : m ≤ N) : Cn N l :=
  ⟨fun a ha => by have := cn_range h1 h ha; exact Int.emod_eq_of_lt this.1 (by omega), h.2⟩
theorem cm_rng {l l' : List Int} (h : ∀ x ∈ l, 0 ≤ x ∧ x < 2 ^ 63) : ∀ x ∈ l, ∀ y ∈ l', CMul x y := fun x hx y _ => .inl (by have := h x hx; omega)
/-- two lists at a tuple -/
def TwoT (H : Hp) (T a b : Addr) (x y : List Int) : Prop := H T = some (.tup [.ref a, .ref b]) ∧ H a = some (.lst (x.map V.int)) ∧ H b = some (.lst (y.map V.int))
theorem TwoT.same {H H' : Hp} {T a b : Addr} {x y : List Int} (t : TwoT H T a b x y) (e : Same H H') : TwoT H' T a b x y := ⟨e _ _ t.1, e _ _ t.2.1, e _ _ t.2.2⟩
def spBetter (K : PySem.W.Frag) (mg : Str → Option Value) : Sp := fun vs H Q _ => ∃ (q aF T1 T2 ag ah as_ at_ : Addr) (N m : Int) (f f0 g h s t : List Int), vs = [.ref q, .ref aF, .ref T1, .ref T2] ∧ Kd mg H q N false ∧ N ∣ m * m ∧ m ∣ N ∧ 1 < m ∧ m ≤ N ∧ SqL K H aF (f.map V.int) ∧ f = f0 ++ [1] ∧ f0.length ≤ 10 ∧
  TwoT H T1 ag ah g h ∧ TwoT H T2 as_ at_ s t ∧ HenR m f g h s t ∧
  ∀ H' T T1' T2' ag' ah' as' at' g' h' s' t', Same H H' → H' T = some (.tup [.ref T1', .ref T2']) → TwoT H' T1' ag' ah' g' h' → TwoT H' T2' as' at' s' t' → HenR N f g' h' s' t' → FF.cl m g' = FF.cl m g → FF.cl m h' = FF.cl m h → h'.length = h.length → Q (.ref T) H'
section
variable {P : Program} {w : World} {K : PySem.W.Frag} {mg : Str → Option Value} {base : Heap}
theorem ok_better (T : TX K mg) : FO P w K mg base 5 "better" ["kind", "f", "pair", "turns"] (spBetter K mg) := by
  refine FO.mk T.d_better sc_better (fun _ _ _ _ _ _ us hl => match us, hl with | [_, _, _, _], _ => rfl) (fun vs H Q E h => ?_) (fun f cdv A outer s H vs Q E hr h => ?_)
  · obtain ⟨q, aF, T1, T2, ag, ah, as_, at_, N, m, f, f0, g, h, s, t, rfl, _⟩ := h; rfl
  · obtain ⟨q, aF, T1, T2, ag, ah, as_, at_, N, m, f, f0, g, h, s', t, rfl, hK, hNm, hmN, m1, mN, hf, ef, lf, t1, t2, R, hq⟩ := h
    have hN := hK.bnd
    obtain ⟨f_less, fd_less, g_less, k_less, b_less, G_less⟩ := ok_less (P := P) (w := w) (base := base) T
    obtain ⟨f_times, fd_times, g_times, k_times, b_times, G_times⟩ := ok_times (P := P) (w := w) (base := base) T
    obtain ⟨f_divided, fd_divided, g_divided, k_divided, b_divided, G_divided⟩ := ok_divided (P := P) (w := w) (base := base) T
    obtain ⟨f_plus, fd_plus, g_plus, k_plus, b_plus, G_plus⟩ := ok_plus (P := P) (w := w) (base := base) T
    refine ⟨_, (pss_cons (ps_asg (pv 2) (pg_tup rfl (pgs_cons (pg_name (i := 4) sc_better.nd rfl (Or.inl rfl)) (pgs_cons (pg_name (i := 5) sc_better.nd rfl (Or.inl rfl)) pgs_nil))))
      (pss_cons (ps_asg (pv 3) (pg_tup rfl (pgs_cons (pg_name (i := 6) sc_better.nd rfl (Or.inl rfl)) (pgs_cons (pg_name (i := 7) sc_better.nd rfl (Or.inl rfl)) pgs_nil))))
      (pss_cons (ps_set (i := 8) sc_better.nd rfl (Or.inl rfl) (pe_call G_less (hr.mono (by decide)) (by rfl) g_less k_less b_less .nil pass0 (pa_cons (pv 0) (pa_cons (pv 1) (pa_cons (pe_call G_times (hr.mono (by decide)) (by rfl) g_times k_times b_times .nil pass0 (pa_cons (pv 0) (pa_cons (pv 4) (pa_cons (pv 5) pa_nil)))) pa_nil)))))
      (pss_cons (ps_asg (pe_call G_divided (hr.mono (by decide)) (by rfl) g_divided k_divided b_divided .nil pass0 (pa_cons (pv 0) (pa_cons (pe_call G_times (hr.mono (by decide)) (by rfl) g_times k_times b_times .nil pass0 (pa_cons (pv 0) (pa_cons (pv 6) (pa_cons (pv 8) pa_nil)))) (pa_cons (pv 5) pa_nil)))) (pg_tup rfl (pgs_cons (pg_name (i := 9) sc_better.nd rfl (Or.inl rfl)) (pgs_cons (pg_name (i := 10) sc_better.nd rfl (Or.inl rfl)) pgs_nil))))
      (pss_cons (ps_set (i := 4) sc_better.nd rfl (Or.inl rfl) (pe_call G_plus (hr.mono (by decide)) (by rfl) g_plus k_plus b_plus .nil pass0 (pa_cons (pv 0) (pa_cons (pv 4) (pa_cons (pe_call G_plus (hr.mono (by decide)) (by rfl) g_plus k_plus b_plus .nil pass0 (pa_cons (pv 0) (pa_cons (pe_call G_times (hr.mono (by decide)) (by rfl) g_times k_times b_times .nil pass0 (pa_cons (pv 0) (pa_cons (pv 7) (pa_cons (pv 8) pa_nil)))) (pa_cons (pe_call G_times (hr.mono (by decide)) (by rfl) g_times k_times b_times .nil pass0 (pa_cons (pv 0) (pa_cons (pv 9) (pa_cons (pv 4) pa_nil)))) pa_nil)))) pa_nil)))))
      (pss_cons (ps_set (i := 5) sc_better.nd rfl (Or.inl rfl) (pe_call G_plus (hr.mono (by decide)) (by rfl) g_plus k_plus b_plus .nil pass0 (pa_cons (pv 0) (pa_cons (pv 5) (pa_cons (pv 10) pa_nil)))))
      (pss_cons (ps_set (i := 8) sc_better.nd rfl (Or.inl rfl) (pe_call G_less (hr.mono (by decide)) (by rfl) g_less k_less b_less .nil pass0 (pa_cons (pv 0) (pa_cons (pe_call G_plus (hr.mono (by decide)) (by rfl) g_plus k_plus b_plus .nil pass0 (pa_cons (pv 0) (pa_cons (pe_call G_times (hr.mono (by decide)) (by rfl) g_times k_times b_times .nil pass0 (pa_cons (pv 0) (pa_cons (pv 6) (pa_cons (pv 4) pa_nil)))) (pa_cons (pe_call G_times (hr.mono (by decide)) (by rfl) g_times k_times b_times .nil pass0 (pa_cons (pv 0) (pa_cons (pv 7) (pa_cons (pv 5) pa_nil)))) pa_nil)))) (pa_cons (pe_lst (pa_cons pe_int pa_nil)) pa_nil)))))
      (pss_cons (ps_asg (pe_call G_divided (hr.mono (by decide)) (by rfl) g_divided k_divided b_divided .nil pass0 (pa_cons (pv 0) (pa_cons (pe_call G_times (hr.mono (by decide)) (by rfl) g_times k_times b_times .nil pass0 (pa_cons (pv 0) (pa_cons (pv 6) (pa_cons (pv 8) pa_nil)))) (pa_cons (pv 5) pa_nil)))) (pg_tup rfl (pgs_cons (pg_name (i := 9) sc_better.nd rfl (Or.inl rfl)) (pgs_cons (pg_name (i := 10) sc_better.nd rfl (Or.inl rfl)) pgs_nil))))
      (pss_cons (ps_set (i := 6) sc_better.nd rfl (Or.inl rfl) (pe_call G_less (hr.mono (by decide)) (by rfl) g_less k_less b_less .nil pass0 (pa_cons (pv 0) (pa_cons (pv 6) (pa_cons (pv 10) pa_nil)))))
      (pss_cons (ps_set (i := 7) sc_better.nd rfl (Or.inl rfl) (pe_call G_less (hr.mono (by decide)) (by rfl) g_less k_less b_less .nil pass0 (pa_cons (pv 0) (pa_cons (pe_call G_less (hr.mono (by decide)) (by rfl) g_less k_less b_less .nil pass0 (pa_cons (pv 0) (pa_cons (pv 7) (pa_cons (pe_call G_times (hr.mono (by decide)) (by rfl) g_times k_times b_times .nil pass0 (pa_cons (pv 0) (pa_cons (pv 7) (pa_cons (pv 8) pa_nil)))) pa_nil)))) (pa_cons (pe_call G_times (hr.mono (by decide)) (by rfl) g_times k_times b_times .nil pass0 (pa_cons (pv 0) (pa_cons (pv 9) (pa_cons (pv 4) pa_nil)))) pa_nil)))))
      (pss_one (ps_ret (pe_tup (pa_cons (pe_tup (pa_cons (pv 4) (pa_cons (pv 5) pa_nil))) (pa_cons (pe_tup (pa_cons (pv 6) (pa_cons (pv 7) pa_nil))) pa_nil))))))))))))))), ?_⟩
    have rg : ∀ {l : List Int}, Cn m l → ∀ x ∈ l, 0 ≤ x ∧ x < 2 ^ 63 := fun c x hx => by have := cn_range m1 c hx; omega
    have rN : ∀ {l : List Int}, Cn N l → ∀ x ∈ l, 0 ≤ x ∧ x < 2 ^ 63 := fun c x hx => by have := cn_range hN.1 c hx; omega
    have lF : f.length ≤ 11 := by rw [ef]; simp; omega
    have Rlg := R.lg; have Rlh := R.lh; have Rls := R.ls; have Rlt := R.lt
    have chN : Cn N h := cn_up R.ch m1 mN
    obtain ⟨h0, eh⟩ := R.hm
    refine ⟨_, rfl, T1, _, rfl, sqT_of t1.1, rfl, _, _, rfl, _, _, rfl, rfl, ?_⟩
    refine ⟨_, rfl, T2, _, rfl, sqT_of t2.1, rfl, _, _, rfl, _, _, rfl, rfl, ?_⟩
    -- wrong
    refine ⟨_, rfl, _, rfl, _, rfl, _, rfl, _, rfl, q, ag, ah, N, false, g, h, rfl, hK, sqL_of t1.2.1, sqL_of t1.2.2, by omega, by omega, cm_rng (rg R.cg), fun H1 p1 s1 n1 h1 => ?_⟩
    have k1 : (tr N (mulL g h)).length ≤ 24 := by have := tr_len (N := N) (mulL g h); have := mul_len g h; omega
    refine ⟨q, aF, p1, N, false, f, _, rfl, hK.same s1, s1.seq hf, sqL_of h1, by omega, Nat.le_trans k1 (by omega), trivial, fun H2 p2 s2 n2 h2 => ?_⟩
    have s02 := s1.trans s2
    obtain ⟨e, ee⟩ : ∃ e, e = tr N (subL f (tr N (mulL g h))) := ⟨_, rfl⟩
    have h2' : H2 p2 = some (.lst (e.map V.int)) := by rw [ee]; exact h2
    have le : e.length ≤ 24 := by rw [ee]; have := tr_len (N := N) (subL f (tr N (mulL g h))); rw [len_sub] at this; omega
    have ce : Cn N e := by rw [ee]; exact tr_Cn _
    have cle : FF.cl N e = FF.cl N f - FF.cl N g * FF.cl N h := by rw [ee, cl_tr, cl_sub, cl_tr, cl_mul]
    clear h2 ee
    -- divided
    have t12 := t1.same s02; have t22 := t2.same s02
    refine ⟨_, rfl, _, rfl, _, rfl, _, rfl, q, as_, p2, N, false, s', e, rfl, hK.same s02, sqL_of t22.2.1, sqL_of h2', by omega, by omega, cm_rng (rg R.cs), fun H3 p3 s3 n3 h3 => ?_⟩
    have s03 := s02.trans s3
    have k3 : (tr N (mulL s' e)).length ≤ 60 := by have := tr_len (N := N) (mulL s' e); have := mul_len s' e; omega
    refine ⟨_, rfl, q, p3, ah, N, _, h, rfl, hK.same s03, sqL_of h3, sqL_of (t12.same s3).2.2, Nat.le_trans k3 (by omega), by omega, ⟨h0, 1, _, by rw [tr_id chN]; exact eh, unit1.choose_spec⟩, fun H4 T4 pq pr qu re s4 nT nq nr hT4 hqu hre D1 => ?_⟩
    have s04 := s03.trans s4
    refine ⟨T4, _, rfl, sqT_of hT4, rfl, _, _, rfl, _, _, rfl, rfl, ?_⟩
    have d1 := D1.eq
    have D1' : FF.cl N s' * FF.cl N e = FF.cl N qu * FF.cl N h + FF.cl N re := by
      rw [← d1]; show _ = FF.cl N (tr N (mulL s' e)); rw [cl_tr, cl_mul]
    have l1 := D1.lt
    rw [tr_id chN] at l1
    have lq1 : qu.length ≤ 62 := by
      have := D1.ql
      have h5 : (tr N (tr N (mulL s' e))).length ≤ 60 := Nat.le_trans (tr_len _) k3
      have this2 : qu.length = (tr N (tr N (mulL s' e))).length + 1 - (tr N h).length := this
      omega
    have t14 := t12.same (s3.trans s4); have t24 := t22.same (s3.trans s4)
    have h24 := s4 _ _ (s3 _ _ h2')
    show tSeq _ _ _ [some (V.ref q), some (V.ref aF), some (V.ref T1), some (V.ref T2), some (V.ref ag), some (V.ref ah), some (V.ref as_), some (V.ref at_), some (V.ref p2), some (V.ref pq), some (V.ref pr)] _
    -- g
    refine ⟨_, rfl, _, rfl, _, rfl, _, rfl, _, rfl, _, rfl, q, at_, p2, N, false, t, e, rfl, hK.same s04, sqL_of t24.2.2, sqL_of h24, by omega, by omega, cm_rng (rg R.ct), fun H5 p5 s5 n5 h5 => ?_⟩
    have s05 := s04.trans s5
    have k5 : (tr N (mulL t e)).length ≤ 90 := by have := tr_len (N := N) (mulL t e); have := mul_len t e; omega
    have qr63 : ∀ x ∈ qu, 0 ≤ x ∧ x < 2 ^ 63 := fun x hx => by have := D1.qr x hx; omega
    refine ⟨_, rfl, _, rfl, _, rfl, q, pq, ag, N, false, qu, g, rfl, hK.same s05, sqL_of (s5 _ _ hqu), sqL_of (t14.same s5).2.1, by omega, by omega, cm_rng qr63, fun H6 p6 s6 n6 h6 => ?_⟩
    have s06 := s05.trans s6
    have k6 : (tr N (mulL qu g)).length ≤ 90 := by have := tr_len (N := N) (mulL qu g); have := mul_len qu g; omega
    refine ⟨q, p5, p6, N, false, _, _, rfl, hK.same s06, sqL_of (s6 _ _ h5), sqL_of h6, Nat.le_trans k5 (by omega), Nat.le_trans k6 (by omega), trivial, fun H7 p7 s7 n7 h7 => ?_⟩
    have s07 := s06.trans s7
    have s47 := s5.trans (s6.trans s7)
    have k7 : (tr N (addL (tr N (mulL t e)) (tr N (mulL qu g)))).length ≤ 90 := by have := tr_len (N := N) (addL (tr N (mulL t e)) (tr N (mulL qu g))); rw [len_add] at this; omega
    refine ⟨q, ag, p7, N, false, g, _, rfl, hK.same s07, sqL_of (t14.same s47).2.1, sqL_of h7, by omega, Nat.le_trans k7 (by omega), trivial, fun H8 p8 s8 n8 h8 => ?_⟩
    have s08 := s07.trans s8
    obtain ⟨g1, eg1⟩ : ∃ g1, g1 = tr N (addL g (tr N (addL (tr N (mulL t e)) (tr N (mulL qu g))))) := ⟨_, rfl⟩
    have h8' : H8 p8 = some (.lst (g1.map V.int)) := by rw [eg1]; exact h8
    have lg1 : g1.length ≤ 90 := by rw [eg1]; have := tr_len (N := N) (addL g (tr N (addL (tr N (mulL t e)) (tr N (mulL qu g))))); rw [len_add] at this; omega
    have cg1 : Cn N g1 := by rw [eg1]; exact tr_Cn _
    have clg1 : FF.cl N g1 = FF.cl N g + (FF.cl N t * FF.cl N e + FF.cl N qu * FF.cl N g) := by rw [eg1, cl_tr, cl_add, cl_tr, cl_add, cl_tr, cl_tr, cl_mul, cl_mul]
    clear h8 eg1
    have s48 := s47.trans s8
    have t18 := t14.same s48; have t28 := t24.same s48
    -- h
    have lre : re.length ≤ 12 := by omega
    refine ⟨_, rfl, _, rfl, _, rfl, q, ah, pr, N, false, h, re, rfl, hK.same s08, sqL_of t18.2.2, sqL_of (s48 _ _ hre), by omega, by omega, trivial, fun H9 p9 s9 n9 h9 => ?_⟩
    have s09 := s08.trans s9
    obtain ⟨h1', eh1⟩ : ∃ h1', h1' = tr N (addL h re) := ⟨_, rfl⟩
    have h9' : H9 p9 = some (.lst (h1'.map V.int)) := by rw [eh1]; exact h9
    have lh1 : h1'.length ≤ 12 := by rw [eh1]; have := tr_len (N := N) (addL h re); rw [len_add] at this; omega
    have ch1 : Cn N h1' := by rw [eh1]; exact tr_Cn _
    have clh1 : FF.cl N h1' = FF.cl N h + FF.cl N re := by rw [eh1, cl_tr, cl_add]
    clear h9 eh1
    have h89 := s9 _ _ h8'
    have t19 := t18.same s9; have t29 := t28.same s9
    show tSeq _ _ _ [some (V.ref q), some (V.ref aF), some (V.ref T1), some (V.ref T2), some (V.ref p8), some (V.ref p9), some (V.ref as_), some (V.ref at_), some (V.ref p2), some (V.ref pq), some (V.ref pr)] _
    -- wrong again
    refine ⟨_, rfl, _, rfl, _, rfl, _, rfl, _, rfl, q, as_, p8, N, false, s', g1, rfl, hK.same s09, sqL_of t29.2.1, sqL_of h89, by omega, by omega, cm_rng (rg R.cs), fun H10 p10 s10 n10 h10 => ?_⟩
    have s010 := s09.trans s10
    have k10 : (tr N (mulL s' g1)).length ≤ 130 := by have := tr_len (N := N) (mulL s' g1); have := mul_len s' g1; omega
    refine ⟨_, rfl, _, rfl, _, rfl, q, at_, p9, N, false, t, h1', rfl, hK.same s010, sqL_of (t29.same s10).2.2, sqL_of (s10 _ _ h9'), by omega, by omega, cm_rng (rg R.ct), fun H11 p11 s11 n11 h11 => ?_⟩
    have s011 := s010.trans s11
    have k11 : (tr N (mulL t h1')).length ≤ 130 := by have := tr_len (N := N) (mulL t h1'); have := mul_len t h1'; omega
    refine ⟨q, p10, p11, N, false, _, _, rfl, hK.same s011, sqL_of (s11 _ _ h10), sqL_of h11, Nat.le_trans k10 (by omega), Nat.le_trans k11 (by omega), trivial, fun H12 p12 s12 n12 h12 => ?_⟩
    have s012 := s011.trans s12
    have k12 : (tr N (addL (tr N (mulL s' g1)) (tr N (mulL t h1')))).length ≤ 130 := by have := tr_len (N := N) (addL (tr N (mulL s' g1)) (tr N (mulL t h1'))); rw [len_add] at this; omega
    refine ⟨by show 1 ≤ sizeLine; decide, fun pO nO => ?_⟩
    have sO : Same H12 (upd H12 pO (.lst [.int 1])) := same_nw (Same.refl _) nO
    have hO : (upd H12 pO (.lst [.int 1])) pO = some (.lst (([1] : List Int).map V.int)) := upd_same
    have h12' := sO _ _ h12
    generalize upd H12 pO (.lst [.int 1]) = H13 at *
    have s013 := s012.trans sO
    refine ⟨q, p12, pO, N, false, _, [1], rfl, hK.same s013, sqL_of h12', sqL_of hO, Nat.le_trans k12 (by omega), by simp, trivial, fun H14 p14 s14 n14 h14 => ?_⟩
    have s014 := s013.trans s14
    obtain ⟨b, eb⟩ : ∃ b, b = tr N (subL (tr N (addL (tr N (mulL s' g1)) (tr N (mulL t h1')))) [1]) := ⟨_, rfl⟩
    have h14' : H14 p14 = some (.lst (b.map V.int)) := by rw [eb]; exact h14
    have lb : b.length ≤ 130 := by rw [eb]; have := tr_len (N := N) (subL (tr N (addL (tr N (mulL s' g1)) (tr N (mulL t h1')))) [1]); rw [len_sub] at this; simp at this; omega
    have cb : Cn N b := by rw [eb]; exact tr_Cn _
    have clb : FF.cl N b = FF.cl N s' * FF.cl N g1 + FF.cl N t * FF.cl N h1' - 1 := by
      rw [eb, cl_tr, cl_sub, cl_tr, cl_add, cl_tr, cl_tr, cl_mul, cl_mul]; rfl
    clear h14 eb
    have s9e := s10.trans (s11.trans (s12.trans (sO.trans s14)))
    have t1e := t19.same s9e; have t2e := t29.same s9e
    have h9e := s9e _ _ h9'
    have h8e := s9e _ _ h89
    have monh1 : Mon (FF.cl N h1') h0.length := by
      rw [clh1, eh, cl_append, cl_cons, cl_nil, C_one]
      exact ⟨FF.cl N h0 + FF.cl N re, Dg.add' (Dg.of_cl h0) ((Dg.of_cl re).mono (by rw [eh] at l1; simp at l1; omega)), by grind⟩
    obtain ⟨h10', eh10, _⟩ := mon_list ch1 monh1 (one_mod hN.1)
    show tSeq _ _ _ [some (V.ref q), some (V.ref aF), some (V.ref T1), some (V.ref T2), some (V.ref p8), some (V.ref p9), some (V.ref as_), some (V.ref at_), some (V.ref p14), some (V.ref pq), some (V.ref pr)] _
    -- divided again
    refine ⟨_, rfl, _, rfl, _, rfl, _, rfl, q, as_, p14, N, false, s', b, rfl, hK.same s014, sqL_of t2e.2.1, sqL_of h14', by omega, by omega, cm_rng (rg R.cs), fun H15 p15 s15 n15 h15 => ?_⟩
    have s015 := s014.trans s15
    have k15 : (tr N (mulL s' b)).length ≤ 170 := by have := tr_len (N := N) (mulL s' b); have := mul_len s' b; omega
    refine ⟨_, rfl, q, p15, p9, N, _, h1', rfl, hK.same s015, sqL_of h15, sqL_of (s15 _ _ h9e), Nat.le_trans k15 (by omega), by omega, ⟨h10', 1, _, by rw [tr_id ch1]; exact eh10, unit1.choose_spec⟩, fun H16 T16 pq2 pr2 qu2 re2 s16 nT16 nq16 nr16 hT16 hqu2 hre2 D2 => ?_⟩
    have s016 := s015.trans s16
    refine ⟨T16, _, rfl, sqT_of hT16, rfl, _, _, rfl, _, _, rfl, rfl, ?_⟩
    have D2' : FF.cl N s' * FF.cl N b = FF.cl N qu2 * FF.cl N h1' + FF.cl N re2 := by
      rw [← D2.eq]; show _ = FF.cl N (tr N (mulL s' b)); rw [cl_tr, cl_mul]
    have l2 := D2.lt
    rw [tr_id ch1] at l2
    have lq2 : qu2.length ≤ 172 := by
      have h5 : (tr N (tr N (mulL s' b))).length ≤ 170 := Nat.le_trans (tr_len _) k15
      have this2 : qu2.length = (tr N (tr N (mulL s' b))).length + 1 - (tr N h1').length := D2.ql
      omega
    have se6 := s15.trans s16
    have t2f := t2e.same se6
    have h8f := se6 _ _ h8e
    have h9f := se6 _ _ h9e
    have h14f := se6 _ _ h14'
    show tSeq _ _ _ [some (V.ref q), some (V.ref aF), some (V.ref T1), some (V.ref T2), some (V.ref p8), some (V.ref p9), some (V.ref as_), some (V.ref at_), some (V.ref p14), some (V.ref pq2), some (V.ref pr2)] _
    -- s
    refine ⟨_, rfl, _, rfl, _, rfl, q, as_, pr2, N, false, s', re2, rfl, hK.same s016, sqL_of t2f.2.1, sqL_of hre2, by omega, by omega, trivial, fun H17 p17 s17 n17 h17 => ?_⟩
    have s017 := s016.trans s17
    -- t
    refine ⟨_, rfl, _, rfl, _, rfl, _, rfl, _, rfl, _, rfl, q, at_, p14, N, false, t, b, rfl, hK.same s017, sqL_of (t2f.same s17).2.2, sqL_of (s17 _ _ h14f), by omega, by omega, cm_rng (rg R.ct), fun H18 p18 s18 n18 h18 => ?_⟩
    have s018 := s017.trans s18
    have k18 : (tr N (mulL t b)).length ≤ 200 := by have := tr_len (N := N) (mulL t b); have := mul_len t b; omega
    refine ⟨q, at_, p18, N, false, t, _, rfl, hK.same s018, sqL_of (t2f.same (s17.trans s18)).2.2, sqL_of h18, by omega, Nat.le_trans k18 (by omega), trivial, fun H19 p19 s19 n19 h19 => ?_⟩
    have s019 := s018.trans s19
    have k19 : (tr N (subL t (tr N (mulL t b)))).length ≤ 200 := by have := tr_len (N := N) (subL t (tr N (mulL t b))); rw [len_sub] at this; omega
    have s79 := s17.trans (s18.trans s19)
    have q263 : ∀ x ∈ qu2, 0 ≤ x ∧ x < 2 ^ 63 := fun x hx => by have := D2.qr x hx; omega
    refine ⟨_, rfl, _, rfl, _, rfl, q, pq2, p8, N, false, qu2, g1, rfl, hK.same s019, sqL_of (s79 _ _ hqu2), sqL_of (s79 _ _ h8f), by omega, by omega, cm_rng q263, fun H20 p20 s20 n20 h20 => ?_⟩
    have s020 := s019.trans s20
    have k20 : (tr N (mulL qu2 g1)).length ≤ 300 := by have := tr_len (N := N) (mulL qu2 g1); have := mul_len qu2 g1; omega
    refine ⟨q, p19, p20, N, false, _, _, rfl, hK.same s020, sqL_of (s20 _ _ h19), sqL_of h20, Nat.le_trans k19 (by omega), Nat.le_trans k20 (by omega), trivial, fun H21 p21 s21 n21 h21 => ?_⟩
    have s021 := s020.trans s21
    have s7e := s79.trans (s20.trans s21)
    have hA := s7e _ _ h8f
    have hB := s7e _ _ h9f
    have hC := (s18.trans (s19.trans (s20.trans s21))) _ _ h17
    -- the tuples
    refine ⟨_, rfl, _, rfl, by show 2 ≤ sizeLine; decide, fun x1 nx1 => ⟨_, rfl, _, rfl, by show 2 ≤ sizeLine; decide, fun x2 nx2 => ⟨by show 2 ≤ sizeLine; decide, fun x3 nx3 => ?_⟩⟩⟩
    have u1 : Same H21 (upd H21 x1 (.tup [.ref p8, .ref p9])) := same_nw (Same.refl _) nx1
    have e1 : (upd H21 x1 (.tup [.ref p8, .ref p9])) x1 = some (.tup [.ref p8, .ref p9]) := upd_same
    generalize upd H21 x1 (.tup [.ref p8, .ref p9]) = HX at *
    have u2 : Same HX (upd HX x2 (.tup [.ref p17, .ref p21])) := same_nw (Same.refl _) nx2
    have e2 : (upd HX x2 (.tup [.ref p17, .ref p21])) x2 = some (.tup [.ref p17, .ref p21]) := upd_same
    have e1' := u2 _ _ e1
    have u12 := u1.trans u2
    generalize upd HX x2 (.tup [.ref p17, .ref p21]) = HY at *
    have u3 : Same HY (upd HY x3 (.tup [.ref x1, .ref x2])) := same_nw (Same.refl _) nx3
    have e3 : (upd HY x3 (.tup [.ref x1, .ref x2])) x3 = some (.tup [.ref x1, .ref x2]) := upd_same
    have e1'' := u3 _ _ e1'
    have e2'' := u3 _ _ e2
    have u13 := u12.trans u3
    generalize upd HY x3 (.tup [.ref x1, .ref x2]) = HZ at *
    have cls : FF.cl N (tr N (subL s' re2)) = FF.cl N s' - FF.cl N re2 := by rw [cl_tr, cl_sub]
    have clt : FF.cl N (tr N (subL (tr N (subL t (tr N (mulL t b)))) (tr N (mulL qu2 g1)))) = FF.cl N t - FF.cl N t * FF.cl N b - FF.cl N qu2 * FF.cl N g1 := by
      rw [cl_tr, cl_sub, cl_tr, cl_sub, cl_tr, cl_tr, cl_mul, cl_mul]
    obtain ⟨R1, m1', m2', l3⟩ := hen_step (se := []) (sb := []) hNm hmN hN.1 R ef lf cle D1' l1 clg1 clh1 clb D2' l2 cg1 ch1 (tr_Cn _) (tr_Cn _) cls clt
    exact hq HZ x3 x1 x2 p8 p9 p17 p21 g1 h1' _ _ (s021.trans u13) e3 ⟨e1'', u13 _ _ hA, u13 _ _ hB⟩ ⟨e2'', u13 _ _ hC, u13 _ _ h21⟩ R1 m1' m2' l3
end
end FF
end
section
set_option Elab.async false
set_option linter.all false
set_option maxRecDepth 100000
set_option maxHeartbeats 4000000
/-! FW24: lifted_pair. -/
namespace FF
open PySem PySem.Spec PyProof.Rows L2
/-- a pair of lists that makes f -/
structure LpR (N : Int) (p : Nat) (f g h g' h' : List Int) : Prop where
  cg : Cn N g'
  ch : Cn N h'
  hm : ∃ h0, h' = h0 ++ [1]
  fg : FF.cl N f = FF.cl N g' * FF.cl N h'
  dg : FF.cl (p : Int) g' = FF.cl p g
  dh : FF.cl (p : Int) h' = FF.cl p h
  lh : h'.length = h.length
theorem pow_le_pow {p : Int} (h : 2 ≤ p) {a b : Nat} (hab : a ≤ b) : p ^ a ≤ p ^ b := by
  obtain ⟨c, rfl⟩ : ∃ c, b = a + c := ⟨b - a, by omega⟩
  have h1 : ∀ c : Nat, 1 ≤ p ^ c := fun c => by
    have : (0 : Int) < p ^ c := Int.pow_pos (by omega)
    omega
  rw [Int.pow_add]
  have h2 : 0 ≤ p ^ a := by have := h1 a; omega
  calc p ^ a = p ^ a * 1 := by rw [Int.mul_one]
    _ ≤ p ^ a * p ^ c := Int.mul_le_mul_of_nonneg_left (h1 c) h2
theorem pow_dvd_pow' {p : Int} {a b : Nat} (hab : a ≤ b) : p ^ a ∣ p ^ b := by
  obtain ⟨c, rfl⟩ : ∃ c, b = a + c := ⟨b - a, by omega⟩
  rw [Int.pow_add]; exact Int.dvd_mul_right _ _
def spLP (K : PySem.W.Frag) (mg : Str → Option Value) : Sp := fun vs H Q _ => ∃ (aF ag ah : Addr) (p many : Nat) (f f0 g h : List Int), vs = [.int p, .int many, .ref aF, .ref ag, .ref ah] ∧ PrZ p ∧ 1 ≤ many ∧ many ≤ 400 ∧ (p : Int) ^ many < 2 ^ 63 ∧ SqL K H aF (f.map V.int) ∧ f = f0 ++ [1] ∧ f0.length ≤ 10 ∧ H ag = some (.lst (g.map V.int)) ∧ H ah = some (.lst (h.map V.int)) ∧ Cn p g ∧ Cn p h ∧ (∃ h0, h = h0 ++ [1]) ∧ g.length ≤ 12 ∧ h.length ≤ 12 ∧ Cop (FF.cl (p : Int) g) (FF.cl p h) ∧ FF.cl (p : Int) f = FF.cl p g * FF.cl p h ∧
  ∀ H' T a b g' h', Same H H' → TwoT H' T a b g' h' → LpR ((p : Int) ^ many) p f g h g' h' → Q (.ref T) H'
section
variable {P : Program} {w : World} {K : PySem.W.Frag} {mg : Str → Option Value} {base : Heap}
theorem ok_lifted_pair (T : TX K mg) : FO P w K mg base 7 "lifted_pair" ["prime", "many", "f", "g", "h"] (spLP K mg) := by
  refine FO.mk T.d_lifted_pair sc_lifted_pair (fun _ _ _ _ _ _ us hl => match us, hl with | [_, _, _, _, _], _ => rfl) (fun vs H Q E h => ?_) (fun f cdv A outer s H vs Q E hr h => ?_)
  · obtain ⟨aF, ag, ah, p, many, f, f0, g, h, rfl, _⟩ := h; rfl
  · obtain ⟨aF, ag, ah, p, many, f, f0, g, h, rfl, hP, m1, m400, hp63, hf, ef, lf, hg, hh, cg, ch, hm, lg, lh, hco, hfg, hq⟩ := h
    have hp := prz_isp hP
    have p2 := hP.1
    have p3 := hP.2.1
    obtain ⟨f_shares, fd_shares, g_shares, k_shares, b_shares, G_shares⟩ := ok_shares (P := P) (w := w) (base := base) T
    obtain ⟨f_better, fd_better, g_better, k_better, b_better, G_better⟩ := ok_better (P := P) (w := w) (base := base) T
    obtain ⟨C_Rests, f_Rests, fd_Rests, m_Rests, M_Rests, b_Rests, G_Rests⟩ := mk_rests (P := P) (w := w) (base := base) T
    obtain ⟨C_Powers, f_Powers, fd_Powers, m_Powers, M_Powers, b_Powers, G_Powers⟩ := mk_powers (P := P) (w := w) (base := base) T
    refine ⟨_, (pss_cons (ps_set (i := 5) sc_lifted_pair.nd rfl (Or.inl rfl) (pe_slice sl_tup (pe_call G_shares (hr.mono (by decide)) (by rfl) g_shares k_shares b_shares .nil pass0 (pa_cons (pe_make M_Rests G_Rests (hr.mono (by decide)) rfl m_Rests b_Rests .nil pass0 (pa_cons (pv 0) pa_nil)) (pa_cons (pv 3) (pa_cons (pv 4) pa_nil)))) (po_some pe_int) po_none))
      (pss_cons (ps_set (i := 6) sc_lifted_pair.nd rfl (Or.inl rfl) (pe_tup (pa_cons (pv 3) (pa_cons (pv 4) pa_nil))))
      (pss_cons (ps_set (i := 7) sc_lifted_pair.nd rfl (Or.inl rfl) pe_int)
      (pss_cons (ps_while PassesOwn.never (pt_cmpR op_lt (pv 7) (pv 1) (nomark _))
        (pss_cons (ps_set (i := 7) sc_lifted_pair.nd rfl (Or.inl rfl) (pe_callB (call_min2 rfl) (by rfl) T.b_min (by decide +kernel) (pa_cons (pe_op op_mul pe_int (pv 7)) (pa_cons (pv 1) pa_nil))))
        (pss_one (ps_asg (pe_call G_better (hr.mono (by decide)) (by rfl) g_better k_better b_better .nil pass0 (pa_cons (pe_make M_Powers G_Powers (hr.mono (by decide)) rfl m_Powers b_Powers .nil pass0 (pa_cons (pv 0) (pa_cons (pv 7) pa_nil))) (pa_cons (pv 2) (pa_cons (pv 6) (pa_cons (pv 5) pa_nil))))) (pg_tup rfl (pgs_cons (pg_name (i := 6) sc_lifted_pair.nd rfl (Or.inl rfl)) (pgs_cons (pg_name (i := 5) sc_lifted_pair.nd rfl (Or.inl rfl)) pgs_nil)))))))
      (pss_one (ps_ret (pv 6))))))), ?_⟩
    refine ⟨_, rfl, fun pk dk hk1 hk2 hk3 => ⟨pk, dk, p, rfl, hP, upd_same, rfl, ?_⟩⟩
    have sK := same_made2 (o := .ins C_Rests dk []) (o' := .ins C_Rests dk [(("size" : Str), V.int p)]) hk1 hk2
    have hK := kd_rests (H := H) (x := pk) (dx := dk) (fs := []) (p := p) m_Rests (by omega) (by omega)
    generalize upd (upd (upd H dk (.own pk)) pk (.ins C_Rests dk [])) pk (.ins C_Rests dk [(("size" : Str), V.int p)]) = HK at *
    refine ⟨_, rfl, _, rfl, pk, ag, ah, p, g, h, rfl, hK, ⟨p, hp, rfl⟩, sqL_of (sK _ _ hg), sqL_of (sK _ _ hh), by omega, by omega, fun H1 T1 q0 q1 q2 d x y s1 nT hT h10 h11 h12 SR => ?_⟩
    have ed : d = [1] := gcd_one hp SR.gcd hco
    subst ed
    have s01 := sK.trans s1
    refine ⟨1, rfl, T1, _, rfl, sqT_of hT, ?_, fun pt nt => ?_⟩
    · show ¬ (HT.sIx 3 0 (some 1) = 0 ∧ HT.sIx 3 3 none = 3)
      decide
    have hcut : cutV [V.ref q0, V.ref q1, V.ref q2] (some 1) none = [V.ref q1, V.ref q2] := cut1 _ (by simp)
    rw [hcut]
    have s2 : Same H1 (upd H1 pt (.tup [.ref q1, .ref q2])) := same_nw (Same.refl _) nt
    have h2 : (upd H1 pt (.tup [.ref q1, .ref q2])) pt = some (.tup [.ref q1, .ref q2]) := upd_same
    have h21 := s2 _ _ h11
    have h22 := s2 _ _ h12
    have s02 := s01.trans s2
    generalize upd H1 pt (.tup [.ref q1, .ref q2]) = H2 at *
    refine ⟨_, rfl, _, rfl, by show 2 ≤ sizeLine; decide, fun pp np => ?_⟩
    have s3 : Same H2 (upd H2 pp (.tup [.ref ag, .ref ah])) := same_nw (Same.refl _) np
    have h3 : (upd H2 pp (.tup [.ref ag, .ref ah])) pp = some (.tup [.ref ag, .ref ah]) := upd_same
    have s03 := s02.trans s3
    have tS : TwoT (upd H2 pp (.tup [.ref ag, .ref ah])) pt q1 q2 x y := ⟨s3 _ _ h2, s3 _ _ h21, s3 _ _ h22⟩
    have tG : TwoT (upd H2 pp (.tup [.ref ag, .ref ah])) pp ag ah g h := ⟨h3, s03 _ _ hg, s03 _ _ hh⟩
    generalize upd H2 pp (.tup [.ref ag, .ref ah]) = H3 at *
    have R0 : HenR ((p : Int) ^ 1) f g h x y := by
      rw [Int.pow_succ, Int.pow_zero, Int.one_mul]
      refine ⟨cg, ch, SR.ca, SR.cb, hm, hfg, SR.eq, lg, lh, ?_, ?_⟩
      · have := SR.la; omega
      · have := SR.lb; omega
    refine ⟨fun m σ H' => ∃ (k : Nat) (g' h' s' t' : List Int) (T1 T2 a b c e : Addr), m = many - k ∧ 1 ≤ k ∧ k ≤ many ∧ σ = [some (.int p), some (.int many), some (.ref aF), some (.ref ag), some (.ref ah), some (.ref T2), some (.ref T1), some (.int k)] ∧ Same H H' ∧ TwoT H' T1 a b g' h' ∧ TwoT H' T2 c e s' t' ∧ HenR ((p : Int) ^ k) f g' h' s' t' ∧ FF.cl (p : Int) g' = FF.cl p g ∧ FF.cl (p : Int) h' = FF.cl p h ∧ h'.length = h.length,
      ⟨_, 1, g, h, x, y, pp, pt, ag, ah, q1, q2, rfl, Nat.le_refl _, m1, rfl, s03, tG, tS, R0, rfl, rfl, rfl⟩, fun m σ H' hW => ?_⟩
    obtain ⟨k, g', h', s', t', T1', T2', a, b, c, e, rfl, hk1, hk2, rfl, sm, tg, ts, R, eg, eh, el⟩ := hW
    refine ⟨_, rfl, _, rfl, _, _, rfl, rfl, _, rfl, ?_⟩
    by_cases hlt : k < many
    · refine ifD (by omega) ?_
      obtain ⟨k2, ek2⟩ : ∃ k2, k2 = min (2 * k) many := ⟨_, rfl⟩
      refine ⟨fun σ' H2 => ∃ (g' h' s' t' : List Int) (T1 T2 a b c e : Addr), σ' = [some (.int p), some (.int many), some (.ref aF), some (.ref ag), some (.ref ah), some (.ref T2), some (.ref T1), some (.int k2)] ∧ Same H H2 ∧ TwoT H2 T1 a b g' h' ∧ TwoT H2 T2 c e s' t' ∧ HenR ((p : Int) ^ k2) f g' h' s' t' ∧ FF.cl (p : Int) g' = FF.cl p g ∧ FF.cl (p : Int) h' = FF.cl p h ∧ h'.length = h.length,
        fun σ' H2 ⟨g', h', s', t', T1, T2, a, b, c, e, q1, q2, q3, q4, q5, q6, q7, q8⟩ => ⟨many - k2, by omega, k2, g', h', s', t', T1, T2, a, b, c, e, rfl, by omega, by omega, q1, q2, q3, q4, q5, q6, q7, q8⟩, ?_⟩
      have hmin : (if ((many : Nat) : Int) < 2 * (k : Int) then ((many : Nat) : Int) else 2 * (k : Int)) = ((k2 : Nat) : Int) := by split <;> omega
      refine ⟨_, rfl, 2, k, rfl, rfl, .inl (by omega), _, rfl, 2 * (k : Int), many, rfl, ?_⟩
      rw [hmin]
      refine ⟨_, rfl, _, rfl, fun pk2 dk2 hj1 hj2 hj3 => ⟨pk2, dk2, p, k2, rfl, hP, by omega, by omega, upd_same, rfl, ?_⟩⟩
      have hN63 : (p : Int) ^ k2 < 2 ^ 63 := Int.lt_of_le_of_lt (pow_le_pow p2 (by omega)) hp63
      have hN1 : 1 < (p : Int) ^ k2 := by
        have := pow_le_pow p2 (show 1 ≤ k2 by omega)
        rw [Int.pow_succ, Int.pow_zero, Int.one_mul] at this
        omega
      have hm1 : 1 < (p : Int) ^ k := by
        have := pow_le_pow p2 (show 1 ≤ k by omega)
        rw [Int.pow_succ, Int.pow_zero, Int.one_mul] at this
        omega
      have sP := same_made3 (H := H') (x := pk2) (dx := dk2) (o := .ins C_Powers dk2 []) (o' := .ins C_Powers dk2 [(("size" : Str), V.int ((p : Int) ^ k2))]) (o2 := .ins C_Powers dk2 [(("size" : Str), V.int ((p : Int) ^ k2)), (("prime" : Str), V.int p)]) hj1 hj2
      have hKP := kd_powers (H := H') (x := pk2) (dx := dk2) (fs := []) (o := .ins C_Powers dk2 [(("size" : Str), V.int ((p : Int) ^ k2))]) (N := (p : Int) ^ k2) (p := p) m_Powers hN1 hN63
      generalize upd (upd (upd (upd H' dk2 (.own pk2)) pk2 (.ins C_Powers dk2 [])) pk2 (.ins C_Powers dk2 [(("size" : Str), V.int ((p : Int) ^ k2))])) pk2 (.ins C_Powers dk2 [(("size" : Str), V.int ((p : Int) ^ k2)), (("prime" : Str), V.int p)]) = HP at *
      have hNm : (p : Int) ^ k2 ∣ (p : Int) ^ k * (p : Int) ^ k := by
        rw [← Int.pow_add]; exact pow_dvd_pow' (by omega)
      refine ⟨_, rfl, _, rfl, _, rfl, pk2, aF, T1', T2', a, b, c, e, (p : Int) ^ k2, (p : Int) ^ k, f, f0, g', h', s', t', rfl, hKP, hNm, pow_dvd_pow' (by omega), hm1, pow_le_pow p2 (by omega), (sm.trans sP).seq hf, ef, lf, tg.same sP, ts.same sP, R, fun H5 T5 U1 U2 a' b' c' e' g2 h2 s2 t2 s5 hT5 tg5 ts5 R5 eg5 eh5 el5 => ?_⟩
      refine ⟨T5, _, rfl, sqT_of hT5, rfl, _, _, rfl, _, _, rfl, rfl, ?_⟩
      have hpk : (p : Int) ∣ (p : Int) ^ k := by
        have := pow_dvd_pow' (p := (p : Int)) (show 1 ≤ k by omega)
        rwa [Int.pow_succ, Int.pow_zero, Int.one_mul] at this
      exact ⟨g2, h2, s2, t2, U1, U2, a', b', c', e', rfl, (sm.trans sP).trans s5, tg5, ts5, R5, by rw [cl_down hpk eg5, eg], by rw [cl_down hpk eh5, eh], by rw [el5, el]⟩
    · refine ifN (by omega) ?_
      have ek : k = many := by omega
      subst ek
      exact ⟨_, rfl, hq H' T1' a b g' h' sm tg ⟨R.cg, R.ch, R.hm, R.fg, eg, eh, el⟩⟩
end
end FF
end
section
set_option Elab.async false
set_option linter.all false
set_option maxRecDepth 100000
set_option maxHeartbeats 4000000
/-! FW25: lifted. -/
namespace FF
open PySem PySem.Spec PyProof.Rows L2
theorem unit_pow {p : Nat} (hp : IsP p) {l : Int} (h : ¬ (p : Int) ∣ l) : ∀ k : Nat, ∃ c : Int, (p : Int) ^ k ∣ l * c - 1
  | 0 => ⟨0, by rw [Int.pow_zero]; exact Int.one_dvd _⟩
  | k + 1 => by
    obtain ⟨c, hc⟩ := unit_pow hp h k
    obtain ⟨d, hd⟩ := hp.inv h
    refine ⟨c + d - l * c * d, ?_⟩
    have e : l * (c + d - l * c * d) - 1 = -((l * c - 1) * (l * d - 1)) := by grind
    rw [e, Int.pow_succ]
    exact Int.dvd_neg.mpr (Int.mul_dvd_mul hc hd)
theorem mon_scl {N c l : Int} {f0 : List Int} (h : N ∣ l * c - 1) : Mon (FF.cl N (sclL c (f0 ++ [l]))) f0.length := by
  have e : (C c : Pm N) * C l = 1 := by
    rw [← C_mul, ← C_one, C_eq, Int.mul_comm]; exact h
  rw [cl_scl, cl_append, cl_cons, cl_nil]
  exact ⟨C c * FF.cl N f0, Dg.Cmul c (Dg.of_cl f0), by grind⟩
/-- what lifting leaves -/
structure LiftR (M : Int) (p : Nat) (l : Int) (f : List Int) (Ps Us : List (List Int)) : Prop where
  len : Us.length = Ps.length
  mo : ∀ u ∈ Us, Mo M u
  red : ∀ i, i < Ps.length → FF.cl (p : Int) (Us.getD i []) = FF.cl p (Ps.getD i [])
  prd : C l * prd (Us.map (FF.cl M)) = FF.cl M f
structure LfInv (M : Int) (p : Nat) (l : Int) (f : List Int) (Ps : List (List Int)) (k : Nat) (Us : List (List Int)) (left : List Int) : Prop where
  len : Us.length = k
  mo : ∀ u ∈ Us, Mo M u
  red : ∀ i, i < k → FF.cl (p : Int) (Us.getD i []) = FF.cl p (Ps.getD i [])
  cl : Cn M left
  l1 : ∃ L0, left = L0 ++ [1] ∧ L0.length ≤ 10
  lp : FF.cl (p : Int) left = FF.prd ((Ps.drop k).map (FF.cl (p : Int)))
  eq : C l * (FF.prd (Us.map (FF.cl M)) * FF.cl M left) = FF.cl M f
theorem mo_of {M : Int} {p : Nat} (hp : IsP p) {u c u0 : List Int} (hu : Cn M u) (e : u = u0 ++ [1]) (hc : Mo p c) (h : FF.cl (p : Int) u = FF.cl p c) : Mo M u := by
  refine ⟨hu, u0, e, fun z => ?_⟩
  have h1 : Mon (FF.cl (p : Int) u) u0.length := by rw [e]; exact Mon.of_list
  rw [h] at h1
  have := h1.deg_eq hc.mon hp.one
  have := hc.len
  rw [z] at *
  simp at *
  omega
theorem getD_snoc {α : Type} (l : List α) (x d : α) (i : Nat) : (l ++ [x]).getD i d = if i < l.length then l.getD i d else if i = l.length then x else d := by
  rw [List.getD_eq_getElem?_getD, List.getD_eq_getElem?_getD]
  by_cases h : i < l.length
  · rw [if_pos h, List.getElem?_append_left h]
  · rw [if_neg h, List.getElem?_append_right (by omega)]
    by_cases h2 : i = l.length
    · rw [if_pos h2, h2]; simp
    · rw [if_neg h2]
      have : i - l.length = (i - l.length - 1) + 1 := by omega
      rw [this]; rfl
theorem drop_at {Ps : List (List Int)} {k : Nat} (h : k < Ps.length) : Ps.drop k = Ps.getD k [] :: Ps.drop (k + 1) := by
  rw [List.drop_eq_getElem_cons h]
  congr 1
  rw [List.getD_eq_getElem?_getD, List.getElem?_eq_getElem h]; rfl
theorem LfInv.step {M : Int} {p : Nat} {l : Int} {f : List Int} {Ps Us : List (List Int)} {k : Nat} {left others g' h' : List Int} (I : LfInv M p l f Ps k Us left) (hp : IsP p) (M1 : 1 < M) (hk : k < Ps.length) (mP : Mo p (Ps.getD k []))
    (ho : FF.cl (p : Int) others = FF.prd ((Ps.drop (k + 1)).map (FF.cl (p : Int)))) (R : LpR M p left (Ps.getD k []) others g' h') : LfInv M p l f Ps (k + 1) (Us ++ [g']) h' := by
  obtain ⟨L0, eL, lL⟩ := I.l1
  obtain ⟨h0, eh⟩ := R.hm
  have mL : Mon (FF.cl M left) L0.length := by rw [eL]; exact Mon.of_list
  have mh : Mon (FF.cl M h') h0.length := by rw [eh]; exact Mon.of_list
  obtain ⟨hd, mg⟩ := Mon.quot mL mh R.fg (not_dvd_one M1)
  obtain ⟨g0, eg, lg⟩ := mon_list R.cg mg (one_mod M1)
  have mog := mo_of hp R.cg eg mP R.dg
  have hlen := I.len
  refine ⟨by simp [hlen], fun u hu => ?_, fun i hi => ?_, R.ch, ⟨h0, eh, by omega⟩, by rw [R.dh, ho], ?_⟩
  · rcases List.mem_append.mp hu with z | z
    · exact I.mo u z
    · rw [List.mem_singleton] at z; rw [z]; exact mog
  · rw [getD_snoc]
    by_cases e : i < k
    · rw [if_pos (by omega)]; exact I.red i e
    · rw [if_neg (by omega), if_pos (by omega)]
      have : i = k := by omega
      rw [this]; exact R.dg
  · rw [← I.eq, R.fg, List.map_append, prd_append]
    simp only [List.map, FF.prd]; grind
theorem LfInv.done {M : Int} {p : Nat} {l : Int} {f : List Int} {Ps Us : List (List Int)} {k : Nat} {left : List Int} (I : LfInv M p l f Ps k Us left) (hp : IsP p) (hk : k + 1 = Ps.length) (mP : ∀ c ∈ Ps, Mo p c) : LiftR M p l f Ps (Us ++ [left]) := by
  obtain ⟨L0, eL, lL⟩ := I.l1
  have hlen := I.len
  have hk2 : k < Ps.length := by omega
  have e1 := I.lp
  rw [drop_at hk2, List.drop_of_length_le (by omega)] at e1
  have e2 : FF.cl (p : Int) left = FF.cl p (Ps.getD k []) := by
    rw [e1]; simp only [List.map, FF.prd]; grind
  have mem : Ps.getD k [] ∈ Ps := List.mem_of_getElem? (getD_at hk2)
  refine ⟨by simp [hlen, hk], fun u hu => ?_, fun i hi => ?_, ?_⟩
  · rcases List.mem_append.mp hu with z | z
    · exact I.mo u z
    · rw [List.mem_singleton] at z; rw [z]; exact mo_of hp I.cl eL (mP _ mem) e2
  · rw [getD_snoc]
    by_cases e : i < k
    · rw [if_pos (by omega)]; exact I.red i e
    · rw [if_neg (by omega), if_pos (by omega)]
      have : i = k := by omega
      rw [this]; exact e2
  · rw [← I.eq, List.map_append, prd_append]
    simp only [List.map, FF.prd]; grind
def spLifted (K : PySem.W.Frag) (mg : Str → Option Value) : Sp := fun vs H Q _ => ∃ (aF b : Addr) (p many : Nat) (f f0 : List Int) (l : Int) (Ps : List (List Int)), vs = [.int p, .int many, .ref aF, .ref b] ∧ PrZ p ∧ 1 ≤ many ∧ many ≤ 400 ∧ (p : Int) ^ many < 2 ^ 63 ∧ SqL K H aF (f.map V.int) ∧ Cn 0 f ∧ f = f0 ++ [l] ∧ f0.length ≤ 10 ∧ ¬ (p : Int) ∣ l ∧ Tab H b Ps ∧ Ps ≠ [] ∧ Ps.length ≤ 10 ∧ (∀ c ∈ Ps, Mo p c ∧ c.length ≤ 11) ∧ (Ps.map (FF.cl (p : Int))).Pairwise Cop ∧
  C l * FF.prd (Ps.map (FF.cl (p : Int))) = FF.cl p f ∧ ∀ H' D Us, Same H H' → Tab H' D Us → LiftR ((p : Int) ^ many) p l f Ps Us → Q (.ref D) H'
section
variable {P : Program} {w : World} {K : PySem.W.Frag} {mg : Str → Option Value} {base : Heap}
theorem ok_lifted (T : TX K mg) : FO P w K mg base 8 "lifted" ["prime", "many", "f", "pieces"] (spLifted K mg) := by
  refine FO.mk T.d_lifted sc_lifted (fun _ _ _ _ _ _ us hl => match us, hl with | [_, _, _, _], _ => rfl) (fun vs H Q E h => ?_) (fun f cdv A outer s H vs Q E hr h => ?_)
  · obtain ⟨aF, b, p, many, f, f0, l, Ps, rfl, _⟩ := h; rfl
  · obtain ⟨aF, b, p, many, f, f0, l, Ps, rfl, hP, m1, m400, hp63, hf, cf, ef, lf, hd, tP, hne, lP, mP, pw, ePrd, hq⟩ := h
    have hp := prz_isp hP
    have p2 := hP.1
    have p3 := hP.2.1
    obtain ⟨C_Powers, f_Powers, fd_Powers, m_Powers, M_Powers, b_Powers, G_Powers⟩ := mk_powers (P := P) (w := w) (base := base) T
    have MP := km_of (P := P) (w := w) (base := base) T (show KC mg C_Powers false from .inr (.inr ⟨m_Powers, rfl⟩))
    have cl := MP.cl
    obtain ⟨f_o, fd_o, m_over, b_over, G_over⟩ := MP.over rfl
    obtain ⟨f_trimmed, fd_trimmed, g_trimmed, k_trimmed, b_trimmed, G_trimmed⟩ := ok_trimmed (P := P) (w := w) (base := base) T
    obtain ⟨f_looked_at, fd_looked_at, g_looked_at, k_looked_at, b_looked_at, G_looked_at⟩ := ok_looked_at (P := P) (w := w) (base := base) T
    obtain ⟨f_scaled, fd_scaled, g_scaled, k_scaled, b_scaled, G_scaled⟩ := ok_scaled (P := P) (w := w) (base := base) T
    obtain ⟨f_times, fd_times, g_times, k_times, b_times, G_times⟩ := ok_times (P := P) (w := w) (base := base) T
    obtain ⟨f_lifted_pair, fd_lifted_pair, g_lifted_pair, k_lifted_pair, b_lifted_pair, G_lifted_pair⟩ := ok_lifted_pair (P := P) (w := w) (base := base) T
    obtain ⟨C_Wholes, f_Wholes, fd_Wholes, m_Wholes, M_Wholes, b_Wholes, G_Wholes⟩ := mk_wholes (P := P) (w := w) (base := base) T
    obtain ⟨C_Rests, f_Rests, fd_Rests, m_Rests, M_Rests, b_Rests, G_Rests⟩ := mk_rests (P := P) (w := w) (base := base) T
    refine ⟨_, (pss_cons (ps_set (i := 4) sc_lifted.nd rfl (Or.inr rfl) (pe_make M_Rests G_Rests (hr.mono (by decide)) rfl m_Rests b_Rests .nil pass0 (pa_cons (pv 0) pa_nil)))
      (pss_cons (ps_set (i := 5) sc_lifted.nd rfl (Or.inl rfl) (pe_make M_Powers G_Powers (hr.mono (by decide)) rfl m_Powers b_Powers .nil pass0 (pa_cons (pv 0) (pa_cons (pv 1) pa_nil))))
      (pss_cons (ps_setLc (i := 7) (own := [("piece", 6)])  rfl sc_lifted.nd rfl rfl (sw_true rfl rfl rfl (by decide +kernel)) (pi_list (pv 3)) (blkOk_by (N := n_lifted) (sc := defScope s_lifted) (by decide +kernel)) (fun _ _ _ _ _ => (pg_name (i := 6) sc_lifted.nd rfl (Or.inl rfl))) (fun _ _ _ _ _ => pts_nil) (fun _ _ _ _ _ => (pe_call G_trimmed (hr.mono (by decide)) (by rfl) g_trimmed k_trimmed b_trimmed .nil pass0 (pa_cons (pv 4) (pa_cons (pv 6) pa_nil)))))
      (pss_cons (ps_expr (pe_call G_looked_at (hr.mono (by decide)) (by rfl) g_looked_at k_looked_at b_looked_at .nil pass0 (pa_cons (pv 0) (pa_cons (pv 4) (pa_cons (pv 2) (pa_cons (pv 7) pa_nil))))))
      (pss_cons (ps_set (i := 8) sc_lifted.nd rfl (Or.inl rfl) (pe_call G_scaled (hr.mono (by decide)) (by rfl) g_scaled k_scaled b_scaled .nil pass0 (pa_cons (pv 5) (pa_cons (pv 2) (pa_cons (pe_meth (pv 5) cl m_over G_over (hr.mono (by decide)) b_over .nil pass0 (pa_cons pe_int (pa_cons (pe_ix (r := rIxL K) ix_list (pe_call G_trimmed (hr.mono (by decide)) (by rfl) g_trimmed k_trimmed b_trimmed .nil pass0 (pa_cons (pe_make0 M_Wholes G_Wholes (hr.mono (by decide)) rfl m_Wholes b_Wholes .nil pass0) (pa_cons (pv 2) pa_nil))) (pe_un un_neg pe_int) (fun _ _ => rfl)) pa_nil))) pa_nil)))))
      (pss_cons (ps_set (i := 9) sc_lifted.nd rfl (Or.inl rfl) (pe_lst pa_nil))
      (pss_cons (ps_for PassesOwn.never rfl (pi_range1 (by rfl) T.b_range (pa_cons (pe_op op_sub (pe_callB (r := rLenK K) call_len_seq (by rfl) T.b_len (by decide +kernel) (pa_cons (pv 7) pa_nil)) pe_int) pa_nil)) (pg_name (i := 10) sc_lifted.nd rfl (Or.inl rfl))
        (pss_cons (ps_set (i := 11) sc_lifted.nd rfl (Or.inl rfl) (pe_lst (pa_cons pe_int pa_nil)))
        (pss_cons (ps_for PassesOwn.never rfl (pi_list (pe_slice sl_list (pv 7) (po_some (pe_op op_add (pv 10) pe_int)) po_none)) (pg_name (i := 6) sc_lifted.nd rfl (Or.inl rfl))
          (pss_one (ps_set (i := 11) sc_lifted.nd rfl (Or.inl rfl) (pe_call G_times (hr.mono (by decide)) (by rfl) g_times k_times b_times .nil pass0 (pa_cons (pv 4) (pa_cons (pv 11) (pa_cons (pv 6) pa_nil)))))))
        (pss_cons (ps_asg (pe_call G_lifted_pair (hr.mono (by decide)) (by rfl) g_lifted_pair k_lifted_pair b_lifted_pair .nil pass0 (pa_cons (pv 0) (pa_cons (pv 1) (pa_cons (pv 8) (pa_cons (pe_ix (r := rIxL K) ix_list (pv 7) (pv 10) (fun _ _ => rfl)) (pa_cons (pv 11) pa_nil)))))) (pg_tup rfl (pgs_cons (pg_name (i := 12) sc_lifted.nd rfl (Or.inl rfl)) (pgs_cons (pg_name (i := 8) sc_lifted.nd rfl (Or.inl rfl)) pgs_nil))))
        (pss_one (ps_expr (pe_bm PySem.F.plainAttrs_list PySem.F.slot_list_append PySem.F.type_list_append mt_append (pv 9) (pa_cons (pv 12) pa_nil))))))))
      (pss_cons (ps_expr (pe_bm PySem.F.plainAttrs_list PySem.F.slot_list_append PySem.F.type_list_append mt_append (pv 9) (pa_cons (pv 8) pa_nil)))
      (pss_one (ps_ret (pv 9))))))))))), ?_⟩
    refine ⟨_, rfl, fun pk dk hk1 hk2 hk3 => ⟨pk, dk, p, rfl, hP, upd_same, rfl, ?_⟩⟩
    have sK := same_made2 (o := .ins C_Rests dk []) (o' := .ins C_Rests dk [(("size" : Str), V.int p)]) hk1 hk2
    have hK := kd_rests (H := H) (x := pk) (dx := dk) (fs := []) (p := p) m_Rests (by omega) (by omega)
    generalize upd (upd (upd H dk (.own pk)) pk (.ins C_Rests dk [])) pk (.ins C_Rests dk [(("size" : Str), V.int p)]) = HK at *
    have hM1 : 1 < (p : Int) ^ many := by
      have := pow_le_pow p2 m1
      rw [Int.pow_succ, Int.pow_zero, Int.one_mul] at this
      omega
    refine ⟨_, rfl, _, rfl, fun pk2 dk2 hj1 hj2 hj3 => ⟨pk2, dk2, p, many, rfl, hP, m1, m400, upd_same, rfl, ?_⟩⟩
    have sP := same_made3 (H := HK) (x := pk2) (dx := dk2) (o := .ins C_Powers dk2 []) (o' := .ins C_Powers dk2 [(("size" : Str), V.int ((p : Int) ^ many))]) (o2 := .ins C_Powers dk2 [(("size" : Str), V.int ((p : Int) ^ many)), (("prime" : Str), V.int p)]) hj1 hj2
    have hKP := kd_powers (H := HK) (x := pk2) (dx := dk2) (fs := []) (o := .ins C_Powers dk2 [(("size" : Str), V.int ((p : Int) ^ many))]) (N := (p : Int) ^ many) (p := p) m_Powers hM1 hp63
    have hAt : KAt C_Powers false (upd (upd (upd (upd HK dk2 (.own pk2)) pk2 (.ins C_Powers dk2 [])) pk2 (.ins C_Powers dk2 [(("size" : Str), V.int ((p : Int) ^ many))])) pk2 (.ins C_Powers dk2 [(("size" : Str), V.int ((p : Int) ^ many)), (("prime" : Str), V.int p)])) pk2 ((p : Int) ^ many) :=
      ⟨⟨dk2, _, upd_same, .inr ⟨p, rfl⟩⟩, fun h => (by cases h), fun _ => ⟨hM1, hp63⟩⟩
    generalize upd (upd (upd (upd HK dk2 (.own pk2)) pk2 (.ins C_Powers dk2 [])) pk2 (.ins C_Powers dk2 [(("size" : Str), V.int ((p : Int) ^ many))])) pk2 (.ins C_Powers dk2 [(("size" : Str), V.int ((p : Int) ^ many)), (("prime" : Str), V.int p)]) = HP at *
    have s02 := sK.trans sP
    have hK2 := hK.same sP
    generalize eM : (p : Int) ^ many = M at *
    obtain ⟨pp, hpp, lpp, kpp⟩ := tP.same s02
    have eself : (List.range Ps.length).map (fun i => Ps.getD i []) = Ps := by
      apply List.ext_getElem
      · simp
      · intro i h1 h2
        simp
        rw [List.getElem?_eq_getElem h2]; rfl
    refine ⟨_, rfl, b, rfl, ⟨_, sqL_of hpp⟩, fun D hD => lcTL (xs := pp.map V.ref) (fun i => Ps.getD i []) (by simp; omega) (sqL_of hpp) hD (fun x => rfl) (fun i x H1 hx s1 Qe qe => ?_) (fun H1 s1 tF => ?_)⟩
    · obtain ⟨pr, rfl, hpr⟩ := ref_get hx
      have hi : i < Ps.length := by rw [← lpp]; exact (List.getElem?_eq_some_iff.mp hpr).1
      have mem : Ps.getD i [] ∈ Ps := List.mem_of_getElem? (getD_at hi)
      obtain ⟨mo, lo⟩ := mP _ mem
      refine ⟨_, rfl, _, rfl, pk, pr, p, false, Ps.getD i [], rfl, hK2.same s1, sqL_of (s1 _ _ (kpp i pr _ hpr (getD_at hi))), by omega, fun H2 p2 s2 n2 h2 => ?_⟩
      rw [tr_id mo.1] at h2
      exact qe p2 H2 s2 h2 n2
    · rw [List.length_map, lpp, eself] at tF
      have s03 := s02.trans s1
      have t1 := tF.tab
      refine ⟨_, rfl, _, rfl, _, rfl, _, rfl, pk, aF, D, p, f, f0, l, Ps, rfl, hK2.same s1, hp, s03.seq hf, cf, ef, by rw [ef]; simp; omega, hd, t1, hne, by omega, fun c hc => ⟨(mP c hc).1, by have := (mP c hc).2; omega⟩, pw, ePrd, fun H2 s2 => ?_⟩
      have s04 := s03.trans s2
      have hlast : atI (f.map V.int) (-1) = some (.int l) := by rw [ef]; exact at_last f0 l
      have lF : f.length ≤ 11 := by rw [ef]; simp; omega
      have hAt2 := hAt.same (s1.trans s2)
      obtain ⟨⟨dx, fs, ho, hfs⟩, _, _⟩ := id hAt2
      refine ⟨_, rfl, _, rfl, _, rfl, pk2, dx, fs, rfl, ho, fs_none hfs (by decide) (by decide), fun pk3 dk3 hl1 hl2 hl3 => ⟨pk3, dk3, rfl, upd_same, rfl, ?_⟩⟩
      have sW := same_made2 (o := .ins C_Wholes dk3 []) (o' := .ins C_Wholes dk3 [(("size" : Str), V.int 0)]) hl1 hl2
      have hW := kd_wholes (H := H2) (x := pk3) (dx := dk3) (fs := []) m_Wholes
      generalize upd (upd (upd H2 dk3 (.own pk3)) pk3 (.ins C_Wholes dk3 [])) pk3 (.ins C_Wholes dk3 [(("size" : Str), V.int 0)]) = HW at *
      have s05 := s04.trans sW
      refine ⟨_, rfl, pk3, aF, 0, true, f, rfl, hW, s05.seq hf, by omega, fun H3 p3 s3 n3 h3 => ?_⟩
      rw [tr_id cf] at h3
      have s06 := s05.trans s3
      have s26 := (s1.trans s2).trans (sW.trans s3)
      refine ⟨1, rfl, p3, _, -1, _, rfl, rfl, sqL_of h3, hlast, pk2, 1, l, M, rfl, hAt.same s26, by rw [← eM]; exact unit_pow hp hd many, fun c H4 s4 c0 c1 hc => ?_⟩
      have s07 := s06.trans s4
      have s27 := s26.trans s4
      refine ⟨pk2, aF, M, c, false, f, rfl, hKP.same s27, s07.seq hf, by omega, fun x hx => .inr ⟨by omega, by omega⟩, fun H5 p5 s5 n5 h5 => ?_⟩
      have s08 := s07.trans s5
      have s28 := s27.trans s5
      obtain ⟨left, eleft⟩ : ∃ left, left = tr M (sclL c f) := ⟨_, rfl⟩
      rw [← eleft] at h5
      have cleft : Cn M left := by rw [eleft]; exact tr_Cn _
      have clleft : FF.cl M left = C c * FF.cl M f := by rw [eleft, cl_tr, cl_scl]
      have monleft : Mon (FF.cl M left) f0.length := by rw [eleft, cl_tr, ef]; exact mon_scl hc
      obtain ⟨L0, eL0, lL0⟩ := mon_list cleft monleft (one_mod hM1)
      have hpM : (p : Int) ∣ M := by
        rw [← eM]
        have := pow_dvd_pow' (p := (p : Int)) m1
        rwa [Int.pow_succ, Int.pow_zero, Int.one_mul] at this
      have I0 : LfInv M p l f Ps 0 [] left := by
        refine ⟨rfl, fun u hu => (by cases hu), fun i hi => by omega, cleft, ⟨L0, eL0, by omega⟩, ?_, ?_⟩
        · rw [List.drop_zero]
          have e1 : FF.cl (p : Int) left = C c * FF.cl p f := by
            rw [← cl_scl]
            exact cl_down hpM (by rw [clleft, cl_scl])
          have e2 : (C c : Pm p) * C l = 1 := by
            rw [← C_mul, ← C_one, C_eq, Int.mul_comm]; exact Int.dvd_trans hpM hc
          rw [e1, ← ePrd]; grind
        · have e2 : (C l : Pm M) * C c = 1 := by rw [← C_mul, ← C_one, C_eq]; exact hc
          show C l * (1 * FF.cl M left) = _
          rw [clleft]; grind
      -- the loop
      refine ⟨by show 0 ≤ sizeLine; decide, fun DM nM => ?_⟩
      have sM : Same H5 (upd H5 DM (.lst [])) := same_new (Same.refl _) nM
      have hl0 : 0 < Ps.length := List.length_pos_iff.mpr hne
      have tF6 := t1.same (s2.trans (sW.trans (s3.trans (s4.trans (s5.trans sM)))))
      obtain ⟨pf, hpf, lpf, kpf⟩ := id tF6
      refine ⟨_, rfl, D, _, rfl, .inl (sqL_of hpf), _, 1, rfl, rfl, (Ps.length : Int) - 1, by rw [List.length_map, lpf], by omega, by omega, for_range (lo := 0) (n := ((Ps.length : Int) - 1).toNat) (fun k σ H' => ∃ (Us : List (List Int)) (left : List Int) (pL : Addr) (x6 x10 x11 x12 : Option V), σ = [some (.int p), some (.int many), some (.ref aF), some (.ref b), some (.ref pk), some (.ref pk2), x6, some (.ref D), some (.ref pL), some (.ref DM), x10, x11, x12] ∧ Same H5 H' ∧ H' pL = some (.lst (left.map V.int)) ∧ TabN H' DM Us ∧ LfInv M p l f Ps k Us left)
        ⟨[], left, p5, none, none, none, none, rfl, sM, sM _ _ h5, TabA.new, I0⟩ (fun k σ H' hk hW => ?_) (fun σ H' hW => ?_)⟩
      · obtain ⟨Us, left', pL, x6, x10, x11, x12, rfl, sm, hL, tU, I⟩ := hW
        have hk2 : k + 1 < Ps.length := by omega
        have hk1' : k < Ps.length := by omega
        have e0 : (0 : Int) + (k : Int) = (k : Nat) := Int.zero_add _
        rw [e0]
        -- others
        refine ⟨by show 1 ≤ sizeLine; decide, fun pO nO => ?_⟩
        have sO : Same H' (upd H' pO (.lst [.int 1])) := same_nw (Same.refl _) nO
        have hO : (upd H' pO (.lst [.int 1])) pO = some (.lst (([1] : List Int).map V.int)) := upd_same
        have sm5 : Same H5 (upd H' pO (.lst [.int 1])) := sm.trans sO
        have hLO := sO _ _ hL
        have tUO := tU.same sO
        have nM' : ∀ H'', Same H' H'' → H'' DM ≠ none := fun H'' e => by
          obtain ⟨z, hz, _⟩ := tU.len
          rw [e _ _ hz]; intro z; cases z
        generalize upd H' pO (.lst [.int 1]) = HA at *
        have tFA := (t1.same (s2.trans (sW.trans (s3.trans (s4.trans s5))))).same sm5
        obtain ⟨pg, hpg, lpg, kpg⟩ := id tFA
        have ekk : (k : Int) + 1 = ((k + 1 : Nat) : Int) := by omega
        refine ⟨_, rfl, _, rfl, (k : Int), 1, rfl, rfl, (k : Int) + 1, rfl, D, _, rfl, sqL_of hpg, fun pS nS => ?_⟩
        have sS : Same HA (upd HA pS (.lst (cutV (pg.map V.ref) (some ((k : Int) + 1)) none))) := same_nw (Same.refl _) nS
        have hS : (upd HA pS (.lst (cutV (pg.map V.ref) (some ((k : Int) + 1)) none))) pS = some (.lst ((pg.map V.ref).drop (k + 1))) := by
          rw [upd_same, ekk, cut_from _ (k + 1) (by rw [List.length_map]; omega)]
        have hOS := sS _ _ hO
        generalize upd HA pS (.lst (cutV (pg.map V.ref) (some ((k : Int) + 1)) none)) = HB at *
        have hKB := hK2.same ((s1.trans (s2.trans (sW.trans (s3.trans (s4.trans s5))))).trans (sm5.trans sS))
        refine ⟨pS, rfl, ⟨_, sqL_of hS⟩, for_list (xs := (pg.map V.ref).drop (k + 1)) (fun j σ H' => ∃ (ot : List Int) (po : Addr) (x6 : Option V), σ = [some (.int p), some (.int many), some (.ref aF), some (.ref b), some (.ref pk), some (.ref pk2), x6, some (.ref D), some (.ref pL), some (.ref DM), some (.int (k : Nat)), some (.ref po), x12] ∧ Same HB H' ∧ H' po = some (.lst (ot.map V.int)) ∧ Cn p ot ∧ (j = 0 ∨ True) ∧ ot.length ≤ 1 + 11 * j ∧ FF.cl (p : Int) ot = FF.prd (((Ps.drop (k + 1)).take j).map (FF.cl (p : Int))))
          ⟨[1], pO, x6, rfl, Same.refl _, hOS, ⟨fun a ha => by rw [List.mem_singleton] at ha; rw [ha]; exact Int.emod_eq_of_lt (by omega) (by omega), .inr ⟨[], 1, rfl, by decide⟩⟩, .inl rfl, by simp, rfl⟩ (fun j σ H' _ ⟨_, _, _, _, s, _⟩ => sqL_of (s _ _ hS)) (fun j x σ H6 hx hW => ?_) (fun σ H6 hW => ?_)⟩
        · obtain ⟨ot, po, x6', rfl, s6, ho, co_, _, lo, eo⟩ := hW
          have hj : j < pg.length - (k + 1) := by have := (List.getElem?_eq_some_iff.mp hx).1; rw [List.length_drop, List.length_map] at this; exact this
          rw [List.getElem?_drop] at hx
          obtain ⟨pj, rfl, hpj⟩ := ref_get hx
          have hj2 : k + 1 + j < Ps.length := by omega
          have hrj := s6 _ _ (sS _ _ (kpg _ _ _ hpj (getD_at hj2)))
          have memj : Ps.getD (k + 1 + j) [] ∈ Ps := List.mem_of_getElem? (getD_at hj2)
          obtain ⟨moj, loj⟩ := mP _ memj
          refine ⟨_, rfl, _, rfl, _, rfl, pk, po, pj, p, false, ot, Ps.getD (k + 1 + j) [], rfl, hKB.same s6, sqL_of ho, sqL_of hrj, by omega, by omega, fun x hx y hy => .inr (by have := cn_range (by omega) moj.1 hy; omega), fun H7 p7 s7 n7 h7 => ?_⟩
          refine ⟨tr (p : Int) (mulL ot (Ps.getD (k + 1 + j) [])), p7, some (.ref pj), rfl, s6.trans s7, h7, tr_Cn _, .inr trivial, ?_, ?_⟩
          · have h1 := tr_len (N := p) (mulL ot (Ps.getD (k + 1 + j) []))
            have h2 := mul_len ot (Ps.getD (k + 1 + j) [])
            omega
          · rw [cl_tr, cl_mul, eo, List.take_add_one, List.getElem?_drop, getD_at hj2, List.map_append, prd_append]
            simp only [Option.toList, List.map, FF.prd]; grind
        · obtain ⟨ot, po, x6', rfl, s6, ho, co_, _, lo, eo⟩ := hW
          have ell : ((pg.map V.ref).drop (k + 1)).length = (Ps.drop (k + 1)).length := by rw [List.length_drop, List.length_drop, List.length_map, lpg]
          rw [ell, List.take_length] at eo
          have mem : Ps.getD k [] ∈ Ps := List.mem_of_getElem? (getD_at hk1')
          obtain ⟨mok, lok⟩ := mP _ mem
          obtain ⟨L, eL, lL⟩ := I.l1
          have monO := prd_mon (N := p) (F := Ps.drop (k + 1)) fun c hc => (mP c (List.mem_of_mem_drop hc)).1
          rw [← eo] at monO
          obtain ⟨o0, eo0, lo0⟩ := mon_list co_ monO (one_mod (by omega))
          have elp : FF.cl (p : Int) left' = FF.cl p (Ps.getD k []) * FF.cl p ot := by
            rw [I.lp, drop_at hk1', eo]; simp only [List.map, FF.prd]
          have monL : Mon (FF.cl (p : Int) left') L.length := by rw [eL]; exact Mon.of_list
          have leO := Mon.le_of_dvd monL monO elp hp.one
          have lot : ot.length ≤ 11 := by rw [eo0]; simp; omega
          have hcop : Cop (FF.cl (p : Int) (Ps.getD k [])) (FF.cl p ot) := by
            rw [eo]
            refine (prd_cop fun x hx => ?_).symm
            obtain ⟨c, hc, rfl⟩ := List.mem_map.mp hx
            obtain ⟨i, hi, ei⟩ := List.mem_iff_getElem.mp hc
            rw [List.length_drop] at hi
            rw [List.getElem_drop] at ei
            have := List.pairwise_iff_getElem.mp pw k (k + 1 + i) (by simpa using hk1') (by simp; omega) (by omega)
            rw [List.getElem_map, List.getElem_map, ei] at this
            have e2 : Ps.getD k [] = Ps[k] := by rw [List.getD_eq_getElem?_getD, List.getElem?_eq_getElem hk1']; rfl
            rw [e2]; exact this.symm
          have sB6 := sS.trans s6
          have pgk : pg[k]? = some pg[k] := List.getElem?_eq_getElem (by omega)
          have hgk := sB6 _ _ (kpg k _ _ pgk (getD_at hk1'))
          have atk : atI (pg.map V.ref) ((k : Nat) : Int) = some (.ref pg[k]) := atI_nat (by rw [List.getElem?_map, pgk]; rfl)
          refine ⟨_, rfl, _, rfl, _, rfl, _, rfl, _, rfl, D, _, _, _, rfl, rfl, sqL_of (sB6 _ _ hpg), atk, _, rfl, pL, pg[k], po, p, many, left', L, Ps.getD k [], ot, rfl, hP, m1, m400, by rw [eM]; exact hp63, sqL_of (sB6 _ _ hLO), eL, lL, hgk, ho, mok.1, co_, ⟨o0, eo0⟩, by omega, by omega, hcop, elp, fun H7 T7 a' b' g' h' s7 t7 R => ?_⟩
          rw [eM] at R
          refine ⟨T7, _, rfl, sqT_of t7.1, rfl, _, _, rfl, _, _, rfl, rfl, ?_⟩
          have I2 := I.step hp hM1 hk1' mok eo R
          have sO7 := sB6.trans s7
          have tU7 := tUO.same sO7
          obtain ⟨pu, hpu, lpu, kpu⟩ := id tU7
          have mg' := I2.mo g' (by simp)
          have npg : a' ≠ DM := row_ne t7.2.1 (fun z => by have := mg'.len; rw [z] at this; simp at this) hpu
          obtain ⟨xs, hx, lx, tU8⟩ := tU7.snoc rfl t7.2.1 npg
          have hlen := I.len
          have npb : b' ≠ DM := row_ne t7.2.2 (fun z => by obtain ⟨L', e', _⟩ := I2.l1; rw [z] at e'; simp at e') hpu
          refine ⟨_, rfl, .inl ⟨rfl, _, sqL_of hx⟩, _, rfl, DM, xs, .ref a', rfl, rfl, hx, small_lt (by omega), ?_⟩
          exact ⟨_, h', b', _, _, _, _, rfl, same_new (sm5.trans sO7) nM, by rw [upd_ne npb]; exact t7.2.2, tU8, I2⟩
      · obtain ⟨Us, left', pL, x6, x10, x11, x12, rfl, sm, hL, tU, I⟩ := hW
        have ek : ((Ps.length : Int) - 1).toNat = Ps.length - 1 := by omega
        rw [ek] at I
        have hlen := I.len
        obtain ⟨pu, hpu, lpu, kpu⟩ := id tU
        have npL : pL ≠ DM := row_ne hL (by obtain ⟨L, e, _⟩ := I.l1; rw [e]; simp) hpu
        obtain ⟨xs, hx, lx, tU2⟩ := tU.snoc rfl hL npL
        refine ⟨_, rfl, .inl ⟨rfl, _, sqL_of hx⟩, _, rfl, DM, xs, .ref pL, rfl, rfl, hx, small_lt (by omega), _, rfl, ?_⟩
        exact hq _ DM _ (s08.trans (same_new sm nM)) tU2.tab (I.done hp (by omega) fun c hc => (mP c hc).1)
end
end FF
end
section
set_option Elab.async false
set_option linter.all false
set_option maxRecDepth 100000
set_option maxHeartbeats 4000000
/-! FW26: the candidate's shape. -/
namespace FF
open PySem PySem.Spec PyProof.Rows L2
def selD (ups : List (List Int)) (bits : Nat) : Nat → Nat
  | 0 => 0
  | k + 1 => if bits / 2 ^ k % 2 = 1 then selD ups bits k + ((ups.getD k []).length - 1) else selD ups bits k
theorem selP_mon {M : Int} {ups : List (List Int)} (h : ∀ u ∈ ups, Mo M u) (bits : Nat) : ∀ k, k ≤ ups.length → Mon (selP M ups bits k) (selD ups bits k)
  | 0, _ => Mon.one
  | k + 1, hk => by
    have ih := selP_mon h bits k (by omega)
    unfold selP selD
    by_cases hb : bits / 2 ^ k % 2 = 1
    · rw [if_pos hb, if_pos hb]
      exact ih.mul (h _ (List.mem_of_getElem? (getD_at (by omega)))).mon
    · rw [if_neg hb, if_neg hb]; exact ih
/-- a constant times a monic one: the near list ends with the constant -/
theorem near_shape {M l : Int} {made : List Int} {u : Pm M} {d : Nat} (hM : 0 < M) (hl : 0 < l) (h2 : 2 * l < M) (hu : Mon u d) (e : FF.cl M made = C l * u) : ∃ c0, nearL M made = c0 ++ [l] ∧ c0.length = d := by
  obtain ⟨u0, hu0, eu⟩ := hu.list
  have e2 : FF.cl M made = FF.cl M (sclL l (u0 ++ [1])) := by rw [e, cl_scl, eu]
  have e3 : nearL M made = nearL M (sclL l (u0 ++ [1])) := nearL_eq hM e2
  refine ⟨(sclL l u0).map (near M), ?_, by rw [List.length_map, len_scl, hu0]⟩
  rw [e3]
  unfold nearL
  have e4 : (sclL l (u0 ++ [1])).map (near M) = (sclL l u0).map (near M) ++ [l] := by
    unfold sclL
    rw [List.map_append, List.map_append]
    simp only [List.map_cons, List.map_nil, Int.mul_one]
    rw [near_self (by omega) (by omega)]
  rw [e4]
  refine tr_id ⟨fun a ha => Int.emod_zero a, .inr ⟨_, _, rfl, by omega⟩⟩
theorem selD_le (ups : List (List Int)) (bits : Nat) : ∀ k, selD ups bits k ≤ ((ups.take k).map fun c => c.length - 1).sum
  | 0 => by simp [selD]
  | k + 1 => by
    have ih := selD_le ups bits k
    unfold selD
    rw [List.take_add_one, List.map_append, List.sum_append]
    by_cases hk : k < ups.length
    · rw [getD_at hk]
      simp only [Option.toList, List.map_cons, List.map_nil, List.sum_cons, List.sum_nil]
      split <;> omega
    · rw [List.getD_eq_getElem?_getD, List.getElem?_eq_none (by omega)]
      simp
      rw [← List.map_take]; exact ih
theorem co_last' {f0 : List Int} {l : Int} : co (f0 ++ [l]) f0.length = l := co_last f0 l
/-- the degrees of the lifted pieces make the degree -/
theorem ups_deg {M l : Int} {g g0 : List Int} {Us : List (List Int)} (h : ∀ u ∈ Us, Mo M u) (e : C l * FF.prd (Us.map (FF.cl M)) = FF.cl M g) (eg : g = g0 ++ [l]) (hl : ¬ M ∣ l) : (Us.map fun c => c.length - 1).sum = g0.length := by
  obtain ⟨r, hr, em⟩ := prd_mon h
  generalize (Us.map fun c => c.length - 1).sum = n at *
  rcases Nat.lt_trichotomy n g0.length with hn | hn | hn
  · refine absurd ?_ hl
    have h1 : Dg (C l * FF.prd (Us.map (FF.cl M))) g0.length := by
      rw [em]
      exact Dg.Cmul l ((Dg.add ((Dg.X n).mono (by omega)) hr).mono (by omega : max (n + 1) n ≤ g0.length))
    rw [e, eg] at h1
    have := dg_iff.mp h1 g0.length (Nat.le_refl _)
    rwa [co_last'] at this
  · exact hn
  · refine absurd ?_ hl
    obtain ⟨r0, hr0, er0⟩ := hr
    have h1 : FF.cl M (sclL l r0) + FF.X ^ n * C l = FF.cl M g := by rw [← e, em, cl_scl, er0]; grind
    refine dg_coefs (N := M) (f := sclL l r0) (n := n) ?_ (by rw [len_scl]; exact hr0)
    rw [h1, eg]
    exact (Dg.of_cl _).mono (by simp; omega)
theorem StR.qne {f f0 c q r : List Int} {l lf : Int} {k : Nat} (S : StR f c l k q r) (ef : f = f0 ++ [lf]) (h1 : lf ≠ 0) (h2 : l ≠ 0) (hr : r.length ≤ f0.length) : q ≠ [] := by
  intro z
  have e := S.eq
  rw [z, cl_nil, ← cl_scl] at e
  have h3 : Dg (FF.cl (0 : Int) (sclL (l ^ k) f)) r.length := by
    rw [e]
    have : (0 : Pm 0) * FF.cl 0 c + FF.cl 0 r = FF.cl 0 r := by grind
    rw [this]; exact Dg.of_cl r
  have h4 := dg_iff.mp h3 f0.length hr
  rw [co_scl, ef, co_last'] at h4
  have h5 := Int.zero_dvd.mp h4
  rcases Int.mul_eq_zero.mp h5 with h | h
  · exact Int.pow_ne_zero h2 h
  · exact h1 h
def bsOf (c : Nat) : List Nat := (setsAll c).map Int.toNat
theorem bs_eq : ∀ c, c < 6 → (bsOf c).map (fun b : Nat => (b : Int)) = setsAll c := by decide +kernel
theorem bs_some : ∀ c, c < 6 → ∀ b ∈ bsOf c, b < 2 ^ c ∧ (List.range c).any (fun i => b / 2 ^ i % 2 == 1) = true ∧ (List.range c).any (fun i => b / 2 ^ i % 2 == 0) = true := by decide +kernel
theorem iabs_nonneg (x : Int) : 0 ≤ iabs x := by unfold iabs; split <;> omega
theorem iabs_sum : ∀ f : List Int, 0 ≤ (f.map iabs).sum
  | [] => Int.le_refl _
  | a :: f => by have := iabs_sum f; have := iabs_nonneg a; simp only [List.map_cons, List.sum_cons]; omega
theorem iabs_mem : ∀ {f : List Int} {x : Int}, x ∈ f → iabs x ≤ (f.map iabs).sum
  | a :: f, x, h => by
    simp only [List.map_cons, List.sum_cons]
    rcases List.mem_cons.mp h with e | e
    · have := iabs_sum f; rw [e]; omega
    · have := iabs_mem e; have := iabs_nonneg a; omega
theorem bnd_mem {f : List Int} {x : Int} (h : x ∈ f) : x ≤ bnd f := by
  have h1 := iabs_mem h
  have h2 := iabs_sum f
  have h3 : x ≤ iabs x := by unfold iabs; split <;> omega
  have h4 : (1 : Int) ≤ 2 ^ (f.length - 1) := Int.pow_pos (by decide)
  unfold bnd
  have h5 : (1 : Int) * (f.map iabs).sum ≤ 2 ^ (f.length - 1) * (f.map iabs).sum := Int.mul_le_mul_of_nonneg_right h4 h2
  omega
theorem mem_sum : ∀ {l : List Nat} {x : Nat}, x ∈ l → x ≤ l.sum
  | a :: l, x, h => by
    simp only [List.sum_cons]
    rcases List.mem_cons.mp h with e | e
    · omega
    · have := mem_sum e; omega
theorem setsAll_len5 : ∀ c, c < 6 → (setsAll c).length ≤ 32 := by decide +kernel
end FF
end
section
set_option Elab.async false
set_option linter.all false
set_option maxRecDepth 100000
set_option maxHeartbeats 4000000
/-! FW27: looked. -/
namespace FF
open PySem PySem.Spec PyProof.Rows L2
theorem cop_C {N : Int} {a b : Pm N} {c d : Int} (h : Cop a b) (e : (C d : Pm N) * C c = 1) : Cop (C c * a) (C c * b) := by
  obtain ⟨u, v, h⟩ := h
  exact ⟨C d * u, C d * v, by grind⟩
theorem cop_part {N : Int} {a f : Pm N} (h : Cop f (sl f)) (d : Dv a f) : Cop a (sl a) := by
  obtain ⟨c, rfl⟩ := d
  obtain ⟨u, v, h⟩ := h
  rw [sl_mul] at h
  exact ⟨u * c + v * sl c, v * c, by grind⟩
theorem unit_cc {N l c : Int} (h : N ∣ l * c - 1) : (C c : Pm N) * C l = 1 := by
  rw [← C_mul, ← C_one, C_eq, Int.mul_comm]; exact h
section
variable {K : PySem.W.Frag}
/-- a comprehension over a list whose elements are new objects, each with its own law -/
theorem lcP {a : Addr} {xs : List V} {te : TE} {j : Nat} {vs : List Nat} {σ : L2.St} {H1 : Hp} {D : Addr} {Qd : Hp → Prop} (Φ : Nat → Addr → Hp → Prop) (st : ∀ i t H H', Same H H' → Φ i t H → Φ i t H')
    (hn : xs.length ≤ 100000) (hx : SqL K H1 a xs) (hD : H1 D = none) (hw : ∀ x, wipe ((wipe σ vs).set j (some x)) vs = wipe σ vs)
    (he : ∀ i x H', xs[i]? = some x → Same H1 H' → (∃ ts : List Addr, H' D = some (.lst (ts.map V.ref))) → ∀ Qe : VK, (∀ t H4, Same H' H4 → (∀ H5, (∀ b o, b ≠ D → H4 b = some o → H5 b = some o) → Φ i t H5) → Qe (.ref t) H4) → te ((wipe σ vs).set j (some x)) H' Qe)
    (hd : ∀ H' (ts : List Addr), Same H1 H' → H' D = some (.lst (ts.map V.ref)) → ts.length = xs.length → (∀ i t, ts[i]? = some t → Φ i t H') → Qd H') :
    ∃ W : Nat → Nat → Hp → Prop, (∃ m, W 0 m (upd H1 D (.lst []))) ∧ ∀ i m H, W i m H →
      ((Itl K a).stop i H ∧ Qd H) ∨ ((Itl K a).go i H ∧ ∃ Nx : Hp → Prop, (∀ H', Nx H' → ∃ m', m' < m ∧ W (i + 1) m' H') ∧ ∀ x H', (Itl K a).yld i H x H' → gName j x (wipe σ vs) H' fun σ2 H2 => wipe σ2 vs = wipe σ vs ∧ tYes σ2 H2 fun b H3 =>
        if b = true then te σ2 H3 fun y H4 => ∃ acc, H4 D = some (.lst acc) ∧ acc.length < sizeLine ∧ Nx (upd H4 D (.lst (acc ++ [y]))) else Nx H3) := by
  refine lc_it (walk_list (xs := xs)) (fun i H' => Same H1 H' ∧ ∃ ts : List Addr, H' D = some (.lst (ts.map V.ref)) ∧ ts.length = i ∧ ∀ k t, ts[k]? = some t → ∀ H5, (∀ b o, b ≠ D → H' b = some o → H5 b = some o) → Φ k t H5)
    ⟨same_new (Same.refl _) hD, [], upd_same, rfl, fun k t h => by simp at h⟩ (fun i H' _ p => p.1.seq hx) (fun i x H' H'' hi p y => ?_) (fun H' p => ?_)
  · obtain ⟨s1, ts, h1, l1, k1⟩ := p
    obtain ⟨rfl, hxi⟩ := y
    refine ⟨hw x, he i x H'' hxi s1 ⟨ts, h1⟩ _ fun t H4 s4 ht => ?_⟩
    refine ⟨_, s4 _ _ h1, small_lt (by simp; omega), same_new (s1.trans s4) hD, ts ++ [t], by rw [upd_same, List.map_append]; rfl, by simp [l1], fun k u hk H5 h5 => ?_⟩
    have h45 : ∀ b o, b ≠ D → H4 b = some o → H5 b = some o := fun b o hb e => h5 b o hb (by rw [upd_ne hb]; exact e)
    by_cases hlt : k < ts.length
    · rw [List.getElem?_append_left hlt] at hk
      exact k1 k u hk H5 fun b o hb e => h45 b o hb (s4 _ _ e)
    · have hk2 : k = ts.length := by
        have := (List.getElem?_eq_some_iff.mp hk).1
        simp at this; omega
      subst hk2
      rw [List.getElem?_append_right (Nat.le_refl _)] at hk
      simp at hk
      subst hk
      rw [l1]
      exact ht H5 h45
  · obtain ⟨s1, ts, h1, l1, k1⟩ := p
    exact hd H' ts s1 h1 l1 fun i t h => k1 i t h H' fun b o _ e => e
end
/-- what a row of the answer says -/
structure RowOk (M l : Int) (g : List Int) (Us : List (List Int)) (bits : Nat) (q r : List Int) : Prop where
  ex : ∃ (c c0 made : List Int), c = nearL M made ∧ FF.cl M made = C l * selP M Us bits Us.length ∧ c = c0 ++ [l] ∧ c0.length = selD Us bits Us.length ∧ Cn 0 c ∧ r.length < c.length ∧ StR g c l (g.length - c.length + 1) q r
/-- the rows of the answer, as far as they stand -/
structure RowsI (H : Hp) (D : Addr) (M l : Int) (g : List Int) (Us : List (List Int)) (bs : List Nat) : Prop where
  ex : ∃ ts : List Addr, H D = some (.lst (ts.map V.ref)) ∧ ts.length = bs.length ∧
    ∀ (i : Nat) t b, ts[i]? = some t → bs[i]? = some b → ∃ (pq pr : Addr) (q r : List Int), H t = some (.tup [.int b, .ref pq, .ref pr]) ∧ H pq = some (.lst (q.map V.int)) ∧ H pr = some (.lst (r.map V.int)) ∧ q ≠ [] ∧ r ≠ [] ∧ RowOk M l g Us b q r
theorem RowsI.same {H H' : Hp} {D : Addr} {M l : Int} {g : List Int} {Us : List (List Int)} {bs : List Nat} (R : RowsI H D M l g Us bs) (e : Same H H') : RowsI H' D M l g Us bs := by
  obtain ⟨ts, h1, h2, h3⟩ := R.ex
  refine ⟨ts, e _ _ h1, h2, fun i t b ht hb => ?_⟩
  obtain ⟨pq, pr, q, r, k1, k2, k3, k4⟩ := h3 i t b ht hb
  exact ⟨pq, pr, q, r, e _ _ k1, e _ _ k2, e _ _ k3, k4⟩
theorem RowsI.snoc {H : Hp} {D t pq pr : Addr} {M l : Int} {g q r : List Int} {Us : List (List Int)} {bs : List Nat} {b : Nat} (R : RowsI H D M l g Us bs) (ht : H t = some (.tup [.int b, .ref pq, .ref pr])) (hq : H pq = some (.lst (q.map V.int))) (hr : H pr = some (.lst (r.map V.int))) (nq : q ≠ []) (nr : r ≠ []) (ok : RowOk M l g Us b q r) :
    ∃ xs : List V, H D = some (.lst xs) ∧ xs.length = bs.length ∧ RowsI (upd H D (.lst (xs ++ [.ref t]))) D M l g Us (bs ++ [b]) := by
  obtain ⟨ts, h1, h2, h3⟩ := R.ex
  refine ⟨_, h1, by rw [List.length_map, h2], ts ++ [t], by rw [upd_same, List.map_append]; rfl, by simp [h2], fun i u c hu hc => ?_⟩
  have key : ∃ (pq pr : Addr) (q r : List Int), H u = some (.tup [.int c, .ref pq, .ref pr]) ∧ H pq = some (.lst (q.map V.int)) ∧ H pr = some (.lst (r.map V.int)) ∧ q ≠ [] ∧ r ≠ [] ∧ RowOk M l g Us c q r := by
    by_cases hi : i < ts.length
    · rw [List.getElem?_append_left hi] at hu
      rw [List.getElem?_append_left (by omega)] at hc
      exact h3 i u c hu hc
    · have hi2 : i = ts.length := by have := (List.getElem?_eq_some_iff.mp hu).1; simp at this; omega
      subst hi2
      rw [List.getElem?_append_right (Nat.le_refl _)] at hu
      rw [h2, List.getElem?_append_right (Nat.le_refl _)] at hc
      simp at hu hc
      subst hu
      subst hc
      exact ⟨pq, pr, q, r, ht, hq, hr, nq, nr, ok⟩
  obtain ⟨pq', pr', q', r', k1, k2, k3, k4, k5, k6⟩ := key
  refine ⟨pq', pr', q', r', ?_, ?_, ?_, k4, k5, k6⟩
  · rw [upd_ne (ne_of k1 h1 (by intro z; cases z))]; exact k1
  · rw [upd_ne (row_ne k2 k4 h1)]; exact k2
  · rw [upd_ne (row_ne k3 k5 h1)]; exact k3
def PaperAt (p : Nat) (Ps : List (List Int)) (i : Nat) (t : Addr) (H : Hp) : Prop := ∃ (p1 p2 aR : Addr) (x y : List Int) (right : List (List Int)), H t = some (.tup [.ref p1, .ref p2, .ref aR]) ∧ H p1 = some (.lst (x.map V.int)) ∧ H p2 = some (.lst (y.map V.int)) ∧ Tab H aR right ∧ PaperR p (Ps.getD i []) x y right
theorem PaperAt.same {p : Nat} {Ps : List (List Int)} {i : Nat} {t : Addr} {H H' : Hp} (e : Same H H') : PaperAt p Ps i t H → PaperAt p Ps i t H' := fun ⟨p1, p2, aR, x, y, right, h1, h2, h3, h4, h5⟩ => ⟨p1, p2, aR, x, y, right, e _ _ h1, e _ _ h2, e _ _ h3, h4.same e, h5⟩
def PapersAt (H : Hp) (D : Addr) (p : Nat) (Ps : List (List Int)) : Prop := ∃ ts : List Addr, H D = some (.lst (ts.map V.ref)) ∧ ts.length = Ps.length ∧ ∀ (i : Nat) t, ts[i]? = some t → PaperAt p Ps i t H
/-- what is known of the input -/
structure InR (g g0 : List Int) (l : Int) : Prop where
  cn : Cn 0 g
  eq : g = g0 ++ [l]
  g1 : 1 ≤ g0.length
  g5 : g0.length ≤ 5
  l0 : 0 < l
  l1 : l < 2 ^ 29
  bd : bnd g < 2 ^ 44
  good : ∃ p : Nat, PrZ p ∧ GoodP g l p
/-- what is known of the prime and of the pieces -/
structure CoreR (g : List Int) (l : Int) (p many : Nat) (Ps Us : List (List Int)) : Prop where
  pr : PrZ p
  gp : GoodP g l p
  m1 : 1 ≤ many
  m60 : many ≤ 60
  big : 2 * bnd g < (p : Int) ^ many
  sml : (p : Int) ^ many < 2 ^ 60
  ne : Ps ≠ []
  mo : ∀ c ∈ Ps, Mo p c
  lift : LiftR ((p : Int) ^ many) p l g Ps Us
  pw : (Ps.map (FF.cl (p : Int))).Pairwise Cop
def spLooked (K : PySem.W.Frag) : Sp := fun vs H Q _ => ∃ (a : Addr) (G g g0 : List Int) (l : Int), vs = [.ref a] ∧ SqL K H a (G.map V.int) ∧ G.length ≤ 50 ∧ tr 0 G = g ∧ InR g g0 l ∧
  (∀ H' T pf (p many : Nat) Ps Us (b : Nat) (c q : List Int), Same H H' → CoreR g l p many Ps Us → (b : Int) ∈ setsAll Us.length →
    (∃ made c0, c = nearL ((p : Int) ^ many) made ∧ FF.cl ((p : Int) ^ many) made = C l * selP ((p : Int) ^ many) Us b Us.length ∧ c = c0 ++ [l] ∧ c0.length = selD Us b Us.length ∧ Cn 0 c ∧ StR g c l (g.length - c.length + 1) q []) →
    H' T = some (.tup [.str "part", .ref pf]) → H' pf = some (.lst ((c.map (· / (gcdL c : Int))).map V.int)) → Q (.ref T) H') ∧
  ∀ H' T T5 aU aP aR (p many : Nat) Ps Us (bs : List Nat), Same H H' → CoreR g l p many Ps Us → bs.map (fun b : Nat => (b : Int)) = setsAll Us.length → H' T = some (.tup [.str "paper", .ref T5]) → H' T5 = some (.tup [.int p, .int many, .ref aU, .ref aP, .ref aR]) → Tab H' aU Us → PapersAt H' aP p Ps → RowsI H' aR ((p : Int) ^ many) l g Us bs → Q (.ref T) H'
section
variable {P : Program} {w : World} {K : PySem.W.Frag} {mg : Str → Option Value} {base : Heap}
theorem ok_looked (T : TX K mg) : FO P w K mg base 14 "looked" ["g"] (spLooked K) := by
  refine FO.mk T.d_looked sc_looked (fun _ _ _ _ _ _ us hl => match us, hl with | [_], _ => rfl) (fun vs H Q E h => ?_) (fun f cdv A outer s H vs Q E hr h => ?_)
  · obtain ⟨a, G, g, g0, l, rfl, _⟩ := h; rfl
  · obtain ⟨a, G, g, g0, l, rfl, hG, lG, eg, IN, hpart, hpaper⟩ := h
    obtain ⟨C_Rests, f_Rests, fd_Rests, m_Rests, M_Rests, b_Rests, G_Rests⟩ := mk_rests (P := P) (w := w) (base := base) T
    have MR := km_of (P := P) (w := w) (base := base) T (show KC mg C_Rests false from .inr (.inl ⟨m_Rests, rfl⟩))
    have cl := MR.cl
    obtain ⟨f_o, fd_o, m_over, b_over, G_over⟩ := MR.over rfl
    obtain ⟨C_Powers, f_Powers, fd_Powers, m_Powers, M_Powers, b_Powers, G_Powers⟩ := mk_powers (P := P) (w := w) (base := base) T
    have MP := km_of (P := P) (w := w) (base := base) T (show KC mg C_Powers false from .inr (.inr ⟨m_Powers, rfl⟩))
    obtain ⟨f_trimmed, fd_trimmed, g_trimmed, k_trimmed, b_trimmed, G_trimmed⟩ := ok_trimmed (P := P) (w := w) (base := base) T
    obtain ⟨f_good_prime, fd_good_prime, g_good_prime, k_good_prime, b_good_prime, G_good_prime⟩ := ok_good_prime (P := P) (w := w) (base := base) T
    obtain ⟨f_many_for, fd_many_for, g_many_for, k_many_for, b_many_for, G_many_for⟩ := ok_many_for (P := P) (w := w) (base := base) T
    obtain ⟨f_split, fd_split, g_split, k_split, b_split, G_split⟩ := ok_split (P := P) (w := w) (base := base) T
    obtain ⟨f_scaled, fd_scaled, g_scaled, k_scaled, b_scaled, G_scaled⟩ := ok_scaled (P := P) (w := w) (base := base) T
    obtain ⟨f_lifted, fd_lifted, g_lifted, k_lifted, b_lifted, G_lifted⟩ := ok_lifted (P := P) (w := w) (base := base) T
    obtain ⟨f_sets, fd_sets, g_sets, k_sets, b_sets, G_sets⟩ := ok_sets (P := P) (w := w) (base := base) T
    obtain ⟨f_candidate, fd_candidate, g_candidate, k_candidate, b_candidate, G_candidate⟩ := ok_candidate (P := P) (w := w) (base := base) T
    obtain ⟨f_steps, fd_steps, g_steps, k_steps, b_steps, G_steps⟩ := ok_steps (P := P) (w := w) (base := base) T
    obtain ⟨f_bared, fd_bared, g_bared, k_bared, b_bared, G_bared⟩ := ok_bared (P := P) (w := w) (base := base) T
    obtain ⟨f_paper, fd_paper, g_paper, k_paper, b_paper, G_paper⟩ := ok_paper (P := P) (w := w) (base := base) T
    obtain ⟨C_Wholes, f_Wholes, fd_Wholes, m_Wholes, M_Wholes, b_Wholes, G_Wholes⟩ := mk_wholes (P := P) (w := w) (base := base) T
    refine ⟨_, (pss_cons (ps_set (i := 1) sc_looked.nd rfl (Or.inl rfl) (pe_call G_trimmed (hr.mono (by decide)) (by rfl) g_trimmed k_trimmed b_trimmed .nil pass0 (pa_cons (pe_make0 M_Wholes G_Wholes (hr.mono (by decide)) rfl m_Wholes b_Wholes .nil pass0) (pa_cons (pv 0) pa_nil))))
      (pss_cons (ps_set (i := 2) sc_looked.nd rfl (Or.inl rfl) (pe_call G_good_prime (hr.mono (by decide)) (by rfl) g_good_prime k_good_prime b_good_prime .nil pass0 (pa_cons (pv 1) pa_nil)))
      (pss_cons (ps_set (i := 3) sc_looked.nd rfl (Or.inl rfl) (pe_call G_many_for (hr.mono (by decide)) (by rfl) g_many_for k_many_for b_many_for .nil pass0 (pa_cons (pv 2) (pa_cons (pv 1) pa_nil))))
      (pss_cons (ps_set (i := 4) sc_looked.nd rfl (Or.inr rfl) (pe_make M_Rests G_Rests (hr.mono (by decide)) rfl m_Rests b_Rests .nil pass0 (pa_cons (pv 2) pa_nil)))
      (pss_cons (ps_set (i := 5) sc_looked.nd rfl (Or.inl rfl) (pe_call G_split (hr.mono (by decide)) (by rfl) g_split k_split b_split .nil pass0 (pa_cons (pv 4) (pa_cons (pe_call G_scaled (hr.mono (by decide)) (by rfl) g_scaled k_scaled b_scaled .nil pass0 (pa_cons (pv 4) (pa_cons (pv 1) (pa_cons (pe_meth (pv 4) cl m_over G_over (hr.mono (by decide)) b_over .nil pass0 (pa_cons pe_int (pa_cons (pe_ix (r := rIxL K) ix_list (pv 1) (pe_un un_neg pe_int) (fun _ _ => rfl)) pa_nil))) pa_nil)))) pa_nil))))
      (pss_cons (ps_set (i := 6) sc_looked.nd rfl (Or.inl rfl) (pe_call G_lifted (hr.mono (by decide)) (by rfl) g_lifted k_lifted b_lifted .nil pass0 (pa_cons (pv 2) (pa_cons (pv 3) (pa_cons (pv 1) (pa_cons (pv 5) pa_nil))))))
      (pss_cons (ps_set (i := 7) sc_looked.nd rfl (Or.inl rfl) (pe_fld (pe_make M_Powers G_Powers (hr.mono (by decide)) rfl m_Powers b_Powers .nil pass0 (pa_cons (pv 2) (pa_cons (pv 3) pa_nil))) rfl))
      (pss_cons (ps_set (i := 8) sc_looked.nd rfl (Or.inl rfl) (pe_lst pa_nil))
      (pss_cons (ps_for PassesOwn.never rfl (pi_list (pe_call G_sets (hr.mono (by decide)) (by rfl) g_sets k_sets b_sets .nil pass0 (pa_cons (pe_callB (r := rLenK K) call_len_seq (by rfl) T.b_len (by decide +kernel) (pa_cons (pv 6) pa_nil)) pa_nil))) (pg_name (i := 9) sc_looked.nd rfl (Or.inl rfl))
        (pss_cons (ps_set (i := 10) sc_looked.nd rfl (Or.inl rfl) (pe_call G_candidate (hr.mono (by decide)) (by rfl) g_candidate k_candidate b_candidate .nil pass0 (pa_cons (pv 1) (pa_cons (pv 7) (pa_cons (pv 6) (pa_cons (pv 9) pa_nil))))))
        (pss_cons (ps_asg (pe_call G_steps (hr.mono (by decide)) (by rfl) g_steps k_steps b_steps .nil pass0 (pa_cons (pv 1) (pa_cons (pv 10) pa_nil))) (pg_tup rfl (pgs_cons (pg_name (i := 11) sc_looked.nd rfl (Or.inl rfl)) (pgs_cons (pg_name (i := 12) sc_looked.nd rfl (Or.inl rfl)) pgs_nil))))
        (pss_cons (ps_if (pt_cmpR (op_eqD hr.units) (pv 12) (pe_lst pa_nil) (nomark _)) (pss_one (ps_ret (pe_tup (pa_cons pe_str (pa_cons (pe_ix (r := rIxT K) ix_tup (pe_call G_bared (hr.mono (by decide)) (by rfl) g_bared k_bared b_bared .nil pass0 (pa_cons (pv 10) pa_nil)) pe_int (fun _ _ => rfl)) pa_nil))))) pss_nil)
        (pss_one (ps_expr (pe_bm PySem.F.plainAttrs_list PySem.F.slot_list_append PySem.F.type_list_append mt_append (pv 8) (pa_cons (pe_tup (pa_cons (pv 9) (pa_cons (pv 11) (pa_cons (pv 12) pa_nil)))) pa_nil))))))))
      (pss_one (ps_ret (pe_tup (pa_cons pe_str (pa_cons (pe_tup (pa_cons (pv 2) (pa_cons (pv 3) (pa_cons (pv 6) (pa_cons (pe_lc (own := [("piece", 13)])  rfl sc_looked.nd (pi_list (pv 5)) (blkOk_by (N := n_looked) (sc := defScope s_looked) (by decide +kernel)) (fun _ _ _ _ _ => (pg_name (i := 13) sc_looked.nd rfl (Or.inl rfl))) (fun _ _ _ _ _ => pts_nil) (fun _ _ _ _ _ => (pe_call G_paper (hr.mono (by decide)) (by rfl) g_paper k_paper b_paper .nil pass0 (pa_cons (pv 4) (pa_cons (pv 13) pa_nil))))) (pa_cons (pv 8) pa_nil)))))) pa_nil)))))))))))))), ?_⟩
    have lg : g.length ≤ 6 := by rw [IN.eq]; have := IN.g5; simp; omega
    have cf := IN.cn
    have ef := IN.eq
    have hlast : atI (g.map V.int) (-1) = some (.int l) := by rw [ef]; exact at_last g0 l
    have g5 := IN.g5
    have hl0 := IN.l0
    have hl1 := IN.l1
    refine fun pk dk hk1 hk2 hk3 => ⟨pk, dk, rfl, upd_same, rfl, ?_⟩
    have sK := same_made2 (o := .ins C_Wholes dk []) (o' := .ins C_Wholes dk [(("size" : Str), V.int 0)]) hk1 hk2
    have hK := kd_wholes (H := H) (x := pk) (dx := dk) (fs := []) m_Wholes
    generalize upd (upd (upd H dk (.own pk)) pk (.ins C_Wholes dk [])) pk (.ins C_Wholes dk [(("size" : Str), V.int 0)]) = HK at *
    refine ⟨_, rfl, pk, a, 0, true, G, rfl, hK, sK.seq hG, by omega, fun H1 p1 s1 n1 h1 => ?_⟩
    rw [eg] at h1
    have s01 := sK.trans s1
    refine ⟨_, rfl, p1, g, g0, l, rfl, sqL_of h1, cf, ef, by omega, IN.good, fun p H2 s2 hP GP => ?_⟩
    have hp := prz_isp hP
    have p2 := hP.1
    have p3 := hP.2.1
    have s02 := s01.trans s2
    have h12 := s2 _ _ h1
    refine ⟨_, rfl, _, rfl, p1, g, p, rfl, sqL_of h12, cf, by omega, hP, IN.bd, fun many H3 s3 m1 m60 hbig hsml => ?_⟩
    have s03 := s02.trans s3
    have h13 := s3 _ _ h12
    refine ⟨_, rfl, fun pr dr hj1 hj2 hj3 => ⟨pr, dr, p, rfl, hP, upd_same, rfl, ?_⟩⟩
    have sR := same_made2 (o := .ins C_Rests dr []) (o' := .ins C_Rests dr [(("size" : Str), V.int p)]) hj1 hj2
    have hKR := kd_rests (H := H3) (x := pr) (dx := dr) (fs := []) (p := p) m_Rests (by omega) (by omega)
    have hAt : KAt C_Rests false (upd (upd (upd H3 dr (.own pr)) pr (.ins C_Rests dr [])) pr (.ins C_Rests dr [(("size" : Str), V.int p)])) pr p := ⟨⟨dr, _, upd_same, .inl rfl⟩, fun h => (by cases h), fun _ => ⟨by omega, by omega⟩⟩
    generalize upd (upd (upd H3 dr (.own pr)) pr (.ins C_Rests dr [])) pr (.ins C_Rests dr [(("size" : Str), V.int p)]) = HR at *
    have s04 := s03.trans sR
    have h1R := sR _ _ h13
    obtain ⟨⟨dx, fs, ho, hfs⟩, _, _⟩ := id hAt
    refine ⟨_, rfl, _, rfl, _, rfl, _, rfl, pr, dx, fs, rfl, ho, fs_none hfs (by decide) (by decide), _, rfl, 1, rfl, p1, _, -1, _, rfl, rfl, sqL_of h1R, hlast, pr, 1, l, p, rfl, hAt, hp.inv GP.1, fun c H4 s4 c0 c1 hc => ?_⟩
    refine ⟨pr, p1, p, c, false, g, rfl, hKR.same s4, sqL_of (s4 _ _ h1R), by omega, fun x hx => .inr ⟨by omega, by omega⟩, fun H5 p5 s5 n5 h5 => ?_⟩
    have ecl : FF.cl (p : Int) (tr p (sclL c g)) = C c * FF.cl p g := by rw [cl_tr, cl_scl]
    have mog : Mo p (tr p (sclL c g)) := by
      have h1 : Mon (FF.cl (p : Int) (tr p (sclL c g))) g0.length := by rw [cl_tr, ef]; exact mon_scl hc
      obtain ⟨L0, e0, l0⟩ := mon_list (tr_Cn _) h1 (one_mod (by omega))
      exact ⟨tr_Cn _, L0, e0, fun z => by have := IN.g1; rw [z] at l0; simp at l0; omega⟩
    have eu := unit_cc hc
    have cop5 : Cop (FF.cl (p : Int) (tr p (sclL c g))) (sl (FF.cl p (tr p (sclL c g)))) := by
      rw [ecl, sl_scl]; exact cop_C (d := l) GP.2 (by rw [← eu]; grind)
    have len5 : (tr (p : Int) (sclL c g)).length ≤ 6 := by have := tr_len (N := p) (sclL c g); rw [len_scl] at this; omega
    have s45 := s4.trans s5
    refine ⟨pr, p5, p, _, rfl, hKR.same s45, hp, by omega, sqL_of h5, mog, by omega, cop5, fun Ps H6 aP s6 nP tP SR => ?_⟩
    have s46 := s45.trans s6
    have s06 := s04.trans s46
    have lenPs := SR.toPcR.le hp mog
    have neP : Ps ≠ [] := fun z => by
      have h1 := SR.toPcR.len hp mog
      have h2 := mog.len
      rw [z] at h1; simp at h1; omega
    have pw := pieces_pw cop5 SR.prd
    have ePrd : C l * FF.prd (Ps.map (FF.cl (p : Int))) = FF.cl p g := by
      rw [← SR.prd, ecl]; grind
    refine ⟨_, rfl, _, rfl, _, rfl, _, rfl, p1, aP, p, many, g, g0, l, Ps, rfl, hP, m1, by omega, by omega, sqL_of (s46 _ _ h1R), cf, ef, by omega, GP.1, tP, neP, by omega, fun c hc => ⟨SR.cn c hc, by have := SR.toPcR.clen hp mog hc; omega⟩, pw, ePrd, fun H7 aU Us s7 tU LR => ?_⟩
    have s47 := s46.trans s7
    have s07 := s06.trans s7
    refine ⟨_, rfl, _, rfl, fun pw2 dw2 hw1 hw2 hw3 => ⟨pw2, dw2, p, many, rfl, hP, m1, by omega, upd_same, rfl, pw2, C_Powers, dw2, _, _, rfl, upd_same, MP.cl, MP.nS, fs_size (.inr ⟨_, rfl⟩), ?_⟩⟩
    have sW := same_made3 (H := H7) (x := pw2) (dx := dw2) (o := .ins C_Powers dw2 []) (o' := .ins C_Powers dw2 [(("size" : Str), V.int ((p : Int) ^ many))]) (o2 := .ins C_Powers dw2 [(("size" : Str), V.int ((p : Int) ^ many)), (("prime" : Str), V.int p)]) hw1 hw2
    generalize upd (upd (upd (upd H7 dw2 (.own pw2)) pw2 (.ins C_Powers dw2 [])) pw2 (.ins C_Powers dw2 [(("size" : Str), V.int ((p : Int) ^ many))])) pw2 (.ins C_Powers dw2 [(("size" : Str), V.int ((p : Int) ^ many)), (("prime" : Str), V.int p)]) = H8 at *
    have s48 := s47.trans sW
    have s08 := s07.trans sW
    have CR : CoreR g l p many Ps Us := ⟨hP, GP, m1, m60, hbig, hsml, neP, SR.cn, LR, pw⟩
    obtain ⟨M, eM⟩ : ∃ M, M = (p : Int) ^ many := ⟨_, rfl⟩
    refine ⟨by show 0 ≤ sizeLine; decide, fun DR nR => ?_⟩
    have sD : Same H8 (upd H8 DR (.lst [])) := same_new (Same.refl _) nR
    have hDR : (upd H8 DR (.lst [])) DR = some (.lst []) := upd_same
    have tU8 := tU.same (sW.trans sD)
    obtain ⟨pu, hpu, lpu, kpu⟩ := id tU8
    have s49 := s48.trans sD
    have s09 := s08.trans sD
    have lUs : Us.length ≤ 5 := by rw [LR.len]; omega
    have lUs' : Us.length < 6 := by omega
    have hlM : l < M := by
      have h1 := bnd_mem (f := g) (x := l) (by rw [ef]; simp)
      rw [eM]; omega
    have h2lM : 2 * l < M := by
      have h1 := bnd_mem (f := g) (x := l) (by rw [ef]; simp)
      rw [eM]; omega
    have hM60 : M < 2 ^ 60 := by rw [eM]; exact hsml
    rw [← eM] at LR
    have ndl : ¬ M ∣ l := fun z => by have := Int.le_of_dvd hl0 z; omega
    have degU := ups_deg LR.mo LR.prd ef ndl
    have hU : ∀ u ∈ Us, u.length ≤ 20 ∧ ∀ x ∈ u, 0 ≤ x ∧ x < M := fun u hu => by
      refine ⟨?_, fun x hx => cn_range (by omega) (LR.mo u hu).1 hx⟩
      have h1 : u.length - 1 ≤ (Us.map fun c => c.length - 1).sum := mem_sum (List.mem_map.mpr ⟨u, hu, rfl⟩)
      omega
    have h19 := s49 _ _ h1R
    have h18 := s48 _ _ h1R
    have tU7 := tU.same sW
    have tP7 := tP.same (s7.trans sW)
    have hKR8 := hKR.same s48
    generalize upd H8 DR (.lst []) = H9 at *
    rw [← eM]
    refine ⟨_, rfl, aU, _, rfl, .inl (sqL_of hpu), Us.length, congrArg (fun n : Nat => [V.int n]) (by rw [List.length_map, lpu]), by omega, fun H10 pS s10 nS h10 => ?_⟩
    have ebs := bs_eq Us.length lUs'
    rw [← ebs, List.map_map] at h10
    have h10' : H10 pS = some (.lst ((bsOf Us.length).map fun b : Nat => V.int b)) := h10
    obtain ⟨bs, ebs2⟩ : ∃ bs, bs = bsOf Us.length := ⟨_, rfl⟩
    rw [← ebs2] at h10' ebs
    have tU10 := tU8.same s10
    have h1A := s10 _ _ h19
    have s0A := s09.trans s10
    have tPA := tP.same (s7.trans (sW.trans (sD.trans s10)))
    refine ⟨pS, rfl, ⟨_, sqL_of h10'⟩, for_list (xs := bs.map fun b : Nat => V.int b) (fun k σ H' => ∃ (x9 x10 x11 x12 : Option V), σ = [some (.ref a), some (.ref p1), some (.int p), some (.int many), some (.ref pr), some (.ref aP), some (.ref aU), some (.int M), some (.ref DR), x9, x10, x11, x12, none] ∧ Same H8 H' ∧ SameX (fun x => x = DR) H10 H' ∧ RowsI H' DR M l g Us (bs.take k))
      ⟨none, none, none, none, rfl, sD.trans s10, fun _ _ _ h => h, [], s10 _ _ hDR, rfl, fun i t b h => by simp at h⟩ (fun k σ H' _ ⟨_, _, _, _, _, s, s', _⟩ => ?_) (fun k x σ H' hx hW => ?_) (fun σ H' hW => ?_)⟩
    · refine sqL_of (s' _ _ (fun z => ?_) h10')
      have z' : pS = DR := z
      rw [z', hDR] at nS; cases nS
    · obtain ⟨x9, x10, x11, x12, rfl, sm, sx, R⟩ := hW
      obtain ⟨b, rfl, hb⟩ : ∃ b : Nat, x = V.int b ∧ bs[k]? = some b := by
        rw [List.getElem?_map] at hx
        match e : bs[k]?, hx with
        | some b, hx => exact ⟨b, (Option.some.inj hx).symm, rfl⟩
      have h1' := sm _ _ h18
      have tU' := tU7.same sm
      refine ⟨_, rfl, _, rfl, _, rfl, _, rfl, p1, aU, M, g, g0, l, Us, b, rfl, sqL_of h1', cf, ef, by omega, by omega, by omega, tU', by omega, hU, fun made em H11 pC s11 nC h11 => ?_⟩
      obtain ⟨c0, ec, lc0⟩ := near_shape (by omega) hl0 h2lM (selP_mon LR.mo b Us.length (Nat.le_refl _)) em
      have rc := nearL_rng (N := M) (by omega) made
      have cc : Cn 0 (nearL M made) := tr_Cn _
      obtain ⟨c, edc⟩ : ∃ c, c = nearL M made := ⟨_, rfl⟩
      rw [← edc] at ec rc cc h11
      have lc1 := selD_le Us b Us.length
      rw [List.take_length, degU] at lc1
      have lcc : c.length ≤ g.length := by rw [ec, ef]; simp; omega
      have lc7 : c.length ≤ 6 := by omega
      refine ⟨_, rfl, _, rfl, p1, pC, g, c, c0, l, rfl, sqL_of (s11 _ _ h1'), sqL_of h11, cf, cc, ec, lcc, by omega, fun x hx => by have := rc x hx; omega, fun H12 T12 pq pr' q r s12 hT12 hq12 hr12 lr S => ?_⟩
      refine ⟨T12, _, rfl, sqT_of hT12, rfl, _, _, rfl, _, _, rfl, rfl, ?_⟩
      have sB := s11.trans s12
      refine ⟨_, rfl, by show 0 ≤ sizeLine; decide, fun pE nE => ?_⟩
      have sE : Same H12 (upd H12 pE (.lst [])) := same_nw (Same.refl _) nE
      have hE2 : (upd H12 pE (.lst [])) pE = some (.lst (([] : List Int).map V.int)) := upd_same
      have hr13 := sE _ _ hr12
      have hq13 := sE _ _ hq12
      have hc13 := sE _ _ (s12 _ _ h11)
      generalize upd H12 pE (.lst []) = H13 at *
      have sC := sB.trans sE
      have hob : RowOk M l g Us b q r := ⟨c, c0, made, edc, em, ec, lc0, cc, lr, S⟩
      have hne : q ≠ [] := S.qne ef (by omega) (by omega) (by have := lcc; rw [ef] at this; simp at this; omega)
      refine eqD_ints (l := r) (m := []) (sqL_of hr13) (sqL_of hE2) ?_
      refine ⟨_, rfl, ?_⟩
      by_cases hrn : r = []
      · refine ifD hrn ?_
        refine ⟨_, rfl, pC, c, c0, l, rfl, sqL_of hc13, by omega, by rw [tr_id cc]; exact ec, hl0, hl1, fun H14 T14 pf s14 hT14 hf14 => ⟨T14, _, 1, _, rfl, rfl, sqT_of hT14, atI_nat (j := 1) rfl, by show 2 ≤ sizeLine; decide, fun pT nT => ?_⟩⟩
        rw [tr_id cc] at hf14
        refine hpart _ pT pf p many Ps Us b c q ((s08.trans sm).trans (sC.trans (same_nw s14 nT))) CR ?_ ⟨made, c0, by rw [← eM]; exact edc, by rw [← eM]; exact em, ec, lc0, cc, by rw [hrn] at S; exact S⟩ upd_same (by rw [upd_ne (ne_of_none hf14 nT)]; exact hf14)
        rw [← ebs]
        exact List.mem_map.mpr ⟨b, List.mem_of_getElem? hb, rfl⟩
      · refine ifN hrn ?_
        have R13 := R.same sC
        obtain ⟨ts, hts, lts, _⟩ := R13.ex
        have lbs : (bs.take k).length ≤ 32 := by
          have h1 : bs.length = (setsAll Us.length).length := by rw [← ebs, List.length_map]
          have h2 := setsAll_len5 Us.length lUs'
          rw [List.length_take]; omega
        refine ⟨_, rfl, .inl ⟨rfl, _, sqL_of hts⟩, _, rfl, _, rfl, _, rfl, by show 3 ≤ sizeLine; decide, fun pt nt => ?_⟩
        have st : Same H13 (upd H13 pt (.tup [.int b, .ref pq, .ref pr'])) := same_nw (Same.refl _) nt
        obtain ⟨xs, hxs, lxs, R14⟩ := (R13.same st).snoc upd_same (st _ _ hq13) (st _ _ hr13) hne hrn hob
        refine ⟨DR, xs, .ref pt, rfl, rfl, hxs, small_lt (by omega), ?_⟩
        refine ⟨_, _, _, _, rfl, same_new (sm.trans (sC.trans st)) nR, ?_, ?_⟩
        · intro x o hx ho
          rw [upd_ne hx]
          exact st _ _ (sC _ _ (sx _ _ hx ho))
        · rw [List.take_add_one, hb]; exact R14
    · obtain ⟨x9, x10, x11, x12, rfl, sm, sx, R⟩ := hW
      rw [List.length_map, List.take_length] at R
      obtain ⟨pp, hpp, lpp, kpp⟩ := tP7.same sm
      have lenPs' := SR.toPcR.le hp mog
      refine ⟨_, rfl, _, rfl, _, rfl, _, rfl, aP, rfl, ⟨_, sqL_of hpp⟩, fun D hD => lcP (xs := pp.map V.ref) (PaperAt p Ps) (fun i t H H' e => PaperAt.same e) (by rw [List.length_map]; omega) (sqL_of hpp) hD (fun x => rfl) (fun i x H1 hx s1' lD Qe qe => ?_) (fun H1 ts s1' hD1 lts k1 => ?_)⟩
      · obtain ⟨pj, rfl, hpj⟩ := ref_get hx
        have hi : i < Ps.length := by have := (List.getElem?_eq_some_iff.mp hpj).1; omega
        have mem : Ps.getD i [] ∈ Ps := List.mem_of_getElem? (getD_at hi)
        have hj := s1' _ _ (kpp i pj _ hpj (getD_at hi))
        have moc := SR.cn _ mem
        have lc := SR.toPcR.clen hp mog mem
        have cc : Cop (FF.cl (p : Int) (Ps.getD i [])) (sl (FF.cl p (Ps.getD i []))) := cop_part cop5 (SR.toPcR.dv mem)
        refine ⟨_, rfl, _, rfl, pr, pj, p, Ps.getD i [], rfl, hKR8.same (sm.trans s1'), hp, sqL_of hj, moc, by omega, cc, SR.smp _ mem, fun H4 T q1 q2 aR x y right s4' hT h1' h2' tR nn PR => ?_⟩
        obtain ⟨n1', n2', n3'⟩ := nn
        obtain ⟨tsD, hlD⟩ := lD
        have nD' : H1 D ≠ none := by rw [hlD]; intro z; cases z
        refine qe T H4 s4' fun H5 h5 => ?_
        have ne : ∀ b, H1 b = none → b ≠ D := fun b hb z => nD' (by rw [← z]; exact hb)
        have hTD : T ≠ D := ne_of hT (s4' _ _ hlD) (by intro z; cases z)
        refine ⟨q1, q2, aR, x, y, right, h5 _ _ hTD hT, h5 _ _ (ne _ n1') h1', h5 _ _ (ne _ n2') h2', ?_, PR⟩
        exact (tR.frame (fun b o nb hb => h5 _ _ (fun z => nb (fun z2 => nD' (by rw [← z]; exact z2))) hb) fun o ho => h5 _ _ (ne _ n3') ho).tab
      · refine ⟨_, rfl, by show 5 ≤ sizeLine; decide, fun p5 n5 => ⟨by show 2 ≤ sizeLine; decide, fun pT nT => ?_⟩⟩
        have hs5 : Same H1 (upd H1 p5 (.tup [.int p, .int many, .ref aU, .ref D, .ref DR])) := same_nw (Same.refl _) n5
        have h5' : (upd H1 p5 (.tup [.int p, .int many, .ref aU, .ref D, .ref DR])) p5 = some (.tup [.int p, .int many, .ref aU, .ref D, .ref DR]) := upd_same
        obtain ⟨HZ, eHZ⟩ : ∃ HZ, HZ = upd H1 p5 (.tup [.int p, .int many, .ref aU, .ref D, .ref DR]) := ⟨_, rfl⟩
        have nT' : HZ pT = none := by rw [eHZ]; exact nT
        rw [← eHZ] at hs5 h5'
        have hsT : Same HZ (upd HZ pT (.tup [.str "paper", .ref p5])) := same_nw (Same.refl _) nT'
        have sZ := hs5.trans hsT
        have hfin := hpaper (upd HZ pT (.tup [.str "paper", .ref p5])) pT p5 aU D DR p many Ps Us bs (((s08.trans sm).trans s1').trans sZ) CR ebs upd_same (hsT _ _ h5') ((tU7.same (sm.trans s1')).same sZ) ⟨ts, sZ _ _ hD1, by rw [lts, List.length_map, lpp], fun i t ht => (k1 i t ht).same sZ⟩ (by rw [← eM]; exact R.same (s1'.trans sZ))
        rw [eHZ] at hfin
        exact hfin
end
end FF
end
section
set_option Elab.async false
set_option linter.all false
set_option maxRecDepth 100000
set_option maxHeartbeats 4000000
/-! FL1: the law's own defs, the first of them. -/
namespace FF
open PySem PySem.Spec PyProof.Rows L2
def CDivB (_ j : Int) : Prop := j ≠ 0 ∧ j.natAbs.log2 < 9000
theorem op_fdivB {X : Cx} : OpR X (binaryOp .FloorDiv) (rI CDivB fun i j => .int (i.fdiv j)) := opI fun _ _ _ _ _ _ _ hc q => floordiv_int hc.1 q (.inl (PyProof.noPylong_of_log2 hc.2))
def spCell (K : PySem.W.Frag) : Sp := fun vs H Q _ => ∃ (a : Addr) (f : List Int) (k : Nat), vs = [.ref a, .int k] ∧ SqL K H a (f.map V.int) ∧ Q (.int (co f k)) H
def spHead (K : PySem.W.Frag) : Sp := fun vs H Q _ => ∃ (a : Addr) (f : List Int), vs = [.ref a] ∧ SqL K H a (f.map V.int) ∧ ∀ h : Int, 0 ≤ h → Q (.int h) H
def spLTrim (K : PySem.W.Frag) : Sp := fun vs H Q _ => ∃ (a : Addr) (N : Int) (f : List Int), vs = [.ref a, .int N] ∧ 0 ≤ N ∧ SqL K H a (f.map V.int) ∧ f.length ≤ 10000 ∧ NewL H (tr N f) Q
def spLTimes (K : PySem.W.Frag) : Sp := fun vs H Q _ => ∃ (a b : Addr) (N : Int) (f h : List Int), vs = [.ref a, .ref b, .int N] ∧ 0 ≤ N ∧ SqL K H a (f.map V.int) ∧ SqL K H b (h.map V.int) ∧ f.length ≤ 1000 ∧ h.length ≤ 1000 ∧ (∀ x ∈ f, ∀ y ∈ h, CMul x y) ∧ NewL H (tr N (mulL f h)) Q
def spLPlus (K : PySem.W.Frag) : Sp := fun vs H Q _ => ∃ (a b : Addr) (N : Int) (f h : List Int), vs = [.ref a, .ref b, .int N] ∧ 0 ≤ N ∧ H a = some (.lst (f.map V.int)) ∧ H b = some (.lst (h.map V.int)) ∧ f.length ≤ 1000 ∧ h.length ≤ 1000 ∧ NewL H (tr N (addL f h)) Q
section
variable {P : Program} {w : World} {K : PySem.W.Frag} {mg : Str → Option Value} {base : Heap}
theorem ok_L_cell_at (T : TX K mg) : FO P w K mg base 1 "_law_cell_at" ["_law_script", "_law_k"] (spCell K) := by
  refine FO.mk T.d_L_cell_at sc_L_cell_at (fun _ _ _ _ _ _ us hl => match us, hl with | [_, _], _ => rfl) (fun vs H Q E h => ?_) (fun f cdv A outer s H vs Q E hr h => ?_)
  · obtain ⟨a, f, k, rfl, _⟩ := h; rfl
  · obtain ⟨a, f, k, rfl, hS, hq⟩ := h
    refine ⟨_, (pss_cons (ps_if (pt_cmpR op_lt (pv 1) (pe_callB (r := rLenK K) call_len_seq (by rfl) T.b_len (by decide +kernel) (pa_cons (pv 0) pa_nil)) (nomark _)) (pss_one (ps_ret (pe_ix (r := rIxL K) ix_list (pv 0) (pv 1) (fun _ _ => rfl)))) pss_nil)
      (pss_one (ps_ret pe_int))), ?_⟩
    refine ⟨_, rfl, _, rfl, a, _, rfl, .inl hS, k, _, rfl, rfl, _, rfl, ?_⟩
    rw [List.length_map]
    by_cases h : k < f.length
    · refine ifD (by omega) ?_
      exact ⟨_, rfl, _, rfl, a, _, k, _, rfl, rfl, hS, at_co h, hq⟩
    · refine ifN (by omega) ?_
      rw [co_ge (by omega)] at hq
      exact hq
theorem ok_L_head (T : TX K mg) : FO P w K mg base 2 "_law_head" ["_law_script"] (spHead K) := by
  refine FO.mk T.d_L_head sc_L_head (fun _ _ _ _ _ _ us hl => match us, hl with | [_], _ => rfl) (fun vs H Q E h => ?_) (fun f cdv A outer s H vs Q E hr h => ?_)
  · obtain ⟨a, f, rfl, _⟩ := h; rfl
  · obtain ⟨a, f, rfl, hS, hq⟩ := h
    obtain ⟨f_L_cell_at, fd_L_cell_at, g_L_cell_at, k_L_cell_at, b_L_cell_at, G_L_cell_at⟩ := ok_L_cell_at (P := P) (w := w) (base := base) T
    refine ⟨_, (pss_cons (ps_set (i := 1) sc_L_head.nd rfl (Or.inl rfl) (pe_op op_modN (pe_call G_L_cell_at (hr.mono (by decide)) (by rfl) g_L_cell_at k_L_cell_at b_L_cell_at .nil pass0 (pa_cons (pv 0) (pa_cons pe_int pa_nil))) (pe_op op_pow pe_int pe_int)))
      (pss_one (ps_ret (pe_op op_modN (pe_op op_mul (pe_op op_add (pe_op op_mul (pv 1) (pv 1)) pe_int) pe_int) (pe_op op_add (pe_op op_pow pe_int pe_int) pe_int))))), ?_⟩
    refine ⟨_, rfl, a, f, 0, rfl, hS, 10, 9, rfl, rfl, ⟨by decide, by decide, by decide⟩, co f 0, _, rfl, rfl, (show (10 : Int) ^ (9 : Int).toNat ≠ 0 by decide), ?_⟩
    have e9 : ((10 : Int) ^ (9 : Int).toNat) = 1000000000 := by decide
    rw [e9]
    have h1 := Int.fmod_nonneg_of_pos (co f 0) (b := 1000000000) (by decide)
    have h2 := Int.fmod_lt_of_pos (co f 0) (b := 1000000000) (by decide)
    refine ⟨_, rfl, _, rfl, _, _, rfl, rfl, .inl ⟨by omega, by omega⟩, _, _, rfl, rfl, _, _, rfl, rfl, .inr ⟨by decide, by decide⟩, 10, 18, rfl, rfl, ⟨by decide, by decide, by decide⟩, _, _, rfl, rfl, _, _, rfl, rfl, (show (10 : Int) ^ (18 : Int).toNat + 9 ≠ 0 by decide), ?_⟩
    exact hq _ (Int.fmod_nonneg_of_pos _ (by decide))
theorem ok_L_trim (T : TX K mg) : FO P w K mg base 1 "_law_trim" ["_law_row", "_law_size"] (spLTrim K) := by
  refine FO.mk T.d_L_trim sc_L_trim (fun _ _ _ _ _ _ us hl => match us, hl with | [_, _], _ => rfl) (fun vs H Q E h => ?_) (fun f cdv A outer s H vs Q E hr h => ?_)
  · obtain ⟨a, N, f, rfl, _⟩ := h; rfl
  · obtain ⟨a, N, f, rfl, hN, hS, hl, hq⟩ := h
    refine ⟨_, (pss_cons (ps_setLc (i := 0) (own := [("_law_number", 2)])  rfl sc_L_trim.nd rfl rfl (sw_true rfl rfl rfl (by decide +kernel)) (pi_list (pv 0)) (blkOk_by (N := n_L_trim) (sc := defScope s_L_trim) (by decide +kernel)) (fun _ _ _ _ _ => (pg_name (i := 2) sc_L_trim.nd rfl (Or.inl rfl))) (fun _ _ _ _ _ => pts_nil) (fun _ _ _ _ _ => (pv 2)))
      (pss_cons (ps_if (pt_cmpR op_gt (pv 1) pe_int (nomark _)) (pss_one (ps_setLc (i := 0) (own := [("_law_number", 2)])  rfl sc_L_trim.nd rfl rfl (sw_true rfl rfl rfl (by decide +kernel)) (pi_list (pv 0)) (blkOk_by (N := n_L_trim) (sc := defScope s_L_trim) (by decide +kernel)) (fun _ _ _ _ _ => (pg_name (i := 2) sc_L_trim.nd rfl (Or.inl rfl))) (fun _ _ _ _ _ => pts_nil) (fun _ _ _ _ _ => (pe_op op_modN (pv 2) (pv 1))))) pss_nil)
      (pss_cons (ps_while PassesOwn.never (PW.pt (pw_and (pt_cmpR op_gt (pe_callB (r := rLenK K) call_len_seq (by rfl) T.b_len (by decide +kernel) (pa_cons (pv 0) pa_nil)) pe_int (nomark _)) (pw_and1 (pt_cmpR op_eq (pe_ix (r := rIxL K) ix_list (pv 0) (pe_un un_neg pe_int) (fun _ _ => rfl)) pe_int (nomark _)))))
        (pss_one (ps_expr (pe_bm0 PySem.F.plainAttrs_list PySem.F.slot_list_pop PySem.F.type_list_pop mt_pop (pv 0)))))
      (pss_one (ps_ret (pv 0)))))), ?_⟩
    refine ⟨_, rfl, a, rfl, ⟨_, hS⟩, fun D0 hD0 => lcL (fun i => .int (co f i)) (by simpa using (by omega : f.length ≤ 100000)) hS hD0 (fun x => rfl) (fun i x H' hx e Qe q => ?_) (fun H0 s0 h0 => ?_)⟩
    · obtain ⟨rfl, hi⟩ := map_get hx
      exact ⟨_, rfl, q H' (Same.refl _)⟩
    · rw [List.length_map, range_map_get f fun x => V.int x] at h0
      refine ⟨_, rfl, N, 0, rfl, rfl, _, rfl, ?_⟩
      by_cases hp : 0 < N
      case' pos =>
        refine ifD hp ?_
        refine ⟨_, rfl, D0, rfl, ⟨_, sqL_of h0⟩, fun D hD => lcL (fun i => .int (co f i % N)) (by simpa using (by omega : f.length ≤ 100000)) (sqL_of h0) hD (fun x => rfl) (fun i x H' hx e Qe q => ?_) (fun H1 s1 h1 => ?_)⟩
        · obtain ⟨rfl, hi⟩ := map_get hx
          have e1 := q H' (Same.refl _)
          rw [← Int.fmod_eq_emod_of_nonneg _ (by omega)] at e1
          exact ⟨_, rfl, _, rfl, co f i, N, rfl, rfl, (show N ≠ 0 by omega), e1⟩
        rw [List.length_map, range_map_get f fun x => V.int (x % N)] at h1
        have h1 : H1 D = some (.lst ((f.map (· % N)).map V.int)) := by rw [h1, List.map_map]; rfl
        have s01 := s0.trans s1
        have hD := s0.free hD
      case' neg =>
        refine ifN hp ?_
        obtain ⟨D, eD⟩ : ∃ D, D = D0 := ⟨_, rfl⟩
        obtain ⟨H1, eH⟩ : ∃ H1, H1 = H0 := ⟨_, rfl⟩
        rw [← eD] at hD0 h0 ⊢
        rw [← eH] at s0 h0 ⊢
        have hz : N = 0 := by omega
        have h1 : H1 D = some (.lst ((f.map (· % N)).map V.int)) := by
          have e0 : (fun x : Int => x % N) = id := by rw [hz]; funext x; exact Int.emod_zero x
          rw [h0, e0, List.map_id]
        have s01 := s0
        have hD := hD0
      all_goals
        refine ⟨fun m σ H' => ∃ l : List Int, ∃ x3, m = l.length ∧ σ = [some (.ref D), some (.int N), x3] ∧ Same H H' ∧ H' D = some (.lst (l.map V.int)) ∧ trimZ l = tr N f, ⟨_, f.map (· % N), none, rfl, rfl, s01, h1, rfl⟩, fun m σ H' hW => ?_⟩
        obtain ⟨l, x3, rfl, rfl, s2, hl2, e2⟩ := hW
        rcases snoc_cases l with rfl | ⟨g, c, rfl⟩
        · refine ⟨_, rfl, D, _, rfl, .inl (sqL_of hl2), _, 0, rfl, rfl, _, rfl, ?_⟩
          refine iteF (iteF ?_)
          refine ⟨_, rfl, ?_⟩
          refine hq H' D s2 hD ?_
          rw [hl2, ← e2]; rfl
        · refine ⟨_, rfl, D, _, rfl, .inl (sqL_of hl2), _, 0, rfl, rfl, _, rfl, ?_⟩
          refine ifD (by simp) ?_
          refine ⟨_, rfl, 1, rfl, D, _, -1, _, rfl, rfl, sqL_of hl2, at_last g c, rfl, _, rfl, ?_⟩
          by_cases hc : c = 0
          · subst hc
            refine ifD rfl ?_
            refine ⟨fun σ' H2 => ∃ x3, σ' = [some (.ref D), some (.int N), x3] ∧ Same H H2 ∧ H2 D = some (.lst (g.map V.int)), fun σ' H2 ⟨y3, e3, s3, h3⟩ => ⟨g.length, by simp, g, y3, rfl, e3, s3, h3, by rw [← e2, trimZ_snoc0]⟩, ?_⟩
            refine ⟨_, rfl, .inl ⟨rfl, _, sqL_of hl2⟩, D, _, .int 0, rfl, rfl, hl2, by simp, x3, rfl, same_new s2 hD, ?_⟩
            rw [upd_same]; simp
          · refine ifN (fun z => hc (vint.mp z)) ?_
            refine ⟨_, rfl, ?_⟩
            refine hq H' D s2 hD ?_
            rw [hl2, ← e2, trimZ_snoc hc]
theorem ok_L_times (T : TX K mg) : FO P w K mg base 2 "_law_times" ["_law_f", "_law_g", "_law_size"] (spLTimes K) := by
  refine FO.mk T.d_L_times sc_L_times (fun _ _ _ _ _ _ us hl => match us, hl with | [_, _, _], _ => rfl) (fun vs H Q E h => ?_) (fun f cdv A outer s H vs Q E hr h => ?_)
  · obtain ⟨a, b, N, f, h, rfl, _⟩ := h; rfl
  · obtain ⟨a, b, N, f, h, rfl, hN, hf, hh, lf, lh, hm, hq⟩ := h
    obtain ⟨f_L_trim, fd_L_trim, g_L_trim, k_L_trim, b_L_trim, G_L_trim⟩ := ok_L_trim (P := P) (w := w) (base := base) T
    refine ⟨_, (pss_cons (ps_set (i := 3) sc_L_times.nd rfl (Or.inl rfl) (pe_op op_rep (pe_lst (pa_cons pe_int pa_nil)) (pe_op op_add (pe_callB (r := rLenK K) call_len_seq (by rfl) T.b_len (by decide +kernel) (pa_cons (pv 0) pa_nil)) (pe_callB (r := rLenK K) call_len_seq (by rfl) T.b_len (by decide +kernel) (pa_cons (pv 1) pa_nil)))))
      (pss_cons (ps_for PassesOwn.never rfl (pi_range1 (by rfl) T.b_range (pa_cons (pe_callB (r := rLenK K) call_len_seq (by rfl) T.b_len (by decide +kernel) (pa_cons (pv 0) pa_nil)) pa_nil)) (pg_name (i := 4) sc_L_times.nd rfl (Or.inl rfl))
        (pss_one (ps_for PassesOwn.never rfl (pi_range1 (by rfl) T.b_range (pa_cons (pe_callB (r := rLenK K) call_len_seq (by rfl) T.b_len (by decide +kernel) (pa_cons (pv 1) pa_nil)) pa_nil)) (pg_name (i := 5) sc_L_times.nd rfl (Or.inl rfl))
          (pss_one (ps_asg (pe_op op_add (pe_ix (r := rIxL K) ix_list (pv 3) (pe_op op_add (pv 4) (pv 5)) (fun _ _ => rfl)) (pe_op op_mul (pe_ix (r := rIxL K) ix_list (pv 0) (pv 4) (fun _ _ => rfl)) (pe_ix (r := rIxL K) ix_list (pv 1) (pv 5) (fun _ _ => rfl)))) (pg_sub (pv 3) (pe_op op_add (pv 4) (pv 5)) set_list))))))
      (pss_one (ps_ret (pe_call G_L_trim (hr.mono (by decide)) (by rfl) g_L_trim k_L_trim b_L_trim .nil pass0 (pa_cons (pv 3) (pa_cons (pv 2) pa_nil))))))), ?_⟩
    refine ⟨by show 1 ≤ sizeLine; decide, fun L hL => ⟨_, rfl, a, _, rfl, .inl ((same_new (Same.refl _) hL).seq hf), _, rfl, b, _, rfl, .inl ((same_new (Same.refl _) hL).seq hh), _, _, rfl, rfl, L, _, _, rfl, rfl, upd_same, by simp; omega, by simp; omega, small_le (by simp; omega), fun D hD => ?_⟩⟩
    have sD : Same H (upd (upd H L (.lst [.int 0])) D (.lst ((List.replicate (((f.map V.int).length : Int) + ((h.map V.int).length : Int)).toNat [V.int 0]).flatten))) := same_nw (same_new (Same.refl _) hL) hD
    have hDH : H D = none := (same_new (Same.refl _) hL).free hD
    have e0 : (((f.map V.int).length : Int) + ((h.map V.int).length : Int)).toNat = f.length + h.length := by simp <;> omega
    rw [e0, flat0] at sD ⊢
    refine ⟨_, rfl, a, _, rfl, .inl (sD.seq hf), _, rfl, by simp <;> omega, by simp <;> omega, for_range (lo := 0) (n := (((f.map V.int).length : Nat) : Int).toNat) (fun i σ H' => ∃ (row : List Int) (x4 x5 : Option V), σ = [some (.ref a), some (.ref b), some (.int N), some (.ref D), x4, x5] ∧ Same H H' ∧ H' D = some (.lst (row.map V.int)) ∧ row.length = f.length + h.length ∧ FF.cl N row = FF.cl N (f.take i) * FF.cl N h)
      ⟨_, none, none, rfl, sD, upd_same, by simp, by rw [cl_rep0, List.take_zero, cl_nil]; grind⟩ (fun i σ H' hi hP => ?_) (fun σ H' hP => ?_)⟩
    · obtain ⟨row, x4, x5, rfl, s1, h1, l1, c1⟩ := hP
      have hif : i < f.length := by simpa using hi
      rw [Int.zero_add]
      refine ⟨_, rfl, b, _, rfl, .inl (s1.seq hh), _, rfl, by simp <;> omega, by simp <;> omega, for_range (lo := 0) (n := (((h.map V.int).length : Nat) : Int).toNat) (fun j σ H' => ∃ (row : List Int) (x5 : Option V), σ = [some (.ref a), some (.ref b), some (.int N), some (.ref D), some (.int (i : Nat)), x5] ∧ Same H H' ∧ H' D = some (.lst (row.map V.int)) ∧ row.length = f.length + h.length ∧ FF.cl N row = FF.cl N (f.take i) * FF.cl N h + FF.X ^ i * C (co f i) * FF.cl N (h.take j))
        ⟨row, x5, rfl, s1, h1, l1, by rw [c1, List.take_zero, cl_nil]; grind⟩ (fun j σ H3 hj hP => ?_) (fun σ H3 hP => ?_)⟩
      · obtain ⟨row, x5, rfl, s1, h1, l1, c1⟩ := hP
        have hjh : j < h.length := by simpa using hj
        have hij : i + j < row.length := by omega
        rw [Int.zero_add]
        refine ⟨_, rfl, _, rfl, _, rfl, (i : Nat), (j : Nat), rfl, rfl, D, _, ((i + j : Nat) : Int), _, rfl, rfl, sqL_of h1, at_co hij, ?_⟩
        refine ⟨_, rfl, _, rfl, a, _, (i : Nat), _, rfl, rfl, s1.seq hf, at_co hif, _, rfl, _, rfl, b, _, (j : Nat), _, rfl, rfl, s1.seq hh, at_co hjh, _, _, rfl, rfl, hm _ (co_mem hif) _ (co_mem hjh), _, _, rfl, rfl, ?_⟩
        refine ⟨_, rfl, _, rfl, _, rfl, (i : Nat), (j : Nat), rfl, rfl, D, _, ((i + j : Nat) : Int), i + j, rfl, rfl, h1, by rw [List.length_map]; exact ix_nat hij, ?_⟩
        refine ⟨row.set (i + j) (co row (i + j) + co f i * co h j), _, rfl, same_new s1 hDH, by rw [upd_same, set_map], by simp; omega, ?_⟩
        rw [cl_set _ _ _ hij, c1, cl_take h hjh, C_add, C_mul, pow_add]; grind
      · obtain ⟨row, x5, rfl, s1, h1, l1, c1⟩ := hP
        refine ⟨row, _, _, rfl, s1, h1, l1, ?_⟩
        have e5 : (((h.map V.int).length : Nat) : Int).toNat = h.length := by simp
        rw [e5, List.take_length] at c1
        rw [c1, cl_take f hif]; grind
    · obtain ⟨row, x4, x5, rfl, s1, h1, l1, c1⟩ := hP
      refine ⟨_, rfl, _, rfl, D, N, row, rfl, hN, sqL_of h1, by omega, ?_⟩
      have e5 : (((f.map V.int).length : Nat) : Int).toNat = f.length := by simp
      rw [e5, List.take_length] at c1
      have e3 : tr N row = tr N (mulL f h) := tr_eq.mpr (by rw [c1, cl_mul])
      rw [e3]
      exact hq.of s1
end
end FF
end
section
set_option Elab.async false
set_option linter.all false
set_option maxRecDepth 100000
set_option maxHeartbeats 4000000
/-! FL2: the law's own defs: sums, contents, slopes. -/
namespace FF
open PySem PySem.Spec PyProof.Rows L2
def slo (f : List Int) : List Int := (List.range (f.length - 1)).map fun (i : Nat) => ((i : Int) + 1) * co f (i + 1)
theorem co_slo (f : List Int) (k : Nat) : co (slo f) k = ((k : Int) + 1) * co f (k + 1) := by
  unfold slo
  rw [co_rmap]
  by_cases h : k < f.length - 1
  · rw [if_pos h]
  · rw [if_neg h, co_ge (f := f) (by omega), Int.mul_zero]
theorem cl_slo {N : Int} (f : List Int) : FF.cl N (slo f) = sl (FF.cl N f) := by
  rw [sl_cl, cl_iff]
  intro k
  rw [co_slo, co_der, Int.sub_self]
  exact Int.dvd_zero _
theorem slo_len (f : List Int) : (slo f).length = f.length - 1 := by simp [slo]
def sgc (f : List Int) (l : Int) : Int := if l < 0 then -(gcdL f : Int) else (gcdL f : Int)
/-- a list without its content -/
structure BareR (f r : List Int) (l c : Int) : Prop where
  eq : f = sclL c r
  c0 : c ≠ 0
  cl : c.natAbs ≤ l.natAbs
  pos : ∃ r0 l', r = r0 ++ [l'] ∧ 0 < l' ∧ l = c * l'
  one : gcdL r = 1
theorem gcdL_pos {f : List Int} {x : Int} (h : x ∈ f) (h0 : x ≠ 0) : 0 < gcdL f := by
  rcases Nat.eq_zero_or_pos (gcdL f) with e | e
  · have := gcdL_dvd h
    rw [e] at this
    exact absurd (Int.zero_dvd.mp this) h0
  · exact e
theorem bare_of {f g : List Int} {l : Int} (e : f = g ++ [l]) (h0 : l ≠ 0) : BareR f (f.map fun x => x.fdiv (sgc f l)) l (sgc f l) := by
  have hl : l ∈ f := by rw [e]; simp
  have hg := gcdL_pos hl h0
  have hd : ∀ x ∈ f, sgc f l ∣ x := fun x hx => by
    unfold sgc
    split
    · exact Int.neg_dvd.mpr (gcdL_dvd hx)
    · exact gcdL_dvd hx
  have hc0 : sgc f l ≠ 0 := by unfold sgc; split <;> omega
  have hm : ∀ x ∈ f, sgc f l * x.fdiv (sgc f l) = x := fun x hx => Int.mul_fdiv_cancel' (hd x hx)
  have eq : f = sclL (sgc f l) (f.map fun x => x.fdiv (sgc f l)) := by
    unfold sclL
    rw [List.map_map]
    conv => lhs; rw [← List.map_id f]
    apply List.map_congr_left
    intro x hx
    exact (hm x hx).symm
  have ha : (sgc f l).natAbs = gcdL f := by unfold sgc; split <;> omega
  refine ⟨eq, hc0, ?_, ?_, ?_⟩
  · rw [ha]
    exact Nat.le_of_dvd (by omega) (Int.ofNat_dvd_left.mp (gcdL_dvd hl))
  · refine ⟨g.map fun x => x.fdiv (sgc f l), l.fdiv (sgc f l), by rw [e, List.map_append]; rfl, ?_, (hm l hl).symm⟩
    have h1 := hm l hl
    generalize l.fdiv (sgc f l) = z at h1
    by_cases hn : l < 0
    · have h2 : sgc f l < 0 := by unfold sgc; rw [if_pos hn]; omega
      by_cases hz : 0 < z
      · exact hz
      · have := Int.mul_nonneg_of_nonpos_of_nonpos (a := sgc f l) (b := z) (by omega) (by omega)
        omega
    · have h2 : 0 < sgc f l := by unfold sgc; rw [if_neg hn]; omega
      by_cases hz : 0 < z
      · exact hz
      · have := Int.mul_nonpos_of_nonneg_of_nonpos (a := sgc f l) (b := z) (by omega) (by omega)
        omega
  · generalize hr : (f.map fun x => x.fdiv (sgc f l)) = r at *
    have h1 : ∀ x ∈ f, (gcdL f : Int) * (gcdL r : Int) ∣ x := fun x hx => by
      rw [eq] at hx
      unfold sclL at hx
      obtain ⟨y, hy, rfl⟩ := List.mem_map.mp hx
      have h3 : (gcdL f : Int) ∣ sgc f l := Int.ofNat_dvd_left.mpr (by rw [ha]; exact Nat.dvd_refl _)
      exact Int.mul_dvd_mul h3 (gcdL_dvd hy)
    have h2 := dvd_gcdL h1
    have h4 : gcdL f * gcdL r ∣ gcdL f * 1 := by
      rw [Nat.mul_one]
      exact Int.natCast_dvd_natCast.mp (by rw [Int.natCast_mul]; exact h2)
    exact Nat.dvd_one.mp (Nat.dvd_of_mul_dvd_mul_left hg h4)
theorem gcd_fmod' {a b : Int} (h : 0 < b) : Int.gcd b (a.fmod b) = Int.gcd a b := gcd_fmod a b
def spLContent (K : PySem.W.Frag) : Sp := fun vs H Q _ => ∃ (a : Addr) (f g : List Int) (l : Int), vs = [.ref a] ∧ SqL K H a (f.map V.int) ∧ f = g ++ [l] ∧ Q (.int (sgc f l)) H
def spLBare (K : PySem.W.Frag) : Sp := fun vs H Q _ => ∃ (a : Addr) (f g : List Int) (l : Int), vs = [.ref a] ∧ SqL K H a (f.map V.int) ∧ f.length ≤ 10000 ∧ f = g ++ [l] ∧ l ≠ 0 ∧ l.natAbs < 2 ^ 8000 ∧ ∀ r c, BareR f r l c → NewL H r Q
def spLBound (K : PySem.W.Frag) : Sp := fun vs H Q _ => ∃ (a : Addr) (f : List Int), vs = [.ref a] ∧ SqL K H a (f.map V.int) ∧ f.length ≤ 1000 ∧ ∀ H', Same H H' → Q (.int (bnd f)) H'
def spLSize : Sp := fun vs H Q _ => ∃ p m : Nat, vs = [.int p, .int m] ∧ p < 2 ^ 60 ∧ m ≤ 100000 ∧ Q (.int ((p : Int) ^ m)) H
def spLSlope (K : PySem.W.Frag) : Sp := fun vs H Q _ => ∃ (a : Addr) (f : List Int), vs = [.ref a] ∧ SqL K H a (f.map V.int) ∧ f.length ≤ 1000 ∧ NewL H (slo f) Q
def pad (m : Nat) (f : List Int) : List Int := f ++ List.replicate (m - f.length) 0
theorem pad_len {m : Nat} {f : List Int} (h : f.length ≤ m) : (pad m f).length = m := by simp [pad]; omega
theorem co_pad (m : Nat) (f : List Int) (k : Nat) : co (pad m f) k = co f k := by
  unfold pad co
  rw [List.getD_eq_getElem?_getD, List.getD_eq_getElem?_getD]
  by_cases h : k < f.length
  · rw [List.getElem?_append_left h]
  · rw [List.getElem?_append_right (by omega), List.getElem?_eq_none (l := f) (by omega), List.getElem?_replicate]
    split <;> rfl
/-- f + [0] * (m - len(f)) -/
theorem padR {K : PySem.W.Frag} {H : Hp} {a : Addr} {f : List Int} {m : Nat} {σ : L2.St} {i j : Nat} {Q : VK} (h1 : σ[i]? = some (some (.ref a))) (h2 : σ[j]? = some (some (.int (m : Nat)))) (hf : H a = some (.lst (f.map V.int))) (hm : f.length ≤ m) (hm2 : m ≤ 10000) (q : NewL H (pad m f) Q) :
    tOp rCat (tVar i) (tOp rRep (tLst (tCons (tC (.int 0)) tNil)) (tOp (rI0 fun i j => V.int (i - j)) (tVar j) (tCB (rLenK K) (tCons (tVar i) tNil)))) σ H Q := by
  refine ⟨_, h1, by show 1 ≤ sizeLine; decide, fun L hL => ?_⟩
  have sL : Same H (upd H L (.lst [.int 0])) := same_nw (Same.refl _) hL
  have hL2 : (upd H L (.lst [.int 0])) L = some (.lst [.int 0]) := upd_same
  generalize upd H L (.lst [.int 0]) = H1 at *
  refine ⟨_, h2, _, h1, a, _, rfl, .inl (sqL_of (sL _ _ hf)), _, _, rfl, rfl, L, _, _, rfl, rfl, hL2, by rw [List.length_map]; omega, by rw [List.length_map]; omega, small_le (by simp <;> omega), fun D hD => ?_⟩
  have ek : ((m : Int) - ((f.map V.int).length : Nat)).toNat = m - f.length := by rw [List.length_map]; omega
  rw [ek, flat0]
  have sD : Same H (upd H1 D (.lst ((List.replicate (m - f.length) (0 : Int)).map V.int))) := same_nw sL hD
  have hD2 : (upd H1 D (.lst ((List.replicate (m - f.length) (0 : Int)).map V.int))) D = some (.lst ((List.replicate (m - f.length) (0 : Int)).map V.int)) := upd_same
  generalize upd H1 D (.lst ((List.replicate (m - f.length) (0 : Int)).map V.int)) = H2 at *
  refine ⟨a, D, _, _, rfl, rfl, sD _ _ hf, hD2, small_le (by simp; omega), fun p np => ?_⟩
  refine q _ p (same_nw sD np) (sD.free np) ?_
  rw [upd_same, ← List.map_append]; rfl
theorem list_at {K : PySem.W.Frag} {H : Hp} {a : Addr} {xs : List V} (h : SqL K H a xs) : SqL K H a xs := h
section
variable {P : Program} {w : World} {K : PySem.W.Frag} {mg : Str → Option Value} {base : Heap}
theorem ok_L_plus (T : TX K mg) : FO P w K mg base 2 "_law_plus" ["_law_f", "_law_g", "_law_size"] (spLPlus K) := by
  refine FO.mk T.d_L_plus sc_L_plus (fun _ _ _ _ _ _ us hl => match us, hl with | [_, _, _], _ => rfl) (fun vs H Q E h => ?_) (fun f cdv A outer s H vs Q E hr h => ?_)
  · obtain ⟨a, b, N, f, h, rfl, _⟩ := h; rfl
  · obtain ⟨a, b, N, f, h, rfl, hN, hf, hh, lf, lh, hq⟩ := h
    obtain ⟨f_L_trim, fd_L_trim, g_L_trim, k_L_trim, b_L_trim, G_L_trim⟩ := ok_L_trim (P := P) (w := w) (base := base) T
    refine ⟨_, (pss_cons (ps_set (i := 3) sc_L_plus.nd rfl (Or.inl rfl) (pe_callB (call_max2 rfl) (by rfl) T.b_max (by decide +kernel) (pa_cons (pe_callB (r := rLenK K) call_len_seq (by rfl) T.b_len (by decide +kernel) (pa_cons (pv 0) pa_nil)) (pa_cons (pe_callB (r := rLenK K) call_len_seq (by rfl) T.b_len (by decide +kernel) (pa_cons (pv 1) pa_nil)) pa_nil))))
      (pss_cons (ps_set (i := 4) sc_L_plus.nd rfl (Or.inr rfl) (pe_op op_cat (pv 0) (pe_op op_rep (pe_lst (pa_cons pe_int pa_nil)) (pe_op op_sub (pv 3) (pe_callB (r := rLenK K) call_len_seq (by rfl) T.b_len (by decide +kernel) (pa_cons (pv 0) pa_nil))))))
      (pss_cons (ps_set (i := 5) sc_L_plus.nd rfl (Or.inr rfl) (pe_op op_cat (pv 1) (pe_op op_rep (pe_lst (pa_cons pe_int pa_nil)) (pe_op op_sub (pv 3) (pe_callB (r := rLenK K) call_len_seq (by rfl) T.b_len (by decide +kernel) (pa_cons (pv 1) pa_nil))))))
      (pss_one (ps_ret (pe_call G_L_trim (hr.mono (by decide)) (by rfl) g_L_trim k_L_trim b_L_trim .nil pass0 (pa_cons (pe_lc (own := [("_law_k", 6)])  rfl sc_L_plus.nd (pi_range1 (by rfl) T.b_range (pa_cons (pv 3) pa_nil)) (blkOk_by (N := n_L_plus) (sc := defScope s_L_plus) (by decide +kernel)) (fun _ _ _ _ _ => (pg_name (i := 6) sc_L_plus.nd rfl (Or.inl rfl))) (fun _ _ _ _ _ => pts_nil) (fun _ _ _ _ _ => (pe_op op_add (pe_ix (r := rIxL K) ix_list (pv 4) (pv 6) (fun _ _ => rfl)) (pe_ix (r := rIxL K) ix_list (pv 5) (pv 6) (fun _ _ => rfl))))) (pa_cons (pv 2) pa_nil)))))))), ?_⟩
    refine ⟨_, rfl, a, _, rfl, .inl (sqL_of hf), _, rfl, b, _, rfl, .inl (sqL_of hh), _, _, rfl, ?_⟩
    rw [List.length_map, List.length_map, max_if]
    obtain ⟨m, em⟩ : ∃ m, m = max f.length h.length := ⟨_, rfl⟩
    have hfm : f.length ≤ m := by omega
    have hhm : h.length ≤ m := by omega
    rw [← em]
    refine padR (i := 0) (j := 3) (f := f) (m := m) rfl rfl hf hfm (by omega) fun H1 p1 s1 n1 h1 => ?_
    refine padR (i := 1) (j := 3) (f := h) (m := m) rfl rfl (s1 _ _ hh) hhm (by omega) fun H2 p2 s2 n2 h2 => ?_
    have h12 := s2 _ _ h1
    refine ⟨_, rfl, (m : Nat), rfl, by omega, by omega, fun D hD => lcR (n := ((m : Nat) : Int).toNat) (fun i => .int (co f i + co h i)) (by omega) hD (fun x => rfl) (fun i H' hi e Qe q => ?_) (fun H3 s3 h3 => ?_)⟩
    · have hi2 : i < m := hi
      rw [Int.zero_add]
      refine ⟨_, rfl, _, rfl, p1, _, (i : Nat), _, rfl, rfl, sqL_of (e _ _ h12), at_co (by rw [pad_len hfm]; exact hi2), _, rfl, _, rfl, p2, _, (i : Nat), _, rfl, rfl, sqL_of (e _ _ h2), at_co (by rw [pad_len hhm]; exact hi2), _, _, rfl, rfl, ?_⟩
      rw [co_pad, co_pad]
      exact q H' (Same.refl _)
    · have s03 := s1.trans (s2.trans s3)
      refine ⟨_, rfl, D, N, (List.range m).map (fun i => co f i + co h i), rfl, hN, sqL_of (by rw [h3, List.map_map]; rfl), by simp; omega, ?_⟩
      have e3 : tr N ((List.range m).map fun i => co f i + co h i) = tr N (addL f h) := tr_co_eq fun k => by
        rw [co_rmap, co_add]
        by_cases hk : k < m
        · rw [if_pos hk, Int.sub_self]; exact Int.dvd_zero _
        · rw [if_neg hk, co_ge (f := f) (by omega), co_ge (f := h) (by omega)]
          exact Int.dvd_zero _
      rw [e3]
      exact hq.of s03
theorem ok_L_divisor (T : TX K mg) : FO P w K mg base 1 "_law_divisor" ["_law_one", "_law_other"] spDivisor := by
  refine FO.mk T.d_L_divisor sc_L_divisor (fun _ _ _ _ _ _ us hl => match us, hl with | [_, _], _ => rfl) (fun vs H Q E h => ?_) (fun f cdv A outer s H vs Q E hr h => ?_)
  · obtain ⟨x, y, rfl, _⟩ := h; rfl
  · obtain ⟨x, y, rfl, hq⟩ := h
    refine ⟨_, (pss_cons (ps_set (i := 0) sc_L_divisor.nd rfl (Or.inl rfl) (pe_callB call_abs (by rfl) T.b_abs (by decide +kernel) (pa_cons (pv 0) pa_nil)))
      (pss_cons (ps_set (i := 1) sc_L_divisor.nd rfl (Or.inl rfl) (pe_callB call_abs (by rfl) T.b_abs (by decide +kernel) (pa_cons (pv 1) pa_nil)))
      (pss_cons (ps_while PassesOwn.never (pt_cmpR op_gt (pv 1) pe_int (nomark _))
        (pss_cons (ps_set (i := 2) sc_L_divisor.nd rfl (Or.inl rfl) (pe_op op_modN (pv 0) (pv 1)))
        (pss_cons (ps_set (i := 0) sc_L_divisor.nd rfl (Or.inl rfl) (pv 1))
        (pss_one (ps_set (i := 1) sc_L_divisor.nd rfl (Or.inl rfl) (pv 2))))))
      (pss_one (ps_ret (pv 0)))))), ?_⟩
    refine ⟨_, rfl, x, rfl, _, rfl, y, rfl, ?_⟩
    have ex : ∀ x : Int, (if x < 0 then -x else x) = (x.natAbs : Int) := fun x => by split <;> omega
    refine ⟨fun m σ H' => ∃ (a b : Nat) (x2 : Option V), m = b ∧ σ = [some (.int a), some (.int b), x2] ∧ H' = H ∧ Nat.gcd a b = Int.gcd x y, ⟨_, x.natAbs, y.natAbs, none, rfl, by rw [← ex x, ← ex y]; rfl, rfl, rfl⟩, fun m σ H' hW => ?_⟩
    obtain ⟨a, b, x2, rfl, rfl, rfl, hg⟩ := hW
    refine ⟨_, rfl, (m : Nat), 0, rfl, rfl, _, rfl, ?_⟩
    by_cases hb : m = 0
    · refine ifN (by omega) ?_
      subst hb
      rw [Nat.gcd_zero_right] at hg
      refine ⟨_, rfl, ?_⟩
      rw [hg]; exact hq
    · refine ifD (by omega) ?_
      refine ⟨fun σ' H2 => σ' = [some (.int (m : Nat)), some (.int ((a % m : Nat) : Int)), some (.int ((a % m : Nat) : Int))] ∧ H2 = H', fun σ' H2 ⟨e1, e2⟩ => ⟨a % m, Nat.mod_lt _ (by omega), m, a % m, _, rfl, e1, e2, by rw [← hg, Nat.gcd_comm m, ← Nat.gcd_rec, Nat.gcd_comm]⟩, ?_⟩
      have em : (a : Int).fmod (m : Int) = ((a % m : Nat) : Int) := by rw [Int.fmod_eq_emod_of_nonneg _ (by omega)]; rfl
      refine ⟨_, rfl, _, rfl, (a : Nat), (m : Nat), rfl, rfl, (show ((m : Nat) : Int) ≠ 0 by omega), _, rfl, _, rfl, ?_, rfl⟩
      rw [← em]; rfl
theorem ok_L_content (T : TX K mg) : FO P w K mg base 2 "_law_content" ["_law_f"] (spLContent K) := by
  refine FO.mk T.d_L_content sc_L_content (fun _ _ _ _ _ _ us hl => match us, hl with | [_], _ => rfl) (fun vs H Q E h => ?_) (fun f cdv A outer s H vs Q E hr h => ?_)
  · obtain ⟨a, f, g, l, rfl, _⟩ := h; rfl
  · obtain ⟨a, f, g, l, rfl, hf, ef, hq⟩ := h
    obtain ⟨f_L_divisor, fd_L_divisor, g_L_divisor, k_L_divisor, b_L_divisor, G_L_divisor⟩ := ok_L_divisor (P := P) (w := w) (base := base) T
    refine ⟨_, (pss_cons (ps_set (i := 1) sc_L_content.nd rfl (Or.inl rfl) pe_int)
      (pss_cons (ps_for PassesOwn.never rfl (pi_list (pv 0)) (pg_name (i := 2) sc_L_content.nd rfl (Or.inl rfl))
        (pss_one (ps_set (i := 1) sc_L_content.nd rfl (Or.inl rfl) (pe_call G_L_divisor (hr.mono (by decide)) (by rfl) g_L_divisor k_L_divisor b_L_divisor .nil pass0 (pa_cons (pv 1) (pa_cons (pv 2) pa_nil))))))
      (pss_cons (ps_if (PW.pt (pw_and (pt_cmpR op_gt (pe_callB (r := rLenK K) call_len_seq (by rfl) T.b_len (by decide +kernel) (pa_cons (pv 0) pa_nil)) pe_int (nomark _)) (pw_and1 (pt_cmpR op_lt (pe_ix (r := rIxL K) ix_list (pv 0) (pe_un un_neg pe_int) (fun _ _ => rfl)) pe_int (nomark _))))) (pss_one (ps_ret (pe_un un_neg (pv 1)))) pss_nil)
      (pss_one (ps_ret (pv 1)))))), ?_⟩
    refine ⟨_, rfl, a, rfl, ⟨_, hf⟩, for_list (xs := f.map V.int) (fun i σ H' => ∃ (c : Nat) (x3 : Option V), c = (f.take i).foldl (fun a x => Int.gcd (a : Int) x) 0 ∧ σ = [some (.ref a), some (.int (c : Nat)), x3] ∧ H' = H)
      ⟨0, none, rfl, rfl, rfl⟩ (fun i σ H' _ ⟨_, _, _, _, e⟩ => by rw [e]; exact hf) (fun i x σ H' hx hW => ?_) (fun σ H' hW => ?_)⟩
    · obtain ⟨c, x3, ec, rfl, rfl⟩ := hW
      obtain ⟨rfl, hi⟩ := map_get hx
      refine ⟨_, rfl, _, rfl, c, co f i, rfl, _, _, ?_, rfl, rfl⟩
      rw [List.take_add_one, List.foldl_append, ← ec, List.getElem?_eq_getElem hi, co_lt hi]; rfl
    · obtain ⟨c, x3, ec, rfl, rfl⟩ := hW
      rw [List.length_map, List.take_length] at ec
      have ec2 : c = gcdL f := ec
      subst ec2
      have hlast : atI (f.map V.int) (-1) = some (.int l) := by rw [ef]; exact at_last g l
      refine ⟨_, rfl, a, _, rfl, .inl hf, _, 0, rfl, rfl, _, rfl, ?_⟩
      refine ifD (by rw [ef]; simp) ?_
      refine ⟨_, rfl, 1, rfl, a, _, -1, _, rfl, rfl, hf, hlast, _, _, rfl, rfl, _, rfl, ?_⟩
      unfold sgc at hq
      by_cases hl : l < 0
      · rw [if_pos hl] at hq
        refine ifD hl ?_
        exact ⟨_, rfl, _, rfl, hq⟩
      · rw [if_neg hl] at hq
        refine ifN hl ?_
        exact ⟨_, rfl, hq⟩
theorem ok_L_bare (T : TX K mg) : FO P w K mg base 3 "_law_bare" ["_law_f"] (spLBare K) := by
  refine FO.mk T.d_L_bare sc_L_bare (fun _ _ _ _ _ _ us hl => match us, hl with | [_], _ => rfl) (fun vs H Q E h => ?_) (fun f cdv A outer s H vs Q E hr h => ?_)
  · obtain ⟨a, f, g, l, rfl, _⟩ := h; rfl
  · obtain ⟨a, f, g, l, rfl, hf, lf, ef, h0, hl, hq⟩ := h
    obtain ⟨f_L_content, fd_L_content, g_L_content, k_L_content, b_L_content, G_L_content⟩ := ok_L_content (P := P) (w := w) (base := base) T
    refine ⟨_, (pss_cons (ps_set (i := 1) sc_L_bare.nd rfl (Or.inr rfl) (pe_call G_L_content (hr.mono (by decide)) (by rfl) g_L_content k_L_content b_L_content .nil pass0 (pa_cons (pv 0) pa_nil)))
      (pss_one (ps_ret (pe_lc (own := [("_law_number", 2)])  rfl sc_L_bare.nd (pi_list (pv 0)) (blkOk_by (N := n_L_bare) (sc := defScope s_L_bare) (by decide +kernel)) (fun _ _ _ _ _ => (pg_name (i := 2) sc_L_bare.nd rfl (Or.inl rfl))) (fun _ _ _ _ _ => pts_nil) (fun _ _ _ _ _ => (pe_op op_fdivB (pv 2) (pv 1))))))), ?_⟩
    have B := bare_of ef h0
    have hc : (sgc f l).natAbs.log2 < 9000 := by
      have h1 : (sgc f l).natAbs < 2 ^ 8000 := Nat.lt_of_le_of_lt B.cl hl
      have := PySem.Flt.log2_lt_of (by decide : 0 < 8000) h1
      omega
    refine ⟨_, rfl, a, f, g, l, rfl, hf, ef, ?_⟩
    refine ⟨_, rfl, a, rfl, ⟨_, hf⟩, fun D hD => lcL (fun i => .int ((co f i).fdiv (sgc f l))) (by rw [List.length_map]; omega) hf hD (fun x => rfl) (fun i x H' hx e Qe q => ?_) (fun H0 s0 h0 => ?_)⟩
    · obtain ⟨rfl, hi⟩ := map_get hx
      exact ⟨_, rfl, _, rfl, co f i, sgc f l, rfl, rfl, ⟨B.c0, hc⟩, q H' (Same.refl _)⟩
    · rw [List.length_map, range_map_get f fun x => V.int (x.fdiv (sgc f l))] at h0
      exact hq _ _ B H0 D s0 hD (by rw [h0, List.map_map]; rfl)
theorem ok_L_bound (T : TX K mg) : FO P w K mg base 1 "_law_bound" ["_law_g"] (spLBound K) := by
  refine FO.mk T.d_L_bound sc_L_bound (fun _ _ _ _ _ _ us hl => match us, hl with | [_], _ => rfl) (fun vs H Q E h => ?_) (fun f cdv A outer s H vs Q E hr h => ?_)
  · obtain ⟨a, f, rfl, _⟩ := h; rfl
  · obtain ⟨a, row, rfl, hf, lf, hq⟩ := h
    refine ⟨_, (pss_cons (ps_set (i := 1) sc_L_bound.nd rfl (Or.inl rfl) (pe_callB (cr_sum rfl) (by rfl) T.b_sum (by decide +kernel) (pa_cons (pe_lc (own := [("_law_number", 3)])  rfl sc_L_bound.nd (pi_list (pv 0)) (blkOk_by (N := n_L_bound) (sc := defScope s_L_bound) (by decide +kernel)) (fun _ _ _ _ _ => (pg_name (i := 3) sc_L_bound.nd rfl (Or.inl rfl))) (fun _ _ _ _ _ => pts_nil) (fun _ _ _ _ _ => (pe_callB call_abs (by rfl) T.b_abs (by decide +kernel) (pa_cons (pv 3) pa_nil)))) pa_nil)))
      (pss_cons (ps_for PassesOwn.never rfl (pi_range1 (by rfl) T.b_range (pa_cons (pe_op op_sub (pe_callB (r := rLenK K) call_len_seq (by rfl) T.b_len (by decide +kernel) (pa_cons (pv 0) pa_nil)) pe_int) pa_nil)) (pg_name (i := 2) sc_L_bound.nd rfl (Or.inl rfl))
        (pss_one (ps_set (i := 1) sc_L_bound.nd rfl (Or.inl rfl) (pe_op op_add (pv 1) (pv 1)))))
      (pss_one (ps_ret (pv 1))))), ?_⟩
    refine ⟨_, rfl, a, rfl, ⟨_, hf⟩, fun D hD => lcL (xs := row.map V.int) (fun i => .int (iabs (co row i))) (by rw [List.length_map]; omega) hf hD (fun x => rfl) (fun i x H3 hx s3 Qe qe => ?_) (fun H3 s3 h3 => ?_)⟩
    · obtain ⟨rfl, hi⟩ := map_get hx
      exact ⟨_, rfl, co row i, rfl, qe H3 (Same.refl _)⟩
    · have h3' : H3 D = some (.lst ((row.map iabs).map V.int)) := by
        rw [h3, List.length_map, range_map_get row fun x => V.int (iabs x), List.map_map]; rfl
      refine ⟨D, row.map iabs, rfl, sqL_of h3', ?_⟩
      refine ⟨_, rfl, a, _, rfl, .inl (s3.seq hf), _, 1, rfl, rfl, (row.length : Int) - 1, by rw [List.length_map], by omega, by omega, for_range (lo := 0) (n := ((row.length : Int) - 1).toNat) (fun i σ H' => ∃ x3 : Option V, σ = [some (.ref a), some (.int (2 ^ i * (row.map iabs).sum)), x3, none] ∧ H' = H3)
        ⟨none, by simp; rfl, rfl⟩ (fun i σ H' hi hW => ?_) (fun σ H' hW => ?_)⟩
      · obtain ⟨x3, rfl, rfl⟩ := hW
        refine ⟨_, rfl, _, rfl, _, _, rfl, rfl, some (.int (0 + (i : Int))), ?_, rfl⟩
        have e : (2 : Int) ^ (i + 1) * (row.map iabs).sum = 2 ^ i * (row.map iabs).sum + 2 ^ i * (row.map iabs).sum := by rw [Int.pow_succ]; grind
        rw [e]; rfl
      · obtain ⟨x3, rfl, rfl⟩ := hW
        refine ⟨_, rfl, ?_⟩
        have e : ((row.length : Int) - 1).toNat = row.length - 1 := by omega
        rw [e]
        exact hq H' s3
theorem ok_L_is_prime (T : TX K mg) : FO P w K mg base 1 "_law_is_prime" ["_law_number"] spPrime := by
  refine FO.mk T.d_L_is_prime sc_L_is_prime (fun _ _ _ _ _ _ us hl => match us, hl with | [_], _ => rfl) (fun vs H Q E h => ?_) (fun f cdv A outer s H vs Q E hr h => ?_)
  · obtain ⟨n, rfl, _⟩ := h; rfl
  · obtain ⟨n, rfl, hq⟩ := h
    refine ⟨_, (pss_cons (ps_if (PW.pt (pw_or (pt_cmpR op_lt (pv 0) pe_int (nomark _)) (pw_or1 (pt_cmpR op_gt (pv 0) pe_int (nomark _))))) (pss_one (ps_ret pe_bl)) pss_nil)
      (pss_cons (ps_set (i := 1) sc_L_is_prime.nd rfl (Or.inl rfl) pe_int)
      (pss_cons (ps_while PassesOwn.never (pt_cmpR op_le (pe_op op_mul (pv 1) (pv 1)) (pv 0) (nomark _))
        (pss_cons (ps_if (pt_cmpR op_eq (pe_op op_modN (pv 0) (pv 1)) pe_int (nomark _)) (pss_one (ps_ret pe_bl)) pss_nil)
        (pss_one (ps_set (i := 1) sc_L_is_prime.nd rfl (Or.inl rfl) (pe_op op_add (pv 1) pe_int)))))
      (pss_one (ps_ret pe_bl))))), ?_⟩
    refine ⟨_, rfl, n, 2, rfl, rfl, _, rfl, ?_⟩
    by_cases h2 : n < 2
    · refine ifD h2 (iteT ?_)
      exact hq false ⟨fun z => (by cases z), fun z => by have := z.1; omega⟩
    · refine ifN h2 ⟨_, rfl, n, 9973, rfl, rfl, _, rfl, ?_⟩
      by_cases h3 : 9973 < n
      · rw [decide_eq_true h3]
        refine iteT ?_
        exact hq false ⟨fun z => (by cases z), fun z => by have := z.2.1; omega⟩
      · rw [decide_eq_false h3]
        refine iteF ?_
        refine ⟨fun m σ H' => ∃ b : Int, m = (n - b).toNat ∧ σ = [some (.int n), some (.int b)] ∧ H' = H ∧ PrInv n b, ⟨_, 2, rfl, rfl, rfl, ⟨by omega, by omega, fun d _ _ => by omega⟩⟩, fun m σ H' hW => ?_⟩
        obtain ⟨b, rfl, rfl, rfl, hi⟩ := hW
        have hb1 := hi.b2
        have hb2 := hi.bn
        refine ⟨_, rfl, _, rfl, b, b, rfl, rfl, .inl ⟨by omega, by omega⟩, _, rfl, b * b, n, rfl, rfl, _, rfl, ?_⟩
        by_cases h4 : b * b ≤ n
        · refine ifD h4 ?_
          refine ⟨fun σ' H2 => σ' = [some (.int n), some (.int (b + 1))] ∧ H2 = H' ∧ PrInv n (b + 1) ∧ b < n, fun σ' H2 ⟨e1, e2, e3, e4⟩ => ⟨(n - (b + 1)).toNat, by omega, b + 1, rfl, e1, e2, e3⟩, ?_⟩
          refine ⟨_, rfl, _, rfl, n, b, rfl, rfl, (show b ≠ 0 by omega), rfl, _, rfl, ?_⟩
          have e0 : n.fmod b = n % b := Int.fmod_eq_emod_of_nonneg n (by omega)
          by_cases h5 : n % b = 0
          · refine ifD (vint.mpr (by show n.fmod b = 0; rw [e0]; exact h5)) ?_
            exact hq false ⟨fun z => (by cases z), fun z => (prinv_not hi (by omega) h4 h5 z.2.2).elim⟩
          · refine ifN (fun z => h5 (by rw [← e0]; exact vint.mp z)) ?_
            have h6 := prinv_step hi h4 h5
            exact ⟨_, rfl, b, 1, rfl, rfl, rfl, rfl, h6, by have := h6.bn; omega⟩
        · refine ifN h4 ?_
          exact hq true ⟨fun _ => ⟨by omega, by omega, prinv_prime hi (by omega) (by omega)⟩, fun _ => rfl⟩
theorem ok_L_size_of (T : TX K mg) : FO P w K mg base 1 "_law_size_of" ["_law_prime", "_law_many"] spLSize := by
  refine FO.mk T.d_L_size_of sc_L_size_of (fun _ _ _ _ _ _ us hl => match us, hl with | [_, _], _ => rfl) (fun vs H Q E h => ?_) (fun f cdv A outer s H vs Q E hr h => ?_)
  · obtain ⟨p, m, rfl, _⟩ := h; rfl
  · obtain ⟨p, m, rfl, hp, hm, hq⟩ := h
    refine ⟨_, (pss_cons (ps_set (i := 2) sc_L_size_of.nd rfl (Or.inl rfl) pe_int)
      (pss_cons (ps_for PassesOwn.never rfl (pi_range1 (by rfl) T.b_range (pa_cons (pv 1) pa_nil)) (pg_name (i := 3) sc_L_size_of.nd rfl (Or.inl rfl))
        (pss_one (ps_set (i := 2) sc_L_size_of.nd rfl (Or.inl rfl) (pe_op op_mul (pv 2) (pv 0)))))
      (pss_one (ps_ret (pv 2))))), ?_⟩
    refine ⟨_, rfl, m, rfl, by omega, by omega, for_range (lo := 0) (n := ((m : Nat) : Int).toNat) (fun i σ H' => ∃ x3 : Option V, σ = [some (.int p), some (.int m), some (.int ((p : Int) ^ i)), x3] ∧ H' = H) ⟨none, rfl, rfl⟩ (fun i σ H' hi hW => ?_) (fun σ H' hW => ?_)⟩
    · obtain ⟨x3, rfl, rfl⟩ := hW
      exact ⟨_, rfl, _, rfl, _, _, rfl, rfl, .inr ⟨by omega, by omega⟩, some (.int (0 + (i : Int))), by rw [Int.pow_succ]; rfl, rfl⟩
    · obtain ⟨x3, rfl, rfl⟩ := hW
      exact ⟨_, rfl, hq⟩
theorem ok_L_slope (T : TX K mg) : FO P w K mg base 1 "_law_slope" ["_law_f"] (spLSlope K) := by
  refine FO.mk T.d_L_slope sc_L_slope (fun _ _ _ _ _ _ us hl => match us, hl with | [_], _ => rfl) (fun vs H Q E h => ?_) (fun f cdv A outer s H vs Q E hr h => ?_)
  · obtain ⟨a, f, rfl, _⟩ := h; rfl
  · obtain ⟨a, f, rfl, hf, lf, hq⟩ := h
    refine ⟨_, (pss_one (ps_ret (pe_lc (own := [("_law_k", 1)])  rfl sc_L_slope.nd (pi_range2 (by rfl) T.b_range (pa_cons pe_int (pa_cons (pe_callB (r := rLenK K) call_len_seq (by rfl) T.b_len (by decide +kernel) (pa_cons (pv 0) pa_nil)) pa_nil))) (blkOk_by (N := n_L_slope) (sc := defScope s_L_slope) (by decide +kernel)) (fun _ _ _ _ _ => (pg_name (i := 1) sc_L_slope.nd rfl (Or.inl rfl))) (fun _ _ _ _ _ => pts_nil) (fun _ _ _ _ _ => (pe_op op_mul (pv 1) (pe_ix (r := rIxL K) ix_list (pv 0) (pv 1) (fun _ _ => rfl))))))), ?_⟩
    refine ⟨_, rfl, a, _, rfl, .inl hf, 1, _, rfl, ⟨by omega, by omega, by omega, by simp; omega⟩, fun D hD => lcR (fun i => .int ((((i : Nat) : Int) + 1) * co f (i + 1))) (by simp; omega) hD (fun x => rfl) (fun i H' hi e Qe q => ?_) (fun H1 s1 h1 => ?_)⟩
    · have hi2 : i + 1 < f.length := by simp at hi; omega
      have e0 : (1 : Int) + (i : Int) = (i + 1 : Nat) := by omega
      rw [e0]
      refine ⟨_, rfl, _, rfl, _, rfl, a, _, _, _, rfl, rfl, e.seq hf, at_co hi2, _, _, rfl, rfl, .inl ⟨by omega, by omega⟩, ?_⟩
      have := q H' (Same.refl _)
      push_cast
      exact this
    · have e1 : ((((f.map V.int).length : Nat) : Int) - 1).toNat = f.length - 1 := by simp
      rw [e1] at h1
      exact hq H1 D s1 hD (by rw [h1]; unfold slo; rw [List.map_map]; rfl)
end
end FF
end
section
set_option Elab.async false
set_option linter.all false
set_option maxRecDepth 100000
set_option maxHeartbeats 4000000
/-! FL3: the law's own defs: rests by a polynomial. -/
namespace FF
open PySem PySem.Spec PyProof.Rows L2
structure RestR (p : Nat) (g f r : List Int) (d : Nat) : Prop where
  len : r.length = d
  rng : ∀ x ∈ r, 0 ≤ x ∧ x < (p : Int)
  dv : Dv (FF.cl (p : Int) g) (FF.cl p f - FF.cl p r)
def spLRest (K : PySem.W.Frag) : Sp := fun vs H Q _ => ∃ (a b : Addr) (p : Nat) (f g g0 : List Int), vs = [.ref a, .ref b, .int p] ∧ 2 ≤ p ∧ p < 2 ^ 62 ∧ SqL K H a (f.map V.int) ∧ SqL K H b (g.map V.int) ∧ f.length ≤ 1000 ∧ g.length ≤ 1000 ∧ g = g0 ++ [1] ∧ ∀ r, RestR p g f r g0.length → NewL H r Q
theorem co_snoc_lt {f : List Int} {a : Int} {k : Nat} (h : k < f.length) : co (f ++ [a]) k = co f k := by
  rw [co_lt (by simp; omega), co_lt h, List.getElem_append_left h]
theorem set_rng {l : List Int} {k : Nat} {v N : Int} (h : ∀ x ∈ l, 0 ≤ x ∧ x < N) (h1 : 0 ≤ v ∧ v < N) : ∀ x ∈ l.set k v, 0 ≤ x ∧ x < N := fun x hx => by
  rcases List.mem_or_eq_of_mem_set hx with h2 | h2
  · exact h x h2
  · rw [h2]; exact h1
section
variable {P : Program} {w : World} {K : PySem.W.Frag} {mg : Str → Option Value} {base : Heap}
theorem ok_L_rest (T : TX K mg) : FO P w K mg base 1 "_law_rest" ["_law_row", "_law_g", "_law_prime"] (spLRest K) := by
  refine FO.mk T.d_L_rest sc_L_rest (fun _ _ _ _ _ _ us hl => match us, hl with | [_, _, _], _ => rfl) (fun vs H Q E h => ?_) (fun f cdv A outer s H vs Q E hr h => ?_)
  · obtain ⟨a, b, p, f, g, g0, rfl, _⟩ := h; rfl
  · obtain ⟨a, b, p, f, g, g0, rfl, p2, p62, hf, hg, lf, lg, eg, hq⟩ := h
    have lgg : g.length = g0.length + 1 := by rw [eg]; simp
    have emod : ∀ x : Int, x.fmod p = x % p := fun x => Int.fmod_eq_emod_of_nonneg x (by omega)
    have m0 : ∀ x : Int, 0 ≤ x % (p : Int) ∧ x % (p : Int) < p := fun x => ⟨Int.emod_nonneg _ (by omega), Int.emod_lt_of_pos _ (by omega)⟩
    refine ⟨_, (pss_cons (ps_setLc (i := 0) (own := [("_law_number", 6)])  rfl sc_L_rest.nd rfl rfl (sw_true rfl rfl rfl (by decide +kernel)) (pi_list (pv 0)) (blkOk_by (N := n_L_rest) (sc := defScope s_L_rest) (by decide +kernel)) (fun _ _ _ _ _ => (pg_name (i := 6) sc_L_rest.nd rfl (Or.inl rfl))) (fun _ _ _ _ _ => pts_nil) (fun _ _ _ _ _ => (pe_op op_modN (pv 6) (pv 2))))
      (pss_cons (ps_while PassesOwn.never (pt_cmpR op_ge (pe_callB (r := rLenK K) call_len_seq (by rfl) T.b_len (by decide +kernel) (pa_cons (pv 0) pa_nil)) (pe_callB (r := rLenK K) call_len_seq (by rfl) T.b_len (by decide +kernel) (pa_cons (pv 1) pa_nil)) (nomark _))
        (pss_cons (ps_set (i := 3) sc_L_rest.nd rfl (Or.inl rfl) (pe_bm0 PySem.F.plainAttrs_list PySem.F.slot_list_pop PySem.F.type_list_pop mt_pop (pv 0)))
        (pss_one (ps_for PassesOwn.never rfl (pi_range1 (by rfl) T.b_range (pa_cons (pe_op op_sub (pe_callB (r := rLenK K) call_len_seq (by rfl) T.b_len (by decide +kernel) (pa_cons (pv 1) pa_nil)) pe_int) pa_nil)) (pg_name (i := 4) sc_L_rest.nd rfl (Or.inl rfl))
          (pss_cons (ps_set (i := 5) sc_L_rest.nd rfl (Or.inl rfl) (pe_op op_add (pe_op op_add (pe_op op_sub (pe_callB (r := rLenK K) call_len_seq (by rfl) T.b_len (by decide +kernel) (pa_cons (pv 0) pa_nil)) (pe_callB (r := rLenK K) call_len_seq (by rfl) T.b_len (by decide +kernel) (pa_cons (pv 1) pa_nil))) pe_int) (pv 4)))
          (pss_one (ps_asg (pe_op op_modN (pe_op op_sub (pe_ix (r := rIxL K) ix_list (pv 0) (pv 5) (fun _ _ => rfl)) (pe_op op_mul (pv 3) (pe_ix (r := rIxL K) ix_list (pv 1) (pv 4) (fun _ _ => rfl)))) (pv 2)) (pg_sub (pv 0) (pv 5) set_list))))))))
      (pss_one (ps_ret (pe_op op_cat (pv 0) (pe_op op_rep (pe_lst (pa_cons pe_int pa_nil)) (pe_op op_sub (pe_op op_sub (pe_callB (r := rLenK K) call_len_seq (by rfl) T.b_len (by decide +kernel) (pa_cons (pv 1) pa_nil)) pe_int) (pe_callB (r := rLenK K) call_len_seq (by rfl) T.b_len (by decide +kernel) (pa_cons (pv 0) pa_nil))))))))), ?_⟩
    refine ⟨_, rfl, a, rfl, ⟨_, hf⟩, fun D hD => lcL (fun i => .int (co f i % p)) (by simpa using (by omega : f.length ≤ 100000)) hf hD (fun x => rfl) (fun i x H' hx e Qe q => ?_) (fun H1 s1 h1 => ?_)⟩
    · obtain ⟨rfl, hi⟩ := map_get hx
      have e1 := q H' (Same.refl _)
      rw [← emod] at e1
      exact ⟨_, rfl, _, rfl, co f i, p, rfl, rfl, (show (p : Int) ≠ 0 by omega), e1⟩
    · rw [List.length_map, range_map_get f fun x => V.int (x % p)] at h1
      have h1 : H1 D = some (.lst ((f.map (· % (p : Int))).map V.int)) := by rw [h1, List.map_map]; rfl
      refine ⟨fun m σ H' => ∃ (l : List Int) (x3 x4 x5 : Option V), m = l.length ∧ σ = [some (.ref D), some (.ref b), some (.int p), x3, x4, x5, none] ∧ Same H H' ∧ H' D = some (.lst (l.map V.int)) ∧ l.length ≤ 1000 ∧ (∀ x ∈ l, 0 ≤ x ∧ x < (p : Int)) ∧ Dv (FF.cl (p : Int) g) (FF.cl p f - FF.cl p l), ⟨_, f.map (· % (p : Int)), none, none, none, rfl, rfl, s1, h1, by simpa using lf, fun x hx => ?_, ?_⟩, fun m σ H' hW => ?_⟩
      · obtain ⟨y, _, rfl⟩ := List.mem_map.mp hx
        exact m0 y
      · rw [cl_mapmod]
        exact ⟨0, by grind⟩
      · obtain ⟨l, x3, x4, x5, rfl, rfl, s2, hl2, ll, rl, dl⟩ := hW
        refine ⟨_, rfl, D, _, rfl, .inl (sqL_of hl2), _, rfl, b, _, rfl, .inl (s2.seq hg), _, _, rfl, rfl, _, rfl, ?_⟩
        rw [List.length_map, List.length_map]
        by_cases hb : g.length ≤ l.length
        · refine ifD (by omega) ?_
          rcases snoc_cases l with rfl | ⟨l0, t, rfl⟩
          · exfalso
            have : ([] : List Int).length = 0 := rfl
            omega
          have ll0 : (l0 ++ [t]).length = l0.length + 1 := by simp
          refine ⟨fun σ' H2 => ∃ (l' : List Int) (x3 x4 x5 : Option V), l'.length = l0.length ∧ σ' = [some (.ref D), some (.ref b), some (.int p), x3, x4, x5, none] ∧ Same H H2 ∧ H2 D = some (.lst (l'.map V.int)) ∧ (∀ x ∈ l', 0 ≤ x ∧ x < (p : Int)) ∧ Dv (FF.cl (p : Int) g) (FF.cl p f - FF.cl p l'), fun σ' H2 ⟨l', y3, y4, y5, e1, e2, e3, e4, e5, e6⟩ => ⟨l'.length, by omega, l', y3, y4, y5, rfl, e2, e3, e4, by omega, e5, e6⟩, ?_⟩
          refine ⟨_, rfl, .inl ⟨rfl, _, sqL_of hl2⟩, D, _, .int t, rfl, rfl, hl2, by simp, ?_⟩
          have sp : Same H (upd H' D (.lst (l0.map V.int))) := same_new s2 hD
          have hp0 : (upd H' D (.lst (l0.map V.int))) D = some (.lst (l0.map V.int)) := upd_same
          have ep : ((l0 ++ [t]).map V.int).dropLast = l0.map V.int := by rw [List.map_append]; simp
          rw [ep]
          generalize upd H' D (.lst (l0.map V.int)) = H2 at *
          have rt := rl t (by simp)
          have rl0 : ∀ x ∈ l0, 0 ≤ x ∧ x < (p : Int) := fun x hx => rl x (by simp [hx])
          refine ⟨_, rfl, b, _, rfl, .inl (sp.seq hg), _, 1, rfl, rfl, (g0.length : Nat), (show [V.int (((g.map V.int).length : Int) - 1)] = [V.int ((g0.length : Nat) : Int)] from congrArg (fun z => [V.int z]) (by rw [List.length_map]; omega)), by omega, by omega, for_range (lo := 0) (n := ((g0.length : Nat) : Int).toNat) (fun k σ H3 => ∃ (l' : List Int) (x4 x5 : Option V), σ = [some (.ref D), some (.ref b), some (.int p), some (.int t), x4, x5, none] ∧ Same H H3 ∧ H3 D = some (.lst (l'.map V.int)) ∧ l'.length = l0.length ∧ (∀ x ∈ l', 0 ≤ x ∧ x < (p : Int)) ∧ FF.cl (p : Int) l' = FF.cl p l0 - FF.X ^ (l0.length - g0.length) * (C t * FF.cl p (g0.take k)))
            ⟨l0, x4, x5, rfl, sp, hp0, rfl, rl0, by rw [List.take_zero, cl_nil]; grind⟩ (fun k σ H3 hk hW => ?_) (fun σ H3 hW => ?_)⟩
          · obtain ⟨l', x4, x5, rfl, s3, h3, l3, r3, c3⟩ := hW
            have hk2 : k < g0.length := hk
            obtain ⟨at_, eat⟩ : ∃ at_, at_ = l0.length - g0.length + k := ⟨_, rfl⟩
            have hat : at_ < l'.length := by omega
            refine ⟨_, rfl, D, _, rfl, .inl (sqL_of h3), _, rfl, b, _, rfl, .inl (s3.seq hg), _, _, rfl, rfl, _, 1, rfl, rfl, _, rfl, _, _, rfl, rfl, ?_⟩
            have hatI : ∀ z : Int, z = ((at_ : Nat) : Int) → atI (l'.map V.int) z = some (.int (co l' at_)) := fun z e => by rw [e]; exact at_co hat
            have hix : ∀ z : Int, z = ((at_ : Nat) : Int) → ixN (l'.map V.int).length z = some at_ := fun z e => by rw [e, List.length_map]; exact ix_nat hat
            have hgk : ∀ z : Int, z = ((k : Nat) : Int) → atI (g.map V.int) z = some (.int (co g k)) := fun z e => by rw [e]; exact at_co (by omega)
            refine ⟨_, rfl, _, rfl, D, _, _, _, rfl, rfl, sqL_of h3, hatI _ (by simp only [List.length_map]; omega), _, rfl, _, rfl, _, rfl, b, _, _, _, rfl, rfl, s3.seq hg, hgk _ (Int.zero_add _), t, _, rfl, rfl, .inl (by omega), _, _, rfl, rfl, _, rfl, _, _, rfl, rfl, (show (p : Int) ≠ 0 by omega), ?_⟩
            refine ⟨_, rfl, _, rfl, D, _, _, at_, rfl, rfl, h3, hix _ (by simp only [List.length_map]; omega), ?_⟩
            refine ⟨l'.set at_ ((co l' at_ - t * co g k) % p), _, _, rfl, same_new s3 hD, by rw [upd_same]; dsimp only; rw [emod, set_map], by simpa using l3, set_rng r3 (m0 _), ?_⟩
            have eg2 : co g k = co g0 k := by rw [eg]; exact co_snoc_lt hk2
            rw [cl_set _ _ _ hat, c3, cl_take g0 hk2, C_mod, C_sub, C_mul, eg2, eat, pow_add]
            grind
          · obtain ⟨l', x4, x5, rfl, s3, h3, l3, r3, c3⟩ := hW
            refine ⟨l', _, _, _, l3, rfl, s3, h3, r3, ?_⟩
            have e5 : ((g0.length : Nat) : Int).toNat = g0.length := rfl
            rw [e5, List.take_length] at c3
            obtain ⟨u, hu⟩ := dl
            refine ⟨u + FF.X ^ (l0.length - g0.length) * C t, ?_⟩
            have e6 : FF.cl (p : Int) (l0 ++ [t]) = FF.cl p l0 + FF.X ^ (l0.length - g0.length) * FF.X ^ g0.length * C t := by
              rw [cl_append, cl_cons, cl_nil, ← pow_add, show l0.length - g0.length + g0.length = l0.length by omega]; grind
            have e7 : FF.cl (p : Int) g = FF.cl p g0 + FF.X ^ g0.length := by
              rw [eg, cl_append, cl_cons, cl_nil, C_one]; grind
            rw [e6] at hu
            rw [c3]
            generalize FF.X ^ (l0.length - g0.length) = A at *
            generalize FF.X ^ g0.length = B at *
            rw [e7] at hu ⊢
            grind
        · refine ifN (by omega) ?_
          refine ⟨_, rfl, by show 1 ≤ sizeLine; decide, fun L hL => ?_⟩
          have sL : Same H' (upd H' L (.lst [.int 0])) := same_nw (Same.refl _) hL
          have hL2 : (upd H' L (.lst [.int 0])) L = some (.lst [.int 0]) := upd_same
          have hl3 := sL _ _ hl2
          have s3 := s2.trans sL
          generalize upd H' L (.lst [.int 0]) = H2 at *
          have ek : ∀ z : Int, z = ((g.map V.int).length : Nat) - 1 - ((l.map V.int).length : Nat) → z.toNat = g0.length - l.length := fun z e => by rw [e, List.length_map, List.length_map]; omega
          have eb : ∀ z : Int, z = ((g.map V.int).length : Nat) - 1 - ((l.map V.int).length : Nat) → -(2 ^ 63) ≤ z ∧ z < 2 ^ 63 := fun z e => by rw [e, List.length_map, List.length_map]; omega
          refine ⟨_, rfl, b, _, rfl, .inl (s3.seq hg), _, 1, rfl, rfl, _, rfl, D, _, rfl, .inl (sqL_of hl3), _, _, rfl, rfl, L, _, _, rfl, rfl, hL2, (eb _ rfl).1, (eb _ rfl).2, small_le (by rw [ek _ rfl]; simp <;> omega), fun D2 nD2 => ?_⟩
          rw [ek _ rfl, flat0]
          have sD : Same H (upd H2 D2 (.lst ((List.replicate (g0.length - l.length) (0 : Int)).map V.int))) := same_nw s3 nD2
          have hD2 : (upd H2 D2 (.lst ((List.replicate (g0.length - l.length) (0 : Int)).map V.int))) D2 = some (.lst ((List.replicate (g0.length - l.length) (0 : Int)).map V.int)) := upd_same
          have hl4 : (upd H2 D2 (.lst ((List.replicate (g0.length - l.length) (0 : Int)).map V.int))) D = some (.lst (l.map V.int)) := by rw [upd_ne (ne_of_none hl3 nD2)]; exact hl3
          generalize upd H2 D2 (.lst ((List.replicate (g0.length - l.length) (0 : Int)).map V.int)) = H4 at *
          refine ⟨D, D2, _, _, rfl, rfl, hl4, hD2, small_le (by simp; omega), fun pp np => ?_⟩
          refine hq (l ++ List.replicate (g0.length - l.length) 0) ⟨by simp; omega, fun x hx => ?_, ?_⟩ _ pp (same_nw sD np) (sD.free np) (by rw [upd_same, ← List.map_append])
          · rcases List.mem_append.mp hx with h | h
            · exact rl x h
            · rw [(List.mem_replicate.mp h).2]; omega
          · rw [cl_append, cl_rep0]
            obtain ⟨u, hu⟩ := dl
            exact ⟨u, by rw [← hu]; grind⟩
end
end FF
end
section
set_option Elab.async false
set_option linter.all false
set_option maxRecDepth 100000
set_option maxHeartbeats 4000000
/-! FL4: the law's own defs: x taken p times by a polynomial, the rows of the powering. -/
namespace FF
open PySem PySem.Spec PyProof.Rows L2
def spLRaised (K : PySem.W.Frag) : Sp := fun vs H Q _ => ∃ (b : Addr) (p : Nat) (g g0 : List Int), vs = [.ref b, .int p] ∧ 2 ≤ p ∧ p < 2 ^ 14 ∧ SqL K H b (g.map V.int) ∧ g.length ≤ 50 ∧ g = g0 ++ [1] ∧ ∀ r, PowR p g g0.length 1 r → NewL H r Q
theorem dv_sq {N : Int} {g a m : Pm N} (h : Dv g (a - m)) : Dv g (a * a - m * m) := by
  obtain ⟨u, hu⟩ := h
  exact ⟨u * (a + m), by grind⟩
theorem dv_trn {N : Int} {g a b c : Pm N} (h : Dv g (a - b)) (h' : Dv g (b - c)) : Dv g (a - c) := by
  have := h.add h'
  have e : a - b + (b - c) = a - c := by grind
  rwa [e] at this
theorem dv_mulX {N : Int} {g a b x : Pm N} (h : Dv g (a - b)) : Dv g (x * a - x * b) := by
  obtain ⟨u, hu⟩ := h
  exact ⟨x * u, by grind⟩
theorem ppow_one' {N : Int} (a : Pm N) : a ^ 1 = a := by
  have : a ^ 1 = a ^ 0 * a := rfl
  rw [this]
  have : a ^ 0 = 1 := rfl
  rw [this]; grind
theorem bit_step (p t : Nat) (h : t < 14) : p / 2 ^ (13 - t) = 2 * (p / 2 ^ (14 - t)) + p / 2 ^ (13 - t) % 2 := by
  have e : 14 - t = (13 - t) + 1 := by omega
  rw [e, Nat.pow_succ, ← Nat.div_div_eq_div_mul]
  omega
theorem dv_mul2 {N : Int} {g a b c d : Pm N} (h : Dv g (a - b)) (h' : Dv g (c - d)) : Dv g (a * c - b * d) := by
  obtain ⟨u, hu⟩ := h
  obtain ⟨v, hv⟩ := h'
  exact ⟨u * c + b * v, by grind⟩
structure LeftR (p : Nat) (g : List Int) (d : Nat) (L : List (List Int)) : Prop where
  len : L.length = d - 1
  row : ∀ j, j < d - 1 → ∃ r, PowR p g d (j + 1) r ∧ L.getD j [] = lo1 p (j + 1) r
def spLLeft (K : PySem.W.Frag) : Sp := fun vs H Q _ => ∃ (b : Addr) (p : Nat) (g g0 : List Int), vs = [.ref b, .int p] ∧ 2 ≤ p ∧ p < 2 ^ 14 ∧ SqL K H b (g.map V.int) ∧ g.length ≤ 50 ∧ g = g0 ++ [1] ∧ g0 ≠ [] ∧ ∀ H' D L, Same H H' → Tab H' D L → LeftR p g g0.length L → Q (.ref D) H'
section
variable {P : Program} {w : World} {K : PySem.W.Frag} {mg : Str → Option Value} {base : Heap}
theorem ok_L_raised (T : TX K mg) : FO P w K mg base 3 "_law_raised" ["_law_g", "_law_prime"] (spLRaised K) := by
  refine FO.mk T.d_L_raised sc_L_raised (fun _ _ _ _ _ _ us hl => match us, hl with | [_, _], _ => rfl) (fun vs H Q E h => ?_) (fun f cdv A outer s H vs Q E hr h => ?_)
  · obtain ⟨b, p, g, g0, rfl, _⟩ := h; rfl
  · obtain ⟨b, p, g, g0, rfl, p2, p14, hg, lg, eg, hq⟩ := h
    have lgg : g.length = g0.length + 1 := by rw [eg]; simp
    obtain ⟨f_L_rest, fd_L_rest, g_L_rest, k_L_rest, b_L_rest, G_L_rest⟩ := ok_L_rest (P := P) (w := w) (base := base) T
    obtain ⟨f_L_times, fd_L_times, g_L_times, k_L_times, b_L_times, G_L_times⟩ := ok_L_times (P := P) (w := w) (base := base) T
    refine ⟨_, (pss_cons (ps_set (i := 2) sc_L_raised.nd rfl (Or.inl rfl) (pe_call G_L_rest (hr.mono (by decide)) (by rfl) g_L_rest k_L_rest b_L_rest .nil pass0 (pa_cons (pe_lst (pa_cons pe_int pa_nil)) (pa_cons (pv 0) (pa_cons (pv 1) pa_nil)))))
      (pss_cons (ps_for PassesOwn.never rfl (pi_range1 (by rfl) T.b_range (pa_cons pe_int pa_nil)) (pg_name (i := 3) sc_L_raised.nd rfl (Or.inl rfl))
        (pss_cons (ps_set (i := 2) sc_L_raised.nd rfl (Or.inl rfl) (pe_call G_L_rest (hr.mono (by decide)) (by rfl) g_L_rest k_L_rest b_L_rest .nil pass0 (pa_cons (pe_call G_L_times (hr.mono (by decide)) (by rfl) g_L_times k_L_times b_L_times .nil pass0 (pa_cons (pv 2) (pa_cons (pv 2) (pa_cons (pv 1) pa_nil)))) (pa_cons (pv 0) (pa_cons (pv 1) pa_nil)))))
        (pss_one (ps_if (pt_cmpR op_eq (pe_op op_modN (pe_op op_shr (pv 1) (pe_op op_sub pe_int (pv 3))) pe_int) pe_int (nomark _)) (pss_one (ps_set (i := 2) sc_L_raised.nd rfl (Or.inl rfl) (pe_call G_L_rest (hr.mono (by decide)) (by rfl) g_L_rest k_L_rest b_L_rest .nil pass0 (pa_cons (pe_op op_cat (pe_lst (pa_cons pe_int pa_nil)) (pv 2)) (pa_cons (pv 0) (pa_cons (pv 1) pa_nil)))))) pss_nil))))
      (pss_one (ps_ret (pv 2))))), ?_⟩
    refine ⟨by show 1 ≤ sizeLine; decide, fun L nL => ?_⟩
    have sL : Same H (upd H L (.lst [.int 1])) := same_nw (Same.refl _) nL
    have hL : (upd H L (.lst [.int 1])) L = some (.lst (([1] : List Int).map V.int)) := upd_same
    generalize upd H L (.lst [.int 1]) = H1 at *
    refine ⟨_, rfl, _, rfl, L, b, p, [1], g, g0, rfl, p2, by omega, sqL_of hL, sL.seq hg, by simp, by omega, eg, fun r R H2 p1 s2 n2 h2 => ?_⟩
    have s02 := sL.trans s2
    refine ⟨14, rfl, by decide, by decide, for_range (lo := 0) (n := (14 : Int).toNat) (fun t σ H' => ∃ (m : List Int) (pm : Addr) (x3 : Option V), σ = [some (.ref b), some (.int p), some (.ref pm), x3] ∧ Same H H' ∧ H pm = none ∧ H' pm = some (.lst (m.map V.int)) ∧ m.length = g0.length ∧ (∀ x ∈ m, 0 ≤ x ∧ x < (p : Int)) ∧ Dv (FF.cl (p : Int) g) (FF.X ^ (p / 2 ^ (14 - t)) - FF.cl p m))
      ⟨r, p1, none, rfl, s02, sL.free n2, h2, R.len, R.rng, ?_⟩ (fun t σ H' ht hW => ?_) (fun σ H' hW => ?_)⟩
    · have e0 : p / 2 ^ (14 - 0) = 0 := Nat.div_eq_of_lt p14
      have := R.dv
      rw [e0]
      have e1 : (FF.X : Pm p) ^ 0 = FF.cl p [1] := C_one.symm
      rw [e1]; exact this
    · obtain ⟨m, pm, x3, rfl, s3, n3, h3, l3, r3, d3⟩ := hW
      have ht2 : t < 14 := ht
      have hb := bit_step p t ht2
      refine ⟨_, rfl, _, rfl, _, rfl, pm, pm, p, m, m, rfl, by omega, sqL_of h3, sqL_of h3, by omega, by omega, fun x hx y hy => .inl (by have := r3 x hx; omega), fun H4 p4 s4 n4 h4 => ?_⟩
      have l4 : (tr (p : Int) (mulL m m)).length ≤ 1000 := by have h1 := tr_len (N := p) (mulL m m); have h2 := mul_len m m; omega
      have s04 := s3.trans s4
      refine ⟨_, rfl, _, rfl, p4, b, p, _, g, g0, rfl, p2, by omega, sqL_of h4, s04.seq hg, l4, by omega, eg, fun r1 R1 H5 p5 s5 n5 h5 => ?_⟩
      have s05 := s04.trans s5
      have d5 : Dv (FF.cl (p : Int) g) (FF.X ^ (2 * (p / 2 ^ (14 - t))) - FF.cl p r1) := by
        have h1 := dv_sq d3
        have h2 := R1.dv
        rw [cl_tr, cl_mul] at h2
        have h3 := dv_trn h1 h2
        rwa [← pow_add, ← Nat.two_mul] at h3
      have hsh : ∀ z : Int, z = 13 - (0 + (t : Int)) → ((p : Int) / 2 ^ z.toNat).fmod 2 = ((p / 2 ^ (13 - t) % 2 : Nat) : Int) := fun z e => by
        have e1 : z.toNat = 13 - t := by omega
        rw [e1, Int.fmod_eq_emod_of_nonneg _ (by decide)]
        simp
      refine ⟨_, rfl, _, rfl, _, _, rfl, rfl, _, _, rfl, rfl, (show (0 : Int) ≤ 13 - (0 + (t : Int)) by omega), _, _, rfl, rfl, (show (2 : Int) ≠ 0 by decide), rfl, _, rfl, ?_⟩
      have hpt : p / 2 ^ (14 - (t + 1)) = p / 2 ^ (13 - t) := by rw [show 14 - (t + 1) = 13 - t by omega]
      by_cases hbit : p / 2 ^ (13 - t) % 2 = 1
      · refine ifD (vint.mpr ((hsh _ rfl).trans (by rw [hbit]; rfl))) ?_
        refine ⟨by show 1 ≤ sizeLine; decide, fun L2 nL2 => ?_⟩
        have sL2 : Same H5 (upd H5 L2 (.lst [.int 0])) := same_nw (Same.refl _) nL2
        have hL2 : (upd H5 L2 (.lst [.int 0])) L2 = some (.lst [.int 0]) := upd_same
        have h52 := sL2 _ _ h5
        have s06 := s05.trans sL2
        generalize upd H5 L2 (.lst [.int 0]) = H6 at *
        refine ⟨_, rfl, L2, p5, _, _, rfl, rfl, hL2, h52, small_le (by simp; have := R1.len; omega), fun p7 n7 => ?_⟩
        have s07 : Same H (upd H6 p7 (.lst ([V.int 0] ++ r1.map V.int))) := same_nw s06 n7
        have h7 : (upd H6 p7 (.lst ([V.int 0] ++ r1.map V.int))) p7 = some (.lst ((0 :: r1).map V.int)) := upd_same
        generalize upd H6 p7 (.lst ([V.int 0] ++ r1.map V.int)) = H7 at *
        refine ⟨_, rfl, _, rfl, p7, b, p, 0 :: r1, g, g0, rfl, p2, by omega, sqL_of h7, s07.seq hg, by have := R1.len; simp; omega, by omega, eg, fun r2 R2 H8 p8 s8 n8 h8 => ?_⟩
        refine ⟨r2, p8, _, rfl, s07.trans s8, s07.free n8, h8, R2.len, R2.rng, ?_⟩
        rw [hpt, hb, hbit]
        have h1 := dv_mulX (x := FF.X) d5
        have h2 := R2.dv
        rw [cl_cons, C_zero] at h2
        have h3 := dv_trn h1 (c := FF.cl (p : Int) r2) (by
          obtain ⟨u, hu⟩ := h2
          exact ⟨u, by rw [← hu]; grind⟩)
        have e1 : (FF.X : Pm p) * FF.X ^ (2 * (p / 2 ^ (14 - t))) = FF.X ^ (2 * (p / 2 ^ (14 - t)) + 1) := by
          rw [pow_add, ppow_one']; grind
        rw [e1] at h3
        exact h3
      · refine ifN (fun z => hbit ?_) ?_
        · have h1 := (hsh _ rfl).symm.trans (vint.mp z)
          omega
        · refine ⟨r1, p5, _, rfl, s05, s04.free n5, h5, R1.len, R1.rng, ?_⟩
          have h0 : p / 2 ^ (13 - t) % 2 = 0 := by omega
          rw [hpt, hb, h0]
          exact d5
    · obtain ⟨m, pm, x3, rfl, s3, n3, h3, l3, r3, d3⟩ := hW
      refine ⟨_, rfl, hq m ⟨l3, r3, ?_⟩ H' pm s3 n3 h3⟩
      have e : p / 2 ^ (14 - (14 : Int).toNat) = p * 1 := by simp
      rw [e] at d3
      exact d3
theorem ok_L_left (T : TX K mg) : FO P w K mg base 4 "_law_left" ["_law_g", "_law_prime"] (spLLeft K) := by
  refine FO.mk T.d_L_left sc_L_left (fun _ _ _ _ _ _ us hl => match us, hl with | [_, _], _ => rfl) (fun vs H Q E h => ?_) (fun f cdv A outer s H vs Q E hr h => ?_)
  · obtain ⟨b, p, g, g0, rfl, _⟩ := h; rfl
  · obtain ⟨b, p, g, g0, rfl, p2, p14, hg, lg, eg, hg0, hq⟩ := h
    have lgg : g.length = g0.length + 1 := by rw [eg]; simp
    have hl0 : 0 < g0.length := List.length_pos_iff.mpr hg0
    obtain ⟨f_L_raised, fd_L_raised, g_L_raised, k_L_raised, b_L_raised, G_L_raised⟩ := ok_L_raised (P := P) (w := w) (base := base) T
    obtain ⟨f_L_rest, fd_L_rest, g_L_rest, k_L_rest, b_L_rest, G_L_rest⟩ := ok_L_rest (P := P) (w := w) (base := base) T
    obtain ⟨f_L_times, fd_L_times, g_L_times, k_L_times, b_L_times, G_L_times⟩ := ok_L_times (P := P) (w := w) (base := base) T
    refine ⟨_, (pss_cons (ps_set (i := 2) sc_L_left.nd rfl (Or.inl rfl) (pe_call G_L_raised (hr.mono (by decide)) (by rfl) g_L_raised k_L_raised b_L_raised .nil pass0 (pa_cons (pv 0) (pa_cons (pv 1) pa_nil))))
      (pss_cons (ps_set (i := 3) sc_L_left.nd rfl (Or.inl rfl) (pe_call G_L_rest (hr.mono (by decide)) (by rfl) g_L_rest k_L_rest b_L_rest .nil pass0 (pa_cons (pe_lst (pa_cons pe_int pa_nil)) (pa_cons (pv 0) (pa_cons (pv 1) pa_nil)))))
      (pss_cons (ps_set (i := 4) sc_L_left.nd rfl (Or.inl rfl) (pe_lst pa_nil))
      (pss_cons (ps_for PassesOwn.never rfl (pi_range2 (by rfl) T.b_range (pa_cons pe_int (pa_cons (pe_op op_sub (pe_callB (r := rLenK K) call_len_seq (by rfl) T.b_len (by decide +kernel) (pa_cons (pv 0) pa_nil)) pe_int) pa_nil))) (pg_name (i := 5) sc_L_left.nd rfl (Or.inr rfl))
        (pss_cons (ps_set (i := 3) sc_L_left.nd rfl (Or.inl rfl) (pe_call G_L_rest (hr.mono (by decide)) (by rfl) g_L_rest k_L_rest b_L_rest .nil pass0 (pa_cons (pe_call G_L_times (hr.mono (by decide)) (by rfl) g_L_times k_L_times b_L_times .nil pass0 (pa_cons (pv 3) (pa_cons (pv 2) (pa_cons (pv 1) pa_nil)))) (pa_cons (pv 0) (pa_cons (pv 1) pa_nil)))))
        (pss_one (ps_expr (pe_bm PySem.F.plainAttrs_list PySem.F.slot_list_append PySem.F.type_list_append mt_append (pv 4) (pa_cons (pe_lc (own := [("_law_k", 6), ("_law_number", 7)]) (g := gTup K 2 (gCons (gName 6) (gCons (gName 7) gNil))) rfl sc_L_left.nd (pi_enum (by rfl) T.b_enumerate (pa_cons (pv 3) pa_nil)) (blkOk_by (N := n_L_left) (sc := defScope s_L_left) (by decide +kernel)) (fun _ _ _ _ _ => (by exact (pg_tup rfl (pgs_cons (pg_name (i := 6) sc_L_left.nd rfl (Or.inl rfl)) (pgs_cons (pg_name (i := 7) sc_L_left.nd rfl (Or.inl rfl)) pgs_nil))))) (fun _ _ _ _ _ => pts_nil) (fun _ _ _ _ _ => (pe_op op_modN (pe_op op_sub (pv 7) (pe_callTy call_int1 (by rfl) T.b_int (by decide +kernel) (pa_cons (pe_cmpR op_eq (pv 6) (pv 5) (nomark _)) pa_nil))) (pv 1)))) pa_nil))))))
      (pss_one (ps_ret (pv 4))))))), ?_⟩
    refine ⟨_, rfl, _, rfl, b, p, g, g0, rfl, p2, p14, hg, lg, eg, fun st R0 H1 p1 s1 n1 h1 => ?_⟩
    refine ⟨by show 1 ≤ sizeLine; decide, fun L1 nL => ?_⟩
    have sL : Same H1 (upd H1 L1 (.lst [.int 1])) := same_nw (Same.refl _) nL
    have hL : (upd H1 L1 (.lst [.int 1])) L1 = some (.lst (([1] : List Int).map V.int)) := upd_same
    have h1L := sL _ _ h1
    have s02 := s1.trans sL
    generalize upd H1 L1 (.lst [.int 1]) = H2 at *
    refine ⟨_, rfl, _, rfl, L1, b, p, [1], g, g0, rfl, p2, by omega, sqL_of hL, s02.seq hg, by simp, by omega, eg, fun r R H3 p3 s3 n3 h3 => ?_⟩
    have s03 := s02.trans s3
    refine ⟨by show 0 ≤ sizeLine; decide, fun DM nM => ?_⟩
    have sM : Same H3 (upd H3 DM (.lst [])) := same_new (Same.refl _) nM
    have h1M := s3 _ _ h1L
    refine ⟨_, rfl, b, _, rfl, .inl ((s03.trans sM).seq hg), _, 1, rfl, rfl, 1, _, rfl, ⟨by omega, by omega, by omega, by simp; omega⟩, for_range (lo := 1) (fun k σ H' => ∃ (row : List Int) (pr : Addr) (x5 : Option V) (L : List (List Int)), σ = [some (.ref b), some (.int p), some (.ref p1), some (.ref pr), some (.ref DM), x5, none, none] ∧ Same H3 H' ∧ H' pr = some (.lst (row.map V.int)) ∧ PowR p g g0.length k row ∧ TabN H' DM L ∧ L.length = k ∧ ∀ j, j < k → ∃ r, PowR p g g0.length (j + 1) r ∧ L.getD j [] = lo1 p (j + 1) r)
      ⟨r, p3, none, [], rfl, sM, sM _ _ h3, ⟨R.len, R.rng, ?_⟩, TabA.new, rfl, fun j hj => by omega⟩ (fun k σ H' hk hW => ?_) (fun σ H' hW => ?_)⟩
    · have := R.dv
      have e1 : (FF.X : Pm p) ^ (p * 0) = FF.cl p [1] := C_one.symm
      rw [e1]; exact this
    · obtain ⟨row, pr, x5, L, rfl, sm, hrow, PR, tL, lL, kL⟩ := hW
      obtain ⟨pl, pg, pd⟩ := PR
      obtain ⟨pl0, pg0, pd0⟩ := R0
      have s0m := s03.trans sm
      refine ⟨_, rfl, _, rfl, _, rfl, pr, p1, p, row, st, rfl, by omega, sqL_of hrow, sqL_of (sm _ _ h1M), by omega, by omega, fun x hx y hy => .inl (by have := pg x hx; omega), fun H4 p4 s4 n4 h4 => ?_⟩
      have l4 : (tr (p : Int) (mulL row st)).length ≤ 1000 := by have h1 := tr_len (N := p) (mulL row st); have h2 := mul_len row st; omega
      have s04 := s0m.trans s4
      refine ⟨_, rfl, _, rfl, p4, b, p, _, g, g0, rfl, p2, by omega, sqL_of h4, s04.seq hg, l4, by omega, eg, fun r1 R1 H5 p5 s5 n5 h5 => ?_⟩
      have s05 := s04.trans s5
      have PR1 : PowR p g g0.length (k + 1) r1 := by
        refine ⟨R1.len, R1.rng, ?_⟩
        have h2 := R1.dv
        rw [cl_tr, cl_mul] at h2
        have h3 := dv_trn (dv_mul2 pd pd0) h2
        rw [← pow_add] at h3
        have e1 : p * k + p * 1 = p * (k + 1) := by rw [← Nat.mul_add]
        rwa [e1] at h3
      have s45 := s4.trans s5
      have tL5 := tL.same s45
      obtain ⟨xs0, hxs0, _⟩ := tL5.len
      refine ⟨_, rfl, .inl ⟨rfl, _, sqL_of hxs0⟩, ?_⟩
      refine ⟨_, rfl, p5, _, rfl, sqL_of h5, fun D2 hD2 => lcG (walk_enum (xs := r1.map V.int)) (fun i => .int ((co r1 i - if k + 1 = i then 1 else 0) % p)) (by rw [List.length_map, R1.len]; omega) hD2 (fun H' e => e.seq (sqL_of h5)) (fun i y H' H'' hk2 e hY Qe qe => ?_) (fun i y H' H'' hY => ?_) (fun H6 s6 h6 => ?_)⟩
      · obtain ⟨t, y1, y2, rfl, nt, rfl, hy1, hy2⟩ := hY
        obtain rfl : V.int (i : Nat) = y1 := Option.some.inj hy1
        obtain ⟨rfl, _⟩ := map_get hy2
        refine ⟨t, _, rfl, sqT_of upd_same, rfl, _, _, rfl, _, _, rfl, rfl, rfl, ?_⟩
        refine ⟨_, rfl, _, rfl, _, rfl, rfl, .inr ⟨_, rfl, ?_⟩⟩
        have q0 := qe _ (Same.refl _)
        rw [← Int.fmod_eq_emod_of_nonneg _ (by omega)] at q0
        by_cases e2 : k + 1 = i
        · rw [if_pos e2] at q0
          rw [decide_eq_true (vint.mpr (by omega))]
          exact ⟨_, _, rfl, rfl, _, rfl, _, _, rfl, rfl, (show (p : Int) ≠ 0 by omega), q0⟩
        · rw [if_neg e2] at q0
          rw [decide_eq_false (fun z => e2 (by have := vint.mp z; omega))]
          exact ⟨_, _, rfl, rfl, _, rfl, _, _, rfl, rfl, (show (p : Int) ≠ 0 by omega), q0⟩
      · obtain ⟨t, y1, y2, rfl, nt, rfl, hy1, hy2⟩ := hY
        exact same_nw (Same.refl _) nt
      · have nDM : D2 ≠ DM := (ne_of_none hxs0 hD2).symm
        have s56 := s45.trans s6
        have h6' : H6 D2 = some (.lst ((lo1 p (k + 1) r1).map V.int)) := by rw [h6, List.length_map]; unfold lo1; rw [List.map_map]; rfl
        obtain ⟨xs, hx, lx, tL8⟩ := (tL.same s56).snoc rfl h6' nDM
        refine ⟨DM, xs, .ref D2, rfl, rfl, hx, small_lt (by have : k < (((g.map V.int).length : Int) - 1 - 1).toNat := hk; rw [List.length_map] at this; omega), ?_⟩
        obtain ⟨ps6, hps6, _⟩ := id (tL.same s56)
        have npb : p5 ≠ DM := row_ne (s6 _ _ h5) (fun z => by have := R1.len; rw [z] at this; simp at this; omega) hps6
        refine ⟨r1, p5, _, _, rfl, same_new (sm.trans s56) nM, by rw [upd_ne npb]; exact s6 _ _ h5, PR1, tL8, by simp [lL], fun j hj => ?_⟩
        rw [getD_snoc]
        by_cases e : j < L.length
        · rw [if_pos e]; exact kL j (by omega)
        · rw [if_neg e, if_pos (by omega)]
          have : j = k := by omega
          rw [this]
          exact ⟨r1, PR1, rfl⟩
    · obtain ⟨row, pr, x5, L, rfl, sm, hrow, PR, tL, lL, kL⟩ := hW
      have en : ((((g.map V.int).length : Nat) : Int) - 1 - 1).toNat = g0.length - 1 := by rw [List.length_map]; omega
      rw [en] at lL kL
      exact ⟨_, rfl, hq H' DM L (s03.trans sm) tL.tab ⟨lL, kL⟩⟩
end
end FF
end
section
set_option Elab.async false
set_option linter.all false
set_option maxRecDepth 100000
set_option maxHeartbeats 4000000
/-! FL5: the law's own defs: rest papers. -/
namespace FF
open PySem PySem.Spec PyProof.Rows L2
theorem C_sum {N : Int} (f : Nat → Int) : ∀ n, (C ((List.range n).map f).sum : Pm N) = sm n fun k => C (f k)
  | 0 => C_zero
  | n + 1 => by
    rw [List.range_succ, List.map_append, List.sum_append, C_add, C_sum f n]
    simp [sm]
theorem co_lo1 {N : Int} {i : Nat} {r : List Int} {k : Nat} (h : k < r.length) : (C (co (lo1 N i r) k) : Pm N) = C (co r k) - dl i k := by
  unfold lo1
  rw [co_rmap, if_pos h, C_mod, C_sub]
  unfold dl
  split
  · rw [C_one]
  · rw [C_zero]
def spLRighted (K : PySem.W.Frag) : Sp := fun vs H Q _ => ∃ (b aR : Addr) (p : Nat) (g g0 x y : List Int) (right : List (List Int)), vs = [.ref b, .ref aR, .int p] ∧ 2 ≤ p ∧ p < 2 ^ 14 ∧ SqL K H b (g.map V.int) ∧ g.length ≤ 50 ∧ g = g0 ++ [1] ∧ g0 ≠ [] ∧ Tab H aR right ∧ PaperR p g x y right ∧ ∀ H', Same H H' → Q (.bl true) H'
theorem righted_law {p : Nat} {g g0 x y : List Int} {L right : List (List Int)} {i j : Nat} (eg : g = g0 ++ [1]) (PR : PaperR p g x y right) (LR : LeftR p g g0.length L) (hi : i < g0.length - 1) (hj : j < g0.length - 1) :
    (p : Int) ∣ ((List.range g0.length).map fun k => co (L.getD i []) k * en right k j).sum - (if i = j then 1 else 0) := by
  have lgg : g.length = g0.length + 1 := by rw [eg]; simp
  obtain ⟨r, ⟨r1, r2, r3⟩, eL⟩ := LR.row i hi
  have h1 := PR.rt i (by omega) r (by omega) r3 j (by omega)
  rw [show g.length - 1 = g0.length by omega] at h1
  rw [← C_eq0, C_sub, C_sum]
  have e1 : sm g0.length (fun k => (C (co (L.getD i []) k * en right k j) : Pm p)) = dl i j := by
    rw [← h1]
    refine sm_congr fun k hk => ?_
    rw [C_mul, eL, co_lo1 (by omega)]
  rw [e1]
  unfold dl
  split
  · rw [C_one]; grind
  · rw [C_zero]; grind
def spLOpened (K : PySem.W.Frag) : Sp := fun vs H Q _ => ∃ (ag aa ab : Addr) (p : Nat) (g x y : List Int), vs = [.ref ag, .ref aa, .ref ab, .int p] ∧ 2 ≤ p ∧ p < 2 ^ 14 ∧ SqL K H ag (g.map V.int) ∧ SqL K H aa (x.map V.int) ∧ SqL K H ab (y.map V.int) ∧ g.length ≤ 300 ∧ x.length ≤ 300 ∧ y.length ≤ 300 ∧ (∀ u ∈ x, 0 ≤ u ∧ u < (p : Int)) ∧ (∀ u ∈ y, 0 ≤ u ∧ u < (p : Int)) ∧
  FF.cl (p : Int) x * FF.cl p g + FF.cl p y * sl (FF.cl p g) = 1 ∧ ∀ H', Same H H' → Q (.bl true) H'
def spLGood (K : PySem.W.Frag) : Sp := fun vs H Q _ => ∃ (ag aa ab aR : Addr) (p : Nat) (g x y : List Int) (right : List (List Int)), vs = [.ref ag, .ref aa, .ref ab, .ref aR, .int p] ∧ 2 ≤ p ∧ p < 2 ^ 14 ∧ SqL K H ag (g.map V.int) ∧ SqL K H aa (x.map V.int) ∧ SqL K H ab (y.map V.int) ∧ Tab H aR right ∧ g.length ≤ 50 ∧ Mo p g ∧ PaperR p g x y right ∧ ∀ H', Same H H' → Q (.bl true) H'
section
variable {P : Program} {w : World} {K : PySem.W.Frag} {mg : Str → Option Value} {base : Heap}
theorem ok_L_righted (T : TX K mg) : FO P w K mg base 5 "_law_righted" ["_law_g", "_law_right", "_law_prime"] (spLRighted K) := by
  refine FO.mk T.d_L_righted sc_L_righted (fun _ _ _ _ _ _ us hl => match us, hl with | [_, _, _], _ => rfl) (fun vs H Q E h => ?_) (fun f cdv A outer s H vs Q E hr h => ?_)
  · obtain ⟨b, aR, p, g, g0, x, y, right, rfl, _⟩ := h; rfl
  · obtain ⟨b, aR, p, g, g0, x, y, right, rfl, p2, p14, hg, lg, eg, hg0, tR, PR, hq⟩ := h
    have lgg : g.length = g0.length + 1 := by rw [eg]; simp
    have hl0 : 0 < g0.length := List.length_pos_iff.mpr hg0
    obtain ⟨f_L_left, fd_L_left, g_L_left, k_L_left, b_L_left, G_L_left⟩ := ok_L_left (P := P) (w := w) (base := base) T
    refine ⟨_, (pss_cons (ps_for PassesOwn.never rfl (pi_enum (by rfl) T.b_enumerate (pa_cons (pe_call G_L_left (hr.mono (by decide)) (by rfl) g_L_left k_L_left b_L_left .nil pass0 (pa_cons (pv 0) (pa_cons (pv 2) pa_nil))) pa_nil)) (pg_tup rfl (pgs_cons (pg_name (i := 3) sc_L_righted.nd rfl (Or.inl rfl)) (pgs_cons (pg_name (i := 4) sc_L_righted.nd rfl (Or.inr rfl)) pgs_nil)))
        (pss_one (ps_for PassesOwn.never rfl (pi_range1 (by rfl) T.b_range (pa_cons (pe_op op_sub (pe_callB (r := rLenK K) call_len_seq (by rfl) T.b_len (by decide +kernel) (pa_cons (pv 0) pa_nil)) pe_int) pa_nil)) (pg_name (i := 5) sc_L_righted.nd rfl (Or.inr rfl))
          (pss_one (ps_if (pt_cmpR op_ne (pe_op op_modN (pe_op op_sub (pe_callB (cr_sum rfl) (by rfl) T.b_sum (by decide +kernel) (pa_cons (pe_lc (own := [("_law_k", 6)])  rfl sc_L_righted.nd (pi_range1 (by rfl) T.b_range (pa_cons (pe_callB (r := rLenK K) call_len_seq (by rfl) T.b_len (by decide +kernel) (pa_cons (pv 4) pa_nil)) pa_nil)) (blkOk_by (N := n_L_righted) (sc := defScope s_L_righted) (by decide +kernel)) (fun _ _ _ _ _ => (pg_name (i := 6) sc_L_righted.nd rfl (Or.inl rfl))) (fun _ _ _ _ _ => pts_nil) (fun _ _ _ _ _ => (pe_op op_mul (pe_ix (r := rIxL K) ix_list (pv 4) (pv 6) (fun _ _ => rfl)) (pe_ix (r := rIxL K) ix_list (pe_ix (r := rIxL K) ix_list (pv 1) (pv 6) (fun _ _ => rfl)) (pv 5) (fun _ _ => rfl))))) pa_nil)) (pe_callTy call_int1 (by rfl) T.b_int (by decide +kernel) (pa_cons (pe_cmpR op_eq (pv 3) (pv 5) (nomark _)) pa_nil))) (pv 2)) pe_int (nomark _)) (pss_one (ps_ret pe_bl)) pss_nil)))))
      (pss_one (ps_ret pe_bl))), ?_⟩
    refine ⟨_, rfl, _, rfl, b, p, g, g0, rfl, p2, p14, hg, lg, eg, hg0, fun H1 D L s1 tL LR => ?_⟩
    obtain ⟨ps, hps, lps, kps⟩ := id tL
    have lL := LR.len
    refine ⟨D, _, rfl, sqL_of hps, for_it (walk_enum (xs := ps.map V.ref)) (fun i σ H' => ∃ x3 x4 x5 : Option V, σ = [some (.ref b), some (.ref aR), some (.int p), x3, x4, x5, none] ∧ Same H1 H')
      ⟨none, none, none, rfl, Same.refl _⟩ (fun i σ H' _ ⟨_, _, _, _, s⟩ => s.seq (sqL_of hps)) (fun i x σ H' H'' hi hP hY => ?_) (fun σ H' hP => ?_)⟩
    · obtain ⟨x3, x4, x5, rfl, sm1⟩ := hP
      obtain ⟨t, y1, y2, rfl, nt, rfl, hy1, hy2⟩ := hY
      obtain rfl : V.int (i : Nat) = y1 := Option.some.inj hy1
      obtain ⟨pr, rfl, hpr⟩ := ref_get hy2
      have hi1 : i < L.length := by rw [← lps]; exact (List.getElem?_eq_some_iff.mp hpr).1
      have hrow := kps i pr _ hpr (getD_at hi1)
      obtain ⟨r, ⟨r1, r2, r3⟩, eL⟩ := LR.row i (by omega)
      have lrow : (L.getD i []).length = g0.length := by rw [eL]; simp [lo1, r1]
      have rrow : ∀ x ∈ L.getD i [], 0 ≤ x ∧ x < (p : Int) := fun x hx => by
        rw [eL] at hx
        unfold lo1 at hx
        obtain ⟨k, _, rfl⟩ := List.mem_map.mp hx
        exact ⟨Int.emod_nonneg _ (by omega), Int.emod_lt_of_pos _ (by omega)⟩
      refine ⟨t, _, rfl, sqT_of upd_same, rfl, _, _, rfl, _, _, rfl, rfl, ?_⟩
      have s2 : Same H1 (upd H' t (.tup [V.int (i : Nat), V.ref pr])) := same_nw sm1 nt
      generalize upd H' t (.tup [V.int (i : Nat), V.ref pr]) = H2 at *
      have s02 := s1.trans s2
      have RL := fun j (hj : j < g0.length - 1) => righted_law (i := i) (j := j) eg PR LR (by omega) hj
      generalize L.getD i [] = row at *
      obtain ⟨pq, hpq, lpq, kpq⟩ := id (tR.same s02)
      have lR := PR.shp.1.1
      have hrow2 := s2 _ _ hrow
      refine ⟨_, rfl, b, _, rfl, .inl (s02.seq hg), _, 2, rfl, rfl, ((g0.length - 1 : Nat) : Int), (show [V.int (((g.map V.int).length : Int) - 2)] = [V.int ((g0.length - 1 : Nat) : Int)] from congrArg (fun z => [V.int z]) (by rw [List.length_map]; omega)), by omega, by omega, for_range (lo := 0) (n := ((g0.length - 1 : Nat) : Int).toNat) (fun j σ H' => ∃ x5 : Option V, σ = [some (.ref b), some (.ref aR), some (.int p), some (.int (i : Nat)), some (.ref pr), x5, none] ∧ Same H2 H')
        ⟨x5, rfl, Same.refl _⟩ (fun j σ H' hj hW => ?_) (fun σ H' hW => ?_)⟩
      · obtain ⟨x5, rfl, s3⟩ := hW
        have hj2 : j < g0.length - 1 := hj
        have hdv := RL j hj2
        refine ⟨_, rfl, pr, _, rfl, .inl (sqL_of (s3 _ _ hrow2)), ((g0.length : Nat) : Int), (show [V.int ((row.map V.int).length : Nat)] = [V.int ((g0.length : Nat) : Int)] from congrArg (fun z : Nat => [V.int z]) (by rw [List.length_map]; exact lrow)), by omega, by omega, fun D2 hD2 => lcR (n := ((g0.length : Nat) : Int).toNat) (fun k => .int (co row k * en right k j)) (by omega) hD2 (fun x => rfl) (fun k H3 hk s4 Qe qe => ?_) (fun H3 s4 h4 => ?_)⟩
        · have hk2 : k < g0.length := hk
          have s34 := s3.trans s4
          obtain ⟨hz0, hz1⟩ : True ∧ True := ⟨trivial, trivial⟩
          have pk : pq[k]? = some pq[k] := List.getElem?_eq_getElem (by omega)
          have hk3 := s34 _ _ (kpq k _ _ pk (getD_at (by omega)))
          have lk : (right.getD k []).length = g0.length - 1 := by have := PR.shp.1.at (i := k) (by omega); omega
          have a1 : ∀ z : Int, z = ((k : Nat) : Int) → atI (row.map V.int) z = some (.int (co row k)) := fun z e => by rw [e]; exact at_co (by omega)
          have a2 : ∀ z : Int, z = ((k : Nat) : Int) → atI (pq.map V.ref) z = some (.ref pq[k]) := fun z e => by rw [e]; exact atI_nat (by rw [List.getElem?_map, pk]; rfl)
          have a3 : ∀ z : Int, z = ((j : Nat) : Int) → atI ((right.getD k []).map V.int) z = some (.int (en right k j)) := fun z e => by rw [e]; exact at_co (by omega)
          exact ⟨_, rfl, _, rfl, pr, _, _, _, rfl, rfl, sqL_of (s34 _ _ hrow2), a1 _ (Int.zero_add _), _, rfl, _, rfl, aR, _, _, _, rfl, rfl, sqL_of (s34 _ _ hpq), a2 _ (Int.zero_add _), _, rfl, pq[k], _, _, _, rfl, rfl, sqL_of hk3, a3 _ (Int.zero_add _), _, _, rfl, rfl, .inl (by have := rrow (co row k) (co_mem (by omega)); omega), qe H3 (Same.refl _)⟩
        · have h4' : H3 D2 = some (.lst (((List.range g0.length).map fun k => co row k * en right k j).map V.int)) := by rw [h4, List.map_map]; rfl
          refine ⟨D2, _, rfl, sqL_of h4', _, rfl, _, rfl, rfl, .inr ⟨_, rfl, ?_⟩⟩
          have hfin : ∀ z : Int, z = (if i = j then 1 else 0) → (((List.range g0.length).map fun k => co row k * en right k j).sum - z).fmod p = 0 := fun z e => by
            rw [e, Int.fmod_eq_emod_of_nonneg _ (by omega)]
            exact Int.emod_eq_zero_of_dvd hdv
          have hij : ∀ z : V, z = V.int (0 + (j : Int)) → (if decide (V.int ((i : Nat) : Int) = z) = true then (1 : Int) else 0) = if i = j then 1 else 0 := fun z e => by
            rw [e]
            by_cases e2 : i = j
            · rw [decide_eq_true (vint.mpr (by omega)), if_pos rfl, if_pos e2]
            · rw [decide_eq_false (fun z => e2 (by have := vint.mp z; omega)), if_neg e2]; rfl
          refine ⟨_, _, rfl, rfl, _, rfl, _, _, rfl, rfl, (show (p : Int) ≠ 0 by omega), rfl, _, rfl, ?_⟩
          refine ifEq (vint.mpr (hfin _ (hij _ rfl))) ?_
          exact ⟨_, rfl, s3.trans s4⟩
      · obtain ⟨x5, rfl, s3⟩ := hW
        exact ⟨_, _, _, rfl, s2.trans s3⟩
    · obtain ⟨x3, x4, x5, rfl, sm1⟩ := hP
      exact hq H' (s1.trans sm1)
theorem ok_L_opened (T : TX K mg) : FO P w K mg base 3 "_law_opened" ["_law_g", "_law_a", "_law_b", "_law_prime"] (spLOpened K) := by
  refine FO.mk T.d_L_opened sc_L_opened (fun _ _ _ _ _ _ us hl => match us, hl with | [_, _, _, _], _ => rfl) (fun vs H Q E h => ?_) (fun f cdv A outer s H vs Q E hr h => ?_)
  · obtain ⟨ag, aa, ab, p, g, x, y, rfl, _⟩ := h; rfl
  · obtain ⟨ag, aa, ab, p, g, x, y, rfl, p2, p14, hg, hx, hy, lg, lx, ly, rx, ry, hop, hq⟩ := h
    obtain ⟨f_L_times, fd_L_times, g_L_times, k_L_times, b_L_times, G_L_times⟩ := ok_L_times (P := P) (w := w) (base := base) T
    obtain ⟨f_L_slope, fd_L_slope, g_L_slope, k_L_slope, b_L_slope, G_L_slope⟩ := ok_L_slope (P := P) (w := w) (base := base) T
    obtain ⟨f_L_trim, fd_L_trim, g_L_trim, k_L_trim, b_L_trim, G_L_trim⟩ := ok_L_trim (P := P) (w := w) (base := base) T
    refine ⟨_, (pss_cons (ps_set (i := 4) sc_L_opened.nd rfl (Or.inr rfl) (pe_call G_L_times (hr.mono (by decide)) (by rfl) g_L_times k_L_times b_L_times .nil pass0 (pa_cons (pv 1) (pa_cons (pv 0) (pa_cons (pv 3) pa_nil)))))
      (pss_cons (ps_set (i := 5) sc_L_opened.nd rfl (Or.inr rfl) (pe_call G_L_times (hr.mono (by decide)) (by rfl) g_L_times k_L_times b_L_times .nil pass0 (pa_cons (pv 2) (pa_cons (pe_call G_L_slope (hr.mono (by decide)) (by rfl) g_L_slope k_L_slope b_L_slope .nil pass0 (pa_cons (pv 0) pa_nil)) (pa_cons (pv 3) pa_nil)))))
      (pss_cons (ps_set (i := 6) sc_L_opened.nd rfl (Or.inl rfl) (pe_callB (call_max2 rfl) (by rfl) T.b_max (by decide +kernel) (pa_cons (pe_callB (r := rLenK K) call_len_seq (by rfl) T.b_len (by decide +kernel) (pa_cons (pv 4) pa_nil)) (pa_cons (pe_callB (r := rLenK K) call_len_seq (by rfl) T.b_len (by decide +kernel) (pa_cons (pv 5) pa_nil)) pa_nil))))
      (pss_cons (ps_set (i := 4) sc_L_opened.nd rfl (Or.inr rfl) (pe_op op_cat (pv 4) (pe_op op_rep (pe_lst (pa_cons pe_int pa_nil)) (pe_op op_sub (pv 6) (pe_callB (r := rLenK K) call_len_seq (by rfl) T.b_len (by decide +kernel) (pa_cons (pv 4) pa_nil))))))
      (pss_cons (ps_set (i := 5) sc_L_opened.nd rfl (Or.inr rfl) (pe_op op_cat (pv 5) (pe_op op_rep (pe_lst (pa_cons pe_int pa_nil)) (pe_op op_sub (pv 6) (pe_callB (r := rLenK K) call_len_seq (by rfl) T.b_len (by decide +kernel) (pa_cons (pv 5) pa_nil))))))
      (pss_one (ps_ret (pe_cmpR (op_eqD hr.units) (pe_call G_L_trim (hr.mono (by decide)) (by rfl) g_L_trim k_L_trim b_L_trim .nil pass0 (pa_cons (pe_lc (own := [("_law_k", 7)])  rfl sc_L_opened.nd (pi_range1 (by rfl) T.b_range (pa_cons (pv 6) pa_nil)) (blkOk_by (N := n_L_opened) (sc := defScope s_L_opened) (by decide +kernel)) (fun _ _ _ _ _ => (pg_name (i := 7) sc_L_opened.nd rfl (Or.inl rfl))) (fun _ _ _ _ _ => pts_nil) (fun _ _ _ _ _ => (pe_op op_add (pe_ix (r := rIxL K) ix_list (pv 4) (pv 7) (fun _ _ => rfl)) (pe_ix (r := rIxL K) ix_list (pv 5) (pv 7) (fun _ _ => rfl))))) (pa_cons (pv 3) pa_nil))) (pe_lst (pa_cons pe_int pa_nil)) (nomark _))))))))), ?_⟩
    refine ⟨_, rfl, _, rfl, _, rfl, aa, ag, p, x, g, rfl, by omega, hx, hg, by omega, by omega, fun u hu v hv => .inl (by have := rx u hu; omega), fun H1 p1 s1 n1 h1 => ?_⟩
    refine ⟨_, rfl, _, rfl, ag, g, rfl, s1.seq hg, by omega, fun H2 p2' s2 n2 h2 => ?_⟩
    have s02 := s1.trans s2
    refine ⟨_, rfl, ab, p2', p, y, slo g, rfl, by omega, s02.seq hy, sqL_of h2, by omega, by rw [slo_len]; omega, fun u hu v hv => .inl (by have := ry u hu; omega), fun H3 p3 s3 n3 h3 => ?_⟩
    have s03 := s02.trans s3
    have h13 := s3 _ _ (s2 _ _ h1)
    have lone : (tr (p : Int) (mulL x g)).length ≤ 700 := by have h1 := tr_len (N := p) (mulL x g); have h2 := mul_len x g; omega
    have loth : (tr (p : Int) (mulL y (slo g))).length ≤ 700 := by have h1 := tr_len (N := p) (mulL y (slo g)); have h2 := mul_len y (slo g); rw [slo_len] at h2; omega
    have ce : FF.cl (p : Int) (addL (tr (p : Int) (mulL x g)) (tr (p : Int) (mulL y (slo g)))) = FF.cl p [1] := by
      rw [cl_add, cl_tr, cl_tr, cl_mul, cl_mul, cl_slo, hop]; rfl
    generalize tr (p : Int) (mulL x g) = one at *
    generalize tr (p : Int) (mulL y (slo g)) = oth at *
    refine ⟨_, rfl, p1, _, rfl, .inl (sqL_of h13), _, rfl, p3, _, rfl, .inl (sqL_of h3), _, _, rfl, ?_⟩
    rw [List.length_map, List.length_map, max_if]
    obtain ⟨m, em⟩ : ∃ m, m = max one.length oth.length := ⟨_, rfl⟩
    have hfm : one.length ≤ m := by omega
    have hhm : oth.length ≤ m := by omega
    rw [← em]
    refine padR (i := 4) (j := 6) (f := one) (m := m) rfl rfl h13 hfm (by omega) fun H4 p4 s4 n4 h4 => ?_
    refine padR (i := 5) (j := 6) (f := oth) (m := m) rfl rfl (s4 _ _ h3) hhm (by omega) fun H5 p5 s5 n5 h5 => ?_
    have h45 := s5 _ _ h4
    refine ⟨_, rfl, (m : Nat), rfl, by omega, by omega, fun D hD => lcR (n := ((m : Nat) : Int).toNat) (fun i => .int (co one i + co oth i)) (by omega) hD (fun x => rfl) (fun i H' hi e Qe q => ?_) (fun H6 s6 h6 => ?_)⟩
    · have hi2 : i < m := hi
      rw [Int.zero_add]
      refine ⟨_, rfl, _, rfl, p4, _, (i : Nat), _, rfl, rfl, sqL_of (e _ _ h45), at_co (by rw [pad_len hfm]; exact hi2), _, rfl, _, rfl, p5, _, (i : Nat), _, rfl, rfl, sqL_of (e _ _ h5), at_co (by rw [pad_len hhm]; exact hi2), _, _, rfl, rfl, ?_⟩
      rw [co_pad, co_pad]
      exact q H' (Same.refl _)
    · have s06 := s03.trans (s4.trans (s5.trans s6))
      refine ⟨_, rfl, D, p, (List.range m).map (fun i => co one i + co oth i), rfl, by omega, sqL_of (by rw [h6, List.map_map]; rfl), by simp; omega, fun H7 p7 s7 n7 h7 => ?_⟩
      have e3 : tr (p : Int) ((List.range m).map fun i => co one i + co oth i) = [1] := by
        have e4 : tr (p : Int) ((List.range m).map fun i => co one i + co oth i) = tr (p : Int) (addL one oth) := tr_co_eq fun k => by
          rw [co_rmap, co_add]
          by_cases hk : k < m
          · rw [if_pos hk, Int.sub_self]; exact Int.dvd_zero _
          · rw [if_neg hk, co_ge (f := one) (by omega), co_ge (f := oth) (by omega)]
            exact Int.dvd_zero _
        rw [e4, tr_eq.mpr ce]
        exact tr_id ⟨fun a ha => by rw [List.mem_singleton] at ha; rw [ha]; exact Int.emod_eq_of_lt (by omega) (by omega), .inr ⟨[], 1, rfl, by decide⟩⟩
      rw [e3] at h7
      refine ⟨by show 1 ≤ sizeLine; decide, fun pE nE => ?_⟩
      have sE : Same H7 (upd H7 pE (.lst [.int 1])) := same_nw (Same.refl _) nE
      have hE : (upd H7 pE (.lst [.int 1])) pE = some (.lst (([1] : List Int).map V.int)) := upd_same
      refine eqD_ints (l := [1]) (m := [1]) (sqL_of (sE _ _ h7)) (sqL_of hE) ?_
      exact hq _ (s06.trans (s7.trans sE))
theorem ok_L_good (T : TX K mg) : FO P w K mg base 6 "_law_good" ["_law_g", "_law_a", "_law_b", "_law_right", "_law_prime"] (spLGood K) := by
  refine FO.mk T.d_L_good sc_L_good (fun _ _ _ _ _ _ us hl => match us, hl with | [_, _, _, _, _], _ => rfl) (fun vs H Q E h => ?_) (fun f cdv A outer s H vs Q E hr h => ?_)
  · obtain ⟨ag, aa, ab, aR, p, g, x, y, right, rfl, _⟩ := h; rfl
  · obtain ⟨ag, aa, ab, aR, p, g, x, y, right, rfl, p2, p14, hg, hx, hy, tR, lg, mg0, PR, hq⟩ := h
    obtain ⟨cg, g0, eg, hg0⟩ := id mg0
    have lgg : g.length = g0.length + 1 := by rw [eg]; simp
    have hl0 : 0 < g0.length := List.length_pos_iff.mpr hg0
    have hlast : atI (g.map V.int) (-1) = some (.int 1) := by rw [eg]; exact at_last g0 1
    obtain ⟨f_L_opened, fd_L_opened, g_L_opened, k_L_opened, b_L_opened, G_L_opened⟩ := ok_L_opened (P := P) (w := w) (base := base) T
    obtain ⟨f_L_righted, fd_L_righted, g_L_righted, k_L_righted, b_L_righted, G_L_righted⟩ := ok_L_righted (P := P) (w := w) (base := base) T
    refine ⟨_, (pss_cons (ps_if (PW.pt (pw_or (pt_cmpR op_lt (pe_callB (r := rLenK K) call_len_seq (by rfl) T.b_len (by decide +kernel) (pa_cons (pv 0) pa_nil)) pe_int (nomark _)) (pw_or (pt_cmpR op_ne (pe_ix (r := rIxL K) ix_list (pv 0) (pe_un un_neg pe_int) (fun _ _ => rfl)) pe_int (nomark _)) (pw_or1 (pt_not (pt_val (pe_call G_L_opened (hr.mono (by decide)) (by rfl) g_L_opened k_L_opened b_L_opened .nil pass0 (pa_cons (pv 0) (pa_cons (pv 1) (pa_cons (pv 2) (pa_cons (pv 4) pa_nil))))))))))) (pss_one (ps_ret pe_bl)) pss_nil)
      (pss_cons (ps_if (pt_cmpR op_ne (pe_callB (r := rLenK K) call_len_seq (by rfl) T.b_len (by decide +kernel) (pa_cons (pv 3) pa_nil)) (pe_op op_sub (pe_callB (r := rLenK K) call_len_seq (by rfl) T.b_len (by decide +kernel) (pa_cons (pv 0) pa_nil)) pe_int) (nomark _)) (pss_one (ps_ret pe_bl)) pss_nil)
      (pss_cons (ps_for PassesOwn.never rfl (pi_list (pv 3)) (pg_name (i := 5) sc_L_good.nd rfl (Or.inl rfl))
        (pss_one (ps_if (pt_cmpR op_ne (pe_callB (r := rLenK K) call_len_seq (by rfl) T.b_len (by decide +kernel) (pa_cons (pv 5) pa_nil)) (pe_op op_sub (pe_callB (r := rLenK K) call_len_seq (by rfl) T.b_len (by decide +kernel) (pa_cons (pv 0) pa_nil)) pe_int) (nomark _)) (pss_one (ps_ret pe_bl)) pss_nil)))
      (pss_one (ps_ret (pe_call G_L_righted (hr.mono (by decide)) (by rfl) g_L_righted k_L_righted b_L_righted .nil pass0 (pa_cons (pv 0) (pa_cons (pv 3) (pa_cons (pv 4) pa_nil))))))))), ?_⟩
    have rr : ∀ {z : List Int}, Cn p z → ∀ u ∈ z, 0 ≤ u ∧ u < (p : Int) := fun h u hu => cn_range (by omega) h hu
    refine ⟨_, rfl, ag, _, rfl, .inl hg, _, 2, rfl, rfl, _, rfl, ?_⟩
    refine ifN (by rw [List.length_map]; omega) ?_
    refine ⟨_, rfl, 1, rfl, ag, _, -1, _, rfl, rfl, hg, hlast, rfl, _, rfl, ?_⟩
    refine ifEq rfl ?_
    refine ⟨_, rfl, _, rfl, _, rfl, _, rfl, ag, aa, ab, p, g, x, y, rfl, p2, p14, hg, hx, hy, by omega, by have := PR.la; omega, by have := PR.lb; omega, rr PR.ca, rr PR.cb, PR.op, fun H1 s1 => ?_⟩
    refine ⟨_, rfl, iteF ?_⟩
    obtain ⟨ps, hps, lps, kps⟩ := id (tR.same s1)
    have lR := PR.shp.1.1
    refine ⟨_, rfl, aR, _, rfl, .inl (sqL_of hps), _, rfl, ag, _, rfl, .inl (s1.seq hg), _, _, rfl, rfl, rfl, _, rfl, ?_⟩
    refine ifEq (vint.mpr (by rw [List.length_map, List.length_map]; omega)) ?_
    refine ⟨_, rfl, aR, rfl, ⟨_, sqL_of hps⟩, for_list (xs := ps.map V.ref) (fun i σ H' => ∃ x5 : Option V, σ = [some (.ref ag), some (.ref aa), some (.ref ab), some (.ref aR), some (.int p), x5] ∧ H' = H1)
      ⟨none, rfl, rfl⟩ (fun i σ H' _ ⟨_, _, e⟩ => by rw [e]; exact sqL_of hps) (fun i x σ H' hx hW => ?_) (fun σ H' hW => ?_)⟩
    · obtain ⟨x5, rfl, rfl⟩ := hW
      obtain ⟨pr, rfl, hpr⟩ := ref_get hx
      have hi : i < right.length := by rw [← lps]; exact (List.getElem?_eq_some_iff.mp hpr).1
      have hrow := kps i pr _ hpr (getD_at hi)
      have lrow : (right.getD i []).length = g0.length - 1 := by have := PR.shp.1.at (i := i) (by omega); omega
      refine ⟨_, rfl, pr, _, rfl, .inl (sqL_of hrow), _, rfl, ag, _, rfl, .inl (s1.seq hg), _, _, rfl, rfl, rfl, _, rfl, ?_⟩
      refine ifEq (vint.mpr (by rw [List.length_map, List.length_map]; omega)) ?_
      exact ⟨_, rfl, rfl⟩
    · obtain ⟨x5, rfl, rfl⟩ := hW
      refine ⟨_, rfl, _, rfl, _, rfl, ag, aR, p, g, g0, x, y, right, rfl, p2, p14, s1.seq hg, by omega, eg, hg0, tR.same s1, PR, fun H2 s2 => hq H2 (s1.trans s2)⟩
end
end FF
end
section
set_option Elab.async false
set_option linter.all false
set_option maxRecDepth 100000
set_option maxHeartbeats 4000000
/-! FL6: the law's own defs: the shape of an answer. -/
namespace FF
open PySem PySem.Spec PyProof.Rows L2
theorem isi {K : PySem.W.Frag} {H : Hp} {x : V} {n m : String} {r : Bool} {Q : VK} (ty : TyX K H x (.type n)) (h : kitB n m = some r) (q : Q (.bl r) H) : rIsi K [x, .ty m] H Q := ⟨x, .ty m, .type n, .type m, r, rfl, .ty m, ty, kit_ty h, q⟩
theorem ty_int {K : PySem.W.Frag} {H : Hp} (i : Int) : TyX K H (.int i) (.type "int") := .base (.int i)
theorem ty_str {K : PySem.W.Frag} {H : Hp} (x : Str) : TyX K H (.str x) (.type "str") := .base (.str x)
theorem ty_lst {K : PySem.W.Frag} {H : Hp} {a : Addr} {xs : List V} (e : H a = some (.lst xs)) : TyX K H (.ref a) (.type "list") := .base (.lst e)
theorem ty_tup {K : PySem.W.Frag} {H : Hp} {a : Addr} {xs : List V} (e : H a = some (.tup xs)) : TyX K H (.ref a) (.type "tuple") := .base (.tup e)
theorem kii : kitB "int" "int" = some true := by decide +kernel
theorem kib : kitB "int" "bool" = some false := by decide +kernel
theorem kll : kitB "list" "list" = some true := by decide +kernel
theorem ktt : kitB "tuple" "tuple" = some true := by decide +kernel
theorem kss : kitB "str" "str" = some true := by decide +kernel
def spLWhole : Sp := fun vs H Q _ => ∃ i : Int, vs = [.int i] ∧ Q (.bl true) H
def spLRowW : Sp := fun vs H Q _ => ∃ (a : Addr) (l : List Int), vs = [.ref a] ∧ H a = some (.lst (l.map V.int)) ∧ Q (.bl true) H
def spLPaperSh : Sp := fun vs H Q _ => ∃ (T p1 p2 aR : Addr) (x y : List Int) (right : List (List Int)), vs = [.ref T] ∧ H T = some (.tup [.ref p1, .ref p2, .ref aR]) ∧ H p1 = some (.lst (x.map V.int)) ∧ H p2 = some (.lst (y.map V.int)) ∧ Tab H aR right ∧ Q (.bl true) H
def spLRowsW : Sp := fun vs H Q _ => ∃ (a : Addr) (M : List (List Int)), vs = [.ref a] ∧ Tab H a M ∧ M.length ≤ 4096 ∧ (∀ r ∈ M, r.length ≤ 40) ∧ Q (.bl true) H
def spLWPSh : Sp := fun vs H Q _ => ∃ (T5 aU aP aR : Addr) (p many : Nat) (M l : Int) (g : List Int) (Ps Us : List (List Int)) (bs : List Nat), vs = [.ref T5] ∧ H T5 = some (.tup [.int p, .int many, .ref aU, .ref aP, .ref aR]) ∧ Tab H aU Us ∧ Us.length < 14 ∧ (∀ r ∈ Us, r.length ≤ 40) ∧ PapersAt H aP p Ps ∧ RowsI H aR M l g Us bs ∧ Q (.bl true) H
section
variable {P : Program} {w : World} {K : PySem.W.Frag} {mg : Str → Option Value} {base : Heap}
theorem ok_L_whole (T : TX K mg) : FO P w K mg base 1 "_law_whole" ["_law_found"] spLWhole := by
  refine FO.mk T.d_L_whole sc_L_whole (fun _ _ _ _ _ _ us hl => match us, hl with | [_], _ => rfl) (fun vs H Q E h => ?_) (fun f cdv A outer s H vs Q E hr h => ?_)
  · obtain ⟨i, rfl, _⟩ := h; rfl
  · obtain ⟨i, rfl, hq⟩ := h
    refine ⟨_, (pss_one (ps_ret (pe_and (pe_callB call_isi (by rfl) T.b_isinstance (by decide +kernel) (pa_cons (pv 0) (pa_cons (pe_bltn (v := .ty "int") (u := .type "int") (by rfl) T.b_int (by decide +kernel) rfl) pa_nil))) (pe_one (pe_not (pe_callB call_isi (by rfl) T.b_isinstance (by decide +kernel) (pa_cons (pv 0) (pa_cons (pe_bltn (v := .ty "bool") (u := .type "bool") (by rfl) T.b_bool (by decide +kernel) rfl) pa_nil)))))))), ?_⟩
    refine ⟨_, rfl, _, _, _, _, true, rfl, .ty _, ty_int i, kit_ty kii, ?_⟩
    refine ⟨_, rfl, iteT ?_⟩
    refine ⟨_, rfl, _, _, _, _, false, rfl, .ty _, ty_int i, kit_ty kib, ?_⟩
    exact ⟨_, rfl, hq⟩
theorem ok_L_row_of_wholes (T : TX K mg) : FO P w K mg base 2 "_law_row_of_wholes" ["_law_found"] spLRowW := by
  refine FO.mk T.d_L_row_of_wholes sc_L_row_of_wholes (fun _ _ _ _ _ _ us hl => match us, hl with | [_], _ => rfl) (fun vs H Q E h => ?_) (fun f cdv A outer s H vs Q E hr h => ?_)
  · obtain ⟨a, l, rfl, _⟩ := h; rfl
  · obtain ⟨a, l, rfl, ha, hq⟩ := h
    obtain ⟨f_L_whole, fd_L_whole, g_L_whole, k_L_whole, b_L_whole, G_L_whole⟩ := ok_L_whole (P := P) (w := w) (base := base) T
    refine ⟨_, (pss_cons (ps_if (pt_not (pt_val (pe_callB call_isi (by rfl) T.b_isinstance (by decide +kernel) (pa_cons (pv 0) (pa_cons (pe_bltn (v := .ty "list") (u := .type "list") (by rfl) T.b_list (by decide +kernel) rfl) pa_nil))))) (pss_one (ps_ret pe_bl)) pss_nil)
      (pss_cons (ps_for PassesOwn.never rfl (pi_list (pv 0)) (pg_name (i := 1) sc_L_row_of_wholes.nd rfl (Or.inl rfl))
        (pss_one (ps_if (pt_not (pt_val (pe_call G_L_whole (hr.mono (by decide)) (by rfl) g_L_whole k_L_whole b_L_whole .nil pass0 (pa_cons (pv 1) pa_nil)))) (pss_one (ps_ret pe_bl)) pss_nil)))
      (pss_one (ps_ret pe_bl)))), ?_⟩
    refine ⟨_, rfl, _, _, _, _, true, rfl, .ty _, ty_lst ha, kit_ty kll, ?_⟩
    refine ⟨_, rfl, iteF ?_⟩
    refine ⟨_, rfl, a, rfl, ⟨_, sqL_of ha⟩, for_list (xs := l.map V.int) (fun i σ H' => ∃ x1 : Option V, σ = [some (.ref a), x1] ∧ H' = H)
      ⟨none, rfl, rfl⟩ (fun i σ H' _ ⟨_, _, e⟩ => by rw [e]; exact sqL_of ha) (fun i x σ H' hx hW => ?_) (fun σ H' hW => ?_)⟩
    · obtain ⟨x1, rfl, rfl⟩ := hW
      obtain ⟨rfl, hi⟩ := map_get hx
      refine ⟨_, rfl, _, rfl, ?_⟩
      exact ⟨_, rfl, iteF ⟨_, rfl, rfl⟩⟩
    · obtain ⟨x1, rfl, rfl⟩ := hW
      exact hq
theorem ok_L_paper_shaped (T : TX K mg) : FO P w K mg base 3 "_law_paper_shaped" ["_law_found"] spLPaperSh := by
  refine FO.mk T.d_L_paper_shaped sc_L_paper_shaped (fun _ _ _ _ _ _ us hl => match us, hl with | [_], _ => rfl) (fun vs H Q E h => ?_) (fun f cdv A outer s H vs Q E hr h => ?_)
  · obtain ⟨TT, p1, p2, aR, x, y, right, rfl, _⟩ := h; rfl
  · obtain ⟨TT, p1, p2, aR, x, y, right, rfl, hT, h1, h2, tR, hq⟩ := h
    obtain ⟨ps, hps, lps, kps⟩ := id tR
    obtain ⟨f_L_row_of_wholes, fd_L_row_of_wholes, g_L_row_of_wholes, k_L_row_of_wholes, b_L_row_of_wholes, G_L_row_of_wholes⟩ := ok_L_row_of_wholes (P := P) (w := w) (base := base) T
    refine ⟨_, (pss_cons (ps_if (PW.pt (pw_or (pt_not (pt_val (pe_callB call_isi (by rfl) T.b_isinstance (by decide +kernel) (pa_cons (pv 0) (pa_cons (pe_bltn (v := .ty "tuple") (u := .type "tuple") (by rfl) T.b_tuple (by decide +kernel) rfl) pa_nil))))) (pw_or (pt_cmpR op_ne (pe_callB (r := rLenK K) call_len_seq (by rfl) T.b_len (by decide +kernel) (pa_cons (pv 0) pa_nil)) pe_int (nomark _)) (pw_or1 (pt_not (pt_val (pe_callB call_isi (by rfl) T.b_isinstance (by decide +kernel) (pa_cons (pe_ix (r := rIxT K) ix_tup (pv 0) pe_int (fun _ _ => rfl)) (pa_cons (pe_bltn (v := .ty "list") (u := .type "list") (by rfl) T.b_list (by decide +kernel) rfl) pa_nil))))))))) (pss_one (ps_ret pe_bl)) pss_nil)
      (pss_cons (ps_for PassesOwn.never rfl (pi_list (pe_ix (r := rIxT K) ix_tup (pv 0) pe_int (fun _ _ => rfl))) (pg_name (i := 1) sc_L_paper_shaped.nd rfl (Or.inl rfl))
        (pss_one (ps_if (pt_not (pt_val (pe_call G_L_row_of_wholes (hr.mono (by decide)) (by rfl) g_L_row_of_wholes k_L_row_of_wholes b_L_row_of_wholes .nil pass0 (pa_cons (pv 1) pa_nil)))) (pss_one (ps_ret pe_bl)) pss_nil)))
      (pss_one (ps_ret (pe_and (pe_call G_L_row_of_wholes (hr.mono (by decide)) (by rfl) g_L_row_of_wholes k_L_row_of_wholes b_L_row_of_wholes .nil pass0 (pa_cons (pe_ix (r := rIxT K) ix_tup (pv 0) pe_int (fun _ _ => rfl)) pa_nil)) (pe_one (pe_call G_L_row_of_wholes (hr.mono (by decide)) (by rfl) g_L_row_of_wholes k_L_row_of_wholes b_L_row_of_wholes .nil pass0 (pa_cons (pe_ix (r := rIxT K) ix_tup (pv 0) pe_int (fun _ _ => rfl)) pa_nil)))))))), ?_⟩
    refine ⟨_, rfl, _, _, _, _, true, rfl, .ty _, ty_tup hT, kit_ty ktt, ?_⟩
    refine ⟨_, rfl, iteF ?_⟩
    refine ⟨_, rfl, TT, _, rfl, .inr (sqT_of hT), rfl, _, rfl, ?_⟩
    refine ifEq rfl ?_
    refine ⟨_, rfl, TT, _, 2, _, rfl, rfl, sqT_of hT, atI_nat (j := 2) rfl, _, _, _, _, true, rfl, .ty _, ty_lst hps, kit_ty kll, ?_⟩
    refine ⟨_, rfl, iteF ?_⟩
    refine ⟨_, rfl, TT, _, 2, _, rfl, rfl, sqT_of hT, atI_nat (j := 2) rfl, aR, rfl, ⟨_, sqL_of hps⟩, for_list (xs := ps.map V.ref) (fun i σ H' => ∃ x1 : Option V, σ = [some (.ref TT), x1] ∧ H' = H)
      ⟨none, rfl, rfl⟩ (fun i σ H' _ ⟨_, _, e⟩ => by rw [e]; exact sqL_of hps) (fun i x σ H' hx hW => ?_) (fun σ H' hW => ?_)⟩
    · obtain ⟨x1, rfl, rfl⟩ := hW
      obtain ⟨pr, rfl, hpr⟩ := ref_get hx
      have hi : i < right.length := by rw [← lps]; exact (List.getElem?_eq_some_iff.mp hpr).1
      refine ⟨_, rfl, pr, _, rfl, kps i pr _ hpr (getD_at hi), ?_⟩
      exact ⟨_, rfl, iteF ⟨_, rfl, rfl⟩⟩
    · obtain ⟨x1, rfl, rfl⟩ := hW
      refine ⟨_, rfl, TT, _, 0, _, rfl, rfl, sqT_of hT, atI_nat (j := 0) rfl, p1, _, rfl, h1, ?_⟩
      refine ⟨_, rfl, iteT ?_⟩
      exact ⟨_, rfl, TT, _, 1, _, rfl, rfl, sqT_of hT, atI_nat (j := 1) rfl, p2, _, rfl, h2, hq⟩
theorem ok_L_rows_of_wholes (T : TX K mg) : FO P w K mg base 3 "_law_rows_of_wholes" ["_law_found"] spLRowsW := by
  refine FO.mk T.d_L_rows_of_wholes sc_L_rows_of_wholes (fun _ _ _ _ _ _ us hl => match us, hl with | [_], _ => rfl) (fun vs H Q E h => ?_) (fun f cdv A outer s H vs Q E hr h => ?_)
  · obtain ⟨a, M, rfl, _⟩ := h; rfl
  · obtain ⟨a, M, rfl, tM, lM, l40, hq⟩ := h
    obtain ⟨ps, hps, lps, kps⟩ := id tM
    obtain ⟨f_L_row_of_wholes, fd_L_row_of_wholes, g_L_row_of_wholes, k_L_row_of_wholes, b_L_row_of_wholes, G_L_row_of_wholes⟩ := ok_L_row_of_wholes (P := P) (w := w) (base := base) T
    refine ⟨_, (pss_cons (ps_if (PW.pt (pw_or (pt_not (pt_val (pe_callB call_isi (by rfl) T.b_isinstance (by decide +kernel) (pa_cons (pv 0) (pa_cons (pe_bltn (v := .ty "list") (u := .type "list") (by rfl) T.b_list (by decide +kernel) rfl) pa_nil))))) (pw_or1 (pt_cmpR op_gt (pe_callB (r := rLenK K) call_len_seq (by rfl) T.b_len (by decide +kernel) (pa_cons (pv 0) pa_nil)) pe_int (nomark _))))) (pss_one (ps_ret pe_bl)) pss_nil)
      (pss_cons (ps_for PassesOwn.never rfl (pi_list (pv 0)) (pg_name (i := 1) sc_L_rows_of_wholes.nd rfl (Or.inl rfl))
        (pss_one (ps_if (PW.pt (pw_or (pt_not (pt_val (pe_call G_L_row_of_wholes (hr.mono (by decide)) (by rfl) g_L_row_of_wholes k_L_row_of_wholes b_L_row_of_wholes .nil pass0 (pa_cons (pv 1) pa_nil)))) (pw_or1 (pt_cmpR op_gt (pe_callB (r := rLenK K) call_len_seq (by rfl) T.b_len (by decide +kernel) (pa_cons (pv 1) pa_nil)) pe_int (nomark _))))) (pss_one (ps_ret pe_bl)) pss_nil)))
      (pss_one (ps_ret pe_bl)))), ?_⟩
    refine ⟨_, rfl, _, _, _, _, true, rfl, .ty _, ty_lst hps, kit_ty kll, ?_⟩
    refine ⟨_, rfl, iteF ?_⟩
    refine ⟨_, rfl, a, _, rfl, .inl (sqL_of hps), _, _, rfl, rfl, _, rfl, ?_⟩
    refine ifN (by rw [List.length_map]; omega) ?_
    refine ⟨_, rfl, a, rfl, ⟨_, sqL_of hps⟩, for_list (xs := ps.map V.ref) (fun i σ H' => ∃ x1 : Option V, σ = [some (.ref a), x1] ∧ H' = H)
      ⟨none, rfl, rfl⟩ (fun i σ H' _ ⟨_, _, e⟩ => by rw [e]; exact sqL_of hps) (fun i x σ H' hx hW => ?_) (fun σ H' hW => ?_)⟩
    · obtain ⟨x1, rfl, rfl⟩ := hW
      obtain ⟨pr, rfl, hpr⟩ := ref_get hx
      have hi : i < M.length := by rw [← lps]; exact (List.getElem?_eq_some_iff.mp hpr).1
      have hrow := kps i pr _ hpr (getD_at hi)
      have hm := l40 _ (List.mem_of_getElem? (getD_at hi))
      refine ⟨_, rfl, pr, _, rfl, hrow, ?_⟩
      refine ⟨_, rfl, iteF ?_⟩
      refine ⟨_, rfl, pr, _, rfl, .inl (sqL_of hrow), _, _, rfl, rfl, _, rfl, ?_⟩
      exact ifN (by rw [List.length_map]; omega) ⟨_, rfl, rfl⟩
    · obtain ⟨x1, rfl, rfl⟩ := hW
      exact hq
theorem ok_L_whole_paper_shaped (T : TX K mg) : FO P w K mg base 4 "_law_whole_paper_shaped" ["_law_found"] spLWPSh := by
  refine FO.mk T.d_L_whole_paper_shaped sc_L_whole_paper_shaped (fun _ _ _ _ _ _ us hl => match us, hl with | [_], _ => rfl) (fun vs H Q E h => ?_) (fun f cdv A outer s H vs Q E hr h => ?_)
  · obtain ⟨T5, aU, aP, aR, p, many, M, l, g, Ps, Us, bs, rfl, _⟩ := h; rfl
  · obtain ⟨T5, aU, aP, aR, p, many, M, l, g, Ps, Us, bs, rfl, hT, tU, lU, l40, PA, RA, hq⟩ := h
    obtain ⟨ps, hps, lps, kps⟩ := id tU
    obtain ⟨ts, hts, lts, kts⟩ := PA
    obtain ⟨rs, hrs, lrs, krs⟩ := RA.ex
    obtain ⟨f_L_whole, fd_L_whole, g_L_whole, k_L_whole, b_L_whole, G_L_whole⟩ := ok_L_whole (P := P) (w := w) (base := base) T
    obtain ⟨f_L_rows_of_wholes, fd_L_rows_of_wholes, g_L_rows_of_wholes, k_L_rows_of_wholes, b_L_rows_of_wholes, G_L_rows_of_wholes⟩ := ok_L_rows_of_wholes (P := P) (w := w) (base := base) T
    obtain ⟨f_L_paper_shaped, fd_L_paper_shaped, g_L_paper_shaped, k_L_paper_shaped, b_L_paper_shaped, G_L_paper_shaped⟩ := ok_L_paper_shaped (P := P) (w := w) (base := base) T
    obtain ⟨f_L_row_of_wholes, fd_L_row_of_wholes, g_L_row_of_wholes, k_L_row_of_wholes, b_L_row_of_wholes, G_L_row_of_wholes⟩ := ok_L_row_of_wholes (P := P) (w := w) (base := base) T
    refine ⟨_, (pss_cons (ps_if (PW.pt (pw_or (pt_not (pt_val (pe_callB call_isi (by rfl) T.b_isinstance (by decide +kernel) (pa_cons (pv 0) (pa_cons (pe_bltn (v := .ty "tuple") (u := .type "tuple") (by rfl) T.b_tuple (by decide +kernel) rfl) pa_nil))))) (pw_or (pt_cmpR op_ne (pe_callB (r := rLenK K) call_len_seq (by rfl) T.b_len (by decide +kernel) (pa_cons (pv 0) pa_nil)) pe_int (nomark _)) (pw_or (pt_not (pt_val (pe_call G_L_whole (hr.mono (by decide)) (by rfl) g_L_whole k_L_whole b_L_whole .nil pass0 (pa_cons (pe_ix (r := rIxT K) ix_tup (pv 0) pe_int (fun _ _ => rfl))  pa_nil)))) (pw_or1 (pt_not (pt_val (pe_call G_L_whole (hr.mono (by decide)) (by rfl) g_L_whole k_L_whole b_L_whole .nil pass0 (pa_cons (pe_ix (r := rIxT K) ix_tup (pv 0) pe_int (fun _ _ => rfl))  pa_nil))))))))) (pss_one (ps_ret pe_bl)) pss_nil)
      (pss_cons (ps_if (PW.pt (pw_or (pt_not (pt_val (pe_call G_L_rows_of_wholes (hr.mono (by decide)) (by rfl) g_L_rows_of_wholes k_L_rows_of_wholes b_L_rows_of_wholes .nil pass0 (pa_cons (pe_ix (r := rIxT K) ix_tup (pv 0) pe_int (fun _ _ => rfl))  pa_nil)))) (pw_or (pt_not (pt_val (pe_callB call_isi (by rfl) T.b_isinstance (by decide +kernel) (pa_cons (pe_ix (r := rIxT K) ix_tup (pv 0) pe_int (fun _ _ => rfl))  (pa_cons (pe_bltn (v := .ty "list") (u := .type "list") (by rfl) T.b_list (by decide +kernel) rfl) pa_nil))))) (pw_or1 (pt_not (pt_val (pe_callB call_isi (by rfl) T.b_isinstance (by decide +kernel) (pa_cons (pe_ix (r := rIxT K) ix_tup (pv 0) pe_int (fun _ _ => rfl))  (pa_cons (pe_bltn (v := .ty "list") (u := .type "list") (by rfl) T.b_list (by decide +kernel) rfl) pa_nil))))))))) (pss_one (ps_ret pe_bl)) pss_nil)
      (pss_cons (ps_for PassesOwn.never rfl (pi_list (pe_ix (r := rIxT K) ix_tup (pv 0) pe_int (fun _ _ => rfl)) ) (pg_name (i := 1) sc_L_whole_paper_shaped.nd rfl (Or.inl rfl))
        (pss_one (ps_if (pt_not (pt_val (pe_call G_L_paper_shaped (hr.mono (by decide)) (by rfl) g_L_paper_shaped k_L_paper_shaped b_L_paper_shaped .nil pass0 (pa_cons (pv 1) pa_nil)))) (pss_one (ps_ret pe_bl)) pss_nil)))
      (pss_cons (ps_for PassesOwn.never rfl (pi_list (pe_ix (r := rIxT K) ix_tup (pv 0) pe_int (fun _ _ => rfl)) ) (pg_name (i := 2) sc_L_whole_paper_shaped.nd rfl (Or.inl rfl))
        (pss_cons (ps_if (PW.pt (pw_or (pt_not (pt_val (pe_callB call_isi (by rfl) T.b_isinstance (by decide +kernel) (pa_cons (pv 2) (pa_cons (pe_bltn (v := .ty "tuple") (u := .type "tuple") (by rfl) T.b_tuple (by decide +kernel) rfl) pa_nil))))) (pw_or (pt_cmpR op_ne (pe_callB (r := rLenK K) call_len_seq (by rfl) T.b_len (by decide +kernel) (pa_cons (pv 2) pa_nil)) pe_int (nomark _)) (pw_or1 (pt_not (pt_val (pe_call G_L_whole (hr.mono (by decide)) (by rfl) g_L_whole k_L_whole b_L_whole .nil pass0 (pa_cons (pe_ix (r := rIxT K) ix_tup (pv 2) pe_int (fun _ _ => rfl)) pa_nil)))))))) (pss_one (ps_ret pe_bl)) pss_nil)
        (pss_one (ps_if (PW.pt (pw_or (pt_not (pt_val (pe_call G_L_row_of_wholes (hr.mono (by decide)) (by rfl) g_L_row_of_wholes k_L_row_of_wholes b_L_row_of_wholes .nil pass0 (pa_cons (pe_ix (r := rIxT K) ix_tup (pv 2) pe_int (fun _ _ => rfl)) pa_nil)))) (pw_or1 (pt_not (pt_val (pe_call G_L_row_of_wholes (hr.mono (by decide)) (by rfl) g_L_row_of_wholes k_L_row_of_wholes b_L_row_of_wholes .nil pass0 (pa_cons (pe_ix (r := rIxT K) ix_tup (pv 2) pe_int (fun _ _ => rfl)) pa_nil))))))) (pss_one (ps_ret pe_bl)) pss_nil))))
      (pss_one (ps_ret (pe_cmpR op_lt (pe_callB (r := rLenK K) call_len_seq (by rfl) T.b_len (by decide +kernel) (pa_cons (pe_ix (r := rIxT K) ix_tup (pv 0) pe_int (fun _ _ => rfl))  pa_nil)) pe_int (nomark _)))))))), ?_⟩
    refine ⟨_, rfl, _, _, _, _, true, rfl, .ty _, ty_tup hT, kit_ty ktt, ?_⟩
    refine ⟨_, rfl, iteF ?_⟩
    refine ⟨_, rfl, T5, _, rfl, .inr (sqT_of hT), rfl, _, rfl, ?_⟩
    refine ifEq rfl ?_
    refine ⟨_, rfl, T5, _, 0, _, rfl, rfl, sqT_of hT, atI_nat (j := 0) rfl, _, rfl, ?_⟩
    refine ⟨_, rfl, iteF ?_⟩
    refine ⟨_, rfl, T5, _, 1, _, rfl, rfl, sqT_of hT, atI_nat (j := 1) rfl, _, rfl, ?_⟩
    refine ⟨_, rfl, iteF ?_⟩
    refine ⟨_, rfl, T5, _, 2, _, rfl, rfl, sqT_of hT, atI_nat (j := 2) rfl, aU, Us, rfl, tU, by omega, l40, ?_⟩
    refine ⟨_, rfl, iteF ?_⟩
    refine ⟨_, rfl, T5, _, 3, _, rfl, rfl, sqT_of hT, atI_nat (j := 3) rfl, _, _, _, _, true, rfl, .ty _, ty_lst hts, kit_ty kll, ?_⟩
    refine ⟨_, rfl, iteF ?_⟩
    refine ⟨_, rfl, T5, _, 4, _, rfl, rfl, sqT_of hT, atI_nat (j := 4) rfl, _, _, _, _, true, rfl, .ty _, ty_lst hrs, kit_ty kll, ?_⟩
    refine ⟨_, rfl, iteF ?_⟩
    refine ⟨_, rfl, T5, _, 3, _, rfl, rfl, sqT_of hT, atI_nat (j := 3) rfl, aP, rfl, ⟨_, sqL_of hts⟩, for_list (xs := ts.map V.ref) (fun i σ H' => ∃ x1 : Option V, σ = [some (.ref T5), x1, none] ∧ H' = H)
      ⟨none, rfl, rfl⟩ (fun i σ H' _ ⟨_, _, e⟩ => by rw [e]; exact sqL_of hts) (fun i x σ H' hx hW => ?_) (fun σ H' hW => ?_)⟩
    · obtain ⟨x1, rfl, rfl⟩ := hW
      obtain ⟨pr, rfl, hpr⟩ := ref_get hx
      obtain ⟨q1, q2, aR', x, y, right, k1, k2, k3, k4, _⟩ := kts i pr hpr
      refine ⟨_, rfl, pr, q1, q2, aR', x, y, right, rfl, k1, k2, k3, k4, ?_⟩
      exact ⟨_, rfl, iteF ⟨_, rfl, rfl⟩⟩
    · obtain ⟨x1, rfl, rfl⟩ := hW
      refine ⟨_, rfl, T5, _, 4, _, rfl, rfl, sqT_of hT, atI_nat (j := 4) rfl, aR, rfl, ⟨_, sqL_of hrs⟩, for_list (xs := rs.map V.ref) (fun i σ H'' => ∃ x2 : Option V, σ = [some (.ref T5), x1, x2] ∧ H'' = H')
        ⟨none, rfl, rfl⟩ (fun i σ H' _ ⟨_, _, e⟩ => by rw [e]; exact sqL_of hrs) (fun i x σ H' hx hW => ?_) (fun σ H' hW => ?_)⟩
      · obtain ⟨x2, rfl, rfl⟩ := hW
        obtain ⟨pr, rfl, hpr⟩ := ref_get hx
        have hi : i < bs.length := by rw [← lrs]; exact (List.getElem?_eq_some_iff.mp hpr).1
        obtain ⟨pq, pr', q, r, k1, k2, k3, _⟩ := krs i pr _ hpr (List.getElem?_eq_getElem hi)
        refine ⟨_, rfl, _, _, _, _, true, rfl, .ty _, ty_tup k1, kit_ty ktt, ?_⟩
        refine ⟨_, rfl, iteF ?_⟩
        refine ⟨_, rfl, pr, _, rfl, .inr (sqT_of k1), rfl, _, rfl, ?_⟩
        refine ifEq rfl ?_
        refine ⟨_, rfl, pr, _, 0, _, rfl, rfl, sqT_of k1, atI_nat (j := 0) rfl, _, rfl, ?_⟩
        refine ⟨_, rfl, iteF ?_⟩
        refine ⟨_, rfl, pr, _, 1, _, rfl, rfl, sqT_of k1, atI_nat (j := 1) rfl, pq, q, rfl, k2, ?_⟩
        refine ⟨_, rfl, iteF ?_⟩
        refine ⟨_, rfl, pr, _, 2, _, rfl, rfl, sqT_of k1, atI_nat (j := 2) rfl, pr', r, rfl, k3, ?_⟩
        exact ⟨_, rfl, iteF ⟨_, rfl, rfl⟩⟩
      · obtain ⟨x2, rfl, rfl⟩ := hW
        refine ⟨_, rfl, T5, _, 2, _, rfl, rfl, sqT_of hT, atI_nat (j := 2) rfl, aU, _, rfl, .inl (sqL_of hps), _, _, rfl, rfl, ?_⟩
        have e : decide ((((ps.map V.ref).length : Nat) : Int) < 14) = true := decide_eq_true (by rw [List.length_map]; omega)
        show Q (V.bl (decide ((((ps.map V.ref).length : Nat) : Int) < 14))) H'
        rw [e]; exact hq
end
end FF
end
section
set_option Elab.async false
set_option linter.all false
set_option maxRecDepth 100000
set_option maxHeartbeats 4000000
/-! FL7: the law's own defs: sets, candidates, bars. -/
namespace FF
open PySem PySem.Spec PyProof.Rows L2
def onesF : Nat → Nat → Nat
  | 0, _ => 0
  | n + 1, b => b % 2 + onesF n (b / 2)
theorem onesF_zero : ∀ n, onesF n 0 = 0
  | 0 => rfl
  | n + 1 => by rw [onesF, onesF_zero n]
def lawBits (c few : Nat) (n : Nat) : List Nat := ((List.range n).map (· + 1)).filter fun b => onesF 10 b == few
def lawSets (c : Nat) (n : Nat) : List Nat := (List.range n).flatMap fun i => lawBits c (i + 1) (2 ^ c - 1)
theorem lawSets_eq : ∀ c, c < 6 → (lawSets c (c / 2)).map (fun b : Nat => (b : Int)) = setsAll c := by decide +kernel
theorem lawBits_succ (c few n : Nat) : lawBits c few (n + 1) = lawBits c few n ++ (if onesF 10 (n + 1) = few then [n + 1] else []) := by
  unfold lawBits
  rw [List.range_succ, List.map_append, List.filter_append]
  congr 1
  simp only [List.map_cons, List.map_nil, List.filter_cons, List.filter_nil]
  by_cases h : onesF 10 (n + 1) = few
  · rw [if_pos h, if_pos (by simpa using h)]
  · rw [if_neg h, if_neg (by simpa using h)]
theorem lawBits_len (c few n : Nat) : (lawBits c few n).length ≤ n := by
  unfold lawBits
  refine Nat.le_trans (List.length_filter_le _ _) (by simp)
theorem lawSets_succ (c n : Nat) : lawSets c (n + 1) = lawSets c n ++ lawBits c (n + 1) (2 ^ c - 1) := by
  unfold lawSets
  rw [List.range_succ, List.flatMap_append]
  simp
theorem lawSets_len (c : Nat) : ∀ n, (lawSets c n).length ≤ n * 2 ^ c
  | 0 => by simp [lawSets]
  | n + 1 => by
    rw [lawSets_succ, List.length_append, Nat.succ_mul]
    have := lawSets_len c n
    have := lawBits_len c (n + 1) (2 ^ c - 1)
    generalize 2 ^ c = z at *
    omega
def spLOnes : Sp := fun vs H Q _ => ∃ b : Nat, vs = [.int b] ∧ b < 2 ^ 10 ∧ Q (.int (onesF 10 b)) H
def spLSets : Sp := fun vs H Q _ => ∃ c : Nat, vs = [.int c] ∧ c < 6 ∧ NewL H (setsAll c) Q
def spLCand (K : PySem.W.Frag) : Sp := fun vs H Q _ => ∃ (a b : Addr) (N : Int) (f f0 : List Int) (l : Int) (ups : List (List Int)) (bits : Nat), vs = [.ref a, .int N, .ref b, .int bits] ∧ SqL K H a (f.map V.int) ∧ f = f0 ++ [l] ∧ 0 < N ∧ N < 2 ^ 62 ∧ Tab H b ups ∧ ups.length ≤ 10 ∧ (∀ u ∈ ups, u.length ≤ 20) ∧
  ∀ made : List Int, FF.cl N made = C l * selP N ups bits ups.length → NewL H (nearL N made) Q
def spLBarred (K : PySem.W.Frag) : Sp := fun vs H Q _ => ∃ (ag ac aq ar : Addr) (g g0 c c0 q r : List Int) (l lg : Int), vs = [.ref ag, .ref ac, .ref aq, .ref ar] ∧ SqL K H ag (g.map V.int) ∧ SqL K H ac (c.map V.int) ∧ SqL K H aq (q.map V.int) ∧ SqL K H ar (r.map V.int) ∧ g.length ≤ 100 ∧ g = g0 ++ [lg] ∧ lg ≠ 0 ∧ c = c0 ++ [l] ∧ l ≠ 0 ∧ (∀ x ∈ c, -(2 ^ 64) < x ∧ x < 2 ^ 64) ∧ c.length ≤ g.length ∧ r.length < c.length ∧ r ≠ [] ∧ StR g c l (g.length - c.length + 1) q r ∧ ∀ H', Same H H' → Q (.bl true) H'
theorem cn_range' {N : Int} (hN : 0 < N) {l : List Int} (h : Cn N l) {x : Int} (hx : x ∈ l) : 0 ≤ x ∧ x < N := by
  have h1 := h.1 x hx
  have h2 := Int.emod_nonneg x (b := N) (by omega)
  have h3 := Int.emod_lt_of_pos x hN
  omega
theorem scl_one (f : List Int) : sclL 1 f = f := by
  unfold sclL
  conv => rhs; rw [← List.map_id f]
  apply List.map_congr_left
  intro x _
  exact Int.one_mul x
section
variable {P : Program} {w : World} {K : PySem.W.Frag} {mg : Str → Option Value} {base : Heap}
theorem ok_L_ones (T : TX K mg) : FO P w K mg base 1 "_law_ones" ["_law_bits"] spLOnes := by
  refine FO.mk T.d_L_ones sc_L_ones (fun _ _ _ _ _ _ us hl => match us, hl with | [_], _ => rfl) (fun vs H Q E h => ?_) (fun f cdv A outer s H vs Q E hr h => ?_)
  · obtain ⟨b, rfl, _⟩ := h; rfl
  · obtain ⟨b, rfl, hb, hq⟩ := h
    refine ⟨_, (pss_cons (ps_set (i := 1) sc_L_ones.nd rfl (Or.inl rfl) pe_int)
      (pss_cons (ps_while PassesOwn.never (pt_cmpR op_gt (pv 0) pe_int (nomark _))
        (pss_cons (ps_set (i := 1) sc_L_ones.nd rfl (Or.inl rfl) (pe_op op_add (pv 1) (pe_op op_modN (pv 0) pe_int)))
        (pss_one (ps_set (i := 0) sc_L_ones.nd rfl (Or.inl rfl) (pe_op op_fdivN (pv 0) pe_int)))))
      (pss_one (ps_ret (pv 1))))), ?_⟩
    refine ⟨fun m σ H' => ∃ (k b' acc : Nat), m = k ∧ σ = [some (.int b'), some (.int acc)] ∧ H' = H ∧ b' < 2 ^ k ∧ acc + onesF k b' = onesF 10 b, ⟨_, 10, b, 0, rfl, rfl, rfl, hb, by omega⟩, fun m σ H' hW => ?_⟩
    obtain ⟨k, b', acc, rfl, rfl, rfl, hb', e⟩ := hW
    refine ⟨_, rfl, _, _, rfl, rfl, _, rfl, ?_⟩
    by_cases h0 : b' = 0
    · refine ifN (by omega) ?_
      rw [h0, onesF_zero] at e
      have e2 : acc = onesF 10 b := by omega
      rw [e2]
      exact ⟨_, rfl, hq⟩
    · refine ifD (by omega) ?_
      match m, hb', e with
      | 0, hb', e => exact absurd hb' (by simp; omega)
      | m + 1, hb', e =>
        refine ⟨fun σ' H2 => σ' = [some (.int ((b' / 2 : Nat) : Int)), some (.int ((acc + b' % 2 : Nat) : Int))] ∧ H2 = H', fun σ' H2 ⟨e1, e2⟩ => ⟨m, by omega, m, b' / 2, acc + b' % 2, rfl, e1, e2, by rw [Nat.pow_succ] at hb'; omega, by rw [onesF] at e; omega⟩, ?_⟩
        have e3 : ((b' : Int)).fmod 2 = ((b' % 2 : Nat) : Int) := by rw [Int.fmod_eq_emod_of_nonneg _ (by decide)]; rfl
        have e4 : ((b' : Int)).fdiv 2 = ((b' / 2 : Nat) : Int) := by rw [Int.fdiv_eq_ediv_of_nonneg _ (by decide)]; rfl
        refine ⟨_, rfl, _, rfl, _, _, rfl, rfl, (show (2 : Int) ≠ 0 by decide), _, _, rfl, rfl, _, rfl, _, _, rfl, rfl, ⟨by decide, by decide⟩, ?_, rfl⟩
        dsimp only
        rw [e3, e4]; rfl
theorem ok_L_sets (T : TX K mg) : FO P w K mg base 2 "_law_sets" ["_law_count"] spLSets := by
  refine FO.mk T.d_L_sets sc_L_sets (fun _ _ _ _ _ _ us hl => match us, hl with | [_], _ => rfl) (fun vs H Q E h => ?_) (fun f cdv A outer s H vs Q E hr h => ?_)
  · obtain ⟨c, rfl, _⟩ := h; rfl
  · obtain ⟨c, rfl, hc, hq⟩ := h
    obtain ⟨f_L_ones, fd_L_ones, g_L_ones, k_L_ones, b_L_ones, G_L_ones⟩ := ok_L_ones (P := P) (w := w) (base := base) T
    refine ⟨_, (pss_cons (ps_set (i := 1) sc_L_sets.nd rfl (Or.inl rfl) (pe_lst pa_nil))
      (pss_cons (ps_for PassesOwn.never rfl (pi_range2 (by rfl) T.b_range (pa_cons pe_int (pa_cons (pe_op op_add (pe_op op_fdivN (pv 0) pe_int) pe_int) pa_nil))) (pg_name (i := 2) sc_L_sets.nd rfl (Or.inl rfl))
        (pss_one (ps_for PassesOwn.never rfl (pi_range2 (by rfl) T.b_range (pa_cons pe_int (pa_cons (pe_op op_shl pe_int (pv 0)) pa_nil))) (pg_name (i := 3) sc_L_sets.nd rfl (Or.inl rfl))
          (pss_one (ps_if (pt_cmpR op_eq (pe_call G_L_ones (hr.mono (by decide)) (by rfl) g_L_ones k_L_ones b_L_ones .nil pass0 (pa_cons (pv 3) pa_nil)) (pv 2) (nomark _)) (pss_one (ps_expr (pe_bm PySem.F.plainAttrs_list PySem.F.slot_list_append PySem.F.type_list_append mt_append (pv 1) (pa_cons (pv 3) pa_nil)))) pss_nil)))))
      (pss_one (ps_ret (pv 1))))), ?_⟩
    refine ⟨by show 0 ≤ sizeLine; decide, fun D nD => ?_⟩
    have sD : Same H (upd H D (.lst [])) := same_new (Same.refl _) nD
    have e4 : ((c : Int)).fdiv 2 = ((c / 2 : Nat) : Int) := by rw [Int.fdiv_eq_ediv_of_nonneg _ (by decide)]; rfl
    have h2c : 2 ^ c ≤ 2 ^ 5 := Nat.pow_le_pow_right (by decide) (by omega)
    refine ⟨_, rfl, _, _, rfl, rfl, ⟨by decide, by decide⟩, _, _, rfl, rfl, 1, ((c / 2 + 1 : Nat) : Int), ?_, ⟨by omega, by omega, by omega, by omega⟩, for_range (lo := 1) (fun k σ H' => ∃ (x2 x3 : Option V), σ = [some (.int (c : Nat)), some (.ref D), x2, x3] ∧ Same H H' ∧ H' D = some (.lst ((lawSets c k).map fun b : Nat => V.int b)))
      ⟨none, none, rfl, sD, upd_same⟩ (fun k σ H' hk hW => ?_) (fun σ H' hW => ?_)⟩
    · dsimp only; rw [e4]; rfl
    · obtain ⟨x2, x3, rfl, sm, hD⟩ := hW
      have hk2 : k < c / 2 := by omega
      obtain ⟨z, hz⟩ : ∃ z : Nat, z = 2 ^ c := ⟨_, rfl⟩
      have e5 : (1 : Int) * 2 ^ ((c : Nat) : Int).toNat = (z : Int) := by rw [hz]; simp
      have hz32 : z ≤ 32 := by rw [hz]; exact h2c
      refine ⟨_, rfl, 1, _, rfl, rfl, ⟨by omega, by omega, by decide⟩, 1, (z : Int), ?_, ⟨by omega, by omega, by omega, by omega⟩, for_range (lo := 1) (fun j σ H' => ∃ (x3 : Option V), σ = [some (.int (c : Nat)), some (.ref D), some (.int ((k + 1 : Nat) : Int)), x3] ∧ Same H H' ∧ H' D = some (.lst ((lawSets c k ++ lawBits c (k + 1) j).map fun b : Nat => V.int b)))
        ⟨x3, ?_, sm, by rw [hD]; simp [lawBits]⟩ (fun j σ H' hj hW => ?_) (fun σ H' hW => ?_)⟩
      · dsimp only; rw [e5]
      · rw [show (1 : Int) + (k : Int) = ((k + 1 : Nat) : Int) by omega]; rfl
      · obtain ⟨x3, rfl, sm, hD⟩ := hW
        have hj2 : j < 2 ^ c - 1 := by rw [← hz]; omega
        have e6 : (1 : Int) + (j : Int) = ((j + 1 : Nat) : Int) := by omega
        refine ⟨_, rfl, j + 1, congrArg (fun z => [V.int z]) e6, by omega, ?_⟩
        have lL := lawSets_len c k
        have lB := lawBits_len c (k + 1) j
        have lk : k * 2 ^ c ≤ 5 * 32 := Nat.mul_le_mul (by omega) (by omega)
        have e1 := lawBits_succ c (k + 1) j
        refine ⟨_, rfl, rfl, _, rfl, ?_⟩
        by_cases ho : onesF 10 (j + 1) = k + 1
        · refine ifD (vint.mpr (by omega)) ?_
          rw [if_pos ho] at e1
          refine ⟨_, rfl, .inl ⟨rfl, _, sqL_of hD⟩, _, rfl, D, _, _, rfl, rfl, hD, small_lt (by simp; omega), ?_⟩
          refine ⟨_, rfl, same_new sm nD, ?_⟩
          rw [upd_same, e1, ← List.append_assoc, List.map_append (l₂ := [j + 1]), e6]; rfl
        · refine ifN (fun z => ho (by have := vint.mp z; omega)) ?_
          rw [if_neg ho, List.append_nil] at e1
          exact ⟨_, rfl, sm, by rw [e1]; exact hD⟩
      · obtain ⟨x3, rfl, sm, hD⟩ := hW
        refine ⟨_, _, rfl, sm, ?_⟩
        rw [hD, lawSets_succ]
        rw [show ((z : Int) - 1).toNat = 2 ^ c - 1 by rw [← hz]; omega]
    · obtain ⟨x2, x3, rfl, sm, hD⟩ := hW
      refine ⟨_, rfl, hq H' D sm nD ?_⟩
      rw [hD, show (((c / 2 + 1 : Nat) : Int) - 1).toNat = c / 2 by omega, ← lawSets_eq c hc, List.map_map]; rfl
theorem ok_L_candidate (T : TX K mg) : FO P w K mg base 3 "_law_candidate" ["_law_g", "_law_size", "_law_ups", "_law_bits"] (spLCand K) := by
  refine FO.mk T.d_L_candidate sc_L_candidate (fun _ _ _ _ _ _ us hl => match us, hl with | [_, _, _, _], _ => rfl) (fun vs H Q E h => ?_) (fun f cdv A outer s H vs Q E hr h => ?_)
  · obtain ⟨a, b, N, f, f0, l, ups, bits, rfl, _⟩ := h; rfl
  · obtain ⟨a, b, N, f, f0, l, ups, bits, rfl, hf, ef, hN, hN2, tU, lU, hU, hq⟩ := h
    obtain ⟨f_L_times, fd_L_times, g_L_times, k_L_times, b_L_times, G_L_times⟩ := ok_L_times (P := P) (w := w) (base := base) T
    obtain ⟨f_L_trim, fd_L_trim, g_L_trim, k_L_trim, b_L_trim, G_L_trim⟩ := ok_L_trim (P := P) (w := w) (base := base) T
    refine ⟨_, (pss_cons (ps_set (i := 4) sc_L_candidate.nd rfl (Or.inl rfl) (pe_lst (pa_cons (pe_op op_modN (pe_ix (r := rIxL K) ix_list (pv 0) (pe_un un_neg pe_int) (fun _ _ => rfl)) (pv 1)) pa_nil)))
      (pss_cons (ps_for PassesOwn.never rfl (pi_range1 (by rfl) T.b_range (pa_cons (pe_callB (r := rLenK K) call_len_seq (by rfl) T.b_len (by decide +kernel) (pa_cons (pv 2) pa_nil)) pa_nil)) (pg_name (i := 5) sc_L_candidate.nd rfl (Or.inl rfl))
        (pss_one (ps_if (pt_cmpR op_eq (pe_op op_modN (pe_op op_shr (pv 3) (pv 5)) pe_int) pe_int (nomark _)) (pss_one (ps_set (i := 4) sc_L_candidate.nd rfl (Or.inl rfl) (pe_call G_L_times (hr.mono (by decide)) (by rfl) g_L_times k_L_times b_L_times .nil pass0 (pa_cons (pv 4) (pa_cons (pe_ix (r := rIxL K) ix_list (pv 2) (pv 5) (fun _ _ => rfl)) (pa_cons (pv 1) pa_nil)))))) pss_nil)))
      (pss_cons (ps_set (i := 6) sc_L_candidate.nd rfl (Or.inl rfl) (pe_lst pa_nil))
      (pss_cons (ps_for PassesOwn.never rfl (pi_list (pv 4)) (pg_name (i := 7) sc_L_candidate.nd rfl (Or.inl rfl))
        (pss_cons (ps_set (i := 7) sc_L_candidate.nd rfl (Or.inl rfl) (pe_op op_modN (pv 7) (pv 1)))
        (pss_cons (ps_if (pt_cmpR op_gt (pe_op op_add (pv 7) (pv 7)) (pv 1) (nomark _)) (pss_one (ps_set (i := 7) sc_L_candidate.nd rfl (Or.inl rfl) (pe_op op_sub (pv 7) (pv 1)))) pss_nil)
        (pss_one (ps_expr (pe_bm PySem.F.plainAttrs_list PySem.F.slot_list_append PySem.F.type_list_append mt_append (pv 6) (pa_cons (pv 7) pa_nil)))))))
      (pss_one (ps_ret (pe_call G_L_trim (hr.mono (by decide)) (by rfl) g_L_trim k_L_trim b_L_trim .nil pass0 (pa_cons (pv 6) (pa_cons pe_int pa_nil))))))))), ?_⟩
    have hlast : atI (f.map V.int) (-1) = some (.int l) := by rw [ef]; exact at_last f0 l
    have eN : ∀ x : Int, x.fmod N = x % N := fun x => Int.fmod_eq_emod_of_nonneg x (by omega)
    have m0 : ∀ x : Int, 0 ≤ x % N ∧ x % N < N := fun x => ⟨Int.emod_nonneg _ (by omega), Int.emod_lt_of_pos _ hN⟩
    refine ⟨_, rfl, 1, rfl, a, _, -1, _, rfl, rfl, hf, hlast, _, rfl, l, N, rfl, rfl, (show N ≠ 0 by omega), by show 1 ≤ sizeLine; decide, fun pM nM => ?_⟩
    have sM : Same H (upd H pM (.lst [.int (l.fmod N)])) := same_nw (Same.refl _) nM
    have hM : (upd H pM (.lst [.int (l.fmod N)])) pM = some (.lst (([l % N] : List Int).map V.int)) := by rw [upd_same, eN]; rfl
    obtain ⟨H2, eH2⟩ : ∃ H2, H2 = upd H pM (.lst [.int (l.fmod N)]) := ⟨_, rfl⟩
    show gName 4 (.ref pM) _ (upd H pM (.lst [.int (l.fmod N)])) _
    rw [← eH2] at sM hM ⊢
    obtain ⟨pu, hpu, lpu, kpu⟩ := tU.same sM
    refine ⟨_, rfl, b, _, rfl, .inl (sqL_of hpu), ((ups.length : Nat) : Int), (show [V.int ((pu.map V.ref).length : Nat)] = [V.int ((ups.length : Nat) : Int)] from congrArg (fun z : Nat => [V.int z]) (by rw [List.length_map]; exact lpu)), by omega, by omega, for_range (lo := 0) (n := ((ups.length : Nat) : Int).toNat) (fun k σ H' => ∃ (made : List Int) (pm : Addr) (x5 : Option V), σ = [some (.ref a), some (.int N), some (.ref b), some (.int bits), some (.ref pm), x5, none, none] ∧ Same H2 H' ∧ H' pm = some (.lst (made.map V.int)) ∧ (∀ x ∈ made, 0 ≤ x ∧ x < N) ∧ made.length ≤ 1 + 20 * k ∧ FF.cl N made = C l * selP N ups bits k)
      ⟨[l % N], pM, none, rfl, Same.refl _, hM, fun x hx => by rw [List.mem_singleton] at hx; rw [hx]; exact m0 l, by simp, ?_⟩ (fun i σ H' hi hP => ?_) (fun σ H' hP => ?_)⟩
    · rw [cl_cons, cl_nil, C_mod]; show C l + _ = C l * 1; grind
    · obtain ⟨made, pm, x5, rfl, sm, hm, rm, lm, em⟩ := hP
      have hi1 : i < ups.length := hi
      have pk : pu[i]? = some pu[i] := List.getElem?_eq_getElem (by omega)
      have hrow := sm _ _ (kpu i _ _ pk (getD_at hi1))
      have mU : ups.getD i [] ∈ ups := List.mem_of_getElem? (getD_at hi1)
      have eb : ∀ z : Int, z = 0 + (i : Int) → ((bits : Int) / 2 ^ z.toNat).fmod 2 = ((bits / 2 ^ i % 2 : Nat) : Int) := fun z e => by
        have e1 : z.toNat = i := by omega
        rw [e1, Int.fmod_eq_emod_of_nonneg _ (by decide)]
        simp
      refine ⟨_, rfl, _, rfl, _, _, rfl, rfl, (show (0 : Int) ≤ 0 + (i : Int) by omega), _, _, rfl, rfl, (show (2 : Int) ≠ 0 by decide), rfl, _, rfl, ?_⟩
      have l20 : 20 * i ≤ 200 := by omega
      by_cases hbit : bits / 2 ^ i % 2 = 1
      · refine ifD (vint.mpr ((eb _ rfl).trans (by rw [hbit]; rfl))) ?_
        have lu := hU _ mU
        have a2 : ∀ z : Int, z = ((i : Nat) : Int) → atI (pu.map V.ref) z = some (.ref pu[i]) := fun z e => by rw [e]; exact atI_nat (by rw [List.getElem?_map, pk]; rfl)
        refine ⟨_, rfl, _, rfl, _, rfl, b, _, _, _, rfl, rfl, sqL_of (sm _ _ hpu), a2 _ (Int.zero_add _), _, rfl, pm, pu[i], N, made, ups.getD i [], rfl, by omega, sqL_of hm, sqL_of hrow, by omega, by omega, fun x hx y hy => .inl (by have := rm x hx; omega), fun H5 p5 s5 n5 h5 => ?_⟩
        refine ⟨_, p5, _, rfl, sm.trans s5, h5, fun x hx => cn_range' hN (tr_Cn _) hx, ?_, ?_⟩
        · have h1 := tr_len (N := N) (mulL made (ups.getD i []))
          have h2 := mul_len made (ups.getD i [])
          omega
        · rw [cl_tr, cl_mul, em, selP, if_pos hbit]; grind
      · refine ifN (fun z => hbit ?_) ?_
        · have h1 := (eb _ rfl).symm.trans (vint.mp z)
          omega
        · refine ⟨made, pm, _, rfl, sm, hm, rm, by omega, ?_⟩
          rw [selP, if_neg hbit]; exact em
    · obtain ⟨made, pm, x5, rfl, sm, hm, rm, lm, em⟩ := hP
      have em2 : FF.cl N made = C l * selP N ups bits ups.length := em
      have lm2 : made.length ≤ 1 + 20 * ups.length := lm
      refine ⟨by show 0 ≤ sizeLine; decide, fun pE nE => ?_⟩
      have sE : Same H' (upd H' pE (.lst [])) := same_new (Same.refl _) nE
      have hm2 := sE _ _ hm
      refine ⟨_, rfl, pm, rfl, ⟨_, sqL_of hm2⟩, for_list (xs := made.map V.int) (fun k σ H'' => ∃ (x7 : Option V), σ = [some (.ref a), some (.int N), some (.ref b), some (.int bits), some (.ref pm), x5, some (.ref pE), x7] ∧ Same H' H'' ∧ H'' pE = some (.lst (((made.take k).map (near N)).map V.int)))
        ⟨none, rfl, sE, upd_same⟩ (fun k σ H'' _ ⟨_, _, s, _⟩ => sqL_of (s _ _ hm)) (fun k x σ H'' hx hW => ?_) (fun σ H'' hW => ?_)⟩
      · obtain ⟨x7, rfl, s7, h7⟩ := hW
        obtain ⟨rfl, hk⟩ := map_get hx
        have et : made.take (k + 1) = made.take k ++ [co made k] := by rw [List.take_succ_eq_append_getElem hk, co_lt hk]
        have hfin : upd H'' pE (.lst (((made.take k).map (near N)).map V.int ++ [.int (near N (co made k))])) pE = some (.lst (((made.take (k + 1)).map (near N)).map V.int)) := by
          rw [upd_same, et, List.map_append, List.map_append]; rfl
        refine ⟨_, rfl, _, rfl, _, _, rfl, rfl, (show N ≠ 0 by omega), _, rfl, _, rfl, _, _, rfl, rfl, _, rfl, _, _, rfl, rfl, _, rfl, ?_⟩
        have lk : k < 300 := by omega
        by_cases hgt : N < (co made k).fmod N + (co made k).fmod N
        · refine ifD hgt ?_
          refine ⟨_, rfl, _, rfl, _, _, rfl, rfl, _, rfl, .inl ⟨rfl, _, sqL_of h7⟩, _, rfl, pE, _, _, rfl, rfl, h7, small_lt (by simp; omega), ?_⟩
          refine ⟨_, rfl, same_new s7 nE, ?_⟩
          rw [← hfin]
          have ev : near N (co made k) = (co made k).fmod N - N := by unfold near; rw [← eN, if_pos (by omega)]
          rw [ev]
        · refine ifN hgt ?_
          refine ⟨_, rfl, .inl ⟨rfl, _, sqL_of h7⟩, _, rfl, pE, _, _, rfl, rfl, h7, small_lt (by simp; omega), ?_⟩
          refine ⟨_, rfl, same_new s7 nE, ?_⟩
          rw [← hfin]
          have ev : near N (co made k) = (co made k).fmod N := by unfold near; rw [← eN, if_neg (by omega)]
          rw [ev]
      · obtain ⟨x7, rfl, s7, h7⟩ := hW
        rw [List.length_map, List.take_length] at h7
        refine ⟨_, rfl, pE, 0, _, rfl, by omega, sqL_of h7, by rw [List.length_map]; omega, fun H8 p8 s8 n8 h8 => ?_⟩
        exact hq made em2 H8 p8 (sM.trans (sm.trans (s7.trans s8))) ((sM.trans (sm.trans s7)).free n8) h8
theorem ok_L_barred (T : TX K mg) : FO P w K mg base 3 "_law_barred" ["_law_g", "_law_c", "_law_q", "_law_r"] (spLBarred K) := by
  refine FO.mk T.d_L_barred sc_L_barred (fun _ _ _ _ _ _ us hl => match us, hl with | [_, _, _, _], _ => rfl) (fun vs H Q E h => ?_) (fun f cdv A outer s H vs Q E hr h => ?_)
  · obtain ⟨ag, ac, aq, ar, g, g0, c, c0, q, r, l, lg, rfl, _⟩ := h; rfl
  · obtain ⟨ag, ac, aq, ar, g, g0, c, c0, q, r, l, lg, rfl, hg, hc, hq', hr', lg100, eg, hlg, ec, hl, bc, lcg, lrc, hrn, S, hq⟩ := h
    obtain ⟨f_L_trim, fd_L_trim, g_L_trim, k_L_trim, b_L_trim, G_L_trim⟩ := ok_L_trim (P := P) (w := w) (base := base) T
    obtain ⟨f_L_plus, fd_L_plus, g_L_plus, k_L_plus, b_L_plus, G_L_plus⟩ := ok_L_plus (P := P) (w := w) (base := base) T
    obtain ⟨f_L_times, fd_L_times, g_L_times, k_L_times, b_L_times, G_L_times⟩ := ok_L_times (P := P) (w := w) (base := base) T
    refine ⟨_, (pss_cons (ps_set (i := 4) sc_L_barred.nd rfl (Or.inl rfl) (pe_call G_L_trim (hr.mono (by decide)) (by rfl) g_L_trim k_L_trim b_L_trim .nil pass0 (pa_cons (pv 3) (pa_cons pe_int pa_nil))))
      (pss_cons (ps_if (PW.pt (pw_or (pt_cmpR op_eq (pe_callB (r := rLenK K) call_len_seq (by rfl) T.b_len (by decide +kernel) (pa_cons (pv 1) pa_nil)) pe_int (nomark _)) (pw_or (pt_cmpR op_eq (pe_callB (r := rLenK K) call_len_seq (by rfl) T.b_len (by decide +kernel) (pa_cons (pv 4) pa_nil)) pe_int (nomark _)) (pw_or (pt_cmpR op_ge (pe_callB (r := rLenK K) call_len_seq (by rfl) T.b_len (by decide +kernel) (pa_cons (pv 4) pa_nil)) (pe_callB (r := rLenK K) call_len_seq (by rfl) T.b_len (by decide +kernel) (pa_cons (pv 1) pa_nil)) (nomark _)) (pw_or1 (pt_cmpR op_gt (pe_callB (r := rLenK K) call_len_seq (by rfl) T.b_len (by decide +kernel) (pa_cons (pv 1) pa_nil)) (pe_callB (r := rLenK K) call_len_seq (by rfl) T.b_len (by decide +kernel) (pa_cons (pv 0) pa_nil)) (nomark _))))))) (pss_one (ps_ret pe_bl)) pss_nil)
      (pss_cons (ps_set (i := 5) sc_L_barred.nd rfl (Or.inl rfl) (pe_callTy call_list_of (by rfl) T.b_list (by decide +kernel) (pa_cons (pv 0) pa_nil)))
      (pss_cons (ps_for PassesOwn.never rfl (pi_range1 (by rfl) T.b_range (pa_cons (pe_op op_add (pe_op op_sub (pe_callB (r := rLenK K) call_len_seq (by rfl) T.b_len (by decide +kernel) (pa_cons (pv 0) pa_nil)) (pe_callB (r := rLenK K) call_len_seq (by rfl) T.b_len (by decide +kernel) (pa_cons (pv 1) pa_nil))) pe_int) pa_nil)) (pg_name (i := 6) sc_L_barred.nd rfl (Or.inl rfl))
        (pss_one (ps_setLc (i := 5) (own := [("_law_number", 7)])  rfl sc_L_barred.nd rfl rfl (sw_true rfl rfl rfl (by decide +kernel)) (pi_list (pv 5)) (blkOk_by (N := n_L_barred) (sc := defScope s_L_barred) (by decide +kernel)) (fun _ _ _ _ _ => (pg_name (i := 7) sc_L_barred.nd rfl (Or.inl rfl))) (fun _ _ _ _ _ => pts_nil) (fun _ _ _ _ _ => (pe_op op_mul (pe_ix (r := rIxL K) ix_list (pv 1) (pe_un un_neg pe_int) (fun _ _ => rfl)) (pv 7))))))
      (pss_one (ps_ret (pe_cmpR (op_eqD hr.units) (pe_call G_L_plus (hr.mono (by decide)) (by rfl) g_L_plus k_L_plus b_L_plus .nil pass0 (pa_cons (pe_call G_L_times (hr.mono (by decide)) (by rfl) g_L_times k_L_times b_L_times .nil pass0 (pa_cons (pv 2) (pa_cons (pv 1) (pa_cons pe_int pa_nil)))) (pa_cons (pv 4) (pa_cons pe_int pa_nil)))) (pv 5) (nomark _)))))))), ?_⟩
    have hlast : atI (c.map V.int) (-1) = some (.int l) := by rw [ec]; exact at_last c0 l
    have lq := S.lq
    refine ⟨_, rfl, ar, 0, r, rfl, by omega, hr', by omega, fun H1 p1 s1 n1 h1 => ?_⟩
    rw [tr_id S.cr] at h1
    have lr0 : 0 < r.length := List.length_pos_iff.mpr hrn
    refine ⟨_, rfl, ac, _, rfl, .inl (s1.seq hc), rfl, _, rfl, ?_⟩
    refine ifN (fun z => by have := vint.mp z; rw [List.length_map, ec] at this; simp at this; omega) ?_
    refine ⟨_, rfl, p1, _, rfl, .inl (sqL_of h1), rfl, _, rfl, ?_⟩
    refine ifN (fun z => by have := vint.mp z; rw [List.length_map] at this; omega) ?_
    refine ⟨_, rfl, p1, _, rfl, .inl (sqL_of h1), _, rfl, ac, _, rfl, .inl (s1.seq hc), _, _, rfl, rfl, _, rfl, ?_⟩
    refine ifN (by rw [List.length_map, List.length_map]; omega) ?_
    refine ⟨_, rfl, ac, _, rfl, .inl (s1.seq hc), _, rfl, ag, _, rfl, .inl (s1.seq hg), _, _, rfl, rfl, _, rfl, ?_⟩
    have hng : ¬ (((g.map V.int).length : Nat) : Int) < ((c.map V.int).length : Nat) := by rw [List.length_map, List.length_map]; omega
    refine ifN hng ?_
    refine ⟨_, rfl, ag, _, rfl, .inl (s1.seq hg), fun pL nL => ?_⟩
    have sL : Same H1 (upd H1 pL (.lst (g.map V.int))) := same_nw (Same.refl _) nL
    have hL : (upd H1 pL (.lst (g.map V.int))) pL = some (.lst (g.map V.int)) := upd_same
    have h12 := sL _ _ h1
    have s02 := s1.trans sL
    generalize upd H1 pL (.lst (g.map V.int)) = H2 at *
    obtain ⟨n0, en0⟩ : ∃ n0, n0 = g.length - c.length + 1 := ⟨_, rfl⟩
    rw [← en0] at S
    refine ⟨_, rfl, ag, _, rfl, .inl (s02.seq hg), _, rfl, ac, _, rfl, .inl (s02.seq hc), _, _, rfl, rfl, _, _, rfl, rfl, (n0 : Int), (show [V.int ((((g.map V.int).length : Nat) : Int) - ((c.map V.int).length : Nat) + 1)] = [V.int (n0 : Int)] from congrArg (fun z => [V.int z]) (by rw [List.length_map, List.length_map]; omega)), by omega, by omega, for_range (lo := 0) (n := (n0 : Int).toNat) (fun i σ H' => ∃ (pD : Addr) (x6 : Option V), σ = [some (.ref ag), some (.ref ac), some (.ref aq), some (.ref ar), some (.ref p1), some (.ref pD), x6, none] ∧ Same H2 H' ∧ H' pD = some (.lst ((sclL (l ^ i) g).map V.int)))
      ⟨pL, none, rfl, Same.refl _, by rw [Int.pow_zero, scl_one]; exact hL⟩ (fun i σ H' hi hW => ?_) (fun σ H' hW => ?_)⟩
    · obtain ⟨pD, x6, rfl, sm, hD⟩ := hW
      have hc2 := (s02.trans sm).seq hc
      refine ⟨_, rfl, pD, rfl, ⟨_, sqL_of hD⟩, fun D hD2 => lcL (fun k => .int (l * co (sclL (l ^ i) g) k)) (by rw [List.length_map, len_scl]; omega) (sqL_of hD) hD2 (fun x => rfl) (fun k x H3 hx e Qe q => ?_) (fun H3 s3 h3 => ?_)⟩
      · obtain ⟨rfl, hk⟩ := map_get hx
        exact ⟨_, rfl, 1, rfl, ac, _, -1, _, rfl, rfl, e.seq hc2, hlast, _, rfl, l, _, rfl, rfl, .inl (bc l (by rw [ec]; simp)), q H3 (Same.refl _)⟩
      · refine ⟨D, _, rfl, sm.trans s3, ?_⟩
        rw [h3, List.length_map, range_map_get (sclL (l ^ i) g) fun x => V.int (l * x)]
        unfold sclL
        rw [List.map_map, List.map_map]
        congr 3
        funext x
        show V.int (l * (l ^ i * x)) = V.int (l ^ (i + 1) * x)
        rw [Int.pow_succ]; congr 1; grind
    · obtain ⟨pD, x6, rfl, sm, hD⟩ := hW
      have hD : H' pD = some (.lst ((sclL (l ^ n0) g).map V.int)) := hD
      have s03 := s02.trans sm
      refine ⟨_, rfl, _, rfl, aq, ac, 0, q, c, rfl, by omega, s03.seq hq', s03.seq hc, by omega, by omega, fun x hx y hy => .inr (bc y hy), fun H4 p4 s4 n4 h4 => ?_⟩
      have l4 : (tr (0 : Int) (mulL q c)).length ≤ 1000 := by have h1 := tr_len (N := 0) (mulL q c); have h2 := mul_len q c; omega
      refine ⟨_, rfl, p4, p1, 0, _, r, rfl, by omega, h4, s4 _ _ (sm _ _ h12), l4, by omega, fun H5 p5 s5 n5 h5 => ?_⟩
      have e5 : tr 0 (addL (tr 0 (mulL q c)) r) = sclL (l ^ n0) g := by
        refine (tr_Cn _).eq ?_ ?_
        · refine ⟨fun a _ => Int.emod_zero a, .inr ⟨sclL (l ^ n0) g0, l ^ n0 * lg, by rw [eg]; unfold sclL; rw [List.map_append]; rfl, Int.mul_ne_zero (Int.pow_ne_zero hl) hlg⟩⟩
        · rw [cl_tr, cl_add, cl_tr, cl_mul, cl_scl]; exact S.eq.symm
      rw [e5] at h5
      refine ⟨_, rfl, ?_⟩
      refine eqD_ints (l := sclL (l ^ n0) g) (m := sclL (l ^ n0) g) (sqL_of h5) (sqL_of (s5 _ _ (s4 _ _ hD))) ?_
      rw [decide_eq_true rfl]
      exact hq _ (s03.trans (s4.trans s5))
end
end FF
end
section
set_option Elab.async false
set_option linter.all false
set_option maxRecDepth 100000
set_option maxHeartbeats 4000000
/-! FL8: the law's own defs: the pieces of a paper. -/
namespace FF
open PySem PySem.Spec PyProof.Rows L2
def rowsD (M : List (List Int)) : List PyData := M.map fun r => .list (r.map PyData.int)
theorem rows_canLay : ∀ M : List (List Int), PyData.canLayAll0 (rowsD M) = true
  | [] => rfl
  | r :: M => by
    have := rows_canLay M
    unfold rowsD at *
    simp [PyData.canLayAll0, PyData.canLay0, PySem.W.ke_canLayAll0, this]
theorem rows_depth : ∀ M : List (List Int), PyData.depthAll (rowsD M) ≤ 2
  | [] => by simp [rowsD, PyData.depthAll]
  | r :: M => by
    have := rows_depth M
    unfold rowsD at *
    simp only [List.map_cons, PyData.depthAll, PyData.depth, PySem.W.ke_depthAll]
    omega
theorem hr_un65 {k : Nat} {A : Around} (r : Room (k + 1) A) : A.units + 65 < cLine := by have := r.un; omega
theorem rows_shaped (M : List (List Int)) : SeqAt.shaped (.list (rowsD M)) = true := by
  have h1 := rows_canLay M
  have h2 := rows_depth M
  simp only [SeqAt.shaped, PyData.canLay0, PyData.depth, h1, Bool.true_and]
  exact decide_eq_true (by omega)
theorem dpAll_rows {K : PySem.W.Frag} {H : Hp} : ∀ {ps : List Addr} {M : List (List Int)}, ps.length = M.length → (∀ (i : Nat) p r, ps[i]? = some p → M[i]? = some r → H p = some (.lst (r.map V.int))) → DpAll K H (ps.map V.ref) (rowsD M)
  | [], [], _, _ => .nil
  | p :: ps, r :: M, h, k => by
    refine .cons (dp_ints (sqL_of (k 0 p r rfl rfl))) (dpAll_rows (by simpa using h) fun i p' r' h1 h2 => k (i + 1) p' r' (by simpa using h1) (by simpa using h2))
theorem any_rows {r : List Int} : ∀ {M : List (List Int)}, r ∉ M → (rowsD M).any (fun z => PyData.eqv z (.list (r.map PyData.int))) = false
  | [], _ => rfl
  | s :: M, h => by
    have h1 : s ≠ r := fun z => h (by rw [z]; simp)
    have h2 : r ∉ M := fun z => h (by simp [z])
    have h3 := any_rows h2
    have e : PyData.eqv (.list (s.map PyData.int)) (.list (r.map PyData.int)) = decide (s = r) := by
      show PyData.eqvAll _ _ = _
      exact PySem.W.ked_eqvAll s r
    show (PyData.eqv (.list (s.map PyData.int)) (.list (r.map PyData.int)) || (rowsD M).any _) = false
    rw [e, h3, decide_eq_false h1]; rfl
theorem inD_none {K : PySem.W.Frag} {H : Hp} {a D : Addr} {r : List Int} {M : List (List Int)} {Q : VK} (h1 : H a = some (.lst (r.map V.int))) (t : Tab H D M) (hn : r ∉ M) (q : Q (.bl false) H) : rInD K (.ref a) (.ref D) H Q := by
  obtain ⟨ps, h2, l, k⟩ := t
  refine ⟨_, _, dp_ints (sqL_of h1), .lst (sqL_of h2) (dpAll_rows l k), PySem.W.ke_shaped_ints r, rows_shaped M, ?_⟩
  rw [any_rows hn]; exact q
theorem cop_ne {p : Nat} (hp : IsP p) {Ps : List (List Int)} (mo : ∀ c ∈ Ps, Mo p c) (pw : (Ps.map (FF.cl (p : Int))).Pairwise Cop) {k : Nat} (hk : k < Ps.length) : Ps.getD k [] ∉ Ps.take k := by
  intro h
  obtain ⟨i, hi, e⟩ := List.mem_iff_getElem.mp h
  rw [List.length_take] at hi
  rw [List.getElem_take] at e
  have h1 := List.pairwise_iff_getElem.mp pw i k (by simp; omega) (by simpa using hk) (by omega)
  rw [List.getElem_map, List.getElem_map, e] at h1
  have e2 : Ps.getD k [] = Ps[k] := by rw [List.getD_eq_getElem?_getD, List.getElem?_eq_getElem hk]; rfl
  rw [e2] at h1
  have m := mo _ (List.getElem_mem hk)
  obtain ⟨u, v, h⟩ := h1
  have h2 : (1 : Pm p) = (u + v) * FF.cl p Ps[k] := by rw [← h]; grind
  have h3 := Mon.le_of_dvd (N := p) Mon.one m.mon h2 hp.one
  have := m.len
  omega
structure MdI (M l : Int) (Us : List (List Int)) (k : Nat) (made : List Int) : Prop where
  rng : ∀ x ∈ made, 0 ≤ x ∧ x < M
  len : made.length ≤ 1 + ((Us.take k).map fun c => c.length - 1).sum
  cl : FF.cl M made = C l * FF.prd ((Us.take k).map (FF.cl M))
  cn : k = 0 ∨ Cn M made
theorem MdI.step {M l : Int} {Us : List (List Int)} {k : Nat} {made : List Int} (I : MdI M l Us k made) (hM : 1 < M) (hk : k < Us.length) (mo : Mo M (Us.getD k [])) : MdI M l Us (k + 1) (tr M (mulL made (Us.getD k []))) := by
  have e1 : Us.take (k + 1) = Us.take k ++ [Us.getD k []] := by
    rw [List.take_add_one, getD_at hk]; rfl
  refine ⟨fun x hx => cn_range hM (tr_Cn _) hx, ?_, ?_, .inr (tr_Cn _)⟩
  · rw [e1, List.map_append, List.sum_append]
    have h1 := tr_len (N := M) (mulL made (Us.getD k []))
    have h2 := I.len
    have h3 := mo.len
    rcases List.eq_nil_or_concat made with h | ⟨z, y, h⟩
    · rw [h] at h1 ⊢
      simp [mulL] at h1 ⊢
      rw [h1]; simp
    · have hne : made ≠ [] := by rw [h]; simp
      have h4 := len_mul made (g := Us.getD k []) hne (fun z => by rw [z] at h3; simp at h3)
      simp only [List.map_cons, List.map_nil, List.sum_cons, List.sum_nil]
      omega
  · rw [cl_tr, cl_mul, I.cl, e1, List.map_append, prd_append]
    simp only [List.map_cons, List.map_nil, FF.prd]; grind
theorem MdI.ne {M l : Int} {Us : List (List Int)} {k : Nat} {made : List Int} (I : MdI M l Us k made) (hM : 1 < M) (mo : ∀ u ∈ Us, Mo M u) (hl : ¬ M ∣ l) : made ≠ [] := fun z => by
  have h1 := I.cl
  obtain ⟨r, ⟨r0, hr0, er0⟩, em⟩ := prd_mon (N := M) (F := Us.take k) fun c hc => mo c (List.mem_of_mem_take hc)
  rw [z, cl_nil, em] at h1
  refine hl (dg_coefs (N := M) (f := sclL l r0) (n := ((Us.take k).map fun c => c.length - 1).sum) ?_ (by rw [len_scl]; exact hr0))
  have e : FF.cl M (sclL l r0) + FF.X ^ ((Us.take k).map fun c => c.length - 1).sum * C l = 0 := by
    rw [cl_scl, er0, h1]; grind
  rw [e]
  exact Dg.zero.mono (Nat.zero_le _)
theorem sum_take_le (Us : List (List Int)) (k : Nat) : ((Us.take k).map fun c => c.length - 1).sum ≤ (Us.map fun c => c.length - 1).sum := by
  have e : (Us.map fun c => c.length - 1) = ((Us.take k).map fun c => c.length - 1) ++ ((Us.drop k).map fun c => c.length - 1) := by
    rw [← List.map_append, List.take_append_drop]
  rw [e, List.sum_append]; omega
def spLMade (K : PySem.W.Frag) : Sp := fun vs H Q _ => ∃ (ag aU aP : Addr) (p many : Nat) (M l : Int) (g g0 : List Int) (Ps Us : List (List Int)), vs = [.ref ag, .int M, .int p, .ref aU, .ref aP] ∧ SqL K H ag (g.map V.int) ∧ g = g0 ++ [l] ∧ g.length ≤ 6 ∧ 0 < l ∧ M = (p : Int) ^ many ∧ CoreR g l p many Ps Us ∧ 2 * l < M ∧ (∀ u ∈ Us, u.length ≤ 20) ∧ (∀ u ∈ Ps, u.length ≤ 20) ∧ Tab H aU Us ∧ PapersAt H aP p Ps ∧ ∀ H', Same H H' → Q (.bl true) H'
section
variable {P : Program} {w : World} {K : PySem.W.Frag} {mg : Str → Option Value} {base : Heap}
theorem ok_L_made_of (T : TX K mg) : FO P w K mg base 7 "_law_made_of" ["_law_g", "_law_size", "_law_prime", "_law_ups", "_law_papers"] (spLMade K) := by
  refine FO.mk T.d_L_made_of sc_L_made_of (fun _ _ _ _ _ _ us hl => match us, hl with | [_, _, _, _, _], _ => rfl) (fun vs H Q E h => ?_) (fun f cdv A outer s H vs Q E hr h => ?_)
  · obtain ⟨ag, aU, aP, p, many, M, l, g, g0, Ps, Us, rfl, _⟩ := h; rfl
  · obtain ⟨ag, aU, aP, p, many, M, l, g, g0, Ps, Us, rfl, hg, eg, lg, hl0, eM, CR, hlM, lU, lP, tU, PA, hq⟩ := h
    obtain ⟨f_L_trim, fd_L_trim, g_L_trim, k_L_trim, b_L_trim, G_L_trim⟩ := ok_L_trim (P := P) (w := w) (base := base) T
    obtain ⟨f_L_good, fd_L_good, g_L_good, k_L_good, b_L_good, G_L_good⟩ := ok_L_good (P := P) (w := w) (base := base) T
    obtain ⟨f_L_times, fd_L_times, g_L_times, k_L_times, b_L_times, G_L_times⟩ := ok_L_times (P := P) (w := w) (base := base) T
    refine ⟨_, (pss_cons (ps_set (i := 5) sc_L_made_of.nd rfl (Or.inl rfl) (pe_lst (pa_cons (pe_op op_modN (pe_ix (r := rIxL K) ix_list (pv 0) (pe_un un_neg pe_int) (fun _ _ => rfl)) (pv 1)) pa_nil)))
      (pss_cons (ps_set (i := 6) sc_L_made_of.nd rfl (Or.inl rfl) (pe_lst pa_nil))
      (pss_cons (ps_if (PW.pt (pw_or (pt_cmpR op_eq (pe_callB (r := rLenK K) call_len_seq (by rfl) T.b_len (by decide +kernel) (pa_cons (pv 3) pa_nil)) pe_int (nomark _)) (pw_or1 (pt_cmpR op_ne (pe_callB (r := rLenK K) call_len_seq (by rfl) T.b_len (by decide +kernel) (pa_cons (pv 4) pa_nil)) (pe_callB (r := rLenK K) call_len_seq (by rfl) T.b_len (by decide +kernel) (pa_cons (pv 3) pa_nil)) (nomark _))))) (pss_one (ps_ret pe_bl)) pss_nil)
      (pss_cons (ps_for PassesOwn.never rfl (pi_range1 (by rfl) T.b_range (pa_cons (pe_callB (r := rLenK K) call_len_seq (by rfl) T.b_len (by decide +kernel) (pa_cons (pv 3) pa_nil)) pa_nil)) (pg_name (i := 7) sc_L_made_of.nd rfl (Or.inl rfl))
        (pss_cons (ps_set (i := 8) sc_L_made_of.nd rfl (Or.inl rfl) (pe_call G_L_trim (hr.mono (by decide)) (by rfl) g_L_trim k_L_trim b_L_trim .nil pass0 (pa_cons (pe_ix (r := rIxL K) ix_list (pv 3) (pv 7) (fun _ _ => rfl)) (pa_cons (pv 1) pa_nil))))
        (pss_cons (ps_set (i := 9) sc_L_made_of.nd rfl (Or.inl rfl) (pe_call G_L_trim (hr.mono (by decide)) (by rfl) g_L_trim k_L_trim b_L_trim .nil pass0 (pa_cons (pe_ix (r := rIxL K) ix_list (pv 3) (pv 7) (fun _ _ => rfl)) (pa_cons (pv 2) pa_nil))))
        (pss_cons (ps_if (PW.pt (pw_or (pt_cmpR op_lt (pe_callB (r := rLenK K) call_len_seq (by rfl) T.b_len (by decide +kernel) (pa_cons (pv 8) pa_nil)) pe_int (nomark _)) (pw_or (pt_cmpR op_ne (pe_ix (r := rIxL K) ix_list (pv 8) (pe_un un_neg pe_int) (fun _ _ => rfl)) pe_int (nomark _)) (pw_or (pt_cmpR (op_inD (hr_un65 hr)) (pv 9) (pv 6) (by rfl)) (pw_or1 (pt_cmpR op_gt (pe_callB (r := rLenK K) call_len_seq (by rfl) T.b_len (by decide +kernel) (pa_cons (pv 5) pa_nil)) (pe_callB (r := rLenK K) call_len_seq (by rfl) T.b_len (by decide +kernel) (pa_cons (pv 0) pa_nil)) (nomark _))))))) (pss_one (ps_ret pe_bl)) pss_nil)
        (pss_cons (ps_if (pt_not (pt_val (pe_call G_L_good (hr.mono (by decide)) (by rfl) g_L_good k_L_good b_L_good .nil pass0 (pa_cons (pv 9) (pa_cons (pe_ix (r := rIxT K) ix_tup (pe_ix (r := rIxL K) ix_list (pv 4) (pv 7) (fun _ _ => rfl)) pe_int (fun _ _ => rfl))  (pa_cons (pe_ix (r := rIxT K) ix_tup (pe_ix (r := rIxL K) ix_list (pv 4) (pv 7) (fun _ _ => rfl)) pe_int (fun _ _ => rfl))  (pa_cons (pe_ix (r := rIxT K) ix_tup (pe_ix (r := rIxL K) ix_list (pv 4) (pv 7) (fun _ _ => rfl)) pe_int (fun _ _ => rfl))  (pa_cons (pv 2) pa_nil)))))))) (pss_one (ps_ret pe_bl)) pss_nil)
        (pss_cons (ps_expr (pe_bm PySem.F.plainAttrs_list PySem.F.slot_list_append PySem.F.type_list_append mt_append (pv 6) (pa_cons (pv 9) pa_nil)))
        (pss_one (ps_set (i := 5) sc_L_made_of.nd rfl (Or.inl rfl) (pe_call G_L_times (hr.mono (by decide)) (by rfl) g_L_times k_L_times b_L_times .nil pass0 (pa_cons (pv 5) (pa_cons (pv 8) (pa_cons (pv 1) pa_nil))))))))))))
      (pss_one (ps_ret (pe_cmpR (op_eqD hr.units) (pv 5) (pe_call G_L_trim (hr.mono (by decide)) (by rfl) g_L_trim k_L_trim b_L_trim .nil pass0 (pa_cons (pv 0) (pa_cons (pv 1) pa_nil))) (nomark _)))))))), ?_⟩
    have hP := CR.pr
    have hp := prz_isp hP
    have p2 := hP.1
    have p3 := hP.2.1
    have LR := CR.lift
    rw [← eM] at LR
    have hM60 : M < 2 ^ 60 := by rw [eM]; exact CR.sml
    have lUP := LR.len
    have hlast : atI (g.map V.int) (-1) = some (.int l) := by rw [eg]; exact at_last g0 l
    have hM1 : 1 < M := by omega
    have eN : ∀ x : Int, x.fmod M = x % M := fun x => Int.fmod_eq_emod_of_nonneg x (by omega)
    have ndl : ¬ M ∣ l := fun z => by have := Int.le_of_dvd hl0 z; omega
    have degU := ups_deg LR.mo LR.prd eg ndl
    have lgg : g.length = g0.length + 1 := by rw [eg]; simp
    have lUs5 : Us.length ≤ 5 := by
      have h1 := len_sum LR.mo
      omega
    refine ⟨_, rfl, 1, rfl, ag, _, -1, _, rfl, rfl, hg, hlast, _, rfl, l, M, rfl, rfl, (show M ≠ 0 by omega), by show 1 ≤ sizeLine; decide, fun pM nM => ?_⟩
    have sM : Same H (upd H pM (.lst [.int (l.fmod M)])) := same_nw (Same.refl _) nM
    have hM : (upd H pM (.lst [.int (l.fmod M)])) pM = some (.lst (([l % M] : List Int).map V.int)) := by rw [upd_same, eN]; rfl
    obtain ⟨H1, eH1⟩ : ∃ H1, H1 = upd H pM (.lst [.int (l.fmod M)]) := ⟨_, rfl⟩
    show gName 5 (.ref pM) _ (upd H pM (.lst [.int (l.fmod M)])) _
    rw [← eH1] at sM hM ⊢
    refine ⟨by show 0 ≤ sizeLine; decide, fun DK nK => ?_⟩
    have sK : Same H1 (upd H1 DK (.lst [])) := same_new (Same.refl _) nK
    have tK0 : TabN (upd H1 DK (.lst [])) DK (Ps.take 0) := TabA.new
    have hM1' := sK _ _ hM
    have s02 := sM.trans sK
    obtain ⟨pu, hpu, lpu, kpu⟩ := id (tU.same sM)
    obtain ⟨ts, hts, lts, kts⟩ := PA
    have hts1 := sM _ _ hts
    have hneU : Us ≠ [] := fun z => by have := CR.ne; rw [z] at lUP; exact this (List.length_eq_zero_iff.mp lUP.symm)
    have hlU : 0 < Us.length := List.length_pos_iff.mpr hneU
    generalize upd H1 DK (.lst []) = H2 at *
    refine ⟨_, rfl, aU, _, rfl, .inl (sqL_of (sK _ _ hpu)), rfl, _, rfl, ?_⟩
    refine ifN (fun z => by have := vint.mp z; rw [List.length_map] at this; omega) ?_
    refine ⟨_, rfl, aP, _, rfl, .inl (sqL_of (sK _ _ hts1)), _, rfl, aU, _, rfl, .inl (sqL_of (sK _ _ hpu)), rfl, _, rfl, ?_⟩
    refine ifEq (vint.mpr (by rw [List.length_map, List.length_map]; omega)) ?_
    refine ⟨_, rfl, aU, _, rfl, .inl (sqL_of (sK _ _ hpu)), ((Us.length : Nat) : Int), (show [V.int ((pu.map V.ref).length : Nat)] = [V.int ((Us.length : Nat) : Int)] from congrArg (fun z : Nat => [V.int z]) (by rw [List.length_map]; exact lpu)), by omega, by omega, for_range (lo := 0) (n := ((Us.length : Nat) : Int).toNat) (fun k σ H' => ∃ (made : List Int) (pm : Addr) (x7 x8 x9 : Option V), σ = [some (.ref ag), some (.int M), some (.int p), some (.ref aU), some (.ref aP), some (.ref pm), some (.ref DK), x7, x8, x9] ∧ Same H1 H' ∧ H' pm = some (.lst (made.map V.int)) ∧ MdI M l Us k made ∧ TabN H' DK (Ps.take k) ∧ made ≠ [])
      ⟨[l % M], pM, none, none, none, rfl, sK, hM1', ⟨fun x hx => ?_, by simp, ?_, .inl rfl⟩, tK0, by simp⟩ (fun k σ H' hk hW => ?_) (fun σ H' hW => ?_)⟩
    · rw [List.mem_singleton] at hx; rw [hx]; exact ⟨Int.emod_nonneg _ (by omega), Int.emod_lt_of_pos _ (by omega)⟩
    · rw [cl_cons, cl_nil, C_mod]; show C l + _ = C l * 1; grind
    · obtain ⟨made, pm, x7, x8, x9, rfl, sm, hm, I, tK, mne⟩ := hW
      have hk1 : k < Us.length := hk
      have hkP : k < Ps.length := by omega
      have pk : pu[k]? = some pu[k] := List.getElem?_eq_getElem (by omega)
      have hrow := sm _ _ (kpu k _ _ pk (getD_at hk1))
      have mU : Us.getD k [] ∈ Us := List.mem_of_getElem? (getD_at hk1)
      have mP : Ps.getD k [] ∈ Ps := List.mem_of_getElem? (getD_at hkP)
      have moU := LR.mo _ mU
      have moP := CR.mo _ mP
      have lu := lU _ mU
      have lp := lP _ mP
      have a2 : ∀ z : Int, z = ((k : Nat) : Int) → atI (pu.map V.ref) z = some (.ref pu[k]) := fun z e => by rw [e]; exact atI_nat (by rw [List.getElem?_map, pk]; rfl)
      have etP : tr (p : Int) (Us.getD k []) = Ps.getD k [] := by
        rw [← tr_id moP.1]
        exact tr_eq.mpr (LR.red k hkP)
      refine ⟨_, rfl, _, rfl, aU, _, _, _, rfl, rfl, sqL_of (sm _ _ hpu), a2 _ (Int.zero_add _), _, rfl, pu[k], M, Us.getD k [], rfl, by omega, sqL_of hrow, by omega, fun H3 p3' s3 n3 h3 => ?_⟩
      rw [tr_id moU.1] at h3
      have s13 := sm.trans s3
      refine ⟨_, rfl, _, rfl, aU, _, _, _, rfl, rfl, sqL_of (s13 _ _ hpu), a2 _ (Int.zero_add _), _, rfl, pu[k], p, Us.getD k [], rfl, by omega, sqL_of (s3 _ _ hrow), by omega, fun H4 p4 s4 n4 h4 => ?_⟩
      rw [etP] at h4
      have s14 := s13.trans s4
      have h34 := s4 _ _ h3
      obtain ⟨cu, u0, eu, hu0⟩ := id moU
      have hlastU : atI ((Us.getD k []).map V.int) (-1) = some (.int 1) := by rw [eu]; exact at_last u0 1
      refine ⟨_, rfl, p3', _, rfl, .inl (sqL_of h34), _, _, rfl, rfl, _, rfl, ?_⟩
      refine ifN (by rw [List.length_map]; have := moU.len; omega) ?_
      refine ⟨_, rfl, 1, rfl, p3', _, -1, _, rfl, rfl, sqL_of h34, hlastU, rfl, _, rfl, ?_⟩
      refine ifEq rfl ?_
      have tK4 := tK.same (s3.trans s4)
      refine ⟨_, rfl, _, rfl, inD_none h4 tK4.tab (cop_ne hp CR.mo CR.pw hkP) ?_⟩
      refine ⟨_, rfl, iteF ?_⟩
      have hm4 := s4 _ _ (s3 _ _ hm)
      have lm := I.len
      have ls := sum_take_le Us k
      refine ⟨_, rfl, pm, _, rfl, .inl (sqL_of hm4), _, rfl, ag, _, rfl, .inl ((sM.trans s14).seq hg), _, _, rfl, rfl, _, rfl, ?_⟩
      refine ifN (by rw [List.length_map, List.length_map]; omega) ?_
      have hk3 : k < ts.length := by omega
      have tk : ts[k]? = some ts[k] := List.getElem?_eq_getElem hk3
      obtain ⟨q1, q2, aR, x, y, right, z1, z2, z3, z4, PR⟩ := (kts k _ tk).same (sM.trans s14)
      have a3 : ∀ z : Int, z = ((k : Nat) : Int) → atI (ts.map V.ref) z = some (.ref ts[k]) := fun z e => by rw [e]; exact atI_nat (by rw [List.getElem?_map, tk]; rfl)
      have hts4 := s14 _ _ hts1
      refine ⟨_, rfl, _, rfl, _, rfl, aP, _, _, _, rfl, rfl, sqL_of hts4, a3 _ (Int.zero_add _), ts[k], _, 0, _, rfl, rfl, sqT_of z1, atI_nat (j := 0) rfl,
        _, rfl, _, rfl, aP, _, _, _, rfl, rfl, sqL_of hts4, a3 _ (Int.zero_add _), ts[k], _, 1, _, rfl, rfl, sqT_of z1, atI_nat (j := 1) rfl,
        _, rfl, _, rfl, aP, _, _, _, rfl, rfl, sqL_of hts4, a3 _ (Int.zero_add _), ts[k], _, 2, _, rfl, rfl, sqT_of z1, atI_nat (j := 2) rfl, _, rfl,
        p4, q1, q2, aR, p, Ps.getD k [], x, y, right, rfl, by omega, by omega, sqL_of h4, sqL_of z2, sqL_of z3, z4, by omega, moP, PR, fun H5 s5 => ?_⟩
      refine ⟨_, rfl, iteF ?_⟩
      have tK5 := tK4.same s5
      obtain ⟨ps5, hps5, _⟩ := id tK5
      have h45 := s5 _ _ h4
      have hm5 := s5 _ _ hm4
      have h35 := s5 _ _ h34
      have np4 : p4 ≠ DK := row_ne h45 (fun z => by have := moP.len; rw [z] at this; simp at this) hps5
      have npm : pm ≠ DK := row_ne hm5 mne hps5
      have np3 : p3' ≠ DK := row_ne h35 (fun z => by have := moU.len; rw [z] at this; simp at this) hps5
      obtain ⟨xs, hx, lx, tK6⟩ := tK5.snoc rfl h45 np4
      have etk : Ps.take k ++ [Ps.getD k []] = Ps.take (k + 1) := by rw [List.take_add_one, getD_at hkP]; rfl
      rw [etk] at tK6
      refine ⟨_, rfl, .inl ⟨rfl, _, sqL_of hx⟩, _, rfl, DK, xs, .ref p4, rfl, rfl, hx, small_lt (by rw [lx, List.length_take]; omega), ?_⟩
      have hm6 : (upd H5 DK (.lst (xs ++ [.ref p4]))) pm = some (.lst (made.map V.int)) := by rw [upd_ne npm]; exact hm5
      have h36 : (upd H5 DK (.lst (xs ++ [.ref p4]))) p3' = some (.lst ((Us.getD k []).map V.int)) := by rw [upd_ne np3]; exact h35
      have s16 : Same H1 (upd H5 DK (.lst (xs ++ [.ref p4]))) := same_new (s14.trans s5) nK
      have tK6' := tK6
      generalize upd H5 DK (.lst (xs ++ [.ref p4])) = H6 at *
      refine ⟨_, rfl, _, rfl, _, rfl, pm, p3', M, made, Us.getD k [], rfl, by omega, sqL_of hm6, sqL_of h36, by omega, by omega, fun x hx y hy => .inl (by have := I.rng x hx; omega), fun H7 p7 s7 n7 h7 => ?_⟩
      have I2 := I.step hM1 hk1 moU
      exact ⟨_, p7, _, _, _, rfl, s16.trans s7, h7, I2, tK6'.same s7, I2.ne hM1 LR.mo ndl⟩
    · obtain ⟨made, pm, x7, x8, x9, rfl, sm, hm, I, tK, mne⟩ := hW
      have I : MdI M l Us Us.length made := I
      refine ⟨_, rfl, _, rfl, _, rfl, ag, M, g, rfl, by omega, (sM.trans sm).seq hg, by omega, fun H3 p3' s3 n3 h3 => ?_⟩
      have e1 : tr M g = made := by
        have h1 := I.cl
        rw [List.take_length, LR.prd] at h1
        rcases I.cn with z | z
        · omega
        · exact (tr_Cn g).eq z (by rw [cl_tr, h1])
      rw [e1] at h3
      refine eqD_ints (l := made) (m := made) (sqL_of (s3 _ _ hm)) (sqL_of h3) ?_
      rw [decide_eq_true rfl]
      exact hq _ (sM.trans (sm.trans s3))
end
end FF
end
section
set_option Elab.async false
set_option linter.all false
set_option maxRecDepth 100000
set_option maxHeartbeats 4000000
/-! FL9: the law's own defs: a whole paper. -/
namespace FF
open PySem PySem.Spec PyProof.Rows L2
structure CoreF (g : List Int) (l M : Int) (p many : Nat) (Ps Us : List (List Int)) : Prop where
  l2 : 2 * l < M
  m60 : M < 2 ^ 60
  deg : (Us.map fun c => c.length - 1).sum + 1 = g.length
  lU : ∀ u ∈ Us, u.length ≤ 20
  lP : ∀ u ∈ Ps, u.length ≤ 20
  nU : Us.length ≤ 5
theorem CoreR.facts {g g0 : List Int} {l M : Int} {p many : Nat} {Ps Us : List (List Int)} (CR : CoreR g l p many Ps Us) (eM : M = (p : Int) ^ many) (eg : g = g0 ++ [l]) (lg : g.length ≤ 6) (hl0 : 0 < l) : CoreF g l M p many Ps Us := by
  have hp := prz_isp CR.pr
  have LR := CR.lift
  have hb := CR.big
  have hs := CR.sml
  rw [← eM] at LR hb hs
  have h1 := bnd_mem (f := g) (x := l) (by rw [eg]; simp)
  have ndl : ¬ M ∣ l := fun z => by have := Int.le_of_dvd hl0 z; omega
  have degU := ups_deg LR.mo LR.prd eg ndl
  have lgg : g.length = g0.length + 1 := by rw [eg]; simp
  have hU : ∀ u ∈ Us, u.length ≤ 20 := fun u hu => by
    have h1 : u.length - 1 ≤ (Us.map fun c => c.length - 1).sum := mem_sum (List.mem_map.mpr ⟨u, hu, rfl⟩)
    omega
  refine ⟨by omega, by omega, by omega, hU, fun c hc => ?_, by have h1 := len_sum LR.mo; omega⟩
  obtain ⟨i, hi, e⟩ := List.mem_iff_getElem.mp hc
  have hiU : i < Us.length := by rw [LR.len]; exact hi
  have e2 : Ps.getD i [] = c := by rw [List.getD_eq_getElem?_getD, List.getElem?_eq_getElem hi, e]; rfl
  have mU : Us.getD i [] ∈ Us := List.mem_of_getElem? (getD_at hiU)
  have h2 := LR.red i hi
  rw [e2] at h2
  obtain ⟨cu, u0, eu, hu0⟩ := LR.mo _ mU
  have m1 : Mon (FF.cl (p : Int) (Us.getD i [])) u0.length := by rw [eu]; exact Mon.of_list
  rw [h2] at m1
  have := m1.deg_eq (CR.mo c hc).mon hp.one
  have h3 := hU _ mU
  rw [eu] at h3
  simp at h3
  have := (CR.mo c hc).len
  omega
def spLWG (K : PySem.W.Frag) : Sp := fun vs H Q _ => ∃ (ag T5 aU aP aR : Addr) (p many : Nat) (g g0 : List Int) (l : Int) (Ps Us : List (List Int)) (bs : List Nat), vs = [.ref ag, .ref T5] ∧ SqL K H ag (g.map V.int) ∧ g = g0 ++ [l] ∧ 1 ≤ g0.length ∧ g.length ≤ 6 ∧ 0 < l ∧ gcdL g = 1 ∧ bnd g < 2 ^ 44 ∧ CoreR g l p many Ps Us ∧ H T5 = some (.tup [.int p, .int many, .ref aU, .ref aP, .ref aR]) ∧ Tab H aU Us ∧ PapersAt H aP p Ps ∧ RowsI H aR ((p : Int) ^ many) l g Us bs ∧ bs.map (fun b : Nat => (b : Int)) = setsAll Us.length ∧ ∀ H', Same H H' → Q (.bl true) H'
section
variable {P : Program} {w : World} {K : PySem.W.Frag} {mg : Str → Option Value} {base : Heap}
theorem ok_L_whole_good (T : TX K mg) : FO P w K mg base 8 "_law_whole_good" ["_law_g", "_law_bundle"] (spLWG K) := by
  refine FO.mk T.d_L_whole_good sc_L_whole_good (fun _ _ _ _ _ _ us hl => match us, hl with | [_, _], _ => rfl) (fun vs H Q E h => ?_) (fun f cdv A outer s H vs Q E hr h => ?_)
  · obtain ⟨ag, T5, aU, aP, aR, p, many, g, g0, l, Ps, Us, bs, rfl, _⟩ := h; rfl
  · obtain ⟨ag, T5, aU, aP, aR, p, many, g, g0, l, Ps, Us, bs, rfl, hg, eg, lg0, lg, hl0, hg1, hbd, CR, hT, tU, PA, RA, ebs, hq⟩ := h
    obtain ⟨f_L_is_prime, fd_L_is_prime, g_L_is_prime, k_L_is_prime, b_L_is_prime, G_L_is_prime⟩ := ok_L_is_prime (P := P) (w := w) (base := base) T
    obtain ⟨f_L_content, fd_L_content, g_L_content, k_L_content, b_L_content, G_L_content⟩ := ok_L_content (P := P) (w := w) (base := base) T
    obtain ⟨f_L_size_of, fd_L_size_of, g_L_size_of, k_L_size_of, b_L_size_of, G_L_size_of⟩ := ok_L_size_of (P := P) (w := w) (base := base) T
    obtain ⟨f_L_bound, fd_L_bound, g_L_bound, k_L_bound, b_L_bound, G_L_bound⟩ := ok_L_bound (P := P) (w := w) (base := base) T
    obtain ⟨f_L_made_of, fd_L_made_of, g_L_made_of, k_L_made_of, b_L_made_of, G_L_made_of⟩ := ok_L_made_of (P := P) (w := w) (base := base) T
    obtain ⟨f_L_sets, fd_L_sets, g_L_sets, k_L_sets, b_L_sets, G_L_sets⟩ := ok_L_sets (P := P) (w := w) (base := base) T
    obtain ⟨f_L_barred, fd_L_barred, g_L_barred, k_L_barred, b_L_barred, G_L_barred⟩ := ok_L_barred (P := P) (w := w) (base := base) T
    obtain ⟨f_L_candidate, fd_L_candidate, g_L_candidate, k_L_candidate, b_L_candidate, G_L_candidate⟩ := ok_L_candidate (P := P) (w := w) (base := base) T
    refine ⟨_, (pss_cons (ps_asg (pv 1) (pg_tup rfl (pgs_cons (pg_name (i := 2) sc_L_whole_good.nd rfl (Or.inl rfl)) (pgs_cons (pg_name (i := 3) sc_L_whole_good.nd rfl (Or.inl rfl)) (pgs_cons (pg_name (i := 4) sc_L_whole_good.nd rfl (Or.inl rfl)) (pgs_cons (pg_name (i := 5) sc_L_whole_good.nd rfl (Or.inl rfl)) (pgs_cons (pg_name (i := 6) sc_L_whole_good.nd rfl (Or.inl rfl)) pgs_nil)))))))
      (pss_cons (ps_if (PW.pt (pw_or (pt_cmpR op_lt (pe_callB (r := rLenK K) call_len_seq (by rfl) T.b_len (by decide +kernel) (pa_cons (pv 0) pa_nil)) pe_int (nomark _)) (pw_or (pt_cmpR op_ne (pe_call G_L_content (hr.mono (by decide)) (by rfl) g_L_content k_L_content b_L_content .nil pass0 (pa_cons (pv 0) pa_nil)) pe_int (nomark _)) (pw_or (pt_not (pt_val (pe_call G_L_is_prime (hr.mono (by decide)) (by rfl) g_L_is_prime k_L_is_prime b_L_is_prime .nil pass0 (pa_cons (pv 2) pa_nil)))) (pw_or1 (pt_cmpR op_eq (pe_op op_modN (pe_ix (r := rIxL K) ix_list (pv 0) (pe_un un_neg pe_int) (fun _ _ => rfl)) (pv 2)) pe_int (nomark _))))))) (pss_one (ps_ret pe_bl)) pss_nil)
      (pss_cons (ps_if (PW.pt (pw_or (pt_cmpR op_lt (pv 3) pe_int (nomark _)) (pw_or (pt_cmpR op_gt (pv 3) pe_int (nomark _)) (pw_or1 (pt_cmpR op_le (pe_call G_L_size_of (hr.mono (by decide)) (by rfl) g_L_size_of k_L_size_of b_L_size_of .nil pass0 (pa_cons (pv 2) (pa_cons (pv 3) pa_nil))) (pe_op op_mul pe_int (pe_call G_L_bound (hr.mono (by decide)) (by rfl) g_L_bound k_L_bound b_L_bound .nil pass0 (pa_cons (pv 0) pa_nil))) (nomark _)))))) (pss_one (ps_ret pe_bl)) pss_nil)
      (pss_cons (ps_set (i := 7) sc_L_whole_good.nd rfl (Or.inl rfl) (pe_call G_L_size_of (hr.mono (by decide)) (by rfl) g_L_size_of k_L_size_of b_L_size_of .nil pass0 (pa_cons (pv 2) (pa_cons (pv 3) pa_nil))))
      (pss_cons (ps_if (pt_not (pt_val (pe_call G_L_made_of (hr.mono (by decide)) (by rfl) g_L_made_of k_L_made_of b_L_made_of .nil pass0 (pa_cons (pv 0) (pa_cons (pv 7) (pa_cons (pv 2) (pa_cons (pv 4) (pa_cons (pv 5) pa_nil)))))))) (pss_one (ps_ret pe_bl)) pss_nil)
      (pss_cons (ps_set (i := 8) sc_L_whole_good.nd rfl (Or.inl rfl) (pe_call G_L_sets (hr.mono (by decide)) (by rfl) g_L_sets k_L_sets b_L_sets .nil pass0 (pa_cons (pe_callB (r := rLenK K) call_len_seq (by rfl) T.b_len (by decide +kernel) (pa_cons (pv 4) pa_nil)) pa_nil)))
      (pss_cons (ps_if (pt_cmpR op_ne (pe_callB (r := rLenK K) call_len_seq (by rfl) T.b_len (by decide +kernel) (pa_cons (pv 6) pa_nil)) (pe_callB (r := rLenK K) call_len_seq (by rfl) T.b_len (by decide +kernel) (pa_cons (pv 8) pa_nil)) (nomark _)) (pss_one (ps_ret pe_bl)) pss_nil)
      (pss_cons (ps_for PassesOwn.never rfl (pi_range1 (by rfl) T.b_range (pa_cons (pe_callB (r := rLenK K) call_len_seq (by rfl) T.b_len (by decide +kernel) (pa_cons (pv 8) pa_nil)) pa_nil)) (pg_name (i := 9) sc_L_whole_good.nd rfl (Or.inl rfl))
        (pss_cons (ps_if (pt_cmpR op_ne (pe_ix (r := rIxT K) ix_tup (pe_ix (r := rIxL K) ix_list (pv 6) (pv 9) (fun _ _ => rfl)) pe_int (fun _ _ => rfl)) (pe_ix (r := rIxL K) ix_list (pv 8) (pv 9) (fun _ _ => rfl)) (nomark _)) (pss_one (ps_ret pe_bl)) pss_nil)
        (pss_one (ps_if (pt_not (pt_val (pe_call G_L_barred (hr.mono (by decide)) (by rfl) g_L_barred k_L_barred b_L_barred .nil pass0 (pa_cons (pv 0) (pa_cons (pe_call G_L_candidate (hr.mono (by decide)) (by rfl) g_L_candidate k_L_candidate b_L_candidate .nil pass0 (pa_cons (pv 0) (pa_cons (pv 7) (pa_cons (pv 4) (pa_cons (pe_ix (r := rIxL K) ix_list (pv 8) (pv 9) (fun _ _ => rfl)) pa_nil))))) (pa_cons (pe_ix (r := rIxT K) ix_tup (pe_ix (r := rIxL K) ix_list (pv 6) (pv 9) (fun _ _ => rfl)) pe_int (fun _ _ => rfl)) (pa_cons (pe_ix (r := rIxT K) ix_tup (pe_ix (r := rIxL K) ix_list (pv 6) (pv 9) (fun _ _ => rfl)) pe_int (fun _ _ => rfl)) pa_nil))))))) (pss_one (ps_ret pe_bl)) pss_nil))))
      (pss_one (ps_ret pe_bl)))))))))), ?_⟩
    have hP := CR.pr
    have hp := prz_isp hP
    have p2 := hP.1
    have p3 := hP.2.1
    obtain ⟨M, eM⟩ : ∃ M, M = (p : Int) ^ many := ⟨_, rfl⟩
    have F := CR.facts eM eg lg hl0
    have hb := CR.big
    have m60 := CR.m60
    have m1 := CR.m1
    rw [← eM] at RA hb
    have LR := CR.lift
    rw [← eM] at LR
    have hM60 := F.m60
    have hM1 : 1 < M := by have := F.l2; omega
    have nU := F.nU
    have hlast : atI (g.map V.int) (-1) = some (.int l) := by rw [eg]; exact at_last g0 l
    have lgg : g.length = g0.length + 1 := by rw [eg]; simp
    have ndp : ¬ (p : Int) ∣ l := CR.gp.1
    have esg : sgc g l = 1 := by unfold sgc; rw [if_neg (by omega), hg1]; rfl
    have ep : ∀ x : Int, x.fmod p = x % p := fun x => Int.fmod_eq_emod_of_nonneg x (by omega)
    refine ⟨_, rfl, T5, _, rfl, sqT_of hT, rfl, _, _, rfl, _, _, rfl, _, _, rfl, _, _, rfl, _, _, rfl, rfl, ?_⟩
    refine ⟨_, rfl, ag, _, rfl, .inl hg, _, _, rfl, rfl, _, rfl, ?_⟩
    refine ifN (by rw [List.length_map]; omega) ?_
    refine ⟨_, rfl, ag, g, g0, l, rfl, hg, eg, rfl, _, rfl, ?_⟩
    refine ifEq (vint.mpr esg) ?_
    refine ⟨_, rfl, (p : Int), rfl, fun b hb' => ?_⟩
    have hbt : b = true := hb'.mpr hP
    subst hbt
    refine ⟨_, rfl, iteF ?_⟩
    refine ⟨_, rfl, 1, rfl, ag, _, -1, _, rfl, rfl, hg, hlast, _, rfl, _, _, rfl, rfl, (show (p : Int) ≠ 0 by omega), rfl, _, rfl, ?_⟩
    refine ifN (fun z => ndp ?_) ?_
    · have h1 := vint.mp z
      rw [ep] at h1
      exact Int.dvd_of_emod_eq_zero h1
    refine ⟨_, rfl, _, _, rfl, rfl, _, rfl, ?_⟩
    refine ifN (by omega) ?_
    refine ⟨_, rfl, _, _, rfl, rfl, _, rfl, ?_⟩
    refine ifN (by omega) ?_
    refine ⟨_, rfl, _, rfl, p, many, rfl, by omega, by omega, ?_⟩
    refine ⟨_, rfl, ag, g, rfl, hg, by omega, fun H1 s1 => ?_⟩
    refine ⟨_, _, rfl, rfl, .inl ⟨by decide, by decide⟩, _, _, rfl, rfl, _, rfl, ?_⟩
    refine ifN (by rw [← eM]; omega) ?_
    refine ⟨_, rfl, _, rfl, p, many, rfl, by omega, by omega, ?_⟩
    rw [← eM]
    refine ⟨_, rfl, _, rfl, _, rfl, _, rfl, _, rfl, ag, aU, aP, p, many, M, l, g, g0, Ps, Us, rfl, s1.seq hg, eg, lg, hl0, eM, CR, F.l2, F.lU, F.lP, tU.same s1, ?_, fun H2 s2 => ?_⟩
    · obtain ⟨ts, h1, h2, h3⟩ := PA
      exact ⟨ts, s1 _ _ h1, h2, fun i t ht => (h3 i t ht).same s1⟩
    refine ⟨_, rfl, iteF ?_⟩
    have s02 := s1.trans s2
    obtain ⟨pu, hpu, lpu, kpu⟩ := id (tU.same s02)
    refine ⟨_, rfl, aU, _, rfl, .inl (sqL_of hpu), Us.length, (show [V.int ((pu.map V.ref).length : Nat)] = [V.int ((Us.length : Nat) : Int)] from congrArg (fun z : Nat => [V.int z]) (by rw [List.length_map]; exact lpu)), by omega, fun H3 pS s3 nS h3 => ?_⟩
    rw [← ebs, List.map_map] at h3
    have h3' : H3 pS = some (.lst (bs.map fun b : Nat => V.int b)) := h3
    have s03 := s02.trans s3
    obtain ⟨rs, hrs, lrs, krs⟩ := (RA.same s03).ex
    refine ⟨_, rfl, aR, _, rfl, .inl (sqL_of hrs), _, rfl, pS, _, rfl, .inl (sqL_of h3'), rfl, _, rfl, ?_⟩
    refine ifEq (vint.mpr (by rw [List.length_map, List.length_map, lrs])) ?_
    have lbs : bs.length ≤ 32 := by
      have h1 := setsAll_len5 Us.length (by omega)
      rw [← ebs, List.length_map] at h1; exact h1
    refine ⟨_, rfl, pS, _, rfl, .inl (sqL_of h3'), ((bs.length : Nat) : Int), (show [V.int ((bs.map fun b : Nat => V.int b).length : Nat)] = [V.int ((bs.length : Nat) : Int)] from congrArg (fun z : Nat => [V.int z]) (by rw [List.length_map])), by omega, by omega, for_range (lo := 0) (n := ((bs.length : Nat) : Int).toNat) (fun k σ H' => ∃ (x9 : Option V), σ = [some (.ref ag), some (.ref T5), some (.int p), some (.int many), some (.ref aU), some (.ref aP), some (.ref aR), some (.int M), some (.ref pS), x9] ∧ Same H3 H')
      ⟨none, rfl, Same.refl _⟩ (fun k σ H' hk hW => ?_) (fun σ H' hW => ?_)⟩
    · obtain ⟨x9, rfl, sm⟩ := hW
      have hk1 : k < bs.length := hk
      have bk : bs[k]? = some bs[k] := List.getElem?_eq_getElem hk1
      have rk : rs[k]? = some rs[k] := List.getElem?_eq_getElem (by omega)
      obtain ⟨pq, pr, q, r, z1, z2, z3, hqn, hrn, RO⟩ := krs k _ _ rk bk
      generalize bs[k] = b at *
      generalize rs[k] = tk at *
      have s0m := s03.trans sm
      have a1 : ∀ z : Int, z = ((k : Nat) : Int) → atI (rs.map V.ref) z = some (.ref tk) := fun z e => by rw [e]; exact atI_nat (by rw [List.getElem?_map, rk]; rfl)
      have a2 : ∀ z : Int, z = ((k : Nat) : Int) → atI (bs.map fun b : Nat => V.int b) z = some (.int (b : Nat)) := fun z e => by rw [e]; exact atI_nat (by rw [List.getElem?_map, bk]; rfl)
      have hrs' := sm _ _ hrs
      have hpS' := sm _ _ h3'
      have z1' := sm _ _ z1
      refine ⟨_, rfl, _, rfl, aR, _, _, _, rfl, rfl, sqL_of hrs', a1 _ (Int.zero_add _), tk, _, 0, _, rfl, rfl, sqT_of z1', atI_nat (j := 0) rfl, _, rfl, _, rfl, pS, _, _, _, rfl, rfl, sqL_of hpS', a2 _ (Int.zero_add _), rfl, _, rfl, ?_⟩
      refine ifEq rfl ?_
      obtain ⟨c, c0, made, edc, em, ec, lc0, cc, lr, S⟩ := RO.ex
      refine ⟨_, rfl, _, rfl, _, rfl, _, rfl, _, rfl, _, rfl, pS, _, _, _, rfl, rfl, sqL_of hpS', a2 _ (Int.zero_add _), ag, aU, M, g, g0, l, Us, b, rfl, s0m.seq hg, eg, by omega, by omega, tU.same s0m, by omega, F.lU, fun made' em' H5 pC s5 n5 h5 => ?_⟩
      have e5 : nearL M made' = c := by rw [edc]; exact nearL_eq (by omega) (by rw [em', em])
      rw [e5] at h5
      have s05 := s0m.trans s5
      have s35 := sm.trans s5
      have z15 := s35 _ _ z1
      have hrs5 := s35 _ _ hrs
      refine ⟨_, rfl, _, rfl, aR, _, _, _, rfl, rfl, sqL_of hrs5, a1 _ (Int.zero_add _), tk, _, 1, _, rfl, rfl, sqT_of z15, atI_nat (j := 1) rfl, _, rfl, _, rfl, aR, _, _, _, rfl, rfl, sqL_of hrs5, a1 _ (Int.zero_add _), tk, _, 2, _, rfl, rfl, sqT_of z15, atI_nat (j := 2) rfl, ?_⟩
      have rc := nearL_rng (N := M) (by omega) made
      rw [← edc] at rc
      have lc1 := selD_le Us b Us.length
      rw [List.take_length] at lc1
      have hdeg := F.deg
      have lcc : c.length ≤ g.length := by rw [ec]; simp; omega
      refine ⟨ag, pC, pq, pr, g, g0, c, c0, q, r, l, l, rfl, s05.seq hg, sqL_of h5, sqL_of (s35 _ _ z2), sqL_of (s35 _ _ z3), by omega, eg, by omega, ec, by omega, fun x hx => by have := rc x hx; omega, lcc, lr, hrn, S, fun H6 s6 => ?_⟩
      refine ⟨_, rfl, iteF ?_⟩
      exact ⟨_, rfl, s35.trans s6⟩
    · obtain ⟨x9, rfl, sm⟩ := hW
      exact hq H' (s03.trans sm)
end
end FF
end
section
set_option Elab.async false
set_option linter.all false
set_option maxRecDepth 100000
set_option maxHeartbeats 4000000
/-! FL10: the law's own defs: pseudo-division. -/
namespace FF
open PySem PySem.Spec PyProof.Rows L2
def Bd (A : Nat) (f : List Int) : Prop := ∀ x ∈ f, x.natAbs < 2 ^ A
theorem Bd.mono {A B : Nat} {f : List Int} (h : Bd A f) (hab : A ≤ B) : Bd B f := fun x hx => Nat.lt_of_lt_of_le (h x hx) (Nat.pow_le_pow_right (by decide) hab)
theorem Bd.co {A : Nat} {f : List Int} (h : Bd A f) (k : Nat) : (co f k).natAbs < 2 ^ A := by
  by_cases hk : k < f.length
  · exact h _ (co_mem hk)
  · rw [co_ge (by omega)]; exact Nat.pow_pos (by decide)
theorem Bd.of_co {A : Nat} {f : List Int} (h : ∀ k, k < f.length → (FF.co f k).natAbs < 2 ^ A) : Bd A f := fun x hx => by
  obtain ⟨i, hi, e⟩ := List.mem_iff_getElem.mp hx
  have := h i hi
  rw [co_lt hi, e] at this; exact this
theorem co_set {l : List Int} {k : Nat} {v : Int} (hk : k < l.length) (j : Nat) : co (l.set k v) j = if j = k then v else co l j := by
  unfold co
  rw [List.getD_eq_getElem?_getD, List.getD_eq_getElem?_getD]
  by_cases h : j = k
  · subst h; rw [if_pos rfl, List.getElem?_set_self hk]; rfl
  · rw [if_neg h, List.getElem?_set_ne (by omega)]
theorem mul_bd {a b : Int} {A B : Nat} (ha : a.natAbs < 2 ^ A) (hb : b.natAbs < 2 ^ B) : (a * b).natAbs < 2 ^ (A + B) := wide_lt ha hb
theorem sub_bd {a b : Int} {A : Nat} (ha : a.natAbs < 2 ^ A) (hb : b.natAbs < 2 ^ A) : (a - b).natAbs < 2 ^ (A + 1) := by
  have := Nat.pow_succ (n := 2) (m := A)
  omega
theorem mulW {a b : Int} {A B : Nat} (ha : a.natAbs < 2 ^ A) (hb : b.natAbs < 2 ^ B) (h : A + B ≤ 900000) : CMulW a b :=
  wide_mul (a := A + 1) (b := B + 1) (Nat.lt_of_lt_of_le ha (Nat.pow_le_pow_right (by decide) (by omega))) (Nat.lt_of_lt_of_le hb (Nat.pow_le_pow_right (by decide) (by omega))) (by omega) (by omega) (by omega)
/-- what the law's steps leave -/
structure LStR (f c : List Int) (l : Int) (k A B : Nat) (q r : List Int) : Prop where
  eq : (C (l ^ k) : Pm 0) * FF.cl 0 f = FF.cl 0 q * FF.cl 0 c + FF.cl 0 r
  cr : Cn 0 r
  lr : r.length < c.length
  bd : Bd (A + k * (B + 1)) r
structure LsI (f c c0 : List Int) (l : Int) (A B i : Nat) (qu re : List Int) : Prop where
  eq : (C (l ^ i) : Pm 0) * FF.cl 0 f = FF.X ^ (re.length - c0.length) * FF.cl 0 qu * FF.cl 0 c + FF.cl 0 re
  lr : re.length + i = f.length
  lc : c0.length ≤ re.length
  lq : qu.length = i
  br : Bd (A + i * (B + 1)) re
  bq : Bd (A + i * (B + 1)) qu
theorem LsI.step {f c c0 re0 qu l' : List Int} {l t : Int} {A B i : Nat} (I : LsI f c c0 l A B i qu (re0 ++ [t])) (ec : c = c0 ++ [l]) (hb : c0.length ≤ re0.length) (bl : l.natAbs < 2 ^ B) (ll : l'.length = re0.length)
    (cll : FF.cl (0 : Int) l' = C l * FF.cl 0 re0 - FF.X ^ (re0.length - c0.length) * (C t * FF.cl 0 c0)) (bd : Bd (A + i * (B + 1) + B + 1) l') : LsI f c c0 l A B (i + 1) (t :: sclL l qu) l' := by
  have h1 := I.lr
  have e0 : (re0 ++ [t]).length = re0.length + 1 := by simp
  have es : A + (i + 1) * (B + 1) = A + i * (B + 1) + B + 1 := by rw [Nat.succ_mul]; omega
  refine ⟨?_, by omega, by omega, by simp [len_scl, I.lq], by rw [es]; exact bd, ?_⟩
  · have h2 := I.eq
    rw [e0, show re0.length + 1 - c0.length = (re0.length - c0.length) + 1 by omega, pow_add, ppow_one'] at h2
    have e6 : FF.cl (0 : Int) (re0 ++ [t]) = FF.cl 0 re0 + FF.X ^ (re0.length - c0.length) * FF.X ^ c0.length * C t := by
      rw [cl_append, cl_cons, cl_nil, ← pow_add, show re0.length - c0.length + c0.length = re0.length by omega]; grind
    have e7 : FF.cl (0 : Int) c = FF.cl 0 c0 + FF.X ^ c0.length * C l := by
      rw [ec, cl_append, cl_cons, cl_nil]; grind
    rw [ll, cll, cl_cons, cl_scl, Int.pow_succ, C_mul]
    rw [e6] at h2
    generalize FF.X ^ (re0.length - c0.length) = Y at *
    generalize FF.X ^ c0.length = Z at *
    have e8 : (C (l ^ i) : Pm 0) * C l * FF.cl 0 f = C l * (C (l ^ i) * FF.cl 0 f) := by grind
    rw [e8, h2, e7]
    grind
  · rw [es]
    intro x hx
    rcases List.mem_cons.mp hx with h | h
    · rw [h]
      exact (I.br.mono (by omega)) t (by simp)
    · unfold sclL at h
      obtain ⟨y, hy, rfl⟩ := List.mem_map.mp h
      have := mul_bd bl (I.bq y hy)
      exact Nat.lt_of_lt_of_le this (Nat.pow_le_pow_right (by decide) (by omega))
theorem LsI.done {f c c0 re qu : List Int} {l : Int} {A B i : Nat} (I : LsI f c c0 l A B i qu re) (ec : c = c0 ++ [l]) (hc : c.length ≤ f.length) (h : re.length < c.length) : LStR f c l (f.length - c.length + 1) A B (tr 0 qu) (tr 0 re) := by
  have h1 := I.lr
  have h2 := I.lc
  have lcc : c.length = c0.length + 1 := by rw [ec]; simp
  have hi : f.length - c.length + 1 = i := by omega
  rw [hi]
  have h3 := tr_len (N := 0) re
  refine ⟨?_, tr_Cn _, by omega, fun x hx => ?_⟩
  · have h4 := I.eq
    rw [show re.length - c0.length = 0 by omega] at h4
    rw [cl_tr, cl_tr, h4]
    have : (FF.X : Pm 0) ^ 0 = 1 := rfl
    rw [this]; grind
  · have h4 := trimZ_mem _ x hx
    obtain ⟨y, hy, rfl⟩ := List.mem_map.mp h4
    rw [Int.emod_zero]
    exact I.br y hy
def spLSteps (K : PySem.W.Frag) : Sp := fun vs H Q _ => ∃ (a b : Addr) (f c c0 : List Int) (l : Int) (A B : Nat), vs = [.ref a, .ref b] ∧ SqL K H a (f.map V.int) ∧ SqL K H b (c.map V.int) ∧ c = c0 ++ [l] ∧ c.length ≤ f.length ∧ f.length ≤ 100 ∧ Bd A f ∧ Bd B c ∧ A + 101 * (B + 1) ≤ 400000 ∧
  ∀ H' D p1 p2 q r, Same H H' → H' D = some (.lst [.ref p1, .ref p2]) → H' p2 = some (.lst (r.map V.int)) → LStR f c l (f.length - c.length + 1) A B q r → Q (.ref D) H'
section
variable {P : Program} {w : World} {K : PySem.W.Frag} {mg : Str → Option Value} {base : Heap}
theorem ok_L_steps (T : TX K mg) : FO P w K mg base 2 "_law_steps" ["_law_f", "_law_c"] (spLSteps K) := by
  refine FO.mk T.d_L_steps sc_L_steps (fun _ _ _ _ _ _ us hl => match us, hl with | [_, _], _ => rfl) (fun vs H Q E h => ?_) (fun f cdv A outer s H vs Q E hr h => ?_)
  · obtain ⟨a, b, f, c, c0, l, A, B, rfl, _⟩ := h; rfl
  · obtain ⟨a, b, f, c, c0, l, AA, BB, rfl, hf, hc, ec, lcf, lf, bf, bc, hAB, hq⟩ := h
    obtain ⟨f_L_trim, fd_L_trim, g_L_trim, k_L_trim, b_L_trim, G_L_trim⟩ := ok_L_trim (P := P) (w := w) (base := base) T
    refine ⟨_, (pss_cons (ps_set (i := 2) sc_L_steps.nd rfl (Or.inl rfl) (pe_callTy call_list_of (by rfl) T.b_list (by decide +kernel) (pa_cons (pv 0) pa_nil)))
      (pss_cons (ps_set (i := 3) sc_L_steps.nd rfl (Or.inl rfl) (pe_lst pa_nil))
      (pss_cons (ps_while PassesOwn.never (pt_cmpR op_ge (pe_callB (r := rLenK K) call_len_seq (by rfl) T.b_len (by decide +kernel) (pa_cons (pv 2) pa_nil)) (pe_callB (r := rLenK K) call_len_seq (by rfl) T.b_len (by decide +kernel) (pa_cons (pv 1) pa_nil)) (nomark _))
        (pss_cons (ps_set (i := 4) sc_L_steps.nd rfl (Or.inl rfl) (pe_bm0 PySem.F.plainAttrs_list PySem.F.slot_list_pop PySem.F.type_list_pop mt_pop (pv 2)))
        (pss_cons (ps_set (i := 3) sc_L_steps.nd rfl (Or.inl rfl) (pe_op op_cat (pe_lst (pa_cons (pv 4) pa_nil)) (pe_lc (own := [("_law_number", 7)])  rfl sc_L_steps.nd (pi_list (pv 3)) (blkOk_by (N := n_L_steps) (sc := defScope s_L_steps) (by decide +kernel)) (fun _ _ _ _ _ => (pg_name (i := 7) sc_L_steps.nd rfl (Or.inl rfl))) (fun _ _ _ _ _ => pts_nil) (fun _ _ _ _ _ => (pe_op op_mulW (pe_ix (r := rIxL K) ix_list (pv 1) (pe_un un_neg pe_int) (fun _ _ => rfl)) (pv 7))))))
        (pss_cons (ps_setLc (i := 2) (own := [("_law_number", 7)])  rfl sc_L_steps.nd rfl rfl (sw_true rfl rfl rfl (by decide +kernel)) (pi_list (pv 2)) (blkOk_by (N := n_L_steps) (sc := defScope s_L_steps) (by decide +kernel)) (fun _ _ _ _ _ => (pg_name (i := 7) sc_L_steps.nd rfl (Or.inl rfl))) (fun _ _ _ _ _ => pts_nil) (fun _ _ _ _ _ => (pe_op op_mulW (pe_ix (r := rIxL K) ix_list (pv 1) (pe_un un_neg pe_int) (fun _ _ => rfl)) (pv 7))))
        (pss_one (ps_for PassesOwn.never rfl (pi_range1 (by rfl) T.b_range (pa_cons (pe_op op_sub (pe_callB (r := rLenK K) call_len_seq (by rfl) T.b_len (by decide +kernel) (pa_cons (pv 1) pa_nil)) pe_int) pa_nil)) (pg_name (i := 5) sc_L_steps.nd rfl (Or.inl rfl))
          (pss_cons (ps_set (i := 6) sc_L_steps.nd rfl (Or.inl rfl) (pe_op op_add (pe_op op_add (pe_op op_sub (pe_callB (r := rLenK K) call_len_seq (by rfl) T.b_len (by decide +kernel) (pa_cons (pv 2) pa_nil)) (pe_callB (r := rLenK K) call_len_seq (by rfl) T.b_len (by decide +kernel) (pa_cons (pv 1) pa_nil))) pe_int) (pv 5)))
          (pss_one (ps_asg (pe_op op_sub (pe_ix (r := rIxL K) ix_list (pv 2) (pv 6) (fun _ _ => rfl)) (pe_op op_mulW (pv 4) (pe_ix (r := rIxL K) ix_list (pv 1) (pv 5) (fun _ _ => rfl)))) (pg_sub (pv 2) (pv 6) set_list))))))))))
      (pss_one (ps_ret (pe_lst (pa_cons (pe_call G_L_trim (hr.mono (by decide)) (by rfl) g_L_trim k_L_trim b_L_trim .nil pass0 (pa_cons (pv 3) (pa_cons pe_int pa_nil))) (pa_cons (pe_call G_L_trim (hr.mono (by decide)) (by rfl) g_L_trim k_L_trim b_L_trim .nil pass0 (pa_cons (pv 2) (pa_cons pe_int pa_nil))) pa_nil)))))))), ?_⟩
    have lcc : c.length = c0.length + 1 := by rw [ec]; simp
    have hlast : atI (c.map V.int) (-1) = some (.int l) := by rw [ec]; exact at_last c0 l
    have bl : l.natAbs < 2 ^ BB := bc l (by rw [ec]; simp)
    refine ⟨_, rfl, a, _, rfl, .inl hf, fun pR nR => ⟨by show 0 ≤ sizeLine; decide, fun pQ nQ => ?_⟩⟩
    have sR : Same H (upd H pR (.lst (f.map V.int))) := same_nw (Same.refl _) nR
    have hR0 : (upd H pR (.lst (f.map V.int))) pR = some (.lst (f.map V.int)) := upd_same
    have s2 : Same H (upd (upd H pR (.lst (f.map V.int))) pQ (.lst [])) := same_nw sR nQ
    have hR : (upd (upd H pR (.lst (f.map V.int))) pQ (.lst [])) pR = some (.lst (f.map V.int)) := by rw [upd_ne (ne_of_none hR0 nQ)]; exact hR0
    have hQ : (upd (upd H pR (.lst (f.map V.int))) pQ (.lst [])) pQ = some (.lst (([] : List Int).map V.int)) := upd_same
    have nQR : pQ ≠ pR := (ne_of_none hR0 nQ).symm
    have nQ' := sR.free nQ
    generalize upd (upd H pR (.lst (f.map V.int))) pQ (.lst []) = H1 at *
    refine ⟨fun m σ H' => ∃ (qu re : List Int) (pQ pR : Addr) (x4 x5 x6 : Option V), m = re.length ∧ σ = [some (.ref a), some (.ref b), some (.ref pR), some (.ref pQ), x4, x5, x6, none] ∧ Same H H' ∧ H pR = none ∧ pQ ≠ pR ∧ H' pR = some (.lst (re.map V.int)) ∧ H' pQ = some (.lst (qu.map V.int)) ∧ LsI f c c0 l AA BB (f.length - re.length) qu re,
      ⟨_, [], f, pQ, pR, none, none, none, rfl, rfl, s2, nR, nQR, hR, hQ, ?_⟩, fun m σ H' hW => ?_⟩
    · rw [Nat.sub_self]
      refine ⟨by rw [Int.pow_zero, C_one, cl_nil]; grind, by omega, by omega, rfl, bf.mono (by omega), fun x hx => (by cases hx)⟩
    · obtain ⟨qu, re, pQ, pR, x4, x5, x6, rfl, rfl, s3, nR3, nQR3, hR3, hQ3, I⟩ := hW
      obtain ⟨i, ei⟩ : ∃ i, i = f.length - re.length := ⟨_, rfl⟩
      rw [← ei] at I
      refine ⟨_, rfl, pR, _, rfl, .inl (sqL_of hR3), _, rfl, b, _, rfl, .inl (s3.seq hc), _, _, rfl, rfl, _, rfl, ?_⟩
      rw [List.length_map, List.length_map]
      have lre := I.lr
      by_cases hb : c.length ≤ re.length
      · refine ifD (by omega) ?_
        rcases snoc_cases re with rfl | ⟨re0, t, rfl⟩
        · exfalso
          have : ([] : List Int).length = 0 := rfl
          omega
        have lr0 : (re0 ++ [t]).length = re0.length + 1 := by simp
        have hi100 : i ≤ 100 := by omega
        have hX : i * (BB + 1) ≤ 100 * (BB + 1) := Nat.mul_le_mul_right _ hi100
        obtain ⟨X0, eX⟩ : ∃ X0, X0 = AA + i * (BB + 1) := ⟨_, rfl⟩
        have br := I.br
        have bq := I.bq
        rw [← eX] at br bq
        have hcol : c0.length ≤ re0.length := by omega
        refine ⟨fun σ' H2 => ∃ (qu' re' : List Int) (pQ pR : Addr) (x4 x5 x6 : Option V), re'.length = re0.length ∧ σ' = [some (.ref a), some (.ref b), some (.ref pR), some (.ref pQ), x4, x5, x6, none] ∧ Same H H2 ∧ H pR = none ∧ pQ ≠ pR ∧ H2 pR = some (.lst (re'.map V.int)) ∧ H2 pQ = some (.lst (qu'.map V.int)) ∧ LsI f c c0 l AA BB (i + 1) qu' re', fun σ' H2 ⟨qu', re', y1, y2, y4, y5, y6, e1, e2, e3, e4, e5, e6, e7, e8⟩ => ⟨re'.length, by omega, qu', re', y1, y2, y4, y5, y6, rfl, e2, e3, e4, e5, e6, e7, by rw [show f.length - re'.length = i + 1 by omega]; exact e8⟩, ?_⟩
        refine ⟨_, rfl, .inl ⟨rfl, _, sqL_of hR3⟩, pR, _, .int t, rfl, rfl, hR3, by simp, ?_⟩
        have ep : ((re0 ++ [t]).map V.int).dropLast = re0.map V.int := by rw [List.map_append]; simp
        rw [ep]
        have s4 : Same H (upd H' pR (.lst (re0.map V.int))) := same_new s3 nR3
        have hR4 : (upd H' pR (.lst (re0.map V.int))) pR = some (.lst (re0.map V.int)) := upd_same
        have hQ4 : (upd H' pR (.lst (re0.map V.int))) pQ = some (.lst (qu.map V.int)) := by rw [upd_ne nQR3]; exact hQ3
        generalize upd H' pR (.lst (re0.map V.int)) = H4 at *
        -- q
        refine ⟨_, rfl, by show 1 ≤ sizeLine; decide, fun pT nT => ?_⟩
        have sT : Same H4 (upd H4 pT (.lst [.int t])) := same_nw (Same.refl _) nT
        have hT : (upd H4 pT (.lst [.int t])) pT = some (.lst (([t] : List Int).map V.int)) := upd_same
        have s5 := s4.trans sT
        have hQ5 := sT _ _ hQ4
        have hR5 := sT _ _ hR4
        generalize upd H4 pT (.lst [.int t]) = H5 at *
        have lqu := I.lq
        refine ⟨_, rfl, pQ, rfl, ⟨_, sqL_of hQ5⟩, fun D hD2 => lcL (fun k => .int (l * co qu k)) (by rw [List.length_map]; omega) (sqL_of hQ5) hD2 (fun x => rfl) (fun k x H6 hx e Qe q => ?_) (fun H6 s6 h6 => ?_)⟩
        · obtain ⟨rfl, hk⟩ := map_get hx
          exact ⟨_, rfl, 1, rfl, b, _, -1, _, rfl, rfl, e.seq (s5.seq hc), hlast, _, rfl, l, _, rfl, rfl, mulW bl (bq.co k) (by omega), q H6 (Same.refl _)⟩
        have h6' : H6 D = some (.lst ((sclL l qu).map V.int)) := by
          rw [h6, List.length_map, range_map_get qu fun x => V.int (l * x)]
          unfold sclL
          rw [List.map_map]; rfl
        refine ⟨pT, D, _, _, rfl, rfl, s6 _ _ hT, h6', small_le (by simp [len_scl]; omega), fun pQ2 nQ2 => ?_⟩
        rw [← List.map_append]
        have s7 : Same H6 (upd H6 pQ2 (.lst (([t] ++ sclL l qu).map V.int))) := same_nw (Same.refl _) nQ2
        have hQ7 : (upd H6 pQ2 (.lst (([t] ++ sclL l qu).map V.int))) pQ2 = some (.lst ((t :: sclL l qu).map V.int)) := upd_same
        have s07 := s5.trans (s6.trans s7)
        have hR7 := s7 _ _ (s6 _ _ hR5)
        generalize upd H6 pQ2 (.lst (([t] ++ sclL l qu).map V.int)) = H7 at *
        -- rest
        refine ⟨_, rfl, pR, rfl, ⟨_, sqL_of hR7⟩, fun D hD2 => lcL (fun k => .int (l * co re0 k)) (by rw [List.length_map]; omega) (sqL_of hR7) hD2 (fun x => rfl) (fun k x H8 hx e Qe q => ?_) (fun H8 s8 h8 => ?_)⟩
        · obtain ⟨rfl, hk⟩ := map_get hx
          have hbk : (co re0 k).natAbs < 2 ^ X0 := br _ (by simp [co_mem hk])
          exact ⟨_, rfl, 1, rfl, b, _, -1, _, rfl, rfl, e.seq (s07.seq hc), hlast, _, rfl, l, _, rfl, rfl, mulW bl hbk (by omega), q H8 (Same.refl _)⟩
        have h8' : H8 D = some (.lst ((sclL l re0).map V.int)) := by
          rw [h8, List.length_map, range_map_get re0 fun x => V.int (l * x)]
          unfold sclL
          rw [List.map_map]; rfl
        have s08 := s07.trans s8
        have hQ8 := s8 _ _ hQ7
        have nQD : pQ2 ≠ D := ne_of_none hQ7 hD2
        have nD8 := s07.free hD2
        have bt : t.natAbs < 2 ^ X0 := br t (by simp)
        have b0 : ∀ j, (co re0 j).natAbs < 2 ^ X0 := Bd.co fun x hx => br x (by simp [hx])
        refine ⟨_, rfl, b, _, rfl, .inl (s08.seq hc), _, 1, rfl, rfl, (c0.length : Nat), (show [V.int (((c.map V.int).length : Int) - 1)] = [V.int ((c0.length : Nat) : Int)] from congrArg (fun z => [V.int z]) (by rw [List.length_map]; omega)), by omega, by omega, for_range (lo := 0) (n := ((c0.length : Nat) : Int).toNat) (fun k σ H3 => ∃ (l' : List Int) (x5 x6 : Option V), σ = [some (.ref a), some (.ref b), some (.ref D), some (.ref pQ2), some (.int t), x5, x6, none] ∧ Same H H3 ∧ H3 D = some (.lst (l'.map V.int)) ∧ H3 pQ2 = some (.lst ((t :: sclL l qu).map V.int)) ∧ l'.length = re0.length ∧ FF.cl (0 : Int) l' = C l * FF.cl 0 re0 - FF.X ^ (re0.length - c0.length) * (C t * FF.cl 0 (c0.take k)) ∧ (∀ j, (co l' j).natAbs < 2 ^ (X0 + BB + 1)) ∧ ∀ j, re0.length - c0.length + k ≤ j → co l' j = l * co re0 j)
          ⟨sclL l re0, x5, x6, rfl, s08, h8', hQ8, len_scl _ _, by rw [cl_scl, List.take_zero, cl_nil]; grind, fun j => ?_, fun j _ => co_scl _ _ _⟩ (fun k σ H3 hk hW => ?_) (fun σ H3 hW => ?_)⟩
        · rw [co_scl]
          have := mul_bd bl (b0 j)
          exact Nat.lt_of_lt_of_le this (Nat.pow_le_pow_right (by decide) (by omega))
        · obtain ⟨l', x5, x6, rfl, s9, h9, hQ9, ll, cll, bb, bj⟩ := hW
          have hk2 : k < c0.length := hk
          obtain ⟨at_, eat⟩ : ∃ at_, at_ = re0.length - c0.length + k := ⟨_, rfl⟩
          have hat : at_ < l'.length := by omega
          have hatI : ∀ z : Int, z = ((at_ : Nat) : Int) → atI (l'.map V.int) z = some (.int (co l' at_)) := fun z e => by rw [e]; exact at_co hat
          have hix : ∀ z : Int, z = ((at_ : Nat) : Int) → ixN (l'.map V.int).length z = some at_ := fun z e => by rw [e, List.length_map]; exact ix_nat hat
          have hgk : ∀ z : Int, z = ((k : Nat) : Int) → atI (c.map V.int) z = some (.int (co c k)) := fun z e => by rw [e]; exact at_co (by omega)
          refine ⟨_, rfl, D, _, rfl, .inl (sqL_of h9), _, rfl, b, _, rfl, .inl (s9.seq hc), _, _, rfl, rfl, _, 1, rfl, rfl, _, rfl, _, _, rfl, rfl, ?_⟩
          have bck : (co c k).natAbs < 2 ^ BB := bc.co k
          refine ⟨_, rfl, _, rfl, D, _, _, _, rfl, rfl, sqL_of h9, hatI _ (by simp only [List.length_map]; omega), _, rfl, _, rfl, _, rfl, b, _, _, _, rfl, rfl, s9.seq hc, hgk _ (Int.zero_add _), t, _, rfl, rfl, mulW bt bck (by omega), _, _, rfl, rfl, ?_⟩
          refine ⟨_, rfl, _, rfl, D, _, _, at_, rfl, rfl, h9, hix _ (by simp only [List.length_map]; omega), ?_⟩
          have ec2 : co c k = co c0 k := by rw [ec]; exact co_snoc_lt hk2
          have eat2 := bj at_ (by omega)
          refine ⟨l'.set at_ (co l' at_ - t * co c k), _, _, rfl, same_new s9 nD8, by rw [upd_same, set_map], by rw [upd_ne nQD]; exact hQ9, by simpa using ll, ?_, fun j => ?_, fun j hj => ?_⟩
          · rw [cl_set _ _ _ hat, cll, cl_take c0 hk2, C_sub, C_mul, ec2, eat, pow_add]
            grind
          · rw [co_set hat]
            by_cases e : j = at_
            · rw [if_pos e, eat2]
              have h1 := mul_bd bl (b0 at_)
              have h2 := mul_bd bt bck
              rw [Nat.add_comm BB X0] at h1
              exact sub_bd h1 h2
            · rw [if_neg e]; exact bb j
          · rw [co_set hat, if_neg (by omega)]
            exact bj j (by omega)
        · obtain ⟨l', x5, x6, rfl, s9, h9, hQ9, ll, cll, bb, bj⟩ := hW
          have e5 : ((c0.length : Nat) : Int).toNat = c0.length := rfl
          rw [e5, List.take_length] at cll
          refine ⟨_, l', pQ2, D, _, _, _, ll, rfl, s9, nD8, nQD, h9, hQ9, ?_⟩
          refine I.step ec hcol bl ll cll ?_
          rw [← eX]
          exact Bd.of_co fun j _ => bb j
      · refine ifN (by omega) ?_
        have lq1 := I.lq
        refine ⟨_, rfl, pQ, 0, qu, rfl, by omega, sqL_of hQ3, by omega, fun H5 p5 s5 n5 h5 => ?_⟩
        refine ⟨_, rfl, pR, 0, re, rfl, by omega, sqL_of (s5 _ _ hR3), by omega, fun H6 p6 s6 n6 h6 => ?_⟩
        refine ⟨by show 2 ≤ sizeLine; decide, fun pL nL => ?_⟩
        have sL : Same H6 (upd H6 pL (.lst [.ref p5, .ref p6])) := same_nw (Same.refl _) nL
        exact hq _ pL p5 p6 _ _ ((s3.trans (s5.trans s6)).trans sL) upd_same (sL _ _ h6) (I.done ec lcf (by omega))
end
end FF
end
section
set_option Elab.async false
set_option linter.all false
set_option maxRecDepth 100000
set_option maxHeartbeats 4000000
/-! FL11: laws of whole polynomials: parts, a good prime. -/
namespace FF
open PySem PySem.Spec PyProof.Rows L2
/-! ### whole polynomials -/
theorem lead_mul {h h0 : List Int} {l : Int} (eh : h = h0 ++ [l]) (hl : l ≠ 0) {u : Pm 0} (hd : Dg (u * FF.cl 0 h) h0.length) : u = 0 := by
  obtain ⟨f, ef⟩ := cl_ex u
  have e1 : FF.cl 0 (tr 0 f) = u := by rw [cl_tr, ef]
  rcases (tr_Cn (N := 0) f).2 with h1 | ⟨z, m, h1, hm⟩
  · rw [← e1, h1, cl_nil]
  · exfalso
    rw [h1] at e1
    have hd2 : Dg (u * FF.cl 0 h) (z.length + h0.length) := hd.mono (by omega)
    have e2 : FF.cl (0 : Int) (z ++ [m]) = FF.cl 0 z + FF.X ^ z.length * C m := by rw [cl_append, cl_cons, cl_nil]; grind
    have e3 : FF.cl (0 : Int) h = FF.cl 0 h0 + FF.X ^ h0.length * C l := by rw [eh, cl_append, cl_cons, cl_nil]; grind
    have hlow : Dg (FF.cl (0 : Int) z * FF.cl 0 h0 + FF.X ^ h0.length * (C l * FF.cl 0 z) + FF.X ^ z.length * (C m * FF.cl 0 h0)) (z.length + h0.length) := by
      refine Dg.add' (Dg.add' ((Dg.mul (Dg.of_cl z) (Dg.of_cl h0)).mono (by omega)) ?_) ?_
      · exact (Dg.Xmul _ (Dg.Cmul l (Dg.of_cl z))).mono (by omega)
      · exact Dg.Xmul _ (Dg.Cmul m (Dg.of_cl h0))
    obtain ⟨w, hw, ew⟩ := hlow
    have e4 : u * FF.cl 0 h = FF.cl 0 w + FF.X ^ (z.length + h0.length) * C (m * l) := by
      rw [ew, ← e1, e2, e3, pow_add, C_mul]; grind
    rw [e4] at hd2
    have h5 := Int.zero_dvd.mp (dg_coefs hd2 hw)
    rcases Int.mul_eq_zero.mp h5 with h6 | h6
    · exact hm h6
    · exact hl h6
theorem scl_zero {r : List Int} {x : Int} (hx : x ≠ 0) (cr : Cn 0 r) (h : (C x : Pm 0) * FF.cl 0 r = 0) : r = [] := by
  rw [← cl_scl, ← cl_nil, cl_iff] at h
  have h1 : ∀ k, co r k = co [] k := fun k => by
    have h2 := Int.zero_dvd.mp (h k)
    rw [co_scl, co_nil] at h2
    rw [co_nil]
    have h3 : x * co r k = 0 := by omega
    rcases Int.mul_eq_zero.mp h3 with h4 | h4
    · exact absurd h4 hx
    · exact h4
  have := cr.len_le h1
  exact List.length_eq_zero_iff.mp (by simpa using this)
/-- where a multiple of h goes into a multiple of g, the steps of g by h leave nothing -/
theorem part_zero {g c h h0 q q' r : List Int} {l lh γ : Int} {k k' A B : Nat} (S : StR g c l k q []) (hc : FF.cl (0 : Int) c = C γ * FF.cl 0 h) (hl : l ≠ 0) (eh : h = h0 ++ [lh]) (hlh : lh ≠ 0) (L : LStR g h lh k' A B q' r) : r = [] := by
  have e1 := S.eq
  rw [cl_nil, hc] at e1
  have e2 := L.eq
  have lr := L.lr
  have e3 : (C (l ^ k) : Pm 0) * FF.cl 0 r = (C (lh ^ k') * FF.cl 0 q * C γ - C (l ^ k) * FF.cl 0 q') * FF.cl 0 h := by
    have h1 : (C (l ^ k) : Pm 0) * (C (lh ^ k') * FF.cl 0 g) = C (lh ^ k') * (C (l ^ k) * FF.cl 0 g) := by grind
    rw [e1, e2] at h1
    grind
  have e4 : Dg ((C (lh ^ k') * FF.cl 0 q * C γ - C (l ^ k) * FF.cl 0 q') * FF.cl (0 : Int) h) h0.length := by
    rw [← e3]
    exact (Dg.Cmul _ (Dg.of_cl r)).mono (by rw [eh] at lr; simp at lr; omega)
  have e5 := lead_mul eh hlh e4
  rw [e5] at e3
  have e6 : (C (l ^ k) : Pm 0) * FF.cl 0 r = 0 := by rw [e3]; grind
  exact scl_zero (Int.pow_ne_zero hl) L.cr e6
theorem selD_lo {Us : List (List Int)} {b : Nat} (mo : ∀ u ∈ Us, 2 ≤ u.length) {i : Nat} (hb : b / 2 ^ i % 2 = 1) : ∀ k, i < k → k ≤ Us.length → 1 ≤ selD Us b k
  | k + 1, h, hk => by
    have hm := mo (Us.getD k []) (List.mem_of_getElem? (getD_at (by omega)))
    unfold selD
    by_cases e : i = k
    · subst e; rw [if_pos hb]; omega
    · have := selD_lo mo hb k (by omega) (by omega)
      split <;> omega
theorem selD_hi {Us : List (List Int)} {b : Nat} (mo : ∀ u ∈ Us, 2 ≤ u.length) {i : Nat} (hb : b / 2 ^ i % 2 = 0) : ∀ k, i < k → k ≤ Us.length → selD Us b k + 1 ≤ ((Us.take k).map fun c => c.length - 1).sum
  | k + 1, h, hk => by
    have hm := mo (Us.getD k []) (List.mem_of_getElem? (getD_at (by omega)))
    have e1 : Us.take (k + 1) = Us.take k ++ [Us.getD k []] := by
      rw [List.take_add_one, getD_at (by omega)]; rfl
    rw [e1, List.map_append, List.sum_append]
    simp only [List.map_cons, List.map_nil, List.sum_cons, List.sum_nil]
    unfold selD
    by_cases e : i = k
    · subst e
      rw [if_neg (by omega)]
      have := selD_le Us b i
      omega
    · have := selD_hi mo hb k (by omega) (by omega)
      split <;> omega
theorem any_bit {c b v : Nat} (h : (List.range c).any (fun i => b / 2 ^ i % 2 == v) = true) : ∃ i, i < c ∧ b / 2 ^ i % 2 = v := by
  obtain ⟨i, hi, e⟩ := List.any_eq_true.mp h
  exact ⟨i, List.mem_range.mp hi, by simpa using e⟩
/-! ### a prime that does not go into a number -/
def noSmall (p : Nat) : Bool := (List.range 98).all fun d => p % (d + 2) != 0
theorem isP_of {p : Nat} (h1 : 100 < p) (h2 : p < 10000) (h : noSmall p = true) : IsP p := by
  have hd : ∀ d, 2 ≤ d → d < 100 → ¬ d ∣ p := fun d a b c => by
    have := List.all_eq_true.mp h (d - 2) (List.mem_range.mpr (by omega))
    rw [show d - 2 + 2 = d by omega] at this
    simp at this
    exact this (Nat.mod_eq_zero_of_dvd c)
  refine ⟨by omega, fun d hdv => ?_⟩
  obtain ⟨e, he⟩ := hdv
  rcases Nat.lt_or_ge d 2 with h3 | h3
  · rcases Nat.lt_or_ge d 1 with h4 | h4
    · have : d = 0 := by omega
      rw [this] at he; simp at he; omega
    · exact .inl (by omega)
  · have h4 : ¬ d < 100 := fun z => hd d h3 z ⟨e, he⟩
    have h5 : ¬ 2 ≤ e := fun z => by
      have h6 : ¬ e < 100 := fun y => hd e z y ⟨d, by rw [he, Nat.mul_comm]⟩
      have : 100 * 100 ≤ d * e := Nat.mul_le_mul (by omega) (by omega)
      omega
    have h7 : e = 1 := by
      rcases Nat.lt_or_ge e 1 with h8 | h8
      · have : e = 0 := by omega
        rw [this] at he; simp at he; omega
      · omega
    rw [h7] at he
    exact .inr (by omega)
def prl : List Nat := ((List.range 1782).map (· + 8192)).filter noSmall
theorem prl_P {p : Nat} (h : p ∈ prl) : IsP p ∧ 8192 ≤ p ∧ p ≤ 9973 := by
  obtain ⟨h1, h2⟩ := List.mem_filter.mp h
  obtain ⟨i, hi, rfl⟩ := List.mem_map.mp h1
  have := List.mem_range.mp hi
  exact ⟨isP_of (by omega) (by omega) h2, by omega, by omega⟩
theorem prl_nodup : prl.Nodup := by
  unfold prl
  exact List.Pairwise.filter _ (List.Pairwise.map _ (fun a b h => by omega) List.nodup_range)
def nprod : List Nat → Nat
  | [] => 1
  | a :: l => a * nprod l
theorem prl_prod : 2 ^ 1800 ≤ nprod prl := by decide +kernel
theorem prod_dvd : ∀ {L : List Nat} {n : Int}, (∀ p ∈ L, IsP p) → L.Nodup → (∀ p ∈ L, (p : Int) ∣ n) → (nprod L : Int) ∣ n
  | [], n, _, _, _ => Int.one_dvd n
  | p :: L, n, hP, hn, hd => by
    obtain ⟨m, rfl⟩ := hd p (by simp)
    obtain ⟨h1, h2⟩ := List.nodup_cons.mp hn
    have h3 : (nprod L : Int) ∣ m := prod_dvd (fun q hq => hP q (by simp [hq])) h2 fun q hq => by
      have hq2 := hP q (by simp [hq])
      rcases hq2.dvd_mul (hd q (by simp [hq])) with h | h
      · have h4 : q ∣ p := Int.natCast_dvd_natCast.mp h
        rcases (hP p (by simp)).2 q h4 with h5 | h5
        · have := hq2.1; omega
        · rw [h5] at hq; exact absurd hq h1
      · exact h
    unfold nprod
    rw [Int.natCast_mul]
    exact Int.mul_dvd_mul (Int.dvd_refl _) h3
theorem prime_for {n : Int} (h0 : n ≠ 0) (h : n.natAbs < 2 ^ 1800) : ∃ p : Nat, PrZ (p : Int) ∧ ¬ (p : Int) ∣ n := by
  refine Classical.byContradiction fun hc => ?_
  have hd : (nprod prl : Int) ∣ n := prod_dvd (fun p hp => (prl_P hp).1) prl_nodup fun p hp => by
    refine Classical.byContradiction fun hn => hc ⟨p, ?_, hn⟩
    obtain ⟨h1, h2, h3⟩ := prl_P hp
    exact ⟨by omega, by omega, by simpa using h1⟩
  have h1 := Int.ofNat_dvd_left.mp hd
  have h2 := Nat.le_of_dvd (by omega) h1
  have := prl_prod
  omega
end FF
end
section
set_option Elab.async false
set_option linter.all false
set_option maxRecDepth 100000
set_option maxHeartbeats 4000000
/-! FL12: the law's own defs: free of squares. -/
namespace FF
open PySem PySem.Spec PyProof.Rows L2
def be : Nat → Nat
  | 1 => 1363 | 2 => 271 | 3 => 66 | 4 => 20 | 5 => 6 | 6 => 3 | _ => 0
def Te : Nat → Nat
  | 0 => 1726 | 1 => 1726 | 2 => 363 | 3 => 92 | 4 => 26 | 5 => 6 | _ => 0
theorem be_step : ∀ n1, n1 < 7 → ∀ n2, n2 < n1 → 1 ≤ n2 → ∀ n3, n3 < n2 → 1 ≤ n3 → be n1 + (n1 - n2 + 1) * (be n2 + 1) ≤ be n3 := by decide
theorem be_le : ∀ n, n < 7 → be n ≤ 1363 := by decide
theorem Te_step : ∀ n2, n2 < 6 → ∀ n3, n3 < n2 → 1 ≤ n3 → Te n2 + be n3 ≤ Te n3 := by decide
theorem Te_le : ∀ n, n < 6 → Te n ≤ Te 0 := by decide
theorem be_Te : ∀ n, n < 6 → be n ≤ Te n := by decide
def InI (p : Nat) (g z : List Int) : Prop := ∃ u v : Pm p, FF.cl p z = u * FF.cl p g + v * sl (FF.cl p g)
structure FrI (g one oth : List Int) (E : Int) : Prop where
  n21 : oth.length < one.length
  n6 : one.length ≤ 6
  c1 : ∃ o x, one = o ++ [x] ∧ 0 < x
  c2 : oth = [] ∨ ∃ o x, oth = o ++ [x] ∧ 0 < x
  g1 : gcdL one = 1
  g2 : oth ≠ [] → gcdL oth = 1
  b1 : Bd (be one.length) one
  b2 : Bd (be oth.length) oth
  e0 : E ≠ 0
  eb : E.natAbs < 2 ^ Te oth.length
  id : ∀ p : Nat, IsP p → ¬ (p : Int) ∣ E → InI p g one ∧ InI p g oth
theorem InI.nil (p : Nat) (g : List Int) : InI p g [] := ⟨0, 0, by rw [cl_nil]; grind⟩
theorem InI.lin {p : Nat} {g a b q r : List Int} {x : Int} (ha : InI p g a) (hb : InI p g b) (e : (C x : Pm 0) * FF.cl 0 a = FF.cl 0 q * FF.cl 0 b + FF.cl 0 r) : InI p g r := by
  have e1 : FF.cl 0 (sclL x a) = FF.cl 0 (addL (mulL q b) r) := by rw [cl_scl, cl_add, cl_mul]; exact e
  have e2 := cl_down (m := (p : Int)) (Int.dvd_zero _) e1
  rw [cl_scl, cl_add, cl_mul] at e2
  obtain ⟨u, v, h1⟩ := ha
  obtain ⟨u', v', h2⟩ := hb
  exact ⟨C x * u - FF.cl p q * u', C x * v - FF.cl p q * v', by rw [h1, h2] at e2; grind⟩
theorem InI.unscl {p : Nat} (hp : IsP p) {g r : List Int} {c : Int} (hc : ¬ (p : Int) ∣ c) (h : InI p g (sclL c r)) : InI p g r := by
  obtain ⟨u, v, h⟩ := h
  obtain ⟨d, hd⟩ := hp.inv hc
  have e := unit_cc hd
  rw [cl_scl] at h
  refine ⟨C d * u, C d * v, ?_⟩
  have : FF.cl (p : Int) r = C d * (C c * FF.cl p r) := by grind
  rw [this, h]; grind
theorem cn_snoc {r : List Int} (h : Cn 0 r) (hn : r ≠ []) : ∃ r0 z, r = r0 ++ [z] ∧ z ≠ 0 := by
  rcases h.2 with h1 | ⟨g, a, h1, h2⟩
  · exact absurd h1 hn
  · exact ⟨g, a, h1, h2⟩
theorem Bd.nil (A : Nat) : Bd A [] := fun x hx => (by cases hx)
theorem Bd.scl {A : Nat} {c : Int} {r : List Int} (h : Bd A (sclL c r)) (hc : c ≠ 0) : Bd A r := fun x hx => by
  have h1 := h (c * x) (List.mem_map.mpr ⟨x, hx, rfl⟩)
  rw [Int.natAbs_mul] at h1
  have h2 : 1 * x.natAbs ≤ c.natAbs * x.natAbs := Nat.mul_le_mul_right _ (by omega)
  omega
theorem FrI.stop {g one oth q : List Int} {E y : Int} {k A B : Nat} (I : FrI g one oth E) (hn : oth ≠ []) (L : LStR one oth y k A B q []) : FrI g oth [] E := by
  have h1 := I.n21
  have h2 := I.n6
  refine ⟨List.length_pos_iff.mpr hn, by omega, I.c2.resolve_left hn, .inl rfl, I.g2 hn, fun z => absurd rfl z, I.b2, Bd.nil _, I.e0, ?_, fun p hp hE => ⟨(I.id p hp hE).2, InI.nil _ _⟩⟩
  exact Nat.lt_of_lt_of_le I.eb (Nat.pow_le_pow_right (by decide) (Te_le _ (by omega)))
theorem FrI.go {g one oth q r r' : List Int} {E y z c : Int} (I : FrI g one oth E) (hn : oth ≠ []) (L : LStR one oth y (one.length - oth.length + 1) (be one.length) (be oth.length) q r) (er : ∃ r0, r = r0 ++ [z]) (B : BareR r r' z c) : FrI g oth r' (E * c) := by
  have h1 := I.n21
  have h2 := I.n6
  have h3 := L.lr
  have h4 : 0 < oth.length := List.length_pos_iff.mpr hn
  have el : r'.length = r.length := by rw [B.eq, len_scl]
  obtain ⟨r1, l1, er1, hl1, _⟩ := B.pos
  have h5 : 1 ≤ r'.length := by rw [er1]; simp
  have hb : Bd (be r'.length) r := L.bd.mono (by rw [el]; exact be_step _ (by omega) _ h1 h4 _ h3 (by omega))
  have hz : z ∈ r := by obtain ⟨r0, e⟩ := er; rw [e]; simp
  have hc : c.natAbs < 2 ^ be r'.length := Nat.lt_of_le_of_lt B.cl (hb z hz)
  refine ⟨by omega, by omega, I.c2.resolve_left hn, .inr ⟨r1, l1, er1, hl1⟩, I.g2 hn, fun _ => B.one, I.b2, ?_, Int.mul_ne_zero I.e0 B.c0, ?_, fun p hp hE => ?_⟩
  · rw [B.eq] at hb; exact hb.scl B.c0
  · have := mul_bd I.eb hc
    exact Nat.lt_of_lt_of_le this (Nat.pow_le_pow_right (by decide) (Te_step _ (by omega) _ (by omega) h5))
  · have hE1 : ¬ (p : Int) ∣ E := fun h => hE (Int.dvd_mul_of_dvd_left h)
    have hE2 : ¬ (p : Int) ∣ c := fun h => hE (Int.dvd_mul_of_dvd_right h)
    obtain ⟨i1, i2⟩ := I.id p hp hE1
    have i3 := InI.lin i1 i2 L.eq
    rw [B.eq] at i3
    exact ⟨i2, i3.unscl hp hE2⟩
theorem gcdL_one (x : Int) : gcdL [x] = x.natAbs := by
  show Int.gcd ((0 : Nat) : Int) x = _
  simp
theorem FrI.fin {g one : List Int} {E l : Int} (I : FrI g one [] E) (h : one.length = 1) (hl : l ≠ 0) (hl2 : l.natAbs < 2 ^ 29) : ∃ p : Nat, PrZ p ∧ GoodP g l p := by
  obtain ⟨o, x, eo, hx⟩ := I.c1
  have h1 : o = [] := by rw [eo] at h; simpa using h
  have h2 := I.g1
  rw [eo, h1, List.nil_append, gcdL_one] at h2
  have hx1 : x = 1 := by omega
  have h3 := mul_bd I.eb hl2
  obtain ⟨p, hP, hp⟩ := prime_for (Int.mul_ne_zero I.e0 hl) (Nat.lt_of_lt_of_le h3 (Nat.pow_le_pow_right (by decide) (by decide)))
  have hE1 : ¬ (p : Int) ∣ E := fun h => hp (Int.dvd_mul_of_dvd_left h)
  have hE2 : ¬ (p : Int) ∣ l := fun h => hp (Int.dvd_mul_of_dvd_right h)
  obtain ⟨u, v, e⟩ := (I.id p (prz_isp hP) hE1).1
  refine ⟨p, hP, hE2, u, v, ?_⟩
  rw [← e, eo, h1, hx1]; rfl
/-- what is asked of the polynomial -/
def Szd (g : List Int) : Prop := (g.length ≤ 6 ∧ Bd 3 g) ∨ (g.length ≤ 4 ∧ Bd 20 g)
theorem slo_bd {A : Nat} {g : List Int} (h : Bd A g) (hl : g.length ≤ 6) : Bd (A + 3) (slo g) := Bd.of_co fun k hk => by
  rw [slo_len] at hk
  rw [co_slo]
  have h1 := h.co (k + 1)
  have h2 : ((k : Int) + 1).natAbs < 2 ^ 3 := by
    have : (2 : Nat) ^ 3 = 8 := by decide
    omega
  have := mul_bd h2 h1
  rw [Nat.add_comm 3 A] at this
  exact this
theorem Szd.b1 {g : List Int} (h : Szd g) (h1 : 1 ≤ g.length) : Bd (be g.length) g := by
  rcases h with ⟨h2, h3⟩ | ⟨h2, h3⟩
  · exact h3.mono (by
      have : ∀ n, n < 7 → 1 ≤ n → 3 ≤ be n := by decide
      exact this _ (by omega) h1)
  · exact h3.mono (by
      have : ∀ n, n < 5 → 1 ≤ n → 20 ≤ be n := by decide
      exact this _ (by omega) h1)
theorem Szd.b2 {g : List Int} (h : Szd g) (h1 : 2 ≤ g.length) : Bd (be (g.length - 1)) (slo g) := by
  rcases h with ⟨h2, h3⟩ | ⟨h2, h3⟩
  · exact (slo_bd h3 h2).mono (by
      have : ∀ n, n < 7 → 2 ≤ n → 6 ≤ be (n - 1) := by decide
      exact this _ (by omega) h1)
  · exact (slo_bd h3 (by omega)).mono (by
      have : ∀ n, n < 5 → 2 ≤ n → 23 ≤ be (n - 1) := by decide
      exact this _ (by omega) h1)
theorem slo_snoc {g g0 : List Int} {l : Int} (eg : g = g0 ++ [l]) (hl : l ≠ 0) (h1 : 1 ≤ g0.length) : ∃ s0 z, slo g = s0 ++ [z] ∧ z ≠ 0 := by
  rcases snoc_cases (slo g) with h | ⟨s0, z, h⟩
  · have := slo_len g
    rw [h, eg] at this
    simp at this; omega
  · refine ⟨s0, z, h, fun hz => ?_⟩
    have h2 := slo_len g
    rw [h] at h2
    have h3 : co (slo g) s0.length = z := by rw [h]; exact co_last' 
    have h4 : g.length = g0.length + 1 := by rw [eg]; simp
    simp at h2
    rw [co_slo, hz] at h3
    have h5 : co g (s0.length + 1) = l := by
      rw [show s0.length + 1 = g0.length by omega, eg]; exact co_last'
    rw [h5] at h3
    rcases Int.mul_eq_zero.mp h3 with h6 | h6
    · omega
    · exact hl h6
theorem FrI.start {g g0 r' : List Int} {l z c : Int} (eg : g = g0 ++ [l]) (hl : 0 < l) (h1 : 1 ≤ g0.length) (hs : Szd g) (hg : gcdL g = 1) (es : ∃ s0, slo g = s0 ++ [z]) (B : BareR (slo g) r' z c) : FrI g g r' c := by
  have lg : g.length = g0.length + 1 := by rw [eg]; simp
  have l6 : g.length ≤ 6 := by rcases hs with h | h <;> omega
  have el : r'.length = g.length - 1 := by rw [← slo_len, B.eq, len_scl]
  obtain ⟨r1, l1, er1, hl1, _⟩ := B.pos
  have hb := hs.b2 (by omega)
  have hz : z ∈ slo g := by obtain ⟨r0, e⟩ := es; rw [e]; simp
  have hc : c.natAbs < 2 ^ be (g.length - 1) := Nat.lt_of_le_of_lt B.cl (hb z hz)
  refine ⟨by omega, l6, ⟨g0, l, eg, hl⟩, .inr ⟨r1, l1, er1, hl1⟩, hg, fun _ => B.one, hs.b1 (by omega), ?_, B.c0, ?_, fun p hp hE => ⟨⟨1, 0, by grind⟩, ?_⟩⟩
  · rw [el]
    rw [B.eq] at hb
    exact hb.scl B.c0
  · rw [el]
    exact Nat.lt_of_lt_of_le hc (Nat.pow_le_pow_right (by decide) (be_Te _ (by omega)))
  · have : InI p g (slo g) := ⟨0, 1, by rw [cl_slo]; grind⟩
    rw [B.eq] at this
    exact this.unscl hp hE
def spLFree (K : PySem.W.Frag) : Sp := fun vs H Q _ => ∃ (a : Addr) (g g0 : List Int) (l : Int), vs = [.ref a] ∧ SqL K H a (g.map V.int) ∧ g = g0 ++ [l] ∧ 0 < l ∧ l.natAbs < 2 ^ 29 ∧ 1 ≤ g0.length ∧ Szd g ∧ gcdL g = 1 ∧ ∀ (b : Bool) H', Same H H' → (b = true → ∃ p : Nat, PrZ p ∧ GoodP g l p) → Q (.bl b) H'
section
variable {P : Program} {w : World} {K : PySem.W.Frag} {mg : Str → Option Value} {base : Heap}
theorem ok_L_free (T : TX K mg) : FO P w K mg base 4 "_law_free" ["_law_g"] (spLFree K) := by
  refine FO.mk T.d_L_free sc_L_free (fun _ _ _ _ _ _ us hl => match us, hl with | [_], _ => rfl) (fun vs H Q E h => ?_) (fun f cdv A outer s H vs Q E hr h => ?_)
  · obtain ⟨a, g, g0, l, rfl, _⟩ := h; rfl
  · obtain ⟨a, g, g0, l, rfl, hg, eg, hl, hl2, lg0, hs, hg1, hq⟩ := h
    obtain ⟨f_L_bare, fd_L_bare, g_L_bare, k_L_bare, b_L_bare, G_L_bare⟩ := ok_L_bare (P := P) (w := w) (base := base) T
    obtain ⟨f_L_trim, fd_L_trim, g_L_trim, k_L_trim, b_L_trim, G_L_trim⟩ := ok_L_trim (P := P) (w := w) (base := base) T
    obtain ⟨f_L_slope, fd_L_slope, g_L_slope, k_L_slope, b_L_slope, G_L_slope⟩ := ok_L_slope (P := P) (w := w) (base := base) T
    obtain ⟨f_L_steps, fd_L_steps, g_L_steps, k_L_steps, b_L_steps, G_L_steps⟩ := ok_L_steps (P := P) (w := w) (base := base) T
    refine ⟨_, (pss_cons (ps_set (i := 1) sc_L_free.nd rfl (Or.inl rfl) (pe_callTy call_list_of (by rfl) T.b_list (by decide +kernel) (pa_cons (pv 0) pa_nil)))
      (pss_cons (ps_set (i := 2) sc_L_free.nd rfl (Or.inl rfl) (pe_call G_L_bare (hr.mono (by decide)) (by rfl) g_L_bare k_L_bare b_L_bare .nil pass0 (pa_cons (pe_call G_L_trim (hr.mono (by decide)) (by rfl) g_L_trim k_L_trim b_L_trim .nil pass0 (pa_cons (pe_call G_L_slope (hr.mono (by decide)) (by rfl) g_L_slope k_L_slope b_L_slope .nil pass0 (pa_cons (pv 0) pa_nil)) (pa_cons pe_int pa_nil))) pa_nil)))
      (pss_cons (ps_while PassesOwn.never (pt_cmpR op_gt (pe_callB (r := rLenK K) call_len_seq (by rfl) T.b_len (by decide +kernel) (pa_cons (pv 2) pa_nil)) pe_int (nomark _))
        (pss_cons (ps_set (i := 3) sc_L_free.nd rfl (Or.inl rfl) (pe_ix (r := rIxL K) ix_list (pe_call G_L_steps (hr.mono (by decide)) (by rfl) g_L_steps k_L_steps b_L_steps .nil pass0 (pa_cons (pv 1) (pa_cons (pv 2) pa_nil))) pe_int (fun _ _ => rfl)))
        (pss_cons (ps_if (pt_cmpR op_gt (pe_callB (r := rLenK K) call_len_seq (by rfl) T.b_len (by decide +kernel) (pa_cons (pv 3) pa_nil)) pe_int (nomark _)) (pss_one (ps_set (i := 3) sc_L_free.nd rfl (Or.inl rfl) (pe_call G_L_bare (hr.mono (by decide)) (by rfl) g_L_bare k_L_bare b_L_bare .nil pass0 (pa_cons (pv 3) pa_nil)))) pss_nil)
        (pss_cons (ps_set (i := 1) sc_L_free.nd rfl (Or.inl rfl) (pv 2))
        (pss_one (ps_set (i := 2) sc_L_free.nd rfl (Or.inl rfl) (pv 3)))))))
      (pss_one (ps_ret (pe_cmpR op_eq (pe_callB (r := rLenK K) call_len_seq (by rfl) T.b_len (by decide +kernel) (pa_cons (pv 1) pa_nil)) pe_int (nomark _))))))), ?_⟩
    have lg : g.length = g0.length + 1 := by rw [eg]; simp
    have l6 : g.length ≤ 6 := by rcases hs with h | h <;> omega
    obtain ⟨s0, z, es, hz⟩ := slo_snoc eg (by omega) lg0
    have cs : Cn 0 (slo g) := ⟨fun a _ => Int.emod_zero a, .inr ⟨s0, z, es, hz⟩⟩
    have ls : (slo g).length ≤ 6 := by rw [slo_len]; omega
    have bz : z.natAbs < 2 ^ 8000 := by
      have h1 := hs.b2 (by omega) z (by rw [es]; simp)
      exact Nat.lt_of_lt_of_le h1 (Nat.pow_le_pow_right (by decide) (Nat.le_trans (be_le _ (by omega)) (by decide)))
    refine ⟨_, rfl, a, _, rfl, .inl hg, fun pL nL => ?_⟩
    have sL : Same H (upd H pL (.lst (g.map V.int))) := same_nw (Same.refl _) nL
    have hL : (upd H pL (.lst (g.map V.int))) pL = some (.lst (g.map V.int)) := upd_same
    generalize upd H pL (.lst (g.map V.int)) = H1 at *
    refine ⟨_, rfl, a, g, rfl, sL.seq hg, by omega, fun H2 p2 s2 n2 h2 => ?_⟩
    refine ⟨p2, 0, slo g, rfl, by omega, sqL_of h2, by omega, fun H3 p3 s3 n3 h3 => ?_⟩
    rw [tr_id cs] at h3
    refine ⟨p3, slo g, s0, z, rfl, sqL_of h3, by omega, es, hz, bz, fun r' c B H4 p4 s4 n4 h4 => ?_⟩
    have s14 := s2.trans (s3.trans s4)
    have s04 := sL.trans s14
    have hL4 := s14 _ _ hL
    have I0 := FrI.start eg hl lg0 hs hg1 ⟨s0, es⟩ B
    refine ⟨fun m σ H' => ∃ (one oth : List Int) (E : Int) (p1 p2 : Addr) (x3 : Option V), m = oth.length ∧ σ = [some (.ref a), some (.ref p1), some (.ref p2), x3] ∧ Same H H' ∧ H' p1 = some (.lst (one.map V.int)) ∧ H' p2 = some (.lst (oth.map V.int)) ∧ FrI g one oth E,
      ⟨_, g, r', c, pL, p4, none, rfl, rfl, s04, hL4, h4, I0⟩, fun m σ H' hW => ?_⟩
    obtain ⟨one, oth, E', p1, p2', x3, rfl, rfl, sm, h1', h2', I⟩ := hW
    have n6 := I.n6
    have n21 := I.n21
    refine ⟨_, rfl, p2', _, rfl, .inl (sqL_of h2'), _, _, rfl, rfl, _, rfl, ?_⟩
    rw [List.length_map]
    by_cases h0 : oth = []
    · refine ifN (by rw [h0]; decide) ?_
      subst h0
      refine ⟨_, rfl, p1, _, rfl, .inl (sqL_of h1'), rfl, ?_⟩
      refine hq _ H' sm fun hb => ?_
      have h3 : one.length = 1 := by
        have := vint.mp (of_decide_eq_true hb)
        rw [List.length_map] at this; omega
      exact I.fin h3 (by omega) hl2
    · have hpos := List.length_pos_iff.mpr h0
      refine ifD (by omega) ?_
      obtain ⟨o, y, eo, hy⟩ := I.c2.resolve_left h0
      refine ⟨fun σ' H2 => ∃ (oth' : List Int) (E2 : Int) (p3 : Addr) (x3 : Option V), oth'.length < oth.length ∧ σ' = [some (.ref a), some (.ref p2'), some (.ref p3), x3] ∧ Same H H2 ∧ H2 p2' = some (.lst (oth.map V.int)) ∧ H2 p3 = some (.lst (oth'.map V.int)) ∧ FrI g oth oth' E2, fun σ' H2 ⟨oth', E2, y3, z3, e1, e2, e3, e4, e5, e6⟩ => ⟨oth'.length, e1, oth, oth', E2, p2', y3, z3, rfl, e2, e3, e4, e5, e6⟩, ?_⟩
      have hbe1 := be_le one.length (by omega)
      have hbe2 := be_le oth.length (by omega)
      refine ⟨_, rfl, _, rfl, p1, p2', one, oth, o, y, be one.length, be oth.length, rfl, sqL_of h1', sqL_of h2', eo, by omega, by omega, I.b1, I.b2, by omega, fun H5 D q1 q2 q r s5 hD h52 L => ?_⟩
      have lr := L.lr
      have h2'5 := s5 _ _ h2'
      refine ⟨D, _, 1, _, rfl, rfl, sqL_of hD, atI_nat (j := 1) rfl, ?_⟩
      refine ⟨_, rfl, q2, _, rfl, .inl (sqL_of h52), _, _, rfl, rfl, _, rfl, ?_⟩
      rw [List.length_map]
      by_cases hr0 : r = []
      · refine ifN (by rw [hr0]; decide) ?_
        subst hr0
        exact ⟨_, rfl, _, rfl, [], E', q2, _, hpos, rfl, sm.trans s5, h2'5, h52, I.stop h0 L⟩
      · have hrp := List.length_pos_iff.mpr hr0
        refine ifD (by omega) ?_
        obtain ⟨r0, z', er, hz'⟩ := cn_snoc L.cr hr0
        have bz' : z'.natAbs < 2 ^ 8000 := by
          have h1 := L.bd z' (by rw [er]; simp)
          have h2 := be_step _ (by omega) _ n21 hpos _ lr hrp
          have h3 := be_le r.length (by omega)
          exact Nat.lt_of_lt_of_le h1 (Nat.pow_le_pow_right (by decide) (by omega))
        refine ⟨_, rfl, q2, r, r0, z', rfl, sqL_of h52, by omega, er, hz', bz', fun r' c B H6 p6 s6 n6 h6 => ?_⟩
        have el : r'.length = r.length := by rw [B.eq, len_scl]
        exact ⟨_, rfl, _, rfl, r', E' * c, p6, _, by omega, rfl, sm.trans (s5.trans s6), s6 _ _ h2'5, h6, I.go h0 L ⟨r0, er⟩ B⟩
end
end FF
end
section
set_option Elab.async false
set_option linter.all false
set_option maxRecDepth 100000
set_option maxHeartbeats 4000000
/-! FL13: the law's own defs: the drawn polynomial, a part. -/
namespace FF
open PySem PySem.Spec PyProof.Rows L2
theorem bnd_le {f : List Int} {w : Nat} (h : ∀ x ∈ f, x.natAbs ≤ w) (hf : f.length ≤ 6) (hw : w ≤ 1000000) : bnd f < 2 ^ 44 := by
  have h1 : ∀ f : List Int, (∀ x ∈ f, x.natAbs ≤ w) → (f.map iabs).sum ≤ ((f.length * w : Nat) : Int) := by
    intro f
    induction f with
    | nil => intro _; simp
    | cons a f ih =>
      intro h
      have h2 := ih fun x hx => h x (by simp [hx])
      have h3 := h a (by simp)
      have h4 : iabs a = (a.natAbs : Int) := by unfold iabs; split <;> omega
      simp only [List.map_cons, List.sum_cons, List.length_cons, Nat.succ_mul]
      omega
  have h2 := h1 f h
  have h3 : f.length * w ≤ 6 * 1000000 := Nat.mul_le_mul hf hw
  have h4 : (2 : Int) ^ (f.length - 1) ≤ 2 ^ 5 := pow_le_pow (by decide) (by omega)
  have h5 := iabs_sum f
  unfold bnd
  have h6 : (2 : Int) ^ (f.length - 1) * (f.map iabs).sum ≤ 2 ^ 5 * (f.map iabs).sum := Int.mul_le_mul_of_nonneg_right h4 h5
  omega
theorem cn0 {f f0 : List Int} {l : Int} (e : f = f0 ++ [l]) (h : l ≠ 0) : Cn 0 f := ⟨fun a _ => Int.emod_zero a, .inr ⟨f0, l, e, h⟩⟩
theorem z1 {N : Int} (a : Pm N) : 0 * a + 1 * 1 = 1 := by grind
theorem inR_x : InR [0, 1] [0] 1 := by
  refine ⟨cn0 (f0 := [0]) rfl (by decide), rfl, by decide, by decide, by decide, by decide, by decide +kernel, 2, ⟨by decide, by decide, ?_⟩, ?_, ?_⟩
  · refine ⟨by decide, fun d hd => ?_⟩
    have h1 : d ≤ 2 := Nat.le_of_dvd (by decide) hd
    have h2 : d ≠ 0 := fun z => by rw [z] at hd; exact absurd (Nat.zero_dvd.mp hd) (by decide)
    have h3 : (2 : Int).toNat = 2 := rfl
    omega
  · decide
  · refine ⟨0, 1, ?_⟩
    have h1 : sl (FF.cl ((2 : Nat) : Int) [0, 1]) = FF.cl ((2 : Nat) : Int) [1] := by
      rw [← cl_slo]; rfl
    rw [h1]
    have h2 : FF.cl ((2 : Nat) : Int) [1] = 1 := C_one
    rw [h2]
    exact z1 _
def spLDrawn (K : PySem.W.Frag) : Sp := fun vs H Q _ => ∃ (a : Addr) (f : List Int) (w deg : Nat), vs = [.ref a, .int w, .int deg] ∧ SqL K H a (f.map V.int) ∧ 1 ≤ deg ∧ ((w = 5 ∧ deg ≤ 5) ∨ (w = 1000000 ∧ deg ≤ 3)) ∧ ∀ H' p g g0 l, Same H H' → H p = none → H' p = some (.lst (g.map V.int)) → InR g g0 l → gcdL g = 1 → Bd 20 g → Q (.ref p) H'
def spLPart (K : PySem.W.Frag) : Sp := fun vs H Q _ => ∃ (ag af : Addr) (g h h0 : List Int) (lh : Int), vs = [.ref ag, .ref af] ∧ SqL K H ag (g.map V.int) ∧ H af = some (.lst (h.map V.int)) ∧ g.length ≤ 6 ∧ Bd 62 g ∧ Bd 62 h ∧ h = h0 ++ [lh] ∧ 0 < lh ∧ 2 ≤ h.length ∧ h.length < g.length ∧ gcdL h = 1 ∧ (∀ k A B q r, LStR g h lh k A B q r → r = []) ∧ ∀ H', Same H H' → Q (.bl true) H'
section
variable {P : Program} {w : World} {K : PySem.W.Frag} {mg : Str → Option Value} {base : Heap}
theorem ok_L_a_part (T : TX K mg) : FO P w K mg base 4 "_law_a_part" ["_law_g", "_law_found"] (spLPart K) := by
  refine FO.mk T.d_L_a_part sc_L_a_part (fun _ _ _ _ _ _ us hl => match us, hl with | [_, _], _ => rfl) (fun vs H Q E h => ?_) (fun f cdv A outer s H vs Q E hr h => ?_)
  · obtain ⟨ag, af, g, h, h0, lh, rfl, _⟩ := h; rfl
  · obtain ⟨ag, af, g, h, h0, lh, rfl, hg, hf, lg, bg, bh, eh, hlh, l2, lhg, hone, hz, hq⟩ := h
    obtain ⟨f_L_row_of_wholes, fd_L_row_of_wholes, g_L_row_of_wholes, k_L_row_of_wholes, b_L_row_of_wholes, G_L_row_of_wholes⟩ := ok_L_row_of_wholes (P := P) (w := w) (base := base) T
    obtain ⟨f_L_steps, fd_L_steps, g_L_steps, k_L_steps, b_L_steps, G_L_steps⟩ := ok_L_steps (P := P) (w := w) (base := base) T
    obtain ⟨f_L_content, fd_L_content, g_L_content, k_L_content, b_L_content, G_L_content⟩ := ok_L_content (P := P) (w := w) (base := base) T
    refine ⟨_, (pss_cons (ps_if (PW.pt (pw_or (pt_not (pt_val (pe_call G_L_row_of_wholes (hr.mono (by decide)) (by rfl) g_L_row_of_wholes k_L_row_of_wholes b_L_row_of_wholes .nil pass0 (pa_cons (pv 1) pa_nil)))) (pw_or (pt_cmpR op_lt (pe_callB (r := rLenK K) call_len_seq (by rfl) T.b_len (by decide +kernel) (pa_cons (pv 1) pa_nil)) pe_int (nomark _)) (pw_or (pt_cmpR op_ge (pe_callB (r := rLenK K) call_len_seq (by rfl) T.b_len (by decide +kernel) (pa_cons (pv 1) pa_nil)) (pe_callB (r := rLenK K) call_len_seq (by rfl) T.b_len (by decide +kernel) (pa_cons (pv 0) pa_nil)) (nomark _)) (pw_or1 (pt_cmpR op_eq (pe_ix (r := rIxL K) ix_list (pv 1) (pe_un un_neg pe_int) (fun _ _ => rfl)) pe_int (nomark _))))))) (pss_one (ps_ret pe_bl)) pss_nil)
      (pss_one (ps_ret (pe_and (pe_cmpR op_eq (pe_call G_L_content (hr.mono (by decide)) (by rfl) g_L_content k_L_content b_L_content .nil pass0 (pa_cons (pv 1) pa_nil)) pe_int (nomark _)) (pe_one (pe_cmpR (op_eqD hr.units) (pe_ix (r := rIxL K) ix_list (pe_call G_L_steps (hr.mono (by decide)) (by rfl) g_L_steps k_L_steps b_L_steps .nil pass0 (pa_cons (pv 0) (pa_cons (pv 1) pa_nil))) pe_int (fun _ _ => rfl)) (pe_lst pa_nil) (nomark _))))))), ?_⟩
    have hlast : atI (h.map V.int) (-1) = some (.int lh) := by rw [eh]; exact at_last h0 lh
    have esg : sgc h lh = 1 := by unfold sgc; rw [if_neg (by omega), hone]; rfl
    refine ⟨_, rfl, af, h, rfl, hf, ?_⟩
    refine ⟨_, rfl, iteF ?_⟩
    refine ⟨_, rfl, af, _, rfl, .inl (sqL_of hf), _, _, rfl, rfl, _, rfl, ?_⟩
    refine ifN (by rw [List.length_map]; omega) ?_
    refine ⟨_, rfl, af, _, rfl, .inl (sqL_of hf), _, rfl, ag, _, rfl, .inl hg, _, _, rfl, rfl, _, rfl, ?_⟩
    refine ifN (by rw [List.length_map, List.length_map]; omega) ?_
    refine ⟨_, rfl, 1, rfl, af, _, -1, _, rfl, rfl, sqL_of hf, hlast, rfl, _, rfl, ?_⟩
    refine ifN (fun z => by have := vint.mp z; omega) ?_
    refine ⟨_, rfl, af, h, h0, lh, rfl, sqL_of hf, eh, rfl, _, rfl, ?_⟩
    refine ifD (vint.mpr esg) ?_
    refine ⟨_, rfl, _, rfl, ag, af, g, h, h0, lh, 62, 62, rfl, hg, sqL_of hf, eh, by omega, by omega, bg, bh, by decide, fun H1 D p1 p2 q r s1 hD h2 L => ?_⟩
    have hr0 := hz _ _ _ _ _ L
    subst hr0
    refine ⟨D, _, 1, _, rfl, rfl, sqL_of hD, atI_nat (j := 1) rfl, ?_⟩
    refine ⟨by show 0 ≤ sizeLine; decide, fun pE nE => ?_⟩
    have sE : Same H1 (upd H1 pE (.lst [])) := same_nw (Same.refl _) nE
    have hE : (upd H1 pE (.lst [])) pE = some (.lst (([] : List Int).map V.int)) := upd_same
    refine eqD_ints (l := []) (m := []) (sqL_of (sE _ _ h2)) (sqL_of hE) ?_
    exact hq _ (s1.trans sE)
theorem ok_L_drawn (T : TX K mg) : FO P w K mg base 5 "_law_drawn" ["_law_script", "_law_wide", "_law_degree"] (spLDrawn K) := by
  refine FO.mk T.d_L_drawn sc_L_drawn (fun _ _ _ _ _ _ us hl => match us, hl with | [_, _, _], _ => rfl) (fun vs H Q E h => ?_) (fun f cdv A outer s H vs Q E hr h => ?_)
  · obtain ⟨a, f, wd, deg, rfl, _⟩ := h; rfl
  · obtain ⟨a, f, wd, deg, rfl, hf, d1, hwd, hq⟩ := h
    obtain ⟨f_L_cell_at, fd_L_cell_at, g_L_cell_at, k_L_cell_at, b_L_cell_at, G_L_cell_at⟩ := ok_L_cell_at (P := P) (w := w) (base := base) T
    obtain ⟨f_L_bare, fd_L_bare, g_L_bare, k_L_bare, b_L_bare, G_L_bare⟩ := ok_L_bare (P := P) (w := w) (base := base) T
    obtain ⟨f_L_free, fd_L_free, g_L_free, k_L_free, b_L_free, G_L_free⟩ := ok_L_free (P := P) (w := w) (base := base) T
    refine ⟨_, (pss_cons (ps_set (i := 3) sc_L_drawn.nd rfl (Or.inl rfl) (pe_lst pa_nil))
      (pss_cons (ps_for PassesOwn.never rfl (pi_range1 (by rfl) T.b_range (pa_cons (pv 2) pa_nil)) (pg_name (i := 4) sc_L_drawn.nd rfl (Or.inl rfl))
        (pss_one (ps_expr (pe_bm PySem.F.plainAttrs_list PySem.F.slot_list_append PySem.F.type_list_append mt_append (pv 3) (pa_cons (pe_op op_sub (pe_op op_modN (pe_op op_modN (pe_call G_L_cell_at (hr.mono (by decide)) (by rfl) g_L_cell_at k_L_cell_at b_L_cell_at .nil pass0 (pa_cons (pv 0) (pa_cons (pe_op op_add pe_int (pv 4)) pa_nil))) (pe_op op_pow pe_int pe_int)) (pe_op op_add (pe_op op_mul pe_int (pv 1)) pe_int)) (pv 1)) pa_nil)))))
      (pss_cons (ps_set (i := 3) sc_L_drawn.nd rfl (Or.inl rfl) (pe_call G_L_bare (hr.mono (by decide)) (by rfl) g_L_bare k_L_bare b_L_bare .nil pass0 (pa_cons (pe_op op_cat (pv 3) (pe_lst (pa_cons (pe_op op_add pe_int (pe_op op_modN (pe_call G_L_cell_at (hr.mono (by decide)) (by rfl) g_L_cell_at k_L_cell_at b_L_cell_at .nil pass0 (pa_cons (pv 0) (pa_cons pe_int pa_nil))) (pv 1))) pa_nil))) pa_nil)))
      (pss_cons (ps_if (pt_not (pt_val (pe_call G_L_free (hr.mono (by decide)) (by rfl) g_L_free k_L_free b_L_free .nil pass0 (pa_cons (pv 3) pa_nil)))) (pss_one (ps_ret (pe_lst (pa_cons pe_int (pa_cons pe_int pa_nil))))) pss_nil)
      (pss_one (ps_ret (pv 3))))))), ?_⟩
    have hw1 : 1 ≤ wd ∧ wd ≤ 1000000 ∧ deg ≤ 5 := by omega
    refine ⟨by show 0 ≤ sizeLine; decide, fun D nD => ?_⟩
    have sD : Same H (upd H D (.lst [])) := same_new (Same.refl _) nD
    refine ⟨_, rfl, (deg : Nat), rfl, by omega, by omega, for_range (lo := 0) (n := ((deg : Nat) : Int).toNat) (fun k σ H' => ∃ (row : List Int) (x4 : Option V), σ = [some (.ref a), some (.int wd), some (.int deg), some (.ref D), x4] ∧ Same H H' ∧ H' D = some (.lst (row.map V.int)) ∧ row.length = k ∧ ∀ x ∈ row, x.natAbs ≤ wd)
      ⟨[], none, rfl, sD, upd_same, rfl, fun x hx => (by cases hx)⟩ (fun k σ H' hk hW => ?_) (fun σ H' hW => ?_)⟩
    · obtain ⟨row, x4, rfl, sm, hD, lr, br⟩ := hW
      have hk2 : k < deg := hk
      refine ⟨_, rfl, .inl ⟨rfl, _, sqL_of hD⟩, ?_⟩
      refine ⟨_, rfl, _, rfl, _, _, rfl, rfl, a, f, 6 + k, (show [V.ref a, V.int (6 + (0 + (k : Int)))] = [V.ref a, V.int ((6 + k : Nat) : Int)] from congrArg (fun z => [V.ref a, V.int z]) (by omega)), sm.seq hf, 10, 18, rfl, rfl, ⟨by decide, by decide, by decide⟩, _, _, rfl, rfl, (show (10 : Int) ^ (18 : Int).toNat ≠ 0 by decide), _, rfl, _, _, rfl, rfl, .inl ⟨by decide, by decide⟩, _, _, rfl, rfl, _, _, rfl, rfl, (show 2 * (wd : Int) + 1 ≠ 0 by omega), _, rfl, _, _, rfl, rfl, ?_⟩
      refine ⟨D, _, _, rfl, rfl, hD, small_lt (by rw [List.length_map]; omega), ?_⟩
      generalize ((co f (6 + k)).fmod (10 ^ (18 : Int).toNat)) = y
      have h1 := Int.fmod_nonneg_of_pos y (b := 2 * (wd : Int) + 1) (by omega)
      have h2 := Int.fmod_lt_of_pos y (b := 2 * (wd : Int) + 1) (by omega)
      refine ⟨row ++ [y.fmod (2 * (wd : Int) + 1) - wd], _, rfl, same_new sm nD, by rw [upd_same, List.map_append]; rfl, by simp [lr], fun x hx => ?_⟩
      rcases List.mem_append.mp hx with h | h
      · exact br x h
      · rw [List.mem_singleton] at h; rw [h]; omega
    · obtain ⟨row, x4, rfl, sm, hD, lr, br⟩ := hW
      have lr : row.length = deg := lr
      refine ⟨_, rfl, _, rfl, a, f, 11, rfl, sm.seq hf, _, rfl, _, _, rfl, rfl, (show (wd : Int) ≠ 0 by omega), _, _, rfl, rfl, by show 1 ≤ sizeLine; decide, fun pE nE => ?_⟩
      have h1 := Int.fmod_nonneg_of_pos (co f 11) (b := (wd : Int)) (by omega)
      have h2 := Int.fmod_lt_of_pos (co f 11) (b := (wd : Int)) (by omega)
      obtain ⟨ld, eld⟩ : ∃ ld, ld = 1 + (co f 11).fmod (wd : Int) := ⟨_, rfl⟩
      have sE : Same H' (upd H' pE (.lst [.int (1 + (co f 11).fmod (wd : Int))])) := same_nw (Same.refl _) nE
      have hE : (upd H' pE (.lst [.int (1 + (co f 11).fmod (wd : Int))])) pE = some (.lst (([ld] : List Int).map V.int)) := by rw [upd_same, eld]; rfl
      obtain ⟨H2, eH2⟩ : ∃ H2, H2 = upd H' pE (.lst [.int (1 + (co f 11).fmod (wd : Int))]) := ⟨_, rfl⟩
      rw [← eH2] at sE hE
      have hD2 := sE _ _ hD
      have key : rCat (.ref D) (.ref pE) H2 = rCat (.ref D) (.ref pE) (upd H' pE (.lst [.int (1 + (co f 11).fmod (wd : Int))])) := by rw [eH2]
      refine (congrFun key _).mp ?_
      refine ⟨D, pE, _, _, rfl, rfl, hD2, hE, small_le (by simp; omega), fun pC nC => ?_⟩
      rw [← List.map_append]
      have sC : Same H2 (upd H2 pC (.lst ((row ++ [ld]).map V.int))) := same_nw (Same.refl _) nC
      have hC : (upd H2 pC (.lst ((row ++ [ld]).map V.int))) pC = some (.lst ((row ++ [ld]).map V.int)) := upd_same
      generalize upd H2 pC (.lst ((row ++ [ld]).map V.int)) = H3 at *
      have bld : ld.natAbs < 2 ^ 8000 := Nat.lt_of_lt_of_le (show ld.natAbs < 2 ^ 20 by omega) (Nat.pow_le_pow_right (by decide) (by decide))
      refine ⟨pC, row ++ [ld], row, ld, rfl, sqL_of hC, by simp; omega, rfl, by omega, bld, fun r c B H4 p4 s4 n4 h4 => ?_⟩
      have s04 := sm.trans (sE.trans (sC.trans s4))
      have n04 := (sm.trans (sE.trans sC)).free n4
      obtain ⟨r0, l', er, hl', _⟩ := B.pos
      have lrr : r.length = deg + 1 := by
        have := congrArg List.length B.eq
        rw [len_scl] at this
        simp at this; omega
      have lr0 : r0.length = deg := by rw [er] at lrr; simpa using lrr
      have brr : ∀ x ∈ r, x.natAbs ≤ wd := fun x hx => by
        have h5 : c * x ∈ row ++ [ld] := by
          rw [B.eq]
          exact List.mem_map.mpr ⟨x, hx, rfl⟩
        have h6 : (c * x).natAbs ≤ wd := by
          rcases List.mem_append.mp h5 with h | h
          · exact br _ h
          · rw [List.mem_singleton] at h; rw [h]; omega
        rw [Int.natAbs_mul] at h6
        have h7 : 1 * x.natAbs ≤ c.natAbs * x.natAbs := Nat.mul_le_mul_right _ (by have := B.c0; omega)
        omega
      have hsz : Szd r := by
        rcases hwd with ⟨e1, e2⟩ | ⟨e1, e2⟩
        · exact .inl ⟨by omega, fun x hx => by have := brr x hx; omega⟩
        · exact .inr ⟨by omega, fun x hx => by have := brr x hx; omega⟩
      have b20 : Bd 20 r := fun x hx => by have := brr x hx; omega
      have hl29 : l'.natAbs ≤ wd := brr l' (by rw [er]; simp)
      refine ⟨_, rfl, p4, r, r0, l', rfl, sqL_of h4, er, hl', by omega, by omega, hsz, B.one, fun b H5 s5 hb => ?_⟩
      cases b with
      | false =>
        refine ⟨_, rfl, iteT ?_⟩
        refine ⟨by show 2 ≤ sizeLine; decide, fun pZ nZ => ?_⟩
        refine hq _ pZ [0, 1] [0] 1 (same_nw (s04.trans s5) nZ) ((s04.trans s5).free nZ) upd_same inR_x (by decide +kernel) (fun x hx => ?_)
        simp at hx
        rcases hx with h | h <;> rw [h] <;> decide
      | true =>
        refine ⟨_, rfl, iteF ?_⟩
        refine ⟨_, rfl, ?_⟩
        exact hq _ p4 r r0 l' (s04.trans s5) n04 (s5 _ _ h4) ⟨cn0 er (by omega), er, by omega, by omega, hl', by omega, bnd_le brr (by omega) hw1.2.1, hb rfl⟩ B.one b20
end
end FF
end
section
set_option Elab.async false
set_option linter.all false
set_option maxRecDepth 100000
set_option maxHeartbeats 4000000
/-! FL14: the law. -/
namespace FF
open PySem PySem.Spec PyProof.Rows L2
theorem tr_pad {g g0 : List Int} {l : Int} (e : g = g0 ++ [l]) (hl : l ≠ 0) : ∀ n, tr 0 (g ++ List.replicate n 0) = g
  | 0 => by rw [List.replicate_zero, List.append_nil]; exact tr_id (cn0 e hl)
  | n + 1 => by
    have h := tr_pad e hl n
    rw [List.replicate_succ', ← List.append_assoc]
    unfold tr at *
    rw [List.map_append]
    have e2 : ([0] : List Int).map (· % 0) = [0] := rfl
    rw [e2, trimZ_snoc0]; exact h
def spLaw (K : PySem.W.Frag) : Sp := fun vs H Q _ => ∃ (a : Addr) (f : List Int), vs = [.ref a] ∧ SqL K H a (f.map V.int) ∧ ∀ H', Same H H' → Q (.bl true) H'
section
variable {P : Program} {w : World} {K : PySem.W.Frag} {mg : Str → Option Value} {base : Heap}
theorem law_len (K : PySem.W.Frag) (vs : List V) (H : Hp) (Q : VK) (E : XK) (h : spLaw K vs H Q E) : vs.length = ["_law_script"].length := by
  obtain ⟨a, f, rfl, _⟩ := h; rfl
theorem law_body (T : TX K mg) (f : Addr) : BodyF P w K mg base "law" s_law n_law f 14 (spLaw K) := by
  intro cdv A outer s H vs Q E hr h
  · obtain ⟨a, f, rfl, hf, hq⟩ := h
    obtain ⟨f_L_head, fd_L_head, g_L_head, k_L_head, b_L_head, G_L_head⟩ := ok_L_head (P := P) (w := w) (base := base) T
    obtain ⟨f_L_drawn, fd_L_drawn, g_L_drawn, k_L_drawn, b_L_drawn, G_L_drawn⟩ := ok_L_drawn (P := P) (w := w) (base := base) T
    obtain ⟨f_looked, fd_looked, g_looked, k_looked, b_looked, G_looked⟩ := ok_looked (P := P) (w := w) (base := base) T
    obtain ⟨f_L_a_part, fd_L_a_part, g_L_a_part, k_L_a_part, b_L_a_part, G_L_a_part⟩ := ok_L_a_part (P := P) (w := w) (base := base) T
    obtain ⟨f_L_whole_good, fd_L_whole_good, g_L_whole_good, k_L_whole_good, b_L_whole_good, G_L_whole_good⟩ := ok_L_whole_good (P := P) (w := w) (base := base) T
    obtain ⟨f_L_whole_paper_shaped, fd_L_whole_paper_shaped, g_L_whole_paper_shaped, k_L_whole_paper_shaped, b_L_whole_paper_shaped, G_L_whole_paper_shaped⟩ := ok_L_whole_paper_shaped (P := P) (w := w) (base := base) T
    refine ⟨_, (pss_cons (ps_set (i := 1) sc_law.nd rfl (Or.inl rfl) (pe_call G_L_head (hr.mono (by decide)) (by rfl) g_L_head k_L_head b_L_head .nil pass0 (pa_cons (pv 0) pa_nil)))
      (pss_cons (ps_set (i := 2) sc_law.nd rfl (Or.inl rfl) (pe_call G_L_drawn (hr.mono (by decide)) (by rfl) g_L_drawn k_L_drawn b_L_drawn .nil pass0 (pa_cons (pv 0) (pa_cons (pe_ix (r := rIxL K) ix_list (pe_lst (pa_cons pe_int (pa_cons (pe_op op_pow pe_int pe_int) pa_nil))) (pe_callTy call_int1 (by rfl) T.b_int (by decide +kernel) (pa_cons (pe_cmpR op_eq (pe_op op_modN (pv 1) pe_int) pe_int (nomark _)) pa_nil)) (fun _ _ => rfl)) (pa_cons (pe_op op_add pe_int (pe_op op_modN (pe_op op_fdivN (pv 1) pe_int) (pe_ix (r := rIxL K) ix_list (pe_lst (pa_cons pe_int (pa_cons pe_int pa_nil))) (pe_callTy call_int1 (by rfl) T.b_int (by decide +kernel) (pa_cons (pe_cmpR op_eq (pe_op op_modN (pv 1) pe_int) pe_int (nomark _)) pa_nil)) (fun _ _ => rfl)))) pa_nil)))))
      (pss_cons (ps_set (i := 3) sc_law.nd rfl (Or.inl rfl) (pe_op op_cat (pv 2) (pe_op op_rep (pe_lst (pa_cons pe_int pa_nil)) (pe_op op_modN (pe_op op_fdivN (pv 1) pe_int) pe_int))))
      (pss_cons (ps_set (i := 4) sc_law.nd rfl (Or.inl rfl) (pe_callTy call_list_of (by rfl) T.b_list (by decide +kernel) (pa_cons (pv 3) pa_nil)))
      (pss_cons (ps_set (i := 5) sc_law.nd rfl (Or.inl rfl) (pe_call G_looked (hr.mono (by decide)) (by rfl) g_looked k_looked b_looked .nil pass0 (pa_cons (pv 3) pa_nil)))
      (pss_cons (ps_if (PW.pt (pw_or (pt_not (pt_val (pe_callB call_isi (by rfl) T.b_isinstance (by decide +kernel) (pa_cons (pv 5) (pa_cons (pe_bltn (v := .ty "tuple") (u := .type "tuple") (by rfl) T.b_tuple (by decide +kernel) rfl) pa_nil))))) (pw_or (pt_cmpR op_ne (pe_callB (r := rLenK K) call_len_seq (by rfl) T.b_len (by decide +kernel) (pa_cons (pv 5) pa_nil)) pe_int (nomark _)) (pw_or (pt_not (pt_val (pe_callB call_isi (by rfl) T.b_isinstance (by decide +kernel) (pa_cons (pe_ix (r := rIxT K) ix_tup (pv 5) pe_int (fun _ _ => rfl)) (pa_cons (pe_bltn (v := .ty "str") (u := .type "str") (by rfl) T.b_str (by decide +kernel) rfl) pa_nil))))) (pw_or1 (pt_cmpR (op_neD hr.units) (pv 3) (pv 4) (nomark _))))))) (pss_one (ps_ret pe_bl)) pss_nil)
      (pss_cons (ps_if (pt_cmpR op_eq (pe_ix (r := rIxT K) ix_tup (pv 5) pe_int (fun _ _ => rfl)) pe_str (nomark _)) (pss_one (ps_ret (pe_call G_L_a_part (hr.mono (by decide)) (by rfl) g_L_a_part k_L_a_part b_L_a_part .nil pass0 (pa_cons (pv 2) (pa_cons (pe_ix (r := rIxT K) ix_tup (pv 5) pe_int (fun _ _ => rfl)) pa_nil))))) pss_nil)
      (pss_one (ps_ret (pe_and (pe_cmpR op_eq (pe_ix (r := rIxT K) ix_tup (pv 5) pe_int (fun _ _ => rfl)) pe_str (nomark _)) (pe_and (pe_call G_L_whole_paper_shaped (hr.mono (by decide)) (by rfl) g_L_whole_paper_shaped k_L_whole_paper_shaped b_L_whole_paper_shaped .nil pass0 (pa_cons (pe_ix (r := rIxT K) ix_tup (pv 5) pe_int (fun _ _ => rfl)) pa_nil)) (pe_one (pe_call G_L_whole_good (hr.mono (by decide)) (by rfl) g_L_whole_good k_L_whole_good b_L_whole_good .nil pass0 (pa_cons (pv 2) (pa_cons (pe_ix (r := rIxT K) ix_tup (pv 5) pe_int (fun _ _ => rfl)) pa_nil))))))))))))))), ?_⟩
    refine ⟨_, rfl, a, f, rfl, hf, fun hd hd0 => ?_⟩
    have e4 : hd.fmod 4 = hd % 4 := Int.fmod_eq_emod_of_nonneg hd (by decide)
    refine ⟨_, rfl, 10, 6, rfl, rfl, ⟨by decide, by decide, by decide⟩, by show 2 ≤ sizeLine; decide, fun pL nL => ?_⟩
    have sL : Same H (upd H pL (.lst [.int 5, .int (10 ^ (6 : Int).toNat)])) := same_nw (Same.refl _) nL
    have hL : (upd H pL (.lst [.int 5, .int (10 ^ (6 : Int).toNat)])) pL = some (.lst [.int 5, .int (10 ^ (6 : Int).toNat)]) := upd_same
    obtain ⟨H1, eH1⟩ : ∃ H1, H1 = upd H pL (.lst [.int 5, .int (10 ^ (6 : Int).toNat)]) := ⟨_, rfl⟩
    rw [← eH1] at sL hL
    obtain ⟨b, eb⟩ : ∃ b, b = decide (V.int (hd.fmod 4) = V.int 1) := ⟨_, rfl⟩
    have hat1 : ∀ b : Bool, atI [V.int 5, V.int (10 ^ (6 : Int).toNat)] (if b = true then 1 else 0) = some (.int ((if b = true then 1000000 else 5 : Nat) : Int)) := fun b => by cases b <;> rfl
    have hat2 : ∀ b : Bool, atI [V.int 5, V.int 3] (if b = true then 1 else 0) = some (.int ((if b = true then 3 else 5 : Nat) : Int)) := fun b => by cases b <;> rfl
    refine ⟨_, rfl, _, _, rfl, rfl, (show (4 : Int) ≠ 0 by decide), rfl, .inr ⟨_, rfl, pL, _, _, _, rfl, rfl, sqL_of (by rw [← eH1]; exact hL), hat1 _, ?_⟩⟩
    refine ⟨_, rfl, _, _, rfl, rfl, ⟨by decide, by decide⟩, by show 2 ≤ sizeLine; decide, fun pM nM => ?_⟩
    have sM : Same H1 (upd H1 pM (.lst [.int 5, .int 3])) := same_nw (Same.refl _) (by rw [eH1]; exact nM)
    have hM : (upd H1 pM (.lst [.int 5, .int 3])) pM = some (.lst [.int 5, .int 3]) := upd_same
    obtain ⟨H2, eH2⟩ : ∃ H2, H2 = upd H1 pM (.lst [.int 5, .int 3]) := ⟨_, rfl⟩
    rw [← eH2] at sM hM
    rw [← eH1, ← eH2]
    have hm0 : (((if b = true then 3 else 5 : Nat) : Nat) : Int) ≠ 0 := by cases b <;> decide
    refine ⟨_, rfl, _, _, rfl, rfl, (show (4 : Int) ≠ 0 by decide), rfl, .inr ⟨_, rfl, pM, _, _, _, rfl, rfl, sqL_of hM, hat2 _, ?_⟩⟩
    rw [← eb]
    obtain ⟨m, em⟩ : ∃ m : Nat, m = if b = true then 3 else 5 := ⟨_, rfl⟩
    obtain ⟨W, eW⟩ : ∃ W : Nat, W = if b = true then 1000000 else 5 := ⟨_, rfl⟩
    rw [← em] at hm0
    rw [← em, ← eW]
    have hWm : (W = 5 ∧ m = 5) ∨ (W = 1000000 ∧ m = 3) := by cases b <;> simp at em eW <;> omega
    have hx0 := Int.fmod_nonneg_of_pos (hd.fdiv 4) (b := (m : Int)) (by omega)
    have hx1 := Int.fmod_lt_of_pos (hd.fdiv 4) (b := (m : Int)) (by omega)
    obtain ⟨deg, edeg⟩ : ∃ deg : Nat, (deg : Int) = 1 + (hd.fdiv 4).fmod m := ⟨(1 + (hd.fdiv 4).fmod m).toNat, by omega⟩
    have s02 := sL.trans sM
    refine ⟨_, _, rfl, rfl, hm0, _, _, rfl, rfl, a, f, W, deg, (show [V.ref a, V.int (W : Int), V.int (1 + (hd.fdiv 4).fmod m)] = [V.ref a, V.int (W : Int), V.int (deg : Int)] from by rw [edeg]), s02.seq hf, by omega, by omega, fun H3 pg g g0 l s3 n3 h3 IN g1 b20 => ?_⟩
    have s03 := s02.trans s3
    have lg : g.length ≤ 6 := by rw [IN.eq]; have := IN.g5; simp; omega
    obtain ⟨k, ek⟩ : ∃ k, k = ((hd.fdiv 100).fmod 3).toNat := ⟨_, rfl⟩
    have hk0 := Int.fmod_nonneg_of_pos (hd.fdiv 100) (b := 3) (by decide)
    have hk1 := Int.fmod_lt_of_pos (hd.fdiv 100) (b := 3) (by decide)
    refine ⟨_, rfl, by show 1 ≤ sizeLine; decide, fun pz nz => ?_⟩
    have sz : Same H3 (upd H3 pz (.lst [.int 0])) := same_nw (Same.refl _) nz
    have hz : (upd H3 pz (.lst [.int 0])) pz = some (.lst [.int 0]) := upd_same
    have h34 := sz _ _ h3
    generalize upd H3 pz (.lst [.int 0]) = H4 at *
    refine ⟨_, rfl, _, _, rfl, rfl, ⟨by decide, by decide⟩, _, _, rfl, rfl, (show (3 : Int) ≠ 0 by decide), pz, _, _, rfl, rfl, hz, by omega, by omega, small_le (by simp <;> omega), fun pr nr => ?_⟩
    rw [← ek, flat0]
    have sr : Same H4 (upd H4 pr (.lst ((List.replicate k (0 : Int)).map V.int))) := same_nw (Same.refl _) nr
    have hr' : (upd H4 pr (.lst ((List.replicate k (0 : Int)).map V.int))) pr = some (.lst ((List.replicate k (0 : Int)).map V.int)) := upd_same
    have h35 := sr _ _ h34
    generalize upd H4 pr (.lst ((List.replicate k (0 : Int)).map V.int)) = H5 at *
    refine ⟨pg, pr, _, _, rfl, rfl, h35, hr', small_le (by simp; omega), fun pG nG => ?_⟩
    rw [← List.map_append]
    have eG := tr_pad IN.eq (by have := IN.l0; omega) k
    have lG : (g ++ List.replicate k 0).length ≤ 10 := by simp; omega
    generalize g ++ List.replicate k 0 = G at *
    have sG : Same H5 (upd H5 pG (.lst (G.map V.int))) := same_nw (Same.refl _) nG
    have hG : (upd H5 pG (.lst (G.map V.int))) pG = some (.lst (G.map V.int)) := upd_same
    have h36 := sG _ _ h35
    generalize upd H5 pG (.lst (G.map V.int)) = H6 at *
    refine ⟨_, rfl, pG, _, rfl, .inl (sqL_of hG), fun pK nK => ?_⟩
    have sK : Same H6 (upd H6 pK (.lst (G.map V.int))) := same_nw (Same.refl _) nK
    have hK : (upd H6 pK (.lst (G.map V.int))) pK = some (.lst (G.map V.int)) := upd_same
    have hG7 := sK _ _ hG
    have h37 := sK _ _ h36
    generalize upd H6 pK (.lst (G.map V.int)) = H7 at *
    have s07 := s03.trans (sz.trans (sr.trans (sG.trans sK)))
    have g01 := IN.g1
    refine ⟨_, rfl, pG, G, g, g0, l, rfl, sqL_of hG7, by omega, eG, IN, ?_, ?_⟩
    · intro H8 TT pf p many Ps Us bb c q s8 CR hb ex hT hpf
      obtain ⟨made, c0, edc, emd, ec, lc0, cc, S⟩ := ex
      refine ⟨_, rfl, _, _, _, _, true, rfl, .ty _, ty_tup hT, kit_ty ktt, ?_⟩
      refine ⟨_, rfl, iteF ?_⟩
      refine ⟨_, rfl, TT, _, rfl, .inr (sqT_of hT), rfl, _, rfl, ?_⟩
      refine ifEq rfl ?_
      refine ⟨_, rfl, TT, _, 0, _, rfl, rfl, sqT_of hT, atI_nat (j := 0) rfl, _, _, _, _, true, rfl, .ty _, ty_str _, kit_ty kss, ?_⟩
      refine ⟨_, rfl, iteF ?_⟩
      refine ⟨_, rfl, _, rfl, ?_⟩
      refine neD_ints (l := G) (m := G) (sqL_of (s8 _ _ hG7)) (sqL_of (s8 _ _ hK)) ?_
      refine ⟨_, rfl, ifEq rfl ?_⟩
      refine ⟨_, rfl, TT, _, 0, _, rfl, rfl, sqT_of hT, atI_nat (j := 0) rfl, rfl, _, rfl, ?_⟩
      refine ifD rfl ?_
      obtain ⟨M, eM⟩ : ∃ M, M = (p : Int) ^ many := ⟨_, rfl⟩
      have F := CR.facts eM IN.eq lg IN.l0
      have LR := CR.lift
      rw [← eM] at edc emd LR
      have nU := F.nU
      have hl0 := IN.l0
      have B := bare_of ec (by omega : l ≠ 0)
      have esg : sgc c l = (gcdL c : Int) := by unfold sgc; rw [if_neg (by omega)]
      have ehh : (c.map fun x => x.fdiv (sgc c l)) = c.map (· / (gcdL c : Int)) := by
        rw [esg]
        apply List.map_congr_left
        intro x _
        exact Int.fdiv_eq_ediv_of_nonneg x (by omega)
      rw [ehh] at B
      obtain ⟨h, eh⟩ : ∃ h, h = c.map (· / (gcdL c : Int)) := ⟨_, rfl⟩
      rw [← eh] at B hpf
      obtain ⟨h0, lh, eh0, hlh, _⟩ := B.pos
      have lhc : h.length = c.length := by rw [eh, List.length_map]
      obtain ⟨b', hb', eb'⟩ : ∃ b' ∈ bsOf Us.length, ((b' : Nat) : Int) = (bb : Int) := by
        rw [← bs_eq Us.length (by omega)] at hb
        exact List.mem_map.mp hb
      have ebb : b' = bb := by omega
      rw [ebb] at hb'
      obtain ⟨_, hs1, hs0⟩ := bs_some Us.length (by omega) bb hb'
      obtain ⟨i, hi, ei⟩ := any_bit hs1
      obtain ⟨j, hj, ej⟩ := any_bit hs0
      have mo2 : ∀ u ∈ Us, 2 ≤ u.length := fun u hu => (LR.mo u hu).len
      have d1 := selD_lo mo2 ei Us.length hi (Nat.le_refl _)
      have d2 := selD_hi mo2 ej Us.length hj (Nat.le_refl _)
      rw [List.take_length] at d2
      have dg := F.deg
      have m60 := F.m60
      have lcc : c.length = c0.length + 1 := by rw [ec]; simp
      have rc := nearL_rng (N := M) (by have := F.l2; omega) made
      rw [← edc] at rc
      have bdc : Bd 62 c := fun x hx => by have := rc x hx; omega
      have bdh : Bd 62 h := by
        rw [B.eq] at bdc
        exact bdc.scl B.c0
      have hc : FF.cl (0 : Int) c = C (sgc c l) * FF.cl 0 h := by rw [← cl_scl, ← B.eq]
      refine ⟨_, rfl, _, rfl, TT, _, 1, _, rfl, rfl, sqT_of hT, atI_nat (j := 1) rfl, pg, pf, g, h, h0, lh, rfl, sqL_of (s8 _ _ h37), hpf, lg, b20.mono (by decide), bdh, eh0, hlh, by omega, by omega, B.one, fun k A B' q' r L => part_zero S hc (by omega) eh0 (by omega) L, fun H9 s9 => hq H9 ((s07.trans s8).trans s9)⟩
    · intro H8 TT T5 aU aP aR p many Ps Us bs s8 CR ebs hT hT5 tU PA RA
      refine ⟨_, rfl, _, _, _, _, true, rfl, .ty _, ty_tup hT, kit_ty ktt, ?_⟩
      refine ⟨_, rfl, iteF ?_⟩
      refine ⟨_, rfl, TT, _, rfl, .inr (sqT_of hT), rfl, _, rfl, ?_⟩
      refine ifEq rfl ?_
      refine ⟨_, rfl, TT, _, 0, _, rfl, rfl, sqT_of hT, atI_nat (j := 0) rfl, _, _, _, _, true, rfl, .ty _, ty_str _, kit_ty kss, ?_⟩
      refine ⟨_, rfl, iteF ?_⟩
      refine ⟨_, rfl, _, rfl, ?_⟩
      refine neD_ints (l := G) (m := G) (sqL_of (s8 _ _ hG7)) (sqL_of (s8 _ _ hK)) ?_
      refine ⟨_, rfl, ifEq rfl ?_⟩
      refine ⟨_, rfl, TT, _, 0, _, rfl, rfl, sqT_of hT, atI_nat (j := 0) rfl, rfl, _, rfl, ?_⟩
      refine ifN (by decide) ?_
      have F := CR.facts rfl IN.eq lg IN.l0
      refine ⟨_, rfl, TT, _, 0, _, rfl, rfl, sqT_of hT, atI_nat (j := 0) rfl, rfl, _, rfl, ?_⟩
      refine ifD rfl ?_
      refine ⟨_, rfl, TT, _, 1, _, rfl, rfl, sqT_of hT, atI_nat (j := 1) rfl, T5, aU, aP, aR, p, many, _, l, g, Ps, Us, bs, rfl, hT5, tU, by have := F.nU; omega, fun r hr => by have := F.lU r hr; omega, PA, RA, ?_⟩
      refine ⟨_, rfl, iteT ?_⟩
      exact ⟨_, rfl, _, rfl, TT, _, 1, _, rfl, rfl, sqT_of hT, atI_nat (j := 1) rfl, pg, T5, aU, aP, aR, p, many, g, g0, l, Ps, Us, bs, rfl, sqL_of (s8 _ _ h37), IN.eq, IN.g1, lg, IN.l0, g1, IN.bd, CR, hT5, tU, PA, RA, ebs, fun H9 s9 => hq H9 ((s07.trans s8).trans s9)⟩
end
end FF
end
section
set_option Elab.async false
set_option linter.all false
set_option maxRecDepth 100000
set_option maxHeartbeats 4000000
/-! FEnd: the facts of the top, the theorem. -/
namespace FF
open PySem PySem.Spec PyProof.Rows L2
section
variable {K : PySem.W.Frag} {h : Heap} {mg : Str → Option Value}
theorem df_of (X : K.In h) (G : h.Ns mainGlobals mg) (c : He.SaysD fa fn K) (i j : Nat) (x : Str) (st : Stmt) (h1 : fn[i]? = some ⟨(x, none), x, x, defArgs st, defBody st, defScope st, [], []⟩) (h2 : fa[j]? = some (.glo x)) : DF K mg x st := by
  obtain ⟨fd, F⟩ := c.def_ i h1
  exact ⟨_, fd, He.glo_ok X G (c.fact j h2), F⟩
theorem mf_of (c : He.SaysD fa fn K) (i j : Nat) (C x q : Str) (st : Stmt) (h1 : fn[i]? = some ⟨(C, some x), x, q, defArgs st, defBody st, defScope st, [], []⟩) (h2 : fa[j]? = some (.meth C x)) : MF K (He.ga K C) x q st := by
  obtain ⟨fd, F⟩ := c.def_ i h1
  exact ⟨_, fd, He.meth_ok (c.fact j h2), F⟩
theorem if_of (c : He.SaysD fa fn K) (i j : Nat) (C q : Str) (st : Stmt) (h1 : fn[i]? = some ⟨(C, some "__init__"), "__init__", q, defArgs st, defBody st, defScope st, [], []⟩) (h2 : fa[j]? = some (.mkr C)) : IF K (He.ga K C) q st := by
  obtain ⟨fd, F⟩ := c.def_ i h1
  exact ⟨_, fd, He.mkr_ok (c.fact j h2), F⟩
theorem kf_of (c : He.SaysD fa fn K) (k : kdB K = true) (i : Nat) (st : Stmt) (h1 : fn[i]? = some ⟨("Kind", some "__init__"), "__init__", "Kind.__init__", defArgs st, defBody st, defScope st, [], []⟩) : KF K (He.ga K "Kind") st := by
  obtain ⟨fd, F⟩ := c.def_ i h1
  obtain ⟨k1, k2⟩ := He.ba k
  obtain ⟨k2, k3⟩ := He.ba k2
  have e : PySem.W.findCls K (.ref (He.ga K "Kind")) (.type "type") "__init__" = some (.val (.ref (He.fAd K ("Kind", some "__init__")))) := by
    revert k3
    cases PySem.W.findCls K (.ref (He.ga K "Kind")) (.type "type") "__init__" with
    | none => intro k3; cases k3
    | some z =>
      cases z with
      | val v =>
        cases v with
        | ref f => intro k3; rw [of_decide_eq_true k3]
        | _ => intro k3; cases k3
      | _ => intro k3; cases k3
  exact ⟨_, fd, ⟨k1, He.eqO_ok k2⟩, e, F⟩
theorem tx_Wholes (X : K.In h) (G : h.Ns mainGlobals mg) (c : He.SaysD fa fn K) : TWholes K mg (He.ga K "Wholes") where
  g := He.glo_ok X G (c.fact 81 rfl)
  cl := He.cls_ok (c.fact 84 rfl)
  nS := He.noat_ok (c.fact 86 rfl)
  init := if_of c 81 85 _ _ s_Wholes_init rfl rfl
  plain := mf_of c 82 87 _ _ _ s_Wholes_plain rfl rfl
  plus := mf_of c 83 88 _ _ _ s_Kind_plus rfl rfl
  less := mf_of c 84 89 _ _ _ s_Kind_less rfl rfl
  times := mf_of c 85 90 _ _ _ s_Kind_times rfl rfl
  over := mf_of c 86 91 _ _ _ s_Wholes_over rfl rfl
theorem tx_Rests (X : K.In h) (G : h.Ns mainGlobals mg) (c : He.SaysD fa fn K) : TRests K mg (He.ga K "Rests") where
  g := He.glo_ok X G (c.fact 82 rfl)
  cl := He.cls_ok (c.fact 92 rfl)
  nS := He.noat_ok (c.fact 94 rfl)
  init := if_of c 87 93 _ _ s_Rests_init rfl rfl
  plain := mf_of c 88 95 _ _ _ s_Kind_plain rfl rfl
  plus := mf_of c 89 96 _ _ _ s_Kind_plus rfl rfl
  less := mf_of c 90 97 _ _ _ s_Kind_less rfl rfl
  times := mf_of c 91 98 _ _ _ s_Kind_times rfl rfl
  over := mf_of c 92 99 _ _ _ s_Kind_over rfl rfl
theorem tx_Powers (X : K.In h) (G : h.Ns mainGlobals mg) (c : He.SaysD fa fn K) : TPowers K mg (He.ga K "Powers") where
  g := He.glo_ok X G (c.fact 83 rfl)
  cl := He.cls_ok (c.fact 100 rfl)
  nS := He.noat_ok (c.fact 102 rfl)
  nP := He.noat_ok (c.fact 108 rfl)
  init := if_of c 93 101 _ _ s_Powers_init rfl rfl
  plain := mf_of c 94 103 _ _ _ s_Kind_plain rfl rfl
  plus := mf_of c 95 104 _ _ _ s_Kind_plus rfl rfl
  less := mf_of c 96 105 _ _ _ s_Kind_less rfl rfl
  times := mf_of c 97 106 _ _ _ s_Kind_times rfl rfl
  over := mf_of c 98 107 _ _ _ s_Kind_over rfl rfl
theorem tx (X : K.In h) (G : h.Ns mainGlobals mg) (c : He.SaysD fa fn K) (k : kdB K = true) : TX K mg where
  d_trimmed := df_of X G c 0 0 _ s_trimmed rfl rfl
  d_number_at := df_of X G c 1 1 _ s_number_at rfl rfl
  d_plus := df_of X G c 2 2 _ s_plus rfl rfl
  d_less := df_of X G c 3 3 _ s_less rfl rfl
  d_times := df_of X G c 4 4 _ s_times rfl rfl
  d_scaled := df_of X G c 5 5 _ s_scaled rfl rfl
  d_slope := df_of X G c 6 6 _ s_slope rfl rfl
  d_divided := df_of X G c 7 7 _ s_divided rfl rfl
  d_with_lead_one := df_of X G c 8 8 _ s_with_lead_one rfl rfl
  d_common := df_of X G c 9 9 _ s_common rfl rfl
  d_shares := df_of X G c 10 10 _ s_shares rfl rfl
  d_is_prime := df_of X G c 11 11 _ s_is_prime rfl rfl
  d_turned := df_of X G c 12 12 _ s_turned rfl rfl
  d_bound := df_of X G c 13 13 _ s_bound rfl rfl
  d_is_good := df_of X G c 14 14 _ s_is_good rfl rfl
  d_good_prime := df_of X G c 15 15 _ s_good_prime rfl rfl
  d_many_for := df_of X G c 16 16 _ s_many_for rfl rfl
  d_sets_of := df_of X G c 17 17 _ s_sets_of rfl rfl
  d_sets := df_of X G c 18 18 _ s_sets rfl rfl
  d_nearest := df_of X G c 19 19 _ s_nearest rfl rfl
  d_candidate := df_of X G c 20 20 _ s_candidate rfl rfl
  d_looked_at := df_of X G c 21 21 _ s_looked_at rfl rfl
  d_better := df_of X G c 22 22 _ s_better rfl rfl
  d_lifted_pair := df_of X G c 23 23 _ s_lifted_pair rfl rfl
  d_lifted := df_of X G c 24 24 _ s_lifted rfl rfl
  d_raised := df_of X G c 25 25 _ s_raised rfl rfl
  d_powering := df_of X G c 26 26 _ s_powering rfl rfl
  d_row_plus := df_of X G c 27 27 _ s_row_plus rfl rfl
  d_row_times := df_of X G c 28 28 _ s_row_times rfl rfl
  d_square := df_of X G c 29 29 _ s_square rfl rfl
  d_first_row := df_of X G c 30 30 _ s_first_row rfl rfl
  d_exchange := df_of X G c 31 31 _ s_exchange rfl rfl
  d_cleared := df_of X G c 32 32 _ s_cleared rfl rfl
  d_echelon := df_of X G c 33 33 _ s_echelon rfl rfl
  d_kernel := df_of X G c 34 34 _ s_kernel rfl rfl
  d_rank := df_of X G c 35 35 _ s_rank rfl rfl
  d_less_one := df_of X G c 36 36 _ s_less_one rfl rfl
  d_kept_rows := df_of X G c 37 37 _ s_kept_rows rfl rfl
  d_parted_by := df_of X G c 38 38 _ s_parted_by rfl rfl
  d_split := df_of X G c 39 39 _ s_split rfl rfl
  d_first_place := df_of X G c 40 40 _ s_first_place rfl rfl
  d_paper := df_of X G c 41 41 _ s_paper rfl rfl
  d_divisor := df_of X G c 42 42 _ s_divisor rfl rfl
  d_bared := df_of X G c 43 43 _ s_bared rfl rfl
  d_steps := df_of X G c 44 44 _ s_steps rfl rfl
  d_looked := df_of X G c 45 45 _ s_looked rfl rfl
  d_L_cell_at := df_of X G c 46 46 _ s_L_cell_at rfl rfl
  d_L_head := df_of X G c 47 47 _ s_L_head rfl rfl
  d_L_trim := df_of X G c 48 48 _ s_L_trim rfl rfl
  d_L_times := df_of X G c 49 49 _ s_L_times rfl rfl
  d_L_plus := df_of X G c 50 50 _ s_L_plus rfl rfl
  d_L_divisor := df_of X G c 51 51 _ s_L_divisor rfl rfl
  d_L_content := df_of X G c 52 52 _ s_L_content rfl rfl
  d_L_bare := df_of X G c 53 53 _ s_L_bare rfl rfl
  d_L_bound := df_of X G c 54 54 _ s_L_bound rfl rfl
  d_L_is_prime := df_of X G c 55 55 _ s_L_is_prime rfl rfl
  d_L_size_of := df_of X G c 56 56 _ s_L_size_of rfl rfl
  d_L_rest := df_of X G c 57 57 _ s_L_rest rfl rfl
  d_L_raised := df_of X G c 58 58 _ s_L_raised rfl rfl
  d_L_left := df_of X G c 59 59 _ s_L_left rfl rfl
  d_L_slope := df_of X G c 60 60 _ s_L_slope rfl rfl
  d_L_opened := df_of X G c 61 61 _ s_L_opened rfl rfl
  d_L_righted := df_of X G c 62 62 _ s_L_righted rfl rfl
  d_L_good := df_of X G c 63 63 _ s_L_good rfl rfl
  d_L_whole := df_of X G c 64 64 _ s_L_whole rfl rfl
  d_L_row_of_wholes := df_of X G c 65 65 _ s_L_row_of_wholes rfl rfl
  d_L_paper_shaped := df_of X G c 66 66 _ s_L_paper_shaped rfl rfl
  d_L_rows_of_wholes := df_of X G c 67 67 _ s_L_rows_of_wholes rfl rfl
  d_L_whole_paper_shaped := df_of X G c 68 68 _ s_L_whole_paper_shaped rfl rfl
  d_L_ones := df_of X G c 69 69 _ s_L_ones rfl rfl
  d_L_sets := df_of X G c 70 70 _ s_L_sets rfl rfl
  d_L_candidate := df_of X G c 71 71 _ s_L_candidate rfl rfl
  d_L_barred := df_of X G c 72 72 _ s_L_barred rfl rfl
  d_L_made_of := df_of X G c 73 73 _ s_L_made_of rfl rfl
  d_L_whole_good := df_of X G c 74 74 _ s_L_whole_good rfl rfl
  d_L_steps := df_of X G c 75 75 _ s_L_steps rfl rfl
  d_L_free := df_of X G c 76 76 _ s_L_free rfl rfl
  d_L_drawn := df_of X G c 77 77 _ s_L_drawn rfl rfl
  d_L_a_part := df_of X G c 78 78 _ s_L_a_part rfl rfl
  d_law := df_of X G c 79 79 _ s_law rfl rfl
  cWholes := ⟨_, tx_Wholes X G c⟩
  cRests := ⟨_, tx_Rests X G c⟩
  cPowers := ⟨_, tx_Powers X G c⟩
  cKind := ⟨_, He.glo_ok X G (c.fact 80 rfl), kf_of c k 80 _ rfl⟩
  b_len := He.free_ok X G (c.fact 109 rfl)
  b_max := He.free_ok X G (c.fact 110 rfl)
  b_min := He.free_ok X G (c.fact 111 rfl)
  b_range := He.free_ok X G (c.fact 112 rfl)
  b_enumerate := He.free_ok X G (c.fact 113 rfl)
  b_zip := He.free_ok X G (c.fact 114 rfl)
  b_sum := He.free_ok X G (c.fact 115 rfl)
  b_abs := He.free_ok X G (c.fact 116 rfl)
  b_sorted := He.free_ok X G (c.fact 117 rfl)
  b_reversed := He.free_ok X G (c.fact 118 rfl)
  b_divmod := He.free_ok X G (c.fact 119 rfl)
  b_list := He.free_ok X G (c.fact 120 rfl)
  b_int := He.free_ok X G (c.fact 121 rfl)
  b_tuple := He.free_ok X G (c.fact 122 rfl)
  b_isinstance := He.free_ok X G (c.fact 123 rfl)
  b_str := He.free_ok X G (c.fact 124 rfl)
  b_bool := He.free_ok X G (c.fact 125 rfl)
  iG := He.int_ok X G (c.fact 126 rfl)
  iM := He.int_ok X G (c.fact 127 rfl)
  iP := He.int_ok X G (c.fact 128 rfl)
end
end FF
open PySem PySem.W PySem.Calls PyProof.Rows
set_option maxHeartbeats 0 in
theorem PySem.Challenge.cw_factorforge_k69_whole_looked_holds : PySem.Challenge.rw_factorforge_k69_whole_looked.Holds := by
  w_on; o_law
  refine HandSHeadRun.head_any (r := OpenLaw.row PySem.Challenge.rw_factorforge_k69_whole_looked) (q := view (OpenLaw.row PySem.Challenge.rw_factorforge_k69_whole_looked).prog [106]) (H := FF.hk) (ob := FF.ob) (M := 6000) (loose := FF.loose) (d := HandSHeadRun.topDef (OpenLaw.row PySem.Challenge.rw_factorforge_k69_whole_looked).prog 106) (kwd := []) FF.ob_eq
    (by kernel_rfl) (fun s => by kernel_rfl) FF.run (by kernel_rfl) (by kernel_rfl) (by kernel_rfl) (by rfl) (by first | assumption | decide +kernel) (by decide +kernel) ⟨rfl, rfl, rfl, rfl, rfl, by decide +kernel⟩ ?hw ?hc
  case hw => w_witness2
  case hc =>
    refine L2.walk_ofE (l := PySem.Challenge.rw_factorforge_k69_whole_looked) (n := 63) (k := 15) (x := "_law_script") (CX := L2.CX0) rfl (by decide) (by kernel_rfl) ⟨rfl, by decide, by decide⟩ ?F (fun _ _ _ _ z => z)
    intro w mg fa h Y G hmg0
    obtain ⟨K, KX, c⟩ := Y
    have hmg : mg ("law" : PySem.Str) = some (.ref fa) := by
      have e : (HandSHeadRun.topDef (OpenLaw.row PySem.Challenge.rw_factorforge_k69_whole_looked).prog 106).name = ("law" : PySem.Str) := by kernel_rfl
      rw [← e]
      exact hmg0
    have c1 : FF.kdB K = true := congrArg (fun z : Bool × He.AlD => z.1) c
    have c2 : He.SaysD FF.fa FF.fn K := congrArg (fun z : Bool × He.AlD => z.2) c
    have T := FF.tx KX G c2 c1
    obtain ⟨f, fd, g, F⟩ := T.d_law
    have ef := hmg.symm.trans g
    cases ef
    have bb := L2.FunD.bindsA (ps := ["_law_script"]) F fun _ _ _ _ _ _ us hl => match us, hl with | [_], _ => rfl
    exact ⟨K, fd, FF.spLaw K, KX, fun s v => bb s [v] rfl, fun H a ns hl _ hS => ⟨a, ns, rfl, hS, fun _ _ => rfl⟩, fun base _ _ => F.ok FF.sc_law (FF.law_len K) fun cdv A outer s H vs Q E hr h => by
      obtain ⟨t, h1, h2⟩ := FF.law_body (w := w) (base := base) T fa cdv A outer s H vs Q E hr h
      exact ⟨t, h1.nox, h2⟩⟩
end
