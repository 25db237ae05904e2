import PyProof.Rows.All
import Wide.All
import OpenK.AllK
import Wide.FinOn
import KE.KStateDown
import KE.KMathG
import HandS.ForMost
import HandS.Defaults
import HandS.Flow
import HandS.Style
import HandS.Conv
import HandS.Zip
import HandS.TupAny
import HandS.IsInst
import HandS.MakeKw
import HandS.Gcd
import HandS.Wide
import HandS.HeadHook1
import HandS.HeadHook2
import HandS.HeadHook3
import HandS.HeadHook4
import PySem.Challenge.RW_untoldgaps_k59_whole_bounds_of_one_speed
import OpenK.KOps
import KE.DatumOrd
import KE.GoesEnum
import KE.DataFind
import HandS.Deep
import HandS.Walk
import HandS.Head0
import HandS.Head1
import HandS.Head2
import HandS.Head3
import HandS.HeadEnd
section
set_option linter.all false
/-! Prefix sums W (weights, rising) and M (weight * speed): who is faster, which pairs are parted, the stack of lots, the bounds. -/
namespace G
/-- the balls f to m - 1 have a greater mean than m to l - 1 -/
def F (W M : Nat → Rat) (f m l : Nat) : Prop := (M l - M m) * (W m - W f) < (M m - M f) * (W l - W m)
def Parted (W M : Nat → Rat) (n k : Nat) : Prop := ∀ f l, f ≤ k → k < l → l < n → ¬ F W M f (k + 1) (l + 1)
def Rise (W : Nat → Rat) (n : Nat) : Prop := ∀ i j, i < j → j ≤ n → W i < W j
def mean (W M : Nat → Rat) (f l : Nat) : Rat := (M l - M f) / (W l - W f)
/-- the height over the line of slope c -/
def hgt (W M : Nat → Rat) (c : Rat) (x : Nat) : Rat := M x - c * W x

section
variable {W M : Nat → Rat} {n : Nat}
theorem Rise.pos (h : Rise W n) {f l : Nat} (a : f < l) (b : l ≤ n) : 0 < W l - W f := by
  have := h f l a b
  grind
theorem mean_mul (h : Rise W n) {f l : Nat} (a : f < l) (b : l ≤ n) : mean W M f l * (W l - W f) = M l - M f := by
  have := h.pos a b
  unfold mean
  exact Rat.div_mul_cancel (by grind)
theorem mean_hgt (h : Rise W n) {f l : Nat} (a : f < l) (b : l ≤ n) : hgt W M (mean W M f l) f = hgt W M (mean W M f l) l := by
  have := mean_mul (M := M) h a b
  unfold hgt
  grind
theorem mean_le (h : Rise W n) {f l : Nat} (a : f < l) (b : l ≤ n) {c : Rat} : mean W M f l ≤ c ↔ hgt W M c l ≤ hgt W M c f := by
  have h1 := mean_mul (M := M) h a b
  have h2 := h.pos a b
  have e : mean W M f l ≤ c ↔ mean W M f l * (W l - W f) ≤ c * (W l - W f) :=
    ⟨fun q => Rat.mul_le_mul_of_nonneg_right q (Rat.le_of_lt h2), fun q => Rat.le_of_mul_le_mul_right q h2⟩
  rw [e, h1]
  unfold hgt
  constructor <;> intro q <;> grind
theorem le_mean (h : Rise W n) {f l : Nat} (a : f < l) (b : l ≤ n) {c : Rat} : c ≤ mean W M f l ↔ hgt W M c f ≤ hgt W M c l := by
  have h1 := mean_mul (M := M) h a b
  have h2 := h.pos a b
  have e : c ≤ mean W M f l ↔ c * (W l - W f) ≤ mean W M f l * (W l - W f) :=
    ⟨fun q => Rat.mul_le_mul_of_nonneg_right q (Rat.le_of_lt h2), fun q => Rat.le_of_mul_le_mul_right q h2⟩
  rw [e, h1]
  unfold hgt
  constructor <;> intro q <;> grind
theorem F_mean (h : Rise W n) {f m l : Nat} (a : f < m) (b : m < l) (c : l ≤ n) : F W M f m l ↔ mean W M m l < mean W M f m := by
  have h1 := mean_mul (M := M) h a (by omega)
  have h2 := mean_mul (M := M) h b c
  have p1 := h.pos a (by omega)
  have p2 := h.pos b c
  unfold F
  rw [← h1, ← h2]
  have e1 : mean W M m l * (W l - W m) * (W m - W f) = mean W M m l * ((W l - W m) * (W m - W f)) := by grind
  have e2 : mean W M f m * (W m - W f) * (W l - W m) = mean W M f m * ((W l - W m) * (W m - W f)) := by grind
  rw [e1, e2]
  exact Rat.mul_lt_mul_right (Rat.mul_pos p2 p1)
theorem notF (h : Rise W n) {f m l : Nat} (a : f < m) (b : m < l) (c : l ≤ n) : ¬ F W M f m l ↔ mean W M f m ≤ mean W M m l := by
  rw [F_mean h a b c, Rat.not_lt]
/-- a turn of slope moves heights with the weights -/
theorem hgt_turn (c d : Rat) (x : Nat) : hgt W M c x = hgt W M d x + (d - c) * W x := by
  unfold hgt
  grind
theorem hgt_le_of (h : Rise W n) {x y : Nat} (xy : x ≤ y) (yn : y ≤ n) {c d : Rat} (q : c ≤ d) (k : hgt W M c y ≤ hgt W M c x) : hgt W M d y ≤ hgt W M d x := by
  rcases Nat.lt_or_eq_of_le xy with xy | rfl
  · have p := h.pos xy yn
    have e := Rat.mul_nonneg (show 0 ≤ d - c by grind) (Rat.le_of_lt p)
    rw [hgt_turn d c y, hgt_turn d c x]
    grind
  · exact Rat.le_refl
theorem le_hgt_of (h : Rise W n) {x y : Nat} (xy : x ≤ y) (yn : y ≤ n) {c d : Rat} (q : c ≤ d) (k : hgt W M d x ≤ hgt W M d y) : hgt W M c x ≤ hgt W M c y := by
  rcases Nat.lt_or_eq_of_le xy with xy | rfl
  · have p := h.pos xy yn
    have e := Rat.mul_nonneg (show 0 ≤ d - c by grind) (Rat.le_of_lt p)
    rw [hgt_turn c d y, hgt_turn c d x]
    grind
  · exact Rat.le_refl
/-- a lot: each proper beginning is faster than the rest -/
def Tight (W M : Nat → Rat) (b e : Nat) : Prop := ∀ m, b < m → m < e → F W M b m e
theorem F_whole (h : Rise W n) {b m e : Nat} (x : b < m) (y : m < e) (z : e ≤ n) : F W M b m e ↔ hgt W M (mean W M b e) b < hgt W M (mean W M b e) m := by
  have p1 := h.pos x (by omega)
  have p2 := h.pos y z
  have p3 : 0 < W e - W b := h.pos (by omega) z
  have h3 := mean_mul (M := M) h (show b < e by omega) z
  have key : ((M m - M b) * (W e - W m) - (M e - M m) * (W m - W b)) = (hgt W M (mean W M b e) m - hgt W M (mean W M b e) b) * (W e - W b) := by
    have e1 : (hgt W M (mean W M b e) m - hgt W M (mean W M b e) b) * (W e - W b) = (M m - M b) * (W e - W b) - (mean W M b e * (W e - W b)) * (W m - W b) := by
      unfold hgt
      grind
    rw [e1, h3]
    grind
  constructor
  · intro q
    unfold F at q
    have q2 : 0 * (W e - W b) < (hgt W M (mean W M b e) m - hgt W M (mean W M b e) b) * (W e - W b) := by
      rw [← key]
      grind
    have q3 := (Rat.mul_lt_mul_right p3).mp q2
    grind
  · intro q
    have q2 := (Rat.mul_lt_mul_right p3).mpr (show 0 < hgt W M (mean W M b e) m - hgt W M (mean W M b e) b by grind)
    rw [← key] at q2
    unfold F
    grind
theorem Tight.le (h : Rise W n) {b e : Nat} (be : b < e) (en : e ≤ n) (t : Tight W M b e) {m : Nat} (x : b ≤ m) (y : m ≤ e) : hgt W M (mean W M b e) b ≤ hgt W M (mean W M b e) m := by
  rcases Nat.lt_or_eq_of_le x with x | rfl
  · rcases Nat.lt_or_eq_of_le y with y | rfl
    · exact Rat.le_of_lt ((F_whole h x y en).mp (t m x y))
    · rw [mean_hgt h be en]
      exact Rat.le_refl
  · exact Rat.le_refl
/-- two lots, the left one faster, are one -/
theorem Tight.join (h : Rise W n) {a b c : Nat} (ab : a < b) (bc : b < c) (cn : c ≤ n) (t1 : Tight W M a b) (t2 : Tight W M b c) (f : F W M a b c) : Tight W M a c := by
  intro m x y
  rw [F_whole h x y cn]
  have f0 := (F_whole h ab bc cn).mp f
  have hac := mean_hgt (M := M) h (show a < c by omega) cn
  -- the mean of the whole lies between
  have u1 : mean W M a c ≤ mean W M a b := (le_mean h ab (by omega)).mpr (Rat.le_of_lt f0)
  have u2 : mean W M b c ≤ mean W M a c := (mean_le h bc cn).mpr (by rw [← hac]; exact Rat.le_of_lt f0)
  by_cases hm : m = b
  · rw [hm]; exact f0
  · by_cases hmb : m < b
    · have g := (F_whole h x hmb (by omega)).mp (t1 m x hmb)
      have p := h.pos x (show m ≤ n by omega)
      have e := Rat.mul_nonneg (show 0 ≤ mean W M a b - mean W M a c by grind) (Rat.le_of_lt p)
      rw [hgt_turn (mean W M a c) (mean W M a b) m, hgt_turn (mean W M a c) (mean W M a b) a]
      grind
    · have hbm : b < m := by omega
      have g := (F_whole h hbm y cn).mp (t2 m hbm y)
      have p := h.pos y cn
      have e := Rat.mul_nonneg (show 0 ≤ mean W M a c - mean W M b c by grind) (Rat.le_of_lt p)
      have e2 := mean_hgt (M := M) h bc cn
      rw [hac, hgt_turn (mean W M a c) (mean W M b c) m, hgt_turn (mean W M a c) (mean W M b c) c]
      rw [e2] at g
      grind
theorem Tight.one (b : Nat) : Tight W M b (b + 1) := fun m x y => by omega
/-- the stack of lots, the top first: L their beginnings, e the end -/
def Ok (W M : Nat → Rat) : List Nat → Nat → Prop
  | [], e => e = 0
  | b :: r, e => b < e ∧ Tight W M b e ∧ Ok W M r b ∧ ∀ a r', r = a :: r' → ¬ F W M a b e
/-- .. where the top may be slower than the one under it -/
def OkW (W M : Nat → Rat) : List Nat → Nat → Prop
  | [], _ => False
  | b :: r, e => b < e ∧ Tight W M b e ∧ Ok W M r b
theorem OkW.push {L : List Nat} {b : Nat} (o : Ok W M L b) : OkW W M (b :: L) (b + 1) := ⟨by omega, Tight.one b, o⟩
theorem OkW.pop (h : Rise W n) {b a : Nat} {r : List Nat} {e : Nat} (en : e ≤ n) (o : OkW W M (b :: a :: r) e) (f : F W M a b e) : OkW W M (a :: r) e := by
  obtain ⟨h1, t, h2, t2, h3, _⟩ := o
  exact ⟨by omega, Tight.join h h2 h1 en t2 t f, h3⟩
theorem OkW.done {b : Nat} {r : List Nat} {e : Nat} (o : OkW W M (b :: r) e) (f : ∀ a r', r = a :: r' → ¬ F W M a b e) : Ok W M (b :: r) e := ⟨o.1, o.2.1, o.2.2, f⟩
theorem Ok.left (h : Rise W n) : ∀ {b : Nat} {r : List Nat} {e : Nat}, e ≤ n → Ok W M (b :: r) e → ∀ {c : Rat}, mean W M b e ≤ c → ∀ f, f ≤ e → hgt W M c e ≤ hgt W M c f := by
  intro b r
  induction r generalizing b with
  | nil =>
    intro e en o c hc f hf
    obtain ⟨be, t, o0, _⟩ := o
    have b0 : b = 0 := o0
    refine hgt_le_of h hf en hc ?_
    rw [← mean_hgt h be en]
    exact t.le h be en (by omega) hf
  | cons a r ih =>
    intro e en o c hc f hf
    obtain ⟨be, t, oa, nf⟩ := o
    have ab : a < b := oa.1
    have base : ∀ f, b ≤ f → f ≤ e → hgt W M c e ≤ hgt W M c f := fun f x y => by
      refine hgt_le_of h y en hc ?_
      rw [← mean_hgt h be en]
      exact t.le h be en x y
    by_cases hb : b ≤ f
    · exact base f hb hf
    · have i1 := ih (e := b) (by omega) oa (c := c) (Rat.le_trans ((notF h ab be en).mp (nf a r rfl)) hc) f (by omega)
      exact Rat.le_trans (base b (Nat.le_refl _) (by omega)) i1
def Right (W M : Nat → Rat) (n e : Nat) (c : Rat) : Prop := ∀ l, e ≤ l → l ≤ n → hgt W M c e ≤ hgt W M c l
/-- every beginning but 0 is parted from what is ahead of it -/
theorem Ok.all (h : Rise W n) : ∀ {b : Nat} {r : List Nat} {e : Nat}, e ≤ n → Ok W M (b :: r) e → (∀ c, c ≤ mean W M b e → Right W M n e c) → ∀ k, k ∈ b :: r → 0 < k → Parted W M n (k - 1) := by
  intro b r
  induction r generalizing b with
  | nil =>
    intro e en o _ k hk k0
    have b0 : b = 0 := o.2.2.1
    simp at hk
    omega
  | cons a r ih =>
    intro e en o rt k hk k0
    obtain ⟨be, t, oa, nf⟩ := o
    have ab : a < b := oa.1
    have nfb := (notF h ab be en).mp (nf a r rfl)
    have rb : ∀ c, c ≤ mean W M a b → Right W M n b c := fun c hc l x y => by
      have hc2 := Rat.le_trans hc nfb
      have inl : ∀ l, b ≤ l → l ≤ e → hgt W M c b ≤ hgt W M c l := fun l x y => le_hgt_of h x (by omega) hc2 (t.le h be en x y)
      by_cases q : l ≤ e
      · exact inl l x q
      · exact Rat.le_trans (inl e (by omega) (Nat.le_refl _)) (rt c hc2 l (by omega) y)
    rcases List.mem_cons.mp hk with rfl | hk
    · intro f l x y z
      have e1 : k - 1 + 1 = k := by omega
      rw [e1, notF h (by omega) (by omega) (by omega)]
      have l1 := Ok.left h (show k ≤ n by omega) oa (c := mean W M a k) Rat.le_refl f (by omega)
      have r1 := rb (mean W M a k) Rat.le_refl (l + 1) (by omega) (by omega)
      exact Rat.le_trans ((mean_le h (by omega) (by omega)).mpr l1) ((le_mean h (by omega) (by omega)).mpr r1)
    · exact ih (by omega) oa rb k hk k0
/-- between two beginnings nothing is parted -/
theorem Tight.not_parted {b e k : Nat} (t : Tight W M b e) (en : e ≤ n) (x : b < k) (y : k < e) : ¬ Parted W M n (k - 1) := fun q => by
  have e1 : k - 1 + 1 = k := by omega
  have e2 : e - 1 + 1 = e := by omega
  have := q b (e - 1) (by omega) (by omega) (by omega)
  rw [e1, e2] at this
  exact this (t k x y)
open Classical in
/-- the beginnings below e, the greatest first -/
noncomputable def bnds (W M : Nat → Rat) (n : Nat) : Nat → List Nat
  | 0 => []
  | k + 1 => if k = 0 ∨ Parted W M n (k - 1) then k :: bnds W M n k else bnds W M n k
theorem bnds_skip {b e : Nat} (t : Tight W M b e) (en : e ≤ n) (be : b < e) : bnds W M n e = bnds W M n (b + 1) := by
  have : ∀ d, b + 1 + d ≤ e → bnds W M n (b + 1 + d) = bnds W M n (b + 1) := by
    intro d
    induction d with
    | zero => intro _; rfl
    | succ d ih =>
      intro hd
      show bnds W M n ((b + 1 + d) + 1) = _
      unfold bnds
      rw [if_neg, ih (by omega)]
      · cases b <;> rfl
      · intro q
        rcases q with q | q
        · omega
        · exact t.not_parted en (by omega) (by omega) q
  have e1 : e = b + 1 + (e - (b + 1)) := by omega
  rw [e1]
  exact this _ (by omega)
theorem Ok.bnds_eq {L₀ : List Nat} (pt : ∀ k, k ∈ L₀ → 0 < k → Parted W M n (k - 1)) : ∀ {L : List Nat} {e : Nat}, e ≤ n → Ok W M L e → (∀ k, k ∈ L → k ∈ L₀) → L = bnds W M n e := by
  intro L
  induction L with
  | nil =>
    intro e _ o _
    have e0 : e = 0 := o
    subst e0
    rfl
  | cons b r ih =>
    intro e en o sub
    obtain ⟨be, t, o1, _⟩ := o
    rw [bnds_skip t en be]
    unfold bnds
    rw [if_pos, ← ih (by omega) o1 fun k hk => sub k (List.mem_cons_of_mem _ hk)]
    by_cases b0 : b = 0
    · exact .inl b0
    · exact .inr (pt b (sub b List.mem_cons_self) (by omega))
theorem pav (h : Rise W n) (n0 : 0 < n) {L : List Nat} (o : Ok W M L n) : L = bnds W M n n := by
  cases L with
  | nil =>
    have : n = 0 := o
    omega
  | cons b r =>
    refine Ok.bnds_eq (L₀ := b :: r) (Ok.all h (Nat.le_refl _) o fun c _ l x y => ?_) (Nat.le_refl _) o fun _ h => h
    have : l = n := by omega
    rw [this]
    exact Rat.le_refl

/-! the lots, as tuples (first, last) -/
def lotsR : List Nat → Nat → List (Nat × Nat)
  | [], _ => []
  | b :: r, e => lotsR r b ++ [(b, e - 1)]
def lotsA (bs : List Nat) (e : Nat) : List (Nat × Nat) := (bs.zip (bs.drop 1 ++ [e])).map fun p => (p.1, p.2 - 1)
theorem lotsA_cons2 (a b : Nat) (t : List Nat) (e : Nat) : lotsA (a :: b :: t) e = (a, b - 1) :: lotsA (b :: t) e := rfl
theorem lotsA_snoc : ∀ (bs : List Nat) (b e : Nat), lotsA (bs ++ [b]) e = lotsA bs b ++ [(b, e - 1)]
  | [], b, e => rfl
  | [a], b, e => rfl
  | a :: c :: t, b, e => by
    show lotsA (a :: c :: (t ++ [b])) e = lotsA (a :: c :: t) b ++ [(b, e - 1)]
    rw [lotsA_cons2, lotsA_cons2]
    have := lotsA_snoc (c :: t) b e
    show (a, c - 1) :: lotsA ((c :: t) ++ [b]) e = _
    rw [this]
    rfl
theorem lotsA_rev : ∀ (L : List Nat) (e : Nat), lotsA L.reverse e = lotsR L e
  | [], e => rfl
  | b :: r, e => by
    rw [List.reverse_cons, lotsA_snoc, lotsA_rev r b]
    rfl
theorem lotsA_len (bs : List Nat) (e : Nat) : (lotsA bs e).length = bs.length := by
  unfold lotsA
  rw [List.length_map, List.length_zip]
  simp
  omega
theorem lotsA_get {bs : List Nat} {e i b : Nat} (h : bs[i]? = some b) : (lotsA bs e)[i]? = some (b, (if i + 1 < bs.length then bs.getD (i + 1) 0 else e) - 1) := by
  have hi := (List.getElem?_eq_some_iff.mp h).1
  unfold lotsA
  rw [List.getElem?_map]
  have e2 : (bs.drop 1 ++ [e])[i]? = some (if i + 1 < bs.length then bs.getD (i + 1) 0 else e) := by
    rw [List.getElem?_append]
    by_cases q : i + 1 < bs.length
    · rw [if_pos (by simp; omega), if_pos q, List.getElem?_drop, Nat.add_comm 1 i, List.getD_eq_getElem?_getD, List.getElem?_eq_getElem q]
      rfl
    · rw [if_neg (by simp; omega), if_neg q]
      have : i - (bs.drop 1).length = 0 := by simp; omega
      rw [this]
      rfl
  have e3 : (bs.zip (bs.drop 1 ++ [e]))[i]? = some (b, if i + 1 < bs.length then bs.getD (i + 1) 0 else e) := List.getElem?_zip_eq_some.mpr ⟨h, e2⟩
  rw [e3]
  rfl
theorem lotsR_len (L : List Nat) (e : Nat) : (lotsR L e).length = L.length := by
  rw [← lotsA_rev, lotsA_len, List.length_reverse]
theorem bnds_lt : ∀ {e b : Nat}, b ∈ bnds W M n e → b < e
  | 0, b, h => by cases h
  | k + 1, b, h => by
    unfold bnds at h
    split at h
    · rcases List.mem_cons.mp h with rfl | h
      · omega
      · have := bnds_lt h
        omega
    · have := bnds_lt h
      omega
theorem bnds_len : ∀ e : Nat, (bnds W M n e).length ≤ e
  | 0 => Nat.le_refl _
  | k + 1 => by
    unfold bnds
    have := bnds_len k
    split
    · show (bnds W M n k).length + 1 ≤ k + 1
      omega
    · omega
theorem bnds_one : bnds W M n 1 = [0] := by
  unfold bnds
  rw [if_pos (.inl rfl)]
  rfl
theorem bnds_parted {k : Nat} (h : Parted W M n k) : bnds W M n (k + 2) = (k + 1) :: bnds W M n (k + 1) := by
  rw [bnds, if_pos (.inr h)]
theorem bnds_not {k : Nat} (h : ¬ Parted W M n k) : bnds W M n (k + 2) = bnds W M n (k + 1) := by
  rw [bnds, if_neg]
  intro q
  rcases q with q | q
  · omega
  · exact h q
/-- the greatest beginning below e -/
theorem bnds_top : ∀ {e : Nat}, 0 < e → ∃ b, b < e ∧ bnds W M n e = b :: bnds W M n b ∧ (0 < b → Parted W M n (b - 1)) ∧ ∀ k, b < k → k < e → ¬ Parted W M n (k - 1)
  | 0, h => absurd h (by omega)
  | k + 1, _ => by
    by_cases q : k = 0 ∨ Parted W M n (k - 1)
    · refine ⟨k, by omega, by rw [bnds, if_pos q], fun hk => ?_, fun j a b => by omega⟩
      rcases q with q | q
      · omega
      · exact q
    · obtain ⟨b, h1, h2, h3, h4⟩ := bnds_top (e := k) (by omega)
      refine ⟨b, by omega, by rw [bnds, if_neg q, h2], h3, fun j x y => ?_⟩
      by_cases hj : j = k
      · subst hj
        exact fun z => q (.inr z)
      · exact h4 j x (by omega)
theorem snd_bnds : ∀ {e : Nat}, 0 < e → ∀ k, k ∈ (lotsR (bnds W M n e) e).map (·.2) ↔ (k + 1 = e ∨ (k + 1 < e ∧ Parted W M n k)) := by
  intro e
  induction e using Nat.strongRecOn with
  | _ e ih =>
    intro e0 k
    obtain ⟨b, h1, h2, h3, h4⟩ := bnds_top (W := W) (M := M) (n := n) e0
    rw [h2]
    show k ∈ (lotsR (bnds W M n b) b ++ [(b, e - 1)]).map (·.2) ↔ _
    rw [List.map_append, List.mem_append]
    simp only [List.map_cons, List.map_nil, List.mem_singleton]
    by_cases b0 : b = 0
    · subst b0
      have : ¬ k ∈ (lotsR (bnds W M n 0) 0).map (·.2) := by
        intro q
        cases q
      constructor
      · rintro (q | q)
        · exact (this q).elim
        · left; omega
      · rintro (q | ⟨q1, q2⟩)
        · right; omega
        · exact (h4 (k + 1) (by omega) q1 (by rw [Nat.add_sub_cancel]; exact q2)).elim
    · rw [ih b h1 (by omega) k]
      constructor
      · rintro ((q | ⟨q1, q2⟩) | q)
        · right
          refine ⟨by omega, ?_⟩
          have := h3 (by omega)
          rw [show b - 1 = k by omega] at this
          exact this
        · right; exact ⟨by omega, q2⟩
        · left; omega
      · rintro (q | ⟨q1, q2⟩)
        · right; omega
        · left
          by_cases z : k + 1 < b
          · exact .inr ⟨z, q2⟩
          · by_cases z2 : k + 1 = b
            · exact .inl z2
            · exact (h4 (k + 1) (by omega) q1 (by rw [Nat.add_sub_cancel]; exact q2)).elim
theorem parted_mem (n0 : 0 < n) (k : Nat) : k ∈ (lotsR (bnds W M n n) n).dropLast.map (·.2) ↔ (k + 1 < n ∧ Parted W M n k) := by
  obtain ⟨b, h1, h2, h3, h4⟩ := bnds_top (W := W) (M := M) (n := n) n0
  rw [h2]
  show k ∈ (lotsR (bnds W M n b) b ++ [(b, n - 1)]).dropLast.map (·.2) ↔ _
  rw [List.dropLast_concat]
  by_cases b0 : b = 0
  · subst b0
    constructor
    · intro q
      cases q
    · rintro ⟨q1, q2⟩
      exact (h4 (k + 1) (by omega) q1 (by rw [Nat.add_sub_cancel]; exact q2)).elim
  · rw [snd_bnds (by omega)]
    constructor
    · rintro (q | ⟨q1, q2⟩)
      · have := h3 (by omega)
        rw [show b - 1 = k by omega] at this
        exact ⟨by omega, this⟩
      · exact ⟨by omega, q2⟩
    · rintro ⟨q1, q2⟩
      by_cases z : k + 1 < b
      · exact .inr ⟨z, q2⟩
      · by_cases z2 : k + 1 = b
        · exact .inl z2
        · exact (h4 (k + 1) (by omega) q1 (by rw [Nat.add_sub_cancel]; exact q2)).elim

/-! one ball's speed -/
def Mu (M : Nat → Rat) (b : Nat) (wu : Rat) (x : Nat) : Rat := M x + if b < x then wu else 0
theorem mean_Mu_out {b f l : Nat} {wu : Rat} (h : (b < f ∧ b < l) ∨ (¬ b < f ∧ ¬ b < l)) : mean W (Mu M b wu) f l = mean W M f l := by
  unfold mean Mu
  rcases h with ⟨h1, h2⟩ | ⟨h1, h2⟩
  · rw [if_pos h1, if_pos h2]
    congr 1
    grind
  · rw [if_neg h1, if_neg h2]
    congr 1
    grind
theorem parted_iff (h : Rise W n) {k : Nat} : Parted W M n k ↔ ∀ f l, f ≤ k → k < l → l < n → mean W M f (k + 1) ≤ mean W M (k + 1) (l + 1) := by
  constructor
  · intro q f l x y z
    exact (notF h (by omega) (by omega) (by omega)).mp (q f l x y z)
  · intro q f l x y z
    exact (notF h (by omega) (by omega) (by omega)).mpr (q f l x y z)
/-- the speed of the ball at which the balls f to k with it are as fast as c -/
def bdA (W M : Nat → Rat) (w c : Rat) (k f : Nat) : Rat := (c * (W (k + 1) - W f) - (M (k + 1) - M f)) / w
theorem bdA_iff (h : Rise W n) {w c u : Rat} (w0 : 0 < w) {b k f : Nat} (fb : f ≤ b) (bk : b ≤ k) (kn : k < n) : mean W (Mu M b (w * u)) f (k + 1) ≤ c ↔ u ≤ bdA W M w c k f := by
  rw [mean_le h (by omega) (by omega)]
  unfold hgt bdA Mu
  rw [if_pos (by omega), if_neg (by omega)]
  have e : u ≤ (c * (W (k + 1) - W f) - (M (k + 1) - M f)) / w ↔ u * w ≤ (c * (W (k + 1) - W f) - (M (k + 1) - M f)) / w * w :=
    ⟨fun q => Rat.mul_le_mul_of_nonneg_right q (Rat.le_of_lt w0), fun q => Rat.le_of_mul_le_mul_right q w0⟩
  rw [e, Rat.div_mul_cancel (by grind)]
  constructor <;> intro q <;> grind
def bdB (W M : Nat → Rat) (w c : Rat) (k l : Nat) : Rat := (c * (W (l + 1) - W (k + 1)) - (M (l + 1) - M (k + 1))) / w
theorem bdB_iff (h : Rise W n) {w c u : Rat} (w0 : 0 < w) {b k l : Nat} (kb : k < b) (bl : b ≤ l) (ln : l < n) : c ≤ mean W (Mu M b (w * u)) (k + 1) (l + 1) ↔ bdB W M w c k l ≤ u := by
  rw [le_mean h (by omega) (by omega)]
  unfold hgt bdB Mu
  rw [if_neg (by omega), if_pos (by omega)]
  have e : (c * (W (l + 1) - W (k + 1)) - (M (l + 1) - M (k + 1))) / w ≤ u ↔ (c * (W (l + 1) - W (k + 1)) - (M (l + 1) - M (k + 1))) / w * w ≤ u * w :=
    ⟨fun q => Rat.mul_le_mul_of_nonneg_right q (Rat.le_of_lt w0), fun q => Rat.le_of_mul_le_mul_right q w0⟩
  rw [e, Rat.div_mul_cancel (by grind)]
  constructor <;> intro q <;> grind
/-- what a bound says: P u is «parted at the speed u», ab «at it or right of it» -/
def Bd (P : Rat → Prop) (ab : Prop) : Option Rat → Prop
  | none => ∀ u, ¬ P u
  | some v => (ab → ∀ u, P u ↔ u ≤ v) ∧ (¬ ab → ∀ u, P u ↔ v ≤ u)
theorem Bd.eq {P : Rat → Prop} {ab : Prop} {x y : Option Rat} (h1 : Bd P ab x) (h2 : Bd P ab y) : x = y := by
  by_cases q : ab
  · cases x with
    | none =>
      cases y with
      | none => rfl
      | some v => exact (h1 v ((h2.1 q v).mpr Rat.le_refl)).elim
    | some v =>
      cases y with
      | none => exact (h2 v ((h1.1 q v).mpr Rat.le_refl)).elim
      | some z =>
        have a1 := (h2.1 q v).mp ((h1.1 q v).mpr Rat.le_refl)
        have a2 := (h1.1 q z).mp ((h2.1 q z).mpr Rat.le_refl)
        rw [Rat.le_antisymm a1 a2]
  · cases x with
    | none =>
      cases y with
      | none => rfl
      | some v => exact (h1 v ((h2.2 q v).mpr Rat.le_refl)).elim
    | some v =>
      cases y with
      | none => exact (h2 v ((h1.2 q v).mpr Rat.le_refl)).elim
      | some z =>
        have a1 := (h2.2 q v).mp ((h1.2 q v).mpr Rat.le_refl)
        have a2 := (h1.2 q z).mp ((h2.2 q z).mpr Rat.le_refl)
        rw [Rat.le_antisymm a2 a1]
theorem Bd.neg {P P' : Rat → Prop} {ab ab' : Prop} (hp : ∀ u, P' u ↔ P (-u)) (ha : ab' ↔ ¬ ab) {x : Option Rat} (h : Bd P ab x) : Bd P' ab' (x.map fun v => -v) := by
  cases x with
  | none => exact fun u q => h (-u) ((hp u).mp q)
  | some v =>
    refine ⟨fun a u => ?_, fun a u => ?_⟩
    · rw [hp u, h.2 (ha.mp a) (-u)]
      exact Rat.le_neg_iff
    · have : ab := Classical.byContradiction fun q => a (ha.mpr q)
      rw [hp u, h.1 this (-u)]
      exact Rat.neg_le_iff
theorem above_none (h : Rise W n) {w : Rat} {b k f l : Nat} (bf : b < f) (fk : f ≤ k) (kl : k < l) (ln : l < n) (q : mean W M (k + 1) (l + 1) < mean W M f (k + 1)) (u : Rat) : ¬ Parted W (Mu M b (w * u)) n k := by
  rw [parted_iff h]
  intro z
  have := z f l fk kl ln
  rw [mean_Mu_out (.inl ⟨bf, by omega⟩), mean_Mu_out (.inl ⟨by omega, by omega⟩)] at this
  exact Rat.not_le.mpr q this
theorem above_some (h : Rise W n) {w : Rat} (w0 : 0 < w) {b k l₀ f₀ : Nat} {c v : Rat} (bk : b ≤ k) (kl : k < l₀) (ln : l₀ < n) (hc : c = mean W M (k + 1) (l₀ + 1)) (hl : ∀ l, k < l → l < n → c ≤ mean W M (k + 1) (l + 1))
    (hf : ∀ f, b < f → f ≤ k → mean W M f (k + 1) ≤ c) (fb : f₀ ≤ b) (hv : v = bdA W M w c k f₀) (hm : ∀ f, f ≤ b → v ≤ bdA W M w c k f) (u : Rat) : Parted W (Mu M b (w * u)) n k ↔ u ≤ v := by
  rw [parted_iff h]
  constructor
  · intro z
    have := z f₀ l₀ (by omega) kl ln
    rw [mean_Mu_out (f := k + 1) (.inl ⟨by omega, by omega⟩), ← hc, bdA_iff h w0 fb bk (by omega), ← hv] at this
    exact this
  · intro z f l x y q
    rw [mean_Mu_out (f := k + 1) (.inl ⟨by omega, by omega⟩)]
    refine Rat.le_trans ?_ (hl l y q)
    by_cases hb : b < f
    · rw [mean_Mu_out (.inl ⟨hb, by omega⟩)]
      exact hf f hb x
    · rw [bdA_iff h w0 (by omega) bk (by omega)]
      exact Rat.le_trans z (hm f (by omega))
theorem below_none (h : Rise W n) {w : Rat} {b k f l : Nat} (fk : f ≤ k) (kl : k < l) (lb : l < b) (bn : b < n) (q : mean W M (k + 1) (l + 1) < mean W M f (k + 1)) (u : Rat) : ¬ Parted W (Mu M b (w * u)) n k := by
  rw [parted_iff h]
  intro z
  have := z f l fk kl (by omega)
  rw [mean_Mu_out (.inr ⟨by omega, by omega⟩), mean_Mu_out (.inr ⟨by omega, by omega⟩)] at this
  exact Rat.not_le.mpr q this
theorem below_some (h : Rise W n) {w : Rat} (w0 : 0 < w) {b k f₀ l₀ : Nat} {c v : Rat} (kb : k < b) (bn : b < n) (fk : f₀ ≤ k) (hc : c = mean W M f₀ (k + 1)) (hf : ∀ f, f ≤ k → mean W M f (k + 1) ≤ c)
    (hl : ∀ l, k < l → l < b → c ≤ mean W M (k + 1) (l + 1)) (lb : b ≤ l₀) (ln : l₀ < n) (hv : v = bdB W M w c k l₀) (hm : ∀ l, b ≤ l → l < n → bdB W M w c k l ≤ v) (u : Rat) : Parted W (Mu M b (w * u)) n k ↔ v ≤ u := by
  rw [parted_iff h]
  constructor
  · intro z
    have := z f₀ l₀ fk (by omega) ln
    rw [mean_Mu_out (l := k + 1) (.inr ⟨by omega, by omega⟩), ← hc, bdB_iff h w0 kb lb ln, ← hv] at this
    exact this
  · intro z f l x y q
    rw [mean_Mu_out (l := k + 1) (.inr ⟨by omega, by omega⟩)]
    refine Rat.le_trans (hf f x) ?_
    by_cases hb : b ≤ l
    · rw [bdB_iff h w0 kb hb q]
      exact Rat.le_trans (hm l hb q) z
    · rw [mean_Mu_out (.inr ⟨by omega, by omega⟩)]
      exact hl l y (by omega)
end
end G
end
section
set_option linter.all false
/-! Ratios as the program writes them: in lowest terms; their sizes; sums over beginnings of lists. -/
namespace G
def Sz (n : Nat) (q : Rat) : Prop := q.num.natAbs < 2 ^ n ∧ q.den < 2 ^ n
/-- what the program divides by -/
def com (a b : Int) : Int := if b < 0 then -((Nat.gcd a.natAbs b.natAbs : Nat) : Int) else ((Nat.gcd a.natAbs b.natAbs : Nat) : Int)
theorem com_ne {a b : Int} (h : b ≠ 0) : com a b ≠ 0 := by
  have : 0 < Nat.gcd a.natAbs b.natAbs := Nat.gcd_pos_of_pos_right _ (by omega)
  unfold com
  split <;> omega
theorem com_abs (a b : Int) : (com a b).natAbs = Nat.gcd a.natAbs b.natAbs := by
  unfold com
  split <;> omega
theorem com_dvd_left (a b : Int) : com a b ∣ a := by
  rw [← Int.natAbs_dvd_natAbs, com_abs]
  exact Nat.gcd_dvd_left _ _
theorem com_dvd_right (a b : Int) : com a b ∣ b := by
  rw [← Int.natAbs_dvd_natAbs, com_abs]
  exact Nat.gcd_dvd_right _ _
theorem fdiv_of_dvd {a b : Int} (h : b ∣ a) : a.fdiv b = a / b := Int.fdiv_eq_ediv_of_dvd h
theorem low_num {a b : Int} (h : b ≠ 0) : a.fdiv (com a b) = (Rat.divInt a b).num := by
  rw [fdiv_of_dvd (com_dvd_left a b), Rat.num_divInt]
  have eg : (b.gcd a : Int) = ((Nat.gcd a.natAbs b.natAbs : Nat) : Int) := by
    rw [Int.gcd, Nat.gcd_comm]
  rw [eg]
  unfold com
  by_cases q : b < 0
  · rw [if_pos q, Int.sign_eq_neg_one_of_neg q, Int.ediv_neg, Int.neg_mul, Int.one_mul]
    rw [Int.neg_ediv_of_dvd]
    exact Int.natAbs_dvd_natAbs.mp (by simpa using Nat.gcd_dvd_left a.natAbs b.natAbs)
  · rw [if_neg q, Int.sign_eq_one_of_pos (by omega), Int.one_mul]
theorem low_den {a b : Int} (h : b ≠ 0) : b.fdiv (com a b) = ((Rat.divInt a b).den : Int) := by
  rw [fdiv_of_dvd (com_dvd_right a b), Rat.den_divInt, if_neg h]
  have eg : b.gcd a = Nat.gcd a.natAbs b.natAbs := by rw [Int.gcd, Nat.gcd_comm]
  rw [eg, Int.natCast_ediv]
  unfold com
  by_cases q : b < 0
  · rw [if_pos q, Int.ediv_neg, ← Int.neg_ediv_of_dvd]
    · congr 1
      omega
    · exact Int.natAbs_dvd_natAbs.mp (by simpa using Nat.gcd_dvd_right a.natAbs b.natAbs)
  · rw [if_neg q]
    congr 1
    omega
theorem low_num_le (a b : Int) : (Rat.divInt a b).num.natAbs ≤ a.natAbs := by
  by_cases h : b = 0
  · subst h
    simp
  · rw [← low_num h, fdiv_of_dvd (com_dvd_left a b)]
    exact Int.natAbs_ediv_le_natAbs _ _
theorem low_den_le {a b : Int} (h : b ≠ 0) : (Rat.divInt a b).den ≤ b.natAbs := by
  rw [Rat.den_divInt, if_neg h]
  exact Nat.div_le_self _ _
theorem low_den_dvd {a b : Int} (h : b ≠ 0) : (Rat.divInt a b).den ∣ b.natAbs := by
  rw [Rat.den_divInt, if_neg h]
  exact Nat.div_dvd_of_dvd (by rw [Int.gcd]; exact Nat.gcd_dvd_left _ _)
theorem Sz.low {a b : Int} {n : Nat} (h : b ≠ 0) (ha : a.natAbs < 2 ^ n) (hb : b.natAbs < 2 ^ n) : Sz n (Rat.divInt a b) :=
  ⟨Nat.lt_of_le_of_lt (low_num_le a b) ha, Nat.lt_of_le_of_lt (low_den_le h) hb⟩
theorem Sz.mono {n m : Nat} {q : Rat} (h : Sz n q) (nm : n ≤ m) : Sz m q :=
  ⟨Nat.lt_of_lt_of_le h.1 (Nat.pow_le_pow_right (by decide) nm), Nat.lt_of_lt_of_le h.2 (Nat.pow_le_pow_right (by decide) nm)⟩
theorem nmul_lt {a b n m : Nat} (ha : a < 2 ^ n) (hb : b < 2 ^ m) : a * b < 2 ^ (n + m) := by
  rw [Nat.pow_add]
  exact Nat.mul_lt_mul'' ha hb
theorem imul_lt {a b : Int} {n m : Nat} (ha : a.natAbs < 2 ^ n) (hb : b.natAbs < 2 ^ m) : (a * b).natAbs < 2 ^ (n + m) := by
  rw [Int.natAbs_mul]
  exact nmul_lt ha hb
theorem lt_mono {a n m : Nat} (h : a < 2 ^ n) (nm : n ≤ m) : a < 2 ^ m := Nat.lt_of_lt_of_le h (Nat.pow_le_pow_right (by decide) nm)
theorem iadd_lt {a b : Int} {n : Nat} (ha : a.natAbs < 2 ^ n) (hb : b.natAbs < 2 ^ n) : (a + b).natAbs < 2 ^ (n + 1) := by
  have e : 2 ^ (n + 1) = 2 ^ n * 2 := Nat.pow_succ _ _
  omega
theorem isub_lt {a b : Int} {n : Nat} (ha : a.natAbs < 2 ^ n) (hb : b.natAbs < 2 ^ n) : (a - b).natAbs < 2 ^ (n + 1) := by
  have e : 2 ^ (n + 1) = 2 ^ n * 2 := Nat.pow_succ _ _
  omega
theorem den_ne (q : Rat) : ((q.den : Nat) : Int) ≠ 0 := by
  have := q.den_pos
  omega
theorem den_nat (q : Rat) : ((q.den : Nat) : Int).natAbs = q.den := by omega
/-! the operations -/
theorem self_divInt (q : Rat) : Rat.divInt q.num q.den = q := Rat.num_divInt_den q
theorem plus_eq (q r : Rat) : Rat.divInt (q.num * r.den + r.num * q.den) (q.den * r.den) = q + r := by
  rw [Rat.add_def', ← Int.natCast_mul, Rat.divInt_ofNat]
theorem minus_eq (q r : Rat) : Rat.divInt (q.num * r.den - r.num * q.den) (q.den * r.den) = q - r := by
  rw [Rat.sub_def', ← Int.natCast_mul, Rat.divInt_ofNat]
theorem times_eq (q r : Rat) : Rat.divInt (q.num * r.num) (q.den * r.den) = q * r := by
  rw [Rat.mul_def', ← Int.natCast_mul, Rat.divInt_ofNat]
theorem over_eq (q r : Rat) : Rat.divInt (q.num * r.den) (q.den * r.num) = q / r := by
  rw [Rat.div_def, Rat.inv_def]
  conv => rhs; rw [← self_divInt q]
  rw [Rat.divInt_mul_divInt]
theorem dd_ne (q r : Rat) : ((q.den : Nat) : Int) * ((r.den : Nat) : Int) ≠ 0 := Int.mul_ne_zero (den_ne q) (den_ne r)
theorem Sz.neg {n : Nat} {q : Rat} (h : Sz n q) : Sz n (-q) := ⟨by rw [Rat.neg_num, Int.natAbs_neg]; exact h.1, h.2⟩
theorem Sz.plus {n m : Nat} {q r : Rat} (h : Sz n q) (k : Sz m r) : Sz (n + m + 1) (q + r) := by
  rw [← plus_eq]
  refine Sz.low (dd_ne q r) (iadd_lt (imul_lt h.1 (by rw [den_nat]; exact k.2)) ?_) ?_
  · rw [Nat.add_comm n m]
    exact imul_lt k.1 (by rw [den_nat]; exact h.2)
  · refine lt_mono (imul_lt (by rw [den_nat]; exact h.2) (by rw [den_nat]; exact k.2)) (by omega)
theorem Sz.minus {n m : Nat} {q r : Rat} (h : Sz n q) (k : Sz m r) : Sz (n + m + 1) (q - r) := by
  rw [Rat.sub_eq_add_neg]
  exact h.plus k.neg
theorem Sz.times {n m : Nat} {q r : Rat} (h : Sz n q) (k : Sz m r) : Sz (n + m) (q * r) := by
  rw [← times_eq]
  exact Sz.low (dd_ne q r) (imul_lt h.1 k.1) (imul_lt (by rw [den_nat]; exact h.2) (by rw [den_nat]; exact k.2))
theorem Sz.over {n m : Nat} {q r : Rat} (h : Sz n q) (k : Sz m r) (r0 : r ≠ 0) : Sz (n + m) (q / r) := by
  rw [← over_eq]
  refine Sz.low (Int.mul_ne_zero (den_ne q) fun z => r0 (Rat.num_eq_zero.mp z)) (imul_lt h.1 (by rw [den_nat]; exact k.2)) ?_
  exact imul_lt (by rw [den_nat]; exact h.2) k.1
theorem Sz.int {n : Nat} {i : Int} (h : i.natAbs < 2 ^ n) (n0 : 0 < n) : Sz n (i : Rat) := ⟨h, by
  show 1 < 2 ^ n
  exact Nat.one_lt_two_pow (by omega)⟩
/-- the comparison's number -/
def cmp (q r : Rat) : Int := if q < r then -1 else if r < q then 1 else 0
theorem cmp_lt (q r : Rat) : cmp q r < 0 ↔ q < r := by
  unfold cmp
  by_cases h : q < r
  · simp [h]
  · simp only [h, if_false, iff_false]
    split <;> omega
theorem cmp_gt (q r : Rat) : 0 < cmp q r ↔ r < q := by
  unfold cmp
  by_cases h : q < r
  · have : ¬ r < q := fun z => Rat.lt_irrefl (Std.lt_trans h z)
    simp [h, this]
  · by_cases k : r < q
    · simp [h, k]
    · simp [h, k]
/-! sums over beginnings -/
def Wf : List Int → Nat → Rat
  | w :: ws, k + 1 => (w : Rat) + Wf ws k
  | _, _ => 0
def Mf : List Int → List Rat → Nat → Rat
  | w :: ws, q :: qs, k + 1 => (w : Rat) * q + Mf ws qs k
  | _, _, _ => 0
theorem Wf_zero (ws : List Int) : Wf ws 0 = 0 := by cases ws <;> rfl
theorem Mf_zero (ws : List Int) (qs : List Rat) : Mf ws qs 0 = 0 := by cases ws <;> cases qs <;> rfl
theorem Wf_succ : ∀ {ws : List Int} {k : Nat} {w : Int}, ws[k]? = some w → Wf ws (k + 1) = Wf ws k + w
  | [], _, _, h => by simp at h
  | w :: ws, 0, v, h => by
    simp at h
    subst h
    rw [Wf, Wf_zero, Wf_zero, Rat.add_zero, Rat.zero_add]
  | w :: ws, k + 1, v, h => by
    rw [Wf, Wf_succ (ws := ws) (k := k) (w := v) (by simpa using h), Wf]
    grind
theorem Mf_succ : ∀ {ws : List Int} {qs : List Rat} {k : Nat} {w : Int} {q : Rat}, ws[k]? = some w → qs[k]? = some q → Mf ws qs (k + 1) = Mf ws qs k + w * q
  | [], _, _, _, _, h, _ => by simp at h
  | _ :: _, [], _, _, _, _, h => by simp at h
  | w :: ws, q :: qs, 0, v, r, h, h2 => by
    simp at h h2
    subst h
    subst h2
    rw [Mf, Mf_zero, Mf_zero, Rat.add_zero, Rat.zero_add]
  | w :: ws, q :: qs, k + 1, v, r, h, h2 => by
    rw [Mf, Mf_succ (ws := ws) (qs := qs) (k := k) (w := v) (q := r) (by simpa using h) (by simpa using h2), Mf]
    grind
def Pos9 (ws : List Int) : Prop := ∀ w, w ∈ ws → 1 ≤ w ∧ w ≤ 9
theorem Pos9.rise {ws : List Int} (h : Pos9 ws) : Rise (Wf ws) ws.length := by
  have one : ∀ i, i < ws.length → Wf ws i < Wf ws (i + 1) := fun i hi => by
    rw [Wf_succ (List.getElem?_eq_getElem hi)]
    have := (h _ (List.getElem_mem hi)).1
    have h2 : (1 : Rat) ≤ (ws[i] : Int) := by
      have := Rat.intCast_le_intCast.mpr this
      simpa using this
    grind
  intro i j ij jn
  induction j with
  | zero => omega
  | succ j ih =>
    by_cases e : i = j
    · subst e
      exact one i (by omega)
    · exact Std.lt_trans (ih (by omega) (by omega)) (one j (by omega))
/-! the sums that stand in the program: whole numbers, heavy and pushed, the latter times a scale -/
structure Sm (ws : List Int) (qs : List Rat) (S : Int) (hs ps : List Int) : Prop where
  s0 : 0 < S
  hl : hs.length = ws.length + 1
  pl : ps.length = ws.length + 1
  hh : ∀ k, k ≤ ws.length → ∃ z, hs[k]? = some z ∧ (z : Rat) = Wf ws k
  pp : ∀ k, k ≤ ws.length → ∃ z, ps[k]? = some z ∧ (z : Rat) = S * Mf ws qs k
theorem sm_faster {ws : List Int} {qs : List Rat} {S : Int} {f m l : Nat} {hf hm hl pf pm pl : Int} (s0 : 0 < S) (ef : (hf : Rat) = Wf ws f) (em : (hm : Rat) = Wf ws m) (el : (hl : Rat) = Wf ws l)
    (qf : (pf : Rat) = S * Mf ws qs f) (qm : (pm : Rat) = S * Mf ws qs m) (ql : (pl : Rat) = S * Mf ws qs l) : ((pl - pm) * (hm - hf) < (pm - pf) * (hl - hm)) ↔ F (Wf ws) (Mf ws qs) f m l := by
  have s1 : (0 : Rat) < S := Rat.intCast_pos.mpr s0
  rw [← Rat.intCast_lt_intCast]
  rw [Rat.intCast_mul, Rat.intCast_mul, Rat.intCast_sub, Rat.intCast_sub, Rat.intCast_sub, Rat.intCast_sub, ef, em, el, qf, qm, ql]
  unfold F
  have e1 : (S * Mf ws qs l - S * Mf ws qs m) * (Wf ws m - Wf ws f) = S * ((Mf ws qs l - Mf ws qs m) * (Wf ws m - Wf ws f)) := by grind
  have e2 : (S * Mf ws qs m - S * Mf ws qs f) * (Wf ws l - Wf ws m) = S * ((Mf ws qs m - Mf ws qs f) * (Wf ws l - Wf ws m)) := by grind
  rw [e1, e2, Rat.mul_lt_mul_left s1]
theorem sm_total {ws : List Int} {qs : List Rat} {S : Int} {f l : Nat} {pf pl : Int} (s0 : 0 < S)
    (qf : (pf : Rat) = S * Mf ws qs f) (ql : (pl : Rat) = S * Mf ws qs l) : Rat.divInt (pl - pf) S = Mf ws qs l - Mf ws qs f := by
  have s1 : (0 : Rat) < S := Rat.intCast_pos.mpr s0
  rw [Rat.divInt_eq_div, Rat.intCast_sub, qf, ql]
  have : (S * Mf ws qs l - S * Mf ws qs f : Rat) = (Mf ws qs l - Mf ws qs f) * S := by grind
  rw [this, Rat.mul_div_cancel (by grind)]
theorem sm_mean {ws : List Int} {qs : List Rat} {S : Int} {f l : Nat} {hf hl pf pl : Int} (s0 : 0 < S) (ef : (hf : Rat) = Wf ws f) (el : (hl : Rat) = Wf ws l)
    (qf : (pf : Rat) = S * Mf ws qs f) (ql : (pl : Rat) = S * Mf ws qs l) (h : hf < hl) : Rat.divInt (pl - pf) (S * (hl - hf)) = mean (Wf ws) (Mf ws qs) f l := by
  have s1 : (0 : Rat) < S := Rat.intCast_pos.mpr s0
  have h2 : (0 : Rat) < Wf ws l - Wf ws f := by
    have := Rat.intCast_lt_intCast.mpr h
    rw [ef, el] at this
    grind
  rw [Rat.divInt_eq_div, Rat.intCast_mul, Rat.intCast_sub, Rat.intCast_sub, qf, ql, ef, el]
  unfold mean
  have hp := Rat.mul_pos s1 h2
  have e1 : (S * Mf ws qs l - S * Mf ws qs f : Rat) = ((Mf ws qs l - Mf ws qs f) / (Wf ws l - Wf ws f)) * (S * (Wf ws l - Wf ws f)) := by
    have := Rat.div_mul_cancel (a := Mf ws qs l - Mf ws qs f) (b := Wf ws l - Wf ws f) (by grind)
    grind
  rw [e1, Rat.mul_div_cancel (by grind)]
/-- a turn of the loop that makes pushed -/
theorem sm_push {S z w : Int} {q M : Rat} (hd : q.den ∣ S.natAbs) (s0 : 0 < S) (hz : (z : Rat) = S * M) : ((z + w * q.num * S.fdiv q.den : Int) : Rat) = S * (M + w * q) := by
  obtain ⟨t, ht⟩ := hd
  have eS : S = (q.den : Int) * t := by
    have : S = ((S.natAbs : Nat) : Int) := by omega
    rw [this, ht, Int.natCast_mul]
  have ef : S.fdiv q.den = t := by
    rw [eS, Int.mul_comm, Int.mul_fdiv_cancel _ (den_ne q)]
  rw [ef, Rat.intCast_add, Rat.intCast_mul, Rat.intCast_mul, hz]
  have eq : (q.num : Rat) = q * q.den := by
    have h0 : (q.den : Rat) ≠ 0 := by
      have := q.den_pos
      intro z
      have := Rat.natCast_eq_zero_iff.mp z
      omega
    have h1 : q = q.num / (q.den : Rat) := by
      rw [← Rat.intCast_natCast, ← Rat.divInt_eq_div, self_divInt]
    have h2 := Rat.div_mul_cancel (a := (q.num : Rat)) h0
    rw [← h1] at h2
    exact h2.symm
  have e3 : (S : Rat) = q.den * t := by
    rw [eS, Rat.intCast_mul, Rat.intCast_natCast, Rat.intCast_natCast]
  rw [eq, e3, Rat.intCast_natCast]
  grind
end G
end
section
set_option linter.all false
namespace G
theorem lowp_num {a b : Int} (h : 0 < b) : a / ((Nat.gcd a.natAbs b.natAbs : Nat) : Int) = (Rat.divInt a b).num := by
  have e := low_num (a := a) (b := b) (by omega)
  rw [fdiv_of_dvd (com_dvd_left a b)] at e
  unfold com at e
  rw [if_neg (by omega)] at e
  exact e
theorem lowp_den {a b : Int} (h : 0 < b) : b / ((Nat.gcd a.natAbs b.natAbs : Nat) : Int) = ((Rat.divInt a b).den : Int) := by
  have e := low_den (a := a) (b := b) (by omega)
  rw [fdiv_of_dvd (com_dvd_right a b)] at e
  unfold com at e
  rw [if_neg (by omega)] at e
  exact e
theorem gcd_pos {a b : Int} (h : 0 < b) : (0 : Int) < ((Nat.gcd a.natAbs b.natAbs : Nat) : Int) := by
  have : 0 < Nat.gcd a.natAbs b.natAbs := Nat.gcd_pos_of_pos_right _ (by omega)
  omega
theorem gcd_lt {a b : Int} {n : Nat} (h : 0 < b) (k : b.natAbs < 2 ^ n) : (((Nat.gcd a.natAbs b.natAbs : Nat) : Int)).natAbs < 2 ^ n := by
  have := Nat.gcd_le_right (m := a.natAbs) (n := b.natAbs) (by omega)
  omega
theorem cmp_cases (q r : Rat) : (q.num * r.den < r.num * q.den ∧ cmp q r = -1) ∨ (¬ q.num * r.den < r.num * q.den ∧ r.num * q.den < q.num * r.den ∧ cmp q r = 1) ∨ (¬ q.num * r.den < r.num * q.den ∧ ¬ r.num * q.den < q.num * r.den ∧ cmp q r = 0) := by
  unfold cmp
  by_cases h : q < r
  · left
    exact ⟨(Rat.lt_iff q r).mp h, if_pos h⟩
  · by_cases k : r < q
    · right; left
      exact ⟨fun z => h ((Rat.lt_iff q r).mpr z), (Rat.lt_iff r q).mp k, by rw [if_neg h, if_pos k]⟩
    · right; right
      exact ⟨fun z => h ((Rat.lt_iff q r).mpr z), fun z => k ((Rat.lt_iff r q).mpr z), by rw [if_neg h, if_neg k]⟩
end G
end
section
set_option linter.all false
/-! The sums as they grow; the scale. -/
namespace G
/-- heavy and pushed behind i balls -/
structure SmI (ws : List Int) (qs : List Rat) (S : Int) (T D i : Nat) (hs ps : List Int) : Prop where
  hl : hs.length = i + 1
  pl : ps.length = i + 1
  hh : ∀ k, k ≤ i → ∃ z, hs[k]? = some z ∧ (z : Rat) = Wf ws k ∧ 0 ≤ z ∧ z ≤ 9 * k
  pp : ∀ k, k ≤ i → ∃ z, ps[k]? = some z ∧ (z : Rat) = S * Mf ws qs k ∧ z.natAbs ≤ 9 * T * D * k
theorem SmI.start (ws : List Int) (qs : List Rat) (S : Int) (T D : Nat) : SmI ws qs S T D 0 [0] [0] := by
  refine ⟨rfl, rfl, fun k hk => ?_, fun k hk => ?_⟩
  · have : k = 0 := by omega
    subst this
    exact ⟨0, rfl, by rw [Wf_zero]; rfl, by omega, by omega⟩
  · have : k = 0 := by omega
    subst this
    exact ⟨0, rfl, by rw [Mf_zero, Rat.mul_zero]; rfl, by omega⟩
theorem SmI.last {ws : List Int} {qs : List Rat} {S : Int} {T D i : Nat} {hs ps : List Int} (h : SmI ws qs S T D i hs ps) :
    ∃ (hs0 : List Int) (zh : Int) (ps0 : List Int) (zp : Int), hs = hs0 ++ [zh] ∧ ps = ps0 ++ [zp] ∧ (zh : Rat) = Wf ws i ∧ (zp : Rat) = S * Mf ws qs i ∧ 0 ≤ zh ∧ zh ≤ 9 * i ∧ zp.natAbs ≤ 9 * T * D * i := by
  obtain ⟨z, e1, e2, e3, e4⟩ := h.hh i (Nat.le_refl _)
  obtain ⟨y, f1, f2, f3⟩ := h.pp i (Nat.le_refl _)
  have hne : hs ≠ [] := fun q => by rw [q] at e1; simp at e1
  have pne : ps ≠ [] := fun q => by rw [q] at f1; simp at f1
  have l1 : hs.getLast hne = z := by
    rw [List.getLast_eq_getElem]
    have := (List.getElem?_eq_some_iff.mp e1).2
    simp only [h.hl, Nat.add_sub_cancel]
    exact this
  have l2 : ps.getLast pne = y := by
    rw [List.getLast_eq_getElem]
    have := (List.getElem?_eq_some_iff.mp f1).2
    simp only [h.pl, Nat.add_sub_cancel]
    exact this
  refine ⟨hs.dropLast, z, ps.dropLast, y, ?_, ?_, e2, f2, e3, e4, f3⟩
  · rw [← l1]; exact (List.dropLast_concat_getLast hne).symm
  · rw [← l2]; exact (List.dropLast_concat_getLast pne).symm
theorem fd_le {S : Int} {D d : Nat} (s0 : 0 < S) (sd : S.natAbs ∣ D) (d0 : 0 < D) : (S / (d : Int)).natAbs ≤ D := by
  have h1 : S.natAbs ≤ D := Nat.le_of_dvd d0 sd
  exact Nat.le_trans (Int.natAbs_ediv_le_natAbs _ _) h1
theorem push_le {w S : Int} {q : Rat} {T D : Nat} (w1 : 1 ≤ w) (w9 : w ≤ 9) (hq : q.num.natAbs ≤ T) (s0 : 0 < S) (sd : S.natAbs ∣ D) (d0 : 0 < D) : (w * q.num * (S / (q.den : Int))).natAbs ≤ 9 * T * D := by
  rw [Int.natAbs_mul, Int.natAbs_mul]
  exact Nat.mul_le_mul (Nat.mul_le_mul (by omega) hq) (fd_le s0 sd d0)
theorem SmI.step {ws : List Int} {qs : List Rat} {S : Int} {T D i : Nat} {hs ps : List Int} {w : Int} {q : Rat} {hs0 ps0 : List Int} {zh zp : Int} (h : SmI ws qs S T D i hs ps) (eh : hs = hs0 ++ [zh]) (ep : ps = ps0 ++ [zp])
    (e2 : (zh : Rat) = Wf ws i) (f2 : (zp : Rat) = S * Mf ws qs i) (e3 : 0 ≤ zh) (e4 : zh ≤ 9 * i) (f3 : zp.natAbs ≤ 9 * T * D * i)
    (ew : ws[i]? = some w) (eq : qs[i]? = some q) (w1 : 1 ≤ w) (w9 : w ≤ 9) (hq : q.num.natAbs ≤ T) (hd : q.den ∣ S.natAbs) (s0 : 0 < S) (sd : S.natAbs ∣ D) (d0 : 0 < D) :
    SmI ws qs S T D (i + 1) (hs ++ [zh + w]) (ps ++ [zp + w * q.num * (S / (q.den : Int))]) := by
  refine ⟨by rw [List.length_append, h.hl]; rfl, by rw [List.length_append, h.pl]; rfl, fun k hk => ?_, fun k hk => ?_⟩
  · by_cases e : k = i + 1
    · subst e
      refine ⟨zh + w, ?_, ?_, by omega, by omega⟩
      · rw [List.getElem?_append, if_neg (by rw [h.hl]; omega), h.hl, Nat.sub_self]
        rfl
      · rw [Wf_succ ew, Rat.intCast_add, e2]
    · obtain ⟨z, a, r⟩ := h.hh k (by omega)
      exact ⟨z, by rw [List.getElem?_append, if_pos (by rw [h.hl]; omega)]; exact a, r⟩
  · by_cases e : k = i + 1
    · subst e
      refine ⟨zp + w * q.num * (S / (q.den : Int)), ?_, ?_, ?_⟩
      · rw [List.getElem?_append, if_neg (by rw [h.pl]; omega), h.pl, Nat.sub_self]
        rfl
      · rw [Mf_succ ew eq]
        have := sm_push (w := w) hd s0 f2
        rw [Int.fdiv_eq_ediv_of_nonneg _ (by omega)] at this
        exact this
      · have p := push_le w1 w9 hq s0 sd d0
        have e5 : 9 * T * D * (i + 1) = 9 * T * D * i + 9 * T * D := Nat.mul_succ _ _
        omega
    · obtain ⟨z, a, r⟩ := h.pp k (by omega)
      exact ⟨z, by rw [List.getElem?_append, if_pos (by rw [h.pl]; omega)]; exact a, r⟩
/-- what the sums hold, with their sizes -/
structure SmN (ws : List Int) (qs : List Rat) (N : Nat) (S : Int) (hs ps : List Int) : Prop where
  s0 : 0 < S
  sN : S.natAbs < 2 ^ N
  hl : hs.length = ws.length + 1
  pl : ps.length = ws.length + 1
  hh : ∀ k, k ≤ ws.length → ∃ z, hs[k]? = some z ∧ (z : Rat) = Wf ws k ∧ 0 ≤ z ∧ z ≤ 360
  pp : ∀ k, k ≤ ws.length → ∃ z, ps[k]? = some z ∧ (z : Rat) = S * Mf ws qs k ∧ z.natAbs < 2 ^ N
theorem SmI.fin {ws : List Int} {qs : List Rat} {S : Int} {T D N : Nat} {hs ps : List Int} (h : SmI ws qs S T D ws.length hs ps) (s0 : 0 < S) (sd : S.natAbs ∣ D) (d0 : 0 < D) (l40 : ws.length ≤ 40) (hN : 360 * T * D < 2 ^ N) (hD : D < 2 ^ N) : SmN ws qs N S hs ps := by
  refine ⟨s0, Nat.lt_of_le_of_lt (Nat.le_of_dvd d0 sd) hD, h.hl, h.pl, fun k hk => ?_, fun k hk => ?_⟩
  · obtain ⟨z, a, b, c, d⟩ := h.hh k hk
    exact ⟨z, a, b, c, by omega⟩
  · obtain ⟨z, a, b, c⟩ := h.pp k hk
    refine ⟨z, a, b, Nat.lt_of_le_of_lt c (Nat.lt_of_le_of_lt ?_ hN)⟩
    have : 9 * T * D * k ≤ 9 * T * D * 40 := Nat.mul_le_mul_left _ (by omega)
    have e : 9 * T * D * 40 = 360 * T * D := by
      rw [Nat.mul_comm (9 * T * D) 40, ← Nat.mul_assoc, ← Nat.mul_assoc]
    omega
theorem lcm_pos' {a b : Nat} (h : 0 < a) (k : 0 < b) : 0 < Nat.lcm a b := Nat.lcm_pos h k
/-- the speeds' bottoms divide D, their tops are at most T -/
def Fit (T D : Nat) (qs : List Rat) : Prop := ∀ q, q ∈ qs → q.num.natAbs ≤ T ∧ q.den ∣ D
end G
end
section
set_option linter.all false
/-! The stack of beginnings as a list; its lots. -/
namespace G
section
variable {W M : Nat → Rat}
theorem Ok.len : ∀ {L : List Nat} {e : Nat}, Ok W M L e → L.length ≤ e
  | [], _, _ => Nat.zero_le _
  | b :: r, e, o => by
    have := Ok.len o.2.2.1
    have := o.1
    show r.length + 1 ≤ e
    omega
theorem OkW.len {L : List Nat} {e : Nat} (o : OkW W M L e) : L.length ≤ e := by
  cases L with
  | nil => exact o.elim
  | cons b r =>
    have := Ok.len o.2.2
    have := o.1
    show r.length + 1 ≤ e
    omega
theorem Ok.lt : ∀ {L : List Nat} {e : Nat}, Ok W M L e → ∀ k, k ∈ L → k < e
  | [], _, _, k, h => by cases h
  | b :: r, e, o, k, h => by
    have := o.1
    rcases List.mem_cons.mp h with rfl | h
    · exact this
    · have := Ok.lt o.2.2.1 k h
      omega
theorem Ok.rev_pos : ∀ {L : List Nat} {e : Nat}, Ok W M L e → ∀ (i c : Nat), L.reverse[i + 1]? = some c → 0 < c
  | [], _, _, i, c, h => by simp at h
  | b :: r, e, o, i, c, h => by
    rw [List.reverse_cons, List.getElem?_append] at h
    by_cases q : i + 1 < r.reverse.length
    · rw [if_pos q] at h
      exact Ok.rev_pos o.2.2.1 i c h
    · rw [if_neg q] at h
      rw [List.length_reverse] at q h
      cases r with
      | nil => simp at h
      | cons a r' =>
        have ab : a < b := o.2.2.1.1
        cases e2 : i + 1 - (a :: r').length with
        | zero =>
          rw [e2] at h
          have : b = c := Option.some.inj h
          omega
        | succ k =>
          rw [e2] at h
          simp at h
theorem lotsR_in : ∀ {L : List Nat} {e n : Nat}, Ok W M L e → e ≤ n → ∀ p, p ∈ lotsR L e → p.1 ≤ p.2 ∧ p.2 < n
  | [], _, _, _, _, p, h => by cases h
  | b :: r, e, n, o, en, p, h => by
    have be := o.1
    rcases List.mem_append.mp (show p ∈ lotsR r b ++ [(b, e - 1)] from h) with h | h
    · exact lotsR_in o.2.2.1 (by omega) p h
    · have : p = (b, e - 1) := by simpa using h
      subst this
      exact ⟨by show b ≤ e - 1; omega, by show e - 1 < n; omega⟩
end
end G
end
section
set_option linter.all false
/-! One ball's speed changed; rows seen from behind. -/
namespace G
theorem Wf_ge : ∀ (ws : List Int) (k : Nat), ws.length ≤ k → Wf ws k = Wf ws ws.length
  | [], k, _ => by cases k <;> rfl
  | w :: ws, 0, h => by simp at h
  | w :: ws, k + 1, h => by
    have h' : ws.length ≤ k := Nat.le_of_succ_le_succ h
    show (w : Rat) + Wf ws k = (w : Rat) + Wf ws ws.length
    rw [Wf_ge ws k h']
theorem Mf_set : ∀ (ws : List Int) (qs : List Rat) (b x : Nat) (w : Int) (u : Rat), ws[b]? = some w → b < qs.length → Mf ws (qs.set b u) x = Mf ws (qs.set b 0) x + (if b < x then (w : Rat) * u else 0)
  | [], _, _, _, _, _, h, _ => by simp at h
  | v :: ws, [], _, _, _, _, _, h => by simp at h
  | v :: ws, q :: qs, 0, 0, w, u, h, _ => by
    rw [Mf_zero, Mf_zero, if_neg (Nat.lt_irrefl 0), Rat.add_zero]
  | v :: ws, q :: qs, 0, x + 1, w, u, h, _ => by
    have e : v = w := by simpa using h
    subst e
    rw [if_pos (Nat.succ_pos x)]
    show (v : Rat) * u + Mf ws qs x = (v : Rat) * 0 + Mf ws qs x + (v : Rat) * u
    grind
  | v :: ws, q :: qs, b + 1, 0, w, u, h, _ => by
    rw [Mf_zero, Mf_zero, if_neg (by omega), Rat.add_zero]
  | v :: ws, q :: qs, b + 1, x + 1, w, u, h, hb => by
    have ih := Mf_set ws qs b x w u (by simpa using h) (by simpa using hb)
    show (v : Rat) * q + Mf ws (qs.set b u) x = (v : Rat) * q + Mf ws (qs.set b 0) x + (if b + 1 < x + 1 then (w : Rat) * u else 0)
    rw [ih]
    by_cases c : b < x
    · rw [if_pos c, if_pos (by omega)]
      grind
    · rw [if_neg c, if_neg (by omega)]
      grind
theorem Mf_Mu {ws : List Int} {qs : List Rat} {b : Nat} {w : Int} (h : ws[b]? = some w) (hb : b < qs.length) (u : Rat) : Mf ws (qs.set b u) = Mu (Mf ws (qs.set b 0)) b ((w : Rat) * u) := by
  funext x
  rw [Mf_set ws qs b x w u h hb]
  rfl
/-- the bounds of the ball b, pair by pair -/
def Bds (ws : List Int) (qs : List Rat) (b : Nat) (os : List (Option Rat)) : Prop := os.length + 1 = ws.length ∧ ∀ (k : Nat) (o : Option Rat), os[k]? = some o → Bd (fun u => Parted (Wf ws) (Mf ws (qs.set b u)) ws.length k) (b ≤ k) o
theorem Bds.eq {ws : List Int} {qs : List Rat} {b : Nat} {x y : List (Option Rat)} (h1 : Bds ws qs b x) (h2 : Bds ws qs b y) : x = y := by
  refine List.ext_getElem? fun k => ?_
  cases e : x[k]? with
  | none =>
    have := List.getElem?_eq_none_iff.mp e
    exact (List.getElem?_eq_none_iff.mpr (by have := h1.1; have := h2.1; omega)).symm
  | some o =>
    have hk := (List.getElem?_eq_some_iff.mp e).1
    have hk2 : k < y.length := by have := h1.1; have := h2.1; omega
    rw [List.getElem?_eq_getElem hk2]
    exact congrArg some (Bd.eq (h1.2 k o e) (h2.2 k _ (List.getElem?_eq_getElem hk2)))
/-- the ball's own speed is of no influence -/
theorem Bds.own {ws : List Int} {qs : List Rat} {b : Nat} {os : List (Option Rat)} (v : Rat) (h : Bds ws (qs.set b v) b os) : Bds ws qs b os := by
  refine ⟨h.1, fun k o e => ?_⟩
  have := h.2 k o e
  simp only [List.set_set] at this
  exact this
/-! from behind -/
theorem Wf_split {ws : List Int} : ∀ (i : Nat), i ≤ ws.length → Wf ws ws.length = Wf ws i + Wf (ws.drop i) (ws.length - i) := by
  intro i
  induction i with
  | zero =>
    intro _
    rw [Wf_zero, Rat.zero_add]
    rfl
  | succ i ih =>
    intro h
    rw [ih (by omega), Wf_succ (List.getElem?_eq_getElem (show i < ws.length by omega))]
    have e : ws.drop i = ws[i]'(by omega) :: ws.drop (i + 1) := List.drop_eq_getElem_cons (by omega)
    rw [e, show ws.length - i = (ws.length - (i + 1)) + 1 by omega, Wf]
    grind
theorem Wf_app : ∀ (xs ys : List Int) (k : Nat), Wf (xs ++ ys) (xs.length + k) = Wf xs xs.length + Wf ys k
  | [], ys, k => by
    rw [List.nil_append, show ([] : List Int).length = 0 from rfl, Nat.zero_add, Wf_zero, Rat.zero_add]
  | x :: xs, ys, k => by
    show Wf (x :: (xs ++ ys)) ((xs.length + 1) + k) = Wf (x :: xs) (xs.length + 1) + Wf ys k
    rw [show xs.length + 1 + k = (xs.length + k) + 1 by omega, Wf, Wf, Wf_app xs ys k]
    grind
theorem Wf_app_le : ∀ (xs ys : List Int) (k : Nat), k ≤ xs.length → Wf (xs ++ ys) k = Wf xs k
  | _, _, 0, _ => by rw [Wf_zero, Wf_zero]
  | [], ys, k + 1, h => by simp at h
  | x :: xs, ys, k + 1, h => by
    show Wf (x :: (xs ++ ys)) (k + 1) = Wf (x :: xs) (k + 1)
    rw [Wf, Wf, Wf_app_le xs ys k (by simpa using h)]
theorem Wf_rev : ∀ (ws : List Int) (k : Nat), k ≤ ws.length → Wf ws.reverse k = Wf ws ws.length - Wf ws (ws.length - k)
  | [], k, h => by
    have : k = 0 := by simpa using h
    subst this
    rw [Wf_zero, show ([] : List Int).length = 0 from rfl, Wf_zero]
    grind
  | w :: ws, k, h => by
    rw [List.reverse_cons]
    by_cases c : k ≤ ws.length
    · rw [Wf_app_le _ _ _ (by rw [List.length_reverse]; exact c), Wf_rev ws k c]
      show Wf ws ws.length - Wf ws (ws.length - k) = Wf (w :: ws) (ws.length + 1) - Wf (w :: ws) (ws.length + 1 - k)
      rw [show ws.length + 1 - k = (ws.length - k) + 1 by omega, Wf, Wf]
      grind
    · have e : k = ws.reverse.length + 1 := by
        have : k ≤ ws.length + 1 := h
        rw [List.length_reverse]
        omega
      rw [e, Wf_app, List.length_reverse]
      show Wf ws.reverse ws.length + ((w : Rat) + Wf [] 0) = Wf (w :: ws) (ws.length + 1) - Wf (w :: ws) (ws.length + 1 - (ws.length + 1))
      rw [Wf_rev ws ws.length (Nat.le_refl _), Nat.sub_self, Nat.sub_self, Wf_zero, Wf_zero, Wf_zero, Wf]
      grind
theorem Mf_app : ∀ (xs ys : List Int) (ps qs : List Rat) (k : Nat), xs.length = ps.length → Mf (xs ++ ys) (ps ++ qs) (xs.length + k) = Mf xs ps xs.length + Mf ys qs k
  | [], ys, [], qs, k, _ => by
    rw [List.nil_append, List.nil_append, show ([] : List Int).length = 0 from rfl, Nat.zero_add, Mf_zero, Rat.zero_add]
  | [], _, _ :: _, _, _, h => by simp at h
  | _ :: _, _, [], _, _, h => by simp at h
  | x :: xs, ys, p :: ps, qs, k, h => by
    show Mf (x :: (xs ++ ys)) (p :: (ps ++ qs)) ((xs.length + 1) + k) = Mf (x :: xs) (p :: ps) (xs.length + 1) + Mf ys qs k
    rw [show xs.length + 1 + k = (xs.length + k) + 1 by omega, Mf, Mf, Mf_app xs ys ps qs k (by simpa using h)]
    grind
theorem Mf_app_le : ∀ (xs ys : List Int) (ps qs : List Rat) (k : Nat), xs.length = ps.length → k ≤ xs.length → Mf (xs ++ ys) (ps ++ qs) k = Mf xs ps k
  | _, _, _, _, 0, _, _ => by rw [Mf_zero, Mf_zero]
  | [], _, _, _, k + 1, _, h => by simp at h
  | _ :: _, _, [], _, _, h, _ => by simp at h
  | x :: xs, ys, p :: ps, qs, k + 1, e, h => by
    show Mf (x :: (xs ++ ys)) (p :: (ps ++ qs)) (k + 1) = Mf (x :: xs) (p :: ps) (k + 1)
    rw [Mf, Mf, Mf_app_le xs ys ps qs k (by simpa using e) (by simpa using h)]
/-- each speed turned, from behind -/
def mir (qs : List Rat) : List Rat := (qs.map fun q => -q).reverse
theorem mir_len (qs : List Rat) : (mir qs).length = qs.length := by
  unfold mir
  rw [List.length_reverse, List.length_map]
theorem Mf_rev : ∀ (ws : List Int) (qs : List Rat) (k : Nat), ws.length = qs.length → k ≤ ws.length → Mf ws.reverse (mir qs) k = -(Mf ws qs ws.length - Mf ws qs (ws.length - k))
  | [], [], k, _, h => by
    have : k = 0 := by simpa using h
    subst this
    rw [Mf_zero, show ([] : List Int).length = 0 from rfl, Mf_zero]
    grind
  | [], _ :: _, _, h, _ => by simp at h
  | _ :: _, [], _, h, _ => by simp at h
  | w :: ws, q :: qs, k, e, h => by
    have e' : ws.length = qs.length := by simpa using e
    have em : mir (q :: qs) = mir qs ++ [-q] := by
      unfold mir
      rw [List.map_cons, List.reverse_cons]
    have el : ws.reverse.length = (mir qs).length := by rw [List.length_reverse, mir_len, e']
    rw [List.reverse_cons, em]
    by_cases c : k ≤ ws.length
    · rw [Mf_app_le _ _ _ _ _ el (by rw [List.length_reverse]; exact c), Mf_rev ws qs k e' c]
      show -(Mf ws qs ws.length - Mf ws qs (ws.length - k)) = -(Mf (w :: ws) (q :: qs) (ws.length + 1) - Mf (w :: ws) (q :: qs) (ws.length + 1 - k))
      rw [show ws.length + 1 - k = (ws.length - k) + 1 by omega, Mf, Mf]
      grind
    · have e2 : k = ws.reverse.length + 1 := by
        have : k ≤ ws.length + 1 := h
        rw [List.length_reverse]
        omega
      rw [e2, Mf_app _ _ _ _ _ el, List.length_reverse]
      show Mf ws.reverse (mir qs) ws.length + ((w : Rat) * (-q) + Mf [] [] 0) = -(Mf (w :: ws) (q :: qs) (ws.length + 1) - Mf (w :: ws) (q :: qs) (ws.length + 1 - (ws.length + 1)))
      rw [Mf_rev ws qs ws.length e' (Nat.le_refl _), Nat.sub_self, Nat.sub_self, Mf_zero, Mf_zero, Mf_zero, Mf]
      grind
theorem F_rev {ws : List Int} {qs : List Rat} (e : ws.length = qs.length) {f m l : Nat} (fm : f ≤ m) (ml : m ≤ l) (ln : l ≤ ws.length) :
    F (Wf ws.reverse) (Mf ws.reverse (mir qs)) f m l ↔ F (Wf ws) (Mf ws qs) (ws.length - l) (ws.length - m) (ws.length - f) := by
  unfold F
  rw [Wf_rev ws f (by omega), Wf_rev ws m (by omega), Wf_rev ws l ln, Mf_rev ws qs f e (by omega), Mf_rev ws qs m e (by omega), Mf_rev ws qs l e ln]
  constructor <;> intro q <;> grind
theorem Parted_rev {ws : List Int} {qs : List Rat} (e : ws.length = qs.length) {k : Nat} (kn : k + 1 < ws.length) :
    Parted (Wf ws.reverse) (Mf ws.reverse (mir qs)) ws.length (ws.length - 2 - k) ↔ Parted (Wf ws) (Mf ws qs) ws.length k := by
  have e1 : ws.length - 2 - k + 1 = ws.length - (k + 1) := by omega
  constructor
  · intro h f l x y z q
    refine h (ws.length - 1 - l) (ws.length - 1 - f) (by omega) (by omega) (by omega) ?_
    rw [e1, F_rev e (by omega) (by omega) (by omega)]
    rw [show ws.length - (ws.length - 1 - f + 1) = f by omega, show ws.length - (ws.length - (k + 1)) = k + 1 by omega, show ws.length - (ws.length - 1 - l) = l + 1 by omega]
    exact q
  · intro h f l x y z q
    refine h (ws.length - 1 - l) (ws.length - 1 - f) (by omega) (by omega) (by omega) ?_
    rw [e1, F_rev e (by omega) (by omega) (by omega)] at q
    rw [show ws.length - (l + 1) = ws.length - 1 - l by omega, show ws.length - (ws.length - (k + 1)) = k + 1 by omega, show ws.length - f = ws.length - 1 - f + 1 by omega] at q
    exact q
theorem mir_set (qs : List Rat) {b : Nat} (hb : b < qs.length) (u : Rat) : (mir qs).set (qs.length - 1 - b) u = mir (qs.set b (-u)) := by
  unfold mir
  rw [List.map_set, Rat.neg_neg]
  refine List.ext_getElem? fun i => ?_
  by_cases hi : i < qs.length
  · rw [List.getElem?_reverse (by rw [List.length_set, List.length_map]; exact hi), List.length_set, List.length_map]
    by_cases c : qs.length - 1 - b = i
    · rw [c, List.getElem?_set_self (by rw [List.length_reverse, List.length_map]; exact hi), show qs.length - 1 - i = b by omega, List.getElem?_set_self (by rw [List.length_map]; exact hb)]
    · rw [List.getElem?_set_ne c, List.getElem?_reverse (by rw [List.length_map]; exact hi), List.length_map, List.getElem?_set_ne (by omega)]
  · rw [List.getElem?_eq_none_iff.mpr (by rw [List.length_set, List.length_reverse, List.length_map]; omega), List.getElem?_eq_none_iff.mpr (by rw [List.length_reverse, List.length_set, List.length_map]; omega)]
/-- the bounds of the row seen from behind -/
theorem Bds.mirror {ws : List Int} {qs : List Rat} (e : ws.length = qs.length) {b : Nat} (hb : b < ws.length) {os : List (Option Rat)} (h : Bds ws qs b os) :
    Bds ws.reverse (mir qs) (ws.length - 1 - b) ((os.map fun o => o.map fun v => -v).reverse) := by
  refine ⟨by rw [List.length_reverse, List.length_map, List.length_reverse]; exact h.1, fun k o ek => ?_⟩
  have hk := (List.getElem?_eq_some_iff.mp ek).1
  rw [List.length_reverse, List.length_map] at hk
  rw [List.getElem?_reverse (by rw [List.length_map]; exact hk), List.length_map, List.getElem?_map] at ek
  have hl := h.1
  have hk2 : os.length - 1 - k < os.length := by omega
  rw [List.getElem?_eq_getElem hk2] at ek
  have eo : o = (os[os.length - 1 - k]).map fun v => -v := (Option.some.inj ek).symm
  rw [eo]
  have hB := h.2 (os.length - 1 - k) _ (List.getElem?_eq_getElem hk2)
  refine Bd.neg (P := fun u => Parted (Wf ws) (Mf ws (qs.set b u)) ws.length (os.length - 1 - k)) (ab := b ≤ os.length - 1 - k) (fun u => ?_) ?_ hB
  · rw [List.length_reverse]
    have e2 : ws.length - 1 - b = qs.length - 1 - b := by rw [e]
    rw [e2, mir_set qs (by omega)]
    have := Parted_rev (ws := ws) (qs := qs.set b (-u)) (by rw [List.length_set]; exact e) (k := os.length - 1 - k) (by omega)
    rw [show ws.length - 2 - (os.length - 1 - k) = k by omega] at this
    exact this
  · omega
end G
end
section
set_option Elab.async false
set_option linter.all false
set_option maxRecDepth 100000
set_option maxHeartbeats 1000000
/-! The text by places, the head's facts, calls of the program's own defs by their promises, values in the heap. -/
namespace G
open PySem PySem.Spec PyProof.Rows L2
def top (i : Nat) : Stmt := PySem.Challenge.pw_untoldgaps_k59_whole_bounds_of_one_speed.main.body.getD i (.Pass ⟨0, 0, 0, 0⟩)
abbrev s_is_whole : Stmt := top 9
abbrev s_is_ratio : Stmt := top 10
abbrev s_ratio_of : Stmt := top 11
abbrev s_lowest_terms : Stmt := top 12
abbrev s_plus : Stmt := top 13
abbrev s_minus : Stmt := top 14
abbrev s_times : Stmt := top 15
abbrev s_over : Stmt := top 16
abbrev s_compare : Stmt := top 17
abbrev s_check_balls : Stmt := top 21
abbrev s_Row__init__ : Stmt := inClass (top 22) 0
abbrev s_Row__len__ : Stmt := inClass (top 22) 1
abbrev s_Row_with_speeds : Stmt := inClass (top 22) 3
abbrev s_check_ball : Stmt := top 23
abbrev s_Parting__init__ : Stmt := inClass (top 25) 0
abbrev s_check_no_wall : Stmt := top 26
abbrev s_Sums__init__ : Stmt := inClass (top 27) 0
abbrev s_Sums_weight_over : Stmt := inClass (top 27) 1
abbrev s_Sums_total_over : Stmt := inClass (top 27) 2
abbrev s_Sums_mean_over : Stmt := inClass (top 27) 3
abbrev s_Sums_is_faster : Stmt := inClass (top 27) 4
abbrev s_pooled_parting : Stmt := top 28
abbrev s__bound_above : Stmt := top 29
abbrev s__bound_below : Stmt := top 30
abbrev s_speed_bounds : Stmt := top 31
abbrev s__law_mix : Stmt := top 33
abbrev s__law_hand : Stmt := top 34
abbrev s__law_draw : Stmt := top 35
abbrev s__law_pick : Stmt := top 36
abbrev s__law_low : Stmt := top 37
abbrev s__law_add : Stmt := top 38
abbrev s__law_sub : Stmt := top 39
abbrev s__law_less : Stmt := top 40
abbrev s__law_speed : Stmt := top 41
abbrev s__law_falling : Stmt := top 42
abbrev s__law_many_balls : Stmt := top 43
abbrev s__law_stick_balls : Stmt := top 44
abbrev s__law_given : Stmt := top 45
abbrev s__law_row : Stmt := top 46
abbrev s__law_sums : Stmt := top 47
abbrev s__law_is_faster : Stmt := top 48
abbrev s__law_is_parted : Stmt := top 49
abbrev s__law_lots : Stmt := top 50
abbrev s__law_is_ratio : Stmt := top 51
abbrev s__law_parted_pairs : Stmt := top 52
abbrev s__law_right_at : Stmt := top 53
abbrev s_law : Stmt := top 54
def fn : List He.DefD := [
  ⟨("is_whole", none), "is_whole", "is_whole", defArgs s_is_whole, defBody s_is_whole, defScope s_is_whole, [], []⟩,
  ⟨("is_ratio", none), "is_ratio", "is_ratio", defArgs s_is_ratio, defBody s_is_ratio, defScope s_is_ratio, [], []⟩,
  ⟨("ratio_of", none), "ratio_of", "ratio_of", defArgs s_ratio_of, defBody s_ratio_of, defScope s_ratio_of, [], []⟩,
  ⟨("lowest_terms", none), "lowest_terms", "lowest_terms", defArgs s_lowest_terms, defBody s_lowest_terms, defScope s_lowest_terms, [], []⟩,
  ⟨("plus", none), "plus", "plus", defArgs s_plus, defBody s_plus, defScope s_plus, [], []⟩,
  ⟨("minus", none), "minus", "minus", defArgs s_minus, defBody s_minus, defScope s_minus, [], []⟩,
  ⟨("times", none), "times", "times", defArgs s_times, defBody s_times, defScope s_times, [], []⟩,
  ⟨("over", none), "over", "over", defArgs s_over, defBody s_over, defScope s_over, [], []⟩,
  ⟨("compare", none), "compare", "compare", defArgs s_compare, defBody s_compare, defScope s_compare, [], []⟩,
  ⟨("check_balls", none), "check_balls", "check_balls", defArgs s_check_balls, defBody s_check_balls, defScope s_check_balls, [], []⟩,
  ⟨("Row", some "__init__"), "__init__", "Row.__init__", defArgs s_Row__init__, defBody s_Row__init__, defScope s_Row__init__, [.bl false], []⟩,
  ⟨("Row", some "__len__"), "__len__", "Row.__len__", defArgs s_Row__len__, defBody s_Row__len__, defScope s_Row__len__, [], []⟩,
  ⟨("Row", some "with_speeds"), "with_speeds", "Row.with_speeds", defArgs s_Row_with_speeds, defBody s_Row_with_speeds, defScope s_Row_with_speeds, [], []⟩,
  ⟨("check_ball", none), "check_ball", "check_ball", defArgs s_check_ball, defBody s_check_ball, defScope s_check_ball, [], []⟩,
  ⟨("Parting", some "__init__"), "__init__", "Parting.__init__", defArgs s_Parting__init__, defBody s_Parting__init__, defScope s_Parting__init__, [], []⟩,
  ⟨("check_no_wall", none), "check_no_wall", "check_no_wall", defArgs s_check_no_wall, defBody s_check_no_wall, defScope s_check_no_wall, [], []⟩,
  ⟨("Sums", some "__init__"), "__init__", "Sums.__init__", defArgs s_Sums__init__, defBody s_Sums__init__, defScope s_Sums__init__, [], []⟩,
  ⟨("Sums", some "weight_over"), "weight_over", "Sums.weight_over", defArgs s_Sums_weight_over, defBody s_Sums_weight_over, defScope s_Sums_weight_over, [], []⟩,
  ⟨("Sums", some "total_over"), "total_over", "Sums.total_over", defArgs s_Sums_total_over, defBody s_Sums_total_over, defScope s_Sums_total_over, [], []⟩,
  ⟨("Sums", some "mean_over"), "mean_over", "Sums.mean_over", defArgs s_Sums_mean_over, defBody s_Sums_mean_over, defScope s_Sums_mean_over, [], []⟩,
  ⟨("Sums", some "is_faster"), "is_faster", "Sums.is_faster", defArgs s_Sums_is_faster, defBody s_Sums_is_faster, defScope s_Sums_is_faster, [], []⟩,
  ⟨("pooled_parting", none), "pooled_parting", "pooled_parting", defArgs s_pooled_parting, defBody s_pooled_parting, defScope s_pooled_parting, [], []⟩,
  ⟨("_bound_above", none), "_bound_above", "_bound_above", defArgs s__bound_above, defBody s__bound_above, defScope s__bound_above, [], []⟩,
  ⟨("_bound_below", none), "_bound_below", "_bound_below", defArgs s__bound_below, defBody s__bound_below, defScope s__bound_below, [], []⟩,
  ⟨("speed_bounds", none), "speed_bounds", "speed_bounds", defArgs s_speed_bounds, defBody s_speed_bounds, defScope s_speed_bounds, [], []⟩,
  ⟨("_law_mix", none), "_law_mix", "_law_mix", defArgs s__law_mix, defBody s__law_mix, defScope s__law_mix, [], []⟩,
  ⟨("_law_hand", none), "_law_hand", "_law_hand", defArgs s__law_hand, defBody s__law_hand, defScope s__law_hand, [], []⟩,
  ⟨("_law_draw", none), "_law_draw", "_law_draw", defArgs s__law_draw, defBody s__law_draw, defScope s__law_draw, [], []⟩,
  ⟨("_law_pick", none), "_law_pick", "_law_pick", defArgs s__law_pick, defBody s__law_pick, defScope s__law_pick, [], []⟩,
  ⟨("_law_low", none), "_law_low", "_law_low", defArgs s__law_low, defBody s__law_low, defScope s__law_low, [], []⟩,
  ⟨("_law_add", none), "_law_add", "_law_add", defArgs s__law_add, defBody s__law_add, defScope s__law_add, [], []⟩,
  ⟨("_law_sub", none), "_law_sub", "_law_sub", defArgs s__law_sub, defBody s__law_sub, defScope s__law_sub, [], []⟩,
  ⟨("_law_less", none), "_law_less", "_law_less", defArgs s__law_less, defBody s__law_less, defScope s__law_less, [], []⟩,
  ⟨("_law_speed", none), "_law_speed", "_law_speed", defArgs s__law_speed, defBody s__law_speed, defScope s__law_speed, [], []⟩,
  ⟨("_law_falling", none), "_law_falling", "_law_falling", defArgs s__law_falling, defBody s__law_falling, defScope s__law_falling, [], []⟩,
  ⟨("_law_many_balls", none), "_law_many_balls", "_law_many_balls", defArgs s__law_many_balls, defBody s__law_many_balls, defScope s__law_many_balls, [], []⟩,
  ⟨("_law_stick_balls", none), "_law_stick_balls", "_law_stick_balls", defArgs s__law_stick_balls, defBody s__law_stick_balls, defScope s__law_stick_balls, [], []⟩,
  ⟨("_law_given", none), "_law_given", "_law_given", defArgs s__law_given, defBody s__law_given, defScope s__law_given, [], []⟩,
  ⟨("_law_row", none), "_law_row", "_law_row", defArgs s__law_row, defBody s__law_row, defScope s__law_row, [], []⟩,
  ⟨("_law_sums", none), "_law_sums", "_law_sums", defArgs s__law_sums, defBody s__law_sums, defScope s__law_sums, [], []⟩,
  ⟨("_law_is_faster", none), "_law_is_faster", "_law_is_faster", defArgs s__law_is_faster, defBody s__law_is_faster, defScope s__law_is_faster, [], []⟩,
  ⟨("_law_is_parted", none), "_law_is_parted", "_law_is_parted", defArgs s__law_is_parted, defBody s__law_is_parted, defScope s__law_is_parted, [], []⟩,
  ⟨("_law_lots", none), "_law_lots", "_law_lots", defArgs s__law_lots, defBody s__law_lots, defScope s__law_lots, [], []⟩,
  ⟨("_law_is_ratio", none), "_law_is_ratio", "_law_is_ratio", defArgs s__law_is_ratio, defBody s__law_is_ratio, defScope s__law_is_ratio, [], []⟩,
  ⟨("_law_parted_pairs", none), "_law_parted_pairs", "_law_parted_pairs", defArgs s__law_parted_pairs, defBody s__law_parted_pairs, defScope s__law_parted_pairs, [], []⟩,
  ⟨("_law_right_at", none), "_law_right_at", "_law_right_at", defArgs s__law_right_at, defBody s__law_right_at, defScope s__law_right_at, [], []⟩,
  ⟨("law", none), "law", "law", defArgs s_law, defBody s_law, defScope s_law, [], []⟩]
def fa : List He.Fa := [
  .glo "is_whole",
  .glo "is_ratio",
  .glo "ratio_of",
  .glo "lowest_terms",
  .glo "plus",
  .glo "minus",
  .glo "times",
  .glo "over",
  .glo "compare",
  .glo "check_balls",
  .glo "check_ball",
  .glo "check_no_wall",
  .glo "pooled_parting",
  .glo "_bound_above",
  .glo "_bound_below",
  .glo "speed_bounds",
  .glo "_law_mix",
  .glo "_law_hand",
  .glo "_law_draw",
  .glo "_law_pick",
  .glo "_law_low",
  .glo "_law_add",
  .glo "_law_sub",
  .glo "_law_less",
  .glo "_law_speed",
  .glo "_law_falling",
  .glo "_law_many_balls",
  .glo "_law_stick_balls",
  .glo "_law_given",
  .glo "_law_row",
  .glo "_law_sums",
  .glo "_law_is_faster",
  .glo "_law_is_parted",
  .glo "_law_lots",
  .glo "_law_is_ratio",
  .glo "_law_parted_pairs",
  .glo "_law_right_at",
  .glo "law",
  .glo "Row",
  .glo "Parting",
  .glo "Sums",
  .free "isinstance",
  .free "int",
  .free "bool",
  .free "tuple",
  .free "list",
  .free "len",
  .free "range",
  .free "zip",
  .free "enumerate",
  .free "max",
  .free "min",
  .free "abs",
  .int "MOST_BALLS" 40,
  .int "MOST_WEIGHT" 9,
  .cls "Row",
  .cls "Parting",
  .cls "Sums",
  .noat "Row" "weights",
  .noat "Row" "speeds",
  .noat "Row" "wall",
  .noat "Row" "pairs",
  .noat "Row" "gap_count",
  .noat "Row" "is_like",
  .noat "Row" "first_sum",
  .noat "Row" "second_sum",
  .noat "Parting" "lots",
  .noat "Parting" "means",
  .noat "Sums" "scale",
  .noat "Sums" "heavy",
  .noat "Sums" "pushed",
  .meth "Row" "with_speeds",
  .meth "Row" "__len__",
  .meth "Sums" "weight_over",
  .meth "Sums" "total_over",
  .meth "Sums" "mean_over",
  .meth "Sums" "is_faster",
  .mkr "Row",
  .mkr "Parting",
  .mkr "Sums"]
def exB (K : PySem.W.Frag) : Bool := He.eqO (PySem.W.nsIn K mainGlobals "gcd") (some (some (.builtin "math.gcd"))) && He.eqO (PySem.W.nsIn K mainGlobals "lcm") (some (some (.builtin "math.lcm")))
/-- what the walks ask of the top -/
structure Tx (K : PySem.W.Frag) (mg : Str → Option Value) : Prop where
  d : He.SaysD fa fn K
  g : ∀ (x : Str) (i : Nat), fa[i]? = some (.glo x) → mg x = some (.ref (He.ga K x))
  n : ∀ (x : Str) (i : Nat), fa[i]? = some (.free x) → mg x = none
  gcd : mg "gcd" = some (.builtin "math.gcd")
  lcm : mg "lcm" = some (.builtin "math.lcm")
  mb : ∃ t, mg "MOST_BALLS" = some (.int 40 t)
  mw : ∃ t, mg "MOST_WEIGHT" = some (.int 9 t)
section
variable {K : PySem.W.Frag} {mg : Str → Option Value}
theorem Tx.g_is_whole (t : Tx K mg) : mg "is_whole" = some (.ref (He.ga K "is_whole")) := t.g "is_whole" 0 rfl
theorem Tx.g_is_ratio (t : Tx K mg) : mg "is_ratio" = some (.ref (He.ga K "is_ratio")) := t.g "is_ratio" 1 rfl
theorem Tx.g_ratio_of (t : Tx K mg) : mg "ratio_of" = some (.ref (He.ga K "ratio_of")) := t.g "ratio_of" 2 rfl
theorem Tx.g_lowest_terms (t : Tx K mg) : mg "lowest_terms" = some (.ref (He.ga K "lowest_terms")) := t.g "lowest_terms" 3 rfl
theorem Tx.g_plus (t : Tx K mg) : mg "plus" = some (.ref (He.ga K "plus")) := t.g "plus" 4 rfl
theorem Tx.g_minus (t : Tx K mg) : mg "minus" = some (.ref (He.ga K "minus")) := t.g "minus" 5 rfl
theorem Tx.g_times (t : Tx K mg) : mg "times" = some (.ref (He.ga K "times")) := t.g "times" 6 rfl
theorem Tx.g_over (t : Tx K mg) : mg "over" = some (.ref (He.ga K "over")) := t.g "over" 7 rfl
theorem Tx.g_compare (t : Tx K mg) : mg "compare" = some (.ref (He.ga K "compare")) := t.g "compare" 8 rfl
theorem Tx.g_check_balls (t : Tx K mg) : mg "check_balls" = some (.ref (He.ga K "check_balls")) := t.g "check_balls" 9 rfl
theorem Tx.g_check_ball (t : Tx K mg) : mg "check_ball" = some (.ref (He.ga K "check_ball")) := t.g "check_ball" 10 rfl
theorem Tx.g_check_no_wall (t : Tx K mg) : mg "check_no_wall" = some (.ref (He.ga K "check_no_wall")) := t.g "check_no_wall" 11 rfl
theorem Tx.g_pooled_parting (t : Tx K mg) : mg "pooled_parting" = some (.ref (He.ga K "pooled_parting")) := t.g "pooled_parting" 12 rfl
theorem Tx.g__bound_above (t : Tx K mg) : mg "_bound_above" = some (.ref (He.ga K "_bound_above")) := t.g "_bound_above" 13 rfl
theorem Tx.g__bound_below (t : Tx K mg) : mg "_bound_below" = some (.ref (He.ga K "_bound_below")) := t.g "_bound_below" 14 rfl
theorem Tx.g_speed_bounds (t : Tx K mg) : mg "speed_bounds" = some (.ref (He.ga K "speed_bounds")) := t.g "speed_bounds" 15 rfl
theorem Tx.g__law_mix (t : Tx K mg) : mg "_law_mix" = some (.ref (He.ga K "_law_mix")) := t.g "_law_mix" 16 rfl
theorem Tx.g__law_hand (t : Tx K mg) : mg "_law_hand" = some (.ref (He.ga K "_law_hand")) := t.g "_law_hand" 17 rfl
theorem Tx.g__law_draw (t : Tx K mg) : mg "_law_draw" = some (.ref (He.ga K "_law_draw")) := t.g "_law_draw" 18 rfl
theorem Tx.g__law_pick (t : Tx K mg) : mg "_law_pick" = some (.ref (He.ga K "_law_pick")) := t.g "_law_pick" 19 rfl
theorem Tx.g__law_low (t : Tx K mg) : mg "_law_low" = some (.ref (He.ga K "_law_low")) := t.g "_law_low" 20 rfl
theorem Tx.g__law_add (t : Tx K mg) : mg "_law_add" = some (.ref (He.ga K "_law_add")) := t.g "_law_add" 21 rfl
theorem Tx.g__law_sub (t : Tx K mg) : mg "_law_sub" = some (.ref (He.ga K "_law_sub")) := t.g "_law_sub" 22 rfl
theorem Tx.g__law_less (t : Tx K mg) : mg "_law_less" = some (.ref (He.ga K "_law_less")) := t.g "_law_less" 23 rfl
theorem Tx.g__law_speed (t : Tx K mg) : mg "_law_speed" = some (.ref (He.ga K "_law_speed")) := t.g "_law_speed" 24 rfl
theorem Tx.g__law_falling (t : Tx K mg) : mg "_law_falling" = some (.ref (He.ga K "_law_falling")) := t.g "_law_falling" 25 rfl
theorem Tx.g__law_many_balls (t : Tx K mg) : mg "_law_many_balls" = some (.ref (He.ga K "_law_many_balls")) := t.g "_law_many_balls" 26 rfl
theorem Tx.g__law_stick_balls (t : Tx K mg) : mg "_law_stick_balls" = some (.ref (He.ga K "_law_stick_balls")) := t.g "_law_stick_balls" 27 rfl
theorem Tx.g__law_given (t : Tx K mg) : mg "_law_given" = some (.ref (He.ga K "_law_given")) := t.g "_law_given" 28 rfl
theorem Tx.g__law_row (t : Tx K mg) : mg "_law_row" = some (.ref (He.ga K "_law_row")) := t.g "_law_row" 29 rfl
theorem Tx.g__law_sums (t : Tx K mg) : mg "_law_sums" = some (.ref (He.ga K "_law_sums")) := t.g "_law_sums" 30 rfl
theorem Tx.g__law_is_faster (t : Tx K mg) : mg "_law_is_faster" = some (.ref (He.ga K "_law_is_faster")) := t.g "_law_is_faster" 31 rfl
theorem Tx.g__law_is_parted (t : Tx K mg) : mg "_law_is_parted" = some (.ref (He.ga K "_law_is_parted")) := t.g "_law_is_parted" 32 rfl
theorem Tx.g__law_lots (t : Tx K mg) : mg "_law_lots" = some (.ref (He.ga K "_law_lots")) := t.g "_law_lots" 33 rfl
theorem Tx.g__law_is_ratio (t : Tx K mg) : mg "_law_is_ratio" = some (.ref (He.ga K "_law_is_ratio")) := t.g "_law_is_ratio" 34 rfl
theorem Tx.g__law_parted_pairs (t : Tx K mg) : mg "_law_parted_pairs" = some (.ref (He.ga K "_law_parted_pairs")) := t.g "_law_parted_pairs" 35 rfl
theorem Tx.g__law_right_at (t : Tx K mg) : mg "_law_right_at" = some (.ref (He.ga K "_law_right_at")) := t.g "_law_right_at" 36 rfl
theorem Tx.g_law (t : Tx K mg) : mg "law" = some (.ref (He.ga K "law")) := t.g "law" 37 rfl
theorem Tx.g_Row (t : Tx K mg) : mg "Row" = some (.ref (He.ga K "Row")) := t.g "Row" 38 rfl
theorem Tx.g_Parting (t : Tx K mg) : mg "Parting" = some (.ref (He.ga K "Parting")) := t.g "Parting" 39 rfl
theorem Tx.g_Sums (t : Tx K mg) : mg "Sums" = some (.ref (He.ga K "Sums")) := t.g "Sums" 40 rfl
theorem Tx.n_isinstance (t : Tx K mg) : mg "isinstance" = none := t.n "isinstance" 41 rfl
theorem Tx.n_int (t : Tx K mg) : mg "int" = none := t.n "int" 42 rfl
theorem Tx.n_bool (t : Tx K mg) : mg "bool" = none := t.n "bool" 43 rfl
theorem Tx.n_tuple (t : Tx K mg) : mg "tuple" = none := t.n "tuple" 44 rfl
theorem Tx.n_list (t : Tx K mg) : mg "list" = none := t.n "list" 45 rfl
theorem Tx.n_len (t : Tx K mg) : mg "len" = none := t.n "len" 46 rfl
theorem Tx.n_range (t : Tx K mg) : mg "range" = none := t.n "range" 47 rfl
theorem Tx.n_zip (t : Tx K mg) : mg "zip" = none := t.n "zip" 48 rfl
theorem Tx.n_enumerate (t : Tx K mg) : mg "enumerate" = none := t.n "enumerate" 49 rfl
theorem Tx.n_max (t : Tx K mg) : mg "max" = none := t.n "max" 50 rfl
theorem Tx.n_min (t : Tx K mg) : mg "min" = none := t.n "min" 51 rfl
theorem Tx.n_abs (t : Tx K mg) : mg "abs" = none := t.n "abs" 52 rfl
theorem Tx.cls_Row (t : Tx K mg) : Cls K (He.ga K "Row") := He.cls_ok (t.d.fact 55 (f := .cls "Row") rfl)
theorem Tx.cls_Parting (t : Tx K mg) : Cls K (He.ga K "Parting") := He.cls_ok (t.d.fact 56 (f := .cls "Parting") rfl)
theorem Tx.cls_Sums (t : Tx K mg) : Cls K (He.ga K "Sums") := He.cls_ok (t.d.fact 57 (f := .cls "Sums") rfl)
theorem Tx.na_Row_weights (t : Tx K mg) : NoAttr K (He.ga K "Row") "weights" := He.noat_ok (t.d.fact 58 (f := .noat "Row" "weights") rfl)
theorem Tx.na_Row_speeds (t : Tx K mg) : NoAttr K (He.ga K "Row") "speeds" := He.noat_ok (t.d.fact 59 (f := .noat "Row" "speeds") rfl)
theorem Tx.na_Row_wall (t : Tx K mg) : NoAttr K (He.ga K "Row") "wall" := He.noat_ok (t.d.fact 60 (f := .noat "Row" "wall") rfl)
theorem Tx.na_Row_pairs (t : Tx K mg) : NoAttr K (He.ga K "Row") "pairs" := He.noat_ok (t.d.fact 61 (f := .noat "Row" "pairs") rfl)
theorem Tx.na_Row_gap_count (t : Tx K mg) : NoAttr K (He.ga K "Row") "gap_count" := He.noat_ok (t.d.fact 62 (f := .noat "Row" "gap_count") rfl)
theorem Tx.na_Row_is_like (t : Tx K mg) : NoAttr K (He.ga K "Row") "is_like" := He.noat_ok (t.d.fact 63 (f := .noat "Row" "is_like") rfl)
theorem Tx.na_Row_first_sum (t : Tx K mg) : NoAttr K (He.ga K "Row") "first_sum" := He.noat_ok (t.d.fact 64 (f := .noat "Row" "first_sum") rfl)
theorem Tx.na_Row_second_sum (t : Tx K mg) : NoAttr K (He.ga K "Row") "second_sum" := He.noat_ok (t.d.fact 65 (f := .noat "Row" "second_sum") rfl)
theorem Tx.na_Parting_lots (t : Tx K mg) : NoAttr K (He.ga K "Parting") "lots" := He.noat_ok (t.d.fact 66 (f := .noat "Parting" "lots") rfl)
theorem Tx.na_Parting_means (t : Tx K mg) : NoAttr K (He.ga K "Parting") "means" := He.noat_ok (t.d.fact 67 (f := .noat "Parting" "means") rfl)
theorem Tx.na_Sums_scale (t : Tx K mg) : NoAttr K (He.ga K "Sums") "scale" := He.noat_ok (t.d.fact 68 (f := .noat "Sums" "scale") rfl)
theorem Tx.na_Sums_heavy (t : Tx K mg) : NoAttr K (He.ga K "Sums") "heavy" := He.noat_ok (t.d.fact 69 (f := .noat "Sums" "heavy") rfl)
theorem Tx.na_Sums_pushed (t : Tx K mg) : NoAttr K (He.ga K "Sums") "pushed" := He.noat_ok (t.d.fact 70 (f := .noat "Sums" "pushed") rfl)
theorem Tx.me_Row_with_speeds (t : Tx K mg) : Meth K (He.ga K "Row") "with_speeds" (He.ma K (He.ga K "Row") "with_speeds") := He.meth_ok (t.d.fact 71 (f := .meth "Row" "with_speeds") rfl)
theorem Tx.me_Row_len (t : Tx K mg) : Meth K (He.ga K "Row") "__len__" (He.ma K (He.ga K "Row") "__len__") := He.meth_ok (t.d.fact 72 (f := .meth "Row" "__len__") rfl)
theorem Tx.me_Sums_weight_over (t : Tx K mg) : Meth K (He.ga K "Sums") "weight_over" (He.ma K (He.ga K "Sums") "weight_over") := He.meth_ok (t.d.fact 73 (f := .meth "Sums" "weight_over") rfl)
theorem Tx.me_Sums_total_over (t : Tx K mg) : Meth K (He.ga K "Sums") "total_over" (He.ma K (He.ga K "Sums") "total_over") := He.meth_ok (t.d.fact 74 (f := .meth "Sums" "total_over") rfl)
theorem Tx.me_Sums_mean_over (t : Tx K mg) : Meth K (He.ga K "Sums") "mean_over" (He.ma K (He.ga K "Sums") "mean_over") := He.meth_ok (t.d.fact 75 (f := .meth "Sums" "mean_over") rfl)
theorem Tx.me_Sums_is_faster (t : Tx K mg) : Meth K (He.ga K "Sums") "is_faster" (He.ma K (He.ga K "Sums") "is_faster") := He.meth_ok (t.d.fact 76 (f := .meth "Sums" "is_faster") rfl)
theorem Tx.mk_Row (t : Tx K mg) : Mk K (He.ga K "Row") (He.ma K (He.ga K "Row") "__init__") := He.mkr_ok (t.d.fact 77 (f := .mkr "Row") rfl)
theorem Tx.mk_Parting (t : Tx K mg) : Mk K (He.ga K "Parting") (He.ma K (He.ga K "Parting") "__init__") := He.mkr_ok (t.d.fact 78 (f := .mkr "Parting") rfl)
theorem Tx.mk_Sums (t : Tx K mg) : Mk K (He.ga K "Sums") (He.ma K (He.ga K "Sums") "__init__") := He.mkr_ok (t.d.fact 79 (f := .mkr "Sums") rfl)
theorem Tx.d_is_whole (t : Tx K mg) : ∃ fd, FunD K "is_whole" "is_whole" (defArgs s_is_whole) (defBody s_is_whole) (defScope s_is_whole) [] [] (He.ga K "is_whole") fd := t.d.def_ 0 (d := ⟨("is_whole", none), "is_whole", "is_whole", defArgs s_is_whole, defBody s_is_whole, defScope s_is_whole, [], []⟩) rfl
theorem Tx.d_is_ratio (t : Tx K mg) : ∃ fd, FunD K "is_ratio" "is_ratio" (defArgs s_is_ratio) (defBody s_is_ratio) (defScope s_is_ratio) [] [] (He.ga K "is_ratio") fd := t.d.def_ 1 (d := ⟨("is_ratio", none), "is_ratio", "is_ratio", defArgs s_is_ratio, defBody s_is_ratio, defScope s_is_ratio, [], []⟩) rfl
theorem Tx.d_ratio_of (t : Tx K mg) : ∃ fd, FunD K "ratio_of" "ratio_of" (defArgs s_ratio_of) (defBody s_ratio_of) (defScope s_ratio_of) [] [] (He.ga K "ratio_of") fd := t.d.def_ 2 (d := ⟨("ratio_of", none), "ratio_of", "ratio_of", defArgs s_ratio_of, defBody s_ratio_of, defScope s_ratio_of, [], []⟩) rfl
theorem Tx.d_lowest_terms (t : Tx K mg) : ∃ fd, FunD K "lowest_terms" "lowest_terms" (defArgs s_lowest_terms) (defBody s_lowest_terms) (defScope s_lowest_terms) [] [] (He.ga K "lowest_terms") fd := t.d.def_ 3 (d := ⟨("lowest_terms", none), "lowest_terms", "lowest_terms", defArgs s_lowest_terms, defBody s_lowest_terms, defScope s_lowest_terms, [], []⟩) rfl
theorem Tx.d_plus (t : Tx K mg) : ∃ fd, FunD K "plus" "plus" (defArgs s_plus) (defBody s_plus) (defScope s_plus) [] [] (He.ga K "plus") fd := t.d.def_ 4 (d := ⟨("plus", none), "plus", "plus", defArgs s_plus, defBody s_plus, defScope s_plus, [], []⟩) rfl
theorem Tx.d_minus (t : Tx K mg) : ∃ fd, FunD K "minus" "minus" (defArgs s_minus) (defBody s_minus) (defScope s_minus) [] [] (He.ga K "minus") fd := t.d.def_ 5 (d := ⟨("minus", none), "minus", "minus", defArgs s_minus, defBody s_minus, defScope s_minus, [], []⟩) rfl
theorem Tx.d_times (t : Tx K mg) : ∃ fd, FunD K "times" "times" (defArgs s_times) (defBody s_times) (defScope s_times) [] [] (He.ga K "times") fd := t.d.def_ 6 (d := ⟨("times", none), "times", "times", defArgs s_times, defBody s_times, defScope s_times, [], []⟩) rfl
theorem Tx.d_over (t : Tx K mg) : ∃ fd, FunD K "over" "over" (defArgs s_over) (defBody s_over) (defScope s_over) [] [] (He.ga K "over") fd := t.d.def_ 7 (d := ⟨("over", none), "over", "over", defArgs s_over, defBody s_over, defScope s_over, [], []⟩) rfl
theorem Tx.d_compare (t : Tx K mg) : ∃ fd, FunD K "compare" "compare" (defArgs s_compare) (defBody s_compare) (defScope s_compare) [] [] (He.ga K "compare") fd := t.d.def_ 8 (d := ⟨("compare", none), "compare", "compare", defArgs s_compare, defBody s_compare, defScope s_compare, [], []⟩) rfl
theorem Tx.d_check_balls (t : Tx K mg) : ∃ fd, FunD K "check_balls" "check_balls" (defArgs s_check_balls) (defBody s_check_balls) (defScope s_check_balls) [] [] (He.ga K "check_balls") fd := t.d.def_ 9 (d := ⟨("check_balls", none), "check_balls", "check_balls", defArgs s_check_balls, defBody s_check_balls, defScope s_check_balls, [], []⟩) rfl
theorem Tx.d_Row__init__ (t : Tx K mg) : ∃ fd, FunD K "__init__" "Row.__init__" (defArgs s_Row__init__) (defBody s_Row__init__) (defScope s_Row__init__) [V.bl false] [] (He.ma K (He.ga K "Row") "__init__") fd := t.d.def_ 10 (d := ⟨("Row", some "__init__"), "__init__", "Row.__init__", defArgs s_Row__init__, defBody s_Row__init__, defScope s_Row__init__, [.bl false], []⟩) rfl
theorem Tx.d_Row__len__ (t : Tx K mg) : ∃ fd, FunD K "__len__" "Row.__len__" (defArgs s_Row__len__) (defBody s_Row__len__) (defScope s_Row__len__) [] [] (He.ma K (He.ga K "Row") "__len__") fd := t.d.def_ 11 (d := ⟨("Row", some "__len__"), "__len__", "Row.__len__", defArgs s_Row__len__, defBody s_Row__len__, defScope s_Row__len__, [], []⟩) rfl
theorem Tx.d_Row_with_speeds (t : Tx K mg) : ∃ fd, FunD K "with_speeds" "Row.with_speeds" (defArgs s_Row_with_speeds) (defBody s_Row_with_speeds) (defScope s_Row_with_speeds) [] [] (He.ma K (He.ga K "Row") "with_speeds") fd := t.d.def_ 12 (d := ⟨("Row", some "with_speeds"), "with_speeds", "Row.with_speeds", defArgs s_Row_with_speeds, defBody s_Row_with_speeds, defScope s_Row_with_speeds, [], []⟩) rfl
theorem Tx.d_check_ball (t : Tx K mg) : ∃ fd, FunD K "check_ball" "check_ball" (defArgs s_check_ball) (defBody s_check_ball) (defScope s_check_ball) [] [] (He.ga K "check_ball") fd := t.d.def_ 13 (d := ⟨("check_ball", none), "check_ball", "check_ball", defArgs s_check_ball, defBody s_check_ball, defScope s_check_ball, [], []⟩) rfl
theorem Tx.d_Parting__init__ (t : Tx K mg) : ∃ fd, FunD K "__init__" "Parting.__init__" (defArgs s_Parting__init__) (defBody s_Parting__init__) (defScope s_Parting__init__) [] [] (He.ma K (He.ga K "Parting") "__init__") fd := t.d.def_ 14 (d := ⟨("Parting", some "__init__"), "__init__", "Parting.__init__", defArgs s_Parting__init__, defBody s_Parting__init__, defScope s_Parting__init__, [], []⟩) rfl
theorem Tx.d_check_no_wall (t : Tx K mg) : ∃ fd, FunD K "check_no_wall" "check_no_wall" (defArgs s_check_no_wall) (defBody s_check_no_wall) (defScope s_check_no_wall) [] [] (He.ga K "check_no_wall") fd := t.d.def_ 15 (d := ⟨("check_no_wall", none), "check_no_wall", "check_no_wall", defArgs s_check_no_wall, defBody s_check_no_wall, defScope s_check_no_wall, [], []⟩) rfl
theorem Tx.d_Sums__init__ (t : Tx K mg) : ∃ fd, FunD K "__init__" "Sums.__init__" (defArgs s_Sums__init__) (defBody s_Sums__init__) (defScope s_Sums__init__) [] [] (He.ma K (He.ga K "Sums") "__init__") fd := t.d.def_ 16 (d := ⟨("Sums", some "__init__"), "__init__", "Sums.__init__", defArgs s_Sums__init__, defBody s_Sums__init__, defScope s_Sums__init__, [], []⟩) rfl
theorem Tx.d_Sums_weight_over (t : Tx K mg) : ∃ fd, FunD K "weight_over" "Sums.weight_over" (defArgs s_Sums_weight_over) (defBody s_Sums_weight_over) (defScope s_Sums_weight_over) [] [] (He.ma K (He.ga K "Sums") "weight_over") fd := t.d.def_ 17 (d := ⟨("Sums", some "weight_over"), "weight_over", "Sums.weight_over", defArgs s_Sums_weight_over, defBody s_Sums_weight_over, defScope s_Sums_weight_over, [], []⟩) rfl
theorem Tx.d_Sums_total_over (t : Tx K mg) : ∃ fd, FunD K "total_over" "Sums.total_over" (defArgs s_Sums_total_over) (defBody s_Sums_total_over) (defScope s_Sums_total_over) [] [] (He.ma K (He.ga K "Sums") "total_over") fd := t.d.def_ 18 (d := ⟨("Sums", some "total_over"), "total_over", "Sums.total_over", defArgs s_Sums_total_over, defBody s_Sums_total_over, defScope s_Sums_total_over, [], []⟩) rfl
theorem Tx.d_Sums_mean_over (t : Tx K mg) : ∃ fd, FunD K "mean_over" "Sums.mean_over" (defArgs s_Sums_mean_over) (defBody s_Sums_mean_over) (defScope s_Sums_mean_over) [] [] (He.ma K (He.ga K "Sums") "mean_over") fd := t.d.def_ 19 (d := ⟨("Sums", some "mean_over"), "mean_over", "Sums.mean_over", defArgs s_Sums_mean_over, defBody s_Sums_mean_over, defScope s_Sums_mean_over, [], []⟩) rfl
theorem Tx.d_Sums_is_faster (t : Tx K mg) : ∃ fd, FunD K "is_faster" "Sums.is_faster" (defArgs s_Sums_is_faster) (defBody s_Sums_is_faster) (defScope s_Sums_is_faster) [] [] (He.ma K (He.ga K "Sums") "is_faster") fd := t.d.def_ 20 (d := ⟨("Sums", some "is_faster"), "is_faster", "Sums.is_faster", defArgs s_Sums_is_faster, defBody s_Sums_is_faster, defScope s_Sums_is_faster, [], []⟩) rfl
theorem Tx.d_pooled_parting (t : Tx K mg) : ∃ fd, FunD K "pooled_parting" "pooled_parting" (defArgs s_pooled_parting) (defBody s_pooled_parting) (defScope s_pooled_parting) [] [] (He.ga K "pooled_parting") fd := t.d.def_ 21 (d := ⟨("pooled_parting", none), "pooled_parting", "pooled_parting", defArgs s_pooled_parting, defBody s_pooled_parting, defScope s_pooled_parting, [], []⟩) rfl
theorem Tx.d__bound_above (t : Tx K mg) : ∃ fd, FunD K "_bound_above" "_bound_above" (defArgs s__bound_above) (defBody s__bound_above) (defScope s__bound_above) [] [] (He.ga K "_bound_above") fd := t.d.def_ 22 (d := ⟨("_bound_above", none), "_bound_above", "_bound_above", defArgs s__bound_above, defBody s__bound_above, defScope s__bound_above, [], []⟩) rfl
theorem Tx.d__bound_below (t : Tx K mg) : ∃ fd, FunD K "_bound_below" "_bound_below" (defArgs s__bound_below) (defBody s__bound_below) (defScope s__bound_below) [] [] (He.ga K "_bound_below") fd := t.d.def_ 23 (d := ⟨("_bound_below", none), "_bound_below", "_bound_below", defArgs s__bound_below, defBody s__bound_below, defScope s__bound_below, [], []⟩) rfl
theorem Tx.d_speed_bounds (t : Tx K mg) : ∃ fd, FunD K "speed_bounds" "speed_bounds" (defArgs s_speed_bounds) (defBody s_speed_bounds) (defScope s_speed_bounds) [] [] (He.ga K "speed_bounds") fd := t.d.def_ 24 (d := ⟨("speed_bounds", none), "speed_bounds", "speed_bounds", defArgs s_speed_bounds, defBody s_speed_bounds, defScope s_speed_bounds, [], []⟩) rfl
theorem Tx.d__law_mix (t : Tx K mg) : ∃ fd, FunD K "_law_mix" "_law_mix" (defArgs s__law_mix) (defBody s__law_mix) (defScope s__law_mix) [] [] (He.ga K "_law_mix") fd := t.d.def_ 25 (d := ⟨("_law_mix", none), "_law_mix", "_law_mix", defArgs s__law_mix, defBody s__law_mix, defScope s__law_mix, [], []⟩) rfl
theorem Tx.d__law_hand (t : Tx K mg) : ∃ fd, FunD K "_law_hand" "_law_hand" (defArgs s__law_hand) (defBody s__law_hand) (defScope s__law_hand) [] [] (He.ga K "_law_hand") fd := t.d.def_ 26 (d := ⟨("_law_hand", none), "_law_hand", "_law_hand", defArgs s__law_hand, defBody s__law_hand, defScope s__law_hand, [], []⟩) rfl
theorem Tx.d__law_draw (t : Tx K mg) : ∃ fd, FunD K "_law_draw" "_law_draw" (defArgs s__law_draw) (defBody s__law_draw) (defScope s__law_draw) [] [] (He.ga K "_law_draw") fd := t.d.def_ 27 (d := ⟨("_law_draw", none), "_law_draw", "_law_draw", defArgs s__law_draw, defBody s__law_draw, defScope s__law_draw, [], []⟩) rfl
theorem Tx.d__law_pick (t : Tx K mg) : ∃ fd, FunD K "_law_pick" "_law_pick" (defArgs s__law_pick) (defBody s__law_pick) (defScope s__law_pick) [] [] (He.ga K "_law_pick") fd := t.d.def_ 28 (d := ⟨("_law_pick", none), "_law_pick", "_law_pick", defArgs s__law_pick, defBody s__law_pick, defScope s__law_pick, [], []⟩) rfl
theorem Tx.d__law_low (t : Tx K mg) : ∃ fd, FunD K "_law_low" "_law_low" (defArgs s__law_low) (defBody s__law_low) (defScope s__law_low) [] [] (He.ga K "_law_low") fd := t.d.def_ 29 (d := ⟨("_law_low", none), "_law_low", "_law_low", defArgs s__law_low, defBody s__law_low, defScope s__law_low, [], []⟩) rfl
theorem Tx.d__law_add (t : Tx K mg) : ∃ fd, FunD K "_law_add" "_law_add" (defArgs s__law_add) (defBody s__law_add) (defScope s__law_add) [] [] (He.ga K "_law_add") fd := t.d.def_ 30 (d := ⟨("_law_add", none), "_law_add", "_law_add", defArgs s__law_add, defBody s__law_add, defScope s__law_add, [], []⟩) rfl
theorem Tx.d__law_sub (t : Tx K mg) : ∃ fd, FunD K "_law_sub" "_law_sub" (defArgs s__law_sub) (defBody s__law_sub) (defScope s__law_sub) [] [] (He.ga K "_law_sub") fd := t.d.def_ 31 (d := ⟨("_law_sub", none), "_law_sub", "_law_sub", defArgs s__law_sub, defBody s__law_sub, defScope s__law_sub, [], []⟩) rfl
theorem Tx.d__law_less (t : Tx K mg) : ∃ fd, FunD K "_law_less" "_law_less" (defArgs s__law_less) (defBody s__law_less) (defScope s__law_less) [] [] (He.ga K "_law_less") fd := t.d.def_ 32 (d := ⟨("_law_less", none), "_law_less", "_law_less", defArgs s__law_less, defBody s__law_less, defScope s__law_less, [], []⟩) rfl
theorem Tx.d__law_speed (t : Tx K mg) : ∃ fd, FunD K "_law_speed" "_law_speed" (defArgs s__law_speed) (defBody s__law_speed) (defScope s__law_speed) [] [] (He.ga K "_law_speed") fd := t.d.def_ 33 (d := ⟨("_law_speed", none), "_law_speed", "_law_speed", defArgs s__law_speed, defBody s__law_speed, defScope s__law_speed, [], []⟩) rfl
theorem Tx.d__law_falling (t : Tx K mg) : ∃ fd, FunD K "_law_falling" "_law_falling" (defArgs s__law_falling) (defBody s__law_falling) (defScope s__law_falling) [] [] (He.ga K "_law_falling") fd := t.d.def_ 34 (d := ⟨("_law_falling", none), "_law_falling", "_law_falling", defArgs s__law_falling, defBody s__law_falling, defScope s__law_falling, [], []⟩) rfl
theorem Tx.d__law_many_balls (t : Tx K mg) : ∃ fd, FunD K "_law_many_balls" "_law_many_balls" (defArgs s__law_many_balls) (defBody s__law_many_balls) (defScope s__law_many_balls) [] [] (He.ga K "_law_many_balls") fd := t.d.def_ 35 (d := ⟨("_law_many_balls", none), "_law_many_balls", "_law_many_balls", defArgs s__law_many_balls, defBody s__law_many_balls, defScope s__law_many_balls, [], []⟩) rfl
theorem Tx.d__law_stick_balls (t : Tx K mg) : ∃ fd, FunD K "_law_stick_balls" "_law_stick_balls" (defArgs s__law_stick_balls) (defBody s__law_stick_balls) (defScope s__law_stick_balls) [] [] (He.ga K "_law_stick_balls") fd := t.d.def_ 36 (d := ⟨("_law_stick_balls", none), "_law_stick_balls", "_law_stick_balls", defArgs s__law_stick_balls, defBody s__law_stick_balls, defScope s__law_stick_balls, [], []⟩) rfl
theorem Tx.d__law_given (t : Tx K mg) : ∃ fd, FunD K "_law_given" "_law_given" (defArgs s__law_given) (defBody s__law_given) (defScope s__law_given) [] [] (He.ga K "_law_given") fd := t.d.def_ 37 (d := ⟨("_law_given", none), "_law_given", "_law_given", defArgs s__law_given, defBody s__law_given, defScope s__law_given, [], []⟩) rfl
theorem Tx.d__law_row (t : Tx K mg) : ∃ fd, FunD K "_law_row" "_law_row" (defArgs s__law_row) (defBody s__law_row) (defScope s__law_row) [] [] (He.ga K "_law_row") fd := t.d.def_ 38 (d := ⟨("_law_row", none), "_law_row", "_law_row", defArgs s__law_row, defBody s__law_row, defScope s__law_row, [], []⟩) rfl
theorem Tx.d__law_sums (t : Tx K mg) : ∃ fd, FunD K "_law_sums" "_law_sums" (defArgs s__law_sums) (defBody s__law_sums) (defScope s__law_sums) [] [] (He.ga K "_law_sums") fd := t.d.def_ 39 (d := ⟨("_law_sums", none), "_law_sums", "_law_sums", defArgs s__law_sums, defBody s__law_sums, defScope s__law_sums, [], []⟩) rfl
theorem Tx.d__law_is_faster (t : Tx K mg) : ∃ fd, FunD K "_law_is_faster" "_law_is_faster" (defArgs s__law_is_faster) (defBody s__law_is_faster) (defScope s__law_is_faster) [] [] (He.ga K "_law_is_faster") fd := t.d.def_ 40 (d := ⟨("_law_is_faster", none), "_law_is_faster", "_law_is_faster", defArgs s__law_is_faster, defBody s__law_is_faster, defScope s__law_is_faster, [], []⟩) rfl
theorem Tx.d__law_is_parted (t : Tx K mg) : ∃ fd, FunD K "_law_is_parted" "_law_is_parted" (defArgs s__law_is_parted) (defBody s__law_is_parted) (defScope s__law_is_parted) [] [] (He.ga K "_law_is_parted") fd := t.d.def_ 41 (d := ⟨("_law_is_parted", none), "_law_is_parted", "_law_is_parted", defArgs s__law_is_parted, defBody s__law_is_parted, defScope s__law_is_parted, [], []⟩) rfl
theorem Tx.d__law_lots (t : Tx K mg) : ∃ fd, FunD K "_law_lots" "_law_lots" (defArgs s__law_lots) (defBody s__law_lots) (defScope s__law_lots) [] [] (He.ga K "_law_lots") fd := t.d.def_ 42 (d := ⟨("_law_lots", none), "_law_lots", "_law_lots", defArgs s__law_lots, defBody s__law_lots, defScope s__law_lots, [], []⟩) rfl
theorem Tx.d__law_is_ratio (t : Tx K mg) : ∃ fd, FunD K "_law_is_ratio" "_law_is_ratio" (defArgs s__law_is_ratio) (defBody s__law_is_ratio) (defScope s__law_is_ratio) [] [] (He.ga K "_law_is_ratio") fd := t.d.def_ 43 (d := ⟨("_law_is_ratio", none), "_law_is_ratio", "_law_is_ratio", defArgs s__law_is_ratio, defBody s__law_is_ratio, defScope s__law_is_ratio, [], []⟩) rfl
theorem Tx.d__law_parted_pairs (t : Tx K mg) : ∃ fd, FunD K "_law_parted_pairs" "_law_parted_pairs" (defArgs s__law_parted_pairs) (defBody s__law_parted_pairs) (defScope s__law_parted_pairs) [] [] (He.ga K "_law_parted_pairs") fd := t.d.def_ 44 (d := ⟨("_law_parted_pairs", none), "_law_parted_pairs", "_law_parted_pairs", defArgs s__law_parted_pairs, defBody s__law_parted_pairs, defScope s__law_parted_pairs, [], []⟩) rfl
theorem Tx.d__law_right_at (t : Tx K mg) : ∃ fd, FunD K "_law_right_at" "_law_right_at" (defArgs s__law_right_at) (defBody s__law_right_at) (defScope s__law_right_at) [] [] (He.ga K "_law_right_at") fd := t.d.def_ 45 (d := ⟨("_law_right_at", none), "_law_right_at", "_law_right_at", defArgs s__law_right_at, defBody s__law_right_at, defScope s__law_right_at, [], []⟩) rfl
theorem Tx.d_law (t : Tx K mg) : ∃ fd, FunD K "law" "law" (defArgs s_law) (defBody s_law) (defScope s_law) [] [] (He.ga K "law") fd := t.d.def_ 46 (d := ⟨("law", none), "law", "law", defArgs s_law, defBody s_law, defScope s_law, [], []⟩) rfl
end
/-! ### calls -/
/-- the def named x keeps the promise sp -/
def Has (P : Program) (w : World) (K : PySem.W.Frag) (mg : Str → Option Value) (base : Heap) (k : Nat) (x : Str) (ps : List Str) (sp : Sp) : Prop :=
  ∃ f fd, FnOk P w K mg base CX0 k f fd ps sp ∧ Binds K fd ps [] ∧ PySem.W.keepIn K (.ref f) = true ∧ mg x = some (.ref f)
/-- .. the method m of the class named C -/
def HasM (P : Program) (w : World) (K : PySem.W.Frag) (mg : Str → Option Value) (base : Heap) (k : Nat) (C m : Str) (ps : List Str) (sp : Sp) : Prop :=
  ∃ f fd, FnOk P w K mg base CX0 k f fd ps sp ∧ Binds K fd ps [] ∧ Meth K (He.ga K C) m f ∧ Cls K (He.ga K C)
/-- .. the class C's __init__ -/
def HasC (P : Program) (w : World) (K : PySem.W.Frag) (mg : Str → Option Value) (base : Heap) (k : Nat) (C : Str) (ps : List Str) (sp : Sp) : Prop :=
  ∃ f fd, FnOk P w K mg base CX0 k f fd ps sp ∧ Binds K fd ps [] ∧ Mk K (He.ga K C) f ∧ mg C = some (.ref (He.ga K C))
section
variable {X : Cx} {k j : Nat} {x m C : Str} {ps : List Str} {sp : Sp} {p pos apos : Pos} {e o : Expr} {es : List Expr} {ta : TE} {t : TA}
theorem pe_f (h : Has X.prog X.w X.K X.mg X.base k x ps sp) (hr : Room j X.A) (hg : Gl X x) (ha : PA X (e :: es) t) (hk : k ≤ j := by decide) (hdb : (x == ("__debug__" : Str)) = false := by decide)
    (he : starEach (e :: es) X.env = (false, eval e X.env) :: starEach es X.env := by rfl) (hpl : (backTo pos (starEach es X.env)).any (·.1) = false := by rfl) : PE X (.Call (.Name x p) (e :: es) [] pos) (tCall sp [] E0 t) := by
  obtain ⟨f, fd, G, b, kp, g⟩ := h
  exact pe_call G (hr.mono hk) hg g kp b .nil pass0 ha hdb he hpl
theorem pe_m {pl : Sem Bool} {K : PySem.W.Frag} (h : HasM X.prog X.w K X.mg X.base k C m ps sp) (hr : Room j X.A) (ho : PE X o ta) (ha : PA X (e :: es) t) (hk : k ≤ j := by decide) (hK : K = X.K := by rfl)
    (hst : starEach (e :: es) X.env = (false, eval e X.env) :: starEach es X.env := by rfl) (hpl : (backTo pos (starEach es X.env)).any (·.1) = false := by rfl)
    (ht : eval (.Call (.Attribute o m apos) (e :: es) [] pos) X.env = (do
      let z ← eval o X.env
      standAt apos.atName
      let (y, u) ← holding [z] (getMethod z m pl)
      callWith pos y u (backTo pos (starEach (e :: es) X.env)) (backToKw pos (keywordEach [] X.env))) := by rfl) :
    PE X (.Call (.Attribute o m apos) (e :: es) [] pos) (tMeth (He.ga K C) m sp [] E0 ta t) := by
  subst hK
  obtain ⟨f, fd, G, b, me, c⟩ := h
  exact pe_meth ho c me G (hr.mono hk) b .nil pass0 ha hst hpl ht
theorem pe_mk {K : PySem.W.Frag} (h : HasC X.prog X.w K X.mg X.base k x ps sp) (hr : Room j X.A) (hg : Gl X x) (ha : PA X (e :: es) t) (hk : k + 1 ≤ j := by decide) (hK : K = X.K := by rfl) (hdb : (x == ("__debug__" : Str)) = false := by decide)
    (he : starEach (e :: es) X.env = (false, eval e X.env) :: starEach es X.env := by rfl) (hpl : (backTo pos (starEach es X.env)).any (·.1) = false := by rfl) : PE X (.Call (.Name x p) (e :: es) [] pos) (tMake (He.ga K x) sp [] E0 t) := by
  subst hK
  obtain ⟨f, fd, G, b, M, g⟩ := h
  exact pe_make M G (hr.mono hk) hg g b .nil pass0 ha hdb he hpl
end
/-! ### values in the heap -/
/-- a told ratio: a tuple in lowest terms -/
def Rt (H : Hp) (v : V) (q : Rat) : Prop := ∃ p, v = .ref p ∧ H p = some (.tup [.int q.num, .int q.den])
/-- a ratio as it may be passed, its numbers below 2 ^ n -/
def Rl (H : Hp) (n : Nat) (v : V) (q : Rat) : Prop := (∃ i : Int, v = .int i ∧ q = (i : Rat) ∧ i.natAbs < 2 ^ n) ∨
  ∃ (p : Addr) (a b : Int), v = .ref p ∧ H p = some (.tup [.int a, .int b]) ∧ 0 < b ∧ q = Rat.divInt a b ∧ a.natAbs < 2 ^ n ∧ b.natAbs < 2 ^ n
theorem Rt.same {H H' : Hp} (s : Same H H') {v : V} {q : Rat} (h : Rt H v q) : Rt H' v q := let ⟨p, e, z⟩ := h; ⟨p, e, s _ _ z⟩
theorem Rl.same {H H' : Hp} (s : Same H H') {n : Nat} {v : V} {q : Rat} (h : Rl H n v q) : Rl H' n v q := by
  rcases h with h | ⟨p, a, b, e, z, r⟩
  · exact .inl h
  · exact .inr ⟨p, a, b, e, s _ _ z, r⟩
theorem Rt.rl {H : Hp} {n : Nat} {v : V} {q : Rat} (h : Rt H v q) (s : Sz n q) : Rl H n v q := by
  obtain ⟨p, e, z⟩ := h
  exact .inr ⟨p, q.num, q.den, e, z, by have := q.den_pos; omega, (self_divInt q).symm, s.1, by rw [den_nat]; exact s.2⟩
theorem Rl.int {H : Hp} {n : Nat} {i : Int} (h : i.natAbs < 2 ^ n) : Rl H n (.int i) (i : Rat) := .inl ⟨i, rfl, rfl, h⟩
theorem Rl.sz {H : Hp} {n : Nat} (n0 : 0 < n) {v : V} {q : Rat} (h : Rl H n v q) : Sz n q := by
  rcases h with ⟨i, _, e, z⟩ | ⟨p, a, b, _, _, b0, e, s1, s2⟩
  · rw [e]
    exact Sz.int z n0
  · rw [e]
    exact Sz.low (by omega) s1 s2
theorem Rl.mono {H : Hp} {n m : Nat} (nm : n ≤ m) {v : V} {q : Rat} (h : Rl H n v q) : Rl H m v q := by
  rcases h with ⟨i, e, e2, z⟩ | ⟨p, a, b, e, z, b0, e2, s1, s2⟩
  · exact .inl ⟨i, e, e2, lt_mono z nm⟩
  · exact .inr ⟨p, a, b, e, z, b0, e2, lt_mono s1 nm, lt_mono s2 nm⟩
/-- two lists, item by item -/
def A2 {α : Type} (R : V → α → Prop) (vs : List V) (qs : List α) : Prop := vs.length = qs.length ∧ ∀ (i : Nat) (v : V) (q : α), vs[i]? = some v → qs[i]? = some q → R v q
section
variable {α : Type} {R R' : V → α → Prop} {vs : List V} {qs : List α}
theorem A2.imp (h : A2 R vs qs) (k : ∀ v q, R v q → R' v q) : A2 R' vs qs := ⟨h.1, fun i v q a b => k v q (h.2 i v q a b)⟩
theorem A2.nil : A2 R [] [] := ⟨rfl, fun i v q a _ => by simp at a⟩
theorem A2.snoc (h : A2 R vs qs) {v : V} {q : α} (r : R v q) : A2 R (vs ++ [v]) (qs ++ [q]) := by
  refine ⟨by rw [List.length_append, List.length_append, h.1]; rfl, fun i x y a b => ?_⟩
  rw [List.getElem?_append] at a b
  by_cases hi : i < vs.length
  · rw [if_pos hi] at a
    rw [if_pos (by rw [← h.1]; exact hi)] at b
    exact h.2 i x y a b
  · rw [if_neg hi] at a
    rw [if_neg (by rw [← h.1]; exact hi)] at b
    rw [h.1] at a
    cases e : i - qs.length with
    | zero =>
      rw [e] at a b
      cases a
      cases b
      exact r
    | succ n =>
      rw [e] at a
      simp at a
theorem A2.get (h : A2 R vs qs) {i : Nat} {v : V} (e : vs[i]? = some v) : ∃ q, qs[i]? = some q ∧ R v q := by
  have hi := (List.getElem?_eq_some_iff.mp e).1
  have hq : qs[i]? = some (qs[i]'(by rw [← h.1]; exact hi)) := List.getElem?_eq_getElem _
  exact ⟨_, hq, h.2 i _ _ e hq⟩
theorem A2.at (h : A2 R vs qs) {i : Nat} {q : α} (e : qs[i]? = some q) : ∃ v, vs[i]? = some v ∧ R v q := by
  have hi := (List.getElem?_eq_some_iff.mp e).1
  have hq : vs[i]? = some (vs[i]'(by rw [h.1]; exact hi)) := List.getElem?_eq_getElem _
  exact ⟨_, hq, h.2 i _ _ hq e⟩
theorem A2.set (h : A2 R vs qs) (i : Nat) {v : V} {q : α} (r : R v q) : A2 R (vs.set i v) (qs.set i q) := by
  refine ⟨by rw [List.length_set, List.length_set, h.1], fun j x y a b => ?_⟩
  by_cases e : i = j
  · subst e
    rw [List.getElem?_set] at a b
    simp only [if_true] at a b
    split at a <;> split at b <;> simp_all
  · rw [List.getElem?_set_ne e] at a b
    exact h.2 j x y a b
theorem A2.rev (h : A2 R vs qs) : A2 R vs.reverse qs.reverse := by
  refine ⟨by rw [List.length_reverse, List.length_reverse, h.1], fun j x y a b => ?_⟩
  have hj := (List.getElem?_eq_some_iff.mp a).1
  rw [List.length_reverse] at hj
  rw [List.getElem?_reverse hj] at a
  rw [List.getElem?_reverse (by rw [← h.1]; exact hj), ← h.1] at b
  exact h.2 _ x y a b
end
theorem same_new {H : Hp} {p : Addr} {o : HO} (h : H p = none) : Same H (upd H p o) := fun b x e => by
  rw [upd_ne (ne_of_none e h)]
  exact e
theorem ints_at {ns : List Int} {i : Nat} {v : V} (h : (ns.map V.int)[i]? = some v) : ∃ z, ns[i]? = some z ∧ v = .int z := by
  rw [List.getElem?_map] at h
  cases e : ns[i]? with
  | none =>
    rw [e] at h
    cases h
  | some z =>
    rw [e] at h
    exact ⟨z, rfl, (Option.some.inj h).symm⟩
theorem ints_get {ns : List Int} {i : Nat} {z : Int} (h : ns[i]? = some z) : (ns.map V.int)[i]? = some (.int z) := by
  rw [List.getElem?_map, h]
  rfl
end G
end
section
set_option Elab.async false
set_option linter.all false
set_option maxRecDepth 100000
set_option maxHeartbeats 1000000
/-! The ratios' defs. -/
namespace G
open PySem PySem.Spec PyProof.Rows L2
section
variable {P : Program} {w : World} {K : PySem.W.Frag} {mg : Str → Option Value} {base : Heap}
/-- a def's Has: it stands there, its arguments bind, its body keeps the promise -/
theorem has_of {k : Nat} {x qual : Str} {st : Stmt} {f : Addr} {N ps : List Str} {sp : Sp} (D : ∃ fd, FunD K x qual (defArgs st) (defBody st) (defScope st) [] [] f fd) (g : mg x = some (.ref f))
    (bd : ∀ (kV doc pm : Value) (an : Option Addr) (cdv ct : Value) (us : List Value), us.length = ps.length → bindArgs (PySem.W.fnOf x qual (defArgs st) (defBody st) (defScope st) .none kV doc pm an cdv ct) ⟨us, []⟩ = pure (ps.zip us))
    (S : FnScope N ps (defScope st)) (len : ∀ vs H Q E, sp vs H Q E → vs.length = ps.length)
    (body : ∀ (cdv : Value) (A : Around) (outer : List Env) (s : Shared) (H : Hp) (vs : List V) (Q : VK) (E : XK), Room k (A.deeper (envOfC qual (defScope st) s.heap.objs.size f cdv)) → sp vs H Q E →
      ∃ t, PSs (cxOf CX0 P w K mg base N qual (defScope st) f cdv A outer s H E).nox (defBody st) t ∧ t { nx := fun _ z => Q .non z, rt := Q } (start N vs) H) : Has P w K mg base (k + 1) x ps sp := by
  obtain ⟨fd, F⟩ := D
  refine ⟨f, fd, F.ok S len fun cdv A outer s H vs Q E hr h => ?_, F.bindsN bd, F.kp, g⟩
  obtain ⟨t, z, q⟩ := body cdv A outer s H vs Q E hr h
  exact ⟨t, z.nox, q⟩
/-! ### is_whole, is_ratio -/
def spIsWhole : Sp := fun vs H Q _ => ∃ i : Int, vs = [.int i] ∧ Q (.bl true) H
theorem sc_is_whole : FnScope ["thing"] ["thing"] (defScope s_is_whole) := ⟨rfl, rfl, rfl, by decide +kernel, rfl, by decide +kernel, by decide +kernel⟩
theorem ok_is_whole (T : Tx K mg) : Has P w K mg base 1 "is_whole" ["thing"] spIsWhole := by
  refine has_of T.d_is_whole T.g_is_whole (fun _ _ _ _ _ _ us hl => match us, hl with | [_], _ => rfl) sc_is_whole (fun vs H Q E h => ?_) (fun cdv A outer s H vs Q E hr h => ?_)
  · obtain ⟨i, rfl, _⟩ := h
    rfl
  · obtain ⟨i, rfl, q⟩ := h
    refine ⟨_, (pss_one (ps_ret (pe_and (pe_callB call_isi (by rfl) T.n_isinstance (by decide +kernel) (pa_cons (pv 0) (pa_cons (pe_bltn (v := .ty "int") (by rfl) T.n_int (by decide +kernel) rfl) pa_nil))) (pe_one (pe_not (pe_callB call_isi (by rfl) T.n_isinstance (by decide +kernel) (pa_cons (pv 0) (pa_cons (pe_bltn (v := .ty "bool") (by rfl) T.n_bool (by decide +kernel) rfl) pa_nil)))))))), ?_⟩
    refine ⟨_, rfl, _, _, _, _, _, rfl, .ty _, .base (.int _), kit_ty (b := "int") (r := true) (by decide +kernel), true, rfl, iteT ?_⟩
    refine ⟨_, rfl, _, _, _, _, _, rfl, .ty _, .base (.int _), kit_ty (b := "bool") (r := false) (by decide +kernel), false, rfl, q⟩
def spIsRatio : Sp := fun vs H Q _ => ∃ (n : Nat) (v : V) (q : Rat), vs = [v] ∧ Rl H n v q ∧ Q (.bl true) H
theorem sc_is_ratio : FnScope ["thing"] ["thing"] (defScope s_is_ratio) := ⟨rfl, rfl, rfl, by decide +kernel, rfl, by decide +kernel, by decide +kernel⟩
theorem ok_is_ratio (T : Tx K mg) : Has P w K mg base 2 "is_ratio" ["thing"] spIsRatio := by
  have h_is_whole : Has P w K mg base _ "is_whole" _ _ := ok_is_whole T
  refine has_of T.d_is_ratio T.g_is_ratio (fun _ _ _ _ _ _ us hl => match us, hl with | [_], _ => rfl) sc_is_ratio (fun vs H Q E h => ?_) (fun cdv A outer s H vs Q E hr h => ?_)
  · obtain ⟨n, v, q, rfl, _⟩ := h
    rfl
  · obtain ⟨n, v, q, rfl, hv, k⟩ := h
    refine ⟨_, (pss_cons (ps_if (pt_val (pe_callB call_isi (by rfl) T.n_isinstance (by decide +kernel) (pa_cons (pv 0) (pa_cons (pe_bltn (v := .ty "tuple") (by rfl) T.n_tuple (by decide +kernel) rfl) pa_nil))))
    (pss_one (ps_ret (pe_and (pe_cmpR op_eq (pe_callB call_len_seq (by rfl) T.n_len (by decide +kernel) (pa_cons (pv 0) pa_nil)) pe_int (nomark _)) (pe_and (pe_f h_is_whole hr (by rfl) (pa_cons (pe_ix ix_tup (pv 0) pe_int (fun _ _ => rfl)) pa_nil)) (pe_and (pe_f h_is_whole hr (by rfl) (pa_cons (pe_ix ix_tup (pv 0) pe_int (fun _ _ => rfl)) pa_nil)) (pe_one (pe_cmpR op_gt (pe_ix ix_tup (pv 0) pe_int (fun _ _ => rfl)) pe_int (nomark _))))))))
    pss_nil)
  (pss_one (ps_ret (pe_f h_is_whole hr (by rfl) (pa_cons (pv 0) pa_nil))))), ?_⟩
    rcases hv with ⟨i, rfl, _⟩ | ⟨p, a, b, rfl, hp, b0, _⟩
    · refine ⟨_, rfl, _, _, _, _, _, rfl, .ty _, .base (.int _), kit_ty (b := "tuple") (r := false) (by decide +kernel), false, rfl, iteF ?_⟩
      exact ⟨_, rfl, i, rfl, k⟩
    · have hs : SqT K H p [.int a, .int b] := .inl (.inl hp)
      refine ⟨_, rfl, _, _, _, _, _, rfl, .ty _, .base (.tup hp), kit_ty (b := "tuple") (r := true) (by decide +kernel), true, rfl, iteT ?_⟩
      refine ⟨_, rfl, p, _, rfl, .inr hs, rfl, true, ?_⟩
      refine ⟨rfl, iteT ?_⟩
      refine ⟨_, rfl, p, _, _, _, rfl, rfl, hs, atI_nat (j := 0) rfl, a, rfl, true, rfl, iteT ?_⟩
      refine ⟨_, rfl, p, _, _, _, rfl, rfl, hs, atI_nat (j := 1) rfl, b, rfl, true, rfl, iteT ?_⟩
      refine ⟨_, rfl, p, _, _, _, rfl, rfl, hs, atI_nat (j := 1) rfl, _, _, rfl, rfl, ?_⟩
      show Q (.bl (decide (0 < b))) H
      rw [decide_eq_true b0]
      exact k
/-! ### lowest_terms, ratio_of -/
def spLowest : Sp := fun vs H Q _ => ∃ a b : Int, vs = [.int a, .int b] ∧ 0 < b ∧ b.natAbs < 2 ^ 8900 ∧ ∀ (H' : Hp) (v : V), Same H H' → Rt H' v (Rat.divInt a b) → Q v H'
theorem sc_lowest_terms : FnScope ["top", "bottom", "common"] ["top", "bottom"] (defScope s_lowest_terms) := ⟨rfl, rfl, rfl, by decide +kernel, rfl, by decide +kernel, by decide +kernel⟩
theorem ok_lowest_terms (T : Tx K mg) : Has P w K mg base 1 "lowest_terms" ["top", "bottom"] spLowest := by
  refine has_of T.d_lowest_terms T.g_lowest_terms (fun _ _ _ _ _ _ us hl => match us, hl with | [_, _], _ => rfl) sc_lowest_terms (fun vs H Q E h => ?_) (fun cdv A outer s H vs Q E hr h => ?_)
  · obtain ⟨a, b, rfl, _⟩ := h
    rfl
  · obtain ⟨a, b, rfl, b0, hb, k⟩ := h
    refine ⟨_, (pss_cons (ps_set (i := 2) sc_lowest_terms.nd rfl (Or.inl rfl) (pe_callBfun cr_gcd (by rfl) T.gcd (pa_cons (pv 0) (pa_cons (pv 1) pa_nil))))
  (pss_cons (ps_if (pt_cmpR op_lt (pv 1) pe_int (nomark _))
    (pss_one (ps_set (i := 2) sc_lowest_terms.nd rfl (Or.inl rfl) (pe_un un_neg (pv 2))))
    pss_nil)
  (pss_one (ps_ret (pe_tup (pa_cons (pe_op op_fdivW (pv 0) (pv 2)) (pa_cons (pe_op op_fdivW (pv 1) (pv 2)) pa_nil))))))), ?_⟩
    have g0 := gcd_pos (a := a) b0
    have g1 := gcd_lt (a := a) b0 hb
    refine ⟨_, rfl, _, rfl, a, b, rfl, ?_⟩
    refine ⟨_, rfl, b, 0, rfl, rfl, _, rfl, ?_⟩
    rw [decide_eq_false (show ¬ b < 0 by omega)]
    refine iteF ?_
    refine ⟨_, rfl, _, rfl, a, _, rfl, rfl, wide_div g0 g1 (by decide) (by decide), _, rfl, _, rfl, b, _, rfl, rfl, wide_div g0 g1 (by decide) (by decide), ?_⟩
    refine ⟨by show 2 ≤ sizeLine; decide, fun p hp => k _ _ (same_new hp) ⟨p, rfl, ?_⟩⟩
    rw [← lowp_num b0, ← lowp_den b0]
    exact upd_same
def spRatioOf : Sp := fun vs H Q _ => ∃ (n : Nat) (v : V) (q : Rat), vs = [v] ∧ Rl H n v q ∧ n ≤ 8900 ∧ ∀ (H' : Hp) (u : V), Same H H' → Rt H' u q → Q u H'
theorem sc_ratio_of : FnScope ["thing"] ["thing"] (defScope s_ratio_of) := ⟨rfl, rfl, rfl, by decide +kernel, rfl, by decide +kernel, by decide +kernel⟩
theorem ok_ratio_of (T : Tx K mg) : Has P w K mg base 3 "ratio_of" ["thing"] spRatioOf := by
  have h_is_ratio : Has P w K mg base _ "is_ratio" _ _ := ok_is_ratio T
  have h_lowest_terms : Has P w K mg base _ "lowest_terms" _ _ := ok_lowest_terms T
  refine has_of T.d_ratio_of T.g_ratio_of (fun _ _ _ _ _ _ us hl => match us, hl with | [_], _ => rfl) sc_ratio_of (fun vs H Q E h => ?_) (fun cdv A outer s H vs Q E hr h => ?_)
  · obtain ⟨n, v, q, rfl, _⟩ := h
    rfl
  · obtain ⟨n, v, q, rfl, hv, hn, k⟩ := h
    refine ⟨_, (pss_cons (ps_if (pt_not (pt_val (pe_f h_is_ratio hr (by rfl) (pa_cons (pv 0) pa_nil))))
    (pss_one ps_never)
    pss_nil)
  (pss_cons (ps_if (pt_not (pt_val (pe_callB call_isi (by rfl) T.n_isinstance (by decide +kernel) (pa_cons (pv 0) (pa_cons (pe_bltn (v := .ty "tuple") (by rfl) T.n_tuple (by decide +kernel) rfl) pa_nil)))))
    (pss_one (ps_ret (pe_tup (pa_cons (pv 0) (pa_cons pe_int pa_nil)))))
    pss_nil)
  (pss_one (ps_ret (pe_f h_lowest_terms hr (by rfl) (pa_cons (pe_ix ix_tup (pv 0) pe_int (fun _ _ => rfl)) (pa_cons (pe_ix ix_tup (pv 0) pe_int (fun _ _ => rfl)) pa_nil))))))), ?_⟩
    refine ⟨_, rfl, n, _, q, rfl, hv, true, rfl, iteF ?_⟩
    rcases hv with ⟨i, rfl, rfl, _⟩ | ⟨p, a, b, rfl, hp, b0, rfl, ha, hb⟩
    · refine ⟨_, rfl, _, _, _, _, _, rfl, .ty _, .base (.int _), kit_ty (b := "tuple") (r := false) (by decide +kernel), false, rfl, iteT ?_⟩
      exact ⟨_, rfl, by show 2 ≤ sizeLine; decide, fun p hp => k _ _ (same_new hp) ⟨p, rfl, upd_same⟩⟩
    · have hs : SqT K H p [.int a, .int b] := .inl (.inl hp)
      refine ⟨_, rfl, _, _, _, _, _, rfl, .ty _, .base (.tup hp), kit_ty (b := "tuple") (r := true) (by decide +kernel), true, rfl, iteF ?_⟩
      exact ⟨_, rfl, p, _, _, _, rfl, rfl, hs, atI_nat (j := 0) rfl, _, rfl, p, _, _, _, rfl, rfl, hs, atI_nat (j := 1) rfl, a, b, rfl, b0, lt_mono hb hn, k⟩
end
end G
end
section
set_option Elab.async false
set_option linter.all false
set_option maxRecDepth 100000
set_option maxHeartbeats 1000000
set_option exponentiation.threshold 100000
/-! plus, minus, times, over, compare. -/
namespace G
open PySem PySem.Spec PyProof.Rows L2
section
variable {P : Program} {w : World} {K : PySem.W.Frag} {mg : Str → Option Value} {base : Heap}
def spTwo (f : Rat → Rat → Rat) (z : Nat → Nat → Nat) (ok : Rat → Rat → Prop) : Sp := fun vs H Q _ => ∃ (n m : Nat) (x y : V) (q r : Rat), vs = [x, y] ∧ Rl H n x q ∧ Rl H m y r ∧ 0 < n ∧ 0 < m ∧ z n m ≤ 8900 ∧ ok q r ∧ ∀ (H' : Hp) (v : V), Same H H' → Rt H' v (f q r) → Q v H'
theorem Two.len {f : Rat → Rat → Rat} {z : Nat → Nat → Nat} {ok : Rat → Rat → Prop} (vs : List V) (H : Hp) (Q : VK) (E : XK) (h : spTwo f z ok vs H Q E) : vs.length = 2 := by
  obtain ⟨n, m, x, y, q, r, rfl, _⟩ := h
  rfl
theorem sc_plus : FnScope ["one", "other", "a", "b", "c", "d"] ["one", "other"] (defScope s_plus) := ⟨rfl, rfl, rfl, by decide +kernel, rfl, by decide +kernel, by decide +kernel⟩
abbrev sp_plus : Sp := spTwo (fun q r => q + r) (fun n m => n + m) (fun _ _ => True)
theorem ok_plus (T : Tx K mg) : Has P w K mg base 4 "plus" ["one", "other"] sp_plus := by
  have h_ratio_of : Has P w K mg base _ "ratio_of" _ _ := ok_ratio_of T
  have h_lowest_terms : Has P w K mg base _ "lowest_terms" _ _ := ok_lowest_terms T
  refine has_of T.d_plus T.g_plus (fun _ _ _ _ _ _ us hl => match us, hl with | [_, _], _ => rfl) sc_plus Two.len (fun cdv A outer s H vs Q E hr h => ?_)
  obtain ⟨n, m, x, y, q, r, rfl, hx, hy, n0, m0, hz, hok, k⟩ := h
  replace hz : n + m ≤ 8900 := hz
  have zx := hx.sz n0
  have zy := hy.sz m0
  refine ⟨_, (pss_cons (ps_asg (pe_f h_ratio_of hr (by rfl) (pa_cons (pv 0) pa_nil)) (pg_tup (by rfl) (pgs_cons (pg_name (i := 2) sc_plus.nd rfl (Or.inl rfl)) (pgs_cons (pg_name (i := 3) sc_plus.nd rfl (Or.inl rfl)) pgs_nil))))
  (pss_cons (ps_asg (pe_f h_ratio_of hr (by rfl) (pa_cons (pv 1) pa_nil)) (pg_tup (by rfl) (pgs_cons (pg_name (i := 4) sc_plus.nd rfl (Or.inl rfl)) (pgs_cons (pg_name (i := 5) sc_plus.nd rfl (Or.inl rfl)) pgs_nil))))
  (pss_one (ps_ret (pe_f h_lowest_terms hr (by rfl) (pa_cons (pe_op op_add (pe_op op_mulW (pv 2) (pv 5)) (pe_op op_mulW (pv 4) (pv 3))) (pa_cons (pe_op op_mulW (pv 3) (pv 5)) pa_nil))))))), ?_⟩
  refine ⟨_, rfl, n, _, q, rfl, hx, (by omega), fun H1 u s1 hu => ?_⟩
  obtain ⟨p1, rfl, e1⟩ := hu
  refine ⟨p1, _, rfl, .inl (.inl e1), rfl, _, _, rfl, _, _, rfl, rfl, ?_⟩
  refine ⟨_, rfl, m, _, r, rfl, hy.same s1, (by omega), fun H2 u s2 hu => ?_⟩
  obtain ⟨p2, rfl, e2⟩ := hu
  refine ⟨p2, _, rfl, .inl (.inl e2), rfl, _, _, rfl, _, _, rfl, rfl, ?_⟩
  have dq := q.den_pos
  have dr := r.den_pos
  skip
  refine ⟨_, rfl, _, rfl, _, _, rfl, rfl, wide_mul zx.1 (by rw [den_nat]; exact zy.2) (by omega) (by omega) (by omega), _, rfl, _, rfl, _, _, rfl, rfl, wide_mul zy.1 (by rw [den_nat]; exact zx.2) (by omega) (by omega) (by omega), _, _, rfl, rfl, _, rfl, _, rfl, _, _, rfl, rfl, wide_mul (by rw [den_nat]; exact zx.2) (by rw [den_nat]; exact zy.2) (by omega) (by omega) (by omega), _, _, rfl, Int.mul_pos (by omega) (by omega), lt_mono (imul_lt (by rw [den_nat]; exact zx.2) (by rw [den_nat]; exact zy.2)) (by omega), fun H3 v s3 hv => ?_⟩
  rw [plus_eq] at hv
  exact k H3 v ((s1.trans s2).trans s3) hv
theorem sc_minus : FnScope ["one", "other", "a", "b", "c", "d"] ["one", "other"] (defScope s_minus) := ⟨rfl, rfl, rfl, by decide +kernel, rfl, by decide +kernel, by decide +kernel⟩
abbrev sp_minus : Sp := spTwo (fun q r => q - r) (fun n m => n + m) (fun _ _ => True)
theorem ok_minus (T : Tx K mg) : Has P w K mg base 4 "minus" ["one", "other"] sp_minus := by
  have h_ratio_of : Has P w K mg base _ "ratio_of" _ _ := ok_ratio_of T
  have h_lowest_terms : Has P w K mg base _ "lowest_terms" _ _ := ok_lowest_terms T
  refine has_of T.d_minus T.g_minus (fun _ _ _ _ _ _ us hl => match us, hl with | [_, _], _ => rfl) sc_minus Two.len (fun cdv A outer s H vs Q E hr h => ?_)
  obtain ⟨n, m, x, y, q, r, rfl, hx, hy, n0, m0, hz, hok, k⟩ := h
  replace hz : n + m ≤ 8900 := hz
  have zx := hx.sz n0
  have zy := hy.sz m0
  refine ⟨_, (pss_cons (ps_asg (pe_f h_ratio_of hr (by rfl) (pa_cons (pv 0) pa_nil)) (pg_tup (by rfl) (pgs_cons (pg_name (i := 2) sc_minus.nd rfl (Or.inl rfl)) (pgs_cons (pg_name (i := 3) sc_minus.nd rfl (Or.inl rfl)) pgs_nil))))
  (pss_cons (ps_asg (pe_f h_ratio_of hr (by rfl) (pa_cons (pv 1) pa_nil)) (pg_tup (by rfl) (pgs_cons (pg_name (i := 4) sc_minus.nd rfl (Or.inl rfl)) (pgs_cons (pg_name (i := 5) sc_minus.nd rfl (Or.inl rfl)) pgs_nil))))
  (pss_one (ps_ret (pe_f h_lowest_terms hr (by rfl) (pa_cons (pe_op op_sub (pe_op op_mulW (pv 2) (pv 5)) (pe_op op_mulW (pv 4) (pv 3))) (pa_cons (pe_op op_mulW (pv 3) (pv 5)) pa_nil))))))), ?_⟩
  refine ⟨_, rfl, n, _, q, rfl, hx, (by omega), fun H1 u s1 hu => ?_⟩
  obtain ⟨p1, rfl, e1⟩ := hu
  refine ⟨p1, _, rfl, .inl (.inl e1), rfl, _, _, rfl, _, _, rfl, rfl, ?_⟩
  refine ⟨_, rfl, m, _, r, rfl, hy.same s1, (by omega), fun H2 u s2 hu => ?_⟩
  obtain ⟨p2, rfl, e2⟩ := hu
  refine ⟨p2, _, rfl, .inl (.inl e2), rfl, _, _, rfl, _, _, rfl, rfl, ?_⟩
  have dq := q.den_pos
  have dr := r.den_pos
  skip
  refine ⟨_, rfl, _, rfl, _, _, rfl, rfl, wide_mul zx.1 (by rw [den_nat]; exact zy.2) (by omega) (by omega) (by omega), _, rfl, _, rfl, _, _, rfl, rfl, wide_mul zy.1 (by rw [den_nat]; exact zx.2) (by omega) (by omega) (by omega), _, _, rfl, rfl, _, rfl, _, rfl, _, _, rfl, rfl, wide_mul (by rw [den_nat]; exact zx.2) (by rw [den_nat]; exact zy.2) (by omega) (by omega) (by omega), _, _, rfl, Int.mul_pos (by omega) (by omega), lt_mono (imul_lt (by rw [den_nat]; exact zx.2) (by rw [den_nat]; exact zy.2)) (by omega), fun H3 v s3 hv => ?_⟩
  rw [minus_eq] at hv
  exact k H3 v ((s1.trans s2).trans s3) hv
theorem sc_times : FnScope ["one", "other", "a", "b", "c", "d"] ["one", "other"] (defScope s_times) := ⟨rfl, rfl, rfl, by decide +kernel, rfl, by decide +kernel, by decide +kernel⟩
abbrev sp_times : Sp := spTwo (fun q r => q * r) (fun n m => n + m) (fun _ _ => True)
theorem ok_times (T : Tx K mg) : Has P w K mg base 4 "times" ["one", "other"] sp_times := by
  have h_ratio_of : Has P w K mg base _ "ratio_of" _ _ := ok_ratio_of T
  have h_lowest_terms : Has P w K mg base _ "lowest_terms" _ _ := ok_lowest_terms T
  refine has_of T.d_times T.g_times (fun _ _ _ _ _ _ us hl => match us, hl with | [_, _], _ => rfl) sc_times Two.len (fun cdv A outer s H vs Q E hr h => ?_)
  obtain ⟨n, m, x, y, q, r, rfl, hx, hy, n0, m0, hz, hok, k⟩ := h
  replace hz : n + m ≤ 8900 := hz
  have zx := hx.sz n0
  have zy := hy.sz m0
  refine ⟨_, (pss_cons (ps_asg (pe_f h_ratio_of hr (by rfl) (pa_cons (pv 0) pa_nil)) (pg_tup (by rfl) (pgs_cons (pg_name (i := 2) sc_times.nd rfl (Or.inl rfl)) (pgs_cons (pg_name (i := 3) sc_times.nd rfl (Or.inl rfl)) pgs_nil))))
  (pss_cons (ps_asg (pe_f h_ratio_of hr (by rfl) (pa_cons (pv 1) pa_nil)) (pg_tup (by rfl) (pgs_cons (pg_name (i := 4) sc_times.nd rfl (Or.inl rfl)) (pgs_cons (pg_name (i := 5) sc_times.nd rfl (Or.inl rfl)) pgs_nil))))
  (pss_one (ps_ret (pe_f h_lowest_terms hr (by rfl) (pa_cons (pe_op op_mulW (pv 2) (pv 4)) (pa_cons (pe_op op_mulW (pv 3) (pv 5)) pa_nil))))))), ?_⟩
  refine ⟨_, rfl, n, _, q, rfl, hx, (by omega), fun H1 u s1 hu => ?_⟩
  obtain ⟨p1, rfl, e1⟩ := hu
  refine ⟨p1, _, rfl, .inl (.inl e1), rfl, _, _, rfl, _, _, rfl, rfl, ?_⟩
  refine ⟨_, rfl, m, _, r, rfl, hy.same s1, (by omega), fun H2 u s2 hu => ?_⟩
  obtain ⟨p2, rfl, e2⟩ := hu
  refine ⟨p2, _, rfl, .inl (.inl e2), rfl, _, _, rfl, _, _, rfl, rfl, ?_⟩
  have dq := q.den_pos
  have dr := r.den_pos
  skip
  refine ⟨_, rfl, _, rfl, _, _, rfl, rfl, wide_mul zx.1 zy.1 (by omega) (by omega) (by omega), _, rfl, _, rfl, _, _, rfl, rfl, wide_mul (by rw [den_nat]; exact zx.2) (by rw [den_nat]; exact zy.2) (by omega) (by omega) (by omega), _, _, rfl, Int.mul_pos (by omega) (by omega), lt_mono (imul_lt (by rw [den_nat]; exact zx.2) (by rw [den_nat]; exact zy.2)) (by omega), fun H3 v s3 hv => ?_⟩
  rw [times_eq] at hv
  exact k H3 v ((s1.trans s2).trans s3) hv
theorem sc_over : FnScope ["one", "other", "a", "b", "c", "d"] ["one", "other"] (defScope s_over) := ⟨rfl, rfl, rfl, by decide +kernel, rfl, by decide +kernel, by decide +kernel⟩
abbrev sp_over : Sp := spTwo (fun q r => q / r) (fun n m => n + m) (fun _ r => 0 < r.num)
theorem ok_over (T : Tx K mg) : Has P w K mg base 4 "over" ["one", "other"] sp_over := by
  have h_ratio_of : Has P w K mg base _ "ratio_of" _ _ := ok_ratio_of T
  have h_lowest_terms : Has P w K mg base _ "lowest_terms" _ _ := ok_lowest_terms T
  refine has_of T.d_over T.g_over (fun _ _ _ _ _ _ us hl => match us, hl with | [_, _], _ => rfl) sc_over Two.len (fun cdv A outer s H vs Q E hr h => ?_)
  obtain ⟨n, m, x, y, q, r, rfl, hx, hy, n0, m0, hz, hok, k⟩ := h
  replace hz : n + m ≤ 8900 := hz
  have zx := hx.sz n0
  have zy := hy.sz m0
  refine ⟨_, (pss_cons (ps_asg (pe_f h_ratio_of hr (by rfl) (pa_cons (pv 0) pa_nil)) (pg_tup (by rfl) (pgs_cons (pg_name (i := 2) sc_over.nd rfl (Or.inl rfl)) (pgs_cons (pg_name (i := 3) sc_over.nd rfl (Or.inl rfl)) pgs_nil))))
  (pss_cons (ps_asg (pe_f h_ratio_of hr (by rfl) (pa_cons (pv 1) pa_nil)) (pg_tup (by rfl) (pgs_cons (pg_name (i := 4) sc_over.nd rfl (Or.inl rfl)) (pgs_cons (pg_name (i := 5) sc_over.nd rfl (Or.inl rfl)) pgs_nil))))
  (pss_cons (ps_if (pt_cmpR op_eq (pv 4) pe_int (nomark _))
    (pss_one ps_never)
    pss_nil)
  (pss_one (ps_ret (pe_f h_lowest_terms hr (by rfl) (pa_cons (pe_op op_mulW (pv 2) (pv 5)) (pa_cons (pe_op op_mulW (pv 3) (pv 4)) pa_nil)))))))), ?_⟩
  refine ⟨_, rfl, n, _, q, rfl, hx, (by omega), fun H1 u s1 hu => ?_⟩
  obtain ⟨p1, rfl, e1⟩ := hu
  refine ⟨p1, _, rfl, .inl (.inl e1), rfl, _, _, rfl, _, _, rfl, rfl, ?_⟩
  refine ⟨_, rfl, m, _, r, rfl, hy.same s1, (by omega), fun H2 u s2 hu => ?_⟩
  obtain ⟨p2, rfl, e2⟩ := hu
  refine ⟨p2, _, rfl, .inl (.inl e2), rfl, _, _, rfl, _, _, rfl, rfl, ?_⟩
  have dq := q.den_pos
  have dr := r.den_pos
  refine ⟨_, rfl, rfl, _, rfl, ?_⟩
  rw [decide_eq_false (show ¬ (V.int r.num = V.int 0) from fun z => by have := V.int.inj z; omega)]
  refine iteF ?_
  refine ⟨_, rfl, _, rfl, _, _, rfl, rfl, wide_mul zx.1 (by rw [den_nat]; exact zy.2) (by omega) (by omega) (by omega), _, rfl, _, rfl, _, _, rfl, rfl, wide_mul (by rw [den_nat]; exact zx.2) zy.1 (by omega) (by omega) (by omega), _, _, rfl, Int.mul_pos (by omega) hok, lt_mono (imul_lt (by rw [den_nat]; exact zx.2) zy.1) (by omega), fun H3 v s3 hv => ?_⟩
  rw [over_eq] at hv
  exact k H3 v ((s1.trans s2).trans s3) hv
theorem sc_compare : FnScope ["one", "other", "a", "b", "c", "d", "left", "right"] ["one", "other"] (defScope s_compare) := ⟨rfl, rfl, rfl, by decide +kernel, rfl, by decide +kernel, by decide +kernel⟩
def sp_compare : Sp := fun vs H Q _ => ∃ (n m : Nat) (x y : V) (q r : Rat), vs = [x, y] ∧ Rl H n x q ∧ Rl H m y r ∧ 0 < n ∧ 0 < m ∧ n + m ≤ 8900 ∧ ∀ H' : Hp, Same H H' → Q (.int (cmp q r)) H'
theorem ok_compare (T : Tx K mg) : Has P w K mg base 4 "compare" ["one", "other"] sp_compare := by
  have h_ratio_of : Has P w K mg base _ "ratio_of" _ _ := ok_ratio_of T
  refine has_of T.d_compare T.g_compare (fun _ _ _ _ _ _ us hl => match us, hl with | [_, _], _ => rfl) sc_compare (fun vs H Q E h => ?_) (fun cdv A outer s H vs Q E hr h => ?_)
  · obtain ⟨n, m, x, y, q, r, rfl, _⟩ := h
    rfl
  obtain ⟨n, m, x, y, q, r, rfl, hx, hy, n0, m0, hz, k⟩ := h
  have zx := hx.sz n0
  have zy := hy.sz m0
  refine ⟨_, (pss_cons (ps_asg (pe_f h_ratio_of hr (by rfl) (pa_cons (pv 0) pa_nil)) (pg_tup (by rfl) (pgs_cons (pg_name (i := 2) sc_compare.nd rfl (Or.inl rfl)) (pgs_cons (pg_name (i := 3) sc_compare.nd rfl (Or.inl rfl)) pgs_nil))))
  (pss_cons (ps_asg (pe_f h_ratio_of hr (by rfl) (pa_cons (pv 1) pa_nil)) (pg_tup (by rfl) (pgs_cons (pg_name (i := 4) sc_compare.nd rfl (Or.inl rfl)) (pgs_cons (pg_name (i := 5) sc_compare.nd rfl (Or.inl rfl)) pgs_nil))))
  (pss_cons (ps_set (i := 6) sc_compare.nd rfl (Or.inl rfl) (pe_op op_mulW (pv 2) (pv 5)))
  (pss_cons (ps_set (i := 7) sc_compare.nd rfl (Or.inl rfl) (pe_op op_mulW (pv 4) (pv 3)))
  (pss_cons (ps_if (pt_cmpR op_lt (pv 6) (pv 7) (nomark _))
    (pss_one (ps_ret (pe_un un_neg pe_int)))
    pss_nil)
  (pss_one (ps_ret (pe_ifExp (pt_cmpR op_gt (pv 6) (pv 7) (nomark _)) pe_int pe_int)))))))), ?_⟩
  refine ⟨_, rfl, n, _, q, rfl, hx, (by omega), fun H1 u s1 hu => ?_⟩
  obtain ⟨p1, rfl, e1⟩ := hu
  refine ⟨p1, _, rfl, .inl (.inl e1), rfl, _, _, rfl, _, _, rfl, rfl, ?_⟩
  refine ⟨_, rfl, m, _, r, rfl, hy.same s1, (by omega), fun H2 u s2 hu => ?_⟩
  obtain ⟨p2, rfl, e2⟩ := hu
  refine ⟨p2, _, rfl, .inl (.inl e2), rfl, _, _, rfl, _, _, rfl, rfl, ?_⟩
  have k2 := k H2 (s1.trans s2)
  refine ⟨_, rfl, _, rfl, _, _, rfl, rfl, wide_mul zx.1 (by rw [den_nat]; exact zy.2) (by omega) (by omega) (by omega), ?_⟩
  refine ⟨_, rfl, _, rfl, _, _, rfl, rfl, wide_mul zy.1 (by rw [den_nat]; exact zx.2) (by omega) (by omega) (by omega), ?_⟩
  refine ⟨_, rfl, _, rfl, _, _, rfl, rfl, _, rfl, ?_⟩
  rcases cmp_cases q r with ⟨h1, e⟩ | ⟨h1, h2, e⟩ | ⟨h1, h2, e⟩
  · rw [decide_eq_true h1]
    refine iteT ⟨_, rfl, ?_⟩
    rw [e] at k2
    exact k2
  · rw [decide_eq_false h1]
    refine iteF ⟨_, rfl, _, rfl, _, _, rfl, rfl, _, rfl, ?_⟩
    rw [decide_eq_true h2]
    rw [e] at k2
    exact iteT k2
  · rw [decide_eq_false h1]
    refine iteF ⟨_, rfl, _, rfl, _, _, rfl, rfl, _, rfl, ?_⟩
    rw [decide_eq_false h2]
    rw [e] at k2
    exact iteF k2
end
end G
end
section
set_option Elab.async false
set_option linter.all false
set_option maxRecDepth 100000
set_option maxHeartbeats 1000000
set_option exponentiation.threshold 100000
/-! Rules of our own: lcm, len by an own __len__, max and min of a tuple of ints, walks over a list or a tuple. -/
namespace G
open PySem PySem.Spec PyProof.Rows L2
section
variable {X : Cx}
/-! ### math.lcm -/
def rLcm : List V → Hp → VK → Prop := fun zs H Q => ∃ a b : Int, zs = [.int a, .int b] ∧ a.natAbs < 2 ^ 4000 ∧ b.natAbs < 2 ^ 4000 ∧ Q (.int ((Nat.lcm a.natAbs b.natAbs : Nat) : Int)) H
theorem lcm_le (m n : Nat) : m.lcm n ≤ m * n := by
  unfold Nat.lcm
  exact Nat.div_le_self _ _
theorem log_le {n k : Nat} (h : n < 2 ^ (k + 1)) : n.log2 ≤ k := by
  by_cases z : n = 0
  · rw [z, Nat.log2_zero]
    exact Nat.zero_le k
  · exact Nat.lt_succ_iff.mp ((Nat.log2_lt z).mpr h)
theorem cr_lcm : CallR X (.builtin "math.lcm") rLcm := by
  intro pins s σ H zs us Q I r h
  obtain ⟨a, b, rfl, ha, hb, q⟩ := h
  obtain ⟨t, u, rfl⟩ := Vals.int2 r
  have e : (Nat.lcm 1 a.natAbs).lcm b.natAbs = a.natAbs.lcm b.natAbs := by
    have : Nat.lcm 1 a.natAbs = a.natAbs := by simp [Nat.lcm]
    rw [this]
  have one : 1 < 2 ^ 4000 := Nat.one_lt_two_pow (by decide)
  have l1 : (max 1 a.natAbs).log2 ≤ 3999 := log_le (Nat.max_lt.mpr ⟨one, ha⟩)
  have l2 : (max a.natAbs b.natAbs).log2 ≤ 3999 := log_le (Nat.max_lt.mpr ⟨ha, hb⟩)
  have l3 : ((((Nat.lcm 1 a.natAbs).lcm b.natAbs : Nat) : Int)).natAbs.log2 < bitsLine := by
    rw [Int.natAbs_natCast, e]
    refine Nat.lt_of_le_of_lt (log_le (k := 7999) (Nat.lt_of_le_of_lt (lcm_le _ _) (show a.natAbs * b.natAbs < 2 ^ (7999 + 1) from nmul_lt (n := 4000) (m := 4000) ha hb))) ?_
    decide
  have z := PySem.W.mg_run_lcm a t b u (by omega) (by omega) l3
  refine call_function_meets PySem.W.MGF.kind_lcm PySem.W.MGF.plain_lcm PySem.W.MGF.entry_lcm (PySem.W.MGF.args_lcm _ _) z.meets ?_
  exact ⟨.int _, H, I.tok _, ⟨_, rfl⟩, by rw [e]; exact q⟩
/-! ### max, min of a tuple of ints: some int -/
def rMaxT (K : PySem.W.Frag) : List V → Hp → VK → Prop := fun zs H Q => ∃ (a : Addr) (ns : List Int), zs = [V.ref a] ∧ SqT K H a (ns.map V.int) ∧ 0 < ns.length ∧ ∀ m : Int, Q (.int m) H
theorem dps_ints {K : PySem.W.Frag} {H : Hp} : ∀ ns : List Int, DpAll K H (ns.map V.int) (ns.map PyData.int)
  | [] => .nil
  | n :: r => .cons (.int n) (dps_ints r)
theorem vint {ns : List Int} {us : List Value} (r : Vals (ns.map V.int) us) {i : Nat} {v : Value} (h : us.toArray[i]? = some v) : ∃ (m : Int) (t : Tok), v = .int m t := by
  have h2 : us[i]? = some v := by simpa using h
  have hi := (List.getElem?_eq_some_iff.mp h2).1
  rw [← r.length, List.length_map] at hi
  obtain ⟨x, e, z⟩ := r.get (ints_get (List.getElem?_eq_getElem hi))
  rw [h2] at e
  cases e
  obtain ⟨t, z⟩ := z
  exact ⟨_, t, z⟩
theorem depth_ints : ∀ ns : List Int, PyData.depthAll (ns.map PyData.int) ≤ 1
  | [] => by simp [PyData.depthAll]
  | n :: r => by
    have := depth_ints r
    simp [PyData.depthAll, PyData.depth]
    omega
theorem cr_maxT (hc : X.calm = true) (hu : X.A.units + 3 < cLine) : CallR X (.builtin "max") (rMaxT X.K) := by
  intro pins s σ H zs us Q I r h
  obtain ⟨a, ns, rfl, hs, hne, q⟩ := h
  obtain ⟨its, rv, p, _⟩ := I.tuple hs
  rw [Vals.ref1 r]
  obtain ⟨as, rs⟩ := Dp.readsAll I _ _ its (dps_ints ns) rv
  cases ns with
  | nil => exact absurd hne (by decide)
  | cons n r =>
    refine PySem.W.max_tuple_datum (α := Int) (x := n) (xs := r) (I.ok.hd hc) (show s.heap.IsTuple a its.toArray from p) ⟨as, rs⟩ (by show X.A.units + 1 + 0 < cLine; omega) fun i v h' tk e _ hk => ?_
    obtain ⟨m, t, rfl⟩ := vint rv e
    exact ⟨.int m, H, I.kept hk, ⟨_, rfl⟩, q m⟩
theorem cr_minT (hc : X.calm = true) (hu : X.A.units + 3 < cLine) : CallR X (.builtin "min") (rMaxT X.K) := by
  intro pins s σ H zs us Q I r h
  obtain ⟨a, ns, rfl, hs, hne, q⟩ := h
  obtain ⟨its, rv, p, _⟩ := I.tuple hs
  rw [Vals.ref1 r]
  obtain ⟨as, rs⟩ := Dp.readsAll I _ _ its (dps_ints ns) rv
  cases ns with
  | nil => exact absurd hne (by decide)
  | cons n r =>
    refine PySem.W.min_tuple_datum (α := Int) (x := n) (xs := r) (I.ok.hd hc) (show s.heap.IsTuple a its.toArray from p) ⟨as, rs⟩ (by show X.A.units + 1 + 0 < cLine; omega) fun i v h' tk e _ hk => ?_
    obtain ⟨m, t, rfl⟩ := vint rv e
    exact ⟨.int m, H, I.kept hk, ⟨_, rfl⟩, q m⟩
/-! ### one of two readings -/
theorem pe_or2 {e : Expr} {t1 t2 : TE} (h1 : PE X e t1) (h2 : PE X e t2) : PE X e (fun σ H Q => t1 σ H Q ∨ t2 σ H Q) :=
  ⟨fun pins s σ H Q I h => h.elim (h1.run pins s σ H Q I) (h2.run pins s σ H Q I)⟩
theorem pi_or2 {tg e : Expr} {t1 t2 : TI} (h1 : PI X tg e t1) (h2 : PI X tg e t2) : PI X tg e (fun σ H R => t1 σ H R ∨ t2 σ H R) :=
  ⟨fun pins s σ H R I h => h.elim (h1.run pins s σ H R I) (h2.run pins s σ H R I)⟩
/-! ### len by an own __len__ -/
def rLenO (K : PySem.W.Frag) (C : Str) (sp : Sp) : List V → Hp → VK → Prop := fun zs H Q => ∃ (p dx : Addr) (fs : List (Str × V)), zs = [.ref p] ∧ H p = some (.ins (He.ga K C) dx fs) ∧ sp [.ref p] H (fun v z => ∃ n : Int, v = .int n ∧ 0 ≤ n ∧ n < 2 ^ 63 ∧ Q v z) E0
theorem call_lenO {k j : Nat} {C : Str} {sp : Sp} (h : HasM X.prog X.w X.K X.mg X.base k C "__len__" ["self"] sp) (hr : Room j X.A) (hk : k + 1 ≤ j := by decide) : CallR X (.builtin "len") (rLenO X.K C sp) := by
  intro pins s σ H zs us Q I r hq
  obtain ⟨p, dx, fs, rfl, hp, q⟩ := hq
  obtain ⟨f, fd, G, b, me, c⟩ := h
  rw [Vals.ref1 r]
  obtain ⟨m, fr⟩ := I.fr
  obtain ⟨mA, O, _⟩ := ins_get I.hok hp
  obtain ⟨od, J, _⟩ := O.look
  refine PySem.W.len_K fr I.mod.kin J me.at_ me.fn ?_
  have hl : ([Value.ref p] ++ ([] : List Value)).length = ["self"].length := rfl
  refine wpAny_call (codeAny_mono (G.run X.A.in1 X.stack s H ⟨[.ref p], []⟩ ([.ref p] ++ []) [.ref p] _ E0 (Room.in1 (hr.mono hk)) I.env0.in1 (b s [.ref p] I.kIn hl) (show Vals [V.ref p] [Value.ref p] from .cons rfl .nil) q) fun res s' z => ?_)
  cases res with
  | error e => exact z.elim
  | ok fl =>
    cases fl with
    | ret u =>
      obtain ⟨v, H2, I2, rv, n, rfl, n0, n1, q2⟩ := I.after z
      obtain ⟨t, rfl⟩ := rv
      exact ⟨⟨n0, n1⟩, ⟨.int n, H2, I2.tok _, ⟨_, rfl⟩, q2⟩⟩
    | next => exact z.elim
    | brk => exact z.elim
    | cont => exact z.elim
end
end G
end
section
set_option Elab.async false
set_option linter.all false
set_option maxRecDepth 100000
set_option maxHeartbeats 2000000
/-! Rules of our own: enumerate over a tuple, list.remove of data. -/
namespace G
open PySem PySem.Spec PyProof.Rows L2
/-! ### enumerate(t), t a tuple -/
theorem enum_mk (t : Addr) (o : Obj) (items : Array Value) (n : Nat) (oc : o.cls = .type "tuple") (od : o.data = .seq items n) :
    Meets (Builtin.«enumerate.__new__» ⟨[.type "enumerate", .ref t], []⟩) (fun _ Z c => c.heap.get? t = some o ∧
      Z (.ok (.ret (.ref (c.heap.push { cls := .type "tuple_iterator", data := .fields #[.ref t, .int 0 0] }).objs.size))) { c with heap := (c.heap.push { cls := .type "tuple_iterator", data := .fields #[.ref t, .int 0 0] }).push { cls := .type "enumerate", data := .fields #[.none, .bool false, .ref c.heap.objs.size, rawInt 0, .none, .none] } }) :=
  .of_wp fun prog w A Z c h => by
    obtain ⟨hp, g, d, tk, os⟩ := c
    obtain ⟨ht, h⟩ := h
    have sub := sub_enumerate
    have hT : Heap.IsTuple (Shared.heap ⟨hp, g, d, tk, os⟩) t items := ⟨o, ht, oc, n, od⟩
    wp_walk using AutoSeq1.wpAny_loadPart' ht, wpAny_pyIter_tuple hT
    refine wpAny_stack_any fun z => wpAny_pure ?_
    split
    · rename_i y _ _ _ _ _
      cases (y == Value.type "enumerate") <;> (wp_walk using AutoSeq1.wpAny_loadPart' ht, wpAny_pyIter_tuple hT; exact ⟨_, rfl, h⟩)
    · (wp_walk using AutoSeq1.wpAny_loadPart' ht, wpAny_pyIter_tuple hT; exact ⟨_, rfl, h⟩)
theorem enum_call {prog : Program} {w : World} {A : Around} {E : Value → Shared → Prop} {s : Shared} {t : Addr} {items : Array Value} {Q : Value → Shared → Prop} (hT : s.heap.IsTuple t items)
    (h : ∀ h', IsEnum h' (s.heap.objs.size + 1) s.heap.objs.size 0 .none → h'.IsTupleIter s.heap.objs.size t 0 → (∀ b o, s.heap.get? b = some o → h'.get? b = some o) → Q (.ref (s.heap.objs.size + 1)) { s with heap := h' }) :
    wpAny (model prog w) A (call (.type "enumerate") [.ref t]) Q E s := by
  obtain ⟨o, ht, oc, n, od⟩ := hT
  refine callType_new F.called_enumerate (by decide) (F.typeCall_enumerate_1 _) (F.newCall_enumerate_1 _) (fun z => F.args_object_init_2 z _) F.entry_enumerate_new (enum_mk t o items n oc od) ⟨ht, ?_⟩
  have hz : (s.heap.push { cls := .type "tuple_iterator", data := .fields #[.ref t, .int 0 0] }).objs.size = s.heap.objs.size + 1 := Heap.size_push ..
  show _ ∧ _
  rw [hz]
  have he := Heap.get?_push_size (s.heap.push { cls := .type "tuple_iterator", data := .fields #[.ref t, .int 0 0] }) (o := { cls := .type "enumerate", data := .fields #[.none, .bool false, .ref s.heap.objs.size, rawInt 0, .none, .none] }) rfl
  rw [hz] at he
  exact ⟨⟨_, he, rfl⟩, h _ he ⟨_, Heap.get?_push_of_some _ (Heap.get?_push_size _ rfl), rfl, rfl⟩ fun b z x => Heap.get?_push_of_some _ (Heap.get?_push_of_some _ x)⟩
/-- the tuple at a as it stands at each turn, its items with their numbers in new pairs -/
def IteT (K : PySem.W.Frag) (a : Addr) : It :=
  ⟨fun i H => ∃ (zs : List V) (z : V), SqT K H a zs ∧ zs[i]? = some z,
   fun i H v H' => ∃ T z, v = .ref T ∧ H T = none ∧ H' = upd H T (.tup [.int (i : Nat), z]) ∧ ∀ zs, SqT K H a zs → zs[i]? = some z,
   fun i H => ∃ zs : List V, SqT K H a zs ∧ zs.length ≤ i⟩
theorem turn_enumT {P : Program} {w : World} {K : PySem.W.Frag} {elts : List Expr} {kk : Nat} {tpos : Pos} (a e it : Addr) :
    Turn P w K (.Tuple elts kk tpos) (IteT K a) [e, it] e (fun i h => (∃ old, IsEnum h e it ((i : Nat) : Int) old) ∧ h.IsTupleIter it a i ∧ e ≠ it ∧ a ≠ it ∧ a ≠ e) where
  mem := by simp
  obj := fun i h st b hb => by
    obtain ⟨⟨old, he⟩, ⟨o, ho, hc, hd⟩, _⟩ := st
    rcases (show b = e ∨ b = it by simpa using hb) with rfl | rfl
    · exact ⟨_, he, fun v q => nomatch q⟩
    · exact ⟨o, ho, fun v q => by rw [hd] at q; cases q⟩
  keep := fun i h h' st k => let ⟨⟨old, he⟩, hi, r⟩ := st; ⟨⟨old, k e (by simp) _ he⟩, hi.at fun o q => k it (by simp) o q, r⟩
  item := by
    intro X hP hw hK hc i pins s σ H E I hf st hg
    subst hP hw hK
    obtain ⟨⟨old, he⟩, hit, ne, nai, nae⟩ := st
    obtain ⟨zs, z, hq, hx⟩ := hg
    obtain ⟨its, rv, p, _⟩ := I.tuple hq
    obtain ⟨u, hu, ru⟩ := rv.get hx
    have hlt : i < its.toArray.size := by
      have := (List.getElem?_eq_some_iff.mp hu).1
      simpa using this
    have hel : e < s.heap.objs.size := Heap.lt_size he
    have hil : it < s.heap.objs.size := by obtain ⟨_, q, _⟩ := hit; exact Heap.lt_size q
    refine wpAny_pyNext_enum_itemC (Draws.tuple (A := X.A.in1) (I.ok.hd hc) it a nai its.toArray) he ⟨hit, p⟩ hlt ne (by simp [ne, Ne.symm nae]) fun y h' tk hy ho hst hT hsz hk => ?_
    have ey : y = u := by
      have : its[i]? = some y := by simpa using hy
      rw [hu] at this
      exact (Option.some.inj this).symm
    subst ey
    refine ⟨_, rfl, wpAny_letOwnedTupleGo_enum (s := { s with heap := h', toks := tk + 1 }) ho fun h'' he' sb => ?_⟩
    have hT2 : h''.get? s.heap.objs.size = some { cls := .type "tuple", data := .seq #[.int i tk, y] } := (sb.2 _ (Nat.ne_of_gt hel)).trans hT
    have new : ObjOk X.prog X.w (upd H s.heap.objs.size (.tup [.int (i : Nat), z])) h'' s.heap.objs.size (.tup [.int (i : Nat), z]) :=
      ⟨by show 2 ≤ sizeLine; decide, [.int i tk, y], .cons ⟨_, rfl⟩ (.cons ru .nil), _, hT2, rfl, _, rfl⟩
    have I1 : Inv X pins σ (upd H s.heap.objs.size (.tup [.int (i : Nat), z])) { s with heap := h'', toks := tk + 1 } :=
      I.turnedNew (ch := [e, it]) (fun b ob hb q => (sb.2 b fun y => hb (by simp [y])).trans (hk b ob (fun y => hb (by simp [y])) (fun y => hb (by simp [y])) q)) hf (Nat.le_refl _) new
    refine ⟨.ref s.heap.objs.size, _, I1, rfl, ⟨_, z, rfl, I.hok.fresh (Nat.le_refl _), rfl, fun ys hy => by rw [I.tuple_inj hy hq]; exact hx⟩, ⟨⟨y, ?_⟩, hst.1.at fun o q => (sb.2 it (Ne.symm ne)).trans q, ne, nai, nae⟩, fun b hb => ?_⟩
    · have e1 : ((i + 1 : Nat) : Int) = (i : Int) + 1 := by omega
      rw [e1]
      exact he'
    · have hb' : b < s.heap.objs.size := by
        rcases (show b = e ∨ b = it by simpa using hb) with rfl | rfl
        · exact hel
        · exact hil
      rw [upd_ne (Nat.ne_of_lt hb')]
      exact (hf b hb).1
  done := by
    intro X hP hw hK hc i pins s σ H E I hf st hg
    subst hP hw hK
    obtain ⟨⟨old, he⟩, hit, ne, nai, nae⟩ := st
    obtain ⟨zs, hq, hx⟩ := hg
    obtain ⟨its, rv, p, _⟩ := I.tuple hq
    obtain ⟨f0, f1, f2, f3, f4, f5⟩ := hf it (by simp)
    have hl := rv.length
    have hT : s.TypeIs (.ref e) "enumerate" := ⟨_, he, rfl⟩
    unfold pyNext
    refine wpAny_bind (wpAny_attempt (wpAny_callSpecial?_slot (name := Str.ofString "__next__") hT F.slot_enumerate_next (wpAny_call_entry F.slot_enumerate_next hT F.entry_enumerate_next ?_ (F.args_enumerate_next_1 _))))
    show wpAny _ _ (field (.ref e) 2 >>= _) _ _ _
    refine wpAny_bind (wpAny_field he rfl (x := .ref it) rfl ?_)
    refine wpAny_bind (wpAny_nextOf_tuple_end (I.ok.hd hc) hit p (by simp; omega) fun h' x eb hx' => ?_)
    obtain ⟨o, ho, oc⟩ := hx'
    refine wpAny_bind (wpAny_isInstance (T := "StopIteration") (b := true) ⟨o, ho, oc⟩ isSubtype_stop ?_)
    exact wpAny_pure ⟨rfl, I.turned (t' := s.toks) (fun b z hb q => eb b z hb q) f0 f1 f3 f4 f5⟩
  self := fun A i s Q E st h => let ⟨⟨_, he⟩, _⟩ := st; wpAny_pyIter_enum he h
def iEnumT (K : PySem.W.Frag) (ta : TA) : TI := fun σ H R => ta σ H fun vs H1 => ∃ a zs, vs = [.ref a] ∧ SqT K H1 a zs ∧ R (IteT K a) H1
theorem pi_enumT {X : Cx} {e : Expr} {ta : TA} {p pos tpos : Pos} {elts : List Expr} {kk : Nat} (hg : Gl X "enumerate") (hm : X.mg "enumerate" = none) (ha : PA X [e] ta) (hs : starEach [e] X.env = [(false, eval e X.env)] := by rfl) :
    PI X (.Tuple elts kk tpos) (.Call (.Name "enumerate" p) [e] [] pos) (iEnumT X.K ta) := by
  refine ⟨fun pins s σ H R I h => ?_⟩
  refine Call_ (ld_blt I hg hm boot_enumerate (PyProof.Rows.callWith_type1 (thn (ha.run pos pins s σ H _ I h) fun us s1 z => ?_) hs rfl))
  obtain ⟨vs, H1, I1, r1, a, zs, rfl, hq, q⟩ := z
  rw [Vals.ref1 r1]
  obtain ⟨its, rv, p', _⟩ := I1.tuple hq
  obtain ⟨oa, hoa, _⟩ := id p'
  have hal : a < s1.heap.objs.size := Heap.lt_size hoa
  refine enum_call p' fun h' he hit hk => wpAny_pyIter_enum he ?_
  have I2 : Inv X pins σ H1 { s1 with heap := h' } := I1.kept (t' := s1.toks) hk
  refine ⟨s1.heap.objs.size + 1, [s1.heap.objs.size + 1, s1.heap.objs.size], _, _, H1, rfl, I2, turn_enumT a (s1.heap.objs.size + 1) s1.heap.objs.size, ⟨⟨.none, he⟩, hit, Nat.succ_ne_self _, Nat.ne_of_lt hal, Nat.ne_of_lt (Nat.lt_succ_of_lt hal)⟩, fun b hb => ?_, q⟩
  have hle : s1.heap.objs.size ≤ b := by
    rcases (show b = s1.heap.objs.size + 1 ∨ b = s1.heap.objs.size by simpa using hb) with rfl | rfl
    · exact Nat.le_succ _
    · exact Nat.le_refl _
  exact I1.fpOk hle (I1.hok.fresh hle)
/-! ### l.remove(x), the items data of any depth: the first equal one goes -/
section
variable {X : Cx}
def rRemD (K : PySem.W.Frag) : V → List V → Hp → VK → Prop := fun x zs H Q => ∃ (a : Addr) (y : V) (xs : List V) (d : PyData) (ds : List PyData) (j : Nat) (z : PyData), x = V.ref a ∧ zs = [y] ∧ H a = some (.lst xs) ∧ DpAll K H xs ds ∧ Dp K H y d ∧
  SeqAt.shaped (.list ds) = true ∧ SeqAt.shaped d = true ∧ ds[j]? = some z ∧ PyData.eqv z d = true ∧ (∀ (m : Nat) (u : PyData), m < j → ds[m]? = some u → PyData.eqv u d = false) ∧ Q .non (upd H a (.lst (xs.eraseIdx j)))
theorem mt_removeD (hu : X.A.units + 65 < cLine) : MtM X "list.remove" (rRemD X.K) := by
  intro pins s σ H x zs v us Q I rx rxs h
  obtain ⟨a, y, xs, d, ds, j, z, rfl, rfl, hH, ha, hy, sl, sd, hz, hzj, hno, q⟩ := h
  cases rx
  obtain ⟨uy, rfl, ry⟩ := rxs.one
  obtain ⟨bs, r1⟩ := Dp.reads I d y uy hy ry
  have hxs : PyData.canLayAll0 ds = true := SeqAt.canLay_of_shaped sl
  have hroom : X.A.units + 1 + min (PyData.depthAll ds) d.depth < cLine := room_in_shaped sd hu
  obtain ⟨hlen, its, n, rv, hl, ho⟩ := I.lstM hH
  obtain ⟨as, h4⟩ := Dp.readsAll I ds _ its ha rv
  have hn : its.length = ds.length := SeqAt.ReadsAll.length ds its as h4
  have hmap : its.map (SeqAt.readOf s.heap) = ds := SeqAt.readsAll_map ds its as hxs h4
  obtain ⟨hjd, _⟩ := List.getElem?_eq_some_iff.mp hz
  have hj : j < its.toArray.size := by rw [List.size_toArray]; omega
  have at_ : ∀ (m : Nat) (hm : m < its.toArray.size) (u : PyData), ds[m]? = some u → SeqAt.readOf s.heap its.toArray[m] = u := by
    intro m hm u hu2
    have hml : m < its.length := by simpa using hm
    rw [← hmap, List.getElem?_map, List.getElem?_eq_getElem hml] at hu2
    simpa using hu2
  refine call_meets PySem.F.slot_list_remove ⟨_, ho, rfl⟩ PySem.F.entry_list_remove (PySem.F.args_list_remove_2 _ _)
    (SeqAt.list_removeAt a its.toArray n none #[] uy (fun u => PyData.eqv (SeqAt.readOf s.heap u) d) j hj ?hit ?hno ?hsz) ⟨ho, SeqAt.items_eqAt (vs := its.toArray) (show ReadsAll s.heap its.toArray.toList ds as from h4) r1 hxs (SeqAt.canLay_of_shaped sd) hroom, ?fin⟩
  case hit =>
    show PyData.eqv (SeqAt.readOf s.heap its.toArray[j]) d = true
    rw [at_ j hj z hz]
    exact hzj
  case hno =>
    intro m hm hmj
    have hmd : m < ds.length := by rw [List.size_toArray] at hm; omega
    show PyData.eqv (SeqAt.readOf s.heap its.toArray[m]) d = false
    rw [at_ m hm _ (List.getElem?_eq_getElem hmd)]
    exact hno m _ hmj (List.getElem?_eq_getElem hmd)
  case hsz =>
    rw [List.size_toArray]
    have := rv.length
    omega
  case fin =>
    refine ⟨.non, _, I.lset (its' := its.eraseIdx j) (t' := s.toks) hH ho ?_ (rv.eraseIdx j) ?_, rfl, q⟩
    · show its.toArray.eraseIdxIfInBounds j = (its.eraseIdx j).toArray
      rw [List.eraseIdxIfInBounds_toArray]
    · have : (xs.eraseIdx j).length ≤ xs.length := List.length_eraseIdx_le _ _
      have := rv.length
      omega
end
end G
end
section
set_option Elab.async false
set_option linter.all false
set_option maxRecDepth 100000
set_option maxHeartbeats 2000000
set_option exponentiation.threshold 100000
/-! check_balls. -/
namespace G
open PySem PySem.Spec PyProof.Rows L2
/-- a list or a tuple of these -/
def Sq (H : Hp) (v : V) (xs : List V) : Prop := ∃ p, v = .ref p ∧ (H p = some (.lst xs) ∨ H p = some (.tup xs))
theorem Sq.same {H H' : Hp} (s : Same H H') {v : V} {xs : List V} (h : Sq H v xs) : Sq H' v xs := let ⟨p, e, z⟩ := h; ⟨p, e, z.imp (s _ _) (s _ _)⟩
section
variable {K : PySem.W.Frag} {H : Hp}
theorem Sq.either {v : V} {xs : List V} (h : Sq H v xs) : ∃ p, v = .ref p ∧ (SqL K H p xs ∨ SqT K H p xs) := let ⟨p, e, z⟩ := h; ⟨p, e, z.imp (fun q => .inl (.inl q)) fun q => .inl (.inl q)⟩
theorem Sq.ty {v : V} {xs : List V} (h : Sq H v xs) : ∃ t, TyX K H v t ∧ PySem.W.kitAny K t [.type "list", .type "tuple"] = some true := by
  obtain ⟨p, rfl, z⟩ := h
  rcases z with z | z
  · exact ⟨_, .base (.lst z), kitAny_cons (kit_ty (b := "list") (r := true) (by decide +kernel)) (fun q => Bool.noConfusion q) fun _ => rfl⟩
  · exact ⟨_, .base (.tup z), kitAny_cons (kit_ty (b := "list") (r := false) (by decide +kernel)) (fun _ => kitAny_cons (kit_ty (b := "tuple") (r := true) (by decide +kernel)) (fun q => Bool.noConfusion q) fun _ => rfl) fun q => Bool.noConfusion q⟩
theorem two_ty : Paired ClsV [V.ty "list", V.ty "tuple"] [.type "list", .type "tuple"] := .cons (.ty _) (.cons (.ty _) .nil)
end
theorem ifT {c A B : Prop} [Decidable c] (h : c) (a : A) : if decide c = true then A else B := by
  rw [if_pos (decide_eq_true h)]
  exact a
theorem ifF {c A B : Prop} [Decidable c] (h : ¬ c) (b : B) : if decide c = true then A else B := by
  rw [if_neg (by simp [h])]
  exact b
theorem ifNT {c A B : Prop} [Decidable c] (h : ¬ c) (a : A) : if (!decide c) = true then A else B := by
  rw [if_pos (by simp [h])]
  exact a
theorem ifNF {c A B : Prop} [Decidable c] (h : c) (b : B) : if (!decide c) = true then A else B := by
  rw [if_neg (by simp [h])]
  exact b
/-- an item of a list or a tuple -/
def rIxLT (K : PySem.W.Frag) : R2 := fun x y H Q => ∃ p xs i v, x = .ref p ∧ y = .int i ∧ (SqL K H p xs ∨ SqT K H p xs) ∧ atI xs i = some v ∧ Q v H
theorem ix_lt {X : Cx} : IxR X (rIxLT X.K) := by
  intro value slice pins s σ H x y v u Q I rx ry h hs
  obtain ⟨p, xs, i, z, e1, e2, hq, he, q⟩ := h
  rcases hq with hq | hq
  · exact ix_list value slice pins s σ H x y v u Q I rx ry ⟨p, xs, i, z, e1, e2, hq, he, q⟩ hs
  · exact ix_tup value slice pins s σ H x y v u Q I rx ry ⟨p, xs, i, z, e1, e2, hq, he, q⟩ hs
section
variable {P : Program} {w : World} {K : PySem.W.Frag} {mg : Str → Option Value} {base : Heap}
def spCheckBalls : Sp := fun vs H Q _ => ∃ (n : Nat) (v1 v2 : V) (ws : List Int) (xs : List V) (qs : List Rat), vs = [v1, v2, .bl false] ∧ Sq H v1 (ws.map V.int) ∧ Sq H v2 xs ∧ A2 (Rl H n) xs qs ∧ xs.length = ws.length ∧ 2 ≤ ws.length ∧ ws.length ≤ 40 ∧ Pos9 ws ∧
  ∀ H' : Hp, Same H H' → Q .non H'
theorem sc_check_balls : FnScope ["weights", "speeds", "wall", "least", "ball"] ["weights", "speeds", "wall"] (defScope s_check_balls) := ⟨rfl, rfl, rfl, by decide +kernel, rfl, by decide +kernel, by decide +kernel⟩
theorem ok_check_balls (T : Tx K mg) : Has P w K mg base 3 "check_balls" ["weights", "speeds", "wall"] spCheckBalls := by
  have h_is_whole : Has P w K mg base _ "is_whole" _ _ := ok_is_whole T
  have h_is_ratio : Has P w K mg base _ "is_ratio" _ _ := ok_is_ratio T
  refine has_of T.d_check_balls T.g_check_balls (fun _ _ _ _ _ _ us hl => match us, hl with | [_, _, _], _ => rfl) sc_check_balls (fun vs H Q E h => ?_) (fun cdv A outer s H vs Q E hr h => ?_)
  · obtain ⟨n, v1, v2, ws, xs, qs, rfl, _⟩ := h
    rfl
  obtain ⟨n, v1, v2, ws, xs, qs, rfl, hw, hx, hq, hl, l2, l40, p9, k⟩ := h
  obtain ⟨tb, hmb⟩ := T.mb
  obtain ⟨tw, hmw⟩ := T.mw
  refine ⟨_, (pss_cons (ps_if (pt_not (pt_val (pe_callB call_isi (by rfl) T.n_isinstance (by decide +kernel) (pa_cons (pv 2) (pa_cons (pe_bltn (v := .ty "bool") (by rfl) T.n_bool (by decide +kernel) rfl) pa_nil)))))
    (pss_one ps_never)
    pss_nil)
  (pss_cons (ps_set (i := 3) sc_check_balls.nd rfl (Or.inl rfl) (pe_ifExp (pt_val (pv 2)) pe_int pe_int))
  (pss_cons (ps_if (PW.pt (pw_or (pt_not (pt_val (pe_callB call_isiT (by rfl) T.n_isinstance (by decide +kernel) (pa_cons (pv 0) (pa_cons (pe_tup (pa_cons (pe_bltn (v := .ty "list") (by rfl) T.n_list (by decide +kernel) rfl) (pa_cons (pe_bltn (v := .ty "tuple") (by rfl) T.n_tuple (by decide +kernel) rfl) pa_nil))) pa_nil))))) (pw_or1 (pt_not (pt_chain op_le op_le (pv 3) (pe_callB call_len_seq (by rfl) T.n_len (by decide +kernel) (pa_cons (pv 0) pa_nil)) (pe_glob (v := .int 40) (by rfl) hmb ⟨_, rfl⟩))))))
    (pss_one ps_never)
    pss_nil)
  (pss_cons (ps_if (PW.pt (pw_or (pt_not (pt_val (pe_callB call_isiT (by rfl) T.n_isinstance (by decide +kernel) (pa_cons (pv 1) (pa_cons (pe_tup (pa_cons (pe_bltn (v := .ty "list") (by rfl) T.n_list (by decide +kernel) rfl) (pa_cons (pe_bltn (v := .ty "tuple") (by rfl) T.n_tuple (by decide +kernel) rfl) pa_nil))) pa_nil))))) (pw_or1 (pt_cmpR op_ne (pe_callB call_len_seq (by rfl) T.n_len (by decide +kernel) (pa_cons (pv 1) pa_nil)) (pe_callB call_len_seq (by rfl) T.n_len (by decide +kernel) (pa_cons (pv 0) pa_nil)) (nomark _)))))
    (pss_one ps_never)
    pss_nil)
  (pss_one (ps_for PassesOwn.never rfl (pi_range1 (by rfl) T.n_range (pa_cons (pe_callB call_len_seq (by rfl) T.n_len (by decide +kernel) (pa_cons (pv 0) pa_nil)) pa_nil)) (pg_name (i := 4) sc_check_balls.nd rfl (Or.inl rfl))
    (pss_cons (ps_if (PW.pt (pw_or (pt_not (pt_val (pe_f h_is_whole hr (by rfl) (pa_cons (pe_ix ix_lt (pv 0) (pv 4) (fun _ _ => rfl)) pa_nil)))) (pw_or1 (pt_not (pt_chain op_le op_le pe_int (pe_ix ix_lt (pv 0) (pv 4) (fun _ _ => rfl)) (pe_glob (v := .int 9) (by rfl) hmw ⟨_, rfl⟩))))))
    (pss_one ps_never)
    pss_nil)
  (pss_one (ps_if (pt_not (pt_val (pe_f h_is_ratio hr (by rfl) (pa_cons (pe_ix ix_lt (pv 1) (pv 4) (fun _ _ => rfl)) pa_nil))))
    (pss_one ps_never)
    pss_nil))))))))), ?_⟩
  refine ⟨_, rfl, _, _, _, _, _, rfl, .ty _, .base (.bl _), kit_ty (b := "bool") (r := true) (by decide +kernel), true, rfl, iteF ?_⟩
  refine ⟨_, rfl, false, rfl, iteF ?_⟩
  -- weights
  refine ⟨_, rfl, (by show 2 ≤ sizeLine; decide), fun t1 n1 => ?_⟩
  have s1 := same_new (o := .tup [V.ty "list", V.ty "tuple"]) n1
  obtain ⟨ty1, h1, k1⟩ := (hw.same s1).ty (K := K)
  obtain ⟨p1, e1, z1⟩ := (hw.same s1).either (K := K)
  subst e1
  refine ⟨_, t1, _, ty1, _, true, rfl, upd_same, two_ty, h1, k1, true, rfl, iteF ?_⟩
  refine ⟨_, rfl, _, rfl, p1, _, rfl, z1, _, _, rfl, rfl, _, rfl, ifT (by rw [List.length_map]; omega) ?_⟩
  refine ⟨_, _, rfl, rfl, _, rfl, ?_⟩
  rw [decide_eq_true (show ((ws.map V.int).length : Int) ≤ 40 by rw [List.length_map]; omega)]
  refine iteF ?_
  -- speeds
  refine ⟨_, rfl, (by show 2 ≤ sizeLine; decide), fun t2 n2 => ?_⟩
  have s2 := s1.trans (same_new (o := .tup [V.ty "list", V.ty "tuple"]) n2)
  obtain ⟨ty2, h2, k2⟩ := (hx.same s2).ty (K := K)
  obtain ⟨p2, e2, z2⟩ := (hx.same s2).either (K := K)
  obtain ⟨p1', e1', z1'⟩ := (hw.same s2).either (K := K)
  cases e1'
  subst e2
  refine ⟨_, t2, _, ty2, _, true, rfl, upd_same, two_ty, h2, k2, true, rfl, iteF ?_⟩
  refine ⟨_, rfl, p2, _, rfl, z2, _, rfl, p1, _, rfl, z1', rfl, _, rfl, ?_⟩
  rw [decide_eq_true (show V.int (xs.length : Int) = V.int ((ws.map V.int).length : Int) by rw [List.length_map, hl])]
  refine iteF ?_
  -- ball by ball
  refine ⟨_, rfl, p1, _, rfl, z1', _, rfl, (by rw [List.length_map]; omega), (by rw [List.length_map]; omega), ?_⟩
  refine for_range (lo := 0) (n := (ws.map V.int).length) (fun i σ H3 => (∃ v4, σ = [some (.ref p1), some (.ref p2), some (.bl false), some (.int 2), v4]) ∧ H3 = upd (upd H t1 (.tup [V.ty "list", V.ty "tuple"])) t2 (.tup [V.ty "list", V.ty "tuple"])) ⟨⟨none, rfl⟩, rfl⟩ ?_ ?_
  · rintro i σ H3 hi ⟨⟨v4, rfl⟩, rfl⟩
    have hi2 : i < ws.length := by rw [List.length_map] at hi; exact hi
    have gw : (ws.map V.int)[i]? = some (.int ws[i]) := ints_get (List.getElem?_eq_getElem hi2)
    have gx : xs[i]? = some (xs[i]'(by omega)) := List.getElem?_eq_getElem _
    obtain ⟨q, _, hq1⟩ := hq.get gx
    obtain ⟨b1, b9⟩ := p9 _ (List.getElem_mem hi2)
    have ei : (0 : Int) + ((i : Nat) : Int) = ((i : Nat) : Int) := by omega
    refine ⟨_, rfl, _, rfl, p1, _, _, _, rfl, rfl, z1', at_of (j := i) ei gw, _, rfl, true, rfl, iteF ?_⟩
    refine ⟨_, rfl, _, rfl, p1, _, _, _, rfl, rfl, z1', at_of (j := i) ei gw, _, _, rfl, rfl, _, rfl, ifT b1 ?_⟩
    refine ⟨_, _, rfl, rfl, _, rfl, ?_⟩
    rw [decide_eq_true b9]
    refine iteF ?_
    refine ⟨_, rfl, _, rfl, p2, _, _, _, rfl, rfl, z2, at_of (j := i) ei gx, n, _, q, rfl, hq1.same s2, true, rfl, iteF ?_⟩
    exact ⟨⟨_, rfl⟩, rfl⟩
  · rintro σ H3 ⟨_, rfl⟩
    exact k _ s2
end
end G
end
section
set_option Elab.async false
set_option linter.all false
set_option maxRecDepth 100000
set_option maxHeartbeats 4000000
set_option exponentiation.threshold 100000
/-! Row. -/
namespace G
open PySem PySem.Spec PyProof.Rows L2
theorem same_upd {H H' : Hp} {p : Addr} {o : HO} (s : Same H H') (h : H p = none) : Same H (upd H' p o) := fun b x e => by
  rw [upd_ne (ne_of_none e h)]
  exact s b x e
/-- a tuple stands elsewhere than an instance, than a list -/
theorem keepI {H : Hp} {p a C dx : Addr} {fs : List (Str × V)} {xs : List V} {o : HO} (hp : H p = some (.ins C dx fs)) (h : H a = some (.tup xs)) : upd H p o a = some (.tup xs) := by
  rw [upd_ne (ne_of h hp (by intro z; cases z))]
  exact h
theorem keepL {H : Hp} {p a : Addr} {ys xs : List V} {o : HO} (hp : H p = some (.lst ys)) (h : H a = some (.tup xs)) : upd H p o a = some (.tup xs) := by
  rw [upd_ne (ne_of h hp (by intro z; cases z))]
  exact h
theorem Rt.keepI {H : Hp} {p C dx : Addr} {fs : List (Str × V)} {v : V} {q : Rat} {o : HO} (hp : H p = some (.ins C dx fs)) (h : Rt H v q) : Rt (upd H p o) v q := let ⟨a, e, z⟩ := h; ⟨a, e, G.keepI hp z⟩
theorem Rt.keepL {H : Hp} {p : Addr} {ys : List V} {v : V} {q : Rat} {o : HO} (hp : H p = some (.lst ys)) (h : Rt H v q) : Rt (upd H p o) v q := let ⟨a, e, z⟩ := h; ⟨a, e, G.keepL hp z⟩
/-! ### a row's attributes, as they come -/
def rf1 (a : Addr) : List (Str × V) := putF "weights" (.ref a) []
def rf2 (a b : Addr) : List (Str × V) := putF "speeds" (.ref b) (rf1 a)
def rf3 (a b : Addr) : List (Str × V) := putF "wall" (.bl false) (rf2 a b)
def rf4 (a b c : Addr) : List (Str × V) := putF "pairs" (.ref c) (rf3 a b)
def rf5 (a b c : Addr) (g : Int) : List (Str × V) := putF "gap_count" (.int g) (rf4 a b c)
def rf6 (a b c : Addr) (g : Int) (l : Bool) : List (Str × V) := putF "is_like" (.bl l) (rf5 a b c g)
def rf7 (a b c : Addr) (g : Int) (l : Bool) (x : V) : List (Str × V) := putF "first_sum" x (rf6 a b c g l)
def rf8 (a b c : Addr) (g : Int) (l : Bool) (x y : V) : List (Str × V) := putF "second_sum" y (rf7 a b c g l x)
section
variable (a b c : Addr) (g : Int) (l : Bool) (x y : V)
theorem rf4_pairs : (rf4 a b c).lookup ("pairs" : Str) = some (V.ref c) := by
  unfold rf4
  rw [lookup_putF, if_pos rfl]
theorem rf4_weights : (rf4 a b c).lookup ("weights" : Str) = some (V.ref a) := by
  unfold rf4 rf3 rf2 rf1
  rw [lookup_putF, if_neg (by decide +kernel), lookup_putF, if_neg (by decide +kernel), lookup_putF, if_neg (by decide +kernel), lookup_putF, if_pos rfl]
theorem rf4_speeds : (rf4 a b c).lookup ("speeds" : Str) = some (V.ref b) := by
  unfold rf4 rf3 rf2
  rw [lookup_putF, if_neg (by decide +kernel), lookup_putF, if_neg (by decide +kernel), lookup_putF, if_pos rfl]
theorem rf4_wall : (rf4 a b c).lookup ("wall" : Str) = some (V.bl false) := by
  unfold rf4 rf3
  rw [lookup_putF, if_neg (by decide +kernel), lookup_putF, if_pos rfl]
theorem rf5_up {f : Str} (h : ¬ f = "gap_count") : (rf5 a b c g).lookup f = (rf4 a b c).lookup f := by
  unfold rf5
  rw [lookup_putF, if_neg h]
theorem rf6_up {f : Str} (h : ¬ f = "gap_count") (h2 : ¬ f = "is_like") : (rf6 a b c g l).lookup f = (rf4 a b c).lookup f := by
  unfold rf6
  rw [lookup_putF, if_neg h2, rf5_up a b c g h]
theorem rf8_up {f : Str} (h : ¬ f = "gap_count") (h2 : ¬ f = "is_like") (h3 : ¬ f = "first_sum") (h4 : ¬ f = "second_sum") : (rf8 a b c g l x y).lookup f = (rf4 a b c).lookup f := by
  unfold rf8 rf7
  rw [lookup_putF, if_neg h4, lookup_putF, if_neg h3, rf6_up a b c g l h h2]
theorem rf4_none {f : Str} (h1 : ¬ f = "weights") (h2 : ¬ f = "speeds") (h3 : ¬ f = "wall") (h4 : ¬ f = "pairs") : (rf4 a b c).lookup f = none := by
  unfold rf4 rf3 rf2 rf1
  rw [lookup_putF, if_neg h4, lookup_putF, if_neg h3, lookup_putF, if_neg h2, lookup_putF, if_neg h1]
  rfl
theorem rf8_len : (rf8 a b c g l x y).length < 1000 := by
  have z1 := length_putF "second_sum" y (rf7 a b c g l x)
  have z2 := length_putF "first_sum" x (rf6 a b c g l)
  have z3 := length_putF "is_like" (.bl l) (rf5 a b c g)
  have z4 := length_putF "gap_count" (.int g) (rf4 a b c)
  have z5 := length_putF "pairs" (.ref c) (rf3 a b)
  have z6 := length_putF "wall" (.bl false) (rf2 a b)
  have z7 := length_putF "speeds" (.ref b) (rf1 a)
  have z8 := length_putF "weights" (.ref a) []
  unfold rf8 rf7 rf6 rf5 rf4 rf3 rf2 rf1 at *
  simp only [List.length_nil] at z8
  omega
theorem putF_len (f : Str) (v : V) (fs : List (Str × V)) {n : Nat} (h : fs.length ≤ n) : (putF f v fs).length ≤ n + 1 := Nat.le_trans (length_putF f v fs) (Nat.succ_le_succ h)
theorem rf1_len : (rf1 a).length ≤ 1 := putF_len _ _ _ (Nat.zero_le _)
theorem rf2_len : (rf2 a b).length ≤ 2 := putF_len _ _ _ (rf1_len a)
theorem rf3_len : (rf3 a b).length ≤ 3 := putF_len _ _ _ (rf2_len a b)
theorem rf4_len : (rf4 a b c).length ≤ 4 := putF_len _ _ _ (rf3_len a b)
theorem rf5_len : (rf5 a b c g).length ≤ 5 := putF_len _ _ _ (rf4_len a b c)
theorem rf6_len : (rf6 a b c g l).length ≤ 6 := putF_len _ _ _ (rf5_len a b c g)
theorem rf7_len : (rf7 a b c g l x).length ≤ 7 := putF_len _ _ _ (rf6_len a b c g l)
end
theorem hu3_of {A : Around} {k : Nat} (hr : Room k A) : A.units + 3 < cLine := Nat.lt_of_le_of_lt (Nat.add_le_add_left (by decide : 3 ≤ 64) _) hr.units
theorem k1000 {n m : Nat} (h : n ≤ m) (k : m < 1000 := by decide) : n < 1000 := Nat.lt_of_le_of_lt h k
/-- a row of these weights and speeds stands at p -/
def RowAt (K : PySem.W.Frag) (H : Hp) (p : Addr) (ws : List Int) (qs : List Rat) : Prop := ∃ (dx a b c : Addr) (g : Int) (l : Bool) (x y : V) (vs : List V), H p = some (.ins (He.ga K "Row") dx (rf8 a b c g l x y)) ∧
  H a = some (.tup (ws.map V.int)) ∧ H b = some (.tup vs) ∧ A2 (Rt H) vs qs ∧ H c = some (.tup (rgV 0 ((ws.length : Int) - 1))) ∧ qs.length = ws.length ∧ 2 ≤ ws.length ∧ ws.length ≤ 40 ∧ Pos9 ws
theorem RowAt.same {K : PySem.W.Frag} {H H' : Hp} (s : Same H H') {p : Addr} {ws : List Int} {qs : List Rat} (h : RowAt K H p ws qs) : RowAt K H' p ws qs := by
  obtain ⟨dx, a, b, c, g, l, x, y, vs, h1, h2, h3, h4, h5, r⟩ := h
  exact ⟨dx, a, b, c, g, l, x, y, vs, s _ _ h1, s _ _ h2, s _ _ h3, h4.imp fun v q z => z.same s, s _ _ h5, r⟩
/-- tuple(x) of a list or a tuple -/
def rTupAny : List V → Hp → VK → Prop := fun zs H Q => ∃ (v : V) (xs : List V), zs = [v] ∧ Sq H v xs ∧ ∀ (a : Addr) (H' : Hp), Same H H' → H' a = some (.tup xs) → Q (.ref a) H'
theorem call_tup_any {X : Cx} : CallR X (.type "tuple") rTupAny := by
  intro pins s σ H zs us Q I r h
  obtain ⟨v, xs, rfl, ⟨p, rfl, z⟩, q⟩ := h
  refine call_tuple_of pins s σ H _ us Q I r ⟨p, xs, rfl, ?_⟩
  rcases z with z | z
  · exact .inl ⟨.inl (.inl z), fun l hl => q l _ (same_new hl) upd_same⟩
  · exact .inr ⟨.inl (.inl z), q p H (Same.refl H) z⟩
/-- what a row may be made of -/
structure RowIn (H : Hp) (n : Nat) (v1 v2 : V) (ws : List Int) (xs : List V) (qs : List Rat) : Prop where
  w : Sq H v1 (ws.map V.int)
  x : Sq H v2 xs
  q : A2 (Rl H n) xs qs
  l : xs.length = ws.length
  l2 : 2 ≤ ws.length
  l40 : ws.length ≤ 40
  p9 : Pos9 ws
  n0 : 0 < n
  n100 : n ≤ 100
theorem RowIn.same {H H' : Hp} (s : Same H H') {n : Nat} {v1 v2 : V} {ws : List Int} {xs : List V} {qs : List Rat} (h : RowIn H n v1 v2 ws xs qs) : RowIn H' n v1 v2 ws xs qs :=
  ⟨h.w.same s, h.x.same s, h.q.imp fun v q z => z.same s, h.l, h.l2, h.l40, h.p9, h.n0, h.n100⟩
section
variable {P : Program} {w : World} {K : PySem.W.Frag} {mg : Str → Option Value} {base : Heap}
def spRowInit (K : PySem.W.Frag) : Sp := fun vs H Q _ => ∃ (H0 : Hp) (n : Nat) (p dx : Addr) (v1 v2 : V) (ws : List Int) (xs : List V) (qs : List Rat), vs = [.ref p, v1, v2, .bl false] ∧ Same H0 H ∧ H0 p = none ∧ H p = some (.ins (He.ga K "Row") dx []) ∧ RowIn H0 n v1 v2 ws xs qs ∧
  ∀ H' : Hp, Same H0 H' → RowAt K H' p ws qs → Q .non H'
theorem sc_Row__init__ : FnScope ["self", "weights", "speeds", "wall", "first", "once", "twice", "weight", "speed"] ["self", "weights", "speeds", "wall"] (defScope s_Row__init__) := ⟨rfl, rfl, rfl, by decide +kernel, rfl, by decide +kernel, by decide +kernel⟩
theorem ok_row_body (T : Tx K mg) {f : Addr} {fd : FuncData} (F : FunD K "__init__" "Row.__init__" (defArgs s_Row__init__) (defBody s_Row__init__) (defScope s_Row__init__) [V.bl false] [] f fd) : FnOk P w K mg base CX0 5 f fd ["self", "weights", "speeds", "wall"] (spRowInit K) := by
  have h_check_balls : Has P w K mg base _ "check_balls" _ _ := ok_check_balls T
  have h_ratio_of : Has P w K mg base _ "ratio_of" _ _ := ok_ratio_of T
  have h_plus : Has P w K mg base _ "plus" _ _ := ok_plus T
  have h_times : Has P w K mg base _ "times" _ _ := ok_times T
  refine F.ok sc_Row__init__ (fun vs H Q E h => ?_) (fun cdv A outer s H vs Q E hr h => ?_)
  · obtain ⟨H0, n, p, dx, v1, v2, ws, xs, qs, rfl, _⟩ := h
    rfl
  obtain ⟨H0, n, p, dx, v1, v2, ws, xs, qs, rfl, s0, np, hp, R, k⟩ := h
  have hu := hr.units0
  have hum := hr.un
  refine ⟨_, PSs.nox (pss_cons (ps_expr (pe_f h_check_balls hr (by rfl) (pa_cons (pv 1) (pa_cons (pv 2) (pa_cons (pv 3) pa_nil)))))
  (pss_cons (ps_fld (pv 0) (pe_callTy call_tup_any (by rfl) T.n_tuple (by decide +kernel) (pa_cons (pv 1) pa_nil)) rfl)
  (pss_cons (ps_fld (pv 0) (pe_callTy call_tup_any (by rfl) T.n_tuple (by decide +kernel) (pa_cons (pe_lc (own := [("speed", 8)]) (g := gName 8) rfl sc_Row__init__.nd (pi_or2 (pi_list (pv 2)) (pi_tup (pv 2))) (blkOk_by (own := [("speed", 8)]) (N := ["self", "weights", "speeds", "wall", "first", "once", "twice", "weight", "speed"]) (sc := defScope s_Row__init__) (by decide +kernel)) (fun _ _ _ _ _ => (pg_name (i := 8) sc_Row__init__.nd rfl (Or.inl rfl))) (fun _ _ _ _ _ => pts_nil) (fun _ _ _ _ _ => (pe_f h_ratio_of hr (by rfl) (pa_cons (pv 8) pa_nil)))) pa_nil)) rfl)
  (pss_cons (ps_fld (pv 0) (pv 3) rfl)
  (pss_cons (ps_set (i := 4) sc_Row__init__.nd rfl (Or.inl rfl) (pe_ifExp (pt_val (pv 3)) (pe_un un_neg pe_int) pe_int))
  (pss_cons (ps_fld (pv 0) (pe_tupRg rfl (by rfl) T.n_tuple (prg_2 (by rfl) T.n_range (pv 4) (pe_op op_sub (pe_callB call_len_seq (by rfl) T.n_len (by decide +kernel) (pa_cons (pv 1) pa_nil)) pe_int))) rfl)
  (pss_cons (ps_fld (pv 0) (pe_callB call_len_seq (by rfl) T.n_len (by decide +kernel) (pa_cons (pe_fld (pv 0) rfl) pa_nil)) rfl)
  (pss_cons (ps_fld (pv 0) (pe_cmpR op_eq (pe_callB (cr_maxT rfl (hu3_of hr)) (by rfl) T.n_max (by decide +kernel) (pa_cons (pe_fld (pv 0) rfl) pa_nil)) (pe_callB (cr_minT rfl (hu3_of hr)) (by rfl) T.n_min (by decide +kernel) (pa_cons (pe_fld (pv 0) rfl) pa_nil)) (nomark _)) rfl)
  (pss_cons (ps_set (i := 5) sc_Row__init__.nd rfl (Or.inl rfl) (pe_tup (pa_cons pe_int (pa_cons pe_int pa_nil))))
  (pss_cons (ps_set (i := 6) sc_Row__init__.nd rfl (Or.inl rfl) (pe_tup (pa_cons pe_int (pa_cons pe_int pa_nil))))
  (pss_cons (ps_for PassesOwn.never rfl (RZ.pi_zipA (by rfl) T.n_zip (pa_cons (pe_fld (pv 0) rfl) (pa_cons (pe_fld (pv 0) rfl) pa_nil))) (pg_tup (by rfl) (pgs_cons (pg_name (i := 7) sc_Row__init__.nd rfl (Or.inl rfl)) (pgs_cons (pg_name (i := 8) sc_Row__init__.nd rfl (Or.inl rfl)) pgs_nil)))
    (pss_cons (ps_set (i := 5) sc_Row__init__.nd rfl (Or.inl rfl) (pe_f h_plus hr (by rfl) (pa_cons (pv 5) (pa_cons (pe_f h_times hr (by rfl) (pa_cons (pv 7) (pa_cons (pv 8) pa_nil))) pa_nil))))
  (pss_one (ps_set (i := 6) sc_Row__init__.nd rfl (Or.inl rfl) (pe_f h_plus hr (by rfl) (pa_cons (pv 6) (pa_cons (pe_f h_times hr (by rfl) (pa_cons (pv 7) (pa_cons (pe_f h_times hr (by rfl) (pa_cons (pv 8) (pa_cons (pv 8) pa_nil))) pa_nil))) pa_nil)))))))
  (pss_cons (ps_fld (pv 0) (pv 5) rfl)
  (pss_one (ps_fld (pv 0) (pv 6) rfl)))))))))))))), ?_⟩
  -- check_balls
  refine ⟨_, rfl, _, rfl, _, rfl, n, v1, v2, ws, xs, qs, rfl, R.w.same s0, R.x.same s0, R.q.imp (fun v q z => z.same s0), R.l, R.l2, R.l40, R.p9, fun H1 s1 => ?_⟩
  have t1 := s0.trans s1
  have hp1 := s1 _ _ hp
  -- self.weights
  refine ⟨_, rfl, v1, _, rfl, R.w.same t1, fun a H2 s2 ha => ?_⟩
  have t2 := t1.trans s2
  have hp2 := s2 _ _ hp1
  refine ⟨_, rfl, p, _, dx, _, rfl, hp2, T.cls_Row, T.na_Row_weights, k1000 (Nat.zero_le 0), ?_⟩
  generalize e3 : upd H2 p (.ins (He.ga K "Row") dx (putF "weights" (.ref a) [])) = H3
  have hp3 : H3 p = some (.ins (He.ga K "Row") dx (rf1 a)) := by rw [← e3]; exact upd_same
  have t3 : Same H0 H3 := by rw [← e3]; exact same_upd t2 np
  have ha3 : H3 a = some (.tup (ws.map V.int)) := by rw [← e3]; exact keepI hp2 ha
  clear e3
  -- self.speeds: the list
  obtain ⟨px, rfl, hx⟩ := R.x.same t3
  have hq3 : A2 (Rl H3 n) xs qs := R.q.imp fun v q z => z.same t3
  rcases hx with hx | hx
  case' inl => refine .inl ⟨_, rfl, px, rfl, ⟨xs, .inl (.inl hx)⟩, fun D nD => lc_list (K := K) (a := px) (xs := xs) (fun i H4 => Same H3 H4 ∧ ∃ acc, H4 D = some (.lst acc) ∧ A2 (Rt H4) acc (qs.take i)) ⟨same_new nD, [], upd_same, A2.nil⟩ (fun i H4 _ z => .inl (.inl (z.1 _ _ hx))) ?st1 ?fi1⟩
  case' inr => refine .inr ⟨_, rfl, px, rfl, ⟨xs, .inl (.inl hx)⟩, fun D nD => lc_tup (K := K) (a := px) (xs := xs) (fun i H4 => Same H3 H4 ∧ ∃ acc, H4 D = some (.lst acc) ∧ A2 (Rt H4) acc (qs.take i)) ⟨same_new nD, [], upd_same, A2.nil⟩ (fun i H4 _ z => .inl (.inl (z.1 _ _ hx))) ?st2 ?fi2⟩
  case st1 | st2 =>
    rintro i x H4 hi ⟨s4, acc, hD, hA⟩
    obtain ⟨q, eq, hxq⟩ := hq3.get hi
    refine ⟨rfl, _, rfl, n, x, q, rfl, hxq.same s4, (by have := R.n100; omega), fun H5 u s5 hu => ?_⟩
    refine ⟨acc, s5 _ _ hD, ?_, same_upd (s4.trans s5) nD, acc ++ [u], upd_same, ?_⟩
    · have := hA.1
      rw [List.length_take] at this
      have := R.l40
      have := R.l
      have := R.q.1
      exact small1000 (by omega)
    · rw [List.take_add_one, eq]
      exact ((hA.imp fun v q z => z.same s5).snoc hu).imp fun v q z => z.keepL (s5 _ _ hD)
  case fi1 | fi2 =>
    rintro H4 ⟨s4, acc, hD, hA⟩
    rw [R.q.1, List.take_length] at hA
    refine ⟨_, acc, rfl, ⟨D, rfl, .inl hD⟩, fun b H5 s5 hb => ?_⟩
    have hp5 := s5 _ _ (s4 _ _ hp3)
    have t5 := (t3.trans s4).trans s5
    have ha5 := s5 _ _ (s4 _ _ ha3)
    have hA5 := hA.imp fun v q z => z.same s5
    refine ⟨_, rfl, p, _, dx, _, rfl, hp5, T.cls_Row, T.na_Row_speeds, k1000 (rf1_len a), ?_⟩
    generalize e6 : upd H5 p (.ins (He.ga K "Row") dx (putF "speeds" (.ref b) (rf1 a))) = H6
    have hp6 : H6 p = some (.ins (He.ga K "Row") dx (rf2 a b)) := by rw [← e6]; exact upd_same
    have t6 : Same H0 H6 := by rw [← e6]; exact same_upd t5 np
    have ha6 : H6 a = some (.tup (ws.map V.int)) := by rw [← e6]; exact keepI hp5 ha5
    have hb6 : H6 b = some (.tup acc) := by rw [← e6]; exact keepI hp5 hb
    have hA6 : A2 (Rt H6) acc qs := by rw [← e6]; exact hA5.imp fun v q z => z.keepI hp5
    clear e6
    -- self.wall, first
    refine ⟨_, rfl, _, rfl, p, _, dx, _, rfl, hp6, T.cls_Row, T.na_Row_wall, k1000 (rf2_len a b), ?_⟩
    generalize e7 : upd H6 p (.ins (He.ga K "Row") dx (putF "wall" (.bl false) (rf2 a b))) = H7
    have hp7 : H7 p = some (.ins (He.ga K "Row") dx (rf3 a b)) := by rw [← e7]; exact upd_same
    have t7 : Same H0 H7 := by rw [← e7]; exact same_upd t6 np
    have ha7 : H7 a = some (.tup (ws.map V.int)) := by rw [← e7]; exact keepI hp6 ha6
    have hb7 : H7 b = some (.tup acc) := by rw [← e7]; exact keepI hp6 hb6
    have hA7 : A2 (Rt H7) acc qs := by rw [← e7]; exact hA6.imp fun v q z => z.keepI hp6
    clear e7
    refine ⟨_, rfl, false, rfl, iteF ?_⟩
    -- self.pairs
    obtain ⟨pw, rfl, hw7⟩ := (R.w.same t7).either (K := K)
    refine ⟨_, rfl, _, rfl, pw, _, rfl, hw7, _, _, rfl, rfl, _, _, rfl, rfl, RgOk.of_le (by omega) ?_ (by omega) ?_, fun c nc => ?_⟩
    · rw [List.length_map]
      have := R.l40
      omega
    · rw [List.length_map]
      have := R.l2
      omega
    rw [List.length_map] at *
    have sc := same_new (o := HO.tup (rgV 0 ((ws.length : Int) - 1))) nc
    generalize e8 : upd H7 c (.tup (rgV 0 ((ws.length : Int) - 1))) = H8 at sc
    have hc8 : H8 c = some (.tup (rgV 0 ((ws.length : Int) - 1))) := by rw [← e8]; exact upd_same
    clear e8
    have hp8 := sc _ _ hp7
    have t8 := t7.trans sc
    have ha8 := sc _ _ ha7
    have hb8 := sc _ _ hb7
    have hA8 := hA7.imp fun v q z => z.same sc
    refine ⟨_, rfl, p, _, dx, _, rfl, hp8, T.cls_Row, T.na_Row_pairs, k1000 (rf3_len a b), ?_⟩
    generalize e9 : upd H8 p (.ins (He.ga K "Row") dx (putF "pairs" (.ref c) (rf3 a b))) = H9
    have hp9 : H9 p = some (.ins (He.ga K "Row") dx (rf4 a b c)) := by rw [← e9]; exact upd_same
    have t9 : Same H0 H9 := by rw [← e9]; exact same_upd t8 np
    have ha9 : H9 a = some (.tup (ws.map V.int)) := by rw [← e9]; exact keepI hp8 ha8
    have hb9 : H9 b = some (.tup acc) := by rw [← e9]; exact keepI hp8 hb8
    have hc9 : H9 c = some (.tup (rgV 0 ((ws.length : Int) - 1))) := by rw [← e9]; exact keepI hp8 hc8
    have hA9 : A2 (Rt H9) acc qs := by rw [← e9]; exact hA8.imp fun v q z => z.keepI hp8
    clear e9
    -- self.gap_count
    refine ⟨_, rfl, p, _, dx, _, _, rfl, hp9, T.cls_Row, T.na_Row_pairs, rf4_pairs a b c, c, _, rfl, .inr (.inl (.inl hc9)), _, rfl, p, _, dx, _, rfl, hp9, T.cls_Row, T.na_Row_gap_count, k1000 (rf4_len a b c), ?_⟩
    generalize ((rgV 0 ((ws.length : Int) - 1)).length : Int) = g
    generalize e10 : upd H9 p (.ins (He.ga K "Row") dx (putF "gap_count" (.int g) (rf4 a b c))) = H10
    have hp10 : H10 p = some (.ins (He.ga K "Row") dx (rf5 a b c g)) := by rw [← e10]; exact upd_same
    have t10 : Same H0 H10 := by rw [← e10]; exact same_upd t9 np
    have ha10 : H10 a = some (.tup (ws.map V.int)) := by rw [← e10]; exact keepI hp9 ha9
    have hb10 : H10 b = some (.tup acc) := by rw [← e10]; exact keepI hp9 hb9
    have hc10 : H10 c = some (.tup (rgV 0 ((ws.length : Int) - 1))) := by rw [← e10]; exact keepI hp9 hc9
    have hA10 : A2 (Rt H10) acc qs := by rw [← e10]; exact hA9.imp fun v q z => z.keepI hp9
    clear e10
    -- self.is_like
    have hw10 : (rf5 a b c g).lookup ("weights" : Str) = some (V.ref a) := (rf5_up a b c g (by decide +kernel)).trans (rf4_weights a b c)
    have lpos : 0 < ws.length := by have := R.l2; omega
    refine ⟨_, rfl, p, _, dx, _, _, rfl, hp10, T.cls_Row, T.na_Row_weights, hw10, a, ws, rfl, .inl (.inl ha10), lpos, fun m1 => ?_⟩
    refine ⟨_, rfl, p, _, dx, _, _, rfl, hp10, T.cls_Row, T.na_Row_weights, hw10, a, ws, rfl, .inl (.inl ha10), lpos, fun m2 => ?_⟩
    refine ⟨rfl, _, rfl, p, _, dx, _, rfl, hp10, T.cls_Row, T.na_Row_is_like, k1000 (rf5_len a b c g), ?_⟩
    generalize decide (V.int m1 = V.int m2) = l
    generalize e11 : upd H10 p (.ins (He.ga K "Row") dx (putF "is_like" (.bl l) (rf5 a b c g))) = H11
    have hp11 : H11 p = some (.ins (He.ga K "Row") dx (rf6 a b c g l)) := by rw [← e11]; exact upd_same
    have t11 : Same H0 H11 := by rw [← e11]; exact same_upd t10 np
    have ha11 : H11 a = some (.tup (ws.map V.int)) := by rw [← e11]; exact keepI hp10 ha10
    have hb11 : H11 b = some (.tup acc) := by rw [← e11]; exact keepI hp10 hb10
    have hc11 : H11 c = some (.tup (rgV 0 ((ws.length : Int) - 1))) := by rw [← e11]; exact keepI hp10 hc10
    have hA11 : A2 (Rt H11) acc qs := by rw [← e11]; exact hA10.imp fun v q z => z.keepI hp10
    clear e11
    -- once, twice
    refine ⟨by show 2 ≤ sizeLine; decide, fun o1 no1 => ⟨by show 2 ≤ sizeLine; decide, fun o2 no2 => ?_⟩⟩
    have so1 := same_new (o := HO.tup [V.int 0, V.int 1]) no1
    have so2 := same_new (o := HO.tup [V.int 0, V.int 1]) no2
    have so := so1.trans so2
    have r1 : Rt (upd (upd H11 o1 (.tup [V.int 0, V.int 1])) o2 (.tup [V.int 0, V.int 1])) (.ref o1) 0 := ⟨o1, rfl, so2 _ _ upd_same⟩
    have r2 : Rt (upd (upd H11 o1 (.tup [V.int 0, V.int 1])) o2 (.tup [V.int 0, V.int 1])) (.ref o2) 0 := ⟨o2, rfl, upd_same⟩
    have hu6 : (rf6 a b c g l).lookup ("weights" : Str) = some (V.ref a) := (rf6_up a b c g l (by decide +kernel) (by decide +kernel)).trans (rf4_weights a b c)
    have hs6 : (rf6 a b c g l).lookup ("speeds" : Str) = some (V.ref b) := (rf6_up a b c g l (by decide +kernel) (by decide +kernel)).trans (rf4_speeds a b c)
    generalize upd (upd H11 o1 (.tup [V.int 0, V.int 1])) o2 (.tup [V.int 0, V.int 1]) = H12 at so r1 r2
    refine ⟨_, rfl, p, _, dx, _, _, rfl, so _ _ hp11, T.cls_Row, T.na_Row_weights, hu6, _, rfl, p, _, dx, _, _, rfl, so _ _ hp11, T.cls_Row, T.na_Row_speeds, hs6, ?_⟩
    have z0 : Sz 2 (0 : Rat) := ⟨by decide, by decide⟩
    have hlen : (ws.map V.int).length = acc.length := by rw [List.length_map, hA11.1, ← R.q.1, R.l]
    refine ⟨a, b, _, _, rfl, .inr ⟨.inl (.inl (so _ _ ha11)), .inl (.inl (so _ _ hb11)), RZ.for_zipT hlen (fun i σ H' => ∃ (v5 v6 : V) (v7 v8 : Option V) (q1 q2 : Rat), σ = [some (.ref p), some (.ref pw), some (.ref px), some (.bl false), some (.int 0), some v5, some v6, v7, v8] ∧ Same H12 H' ∧ Rt H' v5 q1 ∧ Sz (2 + 105 * i) q1 ∧ Rt H' v6 q2 ∧ Sz (2 + 205 * i) q2)
      ⟨_, _, none, none, 0, 0, rfl, Same.refl _, r1, z0, r2, z0⟩ (fun i σ H' z => ?kp) ?st ?fi⟩⟩
    case kp =>
      obtain ⟨_, _, _, _, _, _, _, s12, _⟩ := z
      exact ⟨.inl (.inl (s12 _ _ (so _ _ ha11))), .inl (.inl (s12 _ _ (so _ _ hb11)))⟩
    case st =>
      rintro i x y Tp σ H' hx hy ⟨v5, v6, v7, v8, q1, q2, rfl, s12, h5, z5, h6, z6⟩ nT
      obtain ⟨wi, ew, rfl⟩ := ints_at hx
      obtain ⟨q, eq, hyq⟩ := hA11.get hy
      obtain ⟨w1, w9⟩ := R.p9 wi (List.mem_of_getElem? ew)
      have hi : i < 40 := by
        have := (List.getElem?_eq_some_iff.mp ew).1
        have := R.l40
        omega
      have zq : Sz 100 q := by
        obtain ⟨v, ev, rv⟩ := R.q.at eq
        exact (rv.sz R.n0).mono R.n100
      have sT := same_new (o := HO.tup [V.int wi, y]) nT
      refine ⟨Tp, [.int wi, y], rfl, .inl (.inl upd_same), rfl, .int wi, [y], rfl, y, [], rfl, rfl, ?_⟩
      generalize upd H' Tp (.tup [V.int wi, y]) = H13 at sT
      have sA := s12.trans sT
      have hy13 := hyq.same (so.trans sA)
      have r4 : ∀ Hz : Hp, Rl Hz 4 (.int wi) (wi : Rat) := fun Hz => Rl.int (by omega)
      have z4 : Sz 4 (wi : Rat) := Sz.int (by omega) (by decide)
      -- once
      refine ⟨_, rfl, _, rfl, _, rfl, 4, 100, _, _, _, q, rfl, r4 _, hy13.rl zq, by decide, by decide, by decide, trivial, fun H14 u s14 hu => ?_⟩
      refine ⟨2 + 105 * i, 104, _, _, q1, _, rfl, ((h5.same sT).same s14).rl z5, hu.rl (z4.times zq), by omega, by decide, by show _ + _ ≤ _; omega, trivial, fun H15 u5 s15 hu5 => ?_⟩
      have zz5 : Sz (2 + 105 * (i + 1)) (q1 + (wi : Rat) * q) := (z5.plus (z4.times zq)).mono (by omega)
      -- twice
      have s16 := s14.trans s15
      refine ⟨_, rfl, _, rfl, _, rfl, _, rfl, 100, 100, _, _, q, q, rfl, (hy13.same s16).rl zq, (hy13.same s16).rl zq, by decide, by decide, by decide, trivial, fun H17 u7 s17 hu7 => ?_⟩
      refine ⟨4, 200, _, _, _, _, rfl, r4 _, hu7.rl (zq.times zq), by decide, by decide, by decide, trivial, fun H18 u8 s18 hu8 => ?_⟩
      have s19 := s17.trans s18
      refine ⟨2 + 205 * i, 204, _, _, q2, _, rfl, (((h6.same sT).same s16).same s19).rl z6, hu8.rl (z4.times (zq.times zq)), by omega, by decide, by show _ + _ ≤ _; omega, trivial, fun H20 u9 s20 hu9 => ?_⟩
      have zz6 : Sz (2 + 205 * (i + 1)) (q2 + (wi : Rat) * (q * q)) := (z6.plus (z4.times (zq.times zq))).mono (by omega)
      exact ⟨u5, u9, _, _, _, _, rfl, sA.trans ((s16.trans s19).trans s20), hu5.same (s19.trans s20), zz5, hu9, zz6⟩
    case fi =>
      rintro σ H' ⟨v5, v6, v7, v8, q1, q2, rfl, s12, h5, z5, h6, z6⟩
      have sA := so.trans s12
      have hp12 := sA _ _ hp11
      have ha12 := sA _ _ ha11
      have hb12 := sA _ _ hb11
      have hc12 := sA _ _ hc11
      have hA12 := hA11.imp fun v q z => z.same sA
      have t12 := t11.trans sA
      refine ⟨_, rfl, _, rfl, p, _, dx, _, rfl, hp12, T.cls_Row, T.na_Row_first_sum, k1000 (rf6_len a b c g l), ?_⟩
      refine ⟨_, rfl, _, rfl, p, _, dx, _, rfl, upd_same, T.cls_Row, T.na_Row_second_sum, k1000 (rf7_len a b c g l v5), ?_⟩
      have hpx : (upd H' p (.ins (He.ga K "Row") dx (rf7 a b c g l v5))) p = some (.ins (He.ga K "Row") dx (rf7 a b c g l v5)) := upd_same
      refine k _ (same_upd (same_upd t12 np) np) ⟨dx, a, b, c, g, l, v5, v6, acc, upd_same, keepI hpx (keepI hp12 ha12), keepI hpx (keepI hp12 hb12), hA12.imp fun v q z => (z.keepI hp12).keepI hpx, keepI hpx (keepI hp12 hc12), by rw [← R.q.1, R.l], R.l2, R.l40, R.p9⟩
end
end G
end
section
set_option Elab.async false
set_option linter.all false
set_option maxRecDepth 100000
set_option maxHeartbeats 4000000
/-! Row made, its length, other speeds; check_ball, check_no_wall. -/
namespace G
open PySem PySem.Spec PyProof.Rows L2
section
variable {P : Program} {w : World} {K : PySem.W.Frag} {mg : Str → Option Value} {base : Heap}
theorem has_row (T : Tx K mg) : HasC P w K mg base 5 "Row" ["self", "weights", "speeds", "wall"] (spRowInit K) := by
  obtain ⟨fd, F⟩ := T.d_Row__init__
  obtain ⟨ds, rd, b⟩ := F.binds1 (ps := ["self", "weights", "speeds", "wall"]) 4 1 (by simp) rfl fun TT kV doc pm an cdv ct us its hu hi => match us, its, hu, hi with | [_, _, _, _], [_], _, _ => ⟨_, rfl, rfl⟩
  cases rd
  exact ⟨_, fd, ok_row_body T F, b, T.mk_Row, T.g_Row⟩
/-- .. with the wall by its name -/
def HasK (P : Program) (w : World) (K : PySem.W.Frag) (mg : Str → Option Value) (base : Heap) (k : Nat) (C : Str) (ps ks : List Str) (n : Nat) (gV : List V → List V → List V) (sp : Sp) : Prop :=
  ∃ f fd g, FnOk P w K mg base CX0 k f fd ps sp ∧ KBn K fd ps n ks g gV ∧ Mk K (He.ga K C) f ∧ mg C = some (.ref (He.ga K C))
theorem has_rowK (T : Tx K mg) : HasK P w K mg base 5 "Row" ["self", "weights", "speeds", "wall"] ["wall"] 3 (fun vs zs => vs ++ zs) (spRowInit K) := by
  obtain ⟨fd, F⟩ := T.d_Row__init__
  obtain ⟨its, b⟩ := F.kbindsD (ps := ["self", "weights", "speeds", "wall"]) 3 ["wall"] (fun us _ ws => us ++ ws) (by simp) (fun r1 _ r3 => r1.append r3) fun TT kV doc pm an cdv ct us its ws hu hi hw => match us, its, ws, hu, hi, hw with | [_, _, _], [_], [_], _, _, _ => ⟨_, rfl, rfl⟩
  exact ⟨_, fd, _, ok_row_body T F, b, T.mk_Row, T.g_Row⟩
/-! ### len(row) -/
def spRowLen (K : PySem.W.Frag) : Sp := fun vs H Q _ => ∃ (p : Addr) (ws : List Int) (qs : List Rat), vs = [.ref p] ∧ RowAt K H p ws qs ∧ Q (.int (ws.length : Int)) H
theorem sc_Row__len__ : FnScope ["self"] ["self"] (defScope s_Row__len__) := ⟨rfl, rfl, rfl, by decide +kernel, rfl, by decide +kernel, by decide +kernel⟩
theorem hasM_of {k : Nat} {C x qual : Str} {st : Stmt} {f : Addr} {N ps : List Str} {sp : Sp} (D : ∃ fd, FunD K x qual (defArgs st) (defBody st) (defScope st) [] [] f fd) (me : Meth K (He.ga K C) x f) (cl : Cls K (He.ga K C))
    (bd : ∀ (kV doc pm : Value) (an : Option Addr) (cdv ct : Value) (us : List Value), us.length = ps.length → bindArgs (PySem.W.fnOf x qual (defArgs st) (defBody st) (defScope st) .none kV doc pm an cdv ct) ⟨us, []⟩ = pure (ps.zip us))
    (S : FnScope N ps (defScope st)) (len : ∀ vs H Q E, sp vs H Q E → vs.length = ps.length)
    (body : ∀ (cdv : Value) (A : Around) (outer : List Env) (s : Shared) (H : Hp) (vs : List V) (Q : VK) (E : XK), Room k (A.deeper (envOfC qual (defScope st) s.heap.objs.size f cdv)) → sp vs H Q E →
      ∃ t, PSs (cxOf CX0 P w K mg base N qual (defScope st) f cdv A outer s H E).nox (defBody st) t ∧ t { nx := fun _ z => Q .non z, rt := Q } (start N vs) H) : HasM P w K mg base (k + 1) C x ps sp := by
  obtain ⟨fd, F⟩ := D
  refine ⟨f, fd, F.ok S len fun cdv A outer s H vs Q E hr h => ?_, F.bindsN bd, me, cl⟩
  obtain ⟨t, z, q⟩ := body cdv A outer s H vs Q E hr h
  exact ⟨t, z.nox, q⟩
theorem hasC_of {k : Nat} {C qual : Str} {st : Stmt} {f : Addr} {N ps : List Str} {sp : Sp} (D : ∃ fd, FunD K "__init__" qual (defArgs st) (defBody st) (defScope st) [] [] f fd) (M : Mk K (He.ga K C) f) (g : mg C = some (.ref (He.ga K C)))
    (bd : ∀ (kV doc pm : Value) (an : Option Addr) (cdv ct : Value) (us : List Value), us.length = ps.length → bindArgs (PySem.W.fnOf "__init__" qual (defArgs st) (defBody st) (defScope st) .none kV doc pm an cdv ct) ⟨us, []⟩ = pure (ps.zip us))
    (S : FnScope N ps (defScope st)) (len : ∀ vs H Q E, sp vs H Q E → vs.length = ps.length)
    (body : ∀ (cdv : Value) (A : Around) (outer : List Env) (s : Shared) (H : Hp) (vs : List V) (Q : VK) (E : XK), Room k (A.deeper (envOfC qual (defScope st) s.heap.objs.size f cdv)) → sp vs H Q E →
      ∃ t, PSs (cxOf CX0 P w K mg base N qual (defScope st) f cdv A outer s H E).nox (defBody st) t ∧ t { nx := fun _ z => Q .non z, rt := Q } (start N vs) H) : HasC P w K mg base (k + 1) C ps sp := by
  obtain ⟨fd, F⟩ := D
  refine ⟨f, fd, F.ok S len fun cdv A outer s H vs Q E hr h => ?_, F.bindsN bd, M, g⟩
  obtain ⟨t, z, q⟩ := body cdv A outer s H vs Q E hr h
  exact ⟨t, z.nox, q⟩
theorem row_weights (a b c : Addr) (g : Int) (l : Bool) (x y : V) : (rf8 a b c g l x y).lookup ("weights" : Str) = some (V.ref a) := (rf8_up a b c g l x y (by decide +kernel) (by decide +kernel) (by decide +kernel) (by decide +kernel)).trans (rf4_weights a b c)
theorem row_speeds (a b c : Addr) (g : Int) (l : Bool) (x y : V) : (rf8 a b c g l x y).lookup ("speeds" : Str) = some (V.ref b) := (rf8_up a b c g l x y (by decide +kernel) (by decide +kernel) (by decide +kernel) (by decide +kernel)).trans (rf4_speeds a b c)
theorem row_wall (a b c : Addr) (g : Int) (l : Bool) (x y : V) : (rf8 a b c g l x y).lookup ("wall" : Str) = some (V.bl false) := (rf8_up a b c g l x y (by decide +kernel) (by decide +kernel) (by decide +kernel) (by decide +kernel)).trans (rf4_wall a b c)
theorem row_pairs (a b c : Addr) (g : Int) (l : Bool) (x y : V) : (rf8 a b c g l x y).lookup ("pairs" : Str) = some (V.ref c) := (rf8_up a b c g l x y (by decide +kernel) (by decide +kernel) (by decide +kernel) (by decide +kernel)).trans (rf4_pairs a b c)
theorem row_meth (a b c : Addr) (g : Int) (l : Bool) (x y : V) : (rf8 a b c g l x y).lookup ("with_speeds" : Str) = none := (rf8_up a b c g l x y (by decide +kernel) (by decide +kernel) (by decide +kernel) (by decide +kernel)).trans (rf4_none a b c (by decide +kernel) (by decide +kernel) (by decide +kernel) (by decide +kernel))
theorem ok_row_len (T : Tx K mg) : HasM P w K mg base 1 "Row" "__len__" ["self"] (spRowLen K) := by
  refine hasM_of T.d_Row__len__ T.me_Row_len T.cls_Row (fun _ _ _ _ _ _ us hl => match us, hl with | [_], _ => rfl) sc_Row__len__ (fun vs H Q E h => ?_) (fun cdv A outer s H vs Q E hr h => ?_)
  · obtain ⟨p, ws, qs, rfl, _⟩ := h
    rfl
  obtain ⟨p, ws, qs, rfl, R, k⟩ := h
  obtain ⟨dx, a, b, c, g, l, x, y, us, hp, ha, _⟩ := R
  refine ⟨_, (pss_one (ps_ret (pe_callB call_len_seq (by rfl) T.n_len (by decide +kernel) (pa_cons (pe_fld (pv 0) rfl) pa_nil)))), ?_⟩
  refine ⟨_, rfl, p, _, dx, _, _, rfl, hp, T.cls_Row, T.na_Row_weights, row_weights a b c g l x y, a, _, rfl, .inr (.inl (.inl ha)), ?_⟩
  rw [List.length_map]
  exact k
/-! ### row.with_speeds -/
def spWith (K : PySem.W.Frag) : Sp := fun vs H Q _ => ∃ (n : Nat) (p : Addr) (v : V) (ws : List Int) (qs0 : List Rat) (xs : List V) (qs : List Rat), vs = [.ref p, v] ∧ RowAt K H p ws qs0 ∧ Sq H v xs ∧ A2 (Rl H n) xs qs ∧ xs.length = ws.length ∧ 0 < n ∧ n ≤ 100 ∧
  ∀ (H' : Hp) (r : Addr), Same H H' → RowAt K H' r ws qs → Q (.ref r) H'
theorem sc_Row_with_speeds : FnScope ["self", "speeds"] ["self", "speeds"] (defScope s_Row_with_speeds) := ⟨rfl, rfl, rfl, by decide +kernel, rfl, by decide +kernel, by decide +kernel⟩
theorem same_made {H : Hp} {x dx C : Addr} (nx : H x = none) (nd : H dx = none) : Same H (upd (upd H dx (.own x)) x (.ins C dx [])) := fun b o e => by
  rw [upd_ne (ne_of_none e nx), upd_ne (ne_of_none e nd)]
  exact e
theorem ok_with (T : Tx K mg) : HasM P w K mg base 7 "Row" "with_speeds" ["self", "speeds"] (spWith K) := by
  have h_Row__init__ : HasC P w K mg base _ "Row" _ _ := has_row T
  refine hasM_of T.d_Row_with_speeds T.me_Row_with_speeds T.cls_Row (fun _ _ _ _ _ _ us hl => match us, hl with | [_, _], _ => rfl) sc_Row_with_speeds (fun vs H Q E h => ?_) (fun cdv A outer s H vs Q E hr h => ?_)
  · obtain ⟨n, p, v, ws, qs0, xs, qs, rfl, _⟩ := h
    rfl
  obtain ⟨n, p, v, ws, qs0, xs, qs, rfl, R, hv, hq, hl, n0, n1, k⟩ := h
  obtain ⟨dx, a, b, c, g, l, x, y, us, hp, ha, hb, hA, hc, e1, l2, l40, p9⟩ := R
  refine ⟨_, (pss_one (ps_ret (pe_mk h_Row__init__ hr (by rfl) (pa_cons (pe_fld (pv 0) rfl) (pa_cons (pv 1) (pa_cons (pe_fld (pv 0) rfl) pa_nil)))))), ?_⟩
  refine ⟨_, rfl, p, _, dx, _, _, rfl, hp, T.cls_Row, T.na_Row_weights, row_weights a b c g l x y, _, rfl, _, rfl, p, _, dx, _, _, rfl, hp, T.cls_Row, T.na_Row_wall, row_wall a b c g l x y, ?_⟩
  intro r dr nr ndr _
  exact ⟨H, n, r, dr, _, v, ws, xs, qs, rfl, same_made nr ndr, nr, upd_same, ⟨⟨a, rfl, .inr ha⟩, hv, hq, hl, l2, l40, p9, n0, n1⟩, fun H' s' R' => ⟨rfl, k H' r s' R'⟩⟩
/-! ### check_ball, check_no_wall -/
def spCheckBall (K : PySem.W.Frag) : Sp := fun vs H Q _ => ∃ (p : Addr) (ws : List Int) (qs : List Rat) (i : Nat), vs = [.ref p, .int (i : Int)] ∧ RowAt K H p ws qs ∧ i < ws.length ∧ Q (.int (i : Int)) H
theorem sc_check_ball : FnScope ["row", "ball"] ["row", "ball"] (defScope s_check_ball) := ⟨rfl, rfl, rfl, by decide +kernel, rfl, by decide +kernel, by decide +kernel⟩
theorem ok_check_ball (T : Tx K mg) : Has P w K mg base 3 "check_ball" ["row", "ball"] (spCheckBall K) := by
  have h_is_whole : Has P w K mg base _ "is_whole" _ _ := ok_is_whole T
  have h_len : HasM P w K mg base _ "Row" "__len__" _ _ := ok_row_len T
  refine has_of T.d_check_ball T.g_check_ball (fun _ _ _ _ _ _ us hl => match us, hl with | [_, _], _ => rfl) sc_check_ball (fun vs H Q E h => ?_) (fun cdv A outer s H vs Q E hr h => ?_)
  · obtain ⟨p, ws, qs, i, rfl, _⟩ := h
    rfl
  obtain ⟨p, ws, qs, i, rfl, R, hi, k⟩ := h
  obtain ⟨dx, a, b, c, g, l, x, y, us, hp, r⟩ := id R
  have l40 : ws.length ≤ 40 := r.2.2.2.2.2.2.1
  refine ⟨_, (pss_cons (ps_if (PW.pt (pw_or (pt_not (pt_val (pe_f h_is_whole hr (by rfl) (pa_cons (pv 1) pa_nil)))) (pw_or1 (pt_not (pt_chain op_le op_lt pe_int (pv 1) (pe_callB (call_lenO h_len hr) (by rfl) T.n_len (by decide +kernel) (pa_cons (pv 0) pa_nil)))))))
    (pss_one ps_never)
    pss_nil)
  (pss_one (ps_ret (pv 1)))), ?_⟩
  refine ⟨_, rfl, _, rfl, true, rfl, iteF ?_⟩
  refine ⟨_, rfl, _, _, rfl, rfl, _, rfl, ifT (by omega) ?_⟩
  refine ⟨_, rfl, p, dx, _, rfl, hp, p, ws, qs, rfl, R, _, rfl, by omega, by omega, ?_⟩
  refine ⟨_, _, rfl, rfl, _, rfl, ?_⟩
  rw [decide_eq_true (show (i : Int) < (ws.length : Int) by omega)]
  exact iteF ⟨_, rfl, k⟩
def spNoWall (K : PySem.W.Frag) : Sp := fun vs H Q _ => ∃ (p : Addr) (ws : List Int) (qs : List Rat), vs = [.ref p] ∧ RowAt K H p ws qs ∧ Q .non H
theorem sc_check_no_wall : FnScope ["row"] ["row"] (defScope s_check_no_wall) := ⟨rfl, rfl, rfl, by decide +kernel, rfl, by decide +kernel, by decide +kernel⟩
theorem ok_check_no_wall (T : Tx K mg) : Has P w K mg base 1 "check_no_wall" ["row"] (spNoWall K) := by
  refine has_of T.d_check_no_wall T.g_check_no_wall (fun _ _ _ _ _ _ us hl => match us, hl with | [_], _ => rfl) sc_check_no_wall (fun vs H Q E h => ?_) (fun cdv A outer s H vs Q E hr h => ?_)
  · obtain ⟨p, ws, qs, rfl, _⟩ := h
    rfl
  obtain ⟨p, ws, qs, rfl, R, k⟩ := h
  obtain ⟨dx, a, b, c, g, l, x, y, us, hp, r⟩ := id R
  refine ⟨_, (pss_one (ps_if (pt_val (pe_fld (pv 0) rfl)) (pss_one ps_never) pss_nil)), ?_⟩
  exact ⟨_, rfl, p, _, dx, _, _, rfl, hp, T.cls_Row, T.na_Row_wall, row_wall a b c g l x y, false, rfl, iteF k⟩
end
end G
end
section
set_option Elab.async false
set_option linter.all false
set_option maxRecDepth 100000
set_option maxHeartbeats 4000000
set_option exponentiation.threshold 100000
/-! Sums. -/
namespace G
open PySem PySem.Spec PyProof.Rows L2
def sf1 (S : Int) : List (Str × V) := putF "scale" (.int S) []
def sf2 (S : Int) (a : Addr) : List (Str × V) := putF "heavy" (.ref a) (sf1 S)
def sf3 (S : Int) (a b : Addr) : List (Str × V) := putF "pushed" (.ref b) (sf2 S a)
section
variable (S : Int) (a b : Addr)
theorem sf_scale : (sf3 S a b).lookup ("scale" : Str) = some (V.int S) := by
  unfold sf3 sf2 sf1
  rw [lookup_putF, if_neg (by decide +kernel), lookup_putF, if_neg (by decide +kernel), lookup_putF, if_pos rfl]
theorem sf_heavy : (sf3 S a b).lookup ("heavy" : Str) = some (V.ref a) := by
  unfold sf3 sf2
  rw [lookup_putF, if_neg (by decide +kernel), lookup_putF, if_pos rfl]
theorem sf_pushed : (sf3 S a b).lookup ("pushed" : Str) = some (V.ref b) := by
  unfold sf3
  rw [lookup_putF, if_pos rfl]
theorem sf_none {f : Str} (h1 : ¬ f = "scale") (h2 : ¬ f = "heavy") (h3 : ¬ f = "pushed") : (sf3 S a b).lookup f = none := by
  unfold sf3 sf2 sf1
  rw [lookup_putF, if_neg h3, lookup_putF, if_neg h2, lookup_putF, if_neg h1]
  rfl
theorem sf1_len : (sf1 S).length ≤ 1 := putF_len _ _ _ (Nat.zero_le _)
theorem sf2_len : (sf2 S a).length ≤ 2 := putF_len _ _ _ (sf1_len S)
end
/-- the sums of a row stand at p -/
def SumsAt (K : PySem.W.Frag) (H : Hp) (p : Addr) (ws : List Int) (qs : List Rat) (N : Nat) : Prop := ∃ (dx l1 l2 : Addr) (S : Int) (hs ps : List Int), H p = some (.ins (He.ga K "Sums") dx (sf3 S l1 l2)) ∧
  H l1 = some (.lst (hs.map V.int)) ∧ H l2 = some (.lst (ps.map V.int)) ∧ SmN ws qs N S hs ps
theorem SumsAt.same {K : PySem.W.Frag} {H H' : Hp} (s : Same H H') {p : Addr} {ws : List Int} {qs : List Rat} {N : Nat} (h : SumsAt K H p ws qs N) : SumsAt K H' p ws qs N := by
  obtain ⟨dx, l1, l2, S, hs, ps, h1, h2, h3, r⟩ := h
  exact ⟨dx, l1, l2, S, hs, ps, s _ _ h1, s _ _ h2, s _ _ h3, r⟩
theorem keepLI {H : Hp} {p l C dx : Addr} {fs : List (Str × V)} {xs : List V} {o : HO} (hp : H p = some (.ins C dx fs)) (h : H l = some (.lst xs)) : upd H p o l = some (.lst xs) := by
  rw [upd_ne (ne_of h hp (by intro z; cases z))]
  exact h
theorem lastI {zs : List Int} {z : Int} : atI ((zs ++ [z]).map V.int) (-1) = some (.int z) := by
  rw [List.map_append]
  exact atI_last _ _
section
variable {P : Program} {w : World} {K : PySem.W.Frag} {mg : Str → Option Value} {base : Heap}
def spSums (K : PySem.W.Frag) : Sp := fun vs H Q _ => ∃ (H0 : Hp) (p r dx : Addr) (ws : List Int) (qs : List Rat) (T D N : Nat), vs = [.ref p, .ref r] ∧ Same H0 H ∧ H0 p = none ∧ H p = some (.ins (He.ga K "Sums") dx []) ∧ RowAt K H0 r ws qs ∧
  Fit T D qs ∧ 0 < D ∧ 360 * T * D < 2 ^ N ∧ T < 2 ^ N ∧ D < 2 ^ N ∧ 0 < N ∧ N ≤ 2000 ∧ ∀ H' : Hp, Same H0 H' → SumsAt K H' p ws qs N → Q .non H'
theorem sc_Sums__init__ : FnScope ["self", "row", "scale", "speed", "heavy", "pushed", "weight"] ["self", "row"] (defScope s_Sums__init__) := ⟨rfl, rfl, rfl, by decide +kernel, rfl, by decide +kernel, by decide +kernel⟩
theorem ok_sums (T : Tx K mg) : HasC P w K mg base 1 "Sums" ["self", "row"] (spSums K) := by
  refine hasC_of T.d_Sums__init__ T.mk_Sums T.g_Sums (fun _ _ _ _ _ _ us hl => match us, hl with | [_, _], _ => rfl) sc_Sums__init__ (fun vs H Q E h => ?_) (fun cdv A outer s H vs Q E hr h => ?_)
  · obtain ⟨H0, p, r, dx, ws, qs, T, D, N, rfl, _⟩ := h
    rfl
  obtain ⟨H0, p, r, dx, ws, qs, Tn, D, N, rfl, s0, np, hp, R, fit, d0, hN, tN, dN, n0, n2, k⟩ := h
  obtain ⟨rx, a, b, c, g, l, x, y, us, hrow, ha, hb, hA, hc, e1, l2, l40, p9⟩ := R.same s0
  refine ⟨_, (pss_cons (ps_set (i := 2) sc_Sums__init__.nd rfl (Or.inl rfl) pe_int)
  (pss_cons (ps_for PassesOwn.never rfl (pi_tup (pe_fld (pv 1) rfl)) (pg_name (i := 3) sc_Sums__init__.nd rfl (Or.inl rfl))
    (pss_one (ps_set (i := 2) sc_Sums__init__.nd rfl (Or.inl rfl) (pe_callBfun cr_lcm (by rfl) T.lcm (pa_cons (pv 2) (pa_cons (pe_ix ix_tup (pv 3) pe_int (fun _ _ => rfl)) pa_nil))))))
  (pss_cons (ps_set (i := 4) sc_Sums__init__.nd rfl (Or.inl rfl) (pe_lst (pa_cons pe_int pa_nil)))
  (pss_cons (ps_set (i := 5) sc_Sums__init__.nd rfl (Or.inl rfl) (pe_lst (pa_cons pe_int pa_nil)))
  (pss_cons (ps_for PassesOwn.never rfl (RZ.pi_zipA (by rfl) T.n_zip (pa_cons (pe_fld (pv 1) rfl) (pa_cons (pe_fld (pv 1) rfl) pa_nil))) (pg_tup (by rfl) (pgs_cons (pg_name (i := 6) sc_Sums__init__.nd rfl (Or.inl rfl)) (pgs_cons (pg_name (i := 3) sc_Sums__init__.nd rfl (Or.inl rfl)) pgs_nil)))
    (pss_cons (ps_expr (pe_bm PySem.F.plainAttrs_list PySem.F.slot_list_append PySem.F.type_list_append mt_append (pv 4) (pa_cons (pe_op op_add (pe_ix ix_list (pv 4) (pe_un un_neg pe_int) (fun _ _ => rfl)) (pv 6)) pa_nil)))
  (pss_one (ps_expr (pe_bm PySem.F.plainAttrs_list PySem.F.slot_list_append PySem.F.type_list_append mt_append (pv 5) (pa_cons (pe_op op_add (pe_ix ix_list (pv 5) (pe_un un_neg pe_int) (fun _ _ => rfl)) (pe_op op_mulW (pe_op op_mulW (pv 6) (pe_ix ix_tup (pv 3) pe_int (fun _ _ => rfl))) (pe_op op_fdivW (pv 2) (pe_ix ix_tup (pv 3) pe_int (fun _ _ => rfl))))) pa_nil))))))
  (pss_cons (ps_fld (pv 0) (pv 2) rfl)
  (pss_cons (ps_fld (pv 0) (pv 4) rfl)
  (pss_one (ps_fld (pv 0) (pv 5) rfl))))))))), ?_⟩
  -- scale
  refine ⟨_, rfl, r, _, rx, _, _, rfl, hrow, T.cls_Row, T.na_Row_speeds, row_speeds a b c g l x y, b, rfl, ⟨us, .inl (.inl hb)⟩, ?_⟩
  have n4 : (2 : Nat) ^ N ≤ 2 ^ 4000 := Nat.pow_le_pow_right (by decide) (by omega)
  refine for_tup (K := K) (a := b) (xs := us) (fun i σ H1 => ∃ (sc : Nat) (v : Option V), σ = [some (.ref p), some (.ref r), some (.int (sc : Int)), v, none, none, none] ∧ H = H1 ∧ 0 < sc ∧ sc ∣ D ∧ ∀ (j : Nat) (q : Rat), j < i → qs[j]? = some q → q.den ∣ sc)
    ⟨1, none, rfl, rfl, by decide, Nat.one_dvd _, fun j q z => by omega⟩ (fun i σ H1 _ ⟨_, _, _, e, _⟩ => by rw [← e]; exact .inl (.inl hb)) ?_ ?_
  · rintro i v σ H1 hv ⟨sc, v3, rfl, rfl, sc0, scd, hdv⟩
    obtain ⟨q, eq, ⟨pq, rfl, hpq⟩⟩ := hA.get hv
    obtain ⟨fT, fD⟩ := fit q (List.mem_of_getElem? eq)
    have scD := Nat.le_of_dvd d0 scd
    have qD := Nat.le_of_dvd d0 fD
    refine ⟨_, rfl, _, rfl, pq, _, _, _, rfl, rfl, .inl (.inl hpq), atI_nat (j := 1) rfl, _, _, rfl, ?_, ?_, ?_⟩
    · rw [Int.natAbs_natCast]
      exact Nat.lt_of_le_of_lt scD (Nat.lt_of_lt_of_le dN n4)
    · rw [Int.natAbs_natCast]
      exact Nat.lt_of_le_of_lt qD (Nat.lt_of_lt_of_le dN n4)
    rw [Int.natAbs_natCast, Int.natAbs_natCast]
    refine ⟨_, _, rfl, rfl, Nat.lcm_pos sc0 q.den_pos, Nat.lcm_dvd scd fD, fun j q' hj e => ?_⟩
    by_cases z : j = i
    · subst z
      rw [eq] at e
      cases e
      exact Nat.dvd_lcm_right _ _
    · exact Nat.dvd_trans (hdv j q' (by omega) e) (Nat.dvd_lcm_left _ _)
  rintro σ H1 ⟨sc, v3, rfl, rfl, sc0, scd, hdv⟩
  have hdq : ∀ (j : Nat) (q : Rat), qs[j]? = some q → q.den ∣ sc := fun j q e => hdv j q (by rw [hA.1]; exact (List.getElem?_eq_some_iff.mp e).1) e
  -- heavy, pushed
  refine ⟨by show 1 ≤ sizeLine; decide, fun q1 nq1 => ⟨by show 1 ≤ sizeLine; decide, fun q2 nq2 => ?_⟩⟩
  have sq1 := same_new (o := HO.lst [V.int 0]) nq1
  have sq2 := same_new (o := HO.lst [V.int 0]) nq2
  have ne12 : q1 ≠ q2 := ne_of_none upd_same nq2
  have nHq2 : H q2 = none := sq1.free nq2
  have sq := sq1.trans sq2
  have hq1 : (upd (upd H q1 (.lst [V.int 0])) q2 (.lst [V.int 0])) q1 = some (.lst [V.int 0]) := sq2 _ _ upd_same
  have hq2 : (upd (upd H q1 (.lst [V.int 0])) q2 (.lst [V.int 0])) q2 = some (.lst [V.int 0]) := upd_same
  generalize upd (upd H q1 (.lst [V.int 0])) q2 (.lst [V.int 0]) = H2 at sq hq1 hq2
  refine ⟨_, rfl, r, _, rx, _, _, rfl, sq _ _ hrow, T.cls_Row, T.na_Row_weights, row_weights a b c g l x y, _, rfl, r, _, rx, _, _, rfl, sq _ _ hrow, T.cls_Row, T.na_Row_speeds, row_speeds a b c g l x y, ?_⟩
  have hlen : (ws.map V.int).length = us.length := by rw [List.length_map, hA.1, e1]
  have S0 : (0 : Int) < (sc : Int) := by omega
  have Sd : ((sc : Int)).natAbs ∣ D := by rw [Int.natAbs_natCast]; exact scd
  refine ⟨a, b, _, _, rfl, .inr ⟨.inl (.inl (sq _ _ ha)), .inl (.inl (sq _ _ hb)), RZ.for_zipT hlen (fun i σ H' => ∃ (v3 v6 : Option V) (hs ps : List Int), σ = [some (.ref p), some (.ref r), some (.int (sc : Int)), v3, some (.ref q1), some (.ref q2), v6] ∧ Same H H' ∧ H' q1 = some (.lst (hs.map V.int)) ∧ H' q2 = some (.lst (ps.map V.int)) ∧ SmI ws qs (sc : Int) Tn D i hs ps)
    ⟨v3, none, [0], [0], rfl, sq, hq1, hq2, SmI.start ws qs _ Tn D⟩ (fun i σ H' z => ?kp) ?st ?fi⟩⟩
  case kp =>
    obtain ⟨_, _, _, _, _, sH, _⟩ := z
    exact ⟨.inl (.inl (sH _ _ ha)), .inl (.inl (sH _ _ hb))⟩
  case st =>
    rintro i xw xq Tp σ H' hw hq ⟨v3, v6, hs, ps, rfl, sH, g1, g2, I⟩ nT
    obtain ⟨wi, ew, rfl⟩ := ints_at hw
    obtain ⟨q, eq, hrq⟩ := hA.get hq
    obtain ⟨w1, w9⟩ := p9 wi (List.mem_of_getElem? ew)
    obtain ⟨fT, fD⟩ := fit q (List.mem_of_getElem? eq)
    have hi : i < 40 := by
      have := (List.getElem?_eq_some_iff.mp ew).1
      omega
    obtain ⟨hs0, zh, ps0, zp, eh, ep, a1, a2, a3, a4, a5⟩ := I.last
    have sT := same_new (o := HO.tup [V.int wi, xq]) nT
    refine ⟨Tp, [.int wi, xq], rfl, .inl (.inl upd_same), rfl, .int wi, [xq], rfl, xq, [], rfl, rfl, ?_⟩
    have sA := sH.trans sT
    have k1 := sT _ _ g1
    have k2 := sT _ _ g2
    generalize upd H' Tp (.tup [V.int wi, xq]) = H3 at sT sA k1 k2
    have k1' : SqL K H3 q1 ((hs0 ++ [zh]).map V.int) := by rw [← eh]; exact .inl (.inl k1)
    refine ⟨_, rfl, .inl ⟨rfl, _, .inl (.inl k1)⟩, _, rfl, 1, rfl, q1, _, -1, _, rfl, rfl, k1', lastI, _, rfl, _, _, rfl, rfl, q1, _, _, rfl, rfl, k1, ?_, ?_⟩
    · rw [List.length_map, I.hl]
      exact small1000 (by omega)
    have nq1H : H q1 = none := nq1
    have k2b : upd H3 q1 (.lst (hs.map V.int ++ [V.int (zh + wi)])) q2 = some (.lst (ps.map V.int)) := by rw [upd_ne ne12.symm]; exact k2
    have sB : Same H (upd H3 q1 (.lst (hs.map V.int ++ [V.int (zh + wi)]))) := same_upd sA nq1H
    have k1b : upd H3 q1 (.lst (hs.map V.int ++ [V.int (zh + wi)])) q1 = some (.lst (hs.map V.int ++ [V.int (zh + wi)])) := upd_same
    generalize upd H3 q1 (.lst (hs.map V.int ++ [V.int (zh + wi)])) = H4 at k2b sB k1b
    obtain ⟨pq, rfl, hpq⟩ := hrq.same sB
    have k2' : SqL K H4 q2 ((ps0 ++ [zp]).map V.int) := by rw [← ep]; exact .inl (.inl k2b)
    have qD := Nat.le_of_dvd d0 fD
    have den0 := q.den_pos
    have dlt : ((q.den : Nat) : Int).natAbs < 2 ^ N := by rw [den_nat]; exact Nat.lt_of_le_of_lt qD dN
    refine ⟨_, rfl, .inl ⟨rfl, _, .inl (.inl k2b)⟩, _, rfl, 1, rfl, q2, _, -1, _, rfl, rfl, k2', lastI, ?_⟩
    refine ⟨_, rfl, _, rfl, pq, _, _, _, rfl, rfl, .inl (.inl hpq), atI_nat (j := 0) rfl, _, _, rfl, rfl, wide_mul (a := 4) (b := N) (by omega) (Nat.lt_of_le_of_lt fT tN) (by decide) n0 (by omega), ?_⟩
    refine ⟨_, rfl, _, rfl, pq, _, _, _, rfl, rfl, .inl (.inl hpq), atI_nat (j := 1) rfl, _, _, rfl, rfl, wide_div (b := N) (by omega) dlt n0 (by omega), ?_⟩
    refine ⟨_, _, rfl, rfl, wide_mul (a := 4 + N) (b := N) (imul_lt (by omega) (Nat.lt_of_le_of_lt fT tN)) (Nat.lt_of_le_of_lt (fd_le S0 Sd d0) dN) (by omega) n0 (by omega), _, _, rfl, rfl, q2, _, _, rfl, rfl, k2b, ?_, ?_⟩
    · rw [List.length_map, I.pl]
      exact small1000 (by omega)
    have I' := I.step eh ep a1 a2 a3 a4 a5 ew eq w1 w9 fT (by rw [Int.natAbs_natCast]; exact hdq i q eq) S0 Sd d0
    refine ⟨_, _, hs ++ [zh + wi], ps ++ [zp + wi * q.num * ((sc : Int) / (q.den : Int))], rfl, same_upd sB nHq2, ?_, ?_, I'⟩
    · rw [upd_ne ne12, List.map_append]
      exact k1b
    · rw [upd_same, List.map_append]
      rfl
  case fi =>
    rintro σ H' ⟨v3, v6, hs, ps, rfl, sH, g1, g2, I⟩
    have hp' := sH _ _ hp
    rw [List.length_map] at I
    have M := I.fin S0 Sd d0 l40 hN dN
    refine ⟨_, rfl, _, rfl, p, _, dx, _, rfl, hp', T.cls_Sums, T.na_Sums_scale, k1000 (Nat.zero_le 0), ?_⟩
    refine ⟨_, rfl, _, rfl, p, _, dx, _, rfl, upd_same, T.cls_Sums, T.na_Sums_heavy, k1000 (sf1_len (sc : Int)), ?_⟩
    refine ⟨_, rfl, _, rfl, p, _, dx, _, rfl, upd_same, T.cls_Sums, T.na_Sums_pushed, k1000 (sf2_len (sc : Int) q1), ?_⟩
    have t := s0.trans sH
    refine k _ (same_upd (same_upd (same_upd t np) np) np) ⟨dx, q1, q2, (sc : Int), hs, ps, upd_same, ?_, ?_, M⟩
    · exact keepLI (fs := sf2 (sc : Int) q1) upd_same (keepLI (fs := sf1 (sc : Int)) upd_same (keepLI hp' g1))
    · exact keepLI (fs := sf2 (sc : Int) q1) upd_same (keepLI (fs := sf1 (sc : Int)) upd_same (keepLI hp' g2))
end
end G
end
section
set_option Elab.async false
set_option linter.all false
set_option maxRecDepth 100000
set_option maxHeartbeats 4000000
set_option exponentiation.threshold 100000
/-! What sums tell. -/
namespace G
open PySem PySem.Spec PyProof.Rows L2
theorem at1 {zs : List Int} {k : Nat} {z i : Int} (e : zs[k]? = some z) (h : i = (k : Int)) : atI (zs.map V.int) i = some (.int z) := by
  rw [h]
  exact atI_nat (ints_get e)
theorem lt_of_W {ws : List Int} (p9 : Pos9 ws) {f l : Nat} (fl : f < l) (ln : l ≤ ws.length) {a b : Int} (ea : (a : Rat) = Wf ws f) (eb : (b : Rat) = Wf ws l) : a < b := by
  rw [← Rat.intCast_lt_intCast, ea, eb]
  exact p9.rise f l fl ln
section
variable {P : Program} {w : World} {K : PySem.W.Frag} {mg : Str → Option Value} {base : Heap}
/-- where the sums are asked: of the balls f to l -/
structure Ask (K : PySem.W.Frag) (H : Hp) (p : Addr) (ws : List Int) (qs : List Rat) (N : Nat) (fi li : Int) (f l : Nat) : Prop where
  at_ : SumsAt K H p ws qs N
  p9 : Pos9 ws
  ef : fi = (f : Int)
  el : li = (l : Int)
  fl : f ≤ l
  ln : l < ws.length
  n0 : 0 < N
  n2 : N ≤ 2000
def spWeight (K : PySem.W.Frag) : Sp := fun vs H Q _ => ∃ (p : Addr) (ws : List Int) (qs : List Rat) (N : Nat) (fi li : Int) (f l : Nat), vs = [.ref p, .int fi, .int li] ∧ Ask K H p ws qs N fi li f l ∧
  ∀ z : Int, (z : Rat) = Wf ws (l + 1) - Wf ws f → 0 < z → z ≤ 360 → Q (.int z) H
theorem sc_Sums_weight_over : FnScope ["self", "first", "last"] ["self", "first", "last"] (defScope s_Sums_weight_over) := ⟨rfl, rfl, rfl, by decide +kernel, rfl, by decide +kernel, by decide +kernel⟩
theorem ok_weight (T : Tx K mg) : HasM P w K mg base 1 "Sums" "weight_over" ["self", "first", "last"] (spWeight K) := by
  refine hasM_of T.d_Sums_weight_over T.me_Sums_weight_over T.cls_Sums (fun _ _ _ _ _ _ us hl => match us, hl with | [_, _, _], _ => rfl) sc_Sums_weight_over (fun vs H Q E h => ?_) (fun cdv A outer s H vs Q E hr h => ?_)
  · obtain ⟨p, ws, qs, N, fi, li, f, l, rfl, _⟩ := h
    rfl
  obtain ⟨p, ws, qs, N, fi, li, f, l, rfl, ⟨⟨dx, l1, l2, S, hs, ps, hp, h1, h2, M⟩, p9, ef, el, fl, ln, n0, n2⟩, k⟩ := h
  obtain ⟨zl, a1, a2, a3, a4⟩ := M.hh (l + 1) (by omega)
  obtain ⟨zf, b1, b2, b3, b4⟩ := M.hh f (by omega)
  have lt := lt_of_W p9 (show f < l + 1 by omega) (by omega) b2 a2
  refine ⟨_, (pss_one (ps_ret (pe_op op_sub (pe_ix ix_list (pe_fld (pv 0) rfl) (pe_op op_add (pv 2) pe_int) (fun _ _ => rfl)) (pe_ix ix_list (pe_fld (pv 0) rfl) (pv 1) (fun _ _ => rfl))))), ?_⟩
  refine ⟨_, rfl, p, _, dx, _, _, rfl, hp, T.cls_Sums, T.na_Sums_heavy, sf_heavy S l1 l2, _, rfl, _, _, rfl, rfl, l1, _, _, _, rfl, rfl, .inl (.inl h1), at1 a1 (by omega), ?_⟩
  refine ⟨_, rfl, p, _, dx, _, _, rfl, hp, T.cls_Sums, T.na_Sums_heavy, sf_heavy S l1 l2, _, rfl, l1, _, _, _, rfl, rfl, .inl (.inl h1), at1 b1 ef, _, _, rfl, rfl, ?_⟩
  exact k (zl - zf) (by rw [Rat.intCast_sub, a2, b2]) (by omega) (by omega)
def spTotal (K : PySem.W.Frag) : Sp := fun vs H Q _ => ∃ (p : Addr) (ws : List Int) (qs : List Rat) (N : Nat) (fi li : Int) (f l : Nat), vs = [.ref p, .int fi, .int li] ∧ Ask K H p ws qs N fi li f l ∧
  ∀ (H' : Hp) (v : V), Same H H' → Rt H' v (Mf ws qs (l + 1) - Mf ws qs f) → Sz (N + 1) (Mf ws qs (l + 1) - Mf ws qs f) → Q v H'
theorem sc_Sums_total_over : FnScope ["self", "first", "last"] ["self", "first", "last"] (defScope s_Sums_total_over) := ⟨rfl, rfl, rfl, by decide +kernel, rfl, by decide +kernel, by decide +kernel⟩
theorem ok_total (T : Tx K mg) : HasM P w K mg base 2 "Sums" "total_over" ["self", "first", "last"] (spTotal K) := by
  have h_lowest_terms : Has P w K mg base _ "lowest_terms" _ _ := ok_lowest_terms T
  refine hasM_of T.d_Sums_total_over T.me_Sums_total_over T.cls_Sums (fun _ _ _ _ _ _ us hl => match us, hl with | [_, _, _], _ => rfl) sc_Sums_total_over (fun vs H Q E h => ?_) (fun cdv A outer s H vs Q E hr h => ?_)
  · obtain ⟨p, ws, qs, N, fi, li, f, l, rfl, _⟩ := h
    rfl
  obtain ⟨p, ws, qs, N, fi, li, f, l, rfl, ⟨⟨dx, l1, l2, S, hs, ps, hp, h1, h2, M⟩, p9, ef, el, fl, ln, n0, n2⟩, k⟩ := h
  obtain ⟨zl, a1, a2, a3⟩ := M.pp (l + 1) (by omega)
  obtain ⟨zf, b1, b2, b3⟩ := M.pp f (by omega)
  refine ⟨_, (pss_one (ps_ret (pe_f h_lowest_terms hr (by rfl) (pa_cons (pe_op op_sub (pe_ix ix_list (pe_fld (pv 0) rfl) (pe_op op_add (pv 2) pe_int) (fun _ _ => rfl)) (pe_ix ix_list (pe_fld (pv 0) rfl) (pv 1) (fun _ _ => rfl))) (pa_cons (pe_fld (pv 0) rfl) pa_nil))))), ?_⟩
  refine ⟨_, rfl, p, _, dx, _, _, rfl, hp, T.cls_Sums, T.na_Sums_pushed, sf_pushed S l1 l2, _, rfl, _, _, rfl, rfl, l2, _, _, _, rfl, rfl, .inl (.inl h2), at1 a1 (by omega), ?_⟩
  refine ⟨_, rfl, p, _, dx, _, _, rfl, hp, T.cls_Sums, T.na_Sums_pushed, sf_pushed S l1 l2, _, rfl, l2, _, _, _, rfl, rfl, .inl (.inl h2), at1 b1 ef, _, _, rfl, rfl, ?_⟩
  refine ⟨_, rfl, p, _, dx, _, _, rfl, hp, T.cls_Sums, T.na_Sums_scale, sf_scale S l1 l2, _, _, rfl, M.s0, lt_mono M.sN (by omega), fun H' v s' hv => ?_⟩
  have e := sm_total M.s0 b2 a2
  rw [e] at hv
  refine k H' v s' hv ?_
  rw [← e]
  exact Sz.low (by have := M.s0; omega) (isub_lt a3 b3) (lt_mono M.sN (by omega))
def spMean (K : PySem.W.Frag) : Sp := fun vs H Q _ => ∃ (p : Addr) (ws : List Int) (qs : List Rat) (N : Nat) (fi li : Int) (f l : Nat), vs = [.ref p, .int fi, .int li] ∧ Ask K H p ws qs N fi li f l ∧
  ∀ (H' : Hp) (v : V), Same H H' → Rt H' v (mean (Wf ws) (Mf ws qs) f (l + 1)) → Sz (N + 10) (mean (Wf ws) (Mf ws qs) f (l + 1)) → Q v H'
theorem sc_Sums_mean_over : FnScope ["self", "first", "last"] ["self", "first", "last"] (defScope s_Sums_mean_over) := ⟨rfl, rfl, rfl, by decide +kernel, rfl, by decide +kernel, by decide +kernel⟩
theorem ok_mean (T : Tx K mg) : HasM P w K mg base 2 "Sums" "mean_over" ["self", "first", "last"] (spMean K) := by
  have h_lowest_terms : Has P w K mg base _ "lowest_terms" _ _ := ok_lowest_terms T
  have h_Sums_weight_over : HasM P w K mg base _ "Sums" "weight_over" _ _ := ok_weight T
  refine hasM_of T.d_Sums_mean_over T.me_Sums_mean_over T.cls_Sums (fun _ _ _ _ _ _ us hl => match us, hl with | [_, _, _], _ => rfl) sc_Sums_mean_over (fun vs H Q E h => ?_) (fun cdv A outer s H vs Q E hr h => ?_)
  · obtain ⟨p, ws, qs, N, fi, li, f, l, rfl, _⟩ := h
    rfl
  obtain ⟨p, ws, qs, N, fi, li, f, l, rfl, A0, k⟩ := h
  obtain ⟨⟨dx, l1, l2, S, hs, ps, hp, h1, h2, M⟩, p9, ef, el, fl, ln, n0, n2⟩ := id A0
  obtain ⟨zl, a1, a2, a3⟩ := M.pp (l + 1) (by omega)
  obtain ⟨zf, b1, b2, b3⟩ := M.pp f (by omega)
  refine ⟨_, (pss_one (ps_ret (pe_f h_lowest_terms hr (by rfl) (pa_cons (pe_op op_sub (pe_ix ix_list (pe_fld (pv 0) rfl) (pe_op op_add (pv 2) pe_int) (fun _ _ => rfl)) (pe_ix ix_list (pe_fld (pv 0) rfl) (pv 1) (fun _ _ => rfl))) (pa_cons (pe_op op_mulW (pe_fld (pv 0) rfl) (pe_m h_Sums_weight_over hr (pv 0) (pa_cons (pv 1) (pa_cons (pv 2) pa_nil)))) pa_nil))))), ?_⟩
  refine ⟨_, rfl, p, _, dx, _, _, rfl, hp, T.cls_Sums, T.na_Sums_pushed, sf_pushed S l1 l2, _, rfl, _, _, rfl, rfl, l2, _, _, _, rfl, rfl, .inl (.inl h2), at1 a1 (by omega), ?_⟩
  refine ⟨_, rfl, p, _, dx, _, _, rfl, hp, T.cls_Sums, T.na_Sums_pushed, sf_pushed S l1 l2, _, rfl, l2, _, _, _, rfl, rfl, .inl (.inl h2), at1 b1 ef, _, _, rfl, rfl, ?_⟩
  refine ⟨_, rfl, p, _, dx, _, _, rfl, hp, T.cls_Sums, T.na_Sums_scale, sf_scale S l1 l2, ?_⟩
  refine ⟨_, rfl, p, dx, _, rfl, hp, sf_none S l1 l2 (by decide +kernel) (by decide +kernel) (by decide +kernel), _, rfl, _, rfl, p, ws, qs, N, _, _, f, l, rfl, A0, fun z ez z0 z1 => ?_⟩
  have zw : z.natAbs < 2 ^ 9 := by omega
  refine ⟨_, _, rfl, rfl, wide_mul M.sN zw n0 (by decide) (by omega), _, _, rfl, Int.mul_pos M.s0 z0, lt_mono (imul_lt M.sN zw) (by omega), fun H' v s' hv => ?_⟩
  obtain ⟨ul, c1, c2, _⟩ := M.hh (l + 1) (by omega)
  obtain ⟨uf, d1, d2, _⟩ := M.hh f (by omega)
  have lt := lt_of_W p9 (show f < l + 1 by omega) (by omega) d2 c2
  have ez2 : z = ul - uf := by
    have : (z : Rat) = ((ul - uf : Int) : Rat) := by rw [ez, Rat.intCast_sub, c2, d2]
    exact Rat.intCast_inj.mp this
  have e := sm_mean M.s0 d2 c2 b2 a2 lt
  rw [← ez2] at e
  rw [e] at hv
  refine k H' v s' hv ?_
  rw [← e]
  have mp := Int.mul_pos M.s0 z0
  exact Sz.low (by omega) (lt_mono (isub_lt a3 b3) (by omega)) (lt_mono (imul_lt M.sN zw) (by omega))
def spFaster (K : PySem.W.Frag) : Sp := fun vs H Q _ => ∃ (p : Addr) (ws : List Int) (qs : List Rat) (N : Nat) (fi mi li : Int) (f m l : Nat), vs = [.ref p, .int fi, .int mi, .int li] ∧ Ask K H p ws qs N fi li f l ∧ mi = (m : Int) ∧ f ≤ m ∧ m < l ∧
  ∀ b : Bool, (b = true ↔ F (Wf ws) (Mf ws qs) f (m + 1) (l + 1)) → Q (.bl b) H
theorem sc_Sums_is_faster : FnScope ["self", "first", "middle", "last", "left", "right"] ["self", "first", "middle", "last"] (defScope s_Sums_is_faster) := ⟨rfl, rfl, rfl, by decide +kernel, rfl, by decide +kernel, by decide +kernel⟩
theorem ok_faster (T : Tx K mg) : HasM P w K mg base 2 "Sums" "is_faster" ["self", "first", "middle", "last"] (spFaster K) := by
  have h_Sums_weight_over : HasM P w K mg base _ "Sums" "weight_over" _ _ := ok_weight T
  refine hasM_of T.d_Sums_is_faster T.me_Sums_is_faster T.cls_Sums (fun _ _ _ _ _ _ us hl => match us, hl with | [_, _, _, _], _ => rfl) sc_Sums_is_faster (fun vs H Q E h => ?_) (fun cdv A outer s H vs Q E hr h => ?_)
  · obtain ⟨p, ws, qs, N, fi, mi, li, f, m, l, rfl, _⟩ := h
    rfl
  obtain ⟨p, ws, qs, N, fi, mi, li, f, m, l, rfl, A0, em, fm, ml, k⟩ := h
  obtain ⟨⟨dx, l1, l2, S, hs, ps, hp, h1, h2, M⟩, p9, ef, el, fl, ln, n0, n2⟩ := id A0
  obtain ⟨zl, a1, a2, a3⟩ := M.pp (l + 1) (by omega)
  obtain ⟨zm, b1, b2, b3⟩ := M.pp (m + 1) (by omega)
  obtain ⟨zf, c1, c2, c3⟩ := M.pp f (by omega)
  obtain ⟨ul, d1, d2, _⟩ := M.hh (l + 1) (by omega)
  obtain ⟨um, e1, e2, _⟩ := M.hh (m + 1) (by omega)
  obtain ⟨uf, f1, f2, _⟩ := M.hh f (by omega)
  refine ⟨_, (pss_cons (ps_set (i := 4) sc_Sums_is_faster.nd rfl (Or.inl rfl) (pe_op op_mulW (pe_op op_sub (pe_ix ix_list (pe_fld (pv 0) rfl) (pe_op op_add (pv 2) pe_int) (fun _ _ => rfl)) (pe_ix ix_list (pe_fld (pv 0) rfl) (pv 1) (fun _ _ => rfl))) (pe_m h_Sums_weight_over hr (pv 0) (pa_cons (pe_op op_add (pv 2) pe_int) (pa_cons (pv 3) pa_nil)))))
  (pss_cons (ps_set (i := 5) sc_Sums_is_faster.nd rfl (Or.inl rfl) (pe_op op_mulW (pe_op op_sub (pe_ix ix_list (pe_fld (pv 0) rfl) (pe_op op_add (pv 3) pe_int) (fun _ _ => rfl)) (pe_ix ix_list (pe_fld (pv 0) rfl) (pe_op op_add (pv 2) pe_int) (fun _ _ => rfl))) (pe_m h_Sums_weight_over hr (pv 0) (pa_cons (pv 1) (pa_cons (pv 2) pa_nil)))))
  (pss_one (ps_ret (pe_cmpR op_gt (pv 4) (pv 5) (nomark _)))))), ?_⟩
  have nn : ∀ (S : Int) (l1 l2 : Addr), (sf3 S l1 l2).lookup ("weight_over" : Str) = none := fun S l1 l2 => sf_none S l1 l2 (by decide +kernel) (by decide +kernel) (by decide +kernel)
  refine ⟨_, rfl, p, _, dx, _, _, rfl, hp, T.cls_Sums, T.na_Sums_pushed, sf_pushed S l1 l2, _, rfl, _, _, rfl, rfl, l2, _, _, _, rfl, rfl, .inl (.inl h2), at1 b1 (by omega), ?_⟩
  refine ⟨_, rfl, p, _, dx, _, _, rfl, hp, T.cls_Sums, T.na_Sums_pushed, sf_pushed S l1 l2, _, rfl, l2, _, _, _, rfl, rfl, .inl (.inl h2), at1 c1 ef, _, _, rfl, rfl, ?_⟩
  refine ⟨_, rfl, p, dx, _, rfl, hp, nn S l1 l2, _, rfl, _, _, rfl, rfl, _, rfl, p, ws, qs, N, _, _, m + 1, l, rfl, ⟨A0.at_, p9, by omega, el, by omega, ln, n0, n2⟩, fun z1 g1 z10 z11 => ?_⟩
  have v1 : z1.natAbs < 2 ^ 9 := by omega
  refine ⟨_, _, rfl, rfl, wide_mul (isub_lt b3 c3) v1 (by omega) (by decide) (by omega), ?_⟩
  refine ⟨_, rfl, p, _, dx, _, _, rfl, hp, T.cls_Sums, T.na_Sums_pushed, sf_pushed S l1 l2, _, rfl, _, _, rfl, rfl, l2, _, _, _, rfl, rfl, .inl (.inl h2), at1 a1 (by omega), ?_⟩
  refine ⟨_, rfl, p, _, dx, _, _, rfl, hp, T.cls_Sums, T.na_Sums_pushed, sf_pushed S l1 l2, _, rfl, _, _, rfl, rfl, l2, _, _, _, rfl, rfl, .inl (.inl h2), at1 b1 (by omega), _, _, rfl, rfl, ?_⟩
  refine ⟨_, rfl, p, dx, _, rfl, hp, nn S l1 l2, _, rfl, _, rfl, p, ws, qs, N, _, _, f, m, rfl, ⟨A0.at_, p9, ef, em, by omega, by omega, n0, n2⟩, fun z2 g2 z20 z21 => ?_⟩
  have v2 : z2.natAbs < 2 ^ 9 := by omega
  refine ⟨_, _, rfl, rfl, wide_mul (isub_lt a3 b3) v2 (by omega) (by decide) (by omega), ?_⟩
  refine ⟨_, rfl, _, rfl, _, _, rfl, rfl, ?_⟩
  have x1 : z1 = ul - um := by
    have : (z1 : Rat) = ((ul - um : Int) : Rat) := by rw [g1, Rat.intCast_sub, d2, e2]
    exact Rat.intCast_inj.mp this
  have x2 : z2 = um - uf := by
    have : (z2 : Rat) = ((um - uf : Int) : Rat) := by rw [g2, Rat.intCast_sub, e2, f2]
    exact Rat.intCast_inj.mp this
  refine k _ ?_
  rw [decide_eq_true_iff, x1, x2]
  exact sm_faster M.s0 f2 e2 d2 c2 b2 a2
end
end G
end
section
set_option Elab.async false
set_option linter.all false
set_option maxRecDepth 100000
set_option maxHeartbeats 8000000
set_option exponentiation.threshold 100000
/-! pooled_parting. -/
namespace G
open PySem PySem.Spec PyProof.Rows L2
/-- the stack as the program's list -/
def stk (L : List Nat) : List V := L.reverse.map fun (k : Nat) => V.int (k : Int)
theorem stk_cons (b : Nat) (L : List Nat) : stk (b :: L) = stk L ++ [V.int (b : Int)] := by
  unfold stk
  rw [List.reverse_cons, List.map_append]
  rfl
theorem stk_len (L : List Nat) : (stk L).length = L.length := by
  unfold stk
  rw [List.length_map, List.length_reverse]
theorem stk_last (b : Nat) (L : List Nat) : atI (stk (b :: L)) (-1) = some (V.int (b : Int)) := by
  rw [stk_cons]
  exact atI_last _ _
theorem at_m2 (xs : List V) (u v : V) : atI (xs ++ [u] ++ [v]) (-2) = some u := by
  unfold atI ixN
  have hl : (xs ++ [u] ++ [v]).length = xs.length + 2 := by simp
  rw [hl, if_neg (by decide), if_pos (by omega)]
  show (xs ++ [u] ++ [v])[(-2 + ((xs.length + 2 : Nat) : Int)).toNat]? = some u
  have : (-2 + ((xs.length + 2 : Nat) : Int)).toNat = xs.length := by omega
  rw [this, List.append_assoc, List.getElem?_append_right (Nat.le_refl _), Nat.sub_self]
  rfl
theorem stk_last2 (b a : Nat) (L : List Nat) : atI (stk (b :: a :: L)) (-2) = some (V.int (a : Int)) := by
  rw [stk_cons, stk_cons]
  exact at_m2 _ _ _
theorem stk_pop (b : Nat) (L : List Nat) : (stk (b :: L)).dropLast = stk L := by
  rw [stk_cons, List.dropLast_concat]
theorem stk_top (b : Nat) (L : List Nat) : (stk (b :: L))[(stk (b :: L)).length - 1]? = some (V.int (b : Int)) := by
  rw [stk_cons]
  simp
theorem stk_get {L : List Nat} {i : Nat} {v : V} (h : (stk L)[i]? = some v) : ∃ b, L.reverse[i]? = some b ∧ v = .int (b : Int) := by
  unfold stk at h
  rw [List.getElem?_map] at h
  cases e : L.reverse[i]? with
  | none =>
    rw [e] at h
    cases h
  | some b =>
    rw [e] at h
    exact ⟨b, rfl, (Option.some.inj h).symm⟩
theorem stk_at {L : List Nat} {i b : Nat} (h : L.reverse[i]? = some b) : (stk L)[i]? = some (.int (b : Int)) := by
  unfold stk
  rw [List.getElem?_map, h]
  rfl
/-- a lot as a tuple -/
def LotAt (H : Hp) (v : V) (p : Nat × Nat) : Prop := ∃ a, v = .ref a ∧ H a = some (.tup [.int (p.1 : Int), .int (p.2 : Int)])
theorem LotAt.same {H H' : Hp} (s : Same H H') {v : V} {p : Nat × Nat} (h : LotAt H v p) : LotAt H' v p := let ⟨a, e, z⟩ := h; ⟨a, e, s _ _ z⟩
theorem LotAt.keepL {H : Hp} {l : Addr} {ys : List V} {v : V} {p : Nat × Nat} {o : HO} (hp : H l = some (.lst ys)) (h : LotAt H v p) : LotAt (upd H l o) v p := let ⟨a, e, z⟩ := h; ⟨a, e, G.keepL hp z⟩
def qf1 (t : Addr) : List (Str × V) := putF "lots" (.ref t) []
def qf2 (t : Addr) (m : V) : List (Str × V) := putF "means" m (qf1 t)
theorem qf_lots (t : Addr) (m : V) : (qf2 t m).lookup ("lots" : Str) = some (V.ref t) := by
  unfold qf2 qf1
  rw [lookup_putF, if_neg (by decide +kernel), lookup_putF, if_pos rfl]
/-- a parting of these lots stands at p -/
def PartAt (K : PySem.W.Frag) (H : Hp) (p : Addr) (lots : List (Nat × Nat)) : Prop := ∃ (dx t : Addr) (m : V) (vs : List V), H p = some (.ins (He.ga K "Parting") dx (qf2 t m)) ∧ H t = some (.tup vs) ∧ A2 (LotAt H) vs lots
section
variable {P : Program} {w : World} {K : PySem.W.Frag} {mg : Str → Option Value} {base : Heap}
def spParting (K : PySem.W.Frag) : Sp := fun vs H Q _ => ∃ (H0 : Hp) (p t dx : Addr) (m : V), vs = [.ref p, .ref t, m] ∧ Same H0 H ∧ H0 p = none ∧ H p = some (.ins (He.ga K "Parting") dx []) ∧
  ∀ H' : Hp, Same H0 H' → H' p = some (.ins (He.ga K "Parting") dx (qf2 t m)) → Q .non H'
theorem sc_Parting__init__ : FnScope ["self", "lots", "means"] ["self", "lots", "means"] (defScope s_Parting__init__) := ⟨rfl, rfl, rfl, by decide +kernel, rfl, by decide +kernel, by decide +kernel⟩
theorem ok_parting (T : Tx K mg) : HasC P w K mg base 1 "Parting" ["self", "lots", "means"] (spParting K) := by
  refine hasC_of T.d_Parting__init__ T.mk_Parting T.g_Parting (fun _ _ _ _ _ _ us hl => match us, hl with | [_, _, _], _ => rfl) sc_Parting__init__ (fun vs H Q E h => ?_) (fun cdv A outer s H vs Q E hr h => ?_)
  · obtain ⟨H0, p, t, dx, m, rfl, _⟩ := h
    rfl
  obtain ⟨H0, p, t, dx, m, rfl, s0, np, hp, k⟩ := h
  refine ⟨_, (pss_cons (ps_fld (pv 0) (pv 1) rfl) (pss_one (ps_fld (pv 0) (pv 2) rfl))), ?_⟩
  refine ⟨_, rfl, _, rfl, p, _, dx, _, rfl, hp, T.cls_Parting, T.na_Parting_lots, k1000 (Nat.zero_le 0), ?_⟩
  refine ⟨_, rfl, _, rfl, p, _, dx, _, rfl, upd_same, T.cls_Parting, T.na_Parting_means, k1000 (m := 1) (putF_len _ _ _ (Nat.zero_le _)), ?_⟩
  exact k _ (same_upd (same_upd s0 np) np) upd_same
/-- the sizes that a row's speeds have -/
structure Fits (qs : List Rat) (T D N : Nat) : Prop where
  fit : Fit T D qs
  d0 : 0 < D
  h1 : 360 * T * D < 2 ^ N
  h2 : T < 2 ^ N
  h3 : D < 2 ^ N
  n0 : 0 < N
  n2 : N ≤ 2000
def spPooled (K : PySem.W.Frag) : Sp := fun vs H Q _ => ∃ (r : Addr) (ws : List Int) (qs : List Rat) (T D N : Nat), vs = [.ref r] ∧ RowAt K H r ws qs ∧ Fits qs T D N ∧
  ∀ (H' : Hp) (p : Addr), Same H H' → PartAt K H' p (lotsR (bnds (Wf ws) (Mf ws qs) ws.length ws.length) ws.length) → Q (.ref p) H'
theorem sc_pooled_parting : FnScope ["row", "sums", "begins", "ball", "lots", "place", "first", "behind", "last"] ["row"] (defScope s_pooled_parting) := ⟨rfl, rfl, rfl, by decide +kernel, rfl, by decide +kernel, by decide +kernel⟩
theorem ok_pooled (T : Tx K mg) : Has P w K mg base 3 "pooled_parting" ["row"] (spPooled K) := by
  have h_check_no_wall : Has P w K mg base _ "check_no_wall" _ _ := ok_check_no_wall T
  have h_Sums__init__ : HasC P w K mg base _ "Sums" _ _ := ok_sums T
  have h_Parting__init__ : HasC P w K mg base _ "Parting" _ _ := ok_parting T
  have h_Sums_mean_over : HasM P w K mg base _ "Sums" "mean_over" _ _ := ok_mean T
  have h_Sums_is_faster : HasM P w K mg base _ "Sums" "is_faster" _ _ := ok_faster T
  have h_len : HasM P w K mg base _ "Row" "__len__" _ _ := ok_row_len T
  refine has_of T.d_pooled_parting T.g_pooled_parting (fun _ _ _ _ _ _ us hl => match us, hl with | [_], _ => rfl) sc_pooled_parting (fun vs H Q E h => ?_) (fun cdv A outer s H vs Q E hr h => ?_)
  · obtain ⟨r, ws, qs, Tn, D, N, rfl, _⟩ := h
    rfl
  obtain ⟨r, ws, qs, Tn, D, N, rfl, R, fit, k⟩ := h
  obtain ⟨rx, a, b, c, g, l, x, y, us, hrow, ha, hb, hA, hc, e1, l2, l40, p9⟩ := id R
  refine ⟨_, (pss_cons (ps_expr (pe_f h_check_no_wall hr (by rfl) (pa_cons (pv 0) pa_nil)))
  (pss_cons (ps_set (i := 1) sc_pooled_parting.nd rfl (Or.inr rfl) (pe_mk h_Sums__init__ hr (by rfl) (pa_cons (pv 0) pa_nil)))
  (pss_cons (ps_set (i := 2) sc_pooled_parting.nd rfl (Or.inl rfl) (pe_lst pa_nil))
  (pss_cons (ps_for PassesOwn.never rfl (pi_range1 (by rfl) T.n_range (pa_cons (pe_callB (call_lenO h_len hr) (by rfl) T.n_len (by decide +kernel) (pa_cons (pv 0) pa_nil)) pa_nil)) (pg_name (i := 3) sc_pooled_parting.nd rfl (Or.inl rfl))
    (pss_cons (ps_expr (pe_bm PySem.F.plainAttrs_list PySem.F.slot_list_append PySem.F.type_list_append mt_append (pv 2) (pa_cons (pv 3) pa_nil)))
  (pss_one (ps_while PassesOwn.never (PW.pt (pw_and (pt_cmpR op_gt (pe_callB call_len_seq (by rfl) T.n_len (by decide +kernel) (pa_cons (pv 2) pa_nil)) pe_int (nomark _)) (pw_and1 (pt_val (pe_m h_Sums_is_faster hr (pv 1) (pa_cons (pe_ix ix_list (pv 2) (pe_un un_neg pe_int) (fun _ _ => rfl)) (pa_cons (pe_op op_sub (pe_ix ix_list (pv 2) (pe_un un_neg pe_int) (fun _ _ => rfl)) pe_int) (pa_cons (pv 3) pa_nil))))))))
    (pss_one (ps_expr (pe_bm0 PySem.F.plainAttrs_list PySem.F.slot_list_pop PySem.F.type_list_pop mt_pop (pv 2))))))))
  (pss_cons (ps_set (i := 4) sc_pooled_parting.nd rfl (Or.inl rfl) (pe_lst pa_nil))
  (pss_cons (ps_for PassesOwn.never rfl (pi_enum (by rfl) T.n_enumerate (pa_cons (pv 2) pa_nil)) (pg_tup (by rfl) (pgs_cons (pg_name (i := 5) sc_pooled_parting.nd rfl (Or.inl rfl)) (pgs_cons (pg_name (i := 6) sc_pooled_parting.nd rfl (Or.inl rfl)) pgs_nil)))
    (pss_cons (ps_set (i := 7) sc_pooled_parting.nd rfl (Or.inl rfl) (pe_ifExp (pt_cmpR op_lt (pe_op op_add (pv 5) pe_int) (pe_callB call_len_seq (by rfl) T.n_len (by decide +kernel) (pa_cons (pv 2) pa_nil)) (nomark _)) (pe_ix ix_list (pv 2) (pe_op op_add (pv 5) pe_int) (fun _ _ => rfl)) (pe_callB (call_lenO h_len hr) (by rfl) T.n_len (by decide +kernel) (pa_cons (pv 0) pa_nil))))
  (pss_one (ps_expr (pe_bm PySem.F.plainAttrs_list PySem.F.slot_list_append PySem.F.type_list_append mt_append (pv 4) (pa_cons (pe_tup (pa_cons (pv 6) (pa_cons (pe_op op_sub (pv 7) pe_int) pa_nil))) pa_nil))))))
  (pss_one (ps_ret (pe_mk h_Parting__init__ hr (by rfl) (pa_cons (pe_callTy call_tup_any (by rfl) T.n_tuple (by decide +kernel) (pa_cons (pv 4) pa_nil)) (pa_cons (pe_callTy call_tup_any (by rfl) T.n_tuple (by decide +kernel) (pa_cons (pe_lc (own := [("first", 6), ("last", 8)]) (g := gTup K 2 (gCons (gName 6) (gCons (gName 8) gNil))) rfl sc_pooled_parting.nd (pi_list (pv 4)) (blkOk_by (own := [("first", 6), ("last", 8)]) (N := ["row", "sums", "begins", "ball", "lots", "place", "first", "behind", "last"]) (sc := defScope s_pooled_parting) (by decide +kernel)) (fun _ _ _ _ _ => (pg_tup (by rfl) (pgs_cons (pg_name (i := 6) sc_pooled_parting.nd rfl (Or.inl rfl)) (pgs_cons (pg_name (i := 8) sc_pooled_parting.nd rfl (Or.inl rfl)) pgs_nil)))) (fun _ _ _ _ _ => pts_nil) (fun _ _ _ _ _ => by exact pe_m h_Sums_mean_over hr (pv 1) (pa_cons (pv 6) (pa_cons (pv 8) pa_nil)))) pa_nil)) pa_nil))))))))))), ?_⟩
  refine ⟨_, rfl, r, ws, qs, rfl, R, ?_⟩
  refine ⟨_, rfl, fun sm ds nsm nds _ => ?_⟩
  refine ⟨H, sm, r, ds, ws, qs, Tn, D, N, rfl, same_made nsm nds, nsm, upd_same, R, fit.fit, fit.d0, fit.h1, fit.h2, fit.h3, fit.n0, fit.n2, fun H1 s1 hS => ⟨rfl, ?_⟩⟩
  have R1 := R.same s1
  have hrow1 := s1 _ _ hrow
  -- begins
  refine ⟨Nat.zero_le _, fun lb nlb => ?_⟩
  have sb := same_new (o := HO.lst []) nlb
  refine ⟨_, rfl, r, rx, _, rfl, sb _ _ hrow1, r, ws, qs, rfl, R1.same sb, _, rfl, by omega, by omega, _, rfl, by omega, by omega, ?_⟩
  have sb1 := s1.trans sb
  have nlbH : H lb = none := s1.free nlb
  have hS1 := hS.same sb
  have hB0 : (upd H1 lb (.lst [])) lb = some (.lst (stk [])) := upd_same
  generalize upd H1 lb (.lst []) = H2 at sb sb1 hS1 hB0
  refine for_range (lo := 0) (n := ws.length) (fun i σ H' => ∃ (L : List Nat) (v3 : Option V), σ = [some (.ref r), some (.ref sm), some (.ref lb), v3, none, none, none, none, none] ∧ Same H1 H' ∧ H' lb = some (.lst (stk L)) ∧ Ok (Wf ws) (Mf ws qs) L i)
    ⟨[], none, rfl, sb, hB0, rfl⟩ ?_ ?_
  · rintro i σ H' hi ⟨L, v3, rfl, sH, hL, ok⟩
    have ei : (0 : Int) + ((i : Nat) : Int) = ((i : Nat) : Int) := by omega
    rw [ei]
    have llen := ok.len
    refine ⟨_, rfl, .inl ⟨rfl, _, .inl (.inl hL)⟩, _, rfl, lb, _, _, rfl, rfl, hL, by rw [stk_len]; exact small1000 (by omega), ?_⟩
    rw [← stk_cons]
    have sH2 : Same H1 (upd H' lb (.lst (stk (i :: L)))) := same_upd sH nlb
    have hL2 : (upd H' lb (.lst (stk (i :: L)))) lb = some (.lst (stk (i :: L))) := upd_same
    generalize upd H' lb (.lst (stk (i :: L))) = H3 at sH2 hL2
    refine ⟨fun m σ H' => ∃ L : List Nat, m = L.length ∧ σ = [some (.ref r), some (.ref sm), some (.ref lb), some (.int (i : Int)), none, none, none, none, none] ∧ Same H1 H' ∧ H' lb = some (.lst (stk L)) ∧ OkW (Wf ws) (Mf ws qs) L (i + 1), ⟨_, i :: L, rfl, rfl, sH2, hL2, OkW.push ok⟩, ?_⟩
    rintro m σ H4 ⟨L, rfl, rfl, s4, h4, okw⟩
    have out : ∀ (b : Nat) (t : List Nat), L = b :: t → (∀ a t', t = a :: t' → ¬ F (Wf ws) (Mf ws qs) a b (i + 1)) → ∃ (L : List Nat) (v3 : Option V), [some (V.ref r), some (.ref sm), some (.ref lb), some (.int (i : Int)), none, none, none, none, none] = [some (.ref r), some (.ref sm), some (.ref lb), v3, none, none, none, none, none] ∧ Same H1 H4 ∧ H4 lb = some (.lst (stk L)) ∧ Ok (Wf ws) (Mf ws qs) L (i + 1) := by
      rintro b t rfl h
      exact ⟨b :: t, _, rfl, s4, h4, OkW.done okw h⟩
    refine ⟨_, rfl, lb, _, rfl, .inl (.inl (.inl h4)), _, _, rfl, rfl, _, rfl, ?_⟩
    rcases L with _ | ⟨b, _ | ⟨a', t⟩⟩
    · exact okw.elim
    · rw [decide_eq_false (by rw [stk_len]; show ¬ (1 : Int) < ((1 : Nat) : Int); omega)]
      refine iteF (iteF ?_)
      exact out b [] rfl fun a t' z => nomatch z
    · rw [decide_eq_true (by rw [stk_len]; show (1 : Int) < ((t.length + 1 + 1 : Nat) : Int); omega)]
      refine iteT ?_
      obtain ⟨o1, o2, o3, o4⟩ := id okw
      have ab : a' < b := o3
      obtain ⟨dS, l1, l2', S, hs, ps, hSp, _⟩ := id (hS.same s4)
      refine ⟨_, rfl, sm, dS, _, rfl, hSp, sf_none S l1 l2' (by decide +kernel) (by decide +kernel) (by decide +kernel), _, rfl, 2, rfl, lb, _, -2, _, rfl, rfl, .inl (.inl h4), stk_last2 b a' t, ?_⟩
      refine ⟨_, rfl, 1, rfl, lb, _, -1, _, rfl, rfl, .inl (.inl h4), stk_last b (a' :: t), _, _, rfl, rfl, _, rfl, ?_⟩
      refine ⟨sm, ws, qs, N, _, _, _, a', b - 1, i, rfl, ⟨hS.same s4, p9, rfl, rfl, by omega, by omega, fit.n0, fit.n2⟩, by omega, by omega, by omega, fun z hz => ⟨z, rfl, ?_⟩⟩
      have eb : b - 1 + 1 = b := by omega
      rw [eb] at hz
      cases z with
      | false =>
        refine iteF ?_
        refine out b (a' :: t) rfl fun a2 t2 e => ?_
        injection e with e1 e2
        subst e1
        intro q
        have := hz.mpr q
        cases this
      | true =>
        have f := hz.mp rfl
        refine iteT ⟨fun σ' H' => ∃ L : List Nat, L.length < (b :: a' :: t).length ∧ σ' = [some (.ref r), some (.ref sm), some (.ref lb), some (.int (i : Int)), none, none, none, none, none] ∧ Same H1 H' ∧ H' lb = some (.lst (stk L)) ∧ OkW (Wf ws) (Mf ws qs) L (i + 1), fun σ' H' ⟨L, q0, q1, q2, q3, q4⟩ => ⟨L.length, q0, L, rfl, q1, q2, q3, q4⟩, ?_⟩
        refine ⟨_, rfl, .inl ⟨rfl, _, .inl (.inl h4)⟩, lb, _, _, rfl, rfl, h4, stk_top b (a' :: t), ?_⟩
        rw [stk_pop]
        exact ⟨a' :: t, Nat.lt_succ_self _, rfl, same_upd s4 nlb, upd_same, OkW.pop p9.rise (by omega) okw f⟩
  rintro σ H3 ⟨L, v3, rfl, s3, hL, ok⟩
  have eL := pav p9.rise (by omega) ok
  have llen := ok.len
  -- lots
  refine ⟨Nat.zero_le _, fun ll nll => ?_⟩
  have nll1 : H1 ll = none := s3.free nll
  have sl := same_new (o := HO.lst []) nll
  have sl1 := s3.trans sl
  have hL4 := sl _ _ hL
  have h40 : (upd H3 ll (.lst [])) ll = some (.lst []) := upd_same
  have nel : lb ≠ ll := ne_of_none hL nll
  generalize upd H3 ll (.lst []) = H4 at sl sl1 hL4 h40
  refine ⟨_, rfl, lb, _, rfl, .inl (.inl hL4), ?_⟩
  refine for_it (walk_enum (K := K) (a := lb) (xs := stk L)) (fun i σ H' => ∃ (v5 v6 v7 : Option V) (vs : List V), σ = [some (.ref r), some (.ref sm), some (.ref lb), v3, some (.ref ll), v5, v6, v7, none] ∧ Same H1 H' ∧ H' lb = some (.lst (stk L)) ∧ H' ll = some (.lst vs) ∧ A2 (LotAt H') vs ((lotsA L.reverse ws.length).take i))
    ⟨none, none, none, [], rfl, sl1, hL4, h40, A2.nil⟩ (fun i σ H' _ ⟨_, _, _, _, _, _, z, _⟩ => .inl (.inl z)) ?_ ?_
  · rintro i pr σ H5 H6 hi ⟨v5, v6, v7, vs, rfl, s5, h5, h5l, hvs⟩ ⟨Tp, xi, xb, rfl, nT, rfl, exi, exb⟩
    cases exi
    obtain ⟨bb, eb, rfl⟩ := stk_get exb
    have sT := same_new (o := HO.tup [V.int (i : Int), V.int (bb : Int)]) nT
    refine ⟨Tp, _, rfl, .inl (.inl upd_same), rfl, _, _, rfl, _, _, rfl, rfl, ?_⟩
    have s6 := s5.trans sT
    have h6 := sT _ _ h5
    have h6l := sT _ _ h5l
    have hvs6 := hvs.imp fun v q z => z.same sT
    generalize upd H5 Tp (.tup [V.int (i : Int), V.int (bb : Int)]) = H6 at sT s6 h6 h6l hvs6
    have hlA := lotsA_get (e := ws.length) eb
    rw [stk_len] at hi
    have vlen : vs.length ≤ 40 := by
      rw [hvs6.1, List.length_take, lotsA_len, List.length_reverse]
      omega
    -- behind the tuple is laid and appended
    have fin : ∀ (z : Nat) (xb : Int) (v7 : Option V) (pn : Addr), xb = (z : Int) - 1 → 0 < z → z = (if i + 1 < L.reverse.length then L.reverse.getD (i + 1) 0 else ws.length) → H6 pn = none →
        ∃ (v5 v6 v7' : Option V) (vs' : List V), [some (V.ref r), some (.ref sm), some (.ref lb), v3, some (.ref ll), some (.int (i : Int)), some (.int (bb : Int)), v7, none] = [some (V.ref r), some (.ref sm), some (.ref lb), v3, some (.ref ll), v5, v6, v7', none] ∧
          Same H1 (upd (upd H6 pn (.tup [.int (bb : Int), .int xb])) ll (.lst (vs ++ [.ref pn]))) ∧ (upd (upd H6 pn (.tup [.int (bb : Int), .int xb])) ll (.lst (vs ++ [.ref pn]))) lb = some (.lst (stk L)) ∧
          (upd (upd H6 pn (.tup [.int (bb : Int), .int xb])) ll (.lst (vs ++ [.ref pn]))) ll = some (.lst vs') ∧ A2 (LotAt (upd (upd H6 pn (.tup [.int (bb : Int), .int xb])) ll (.lst (vs ++ [.ref pn])))) vs' ((lotsA L.reverse ws.length).take (i + 1)) := by
      intro z xb v7 pn ex z0 ez npn
      have sp := same_new (o := HO.tup [V.int (bb : Int), V.int xb]) npn
      have hl := sp _ _ h6l
      have e1 : xb = ((z - 1 : Nat) : Int) := by omega
      have lt : LotAt (upd H6 pn (.tup [.int (bb : Int), .int xb])) (.ref pn) (bb, z - 1) := ⟨pn, rfl, by rw [upd_same, e1]⟩
      refine ⟨_, _, _, vs ++ [.ref pn], rfl, same_upd (s6.trans sp) nll1, ?_, upd_same, ?_⟩
      · rw [upd_ne nel]
        exact sp _ _ h6
      · rw [List.take_add_one, hlA, ← ez]
        exact ((hvs6.imp fun v q y => y.same sp).snoc lt).imp fun v q y => y.keepL hl
    refine ⟨_, rfl, _, _, rfl, rfl, _, rfl, lb, _, rfl, .inl (.inl (.inl h6)), _, _, rfl, rfl, _, rfl, ?_⟩
    by_cases q : i + 1 < L.length
    · rw [decide_eq_true (show (i : Int) + 1 < ((stk L).length : Int) by rw [stk_len]; omega)]
      refine iteT ?_
      have gq : L.reverse[i + 1]? = some (L.reverse[i + 1]'(by rw [List.length_reverse]; exact q)) := List.getElem?_eq_getElem _
      have gp := ok.rev_pos i _ gq
      refine ⟨_, rfl, _, rfl, _, _, rfl, rfl, lb, _, _, _, rfl, rfl, .inl (.inl h6), at_of (j := i + 1) (by omega) (stk_at gq), ?_⟩
      refine ⟨_, rfl, .inl ⟨rfl, _, .inl (.inl h6l)⟩, _, rfl, _, rfl, _, _, rfl, rfl, by show 2 ≤ sizeLine; decide, fun pn npn => ?_⟩
      have sp := same_new (o := HO.tup [V.int (bb : Int), V.int (((L.reverse[i + 1]'(by rw [List.length_reverse]; exact q) : Nat) : Int) - 1)]) npn
      refine ⟨ll, _, _, rfl, rfl, sp _ _ h6l, small1000 (by omega), ?_⟩
      refine fin _ _ _ pn rfl gp ?_ npn
      rw [if_pos (by rw [List.length_reverse]; exact q), List.getD_eq_getElem?_getD, gq]
      rfl
    · rw [decide_eq_false (show ¬ (i : Int) + 1 < ((stk L).length : Int) by rw [stk_len]; omega)]
      refine iteF ?_
      refine ⟨_, rfl, r, rx, _, rfl, s6 _ _ hrow1, r, ws, qs, rfl, R1.same s6, _, rfl, by omega, by omega, ?_⟩
      refine ⟨_, rfl, .inl ⟨rfl, _, .inl (.inl h6l)⟩, _, rfl, _, rfl, _, _, rfl, rfl, by show 2 ≤ sizeLine; decide, fun pn npn => ?_⟩
      have sp := same_new (o := HO.tup [V.int (bb : Int), V.int ((ws.length : Int) - 1)]) npn
      refine ⟨ll, _, _, rfl, rfl, sp _ _ h6l, small1000 (by omega), ?_⟩
      refine fin ws.length _ _ pn rfl (by omega) ?_ npn
      rw [if_neg (by rw [List.length_reverse]; exact q)]
  · rintro σ H5 ⟨v5, v6, v7, vs, rfl, s5, h5, h5l, hvs⟩
    rw [stk_len, ← List.length_reverse, ← lotsA_len L.reverse ws.length, List.take_length, lotsA_rev] at hvs
    have inl := lotsR_in (n := ws.length) ok (Nat.le_refl _)
    have vlen : vs.length ≤ 40 := by rw [hvs.1, lotsR_len]; omega
    -- tuple(lots)
    refine ⟨_, rfl, _, vs, rfl, ⟨ll, rfl, .inl h5l⟩, fun t H6 s6 ht => ?_⟩
    have h6l := s6 _ _ h5l
    have hvs6 := hvs.imp fun v q z => z.same s6
    have sA := s5.trans s6
    -- the means
    refine ⟨_, rfl, ll, rfl, ⟨vs, .inl (.inl h6l)⟩, fun D nD => lc_list (K := K) (a := ll) (xs := vs) (fun i H7 => Same H6 H7 ∧ ∃ acc, H7 D = some (.lst acc) ∧ acc.length = i) ⟨same_new nD, [], upd_same, rfl⟩ (fun i H7 _ z => .inl (.inl (z.1 _ _ h6l))) ?_ ?_⟩
    · rintro i v H7 hv ⟨s7, acc, hD, hacc⟩
      obtain ⟨⟨f, la⟩, ep, ⟨pa, rfl, hpa⟩⟩ := hvs6.get hv
      obtain ⟨i1, i2⟩ := inl _ (List.mem_of_getElem? ep)
      have hi : i < 40 := by
        have := (List.getElem?_eq_some_iff.mp hv).1
        omega
      have s17 := sA.trans s7
      obtain ⟨dS, l1, l2', S, hs, ps, hSp, _⟩ := id (hS.same s17)
      refine ⟨pa, _, rfl, .inl (.inl (s7 _ _ hpa)), rfl, _, _, rfl, _, _, rfl, rfl, rfl, ?_⟩
      refine ⟨_, rfl, sm, dS, _, rfl, hSp, sf_none S l1 l2' (by decide +kernel) (by decide +kernel) (by decide +kernel), _, rfl, _, rfl, ?_⟩
      refine ⟨sm, ws, qs, N, _, _, f, la, rfl, ⟨hS.same s17, p9, rfl, rfl, i1, i2, fit.n0, fit.n2⟩, fun H8 u s8 _ _ => ?_⟩
      exact ⟨acc, s8 _ _ hD, small1000 (by omega), same_upd (s7.trans s8) nD, acc ++ [u], upd_same, by rw [List.length_append, hacc]; rfl⟩
    rintro H7 ⟨s7, acc, hD, hacc⟩
    refine ⟨_, acc, rfl, ⟨D, rfl, .inl hD⟩, fun m H8 s8 _ => ?_⟩
    intro pp dp npp ndp _
    have s18 := (sA.trans s7).trans s8
    refine ⟨H8, pp, t, dp, _, rfl, same_made npp ndp, npp, upd_same, fun H9 s9 h9 => ⟨rfl, ?_⟩⟩
    have s69 := (s7.trans s8).trans s9
    refine k H9 pp ((s1.trans s18).trans s9) ⟨dp, t, _, vs, h9, s69 _ _ ht, ?_⟩
    rw [← eL]
    exact hvs6.imp fun v q z => z.same s69
end
end G
end
section
set_option Elab.async false
set_option linter.all false
set_option maxRecDepth 100000
set_option maxHeartbeats 8000000
set_option exponentiation.threshold 100000
/-! _bound_above. -/
namespace G
open PySem PySem.Spec PyProof.Rows L2
theorem SumsAt.ins {K : PySem.W.Frag} {H : Hp} {p : Addr} {ws : List Int} {qs : List Rat} {N : Nat} (h : SumsAt K H p ws qs N) : ∃ (dx : Addr) (fs : List (Str × V)), H p = some (.ins (He.ga K "Sums") dx fs) ∧
    fs.lookup ("weight_over" : Str) = none ∧ fs.lookup ("total_over" : Str) = none ∧ fs.lookup ("mean_over" : Str) = none := by
  obtain ⟨dx, l1, l2, S, hs, ps, hp, _⟩ := h
  exact ⟨dx, _, hp, sf_none S l1 l2 (by decide +kernel) (by decide +kernel) (by decide +kernel), sf_none S l1 l2 (by decide +kernel) (by decide +kernel) (by decide +kernel), sf_none S l1 l2 (by decide +kernel) (by decide +kernel) (by decide +kernel)⟩
/-- None or a told ratio -/
def Ot (H : Hp) (v : V) : Option Rat → Prop
  | none => v = .non
  | some q => Rt H v q
theorem Ot.same {H H' : Hp} (s : Same H H') {v : V} {o : Option Rat} (h : Ot H v o) : Ot H' v o := by
  cases o with
  | none => exact h
  | some q => exact Rt.same s h
theorem Rt.notNon {H : Hp} {v : V} {q : Rat} (h : Rt H v q) : ¬ v = .non := fun z => by
  obtain ⟨p, e, _⟩ := h
  rw [e] at z
  cases z
/-- what is asked of a bound: where the row stands -/
structure AskB (K : PySem.W.Frag) (H : Hp) (p : Addr) (ws : List Int) (qs : List Rat) (N : Nat) (wb : Int) (bi pi : Int) (b k : Nat) : Prop where
  at_ : SumsAt K H p ws qs N
  p9 : Pos9 ws
  l40 : ws.length ≤ 40
  ew : ws[b]? = some wb
  eb : bi = (b : Int)
  ek : pi = (k : Int)
  kn : k + 1 < ws.length
  n0 : 0 < N
  n2 : N ≤ 1000
/-- what it says -/
def Says (ws : List Int) (qs : List Rat) (N : Nat) (wb : Int) (b k : Nat) (ab : Prop) (o : Option Rat) : Prop :=
  Bd (fun u => Parted (Wf ws) (Mu (Mf ws qs) b ((wb : Rat) * u)) ws.length k) ab o ∧ ∀ v, o = some v → Sz (2 * N + 25) v
section
variable {P : Program} {w : World} {K : PySem.W.Frag} {mg : Str → Option Value} {base : Heap}
def spAbove (K : PySem.W.Frag) : Sp := fun vs H Q _ => ∃ (p : Addr) (ws : List Int) (qs : List Rat) (N : Nat) (wb bi pi : Int) (b k : Nat), vs = [.ref p, .int wb, .int bi, .int pi] ∧ AskB K H p ws qs N wb bi pi b k ∧ b ≤ k ∧
  ∀ (H' : Hp) (v : V) (o : Option Rat), Same H H' → Ot H' v o → Says ws qs N wb b k (b ≤ k) o → Q v H'
theorem sc__bound_above : FnScope ["sums", "weight", "ball", "pair", "many", "least", "last", "mean", "first", "bound", "spare", "speed"] ["sums", "weight", "ball", "pair"] (defScope s__bound_above) := ⟨rfl, rfl, rfl, by decide +kernel, rfl, by decide +kernel, by decide +kernel⟩
theorem ok_above (T : Tx K mg) : Has P w K mg base 5 "_bound_above" ["sums", "weight", "ball", "pair"] (spAbove K) := by
  have h_compare : Has P w K mg base _ "compare" _ _ := ok_compare T
  have h_over : Has P w K mg base _ "over" _ _ := ok_over T
  have h_minus : Has P w K mg base _ "minus" _ _ := ok_minus T
  have h_times : Has P w K mg base _ "times" _ _ := ok_times T
  have h_Sums_total_over : HasM P w K mg base _ "Sums" "total_over" _ _ := ok_total T
  have h_Sums_weight_over : HasM P w K mg base _ "Sums" "weight_over" _ _ := ok_weight T
  have h_Sums_mean_over : HasM P w K mg base _ "Sums" "mean_over" _ _ := ok_mean T
  refine has_of T.d__bound_above T.g__bound_above (fun _ _ _ _ _ _ us hl => match us, hl with | [_, _, _, _], _ => rfl) sc__bound_above (fun vs H Q E h => ?_) (fun cdv A outer s H vs Q E hr h => ?_)
  · obtain ⟨p, ws, qs, N, wb, bi, pi, b, k, rfl, _⟩ := h
    rfl
  obtain ⟨p, ws, qs, N, wb, bi, pi, b, k, rfl, ⟨hS, p9, l40, ew, eb, ek, kn, n0, n2⟩, bk, fin⟩ := h
  obtain ⟨w1, w9⟩ := p9 wb (List.mem_of_getElem? ew)
  have rise := p9.rise
  refine ⟨_, (pss_cons (ps_set (i := 4) sc__bound_above.nd rfl (Or.inl rfl) (pe_op op_sub (pe_callB call_len_seq (by rfl) T.n_len (by decide +kernel) (pa_cons (pe_fld (pv 0) rfl) pa_nil)) pe_int))
  (pss_cons (ps_set (i := 5) sc__bound_above.nd rfl (Or.inl rfl) (pe_m h_Sums_mean_over hr (pv 0) (pa_cons (pe_op op_add (pv 3) pe_int) (pa_cons (pe_op op_add (pv 3) pe_int) pa_nil))))
  (pss_cons (ps_for PassesOwn.never rfl (pi_range2 (by rfl) T.n_range (pa_cons (pe_op op_add (pv 3) pe_int) (pa_cons (pv 4) pa_nil))) (pg_name (i := 6) sc__bound_above.nd rfl (Or.inl rfl))
    (pss_cons (ps_set (i := 7) sc__bound_above.nd rfl (Or.inl rfl) (pe_m h_Sums_mean_over hr (pv 0) (pa_cons (pe_op op_add (pv 3) pe_int) (pa_cons (pv 6) pa_nil))))
  (pss_one (ps_if (pt_cmpR op_lt (pe_f h_compare hr (by rfl) (pa_cons (pv 7) (pa_cons (pv 5) pa_nil))) pe_int (nomark _))
    (pss_one (ps_set (i := 5) sc__bound_above.nd rfl (Or.inl rfl) (pv 7)))
    pss_nil))))
  (pss_cons (ps_for PassesOwn.never rfl (pi_range2 (by rfl) T.n_range (pa_cons (pe_op op_add (pv 2) pe_int) (pa_cons (pe_op op_add (pv 3) pe_int) pa_nil))) (pg_name (i := 8) sc__bound_above.nd rfl (Or.inl rfl))
    (pss_one (ps_if (pt_cmpR op_gt (pe_f h_compare hr (by rfl) (pa_cons (pe_m h_Sums_mean_over hr (pv 0) (pa_cons (pv 8) (pa_cons (pv 3) pa_nil))) (pa_cons (pv 5) pa_nil))) pe_int (nomark _))
    (pss_one (ps_ret pe_non))
    pss_nil)))
  (pss_cons (ps_set (i := 9) sc__bound_above.nd rfl (Or.inl rfl) pe_non)
  (pss_cons (ps_for PassesOwn.never rfl (pi_range1 (by rfl) T.n_range (pa_cons (pe_op op_add (pv 2) pe_int) pa_nil)) (pg_name (i := 8) sc__bound_above.nd rfl (Or.inl rfl))
    (pss_cons (ps_set (i := 10) sc__bound_above.nd rfl (Or.inl rfl) (pe_f h_minus hr (by rfl) (pa_cons (pe_f h_times hr (by rfl) (pa_cons (pv 5) (pa_cons (pe_m h_Sums_weight_over hr (pv 0) (pa_cons (pv 8) (pa_cons (pv 3) pa_nil))) pa_nil))) (pa_cons (pe_m h_Sums_total_over hr (pv 0) (pa_cons (pv 8) (pa_cons (pv 3) pa_nil))) pa_nil))))
  (pss_cons (ps_set (i := 11) sc__bound_above.nd rfl (Or.inl rfl) (pe_f h_over hr (by rfl) (pa_cons (pv 10) (pa_cons (pv 1) pa_nil))))
  (pss_one (ps_if (PW.pt (pw_or (pt_cmpR op_isN (pv 9) pe_non (nomark _)) (pw_or1 (pt_cmpR op_lt (pe_f h_compare hr (by rfl) (pa_cons (pv 11) (pa_cons (pv 9) pa_nil))) pe_int (nomark _)))))
    (pss_one (ps_set (i := 9) sc__bound_above.nd rfl (Or.inl rfl) (pv 11)))
    pss_nil)))))
  (pss_one (ps_ret (pv 9))))))))), ?_⟩
  -- many
  obtain ⟨dx0, l1, l2, S, hs, ps, hp0, h1, h2, M⟩ := id hS
  have hn : ((hs.map V.int).length : Int) - 1 = (ws.length : Int) := by rw [List.length_map, M.hl]; omega
  refine ⟨_, rfl, p, _, dx0, _, _, rfl, hp0, T.cls_Sums, T.na_Sums_heavy, sf_heavy S l1 l2, l1, _, rfl, .inl (.inl (.inl h1)), _, _, rfl, rfl, ?_⟩
  show gName 4 (V.int (((hs.map V.int).length : Int) - 1)) _ H _
  rw [hn]
  -- least
  obtain ⟨dS, fS, hSp, m1, m2, m3⟩ := hS.ins
  refine ⟨_, rfl, p, dS, fS, rfl, hSp, m3, _, rfl, _, _, rfl, rfl, _, rfl, _, _, rfl, rfl, p, ws, qs, N, _, _, k + 1, k + 1, rfl, ⟨hS, p9, by omega, by omega, by omega, by omega, n0, by omega⟩, fun H1 v5 s1 hv5 z5 => ?_⟩
  refine ⟨_, rfl, _, _, rfl, rfl, _, rfl, _, _, rfl, ⟨by omega, by omega, by omega, by omega⟩, ?_⟩
  refine for_range (lo := pi + 2) (n := ((ws.length : Int) - (pi + 2)).toNat) (fun i σ H' => ∃ (v5 : V) (v6 v7 : Option V) (c : Rat) (l0 : Nat), σ = [some (.ref p), some (.int wb), some (.int bi), some (.int pi), some (.int (ws.length : Int)), some v5, v6, v7, none, none, none, none] ∧ Same H H' ∧ Rt H' v5 c ∧ Sz (N + 10) c ∧
      k < l0 ∧ l0 < ws.length ∧ c = mean (Wf ws) (Mf ws qs) (k + 1) (l0 + 1) ∧ ∀ l, k < l → l ≤ k + 1 + i → c ≤ mean (Wf ws) (Mf ws qs) (k + 1) (l + 1))
    ⟨v5, none, none, _, k + 1, rfl, s1, hv5, z5, by omega, by omega, rfl, fun l a c => by
      have : l = k + 1 := by omega
      rw [this]
      exact Rat.le_refl⟩ ?_ ?_
  · rintro i σ H2 hi ⟨v5, v6, v7, c, l0, rfl, s2, hv5, z5, kl, ln, hc, hl⟩
    have hlast : k + 2 + i < ws.length := by omega
    obtain ⟨dS, fS, hSp, m1, m2, m3⟩ := (hS.same s2).ins
    refine ⟨_, rfl, p, dS, fS, rfl, hSp, m3, _, rfl, _, _, rfl, rfl, _, rfl, p, ws, qs, N, _, _, k + 1, k + 2 + i, rfl, ⟨hS.same s2, p9, by omega, by omega, by omega, by omega, n0, by omega⟩, fun H3 v7 s3 hv7 z7 => ?_⟩
    have hv53 := hv5.same s3
    refine ⟨_, rfl, _, rfl, N + 10, N + 10, _, _, _, c, rfl, hv7.rl z7, hv53.rl z5, by omega, by omega, by omega, fun H4 s4 => ?_⟩
    have s24 := (s2.trans s3).trans s4
    refine ⟨_, _, rfl, rfl, _, rfl, ?_⟩
    by_cases q : mean (Wf ws) (Mf ws qs) (k + 1) (k + 2 + i + 1) < c
    · rw [decide_eq_true ((cmp_lt _ _).mpr q)]
      refine iteT ⟨_, rfl, ?_⟩
      refine ⟨v7, _, _, _, k + 2 + i, rfl, s24, hv7.same s4, z7, by omega, by omega, rfl, fun l a d => ?_⟩
      by_cases e : l = k + 2 + i
      · rw [e]
        exact Rat.le_refl
      · exact Rat.le_of_lt (Std.lt_of_lt_of_le q (hl l a (by omega)))
    · rw [decide_eq_false (fun z => q ((cmp_lt _ _).mp z))]
      refine iteF ?_
      refine ⟨v5, _, _, c, l0, rfl, s24, hv53.same s4, z5, kl, ln, hc, fun l a d => ?_⟩
      by_cases e : l = k + 2 + i
      · rw [e]
        exact Rat.not_lt.mp q
      · exact hl l a (by omega)
  rintro σ H2 ⟨v5, v6, v7, c, l0, rfl, s2, hv5, z5, kl, ln, hc, hl⟩
  have hl : ∀ l, k < l → l < ws.length → c ≤ mean (Wf ws) (Mf ws qs) (k + 1) (l + 1) := fun l a d => hl l a (by omega)
  -- those that don't hang on the ball
  refine ⟨_, rfl, _, _, rfl, rfl, _, rfl, _, _, rfl, rfl, _, _, rfl, ⟨by omega, by omega, by omega, by omega⟩, ?_⟩
  refine for_range (lo := bi + 1) (n := (pi + 1 - (bi + 1)).toNat) (fun i σ H' => ∃ (v8 : Option V), σ = [some (.ref p), some (.int wb), some (.int bi), some (.int pi), some (.int (ws.length : Int)), some v5, v6, v7, v8, none, none, none] ∧ Same H2 H' ∧ ∀ f, b < f → f ≤ b + i → mean (Wf ws) (Mf ws qs) f (k + 1) ≤ c)
    ⟨none, rfl, Same.refl _, fun f a d => by omega⟩ ?_ ?_
  · rintro i σ H3 hi ⟨v8, rfl, s3, hf⟩
    have hi2 : b + 1 + i ≤ k := by omega
    obtain ⟨dS, fS, hSp, m1, m2, m3⟩ := (hS.same (s2.trans s3)).ins
    refine ⟨_, rfl, p, dS, fS, rfl, hSp, m3, _, rfl, _, rfl, p, ws, qs, N, _, _, b + 1 + i, k, rfl, ⟨hS.same (s2.trans s3), p9, by omega, ek, by omega, by omega, n0, by omega⟩, fun H4 u s4 hu zu => ?_⟩
    refine ⟨_, rfl, N + 10, N + 10, _, _, _, c, rfl, hu.rl zu, (hv5.same (s3.trans s4)).rl z5, by omega, by omega, by omega, fun H5 s5 => ?_⟩
    have s35 := (s3.trans s4).trans s5
    refine ⟨_, _, rfl, rfl, _, rfl, ?_⟩
    by_cases q : c < mean (Wf ws) (Mf ws qs) (b + 1 + i) (k + 1)
    · rw [decide_eq_true ((cmp_gt _ _).mpr q)]
      refine iteT ?_
      refine fin H5 .non none (s2.trans s35) rfl ⟨?_, fun v z => by cases z⟩
      intro u
      exact above_none rise (show b < b + 1 + i by omega) hi2 kl ln (by rw [← hc]; exact q) u
    · rw [decide_eq_false (fun z => q ((cmp_gt _ _).mp z))]
      refine iteF ?_
      refine ⟨_, rfl, s35, fun f a d => ?_⟩
      by_cases e : f = b + 1 + i
      · rw [e]
        exact Rat.not_lt.mp q
      · exact hf f a (by omega)
  rintro σ H3 ⟨v8, rfl, s3, hf⟩
  have hf : ∀ f, b < f → f ≤ k → mean (Wf ws) (Mf ws qs) f (k + 1) ≤ c := fun f a d => hf f a (by omega)
  have s23 := s2.trans s3
  have hv53 := hv5.same s3
  have hbn : (bi + 1).toNat = b + 1 := by omega
  have wpos : (0 : Rat) < (wb : Rat) := Rat.intCast_pos.mpr (by omega)
  -- the bound
  refine ⟨_, rfl, _, _, rfl, rfl, _, rfl, by omega, by omega, ?_⟩
  refine for_range (lo := 0) (n := (bi + 1).toNat) (fun i σ H' => ∃ (v8 : Option V) (v9 : V) (v10 v11 : Option V) (o : Option Rat), σ = [some (.ref p), some (.int wb), some (.int bi), some (.int pi), some (.int (ws.length : Int)), some v5, v6, v7, v8, some v9, v10, v11] ∧ Same H3 H' ∧ Ot H' v9 o ∧
      (0 < i → ∃ v f0, o = some v ∧ f0 < i ∧ v = bdA (Wf ws) (Mf ws qs) (wb : Rat) c k f0 ∧ Sz (2 * N + 25) v ∧ ∀ f, f < i → v ≤ bdA (Wf ws) (Mf ws qs) (wb : Rat) c k f) ∧ (i = 0 → o = none))
    ⟨v8, .non, none, none, none, rfl, Same.refl _, rfl, fun z => by omega, fun _ => rfl⟩ ?_ ?_
  · rintro i σ H4 hi ⟨v8, v9, v10, v11, o, rfl, s4, ho, hpos, hzero⟩
    have hib : i ≤ b := by
      rw [hbn] at hi
      exact Nat.le_of_lt_succ hi
    have ei : (0 : Int) + ((i : Nat) : Int) = ((i : Nat) : Int) := by omega
    rw [ei]
    have hS4 := hS.same (s23.trans s4)
    obtain ⟨dS, fS, hSp, m1, m2, m3⟩ := hS4.ins
    refine ⟨_, rfl, _, rfl, p, dS, fS, rfl, hSp, m1, _, rfl, _, rfl, p, ws, qs, N, _, _, i, k, rfl, ⟨hS4, p9, rfl, ek, by omega, by omega, n0, by omega⟩, fun z ez z0 z1 => ?_⟩
    have zz : Sz 9 (z : Rat) := Sz.int (by omega) (by decide)
    refine ⟨N + 10, 9, _, _, c, _, rfl, (hv53.same s4).rl z5, Rl.int (by omega), by omega, by decide, by show _ + _ ≤ _; omega, trivial, fun H5 u5 s5 hu5 => ?_⟩
    have hS5 := hS4.same s5
    obtain ⟨dS, fS, hSp, m1, m2, m3⟩ := hS5.ins
    refine ⟨_, rfl, p, dS, fS, rfl, hSp, m2, _, rfl, _, rfl, p, ws, qs, N, _, _, i, k, rfl, ⟨hS5, p9, rfl, ek, by omega, by omega, n0, by omega⟩, fun H6 u6 s6 hu6 z6 => ?_⟩
    have zt := z5.times zz
    refine ⟨N + 10 + 9, N + 1, _, _, _, _, rfl, (hu5.same s6).rl zt, hu6.rl z6, by omega, by omega, by show _ + _ ≤ _; omega, trivial, fun H7 u7 s7 hu7 => ?_⟩
    have zm := zt.minus z6
    have zw : Sz 4 (wb : Rat) := Sz.int (by omega) (by decide)
    refine ⟨_, rfl, _, rfl, N + 10 + 9 + (N + 1) + 1, 4, _, _, _, (wb : Rat), rfl, hu7.rl zm, Rl.int (by omega), by omega, by decide, by show _ + _ ≤ _; omega, (by show 0 < wb; omega), fun H8 u8 s8 hu8 => ?_⟩
    have s48 := ((s5.trans s6).trans s7).trans s8
    have zo : Sz (2 * N + 25) ((c * (z : Rat) - (Mf ws qs (k + 1) - Mf ws qs i)) / (wb : Rat)) := (zm.over zw (by grind)).mono (by omega)
    have ebd : (c * (z : Rat) - (Mf ws qs (k + 1) - Mf ws qs i)) / (wb : Rat) = bdA (Wf ws) (Mf ws qs) (wb : Rat) c k i := by
      unfold bdA
      rw [ez]
    replace hu8 : Rt H8 u8 ((c * (z : Rat) - (Mf ws qs (k + 1) - Mf ws qs i)) / (wb : Rat)) := hu8
    rw [ebd] at hu8 zo
    have hv9 := ho.same s48
    refine ⟨_, rfl, rfl, _, rfl, ?_⟩
    by_cases i0 : i = 0
    · have := hzero i0
      subst this
      have : v9 = .non := hv9
      subst this
      rw [decide_eq_true rfl]
      refine iteT (iteT ⟨_, rfl, ?_⟩)
      refine ⟨_, u8, _, _, some _, rfl, s4.trans s48, hu8, fun _ => ⟨_, i, rfl, by omega, rfl, zo, fun f hf => ?_⟩, fun z => by omega⟩
      have : f = i := by omega
      rw [this]
      exact Rat.le_refl
    · obtain ⟨v, f0, rfl, f0i, ev, zv, hm⟩ := hpos (by omega)
      have hv9r : Rt H8 v9 v := hv9
      rw [decide_eq_false hv9r.notNon]
      refine iteF ?_
      refine ⟨_, rfl, _, rfl, 2 * N + 25, 2 * N + 25, _, _, _, v, rfl, hu8.rl zo, hv9r.rl zv, by omega, by omega, by omega, fun H9 s9 => ?_⟩
      refine ⟨_, _, rfl, rfl, _, rfl, ?_⟩
      have s49 := s48.trans s9
      by_cases q : bdA (Wf ws) (Mf ws qs) (wb : Rat) c k i < v
      · rw [decide_eq_true ((cmp_lt _ _).mpr q)]
        refine iteT ⟨_, rfl, ?_⟩
        refine ⟨_, u8, _, _, some _, rfl, s4.trans s49, Rt.same s9 hu8, fun _ => ⟨_, i, rfl, by omega, rfl, zo, fun f hf => ?_⟩, fun z => by omega⟩
        by_cases e : f = i
        · rw [e]
          exact Rat.le_refl
        · exact Rat.le_of_lt (Std.lt_of_lt_of_le q (hm f (by omega)))
      · rw [decide_eq_false (fun z => q ((cmp_lt _ _).mp z))]
        refine iteF ?_
        refine ⟨_, v9, _, _, some v, rfl, s4.trans s49, Rt.same s9 hv9r, fun _ => ⟨v, f0, rfl, by omega, ev, zv, fun f hf => ?_⟩, fun z => by omega⟩
        by_cases e : f = i
        · rw [e]
          exact Rat.not_lt.mp q
        · exact hm f (by omega)
  rintro σ H4 ⟨v8, v9, v10, v11, o, rfl, s4, ho, hpos, _⟩
  rw [hbn] at hpos
  obtain ⟨v, f0, rfl, f0i, ev, zv, hm⟩ := hpos (by omega)
  refine ⟨_, rfl, ?_⟩
  refine fin H4 v9 (some v) (s23.trans s4) ho ⟨⟨fun _ u => ?_, fun z => absurd bk z⟩, fun v' z => by cases z; exact zv⟩
  exact above_some rise wpos bk kl ln hc hl hf (show f0 ≤ b by omega) ev (fun f hf => hm f (by omega)) u
end
end G
end
section
set_option Elab.async false
set_option linter.all false
set_option maxRecDepth 100000
set_option maxHeartbeats 8000000
set_option exponentiation.threshold 100000
/-! _bound_below. -/
namespace G
open PySem PySem.Spec PyProof.Rows L2
section
variable {P : Program} {w : World} {K : PySem.W.Frag} {mg : Str → Option Value} {base : Heap}
def spBelow (K : PySem.W.Frag) : Sp := fun vs H Q _ => ∃ (p : Addr) (ws : List Int) (qs : List Rat) (N : Nat) (wb bi pi : Int) (b k : Nat), vs = [.ref p, .int wb, .int bi, .int pi] ∧ AskB K H p ws qs N wb bi pi b k ∧ k < b ∧
  ∀ (H' : Hp) (v : V) (o : Option Rat), Same H H' → Ot H' v o → Says ws qs N wb b k (b ≤ k) o → Q v H'
theorem sc__bound_below : FnScope ["sums", "weight", "ball", "pair", "many", "greatest", "first", "mean", "last", "bound", "lacking", "speed"] ["sums", "weight", "ball", "pair"] (defScope s__bound_below) := ⟨rfl, rfl, rfl, by decide +kernel, rfl, by decide +kernel, by decide +kernel⟩
theorem ok_below (T : Tx K mg) : Has P w K mg base 5 "_bound_below" ["sums", "weight", "ball", "pair"] (spBelow K) := by
  have h_compare : Has P w K mg base _ "compare" _ _ := ok_compare T
  have h_over : Has P w K mg base _ "over" _ _ := ok_over T
  have h_minus : Has P w K mg base _ "minus" _ _ := ok_minus T
  have h_times : Has P w K mg base _ "times" _ _ := ok_times T
  have h_Sums_total_over : HasM P w K mg base _ "Sums" "total_over" _ _ := ok_total T
  have h_Sums_weight_over : HasM P w K mg base _ "Sums" "weight_over" _ _ := ok_weight T
  have h_Sums_mean_over : HasM P w K mg base _ "Sums" "mean_over" _ _ := ok_mean T
  refine has_of T.d__bound_below T.g__bound_below (fun _ _ _ _ _ _ us hl => match us, hl with | [_, _, _, _], _ => rfl) sc__bound_below (fun vs H Q E h => ?_) (fun cdv A outer s H vs Q E hr h => ?_)
  · obtain ⟨p, ws, qs, N, wb, bi, pi, b, k, rfl, _⟩ := h
    rfl
  obtain ⟨p, ws, qs, N, wb, bi, pi, b, k, rfl, ⟨hS, p9, l40, ew, eb, ek, kn, n0, n2⟩, kb, fin⟩ := h
  obtain ⟨w1, w9⟩ := p9 wb (List.mem_of_getElem? ew)
  have bn := (List.getElem?_eq_some_iff.mp ew).1
  have rise := p9.rise
  have nab : ¬ b ≤ k := by omega
  refine ⟨_, (pss_cons (ps_set (i := 4) sc__bound_below.nd rfl (Or.inl rfl) (pe_op op_sub (pe_callB call_len_seq (by rfl) T.n_len (by decide +kernel) (pa_cons (pe_fld (pv 0) rfl) pa_nil)) pe_int))
  (pss_cons (ps_set (i := 5) sc__bound_below.nd rfl (Or.inl rfl) (pe_m h_Sums_mean_over hr (pv 0) (pa_cons (pv 3) (pa_cons (pv 3) pa_nil))))
  (pss_cons (ps_for PassesOwn.never rfl (pi_range1 (by rfl) T.n_range (pa_cons (pv 3) pa_nil)) (pg_name (i := 6) sc__bound_below.nd rfl (Or.inl rfl))
    (pss_cons (ps_set (i := 7) sc__bound_below.nd rfl (Or.inl rfl) (pe_m h_Sums_mean_over hr (pv 0) (pa_cons (pv 6) (pa_cons (pv 3) pa_nil))))
  (pss_one (ps_if (pt_cmpR op_gt (pe_f h_compare hr (by rfl) (pa_cons (pv 7) (pa_cons (pv 5) pa_nil))) pe_int (nomark _))
    (pss_one (ps_set (i := 5) sc__bound_below.nd rfl (Or.inl rfl) (pv 7)))
    pss_nil))))
  (pss_cons (ps_for PassesOwn.never rfl (pi_range2 (by rfl) T.n_range (pa_cons (pe_op op_add (pv 3) pe_int) (pa_cons (pv 2) pa_nil))) (pg_name (i := 8) sc__bound_below.nd rfl (Or.inl rfl))
    (pss_one (ps_if (pt_cmpR op_lt (pe_f h_compare hr (by rfl) (pa_cons (pe_m h_Sums_mean_over hr (pv 0) (pa_cons (pe_op op_add (pv 3) pe_int) (pa_cons (pv 8) pa_nil))) (pa_cons (pv 5) pa_nil))) pe_int (nomark _))
    (pss_one (ps_ret pe_non))
    pss_nil)))
  (pss_cons (ps_set (i := 9) sc__bound_below.nd rfl (Or.inl rfl) pe_non)
  (pss_cons (ps_for PassesOwn.never rfl (pi_range2 (by rfl) T.n_range (pa_cons (pv 2) (pa_cons (pv 4) pa_nil))) (pg_name (i := 8) sc__bound_below.nd rfl (Or.inl rfl))
    (pss_cons (ps_set (i := 10) sc__bound_below.nd rfl (Or.inl rfl) (pe_f h_minus hr (by rfl) (pa_cons (pe_f h_times hr (by rfl) (pa_cons (pv 5) (pa_cons (pe_m h_Sums_weight_over hr (pv 0) (pa_cons (pe_op op_add (pv 3) pe_int) (pa_cons (pv 8) pa_nil))) pa_nil))) (pa_cons (pe_m h_Sums_total_over hr (pv 0) (pa_cons (pe_op op_add (pv 3) pe_int) (pa_cons (pv 8) pa_nil))) pa_nil))))
  (pss_cons (ps_set (i := 11) sc__bound_below.nd rfl (Or.inl rfl) (pe_f h_over hr (by rfl) (pa_cons (pv 10) (pa_cons (pv 1) pa_nil))))
  (pss_one (ps_if (PW.pt (pw_or (pt_cmpR op_isN (pv 9) pe_non (nomark _)) (pw_or1 (pt_cmpR op_gt (pe_f h_compare hr (by rfl) (pa_cons (pv 11) (pa_cons (pv 9) pa_nil))) pe_int (nomark _)))))
    (pss_one (ps_set (i := 9) sc__bound_below.nd rfl (Or.inl rfl) (pv 11)))
    pss_nil)))))
  (pss_one (ps_ret (pv 9))))))))), ?_⟩
  -- many
  obtain ⟨dx0, l1, l2, S, hs, ps, hp0, h1, h2, M⟩ := id hS
  have hn : ((hs.map V.int).length : Int) - 1 = (ws.length : Int) := by rw [List.length_map, M.hl]; omega
  refine ⟨_, rfl, p, _, dx0, _, _, rfl, hp0, T.cls_Sums, T.na_Sums_heavy, sf_heavy S l1 l2, l1, _, rfl, .inl (.inl (.inl h1)), _, _, rfl, rfl, ?_⟩
  show gName 4 (V.int (((hs.map V.int).length : Int) - 1)) _ H _
  rw [hn]
  -- greatest
  obtain ⟨dS, fS, hSp, m1, m2, m3⟩ := hS.ins
  refine ⟨_, rfl, p, dS, fS, rfl, hSp, m3, _, rfl, _, rfl, p, ws, qs, N, _, _, k, k, rfl, ⟨hS, p9, ek, ek, by omega, by omega, n0, by omega⟩, fun H1 v5 s1 hv5 z5 => ?_⟩
  have hpk : pi.toNat = k := by omega
  refine ⟨_, rfl, _, rfl, by omega, by omega, ?_⟩
  refine for_range (lo := 0) (n := pi.toNat) (fun i σ H' => ∃ (v5 : V) (v6 v7 : Option V) (c : Rat) (f0 : Nat), σ = [some (.ref p), some (.int wb), some (.int bi), some (.int pi), some (.int (ws.length : Int)), some v5, v6, v7, none, none, none, none] ∧ Same H H' ∧ Rt H' v5 c ∧ Sz (N + 10) c ∧
      f0 ≤ k ∧ c = mean (Wf ws) (Mf ws qs) f0 (k + 1) ∧ mean (Wf ws) (Mf ws qs) k (k + 1) ≤ c ∧ ∀ f, f < i → mean (Wf ws) (Mf ws qs) f (k + 1) ≤ c)
    ⟨v5, none, none, _, k, rfl, s1, hv5, z5, Nat.le_refl _, rfl, Rat.le_refl, fun f a => by omega⟩ ?_ ?_
  · rintro i σ H2 hi ⟨v5, v6, v7, c, f0, rfl, s2, hv5, z5, fk, hc, hkc, hf⟩
    rw [hpk] at hi
    have ei : (0 : Int) + ((i : Nat) : Int) = ((i : Nat) : Int) := by omega
    rw [ei]
    obtain ⟨dS, fS, hSp, m1, m2, m3⟩ := (hS.same s2).ins
    refine ⟨_, rfl, p, dS, fS, rfl, hSp, m3, _, rfl, _, rfl, p, ws, qs, N, _, _, i, k, rfl, ⟨hS.same s2, p9, rfl, ek, by omega, by omega, n0, by omega⟩, fun H3 v7 s3 hv7 z7 => ?_⟩
    have hv53 := hv5.same s3
    refine ⟨_, rfl, _, rfl, N + 10, N + 10, _, _, _, c, rfl, hv7.rl z7, hv53.rl z5, by omega, by omega, by omega, fun H4 s4 => ?_⟩
    have s24 := (s2.trans s3).trans s4
    refine ⟨_, _, rfl, rfl, _, rfl, ?_⟩
    by_cases q : c < mean (Wf ws) (Mf ws qs) i (k + 1)
    · rw [decide_eq_true ((cmp_gt _ _).mpr q)]
      refine iteT ⟨_, rfl, ?_⟩
      refine ⟨v7, _, _, _, i, rfl, s24, hv7.same s4, z7, by omega, rfl, Rat.le_trans hkc (Rat.le_of_lt q), fun f a => ?_⟩
      by_cases e : f = i
      · rw [e]
        exact Rat.le_refl
      · exact Rat.le_trans (hf f (by omega)) (Rat.le_of_lt q)
    · rw [decide_eq_false (fun z => q ((cmp_gt _ _).mp z))]
      refine iteF ?_
      refine ⟨v5, _, _, c, f0, rfl, s24, hv53.same s4, z5, fk, hc, hkc, fun f a => ?_⟩
      by_cases e : f = i
      · rw [e]
        exact Rat.not_lt.mp q
      · exact hf f (by omega)
  rintro σ H2 ⟨v5, v6, v7, c, f0, rfl, s2, hv5, z5, fk, hc, hkc, hf⟩
  rw [hpk] at hf
  have hf : ∀ f, f ≤ k → mean (Wf ws) (Mf ws qs) f (k + 1) ≤ c := fun f a => by
    by_cases e : f = k
    · rw [e]
      exact hkc
    · exact hf f (by omega)
  -- those that don't hang on the ball
  have hcnt : (bi - (pi + 1)).toNat = b - (k + 1) := by omega
  refine ⟨_, rfl, _, _, rfl, rfl, _, rfl, _, _, rfl, ⟨by omega, by omega, by omega, by omega⟩, ?_⟩
  refine for_range (lo := pi + 1) (n := (bi - (pi + 1)).toNat) (fun i σ H' => ∃ (v8 : Option V), σ = [some (.ref p), some (.int wb), some (.int bi), some (.int pi), some (.int (ws.length : Int)), some v5, v6, v7, v8, none, none, none] ∧ Same H2 H' ∧ ∀ l, k < l → l ≤ k + i → c ≤ mean (Wf ws) (Mf ws qs) (k + 1) (l + 1))
    ⟨none, rfl, Same.refl _, fun l a d => by omega⟩ ?_ ?_
  · rintro i σ H3 hi ⟨v8, rfl, s3, hl⟩
    rw [hcnt] at hi
    have hi2 : k + 1 + i < b := by omega
    obtain ⟨dS, fS, hSp, m1, m2, m3⟩ := (hS.same (s2.trans s3)).ins
    refine ⟨_, rfl, p, dS, fS, rfl, hSp, m3, _, rfl, _, _, rfl, rfl, _, rfl, p, ws, qs, N, _, _, k + 1, k + 1 + i, rfl, ⟨hS.same (s2.trans s3), p9, by omega, by omega, by omega, by omega, n0, by omega⟩, fun H4 u s4 hu zu => ?_⟩
    refine ⟨_, rfl, N + 10, N + 10, _, _, _, c, rfl, hu.rl zu, (hv5.same (s3.trans s4)).rl z5, by omega, by omega, by omega, fun H5 s5 => ?_⟩
    have s35 := (s3.trans s4).trans s5
    refine ⟨_, _, rfl, rfl, _, rfl, ?_⟩
    by_cases q : mean (Wf ws) (Mf ws qs) (k + 1) (k + 1 + i + 1) < c
    · rw [decide_eq_true ((cmp_lt _ _).mpr q)]
      refine iteT ?_
      refine fin H5 .non none (s2.trans s35) rfl ⟨?_, fun v z => by cases z⟩
      intro u
      exact below_none rise fk (show k < k + 1 + i by omega) hi2 bn (by rw [← hc]; exact q) u
    · rw [decide_eq_false (fun z => q ((cmp_lt _ _).mp z))]
      refine iteF ?_
      refine ⟨_, rfl, s35, fun l a d => ?_⟩
      by_cases e : l = k + 1 + i
      · rw [e]
        exact Rat.not_lt.mp q
      · exact hl l a (by omega)
  rintro σ H3 ⟨v8, rfl, s3, hl⟩
  rw [hcnt] at hl
  have hl : ∀ l, k < l → l < b → c ≤ mean (Wf ws) (Mf ws qs) (k + 1) (l + 1) := fun l a d => hl l a (by omega)
  have s23 := s2.trans s3
  have hv53 := hv5.same s3
  have hbn : ((ws.length : Int) - bi).toNat = ws.length - b := by omega
  have wpos : (0 : Rat) < (wb : Rat) := Rat.intCast_pos.mpr (by omega)
  -- the bound
  refine ⟨_, rfl, _, rfl, _, _, rfl, ⟨by omega, by omega, by omega, by omega⟩, ?_⟩
  refine for_range (lo := bi) (n := ((ws.length : Int) - bi).toNat) (fun i σ H' => ∃ (v8 : Option V) (v9 : V) (v10 v11 : Option V) (o : Option Rat), σ = [some (.ref p), some (.int wb), some (.int bi), some (.int pi), some (.int (ws.length : Int)), some v5, v6, v7, v8, some v9, v10, v11] ∧ Same H3 H' ∧ Ot H' v9 o ∧
      (0 < i → ∃ v l0, o = some v ∧ b ≤ l0 ∧ l0 < b + i ∧ v = bdB (Wf ws) (Mf ws qs) (wb : Rat) c k l0 ∧ Sz (2 * N + 25) v ∧ ∀ l, b ≤ l → l < b + i → bdB (Wf ws) (Mf ws qs) (wb : Rat) c k l ≤ v) ∧ (i = 0 → o = none))
    ⟨v8, .non, none, none, none, rfl, Same.refl _, rfl, fun z => by omega, fun _ => rfl⟩ ?_ ?_
  · rintro i σ H4 hi ⟨v8, v9, v10, v11, o, rfl, s4, ho, hpos, hzero⟩
    have hib : b + i < ws.length := by
      clear hpos hzero
      rw [hbn] at hi
      omega
    have hS4 := hS.same (s23.trans s4)
    obtain ⟨dS, fS, hSp, m1, m2, m3⟩ := hS4.ins
    have ebi : bi + ((i : Nat) : Int) = ((b + i : Nat) : Int) := by
      rw [eb]
      omega
    have ek1 : pi + 1 = ((k + 1 : Nat) : Int) := by
      rw [ek]
      omega
    refine ⟨_, rfl, _, rfl, p, dS, fS, rfl, hSp, m1, _, rfl, _, _, rfl, rfl, _, rfl, p, ws, qs, N, _, _, k + 1, b + i, rfl, ⟨hS4, p9, ek1, ebi, by omega, hib, n0, by omega⟩, fun z ez z0 z1 => ?_⟩
    have zz : Sz 9 (z : Rat) := Sz.int (by omega) (by decide)
    refine ⟨N + 10, 9, _, _, c, _, rfl, (hv53.same s4).rl z5, Rl.int (by omega), by omega, by decide, by show _ + _ ≤ _; omega, trivial, fun H5 u5 s5 hu5 => ?_⟩
    have hS5 := hS4.same s5
    obtain ⟨dS, fS, hSp, m1, m2, m3⟩ := hS5.ins
    refine ⟨_, rfl, p, dS, fS, rfl, hSp, m2, _, rfl, _, _, rfl, rfl, _, rfl, p, ws, qs, N, _, _, k + 1, b + i, rfl, ⟨hS5, p9, ek1, ebi, by omega, hib, n0, by omega⟩, fun H6 u6 s6 hu6 z6 => ?_⟩
    have zt := z5.times zz
    refine ⟨N + 10 + 9, N + 1, _, _, _, _, rfl, (hu5.same s6).rl zt, hu6.rl z6, by omega, by omega, by show _ + _ ≤ _; omega, trivial, fun H7 u7 s7 hu7 => ?_⟩
    have zm := zt.minus z6
    have zw : Sz 4 (wb : Rat) := Sz.int (by omega) (by decide)
    refine ⟨_, rfl, _, rfl, N + 10 + 9 + (N + 1) + 1, 4, _, _, _, (wb : Rat), rfl, hu7.rl zm, Rl.int (by omega), by omega, by decide, by show _ + _ ≤ _; omega, (by show 0 < wb; omega), fun H8 u8 s8 hu8 => ?_⟩
    have s48 := ((s5.trans s6).trans s7).trans s8
    have zo : Sz (2 * N + 25) ((c * (z : Rat) - (Mf ws qs (b + i + 1) - Mf ws qs (k + 1))) / (wb : Rat)) := (zm.over zw (by grind)).mono (by omega)
    have ebd : (c * (z : Rat) - (Mf ws qs (b + i + 1) - Mf ws qs (k + 1))) / (wb : Rat) = bdB (Wf ws) (Mf ws qs) (wb : Rat) c k (b + i) := by
      unfold bdB
      rw [ez]
    replace hu8 : Rt H8 u8 ((c * (z : Rat) - (Mf ws qs (b + i + 1) - Mf ws qs (k + 1))) / (wb : Rat)) := hu8
    rw [ebd] at hu8 zo
    have hv9 := ho.same s48
    refine ⟨_, rfl, rfl, _, rfl, ?_⟩
    by_cases i0 : i = 0
    · have := hzero i0
      subst this
      have : v9 = .non := hv9
      subst this
      rw [decide_eq_true rfl]
      refine iteT (iteT ⟨_, rfl, ?_⟩)
      refine ⟨_, u8, _, _, some _, rfl, s4.trans s48, hu8, fun _ => ⟨_, b + i, rfl, by omega, by omega, rfl, zo, fun l ha hl => ?_⟩, fun z => by omega⟩
      have : l = b + i := by omega
      rw [this]
      exact Rat.le_refl
    · obtain ⟨v, l0, rfl, bl0, l0i, ev, zv, hm⟩ := hpos (by omega)
      have hv9r : Rt H8 v9 v := hv9
      rw [decide_eq_false hv9r.notNon]
      refine iteF ?_
      refine ⟨_, rfl, _, rfl, 2 * N + 25, 2 * N + 25, _, _, _, v, rfl, hu8.rl zo, hv9r.rl zv, by omega, by omega, by omega, fun H9 s9 => ?_⟩
      refine ⟨_, _, rfl, rfl, _, rfl, ?_⟩
      have s49 := s48.trans s9
      by_cases q : v < bdB (Wf ws) (Mf ws qs) (wb : Rat) c k (b + i)
      · rw [decide_eq_true ((cmp_gt _ _).mpr q)]
        refine iteT ⟨_, rfl, ?_⟩
        refine ⟨_, u8, _, _, some _, rfl, s4.trans s49, Rt.same s9 hu8, fun _ => ⟨_, b + i, rfl, by omega, by omega, rfl, zo, fun l ha hl => ?_⟩, fun z => by omega⟩
        by_cases e : l = b + i
        · rw [e]
          exact Rat.le_refl
        · exact Rat.le_trans (hm l ha (by omega)) (Rat.le_of_lt q)
      · rw [decide_eq_false (fun z => q ((cmp_gt _ _).mp z))]
        refine iteF ?_
        refine ⟨_, v9, _, _, some v, rfl, s4.trans s49, Rt.same s9 hv9r, fun _ => ⟨v, l0, rfl, bl0, by omega, ev, zv, fun l ha hl => ?_⟩, fun z => by omega⟩
        by_cases e : l = b + i
        · rw [e]
          exact Rat.not_lt.mp q
        · exact hm l ha (by omega)
  rintro σ H4 ⟨v8, v9, v10, v11, o, rfl, s4, ho, hpos, _⟩
  rw [hbn] at hpos
  have hb0 : 0 < ws.length - b := Nat.sub_pos_of_lt bn
  obtain ⟨v, l0, rfl, bl0, l0i, ev, zv, hm⟩ := hpos hb0
  clear hpos
  refine ⟨_, rfl, ?_⟩
  refine fin H4 v9 (some v) (s23.trans s4) ho ⟨⟨fun z => absurd z nab, fun _ u => ?_⟩, fun v' z => by cases z; exact zv⟩
  exact below_some rise wpos kb bn fk hc hf hl bl0 (by omega) ev (fun l ha hl => hm l ha (by omega)) u
end
end G
end
section
set_option Elab.async false
set_option linter.all false
set_option maxRecDepth 100000
set_option maxHeartbeats 8000000
set_option exponentiation.threshold 100000
/-! speed_bounds. -/
namespace G
open PySem PySem.Spec PyProof.Rows L2
theorem walk_enumT {K : PySem.W.Frag} {a : Addr} {xs : List V} : Walk (IteT K a) xs.length (fun H => SqT K H a xs) (YPair (fun i => some (.int (i : Nat))) (fun i => xs[i]?)) := by
  refine ⟨fun i _ hi q => ⟨xs, xs[i], q, by simp [hi]⟩, fun _ q => ⟨xs, q, Nat.le_refl _⟩, fun i H v H' _ q y => ?_⟩
  obtain ⟨T, x, h1, h2, h3, h4⟩ := y
  exact ⟨T, _, x, h1, h2, h3, rfl, h4 xs q⟩
theorem Ot.keepL {H : Hp} {p : Addr} {ys : List V} {v : V} {o : Option Rat} {z : HO} (hp : H p = some (.lst ys)) (h : Ot H v o) : Ot (upd H p z) v o := by
  cases o with
  | none => exact h
  | some q => exact Rt.keepL hp h
theorem fits16 {qs : List Rat} (h : Fit 20 6 qs) : Fits qs 20 6 16 := ⟨h, by decide, by decide, by decide, by decide, by decide, by decide⟩
theorem fit_set {qs : List Rat} (h : Fit 20 6 qs) (b : Nat) : Fit 20 6 (qs.set b 0) := fun q hq => by
  rcases List.mem_or_eq_of_mem_set hq with z | z
  · exact h q z
  · rw [z]
    exact ⟨by decide, by decide⟩
theorem fit_sz {qs : List Rat} (h : Fit 20 6 qs) {q : Rat} (hq : q ∈ qs) : Sz 5 q := by
  obtain ⟨a, b⟩ := h q hq
  have := Nat.le_of_dvd (by decide) b
  exact ⟨by omega, by omega⟩
theorem rg_at {n : Int} {i : Nat} {v : V} (h : (rgV 0 n)[i]? = some v) : v = .int (i : Int) ∧ (i : Int) < n := by
  have hl := (List.getElem?_eq_some_iff.mp h).1
  have l2 : i < (n - 0).toNat := by
    rw [rgV_length] at hl
    omega
  unfold rgV at h
  rw [List.getElem?_map, List.getElem?_range l2] at h
  refine ⟨by rw [← Option.some.inj h]; simp, by omega⟩
section
variable {P : Program} {w : World} {K : PySem.W.Frag} {mg : Str → Option Value} {base : Heap}
def spBounds (K : PySem.W.Frag) : Sp := fun vs H Q _ => ∃ (r : Addr) (ws : List Int) (qs : List Rat) (b : Nat), vs = [.ref r, .int (b : Int)] ∧ RowAt K H r ws qs ∧ b < ws.length ∧ Fit 20 6 qs ∧
  ∀ (H' : Hp) (t : Addr) (vs : List V) (os : List (Option Rat)), Same H H' → H' t = some (.tup vs) → A2 (Ot H') vs os → Bds ws qs b os → (∀ v, some v ∈ os → Sz 57 v) → Q (.ref t) H'
theorem sc_speed_bounds : FnScope ["row", "ball", "sums", "weight", "found", "pair", "other", "speed"] ["row", "ball"] (defScope s_speed_bounds) := ⟨rfl, rfl, rfl, by decide +kernel, rfl, by decide +kernel, by decide +kernel⟩
theorem ok_bounds (T : Tx K mg) : Has P w K mg base 8 "speed_bounds" ["row", "ball"] (spBounds K) := by
  have h__bound_above : Has P w K mg base _ "_bound_above" _ _ := ok_above T
  have h__bound_below : Has P w K mg base _ "_bound_below" _ _ := ok_below T
  have h_Sums__init__ : HasC P w K mg base _ "Sums" _ _ := ok_sums T
  have h_Row_with_speeds : HasM P w K mg base _ "Row" "with_speeds" _ _ := ok_with T
  have h_check_ball : Has P w K mg base _ "check_ball" _ _ := ok_check_ball T
  have h_check_no_wall : Has P w K mg base _ "check_no_wall" _ _ := ok_check_no_wall T
  refine has_of T.d_speed_bounds T.g_speed_bounds (fun _ _ _ _ _ _ us hl => match us, hl with | [_, _], _ => rfl) sc_speed_bounds (fun vs H Q E h => ?_) (fun cdv A outer s H vs Q E hr h => ?_)
  · obtain ⟨r, ws, qs, b, rfl, _⟩ := h
    rfl
  obtain ⟨r, ws, qs, b, rfl, R, hb, fit, k⟩ := h
  obtain ⟨rx, aw, asp, ap, g, l, x, y, us, hrow, haw, hasp, hA, hap, e1, l2, l40, p9⟩ := id R
  refine ⟨_, (pss_cons (ps_expr (pe_f h_check_no_wall hr (by rfl) (pa_cons (pv 0) pa_nil)))
  (pss_cons (ps_expr (pe_f h_check_ball hr (by rfl) (pa_cons (pv 0) (pa_cons (pv 1) pa_nil))))
  (pss_cons (ps_set (i := 2) sc_speed_bounds.nd rfl (Or.inl rfl) (pe_mk h_Sums__init__ hr (by rfl) (pa_cons (pe_m h_Row_with_speeds hr (pv 0) (pa_cons (pe_lc (own := [("other", 6), ("speed", 7)]) (g := gTup K 2 (gCons (gName 6) (gCons (gName 7) gNil))) rfl sc_speed_bounds.nd (pi_enumT (by rfl) T.n_enumerate (pa_cons (pe_fld (pv 0) rfl) pa_nil)) (blkOk_by (own := [("other", 6), ("speed", 7)]) (N := ["row", "ball", "sums", "weight", "found", "pair", "other", "speed"]) (sc := defScope s_speed_bounds) (by decide +kernel)) (fun _ _ _ _ _ => (pg_tup (by rfl) (pgs_cons (pg_name (i := 6) sc_speed_bounds.nd rfl (Or.inl rfl)) (pgs_cons (pg_name (i := 7) sc_speed_bounds.nd rfl (Or.inl rfl)) pgs_nil)))) (fun _ _ _ _ _ => pts_nil) (fun _ _ _ _ _ => (pe_ifExp (pt_cmpR op_eq (pv 6) (pv 1) (nomark _)) (pe_tup (pa_cons pe_int (pa_cons pe_int pa_nil))) (pv 7)))) pa_nil)) pa_nil)))
  (pss_cons (ps_set (i := 3) sc_speed_bounds.nd rfl (Or.inl rfl) (pe_ix ix_tup (pe_fld (pv 0) rfl) (pv 1) (fun _ _ => rfl)))
  (pss_cons (ps_set (i := 4) sc_speed_bounds.nd rfl (Or.inl rfl) (pe_lst pa_nil))
  (pss_cons (ps_for PassesOwn.never rfl (pi_tup (pe_fld (pv 0) rfl)) (pg_name (i := 5) sc_speed_bounds.nd rfl (Or.inl rfl))
    (pss_one (ps_if (pt_cmpR op_ge (pv 5) (pv 1) (nomark _))
    (pss_one (ps_expr (pe_bm PySem.F.plainAttrs_list PySem.F.slot_list_append PySem.F.type_list_append mt_append (pv 4) (pa_cons (pe_f h__bound_above hr (by rfl) (pa_cons (pv 2) (pa_cons (pv 3) (pa_cons (pv 1) (pa_cons (pv 5) pa_nil))))) pa_nil))))
    (pss_one (ps_expr (pe_bm PySem.F.plainAttrs_list PySem.F.slot_list_append PySem.F.type_list_append mt_append (pv 4) (pa_cons (pe_f h__bound_below hr (by rfl) (pa_cons (pv 2) (pa_cons (pv 3) (pa_cons (pv 1) (pa_cons (pv 5) pa_nil))))) pa_nil)))))))
  (pss_one (ps_ret (pe_callTy call_tup_any (by rfl) T.n_tuple (by decide +kernel) (pa_cons (pv 4) pa_nil)))))))))), ?_⟩
  refine ⟨_, rfl, r, ws, qs, rfl, R, ?_⟩
  refine ⟨_, rfl, _, rfl, r, ws, qs, b, rfl, R, hb, ?_⟩
  -- the speeds, 0 at the ball
  refine ⟨_, rfl, r, rx, _, rfl, hrow, row_meth aw asp ap g l x y, ?_⟩
  refine ⟨_, rfl, r, _, rx, _, _, rfl, hrow, T.cls_Row, T.na_Row_speeds, row_speeds aw asp ap g l x y, asp, us, rfl, .inl (.inl hasp), fun D nD => ?_⟩
  refine lc_it (walk_enumT (K := K) (a := asp) (xs := us)) (fun i H1 => Same H H1 ∧ ∃ acc, H1 D = some (.lst acc) ∧ A2 (Rt H1) acc ((qs.set b 0).take i)) ⟨same_new nD, [], upd_same, A2.nil⟩ (fun i H1 _ z => .inl (.inl (z.1 _ _ hasp))) ?_ ?_
  · rintro i pr H1 H2 hi ⟨s1, acc, hD, hacc⟩ ⟨Tp, xi, xv, rfl, nT, rfl, exi, exv⟩
    cases exi
    obtain ⟨q, eq, hq⟩ := hA.get exv
    have sT := same_new (o := HO.tup [V.int (i : Int), xv]) nT
    have hD2 := sT _ _ hD
    have s2 := s1.trans sT
    have hacc2 := hacc.imp fun v q z => z.same sT
    have hTp : (upd H1 Tp (.tup [.int (i : Int), xv])) Tp = some (.tup [.int (i : Int), xv]) := upd_same
    have hi40 : acc.length ≤ 40 := by
      rw [hacc.1, List.length_take, List.length_set]
      omega
    have hql : qs.length = us.length := hA.1.symm
    refine ⟨Tp, _, rfl, .inl (.inl hTp), rfl, _, _, rfl, _, _, rfl, rfl, rfl, ?_⟩
    generalize upd H1 Tp (.tup [.int (i : Int), xv]) = H3 at sT hD2 s2 hacc2 hTp
    refine ⟨_, rfl, _, rfl, rfl, _, rfl, ?_⟩
    by_cases c : i = b
    · rw [decide_eq_true (show V.int (i : Int) = V.int (b : Int) by rw [c])]
      refine iteT ⟨by show 2 ≤ sizeLine; decide, fun p np => ?_⟩
      have sp := same_new (o := HO.tup [V.int 0, V.int 1]) np
      refine ⟨acc, sp _ _ hD2, small1000 (by omega), same_upd (s2.trans sp) nD, acc ++ [.ref p], upd_same, ?_⟩
      have e0 : (qs.set b 0)[i]? = some 0 := by
        rw [c]
        exact List.getElem?_set_self (by omega)
      rw [List.take_add_one, e0]
      exact ((hacc2.imp fun v q z => z.same sp).snoc (⟨p, rfl, upd_same⟩ : Rt _ (.ref p) 0)).imp fun v q z => z.keepL (sp _ _ hD2)
    · rw [decide_eq_false (show ¬ V.int (i : Int) = V.int (b : Int) from fun z => c (by have := V.int.inj z; omega))]
      refine iteF ⟨_, rfl, ?_⟩
      refine ⟨acc, hD2, small1000 (by omega), same_upd s2 nD, acc ++ [xv], upd_same, ?_⟩
      rw [List.take_add_one, List.getElem?_set_ne (fun z => c z.symm), eq]
      exact (hacc2.snoc (hq.same s2)).imp fun v q z => z.keepL hD2
  rintro H1 ⟨s1, acc, hD, hacc⟩
  have hq0 : qs.length = us.length := hA.1.symm
  have hfull : (qs.set b 0).take us.length = qs.set b 0 := List.take_of_length_le (by rw [List.length_set]; omega)
  rw [hfull] at hacc
  have fit0 := fit_set fit b
  have haccl : acc.length = ws.length := by rw [hacc.1, List.length_set, e1]
  refine ⟨100, r, _, ws, qs, acc, qs.set b 0, rfl, R.same s1, ⟨D, rfl, .inl hD⟩, ⟨hacc.1, fun i v q ev eq => (hacc.2 i v q ev eq).rl ((fit_sz fit0 (List.mem_of_getElem? eq)).mono (by decide))⟩, haccl, by decide, by decide, fun H2 r2 s2 R2 => ?_⟩
  intro sm ds nsm nds _
  have f16 := fits16 fit0
  refine ⟨H2, sm, r2, ds, ws, qs.set b 0, 20, 6, 16, rfl, same_made nsm nds, nsm, upd_same, R2, f16.fit, f16.d0, f16.h1, f16.h2, f16.h3, f16.n0, f16.n2, fun H3 s3 hS => ⟨rfl, ?_⟩⟩
  have s13 := (s1.trans s2).trans s3
  -- weight, found
  have ewb : ws[b]? = some (ws[b]'hb) := List.getElem?_eq_getElem hb
  generalize ws[b]'hb = wb at ewb
  refine ⟨_, rfl, r, _, rx, _, _, rfl, s13 _ _ hrow, T.cls_Row, T.na_Row_weights, row_weights aw asp ap g l x y, _, rfl, aw, _, _, _, rfl, rfl, .inl (.inl (s13 _ _ haw)), at1 ewb rfl, ?_⟩
  refine ⟨Nat.zero_le _, fun lf nlf => ?_⟩
  have sf := same_new (o := HO.lst []) nlf
  have s14 := s13.trans sf
  have hS4 := hS.same sf
  have hlf : (upd H3 lf (.lst [])) lf = some (.lst []) := upd_same
  have nlf3 : H3 lf = none := nlf
  generalize upd H3 lf (.lst []) = H4 at sf s14 hS4 hlf
  refine ⟨_, rfl, r, _, rx, _, _, rfl, s14 _ _ hrow, T.cls_Row, T.na_Row_pairs, row_pairs aw asp ap g l x y, ap, rfl, ⟨_, .inl (.inl (s14 _ _ hap))⟩, ?_⟩
  refine for_tup (K := K) (a := ap) (xs := rgV 0 ((ws.length : Int) - 1)) (fun i σ H5 => ∃ (v5 : Option V) (vs : List V) (os : List (Option Rat)), σ = [some (.ref r), some (.int (b : Int)), some (.ref sm), some (.int wb), some (.ref lf), v5, none, none] ∧ Same H3 H5 ∧ H5 lf = some (.lst vs) ∧ A2 (Ot H5) vs os ∧ os.length = i ∧
      ∀ (j : Nat) (o : Option Rat), os[j]? = some o → Says ws (qs.set b 0) 16 wb b j (b ≤ j) o)
    ⟨none, [], [], rfl, sf, hlf, A2.nil, rfl, fun j o z => by simp at z⟩ (fun i σ H5 _ ⟨_, _, _, _, s5, _⟩ => .inl (.inl (s5 _ _ (s13 _ _ hap)))) ?_ ?_
  · rintro i v σ H5 hv ⟨v5, vs, os, rfl, s5, h5, hos, hol, hsay⟩
    obtain ⟨rfl, hin⟩ := rg_at hv
    have hS5 := hS.same s5
    have ask : AskB K H5 sm ws (qs.set b 0) 16 wb (b : Int) (i : Int) b i := ⟨hS5, p9, l40, ewb, rfl, rfl, by omega, by decide, by decide⟩
    have vlen : vs.length ≤ 40 := by rw [hos.1, hol]; omega
    have fin : ∀ (H6 : Hp) (u : V) (o : Option Rat), Same H5 H6 → Ot H6 u o → Says ws (qs.set b 0) 16 wb b i (b ≤ i) o →
        ∃ (v5 : Option V) (vs' : List V) (os' : List (Option Rat)), [some (V.ref r), some (.int (b : Int)), some (.ref sm), some (.int wb), some (.ref lf), some (.int (i : Int)), none, none] = [some (.ref r), some (.int (b : Int)), some (.ref sm), some (.int wb), some (.ref lf), v5, none, none] ∧ Same H3 (upd H6 lf (.lst (vs ++ [u]))) ∧ (upd H6 lf (.lst (vs ++ [u]))) lf = some (.lst vs') ∧ A2 (Ot (upd H6 lf (.lst (vs ++ [u])))) vs' os' ∧ os'.length = i + 1 ∧
          ∀ (j : Nat) (o : Option Rat), os'[j]? = some o → Says ws (qs.set b 0) 16 wb b j (b ≤ j) o := by
      intro H6 u o s6 hu hs
      have h6 := s6 _ _ h5
      refine ⟨_, vs ++ [u], os ++ [o], rfl, same_upd (s5.trans s6) nlf3, upd_same, ((hos.imp fun v q z => z.same s6).snoc hu).imp fun v q z => z.keepL h6, by rw [List.length_append, hol]; rfl, fun j o' ej => ?_⟩
      rw [List.getElem?_append] at ej
      by_cases c : j < os.length
      · rw [if_pos c] at ej
        exact hsay j o' ej
      · rw [if_neg c] at ej
        have hj : j = i := by
          have := (List.getElem?_eq_some_iff.mp ej).1
          simp at this
          omega
        subst hj
        rw [hol, Nat.sub_self] at ej
        cases ej
        exact hs
    refine ⟨_, rfl, _, rfl, _, _, rfl, rfl, _, rfl, ?_⟩
    by_cases c : b ≤ i
    · rw [decide_eq_true (show (b : Int) ≤ (i : Int) by omega)]
      refine iteT ?_
      refine ⟨_, rfl, .inl ⟨rfl, _, .inl (.inl h5)⟩, _, rfl, _, rfl, _, rfl, _, rfl, sm, ws, qs.set b 0, 16, wb, _, _, b, i, rfl, ask, c, fun H6 u o s6 hu hs => ?_⟩
      exact ⟨lf, _, _, rfl, rfl, s6 _ _ h5, small1000 (by omega), fin H6 u o s6 hu hs⟩
    · rw [decide_eq_false (show ¬ (b : Int) ≤ (i : Int) by omega)]
      refine iteF ?_
      refine ⟨_, rfl, .inl ⟨rfl, _, .inl (.inl h5)⟩, _, rfl, _, rfl, _, rfl, _, rfl, sm, ws, qs.set b 0, 16, wb, _, _, b, i, rfl, ask, by omega, fun H6 u o s6 hu hs => ?_⟩
      exact ⟨lf, _, _, rfl, rfl, s6 _ _ h5, small1000 (by omega), fin H6 u o s6 hu hs⟩
  rintro σ H5 ⟨v5, vs, os, rfl, s5, h5, hos, hol, hsay⟩
  rw [rgV_length] at hol
  refine ⟨_, rfl, _, vs, rfl, ⟨lf, rfl, .inl h5⟩, fun t H6 s6 ht => ?_⟩
  refine k H6 t vs os ((s13.trans s5).trans s6) ht (hos.imp fun v q z => z.same s6) ⟨by omega, fun j o ej => ?_⟩ fun v hv => ?_
  · have := (hsay j o ej).1
    have e : (fun u => Parted (Wf ws) (Mf ws (qs.set b u)) ws.length j) = (fun u => Parted (Wf ws) (Mu (Mf ws (qs.set b 0)) b ((wb : Rat) * u)) ws.length j) := by
      funext u
      rw [Mf_Mu ewb (by omega)]
    rw [e]
    exact this
  · obtain ⟨j, hj, ej⟩ := List.mem_iff_getElem.mp hv
    exact (hsay j (some v) (by rw [List.getElem?_eq_getElem hj, ej])).2 v rfl
end
end G
end
section
set_option Elab.async false
set_option linter.all false
set_option maxRecDepth 100000
set_option maxHeartbeats 4000000
set_option exponentiation.threshold 100000
/-! The law's hand. -/
namespace G
open PySem PySem.Spec PyProof.Rows L2
/-- all but p stands as it stood -/
def Off (p : Addr) (H H' : Hp) : Prop := ∀ (b : Addr) (x : HO), b ≠ p → H b = some x → H' b = some x
theorem Off.refl (p : Addr) (H : Hp) : Off p H H := fun _ _ _ h => h
theorem Off.trans {p : Addr} {H H' H'' : Hp} (h : Off p H H') (k : Off p H' H'') : Off p H H'' := fun b x n e => k b x n (h b x n e)
theorem Off.of {p : Addr} {H H' : Hp} (h : Same H H') : Off p H H' := fun b x _ e => h b x e
theorem Off.upd {p : Addr} {H : Hp} {o : HO} : Off p H (upd H p o) := fun b x n e => by
  rw [upd_ne n]
  exact e
theorem Off.put {p q : Addr} {H H' : Hp} {o : HO} (h : Off p H H') (n : H q = none) : Off p H (L2.upd H' q o) := fun b x nb e => by
  rw [upd_ne (ne_of_none e n)]
  exact h b x nb e
/-- the hand stands at p, its cells at c -/
def HandOk (H : Hp) (p c : Addr) : Prop := ∃ (i rest tot : Int) (xs : List Int), H p = some (.lst [.ref c, .int i, .int rest, .int tot]) ∧ H c = some (.lst (xs.map V.int)) ∧ 0 ≤ i
theorem HandOk.ne {H : Hp} {p c : Addr} (h : HandOk H p c) : c ≠ p := fun e => by
  obtain ⟨i, rest, tot, xs, hp, hc, _⟩ := h
  rw [e, hp] at hc
  cases xs with
  | nil => cases hc
  | cons x xs => cases hc
theorem HandOk.lst {H : Hp} {p c : Addr} (h : HandOk H p c) : ∃ xs, H p = some (.lst xs) := let ⟨_, _, _, _, hp, _⟩ := h; ⟨_, hp⟩
theorem HandOk.same {H H' : Hp} {p c : Addr} (h : HandOk H p c) (s : Same H H') : HandOk H' p c := let ⟨i, r, t, xs, hp, hc, z⟩ := h; ⟨i, r, t, xs, s _ _ hp, s _ _ hc, z⟩
theorem HandOk.put {H : Hp} {p c q : Addr} {o : HO} (h : HandOk H p c) (n1 : q ≠ p) (n2 : q ≠ c) : HandOk (upd H q o) p c := by
  obtain ⟨i, r, t, xs, hp, hc, z⟩ := h
  exact ⟨i, r, t, xs, by rw [upd_ne (fun e => n1 e.symm)]; exact hp, by rw [upd_ne (fun e => n2 e.symm)]; exact hc, z⟩
theorem Off.tup {p a : Addr} {H H' : Hp} {xs ys : List V} (h : Off p H H') (hp : H p = some (.lst ys)) (ha : H a = some (.tup xs)) : H' a = some (.tup xs) :=
  h a _ (ne_of ha hp (by intro z; cases z)) ha
theorem Off.ins {p a C dx : Addr} {H H' : Hp} {fs : List (Str × V)} {ys : List V} (h : Off p H H') (hp : H p = some (.lst ys)) (ha : H a = some (.ins C dx fs)) : H' a = some (.ins C dx fs) :=
  h a _ (ne_of ha hp (by intro z; cases z)) ha
theorem Rt.off {p c : Addr} {H H' : Hp} {v : V} {q : Rat} (h : Rt H v q) (s : Off p H H') (k : HandOk H p c) : Rt H' v q := let ⟨a, e, z⟩ := h; let ⟨_, hp⟩ := k.lst; ⟨a, e, s.tup hp z⟩
theorem Rl.off {p c : Addr} {n : Nat} {H H' : Hp} {v : V} {q : Rat} (h : Rl H n v q) (s : Off p H H') (k : HandOk H p c) : Rl H' n v q := by
  obtain ⟨_, hp⟩ := k.lst
  rcases h with h | ⟨a, x, y, e, z, r⟩
  · exact .inl h
  · exact .inr ⟨a, x, y, e, s.tup hp z, r⟩
theorem cmR {i j m : Int} (h : 0 ≤ j ∧ j < m) (k : m ≤ 2 ^ 64 := by decide) : CMul i j := .inr ⟨Int.lt_of_lt_of_le (by decide) h.1, Int.lt_of_lt_of_le h.2 k⟩
theorem wide_log {m : Int} (h : 0 < m) (k : m < 2 ^ 64) : m.natAbs.log2 < 9000 := (wide_div (i := 0) (b := 64) h (by omega) (by decide) (by decide)).2
theorem fm (a : Int) {m : Int} (h : 0 < m) : 0 ≤ a.fmod m ∧ a.fmod m < m := ⟨Int.fmod_nonneg_of_pos a h, Int.fmod_lt_of_pos a h⟩
section
variable {P : Program} {w : World} {K : PySem.W.Frag} {mg : Str → Option Value} {base : Heap}
def spMix : Sp := fun vs H Q _ => ∃ a b : Int, vs = [.int a, .int b] ∧ ∀ z : Int, Q (.int z) H
theorem sc__law_mix : FnScope ["_law_number", "_law_turn", "_law_once", "_law_twice"] ["_law_number", "_law_turn"] (defScope s__law_mix) := ⟨rfl, rfl, rfl, by decide +kernel, rfl, by decide +kernel, by decide +kernel⟩
theorem ok_mix (T : Tx K mg) : Has P w K mg base 1 "_law_mix" ["_law_number", "_law_turn"] spMix := by
  refine has_of T.d__law_mix T.g__law_mix (fun _ _ _ _ _ _ us hl => match us, hl with | [_, _], _ => rfl) sc__law_mix (fun vs H Q E h => ?_) (fun cdv A outer s H vs Q E hr h => ?_)
  · obtain ⟨a, b, rfl, _⟩ := h
    rfl
  obtain ⟨a, b, rfl, k⟩ := h
  refine ⟨_, (pss_cons (ps_set (i := 2) sc__law_mix.nd rfl (Or.inl rfl) (pe_op op_modN (pe_callTy call_int1 (by rfl) T.n_int (by decide +kernel) (pa_cons (pe_op op_add (pe_op op_add (pe_op op_mul (pv 0) pe_int) (pe_op op_mul (pv 1) pe_int)) pe_int) pa_nil)) pe_int))
  (pss_cons (ps_set (i := 3) sc__law_mix.nd rfl (Or.inl rfl) (pe_op op_modN (pe_callTy call_int1 (by rfl) T.n_int (by decide +kernel) (pa_cons (pe_op op_add (pe_op op_add (pe_op op_mul (pv 2) (pv 2)) (pe_op op_mul (pe_op op_fdivW (pv 2) pe_int) pe_int)) (pe_op op_mul (pv 1) pe_int)) pa_nil)) pe_int))
  (pss_one (ps_ret (pe_op op_fdivW (pe_op op_modN (pe_callTy call_int1 (by rfl) T.n_int (by decide +kernel) (pa_cons (pe_op op_add (pe_op op_fdivW (pe_op op_mul (pv 3) (pv 3)) pe_int) (pv 2)) pa_nil)) pe_int) pe_int))))), ?_⟩
  have n1 : (2147483647 : Int) ≠ 0 := by decide
  have n2 : (2147483399 : Int) ≠ 0 := by decide
  have n3 : (2147483563 : Int) ≠ 0 := by decide
  refine ⟨_, rfl, _, _, rfl, rfl, .inr ⟨by decide, by decide⟩, _, rfl, _, _, rfl, rfl, .inr ⟨by decide, by decide⟩, _, _, rfl, rfl, _, _, rfl, rfl, .inl ⟨_, rfl, _, _, rfl, rfl, n1, ?_⟩⟩
  have f1 := fm (a * 48271 + b * 16807 + 11) (m := 2147483647) (by decide)
  refine ⟨_, rfl, _, rfl, _, _, rfl, rfl, cmR f1, _, rfl, _, _, rfl, rfl, ⟨by decide, by decide⟩, _, _, rfl, rfl, .inr ⟨by decide, by decide⟩, _, _, rfl, rfl, _, rfl, _, _, rfl, rfl, .inr ⟨by decide, by decide⟩, _, _, rfl, rfl, .inl ⟨_, rfl, _, _, rfl, rfl, n2, ?_⟩⟩
  generalize (a * 48271 + b * 16807 + 11).fmod 2147483647 = o at f1
  refine ⟨_, rfl, _, rfl, _, _, rfl, rfl, cmR (fm _ (by decide)), _, _, rfl, rfl, ⟨by decide, by decide⟩, _, rfl, _, _, rfl, rfl, .inl ⟨_, rfl, _, _, rfl, rfl, n3, _, _, rfl, rfl, ⟨by decide, by decide⟩, k _⟩⟩
def spDraw : Sp := fun vs H Q _ => ∃ (p c : Addr) (m : Int), vs = [.ref p, .int m] ∧ 0 < m ∧ m < 2 ^ 64 ∧ HandOk H p c ∧ ∀ (H' : Hp) (r : Int), Off p H H' → HandOk H' p c → 0 ≤ r → r < m → Q (.int r) H'
theorem sc__law_draw : FnScope ["_law_hand_here", "_law_many", "_law_cell", "_law_rest"] ["_law_hand_here", "_law_many"] (defScope s__law_draw) := ⟨rfl, rfl, rfl, by decide +kernel, rfl, by decide +kernel, by decide +kernel⟩
theorem ok_draw (T : Tx K mg) : Has P w K mg base 2 "_law_draw" ["_law_hand_here", "_law_many"] spDraw := by
  have h__law_mix : Has P w K mg base _ "_law_mix" _ _ := ok_mix T
  refine has_of T.d__law_draw T.g__law_draw (fun _ _ _ _ _ _ us hl => match us, hl with | [_, _], _ => rfl) sc__law_draw (fun vs H Q E h => ?_) (fun cdv A outer s H vs Q E hr h => ?_)
  · obtain ⟨p, c, m, rfl, _⟩ := h
    rfl
  obtain ⟨p, c, m, rfl, m0, m64, HO, k⟩ := h
  have ne := HO.ne
  obtain ⟨i, rest, tot, xs, hp, hc, i0⟩ := HO
  refine ⟨_, (pss_cons (ps_if (PW.pt (pw_and (pt_cmpR op_eq (pe_ix ix_list (pv 0) pe_int (fun _ _ => rfl)) pe_int (nomark _)) (pw_and1 (pt_cmpR op_lt (pe_ix ix_list (pv 0) pe_int (fun _ _ => rfl)) (pe_callB call_len_seq (by rfl) T.n_len (by decide +kernel) (pa_cons (pe_ix ix_list (pv 0) pe_int (fun _ _ => rfl)) pa_nil)) (nomark _)))))
    (pss_cons (ps_set (i := 2) sc__law_draw.nd rfl (Or.inl rfl) (pe_ix ix_list (pe_ix ix_list (pv 0) pe_int (fun _ _ => rfl)) (pe_ix ix_list (pv 0) pe_int (fun _ _ => rfl)) (fun _ _ => rfl)))
  (pss_cons (ps_asg (pe_op op_add (pe_ix ix_list (pv 0) pe_int (fun _ _ => rfl)) pe_int) (pg_sub (pv 0) pe_int set_list))
  (pss_cons (ps_if (pt_cmpR op_lt (pv 2) (pe_op op_pow pe_int pe_int) (nomark _))
    (pss_one (ps_ret (pe_op op_modN (pe_callTy call_int1 (by rfl) T.n_int (by decide +kernel) (pa_cons (pe_f h__law_mix hr (by rfl) (pa_cons (pe_op op_modN (pe_callTy call_int1 (by rfl) T.n_int (by decide +kernel) (pa_cons (pv 2) pa_nil)) pe_int) (pa_cons (pe_ix ix_list (pv 0) pe_int (fun _ _ => rfl)) pa_nil))) pa_nil)) (pv 1))))
    pss_nil)
  (pss_one (ps_asg (pv 2) (pg_sub (pv 0) pe_int set_list))))))
    pss_nil)
  (pss_cons (ps_if (pt_cmpR op_gt (pe_ix ix_list (pv 0) pe_int (fun _ _ => rfl)) pe_int (nomark _))
    (pss_cons (ps_set (i := 3) sc__law_draw.nd rfl (Or.inl rfl) (pe_ix ix_list (pv 0) pe_int (fun _ _ => rfl)))
  (pss_cons (ps_asg (pe_op op_fdivW (pv 3) (pv 1)) (pg_sub (pv 0) pe_int set_list))
  (pss_one (ps_ret (pe_op op_modN (pe_callTy call_int1 (by rfl) T.n_int (by decide +kernel) (pa_cons (pv 3) pa_nil)) (pv 1))))))
    pss_nil)
  (pss_cons (ps_asg (pe_op op_modN (pe_callTy call_int1 (by rfl) T.n_int (by decide +kernel) (pa_cons (pe_op op_add (pe_ix ix_list (pv 0) pe_int (fun _ _ => rfl)) pe_int) pa_nil)) pe_int) (pg_sub (pv 0) pe_int set_list))
  (pss_one (ps_ret (pe_op op_modN (pe_callTy call_int1 (by rfl) T.n_int (by decide +kernel) (pa_cons (pe_f h__law_mix hr (by rfl) (pa_cons (pe_ix ix_list (pv 0) pe_int (fun _ _ => rfl)) (pa_cons (pe_ix ix_list (pv 0) pe_int (fun _ _ => rfl)) pa_nil))) pa_nil)) (pv 1))))))), ?_⟩
  have mne : m ≠ 0 := by omega
  have fin : ∀ (H1 : Hp) (z i' r' t' : Int), Off p H H1 → H1 p = some (.lst [.ref c, .int i', .int r', .int t']) → H1 c = some (.lst (xs.map V.int)) → 0 ≤ i' → Q (.int (z.fmod m)) H1 := fun H1 z i' r' t' o1 e1 e2 e3 =>
    k H1 _ o1 ⟨i', r', t', xs, e1, e2, e3⟩ (fm z m0).1 (fm z m0).2
  refine ⟨_, rfl, p, _, _, _, rfl, rfl, .inl (.inl hp), atI_nat (j := 2) rfl, rfl, _, rfl, ?_⟩
  by_cases c1 : rest = 0
  rw [decide_eq_true (show V.int rest = V.int 0 by rw [c1])]
  refine iteT ?_
  refine ⟨_, rfl, p, _, _, _, rfl, rfl, .inl (.inl hp), atI_nat (j := 1) rfl, _, rfl, p, _, _, _, rfl, rfl, .inl (.inl hp), atI_nat (j := 0) rfl, c, _, rfl, .inl (.inl (.inl hc)), _, _, rfl, rfl, _, rfl, ?_⟩
  by_cases c2 : i < ((xs.map V.int).length : Int)
  rw [decide_eq_true c2]
  refine iteT ?_
  have hi : i.toNat < xs.length := by rw [List.length_map] at c2; omega
  have ex : xs[i.toNat]? = some xs[i.toNat] := List.getElem?_eq_getElem hi
  generalize xs[i.toNat] = cell at ex
  refine ⟨_, rfl, p, _, _, _, rfl, rfl, .inl (.inl hp), atI_nat (j := 0) rfl, _, rfl, p, _, _, _, rfl, rfl, .inl (.inl hp), atI_nat (j := 1) rfl, c, _, _, _, rfl, rfl, .inl (.inl hc), at1 ex (by omega), ?_⟩
  refine ⟨_, rfl, p, _, _, _, rfl, rfl, .inl (.inl hp), atI_nat (j := 1) rfl, _, _, rfl, rfl, _, rfl, p, _, _, _, rfl, rfl, hp, rfl, ?_⟩
  have o1 : Off p H (upd H p (.lst [.ref c, .int (i + 1), .int rest, .int tot])) := Off.upd
  have e1 : upd H p (.lst [.ref c, .int (i + 1), .int rest, .int tot]) p = _ := upd_same
  have e2 : upd H p (.lst [.ref c, .int (i + 1), .int rest, .int tot]) c = some (.lst (xs.map V.int)) := o1 _ _ ne hc
  have e3 : 0 ≤ i + 1 := by omega
  refine ⟨_, rfl, _, _, rfl, rfl, ⟨by decide, by decide, by decide⟩, _, _, rfl, rfl, _, rfl, ?_⟩
  by_cases c3 : cell < 10 ^ (18 : Int).toNat
  · rw [decide_eq_true c3]
    refine iteT ?_
    refine ⟨_, rfl, .inl ⟨_, rfl, _, _, rfl, rfl, (by decide : (2147483647 : Int) ≠ 0), ?_⟩⟩
    refine ⟨_, rfl, p, _, _, _, rfl, rfl, .inl (.inl e1), atI_nat (j := 1) rfl, _, _, rfl, fun z => ?_⟩
    exact .inl ⟨_, rfl, _, rfl, _, _, rfl, rfl, mne, fin _ z _ _ _ o1 e1 e2 e3⟩
  rw [decide_eq_false c3]
  refine iteF ?_
  refine ⟨_, rfl, _, rfl, p, _, _, _, rfl, rfl, e1, rfl, ?_⟩
  replace o1 := o1.trans (Off.upd (p := p) (o := .lst [.ref c, .int (i + 1), .int cell, .int tot]))
  replace e1 : upd (upd H p (.lst [.ref c, .int (i + 1), .int rest, .int tot])) p (.lst [.ref c, .int (i + 1), .int cell, .int tot]) p = _ := upd_same
  replace e2 := Off.upd (p := p) (o := .lst [.ref c, .int (i + 1), .int cell, .int tot]) _ _ ne e2
  have c4 := Classical.em (0 < cell)
  rotate_left
  rw [decide_eq_false c2]
  refine iteF ?_
  have e1 := hp
  have e2 := hc
  have e3 := i0
  have o1 := Off.refl p H
  have c4 := Classical.em (0 < rest)
  rotate_left
  rw [decide_eq_false (show ¬ V.int rest = V.int 0 from fun z => c1 (V.int.inj z))]
  refine iteF ?_
  have e1 := hp
  have e2 := hc
  have e3 := i0
  have o1 := Off.refl p H
  have c4 := Classical.em (0 < rest)
  rotate_left
  all_goals
    refine ⟨_, rfl, p, _, _, _, rfl, rfl, .inl (.inl e1), atI_nat (j := 2) rfl, _, _, rfl, rfl, _, rfl, ?_⟩
    rcases c4 with c4 | c4
    · rw [decide_eq_true c4]
      refine iteT ?_
      refine ⟨_, rfl, p, _, _, _, rfl, rfl, .inl (.inl e1), atI_nat (j := 2) rfl, ?_⟩
      refine ⟨_, rfl, _, rfl, _, _, rfl, rfl, ⟨m0, wide_log m0 m64⟩, _, rfl, p, _, _, _, rfl, rfl, e1, rfl, ?_⟩
      refine ⟨_, rfl, .inl ⟨_, rfl, _, rfl, _, _, rfl, rfl, mne, ?_⟩⟩
      exact fin _ _ _ _ _ (o1.trans Off.upd) upd_same (Off.upd (p := p) _ _ ne e2) e3
    · rw [decide_eq_false c4]
      refine iteF ?_
      refine ⟨_, rfl, p, _, _, _, rfl, rfl, .inl (.inl e1), atI_nat (j := 3) rfl, _, _, rfl, rfl, .inl ⟨_, rfl, _, _, rfl, rfl, (by decide : (2147483629 : Int) ≠ 0), ?_⟩⟩
      refine ⟨_, rfl, p, _, _, _, rfl, rfl, e1, rfl, ?_⟩
      refine ⟨_, rfl, p, _, _, _, rfl, rfl, .inl (.inl upd_same), atI_nat (j := 3) rfl, _, rfl, p, _, _, _, rfl, rfl, .inl (.inl upd_same), atI_nat (j := 1) rfl, _, _, rfl, fun z => ?_⟩
      exact .inl ⟨_, rfl, _, rfl, _, _, rfl, rfl, mne, fin _ z _ _ _ (o1.trans Off.upd) upd_same (Off.upd (p := p) _ _ ne e2) e3⟩
end
end G
end
section
set_option Elab.async false
set_option linter.all false
set_option maxRecDepth 100000
set_option maxHeartbeats 4000000
set_option exponentiation.threshold 100000
/-! The law's ratios. -/
namespace G
open PySem PySem.Spec PyProof.Rows L2
theorem rat_lt {q r : Rat} : q < r ↔ q.num * r.den < r.num * q.den := by
  have z := cmp_cases q r
  have z1 := cmp_lt q r
  constructor
  · intro h
    have := z1.mpr h
    rcases z with ⟨a, _⟩ | ⟨_, _, b⟩ | ⟨_, _, b⟩
    · exact a
    · omega
    · omega
  · intro h
    apply z1.mp
    rcases z with ⟨_, b⟩ | ⟨a, _⟩ | ⟨a, _⟩
    · omega
    · exact absurd h a
    · exact absurd h a
theorem gcd_step (x y : Nat) : Nat.gcd y (x % y) = Nat.gcd x y := by
  rw [Nat.gcd_comm x y, Nat.gcd_rec y x, Nat.gcd_comm]
theorem abs_if (a : Int) : (if a < 0 then -a else a) = ((a.natAbs : Nat) : Int) := by
  split <;> omega
section
variable {P : Program} {w : World} {K : PySem.W.Frag} {mg : Str → Option Value} {base : Heap}
def spPick : Sp := fun vs H Q _ => ∃ (p c t : Addr) (zs : List Int), vs = [.ref p, .ref t] ∧ HandOk H p c ∧ H t = some (.lst (zs.map V.int)) ∧ t ≠ p ∧ 0 < zs.length ∧ zs.length ≤ 100 ∧ ∀ (H' : Hp) (z : Int), Off p H H' → HandOk H' p c → z ∈ zs → Q (.int z) H'
theorem sc__law_pick : FnScope ["_law_hand_here", "_law_things"] ["_law_hand_here", "_law_things"] (defScope s__law_pick) := ⟨rfl, rfl, rfl, by decide +kernel, rfl, by decide +kernel, by decide +kernel⟩
theorem ok_pick (T : Tx K mg) : Has P w K mg base 3 "_law_pick" ["_law_hand_here", "_law_things"] spPick := by
  have h__law_draw : Has P w K mg base _ "_law_draw" _ _ := ok_draw T
  refine has_of T.d__law_pick T.g__law_pick (fun _ _ _ _ _ _ us hl => match us, hl with | [_, _], _ => rfl) sc__law_pick (fun vs H Q E h => ?_) (fun cdv A outer s H vs Q E hr h => ?_)
  · obtain ⟨p, c, t, zs, rfl, _⟩ := h
    rfl
  obtain ⟨p, c, t, zs, rfl, HO, ht, tp, l0, l1, k⟩ := h
  refine ⟨_, (pss_one (ps_ret (pe_ix ix_list (pv 1) (pe_f h__law_draw hr (by rfl) (pa_cons (pv 0) (pa_cons (pe_callB call_len_seq (by rfl) T.n_len (by decide +kernel) (pa_cons (pv 1) pa_nil)) pa_nil))) (fun _ _ => rfl)))), ?_⟩
  refine ⟨_, rfl, _, rfl, _, rfl, t, _, rfl, .inl (.inl (.inl ht)), p, c, _, rfl, by rw [List.length_map]; omega, by rw [List.length_map]; omega, HO, fun H1 r o1 HO1 r0 r1 => ?_⟩
  rw [List.length_map] at r1
  have ex : zs[r.toNat]? = some (zs[r.toNat]'(by omega)) := List.getElem?_eq_getElem _
  exact ⟨t, _, _, _, rfl, rfl, .inl (.inl (o1 _ _ tp ht)), at1 ex (by omega), k H1 _ o1 HO1 (List.mem_of_getElem? ex)⟩
theorem sc__law_low : FnScope ["_law_top", "_law_bottom", "_law_one", "_law_other"] ["_law_top", "_law_bottom"] (defScope s__law_low) := ⟨rfl, rfl, rfl, by decide +kernel, rfl, by decide +kernel, by decide +kernel⟩
theorem ok_low (T : Tx K mg) : Has P w K mg base 1 "_law_low" ["_law_top", "_law_bottom"] spLowest := by
  refine has_of T.d__law_low T.g__law_low (fun _ _ _ _ _ _ us hl => match us, hl with | [_, _], _ => rfl) sc__law_low (fun vs H Q E h => ?_) (fun cdv A outer s H vs Q E hr h => ?_)
  · obtain ⟨a, b, rfl, _⟩ := h
    rfl
  obtain ⟨a, b, rfl, b0, hb, k⟩ := h
  refine ⟨_, (pss_cons (ps_set (i := 2) sc__law_low.nd rfl (Or.inl rfl) (pe_callB call_abs (by rfl) T.n_abs (by decide +kernel) (pa_cons (pv 0) pa_nil)))
  (pss_cons (ps_set (i := 3) sc__law_low.nd rfl (Or.inl rfl) (pe_callB call_abs (by rfl) T.n_abs (by decide +kernel) (pa_cons (pv 1) pa_nil)))
  (pss_cons (ps_while PassesOwn.never (pt_truth (pv 3) (by intro _; rfl))
    (pss_one (ps_par (i := 2) (j := 3) (by rfl) sc__law_low.nd rfl rfl (by decide) rfl rfl (pa_cons (pv 3) (pa_cons (pe_op op_modN (pe_callTy call_int1 (by rfl) T.n_int (by decide +kernel) (pa_cons (pv 2) pa_nil)) (pv 3)) pa_nil)) (by rfl))))
  (pss_cons (ps_if (pt_cmpR op_lt (pv 1) pe_int (nomark _))
    (pss_one (ps_set (i := 2) sc__law_low.nd rfl (Or.inl rfl) (pe_un un_neg (pv 2))))
    pss_nil)
  (pss_one (ps_ret (pe_tup (pa_cons (pe_op op_fdivW (pv 0) (pv 2)) (pa_cons (pe_op op_fdivW (pv 1) (pv 2)) pa_nil))))))))), ?_⟩
  refine ⟨_, rfl, _, rfl, ?_⟩
  rw [abs_if]
  refine ⟨_, rfl, _, rfl, ?_⟩
  rw [abs_if]
  refine ⟨fun m σ H1 => H1 = H ∧ ∃ x y : Nat, σ = [some (.int a), some (.int b), some (.int (x : Int)), some (.int (y : Int))] ∧ y = m ∧ Nat.gcd x y = Nat.gcd a.natAbs b.natAbs, ⟨_, rfl, a.natAbs, b.natAbs, rfl, rfl, rfl⟩, ?_⟩
  rintro m σ H1 ⟨rfl, x, y, rfl, rfl, hg⟩
  refine ⟨_, rfl, _, rfl, ?_⟩
  by_cases y0 : y = 0
  · subst y0
    rw [Nat.gcd_zero_right] at hg
    subst hg
    have g0 := gcd_pos (a := a) b0
    have g1 := gcd_lt (a := a) b0 hb
    refine iteF ?_
    refine ⟨_, rfl, _, _, rfl, rfl, _, rfl, ?_⟩
    rw [decide_eq_false (show ¬ b < 0 by omega)]
    refine iteF ?_
    refine ⟨_, rfl, _, rfl, a, _, rfl, rfl, wide_div g0 g1 (by decide) (by decide), _, rfl, _, rfl, b, _, rfl, rfl, wide_div g0 g1 (by decide) (by decide), ?_⟩
    refine ⟨by show 2 ≤ sizeLine; decide, fun p hp => k _ _ (same_new hp) ⟨p, rfl, ?_⟩⟩
    rw [← lowp_num b0, ← lowp_den b0]
    exact upd_same
  · rw [show ((y : Int) != 0) = true from bne_iff_ne.mpr (by omega)]
    refine iteT ⟨fun σ' H' => H' = H1 ∧ σ' = [some (.int a), some (.int b), some (.int (y : Int)), some (.int ((x % y : Nat) : Int))], fun σ' H' z => ?_, ?_⟩
    · obtain ⟨rfl, rfl⟩ := z
      exact ⟨x % y, Nat.mod_lt _ (by omega), rfl, y, x % y, rfl, rfl, by rw [gcd_step]; exact hg⟩
    · refine ⟨_, rfl, _, rfl, .inl ⟨_, rfl, _, rfl, _, _, rfl, rfl, (show (y : Int) ≠ 0 by omega), _, _, rfl, ?_⟩⟩
      have e : (x : Int).fmod (y : Int) = ((x % y : Nat) : Int) := by rw [Int.fmod_eq_emod_of_nonneg _ (by omega)]; rfl
      refine ⟨rfl, ?_⟩
      show [some (V.int a), some (V.int b), some (V.int (y : Int)), some (V.int ((x : Int).fmod (y : Int)))] = _
      rw [e]
def spLess : Sp := fun vs H Q _ => ∃ (n : Nat) (x y : V) (q r : Rat), vs = [x, y] ∧ Rt H x q ∧ Rt H y r ∧ Sz n q ∧ Sz n r ∧ 0 < n ∧ n ≤ 4000 ∧ Q (.bl (decide (q < r))) H
theorem sc__law_less : FnScope ["_law_a", "_law_b"] ["_law_a", "_law_b"] (defScope s__law_less) := ⟨rfl, rfl, rfl, by decide +kernel, rfl, by decide +kernel, by decide +kernel⟩
theorem ok_less (T : Tx K mg) : Has P w K mg base 1 "_law_less" ["_law_a", "_law_b"] spLess := by
  refine has_of T.d__law_less T.g__law_less (fun _ _ _ _ _ _ us hl => match us, hl with | [_, _], _ => rfl) sc__law_less (fun vs H Q E h => ?_) (fun cdv A outer s H vs Q E hr h => ?_)
  · obtain ⟨n, x, y, q, r, rfl, _⟩ := h
    rfl
  obtain ⟨n, x, y, q, r, rfl, ⟨p1, rfl, e1⟩, ⟨p2, rfl, e2⟩, zx, zy, n0, n1, k⟩ := h
  refine ⟨_, (pss_one (ps_ret (pe_cmpR op_lt (pe_op op_mulW (pe_ix ix_tup (pv 0) pe_int (fun _ _ => rfl)) (pe_ix ix_tup (pv 1) pe_int (fun _ _ => rfl))) (pe_op op_mulW (pe_ix ix_tup (pv 1) pe_int (fun _ _ => rfl)) (pe_ix ix_tup (pv 0) pe_int (fun _ _ => rfl))) (nomark _)))), ?_⟩
  refine ⟨_, rfl, p1, _, _, _, rfl, rfl, .inl (.inl e1), atI_nat (j := 0) rfl, _, rfl, p2, _, _, _, rfl, rfl, .inl (.inl e2), atI_nat (j := 1) rfl, _, _, rfl, rfl, wide_mul zx.1 (by rw [den_nat]; exact zy.2) n0 n0 (by omega), ?_⟩
  refine ⟨_, rfl, p2, _, _, _, rfl, rfl, .inl (.inl e2), atI_nat (j := 0) rfl, _, rfl, p1, _, _, _, rfl, rfl, .inl (.inl e1), atI_nat (j := 1) rfl, _, _, rfl, rfl, wide_mul zy.1 (by rw [den_nat]; exact zx.2) n0 n0 (by omega), _, _, rfl, rfl, ?_⟩
  have e : decide (q.num * (r.den : Int) < r.num * (q.den : Int)) = decide (q < r) := decide_eq_decide.mpr rat_lt.symm
  show Q (.bl (decide (q.num * (r.den : Int) < r.num * (q.den : Int)))) H
  rw [e]
  exact k
def spTwoT (f : Rat → Rat → Rat) : Sp := fun vs H Q _ => ∃ (n : Nat) (x y : V) (q r : Rat), vs = [x, y] ∧ Rt H x q ∧ Rt H y r ∧ Sz n q ∧ Sz n r ∧ 0 < n ∧ n ≤ 4000 ∧ ∀ (H' : Hp) (v : V), Same H H' → Rt H' v (f q r) → Q v H'
abbrev spAdd : Sp := spTwoT (fun q r => q + r)
abbrev spSub : Sp := spTwoT (fun q r => q - r)
theorem sc__law_add : FnScope ["_law_a", "_law_b"] ["_law_a", "_law_b"] (defScope s__law_add) := ⟨rfl, rfl, rfl, by decide +kernel, rfl, by decide +kernel, by decide +kernel⟩
theorem ok_add (T : Tx K mg) : Has P w K mg base 2 "_law_add" ["_law_a", "_law_b"] spAdd := by
  have h__law_low : Has P w K mg base _ "_law_low" _ _ := ok_low T
  refine has_of T.d__law_add T.g__law_add (fun _ _ _ _ _ _ us hl => match us, hl with | [_, _], _ => rfl) sc__law_add (fun vs H Q E h => ?_) (fun cdv A outer s H vs Q E hr h => ?_)
  · obtain ⟨n, x, y, q, r, rfl, _⟩ := h
    rfl
  obtain ⟨n, x, y, q, r, rfl, ⟨p1, rfl, e1⟩, ⟨p2, rfl, e2⟩, zx, zy, n0, n1, k⟩ := h
  refine ⟨_, (pss_one (ps_ret (pe_f h__law_low hr (by rfl) (pa_cons (pe_op op_add (pe_op op_mulW (pe_ix ix_tup (pv 0) pe_int (fun _ _ => rfl)) (pe_ix ix_tup (pv 1) pe_int (fun _ _ => rfl))) (pe_op op_mulW (pe_ix ix_tup (pv 1) pe_int (fun _ _ => rfl)) (pe_ix ix_tup (pv 0) pe_int (fun _ _ => rfl)))) (pa_cons (pe_op op_mulW (pe_ix ix_tup (pv 0) pe_int (fun _ _ => rfl)) (pe_ix ix_tup (pv 1) pe_int (fun _ _ => rfl))) pa_nil))))), ?_⟩
  have dq : (q.den : Int).natAbs < 2 ^ n := by rw [den_nat]; exact zx.2
  have dr : (r.den : Int).natAbs < 2 ^ n := by rw [den_nat]; exact zy.2
  refine ⟨_, rfl, p1, _, _, _, rfl, rfl, .inl (.inl e1), atI_nat (j := 0) rfl, _, rfl, p2, _, _, _, rfl, rfl, .inl (.inl e2), atI_nat (j := 1) rfl, _, _, rfl, rfl, wide_mul zx.1 dr n0 n0 (by omega), ?_⟩
  refine ⟨_, rfl, p2, _, _, _, rfl, rfl, .inl (.inl e2), atI_nat (j := 0) rfl, _, rfl, p1, _, _, _, rfl, rfl, .inl (.inl e1), atI_nat (j := 1) rfl, _, _, rfl, rfl, wide_mul zy.1 dq n0 n0 (by omega), _, _, rfl, rfl, ?_⟩
  refine ⟨_, rfl, p1, _, _, _, rfl, rfl, .inl (.inl e1), atI_nat (j := 1) rfl, _, rfl, p2, _, _, _, rfl, rfl, .inl (.inl e2), atI_nat (j := 1) rfl, _, _, rfl, rfl, wide_mul dq dr n0 n0 (by omega), ?_⟩
  have d1 := q.den_pos
  have d2 := r.den_pos
  refine ⟨_, _, rfl, Int.mul_pos (by omega) (by omega), lt_mono (imul_lt dq dr) (by omega), fun H' v s hv => k H' v s ?_⟩
  rw [plus_eq] at hv
  exact hv
theorem sc__law_sub : FnScope ["_law_a", "_law_b"] ["_law_a", "_law_b"] (defScope s__law_sub) := ⟨rfl, rfl, rfl, by decide +kernel, rfl, by decide +kernel, by decide +kernel⟩
theorem ok_sub (T : Tx K mg) : Has P w K mg base 2 "_law_sub" ["_law_a", "_law_b"] spSub := by
  have h__law_low : Has P w K mg base _ "_law_low" _ _ := ok_low T
  refine has_of T.d__law_sub T.g__law_sub (fun _ _ _ _ _ _ us hl => match us, hl with | [_, _], _ => rfl) sc__law_sub (fun vs H Q E h => ?_) (fun cdv A outer s H vs Q E hr h => ?_)
  · obtain ⟨n, x, y, q, r, rfl, _⟩ := h
    rfl
  obtain ⟨n, x, y, q, r, rfl, ⟨p1, rfl, e1⟩, ⟨p2, rfl, e2⟩, zx, zy, n0, n1, k⟩ := h
  refine ⟨_, (pss_one (ps_ret (pe_f h__law_low hr (by rfl) (pa_cons (pe_op op_sub (pe_op op_mulW (pe_ix ix_tup (pv 0) pe_int (fun _ _ => rfl)) (pe_ix ix_tup (pv 1) pe_int (fun _ _ => rfl))) (pe_op op_mulW (pe_ix ix_tup (pv 1) pe_int (fun _ _ => rfl)) (pe_ix ix_tup (pv 0) pe_int (fun _ _ => rfl)))) (pa_cons (pe_op op_mulW (pe_ix ix_tup (pv 0) pe_int (fun _ _ => rfl)) (pe_ix ix_tup (pv 1) pe_int (fun _ _ => rfl))) pa_nil))))), ?_⟩
  have dq : (q.den : Int).natAbs < 2 ^ n := by rw [den_nat]; exact zx.2
  have dr : (r.den : Int).natAbs < 2 ^ n := by rw [den_nat]; exact zy.2
  refine ⟨_, rfl, p1, _, _, _, rfl, rfl, .inl (.inl e1), atI_nat (j := 0) rfl, _, rfl, p2, _, _, _, rfl, rfl, .inl (.inl e2), atI_nat (j := 1) rfl, _, _, rfl, rfl, wide_mul zx.1 dr n0 n0 (by omega), ?_⟩
  refine ⟨_, rfl, p2, _, _, _, rfl, rfl, .inl (.inl e2), atI_nat (j := 0) rfl, _, rfl, p1, _, _, _, rfl, rfl, .inl (.inl e1), atI_nat (j := 1) rfl, _, _, rfl, rfl, wide_mul zy.1 dq n0 n0 (by omega), _, _, rfl, rfl, ?_⟩
  refine ⟨_, rfl, p1, _, _, _, rfl, rfl, .inl (.inl e1), atI_nat (j := 1) rfl, _, rfl, p2, _, _, _, rfl, rfl, .inl (.inl e2), atI_nat (j := 1) rfl, _, _, rfl, rfl, wide_mul dq dr n0 n0 (by omega), ?_⟩
  have d1 := q.den_pos
  have d2 := r.den_pos
  refine ⟨_, _, rfl, Int.mul_pos (by omega) (by omega), lt_mono (imul_lt dq dr) (by omega), fun H' v s hv => k H' v s ?_⟩
  rw [minus_eq] at hv
  exact hv
def spSpeed : Sp := fun vs H Q _ => ∃ (p c : Addr) (far : Int), vs = [.ref p, .int far] ∧ 0 ≤ far ∧ far ≤ 20 ∧ HandOk H p c ∧ ∀ (H' : Hp) (v : V) (q : Rat), Off p H H' → HandOk H' p c → Rt H' v q → q.num.natAbs ≤ 20 ∧ q.den ∣ 6 → Q v H'
theorem sc__law_speed : FnScope ["_law_hand_here", "_law_far", "_law_top"] ["_law_hand_here", "_law_far"] (defScope s__law_speed) := ⟨rfl, rfl, rfl, by decide +kernel, rfl, by decide +kernel, by decide +kernel⟩
theorem ok_speed (T : Tx K mg) : Has P w K mg base 3 "_law_speed" ["_law_hand_here", "_law_far"] spSpeed := by
  have h__law_draw : Has P w K mg base _ "_law_draw" _ _ := ok_draw T
  have h__law_low : Has P w K mg base _ "_law_low" _ _ := ok_low T
  refine has_of T.d__law_speed T.g__law_speed (fun _ _ _ _ _ _ us hl => match us, hl with | [_, _], _ => rfl) sc__law_speed (fun vs H Q E h => ?_) (fun cdv A outer s H vs Q E hr h => ?_)
  · obtain ⟨p, c, far, rfl, _⟩ := h
    rfl
  obtain ⟨p, c, far, rfl, f0, f1, HO, k⟩ := h
  refine ⟨_, (pss_cons (ps_set (i := 2) sc__law_speed.nd rfl (Or.inl rfl) (pe_op op_sub (pe_f h__law_draw hr (by rfl) (pa_cons (pv 0) (pa_cons (pe_op op_add (pe_op op_mul pe_int (pv 1)) pe_int) pa_nil))) (pv 1)))
  (pss_cons (ps_if (pt_cmpR op_gt (pe_f h__law_draw hr (by rfl) (pa_cons (pv 0) (pa_cons pe_int pa_nil))) pe_int (nomark _))
    (pss_one (ps_ret (pe_tup (pa_cons (pv 2) (pa_cons pe_int pa_nil)))))
    pss_nil)
  (pss_one (ps_ret (pe_f h__law_low hr (by rfl) (pa_cons (pv 2) (pa_cons (pe_op op_add pe_int (pe_f h__law_draw hr (by rfl) (pa_cons (pv 0) (pa_cons pe_int pa_nil)))) pa_nil))))))), ?_⟩
  refine ⟨_, rfl, _, rfl, _, _, rfl, rfl, .inl ⟨by decide, by decide⟩, _, _, rfl, rfl, p, c, _, rfl, by omega, by omega, HO, fun H1 r o1 HO1 r0 r1 => ?_⟩
  refine ⟨_, rfl, _, _, rfl, rfl, ?_⟩
  refine ⟨_, rfl, p, c, _, rfl, by decide, by decide, HO1, fun H2 z o2 HO2 z0 z1 => ?_⟩
  have o12 := o1.trans o2
  refine ⟨_, _, rfl, rfl, _, rfl, ?_⟩
  by_cases c1 : 0 < z
  · rw [decide_eq_true c1]
    refine iteT ⟨_, rfl, by show 2 ≤ sizeLine; decide, fun t nt => ?_⟩
    have s := same_new (o := L2.HO.tup [V.int (r - far), V.int 1]) nt
    refine k _ _ ((r - far : Int) : Rat) (o12.trans (.of s)) (HO2.same s) ⟨t, rfl, upd_same⟩ ⟨?_, ?_⟩
    · show (r - far).natAbs ≤ 20
      omega
    · exact ⟨6, rfl⟩
  · rw [decide_eq_false c1]
    refine iteF ⟨_, rfl, _, rfl, p, c, _, rfl, by decide, by decide, HO2, fun H3 y o3 HO3 y0 y1 => ?_⟩
    refine ⟨_, _, rfl, rfl, _, _, rfl, by omega, lt_mono (n := 2) (by omega) (by decide), fun H4 v s4 hv => ?_⟩
    have yn : (2 : Int) + y ≠ 0 := by omega
    refine k H4 v _ ((o12.trans o3).trans (.of s4)) (HO3.same s4) hv ⟨?_, ?_⟩
    · have := low_num_le (r - far) (2 + y)
      omega
    · have := low_den_dvd (a := r - far) yn
      refine Nat.dvd_trans this ?_
      have : y = 0 ∨ y = 1 := by omega
      rcases this with rfl | rfl
      · exact ⟨3, rfl⟩
      · exact ⟨2, rfl⟩
end
end G
end
section
set_option Elab.async false
set_option linter.all false
set_option maxRecDepth 100000
set_option maxHeartbeats 4000000
set_option exponentiation.threshold 100000
/-! Data; the falling speeds. -/
namespace G
open PySem PySem.Spec PyProof.Rows L2
/-! ### data -/
def rd (q : Rat) : PyData := .tuple [.int q.num, .int q.den]
def od : Option Rat → PyData
  | none => .none
  | some q => rd q
def ld (p : Nat × Nat) : PyData := .tuple [.int (p.1 : Int), .int (p.2 : Int)]
/-- a kind of data: laid so, equal so -/
structure Dk {α : Type} (f : α → PyData) : Prop where
  lay : ∀ x, (f x).canLay0 = true
  dep : ∀ x, (f x).depth ≤ 2
  eq : ∀ x y, PyData.eqv (f x) (f y) = true ↔ x = y
theorem and_tt {a : Bool} : (a && true) = a := by cases a <;> rfl
theorem eqv_two (a b c d : Int) : PyData.eqv (.tuple [.int a, .int b]) (.tuple [.int c, .int d]) = true ↔ a = c ∧ b = d := by
  simp [PyData.eqv, PyData.eqvAll]
theorem dk_rd : Dk rd := ⟨fun x => by simp [rd, PyData.canLay0, PyData.canLayAll0], fun x => by simp [rd, PyData.depth, PyData.depthAll], fun x y => by
  unfold rd
  rw [eqv_two]
  constructor
  · rintro ⟨h1, h2⟩
    exact Rat.ext h1 (by omega)
  · rintro rfl
    exact ⟨rfl, rfl⟩⟩
theorem dk_ld : Dk ld := ⟨fun x => by simp [ld, PyData.canLay0, PyData.canLayAll0], fun x => by simp [ld, PyData.depth, PyData.depthAll], fun x y => by
  unfold ld
  rw [eqv_two]
  constructor
  · rintro ⟨h1, h2⟩
    exact Prod.ext (by omega) (by omega)
  · rintro rfl
    exact ⟨rfl, rfl⟩⟩
theorem dk_od : Dk od := ⟨fun x => by
    cases x
    · simp [od, PyData.canLay0]
    · exact dk_rd.lay _, fun x => by
    cases x
    · simp [od, PyData.depth]
    · exact dk_rd.dep _, fun x y => by
    cases x with
    | none =>
      cases y with
      | none => simp [od, PyData.eqv]
      | some b => simp [od, rd, PyData.eqv]
    | some a =>
      cases y with
      | none => simp [od, rd, PyData.eqv]
      | some b =>
        show PyData.eqv (rd a) (rd b) = true ↔ _
        rw [dk_rd.eq]
        simp⟩
section
variable {α : Type} {f : α → PyData}
theorem Dk.all (d : Dk f) : ∀ xs ys : List α, PyData.eqvAll (xs.map f) (ys.map f) = true ↔ xs = ys
  | [], [] => by simp [PyData.eqvAll]
  | [], y :: ys => by simp [PyData.eqvAll]
  | x :: xs, [] => by simp [PyData.eqvAll]
  | x :: xs, y :: ys => by
    rw [List.map_cons, List.map_cons, PyData.eqvAll, Bool.and_eq_true, d.eq, d.all xs ys]
    simp
theorem Dk.lays (d : Dk f) : ∀ xs : List α, PyData.canLayAll0 (xs.map f) = true
  | [] => by simp [PyData.canLayAll0]
  | x :: xs => by simp [PyData.canLayAll0, d.lay x, d.lays xs]
theorem Dk.deps (d : Dk f) : ∀ xs : List α, PyData.depthAll (xs.map f) ≤ 2
  | [] => by simp [PyData.depthAll]
  | x :: xs => by
    rw [List.map_cons, PyData.depthAll]
    exact Nat.max_le.mpr ⟨d.dep x, d.deps xs⟩
theorem Dk.shL (d : Dk f) (xs : List α) : SeqAt.shaped (.list (xs.map f)) = true := by
  have := d.deps xs
  unfold SeqAt.shaped
  rw [Bool.and_eq_true]
  refine ⟨by rw [PyData.canLay0]; exact d.lays xs, ?_⟩
  rw [decide_eq_true_iff, PyData.depth]
  omega
theorem Dk.shT (d : Dk f) (xs : List α) : SeqAt.shaped (.tuple (xs.map f)) = true := by
  have := d.deps xs
  unfold SeqAt.shaped
  rw [Bool.and_eq_true]
  refine ⟨by rw [PyData.canLay0]; exact d.lays xs, ?_⟩
  rw [decide_eq_true_iff, PyData.depth]
  omega
theorem Dk.sh (d : Dk f) (x : α) : SeqAt.shaped (f x) = true := by
  have := d.dep x
  unfold SeqAt.shaped
  rw [Bool.and_eq_true]
  exact ⟨d.lay x, decide_eq_true (by omega)⟩
theorem Dk.eqT (d : Dk f) (xs ys : List α) : PyData.eqv (.tuple (xs.map f)) (.tuple (ys.map f)) = true ↔ xs = ys := by
  rw [PyData.eqv, d.all]
variable {K : PySem.W.Frag} {H : Hp}
theorem dps {R : V → α → Prop} (g : ∀ v x, R v x → Dp K H v (f x)) : ∀ {vs : List V} {xs : List α}, A2 R vs xs → DpAll K H vs (xs.map f)
  | [], [], _ => .nil
  | [], _ :: _, h => by cases h.1
  | _ :: _, [], h => by cases h.1
  | v :: vs, x :: xs, h => .cons (g v x (h.2 0 v x rfl rfl)) (dps g (vs := vs) (xs := xs) ⟨Nat.succ.inj h.1, fun i a b e1 e2 => h.2 (i + 1) a b e1 e2⟩)
end
section
variable {K : PySem.W.Frag} {H : Hp}
theorem Rt.dp {v : V} {q : Rat} (h : Rt H v q) : Dp K H v (rd q) := by
  obtain ⟨p, rfl, e⟩ := h
  exact .tup (.inl (.inl e)) (.cons (.int _) (.cons (.int _) .nil))
theorem Ot.dp {v : V} {o : Option Rat} (h : Ot H v o) : Dp K H v (od o) := by
  cases o with
  | none =>
    obtain rfl : v = .non := h
    exact .non
  | some q => exact Rt.dp h
theorem LotAt.dp {v : V} {p : Nat × Nat} (h : LotAt H v p) : Dp K H v (ld p) := by
  obtain ⟨a, rfl, e⟩ := h
  exact .tup (.inl (.inl e)) (.cons (.int _) (.cons (.int _) .nil))
end
theorem hu65_of {A : Around} {k : Nat} (hr : Room k A) : A.units + 65 < cLine := by have := hr.un; omega
theorem first_at {α : Type} (p : α → Bool) : ∀ xs : List α, (∃ x, x ∈ xs ∧ p x = true) → ∃ (j : Nat) (z : α), xs[j]? = some z ∧ p z = true ∧ ∀ (m : Nat) (u : α), m < j → xs[m]? = some u → p u = false
  | [], h => by
    obtain ⟨x, hx, _⟩ := h
    cases hx
  | x :: xs, h => by
    by_cases c : p x = true
    · exact ⟨0, x, rfl, c, fun m u hm => by omega⟩
    · obtain ⟨y, hy, py⟩ := h
      obtain ⟨j, z, e, pz, k⟩ := first_at p xs ⟨y, by
        rcases List.mem_cons.mp hy with rfl | h
        · exact absurd py c
        · exact h, py⟩
      refine ⟨j + 1, z, e, pz, fun m u hm eu => ?_⟩
      cases m with
      | zero =>
        cases eu
        exact Bool.eq_false_iff.mpr c
      | succ m => exact k m u (by omega) eu
theorem A2.erase {α : Type} {R : V → α → Prop} {vs : List V} {qs : List α} (h : A2 R vs qs) (j : Nat) : A2 R (vs.eraseIdx j) (qs.eraseIdx j) := by
  refine ⟨by rw [List.length_eraseIdx, List.length_eraseIdx, h.1], fun i v q e1 e2 => ?_⟩
  rw [List.getElem?_eraseIdx] at e1 e2
  by_cases c : i < j
  · rw [if_pos c] at e1 e2
    exact h.2 _ _ _ e1 e2
  · rw [if_neg c] at e1 e2
    exact h.2 _ _ _ e1 e2
theorem Fit.erase {T D : Nat} {qs : List Rat} (h : Fit T D qs) (j : Nat) : Fit T D (qs.eraseIdx j) := fun q hq => h q (List.mem_of_mem_eraseIdx hq)
theorem Fit.nil {T D : Nat} : Fit T D [] := fun q hq => by cases hq
theorem Fit.snoc {T D : Nat} {qs : List Rat} (h : Fit T D qs) {q : Rat} (k : q.num.natAbs ≤ T ∧ q.den ∣ D) : Fit T D (qs ++ [q]) := fun r hr => by
  rcases List.mem_append.mp hr with z | z
  · exact h r z
  · rw [List.mem_singleton.mp z]
    exact k
section
variable {P : Program} {w : World} {K : PySem.W.Frag} {mg : Str → Option Value} {base : Heap}
def spFalling : Sp := fun vs H Q _ => ∃ (a : Addr) (xs : List V) (qs : List Rat), vs = [.ref a] ∧ H a = some (.lst xs) ∧ A2 (Rt H) xs qs ∧ Fit 20 6 qs ∧ xs.length ≤ 40 ∧
  ∀ (H' : Hp) (l : Addr) (ys : List V) (rs : List Rat), Same H H' → H l = none → H' l = some (.lst ys) → A2 (Rt H') ys rs → Fit 20 6 rs → rs.length = qs.length → Q (.ref l) H'
theorem sc__law_falling : FnScope ["_law_speeds", "_law_left", "_law_made", "_law_k", "_law_best", "_law_speed_here"] ["_law_speeds"] (defScope s__law_falling) := ⟨rfl, rfl, rfl, by decide +kernel, rfl, by decide +kernel, by decide +kernel⟩
theorem ok_falling (T : Tx K mg) : Has P w K mg base 2 "_law_falling" ["_law_speeds"] spFalling := by
  have h__law_less : Has P w K mg base _ "_law_less" _ _ := ok_less T
  refine has_of T.d__law_falling T.g__law_falling (fun _ _ _ _ _ _ us hl => match us, hl with | [_], _ => rfl) sc__law_falling (fun vs H Q E h => ?_) (fun cdv A outer s H vs Q E hr h => ?_)
  · obtain ⟨a, xs, qs, rfl, _⟩ := h
    rfl
  obtain ⟨a, xs, qs, rfl, ha, hA, fit, l40, k⟩ := h
  have hu := hr.units
  refine ⟨_, (pss_cons (ps_set (i := 1) sc__law_falling.nd rfl (Or.inl rfl) (pe_callTy call_list_of (by rfl) T.n_list (by decide +kernel) (pa_cons (pv 0) pa_nil)))
  (pss_cons (ps_set (i := 2) sc__law_falling.nd rfl (Or.inl rfl) (pe_lst pa_nil))
  (pss_cons (ps_for PassesOwn.never rfl (pi_range1 (by rfl) T.n_range (pa_cons (pe_callB call_len_seq (by rfl) T.n_len (by decide +kernel) (pa_cons (pv 0) pa_nil)) pa_nil)) (pg_name (i := 3) sc__law_falling.nd rfl (Or.inl rfl))
    (pss_cons (ps_set (i := 4) sc__law_falling.nd rfl (Or.inl rfl) (pe_ix ix_list (pv 1) pe_int (fun _ _ => rfl)))
  (pss_cons (ps_for PassesOwn.never rfl (pi_list (pv 1)) (pg_name (i := 5) sc__law_falling.nd rfl (Or.inl rfl))
    (pss_one (ps_if (pt_val (pe_f h__law_less hr (by rfl) (pa_cons (pv 4) (pa_cons (pv 5) pa_nil))))
    (pss_one (ps_set (i := 4) sc__law_falling.nd rfl (Or.inl rfl) (pv 5)))
    pss_nil)))
  (pss_cons (ps_expr (pe_bm PySem.F.plainAttrs_list PySem.F.slot_list_remove PySem.F.type_list_remove (mt_removeD (hu65_of hr)) (pv 1) (pa_cons (pv 4) pa_nil)))
  (pss_one (ps_expr (pe_bm PySem.F.plainAttrs_list PySem.F.slot_list_append PySem.F.type_list_append mt_append (pv 2) (pa_cons (pv 4) pa_nil))))))))
  (pss_one (ps_ret (pv 2)))))), ?_⟩
  refine ⟨_, rfl, a, xs, rfl, .inl (.inl (.inl ha)), fun L nL => ?_⟩
  have sL := same_new (o := HO.lst xs) nL
  have hL : upd H L (.lst xs) L = some (.lst xs) := upd_same
  have ha1 := sL _ _ ha
  generalize upd H L (.lst xs) = H1 at sL hL ha1
  refine ⟨Nat.zero_le _, fun M nM => ?_⟩
  have sM := same_new (o := HO.lst []) nM
  have hM : upd H1 M (.lst []) M = some (.lst []) := upd_same
  have neLM : L ≠ M := ne_of_none hL nM
  have s1 := sL.trans sM
  have hL1 := sM _ _ hL
  have nMH : H M = none := by
    cases e : H M with
    | none => rfl
    | some o => rw [sL _ _ e] at nM; cases nM
  generalize upd H1 M (.lst []) = H2 at sM hM s1 hL1
  refine ⟨_, rfl, a, _, rfl, .inl (.inl (.inl (s1 _ _ ha))), _, rfl, by omega, by omega, ?_⟩
  refine for_range (lo := 0) (n := xs.length) (fun i σ H3 => ∃ (v3 v4 v5 : Option V) (ls ms : List V) (q1 q2 : List Rat), σ = [some (.ref a), some (.ref L), some (.ref M), v3, v4, v5] ∧ Same H H3 ∧ H3 L = some (.lst ls) ∧ H3 M = some (.lst ms) ∧
    A2 (Rt H3) ls q1 ∧ A2 (Rt H3) ms q2 ∧ Fit 20 6 q1 ∧ Fit 20 6 q2 ∧ ls.length + i = xs.length ∧ ms.length = i)
    ⟨none, none, none, xs, [], qs, [], rfl, s1, hL1, hM, hA.imp fun v q z => z.same s1, A2.nil, fit, Fit.nil, by omega, rfl⟩ ?_ ?_
  · rintro i σ H3 hi ⟨v3, v4, v5, ls, ms, q1, q2, rfl, s3, hl3, hm3, a1, a2, f1, f2, ll, ml⟩
    have l0 : 0 < ls.length := by omega
    have e0 : ls[0]? = some (ls[0]'l0) := List.getElem?_eq_getElem l0
    generalize ls[0]'l0 = b0 at e0
    refine ⟨_, rfl, L, _, _, _, rfl, rfl, .inl (.inl hl3), atI_nat (j := 0) e0, ?_⟩
    refine ⟨_, rfl, L, rfl, ⟨ls, .inl (.inl hl3)⟩, ?_⟩
    refine for_list (K := K) (a := L) (xs := ls) (fun j σ H4 => ∃ (v5 : Option V) (bv : V) (m : Nat), H4 = H3 ∧ σ = [some (.ref a), some (.ref L), some (.ref M), some (.int (0 + (i : Int))), some bv, v5] ∧ ls[m]? = some bv) ⟨v5, b0, 0, rfl, rfl, e0⟩ (fun j σ H4 _ ⟨_, _, _, e, _⟩ => .inl (.inl (by rw [e]; exact hl3))) ?_ ?_
    · rintro j x σ H4 hx ⟨v5, bv, m, rfl, rfl, em⟩
      obtain ⟨qb, eqb, rb⟩ := a1.get em
      obtain ⟨qx, eqx, rx⟩ := a1.get hx
      refine ⟨_, rfl, _, rfl, 5, bv, x, qb, qx, rfl, rb, rx, fit_sz f1 (List.mem_of_getElem? eqb), fit_sz f1 (List.mem_of_getElem? eqx), by decide, by decide, ?_⟩
      refine ⟨_, rfl, ?_⟩
      by_cases c : qb < qx
      · rw [decide_eq_true c]
        exact iteT ⟨_, rfl, _, x, j, rfl, rfl, hx⟩
      · rw [decide_eq_false c]
        exact iteF ⟨_, bv, m, rfl, rfl, em⟩
    · rintro σ H4 ⟨v5, bv, m, rfl, rfl, em⟩
      obtain ⟨qb, eqb, rb⟩ := a1.get em
      obtain ⟨j, z, ej, pz, first⟩ := first_at (fun u => PyData.eqv u (rd qb)) (q1.map rd) ⟨rd qb, List.mem_map.mpr ⟨qb, List.mem_of_getElem? eqb, rfl⟩, (dk_rd.eq _ _).mpr rfl⟩
      have hj : j < ls.length := by
        have := (List.getElem?_eq_some_iff.mp ej).1
        rw [List.length_map, ← a1.1] at this
        exact this
      refine ⟨_, rfl, .inl ⟨rfl, _, .inl (.inl hl3)⟩, _, rfl, L, _, _, _, _, j, z, rfl, rfl, hl3, dps (fun v q r => Rt.dp r) a1, Rt.dp rb, dk_rd.shL q1, dk_rd.sh qb, ej, pz, first, ?_⟩
      have hm4 : upd H4 L (.lst (ls.eraseIdx j)) M = some (.lst ms) := by rw [upd_ne neLM.symm]; exact hm3
      refine ⟨_, rfl, .inl ⟨rfl, _, .inl (.inl hm4)⟩, _, rfl, M, _, _, rfl, rfl, hm4, small1000 (by omega), ?_⟩
      refine ⟨_, _, _, ls.eraseIdx j, ms ++ [bv], q1.eraseIdx j, q2 ++ [qb], rfl, same_upd (same_upd s3 nL) nMH, ?_, upd_same, ?_, ?_, f1.erase j, f2.snoc (f1 qb (List.mem_of_getElem? eqb)), ?_, ?_⟩
      · rw [upd_ne neLM]
        exact upd_same
      · exact (a1.erase j).imp fun v q z => (z.keepL hl3).keepL hm4
      · exact (a2.snoc rb).imp fun v q z => (z.keepL hl3).keepL hm4
      · rw [List.length_eraseIdx, if_pos hj]
        omega
      · rw [List.length_append, ml]
        rfl
  · rintro σ H3 ⟨v3, v4, v5, ls, ms, q1, q2, rfl, s3, hl3, hm3, a1, a2, f1, f2, ll, ml⟩
    exact ⟨_, rfl, k H3 M ms q2 s3 nMH hm3 a2 f2 (by rw [← a2.1, ml, hA.1])⟩
end
end G
end
section
set_option Elab.async false
set_option linter.all false
set_option maxRecDepth 100000
set_option maxHeartbeats 4000000
set_option exponentiation.threshold 100000
/-! The law's rows. -/
namespace G
open PySem PySem.Spec PyProof.Rows L2
theorem Rl.keepL {H : Hp} {n : Nat} {p : Addr} {ys : List V} {v : V} {q : Rat} {o : HO} (hp : H p = some (.lst ys)) (h : Rl H n v q) : Rl (upd H p o) n v q := by
  rcases h with h | ⟨a, x, y, e, z, r⟩
  · exact .inl h
  · exact .inr ⟨a, x, y, e, G.keepL hp z, r⟩
section
variable {X : Cx} {k j n : Nat} {C : Str} {ps ks : List Str} {sp : Sp} {p pos : Pos} {e : Expr} {es : List Expr} {kws : List Keyword} {t tk : TA} {gV : List V → List V → List V}
theorem pe_mkKW {K : PySem.W.Frag} (h : HasK X.prog X.w X.K X.mg X.base k C ps ks (n + 1) gV sp) (hr : Room j X.A) (hg : Gl X C) (ha : PA X (e :: es) t) (hkw : PK X kws tk) (hk : k + 1 ≤ j := by decide) (hK : K = X.K := by rfl)
    (hall : (backToKw pos (keywordEach kws X.env)).all (·.1.isSome) = true := by rfl) (hks : (backToKw pos (keywordEach kws X.env)).filterMap (·.1) = ks := by rfl)
    (hdb : (C == ("__debug__" : Str)) = false := by decide) (he : starEach (e :: es) X.env = (false, eval e X.env) :: starEach es X.env := by rfl)
    (hpl : ((backTo pos (starEach (e :: es) X.env)).any (·.1) || (backToKw pos (keywordEach kws X.env)).any (·.1.isNone)) = false := by rfl) :
    PE X (.Call (.Name C p) (e :: es) kws pos) (tMakeN (He.ga K C) n ks.length sp gV E0 t tk) := by
  subst hK
  obtain ⟨f, fd, g, G, b, M, gg⟩ := h
  exact pe_makeN M G (hr.mono hk) hg gg b pass0 ha hkw hall hks hdb he hpl
end
section
variable {P : Program} {w : World} {K : PySem.W.Frag} {mg : Str → Option Value} {base : Heap}
def spGiven : Sp := fun vs H Q _ => ∃ (p c : Addr) (v : V) (q : Rat) (n : Nat), vs = [.ref p, v] ∧ HandOk H p c ∧ Rt H v q ∧ Sz n q ∧ ∀ (H' : Hp) (u : V), Off p H H' → HandOk H' p c → Rl H' (n + 3) u q → Q u H'
theorem sc__law_given : FnScope ["_law_hand_here", "_law_ratio", "_law_way"] ["_law_hand_here", "_law_ratio"] (defScope s__law_given) := ⟨rfl, rfl, rfl, by decide +kernel, rfl, by decide +kernel, by decide +kernel⟩
theorem den1 {q : Rat} (h : q.den = 1) : q = (q.num : Rat) := Rat.ext rfl (by rw [h]; rfl)
theorem ok_given (T : Tx K mg) : Has P w K mg base 3 "_law_given" ["_law_hand_here", "_law_ratio"] spGiven := by
  have h__law_draw : Has P w K mg base _ "_law_draw" _ _ := ok_draw T
  refine has_of T.d__law_given T.g__law_given (fun _ _ _ _ _ _ us hl => match us, hl with | [_, _], _ => rfl) sc__law_given (fun vs H Q E h => ?_) (fun cdv A outer s H vs Q E hr h => ?_)
  · obtain ⟨p, c, v, q, n, rfl, _⟩ := h
    rfl
  obtain ⟨p, c, v, q, n, rfl, hO, hv, z, k⟩ := h
  refine ⟨_, (pss_cons (ps_set (i := 2) sc__law_given.nd rfl (Or.inl rfl) (pe_f h__law_draw hr (by rfl) (pa_cons (pv 0) (pa_cons pe_int pa_nil))))
  (pss_cons (ps_if (PW.pt (pw_and (pt_cmpR op_eq (pv 2) pe_int (nomark _)) (pw_and1 (pt_cmpR op_eq (pe_ix ix_tup (pv 1) pe_int (fun _ _ => rfl)) pe_int (nomark _)))))
    (pss_one (ps_ret (pe_ix ix_tup (pv 1) pe_int (fun _ _ => rfl))))
    pss_nil)
  (pss_cons (ps_if (pt_cmpR op_eq (pv 2) pe_int (nomark _))
    (pss_one (ps_ret (pe_tup (pa_cons (pe_op op_mul (pe_ix ix_tup (pv 1) pe_int (fun _ _ => rfl)) pe_int) (pa_cons (pe_op op_mul (pe_ix ix_tup (pv 1) pe_int (fun _ _ => rfl)) pe_int) pa_nil)))))
    pss_nil)
  (pss_one (ps_ret (pv 1)))))), ?_⟩
  refine ⟨_, rfl, p, c, _, rfl, by decide, by decide, hO, fun H1 r o1 h1 r0 r1 => ?_⟩
  have hv1 := hv.off o1 hO
  obtain ⟨t, rfl, ht⟩ := hv1
  have d0 := q.den_pos
  have dn : (q.den : Int).natAbs < 2 ^ n := by rw [den_nat]; exact z.2
  refine ⟨_, rfl, rfl, _, rfl, ?_⟩
  by_cases c1 : r = 0
  rw [decide_eq_true (show V.int r = V.int 0 by rw [c1])]
  refine iteT ⟨_, rfl, t, _, _, _, rfl, rfl, .inl (.inl ht), atI_nat (j := 1) rfl, rfl, _, rfl, ?_⟩
  by_cases c3 : q.den = 1
  · rw [decide_eq_true (show V.int (q.den : Int) = V.int 1 by rw [c3]; rfl)]
    refine iteT ⟨_, rfl, t, _, _, _, rfl, rfl, .inl (.inl ht), atI_nat (j := 0) rfl, k _ _ o1 h1 (.inl ⟨_, rfl, den1 c3, lt_mono z.1 (by omega)⟩)⟩
  rw [decide_eq_false (show ¬ V.int (q.den : Int) = V.int 1 from fun e => c3 (by have := V.int.inj e; omega))]
  refine iteF ?_
  rotate_left
  rw [decide_eq_false (show ¬ V.int r = V.int 0 from fun e => c1 (V.int.inj e))]
  refine iteF ?_
  all_goals
    refine ⟨_, rfl, rfl, _, rfl, ?_⟩
    by_cases c2 : r = 1
    · rw [decide_eq_true (show V.int r = V.int 1 by rw [c2])]
      refine iteT ⟨_, rfl, t, _, _, _, rfl, rfl, .inl (.inl ht), atI_nat (j := 0) rfl, _, _, rfl, rfl, .inr ⟨by decide, by decide⟩, _, rfl, t, _, _, _, rfl, rfl, .inl (.inl ht), atI_nat (j := 1) rfl, _, _, rfl, rfl, .inr ⟨by decide, by decide⟩, by show 2 ≤ sizeLine; decide, fun u nu => ?_⟩
      have su := same_new (o := HO.tup [V.int (q.num * 6), V.int ((q.den : Int) * 6)]) nu
      refine k _ _ (o1.trans (.of su)) (h1.same su) (.inr ⟨u, _, _, rfl, upd_same, by omega, ?_, imul_lt z.1 (by decide), imul_lt dn (by decide)⟩)
      rw [Rat.divInt_mul_right (by decide)]
      exact (self_divInt q).symm
    · rw [decide_eq_false (show ¬ V.int r = V.int 1 from fun e => c2 (V.int.inj e))]
      exact iteF ⟨_, rfl, k _ _ o1 h1 ((show Rt H1 (.ref t) q from ⟨t, rfl, ht⟩).rl (z.mono (by omega)))⟩
def spLawRow (K : PySem.W.Frag) : Sp := fun vs H Q _ => ∃ (p c aw asp : Addr) (ws : List Int) (xs : List V) (qs : List Rat) (n : Nat), vs = [.ref p, .ref aw, .ref asp, .bl false] ∧ HandOk H p c ∧ H aw = some (.lst (ws.map V.int)) ∧ aw ≠ p ∧ H asp = some (.lst xs) ∧ asp ≠ p ∧
  A2 (Rt H) xs qs ∧ (∀ q, q ∈ qs → Sz n q) ∧ xs.length = ws.length ∧ 2 ≤ ws.length ∧ ws.length ≤ 40 ∧ Pos9 ws ∧ n ≤ 97 ∧ ∀ (H' : Hp) (r : Addr), Off p H H' → HandOk H' p c → RowAt K H' r ws qs → Q (.ref r) H'
theorem sc__law_row : FnScope ["_law_hand_here", "_law_weights", "_law_speeds", "_law_shut", "_law_passed", "_law_speed_here"] ["_law_hand_here", "_law_weights", "_law_speeds", "_law_shut"] (defScope s__law_row) := ⟨rfl, rfl, rfl, by decide +kernel, rfl, by decide +kernel, by decide +kernel⟩
theorem ok_law_row (T : Tx K mg) : Has P w K mg base 7 "_law_row" ["_law_hand_here", "_law_weights", "_law_speeds", "_law_shut"] (spLawRow K) := by
  have h_Row__init__ : HasC P w K mg base _ "Row" _ _ := has_row T
  have h_RowK : HasK P w K mg base _ "Row" _ _ _ _ _ := has_rowK T
  have h__law_draw : Has P w K mg base _ "_law_draw" _ _ := ok_draw T
  have h__law_given : Has P w K mg base _ "_law_given" _ _ := ok_given T
  refine has_of T.d__law_row T.g__law_row (fun _ _ _ _ _ _ us hl => match us, hl with | [_, _, _, _], _ => rfl) sc__law_row (fun vs H Q E h => ?_) (fun cdv A outer s H vs Q E hr h => ?_)
  · obtain ⟨p, c, aw, asp, ws, xs, qs, n, rfl, _⟩ := h
    rfl
  obtain ⟨p, c, aw, asp, ws, xs, qs, n, rfl, hO, hw, nw, hx, nx, hA, hz, hl, l2, l40, p9, n97, k⟩ := h
  refine ⟨_, (pss_cons (ps_setLc (i := 4) (own := [("_law_speed_here", 5)]) (g := gName 5) rfl sc__law_row.nd rfl rfl (sw_true rfl rfl rfl (by decide +kernel)) (pi_list (pv 2)) (blkOk_by (own := [("_law_speed_here", 5)]) (N := ["_law_hand_here", "_law_weights", "_law_speeds", "_law_shut", "_law_passed", "_law_speed_here"]) (sc := defScope s__law_row) (by decide +kernel)) (fun _ _ _ _ _ => (pg_name (i := 5) sc__law_row.nd rfl (Or.inl rfl))) (fun _ _ _ _ _ => pts_nil) (fun _ _ _ _ _ => (pe_f h__law_given hr (by rfl) (pa_cons (pv 0) (pa_cons (pv 5) pa_nil)))))
  (pss_cons (ps_if (pt_cmpR op_eq (pe_f h__law_draw hr (by rfl) (pa_cons (pv 0) (pa_cons pe_int pa_nil))) pe_int (nomark _))
    (pss_one (ps_ret (pe_mk h_Row__init__ hr (by rfl) (pa_cons (pe_callTy call_tup_any (by rfl) T.n_tuple (by decide +kernel) (pa_cons (pv 1) pa_nil)) (pa_cons (pv 4) (pa_cons (pv 3) pa_nil))))))
    pss_nil)
  (pss_one (ps_ret (pe_mkKW h_RowK hr (by rfl) (pa_cons (pe_callTy call_list_of (by rfl) T.n_list (by decide +kernel) (pa_cons (pv 1) pa_nil)) (pa_cons (pe_callTy call_tup_any (by rfl) T.n_tuple (by decide +kernel) (pa_cons (pv 4) pa_nil)) pa_nil)) (pk_cons (pv 3) pk_nil)))))), ?_⟩
  refine ⟨_, rfl, asp, rfl, ⟨xs, .inl (.inl hx)⟩, fun D nD => ?_⟩
  have nDp : D ≠ p := fun e => by
    obtain ⟨_, hp⟩ := hO.lst
    rw [e, hp] at nD
    cases nD
  have nDc : D ≠ c := fun e => by
    obtain ⟨_, _, _, _, _, hc, _⟩ := hO
    rw [e, hc] at nD
    cases nD
  refine lc_list (K := K) (a := asp) (xs := xs) (fun i H1 => Off p H H1 ∧ HandOk H1 p c ∧ ∃ acc, H1 D = some (.lst acc) ∧ A2 (Rl H1 (n + 3)) acc (qs.take i)) ⟨(Off.refl p H).put nD, hO.put nDp nDc, [], upd_same, A2.nil⟩ (fun i H1 _ z => .inl (.inl (z.1 _ _ nx hx))) ?_ ?_
  · rintro i x H1 hi ⟨o1, h1, acc, hD, hacc⟩
    obtain ⟨q, eq, hq⟩ := hA.get hi
    refine ⟨rfl, _, rfl, _, rfl, p, c, x, q, n, rfl, h1, hq.off o1 hO, hz q (List.mem_of_getElem? eq), fun H2 u o2 h2 hu => ?_⟩
    have hD2 := o2 _ _ nDp hD
    refine ⟨acc, hD2, ?_, (o1.trans o2).put nD, h2.put nDp nDc, acc ++ [u], upd_same, ?_⟩
    · rw [hacc.1, List.length_take]
      have := hA.1
      exact small1000 (by omega)
    · rw [List.take_add_one, eq]
      exact ((hacc.imp fun v q z => z.off o2 h1).snoc hu).imp fun v q z => z.keepL hD2
  rintro H1 ⟨o1, h1, acc, hD, hacc⟩
  rw [hA.1, List.take_length] at hacc
  have accl : acc.length = ws.length := by rw [hacc.1, ← hA.1, hl]
  refine ⟨_, rfl, p, c, _, rfl, by decide, by decide, h1, fun H2 r o2 h2 r0 r1 => ?_⟩
  have o12 := o1.trans o2
  have hw2 := o12 _ _ nw hw
  have hD2 := o2 _ _ nDp hD
  have hacc2 := hacc.imp fun v q z => z.off o2 h1
  refine ⟨rfl, _, rfl, ?_⟩
  by_cases c1 : r = 0
  · rw [decide_eq_true (show V.int r = V.int 0 by rw [c1])]
    refine iteT ⟨_, rfl, .ref aw, _, rfl, ⟨aw, rfl, .inl hw2⟩, fun a H3 s3 ha => ?_⟩
    refine ⟨_, rfl, _, rfl, ?_⟩
    intro rr dr nr ndr _
    exact ⟨H3, n + 3, rr, dr, _, _, ws, acc, qs, rfl, same_made nr ndr, nr, upd_same, ⟨⟨a, rfl, .inr ha⟩, ⟨D, rfl, .inl (s3 _ _ hD2)⟩, hacc2.imp (fun v q z => z.same s3), accl, l2, l40, p9, by omega, by omega⟩, fun H' s' R' => ⟨rfl, k H' rr (o12.trans ((Off.of s3).trans (.of s'))) (h2.same (s3.trans s')) R'⟩⟩
  · rw [decide_eq_false (show ¬ V.int r = V.int 0 from fun e => c1 (V.int.inj e))]
    refine iteF ⟨_, rfl, aw, _, rfl, .inl (.inl (.inl hw2)), fun l nl => ?_⟩
    have sl := same_new (o := HO.lst (ws.map V.int)) nl
    have hl3 : upd H2 l (.lst (ws.map V.int)) l = some (.lst (ws.map V.int)) := upd_same
    generalize upd H2 l (.lst (ws.map V.int)) = H3 at sl hl3
    refine ⟨_, rfl, .ref D, _, rfl, ⟨D, rfl, .inl (sl _ _ hD2)⟩, fun a H4 s4 ha => ?_⟩
    refine ⟨_, rfl, rfl, rfl, ?_⟩
    intro rr dr nr ndr _
    have s24 := sl.trans s4
    exact ⟨H4, n + 3, rr, dr, _, _, ws, acc, qs, rfl, same_made nr ndr, nr, upd_same, ⟨⟨l, rfl, .inl (s4 _ _ hl3)⟩, ⟨a, rfl, .inr ha⟩, hacc2.imp (fun v q z => z.same s24), accl, l2, l40, p9, by omega, by omega⟩, fun H' s' R' => ⟨rfl, k H' rr (o12.trans ((Off.of s24).trans (.of s'))) (h2.same (s24.trans s')) R'⟩⟩
end
end G
end
section
set_option Elab.async false
set_option linter.all false
set_option maxRecDepth 100000
set_option maxHeartbeats 4000000
set_option exponentiation.threshold 100000
/-! The law's balls. -/
namespace G
open PySem PySem.Spec PyProof.Rows L2
theorem ixn {n j : Nat} {k : Int} (h : k = (j : Int)) (l : j < n) : ixN n k = some j := by
  subst h
  unfold ixN
  rw [if_pos (by omega), if_pos (by omega)]
  rfl
theorem atI_nat' {xs : List V} {j : Nat} {v : V} {k : Int} (e : xs[j]? = some v) (h : k = (j : Int)) : atI xs k = some v := by
  rw [h]
  exact atI_nat e
theorem Pos9.snoc {ws : List Int} (h : Pos9 ws) {z : Int} (k : 1 ≤ z ∧ z ≤ 9) : Pos9 (ws ++ [z]) := fun r hr => by
  rcases List.mem_append.mp hr with y | y
  · exact h r y
  · rw [List.mem_singleton.mp y]
    exact k
theorem Pos9.set {ws : List Int} (h : Pos9 ws) (j : Nat) {z : Int} (k : 1 ≤ z ∧ z ≤ 9) : Pos9 (ws.set j z) := fun r hr => by
  rcases List.mem_or_eq_of_mem_set hr with y | y
  · exact h r y
  · rw [y]
    exact k
theorem Fit.set {T D : Nat} {qs : List Rat} (h : Fit T D qs) (j : Nat) {q : Rat} (k : q.num.natAbs ≤ T ∧ q.den ∣ D) : Fit T D (qs.set j q) := fun r hr => by
  rcases List.mem_or_eq_of_mem_set hr with y | y
  · exact h r y
  · rw [y]
    exact k
theorem zsub (q : Rat) : 0 - q = -q := by grind
theorem rt0 {H : Hp} {t : Addr} (h : H t = some (.tup [.int 0, .int 1])) : Rt H (.ref t) 0 := ⟨t, rfl, h⟩
theorem sz0 {n : Nat} (h : 0 < n) : Sz n 0 := by
  have := Nat.one_lt_two_pow (n := n) (by omega)
  exact ⟨by show 0 < _; omega, by show 1 < _; omega⟩
theorem HandOk.fresh {H : Hp} {p c D : Addr} (h : HandOk H p c) (n : H D = none) : D ≠ p ∧ D ≠ c := by
  obtain ⟨_, _, _, _, hp, hc, _⟩ := h
  refine ⟨fun e => ?_, fun e => ?_⟩
  · rw [e, hp] at n
    cases n
  · rw [e, hc] at n
    cases n
theorem Off.none {H H' : Hp} {p D : Addr} (o : Off p H H') (k : D ≠ p) (n : H' D = none) : H D = none := by
  cases e : H D with
  | none => rfl
  | some x =>
    rw [o _ _ k e] at n
    cases n
/-- what the law has drawn -/
structure Balls (H : Hp) (p aw asp : Addr) (ws : List Int) (qs : List Rat) : Prop where
  w : H aw = some (.lst (ws.map V.int))
  x : ∃ xs, H asp = some (.lst xs) ∧ A2 (Rt H) xs qs
  fit : Fit 20 6 qs
  len : qs.length = ws.length
  l2 : 2 ≤ ws.length
  l40 : ws.length ≤ 40
  p9 : Pos9 ws
  wp : aw ≠ p
  xp : asp ≠ p
theorem Balls.off {H H' : Hp} {p c aw asp : Addr} {ws : List Int} {qs : List Rat} (b : Balls H p aw asp ws qs) (o : Off p H H') (h : HandOk H p c) : Balls H' p aw asp ws qs := by
  obtain ⟨xs, hx, hA⟩ := b.x
  exact ⟨o _ _ b.wp b.w, ⟨xs, o _ _ b.xp hx, hA.imp fun v q z => z.off o h⟩, b.fit, b.len, b.l2, b.l40, b.p9, b.wp, b.xp⟩
section
variable {P : Program} {w : World} {K : PySem.W.Frag} {mg : Str → Option Value} {base : Heap}
def spMany : Sp := fun vs H Q _ => ∃ (p c : Addr) (n : Nat), vs = [.ref p, .int (n : Int)] ∧ HandOk H p c ∧ 2 ≤ n ∧ n ≤ 40 ∧
  ∀ (H' : Hp) (t aw asp : Addr) (ws : List Int) (qs : List Rat), Off p H H' → HandOk H' p c → H' t = some (.tup [.ref aw, .ref asp]) → Balls H' p aw asp ws qs → Q (.ref t) H'
theorem sc__law_many_balls : FnScope ["_law_hand_here", "_law_many", "_law_heavy", "_law_far", "_law_weights", "_law_speeds", "_law_way", "_law_k"] ["_law_hand_here", "_law_many"] (defScope s__law_many_balls) := ⟨rfl, rfl, rfl, by decide +kernel, rfl, by decide +kernel, by decide +kernel⟩
theorem ok_many (T : Tx K mg) : Has P w K mg base 4 "_law_many_balls" ["_law_hand_here", "_law_many"] spMany := by
  have h__law_sub : Has P w K mg base _ "_law_sub" _ _ := ok_sub T
  have h__law_falling : Has P w K mg base _ "_law_falling" _ _ := ok_falling T
  have h__law_draw : Has P w K mg base _ "_law_draw" _ _ := ok_draw T
  have h__law_speed : Has P w K mg base _ "_law_speed" _ _ := ok_speed T
  have h__law_pick : Has P w K mg base _ "_law_pick" _ _ := ok_pick T
  refine has_of T.d__law_many_balls T.g__law_many_balls (fun _ _ _ _ _ _ us hl => match us, hl with | [_, _], _ => rfl) sc__law_many_balls (fun vs H Q E h => ?_) (fun cdv A outer s H vs Q E hr h => ?_)
  · obtain ⟨p, c, n, rfl, _⟩ := h
    rfl
  obtain ⟨p, c, n, rfl, hO, n2, n40, k⟩ := h
  refine ⟨_, (pss_cons (ps_set (i := 2) sc__law_many_balls.nd rfl (Or.inr rfl) (pe_f h__law_pick hr (by rfl) (pa_cons (pv 0) (pa_cons (pe_lst (pa_cons pe_int (pa_cons pe_int (pa_cons pe_int (pa_cons pe_int pa_nil))))) pa_nil))))
  (pss_cons (ps_set (i := 3) sc__law_many_balls.nd rfl (Or.inr rfl) (pe_f h__law_pick hr (by rfl) (pa_cons (pv 0) (pa_cons (pe_lst (pa_cons pe_int (pa_cons pe_int (pa_cons pe_int (pa_cons pe_int pa_nil))))) pa_nil))))
  (pss_cons (ps_setLc (i := 4) (own := [("_law_k", 7)]) (g := gName 7) rfl sc__law_many_balls.nd rfl rfl (sw_true rfl rfl rfl (by decide +kernel)) (pi_range1 (by rfl) T.n_range (pa_cons (pv 1) pa_nil)) (blkOk_by (own := [("_law_k", 7)]) (N := ["_law_hand_here", "_law_many", "_law_heavy", "_law_far", "_law_weights", "_law_speeds", "_law_way", "_law_k"]) (sc := defScope s__law_many_balls) (by decide +kernel)) (fun _ _ _ _ _ => (pg_name (i := 7) sc__law_many_balls.nd rfl (Or.inl rfl))) (fun _ _ _ _ _ => pts_nil) (fun _ _ _ _ _ => (pe_op op_add pe_int (pe_f h__law_draw hr (by rfl) (pa_cons (pv 0) (pa_cons (pv 2) pa_nil))))))
  (pss_cons (ps_setLc (i := 5) (own := [("_law_k", 7)]) (g := gName 7) rfl sc__law_many_balls.nd rfl rfl (sw_true rfl rfl rfl (by decide +kernel)) (pi_range1 (by rfl) T.n_range (pa_cons (pv 1) pa_nil)) (blkOk_by (own := [("_law_k", 7)]) (N := ["_law_hand_here", "_law_many", "_law_heavy", "_law_far", "_law_weights", "_law_speeds", "_law_way", "_law_k"]) (sc := defScope s__law_many_balls) (by decide +kernel)) (fun _ _ _ _ _ => (pg_name (i := 7) sc__law_many_balls.nd rfl (Or.inl rfl))) (fun _ _ _ _ _ => pts_nil) (fun _ _ _ _ _ => (pe_f h__law_speed hr (by rfl) (pa_cons (pv 0) (pa_cons (pv 3) pa_nil)))))
  (pss_cons (ps_set (i := 6) sc__law_many_balls.nd rfl (Or.inl rfl) (pe_f h__law_draw hr (by rfl) (pa_cons (pv 0) (pa_cons pe_int pa_nil))))
  (pss_cons (ps_if (pt_cmpR op_lt (pv 6) pe_int (nomark _))
    (pss_one (ps_set (i := 5) sc__law_many_balls.nd rfl (Or.inl rfl) (pe_f h__law_falling hr (by rfl) (pa_cons (pv 5) pa_nil))))
    pss_nil)
  (pss_cons (ps_if (pt_cmpR op_eq (pv 6) pe_int (nomark _))
    (pss_one (ps_for PassesOwn.never rfl (pi_range1 (by rfl) T.n_range (pa_cons (pe_op op_fdivW (pv 1) pe_int) pa_nil)) (pg_name (i := 7) sc__law_many_balls.nd rfl (Or.inl rfl))
    (pss_cons (ps_asg (pe_ix ix_list (pv 4) (pv 7) (fun _ _ => rfl)) (pg_sub (pv 4) (pe_op op_sub (pe_op op_sub (pv 1) pe_int) (pv 7)) set_list))
  (pss_one (ps_asg (pe_f h__law_sub hr (by rfl) (pa_cons (pe_tup (pa_cons pe_int (pa_cons pe_int pa_nil))) (pa_cons (pe_ix ix_list (pv 5) (pv 7) (fun _ _ => rfl)) pa_nil))) (pg_sub (pv 5) (pe_op op_sub (pe_op op_sub (pv 1) pe_int) (pv 7)) set_list))))))
    pss_nil)
  (pss_one (ps_ret (pe_tup (pa_cons (pv 4) (pa_cons (pv 5) pa_nil)))))))))))), ?_⟩
  -- heavy
  refine ⟨_, rfl, Nat.le_of_ble_eq_true rfl, fun t1 nt1 => ?_⟩
  have sa := same_new (o := HO.lst [V.int 1, V.int 3, V.int 3, V.int 9]) nt1
  have nt1p : t1 ≠ p := fun e => by
    obtain ⟨_, hp⟩ := hO.lst
    rw [e, hp] at nt1
    cases nt1
  refine ⟨p, c, t1, [1, 3, 3, 9], rfl, hO.same sa, upd_same, nt1p, by decide, by decide, fun H1 heavy o1 h1 mh => ?_⟩
  have hv9 : 1 ≤ heavy ∧ heavy ≤ 9 := by
    simp at mh
    omega
  replace o1 := (Off.of sa).trans o1
  clear mh sa nt1p nt1
  -- far
  refine ⟨_, rfl, Nat.le_of_ble_eq_true rfl, fun t2 nt2 => ?_⟩
  have sb := same_new (o := HO.lst [V.int 2, V.int 3, V.int 3, V.int 20]) nt2
  have nt2p : t2 ≠ p := fun e => by
    obtain ⟨_, hp⟩ := h1.lst
    rw [e, hp] at nt2
    cases nt2
  refine ⟨p, c, t2, [2, 3, 3, 20], rfl, h1.same sb, upd_same, nt2p, by decide, by decide, fun H2 far o2 h2 mf => ?_⟩
  have hf20 : 0 ≤ far ∧ far ≤ 20 := by
    simp at mf
    omega
  replace o2 := o1.trans ((Off.of sb).trans o2)
  clear mf sb nt2p nt2 o1 h1
  -- weights
  refine ⟨_, rfl, _, rfl, by omega, by omega, fun D nD => ?_⟩
  obtain ⟨nDp, nDc⟩ := h2.fresh nD
  have nDH : H D = none := o2.none nDp nD
  refine lc_range (lo := 0) (n := n) (fun i H3 => Off p H H3 ∧ HandOk H3 p c ∧ ∃ ws : List Int, H3 D = some (.lst (ws.map V.int)) ∧ ws.length = i ∧ Pos9 ws) ⟨o2.put nDH, h2.put nDp nDc, [], upd_same, rfl, fun w hw => by cases hw⟩ ?_ ?_
  · rintro i H3 hi ⟨o3, h3, ws, hD, hl, p9⟩
    refine ⟨rfl, _, rfl, _, rfl, p, c, _, rfl, by omega, by omega, h3, fun H4 r o4 h4 r0 r1 => ?_⟩
    have hD4 := o4 _ _ nDp hD
    refine ⟨_, _, rfl, rfl, _, hD4, ?_, (o3.trans o4).put nDH, h4.put nDp nDc, ws ++ [1 + r], by rw [upd_same, List.map_append]; rfl, by rw [List.length_append, hl]; rfl, p9.snoc (by omega)⟩
    rw [List.length_map]
    exact small1000 (by omega)
  rintro H3 ⟨o3, h3, ws, hD, hl, p9⟩
  clear o2 h2
  -- speeds
  refine ⟨_, rfl, _, rfl, by omega, by omega, fun L nL => ?_⟩
  obtain ⟨nLp, nLc⟩ := h3.fresh nL
  have nLH : H L = none := o3.none nLp nL
  have neDL : D ≠ L := ne_of_none hD nL
  refine lc_range (lo := 0) (n := n) (fun i H4 => Off p H H4 ∧ HandOk H4 p c ∧ H4 D = some (.lst (ws.map V.int)) ∧ ∃ (acc : List V) (qs : List Rat), H4 L = some (.lst acc) ∧ A2 (Rt H4) acc qs ∧ qs.length = i ∧ Fit 20 6 qs)
    ⟨o3.put nLH, h3.put nLp nLc, by rw [upd_ne neDL]; exact hD, [], [], upd_same, A2.nil, rfl, Fit.nil⟩ ?_ ?_
  · rintro i H4 hi ⟨o4, h4, hD4, acc, qs, hL4, hA, ql, fit⟩
    refine ⟨rfl, _, rfl, _, rfl, p, c, far, rfl, hf20.1, hf20.2, h4, fun H5 v q o5 h5 hv hq => ?_⟩
    have hL5 := o5 _ _ nLp hL4
    refine ⟨acc, hL5, ?_, (o4.trans o5).put nLH, h5.put nLp nLc, by rw [upd_ne neDL]; exact o5 _ _ nDp hD4, acc ++ [v], qs ++ [q], upd_same, ((hA.imp fun v q z => z.off o5 h4).snoc hv).imp fun v q z => z.keepL hL5, by rw [List.length_append, ql]; rfl, fit.snoc hq⟩
    rw [hA.1]
    exact small1000 (by omega)
  rintro H4 ⟨o4, h4, hD4, acc, qs, hL4, hA, ql, fit⟩
  clear o3 h3 hD
  have hl' : ws.length = n := hl
  have ql' : qs.length = n := ql
  -- the way
  refine ⟨_, rfl, p, c, _, rfl, by decide, by decide, h4, fun H5 way o5 h5 w0 w1 => ?_⟩
  have hD5 := o5 _ _ nDp hD4
  have hL5 := o5 _ _ nLp hL4
  have hA5 := hA.imp fun v q z => z.off o5 h4
  replace o5 := o4.trans o5
  have fin : ∀ (H6 : Hp) (M : Addr) (ws : List Int) (ys : List V) (rs : List Rat), Off p H H6 → HandOk H6 p c → M ≠ p → H6 D = some (.lst (ws.map V.int)) → H6 M = some (.lst ys) → A2 (Rt H6) ys rs → Fit 20 6 rs → rs.length = n → ws.length = n → Pos9 ws →
      ∀ t, H6 t = none → Q (.ref t) (upd H6 t (.tup [.ref D, .ref M])) := fun H6 M ws ys rs o6 h6 nM e1 e2 e3 f1 l1 l2 p9 t nt => by
    have st := same_new (o := HO.tup [V.ref D, V.ref M]) nt
    exact k _ t D M ws rs (o6.trans (.of st)) (h6.same st) upd_same ⟨st _ _ e1, ⟨ys, st _ _ e2, e3.imp fun v q z => z.same st⟩, f1, by omega, by omega, by omega, p9, nDp, nM⟩
  refine ⟨_, rfl, _, _, rfl, rfl, _, rfl, ?_⟩
  by_cases c1 : way < 2
  · rw [decide_eq_true c1]
    refine iteT ⟨_, rfl, L, acc, qs, rfl, hL5, hA5, fit, by rw [hA5.1]; omega, fun H6 M ys rs s6 nM hM hA6 fit6 rl => ?_⟩
    obtain ⟨nMp, nMc⟩ := h5.fresh nM
    refine ⟨_, rfl, rfl, _, rfl, ?_⟩
    rw [decide_eq_false (show ¬ V.int way = V.int 2 from fun e => by have := V.int.inj e; omega)]
    refine iteF ⟨_, rfl, _, rfl, by show 2 ≤ sizeLine; decide, fun t nt => ?_⟩
    exact fin H6 M ws ys rs (o5.trans (.of s6)) (h5.same s6) nMp (s6 _ _ hD5) hM hA6 fit6 (by omega) hl' p9 t nt
  rw [decide_eq_false c1]
  refine iteF ⟨_, rfl, rfl, _, rfl, ?_⟩
  by_cases c2 : way = 2
  · rw [decide_eq_true (show V.int way = V.int 2 by rw [c2])]
    refine iteT ⟨_, rfl, _, _, rfl, rfl, ⟨by decide, by decide⟩, _, rfl, by omega, by omega, ?_⟩
    refine for_range (lo := 0) (n := ((n : Int) / 2).toNat) (fun i σ H6 => ∃ (v7 : Option V) (ws : List Int) (acc : List V) (qs : List Rat), σ = [some (.ref p), some (.int (n : Int)), some (.int heavy), some (.int far), some (.ref D), some (.ref L), some (.int way), v7] ∧
      Off p H H6 ∧ HandOk H6 p c ∧ H6 D = some (.lst (ws.map V.int)) ∧ H6 L = some (.lst acc) ∧ A2 (Rt H6) acc qs ∧ Fit 20 6 qs ∧ qs.length = n ∧ ws.length = n ∧ Pos9 ws) ⟨none, ws, acc, qs, rfl, o5, h5, hD5, hL5, hA5, fit, ql', hl', p9⟩ ?_ ?_
    · rintro i σ H6 hi ⟨v7, ws, acc, qs, rfl, o6, h6, hD6, hL6, hA6, f6, ql6, wl6, p96⟩
      have hin : i < n := by omega
      have ew : ws[i]? = some (ws[i]'(by omega)) := List.getElem?_eq_getElem _
      have mw := p96 _ (List.getElem_mem (by omega : i < ws.length))
      generalize ws[i]'(by omega) = wi at ew mw
      have eq : qs[i]? = some (qs[i]'(by omega)) := List.getElem?_eq_getElem _
      have mq := f6 _ (List.getElem_mem (by omega : i < qs.length))
      generalize qs[i]'(by omega) = q at eq mq
      obtain ⟨xv, ex, hx⟩ := hA6.at eq
      have e0 : (0 : Int) + (i : Int) = (i : Int) := by omega
      refine ⟨_, rfl, _, rfl, D, _, _, _, rfl, rfl, .inl (.inl hD6), at1 ew e0, ?_⟩
      refine ⟨_, rfl, _, rfl, _, _, rfl, rfl, _, rfl, _, _, rfl, rfl, D, _, _, n - 1 - i, rfl, rfl, hD6, ixn (by omega) (by rw [List.length_map]; omega), ?_⟩
      rw [← List.map_set]
      have hD7 : upd H6 D (.lst ((ws.set (n - 1 - i) wi).map V.int)) D = some (.lst ((ws.set (n - 1 - i) wi).map V.int)) := upd_same
      have hL7 : upd H6 D (.lst ((ws.set (n - 1 - i) wi).map V.int)) L = some (.lst acc) := by rw [upd_ne neDL.symm]; exact hL6
      have o7 : Off p H (upd H6 D (.lst ((ws.set (n - 1 - i) wi).map V.int))) := o6.put nDH
      have h7 : HandOk (upd H6 D (.lst ((ws.set (n - 1 - i) wi).map V.int))) p c := h6.put nDp nDc
      have hA7 : A2 (Rt (upd H6 D (.lst ((ws.set (n - 1 - i) wi).map V.int)))) acc qs := hA6.imp fun v q z => z.keepL hD6
      have hx7 : Rt (upd H6 D (.lst ((ws.set (n - 1 - i) wi).map V.int))) xv q := hx.keepL hD6
      generalize upd H6 D (.lst ((ws.set (n - 1 - i) wi).map V.int)) = H7 at hD7 hL7 o7 h7 hA7 hx7
      refine ⟨by show 2 ≤ sizeLine; decide, fun t nt => ?_⟩
      have st := same_new (o := HO.tup [V.int 0, V.int 1]) nt
      refine ⟨_, rfl, _, rfl, L, _, _, _, rfl, rfl, .inl (.inl (st _ _ hL7)), atI_nat' ex e0, ?_⟩
      refine ⟨5, _, _, 0, q, rfl, rt0 upd_same, hx7.same st, sz0 (by decide), fit_sz f6 (List.mem_of_getElem? eq), by decide, by decide, fun H8 u s8 hu => ?_⟩
      have s78 := st.trans s8
      have hL8 := s78 _ _ hL7
      replace hu : Rt H8 u (-q) := by
        rw [← zsub q]
        exact hu
      refine ⟨_, rfl, _, rfl, _, _, rfl, rfl, _, rfl, _, _, rfl, rfl, L, _, _, n - 1 - i, rfl, rfl, hL8, ixn (by omega) (by rw [hA7.1]; omega), ?_⟩
      refine ⟨_, ws.set (n - 1 - i) wi, acc.set (n - 1 - i) u, qs.set (n - 1 - i) (-q), rfl, (o7.trans (.of s78)).put nLH, (h7.same s78).put nLp nLc, by rw [upd_ne neDL]; exact s78 _ _ hD7, upd_same,
        ((hA7.imp fun v q z => z.same s78).set _ hu).imp fun v q z => z.keepL hL8, f6.set _ ⟨by rw [Rat.neg_num, Int.natAbs_neg]; exact mq.1, mq.2⟩, by rw [List.length_set]; exact ql6, by rw [List.length_set]; exact wl6, p96.set _ mw⟩
    · rintro σ H6 ⟨v7, ws, acc, qs, rfl, o6, h6, hD6, hL6, hA6, f6, ql6, wl6, p96⟩
      refine ⟨_, rfl, _, rfl, by show 2 ≤ sizeLine; decide, fun t nt => ?_⟩
      exact fin H6 L ws acc qs o6 h6 nLp hD6 hL6 hA6 f6 ql6 wl6 p96 t nt
  · rw [decide_eq_false (show ¬ V.int way = V.int 2 from fun e => c2 (V.int.inj e))]
    refine iteF ⟨_, rfl, _, rfl, by show 2 ≤ sizeLine; decide, fun t nt => ?_⟩
    exact fin H5 L ws acc qs o5 h5 nLp hD5 hL5 hA5 fit ql' hl' p9 t nt
def spStick : Sp := fun vs H Q _ => ∃ (p c : Addr), vs = [.ref p] ∧ HandOk H p c ∧
  ∀ (H' : Hp) (t aw asp : Addr) (ws : List Int) (qs : List Rat), Off p H H' → HandOk H' p c → H' t = some (.tup [.ref aw, .ref asp]) → Balls H' p aw asp ws qs → Q (.ref t) H'
theorem sc__law_stick_balls : FnScope ["_law_hand_here"] ["_law_hand_here"] (defScope s__law_stick_balls) := ⟨rfl, rfl, rfl, by decide +kernel, rfl, by decide +kernel, by decide +kernel⟩
theorem ok_stick (T : Tx K mg) : Has P w K mg base 5 "_law_stick_balls" ["_law_hand_here"] spStick := by
  have h__law_many_balls : Has P w K mg base _ "_law_many_balls" _ _ := ok_many T
  have h__law_draw : Has P w K mg base _ "_law_draw" _ _ := ok_draw T
  have h__law_pick : Has P w K mg base _ "_law_pick" _ _ := ok_pick T
  refine has_of T.d__law_stick_balls T.g__law_stick_balls (fun _ _ _ _ _ _ us hl => match us, hl with | [_], _ => rfl) sc__law_stick_balls (fun vs H Q E h => ?_) (fun cdv A outer s H vs Q E hr h => ?_)
  · obtain ⟨p, c, rfl, _⟩ := h
    rfl
  obtain ⟨p, c, rfl, hO, k⟩ := h
  refine ⟨_, (pss_cons (ps_if (pt_cmpR op_eq (pe_f h__law_draw hr (by rfl) (pa_cons (pv 0) (pa_cons pe_int pa_nil))) pe_int (nomark _))
    (pss_one (ps_ret (pe_f h__law_many_balls hr (by rfl) (pa_cons (pv 0) (pa_cons (pe_f h__law_pick hr (by rfl) (pa_cons (pv 0) (pa_cons (pe_lst (pa_cons pe_int (pa_cons pe_int (pa_cons pe_int (pa_cons pe_int pa_nil))))) pa_nil))) pa_nil)))))
    pss_nil)
  (pss_one (ps_ret (pe_f h__law_many_balls hr (by rfl) (pa_cons (pv 0) (pa_cons (pe_op op_add pe_int (pe_f h__law_draw hr (by rfl) (pa_cons (pv 0) (pa_cons pe_int pa_nil)))) pa_nil)))))), ?_⟩
  refine ⟨_, rfl, p, c, _, rfl, by decide, by decide, hO, fun H1 r o1 h1 r0 r1 => ?_⟩
  refine ⟨rfl, _, rfl, ?_⟩
  by_cases c1 : r = 0
  · rw [decide_eq_true (show V.int r = V.int 0 by rw [c1])]
    refine iteT ⟨_, rfl, _, rfl, Nat.le_of_ble_eq_true rfl, fun t1 nt1 => ?_⟩
    have sa := same_new (o := HO.lst [V.int 12, V.int 12, V.int 12, V.int 40]) nt1
    refine ⟨p, c, t1, [12, 12, 12, 40], rfl, h1.same sa, upd_same, (h1.fresh nt1).1, by decide, by decide, fun H2 m o2 h2 mm => ?_⟩
    have hm : 2 ≤ m ∧ m ≤ 40 := by
      simp at mm
      omega
    obtain ⟨n, rfl⟩ : ∃ n : Nat, m = (n : Int) := ⟨m.toNat, by omega⟩
    refine ⟨p, c, n, rfl, h2, by omega, by omega, fun H3 t aw asp ws qs o3 h3 ht b => ?_⟩
    exact k H3 t aw asp ws qs (o1.trans ((Off.of sa).trans (o2.trans o3))) h3 ht b
  · rw [decide_eq_false (show ¬ V.int r = V.int 0 from fun e => c1 (V.int.inj e))]
    refine iteF ⟨_, rfl, _, rfl, p, c, _, rfl, by decide, by decide, h1, fun H2 m o2 h2 m0 m1 => ?_⟩
    obtain ⟨n, rfl⟩ : ∃ n : Nat, m = (n : Int) := ⟨m.toNat, by omega⟩
    refine ⟨_, _, rfl, rfl, p, c, n + 2, by rw [show ((n + 2 : Nat) : Int) = 2 + (n : Int) by omega]; rfl, h2, by omega, by omega, fun H3 t aw asp ws qs o3 h3 ht b => ?_⟩
    exact k H3 t aw asp ws qs (o1.trans (o2.trans o3)) h3 ht b
end
end G
end
section
set_option Elab.async false
set_option linter.all false
set_option maxRecDepth 100000
set_option maxHeartbeats 4000000
set_option exponentiation.threshold 100000
/-! The law's sums and lots. -/
namespace G
open PySem PySem.Spec PyProof.Rows L2
theorem low_lcm (s : Nat) {d : Nat} (h : 0 < d) : (s : Int) * ((Rat.divInt (s : Int) (d : Int)).den : Int) = ((Nat.lcm s d : Nat) : Int) := by
  rw [← lowp_den (show (0 : Int) < (d : Int) by omega), Int.natAbs_natCast, Int.natAbs_natCast, ← Int.natCast_ediv, ← Int.natCast_mul]
  unfold Nat.lcm
  rw [Nat.mul_div_assoc _ (Nat.gcd_dvd_right s d)]
/-- the law's sums stand at t -/
def SumT (H : Hp) (t : Addr) (ws : List Int) (qs : List Rat) (N : Nat) : Prop := ∃ (l1 l2 : Addr) (S : Int) (hs ps : List Int), H t = some (.tup [.ref l1, .ref l2, .int S]) ∧ H l1 = some (.lst (hs.map V.int)) ∧ H l2 = some (.lst (ps.map V.int)) ∧ SmN ws qs N S hs ps
theorem SumT.same {H H' : Hp} (s : Same H H') {t : Addr} {ws : List Int} {qs : List Rat} {N : Nat} (h : SumT H t ws qs N) : SumT H' t ws qs N := by
  obtain ⟨l1, l2, S, hs, ps, a, b, c, d⟩ := h
  exact ⟨l1, l2, S, hs, ps, s _ _ a, s _ _ b, s _ _ c, d⟩
structure LIn (H : Hp) (aw asp : Addr) (ws : List Int) (xs : List V) (qs : List Rat) (T D N : Nat) : Prop where
  w : H aw = some (.lst (ws.map V.int))
  x : H asp = some (.lst xs)
  a : A2 (Rt H) xs qs
  l : qs.length = ws.length
  l2 : 2 ≤ ws.length
  l40 : ws.length ≤ 40
  p9 : Pos9 ws
  f : Fits qs T D N
section
variable {P : Program} {w : World} {K : PySem.W.Frag} {mg : Str → Option Value} {base : Heap}
def spLSums : Sp := fun vs H Q _ => ∃ (aw asp : Addr) (ws : List Int) (xs : List V) (qs : List Rat) (T D N : Nat), vs = [.ref aw, .ref asp] ∧ LIn H aw asp ws xs qs T D N ∧
  ∀ (H' : Hp) (t : Addr), Same H H' → SumT H' t ws qs N → Q (.ref t) H'
theorem sc__law_sums : FnScope ["_law_weights", "_law_speeds", "_law_scale", "_law_speed_here", "_law_heavy", "_law_pushed", "_law_weight"] ["_law_weights", "_law_speeds"] (defScope s__law_sums) := ⟨rfl, rfl, rfl, by decide +kernel, rfl, by decide +kernel, by decide +kernel⟩
theorem ok_lsums (T : Tx K mg) : Has P w K mg base 2 "_law_sums" ["_law_weights", "_law_speeds"] spLSums := by
  have h__law_low : Has P w K mg base _ "_law_low" _ _ := ok_low T
  refine has_of T.d__law_sums T.g__law_sums (fun _ _ _ _ _ _ us hl => match us, hl with | [_, _], _ => rfl) sc__law_sums (fun vs H Q E h => ?_) (fun cdv A outer s H vs Q E hr h => ?_)
  · obtain ⟨aw, asp, ws, xs, qs, T, D, N, rfl, _⟩ := h
    rfl
  obtain ⟨aw, asp, ws, us, qs, Tn, D, N, rfl, ⟨ha, hb, hA, e1, l2, l40, p9, ⟨fit, d0, hN, tN, dN, n0, n2⟩⟩, k⟩ := h
  refine ⟨_, (pss_cons (ps_set (i := 2) sc__law_sums.nd rfl (Or.inl rfl) pe_int)
  (pss_cons (ps_for PassesOwn.never rfl (pi_list (pv 1)) (pg_name (i := 3) sc__law_sums.nd rfl (Or.inl rfl))
    (pss_one (ps_set (i := 2) sc__law_sums.nd rfl (Or.inl rfl) (pe_op op_mulW (pv 2) (pe_ix ix_tup (pe_f h__law_low hr (by rfl) (pa_cons (pv 2) (pa_cons (pe_ix ix_tup (pv 3) pe_int (fun _ _ => rfl)) pa_nil))) pe_int (fun _ _ => rfl))))))
  (pss_cons (ps_set (i := 4) sc__law_sums.nd rfl (Or.inl rfl) (pe_lst (pa_cons pe_int pa_nil)))
  (pss_cons (ps_set (i := 5) sc__law_sums.nd rfl (Or.inl rfl) (pe_lst (pa_cons pe_int pa_nil)))
  (pss_cons (ps_for PassesOwn.never rfl (RZ.pi_zipA (by rfl) T.n_zip (pa_cons (pv 0) (pa_cons (pv 1) pa_nil))) (pg_tup (by rfl) (pgs_cons (pg_name (i := 6) sc__law_sums.nd rfl (Or.inl rfl)) (pgs_cons (pg_name (i := 3) sc__law_sums.nd rfl (Or.inl rfl)) pgs_nil)))
    (pss_cons (ps_expr (pe_bm PySem.F.plainAttrs_list PySem.F.slot_list_append PySem.F.type_list_append mt_append (pv 4) (pa_cons (pe_op op_add (pe_ix ix_list (pv 4) (pe_un un_neg pe_int) (fun _ _ => rfl)) (pv 6)) pa_nil)))
  (pss_one (ps_expr (pe_bm PySem.F.plainAttrs_list PySem.F.slot_list_append PySem.F.type_list_append mt_append (pv 5) (pa_cons (pe_op op_add (pe_ix ix_list (pv 5) (pe_un un_neg pe_int) (fun _ _ => rfl)) (pe_op op_mulW (pe_op op_mulW (pv 6) (pe_ix ix_tup (pv 3) pe_int (fun _ _ => rfl))) (pe_op op_fdivW (pv 2) (pe_ix ix_tup (pv 3) pe_int (fun _ _ => rfl))))) pa_nil))))))
  (pss_one (ps_ret (pe_tup (pa_cons (pv 4) (pa_cons (pv 5) (pa_cons (pv 2) pa_nil))))))))))), ?_⟩
  -- scale
  refine ⟨_, rfl, asp, rfl, ⟨us, .inl (.inl hb)⟩, ?_⟩
  have n4 : (2 : Nat) ^ N ≤ 2 ^ 4000 := Nat.pow_le_pow_right (by decide) (by omega)
  refine for_list (K := K) (a := asp) (xs := us) (fun i σ H1 => ∃ (sc : Nat) (v : Option V), σ = [some (.ref aw), some (.ref asp), some (.int (sc : Int)), v, none, none, none] ∧ Same H H1 ∧ 0 < sc ∧ sc ∣ D ∧ ∀ (j : Nat) (q : Rat), j < i → qs[j]? = some q → q.den ∣ sc)
    ⟨1, none, rfl, Same.refl H, by decide, Nat.one_dvd _, fun j q z => by omega⟩ (fun i σ H1 _ ⟨_, _, _, e, _⟩ => .inl (.inl (e _ _ hb))) ?_ ?_
  · rintro i v σ H1 hv ⟨sc, v3, rfl, s1, sc0, scd, hdv⟩
    obtain ⟨q, eq, hpq0⟩ := hA.get hv
    obtain ⟨pq, rfl, hpq⟩ := hpq0.same s1
    obtain ⟨fT, fD⟩ := fit q (List.mem_of_getElem? eq)
    have scD := Nat.le_of_dvd d0 scd
    have qD := Nat.le_of_dvd d0 fD
    have qp := q.den_pos
    have dq : ((q.den : Nat) : Int).natAbs < 2 ^ N := by rw [den_nat]; exact Nat.lt_of_le_of_lt qD dN
    have dsc : ((sc : Nat) : Int).natAbs < 2 ^ N := by rw [Int.natAbs_natCast]; exact Nat.lt_of_le_of_lt scD dN
    refine ⟨_, rfl, _, rfl, _, rfl, pq, _, _, _, rfl, rfl, .inl (.inl hpq), atI_nat (j := 1) rfl, _, _, rfl, by omega, lt_mono dq (by omega), fun H2 u s2 hu => ?_⟩
    obtain ⟨pu, rfl, eu⟩ := hu
    have ld := low_den_le (a := (sc : Int)) (b := (q.den : Int)) (by omega)
    have dd : (((Rat.divInt (sc : Int) (q.den : Int)).den : Nat) : Int).natAbs < 2 ^ N := by
      rw [den_nat]
      omega
    refine ⟨pu, _, _, _, rfl, rfl, .inl (.inl eu), atI_nat (j := 1) rfl, _, _, rfl, rfl, wide_mul dsc dd n0 n0 (by omega), ?_⟩
    refine ⟨Nat.lcm sc q.den, some (.ref pq), ?_, s1.trans s2, Nat.lcm_pos sc0 q.den_pos, Nat.lcm_dvd scd fD, fun j q' hj e => ?_⟩
    · show [some (V.ref aw), some (.ref asp), some (.int ((sc : Int) * ((Rat.divInt (sc : Int) (q.den : Int)).den : Int))), _, _, _, _] = _
      rw [low_lcm _ qp]
    by_cases z : j = i
    · subst z
      rw [eq] at e
      cases e
      exact Nat.dvd_lcm_right _ _
    · exact Nat.dvd_trans (hdv j q' (by omega) e) (Nat.dvd_lcm_left _ _)
  rintro σ H0 ⟨sc, v3, rfl, s0, sc0, scd, hdv⟩
  have hdq : ∀ (j : Nat) (q : Rat), qs[j]? = some q → q.den ∣ sc := fun j q e => hdv j q (by rw [hA.1]; exact (List.getElem?_eq_some_iff.mp e).1) e
  -- heavy, pushed
  refine ⟨by show 1 ≤ sizeLine; decide, fun q1 nq1 => ⟨by show 1 ≤ sizeLine; decide, fun q2 nq2 => ?_⟩⟩
  have sq1 := same_new (o := HO.lst [V.int 0]) nq1
  have sq2 := same_new (o := HO.lst [V.int 0]) nq2
  have ne12 : q1 ≠ q2 := ne_of_none upd_same nq2
  have nHq2 : H q2 = none := s0.free (sq1.free nq2)
  have nHq1 : H q1 = none := s0.free nq1
  have sq := s0.trans (sq1.trans sq2)
  have hq1 : (upd (upd H0 q1 (.lst [V.int 0])) q2 (.lst [V.int 0])) q1 = some (.lst [V.int 0]) := sq2 _ _ upd_same
  have hq2 : (upd (upd H0 q1 (.lst [V.int 0])) q2 (.lst [V.int 0])) q2 = some (.lst [V.int 0]) := upd_same
  generalize upd (upd H0 q1 (.lst [V.int 0])) q2 (.lst [V.int 0]) = H2 at sq hq1 hq2
  have hlen : (ws.map V.int).length = us.length := by rw [List.length_map, hA.1, e1]
  have S0 : (0 : Int) < (sc : Int) := by omega
  have Sd : ((sc : Int)).natAbs ∣ D := by rw [Int.natAbs_natCast]; exact scd
  refine ⟨_, rfl, _, rfl, aw, asp, _, _, rfl, .inl ⟨.inl (.inl (sq _ _ ha)), .inl (.inl (sq _ _ hb)), RZ.for_zipL hlen (fun i σ H' => ∃ (v3 v6 : Option V) (hs ps : List Int), σ = [some (.ref aw), some (.ref asp), some (.int (sc : Int)), v3, some (.ref q1), some (.ref q2), v6] ∧ Same H H' ∧ H' q1 = some (.lst (hs.map V.int)) ∧ H' q2 = some (.lst (ps.map V.int)) ∧ SmI ws qs (sc : Int) Tn D i hs ps)
    ⟨v3, none, [0], [0], rfl, sq, hq1, hq2, SmI.start ws qs _ Tn D⟩ (fun i σ H' z => ?kp) ?st ?fi⟩⟩
  case kp =>
    obtain ⟨_, _, _, _, _, sH, _⟩ := z
    exact ⟨.inl (.inl (sH _ _ ha)), .inl (.inl (sH _ _ hb))⟩
  case st =>
    rintro i xw xq Tp σ H' hw hq ⟨v3, v6, hs, ps, rfl, sH, g1, g2, I⟩ nT
    obtain ⟨wi, ew, rfl⟩ := ints_at hw
    obtain ⟨q, eq, hrq⟩ := hA.get hq
    obtain ⟨w1, w9⟩ := p9 wi (List.mem_of_getElem? ew)
    obtain ⟨fT, fD⟩ := fit q (List.mem_of_getElem? eq)
    have hi : i < 40 := by
      have := (List.getElem?_eq_some_iff.mp ew).1
      omega
    obtain ⟨hs0, zh, ps0, zp, eh, ep, a1, a2, a3, a4, a5⟩ := I.last
    have sT := same_new (o := HO.tup [V.int wi, xq]) nT
    refine ⟨Tp, [.int wi, xq], rfl, .inl (.inl upd_same), rfl, .int wi, [xq], rfl, xq, [], rfl, rfl, ?_⟩
    have sA := sH.trans sT
    have k1 := sT _ _ g1
    have k2 := sT _ _ g2
    generalize upd H' Tp (.tup [V.int wi, xq]) = H3 at sT sA k1 k2
    have k1' : SqL K H3 q1 ((hs0 ++ [zh]).map V.int) := by rw [← eh]; exact .inl (.inl k1)
    refine ⟨_, rfl, .inl ⟨rfl, _, .inl (.inl k1)⟩, _, rfl, 1, rfl, q1, _, -1, _, rfl, rfl, k1', lastI, _, rfl, _, _, rfl, rfl, q1, _, _, rfl, rfl, k1, ?_, ?_⟩
    · rw [List.length_map, I.hl]
      exact small1000 (by omega)
    have k2b : upd H3 q1 (.lst (hs.map V.int ++ [V.int (zh + wi)])) q2 = some (.lst (ps.map V.int)) := by rw [upd_ne ne12.symm]; exact k2
    have sB : Same H (upd H3 q1 (.lst (hs.map V.int ++ [V.int (zh + wi)]))) := same_upd sA nHq1
    have k1b : upd H3 q1 (.lst (hs.map V.int ++ [V.int (zh + wi)])) q1 = some (.lst (hs.map V.int ++ [V.int (zh + wi)])) := upd_same
    generalize upd H3 q1 (.lst (hs.map V.int ++ [V.int (zh + wi)])) = H4 at k2b sB k1b
    obtain ⟨pq, rfl, hpq⟩ := hrq.same sB
    have k2' : SqL K H4 q2 ((ps0 ++ [zp]).map V.int) := by rw [← ep]; exact .inl (.inl k2b)
    have qD := Nat.le_of_dvd d0 fD
    have den0 := q.den_pos
    have dlt : ((q.den : Nat) : Int).natAbs < 2 ^ N := by rw [den_nat]; exact Nat.lt_of_le_of_lt qD dN
    refine ⟨_, rfl, .inl ⟨rfl, _, .inl (.inl k2b)⟩, _, rfl, 1, rfl, q2, _, -1, _, rfl, rfl, k2', lastI, ?_⟩
    refine ⟨_, rfl, _, rfl, pq, _, _, _, rfl, rfl, .inl (.inl hpq), atI_nat (j := 0) rfl, _, _, rfl, rfl, wide_mul (a := 4) (b := N) (by omega) (Nat.lt_of_le_of_lt fT tN) (by decide) n0 (by omega), ?_⟩
    refine ⟨_, rfl, _, rfl, pq, _, _, _, rfl, rfl, .inl (.inl hpq), atI_nat (j := 1) rfl, _, _, rfl, rfl, wide_div (b := N) (by omega) dlt n0 (by omega), ?_⟩
    refine ⟨_, _, rfl, rfl, wide_mul (a := 4 + N) (b := N) (imul_lt (by omega) (Nat.lt_of_le_of_lt fT tN)) (Nat.lt_of_le_of_lt (fd_le S0 Sd d0) dN) (by omega) n0 (by omega), _, _, rfl, rfl, q2, _, _, rfl, rfl, k2b, ?_, ?_⟩
    · rw [List.length_map, I.pl]
      exact small1000 (by omega)
    have I' := I.step eh ep a1 a2 a3 a4 a5 ew eq w1 w9 fT (by rw [Int.natAbs_natCast]; exact hdq i q eq) S0 Sd d0
    refine ⟨_, _, hs ++ [zh + wi], ps ++ [zp + wi * q.num * ((sc : Int) / (q.den : Int))], rfl, same_upd sB nHq2, ?_, ?_, I'⟩
    · rw [upd_ne ne12, List.map_append]
      exact k1b
    · rw [upd_same, List.map_append]
      rfl
  case fi =>
    rintro σ H' ⟨v3, v6, hs, ps, rfl, sH, g1, g2, I⟩
    rw [List.length_map] at I
    have M := I.fin S0 Sd d0 l40 hN dN
    refine ⟨_, rfl, _, rfl, _, rfl, by show 3 ≤ sizeLine; decide, fun t nt => ?_⟩
    have st := same_new (o := HO.tup [V.ref q1, V.ref q2, V.int (sc : Int)]) nt
    exact k _ t (sH.trans st) ⟨q1, q2, (sc : Int), hs, ps, upd_same, st _ _ g1, st _ _ g2, M⟩
def spLFaster : Sp := fun vs H Q _ => ∃ (t : Addr) (ws : List Int) (qs : List Rat) (N : Nat) (fi mi li : Int) (f m l : Nat), vs = [.ref t, .int fi, .int mi, .int li] ∧ SumT H t ws qs N ∧ N ≤ 2000 ∧ fi = (f : Int) ∧ mi = (m : Int) ∧ li = (l : Int) ∧ f ≤ m ∧ m < l ∧ l < ws.length ∧
  ∀ b : Bool, (b = true ↔ F (Wf ws) (Mf ws qs) f (m + 1) (l + 1)) → Q (.bl b) H
theorem sc__law_is_faster : FnScope ["_law_sums_here", "_law_first", "_law_pair", "_law_last", "_law_heavy", "_law_pushed", "_law_left", "_law_right"] ["_law_sums_here", "_law_first", "_law_pair", "_law_last"] (defScope s__law_is_faster) := ⟨rfl, rfl, rfl, by decide +kernel, rfl, by decide +kernel, by decide +kernel⟩
theorem ok_lfaster (T : Tx K mg) : Has P w K mg base 1 "_law_is_faster" ["_law_sums_here", "_law_first", "_law_pair", "_law_last"] spLFaster := by
  refine has_of T.d__law_is_faster T.g__law_is_faster (fun _ _ _ _ _ _ us hl => match us, hl with | [_, _, _, _], _ => rfl) sc__law_is_faster (fun vs H Q E h => ?_) (fun cdv A outer s H vs Q E hr h => ?_)
  · obtain ⟨t, ws, qs, N, fi, mi, li, f, m, l, rfl, _⟩ := h
    rfl
  obtain ⟨t, ws, qs, N, fi, mi, li, f, m, l, rfl, ⟨l1, l2, S, hs, ps, ht, h1, h2, M⟩, n2, ef, em, el, fm, ml, ln, k⟩ := h
  obtain ⟨zl, a1, a2, a3⟩ := M.pp (l + 1) (by omega)
  obtain ⟨zm, b1, b2, b3⟩ := M.pp (m + 1) (by omega)
  obtain ⟨zf, c1, c2, c3⟩ := M.pp f (by omega)
  obtain ⟨ul, d1, d2, d3, d4⟩ := M.hh (l + 1) (by omega)
  obtain ⟨um, e1, e2, e3, e4⟩ := M.hh (m + 1) (by omega)
  obtain ⟨uf, f1, f2, f3, f4⟩ := M.hh f (by omega)
  refine ⟨_, (pss_cons (ps_par (i := 4) (j := 5) (by rfl) sc__law_is_faster.nd rfl rfl (by decide) rfl rfl (pa_cons (pe_ix ix_tup (pv 0) pe_int (fun _ _ => rfl)) (pa_cons (pe_ix ix_tup (pv 0) pe_int (fun _ _ => rfl)) pa_nil)) (by rfl))
  (pss_cons (ps_set (i := 6) sc__law_is_faster.nd rfl (Or.inl rfl) (pe_op op_mulW (pe_op op_sub (pe_ix ix_list (pv 5) (pe_op op_add (pv 2) pe_int) (fun _ _ => rfl)) (pe_ix ix_list (pv 5) (pv 1) (fun _ _ => rfl))) (pe_op op_sub (pe_ix ix_list (pv 4) (pe_op op_add (pv 3) pe_int) (fun _ _ => rfl)) (pe_ix ix_list (pv 4) (pe_op op_add (pv 2) pe_int) (fun _ _ => rfl)))))
  (pss_cons (ps_set (i := 7) sc__law_is_faster.nd rfl (Or.inl rfl) (pe_op op_mulW (pe_op op_sub (pe_ix ix_list (pv 5) (pe_op op_add (pv 3) pe_int) (fun _ _ => rfl)) (pe_ix ix_list (pv 5) (pe_op op_add (pv 2) pe_int) (fun _ _ => rfl))) (pe_op op_sub (pe_ix ix_list (pv 4) (pe_op op_add (pv 2) pe_int) (fun _ _ => rfl)) (pe_ix ix_list (pv 4) (pv 1) (fun _ _ => rfl)))))
  (pss_one (ps_ret (pe_cmpR op_gt (pv 6) (pv 7) (nomark _))))))), ?_⟩
  refine ⟨_, rfl, t, _, _, _, rfl, rfl, .inl (.inl ht), atI_nat (j := 0) rfl, _, rfl, t, _, _, _, rfl, rfl, .inl (.inl ht), atI_nat (j := 1) rfl, _, _, rfl, ?_⟩
  refine ⟨_, rfl, _, rfl, _, _, rfl, rfl, l2, _, _, _, rfl, rfl, .inl (.inl h2), at1 b1 (by omega), _, rfl, _, rfl, l2, _, _, _, rfl, rfl, .inl (.inl h2), at1 c1 ef, _, _, rfl, rfl, ?_⟩
  refine ⟨_, rfl, _, rfl, _, _, rfl, rfl, l1, _, _, _, rfl, rfl, .inl (.inl h1), at1 d1 (by omega), _, rfl, _, rfl, _, _, rfl, rfl, l1, _, _, _, rfl, rfl, .inl (.inl h1), at1 e1 (by omega), _, _, rfl, rfl, ?_⟩
  refine ⟨_, _, rfl, rfl, wide_mul (a := N + 1) (b := 10) (isub_lt b3 c3) (by omega) (by omega) (by decide) (by omega), ?_⟩
  refine ⟨_, rfl, _, rfl, _, _, rfl, rfl, l2, _, _, _, rfl, rfl, .inl (.inl h2), at1 a1 (by omega), _, rfl, _, rfl, _, _, rfl, rfl, l2, _, _, _, rfl, rfl, .inl (.inl h2), at1 b1 (by omega), _, _, rfl, rfl, ?_⟩
  refine ⟨_, rfl, _, rfl, _, _, rfl, rfl, l1, _, _, _, rfl, rfl, .inl (.inl h1), at1 e1 (by omega), _, rfl, _, rfl, l1, _, _, _, rfl, rfl, .inl (.inl h1), at1 f1 ef, _, _, rfl, rfl, ?_⟩
  refine ⟨_, _, rfl, rfl, wide_mul (a := N + 1) (b := 10) (isub_lt a3 b3) (by omega) (by omega) (by decide) (by omega), ?_⟩
  refine ⟨_, rfl, _, rfl, _, _, rfl, rfl, k _ ?_⟩
  rw [decide_eq_true_iff]
  exact sm_faster M.s0 f2 e2 d2 c2 b2 a2
def spLParted : Sp := fun vs H Q _ => ∃ (t : Addr) (ws : List Int) (qs : List Rat) (N k : Nat), vs = [.ref t, .int (k : Int)] ∧ SumT H t ws qs N ∧ N ≤ 2000 ∧ k + 1 < ws.length ∧ ws.length ≤ 40 ∧
  ∀ b : Bool, (b = true ↔ Parted (Wf ws) (Mf ws qs) ws.length k) → Q (.bl b) H
theorem sc__law_is_parted : FnScope ["_law_sums_here", "_law_pair", "_law_many", "_law_first", "_law_last"] ["_law_sums_here", "_law_pair"] (defScope s__law_is_parted) := ⟨rfl, rfl, rfl, by decide +kernel, rfl, by decide +kernel, by decide +kernel⟩
theorem ok_lparted (T : Tx K mg) : Has P w K mg base 2 "_law_is_parted" ["_law_sums_here", "_law_pair"] spLParted := by
  have h__law_is_faster : Has P w K mg base _ "_law_is_faster" _ _ := ok_lfaster T
  refine has_of T.d__law_is_parted T.g__law_is_parted (fun _ _ _ _ _ _ us hl => match us, hl with | [_, _], _ => rfl) sc__law_is_parted (fun vs H Q E h => ?_) (fun cdv A outer s H vs Q E hr h => ?_)
  · obtain ⟨t, ws, qs, N, k, rfl, _⟩ := h
    rfl
  obtain ⟨t, ws, qs, N, k, rfl, S0, n2, kn, l40, q⟩ := h
  obtain ⟨l1, l2, S, hs, ps, ht, h1, h2, M⟩ := id S0
  have hl := M.hl
  refine ⟨_, (pss_cons (ps_set (i := 2) sc__law_is_parted.nd rfl (Or.inl rfl) (pe_op op_sub (pe_callB call_len_seq (by rfl) T.n_len (by decide +kernel) (pa_cons (pe_ix ix_tup (pv 0) pe_int (fun _ _ => rfl)) pa_nil)) pe_int))
  (pss_cons (ps_for PassesOwn.never rfl (pi_range1 (by rfl) T.n_range (pa_cons (pe_op op_add (pv 1) pe_int) pa_nil)) (pg_name (i := 3) sc__law_is_parted.nd rfl (Or.inl rfl))
    (pss_one (ps_for PassesOwn.never rfl (pi_range2 (by rfl) T.n_range (pa_cons (pe_op op_add (pv 1) pe_int) (pa_cons (pv 2) pa_nil))) (pg_name (i := 4) sc__law_is_parted.nd rfl (Or.inl rfl))
    (pss_one (ps_if (pt_val (pe_f h__law_is_faster hr (by rfl) (pa_cons (pv 0) (pa_cons (pv 3) (pa_cons (pv 1) (pa_cons (pv 4) pa_nil))))))
    (pss_one (ps_ret pe_bl))
    pss_nil)))))
  (pss_one (ps_ret pe_bl)))), ?_⟩
  refine ⟨_, rfl, t, _, _, _, rfl, rfl, .inl (.inl ht), atI_nat (j := 0) rfl, l1, _, rfl, .inl (.inl (.inl h1)), _, _, rfl, rfl, ?_⟩
  refine ⟨_, rfl, _, _, rfl, rfl, _, rfl, by omega, by omega, ?_⟩
  refine for_range (lo := 0) (n := ((k : Int) + 1).toNat) (fun i σ H1 => ∃ (v3 v4 : Option V), σ = [some (.ref t), some (.int (k : Int)), some (.int (((hs.map V.int).length : Int) - 1)), v3, v4] ∧ H1 = H ∧ ∀ f l, f < i → f ≤ k → k < l → l < ws.length → ¬ F (Wf ws) (Mf ws qs) f (k + 1) (l + 1))
    ⟨none, none, rfl, rfl, fun f l hf => by omega⟩ ?_ ?_
  · rintro i σ H1 hi ⟨v3, v4, rfl, rfl, no⟩
    refine ⟨_, rfl, _, _, rfl, rfl, _, rfl, _, _, rfl, by rw [List.length_map, hl]; omega, ?_⟩
    have en : (((hs.map V.int).length : Int) - 1 - ((k : Int) + 1)).toNat = ws.length - 1 - k := by rw [List.length_map, hl]; omega
    rw [en]
    refine for_range (lo := (k : Int) + 1) (n := ws.length - 1 - k) (fun j σ H2 => ∃ (v4 : Option V), σ = [some (.ref t), some (.int (k : Int)), some (.int (((hs.map V.int).length : Int) - 1)), some (.int (0 + (i : Int))), v4] ∧ H2 = H1 ∧ ∀ l, k < l → l < k + 1 + j → ¬ F (Wf ws) (Mf ws qs) i (k + 1) (l + 1))
      ⟨v4, rfl, rfl, fun l a b => by omega⟩ ?_ ?_
    · rintro j σ H2 hj ⟨v4, rfl, rfl, no2⟩
      refine ⟨_, rfl, _, rfl, _, rfl, _, rfl, t, ws, qs, N, _, _, _, i, k, k + 1 + j, rfl, S0, n2, by omega, rfl, by omega, by omega, by omega, by omega, fun b hb => ?_⟩
      refine ⟨_, rfl, ?_⟩
      cases b with
      | true => exact iteT (q false ⟨fun z => Bool.noConfusion z, fun z => absurd (hb.mp rfl) (z i (k + 1 + j) (by omega) (by omega) (by omega))⟩)
      | false =>
        refine iteF ⟨_, rfl, rfl, fun l a c => ?_⟩
        by_cases e : l = k + 1 + j
        · rw [e]
          exact fun z => by have := hb.mpr z; cases this
        · exact no2 l a (by omega)
    · rintro σ H2 ⟨v4, rfl, rfl, no2⟩
      refine ⟨_, _, rfl, rfl, fun f l a b c d => ?_⟩
      by_cases e : f = i
      · rw [e]
        exact no2 l c (by omega)
      · exact no f l (by omega) b c d
  · rintro σ H1 ⟨v3, v4, rfl, rfl, no⟩
    exact q true ⟨fun _ f l a b c => no f l (by omega) a b c, fun _ => rfl⟩
end
end G
end
section
set_option Elab.async false
set_option linter.all false
set_option maxRecDepth 100000
set_option maxHeartbeats 4000000
set_option exponentiation.threshold 100000
/-! The law's lots. -/
namespace G
open PySem PySem.Spec PyProof.Rows L2
section
variable {P : Program} {w : World} {K : PySem.W.Frag} {mg : Str → Option Value} {base : Heap}
def spLLots : Sp := fun vs H Q _ => ∃ (aw asp : Addr) (ws : List Int) (xs : List V) (qs : List Rat) (T D N : Nat), vs = [.ref aw, .ref asp] ∧ LIn H aw asp ws xs qs T D N ∧
  ∀ (H' : Hp) (t : Addr) (us : List V), Same H H' → H' t = some (.tup us) → A2 (LotAt H') us (lotsR (bnds (Wf ws) (Mf ws qs) ws.length ws.length) ws.length) → Q (.ref t) H'
theorem sc__law_lots : FnScope ["_law_weights", "_law_speeds", "_law_sums_here", "_law_lots_here", "_law_begin", "_law_pair"] ["_law_weights", "_law_speeds"] (defScope s__law_lots) := ⟨rfl, rfl, rfl, by decide +kernel, rfl, by decide +kernel, by decide +kernel⟩
theorem ok_llots (T : Tx K mg) : Has P w K mg base 3 "_law_lots" ["_law_weights", "_law_speeds"] spLLots := by
  have h__law_sums : Has P w K mg base _ "_law_sums" _ _ := ok_lsums T
  have h__law_is_parted : Has P w K mg base _ "_law_is_parted" _ _ := ok_lparted T
  refine has_of T.d__law_lots T.g__law_lots (fun _ _ _ _ _ _ us hl => match us, hl with | [_, _], _ => rfl) sc__law_lots (fun vs H Q E h => ?_) (fun cdv A outer s H vs Q E hr h => ?_)
  · obtain ⟨aw, asp, ws, xs, qs, T, D, N, rfl, _⟩ := h
    rfl
  obtain ⟨aw, asp, ws, us, qs, Tn, D, N, rfl, I, k⟩ := h
  have l2 := I.l2
  have l40 := I.l40
  have N2 := I.f.n2
  refine ⟨_, (pss_cons (ps_set (i := 2) sc__law_lots.nd rfl (Or.inl rfl) (pe_f h__law_sums hr (by rfl) (pa_cons (pv 0) (pa_cons (pv 1) pa_nil))))
  (pss_cons (ps_set (i := 3) sc__law_lots.nd rfl (Or.inl rfl) (pe_lst pa_nil))
  (pss_cons (ps_set (i := 4) sc__law_lots.nd rfl (Or.inl rfl) pe_int)
  (pss_cons (ps_for PassesOwn.never rfl (pi_range1 (by rfl) T.n_range (pa_cons (pe_callB call_len_seq (by rfl) T.n_len (by decide +kernel) (pa_cons (pv 0) pa_nil)) pa_nil)) (pg_name (i := 5) sc__law_lots.nd rfl (Or.inl rfl))
    (pss_one (ps_if (PW.pt (pw_or (pt_cmpR op_eq (pv 5) (pe_op op_sub (pe_callB call_len_seq (by rfl) T.n_len (by decide +kernel) (pa_cons (pv 0) pa_nil)) pe_int) (nomark _)) (pw_or1 (pt_val (pe_f h__law_is_parted hr (by rfl) (pa_cons (pv 2) (pa_cons (pv 5) pa_nil)))))))
    (pss_cons (ps_expr (pe_bm PySem.F.plainAttrs_list PySem.F.slot_list_append PySem.F.type_list_append mt_append (pv 3) (pa_cons (pe_tup (pa_cons (pv 4) (pa_cons (pv 5) pa_nil))) pa_nil)))
  (pss_one (ps_set (i := 4) sc__law_lots.nd rfl (Or.inl rfl) (pe_op op_add (pv 5) pe_int))))
    pss_nil)))
  (pss_one (ps_ret (pe_callTy call_tup_any (by rfl) T.n_tuple (by decide +kernel) (pa_cons (pv 3) pa_nil)))))))), ?_⟩
  refine ⟨_, rfl, _, rfl, aw, asp, ws, us, qs, Tn, D, N, rfl, I, fun H1 t s1 ht => ?_⟩
  refine ⟨Nat.zero_le _, fun L nL => ?_⟩
  have sL := same_new (o := HO.lst []) nL
  have hL : upd H1 L (.lst []) L = some (.lst []) := upd_same
  have nHL : H L = none := s1.free nL
  have s2 := s1.trans sL
  have ht2 := ht.same sL
  have nT1 : H1 L = none := nL
  generalize upd H1 L (.lst []) = H2 at sL hL s2 ht2
  refine ⟨_, rfl, aw, _, rfl, .inl (.inl (.inl (s2 _ _ I.w))), _, rfl, by rw [List.length_map]; omega, by rw [List.length_map]; omega, ?_⟩
  have en : ((ws.map V.int).length : Int) = (ws.length : Int) := by rw [List.length_map]
  refine for_range (lo := 0) (n := (ws.map V.int).length) (fun i σ H3 => ∃ (v5 : Option V) (b : Nat) (acc : List V) (lots : List (Nat × Nat)), σ = [some (.ref aw), some (.ref asp), some (.ref t), some (.ref L), some (.int (b : Int)), v5] ∧ Same H1 H3 ∧ H3 L = some (.lst acc) ∧ A2 (LotAt H3) acc lots ∧ lots.length ≤ i ∧
    ((i < ws.length ∧ ∃ r, bnds (Wf ws) (Mf ws qs) ws.length (i + 1) = b :: r ∧ lots = lotsR r b) ∨ (i = ws.length ∧ lots = lotsR (bnds (Wf ws) (Mf ws qs) ws.length ws.length) ws.length)))
    ⟨none, 0, [], [], rfl, sL, hL, A2.nil, Nat.le_refl _, .inl ⟨by omega, [], bnds_one, rfl⟩⟩ ?_ ?_
  · rintro i σ H3 hi ⟨v5, b, acc, lots, rfl, s3, h3, hA, hll, inv⟩
    have hi2 : i < ws.length := by rw [List.length_map] at hi; exact hi
    rcases inv with ⟨_, r, eb, el⟩ | ⟨e, _⟩
    case inr => omega
    have e0 : (0 : Int) + (i : Int) = (i : Int) := by omega
    have al : acc.length ≤ 40 := by rw [hA.1]; omega
    -- the pair is the end of a lot
    have app : ((i + 1 < ws.length ∧ ∃ r, bnds (Wf ws) (Mf ws qs) ws.length (i + 1 + 1) = (i + 1) :: r ∧ lots ++ [(b, i)] = lotsR r (i + 1)) ∨ (i + 1 = ws.length ∧ lots ++ [(b, i)] = lotsR (bnds (Wf ws) (Mf ws qs) ws.length ws.length) ws.length)) →
        ∀ tp, H3 tp = none → ∃ (v5 : Option V) (b' : Nat) (acc' : List V) (lots' : List (Nat × Nat)), [some (V.ref aw), some (.ref asp), some (.ref t), some (.ref L), some (.int (0 + (i : Int) + 1)), some (.int (0 + (i : Int)))] = [some (.ref aw), some (.ref asp), some (.ref t), some (.ref L), some (.int (b' : Int)), v5] ∧
          Same H1 (upd (upd H3 tp (.tup [.int (b : Int), .int (0 + (i : Int))])) L (.lst (acc ++ [.ref tp]))) ∧ (upd (upd H3 tp (.tup [.int (b : Int), .int (0 + (i : Int))])) L (.lst (acc ++ [.ref tp]))) L = some (.lst acc') ∧
          A2 (LotAt (upd (upd H3 tp (.tup [.int (b : Int), .int (0 + (i : Int))])) L (.lst (acc ++ [.ref tp])))) acc' lots' ∧ lots'.length ≤ i + 1 ∧
          ((i + 1 < ws.length ∧ ∃ r, bnds (Wf ws) (Mf ws qs) ws.length (i + 1 + 1) = b' :: r ∧ lots' = lotsR r b') ∨ (i + 1 = ws.length ∧ lots' = lotsR (bnds (Wf ws) (Mf ws qs) ws.length ws.length) ws.length)) := fun inv tp ntp => by
      have stp := same_new (o := HO.tup [V.int (b : Int), V.int (0 + (i : Int))]) ntp
      have h4 := stp _ _ h3
      refine ⟨_, i + 1, acc ++ [.ref tp], lots ++ [(b, i)], by rw [e0]; rfl, same_upd (s3.trans stp) nT1, upd_same, ?_, by rw [List.length_append]; show lots.length + 1 ≤ _; omega, inv⟩
      refine ((hA.imp fun v q z => z.same stp).snoc ⟨tp, rfl, ?_⟩).imp fun v q z => z.keepL h4
      rw [upd_same, e0]
    refine ⟨_, rfl, _, rfl, aw, _, rfl, .inl (.inl (.inl ((s1.trans s3) _ _ I.w))), _, _, rfl, rfl, rfl, _, rfl, ?_⟩
    by_cases c1 : i + 1 = ws.length
    · rw [decide_eq_true (show V.int (0 + (i : Int)) = V.int (((ws.map V.int).length : Int) - 1) by rw [en, e0]; congr 1; omega)]
      refine iteT ?_
      refine iteT ⟨_, rfl, .inl ⟨rfl, _, .inl (.inl h3)⟩, _, rfl, _, rfl, by show 2 ≤ sizeLine; decide, fun tp ntp => ?_⟩
      refine ⟨L, _, _, rfl, rfl, by rw [upd_ne (ne_of_none h3 ntp)]; exact h3, small1000 (by omega), ?_⟩
      refine ⟨_, rfl, _, _, rfl, rfl, app (.inr ⟨c1, ?_⟩) tp ntp⟩
      have eb2 := eb
      rw [c1] at eb2
      rw [eb2, el]
      show lotsR r b ++ [(b, i)] = lotsR r b ++ [(b, ws.length - 1)]
      rw [← c1]
      rfl
    · rw [decide_eq_false (show ¬ V.int (0 + (i : Int)) = V.int (((ws.map V.int).length : Int) - 1) from fun z => c1 (by have := V.int.inj z; omega))]
      refine iteF ?_
      refine ⟨_, rfl, _, rfl, t, ws, qs, N, i, by rw [e0]; rfl, ht.same s3, N2, by omega, l40, fun f hf => ?_⟩
      refine ⟨_, rfl, ?_⟩
      cases f with
      | true =>
        refine iteT ⟨_, rfl, .inl ⟨rfl, _, .inl (.inl h3)⟩, _, rfl, _, rfl, by show 2 ≤ sizeLine; decide, fun tp ntp => ?_⟩
        refine ⟨L, _, _, rfl, rfl, by rw [upd_ne (ne_of_none h3 ntp)]; exact h3, small1000 (by omega), ?_⟩
        refine ⟨_, rfl, _, _, rfl, rfl, app (.inl ⟨by omega, b :: r, ?_, ?_⟩) tp ntp⟩
        · rw [bnds_parted (hf.mp rfl), eb]
        · rw [el]
          rfl
      | false =>
        refine iteF ⟨_, b, acc, lots, rfl, s3, h3, hA, by omega, .inl ⟨by omega, r, ?_, el⟩⟩
        rw [bnds_not (fun z => by have := hf.mpr z; cases this)]
        exact eb
  · rintro σ H3 ⟨v5, b, acc, lots, rfl, s3, h3, hA, hll, inv⟩
    rw [List.length_map] at inv
    rcases inv with ⟨e, _⟩ | ⟨_, el⟩
    · omega
    rw [el] at hA
    refine ⟨_, rfl, _, acc, rfl, ⟨L, rfl, .inl h3⟩, fun t H4 s4 ht4 => ?_⟩
    exact k H4 t acc ((s1.trans s3).trans s4) ht4 (hA.imp fun v q z => z.same s4)
def pairs (lots : List (Nat × Nat)) : List V := (lots.dropLast.map (·.2)).map fun (k : Nat) => V.int (k : Int)
def spLPairs : Sp := fun vs H Q _ => ∃ (t : Addr) (us : List V) (lots : List (Nat × Nat)), vs = [.ref t] ∧ H t = some (.tup us) ∧ A2 (LotAt H) us lots ∧ 0 < lots.length ∧ lots.length ≤ 40 ∧
  ∀ (H' : Hp) (d : Addr), Same H H' → H' d = some (.lst (pairs lots)) → Q (.ref d) H'
theorem sc__law_parted_pairs : FnScope ["_law_lots_here", "_law_lot"] ["_law_lots_here"] (defScope s__law_parted_pairs) := ⟨rfl, rfl, rfl, by decide +kernel, rfl, by decide +kernel, by decide +kernel⟩
theorem sIx_m1 (n d : Nat) : HT.sIx n d (some (-1)) = n - 1 := by
  show (if (-1 : Int) < 0 then ((-1 : Int) + (n : Int)).toNat else min (-1 : Int).toNat n) = n - 1
  rw [if_pos (by decide)]
  omega
theorem cut_last (xs : List V) : cutV xs none (some (-1)) = xs.dropLast := by
  unfold cutV
  rw [HT.sIx_none]
  rw [sIx_m1, List.drop_zero, List.dropLast_eq_take]
  congr 1
theorem ix_tupK {X : Cx} {K : PySem.W.Frag} (hK : K = X.K := by rfl) : IxR X (rIxT K) := by
  subst hK
  exact ix_tup
theorem call_isiK {X : Cx} {K : PySem.W.Frag} (hK : K = X.K := by rfl) : CallR X (.builtin "isinstance") (rIsi K) := by
  subst hK
  exact call_isi
theorem ok_lpairs (T : Tx K mg) : Has P w K mg base 1 "_law_parted_pairs" ["_law_lots_here"] spLPairs := by
  refine has_of T.d__law_parted_pairs T.g__law_parted_pairs (fun _ _ _ _ _ _ us hl => match us, hl with | [_], _ => rfl) sc__law_parted_pairs (fun vs H Q E h => ?_) (fun cdv A outer s H vs Q E hr h => ?_)
  · obtain ⟨t, us, lots, rfl, _⟩ := h
    rfl
  obtain ⟨t, us, lots, rfl, ht, hA, l0, l40, k⟩ := h
  refine ⟨_, (pss_one (ps_ret (pe_lc (own := [("_law_lot", 1)]) (g := gName 1) rfl sc__law_parted_pairs.nd (pi_tup (pe_slice sl_tupA (pv 0) po_none (po_some (pe_un un_neg pe_int)))) (blkOk_by (own := [("_law_lot", 1)]) (N := ["_law_lots_here", "_law_lot"]) (sc := defScope s__law_parted_pairs) (by decide +kernel)) (fun _ _ _ _ _ => (pg_name (i := 1) sc__law_parted_pairs.nd rfl (Or.inl rfl))) (fun _ _ _ _ _ => pts_nil) (fun _ _ _ _ _ => (pe_ix (ix_tupK (K := K)) (pv 1) pe_int (fun _ _ => rfl)))))), ?_⟩
  refine ⟨_, rfl, 1, rfl, _, rfl, t, us, rfl, .inl (.inl ht), fun wh => ?_, fun _ p np => ?_⟩
  · exfalso
    have := wh.2
    have e : HT.sIx us.length us.length (some (-1)) = us.length - 1 := sIx_m1 _ _
    have l := hA.1
    omega
  have sp := same_new (o := HO.tup (cutV us none (some (-1)))) np
  have hp : upd H p (.tup (cutV us none (some (-1)))) p = some (.tup us.dropLast) := by rw [upd_same, cut_last]
  have hA1 := hA.imp fun v q z => z.same sp
  generalize upd H p (.tup (cutV us none (some (-1)))) = H1 at sp hp hA1
  have gd : ∀ (i : Nat) (v : V), us.dropLast[i]? = some v → us[i]? = some v ∧ i < lots.length - 1 := fun i v e => by
    have hi := (List.getElem?_eq_some_iff.mp e).1
    rw [List.length_dropLast] at hi
    have := hA.1
    rw [List.getElem?_dropLast, if_pos hi] at e
    exact ⟨e, by omega⟩
  refine ⟨p, rfl, ⟨us.dropLast, .inl (.inl hp)⟩, fun D nD => ?_⟩
  refine lc_tup (K := K) (a := p) (xs := us.dropLast) (fun i H2 => Same H1 H2 ∧ H2 D = some (.lst ((pairs lots).take i))) ⟨same_new nD, upd_same⟩ (fun i H2 _ z => .inl (.inl (z.1 _ _ hp))) ?_ ?_
  · rintro i v H2 hi ⟨s2, hD⟩
    obtain ⟨e1, e2⟩ := gd i v hi
    obtain ⟨pr, epr, hpr⟩ := hA1.get e1
    obtain ⟨av, rfl, hav⟩ := hpr.same s2
    have ep : (pairs lots)[i]? = some (.int (pr.2 : Int)) := by
      unfold pairs
      rw [List.getElem?_map, List.getElem?_map, List.getElem?_dropLast, if_pos e2, epr]
      rfl
    refine ⟨rfl, _, rfl, av, _, _, _, rfl, rfl, .inl (.inl hav), atI_nat (j := 1) rfl, ?_⟩
    refine ⟨_, hD, ?_, same_upd s2 nD, ?_⟩
    · rw [List.length_take]
      exact small1000 (by omega)
    · rw [upd_same, List.take_add_one, ep]
      rfl
  · rintro H2 ⟨s2, hD⟩
    refine k H2 D (sp.trans s2) ?_
    rw [hD, List.take_of_length_le]
    unfold pairs
    rw [List.length_map, List.length_map, List.length_dropLast, List.length_dropLast, hA.1]
    exact Nat.le_refl _
def spLRatio : Sp := fun vs H Q _ => ∃ (v : V) (q : Rat) (n : Nat), vs = [v] ∧ Rt H v q ∧ Sz n q ∧ n ≤ 4000 ∧ ∀ H' : Hp, Same H H' → Q (.bl true) H'
theorem sc__law_is_ratio : FnScope ["_law_thing", "_law_part"] ["_law_thing"] (defScope s__law_is_ratio) := ⟨rfl, rfl, rfl, by decide +kernel, rfl, by decide +kernel, by decide +kernel⟩
theorem ok_lratio (T : Tx K mg) : Has P w K mg base 2 "_law_is_ratio" ["_law_thing"] spLRatio := by
  have h__law_low : Has P w K mg base _ "_law_low" _ _ := ok_low T
  refine has_of T.d__law_is_ratio T.g__law_is_ratio (fun _ _ _ _ _ _ us hl => match us, hl with | [_], _ => rfl) sc__law_is_ratio (fun vs H Q E h => ?_) (fun cdv A outer s H vs Q E hr h => ?_)
  · obtain ⟨v, q, n, rfl, _⟩ := h
    rfl
  obtain ⟨v, q, n, rfl, ⟨t, rfl, ht⟩, z, n4, k⟩ := h
  refine ⟨_, (pss_cons (ps_if (PW.pt (pw_or (pt_not (pt_val (pe_callB call_isi (by rfl) T.n_isinstance (by decide +kernel) (pa_cons (pv 0) (pa_cons (pe_bltn (v := .ty "tuple") (by rfl) T.n_tuple (by decide +kernel) rfl) pa_nil))))) (pw_or1 (pt_cmpR op_ne (pe_callB call_len_seq (by rfl) T.n_len (by decide +kernel) (pa_cons (pv 0) pa_nil)) pe_int (nomark _)))))
    (pss_one (ps_ret pe_bl))
    pss_nil)
  (pss_cons (ps_if (pt_cmpR (op_neD hr.units) (pe_lc (own := [("_law_part", 1)]) (g := gName 1) rfl sc__law_is_ratio.nd (pi_tup (pv 0)) (blkOk_by (own := [("_law_part", 1)]) (N := ["_law_thing", "_law_part"]) (sc := defScope s__law_is_ratio) (by decide +kernel)) (fun _ _ _ _ _ => (pg_name (i := 1) sc__law_is_ratio.nd rfl (Or.inl rfl))) (fun _ _ _ _ _ => pts_one (PW.pt (pw_or (pt_not (pt_val (pe_callB (call_isiK (K := K)) (by rfl) T.n_isinstance (by decide +kernel) (pa_cons (pv 1) (pa_cons (pe_bltn (v := .ty "int") (by rfl) T.n_int (by decide +kernel) rfl) pa_nil))))) (pw_or1 (pt_val (pe_callB (call_isiK (K := K)) (by rfl) T.n_isinstance (by decide +kernel) (pa_cons (pv 1) (pa_cons (pe_bltn (v := .ty "bool") (by rfl) T.n_bool (by decide +kernel) rfl) pa_nil)))))))) (fun _ _ _ _ _ => (pv 1))) (pe_lst pa_nil) (nomark _))
    (pss_one (ps_ret pe_bl))
    pss_nil)
  (pss_one (ps_ret (pe_and (pe_cmpR op_gt (pe_ix ix_tup (pv 0) pe_int (fun _ _ => rfl)) pe_int (nomark _)) (pe_one (pe_cmpR (op_eqD hr.units) (pe_f h__law_low hr (by rfl) (pa_cons (pe_ix ix_tup (pv 0) pe_int (fun _ _ => rfl)) (pa_cons (pe_ix ix_tup (pv 0) pe_int (fun _ _ => rfl)) pa_nil))) (pv 0) (nomark _)))))))), ?_⟩
  have hs : SqT K H t [.int q.num, .int q.den] := .inl (.inl ht)
  have dp := q.den_pos
  refine ⟨_, rfl, _, _, _, _, _, rfl, .ty _, .base (.tup ht), kit_ty (b := "tuple") (r := true) (by decide +kernel), true, rfl, iteF ?_⟩
  refine ⟨_, rfl, t, _, rfl, .inr hs, rfl, _, rfl, iteF ?_⟩
  refine ⟨_, rfl, t, rfl, ⟨_, hs⟩, fun D nD => ?_⟩
  refine lc_tup (K := K) (a := t) (xs := [.int q.num, .int q.den]) (fun i H2 => Same H H2 ∧ H2 D = some (.lst [])) ⟨same_new nD, upd_same⟩ (fun i H2 _ z => .inl (.inl (z.1 _ _ ht))) ?_ ?_
  · rintro i v H2 hi ⟨s2, hD⟩
    have hv : ∃ j : Int, v = .int j := by
      cases i with
      | zero =>
        cases hi
        exact ⟨_, rfl⟩
      | succ i =>
        cases i with
        | zero =>
          cases hi
          exact ⟨_, rfl⟩
        | succ i => cases hi
    obtain ⟨j, rfl⟩ := hv
    refine ⟨rfl, _, rfl, _, _, _, _, _, rfl, .ty _, .base (.int _), kit_ty (b := "int") (r := true) (by decide +kernel), true, rfl, iteF ?_⟩
    exact ⟨_, rfl, _, _, _, _, _, rfl, .ty _, .base (.int _), kit_ty (b := "bool") (r := false) (by decide +kernel), false, rfl, s2, hD⟩
  rintro H2 ⟨s2, hD⟩
  refine ⟨Nat.zero_le _, fun E0 nE => ?_⟩
  have sE := same_new (o := HO.lst []) nE
  refine ⟨.list [], .list [], .lst (.inl (.inl (sE _ _ hD))) .nil, .lst (.inl (.inl upd_same)) .nil, by decide +kernel, by decide +kernel, _, rfl, ?_⟩
  refine iteF ?_
  have s3 := s2.trans sE
  have ht3 := s3 _ _ ht
  generalize upd H2 E0 (.lst []) = H3 at s3 ht3
  refine ⟨_, rfl, t, _, _, _, rfl, rfl, .inl (.inl ht3), atI_nat (j := 1) rfl, _, _, rfl, rfl, _, rfl, ?_⟩
  rw [decide_eq_true (show (0 : Int) < (q.den : Int) by omega)]
  refine iteT ?_
  refine ⟨_, rfl, t, _, _, _, rfl, rfl, .inl (.inl ht3), atI_nat (j := 0) rfl, _, rfl, t, _, _, _, rfl, rfl, .inl (.inl ht3), atI_nat (j := 1) rfl, _, _, rfl, by omega, lt_mono (by rw [den_nat]; exact z.2) (by omega), fun H4 u s4 hu => ?_⟩
  rw [self_divInt] at hu
  refine ⟨_, rfl, rd q, rd q, Rt.dp hu, Rt.dp ⟨t, rfl, s4 _ _ ht3⟩, dk_rd.sh q, dk_rd.sh q, ?_⟩
  rw [(dk_rd.eq q q).mpr rfl]
  exact k H4 (s3.trans s4)
end
end G
end
section
set_option Elab.async false
set_option linter.all false
set_option maxRecDepth 100000
set_option maxHeartbeats 8000000
set_option exponentiation.threshold 100000
/-! The law's one speed. -/
namespace G
open PySem PySem.Spec PyProof.Rows L2
theorem cut_to (xs : List V) (b : Nat) (h : b ≤ xs.length) : cutV xs none (some (b : Int)) = xs.take b := by
  unfold cutV
  rw [HT.sIx_none, HT.sIx_nat, List.drop_zero, Nat.min_eq_left h]
  rfl
theorem cut_from (xs : List V) (b : Nat) (h : b ≤ xs.length) : cutV xs (some (b : Int)) none = xs.drop b := by
  unfold cutV
  rw [HT.sIx_none, HT.sIx_nat, Nat.min_eq_left h, List.take_of_length_le]
  rw [List.length_drop]
  exact Nat.le_refl _
theorem cut_set (xs : List V) (b : Nat) (h : b < xs.length) (v : V) : xs.take b ++ [v] ++ xs.drop (b + 1) = xs.set b v := by
  rw [List.set_eq_take_append_cons_drop, if_pos h, List.append_assoc]
  rfl
theorem RowAt.off {K : PySem.W.Frag} {H H' : Hp} {p c : Addr} (o : Off p H H') (h : HandOk H p c) {r : Addr} {ws : List Int} {qs : List Rat} (R : RowAt K H r ws qs) : RowAt K H' r ws qs := by
  obtain ⟨_, hp⟩ := h.lst
  obtain ⟨dx, a, b, c', g, l, x, y, vs, h1, h2, h3, h4, h5, rest⟩ := R
  exact ⟨dx, a, b, c', g, l, x, y, vs, o.ins hp h1, o.tup hp h2, o.tup hp h3, h4.imp fun v q z => z.off o h, o.tup hp h5, rest⟩
theorem Ot.off {p c : Addr} {H H' : Hp} {v : V} {q : Option Rat} (h : Ot H v q) (s : Off p H H') (k : HandOk H p c) : Ot H' v q := by
  cases q with
  | none => exact h
  | some q => exact Rt.off h s k
theorem inV_pairs (lots : List (Nat × Nat)) (k : Nat) : inV (.int (k : Int)) (pairs lots) = true ↔ k ∈ lots.dropLast.map (·.2) := by
  unfold inV pairs
  rw [List.any_eq_true]
  constructor
  · rintro ⟨y, hy, e⟩
    obtain ⟨m, hm, rfl⟩ := List.mem_map.mp hy
    have : (m : Int) = (k : Int) := by
      have e' : ((m : Int) == (k : Int)) = true := e
      exact beq_iff_eq.mp e'
    have : m = k := by omega
    rw [← this]
    exact hm
  · intro h
    exact ⟨_, List.mem_map.mpr ⟨k, h, rfl⟩, show ((k : Int) == (k : Int)) = true from beq_iff_eq.mpr rfl⟩
theorem pairs_flat (lots : List (Nat × Nat)) : (pairs lots).all flatV = true := by
  unfold pairs
  rw [List.all_eq_true]
  intro y hy
  obtain ⟨m, _, rfl⟩ := List.mem_map.mp hy
  rfl
theorem dvd6 (d : Nat) {k : Nat} (h : k ∣ 6) : k ∣ 6 * d := Nat.dvd_trans h (Nat.dvd_mul_right 6 d)
theorem fits88 {qs : List Rat} (f : Fit 20 6 qs) (b : Nat) {u : Rat} (z : Sz 88 u) : Fits (qs.set b u) (2 ^ 88) (6 * u.den) 190 := by
  have d0 := u.den_pos
  have e : (2 : Nat) ^ 190 = 4096 * 2 ^ 88 * 2 ^ 88 * 4 := by decide +kernel
  have e2 : 360 * 2 ^ 88 * (6 * u.den) = 2160 * 2 ^ 88 * u.den := by
    rw [Nat.mul_assoc 360, Nat.mul_comm (2 ^ 88) (6 * u.den), ← Nat.mul_assoc, ← Nat.mul_assoc, Nat.mul_right_comm]
  refine ⟨fun q hq => ?_, by omega, ?_, by decide +kernel, ?_, by decide, by decide⟩
  · rcases List.mem_or_eq_of_mem_set hq with y | y
    · obtain ⟨a, c⟩ := f q y
      exact ⟨by omega, dvd6 _ c⟩
    · rw [y]
      exact ⟨Nat.le_of_lt z.1, Nat.dvd_mul_left _ _⟩
  · rw [e2, e]
    have h1 : 2160 * 2 ^ 88 * u.den < 4096 * 2 ^ 88 * 2 ^ 88 := Nat.mul_lt_mul_of_le_of_lt (by decide +kernel) z.2 (by decide +kernel)
    omega
  · have := z.2
    omega
section
variable {P : Program} {w : World} {K : PySem.W.Frag} {mg : Str → Option Value} {base : Heap}
/-- what the law asks about at one speed -/
structure RightIn (K : PySem.W.Frag) (H : Hp) (p c r aw asp bt : Addr) (ws : List Int) (qs : List Rat) (b : Nat) (os : List (Option Rat)) (bvs : List V) : Prop where
  ho : HandOk H p c
  row : RowAt K H r ws qs
  ba : Balls H p aw asp ws qs
  hb : b < ws.length
  ht : H bt = some (.tup bvs)
  ha : A2 (Ot H) bvs os
  bd : Bds ws qs b os
  sz : ∀ v, some v ∈ os → Sz 57 v
theorem RightIn.off {K : PySem.W.Frag} {H H' : Hp} {p c r aw asp bt : Addr} {ws : List Int} {qs : List Rat} {b : Nat} {os : List (Option Rat)} {bvs : List V} (I : RightIn K H p c r aw asp bt ws qs b os bvs) (o : Off p H H') (h : HandOk H' p c) : RightIn K H' p c r aw asp bt ws qs b os bvs := by
  obtain ⟨_, hp⟩ := I.ho.lst
  exact ⟨h, I.row.off o I.ho, I.ba.off o I.ho, I.hb, o.tup hp I.ht, I.ha.imp fun v q z => z.off o I.ho, I.bd, I.sz⟩
def spRight (K : PySem.W.Frag) : Sp := fun vs H Q _ => ∃ (p c r aw asp bt : Addr) (ws : List Int) (qs : List Rat) (b : Nat) (os : List (Option Rat)) (bvs : List V) (rv : V) (u : Rat), vs = [.ref p, .ref r, .ref aw, .ref asp, .int (b : Int), .ref bt, rv] ∧
  RightIn K H p c r aw asp bt ws qs b os bvs ∧ Rt H rv u ∧ Sz 88 u ∧ ∀ H' : Hp, Off p H H' → HandOk H' p c → Q (.bl true) H'
theorem sc__law_right_at : FnScope ["_law_hand_here", "_law_row_here", "_law_weights", "_law_speeds", "_law_ball", "_law_bounds", "_law_rate", "_law_changed", "_law_lots_here", "_law_parted", "_law_pair", "_law_due", "_law_passed", "_law_speed_here"] ["_law_hand_here", "_law_row_here", "_law_weights", "_law_speeds", "_law_ball", "_law_bounds", "_law_rate"] (defScope s__law_right_at) := ⟨rfl, rfl, rfl, by decide +kernel, rfl, by decide +kernel, by decide +kernel⟩
theorem ok_right (T : Tx K mg) : Has P w K mg base 9 "_law_right_at" ["_law_hand_here", "_law_row_here", "_law_weights", "_law_speeds", "_law_ball", "_law_bounds", "_law_rate"] (spRight K) := by
  have h_pooled_parting : Has P w K mg base _ "pooled_parting" _ _ := ok_pooled T
  have h_Row_with_speeds : HasM P w K mg base _ "Row" "with_speeds" _ _ := ok_with T
  have h__law_given : Has P w K mg base _ "_law_given" _ _ := ok_given T
  have h__law_less : Has P w K mg base _ "_law_less" _ _ := ok_less T
  have h__law_parted_pairs : Has P w K mg base _ "_law_parted_pairs" _ _ := ok_lpairs T
  have h__law_lots : Has P w K mg base _ "_law_lots" _ _ := ok_llots T
  refine has_of T.d__law_right_at T.g__law_right_at (fun _ _ _ _ _ _ us hl => match us, hl with | [_, _, _, _, _, _, _], _ => rfl) sc__law_right_at (fun vs H Q E h => ?_) (fun cdv A outer s H vs Q E hr h => ?_)
  · obtain ⟨p, c, r, aw, asp, bt, ws, qs, b, os, bvs, rv, u, rfl, _⟩ := h
    rfl
  obtain ⟨p, c, r, aw, asp, bt, ws, qs, b, os, bvs, rv, u, rfl, I, hu, zu, k⟩ := h
  refine ⟨_, (pss_cons (ps_set (i := 7) sc__law_right_at.nd rfl (Or.inl rfl) (pe_op op_cat (pe_op op_cat (pe_slice sl_list (pv 3) po_none (po_some (pv 4))) (pe_lst (pa_cons (pv 6) pa_nil))) (pe_slice sl_list (pv 3) (po_some (pe_op op_add (pv 4) pe_int)) po_none)))
  (pss_cons (ps_set (i := 8) sc__law_right_at.nd rfl (Or.inl rfl) (pe_f h__law_lots hr (by rfl) (pa_cons (pv 2) (pa_cons (pv 7) pa_nil))))
  (pss_cons (ps_set (i := 9) sc__law_right_at.nd rfl (Or.inl rfl) (pe_f h__law_parted_pairs hr (by rfl) (pa_cons (pv 8) pa_nil)))
  (pss_cons (ps_for PassesOwn.never rfl (pi_range1 (by rfl) T.n_range (pa_cons (pe_op op_sub (pe_callB call_len_seq (by rfl) T.n_len (by decide +kernel) (pa_cons (pv 2) pa_nil)) pe_int) pa_nil)) (pg_name (i := 10) sc__law_right_at.nd rfl (Or.inl rfl))
    (pss_cons (ps_set (i := 11) sc__law_right_at.nd rfl (Or.inl rfl) (pe_cmpR op_notN (pe_ix ix_tup (pv 5) (pv 10) (fun _ _ => rfl)) pe_non (nomark _)))
  (pss_cons (ps_if (PW.pt (pw_and (pt_truth (pv 11) (by intro _; rfl)) (pw_and1 (pt_cmpR op_ge (pv 10) (pv 4) (nomark _)))))
    (pss_one (ps_set (i := 11) sc__law_right_at.nd rfl (Or.inl rfl) (pe_not (pe_f h__law_less hr (by rfl) (pa_cons (pe_ix ix_tup (pv 5) (pv 10) (fun _ _ => rfl)) (pa_cons (pv 6) pa_nil))))))
    pss_nil)
  (pss_cons (ps_if (PW.pt (pw_and (pt_truth (pv 11) (by intro _; rfl)) (pw_and1 (pt_cmpR op_lt (pv 10) (pv 4) (nomark _)))))
    (pss_one (ps_set (i := 11) sc__law_right_at.nd rfl (Or.inl rfl) (pe_not (pe_f h__law_less hr (by rfl) (pa_cons (pv 6) (pa_cons (pe_ix ix_tup (pv 5) (pv 10) (fun _ _ => rfl)) pa_nil))))))
    pss_nil)
  (pss_one (ps_if (pt_cmpR op_ne (pv 11) (pe_cmpR op_in_seq (pv 10) (pv 9) (by rfl)) (nomark _))
    (pss_one (ps_ret pe_bl))
    pss_nil))))))
  (pss_cons (ps_setLc (i := 12) (own := [("_law_speed_here", 13)]) (g := gName 13) rfl sc__law_right_at.nd rfl rfl (sw_true rfl rfl rfl (by decide +kernel)) (pi_list (pv 7)) (blkOk_by (own := [("_law_speed_here", 13)]) (N := ["_law_hand_here", "_law_row_here", "_law_weights", "_law_speeds", "_law_ball", "_law_bounds", "_law_rate", "_law_changed", "_law_lots_here", "_law_parted", "_law_pair", "_law_due", "_law_passed", "_law_speed_here"]) (sc := defScope s__law_right_at) (by decide +kernel)) (fun _ _ _ _ _ => (pg_name (i := 13) sc__law_right_at.nd rfl (Or.inl rfl))) (fun _ _ _ _ _ => pts_nil) (fun _ _ _ _ _ => (pe_f h__law_given hr (by rfl) (pa_cons (pv 0) (pa_cons (pv 13) pa_nil)))))
  (pss_one (ps_ret (pe_cmpR (op_eqD hr.units) (pe_fld (pe_f h_pooled_parting hr (by rfl) (pa_cons (pe_m h_Row_with_speeds hr (pv 1) (pa_cons (pv 12) pa_nil)) pa_nil)) rfl) (pv 8) (nomark _))))))))), ?_⟩
  obtain ⟨xs, hx, hA⟩ := I.ba.x
  have hl := I.ba.len
  have l2 := I.ba.l2
  have l40 := I.ba.l40
  have hb := I.hb
  have xl : xs.length = ws.length := by rw [hA.1, hl]
  -- changed
  refine ⟨_, rfl, _, rfl, _, rfl, asp, xs, rfl, .inl (.inl hx), fun A1 nA => ?_⟩
  rw [cut_to xs b (by omega)]
  have s1 := same_new (o := HO.lst (xs.take b)) nA
  have hA1 : upd H A1 (.lst (xs.take b)) A1 = some (.lst (xs.take b)) := upd_same
  generalize upd H A1 (.lst (xs.take b)) = H1 at s1 hA1
  refine ⟨_, rfl, by show 1 ≤ sizeLine; decide, fun B1 nB => ?_⟩
  have s2 := same_new (o := HO.lst [rv]) nB
  have hB : upd H1 B1 (.lst [rv]) B1 = some (.lst [rv]) := upd_same
  generalize upd H1 B1 (.lst [rv]) = H2 at s2 hB
  refine ⟨A1, B1, xs.take b, [rv], rfl, rfl, s2 _ _ hA1, hB, by rw [List.length_take]; show min b xs.length + 1 ≤ _; exact Nat.le_of_lt (small1000 (by omega)), fun C1 nC => ?_⟩
  have s3 := same_new (o := HO.lst (xs.take b ++ [rv])) nC
  have hC : upd H2 C1 (.lst (xs.take b ++ [rv])) C1 = some (.lst (xs.take b ++ [rv])) := upd_same
  have t3 := (s1.trans s2).trans s3
  generalize upd H2 C1 (.lst (xs.take b ++ [rv])) = H3 at s3 hC t3
  refine ⟨_, rfl, _, rfl, _, _, rfl, rfl, _, rfl, asp, xs, rfl, .inl (.inl (t3 _ _ hx)), fun E1 nE => ?_⟩
  rw [show (b : Int) + 1 = ((b + 1 : Nat) : Int) by omega, cut_from xs (b + 1) (by omega)]
  have s4 := same_new (o := HO.lst (xs.drop (b + 1))) nE
  have hE : upd H3 E1 (.lst (xs.drop (b + 1))) E1 = some (.lst (xs.drop (b + 1))) := upd_same
  have t4 := t3.trans s4
  have hC4 := s4 _ _ hC
  generalize upd H3 E1 (.lst (xs.drop (b + 1))) = H4 at s4 hE t4 hC4
  refine ⟨C1, E1, xs.take b ++ [rv], xs.drop (b + 1), rfl, rfl, hC4, hE, by rw [List.length_append, List.length_take, List.length_drop]; show min b xs.length + 1 + (xs.length - (b + 1)) ≤ _; exact Nat.le_of_lt (small1000 (by omega)), fun F1 nF => ?_⟩
  rw [cut_set xs b (by omega)]
  have s5 := same_new (o := HO.lst (xs.set b rv)) nF
  have hF : upd H4 F1 (.lst (xs.set b rv)) F1 = some (.lst (xs.set b rv)) := upd_same
  have t5 := t4.trans s5
  have nFp : F1 ≠ p := fun e => by
    obtain ⟨_, hp⟩ := I.ho.lst
    rw [e, t4 _ _ hp] at nF
    cases nF
  generalize upd H4 F1 (.lst (xs.set b rv)) = H5 at s5 hF t5
  clear s1 hA1 s2 hB s3 hC t3 s4 hE t4 hC4 s5 nA nB nC nE nF
  -- the law's lots
  have F88 := fits88 I.ba.fit b zu
  have cl : (qs.set b u).length = ws.length := by rw [List.length_set, hl]
  have hAc : A2 (Rt H5) (xs.set b rv) (qs.set b u) := (hA.imp fun v q z => z.same t5).set b (hu.same t5)
  refine ⟨_, rfl, _, rfl, aw, F1, ws, xs.set b rv, qs.set b u, _, _, _, rfl, ⟨t5 _ _ I.ba.w, hF, hAc, cl, l2, l40, I.ba.p9, F88⟩, fun H6 t us s6 ht hus => ?_⟩
  have t6 := t5.trans s6
  generalize eL : lotsR (bnds (Wf ws) (Mf ws (qs.set b u)) ws.length ws.length) ws.length = lots at hus
  have ll0 : 0 < lots.length := by
    obtain ⟨b0, z1, z2, z3, z4⟩ := bnds_top (W := Wf ws) (M := Mf ws (qs.set b u)) (n := ws.length) (e := ws.length) (by omega)
    rw [← eL, lotsR_len, z2]
    exact Nat.succ_pos _
  have ll1 : lots.length ≤ 40 := by
    rw [← eL, lotsR_len]
    exact Nat.le_trans (bnds_len _) l40
  have inP : ∀ k : Nat, k + 1 < ws.length → (inV (.int (k : Int)) (pairs lots) = true ↔ Parted (Wf ws) (Mf ws (qs.set b u)) ws.length k) := fun k hk => by
    rw [inV_pairs, ← eL, parted_mem (by omega)]
    exact ⟨fun z => z.2, fun z => ⟨hk, z⟩⟩
  refine ⟨_, rfl, t, us, lots, rfl, ht, hus, ll0, ll1, fun H7 d s7 hd => ?_⟩
  have t7 := t6.trans s7
  -- pair by pair
  refine ⟨_, rfl, aw, _, rfl, .inl (.inl (.inl (t7 _ _ I.ba.w))), _, _, rfl, rfl, _, rfl, by rw [List.length_map]; omega, by rw [List.length_map]; omega, ?_⟩
  refine for_range (lo := 0) (n := (((ws.map V.int).length : Int) - 1).toNat) (fun i σ H8 => H8 = H7 ∧ ∃ v10 v11 : Option V, σ = [some (.ref p), some (.ref r), some (.ref aw), some (.ref asp), some (.int (b : Int)), some (.ref bt), some rv, some (.ref F1), some (.ref t), some (.ref d), v10, v11, none, none]) ⟨rfl, none, none, rfl⟩ ?_ ?_
  · rintro i σ H8 hi ⟨rfl, v10, v11, rfl⟩
    have hi2 : i + 1 < ws.length := by rw [List.length_map] at hi; omega
    have e0 : (0 : Int) + (i : Int) = (i : Int) := by omega
    have ol := I.bd.1
    have eo : os[i]? = some (os[i]'(by omega)) := List.getElem?_eq_getElem _
    generalize os[i]'(by omega) = o at eo
    obtain ⟨ov, ev, ho⟩ := I.ha.at eo
    have bd := I.bd.2 i o eo
    have hot := ho.same t7
    have ip := inP i hi2
    have ht8 := t7 _ _ I.ht
    refine ⟨_, rfl, _, rfl, bt, _, _, _, rfl, rfl, .inl (.inl ht8), atI_nat' ev e0, rfl, ?_⟩
    cases o with
    | none =>
      obtain rfl : ov = .non := hot
      refine ⟨_, rfl, _, rfl, iteF ?_⟩
      refine ⟨_, rfl, _, rfl, iteF ?_⟩
      have nP : inV (.int (0 + (i : Int))) (pairs lots) = false := by
        rw [e0]
        exact Bool.eq_false_iff.mpr fun z => bd u (ip.mp z)
      refine ⟨_, rfl, _, rfl, _, rfl, d, _, rfl, .inl (.inl (.inl hd)), rfl, pairs_flat lots, rfl, _, rfl, ?_⟩
      show if (!decide (V.bl false = V.bl (inV (.int (0 + (i : Int))) (pairs lots)))) = true then _ else _
      rw [nP]
      exact iteF ⟨rfl, _, _, rfl⟩
    | some q =>
      have nn : (!decide (ov = V.non)) = true := by
        rw [decide_eq_false (Rt.notNon hot)]
        rfl
      rw [nn]
      have zq : Sz 88 q := (I.sz q (List.mem_of_getElem? eo)).mono (by decide)
      have hu8 := hu.same t7
      have go : ∀ dv : Bool, (dv = true ↔ Parted (Wf ws) (Mf ws (qs.set b u)) ws.length i) → (!decide (V.bl dv = V.bl (inV (.int (0 + (i : Int))) (pairs lots)))) = false := fun dv hdv => by
        rw [e0]
        have : dv = inV (.int (i : Int)) (pairs lots) := by
          rw [Bool.eq_iff_iff, hdv]
          exact ip.symm
        rw [this, decide_eq_true rfl]
        rfl
      by_cases c : b ≤ i
      · refine ⟨_, rfl, _, rfl, iteT ?_⟩
        refine ⟨_, rfl, _, rfl, _, _, rfl, rfl, _, rfl, ?_⟩
        rw [decide_eq_true (show (b : Int) ≤ 0 + (i : Int) by omega)]
        refine iteT ?_
        refine ⟨_, rfl, _, rfl, bt, _, _, _, rfl, rfl, .inl (.inl ht8), atI_nat' ev e0, _, rfl, 88, ov, rv, q, u, rfl, hot, hu8, zq, zu, by decide, by decide, _, rfl, ?_⟩
        have hd0 : Parted (Wf ws) (Mf ws (qs.set b u)) ws.length i ↔ u ≤ q := bd.1 c u
        have key := go (!decide (q < u)) (by
          rw [hd0]
          simp [Rat.not_lt])
        by_cases cq : q < u
        · have e1 : (!decide (q < u)) = false := by
            rw [decide_eq_true cq]
            rfl
          refine ⟨_, rfl, _, rfl, ?_⟩
          rw [e1]
          refine iteF ?_
          refine ⟨_, rfl, _, rfl, _, rfl, d, _, rfl, .inl (.inl (.inl hd)), rfl, pairs_flat lots, rfl, _, rfl, ?_⟩
          rw [e1] at key
          show if (!decide (V.bl false = V.bl (inV (.int (0 + (i : Int))) (pairs lots)))) = true then _ else _
          rw [key]
          exact iteF ⟨rfl, _, _, rfl⟩
        · have e1 : (!decide (q < u)) = true := by
            rw [decide_eq_false cq]
            rfl
          refine ⟨_, rfl, _, rfl, ?_⟩
          rw [e1]
          refine iteT ?_
          refine ⟨_, rfl, _, rfl, _, _, rfl, rfl, _, rfl, ?_⟩
          rw [decide_eq_false (show ¬ 0 + (i : Int) < (b : Int) by omega)]
          refine iteF ?_
          refine ⟨_, rfl, _, rfl, _, rfl, d, _, rfl, .inl (.inl (.inl hd)), rfl, pairs_flat lots, rfl, _, rfl, ?_⟩
          rw [e1] at key
          show if (!decide (V.bl true = V.bl (inV (.int (0 + (i : Int))) (pairs lots)))) = true then _ else _
          rw [key]
          exact iteF ⟨rfl, _, _, rfl⟩
      · refine ⟨_, rfl, _, rfl, iteT ?_⟩
        refine ⟨_, rfl, _, rfl, _, _, rfl, rfl, _, rfl, ?_⟩
        rw [decide_eq_false (show ¬ (b : Int) ≤ 0 + (i : Int) by omega)]
        refine iteF ?_
        refine ⟨_, rfl, _, rfl, iteT ?_⟩
        refine ⟨_, rfl, _, rfl, _, _, rfl, rfl, _, rfl, ?_⟩
        rw [decide_eq_true (show 0 + (i : Int) < (b : Int) by omega)]
        refine iteT ?_
        refine ⟨_, rfl, _, rfl, _, rfl, bt, _, _, _, rfl, rfl, .inl (.inl ht8), atI_nat' ev e0, 88, rv, ov, u, q, rfl, hu8, hot, zu, zq, by decide, by decide, _, rfl, ?_⟩
        have hd0 : Parted (Wf ws) (Mf ws (qs.set b u)) ws.length i ↔ q ≤ u := bd.2 c u
        have key := go (!decide (u < q)) (by
          rw [hd0]
          simp [Rat.not_lt])
        refine ⟨_, rfl, _, rfl, _, rfl, d, _, rfl, .inl (.inl (.inl hd)), rfl, pairs_flat lots, rfl, _, rfl, ?_⟩
        show if (!decide (V.bl (!decide (u < q)) = V.bl (inV (.int (0 + (i : Int))) (pairs lots)))) = true then _ else _
        rw [key]
        exact iteF ⟨rfl, _, _, rfl⟩
  · rintro σ H8 ⟨rfl, v10, v11, rfl⟩
    -- passed
    have I8 := I.off (Off.of t7) (I.ho.same t7)
    have h8 := I8.ho
    have hF8 := (s6.trans s7) _ _ hF
    have hAc8 := hAc.imp fun v q z => z.same (s6.trans s7)
    have ht8 := s7 _ _ ht
    have hus8 := hus.imp fun v q z => z.same s7
    obtain ⟨_, hp8⟩ := h8.lst
    have zz : ∀ q, q ∈ qs.set b u → Sz 89 q := fun q hq => by
      rcases List.mem_or_eq_of_mem_set hq with y | y
      · exact (fit_sz I.ba.fit y).mono (by decide)
      · rw [y]
        exact zu.mono (by decide)
    refine ⟨_, rfl, F1, rfl, ⟨_, .inl (.inl hF8)⟩, fun D nD => ?_⟩
    obtain ⟨nDp, nDc⟩ := h8.fresh nD
    refine lc_list (K := K) (a := F1) (xs := xs.set b rv) (fun i H9 => Off p H8 H9 ∧ HandOk H9 p c ∧ ∃ acc, H9 D = some (.lst acc) ∧ A2 (Rl H9 92) acc ((qs.set b u).take i)) ⟨(Off.refl p H8).put nD, h8.put nDp nDc, [], upd_same, A2.nil⟩ (fun i H9 _ z => .inl (.inl (z.1 _ _ nFp hF8))) ?_ ?_
    · rintro i x H9 hi ⟨o9, h9, acc, hD, hacc⟩
      obtain ⟨q, eq, hq⟩ := hAc8.get hi
      refine ⟨rfl, _, rfl, _, rfl, p, c, x, q, 89, rfl, h9, hq.off o9 h8, zz q (List.mem_of_getElem? eq), fun H2 v o2 h2 hv => ?_⟩
      have hD2 := o2 _ _ nDp hD
      refine ⟨acc, hD2, ?_, (o9.trans o2).put nD, h2.put nDp nDc, acc ++ [v], upd_same, ?_⟩
      · rw [hacc.1, List.length_take]
        exact small1000 (by omega)
      · rw [List.take_add_one, eq]
        exact ((hacc.imp fun v q z => z.off o2 h9).snoc hv).imp fun v q z => z.keepL hD2
    rintro H9 ⟨o9, h9, acc, hD, hacc⟩
    rw [show (xs.set b rv).length = (qs.set b u).length from hAc.1, List.take_length] at hacc
    have accl : acc.length = ws.length := by rw [hacc.1, cl]
    have row9 := I8.row.off o9 h8
    obtain ⟨rx, a1, a2, a3, g, l, x, y, vs0, hrow, _⟩ := id row9
    refine ⟨_, rfl, r, rx, _, rfl, hrow, row_meth a1 a2 a3 g l x y, _, rfl, 92, r, _, ws, qs, acc, qs.set b u, rfl, row9, ⟨D, rfl, .inl hD⟩, hacc, accl, by decide, by decide, fun H10 r2 s10 R2 => ?_⟩
    refine ⟨r2, ws, qs.set b u, _, _, _, rfl, R2, F88, fun H11 pt s11 hP => ?_⟩
    rw [eL] at hP
    obtain ⟨dx, tt, m, vsl, hpt, htt, hAl⟩ := hP
    refine ⟨pt, _, dx, _, _, rfl, hpt, T.cls_Parting, T.na_Parting_lots, qf_lots tt m, ?_⟩
    have hp9 : ∃ zs, H9 p = some (.lst zs) := h9.lst
    have t11 := (s10.trans s11)
    have ht11 := t11 _ _ (o9.tup hp8 ht8)
    have hus11 := hus8.imp fun v q (z : LotAt _ v q) => (show LotAt H11 v q from let ⟨a, e, z⟩ := z; ⟨a, e, t11 _ _ (o9.tup hp8 z)⟩)
    refine ⟨_, rfl, .tuple (lots.map ld), .tuple (lots.map ld), .tup (.inl (.inl htt)) (dps (fun v q r => LotAt.dp r) hAl), .tup (.inl (.inl ht11)) (dps (fun v q r => LotAt.dp r) hus11), dk_ld.shT lots, dk_ld.shT lots, ?_⟩
    rw [(dk_ld.eqT lots lots).mpr rfl]
    exact k H11 ((Off.of t7).trans (o9.trans (.of t11))) (h9.same t11)
end
end G
end
section
set_option Elab.async false
set_option linter.all false
set_option maxRecDepth 100000
set_option maxHeartbeats 4000000
set_option exponentiation.threshold 100000
/-! A tuple from behind. -/
namespace G
open PySem PySem.Spec PyProof.Rows L2
theorem adj_back (m : Nat) : Builtin.Slice.sliceAdjust none none (-1) (m : Int) = ((m : Int) - 1, -1) := by
  unfold Builtin.Slice.sliceAdjust
  rfl
theorem places_back (m : Nat) : Builtin.Slice.slicePlaces ((m : Int) - 1) (-1) (-1) = m := by
  unfold Builtin.Slice.slicePlaces
  simp
  split <;> omega
theorem pick_back (vals : List Value) : ((List.range vals.length).filterMap fun (k : Nat) => vals.toArray[(((vals.length : Nat) : Int) - 1 + (k : Int) * (-1)).toNat]?).toArray = vals.reverse.toArray := by
  congr 1
  have e : ∀ k : Nat, k < vals.length → vals.toArray[(((vals.length : Nat) : Int) - 1 + (k : Int) * (-1)).toNat]? = vals.reverse[k]? := fun k hk => by
    rw [List.getElem?_reverse hk, show (((vals.length : Nat) : Int) - 1 + (k : Int) * (-1)).toNat = vals.length - 1 - k by omega]
    simp
  have e2 : ((List.range vals.length).filterMap fun (k : Nat) => vals.toArray[(((vals.length : Nat) : Int) - 1 + (k : Int) * (-1)).toNat]?) = (List.range vals.reverse.length).filterMap fun k => vals.reverse[k]? := by
    rw [List.length_reverse]
    have g : ∀ (l : List Nat), (∀ k, k ∈ l → k < vals.length) → l.filterMap (fun (k : Nat) => vals.toArray[(((vals.length : Nat) : Int) - 1 + (k : Int) * (-1)).toNat]?) = l.filterMap fun k => vals.reverse[k]? := fun l => by
      induction l with
      | nil => exact fun _ => rfl
      | cons x l ih =>
        intro hl
        rw [List.filterMap_cons, List.filterMap_cons, e x (hl x List.mem_cons_self), ih fun k hk => hl k (List.mem_cons_of_mem _ hk)]
    exact g _ fun k hk => List.mem_range.mp hk
  rw [e2]
  apply List.ext_getElem?
  intro i
  have h3 : ∀ (l : List Value), (List.range l.length).filterMap (fun k => l[k]?) = l := fun l => by
    have : (List.range l.length).map (fun k => l[k]?) = l.map some := by
      apply List.ext_getElem?
      intro j
      rw [List.getElem?_map, List.getElem?_map]
      by_cases hj : j < l.length
      · rw [List.getElem?_range hj, List.getElem?_eq_getElem hj]
        simp [hj]
      · rw [List.getElem?_eq_none_iff.mpr (by rw [List.length_range]; omega), List.getElem?_eq_none_iff.mpr (by omega)]
        rfl
    have h4 : (List.range l.length).filterMap (fun k => l[k]?) = ((List.range l.length).map (fun k => l[k]?)).filterMap id := by
      rw [List.filterMap_map]
      rfl
    rw [h4, this, List.filterMap_map]
    simp
  rw [h3]
section
variable {prog : Program} {w : World} {A : Around} {E : Value → Shared → Prop} {s : Shared}
theorem applied_back {q : Addr} {va vb vc : Value} {m : Nat} {Q : Int × Int × Nat → Shared → Prop} (hs : s.heap.IsSliceOf q va vb vc) (pa : IsPart va none) (pb : IsPart vb none) (pc : IsPart vc (some (-1))) (h : Q ((m : Int) - 1, -1, m) s) :
    wpAny (model prog w) A (Builtin.Slice.sliceApplied (.ref q) (pure (m : Int))) Q E s := by
  obtain ⟨o, ho, hc, hd⟩ := id hs
  unfold Builtin.Slice.sliceApplied Builtin.Slice.sliceFields
  refine wpAny_bind (wpAny_bind (wpAny_field ho hd (x := va) rfl (wpAny_bind (wpAny_field ho hd (x := vb) rfl (wpAny_bind (wpAny_field ho hd (x := vc) rfl (wpAny_pure ?_)))))))
  refine wpAny_bind (HT.slicePart_ pc ?_)
  show wpAny _ _ (if ((-1 : Int) == 0) = true then _ else _) _ _ s
  rw [if_neg (by decide)]
  refine wpAny_bind (HT.slicePart_ pa (wpAny_bind (HT.slicePart_ pb (wpAny_bind (wpAny_pure ?_)))))
  show wpAny _ _ (match Builtin.Slice.sliceAdjust none none (-1) (m : Int) with | (x, y) => pure (x, (-1 : Int), Builtin.Slice.slicePlaces x y (-1))) _ _ s
  rw [adj_back m]
  show wpAny _ _ (pure ((m : Int) - 1, (-1 : Int), Builtin.Slice.slicePlaces ((m : Int) - 1) (-1) (-1))) _ _ s
  rw [places_back]
  exact wpAny_pure h
theorem item_back {t q : Addr} {vals : List Value} {va vb vc : Value} {Q : Value → Shared → Prop} (hT : IsTup s.heap t vals.toArray) (hs : s.heap.IsSliceOf q va vb vc) (pa : IsPart va none) (pb : IsPart vb none) (pc : IsPart vc (some (-1)))
    (h : Q (.ref s.heap.objs.size) { s with heap := s.heap.push { cls := .type "tuple", data := .seq vals.reverse.toArray } }) (hz : vals.length ≤ sizeLine) : wpAny (model prog w) A (getItem (.ref t) (.ref q)) Q E s := by
  obtain ⟨o, ho, hc, hd⟩ := id hs
  have hq : s.TypeIs (.ref q) "slice" := ⟨o, ho, hc⟩
  have fits : sizeOk (.seq vals.reverse.toArray) := by
    show vals.reverse.toArray.size ≤ sizeLine
    rw [List.size_toArray, List.length_reverse]
    exact hz
  unfold getItem
  try with_reducible refine wpAny_holding ?_
  first | refine wpAny_bind (wpAny_pure ?_) | skip
  refine wpAny_bind (wpAny_sequenceKey hT.typeIs (by decide) ?_)
  refine wpAny_bind (wpAny_callSpecial?_slot (name := Str.ofString "__getitem__") hT.typeIs PyProof.Rows.slot_tuple_getitem (wpAny_call_entry PyProof.Rows.slot_tuple_getitem hT.typeIs entry_tuple_getitem ?_ (args_tuple_getitem _ _)))
  show wpAny _ _ (Builtin.Tuple.tupleItemsOf (.ref t) >>= _) _ _ s
  refine wpAny_bind (tupleItemsOf_ hT ?_)
  refine wpAny_bind (wpAny_typeOf hq ?_)
  rw [if_pos (by decide)]
  have hz2 : vals.toArray.size = vals.length := by simp
  refine wpAny_bind (applied_back (m := vals.toArray.size) hs pa pb pc ?_)
  have no : ¬ ((((vals.toArray.size : Nat) : Int) - 1 == 0 && (-1 : Int) == 1 && vals.toArray.size == vals.toArray.size) = true) := by simp
  show wpAny _ _ (if (((vals.toArray.size : Nat) : Int) - 1 == 0 && (-1 : Int) == 1 && vals.toArray.size == vals.toArray.size) = true then _ else _) _ _ s
  rw [if_neg no, hz2, pick_back]
  first
    | exact wpAny_bind (m := Builtin.Tuple.tupleExact _) (wpAny_newObj_type (wpAny_pure ⟨_, rfl, wpAny_pure h⟩) fits)
    | exact wpAny_bind (m := Builtin.Tuple.tupleExact _) (wpAny_newObj_type (wpAny_bind (wpAny_pure (wpAny_pure ⟨_, rfl, wpAny_pure h⟩))) fits)
    | exact wpAny_bind (wpAny_bind (m := Builtin.Tuple.tupleExact _) (wpAny_newObj_type (wpAny_pure (wpAny_pure ⟨_, rfl, wpAny_pure h⟩)) fits))
    | exact wpAny_bind (wpAny_bind (m := Builtin.Tuple.tupleExact _) (wpAny_newObj_type (wpAny_pure ⟨_, rfl, wpAny_pure h⟩) fits))
end
section
variable {X : Cx}
/-- t[::-1], t a tuple -/
def tRevT (K : PySem.W.Frag) (te : TE) : TE := fun σ H Q => te σ H fun x H1 => ∃ a xs, x = .ref a ∧ SqT K H1 a xs ∧ ∀ p, H1 p = none → Q (.ref p) (upd H1 p (.tup xs.reverse))
theorem pe_revT {e : Expr} {te : TE} {k : Nat} {p1 p2 p3 pos : Pos} (he : PE X e te) : PE X (.Subscript e (.Slice none none (some (.UnaryOp .USub (.Constant (.int 1) k p1) p2)) p3) pos) (tRevT X.K te) := by
  refine ⟨fun pins s σ H Q I h => ?_⟩
  refine Subscript_ (thn (he.run pins s σ H _ I h) fun v s1 ⟨x, H1, I1, r1, q1⟩ => ?_)
  obtain ⟨a, xs, rfl, hx, q⟩ := q1
  cases r1
  have step : PO X (some (.UnaryOp .USub (.Constant (.int 1) k p1) p2)) (tPart (tUn (rU fun i => .int (-i)) (tC (.int 1)))) := po_some (pe_un un_neg pe_int)
  refine wpAny_Slice (thn (po_none.run pins s1 σ H1 (fun o G2 => o = none ∧ G2 = H1) I1 ⟨rfl, rfl⟩) fun va s2 ⟨l, G2, I2, pa, el, e2⟩ => ?_)
  subst el e2
  refine thn (po_none.run pins s2 σ G2 (fun o G3 => o = none ∧ G3 = G2) I2 ⟨rfl, rfl⟩) fun vb s3 ⟨u, G3, I3, pb, eu, e3⟩ => ?_
  subst eu e3
  refine thn (step.run pins s3 σ G3 (fun o G4 => o = some (-1) ∧ G4 = G3) I3 ⟨1, rfl, -1, rfl, rfl, rfl⟩) fun vc s4 ⟨o, G4, I4, pc, eo, e4⟩ => ?_
  subst eo e4
  have I5 : Inv X pins σ G4 { s4 with heap := s4.heap.push { cls := .type "slice", data := .fields #[va, vb, vc] } } := I4.kept (t' := s4.toks) fun b ob z => Heap.get?_push_of_some _ z
  obtain ⟨vals, r, ht, hz⟩ := I5.tuple hx
  have hl := r.length
  show wpAny (model X.prog X.w) X.A (subscriptTail e (.Slice none none (some (.UnaryOp .USub (.Constant (.int 1) k p1) p2)) p3) (.ref a) (.ref s4.heap.objs.size)) (EP X pins σ Q) X.xe { s4 with heap := s4.heap.push { cls := .type "slice", data := .fields #[va, vb, vc] } }
  refine tail_any (ops := [.ref a, .ref s4.heap.objs.size]) ht.typeIs (PyProof.Rows.slot_tuple_getitem.lookup) ?_ (by with_unfolding_all rfl)
  refine item_back ht (Heap.IsSliceOf.new _ va vb vc) pa pb pc ?_ (by omega)
  refine ⟨.ref _, _, I5.laid (t' := s4.toks) (o := .tup xs.reverse) (fun b ob z => Heap.get?_push_of_some _ z) (Nat.le_refl _) ?_, rfl, q _ (I5.hok.fresh (Nat.le_refl _))⟩
  exact ⟨by rw [List.length_reverse]; exact hz, _, r.reverse, IsTup.new _ _⟩
end
end G
end
section
set_option Elab.async false
set_option linter.all false
set_option maxRecDepth 100000
set_option maxHeartbeats 4000000
set_option exponentiation.threshold 100000
/-! The law's hand is made. -/
namespace G
open PySem PySem.Spec PyProof.Rows L2
theorem sqSame {K : PySem.W.Frag} {H H' : Hp} {a : Addr} {xs : List V} (s : Same H H') (h : SqL K H a xs) : SqL K H' a xs := by
  rcases h with (h | ⟨o, h⟩) | h
  · exact .inl (.inl (s _ _ h))
  · exact .inl (.inr ⟨o, s _ _ h⟩)
  · exact .inr h
section
variable {P : Program} {w : World} {K : PySem.W.Frag} {mg : Str → Option Value} {base : Heap}
def spHand (K : PySem.W.Frag) : Sp := fun vs H Q _ => ∃ (a : Addr) (zs : List Int), vs = [.ref a] ∧ SqL K H a (zs.map V.int) ∧ zs.length ≤ 63 ∧ ∀ (H' : Hp) (p c : Addr), Same H H' → HandOk H' p c → Q (.ref p) H'
theorem sc__law_hand : FnScope ["_law_script", "_law_total", "_law_k", "_law_cell"] ["_law_script"] (defScope s__law_hand) := ⟨rfl, rfl, rfl, by decide +kernel, rfl, by decide +kernel, by decide +kernel⟩
theorem ok_hand (T : Tx K mg) : Has P w K mg base 1 "_law_hand" ["_law_script"] (spHand K) := by
  refine has_of T.d__law_hand T.g__law_hand (fun _ _ _ _ _ _ us hl => match us, hl with | [_], _ => rfl) sc__law_hand (fun vs H Q E h => ?_) (fun cdv A outer s H vs Q E hr h => ?_)
  · obtain ⟨a, zs, rfl, _⟩ := h
    rfl
  obtain ⟨a, zs, rfl, hS, l63, k⟩ := h
  refine ⟨_, (pss_cons (ps_set (i := 1) sc__law_hand.nd rfl (Or.inl rfl) pe_int)
  (pss_cons (ps_for PassesOwn.never rfl (pi_enum (by rfl) T.n_enumerate (pa_cons (pv 0) pa_nil)) (pg_tup (by rfl) (pgs_cons (pg_name (i := 2) sc__law_hand.nd rfl (Or.inl rfl)) (pgs_cons (pg_name (i := 3) sc__law_hand.nd rfl (Or.inl rfl)) pgs_nil)))
    (pss_one (ps_set (i := 1) sc__law_hand.nd rfl (Or.inl rfl) (pe_op op_modN (pe_callTy call_int1 (by rfl) T.n_int (by decide +kernel) (pa_cons (pe_op op_add (pe_op op_mul (pv 1) pe_int) (pe_op op_mul (pe_callTy call_int1 (by rfl) T.n_int (by decide +kernel) (pa_cons (pv 3) pa_nil)) (pe_op op_add (pv 2) pe_int))) pa_nil)) pe_int))))
  (pss_one (ps_ret (pe_lst (pa_cons (pe_lc (own := [("_law_cell", 3)]) (g := gName 3) rfl sc__law_hand.nd (pi_list (pv 0)) (blkOk_by (own := [("_law_cell", 3)]) (N := ["_law_script", "_law_total", "_law_k", "_law_cell"]) (sc := defScope s__law_hand) (by decide +kernel)) (fun _ _ _ _ _ => (pg_name (i := 3) sc__law_hand.nd rfl (Or.inl rfl))) (fun _ _ _ _ _ => pts_nil) (fun _ _ _ _ _ => (pe_callB call_abs (by rfl) T.n_abs (by decide +kernel) (pa_cons (pe_callTy call_int1 (by rfl) T.n_int (by decide +kernel) (pa_cons (pv 3) pa_nil)) pa_nil)))) (pa_cons pe_int (pa_cons pe_int (pa_cons (pv 1) pa_nil))))))))), ?_⟩
  refine ⟨_, rfl, a, _, rfl, hS, ?_⟩
  refine for_it (walk_enum (K := K) (a := a) (xs := zs.map V.int)) (fun i σ H1 => ∃ (tot : Int) (v2 v3 : Option V), σ = [some (.ref a), some (.int tot), v2, v3] ∧ Same H H1) ⟨0, none, none, rfl, Same.refl H⟩ (fun i σ H1 _ ⟨_, _, _, _, z⟩ => sqSame z hS) ?_ ?_
  · rintro i pr σ H5 H6 hi ⟨tot, v2, v3, rfl, s5⟩ ⟨Tp, xi, xb, rfl, nT, rfl, exi, exb⟩
    cases exi
    obtain ⟨z, ez, rfl⟩ := ints_at exb
    rw [List.length_map] at hi
    have sT := same_new (o := HO.tup [V.int (i : Int), V.int z]) nT
    refine ⟨Tp, _, rfl, .inl (.inl upd_same), rfl, _, _, rfl, _, _, rfl, rfl, ?_⟩
    refine ⟨_, rfl, _, _, rfl, rfl, .inr ⟨by decide, by decide⟩, ?_⟩
    refine ⟨_, rfl, .inl ⟨_, rfl, _, rfl, _, _, rfl, rfl, _, _, rfl, rfl, .inr ⟨by omega, by omega⟩, _, _, rfl, rfl, .inl ⟨_, rfl, _, _, rfl, rfl, (by decide : (2147483629 : Int) ≠ 0), ?_⟩⟩⟩
    exact ⟨_, _, _, rfl, s5.trans sT⟩
  rintro σ H1 ⟨tot, v2, v3, rfl, s1⟩
  refine ⟨_, rfl, a, rfl, ⟨_, sqSame s1 hS⟩, fun D nD => ?_⟩
  refine lc_list (K := K) (a := a) (xs := zs.map V.int) (fun i H2 => Same H1 H2 ∧ ∃ ns : List Int, H2 D = some (.lst (ns.map V.int)) ∧ ns.length = i) ⟨same_new nD, [], upd_same, rfl⟩ (fun i H2 _ z => sqSame (s1.trans z.1) hS) ?_ ?_
  · rintro i v H2 hi ⟨s2, ns, hD, hl⟩
    obtain ⟨z, ez, rfl⟩ := ints_at hi
    have hi2 := (List.getElem?_eq_some_iff.mp ez).1
    refine ⟨rfl, _, rfl, .inl ⟨_, rfl, _, rfl, ?_⟩⟩
    refine ⟨_, hD, ?_, same_upd s2 nD, ns ++ [if z < 0 then -z else z], ?_, by rw [List.length_append, hl]; rfl⟩
    · rw [List.length_map]
      exact small1000 (by omega)
    · rw [upd_same, List.map_append]
      rfl
  rintro H2 ⟨s2, ns, hD, _⟩
  refine ⟨_, rfl, by show 4 ≤ sizeLine; decide, fun p np => ?_⟩
  have sp := same_new (o := HO.lst [V.ref D, V.int 0, V.int 0, V.int tot]) np
  exact k _ p D ((s1.trans s2).trans sp) ⟨0, 0, tot, ns, upd_same, sp _ _ hD, by omega⟩
end
end G
end
section
set_option Elab.async false
set_option linter.all false
set_option maxRecDepth 100000
set_option maxHeartbeats 16000000
set_option exponentiation.threshold 100000
/-! The law. -/
namespace G
open PySem PySem.Spec PyProof.Rows L2
theorem lit_rt {H : Hp} {t : Addr} {z : Int} (z0 : 0 < z) (h : H t = some (.tup [.int 1, .int z])) : Rt H (.ref t) (Rat.divInt 1 z) := by
  refine ⟨t, rfl, ?_⟩
  rw [← lowp_num z0, ← lowp_den z0]
  have e : Nat.gcd (1 : Int).natAbs z.natAbs = 1 := Nat.gcd_one_left _
  rw [e]
  show H t = some (.tup [.int (1 / 1), .int (z / 1)])
  rw [Int.ediv_one, Int.ediv_one]
  exact h
theorem lit_sz {z : Int} (z0 : 0 < z) (z1 : z ≤ 10 ^ 9) : Sz 30 (Rat.divInt 1 z) := Sz.low (by omega) (by decide) (by omega)
theorem A2.sub {α : Type} {R : V → α → Prop} {vs : List V} {qs : List α} (h : A2 R vs qs) (a n : Nat) : A2 R ((vs.drop a).take n) ((qs.drop a).take n) := by
  refine ⟨by rw [List.length_take, List.length_take, List.length_drop, List.length_drop, h.1], fun i v q e1 e2 => ?_⟩
  rw [List.getElem?_take, List.getElem?_drop] at e1 e2
  split at e1
  · rw [if_pos ‹_›] at e2
    exact h.2 _ _ _ e1 e2
  · cases e1
theorem A2.app {α : Type} {R : V → α → Prop} {vs us : List V} {qs rs : List α} (h : A2 R vs qs) (k : A2 R us rs) : A2 R (vs ++ us) (qs ++ rs) := by
  refine ⟨by rw [List.length_append, List.length_append, h.1, k.1], fun i v q e1 e2 => ?_⟩
  rw [List.getElem?_append] at e1 e2
  rw [← h.1] at e2
  by_cases c : i < vs.length
  · rw [if_pos c] at e1 e2
    exact h.2 _ _ _ e1 e2
  · rw [if_neg c] at e1 e2
    exact k.2 _ _ _ e1 e2
theorem fit_mir {T D : Nat} {qs : List Rat} (f : Fit T D qs) : Fit T D (mir qs) := fun q hq => by
  unfold mir at hq
  obtain ⟨r, hr, rfl⟩ := List.mem_map.mp (List.mem_reverse.mp hq)
  obtain ⟨a, b⟩ := f r hr
  exact ⟨by rw [Rat.neg_num, Int.natAbs_neg]; exact a, b⟩
section
variable {P : Program} {w : World} {K : PySem.W.Frag} {mg : Str → Option Value} {base : Heap}
def spLaw (K : PySem.W.Frag) : Sp := fun vs H Q _ => ∃ (a : Addr) (zs : List Int), vs = [.ref a] ∧ SqL K H a (zs.map V.int) ∧ zs.length ≤ 63 ∧ ∀ H' : Hp, Q (.bl true) H'
theorem sc_law : FnScope ["_law_script", "_law_hand_here", "_law_weights", "_law_speeds", "_law_many", "_law_row_here", "_law_ball", "_law_bounds", "_law_rates", "_law_little", "_law_shown", "_law_bound", "_law_rate", "_law_other", "_law_far", "_law_mirrored", "_law_turned", "_law_speed_here"] ["_law_script"] (defScope s_law) := ⟨rfl, rfl, rfl, by decide +kernel, rfl, by decide +kernel, by decide +kernel⟩
/-- as has_of, for a given def -/
theorem ok_of {k : Nat} {x qual : Str} {st : Stmt} {f : Addr} {fd : FuncData} {N ps : List Str} {sp : Sp} (F : FunD K x qual (defArgs st) (defBody st) (defScope st) [] [] f fd)
    (S : FnScope N ps (defScope st)) (len : ∀ vs H Q E, sp vs H Q E → vs.length = ps.length)
    (body : ∀ (cdv : Value) (A : Around) (outer : List Env) (s : Shared) (H : Hp) (vs : List V) (Q : VK) (E : XK), Room k (A.deeper (envOfC qual (defScope st) s.heap.objs.size f cdv)) → sp vs H Q E →
      ∃ t, PSs (cxOf CX0 P w K mg base N qual (defScope st) f cdv A outer s H E).nox (defBody st) t ∧ t { nx := fun _ z => Q .non z, rt := Q } (start N vs) H) : FnOk P w K mg base CX0 (k + 1) f fd ps sp := by
  refine F.ok S len fun cdv A outer s H vs Q E hr h => ?_
  obtain ⟨t, z, q⟩ := body cdv A outer s H vs Q E hr h
  exact ⟨t, z.nox, q⟩
theorem ok_law (T : Tx K mg) {f : Addr} {fd : FuncData} (F : FunD K "law" "law" (defArgs s_law) (defBody s_law) (defScope s_law) [] [] f fd) : FnOk P w K mg base CX0 10 f fd ["_law_script"] (spLaw K) := by
  have h__law_sub : Has P w K mg base _ "_law_sub" _ _ := ok_sub T
  have h_speed_bounds : Has P w K mg base _ "speed_bounds" _ _ := ok_bounds T
  have h__law_row : Has P w K mg base _ "_law_row" _ _ := ok_law_row T
  have h__law_speed : Has P w K mg base _ "_law_speed" _ _ := ok_speed T
  have h__law_right_at : Has P w K mg base _ "_law_right_at" _ _ := ok_right T
  have h__law_add : Has P w K mg base _ "_law_add" _ _ := ok_add T
  have h__law_pick : Has P w K mg base _ "_law_pick" _ _ := ok_pick T
  have h__law_low : Has P w K mg base _ "_law_low" _ _ := ok_low T
  have h__law_draw : Has P w K mg base _ "_law_draw" _ _ := ok_draw T
  have h__law_is_ratio : Has P w K mg base _ "_law_is_ratio" _ _ := ok_lratio T
  have h__law_stick_balls : Has P w K mg base _ "_law_stick_balls" _ _ := ok_stick T
  have h__law_hand : Has P w K mg base _ "_law_hand" _ _ := ok_hand T
  refine ok_of F sc_law (fun vs H Q E h => ?_) (fun cdv A outer s H vs Q E hr h => ?_)
  · obtain ⟨a, zs, rfl, _⟩ := h
    rfl
  obtain ⟨sa, zs, rfl, hS, l63, k⟩ := h
  refine ⟨_, (pss_cons (ps_set (i := 1) sc_law.nd rfl (Or.inl rfl) (pe_f h__law_hand hr (by rfl) (pa_cons (pv 0) pa_nil)))
  (pss_cons (ps_asg (pe_f h__law_stick_balls hr (by rfl) (pa_cons (pv 1) pa_nil)) (pg_tup (by rfl) (pgs_cons (pg_name (i := 2) sc_law.nd rfl (Or.inl rfl)) (pgs_cons (pg_name (i := 3) sc_law.nd rfl (Or.inl rfl)) pgs_nil))))
  (pss_cons (ps_set (i := 4) sc_law.nd rfl (Or.inl rfl) (pe_callB call_len_seq (by rfl) T.n_len (by decide +kernel) (pa_cons (pv 2) pa_nil)))
  (pss_cons (ps_set (i := 5) sc_law.nd rfl (Or.inl rfl) (pe_f h__law_row hr (by rfl) (pa_cons (pv 1) (pa_cons (pv 2) (pa_cons (pv 3) (pa_cons pe_bl pa_nil))))))
  (pss_cons (ps_set (i := 6) sc_law.nd rfl (Or.inl rfl) (pe_f h__law_draw hr (by rfl) (pa_cons (pv 1) (pa_cons (pv 4) pa_nil))))
  (pss_cons (ps_set (i := 7) sc_law.nd rfl (Or.inl rfl) (pe_f h_speed_bounds hr (by rfl) (pa_cons (pv 5) (pa_cons (pv 6) pa_nil))))
  (pss_cons (ps_if (PW.pt (pw_or (pt_not (pt_val (pe_callB call_isi (by rfl) T.n_isinstance (by decide +kernel) (pa_cons (pv 7) (pa_cons (pe_bltn (v := .ty "tuple") (by rfl) T.n_tuple (by decide +kernel) rfl) pa_nil))))) (pw_or1 (pt_cmpR op_ne (pe_callB call_len_seq (by rfl) T.n_len (by decide +kernel) (pa_cons (pv 7) pa_nil)) (pe_op op_sub (pv 4) pe_int) (nomark _)))))
  (pss_one (ps_ret pe_bl))
  pss_nil)
  (pss_cons (ps_if (pt_cmpR (op_neD hr.units) (pe_lc (own := [("_law_bound", 11)]) (g := gName 11) rfl sc_law.nd (pi_tup (pv 7)) (blkOk_by (own := [("_law_bound", 11)]) (N := ["_law_script", "_law_hand_here", "_law_weights", "_law_speeds", "_law_many", "_law_row_here", "_law_ball", "_law_bounds", "_law_rates", "_law_little", "_law_shown", "_law_bound", "_law_rate", "_law_other", "_law_far", "_law_mirrored", "_law_turned", "_law_speed_here"]) (sc := defScope s_law) (by decide +kernel)) (fun _ _ _ _ _ => (pg_name (i := 11) sc_law.nd rfl (Or.inl rfl))) (fun _ _ _ _ _ => pts_one (PW.pt (pw_and (pt_cmpR op_notN (pv 11) pe_non (nomark _)) (pw_and1 (pt_not (pt_val (pe_f h__law_is_ratio hr (by rfl) (pa_cons (pv 11) pa_nil)))))))) (fun _ _ _ _ _ => (pv 11))) (pe_lst pa_nil) (nomark _))
  (pss_one (ps_ret pe_bl))
  pss_nil)
  (pss_cons (ps_set (i := 8) sc_law.nd rfl (Or.inl rfl) (pe_lst (pa_cons (pe_ix ix_list (pv 3) (pv 6) (fun _ _ => rfl)) (pa_cons (pe_f h__law_speed hr (by rfl) (pa_cons (pv 1) (pa_cons pe_int pa_nil))) (pa_cons (pe_tup (pa_cons (pe_un un_neg (pe_op op_pow pe_int pe_int)) (pa_cons pe_int pa_nil))) (pa_cons (pe_tup (pa_cons (pe_op op_pow pe_int pe_int) (pa_cons pe_int pa_nil))) pa_nil))))))
  (pss_cons (ps_expr (pe_bm PySem.F.plainAttrs_list PySem.F.slot_list_append PySem.F.type_list_append mt_append (pv 8) (pa_cons (pe_f h__law_low hr (by rfl) (pa_cons (pe_op op_sub (pe_f h__law_draw hr (by rfl) (pa_cons (pv 1) (pa_cons pe_int pa_nil))) pe_int) (pa_cons (pe_op op_add pe_int (pe_f h__law_draw hr (by rfl) (pa_cons (pv 1) (pa_cons pe_int pa_nil)))) pa_nil))) pa_nil)))
  (pss_cons (ps_set (i := 9) sc_law.nd rfl (Or.inl rfl) (pe_tup (pa_cons pe_int (pa_cons (pe_f h__law_pick hr (by rfl) (pa_cons (pv 1) (pa_cons (pe_lst (pa_cons pe_int (pa_cons (pe_op op_pow pe_int pe_int) (pa_cons (pe_op op_pow pe_int pe_int) (pa_cons (pe_op op_pow pe_int pe_int) (pa_cons (pe_op op_pow pe_int pe_int) (pa_cons (pe_op op_pow pe_int pe_int) (pa_cons (pe_op op_pow pe_int pe_int) (pa_cons (pe_op op_pow pe_int pe_int) (pa_cons (pe_op op_pow pe_int pe_int) pa_nil)))))))))) pa_nil))) pa_nil))))
  (pss_cons (ps_set (i := 10) sc_law.nd rfl (Or.inl rfl) (pe_ifExp (pt_cmpR op_lt (pv 4) pe_int (nomark _)) (pv 7) (pe_op op_catA (pe_slice sl_tupA (pv 7) po_none (po_some pe_int)) (pe_slice sl_tupA (pv 7) (po_some (pe_op op_sub (pv 4) pe_int)) po_none))))
  (pss_cons (ps_for PassesOwn.never rfl (pi_tup (pv 10)) (pg_name (i := 11) sc_law.nd rfl (Or.inl rfl))
  (pss_one (ps_if (pt_cmpR op_notN (pv 11) pe_non (nomark _))
  (pss_one (ps_set (i := 8) sc_law.nd rfl (Or.inl rfl) (pe_op op_cat (pv 8) (pe_lst (pa_cons (pv 11) (pa_cons (pe_f h__law_add hr (by rfl) (pa_cons (pv 11) (pa_cons (pv 9) pa_nil))) (pa_cons (pe_f h__law_sub hr (by rfl) (pa_cons (pv 11) (pa_cons (pv 9) pa_nil))) pa_nil)))))))
  pss_nil)))
  (pss_cons (ps_for PassesOwn.never rfl (pi_list (pv 8)) (pg_name (i := 12) sc_law.nd rfl (Or.inl rfl))
  (pss_one (ps_if (pt_not (pt_val (pe_f h__law_right_at hr (by rfl) (pa_cons (pv 1) (pa_cons (pv 5) (pa_cons (pv 2) (pa_cons (pv 3) (pa_cons (pv 6) (pa_cons (pv 7) (pa_cons (pv 12) pa_nil))))))))))
  (pss_one (ps_ret pe_bl))
  pss_nil)))
  (pss_cons (ps_set (i := 13) sc_law.nd rfl (Or.inl rfl) (pe_callTy call_list_of (by rfl) T.n_list (by decide +kernel) (pa_cons (pv 3) pa_nil)))
  (pss_cons (ps_asg (pe_f h__law_speed hr (by rfl) (pa_cons (pv 1) (pa_cons pe_int pa_nil))) (pg_sub (pv 13) (pv 6) set_list))
  (pss_cons (ps_if (pt_cmpR (op_neD hr.units) (pe_f h_speed_bounds hr (by rfl) (pa_cons (pe_f h__law_row hr (by rfl) (pa_cons (pv 1) (pa_cons (pv 2) (pa_cons (pv 13) (pa_cons pe_bl pa_nil))))) (pa_cons (pv 6) pa_nil))) (pv 7) (nomark _))
  (pss_one (ps_ret pe_bl))
  pss_nil)
  (pss_cons (ps_if (PW.pt (pw_or (pt_cmpR (op_neD hr.units) (pe_fld (pv 5) rfl) (pe_callTy call_tup_any (by rfl) T.n_tuple (by decide +kernel) (pa_cons (pv 3) pa_nil)) (nomark _)) (pw_or1 (pt_cmpR (op_neD hr.units) (pe_f h_speed_bounds hr (by rfl) (pa_cons (pv 5) (pa_cons (pv 6) pa_nil))) (pv 7) (nomark _)))))
  (pss_one (ps_ret pe_bl))
  pss_nil)
  (pss_cons (ps_set (i := 14) sc_law.nd rfl (Or.inl rfl) (pe_op op_sub (pe_op op_sub (pv 4) pe_int) (pv 6)))
  (pss_cons (ps_set (i := 15) sc_law.nd rfl (Or.inl rfl) (pe_f h_speed_bounds hr (by rfl) (pa_cons (pe_f h__law_row hr (by rfl) (pa_cons (pv 1) (pa_cons (pe_revL (pv 2)) (pa_cons (pe_lc (own := [("_law_speed_here", 17)]) (g := gName 17) rfl sc_law.nd (pi_list (pe_revL (pv 3))) (blkOk_by (own := [("_law_speed_here", 17)]) (N := ["_law_script", "_law_hand_here", "_law_weights", "_law_speeds", "_law_many", "_law_row_here", "_law_ball", "_law_bounds", "_law_rates", "_law_little", "_law_shown", "_law_bound", "_law_rate", "_law_other", "_law_far", "_law_mirrored", "_law_turned", "_law_speed_here"]) (sc := defScope s_law) (by decide +kernel)) (fun _ _ _ _ _ => (pg_name (i := 17) sc_law.nd rfl (Or.inl rfl))) (fun _ _ _ _ _ => pts_nil) (fun _ _ _ _ _ => (pe_f h__law_sub hr (by rfl) (pa_cons (pe_tup (pa_cons pe_int (pa_cons pe_int pa_nil))) (pa_cons (pv 17) pa_nil))))) (pa_cons pe_bl pa_nil))))) (pa_cons (pv 14) pa_nil))))
  (pss_cons (ps_setLc (i := 16) (own := [("_law_bound", 11)]) (g := gName 11) rfl sc_law.nd rfl rfl (sw_true rfl rfl rfl (by decide +kernel)) (pi_tup (pe_revT (pv 7))) (blkOk_by (own := [("_law_bound", 11)]) (N := ["_law_script", "_law_hand_here", "_law_weights", "_law_speeds", "_law_many", "_law_row_here", "_law_ball", "_law_bounds", "_law_rates", "_law_little", "_law_shown", "_law_bound", "_law_rate", "_law_other", "_law_far", "_law_mirrored", "_law_turned", "_law_speed_here"]) (sc := defScope s_law) (by decide +kernel)) (fun _ _ _ _ _ => (pg_name (i := 11) sc_law.nd rfl (Or.inl rfl))) (fun _ _ _ _ _ => pts_nil) (fun _ _ _ _ _ => (pe_ifExp (pt_cmpR op_isN (pv 11) pe_non (nomark _)) pe_non (pe_f h__law_sub hr (by rfl) (pa_cons (pe_tup (pa_cons pe_int (pa_cons pe_int pa_nil))) (pa_cons (pv 11) pa_nil))))))
  (pss_one (ps_ret (pe_cmpR (op_eqD hr.units) (pv 15) (pe_callTy call_tup_any (by rfl) T.n_tuple (by decide +kernel) (pa_cons (pv 16) pa_nil)) (nomark _))))))))))))))))))))))))), ?_⟩
  -- the hand, the balls
  refine ⟨_, rfl, sa, zs, rfl, hS, l63, fun H1 p c s1 h1 => ?_⟩
  refine ⟨_, rfl, p, c, rfl, h1, fun H2 t aw asp ws qs o2 h2 ht B2 => ?_⟩
  refine ⟨t, _, rfl, .inl (.inl ht), rfl, _, _, rfl, _, _, rfl, rfl, ?_⟩
  refine ⟨_, rfl, aw, _, rfl, .inl (.inl (.inl B2.w)), ?_⟩
  obtain ⟨xs2, hx2, hA2⟩ := B2.x
  have l2 := B2.l2
  have l40 := B2.l40
  have ql := B2.len
  have fit := B2.fit
  have en : ((ws.map V.int).length : Int) = (ws.length : Int) := by rw [List.length_map]
  refine ⟨_, rfl, _, rfl, _, rfl, p, c, aw, asp, ws, xs2, qs, 5, rfl, h2, B2.w, B2.wp, hx2, B2.xp, hA2, (fun q hq => fit_sz fit hq), by rw [hA2.1, ql], l2, l40, B2.p9, by decide, fun H3 r o3 h3 R3 => ?_⟩
  have B3 := B2.off o3 h2
  refine ⟨_, rfl, _, rfl, p, c, _, rfl, by omega, by omega, h3, fun H4 br o4 h4 b0 b1 => ?_⟩
  obtain ⟨b, rfl⟩ : ∃ b : Nat, br = (b : Int) := ⟨br.toNat, by omega⟩
  have hb : b < ws.length := by omega
  have B4 := B3.off o4 h3
  have R4 := R3.off o4 h3
  refine ⟨_, rfl, _, rfl, r, ws, qs, b, rfl, R4, hb, fit, fun H5 bt bvs os s5 hbt hbA hBds hsz => ?_⟩
  have I5 : RightIn K H5 p c r aw asp bt ws qs b os bvs := ⟨h4.same s5, R4.same s5, B4.off (.of s5) h4, hb, hbt, hbA, hBds, hsz⟩
  have ol := hBds.1
  have bl := hbA.1
  clear s1 h1 o2 h2 ht B2 hx2 hA2 o3 h3 R3 B3 o4 h4 B4 R4 s5
  -- the bounds' kind
  refine ⟨_, rfl, _, _, _, _, _, rfl, .ty _, .base (.tup hbt), kit_ty (b := "tuple") (r := true) (by decide +kernel), true, rfl, iteF ?_⟩
  refine ⟨_, rfl, bt, _, rfl, .inr (.inl (.inl hbt)), _, rfl, _, _, rfl, rfl, rfl, _, rfl, ?_⟩
  rw [decide_eq_true (show V.int (bvs.length : Int) = V.int (((ws.map V.int).length : Int) - 1) by rw [en]; congr 1; omega)]
  refine iteF ?_
  refine ⟨_, rfl, bt, rfl, ⟨_, .inl (.inl hbt)⟩, fun D nD => ?_⟩
  refine lc_tup (K := K) (a := bt) (xs := bvs) (fun i H6 => Same H5 H6 ∧ H6 D = some (.lst [])) ⟨same_new nD, upd_same⟩ (fun i H6 _ z => .inl (.inl (z.1 _ _ hbt))) ?_ ?_
  · rintro i v H6 hi ⟨s6, hD⟩
    obtain ⟨o, eo, ho⟩ := hbA.get hi
    refine ⟨rfl, _, rfl, rfl, _, rfl, ?_⟩
    cases o with
    | none =>
      obtain rfl : v = .non := ho
      exact iteF ⟨s6, hD⟩
    | some q =>
      rw [decide_eq_false (Rt.notNon ho)]
      refine iteT ⟨_, rfl, v, q, 57, rfl, Rt.same s6 ho, hsz q (List.mem_of_getElem? eo), by decide, fun H7 s7 => ?_⟩
      exact ⟨true, rfl, s6.trans s7, s7 _ _ hD⟩
  rintro H6 ⟨s6, hD⟩
  refine ⟨Nat.zero_le _, fun E1 nE => ?_⟩
  have sE := same_new (o := HO.lst []) nE
  refine ⟨.list [], .list [], .lst (.inl (.inl (sE _ _ hD))) .nil, .lst (.inl (.inl upd_same)) .nil, by decide +kernel, by decide +kernel, _, rfl, ?_⟩
  refine iteF ?_
  have I7 := I5.off (Off.of (s6.trans sE)) (I5.ho.same (s6.trans sE))
  generalize upd H6 E1 (.lst []) = H7 at I7
  clear sE s6 hD nD nE I5 hbt hbA
  -- the rates
  obtain ⟨xs, hx, hA⟩ := I7.ba.x
  have xl : xs.length = ws.length := by rw [hA.1, ql]
  have ex : xs[b]? = some (xs[b]'(by omega)) := List.getElem?_eq_getElem _
  generalize xs[b]'(by omega) = v1 at ex
  obtain ⟨u1, eu1, hv1⟩ := hA.get ex
  have z1 : Sz 88 u1 := (fit_sz fit (List.mem_of_getElem? eu1)).mono (by decide)
  refine ⟨_, rfl, _, rfl, asp, _, _, _, rfl, rfl, .inl (.inl hx), atI_nat ex, ?_⟩
  refine ⟨_, rfl, p, c, 20, rfl, by decide, by decide, I7.ho, fun H8 v2 u2 o8 h8 hv2 hf2 => ?_⟩
  have I8 := I7.off o8 h8
  replace hv1 := hv1.off o8 I7.ho
  have z2 : Sz 88 u2 := (fit_sz (qs := [u2]) (fun q hq => by rw [List.mem_singleton.mp hq]; exact hf2) List.mem_cons_self).mono (by decide)
  clear I7 o8 hx hA hf2
  refine ⟨_, _, rfl, rfl, ⟨by decide, by decide, by decide⟩, _, rfl, by show 2 ≤ sizeLine; decide, fun t3 n3 => ?_⟩
  have s9 := same_new (o := HO.tup [V.int (-(10 ^ (9 : Int).toNat)), V.int 1]) n3
  have hv3 : Rt (upd H8 t3 (.tup [V.int (-(10 ^ (9 : Int).toNat)), V.int 1])) (.ref t3) ((-(10 ^ (9 : Int).toNat) : Int) : Rat) := ⟨t3, rfl, upd_same⟩
  have z3 : Sz 88 ((-(10 ^ (9 : Int).toNat) : Int) : Rat) := Sz.int (by decide +kernel) (by decide)
  generalize ((-(10 ^ (9 : Int).toNat) : Int) : Rat) = u3 at hv3 z3
  have h9 := h8.same s9
  have I9 := I8.off (.of s9) h9
  replace hv1 := hv1.same s9
  replace hv2 := hv2.same s9
  generalize upd H8 t3 (.tup [V.int (-(10 ^ (9 : Int).toNat)), V.int 1]) = H9 at hv1 hv2 hv3 h9 I9
  refine ⟨_, _, rfl, rfl, ⟨by decide, by decide, by decide⟩, by show 2 ≤ sizeLine; decide, fun t4 n4 => ?_⟩
  have s10 := same_new (o := HO.tup [V.int (10 ^ (9 : Int).toNat), V.int 1]) n4
  have hv4 : Rt (upd H9 t4 (.tup [V.int (10 ^ (9 : Int).toNat), V.int 1])) (.ref t4) ((10 ^ (9 : Int).toNat : Int) : Rat) := ⟨t4, rfl, upd_same⟩
  have z4 : Sz 88 ((10 ^ (9 : Int).toNat : Int) : Rat) := Sz.int (by decide +kernel) (by decide)
  generalize ((10 ^ (9 : Int).toNat : Int) : Rat) = u4 at hv4 z4
  have h10 := h9.same s10
  have I10 := I9.off (.of s10) h10
  replace hv1 := hv1.same s10
  replace hv2 := hv2.same s10
  replace hv3 := hv3.same s10
  generalize upd H9 t4 (.tup [V.int (10 ^ (9 : Int).toNat), V.int 1]) = H10 at hv1 hv2 hv3 hv4 h10 I10
  clear s9 s10 h8 I8 h9 I9 n3 n4
  refine ⟨by show 4 ≤ sizeLine; decide, fun RL nRL => ?_⟩
  have s11 := same_new (o := HO.lst [v1, v2, .ref t3, .ref t4]) nRL
  have hRL : upd H10 RL (.lst [v1, v2, .ref t3, .ref t4]) RL = some (.lst [v1, v2, .ref t3, .ref t4]) := upd_same
  obtain ⟨nRp, nRc⟩ := h10.fresh nRL
  have h11 := h10.same s11
  have I11 := I10.off (.of s11) h11
  have hRA : A2 (Rt (upd H10 RL (.lst [v1, v2, .ref t3, .ref t4]))) [v1, v2, .ref t3, .ref t4] [u1, u2, u3, u4] :=
    (((A2.nil.snoc (hv1.same s11)).snoc (hv2.same s11)).snoc (hv3.same s11)).snoc (hv4.same s11)
  have hRZ : ∀ u, u ∈ [u1, u2, u3, u4] → Sz 88 u := fun u hu => by
    simp at hu
    rcases hu with rfl | rfl | rfl | rfl <;> assumption
  have hRl : [u1, u2, u3, u4].length = 4 := rfl
  generalize upd H10 RL (.lst [v1, v2, .ref t3, .ref t4]) = H11 at hRL h11 I11 hRA s11
  generalize [v1, v2, V.ref t3, V.ref t4] = rvs at hRL hRA
  generalize [u1, u2, u3, u4] = us at hRA hRZ hRl
  clear hv1 hv2 hv3 hv4 z1 z2 z3 z4 h10 eu1 ex
  -- one more rate
  refine ⟨_, rfl, .inl ⟨rfl, _, .inl (.inl hRL)⟩, ?_⟩
  refine ⟨_, rfl, p, c, _, rfl, by decide, by decide, h11, fun H12 d1 o12 h12 x0 x1 => ?_⟩
  refine ⟨_, _, rfl, rfl, ?_⟩
  refine ⟨_, rfl, p, c, _, rfl, by decide, by decide, h12, fun H13 d2 o13 h13 y0 y1 => ?_⟩
  refine ⟨_, _, rfl, rfl, _, _, rfl, by omega, lt_mono (n := 8) (by omega) (by decide), fun H14 v5 s14 hv5 => ?_⟩
  have h14 := h13.same s14
  have o14 := (o12.trans o13).trans (Off.of s14)
  have I14 := I11.off o14 h14
  have hRL14 := o14 _ _ nRp hRL
  have hRA14 := hRA.imp fun v q z => z.off o14 h11
  have z5 : Sz 88 (Rat.divInt (d1 - 1000) (1 + d2)) := Sz.low (by omega) (lt_mono (n := 11) (by omega) (by decide)) (lt_mono (n := 8) (by omega) (by decide))
  refine ⟨RL, _, _, rfl, rfl, hRL14, small1000 (by rw [hRA14.1, hRl]; omega), ?_⟩
  have hA15 := (hRA14.snoc hv5).imp fun v q (z : Rt H14 v q) => z.keepL (o := .lst (rvs ++ [v5])) hRL14
  have hZ15 : ∀ u, u ∈ us ++ [Rat.divInt (d1 - 1000) (1 + d2)] → Sz 88 u := fun u hu => by
    rcases List.mem_append.mp hu with y | y
    · exact hRZ u y
    · rw [List.mem_singleton.mp y]
      exact z5
  have hl15 : (us ++ [Rat.divInt (d1 - 1000) (1 + d2)]).length = 5 := by rw [List.length_append, hRl]; rfl
  have hRL15 : upd H14 RL (.lst (rvs ++ [v5])) RL = some (.lst (rvs ++ [v5])) := upd_same
  have h15 : HandOk (upd H14 RL (.lst (rvs ++ [v5]))) p c := h14.put nRp nRc
  have I15 : RightIn K (upd H14 RL (.lst (rvs ++ [v5]))) p c r aw asp bt ws qs b os bvs := I10.off (((Off.of s11).trans o14).put nRL) h15
  generalize upd H14 RL (.lst (rvs ++ [v5])) = H15 at hRL15 h15 I15 hA15
  generalize rvs ++ [v5] = rvs2 at hRL15 hA15
  generalize us ++ [Rat.divInt (d1 - 1000) (1 + d2)] = us2 at hA15 hZ15 hl15
  clear I10 s11 nRL h11 I11 hRL hRA hRZ hRl h12 o12 h13 o13 s14 hv5 h14 o14 I14 hRL14 hRA14 z5 x0 x1 y0 y1
  -- little
  refine ⟨_, rfl, _, _, rfl, rfl, ⟨by decide, by decide, by decide⟩, _, _, rfl, rfl, ⟨by decide, by decide, by decide⟩, _, _, rfl, rfl, ⟨by decide, by decide, by decide⟩, _, _, rfl, rfl, ⟨by decide, by decide, by decide⟩, _, _, rfl, rfl, ⟨by decide, by decide, by decide⟩,
    _, _, rfl, rfl, ⟨by decide, by decide, by decide⟩, _, _, rfl, rfl, ⟨by decide, by decide, by decide⟩, _, _, rfl, rfl, ⟨by decide, by decide, by decide⟩, by show 9 ≤ sizeLine; decide, fun t6 n6 => ?_⟩
  have s16 := same_new (o := HO.lst ([10, 10 ^ (2 : Int).toNat, 10 ^ (3 : Int).toNat, 10 ^ (4 : Int).toNat, 10 ^ (5 : Int).toNat, 10 ^ (6 : Int).toNat, 10 ^ (7 : Int).toNat, 10 ^ (8 : Int).toNat, 10 ^ (9 : Int).toNat].map V.int)) n6
  refine ⟨p, c, t6, [10, 10 ^ (2 : Int).toNat, 10 ^ (3 : Int).toNat, 10 ^ (4 : Int).toNat, 10 ^ (5 : Int).toNat, 10 ^ (6 : Int).toNat, 10 ^ (7 : Int).toNat, 10 ^ (8 : Int).toNat, 10 ^ (9 : Int).toNat], rfl, h15.same s16, upd_same, (h15.fresh n6).1, by decide, by decide, fun H17 z o17 h17 mz => ?_⟩
  have hz : 0 < z ∧ z ≤ 10 ^ 9 := (show ∀ x, x ∈ ([10, 10 ^ (2 : Int).toNat, 10 ^ (3 : Int).toNat, 10 ^ (4 : Int).toNat, 10 ^ (5 : Int).toNat, 10 ^ (6 : Int).toNat, 10 ^ (7 : Int).toNat, 10 ^ (8 : Int).toNat, 10 ^ (9 : Int).toNat] : List Int) → 0 < x ∧ x ≤ 10 ^ 9 by decide +kernel) z mz
  replace o17 := (Off.of s16).trans o17
  have I17 := I15.off o17 h17
  have hRL17 := o17 _ _ nRp hRL15
  have hA17 := hA15.imp fun v q z => z.off o17 h15
  clear mz s16 n6 o17 I15 h15 hRL15 hA15
  refine ⟨by show 2 ≤ sizeLine; decide, fun tl nl => ?_⟩
  have s18 := same_new (o := HO.tup [V.int 1, V.int z]) nl
  have hlit : Rt (upd H17 tl (.tup [V.int 1, V.int z])) (.ref tl) (Rat.divInt 1 z) := lit_rt hz.1 upd_same
  have zlit := lit_sz hz.1 hz.2
  generalize Rat.divInt 1 z = ql1 at hlit zlit
  have h18 := h17.same s18
  have I18 := I17.off (.of s18) h18
  have hRL18 := s18 _ _ hRL17
  have hA18 := hA17.imp fun v q z => z.same s18
  generalize upd H17 tl (.tup [V.int 1, V.int z]) = H18 at hlit h18 I18 hRL18 hA18
  clear s18 nl I17 h17 hRL17 hA17 hz
  -- shown
  refine ⟨_, rfl, _, _, rfl, rfl, _, rfl, ?_⟩
  by_cases cm : ((ws.map V.int).length : Int) < 13
  rw [decide_eq_true cm]
  refine iteT ⟨_, rfl, ?_⟩
  obtain ⟨H19, e19⟩ : ∃ H19, H19 = H18 := ⟨_, rfl⟩
  subst e19
  have hst := I18.ht
  have hsA := I18.ha
  have hss : ∀ o, o ∈ os → o ∈ os := fun o h => h
  have hsl : os.length ≤ 40 := by omega
  have h19 := h18
  have I19 := I18
  have hRL19 := hRL18
  have hA19 := hA18
  have hlit19 := hlit
  rotate_left
  rw [decide_eq_false cm]
  have c1 : cutV bvs none (some 2) = bvs.take 2 := cut_to bvs 2 (by omega)
  have c2 : cutV bvs (some (((ws.map V.int).length : Int) - 3)) none = bvs.drop (ws.length - 3) := by
    rw [show ((ws.map V.int).length : Int) - 3 = ((ws.length - 3 : Nat) : Int) by omega]
    exact cut_from bvs _ (by omega)
  refine iteF ⟨_, rfl, 2, rfl, bt, bvs, rfl, .inl (.inl I18.ht), fun wh => absurd wh.2 ?_, fun _ p1 n1 => ?_⟩
  · have e : HT.sIx bvs.length bvs.length (some 2) = min 2 bvs.length := HT.sIx_nat _ _ 2
    omega
  have q1 := same_new (o := HO.tup (cutV bvs none (some 2))) n1
  have hp1 : upd H18 p1 (.tup (cutV bvs none (some 2))) p1 = some (.tup (bvs.take 2)) := by rw [upd_same, c1]
  generalize upd H18 p1 (.tup (cutV bvs none (some 2))) = G1 at q1 hp1
  refine ⟨_, rfl, _, rfl, _, _, rfl, rfl, _, rfl, bt, bvs, rfl, .inl (.inl (q1 _ _ I18.ht)), fun wh => absurd wh.1 ?_, fun _ p2 n2 => ?_⟩
  · show ¬ HT.sIx bvs.length 0 (some (((ws.map V.int).length : Int) - 3)) = 0
    rw [show ((ws.map V.int).length : Int) - 3 = ((ws.length - 3 : Nat) : Int) by omega, HT.sIx_nat]
    omega
  have q2 := same_new (o := HO.tup (cutV bvs (some (((ws.map V.int).length : Int) - 3)) none)) n2
  have hp2 : upd G1 p2 (.tup (cutV bvs (some (((ws.map V.int).length : Int) - 3)) none)) p2 = some (.tup (bvs.drop (ws.length - 3))) := by rw [upd_same, c2]
  generalize upd G1 p2 (.tup (cutV bvs (some (((ws.map V.int).length : Int) - 3)) none)) = G2 at q2 hp2
  refine ⟨p1, p2, bvs.take 2, bvs.drop (ws.length - 3), rfl, rfl, .inl (.inl (q2 _ _ hp1)), .inl (.inl hp2), ?_, fun e => ?_, fun _ e => ?_, fun _ _ st nst => ?_⟩
  · rw [List.length_take, List.length_drop]
    exact Nat.le_of_lt (small1000 (by omega))
  · have := congrArg List.length e
    rw [List.length_take, List.length_nil] at this
    omega
  · have := congrArg List.length e
    rw [List.length_drop, List.length_nil] at this
    omega
  have q3 := (q1.trans q2).trans (same_new (o := HO.tup (bvs.take 2 ++ bvs.drop (ws.length - 3))) nst)
  have hst : upd G2 st (.tup (bvs.take 2 ++ bvs.drop (ws.length - 3))) st = some (.tup (bvs.take 2 ++ bvs.drop (ws.length - 3))) := upd_same
  generalize upd G2 st (.tup (bvs.take 2 ++ bvs.drop (ws.length - 3))) = H19 at q3 hst
  have h19 := h18.same q3
  have I19 := I18.off (Off.of q3) h19
  have hRL19 := q3 _ _ hRL18
  have hA19 := hA18.imp fun v q z => z.same q3
  have hlit19 := hlit.same q3
  have hsA : A2 (Ot H19) (bvs.take 2 ++ bvs.drop (ws.length - 3)) (os.take 2 ++ os.drop (ws.length - 3)) := by
    refine A2.app (I19.ha.sub 0 2) ?_
    have := I19.ha.sub (ws.length - 3) bvs.length
    rw [List.take_of_length_le (by rw [List.length_drop]; omega), List.take_of_length_le (by rw [List.length_drop]; omega)] at this
    exact this
  have hss : ∀ o, o ∈ os.take 2 ++ os.drop (ws.length - 3) → o ∈ os := fun o h => by
    rcases List.mem_append.mp h with h | h
    · exact List.mem_of_mem_take h
    · exact List.mem_of_mem_drop h
  have hsl : (os.take 2 ++ os.drop (ws.length - 3)).length ≤ 40 := by
    rw [List.length_append, List.length_take, List.length_drop]
    omega
  rotate_left
  all_goals
    clear h18 I18 hRL18 hA18 hlit
    refine ⟨_, rfl, _, rfl, ⟨_, .inl (.inl hst)⟩, ?_⟩
    have row19 := I19.row
    refine for_tup (K := K) (fun i σ H' => ∃ (v11 : Option V) (RL : Addr) (rvs : List V) (us : List Rat) (lv : V) (sv : V), σ = [some (.ref sa), some (.ref p), some (.ref aw), some (.ref asp), some (.int ((ws.map V.int).length : Int)), some (.ref r), some (.int (b : Int)), some (.ref bt), some (.ref RL), some (.ref tl), some sv, v11, none, none, none, none, none, none] ∧
      Same H19 H' ∧ RL ≠ p ∧ H' RL = some (.lst rvs) ∧ A2 (Rt H') rvs us ∧ (∀ u, u ∈ us → Sz 88 u) ∧ us.length ≤ 5 + 3 * i) ⟨none, RL, rvs2, us2, .non, _, rfl, Same.refl H19, nRp, hRL19, hA19, hZ15, by omega⟩ (fun i σ H' _ ⟨_, _, _, _, _, _, _, z, _⟩ => .inl (.inl (z _ _ hst))) ?_ ?_
    · rintro i v σ H' hi ⟨v11, RL, rvs, us, lv, sv, rfl, sH, nRp, hRL, hRA, hRZ, hul⟩
      obtain ⟨o, eo, ho⟩ := hsA.get hi
      have hi40 : i < 40 := by
        have := (List.getElem?_eq_some_iff.mp eo).1
        omega
      refine ⟨_, rfl, rfl, _, rfl, ?_⟩
      cases o with
      | none =>
        obtain rfl : v = .non := ho
        exact iteF ⟨_, RL, rvs, us, lv, _, rfl, sH, nRp, hRL, hRA, hRZ, by omega⟩
      | some q =>
        rw [decide_eq_false (Rt.notNon ho)]
        have zq : Sz 57 q := hsz q (hss _ (List.mem_of_getElem? eo))
        have hq : Rt H' v q := Rt.same sH ho
        refine iteT ⟨_, rfl, _, rfl, _, rfl, _, rfl, 57, v, _, q, ql1, rfl, hq, hlit19.same sH, zq, zlit.mono (by decide), by decide, by decide, fun G4 v4 w4 hv4 => ?_⟩
        refine ⟨_, rfl, _, rfl, 57, v, _, q, ql1, rfl, hq.same w4, hlit19.same (sH.trans w4), zq, zlit.mono (by decide), by decide, by decide, fun G5 v5 w5 hv5 => ?_⟩
        refine ⟨by show 3 ≤ sizeLine; decide, fun N1 nN1 => ?_⟩
        have w6 := same_new (o := HO.lst [v, v4, v5]) nN1
        have hN1 : upd G5 N1 (.lst [v, v4, v5]) N1 = some (.lst [v, v4, v5]) := upd_same
        have w46 := (w4.trans w5).trans w6
        have hvv : A2 (Rt (upd G5 N1 (.lst [v, v4, v5]))) [v, v4, v5] [q, q + ql1, q - ql1] := ((A2.nil.snoc (hq.same w46)).snoc (Rt.same (w5.trans w6) hv4)).snoc (Rt.same w6 hv5)
        generalize upd G5 N1 (.lst [v, v4, v5]) = G6 at w6 hN1 w46 hvv
        refine ⟨RL, N1, rvs, _, rfl, rfl, w46 _ _ hRL, hN1, ?_, fun N2 nN2 => ?_⟩
        · show rvs.length + 3 ≤ _
          rw [hRA.1]
          exact Nat.le_of_lt (small1000 (by omega))
        have w7 := same_new (o := HO.lst (rvs ++ [v, v4, v5])) nN2
        have w := (sH.trans w46).trans w7
        have fr := (I19.ho.same (sH.trans w46)).fresh nN2
        refine ⟨_, N2, rvs ++ [v, v4, v5], us ++ [q, q + ql1, q - ql1], lv, _, rfl, w, fr.1, upd_same, (A2.app (hRA.imp fun v q z => z.same w46) hvv).imp fun v q z => z.same w7, fun u hu => ?_, by rw [List.length_append]; show us.length + 3 ≤ _; omega⟩
        rcases List.mem_append.mp hu with y | y
        · exact hRZ u y
        · have e88 : 57 + 30 + 1 = 88 := rfl
          have p1 : Sz 88 (q + ql1) := zq.plus zlit
          have p2 : Sz 88 (q - ql1) := zq.minus zlit
          have p3 : Sz 88 q := zq.mono (by decide)
          simp at y
          rcases y with rfl | rfl | rfl <;> assumption
    · rintro σ H20 ⟨v11, RL, rvs, us, lv, sv, rfl, sH, nRp, hRL, hRA, hRZ, hul⟩
      have h20 := h19.same sH
      have I20 := I19.off (Off.of sH) h20
      clear h19 I19 hRL19 hA19 hlit19 hsA row19
      -- each rate
      refine ⟨_, rfl, RL, rfl, ⟨rvs, .inl (.inl hRL)⟩, ?_⟩
      refine for_list (K := K) (a := RL) (xs := rvs) (fun i σ H' => ∃ (v12 : Option V), σ = [some (.ref sa), some (.ref p), some (.ref aw), some (.ref asp), some (.int ((ws.map V.int).length : Int)), some (.ref r), some (.int (b : Int)), some (.ref bt), some (.ref RL), some (.ref tl), some sv, v11, v12, none, none, none, none, none] ∧ Off p H20 H' ∧ HandOk H' p c)
        ⟨none, rfl, Off.refl p H20, h20⟩ (fun i σ H' _ ⟨_, _, z, _⟩ => .inl (.inl (z _ _ nRp hRL))) ?_ ?_
      · rintro i v σ H' hi ⟨v12, rfl, oH, hH⟩
        obtain ⟨u, eu, hu⟩ := hRA.get hi
        refine ⟨_, rfl, _, rfl, _, rfl, _, rfl, _, rfl, _, rfl, _, rfl, p, c, r, aw, asp, bt, ws, qs, b, os, bvs, v, u, rfl, I20.off oH hH, hu.off oH h20, hRZ u (List.mem_of_getElem? eu), fun H2 o2 h2 => ?_⟩
        exact ⟨true, rfl, iteF ⟨_, rfl, oH.trans o2, h2⟩⟩
      rintro σ H21 ⟨v12, rfl, o21, h21⟩
      have I21 := I20.off o21 h21
      clear o21 I20 h20 hRL hRA hRZ hul sH
      -- another speed of the ball
      obtain ⟨ys, hy, hY⟩ := I21.ba.x
      refine ⟨_, rfl, asp, ys, rfl, .inl (.inl (.inl hy)), fun O nO => ?_⟩
      have s22 := same_new (o := HO.lst ys) nO
      have hO : upd H21 O (.lst ys) O = some (.lst ys) := upd_same
      obtain ⟨nOp, nOc⟩ := h21.fresh nO
      have h22 := h21.same s22
      have hY22 := hY.imp fun v q z => z.same s22
      generalize upd H21 O (.lst ys) = H22 at s22 hO h22 hY22
      refine ⟨_, rfl, p, c, 20, rfl, by decide, by decide, h22, fun H23 w5 u5 o23 h23 hw5 hf5 => ?_⟩
      have hO23 := o23 _ _ nOp hO
      have yl : ys.length = ws.length := by rw [hY.1, ql]
      refine ⟨_, rfl, _, rfl, O, _, _, b, rfl, rfl, hO23, ixn rfl (by omega), ?_⟩
      have hO24 : upd H23 O (.lst (ys.set b w5)) O = some (.lst (ys.set b w5)) := upd_same
      have hY24 : A2 (Rt (upd H23 O (.lst (ys.set b w5)))) (ys.set b w5) (qs.set b u5) := ((hY22.imp fun v q z => z.off o23 h22).set b hw5).imp fun v q z => z.keepL hO23
      have h24 : HandOk (upd H23 O (.lst (ys.set b w5))) p c := h23.put nOp nOc
      have I24 := I21.off (((Off.of s22).trans o23).put nO) h24
      have fit5 : Fit 20 6 (qs.set b u5) := fit.set b hf5
      generalize upd H23 O (.lst (ys.set b w5)) = H24 at hO24 hY24 h24 I24
      clear s22 hO h22 hY22 o23 h23 hw5 hf5 hO23 I21 h21 hy hY nO
      have ol5 : (qs.set b u5).length = ws.length := by rw [List.length_set, ql]
      refine ⟨_, rfl, _, rfl, _, rfl, p, c, aw, O, ws, _, qs.set b u5, 5, rfl, h24, I24.ba.w, I24.ba.wp, hO24, nOp, hY24, (fun q hq => fit_sz fit5 hq), by rw [hY24.1, ol5], l2, l40, I24.ba.p9, by decide, fun H25 r5 o25 h25 R25 => ?_⟩
      refine ⟨_, rfl, r5, ws, qs.set b u5, b, rfl, R25, hb, fit5, fun H26 bt5 bvs5 os5 s26 hbt5 hbA5 hB5 hsz5 => ?_⟩
      have h26 := h25.same s26
      have I26 := I24.off (o25.trans (.of s26)) h26
      have e5 : os5 = os := Bds.eq (Bds.own u5 hB5) hBds
      subst e5
      refine ⟨_, rfl, .tuple (os5.map od), .tuple (os5.map od), .tup (.inl (.inl hbt5)) (dps (fun v q r => Ot.dp r) hbA5), .tup (.inl (.inl I26.ht)) (dps (fun v q r => Ot.dp r) I26.ha), dk_od.shT _, dk_od.shT _, _, rfl, ?_⟩
      rw [(dk_od.eqT os5 os5).mpr rfl]
      refine iteF ?_
      clear hO24 hY24 h24 I24 fit5 ol5 R25 o25 h25 s26 hbt5 hbA5 hB5 hsz5
      -- the row's own speeds
      obtain ⟨rx, a1, a2, a3, g, l, x, y, rvs0, hrow, ha1, ha2, hA2, _⟩ := id I26.row
      obtain ⟨ys6, hy6, hY6⟩ := I26.ba.x
      refine ⟨_, rfl, r, _, rx, _, _, rfl, hrow, T.cls_Row, T.na_Row_speeds, row_speeds a1 a2 a3 g l x y, ?_⟩
      refine ⟨_, rfl, .ref asp, ys6, rfl, ⟨asp, rfl, .inl hy6⟩, fun ta H27 s27 hta => ?_⟩
      refine ⟨.tuple (qs.map rd), .tuple (qs.map rd), .tup (.inl (.inl (s27 _ _ ha2))) (dps (fun v q r => Rt.dp r) (hA2.imp fun v q z => z.same s27)), .tup (.inl (.inl hta)) (dps (fun v q r => Rt.dp r) (hY6.imp fun v q z => z.same s27)), dk_rd.shT _, dk_rd.shT _, _, rfl, ?_⟩
      rw [(dk_rd.eqT qs qs).mpr rfl]
      refine iteF ?_
      have h27 := h26.same s27
      have I27 := I26.off (.of s27) h27
      clear hrow ha1 ha2 hA2 hy6 hY6 hta s27 h26 I26
      refine ⟨_, rfl, _, rfl, r, ws, qs, b, rfl, I27.row, hb, fit, fun H28 bt6 bvs6 os6 s28 hbt6 hbA6 hB6 hsz6 => ?_⟩
      have h28 := h27.same s28
      have I28 := I27.off (.of s28) h28
      have e6 : os6 = os5 := Bds.eq hB6 hBds
      subst e6
      refine ⟨_, rfl, .tuple (os6.map od), .tuple (os6.map od), .tup (.inl (.inl hbt6)) (dps (fun v q r => Ot.dp r) hbA6), .tup (.inl (.inl I28.ht)) (dps (fun v q r => Ot.dp r) I28.ha), dk_od.shT _, dk_od.shT _, _, rfl, ?_⟩
      rw [(dk_od.eqT os6 os6).mpr rfl]
      refine iteF ?_
      clear s28 hbt6 hbA6 hB6 hsz6 h27 I27
      -- from behind
      refine ⟨_, rfl, _, _, rfl, rfl, _, rfl, _, _, rfl, rfl, ?_⟩
      have fitm : Fit 20 6 (mir qs) := fit_mir fit
      have ml : (mir qs).length = ws.length := by rw [mir_len, ql]
      obtain ⟨ys, hy, hY⟩ := I28.ba.x
      refine ⟨_, rfl, _, rfl, aw, _, rfl, .inl (.inl I28.ba.w), fun W nW => ?_⟩
      have s29 := same_new (o := HO.lst (ws.map V.int).reverse) nW
      have hW : upd H28 W (.lst (ws.map V.int).reverse) W = some (.lst (ws.reverse.map V.int)) := by rw [upd_same, List.map_reverse]
      obtain ⟨nWp, nWc⟩ := h28.fresh nW
      have h29 := h28.same s29
      have hy29 := s29 _ _ hy
      have hY29 := hY.imp fun v q z => z.same s29
      generalize upd H28 W (.lst (ws.map V.int).reverse) = H29 at s29 hW h29 hy29 hY29
      refine ⟨_, rfl, asp, ys, rfl, .inl (.inl hy29), fun V1 nV1 => ?_⟩
      have s30 := same_new (o := HO.lst ys.reverse) nV1
      have hV : upd H29 V1 (.lst ys.reverse) V1 = some (.lst ys.reverse) := upd_same
      have h30 := h29.same s30
      have hY30 := (hY29.imp fun v q z => z.same s30).rev
      have hW30 := s30 _ _ hW
      have t30 := s29.trans s30
      generalize upd H29 V1 (.lst ys.reverse) = H30 at s30 hV h30 hY30 hW30 t30
      refine ⟨V1, rfl, ⟨_, .inl (.inl hV)⟩, fun D1 nD1 => ?_⟩
      obtain ⟨nDp, nDc⟩ := h30.fresh nD1
      have mir_get : ∀ (i : Nat) (q : Rat), qs.reverse[i]? = some q → (mir qs)[i]? = some (-q) := fun i q e => by
        unfold mir
        rw [← List.map_reverse, List.getElem?_map, e]
        rfl
      refine lc_list (K := K) (a := V1) (xs := ys.reverse) (fun i H' => Same H30 H' ∧ ∃ acc, H' D1 = some (.lst acc) ∧ A2 (Rt H') acc ((mir qs).take i)) ⟨same_new nD1, [], upd_same, A2.nil⟩ (fun i H' _ z => .inl (.inl (z.1 _ _ hV))) ?_ ?_
      · rintro i v H' hi ⟨sH, acc, hD, hacc⟩
        obtain ⟨q, eq, hq⟩ := hY30.get hi
        refine ⟨rfl, by show 2 ≤ sizeLine; decide, fun t0 nt0 => ?_⟩
        have st := same_new (o := HO.tup [V.int 0, V.int 1]) nt0
        have mq : q ∈ qs := List.mem_reverse.mp (List.mem_of_getElem? eq)
        refine ⟨_, rfl, 5, _, v, 0, q, rfl, rt0 upd_same, hq.same (sH.trans st), sz0 (by decide), fit_sz fit mq, by decide, by decide, fun H2 u s2 hu => ?_⟩
        replace hu : Rt H2 u (-q) := by
          rw [← zsub q]
          exact hu
        have s02 := st.trans s2
        have hD2 := s02 _ _ hD
        refine ⟨acc, hD2, ?_, same_upd (sH.trans s02) nD1, acc ++ [u], upd_same, ?_⟩
        · rw [hacc.1, List.length_take]
          exact small1000 (by omega)
        · rw [List.take_add_one, mir_get i q eq]
          exact ((hacc.imp fun v q z => z.same s02).snoc hu).imp fun v q z => z.keepL hD2
      rintro H31 ⟨s31, acc, hD, hacc⟩
      have yl6 : ys.reverse.length = (mir qs).length := by rw [List.length_reverse, hY.1, mir_len]
      rw [yl6, List.take_length] at hacc
      have h31 := h30.same s31
      refine ⟨p, c, W, D1, ws.reverse, acc, mir qs, 5, rfl, h31, s31 _ _ hW30, nWp, hD, nDp, hacc, (fun q hq => fit_sz fitm hq), by rw [hacc.1, ml, List.length_reverse], by rw [List.length_reverse]; exact l2, by rw [List.length_reverse]; exact l40, (fun w hw => I28.ba.p9 w (List.mem_reverse.mp hw)), by decide, fun H32 r7 o32 h32 R32 => ?_⟩
      refine ⟨_, rfl, r7, ws.reverse, mir qs, ws.length - 1 - b, ?_, R32, by rw [List.length_reverse]; omega, fitm, fun H33 mt mvs mos s33 hmt hmA hmB hmsz => ?_⟩
      · show [V.ref r7, V.int (((ws.map V.int).length : Int) - 1 - (b : Int))] = _
        rw [show ((ws.map V.int).length : Int) - 1 - (b : Int) = ((ws.length - 1 - b : Nat) : Int) by omega]
      have h33 := h32.same s33
      have I33 := I28.off ((Off.of (t30.trans s31)).trans (o32.trans (.of s33))) h33
      have em : mos = (os6.map fun o => o.map fun v => -v).reverse := Bds.eq hmB (Bds.mirror ql.symm hb hBds)
      clear s29 hW nWp nWc h29 hy29 hY29 s30 hV h30 hY30 hW30 t30 nD1 nDp nDc s31 hD hacc h31 h32 o32 R32 hmB hmsz s33 hy hY nW nV1 I28 h28
      -- the bounds turned
      refine ⟨_, rfl, bt, bvs, rfl, .inl (.inl I33.ht), fun U1 nU1 => ?_⟩
      have s34 := same_new (o := HO.tup bvs.reverse) nU1
      have hU : upd H33 U1 (.tup bvs.reverse) U1 = some (.tup bvs.reverse) := upd_same
      have hB34 := (I33.ha.imp fun v q z => Ot.same s34 z).rev
      have hmt34 := s34 _ _ hmt
      have hmA34 := hmA.imp fun v q z => Ot.same s34 z
      generalize upd H33 U1 (.tup bvs.reverse) = H34 at s34 hU hB34 hmt34 hmA34
      refine ⟨U1, rfl, ⟨_, .inl (.inl hU)⟩, fun D2 nD2 => ?_⟩
      have tur_get : ∀ (i : Nat) (o : Option Rat), os6.reverse[i]? = some o → mos[i]? = some (o.map fun v => -v) := fun i o e => by
        rw [em, ← List.map_reverse, List.getElem?_map, e]
        rfl
      refine lc_tup (K := K) (a := U1) (xs := bvs.reverse) (fun i H' => Same H34 H' ∧ ∃ acc, H' D2 = some (.lst acc) ∧ A2 (Ot H') acc (mos.take i)) ⟨same_new nD2, [], upd_same, A2.nil⟩ (fun i H' _ z => .inl (.inl (z.1 _ _ hU))) ?_ ?_
      · rintro i v H' hi ⟨sH, acc, hD, hacc⟩
        obtain ⟨o, eo, ho⟩ := hB34.get hi
        have hil : i < 40 := by
          have := (List.getElem?_eq_some_iff.mp eo).1
          rw [List.length_reverse] at this
          omega
        have acl : acc.length < 1000 := by
          rw [hacc.1, List.length_take]
          omega
        refine ⟨rfl, _, rfl, rfl, _, rfl, ?_⟩
        cases o with
        | none =>
          obtain rfl : v = .non := ho
          refine iteT ⟨acc, hD, small1000 (Nat.le_of_lt acl), same_upd sH nD2, acc ++ [.non], upd_same, ?_⟩
          rw [List.take_add_one, tur_get i none eo]
          exact (hacc.snoc (show Ot H' V.non none from rfl)).imp fun v q z => Ot.keepL hD z
        | some q =>
          rw [decide_eq_false (Rt.notNon ho)]
          refine iteF ⟨by show 2 ≤ sizeLine; decide, fun t0 nt0 => ?_⟩
          have st := same_new (o := HO.tup [V.int 0, V.int 1]) nt0
          have mq : some q ∈ os6 := List.mem_reverse.mp (List.mem_of_getElem? eo)
          refine ⟨_, rfl, 57, _, v, 0, q, rfl, rt0 upd_same, Rt.same (sH.trans st) ho, sz0 (by decide), hsz q mq, by decide, by decide, fun H2 u s2 hu => ?_⟩
          replace hu : Rt H2 u (-q) := by
            rw [← zsub q]
            exact hu
          have s02 := st.trans s2
          have hD2 := s02 _ _ hD
          refine ⟨acc, hD2, small1000 (Nat.le_of_lt acl), same_upd (sH.trans s02) nD2, acc ++ [u], upd_same, ?_⟩
          rw [List.take_add_one, tur_get i (some q) eo]
          exact ((hacc.imp fun v q z => Ot.same s02 z).snoc (show Ot H2 u (some (-q)) from hu)).imp fun v q z => Ot.keepL hD2 z
      rintro H35 ⟨s35, acc, hD, hacc⟩
      have bl6 : bvs.reverse.length = mos.length := by rw [List.length_reverse, em, List.length_reverse, List.length_map, bl]
      rw [bl6, List.take_length] at hacc
      refine ⟨_, rfl, _, rfl, .ref D2, acc, rfl, ⟨D2, rfl, .inl hD⟩, fun tt H36 s36 htt => ?_⟩
      have s56 := s35.trans s36
      refine ⟨.tuple (mos.map od), .tuple (mos.map od), .tup (.inl (.inl (s56 _ _ hmt34))) (dps (fun v q r => Ot.dp r) (hmA34.imp fun v q z => Ot.same s56 z)), .tup (.inl (.inl htt)) (dps (fun v q r => Ot.dp r) (hacc.imp fun v q z => Ot.same s36 z)), dk_od.shT _, dk_od.shT _, ?_⟩
      rw [(dk_od.eqT mos mos).mpr rfl]
      exact k H36
end
end G
end
section
set_option Elab.async false
set_option linter.all false
set_option maxRecDepth 100000
set_option maxHeartbeats 0
/-! The head of the file: one run. -/
namespace G
open PySem PySem.Spec PyProof.Rows L2
abbrev R : PySem.W.OpenRow := PySem.W.OpenLaw.row PySem.Challenge.rw_untoldgaps_k59_whole_bounds_of_one_speed
abbrev hk : PySem.W.Hook := He.hookX 5 fa fn [] [] exB
def ob (s : PySem.W.SharedT) : He.AlX := He.obsX 5 fa fn [] [] exB (HandSHeadRun.getT s)
theorem ob_eq (s : PySem.W.SharedT) : ob s = hk.obs s.abs := He.obsX_eq (HandSHeadRun.getT_eq s)
def loose1 : List Str := ["_wall", "__name__", "GapError", "BadRatio", "BadRow", "NoBall", "NoWall", "is_whole", "is_ratio", "ratio_of", "lowest_terms", "plus", "minus", "times", "over", "compare", "MOST_BALLS", "MOST_WEIGHT", "check_balls", "Row", "check_ball", "Parting", "check_no_wall", "Sums"]
def loose2 : List Str := ["pooled_parting", "_bound_above", "_bound_below", "speed_bounds", "_law_mix", "_law_hand", "_law_draw", "_law_pick", "_law_low", "_law_add", "_law_sub", "_law_less", "_law_speed", "_law_falling", "_law_many_balls", "_law_stick_balls", "_law_given", "_law_row", "_law_sums", "_law_is_faster", "_law_is_parted", "_law_lots", "_law_is_ratio", "_law_parted_pairs", "_law_right_at"]
theorem run (w : World) : HandSHeadRun.RunEqI R (PySem.W.view R.prog [0, 54]) hk ob 6000 (loose1 ++ loose2) w := by
  unfold HandSHeadRun.RunEqI
  kernel_rfl
end G
end
section
set_option Elab.async false
set_option linter.all false
set_option maxRecDepth 100000
set_option maxHeartbeats 0
/-! The head's facts, the law at them, the statement. -/
namespace G
open PySem PySem.Spec PyProof.Rows L2
section
variable {P : Program} {w : World} {K : PySem.W.Frag} {mg : Str → Option Value} {h : Heap}
theorem tx_of (X : K.In h) (G : h.Ns mainGlobals mg) (d : He.SaysD fa fn K) (e : exB K = true) : Tx K mg := by
  unfold exB at e
  rw [Bool.and_eq_true] at e
  exact ⟨d, fun x i hi => He.glo_ok X G (d.fact i hi), fun x i hi => He.free_ok X G (d.fact i hi), PySem.W.mg_of X G (He.eqO_ok e.1), PySem.W.mg_of X G (He.eqO_ok e.2), He.int_ok X G (d.fact 53 (f := .int "MOST_BALLS" 40) rfl), He.int_ok X G (d.fact 54 (f := .int "MOST_WEIGHT" 9) rfl)⟩
theorem law_at {fa0 : Addr} (X : K.In h) (G : h.Ns mainGlobals mg) (hfa : mg ("law" : Str) = some (.ref fa0)) (d : He.SaysD fa fn K) (e : exB K = true) :
    ∃ fd : FuncData, (∀ (s : Shared) (v : Value), BindsTo s fd ⟨[v], []⟩ [("_law_script", v)]) ∧
      ∀ base : Heap, K.In base → base.Ns mainGlobals mg → FnOk P w K mg base CX0 10 fa0 fd ["_law_script"] (spLaw K) := by
  have T := tx_of X G d e
  have ef := hfa.symm.trans T.g_law
  cases ef
  obtain ⟨fd, F⟩ := T.d_law
  have b := FunD.bindsA (ps := ["_law_script"]) F fun _ _ _ _ _ _ us hl => match us, hl with | [_], _ => rfl
  exact ⟨fd, fun s v => b s [v] rfl, fun base _ _ => ok_law T F⟩
end
end G
open PySem PySem.W PySem.Calls PyProof.Rows
theorem PySem.Challenge.cw_untoldgaps_k59_whole_bounds_of_one_speed_holds : PySem.Challenge.rw_untoldgaps_k59_whole_bounds_of_one_speed.Holds := by
  w_on
  o_law
  refine HandSHeadRun.head_imp (r := OpenLaw.row PySem.Challenge.rw_untoldgaps_k59_whole_bounds_of_one_speed)
    (q := view (OpenLaw.row PySem.Challenge.rw_untoldgaps_k59_whole_bounds_of_one_speed).prog [0, 54]) (H := G.hk) (ob := G.ob) (M := 6000) (loose := G.loose1 ++ G.loose2)
    (d := HandSHeadRun.topDef (OpenLaw.row PySem.Challenge.rw_untoldgaps_k59_whole_bounds_of_one_speed).prog 54) (kwd := [])
    G.ob_eq G.run (by kernel_rfl) (by kernel_rfl) (by kernel_rfl) (by rfl) (by first | assumption | decide +kernel) (by decide +kernel) ⟨rfl, rfl, rfl, rfl, rfl, by decide +kernel⟩ ?hw ?hc
  case hw => w_witness2
  case hc =>
    refine L2.walk_ofE (l := PySem.Challenge.rw_untoldgaps_k59_whole_bounds_of_one_speed) (n := 63) (k := 10) (x := "_law_script") (CX := L2.CX0) rfl (by decide) (by kernel_rfl) ⟨rfl, by decide, by decide⟩ ?F (fun _ _ _ _ z => z)
    intro w mg fa h Y G0 hmg0
    obtain ⟨K, KX, c⟩ := Y
    have hn : (HandSHeadRun.topDef (OpenLaw.row PySem.Challenge.rw_untoldgaps_k59_whole_bounds_of_one_speed).prog 54).name = ("law" : Str) := by kernel_rfl
    have hmg : mg ("law" : Str) = some (.ref fa) := by
      rw [← hn]
      exact hmg0
    obtain ⟨fd, hb, hF⟩ := G.law_at (P := PySem.Challenge.rw_untoldgaps_k59_whole_bounds_of_one_speed.prog) (w := w) KX G0 hmg c.t.d c.more
    exact ⟨K, fd, G.spLaw K, KX, hb, fun H a ns hl _ hS => ⟨a, ns, rfl, hS, hl, fun _ => rfl⟩, hF⟩
end
