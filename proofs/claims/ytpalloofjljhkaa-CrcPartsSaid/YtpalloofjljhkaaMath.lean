/- The sum of chapter 2 as plain mathematics: a register that is shifted, over naturals. No condition. -/
namespace Go.Proofs.Ytpalloofjljhkaa.M
/-- The register, shifted by one bit. -/
def bt (s : Nat) : Nat := (s >>> 1) ^^^ (if s % 2 = 1 then 3988292384 else 0)
def btn : Nat → Nat → Nat
  | 0, s => s
  | n + 1, s => btn n (bt s)
theorem xor_mod2 (a b : Nat) : (a ^^^ b) % 2 = (a % 2 + b % 2) % 2 := by
  have h := Nat.xor_mod_two_pow (a := a) (b := b) (n := 1)
  rw [Nat.pow_one] at h
  rw [h]
  rcases Nat.mod_two_eq_zero_or_one a with ha | ha <;> rcases Nat.mod_two_eq_zero_or_one b with hb | hb <;> rw [ha, hb] <;> decide
theorem xor_zero_iff {a b : Nat} : a ^^^ b = 0 ↔ a = b := by
  constructor
  · intro h
    have e : (a ^^^ b) ^^^ b = 0 ^^^ b := by rw [h]
    rwa [Nat.xor_assoc, Nat.xor_self, Nat.xor_zero, Nat.zero_xor] at e
  · rintro rfl
    exact Nat.xor_self a
theorem xor_inj {a b c : Nat} (h : a ^^^ b = a ^^^ c) : b = c := by
  have e : a ^^^ (a ^^^ b) = a ^^^ (a ^^^ c) := by rw [h]
  rwa [← Nat.xor_assoc, ← Nat.xor_assoc, Nat.xor_self, Nat.zero_xor, Nat.zero_xor] at e
theorem xor4 (a b c d : Nat) : (a ^^^ b) ^^^ (c ^^^ d) = (a ^^^ c) ^^^ (b ^^^ d) := by
  rw [Nat.xor_assoc, Nat.xor_assoc, ← Nat.xor_assoc b c d, Nat.xor_comm b c, Nat.xor_assoc c b d]
theorem bt_xor (a b : Nat) : bt (a ^^^ b) = bt a ^^^ bt b := by
  unfold bt
  rw [Nat.shiftRight_xor_distrib, xor_mod2, xor4]
  congr 1
  rcases Nat.mod_two_eq_zero_or_one a with ha | ha <;> rcases Nat.mod_two_eq_zero_or_one b with hb | hb <;> simp [ha, hb]
theorem btn_xor (n : Nat) : ∀ a b : Nat, btn n (a ^^^ b) = btn n a ^^^ btn n b := by
  induction n with
  | zero => intro a b; rfl
  | succ n ih => intro a b; show btn n (bt (a ^^^ b)) = btn n (bt a) ^^^ btn n (bt b); rw [bt_xor, ih]
theorem bt_zero : bt 0 = 0 := by decide
theorem btn_zero (n : Nat) : btn n 0 = 0 := by
  induction n with
  | zero => rfl
  | succ n ih => show btn n (bt 0) = 0; rw [bt_zero, ih]
theorem btn_add (n m : Nat) : ∀ s : Nat, btn (n + m) s = btn m (btn n s) := by
  induction n with
  | zero => intro s; rw [Nat.zero_add]; rfl
  | succ n ih => intro s; rw [Nat.succ_add]; show btn (n + m) (bt s) = btn m (btn n (bt s)); rw [ih]
theorem bt_lt {s : Nat} (h : s < 4294967296) : bt s < 4294967296 := by
  unfold bt
  have h1 : s >>> 1 < 2 ^ 32 := by rw [Nat.shiftRight_eq_div_pow]; omega
  have h2 : (if s % 2 = 1 then 3988292384 else 0) < 2 ^ 32 := by split <;> decide
  exact Nat.xor_lt_two_pow h1 h2
theorem btn_lt (n : Nat) : ∀ {s : Nat}, s < 4294967296 → btn n s < 4294967296 := by
  induction n with
  | zero => intro s h; exact h
  | succ n ih => intro s h; exact ih (bt_lt h)
theorem bt_inj0 {s : Nat} (h : s < 4294967296) (h0 : bt s = 0) : s = 0 := by
  unfold bt at h0
  rw [xor_zero_iff, Nat.shiftRight_eq_div_pow] at h0
  split at h0 <;> omega
theorem btn_inj0 (n : Nat) : ∀ {s : Nat}, s < 4294967296 → btn n s = 0 → s = 0 := by
  induction n with
  | zero => intro s _ h; exact h
  | succ n ih => intro s h h0; exact bt_inj0 h (ih (bt_lt h) h0)
theorem btn_inj (n : Nat) {a b : Nat} (ha : a < 4294967296) (hb : b < 4294967296) (h : btn n a = btn n b) : a = b := by
  have hx : btn n (a ^^^ b) = 0 := by rw [btn_xor, h, Nat.xor_self]
  have := btn_inj0 n (Nat.xor_lt_two_pow (n := 32) ha hb) hx
  exact xor_zero_iff.mp this
theorem bt_dbl (x : Nat) : bt (x <<< 1) = x := by
  unfold bt
  have h : (x <<< 1) % 2 = 0 := by rw [Nat.shiftLeft_eq]; omega
  rw [h, if_neg (by decide), Nat.xor_zero, Nat.shiftRight_eq_div_pow, Nat.shiftLeft_eq]; omega
theorem btn_shift (n : Nat) : ∀ x : Nat, btn n (x <<< n) = x := by
  induction n with
  | zero => intro x; rfl
  | succ n ih => intro x; show btn n (bt (x <<< (n + 1))) = x; rw [Nat.shiftLeft_add, bt_dbl, ih]
/-- A row of bytes as a number, the first one lowest. -/
def val : List Nat → Nat
  | [] => 0
  | c :: l => c ^^^ (val l <<< 8)
/-- The register behind a row of bytes. -/
def run (s : Nat) : List Nat → Nat
  | [] => s
  | c :: l => run (btn 8 (s ^^^ c)) l
theorem run_append (l m : List Nat) : ∀ s : Nat, run s (l ++ m) = run (run s l) m := by
  induction l with
  | nil => intro s; rfl
  | cons c l ih => intro s; exact ih _
theorem run_val (l : List Nat) : ∀ s : Nat, run s l = btn (8 * l.length) (s ^^^ val l) := by
  induction l with
  | nil => intro s; show s = btn 0 (s ^^^ 0); rw [Nat.xor_zero]; rfl
  | cons c l ih =>
    intro s
    show run (btn 8 (s ^^^ c)) l = btn (8 * (l.length + 1)) (s ^^^ (c ^^^ (val l <<< 8)))
    rw [ih, Nat.mul_add, Nat.mul_one, Nat.add_comm, btn_add, ← Nat.xor_assoc, btn_xor 8 (s ^^^ c), btn_shift]
theorem run_lt (l : List Nat) : ∀ {s : Nat}, s < 4294967296 → (∀ c ∈ l, c < 256) → run s l < 4294967296 := by
  induction l with
  | nil => intro s h _; exact h
  | cons c l ih =>
    intro s h hc
    refine ih (btn_lt 8 (Nat.xor_lt_two_pow (n := 32) h ?_)) (fun x hx => hc x (List.mem_cons_of_mem _ hx))
    have := hc c (List.mem_cons_self ..)
    omega
theorem val_lt (l : List Nat) (hc : ∀ c ∈ l, c < 256) : val l < 2 ^ (8 * l.length) := by
  induction l with
  | nil => decide
  | cons c l ih =>
    have h1 := ih (fun x hx => hc x (List.mem_cons_of_mem _ hx))
    have h2 := hc c (List.mem_cons_self ..)
    show c ^^^ (val l <<< 8) < 2 ^ (8 * (l.length + 1))
    refine Nat.xor_lt_two_pow ?_ ?_
    · exact Nat.lt_of_lt_of_le h2 (by rw [show (256 : Nat) = 2 ^ 8 from rfl]; exact Nat.pow_le_pow_right (by decide) (by omega))
    · rw [Nat.shiftLeft_eq, Nat.mul_add, Nat.pow_add]; exact Nat.mul_lt_mul_of_pos_right h1 (by decide)
theorem val_nil_of {l : List Nat} (hc : ∀ c ∈ l, c < 256) (h : val l = 0) : ∀ c ∈ l, c = 0 := by
  induction l with
  | nil => intro c hx; cases hx
  | cons a l ih =>
    have h2 := hc a (List.mem_cons_self ..)
    have e : a ^^^ (val l <<< 8) = 0 := h
    rw [xor_zero_iff, Nat.shiftLeft_eq] at e
    have a0 : a = 0 := by omega
    have v0 : val l = 0 := by omega
    intro c hx
    rcases List.mem_cons.mp hx with rfl | hx
    · exact a0
    · exact ih (fun x hx => hc x (List.mem_cons_of_mem _ hx)) v0 c hx
theorem val_inj : ∀ {l m : List Nat}, l.length = m.length → (∀ c ∈ l, c < 256) → (∀ c ∈ m, c < 256) → val l = val m → l = m := by
  intro l
  induction l with
  | nil => intro m hl _ _ _; cases m with
    | nil => rfl
    | cons => cases hl
  | cons a l ih =>
    intro m hl h1 h2 h
    cases m with
    | nil => cases hl
    | cons b m =>
      have ha := h1 a (List.mem_cons_self ..)
      have hb := h2 b (List.mem_cons_self ..)
      have e : a ^^^ (val l <<< 8) = b ^^^ (val m <<< 8) := h
      have e1 : (a ^^^ (val l <<< 8)) % 2 ^ 8 = (b ^^^ (val m <<< 8)) % 2 ^ 8 := by rw [e]
      have e2 : (a ^^^ (val l <<< 8)) >>> 8 = (b ^^^ (val m <<< 8)) >>> 8 := by rw [e]
      rw [Nat.xor_mod_two_pow, Nat.xor_mod_two_pow, Nat.shiftLeft_eq, Nat.shiftLeft_eq, Nat.mul_mod_left, Nat.mul_mod_left, Nat.xor_zero, Nat.xor_zero] at e1
      rw [Nat.shiftRight_xor_distrib, Nat.shiftRight_xor_distrib, Nat.shiftLeft_shiftRight, Nat.shiftLeft_shiftRight] at e2
      have ea : a = b := by omega
      subst ea
      have ev : val l = val m := xor_inj e2
      rw [ih (by simpa using hl) (fun x hx => h1 x (List.mem_cons_of_mem _ hx)) (fun x hx => h2 x (List.mem_cons_of_mem _ hx)) ev]
theorem val_append (l m : List Nat) : val (l ++ m) = val l ^^^ (val m <<< (8 * l.length)) := by
  induction l with
  | nil => show val m = 0 ^^^ val m <<< 0; rw [Nat.zero_xor]; rfl
  | cons c l ih =>
    show c ^^^ (val (l ++ m) <<< 8) = (c ^^^ (val l <<< 8)) ^^^ (val m <<< (8 * (l.length + 1)))
    rw [ih, Nat.shiftLeft_xor_distrib, ← Nat.shiftLeft_add, Nat.xor_assoc, Nat.mul_add]
theorem val_set (l : List Nat) : ∀ (j x : Nat), j < l.length → val (l.set j (l.getD j 0 ^^^ x)) = val l ^^^ (x <<< (8 * j)) := by
  induction l with
  | nil => intro j x h; cases h
  | cons c l ih =>
    intro j x h
    cases j with
    | zero => show (c ^^^ x) ^^^ (val l <<< 8) = (c ^^^ (val l <<< 8)) ^^^ (x <<< 0); rw [Nat.shiftLeft_zero, Nat.xor_assoc, Nat.xor_comm x, Nat.xor_assoc]
    | succ j =>
      show c ^^^ (val (l.set j (l.getD j 0 ^^^ x)) <<< 8) = (c ^^^ (val l <<< 8)) ^^^ (x <<< (8 * (j + 1)))
      rw [ih j x (by simpa using h), Nat.shiftLeft_xor_distrib, ← Nat.shiftLeft_add, Nat.xor_assoc, Nat.mul_add]
/-- The sum. -/
def sum (l : List Nat) : Nat := 4294967295 ^^^ run 4294967295 l
def more (s : Nat) (l : List Nat) : Nat := 4294967295 ^^^ run (4294967295 ^^^ s) l
theorem not_not (s : Nat) : 4294967295 ^^^ (4294967295 ^^^ s) = s := by rw [← Nat.xor_assoc, Nat.xor_self, Nat.zero_xor]
theorem sum_more (l : List Nat) : more 0 l = sum l := rfl
theorem more_append (s : Nat) (l m : List Nat) : more (more s l) m = more s (l ++ m) := by unfold more; rw [not_not, run_append]
theorem more_nil (s : Nat) : more s [] = s := not_not s
theorem more_lt {s : Nat} {l : List Nat} (hs : s < 4294967296) (hl : ∀ c ∈ l, c < 256) : more s l < 4294967296 :=
  Nat.xor_lt_two_pow (n := 32) (by decide) (run_lt l (Nat.xor_lt_two_pow (n := 32) (by decide) hs) hl)
theorem sum_lt {l : List Nat} (hl : ∀ c ∈ l, c < 256) : sum l < 4294967296 := more_lt (s := 0) (by decide) hl
/-- Two rows of one length whose values are unlike in a few bits that lie close. -/
theorem sum_burst {l m : List Nat} {k r : Nat} (hl : l.length = m.length) (hk : k ≤ 8 * l.length) (hr : r < 4294967296) (h : val m = val l ^^^ (r <<< k)) : sum l = sum m ↔ r = 0 := by
  unfold sum
  rw [run_val, run_val, ← hl, h, ← Nat.xor_assoc, btn_xor _ (4294967295 ^^^ val l)]
  have e : btn (8 * l.length) (r <<< k) = btn (8 * l.length - k) r := by
    rw [show 8 * l.length = k + (8 * l.length - k) by omega, btn_add, btn_shift, show k + (8 * l.length - k) - k = 8 * l.length - k by omega]
  rw [e]
  constructor
  · intro hh
    have h1 := xor_inj hh
    have h2 : btn (8 * l.length) (4294967295 ^^^ val l) ^^^ 0 = btn (8 * l.length) (4294967295 ^^^ val l) ^^^ btn (8 * l.length - k) r := by rw [Nat.xor_zero]; exact h1
    exact btn_inj0 _ hr (xor_inj h2).symm
  · rintro rfl
    rw [btn_zero, Nat.xor_zero]
/-- The four bytes of a sum, the lowest first. -/
def laid (s : Nat) : List Nat := [s % 256, s / 256 % 256, s / 65536 % 256, s / 16777216 % 256]
theorem lo8 (x : Nat) : (x % 256) ^^^ ((x / 256) <<< 8) = x := by
  have h1 : ((x % 256) ^^^ ((x / 256) <<< 8)) % 2 ^ 8 = x % 2 ^ 8 := by
    rw [Nat.xor_mod_two_pow, Nat.shiftLeft_eq, Nat.mul_mod_left, Nat.xor_zero]; omega
  have h2 : ((x % 256) ^^^ ((x / 256) <<< 8)) / 2 ^ 8 = x / 2 ^ 8 := by
    rw [← Nat.shiftRight_eq_div_pow, Nat.shiftRight_xor_distrib, Nat.shiftLeft_shiftRight, Nat.shiftRight_eq_div_pow, Nat.div_eq_of_lt (by omega), Nat.zero_xor]
  omega
theorem val_laid {s : Nat} (h : s < 4294967296) : val (laid s) = s := by
  show s % 256 ^^^ ((s / 256 % 256) ^^^ ((s / 65536 % 256) ^^^ ((s / 16777216 % 256) ^^^ (0 <<< 8)) <<< 8) <<< 8) <<< 8 = s
  rw [Nat.zero_shiftLeft, Nat.xor_zero]
  have e1 : s / 65536 % 256 ^^^ ((s / 16777216 % 256) <<< 8) = s / 65536 := by
    have := lo8 (s / 65536)
    rwa [show s / 65536 / 256 = s / 16777216 % 256 by omega] at this
  have e2 : s / 256 % 256 ^^^ ((s / 65536) <<< 8) = s / 256 := by
    have := lo8 (s / 256)
    rwa [show s / 256 / 256 = s / 65536 by omega] at this
  rw [e1, e2, lo8]
theorem laid_byte (s : Nat) : ∀ c ∈ laid s, c < 256 := by
  intro c hc
  simp only [laid, List.mem_cons, List.not_mem_nil, or_false] at hc
  omega
theorem laid_inj {s t : Nat} (hs : s < 4294967296) (ht : t < 4294967296) (h : laid s = laid t) : s = t := by
  rw [← val_laid hs, h, val_laid ht]
/-- Bytes and their sum: the register says so. -/
theorem sealed_iff {l m : List Nat} (hl : ∀ c ∈ l, c < 256) (hm : ∀ c ∈ m, c < 256) (h4 : m.length = 4) : run 4294967295 (l ++ m) = btn 32 4294967295 ↔ m = laid (sum l) := by
  rw [run_append, run_val m, h4]
  have hv : val m < 4294967296 := by have := val_lt m hm; rw [h4] at this; exact this
  have hr : run 4294967295 l < 4294967296 := run_lt l (by decide) hl
  constructor
  · intro h
    have h1 := btn_inj 32 (Nat.xor_lt_two_pow (n := 32) hr hv) (by decide) h
    have h2 : val m = sum l := by
      have e : val m = run 4294967295 l ^^^ 4294967295 := by
        have h2 : run 4294967295 l ^^^ (run 4294967295 l ^^^ val m) = run 4294967295 l ^^^ 4294967295 := by rw [h1]
        rwa [← Nat.xor_assoc, Nat.xor_self, Nat.zero_xor] at h2
      rw [e, Nat.xor_comm]; rfl
    exact val_inj (by rw [h4]; rfl) hm (laid_byte _) (by rw [h2, val_laid (sum_lt hl)])
  · rintro rfl
    rw [val_laid (sum_lt hl)]
    unfold sum
    rw [← Nat.xor_assoc, Nat.xor_comm (run _ _), Nat.xor_assoc, Nat.xor_self, Nat.xor_zero]
/-- A burst in what was sealed is seen: the register is another one. -/
theorem run_burst {l m : List Nat} {s k r : Nat} (hl : l.length = m.length) (hk : k ≤ 8 * l.length) (hr : r < 4294967296) (h : val m = val l ^^^ (r <<< k)) : run s l = run s m ↔ r = 0 := by
  rw [run_val, run_val, ← hl, h, ← Nat.xor_assoc, btn_xor _ (s ^^^ val l)]
  have e : btn (8 * l.length) (r <<< k) = btn (8 * l.length - k) r := by
    rw [show 8 * l.length = k + (8 * l.length - k) by omega, btn_add, btn_shift, show k + (8 * l.length - k) - k = 8 * l.length - k by omega]
  rw [e]
  constructor
  · intro hh
    have h2 : btn (8 * l.length) (s ^^^ val l) ^^^ 0 = btn (8 * l.length) (s ^^^ val l) ^^^ btn (8 * l.length - k) r := by rw [Nat.xor_zero]; exact hh
    exact btn_inj0 _ hr (xor_inj h2).symm
  · rintro rfl
    rw [btn_zero, Nat.xor_zero]
/-- By the table. -/
theorem table_step (s c : Nat) : btn 8 (s ^^^ c) = (s >>> 8) ^^^ btn 8 ((s % 256) ^^^ c) := by
  have e : s = (s % 256) ^^^ ((s / 256) <<< 8) := (lo8 s).symm
  have e2 : s ^^^ c = ((s % 256) ^^^ c) ^^^ ((s / 256) <<< 8) := by
    rw [Nat.xor_assoc, Nat.xor_comm c, ← Nat.xor_assoc, lo8]
  rw [e2, btn_xor, btn_shift, Nat.xor_comm, Nat.shiftRight_eq_div_pow]
theorem run_zip (l : List Nat) : ∀ (m : List Nat) (s t : Nat), m.length = l.length → run (s ^^^ t) (l.zipWith (· ^^^ ·) m) = run s l ^^^ run t m := by
  induction l with
  | nil => intro m s t h; cases m with
    | nil => rfl
    | cons => cases h
  | cons a l ih =>
    intro m s t h
    cases m with
    | nil => cases h
    | cons b m =>
      show run (btn 8 ((s ^^^ t) ^^^ (a ^^^ b))) _ = run (btn 8 (s ^^^ a)) l ^^^ run (btn 8 (t ^^^ b)) m
      rw [xor4, btn_xor]
      exact ih m _ _ (by simpa using h)
end Go.Proofs.Ytpalloofjljhkaa.M
