/- The table of sums: what it is, and the contracts of the functions that make it and sum by it. No condition but that bytes are bytes. -/
import Derived.Test.YtpalloofjljhkaaPx50
import Derived.Test.YtpalloofjljhkaaPx52
import Derived.Test.YtpalloofjljhkaaPx51
import Derived.Test.YtpalloofjljhkaaPx53
import Derived.Test.YtpalloofjljhkaaMath
import Derived.Laws.Rows
import Derived.Laws.BitsAllLaws
import Derived.Deep.MidRow
import Derived.Outline
namespace Go.Proofs.Ytpalloofjljhkaa.P
open Go.RowKit Go.Proofs.YtpalloofjljhkaaW.PrintWords Go.Proofs.YtpalloofjljhkaaW.PrintLast Go.Proofs.YtpalloofjljhkaaW.PrintMore
set_option linter.unusedVariables false
set_option linter.unusedSimpArgs false
/-- What a byte does: in a table that was made, and in one of noughts. -/
def tabN (t : Bool) (i : Nat) : Nat := if t then M.btn 8 i else 0
def tabRow (t : Bool) : Array Value := ((List.range 256).map fun i => Value.int .u32 ((tabN t i : Nat) : Int)).toArray
abbrev tabV (t : Bool) : Value := .agg (tabRow t)
theorem tabN_lt (t : Bool) {i : Nat} (h : i < 256) : tabN t i < 4294967296 := by
  unfold tabN
  split
  · exact M.btn_lt 8 (by omega)
  · decide
theorem tabRow_get (t : Bool) {i : Nat} (h : i < 256) : (tabRow t)[i]? = some (.int .u32 ((tabN t i : Nat) : Int)) := by
  unfold tabRow
  simp [h]
theorem tabRow_size (t : Bool) : (tabRow t).size = 256 := by unfold tabRow; simp
theorem tabInf_ : (Try.prog.info? 27).map (·.size) = some 256 := by kernel_rfl
theorem tabInf (t : Bool) : (Try.prog.info? 27).map (·.size) = some (tabRow t).size := by rw [tabRow_size]; exact tabInf_
/-- A table lies in block g. -/
def IsTab (t : Bool) (W : World) (g : Nat) : Prop := W.heap[g]? = some (.cells (tabRow t) 27 (0, 0))
theorem IsTab.new (t : Bool) (W : World) : IsTab t (W.alloc (.cells (tabRow t) 27 (0, 0))) W.heap.size := heap_alloc_new W _
theorem IsTab.below {t : Bool} {W W1 : World} {g : Nat} (h : IsTab t W g) (hw : Below W.heap.size W W1) : IsTab t W1 g := (hw.block g (blk_lt h)).trans h
theorem IsTab.cell {t : Bool} {W : World} {g i : Nat} (h : IsTab t W g) (hi : i < 256) : W.cell? ⟨g, i, none⟩ = some (.int .u32 ((tabN t i : Nat) : Int)) := (cell_of_row W g i _ _ _ h).trans (tabRow_get t hi)
theorem IsTab.drew {t : Bool} {W : World} {g : Nat} (h : IsTab t W g) (m : Nat) : IsTab t (W.drewN m) g := h
def stepN (t : Bool) (s c : Nat) : Nat := (s >>> 8) ^^^ tabN t ((s % 256) ^^^ c)
def runN (t : Bool) (s : Nat) : List Nat → Nat
  | [] => s
  | c :: l => runN t (stepN t s c) l
def moreN (t : Bool) (s : Nat) (l : List Nat) : Nat := 4294967295 ^^^ runN t (4294967295 ^^^ s) l
theorem runN_true (l : List Nat) : ∀ s : Nat, runN true s l = M.run s l := by
  induction l with
  | nil => intro s; rfl
  | cons c l ih => intro s; show runN true (stepN true s c) l = M.run (M.btn 8 (s ^^^ c)) l; rw [M.table_step]; exact ih _
theorem moreN_true (s : Nat) (l : List Nat) : moreN true s l = M.more s l := by unfold moreN M.more; rw [runN_true]
theorem runN_snoc (t : Bool) (l : List Nat) (c : Nat) : ∀ s : Nat, runN t s (l ++ [c]) = stepN t (runN t s l) c := by
  induction l with
  | nil => intro s; rfl
  | cons a l ih => intro s; exact ih _
theorem stepN_lt {t : Bool} {s c : Nat} (hs : s < 4294967296) (hc : c < 256) : stepN t s c < 4294967296 := by
  unfold stepN
  refine Nat.xor_lt_two_pow (n := 32) (by rw [Nat.shiftRight_eq_div_pow]; omega) (tabN_lt t ?_)
  exact Nat.xor_lt_two_pow (n := 8) (by omega) hc
theorem runN_lt {t : Bool} (l : List Nat) : ∀ {s : Nat}, s < 4294967296 → (∀ c ∈ l, c < 256) → runN t s l < 4294967296 := by
  induction l with
  | nil => intro s h _; exact h
  | cons c l ih => intro s h hc; exact ih (stepN_lt h (hc c (List.mem_cons_self ..))) (fun x hx => hc x (List.mem_cons_of_mem _ hx))
/-- Bytes as naturals. -/
def nats (l : List Int) : List Nat := l.map Int.toNat
def byteRow (l : List Int) : Prop := ∀ c ∈ l, 0 ≤ c ∧ c < 256
theorem nats_lt {l : List Int} (h : byteRow l) : ∀ c ∈ nats l, c < 256 := by
  intro c hc
  obtain ⟨x, hx, rfl⟩ := List.mem_map.1 hc
  have := h x hx
  omega
theorem nats_take_succ {l : List Int} {k : Nat} (hk : k < l.length) : nats (l.take (k + 1)) = nats (l.take k) ++ [(l.getD k 0).toNat] := by
  unfold nats
  rw [List.take_succ_eq_append_getElem hk, List.map_append, List.getD_eq_getElem?_getD, List.getElem?_eq_getElem hk]
  rfl
theorem rd_nat (l : List Int) (k : Nat) : rd l (k : Int) = l.getD k 0 := by
  unfold rd
  simp
theorem getD_byte {l : List Int} (h : byteRow l) (k : Nat) : 0 ≤ l.getD k 0 ∧ l.getD k 0 < 256 := by
  rw [List.getD_eq_getElem?_getD]
  cases e : l[k]? with
  | none => exact ⟨by decide, by decide⟩
  | some x => exact h x (List.mem_of_getElem? e)
theorem xor_top {s : Nat} (h : s < 4294967296) : Go.bits .xor .u32 IntKind.u32.max (s : Int) = ((4294967295 ^^^ s : Nat) : Int) := u32_xor_nat 4294967295 s (by decide) h
set_option maxHeartbeats 4000000 in
set_option maxRecDepth 100000 in
theorem crc_More.calls (t : Bool) (s : Nat) (hs : s < 4294967296) (A0 : Option Addr) (c0 : Nat) (l0 : List Int) (w : World) (hr0 : Kd.C (Kd.int .u8) w A0 l0.length l0) (hc0 : l0.length ≤ c0) (hb : byteRow l0) :
    Calls Try.prog 23 #[tabV t, .int .u32 (s : Int), .slice A0 l0.length c0] w fun e w' => e = .returned (.int .u32 ((moreN t s (nats l0) : Nat) : Int)) ∧ Below w.heap.size w w' := by
  have HR := Aside0.mk hr0
  have HC := Aside0.mk hc0
  have HB := Aside0.mk hb
  have hlen : l0.length ≤ 9223372036854775807 := hr0.2.1
  have HT := Aside0.mk (IsTab.new t w)
  have hsg : IntKind.u32.signed = false := rfl
  have hs' : 4294967295 ^^^ s < 4294967296 := Nat.xor_lt_two_pow (n := 32) (by decide) hs
  have e0 := xor_top hs
  generalize hq : 4294967295 ^^^ s = q at hs' e0
  have Hq := Aside0.mk hq
  clear hr0 hc0 hb hq
  go_enter Try.func23, Try.ntmps23
  go_wp2_with fail
  go_loop [1, 13] (fun v1 v13 => ∃ k : Nat, k ≤ l0.length ∧ v13 = .int .i64 k ∧ v1 = .int .u32 ((runN t q (nats (l0.take k)) : Nat) : Int)) (fun _ v13 => l0.length - (intOf v13).toNat)
  case atStart => exact ⟨0, Nat.zero_le _, rfl, rfl⟩
  case round =>
    obtain ⟨k, hk, rfl, rfl⟩ := hrel
    have hrl : runN t q (nats (l0.take k)) < 4294967296 := runN_lt _ hs' (nats_lt fun c hc => HB.out c (List.mem_of_mem_take hc))
    by_cases hlt : k < l0.length
    · have hcb := getD_byte HB.out k
      have hst : runN t q (nats (l0.take (k + 1))) = stepN t (runN t q (nats (l0.take k))) (l0.getD k 0).toNat := by rw [nats_take_succ hlt, runN_snoc]
      have HST := Aside0.mk hst
      clear hst
      obtain ⟨ad, e1, hx1⟩ := Kd.at_int HR.out (k : Int) (by omega) (by omega)
      cases e1
      rw [rd_nat, Int.toNat_natCast] at hx1
      replace hx1 := ((below_alloc (Below.refl w.heap.size w) (.cells (tabRow t) 27)).cell (World.block_lt_of_cell? w _ hx1)).trans hx1
      generalize l0.getD k 0 = c at hcb hx1 HST
      generalize hr : runN t q (nats (l0.take k)) = r at hrl HST
      have hx : (r % 256) ^^^ c.toNat < 256 := Nat.xor_lt_two_pow (n := 8) (by omega) (by omega)
      have hidx : Go.bits .xor .u8 ((r : Int) % 256) c = (((r % 256) ^^^ c.toNat : Nat) : Int) := by
        have h := u8_xor ((r : Int) % 256) c (by omega) (by omega) hcb.1 hcb.2
        rw [h]
        congr 2
      have hcell := HT.out.cell hx
      have hres : Go.bits .xor .u32 ((r : Int) / 256) ((tabN t ((r % 256) ^^^ c.toNat) : Nat) : Int) = ((stepN t r c.toNat : Nat) : Int) := by
        have h := u32_xor_nat (r / 256) (tabN t ((r % 256) ^^^ c.toNat)) (by omega) (tabN_lt t hx)
        unfold stepN
        rw [Nat.shiftRight_eq_div_pow]
        exact h
      generalize (r % 256) ^^^ c.toNat = x at hx hidx hcell hres
      clear hr
      go_wp2_with fail
      go_round
      case rel => exact ⟨k + 1, by omega, by go_num, by rw [HST.out]⟩
      case measure => simp [intOf]; omega
    · obtain rfl : k = l0.length := by omega
      rw [List.take_length] at hrl
      have e1 := xor_top hrl
      have hm : moreN t s (nats l0) = 4294967295 ^^^ runN t q (nats l0) := by unfold moreN; rw [Hq.out]
      have HM := Aside0.mk hm
      clear hm
      rw [List.take_length]
      go_wp2_with fail
      go_ret
      exact ⟨by rw [HM.out]; rfl, below_alloc (Below.refl _ _) _⟩
set_option maxHeartbeats 4000000 in
set_option maxRecDepth 100000 in
theorem crc_Sum.calls (t : Bool) (A0 : Option Addr) (c0 : Nat) (l0 : List Int) (w : World) (hr0 : Kd.C (Kd.int .u8) w A0 l0.length l0) (hc0 : l0.length ≤ c0) (hb : byteRow l0) :
    Calls Try.prog 21 #[tabV t, .slice A0 l0.length c0] w fun e w' => e = .returned (.int .u32 ((moreN t 0 (nats l0) : Nat) : Int)) ∧ Below w.heap.size w w' := by
  have HC := Aside0.mk (crc_More.calls t 0 (by decide) A0 c0 l0 (w.alloc (.cells (tabRow t) 27)) (Kd.C_below hr0 (below_alloc (Below.refl _ _) _)) hc0 hb)
  have HT := Aside0.mk (IsTab.new t w)
  clear hr0 hc0 hb
  go_enter Try.func21, Try.ntmps21
  go_wp2_with fail
  refine wp_load_row 27 (.tmp 2) rfl w.heap.size rfl 27 (tabRow t) (0, 0) _ HT.out Try.underlying27 rfl (tabInf t) ?_
  go_wp2_with (go_at_call 23; refine HC.out.mono ?_; rintro e w2 ⟨rfl, hB⟩; have HB := Aside0.mk hB; clear hB)
  go_ret
  exact ⟨rfl, below_step (below_alloc (Below.refl _ _) _) HB.out⟩
theorem bit_f (s : Nat) (h : s < 4294967296) : crc_bit.f (s : Int) = some ((M.bt s : Nat) : Int) := by
  unfold crc_bit.f M.bt
  have h1 : Go.bits .and .u32 (s : Int) 1 = ((s % 2 : Nat) : Int) := by
    have := u32_and_nat s 1 h (by decide)
    rw [Nat.and_one_is_mod] at this
    exact this
  have h2 : Go.bits .xor .u32 ((s : Int) / 2) 3988292384 = ((s / 2 ^^^ 3988292384 : Nat) : Int) := u32_xor_nat (s / 2) 3988292384 (by omega) (by decide)
  rw [h1, h2, Nat.shiftRight_eq_div_pow]
  by_cases hc : s % 2 = 1
  · rw [if_pos (by omega), if_pos hc]
  · rw [if_neg (by omega), if_neg hc, Nat.xor_zero]
    congr 1
theorem byteOf_l (n : Nat) : ∀ (k : Nat) (s : Nat), s < 4294967296 → n < k → n ≤ 8 → crc_byteOf.l0 k (s : Int) ((8 - n : Nat) : Int) = some ((M.btn n s : Nat) : Int) := by
  induction n with
  | zero =>
    intro k s hs hk _
    obtain ⟨k, rfl⟩ : ∃ m, k = m + 1 := ⟨k - 1, by omega⟩
    simp only [crc_byteOf.l0]
    rw [if_neg (by decide)]
    rfl
  | succ n ih =>
    intro k s hs hk h8
    obtain ⟨k, rfl⟩ : ∃ m, k = m + 1 := ⟨k - 1, by omega⟩
    simp only [crc_byteOf.l0]
    rw [if_pos (by omega), bit_f s hs, Option.bind_some, show wrap64 (((8 - (n + 1) : Nat) : Int) + 1) = ((8 - n : Nat) : Int) by unfold wrap64; omega]
    exact ih k _ (M.bt_lt hs) (by omega) (by omega)
theorem byteOf_f (s : Nat) (hs : s < 4294967296) : crc_byteOf.f 9 (s : Int) = some ((M.btn 8 s : Nat) : Int) := byteOf_l 8 9 s hs (by decide) (by decide)
theorem sum_step (s : Nat) (c : Int) (hs : s < 4294967296) (hc : 0 ≤ c ∧ c < 256) : Go.bits .xor .u32 (s : Int) c = ((s ^^^ c.toNat : Nat) : Int) := by
  have := u32_xor (s : Int) c (by omega) (by omega) hc.1 (by omega)
  rw [this, Int.toNat_natCast]
theorem mrun_snoc (l : List Nat) (c : Nat) (s : Nat) : M.run s (l ++ [c]) = M.btn 8 (M.run s l ^^^ c) := by rw [M.run_append]; rfl
set_option maxHeartbeats 4000000 in
set_option maxRecDepth 100000 in
theorem crc_Slow.calls (A0 : Option Addr) (c0 : Nat) (l0 : List Int) (w : World) (hr0 : Kd.C (Kd.int .u8) w A0 l0.length l0) (hc0 : l0.length ≤ c0) (hb : byteRow l0) :
    Calls Try.prog 24 #[.slice A0 l0.length c0] w fun e w' => e = .returned (.int .u32 ((M.sum (nats l0) : Nat) : Int)) ∧ Below w.heap.size w w' := by
  have HR := Aside0.mk hr0
  have HB := Aside0.mk hb
  have hlen : l0.length ≤ 9223372036854775807 := hr0.2.1
  have hsg : IntKind.u32.signed = false := rfl
  clear hr0 hc0 hb
  go_enter Try.func24, Try.ntmps24
  go_wp2_with fail
  go_loopw [3, 8] (fun v3 v8 wr => ∃ k : Nat, k ≤ l0.length ∧ v8 = .int .i64 k ∧ v3 = .int .u32 ((M.run 4294967295 (nats (l0.take k)) : Nat) : Int) ∧ Aside0 (Below w.heap.size w wr)) (fun _ v8 _ => l0.length - (intOf v8).toNat)
  case atStart => exact ⟨0, Nat.zero_le _, rfl, rfl, ⟨Below.refl _ _⟩⟩
  case round =>
    obtain ⟨k, hk, rfl, rfl, HBW⟩ := hrel
    have hrl : M.run 4294967295 (nats (l0.take k)) < 4294967296 := M.run_lt _ (by decide) (nats_lt fun c hc => HB.out c (List.mem_of_mem_take hc))
    by_cases hlt : k < l0.length
    · have hcb := getD_byte HB.out k
      have hst : M.run 4294967295 (nats (l0.take (k + 1))) = M.btn 8 (M.run 4294967295 (nats (l0.take k)) ^^^ (l0.getD k 0).toNat) := by rw [nats_take_succ hlt, mrun_snoc]
      have HST := Aside0.mk hst
      clear hst
      obtain ⟨ad, e1, hx1⟩ := Kd.at_int HR.out (k : Int) (by omega) (by omega)
      cases e1
      rw [rd_nat, Int.toNat_natCast] at hx1
      replace hx1 := (HBW.out.cell (World.block_lt_of_cell? w _ hx1)).trans hx1
      generalize l0.getD k 0 = c at hcb hx1 HST
      generalize hr : M.run 4294967295 (nats (l0.take k)) = r at hrl HST
      have hidx := sum_step r c hrl hcb
      have HF := Aside0.mk (byteOf_f (r ^^^ c.toNat) (Nat.xor_lt_two_pow (n := 32) hrl (by omega)))
      generalize r ^^^ c.toNat = x at hidx HF HST
      clear hr
      go_wp2_with (go_at_call 49; refine (crc_byteOf.calls 9 (x : Int) _ _ HF.out).mono ?_; rintro e w2 ⟨rfl, hd⟩; have HD := Aside0.mk (below_step HBW.out (Drawn0.below hd)); clear hd)
      go_roundw
      case rel => exact ⟨k + 1, by omega, by go_num, by rw [HST.out], HD⟩
      case measure => simp [intOf]; omega
    · obtain rfl : k = l0.length := by omega
      rw [List.take_length] at hrl
      have e1 := xor_top hrl
      have HM := Aside0.mk (show M.sum (nats l0) = 4294967295 ^^^ M.run 4294967295 (nats l0) from rfl)
      rw [List.take_length]
      go_wp2_with fail
      go_ret
      exact ⟨by rw [HM.out]; rfl, HBW.out⟩
set_option maxHeartbeats 4000000 in
set_option maxRecDepth 100000 in
theorem ref_More.calls (s : Nat) (hs : s < 4294967296) (A0 : Option Addr) (c0 : Nat) (l0 : List Int) (w : World) (hr0 : Kd.C (Kd.int .u8) w A0 l0.length l0) (hc0 : l0.length ≤ c0) (hb : byteRow l0) :
    Calls Try.prog 53 #[.int .u32 (s : Int), .slice A0 l0.length c0] w fun e w' => e = .returned (.int .u32 ((M.more s (nats l0) : Nat) : Int)) ∧ w = w' := by
  have HR := Aside0.mk hr0
  have HB := Aside0.mk hb
  have hlen : l0.length ≤ 9223372036854775807 := hr0.2.1
  have hsg : IntKind.u32.signed = false := rfl
  have hs' : 4294967295 ^^^ s < 4294967296 := Nat.xor_lt_two_pow (n := 32) (by decide) hs
  have e0 := xor_top hs
  generalize hq : 4294967295 ^^^ s = q at hs' e0
  have Hq := Aside0.mk hq
  clear hr0 hc0 hb hq
  go_enter Try.func53, Try.ntmps53
  go_wp2_with fail
  go_loop [0, 5] (fun v3 v8 => ∃ k : Nat, k ≤ l0.length ∧ v8 = .int .i64 k ∧ v3 = .int .u32 ((M.run q (nats (l0.take k)) : Nat) : Int)) (fun _ v8 => l0.length - (intOf v8).toNat)
  case atStart => exact ⟨0, Nat.zero_le _, rfl, rfl⟩
  case round =>
    obtain ⟨k, hk, rfl, rfl⟩ := hrel
    have hrl : M.run q (nats (l0.take k)) < 4294967296 := M.run_lt _ hs' (nats_lt fun c hc => HB.out c (List.mem_of_mem_take hc))
    by_cases hlt : k < l0.length
    · have hcb := getD_byte HB.out k
      have hst : M.run q (nats (l0.take (k + 1))) = M.btn 8 (M.run q (nats (l0.take k)) ^^^ (l0.getD k 0).toNat) := by rw [nats_take_succ hlt, mrun_snoc]
      have HST := Aside0.mk hst
      clear hst
      obtain ⟨ad, e1, hx1⟩ := Kd.at_int HR.out (k : Int) (by omega) (by omega)
      cases e1
      rw [rd_nat, Int.toNat_natCast] at hx1
      generalize l0.getD k 0 = c at hcb hx1 HST
      generalize hr : M.run q (nats (l0.take k)) = r at hrl HST
      have hidx := sum_step r c hrl hcb
      have hx : r ^^^ c.toNat < 4294967296 := Nat.xor_lt_two_pow (n := 32) hrl (by omega)
      generalize r ^^^ c.toNat = x at hidx HST hx
      clear hr
      go_wp2_with fail
      go_loop [0, 6] (fun v0 v6 => ∃ j : Nat, j ≤ 8 ∧ v6 = .int .i64 j ∧ v0 = .int .u32 ((M.btn j x : Nat) : Int)) (fun _ v6 => 8 - (intOf v6).toNat)
      case atStart => exact ⟨0, Nat.zero_le _, rfl, rfl⟩
      case round =>
        obtain ⟨j, hj, rfl, rfl⟩ := hrel
        by_cases hj8 : j < 8
        · have hy : M.btn j x < 4294967296 := M.btn_lt j hx
          have hn : M.btn (j + 1) x = M.bt (M.btn j x) := by rw [M.btn_add]; rfl
          have HN := Aside0.mk hn
          generalize M.btn j x = y at hy HN
          have h1 : Go.bits .and .u32 (y : Int) 1 = ((y % 2 : Nat) : Int) := by
            have := u32_and_nat y 1 hy (by decide)
            rw [Nat.and_one_is_mod] at this
            exact this
          have h2 : Go.bits .xor .u32 ((y : Int) / 2) 3988292384 = ((y / 2 ^^^ 3988292384 : Nat) : Int) := u32_xor_nat (y / 2) 3988292384 (by omega) (by decide)
          clear hn
          by_cases ho : y % 2 = 1
          · have hb1 : (((y % 2 : Nat) : Int) == 1) = true := by rw [ho]; rfl
            have hbt : M.bt y = y / 2 ^^^ 3988292384 := by unfold M.bt; rw [Nat.shiftRight_eq_div_pow, if_pos ho]
            have HBT := Aside0.mk hbt
            clear hbt ho
            go_wp2_with fail
            go_round
            case rel => exact ⟨j + 1, by omega, by go_num, by rw [HN.out, HBT.out]⟩
            case measure => simp [intOf]; omega
          · have hb1 : (((y % 2 : Nat) : Int) == 1) = false := by rw [show y % 2 = 0 by omega]; rfl
            have hbt : M.bt y = y / 2 := by unfold M.bt; rw [Nat.shiftRight_eq_div_pow, if_neg ho, Nat.xor_zero]
            have HBT := Aside0.mk hbt
            clear hbt ho
            go_wp2_with fail
            go_round
            case rel => exact ⟨j + 1, by omega, by go_num, by rw [HN.out, HBT.out]; rfl⟩
            case measure => simp [intOf]; omega
        · obtain rfl : j = 8 := by omega
          go_wp2_with fail
          go_round
          case rel => exact ⟨k + 1, by omega, by go_num, by rw [HST.out]⟩
          case measure => simp [intOf]; omega
    · obtain rfl : k = l0.length := by omega
      rw [List.take_length] at hrl
      have e1 := xor_top hrl
      have HM := Aside0.mk (show M.more s (nats l0) = 4294967295 ^^^ M.run q (nats l0) by unfold M.more; rw [Hq.out])
      rw [List.take_length]
      go_wp2_with fail
      go_ret
      exact ⟨by rw [HM.out]; rfl, rfl⟩
def overRow (cs : Array Value) (o : Nat) : List Value → Array Value
  | [] => cs
  | v :: r => overRow (cs.setIfInBounds o v) (o + 1) r
theorem overRow_size (vs : List Value) : ∀ (cs : Array Value) (o : Nat), (overRow cs o vs).size = cs.size := by
  induction vs with
  | nil => intro cs o; rfl
  | cons v r ih => intro cs o; show (overRow _ _ r).size = _; rw [ih]; simp
theorem overRow_get (vs : List Value) : ∀ (cs : Array Value) (o i : Nat), o + vs.length ≤ cs.size → (overRow cs o vs)[i]? = if o ≤ i ∧ i < o + vs.length then vs[i - o]? else cs[i]? := by
  induction vs with
  | nil => intro cs o i h; rw [if_neg (by simp only [List.length_nil]; omega)]; rfl
  | cons v r ih =>
    intro cs o i h
    show (overRow (cs.setIfInBounds o v) (o + 1) r)[i]? = _
    simp only [List.length_cons] at h ⊢
    rw [ih _ _ _ (by simp; omega)]
    by_cases h1 : o + 1 ≤ i ∧ i < o + 1 + r.length
    · rw [if_pos h1, if_pos (by omega), show i - o = (i - (o + 1)) + 1 by omega]
      rfl
    · rw [if_neg h1]
      by_cases h2 : i = o
      · subst h2
        rw [if_pos (by omega), Nat.sub_self, Array.getElem?_setIfInBounds, if_pos rfl, if_pos (by omega)]
        rfl
      · rw [if_neg (by omega), Array.getElem?_setIfInBounds, if_neg (by omega)]
theorem overRow_all (cs cs' : Array Value) (h : cs'.size = cs.size) : overRow cs 0 cs'.toList = cs' := by
  apply Array.ext_getElem?
  intro i
  rw [overRow_get _ _ _ _ (by simp; omega)]
  by_cases hi : i < cs'.size
  · rw [if_pos (by simp; omega)]; simp
  · rw [if_neg (by simp; omega)]
    rw [Array.getElem?_eq_none (by omega), Array.getElem?_eq_none (by omega)]
theorem heap_setCells (g : Nat) (t : TypeId) (vs : List Value) : ∀ (o : Nat) (w : World) (cs : Array Value), w.heap[g]? = some (.cells cs t (0, 0)) → (w.setCells g o vs).heap[g]? = some (.cells (overRow cs o vs) t (0, 0)) := by
  induction vs with
  | nil => intro o w cs h; exact h
  | cons v r ih => intro o w cs h; exact ih (o + 1) _ _ (blk_put h o v rfl)
theorem grown_setCells (g : Nat) (vs : List Value) : ∀ (o : Nat) (w : World), w.grownBy (w.setCells g o vs) (some g) := by
  induction vs with
  | nil => intro o w; exact World.grownBy.refl _ _
  | cons v r ih =>
    intro o w
    refine World.grownBy.trans ?_ (ih (o + 1) _)
    exact ⟨rfl, rfl, rfl, by simp [World.setCell], fun i _ hne => Below.heap_setCell w _ v i (by rintro rfl; exact hne rfl)⟩
theorem there_blk {W : World} {g : Nat} {Z : Array Value} {t : TypeId} (h : W.heap[g]? = some (.cells Z t (0, 0))) : W.there g 0 Z.size := by
  intro j hj
  rw [Nat.zero_add]
  refine ⟨?_, blk_frozen h j⟩
  rw [blk_cell h j, Array.getElem?_eq_getElem hj]
  rfl
theorem tabRow_one (t : Bool) : (tabRow t).all (·.oneCell') = true := by
  refine all_oneCell_toArray ?_
  intro v hv
  obtain ⟨i, _, rfl⟩ := List.mem_map.1 hv
  rfl
/-- A table is stored into a variable of its own. -/
theorem wp_store_tab {o : Oper} {a : Act} {W : World} {K : Act → World → Prop} {Q : Exit → Act → World → Prop} (x y : Operand) (ho : o.op = .store 27 x y) (g : Nat) (hx : a.eval x = .pointer (some ⟨g, 0, none⟩)) (t : Bool) (hy : a.eval y = tabV t)
    (Z : Array Value) (hZ : W.heap[g]? = some (.cells Z 27 (0, 0))) (hz : Z.size = 256) (h : ∀ W', IsTab t W' g → W.grownBy W' (some g) → K (a.put o.dst undef) W') : o.wp Try.prog a W K Q := by
  refine wp_store_mid 27 x y ho g 0 (tabRow t) hx hy (by rw [tabRow_size, ← hz]; exact there_blk hZ) (tabInf t) (tabRow_one t) (h _ ?_ (grown_setCells _ _ _ _))
  have := heap_setCells g 27 (tabRow t).toList 0 W Z hZ
  rw [overRow_all _ _ (by rw [tabRow_size, hz])] at this
  exact this
/-- The table as it is made: the first k rows are. -/
def mkRow (k : Nat) : Array Value := ((List.range 256).map fun i => Value.int .u32 ((if i < k then tabN true i else 0 : Nat) : Int)).toArray
theorem wpList_store_tab {ops : Array Oper} {rest : List Oper} {o : Oper} {a : Act} {W : World} {Q : Exit → Act → World → Prop} (hgd : o.guard = none) (x y : Operand) (ho : o.op = .store 27 x y) (g : Nat) (hx : a.eval x = .pointer (some ⟨g, 0, none⟩)) (t : Bool) (hy : a.eval y = tabV t)
    (Z : Array Value) (hZ : W.heap[g]? = some (.cells Z 27 (0, 0))) (hz : Z.size = 256) (h : ∀ W', IsTab t W' g → W.grownBy W' (some g) → wpList Try.prog ops Q rest (a.put o.dst undef) W') : wpList Try.prog ops Q (o :: rest) a W :=
  wpList_plain hgd fun _ hK => wp_store_tab x y ho g hx t hy Z hZ hz fun W' h1 h2 => hK _ _ (h W' h1 h2)
theorem mkRow_get (k : Nat) {i : Nat} (h : i < 256) : (mkRow k)[i]? = some (.int .u32 ((if i < k then tabN true i else 0 : Nat) : Int)) := by
  unfold mkRow
  simp [h]
theorem mkRow_size (k : Nat) : (mkRow k).size = 256 := by
  unfold mkRow
  rw [List.size_toArray, List.length_map, List.length_range]
theorem mkRow_done : mkRow 256 = tabRow true := by
  apply Array.ext_getElem?
  intro i
  by_cases hi : i < 256
  · rw [mkRow_get _ hi, tabRow_get _ hi, if_pos hi]
  · rw [Array.getElem?_eq_none (by rw [mkRow_size]; omega), Array.getElem?_eq_none (by rw [tabRow_size]; omega)]
theorem mkRow_put {k : Nat} (hk : k < 256) : (mkRow k).setIfInBounds k (.int .u32 ((tabN true k : Nat) : Int)) = mkRow (k + 1) := by
  apply Array.ext_getElem?
  intro i
  rw [Array.getElem?_setIfInBounds, mkRow_size]
  by_cases hi : i < 256
  · by_cases he : k = i
    · subst he
      rw [if_pos rfl, if_pos hi, mkRow_get _ hi, if_pos (by omega)]
    · rw [if_neg he, mkRow_get _ hi, mkRow_get _ hi]
      by_cases h1 : i < k
      · rw [if_pos h1, if_pos (by omega)]
      · rw [if_neg h1, if_neg (by omega)]
  · rw [if_neg (by omega), Array.getElem?_eq_none (by rw [mkRow_size]; omega), Array.getElem?_eq_none (by rw [mkRow_size]; omega)]
theorem zero27 : Try.zeroCells27 = mkRow 0 := by kernel_rfl
set_option maxHeartbeats 4000000 in
set_option maxRecDepth 100000 in
theorem crc_Make.calls (w : World) : Calls Try.prog 20 #[] w fun e w' => e = .returned (tabV true) ∧ Below w.heap.size w w' := by
  go_enter Try.func20, Try.ntmps20
  go_wp2_with fail
  have hlt0 : w.heap.size < (w.alloc (.cells Try.zeroCells27 27)).heap.size := blk_lt (blk_new w _)
  have hb0 : ((w.alloc (.cells Try.zeroCells27 27)).alloc (.cells Try.zeroCells27 27)).heap[w.heap.size]? = some (.cells (mkRow 0) 27 (0, 0)) := by rw [← zero27]; exact heap_alloc2_old w _ _
  have hb1 : ((w.alloc (.cells Try.zeroCells27 27)).alloc (.cells Try.zeroCells27 27)).heap[w.heap.size + 1]? = some (.cells (mkRow 0) 27 (0, 0)) := by rw [← zero27]; exact heap_alloc2_new w _ _
  have hbw : Below w.heap.size w ((w.alloc (.cells Try.zeroCells27 27)).alloc (.cells Try.zeroCells27 27)) := below_alloc (below_alloc (Below.refl _ _) _) _
  generalize (w.alloc (.cells Try.zeroCells27 27)).alloc (.cells Try.zeroCells27 27) = w0 at hb0 hb1 hbw ⊢
  obtain ⟨g, hg⟩ : ∃ g, w.heap.size = g := ⟨_, rfl⟩
  rw [hg] at hb0 hb1 ⊢
  have HG := Aside0.mk hg
  have H0 := Aside0.mk hb0
  have H1 := Aside0.mk hb1
  have HW := Aside0.mk hbw
  clear hb0 hb1 hbw hg hlt0
  go_loopw [2, 3] (fun v2 v3 wr => ∃ k : Nat, k ≤ 256 ∧ v3 = .int .i64 k ∧ Aside0 (wr.heap[g]? = some (.cells (mkRow 0) 27 (0, 0))) ∧ Aside0 (wr.heap[g + 1]? = some (.cells (mkRow k) 27 (0, 0))) ∧ Aside0 (Below w.heap.size w wr)) (fun _ v3 _ => 256 - (intOf v3).toNat)
  case atStart => exact ⟨0, by omega, rfl, H0, H1, HW⟩
  case round =>
    obtain ⟨k, hk, rfl, H0, H1, HW⟩ := hrel
    by_cases hlt : k < 256
    · have hcv : (k : Int) % 4294967296 = k := by omega
      have HF := Aside0.mk (byteOf_f k (by omega))
      go_wp2_with (go_at_call 49; refine (crc_byteOf.calls 9 (k : Int) _ _ HF.out).mono ?_; rintro e w2 ⟨rfl, hd⟩; have hd0 := Drawn0.below hd; have H2 := Aside0.mk (blk_below H0.out hd0); have hbk := blk_below H1.out hd0; have HW2 := Aside0.mk (below_step HW.out hd0); have hc2 := (blk_cell hbk k).trans (mkRow_get k hlt); have hf2 := blk_frozen hbk k; have H3 := Aside0.mk hbk; clear hd hd0 hbk)
      refine ⟨⟨k + 1, by omega, by go_num, ⟨(Below.heap_setCell w2 _ _ g (by show g ≠ g + 1; omega)).trans H2.out⟩, ⟨blk_put H3.out k _ (mkRow_put hlt)⟩, ⟨below_set HW2.out (by show w.heap.size ≤ g + 1; have := HG.out; omega)⟩⟩, by simp [intOf]; omega⟩
    · obtain rfl : k = 256 := by omega
      go_wp2_with fail
      refine wp_load_row 27 (.tmp 1) rfl (g + 1) rfl 27 (mkRow 256) (0, 0) _ H1.out Try.underlying27 rfl (by rw [mkRow_done]; exact tabInf true) ?_
      rw [mkRow_done]
      go_wp2_with (refine wpList_store_tab rfl (.tmp 0) (.tmp 13) rfl g rfl true rfl (mkRow 0) H0.out (mkRow_size 0) ?_; intro w3 hI hG)

      have HI := Aside0.mk hI
      have HB3 := Aside0.mk (show Below w.heap.size w w3 from (HW.out.grown hG HW.out.size (fun k hk => by cases hk; exact Nat.le_of_eq HG.out)))
      clear hI hG
      go_wp2_with fail

      refine bodyPost_ret (v := tabV true) (results_cell_row rfl _ _ g 27 (tabRow true) (0, 0) _ rfl HI.out Try.underlying27 rfl (tabInf true)) rfl ⟨rfl, HB3.out⟩
end Go.Proofs.Ytpalloofjljhkaa.P
