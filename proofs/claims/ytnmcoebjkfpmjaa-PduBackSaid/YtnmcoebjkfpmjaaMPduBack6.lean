/- A PDU that may be is read as_ it was written; bytes that are one are written as_ they were; unlike PDUs have unlike bytes. -/
-- Put together by wip/print2/mergelaw.py: printed words (what this claim does not use is left out), printed functions, texts of this session.
import Derived.Test.YtnmcoebjkfpmjaaMPduBack5
/-! LibF -/
namespace Go.Proofs.Ytnmcoebjkfpmjaa.Lib
set_option linter.unusedSimpArgs false
set_option linter.unusedVariables false
open Go.RowKit Go.Proofs.Ytnmcoebjkfpmjaa.P Go.Proofs.YtnmcoebjkfpmjaaW.PrintWords Go.Proofs.YtnmcoebjkfpmjaaW.PrintLast
theorem code_pdu (x : Int) : pdu_Code.f x = some (codeI x) := by
  unfold pdu_Code.f pdu_codes.f codeI
  rw [Option.bind_some]
  by_cases h0 : x < 0
  · rw [if_pos h0, if_neg (by omega)]
  rw [if_neg h0]
  by_cases h9 : x ≥ 10
  · rw [if_pos (show x ≥ (([3, 175, 227, 111, 67, 99, 15, 135, 103, 231] : List Int).length : Int) from h9), if_neg (by omega)]
  · rw [if_neg (show ¬ x ≥ (([3, 175, 227, 111, 67, 99, 15, 135, 103, 231] : List Int).length : Int) from h9), if_pos (by omega), if_pos (show x < (([3, 175, 227, 111, 67, 99, 15, 135, 103, 231] : List Int).length : Int) by show x < 10; omega), if_pos (by omega)]
    rfl
theorem one_pdu (b : Bool) : pdu_one.f b = some (b2i b) := by cases b <;> rfl
theorem or_b (x : Int) (r : Bool) (h0 : 0 ≤ x) (h1 : x ≤ 1000) (h2 : x % 2 = 0) : Go.bits .or .i64 x (b2i r) = x + b2i r := by
  have := b2i_le r
  exact or_join 1 x (b2i r) h0 (by simpa using h2) (by omega) this.1 (by omega) (by omega)
theorem code_le (kind : Int) (h0 : 0 ≤ kind) (h1 : kind ≤ 9) (p : Bool) : Go.bits .or .i64 (codeI kind) (wrap64 (16 * b2i p)) = codeI kind + 16 * b2i p := by
  have H : ∀ (p : Bool) (j : Fin 10), Go.bits .or .i64 (codeI (j.val : Int)) (wrap64 (16 * b2i p)) = codeI (j.val : Int) + 16 * b2i p := by decide +kernel
  have := H p ⟨kind.toNat, by omega⟩
  rwa [show ((kind.toNat : Nat) : Int) = kind by omega] at this
section
variable (k : Nat) (t f : Int) (resp : Bool) (form kind ns nr : Int) (poll : Bool) (info : List Int)
theorem enc_pdu : pdu_Encode.f (k + 4) t f resp form kind ns nr poll info = some (encL t f resp form kind ns nr poll info) := by
  unfold pdu_Encode.f encL
  rw [may_pdu, Option.bind_some]
  by_cases hm : mayB t f resp form kind ns nr info.length = true
  · rw [if_pos hm, if_pos hm]
    obtain ⟨hi, hf⟩ := may_cases hm
    unfold inB at hi
    have h1 := b2i_le resp
    have h2 := b2i_le poll
    rw [one_pdu, one_pdu, code_pdu]
    simp only [Option.bind_some]
    rw [or_b f resp (by omega) (by omega) (by omega), w64 (2 * nr) (by omega) (by omega), w64 (2 * ns) (by omega) (by omega), or_b (2 * nr) poll (by omega) (by omega) (by omega), Int.emod_eq_of_lt (a := t) (by omega) (by omega), Int.emod_eq_of_lt (a := f + b2i resp) (by omega) (by omega),
      Int.emod_eq_of_lt (a := 2 * ns) (by omega) (by omega), Int.emod_eq_of_lt (a := 2 * nr + b2i poll) (by omega) (by omega)]
    unfold encB ctlL
    rcases hf with ⟨rfl, rfl, _⟩ | ⟨rfl, k0, k2, rfl, _⟩ | ⟨rfl, rfl, rfl, k0, k9, _⟩
    · rw [if_pos (show (0 : Int) = 0 from rfl), if_pos (show (0 : Int) = 0 from rfl), if_pos (by simp), if_pos (by simp; omega)]
      rfl
    · rw [if_neg (show ¬ (1 : Int) = 0 by decide), if_pos (show (1 : Int) = 1 from rfl), if_neg (show ¬ (1 : Int) = 0 by decide), if_pos (show (1 : Int) = 1 from rfl), if_pos (by simp), if_pos (by simp; omega)]
      have e : Go.bits .or .i64 1 (wrap64 (4 * kind)) % 256 = 1 + 4 * kind := by
        have : kind = 0 ∨ kind = 1 ∨ kind = 2 := by omega
        rcases this with rfl | rfl | rfl <;> decide +kernel
      rw [e]
      rfl
    · rw [if_neg (show ¬ (2 : Int) = 0 by decide), if_neg (show ¬ (2 : Int) = 1 by decide), if_neg (show ¬ (2 : Int) = 0 by decide), if_neg (show ¬ (2 : Int) = 1 by decide), if_pos (by simp), if_pos (by simp; omega), code_le kind k0 k9]
      have c := code_ctl kind poll k0 k9
      rw [Int.emod_eq_of_lt c.2.2.2.1 c.2.2.2.2]
      rfl
  · rw [if_neg hm, if_neg hm]
end
theorem bytes_eq (a b : List Int) (ha : Bytes a) (hb : Bytes b) : bytes_Equal.f a b = some (decide (a = b)) := by
  unfold bytes_Equal.f
  congr 1
  rw [ByteArray.toList_eq, ByteArray.toList_eq]
  show (a.map (fun n => UInt8.ofNat n.toNat) == b.map (fun n => UInt8.ofNat n.toNat)) = decide (a = b)
  have inj : ∀ (a b : List Int), Bytes a → Bytes b → a.map (fun n => UInt8.ofNat n.toNat) = b.map (fun n => UInt8.ofNat n.toNat) → a = b := by
    intro a
    induction a with
    | nil => intro b _ _ h; cases b with
      | nil => rfl
      | cons y b => simp at h
    | cons x a ih => intro b ha hb h; cases b with
      | nil => simp at h
      | cons y b =>
        simp only [List.map_cons, List.cons.injEq] at h
        have hx := ha x List.mem_cons_self
        have hy := hb y List.mem_cons_self
        have e : x = y := by
          have := congrArg UInt8.toNat h.1
          simp at this
          omega
        rw [e, ih b (fun z hz => ha z (List.mem_cons_of_mem _ hz)) (fun z hz => hb z (List.mem_cons_of_mem _ hz)) h.2]
  by_cases h : a = b
  · rw [decide_eq_true h, h]; simp
  · rw [decide_eq_false h, beq_eq_false_iff_ne]
    intro e
    exact h (inj a b ha hb e)
section
variable (a0 a1 : Int) (a2 : Bool) (a3 a4 a5 a6 : Int) (a7 : Bool) (a8 : List Int) (b0 b1 : Int) (b2 : Bool) (b3 b4 b5 b6 : Int) (b7 : Bool) (b8 : List Int)
def pduEq : Bool := decide (a0 = b0 ∧ a1 = b1 ∧ a2 = b2 ∧ a3 = b3 ∧ a4 = b4 ∧ a5 = b5 ∧ a6 = b6 ∧ a7 = b7 ∧ a8 = b8)
theorem same_by {o : Option Bool} (h : o = some (decide (a8 = b8))) :
    (if a0 = b0 then (if a1 = b1 then (if (a2 == b2) = true then (if a3 = b3 then (if a4 = b4 then (if a5 = b5 then (if a6 = b6 then (if (a7 == b7) = true then (o.bind fun t103 => (some t103)) else (some false)) else (some false)) else (some false)) else (some false)) else (some false)) else (some false)) else (some false)) else (some false)) = some (pduEq a0 a1 a2 a3 a4 a5 a6 a7 a8 b0 b1 b2 b3 b4 b5 b6 b7 b8) := by
  rw [h]
  unfold pduEq
  by_cases h0 : a0 = b0
  · by_cases h1 : a1 = b1
    · by_cases h2 : a2 = b2
      · by_cases h3 : a3 = b3
        · by_cases h4 : a4 = b4
          · by_cases h5 : a5 = b5
            · by_cases h6 : a6 = b6
              · by_cases h7 : a7 = b7
                · simp [h0, h1, h2, h3, h4, h5, h6, h7]
                · simp [h0, h1, h2, h3, h4, h5, h6, h7]
              · simp [h0, h1, h2, h3, h4, h5, h6]
            · simp [h0, h1, h2, h3, h4, h5]
          · simp [h0, h1, h2, h3, h4]
        · simp [h0, h1, h2, h3]
      · simp [h0, h1, h2]
    · simp [h0, h1]
  · simp [h0]
theorem same_ref6 (k n : Nat) (hk : n + 1 ≤ k) (ha : a8.length ≤ n) (hn : n < 9223372036854775807) : antiphonref6_Same.f k a0 a1 a2 a3 a4 a5 a6 a7 a8 b0 b1 b2 b3 b4 b5 b6 b7 b8 = some (pduEq a0 a1 a2 a3 a4 a5 a6 a7 a8 b0 b1 b2 b3 b4 b5 b6 b7 b8) := by
  unfold antiphonref6_Same.f
  exact same_by _ _ _ _ _ _ _ _ _ _ _ _ _ _ _ _ _ _ (same_le a8 b8 n k hk ha hn)
theorem same_pdu6 (ha : Bytes a8) (hb : Bytes b8) : pdu_Same.f a0 a1 a2 a3 a4 a5 a6 a7 a8 b0 b1 b2 b3 b4 b5 b6 b7 b8 = some (pduEq a0 a1 a2 a3 a4 a5 a6 a7 a8 b0 b1 b2 b3 b4 b5 b6 b7 b8) := by
  unfold pdu_Same.f
  exact same_by _ _ _ _ _ _ _ _ _ _ _ _ _ _ _ _ _ _ (bytes_eq a8 b8 ha hb)
end
theorem pduEq_self (a0 a1 : Int) (a2 : Bool) (a3 a4 a5 a6 : Int) (a7 : Bool) (a8 : List Int) : pduEq a0 a1 a2 a3 a4 a5 a6 a7 a8 a0 a1 a2 a3 a4 a5 a6 a7 a8 = true := by unfold pduEq; simp
end Go.Proofs.Ytnmcoebjkfpmjaa.Lib
/-! PurePduBack -/
namespace Go.Proofs.Ytnmcoebjkfpmjaa.Pure
open Go.RowKit Go.Proofs.Ytnmcoebjkfpmjaa.P Go.Proofs.Ytnmcoebjkfpmjaa.Lib Go.Proofs.YtnmcoebjkfpmjaaW.PrintWords Go.Proofs.YtnmcoebjkfpmjaaW.PrintLast
theorem back_bytes (b : List Int) (hb : Bytes b) (hl : b.length ≤ 1500) (k : Nat) : antiphonlaw6_PduBack.j1 (k + 3039) b false = some true := by
  rw [show k + 3039 = (k + 3038) + 1 by omega, antiphonlaw6_PduBack.j1, if_neg (by decide), show k + 3038 = (k + 3018) + 20 by omega, dec_pdu b hb (by omega), Option.bind_some]
  by_cases h : (decR b).2.2.2.2.2.2.2.2.2 = 0
  · obtain ⟨t, f, resp, form, kind, ns, nr, poll, info, e, hm, hE⟩ := enc_dec b hb h
    rw [e, if_pos rfl, show k + 3018 + 20 = (k + 3034) + 4 by omega, enc_pdu, Option.bind_some]
    unfold encL
    rw [if_pos hm, if_pos rfl, hE, same_le b b 1500 _ (by omega) hl (by omega)]
    simp
  · rw [if_neg h]
theorem enc_inj {t f : Int} {resp : Bool} {form kind ns nr : Int} {poll : Bool} {info : List Int} {t' f' : Int} {resp' : Bool} {form' kind' ns' nr' : Int} {poll' : Bool} {info' : List Int}
    (hm : mayB t f resp form kind ns nr info.length = true) (hm' : mayB t' f' resp' form' kind' ns' nr' info'.length = true) :
    decide (encB t f resp form kind ns nr poll info = encB t' f' resp' form' kind' ns' nr' poll' info') = pduEq t f resp form kind ns nr poll info t' f' resp' form' kind' ns' nr' poll' info' := by
  unfold pduEq
  by_cases h : encB t f resp form kind ns nr poll info = encB t' f' resp' form' kind' ns' nr' poll' info'
  · rw [decide_eq_true h]
    have e := congrArg decR h
    rw [dec_enc _ _ _ _ _ _ _ _ _ hm, dec_enc _ _ _ _ _ _ _ _ _ hm'] at e
    simp only [Prod.mk.injEq, and_true] at e
    exact (decide_eq_true e).symm
  · rw [decide_eq_false h]
    symm
    apply decide_eq_false
    rintro ⟨rfl, rfl, rfl, rfl, rfl, rfl, rfl, rfl, rfl⟩
    exact h rfl
theorem PduBack : antiphonlaw6_PduBack.Pure := by
  intro t f resp form kind ns nr poll info t' f' resp' form' kind' ns' nr' poll' info' b
  intros
  rename_i hw _ _ _ _ _ _ _ hw' _ _ hwb
  have hi := wf_bytes hw
  have hi' := wf_bytes hw'
  have hb := wf_bytes hwb
  refine ⟨3041, ?_⟩
  have hA : antiphonlaw6_awake.f 3041 = some true := by decide +kernel
  unfold antiphonlaw6_PduBack.f
  rw [hA, Option.bind_some, if_pos rfl]
  by_cases hl : (b.length : Int) > 1500
  · rw [if_pos hl]
  have hB : antiphonlaw6_PduBack.j1 3040 b false = some true := back_bytes b hb (by omega) 1
  rw [if_neg hl, show (3041 : Nat) = 3037 + 4 from rfl, enc_pdu, Option.bind_some, enc_pdu, Option.bind_some]
  by_cases hm : mayB t f resp form kind ns nr info.length = true
  · have e1 : encL t f resp form kind ns nr poll info = (encB t f resp form kind ns nr poll info, 0) := by unfold encL; rw [if_pos hm]
    have hin : info.length ≤ 1040 := by have := (may_inB hm).1; unfold inB at this; omega
    rw [e1, if_pos rfl, show (3037 + 4 : Nat) = 3021 + 20 from rfl, dec_pdu _ (enc_bytes _ _ _ _ _ _ _ _ _ hm hi) (by rw [enc_len _ _ _ _ _ _ _ _ _ hm]; split <;> omega), Option.bind_some, dec_enc _ _ _ _ _ _ _ _ _ hm, if_pos rfl,
      same_pdu6 _ _ _ _ _ _ _ _ _ _ _ _ _ _ _ _ _ _ hi hi, Option.bind_some, pduEq_self, if_pos rfl, same_ref6 _ _ _ _ _ _ _ _ _ _ _ _ _ _ _ _ _ _ _ 1040 (by omega) hin (by omega), Option.bind_some, pduEq_self, if_pos rfl]
    rw [show (3021 + 20 : Nat) = 3040 + 1 from rfl, antiphonlaw6_PduBack.j0, if_pos rfl]
    by_cases hm' : mayB t' f' resp' form' kind' ns' nr' info'.length = true
    · have e2 : encL t' f' resp' form' kind' ns' nr' poll' info' = (encB t' f' resp' form' kind' ns' nr' poll' info', 0) := by unfold encL; rw [if_pos hm']
      rw [e2, if_pos rfl, same_le _ _ 1044 3040 (by omega) (by rw [enc_len _ _ _ _ _ _ _ _ _ hm]; split <;> omega) (by omega), Option.bind_some, enc_inj hm hm', same_ref6 _ _ _ _ _ _ _ _ _ _ _ _ _ _ _ _ _ _ _ 1040 (by omega) hin (by omega), Option.bind_some, if_neg (by simp),
        same_pdu6 _ _ _ _ _ _ _ _ _ _ _ _ _ _ _ _ _ _ hi hi', Option.bind_some, Option.bind_some]
      simpa using hB
    · have e2 : encL t' f' resp' form' kind' ns' nr' poll' info' = ([], 1) := by unfold encL; rw [if_neg hm']
      rw [e2, if_neg (by decide)]; exact hB
  · have e1 : encL t f resp form kind ns nr poll info = ([], 1) := by unfold encL; rw [if_neg hm]
    rw [e1, if_neg (by decide), show (3037 + 4 : Nat) = 3040 + 1 from rfl, antiphonlaw6_PduBack.j0, if_neg (by decide)]
    exact hB
end Go.Proofs.Ytnmcoebjkfpmjaa.Pure
/-! WSized -/
namespace Go.Proofs.YtnmcoebjkfpmjaaW.PrintWords
open Go.ChangeShapes Go.WideShapes
theorem sized_ints {H : Type} {enc : TypeId × Value → H} {P : Program} {W : World} {base : Nat} {spare : Nat → Bool} {held : Bool} {t e : TypeId} {k : IntKind} {a : Option Addr} {len cap : Nat} {d : DataW H} {ps : List MemPlace} {ts : List TypeId} {ds : List (DataW H)} {j : Nat}
    (hsz : (DataW.weightsEach P ts ds).all (· ≤ reachBytes) = true) (ht : ts[j]? = some t) (hd : ds[j]? = some d) (hu : P.underlying t = some (.slice e)) (he : P.underlying e = some (.int k)) (hc : P.cellsOf e = 1) {B : Nat} (hB : P.bytesOf e = B)
    (h : DataW.Trod enc P W base spare held t (.slice a len cap) d ps) : len * B ≤ 140737488351232 := by
  obtain ⟨fuel, hf⟩ := h
  rcases open_ints hu he hc hf with ⟨hcs, _⟩ | ⟨x, l, c, zs, hcs, _, hl, _, hz, hx, _, _⟩
  · simp [Value.cells] at hcs
    obtain ⟨rfl, rfl, rfl⟩ := hcs
    simp
  · simp [Value.cells] at hcs
    obtain ⟨rfl, rfl, rfl⟩ := hcs
    obtain ⟨hx, _⟩ := Prod.mk.inj hx
    subst hx
    have z := sized_slice hsz ht hd hu
    rw [hB] at z
    have hl2 : len ≤ zs.length := by
      rw [hz]
      split
      · exact hl
      · exact Nat.le_refl _
    have h1 : (lits (H := H) k (zs.take len)).length + (lits (H := H) k (zs.drop len)).length = zs.length := by
      simp [lits]
      omega
    rw [h1] at z
    exact Nat.le_trans (Nat.mul_le_mul_right _ hl2) z
end Go.Proofs.YtnmcoebjkfpmjaaW.PrintWords
/-! LawPduBack -/
namespace Go.Proofs.Ytnmcoebjkfpmjaa.pduBack
open Go.ChangeShapes Go.WideShapes Go.ChangeAt Go.RowKit
open Go.ChangeMaps (open_string shut_string)
set_option linter.unusedVariables false
theorem own : ownKnob Try.prog.godebug = none := by kernel_rfl
theorem laidOut : laidOutB Try.prog = true := by kernel_rfl
set_option maxRecDepth 100000 in
theorem lifted (os : Os) (started : os.Started) (H : Type) (enc : TypeId × Value → H) :
    ReturnsInHanded {} Try.checked os 8 .any (Rows.pduBackSpec.pre6 enc Try.prog Try.f8 Rows.pduBackRow.domain false) (Rows.pduBackSpec.post enc Try.prog Try.f8 false true false false) := by
  refine returnsInHanded_of_change_sized (C := Try.checked) own started (by kernel_rfl) Try.func8
    (ChangeSpec.witness6 (enc := enc) (C := Try.checked) false ⟨#[], #[.agg #[.int .i64 0, .int .i64 0, .bool false, .int .i64 0, .int .i64 0, .int .i64 0, .int .i64 0, .bool false, .slice none 0 0], .agg #[.int .i64 0, .int .i64 0, .bool false, .int .i64 0, .int .i64 0, .int .i64 0, .int .i64 0, .bool false, .slice none 0 0], .slice none 0 0], []⟩ 8 (by kernel_rfl) (by kernel_rfl) (by kernel_rfl) (by kernel_rfl)) ?_
  intro W base args ds gs before hval0 hW hcnd hsz0 _
  have hsz : (DataW.weightsEach Try.prog (Try.f8.params.toList ++ Rows.pduBackSpec.plain.varTypes Try.prog) (ds ++ gs)).all (· ≤ reachBytes) = true := hsz0
  have hval : ∀ (j : Nat) t v, Try.f8.params[j]? = some t → args[j]? = some v → Value.okWide Try.prog W .any base t v := hval0
  have hW' := hW
  obtain ⟨p, q, hA0, hV, rfl, hfz, hnd⟩ := hW
  have hA : DataW.TrodAll enc Try.prog W 0 (fun _ => true) true Try.f8.params.toList args.toList ds p := hA0
  rw [Try.params8] at hA hval hsz
  obtain ⟨v0, vs0, d0, ds0, p0, q0, hargs, rfl, rfl, h0, r0⟩ := trodAll_cons hA
  obtain ⟨v1, vs1, d1, ds1, p1, q1, rfl, rfl, rfl, h1, r1⟩ := trodAll_cons r0
  obtain ⟨v2, vs2, d2, ds2, p2, q2, rfl, rfl, rfl, h2, r2⟩ := trodAll_cons r1
  obtain ⟨rfl, rfl, rfl⟩ := trodAll_nil r2
  obtain rfl : args = #[v0, v1, v2] := by cases args; simp_all
  obtain ⟨rfl, rfl⟩ := trodVars_none hV
  obtain ⟨a0_0, a0_1, a0_2, a0_3, a0_4, a0_5, a0_6, a0_7, a0_8, n0_8, c0_8, z0_8, rfl, w0_0, w0_1, w0_3, w0_4, w0_5, w0_6, w0_8, _⟩ := Open.open_s25 (hval 0 25 v0 rfl rfl) h0
  have k0 := h0
  have lt0 : ∀ x ∈ p0, x.block < W.heap.size := by obtain ⟨m, hm⟩ := k0; exact DataW.trod_lt m _ _ _ hm
  obtain ⟨a1_0, a1_1, a1_2, a1_3, a1_4, a1_5, a1_6, a1_7, a1_8, n1_8, c1_8, z1_8, rfl, w1_0, w1_1, w1_3, w1_4, w1_5, w1_6, w1_8, _⟩ := Open.open_s25 (hval 1 25 v1 rfl rfl) h1
  have k1 := h1
  have lt1 : ∀ x ∈ p1, x.block < W.heap.size := by obtain ⟨m, hm⟩ := k1; exact DataW.trod_lt m _ _ _ hm
  obtain ⟨a2, n2, c2, rfl⟩ := okWide_slice Try.underlying23 (hval 2 23 v2 rfl rfl)
  have k2 := h2
  have lt2 : ∀ x ∈ p2, x.block < W.heap.size := by obtain ⟨m, hm⟩ := k2; exact DataW.trod_lt m _ _ _ hm
  obtain ⟨z2, w2⟩ : ∃ zs, Open.IsRow .u8 W a2 n2 c2 zs := by
    obtain ⟨fuel, hf⟩ := h2
    rcases open_ints Try.underlying23 Try.underlying5 (by kernel_rfl) hf with ⟨hcs, _⟩ | ⟨x, l, c, zs, hcs, _, hl, hm, hz, _, hcell, hwz⟩
    · simp [Value.cells] at hcs
      obtain ⟨rfl, rfl, rfl⟩ := hcs
      exact ⟨[], .inl ⟨rfl, rfl, rfl, rfl⟩⟩
    · simp [Value.cells] at hcs
      obtain ⟨rfl, rfl, rfl⟩ := hcs
      exact ⟨zs, .inr ⟨_, rfl, hl, hm, by simpa using hz, hcell, hwz⟩⟩
  have y2 : n2 * 1 ≤ 140737488351232 := Go.Proofs.YtnmcoebjkfpmjaaW.PrintWords.sized_ints hsz (j := 2) (t := 23) rfl rfl Try.underlying23 Try.underlying5 (by kernel_rfl) (by kernel_rfl) h2
  clear hA0 hval0 hsz0 hsz
  refine (P.antiphonlaw6_PduBack.walk Pure.PduBack a0_0 a0_1 a0_2 a0_3 a0_4 a0_5 a0_6 a0_7 a0_8 n0_8 c0_8 z0_8 a1_0 a1_1 a1_2 a1_3 a1_4 a1_5 a1_6 a1_7 a1_8 n1_8 c1_8 z1_8 a2 n2 c2 z2 W w0_0 w0_1 w0_3 w0_4 w0_5 w0_6 w0_8 w1_0 w1_1 w1_3 w1_4 w1_5 w1_6 w1_8 w2 y2).mono fun e W' ⟨he, bel⟩ => ?_
  subst he
  exact ⟨_, rfl, _, _, _, [], _, [], hW', trodAll_mk1 (shut_bool Try.underlying4 _), (trodAll_cons_mk (Below.trod laidOut (by kernel_rfl) (of_decide_eq_true (by kernel_rfl)) k0 bel lt0) (trodAll_cons_mk (Below.trod laidOut (by kernel_rfl) (of_decide_eq_true (by kernel_rfl)) k1 bel lt1) (trodAll_cons_mk (Below.trod laidOut (by kernel_rfl) (of_decide_eq_true (by kernel_rfl)) k2 bel lt2) trodAll_mk0))), rfl, bel.frame _, fun h => by cases h⟩
theorem fact0 : (Rows.pduBackRow.wf (OpenSpec.ofChange Rows.pduBackSpec)) = true := by kernel_rfl
theorem fact1 : (laidOutB Try.prog) = true := Kit.laidOut
theorem fact2 : (mapsRowed Try.prog) = true := Kit.mapsRowed
theorem fact3 : (Try.f8.params.all (Try.prog.readableRec ·)) = true := by kernel_rfl
theorem fact4 : (namedTie Try.prog Rows.pduBackRow.named Rows.pduBackSpec.vars) = true := by kernel_rfl
theorem fact5 : ((Rows.pduBackRow.stops == [])) = true := by kernel_rfl
theorem fact6 : ((Try.prog.stops == [])) = true := Kit.stops
theorem fact7 : ((Rows.pduBackRow.knobs == [])) = true := by kernel_rfl
theorem fact8 : ((Try.prog.stopKnobs == [])) = true := Kit.stopKnobs
theorem fact9 : ((Rows.pduBackRow.inPlace == Try.prog.inPlace 8)) = true := by kernel_rfl
theorem fact10 : ((Rows.pduBackRow.unfollowed == Try.prog.unfollowed 8)) = true := by kernel_rfl
theorem fact11 : ((Rows.pduBackRow.recurses == Try.prog.recurses 8)) = true := by kernel_rfl
theorem fact12 : ((Rows.pduBackRow.named == Try.prog.varsNamed 8)) = true := by kernel_rfl
theorem fact13 : ((Rows.pduBackRow.maps == (Try.f8.params.toList ++ Rows.pduBackSpec.plain.varTypes Try.prog).any (Try.prog.mapsRec ·))) = true := by kernel_rfl
theorem fact14 : ((Rows.pduBackRow.ifaces == (Try.f8.params.toList ++ Rows.pduBackSpec.plain.varTypes Try.prog).any (Try.prog.ifacesRec ·))) = true := by kernel_rfl
theorem fact15 : ((Rows.pduBackRow.mapsOut == Try.prog.mapsAmong Try.f8.resultTypes.toList)) = true := by kernel_rfl
theorem fact16 : ((Rows.pduBackRow.loops == (Try.f8.params.toList ++ Rows.pduBackSpec.plain.varTypes Try.prog).any (Try.prog.loopsFrom ·))) = true := by kernel_rfl
theorem fact17 : ((Rows.pduBackRow.wideKeys == (Try.f8.params.toList ++ Rows.pduBackSpec.plain.varTypes Try.prog ++ Try.f8.resultTypes.toList).any (Try.prog.wideKeysFrom ·))) = true := by kernel_rfl
theorem fact18 : (Rows.pduBackSpec.vars.all (Try.prog.varReadable ·)) = true := by kernel_rfl
theorem fact19 : (Try.f8.resultTypes.all (fun t => Try.prog.readableRec t && decide (t < Try.prog.types.size))) = true := by kernel_rfl
theorem fact20 : ((Rows.pduBackRow.ifacesOut == Try.f8.resultTypes.toList.any (Try.prog.ifacesRec ·))) = true := by kernel_rfl
theorem fact21 : ((Rows.pduBackRow.loopsOut == Try.f8.resultTypes.toList.any (Try.prog.loopsFrom ·))) = true := by kernel_rfl
theorem fact22 : ((Rows.pduBackRow.plainKeys == Try.prog.plainKeys)) = true := (by rw [Kit.plainKeys]; rfl)
theorem fact23 : (Rows.pduBackRow.shortTexts.isNone) = true := by kernel_rfl
theorem fact24 : (Try.prog.stopsHeard) = true := Kit.stopsHeard
theorem fact25 : (Try.prog.mayEnter) = true := Kit.mayEnter
theorem fact26 : ((Rows.pduBackRow.lifted == Try.prog.liftsFinal)) = true := (by rw [Kit.liftsFinal]; rfl)
theorem fact27 : ((Try.prog.make == some Rows.pduBackRow.make)) = true := (by rw [Kit.make]; rfl)
theorem fact28 : ((Rows.pduBackRow.kinds == (if Rows.pduBackRow.domain.isEmpty then [] else Try.f8.params.toList.map fun t => match Try.prog.underlying t with | some (.int k) => some k | _ => none))) = true := by kernel_rfl
theorem fact29 : ((Rows.pduBackRow.pinned == Rows.pduBackRow.pinnedBy)) = true := by kernel_rfl
theorem fact30 : ((Rows.pduBackRow.veiled == (Try.f8.params.toList ++ Rows.pduBackSpec.plain.varTypes Try.prog ++ Try.f8.resultTypes.toList).any (Try.prog.veiledRec ·))) = true := by kernel_rfl
theorem fact31 : (Rows.pduBackRow.veiledFits Try.prog Try.f8.params.toList (Try.f8.params.toList ++ Rows.pduBackSpec.plain.varTypes Try.prog ++ Try.f8.resultTypes.toList)) = true := by kernel_rfl
set_option maxRecDepth 100000 in
theorem closed : joinedFacts Try.prog 8 Try.f8 Rows.pduBackSpec Rows.pduBackRow = true := by
  unfold joinedFacts
  exact (Kit.and2 (Kit.and2 (Kit.and2 (Kit.and2 (Kit.and2 (Kit.and2 (Kit.and2 (Kit.and2 (Kit.and2 (Kit.and2 (Kit.and2 (Kit.and2 (Kit.and2 (Kit.and2 (Kit.and2 (Kit.and2 (Kit.and2 (Kit.and2 (Kit.and2 (Kit.and2 (Kit.and2 (Kit.and2 (Kit.and2 (Kit.and2 (Kit.and2 (Kit.and2 (Kit.and2 (Kit.and2 (Kit.and2 (Kit.and2 (Kit.and2 fact0 fact1) fact2) fact3) fact4) fact5) fact6) fact7) fact8) fact9) fact10) fact11) fact12) fact13) fact14) fact15) fact16) fact17) fact18) fact19) fact20) fact21) fact22) fact23) fact24) fact25) fact26) fact27) fact28) fact29) fact30) fact31)
theorem named : Try.prog.funcNamed Rows.pduBackRow.func = some 8 := by kernel_rfl
theorem inst : Try.f8.isInstance Try.prog Rows.pduBackRow.origin Rows.pduBackRow.targs := of_decide_eq_true (by kernel_rfl)
theorem wrap_ : Try.f8.isWrapper Try.prog Rows.pduBackRow.wrapper Rows.pduBackRow.mainSum := by unfold Func.isWrapper; first | (rw [if_pos (by decide +kernel)]; kernel_rfl) | (rw [if_neg (by decide +kernel)]; exact ⟨rfl, rfl⟩)
theorem over : Rows.pduBackRow.holds Try.pinned (OpenSpec.ofChange Rows.pduBackSpec) :=
  OpenClaim.holds_of_wide 8 Try.f8 rfl rfl rfl rfl rfl rfl rfl ⟨rfl, rfl, rfl, rfl, rfl⟩ rfl rfl rfl rfl rfl named Try.func8 closed
    inst wrap_
    (fun os started H enc _ => lifted os started H enc)
theorem proved : Rows.PduBackSaid := over
#print axioms proved
end Go.Proofs.Ytnmcoebjkfpmjaa.pduBack
namespace Go.Proofs.Ytnmcoebjkfpmjaa
theorem pduBack_holds : Rows.PduBackSaid := pduBack.proved
end Go.Proofs.Ytnmcoebjkfpmjaa
