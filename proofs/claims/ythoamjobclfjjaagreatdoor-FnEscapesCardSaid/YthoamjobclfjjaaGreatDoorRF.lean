/- What (*byteStringReplacer).Replace hands back. No condition but what each states. (Printed by gen/mkrf.py.) -/
import Derived.Test.YthoamjobclfjjaaGreatDoorRE
namespace Go.Proofs.YthoamjobclfjjaaGreatDoor.K
set_option linter.unusedVariables false
set_option linter.unusedSimpArgs false
open Go.RowKit Go.Proofs.YthoamjobclfjjaaGreatDoor Go.Proofs.YthoamjobclfjjaaGreatDoorW.PrintWords Go.Proofs.YthoamjobclfjjaaGreatDoorW.PrintLast Go.Proofs.YthoamjobclfjjaaGreatDoorW.PrintMore
set_option maxRecDepth 100000 in
set_option maxHeartbeats 4000000 in
theorem replace_calls (B tr rb : Nat) (s : ByteArray) (w : World) (h : Rep B w rb tr marks) (hs : s.size ≤ 1000000) :
    Calls Tryz.prog 137 #[.pointer (some ⟨rb, 0, none⟩), .string s] w fun e w' => e = .returned (.string (escB s)) ∧ Below w.heap.size w w' := by
  have hpat : w.cell? ⟨rb, 256, none⟩ = some (.slice (some ⟨tr, 0, none⟩) 4 4) := h.pats
  have hnn := nil_ne
  go_enter Tryz.func137, Tryz.ntmps137
  by_cases h32 : 32 ≤ s.size
  · have p32 : decide ((32 : Int) ≤ (s.size : Int)) = true := decide_eq_true (by omega)
    go_wp2
    go_loopg [5, 6, 32] 4 (fun n v5 v6 v32 w' => ∃ (q : Nat) (bq : Bool), v5 = .int .i64 (q : Int) ∧ v6 = .bool bq ∧ Rep B w' rb tr marks ∧ Below w.heap.size w w' ∧ ((n = 4 ∧ v32 = .int .i64 0 ∧ Aside0 (q = s.size ∧ bq = (false))) ∨ (n = 3 ∧ v32 = .int .i64 1 ∧ Aside0 (q = s.size + 5 * s.data.toList.count 34 ∧ bq = (decide (s.data.toList.count 34 ≠ 0)))) ∨ (n = 2 ∧ v32 = .int .i64 2 ∧ Aside0 (q = s.size + 5 * s.data.toList.count 34 + 4 * s.data.toList.count 38 ∧ bq = (decide (s.data.toList.count 34 ≠ 0) || decide (s.data.toList.count 38 ≠ 0)))) ∨ (n = 1 ∧ v32 = .int .i64 3 ∧ Aside0 (q = s.size + 5 * s.data.toList.count 34 + 4 * s.data.toList.count 38 + 3 * s.data.toList.count 62 ∧ bq = (decide (s.data.toList.count 34 ≠ 0) || decide (s.data.toList.count 38 ≠ 0) || decide (s.data.toList.count 62 ≠ 0)))) ∨ (n = 0 ∧ v32 = .int .i64 4 ∧ Aside0 (q = s.size + 5 * s.data.toList.count 34 + 4 * s.data.toList.count 38 + 3 * s.data.toList.count 62 + 3 * s.data.toList.count 60 ∧ bq = (decide (s.data.toList.count 34 ≠ 0) || decide (s.data.toList.count 38 ≠ 0) || decide (s.data.toList.count 62 ≠ 0) || decide (s.data.toList.count 60 ≠ 0))))))
    case atStart => exact ⟨s.size, false, rfl, rfl, h, Below.refl _ _, .inl ⟨rfl, rfl, ⟨rfl, rfl⟩⟩⟩
    case round =>
      clear hpat h
      obtain ⟨q, bq, rfl, rfl, h, hX, ⟨rfl, rfl, HA⟩ | ⟨rfl, rfl, HA⟩ | ⟨rfl, rfl, HA⟩ | ⟨rfl, rfl, HA⟩ | ⟨rfl, rfl, HA⟩⟩ := hrel
      · have hqb : q ≤ 6000000 := by
          have := HA.out.1
          have a1 : s.data.toList.count 34 ≤ s.size := List.count_le_length
          have a2 : s.data.toList.count 38 ≤ s.size := List.count_le_length
          have a3 : s.data.toList.count 62 ≤ s.size := List.count_le_length
          have a4 : s.data.toList.count 60 ≤ s.size := List.count_le_length
          have a5 := escL_count s.data.toList
          have a6 := (escL_le s.data.toList).2
          have a7 : s.data.toList.length = s.size := rfl
          omega
        have hpk : wr.cell? ⟨tr, 0, none⟩ = some (.string ⟨#[34]⟩) := h.pat 0 (34, _) rfl
        obtain ⟨r, rc, hcell0, _, _⟩ := h.at_some (c := 34) rfl
        have hcell : wr.cell? ⟨rb, 34, none⟩ = some (.slice (some ⟨r, 0, none⟩) 6 rc) := hcell0
        have e1 : ((⟨#[34]⟩ : ByteArray)[0]'(by decide)).toNat = 34 := rfl
        have hcc := count_calls s 34 wr
        obtain ⟨m, hm⟩ : ∃ m : Nat, Aside0 (m = s.data.toList.count 34) := ⟨_, ⟨rfl⟩⟩
        have hmb : m ≤ 1000000 := by
          have a1 : s.data.toList.count 34 ≤ s.size := List.count_le_length
          rw [hm.out]
          omega
        rw [← hm.out] at hcc
        by_cases h0 : m = 0
        · subst h0
          have HA2 : Aside0 (q = s.size + 5 * s.data.toList.count 34 ∧ bq = (decide (s.data.toList.count 34 ≠ 0))) := ⟨by rw [← hm.out, HA.out.1]; rfl, by rw [← hm.out, HA.out.2]; simp⟩
          go_wp2_with (go_at_call 139; refine hcc.mono ?_; rintro e w' ⟨rfl, rfl⟩)
          go_roundg 3
          case measure => decide
          case rel => exact ⟨q, bq, rfl, rfl, h, hX, .inr (.inl ⟨rfl, rfl, HA2⟩)⟩
        · have n0 : (((m : Nat) : Int) == 0) = false := beq_eq_false_iff_ne.2 (by omega)
          have HA2 : Aside0 (q + m * 5 = s.size + 5 * s.data.toList.count 34 ∧ true = (decide (s.data.toList.count 34 ≠ 0))) := ⟨by rw [← hm.out, HA.out.1, Nat.mul_comm m], by rw [← hm.out, decide_eq_true h0] <;> simp⟩
          go_wp2_with (go_at_call 139; refine hcc.mono ?_; rintro e w' ⟨rfl, rfl⟩)
          go_region_calls
          all_goals go_wp2
          all_goals go_roundg 3
          case measure => decide
          case rel => exact ⟨q + m * 5, true, rfl, rfl, h.keep (Nat.le_refl _) (fun b _ _ => by rw [heap_drew]), hX.drew, .inr (.inl ⟨rfl, rfl, HA2⟩)⟩
      · have hqb : q ≤ 6000000 := by
          have := HA.out.1
          have a1 : s.data.toList.count 34 ≤ s.size := List.count_le_length
          have a2 : s.data.toList.count 38 ≤ s.size := List.count_le_length
          have a3 : s.data.toList.count 62 ≤ s.size := List.count_le_length
          have a4 : s.data.toList.count 60 ≤ s.size := List.count_le_length
          have a5 := escL_count s.data.toList
          have a6 := (escL_le s.data.toList).2
          have a7 : s.data.toList.length = s.size := rfl
          omega
        have hpk : wr.cell? ⟨tr, 1, none⟩ = some (.string ⟨#[38]⟩) := h.pat 1 (38, _) rfl
        obtain ⟨r, rc, hcell0, _, _⟩ := h.at_some (c := 38) rfl
        have hcell : wr.cell? ⟨rb, 38, none⟩ = some (.slice (some ⟨r, 0, none⟩) 5 rc) := hcell0
        have e1 : ((⟨#[38]⟩ : ByteArray)[0]'(by decide)).toNat = 38 := rfl
        have hcc := count_calls s 38 wr
        obtain ⟨m, hm⟩ : ∃ m : Nat, Aside0 (m = s.data.toList.count 38) := ⟨_, ⟨rfl⟩⟩
        have hmb : m ≤ 1000000 := by
          have a1 : s.data.toList.count 38 ≤ s.size := List.count_le_length
          rw [hm.out]
          omega
        rw [← hm.out] at hcc
        by_cases h0 : m = 0
        · subst h0
          have HA2 : Aside0 (q = s.size + 5 * s.data.toList.count 34 + 4 * s.data.toList.count 38 ∧ bq = (decide (s.data.toList.count 34 ≠ 0) || decide (s.data.toList.count 38 ≠ 0))) := ⟨by rw [← hm.out, HA.out.1]; rfl, by rw [← hm.out, HA.out.2]; simp⟩
          go_wp2_with (go_at_call 139; refine hcc.mono ?_; rintro e w' ⟨rfl, rfl⟩)
          go_roundg 2
          case measure => decide
          case rel => exact ⟨q, bq, rfl, rfl, h, hX, .inr (.inr (.inl ⟨rfl, rfl, HA2⟩))⟩
        · have n0 : (((m : Nat) : Int) == 0) = false := beq_eq_false_iff_ne.2 (by omega)
          have HA2 : Aside0 (q + m * 4 = s.size + 5 * s.data.toList.count 34 + 4 * s.data.toList.count 38 ∧ true = (decide (s.data.toList.count 34 ≠ 0) || decide (s.data.toList.count 38 ≠ 0))) := ⟨by rw [← hm.out, HA.out.1, Nat.mul_comm m], by rw [← hm.out, decide_eq_true h0] <;> simp⟩
          go_wp2_with (go_at_call 139; refine hcc.mono ?_; rintro e w' ⟨rfl, rfl⟩)
          go_region_calls
          all_goals go_wp2
          all_goals go_roundg 2
          case measure => decide
          case rel => exact ⟨q + m * 4, true, rfl, rfl, h.keep (Nat.le_refl _) (fun b _ _ => by rw [heap_drew]), hX.drew, .inr (.inr (.inl ⟨rfl, rfl, HA2⟩))⟩
      · have hqb : q ≤ 6000000 := by
          have := HA.out.1
          have a1 : s.data.toList.count 34 ≤ s.size := List.count_le_length
          have a2 : s.data.toList.count 38 ≤ s.size := List.count_le_length
          have a3 : s.data.toList.count 62 ≤ s.size := List.count_le_length
          have a4 : s.data.toList.count 60 ≤ s.size := List.count_le_length
          have a5 := escL_count s.data.toList
          have a6 := (escL_le s.data.toList).2
          have a7 : s.data.toList.length = s.size := rfl
          omega
        have hpk : wr.cell? ⟨tr, 2, none⟩ = some (.string ⟨#[62]⟩) := h.pat 2 (62, _) rfl
        obtain ⟨r, rc, hcell0, _, _⟩ := h.at_some (c := 62) rfl
        have hcell : wr.cell? ⟨rb, 62, none⟩ = some (.slice (some ⟨r, 0, none⟩) 4 rc) := hcell0
        have e1 : ((⟨#[62]⟩ : ByteArray)[0]'(by decide)).toNat = 62 := rfl
        have hcc := count_calls s 62 wr
        obtain ⟨m, hm⟩ : ∃ m : Nat, Aside0 (m = s.data.toList.count 62) := ⟨_, ⟨rfl⟩⟩
        have hmb : m ≤ 1000000 := by
          have a1 : s.data.toList.count 62 ≤ s.size := List.count_le_length
          rw [hm.out]
          omega
        rw [← hm.out] at hcc
        by_cases h0 : m = 0
        · subst h0
          have HA2 : Aside0 (q = s.size + 5 * s.data.toList.count 34 + 4 * s.data.toList.count 38 + 3 * s.data.toList.count 62 ∧ bq = (decide (s.data.toList.count 34 ≠ 0) || decide (s.data.toList.count 38 ≠ 0) || decide (s.data.toList.count 62 ≠ 0))) := ⟨by rw [← hm.out, HA.out.1]; rfl, by rw [← hm.out, HA.out.2]; simp⟩
          go_wp2_with (go_at_call 139; refine hcc.mono ?_; rintro e w' ⟨rfl, rfl⟩)
          go_roundg 1
          case measure => decide
          case rel => exact ⟨q, bq, rfl, rfl, h, hX, .inr (.inr (.inr (.inl ⟨rfl, rfl, HA2⟩)))⟩
        · have n0 : (((m : Nat) : Int) == 0) = false := beq_eq_false_iff_ne.2 (by omega)
          have HA2 : Aside0 (q + m * 3 = s.size + 5 * s.data.toList.count 34 + 4 * s.data.toList.count 38 + 3 * s.data.toList.count 62 ∧ true = (decide (s.data.toList.count 34 ≠ 0) || decide (s.data.toList.count 38 ≠ 0) || decide (s.data.toList.count 62 ≠ 0))) := ⟨by rw [← hm.out, HA.out.1, Nat.mul_comm m], by rw [← hm.out, decide_eq_true h0] <;> simp⟩
          go_wp2_with (go_at_call 139; refine hcc.mono ?_; rintro e w' ⟨rfl, rfl⟩)
          go_region_calls
          all_goals go_wp2
          all_goals go_roundg 1
          case measure => decide
          case rel => exact ⟨q + m * 3, true, rfl, rfl, h.keep (Nat.le_refl _) (fun b _ _ => by rw [heap_drew]), hX.drew, .inr (.inr (.inr (.inl ⟨rfl, rfl, HA2⟩)))⟩
      · have hqb : q ≤ 6000000 := by
          have := HA.out.1
          have a1 : s.data.toList.count 34 ≤ s.size := List.count_le_length
          have a2 : s.data.toList.count 38 ≤ s.size := List.count_le_length
          have a3 : s.data.toList.count 62 ≤ s.size := List.count_le_length
          have a4 : s.data.toList.count 60 ≤ s.size := List.count_le_length
          have a5 := escL_count s.data.toList
          have a6 := (escL_le s.data.toList).2
          have a7 : s.data.toList.length = s.size := rfl
          omega
        have hpk : wr.cell? ⟨tr, 3, none⟩ = some (.string ⟨#[60]⟩) := h.pat 3 (60, _) rfl
        obtain ⟨r, rc, hcell0, _, _⟩ := h.at_some (c := 60) rfl
        have hcell : wr.cell? ⟨rb, 60, none⟩ = some (.slice (some ⟨r, 0, none⟩) 4 rc) := hcell0
        have e1 : ((⟨#[60]⟩ : ByteArray)[0]'(by decide)).toNat = 60 := rfl
        have hcc := count_calls s 60 wr
        obtain ⟨m, hm⟩ : ∃ m : Nat, Aside0 (m = s.data.toList.count 60) := ⟨_, ⟨rfl⟩⟩
        have hmb : m ≤ 1000000 := by
          have a1 : s.data.toList.count 60 ≤ s.size := List.count_le_length
          rw [hm.out]
          omega
        rw [← hm.out] at hcc
        by_cases h0 : m = 0
        · subst h0
          have HA2 : Aside0 (q = s.size + 5 * s.data.toList.count 34 + 4 * s.data.toList.count 38 + 3 * s.data.toList.count 62 + 3 * s.data.toList.count 60 ∧ bq = (decide (s.data.toList.count 34 ≠ 0) || decide (s.data.toList.count 38 ≠ 0) || decide (s.data.toList.count 62 ≠ 0) || decide (s.data.toList.count 60 ≠ 0))) := ⟨by rw [← hm.out, HA.out.1]; rfl, by rw [← hm.out, HA.out.2]; simp⟩
          go_wp2_with (go_at_call 139; refine hcc.mono ?_; rintro e w' ⟨rfl, rfl⟩)
          go_roundg 0
          case measure => decide
          case rel => exact ⟨q, bq, rfl, rfl, h, hX, .inr (.inr (.inr (.inr (⟨rfl, rfl, HA2⟩))))⟩
        · have n0 : (((m : Nat) : Int) == 0) = false := beq_eq_false_iff_ne.2 (by omega)
          have HA2 : Aside0 (q + m * 3 = s.size + 5 * s.data.toList.count 34 + 4 * s.data.toList.count 38 + 3 * s.data.toList.count 62 + 3 * s.data.toList.count 60 ∧ true = (decide (s.data.toList.count 34 ≠ 0) || decide (s.data.toList.count 38 ≠ 0) || decide (s.data.toList.count 62 ≠ 0) || decide (s.data.toList.count 60 ≠ 0))) := ⟨by rw [← hm.out, HA.out.1, Nat.mul_comm m], by rw [← hm.out, decide_eq_true h0] <;> simp⟩
          go_wp2_with (go_at_call 139; refine hcc.mono ?_; rintro e w' ⟨rfl, rfl⟩)
          go_region_calls
          all_goals go_wp2
          all_goals go_roundg 0
          case measure => decide
          case rel => exact ⟨q + m * 3, true, rfl, rfl, h.keep (Nat.le_refl _) (fun b _ _ => by rw [heap_drew]), hX.drew, .inr (.inr (.inr (.inr (⟨rfl, rfl, HA2⟩))))⟩
      · have hq : Aside0 (q = (escL s.data.toList).length) := ⟨by rw [escL_count, HA.out.1]; rfl⟩
        have hb : Aside0 (bq = s.data.toList.any (fun c => (repOf c).isSome)) := ⟨by rw [any_count, HA.out.2]⟩
        clear HA
        rename World => X
        cases bq with
        | false =>
          go_wp2
          go_ret
          exact ⟨by rw [show escB s = s from by unfold escB; rw [escL_self _ hb.out.symm]]; rfl, hX⟩
        | true =>
          clear hb
          have hqle := (escL_le s.data.toList).2
          have hql : s.data.toList.length = s.size := rfl
          have hqb : q ≤ 6000000 := by rw [hq.out]; omega
          obtain ⟨W1, kM, hbuf, hB⟩ := make_buf X q hqb
          go_wp2
          go_loopg [13, 14] (s.size) (fun n v13 v14 w' => ∃ (i j : Nat), v14 = .int .i64 (i : Int) ∧ n + i = s.size ∧ v13 = .int .i64 (j : Int) ∧ Aside0 (j = (escL (s.data.toList.take i)).length) ∧ BufRow w' X.heap.size q (escL (s.data.toList.take i)) ∧ Below X.heap.size X w')
          case atStart => exact ⟨0, 0, rfl, rfl, rfl, ⟨rfl⟩, hbuf, hB⟩
          case round =>
            clear hbuf hB kM
            obtain ⟨i, j, rfl, hn, rfl, hj, hbuf, hB⟩ := hrel
            by_cases hi : i < s.size
            · have p0 := eq_true (Int.natCast_nonneg i)
              have p1 := eq_true (Int.ofNat_lt.2 hi)
              have p1d : decide ((i : Int) < (s.size : Int)) = true := decide_eq_true (Int.ofNat_lt.2 hi)
              have hil : i < s.data.toList.length := hi
              obtain ⟨c, hsi⟩ : ∃ c, s[i]'hi = c := ⟨_, rfl⟩
              have hli : s.data.toList[i] = c := hsi
              have pc := eq_true (show ((c.toNat : Nat) : Int) < 256 by have := UInt8.toNat_lt c; omega)
              have hst := escL_step s.data.toList i hil
              have hrm := escL_room s.data.toList i hil
              rw [hli] at hst hrm
              rw [← hq.out, ← hj.out] at hrm
              have hen := esc1_len c
              have hjq : j < q := by omega
              have r0 := eq_true (Int.natCast_nonneg j)
              have r1 := eq_true (Int.ofNat_lt.2 hjq)
              obtain ⟨⟨v0, hc0⟩, hf0⟩ := hbuf.at_end (by rw [← hj.out]; exact hjq)
              rw [← hj.out] at hc0 hf0
              cases hc : repOf c with
              | none =>
                have hcell0 := h.at_none hc
                have hcell := (hB.cell (block_lt_of_cell hcell0)).trans hcell0
                have hput := hbuf.put (by rw [← hj.out]; exact hjq) c
                rw [← hj.out] at hput
                go_wp2
                go_roundg (gk - 1)
                case measure => omega
                case rel =>
                  refine ⟨i + 1, j + 1, rfl, by omega, rfl, ?_, ?_, hB.setCell (Nat.le_refl _) _⟩
                  · exact ⟨by rw [hst, esc1_none hc, List.length_append, ← hj.out]; rfl⟩
                  · rw [hst, esc1_none hc]; exact hput
              | some t =>
                obtain ⟨r, rc, hcell0, hrl, hrd0⟩ := h.at_some hc
                have htz := repOf_size hc
                have hcell := (hB.cell (block_lt_of_cell hcell0)).trans hcell0
                have hrd : ∀ m, m < t.size → wr.cell? ⟨r, m, none⟩ = some (.int .u8 (t.data.toList.getD m 0).toNat) := fun m hm => (hB.cell (by exact hrl)).trans (hrd0 m hm)
                have et : (esc1 c).length = t.size := by rw [esc1_some hc]; rfl
                obtain ⟨cs, kC, hput⟩ := (show BufRow wr.drew X.heap.size q _ from hbuf.below (by rw [heap_drew])).puts t (by rw [← hj.out]; omega) r rc hrd
                rw [← hj.out] at kC
                have kSl := drop_at X.heap.size q j hjq
                go_wp2
                go_region_calls
                go_wp2
                go_roundg (gk - 1)
                case measure => omega
                case rel =>
                  refine ⟨i + 1, j + t.size, rfl, by omega, ?_, ?_, ?_, ?_⟩
                  · rfl
                  · exact ⟨by rw [hst, List.length_append, ← hj.out, et]⟩
                  · rw [hst, esc1_some hc]; exact hput
                  · exact hB.drew.trans ⟨rfl, rfl, rfl, by simp, fun k hk => setRow_other _ _ k _ (by omega)⟩
            · have p1d : decide ((i : Int) < (s.size : Int)) = false := decide_eq_false (by omega)
              obtain rfl : i = s.size := by omega
              have htk : s.data.toList.take s.size = s.data.toList := List.take_of_length_le (Nat.le_refl _)
              rw [htk] at hbuf
              have kS := hbuf.str hq.out.symm hqb
              go_wp2
              go_ret
              exact ⟨rfl, hX.trans (hB.mono hX.size)⟩
  · have p32 : decide ((32 : Int) ≤ (s.size : Int)) = false := decide_eq_false (by omega)
    go_wp2
    go_loopg [5, 6, 10] (s.size) (fun n v5 v6 v10 w' => w = w' ∧ ∃ (i q : Nat) (bq : Bool), v10 = .int .i64 (i : Int) ∧ n + i = s.size ∧ v5 = .int .i64 (q : Int) ∧ q + i = (escL (s.data.toList.take i)).length + s.size ∧ v6 = .bool bq ∧ Aside0 (bq = (s.data.toList.take i).any (fun c => (repOf c).isSome)))
    case atStart => exact ⟨rfl, 0, s.size, false, rfl, rfl, rfl, by simp [escL], rfl, ⟨rfl⟩⟩
    case round =>
      obtain ⟨hw, i, q, bq, rfl, hn, rfl, hq, rfl, hb⟩ := hrel
      subst hw
      by_cases hi : i < s.size
      · have p0 := eq_true (Int.natCast_nonneg i)
        have p1 := eq_true (Int.ofNat_lt.2 hi)
        have p1d : decide ((i : Int) < (s.size : Int)) = true := decide_eq_true (Int.ofNat_lt.2 hi)
        have hil : i < s.data.toList.length := hi
        obtain ⟨c, hsi⟩ : ∃ c, s[i]'hi = c := ⟨_, rfl⟩
        have hli : s.data.toList[i] = c := hsi
        have pc := eq_true (show ((c.toNat : Nat) : Int) < 256 by have := UInt8.toNat_lt c; omega)
        have hst := escL_step s.data.toList i hil
        have hat := any_step s.data.toList i hil
        rw [hli] at hst hat
        have hen := esc1_len c
        have hle := escL_le (s.data.toList.take i)
        have hlt : (s.data.toList.take i).length = i := List.length_take_of_le (Nat.le_of_lt hil)
        cases hc : repOf c with
        | none =>
          have hcell := h.at_none hc
          go_wp2
          go_roundg (gk - 1)
          case measure => omega
          case rel =>
            refine ⟨rfl, i + 1, q, bq, rfl, by omega, rfl, ?_, rfl, ?_⟩
            · rw [hst, esc1_none hc, List.length_append]; simp; omega
            · exact ⟨by rw [hat, hc, hb.out]; simp⟩
        | some t =>
          obtain ⟨r, rc, hcell, hrl, hrd⟩ := h.at_some hc
          have htz := repOf_size hc
          go_wp2
          go_roundg (gk - 1)
          case measure => omega
          case rel =>
            refine ⟨rfl, i + 1, q + (t.size - 1), true, rfl, by omega, ?_, ?_, rfl, ?_⟩
            · rw [show ((q + (t.size - 1) : Nat) : Int) = (q : Int) + ((t.size : Int) - 1) by omega]
            · rw [hst, esc1_some hc, List.length_append]
              have e : t.data.toList.length = t.size := rfl
              omega
            · exact ⟨by rw [hat, hc]; simp⟩
      · have p1d : decide ((i : Int) < (s.size : Int)) = false := decide_eq_false (by omega)
        obtain rfl : i = s.size := by omega
        have htk : s.data.toList.take s.size = s.data.toList := List.take_of_length_le (Nat.le_refl _)
        rw [htk] at hb hq
        have hq : Aside0 (q = (escL s.data.toList).length) := ⟨by omega⟩
        have hX : Below w.heap.size w w := Below.refl _ _
        cases bq with
        | false =>
          go_wp2
          go_ret
          exact ⟨by rw [show escB s = s from by unfold escB; rw [escL_self _ hb.out.symm]]; rfl, hX⟩
        | true =>
          clear hb
          have hqle := (escL_le s.data.toList).2
          have hql : s.data.toList.length = s.size := rfl
          have hqb : q ≤ 6000000 := by rw [hq.out]; omega
          obtain ⟨W1, kM, hbuf, hB⟩ := make_buf w q hqb
          go_wp2
          go_loopg [13, 14] (s.size) (fun n v13 v14 w' => ∃ (i j : Nat), v14 = .int .i64 (i : Int) ∧ n + i = s.size ∧ v13 = .int .i64 (j : Int) ∧ Aside0 (j = (escL (s.data.toList.take i)).length) ∧ BufRow w' w.heap.size q (escL (s.data.toList.take i)) ∧ Below w.heap.size w w')
          case atStart => exact ⟨0, 0, rfl, rfl, rfl, ⟨rfl⟩, hbuf, hB⟩
          case round =>
            clear hbuf hB kM
            obtain ⟨i, j, rfl, hn, rfl, hj, hbuf, hB⟩ := hrel
            by_cases hi : i < s.size
            · have p0 := eq_true (Int.natCast_nonneg i)
              have p1 := eq_true (Int.ofNat_lt.2 hi)
              have p1d : decide ((i : Int) < (s.size : Int)) = true := decide_eq_true (Int.ofNat_lt.2 hi)
              have hil : i < s.data.toList.length := hi
              obtain ⟨c, hsi⟩ : ∃ c, s[i]'hi = c := ⟨_, rfl⟩
              have hli : s.data.toList[i] = c := hsi
              have pc := eq_true (show ((c.toNat : Nat) : Int) < 256 by have := UInt8.toNat_lt c; omega)
              have hst := escL_step s.data.toList i hil
              have hrm := escL_room s.data.toList i hil
              rw [hli] at hst hrm
              rw [← hq.out, ← hj.out] at hrm
              have hen := esc1_len c
              have hjq : j < q := by omega
              have r0 := eq_true (Int.natCast_nonneg j)
              have r1 := eq_true (Int.ofNat_lt.2 hjq)
              obtain ⟨⟨v0, hc0⟩, hf0⟩ := hbuf.at_end (by rw [← hj.out]; exact hjq)
              rw [← hj.out] at hc0 hf0
              cases hc : repOf c with
              | none =>
                have hcell0 := h.at_none hc
                have hcell := (hB.cell (block_lt_of_cell hcell0)).trans hcell0
                have hput := hbuf.put (by rw [← hj.out]; exact hjq) c
                rw [← hj.out] at hput
                go_wp2
                go_roundg (gk - 1)
                case measure => omega
                case rel =>
                  refine ⟨i + 1, j + 1, rfl, by omega, rfl, ?_, ?_, hB.setCell (Nat.le_refl _) _⟩
                  · exact ⟨by rw [hst, esc1_none hc, List.length_append, ← hj.out]; rfl⟩
                  · rw [hst, esc1_none hc]; exact hput
              | some t =>
                obtain ⟨r, rc, hcell0, hrl, hrd0⟩ := h.at_some hc
                have htz := repOf_size hc
                have hcell := (hB.cell (block_lt_of_cell hcell0)).trans hcell0
                have hrd : ∀ m, m < t.size → wr.cell? ⟨r, m, none⟩ = some (.int .u8 (t.data.toList.getD m 0).toNat) := fun m hm => (hB.cell (by exact hrl)).trans (hrd0 m hm)
                have et : (esc1 c).length = t.size := by rw [esc1_some hc]; rfl
                obtain ⟨cs, kC, hput⟩ := (show BufRow wr.drew w.heap.size q _ from hbuf.below (by rw [heap_drew])).puts t (by rw [← hj.out]; omega) r rc hrd
                rw [← hj.out] at kC
                have kSl := drop_at w.heap.size q j hjq
                go_wp2
                go_region_calls
                go_wp2
                go_roundg (gk - 1)
                case measure => omega
                case rel =>
                  refine ⟨i + 1, j + t.size, rfl, by omega, ?_, ?_, ?_, ?_⟩
                  · rfl
                  · exact ⟨by rw [hst, List.length_append, ← hj.out, et]⟩
                  · rw [hst, esc1_some hc]; exact hput
                  · exact hB.drew.trans ⟨rfl, rfl, rfl, by simp, fun k hk => setRow_other _ _ k _ (by omega)⟩
            · have p1d : decide ((i : Int) < (s.size : Int)) = false := decide_eq_false (by omega)
              obtain rfl : i = s.size := by omega
              have htk : s.data.toList.take s.size = s.data.toList := List.take_of_length_le (Nat.le_refl _)
              rw [htk] at hbuf
              have kS := hbuf.str hq.out.symm hqb
              go_wp2
              go_ret
              exact ⟨rfl, hX.trans (hB.mono hX.size)⟩
end Go.Proofs.YthoamjobclfjjaaGreatDoor.K
