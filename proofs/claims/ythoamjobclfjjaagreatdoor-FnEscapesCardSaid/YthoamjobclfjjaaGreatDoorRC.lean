/- What a Replacer over the four marks is built to. No condition but what each states. -/
import Derived.Test.YthoamjobclfjjaaGreatDoorRQ
namespace Go.Proofs.YthoamjobclfjjaaGreatDoor.K
set_option linter.unusedVariables false
set_option linter.unusedSimpArgs false
open Go.RowKit Go.Proofs.YthoamjobclfjjaaGreatDoor Go.Proofs.YthoamjobclfjjaaGreatDoorW.PrintWords Go.Proofs.YthoamjobclfjjaaGreatDoorW.PrintLast Go.Proofs.YthoamjobclfjjaaGreatDoorW.PrintMore
def S8 : List ByteArray := [⟨#[60]⟩, ⟨#[38, 108, 116, 59]⟩, ⟨#[62]⟩, ⟨#[38, 103, 116, 59]⟩, ⟨#[38]⟩, ⟨#[38, 97, 109, 112, 59]⟩, ⟨#[34]⟩, ⟨#[38, 113, 117, 111, 116, 59]⟩]
/-- What the reference's replacer turns to what, in the order in which it is built. -/
def marks : List (UInt8 × ByteArray) := [(34, ⟨#[38, 113, 117, 111, 116, 59]⟩), (38, ⟨#[38, 97, 109, 112, 59]⟩), (62, ⟨#[38, 103, 116, 59]⟩), (60, ⟨#[38, 108, 116, 59]⟩)]
theorem make4 (W : World) : (Instr.makeSlice 31 (.int .i64 0) (.int .i64 4)).run Tryz.prog W = .ok (.slice (some ⟨W.heap.size, 0, none⟩) 0 4) (W.alloc (.cells #[.string ByteArray.empty, .string ByteArray.empty, .string ByteArray.empty, .string ByteArray.empty] 9)) := by
  obtain ⟨i0, hi, hz, hs, hb⟩ := info_parts rqInfo9
  have := run_make (P := Tryz.prog) W 31 9 i0 (.string ByteArray.empty) Tryz.underlying31 hi hz .i64 .i64 0 4 (by omega) (by omega) (by rw [hb]; omega) (by omega)
  rw [this, hs]
  have e : madeCells (Value.string ByteArray.empty).cells (Int.toNat 4 * 1) = #[.string ByteArray.empty, .string ByteArray.empty, .string ByteArray.empty, .string ByteArray.empty] := by
    show madeCells #[Value.string ByteArray.empty] 4 = _
    simp [madeCells, Array.range]
    rfl
  rw [e]
  rfl
theorem zlen : Tryz.zeroCells106.toList.length = 257 := by kernel_rfl
theorem zall : (Tryz.zeroCells106.toList.all fun v => v.oneCell') = true := by kernel_rfl
theorem zat (c : Nat) (h : c < 257) : Tryz.zeroCells106.toList[c]? = some (.slice none 0 0) := by
  have : (Tryz.zeroCells106.toList.all fun v => match v with | .slice none 0 0 => true | _ => false) = true := by kernel_rfl
  have hl : c < Tryz.zeroCells106.toList.length := by rw [zlen]; exact h
  have h2 := List.all_eq_true.1 this _ (List.getElem_mem hl)
  rw [List.getElem?_eq_getElem hl]
  generalize Tryz.zeroCells106.toList[c] = v at h2
  split at h2
  · rfl
  · cases h2
/-- The bare table: no byte is turned, no pattern. -/
theorem rep_start (w w1 : World) (rb : Nat) (hx : w1.heap[rb]? = some (.cells Tryz.zeroCells106 106 (0, 0)))
    (hb : Below (w.heap.size + 1) (w.alloc (.cells #[.string ByteArray.empty, .string ByteArray.empty, .string ByteArray.empty, .string ByteArray.empty] 9)) w1) (hge : w.heap.size + 1 ≤ rb) :
    ∃ W2, (storeCells ⟨rb, 0, none⟩ (Tryz.zeroCells106.toList.set 256 (.slice (some ⟨w.heap.size, 0, none⟩) 0 4)) 0).run Tryz.prog w1 = .ok () W2 ∧ Rep w.heap.size W2 rb w.heap.size [] ∧ Below w.heap.size w W2 := by
  have hl : (Tryz.zeroCells106.toList.set 256 (.slice (some ⟨w.heap.size, 0, none⟩) 0 4)).length = 257 := by rw [List.length_set, zlen]
  have h1 := run_storeCells_from (P := Tryz.prog) rb _ (Tryz.zeroCells106.toList.set 256 (.slice (some ⟨w.heap.size, 0, none⟩) 0 4)) 0 _ w1 hx (by rw [hl, ← Array.length_toList, zlen]) (fun v hv => by
    rcases List.mem_or_eq_of_mem_set hv with h | h
    · exact List.all_eq_true.1 zall v h
    · rw [h]; rfl)
  refine ⟨_, h1, ⟨by omega, Nat.le_refl _, by omega, ⟨_, setRow_heap w1 rb _ _ _ _ hx, ?_, ?_, ?_, fun p hp => by cases hp⟩, ⟨#[.string ByteArray.empty, .string ByteArray.empty, .string ByteArray.empty, .string ByteArray.empty], ?_, rfl, fun i p hp => by simp at hp⟩⟩, ?_⟩
  · simp [zlen]
  · simp [zlen]
  · intro b hb' _
    simp only [List.take_zero, List.nil_append, List.getElem?_toArray]
    rw [List.getElem?_set_ne (by omega)]
    exact zat b (by omega)
  · rw [setRow_other w1 rb _ _ (by omega), hb.block _ (by omega)]
    exact heap_alloc_new _ _
  · have := below_alloc (Below.refl w.heap.size w) (.cells #[.string ByteArray.empty, .string ByteArray.empty, .string ByteArray.empty, .string ByteArray.empty] 9)
    refine (this.trans (hb.mono (by omega))).trans ⟨rfl, rfl, rfl, by simp, fun k hk => setRow_other w1 rb k _ (by omega)⟩
set_option maxRecDepth 100000 in
set_option maxHeartbeats 400000 in
theorem build_calls (R ob cap : Nat) (w : World) (hcap : 8 ≤ cap) (h4 : w.cell? ⟨R, 4, none⟩ = some (.slice (some ⟨ob, 0, none⟩) 8 cap)) (hO : ∀ j, j < 8 → w.cell? ⟨ob, j, none⟩ = some (.string (S8.getD j ByteArray.empty))) :
    Calls Tryz.prog 45 #[.pointer (some ⟨R, 0, none⟩)] w fun e w' => ∃ rb, e = .returned (.iface 107 (.pointer (some ⟨rb, 0, none⟩))) ∧ Rep w.heap.size w' rb w.heap.size marks ∧ Below w.heap.size w w' := by
  have hmk : ∀ W : World, (Instr.makeSlice 31 (.int .i64 0) (.int .i64 4)).run Tryz.prog W = .ok (.slice (some ⟨W.heap.size, 0, none⟩) 0 4) (W.alloc (.cells #[.string ByteArray.empty, .string ByteArray.empty, .string ByteArray.empty, .string ByteArray.empty] 9)) := make4
  have hnileq := nil_eq
  go_enter Tryz.func45, Tryz.ntmps45
  go_wp2_with fail
  have c0 : w.cell? ⟨ob, 0, none⟩ = some (.string (⟨#[60]⟩ : ByteArray)) := hO 0 (by omega)
  have c1 : w.cell? ⟨ob, 1, none⟩ = some (.string (⟨#[38, 108, 116, 59]⟩ : ByteArray)) := hO 1 (by omega)
  have c2 : w.cell? ⟨ob, 2, none⟩ = some (.string (⟨#[62]⟩ : ByteArray)) := hO 2 (by omega)
  have c3 : w.cell? ⟨ob, 3, none⟩ = some (.string (⟨#[38, 103, 116, 59]⟩ : ByteArray)) := hO 3 (by omega)
  have c4 : w.cell? ⟨ob, 4, none⟩ = some (.string (⟨#[38]⟩ : ByteArray)) := hO 4 (by omega)
  have c5 : w.cell? ⟨ob, 5, none⟩ = some (.string (⟨#[38, 97, 109, 112, 59]⟩ : ByteArray)) := hO 5 (by omega)
  have c6 : w.cell? ⟨ob, 6, none⟩ = some (.string (⟨#[34]⟩ : ByteArray)) := hO 6 (by omega)
  have c7 : w.cell? ⟨ob, 7, none⟩ = some (.string (⟨#[38, 113, 117, 111, 116, 59]⟩ : ByteArray)) := hO 7 (by omega)
  clear hO
  go_loopg [4, 5] 4 (fun n v4 v5 w' => w = w' ∧ ((n = 4 ∧ v4 = .bool true ∧ v5 = .int .i64 0) ∨ (n = 3 ∧ v4 = .bool false ∧ v5 = .int .i64 2) ∨ (n = 2 ∧ v4 = .bool false ∧ v5 = .int .i64 4) ∨ (n = 1 ∧ v4 = .bool false ∧ v5 = .int .i64 6) ∨ (n = 0 ∧ v4 = .bool false ∧ v5 = .int .i64 8)))
  case atStart => exact ⟨rfl, .inl ⟨rfl, rfl, rfl⟩⟩
  case round =>
    obtain ⟨rfl, ⟨rfl, rfl, rfl⟩ | ⟨rfl, rfl, rfl⟩ | ⟨rfl, rfl, rfl⟩ | ⟨rfl, rfl, rfl⟩ | ⟨rfl, rfl, rfl⟩⟩ := hrel
    · go_wp2
      go_roundg 3
      case measure => decide
      case rel => exact ⟨rfl, .inr (.inl ⟨rfl, rfl, rfl⟩)⟩
    · go_wp2
      go_roundg 2
      case measure => decide
      case rel => exact ⟨rfl, .inr (.inr (.inl ⟨rfl, rfl, rfl⟩))⟩
    · go_wp2
      go_roundg 1
      case measure => decide
      case rel => exact ⟨rfl, .inr (.inr (.inr (.inl ⟨rfl, rfl, rfl⟩)))⟩
    · go_wp2
      go_roundg 0
      case measure => decide
      case rel => exact ⟨rfl, .inr (.inr (.inr (.inr ⟨rfl, rfl, rfl⟩)))⟩
    · go_wp2_with (first
        | ((with_reducible refine gate_dst (N := 11) rfl ?_); refine box_event ?hg (N := 11) ?hd (cs := Tryz.zeroCells106) (t := 106) ?hr ?_; (case hd => rfl); (case hg => rfl); (case hr => first | (go_simp; done) | (go_simp; rfl)); intro rb hrb w1 hx1 hb1; obtain ⟨W2, hst, hR, hB⟩ := rep_start _ w1 rb hx1 (by simpa using hb1) (by rw [hrb]; simp); have hlt : rb < W2.heap.size := (Array.getElem?_eq_some_iff.1 hR.row.choose_spec.1).1; have hgw := hR.bg; clear hrb hx1 hb1))
      go_loopg [12] 4 (fun n v12 w' => ∃ L : List (UInt8 × ByteArray), Rep w.heap.size w' rb w.heap.size L ∧ Below w.heap.size w w' ∧ ((n = 4 ∧ v12 = .int .i64 6 ∧ L = []) ∨ (n = 3 ∧ v12 = .int .i64 4 ∧ L = [(34, ⟨#[38, 113, 117, 111, 116, 59]⟩)]) ∨ (n = 2 ∧ v12 = .int .i64 2 ∧ L = [(34, ⟨#[38, 113, 117, 111, 116, 59]⟩), (38, ⟨#[38, 97, 109, 112, 59]⟩)]) ∨ (n = 1 ∧ v12 = .int .i64 0 ∧ L = [(34, ⟨#[38, 113, 117, 111, 116, 59]⟩), (38, ⟨#[38, 97, 109, 112, 59]⟩), (62, ⟨#[38, 103, 116, 59]⟩)]) ∨ (n = 0 ∧ v12 = .int .i64 (-2) ∧ L = [(34, ⟨#[38, 113, 117, 111, 116, 59]⟩), (38, ⟨#[38, 97, 109, 112, 59]⟩), (62, ⟨#[38, 103, 116, 59]⟩), (60, ⟨#[38, 108, 116, 59]⟩)])))
      case atStart => exact ⟨[], hR, hB, .inl ⟨rfl, rfl, rfl⟩⟩
      case round =>
        clear hR hB hst hlt
        obtain ⟨L, hR, hB, ⟨rfl, rfl, rfl⟩ | ⟨rfl, rfl, rfl⟩ | ⟨rfl, rfl, rfl⟩ | ⟨rfl, rfl, rfl⟩ | ⟨rfl, rfl, rfl⟩⟩ := hrel
        · have hlt : rb < wr.heap.size := (Array.getElem?_eq_some_iff.1 hR.row.choose_spec.1).1
          have d6 := (hB.cell (block_lt_of_cell c6)).trans c6
          have d7 := (hB.cell (block_lt_of_cell c7)).trans c7
          have hnil := hR.nil 34 (by omega) (by decide)
          have hpat := hR.pats
          have hf := hR.free 256
          have kS : (convert 22 9 (.slice (some ⟨wr.heap.size, 0, none⟩) 1 1)).run Tryz.prog (wr.alloc (.cells #[.int .u8 34] 5)) = .ok (.string ⟨#[34]⟩) (wr.alloc (.cells #[.int .u8 34] 5)) := conv1 wr 34
          have kA : (Builtin.append_ #[31, 31] 31 #[.slice (some ⟨w.heap.size, 0, none⟩) 0 4, .slice (some ⟨wr.heap.size + 1, 0, none⟩) 1 1]).run Tryz.prog ((wr.alloc (.cells #[.int .u8 34] 5)).alloc (.cells #[.string ⟨#[34]⟩] 9)) = .ok (.slice (some ⟨w.heap.size, 0, none⟩) 1 4) (((wr.alloc (.cells #[.int .u8 34] 5)).alloc (.cells #[.string ⟨#[34]⟩] 9)).setCell ⟨w.heap.size, 0, none⟩ (.string ⟨#[34]⟩)) := pat_append hR (by decide) (wr.alloc (.cells #[.int .u8 34] 5)) (below_alloc (Below.refl _ _) _) 34 _ (by simp)
          have hR2 : Rep w.heap.size ((wr.alloc (.cells #[.int .u8 34] 5)).alloc (.cells #[.string ⟨#[34]⟩] 9)) rb w.heap.size [] := (hR.below (below_alloc (Below.refl _ _) _)).below (below_alloc (Below.refl _ _) _)
          have hB2 : Below w.heap.size w ((wr.alloc (.cells #[.int .u8 34] 5)).alloc (.cells #[.string ⟨#[34]⟩] 9)) := below_alloc (below_alloc hB _) _
          obtain ⟨W4, hW4⟩ : ∃ W4, W4 = ((((wr.alloc (.cells #[.int .u8 34] 5)).alloc (.cells #[.string ⟨#[34]⟩] 9)).setCell ⟨w.heap.size, 0, none⟩ (.string ⟨#[34]⟩)).setCell ⟨rb, 256, none⟩ (.slice (some ⟨w.heap.size, 0, none⟩) 1 4)) := ⟨_, rfl⟩
          obtain ⟨q1, q2⟩ := hR2.ready 34 (by omega) (by decide) ⟨#[38, 113, 117, 111, 116, 59]⟩ _ _ W4 hW4
          have hst := hR2.step (by decide) 34 ⟨#[38, 113, 117, 111, 116, 59]⟩ (by decide) w hB2 W4 hW4
          have kB : (convert 9 22 (.string ⟨#[38, 113, 117, 111, 116, 59]⟩)).run Tryz.prog ((((wr.alloc (.cells #[.int .u8 34] 5)).alloc (.cells #[.string ⟨#[34]⟩] 9)).setCell ⟨w.heap.size, 0, none⟩ (.string ⟨#[34]⟩)).setCell ⟨rb, 256, none⟩ (.slice (some ⟨w.heap.size, 0, none⟩) 1 4)) = .ok (.slice (some ⟨W4.heap.size, 0, none⟩) 6 (grownCap W4 6 0 5)) (Lib.bytesWorld W4 5 ⟨#[38, 113, 117, 111, 116, 59]⟩) := by
            rw [hW4]
            exact print_bytes 9 22 5 Tryz.underlying9 Tryz.underlying22 Tryz.underlying5 ⟨#[38, 113, 117, 111, 116, 59]⟩ _
          have e1 : ((⟨#[34]⟩ : ByteArray)[0]'(by decide)).toNat = 34 := rfl
          clear hW4 hR hB hR2 hB2
          go_wp2_with (at_builtin; refine append_ev (s := .tmp 119) (x := .tmp 123) rfl rfl rfl rfl kA ?_)
          go_roundg 3
          case measure => decide
          case rel => exact ⟨_, hst.1, hst.2, .inr (.inl ⟨rfl, rfl, rfl⟩)⟩
        · have hlt : rb < wr.heap.size := (Array.getElem?_eq_some_iff.1 hR.row.choose_spec.1).1
          have d4 := (hB.cell (block_lt_of_cell c4)).trans c4
          have d5 := (hB.cell (block_lt_of_cell c5)).trans c5
          have hnil := hR.nil 38 (by omega) (by decide)
          have hpat := hR.pats
          have hf := hR.free 256
          have kS : (convert 22 9 (.slice (some ⟨wr.heap.size, 0, none⟩) 1 1)).run Tryz.prog (wr.alloc (.cells #[.int .u8 38] 5)) = .ok (.string ⟨#[38]⟩) (wr.alloc (.cells #[.int .u8 38] 5)) := conv1 wr 38
          have kA : (Builtin.append_ #[31, 31] 31 #[.slice (some ⟨w.heap.size, 0, none⟩) 1 4, .slice (some ⟨wr.heap.size + 1, 0, none⟩) 1 1]).run Tryz.prog ((wr.alloc (.cells #[.int .u8 38] 5)).alloc (.cells #[.string ⟨#[38]⟩] 9)) = .ok (.slice (some ⟨w.heap.size, 0, none⟩) 2 4) (((wr.alloc (.cells #[.int .u8 38] 5)).alloc (.cells #[.string ⟨#[38]⟩] 9)).setCell ⟨w.heap.size, 1, none⟩ (.string ⟨#[38]⟩)) := pat_append hR (by decide) (wr.alloc (.cells #[.int .u8 38] 5)) (below_alloc (Below.refl _ _) _) 38 _ (by simp)
          have hR2 : Rep w.heap.size ((wr.alloc (.cells #[.int .u8 38] 5)).alloc (.cells #[.string ⟨#[38]⟩] 9)) rb w.heap.size [(34, ⟨#[38, 113, 117, 111, 116, 59]⟩)] := (hR.below (below_alloc (Below.refl _ _) _)).below (below_alloc (Below.refl _ _) _)
          have hB2 : Below w.heap.size w ((wr.alloc (.cells #[.int .u8 38] 5)).alloc (.cells #[.string ⟨#[38]⟩] 9)) := below_alloc (below_alloc hB _) _
          obtain ⟨W4, hW4⟩ : ∃ W4, W4 = ((((wr.alloc (.cells #[.int .u8 38] 5)).alloc (.cells #[.string ⟨#[38]⟩] 9)).setCell ⟨w.heap.size, 1, none⟩ (.string ⟨#[38]⟩)).setCell ⟨rb, 256, none⟩ (.slice (some ⟨w.heap.size, 0, none⟩) 2 4)) := ⟨_, rfl⟩
          obtain ⟨q1, q2⟩ := hR2.ready 38 (by omega) (by decide) ⟨#[38, 97, 109, 112, 59]⟩ _ _ W4 hW4
          have hst := hR2.step (by decide) 38 ⟨#[38, 97, 109, 112, 59]⟩ (by decide) w hB2 W4 hW4
          have kB : (convert 9 22 (.string ⟨#[38, 97, 109, 112, 59]⟩)).run Tryz.prog ((((wr.alloc (.cells #[.int .u8 38] 5)).alloc (.cells #[.string ⟨#[38]⟩] 9)).setCell ⟨w.heap.size, 1, none⟩ (.string ⟨#[38]⟩)).setCell ⟨rb, 256, none⟩ (.slice (some ⟨w.heap.size, 0, none⟩) 2 4)) = .ok (.slice (some ⟨W4.heap.size, 0, none⟩) 5 (grownCap W4 5 0 5)) (Lib.bytesWorld W4 5 ⟨#[38, 97, 109, 112, 59]⟩) := by
            rw [hW4]
            exact print_bytes 9 22 5 Tryz.underlying9 Tryz.underlying22 Tryz.underlying5 ⟨#[38, 97, 109, 112, 59]⟩ _
          have e1 : ((⟨#[38]⟩ : ByteArray)[0]'(by decide)).toNat = 38 := rfl
          clear hW4 hR hB hR2 hB2
          go_wp2_with (at_builtin; refine append_ev (s := .tmp 119) (x := .tmp 123) rfl rfl rfl rfl kA ?_)
          go_roundg 2
          case measure => decide
          case rel => exact ⟨_, hst.1, hst.2, .inr (.inr (.inl ⟨rfl, rfl, rfl⟩))⟩
        · have hlt : rb < wr.heap.size := (Array.getElem?_eq_some_iff.1 hR.row.choose_spec.1).1
          have d2 := (hB.cell (block_lt_of_cell c2)).trans c2
          have d3 := (hB.cell (block_lt_of_cell c3)).trans c3
          have hnil := hR.nil 62 (by omega) (by decide)
          have hpat := hR.pats
          have hf := hR.free 256
          have kS : (convert 22 9 (.slice (some ⟨wr.heap.size, 0, none⟩) 1 1)).run Tryz.prog (wr.alloc (.cells #[.int .u8 62] 5)) = .ok (.string ⟨#[62]⟩) (wr.alloc (.cells #[.int .u8 62] 5)) := conv1 wr 62
          have kA : (Builtin.append_ #[31, 31] 31 #[.slice (some ⟨w.heap.size, 0, none⟩) 2 4, .slice (some ⟨wr.heap.size + 1, 0, none⟩) 1 1]).run Tryz.prog ((wr.alloc (.cells #[.int .u8 62] 5)).alloc (.cells #[.string ⟨#[62]⟩] 9)) = .ok (.slice (some ⟨w.heap.size, 0, none⟩) 3 4) (((wr.alloc (.cells #[.int .u8 62] 5)).alloc (.cells #[.string ⟨#[62]⟩] 9)).setCell ⟨w.heap.size, 2, none⟩ (.string ⟨#[62]⟩)) := pat_append hR (by decide) (wr.alloc (.cells #[.int .u8 62] 5)) (below_alloc (Below.refl _ _) _) 62 _ (by simp)
          have hR2 : Rep w.heap.size ((wr.alloc (.cells #[.int .u8 62] 5)).alloc (.cells #[.string ⟨#[62]⟩] 9)) rb w.heap.size [(34, ⟨#[38, 113, 117, 111, 116, 59]⟩), (38, ⟨#[38, 97, 109, 112, 59]⟩)] := (hR.below (below_alloc (Below.refl _ _) _)).below (below_alloc (Below.refl _ _) _)
          have hB2 : Below w.heap.size w ((wr.alloc (.cells #[.int .u8 62] 5)).alloc (.cells #[.string ⟨#[62]⟩] 9)) := below_alloc (below_alloc hB _) _
          obtain ⟨W4, hW4⟩ : ∃ W4, W4 = ((((wr.alloc (.cells #[.int .u8 62] 5)).alloc (.cells #[.string ⟨#[62]⟩] 9)).setCell ⟨w.heap.size, 2, none⟩ (.string ⟨#[62]⟩)).setCell ⟨rb, 256, none⟩ (.slice (some ⟨w.heap.size, 0, none⟩) 3 4)) := ⟨_, rfl⟩
          obtain ⟨q1, q2⟩ := hR2.ready 62 (by omega) (by decide) ⟨#[38, 103, 116, 59]⟩ _ _ W4 hW4
          have hst := hR2.step (by decide) 62 ⟨#[38, 103, 116, 59]⟩ (by decide) w hB2 W4 hW4
          have kB : (convert 9 22 (.string ⟨#[38, 103, 116, 59]⟩)).run Tryz.prog ((((wr.alloc (.cells #[.int .u8 62] 5)).alloc (.cells #[.string ⟨#[62]⟩] 9)).setCell ⟨w.heap.size, 2, none⟩ (.string ⟨#[62]⟩)).setCell ⟨rb, 256, none⟩ (.slice (some ⟨w.heap.size, 0, none⟩) 3 4)) = .ok (.slice (some ⟨W4.heap.size, 0, none⟩) 4 (grownCap W4 4 0 5)) (Lib.bytesWorld W4 5 ⟨#[38, 103, 116, 59]⟩) := by
            rw [hW4]
            exact print_bytes 9 22 5 Tryz.underlying9 Tryz.underlying22 Tryz.underlying5 ⟨#[38, 103, 116, 59]⟩ _
          have e1 : ((⟨#[62]⟩ : ByteArray)[0]'(by decide)).toNat = 62 := rfl
          clear hW4 hR hB hR2 hB2
          go_wp2_with (at_builtin; refine append_ev (s := .tmp 119) (x := .tmp 123) rfl rfl rfl rfl kA ?_)
          go_roundg 1
          case measure => decide
          case rel => exact ⟨_, hst.1, hst.2, .inr (.inr (.inr (.inl ⟨rfl, rfl, rfl⟩)))⟩
        · have hlt : rb < wr.heap.size := (Array.getElem?_eq_some_iff.1 hR.row.choose_spec.1).1
          have d0 := (hB.cell (block_lt_of_cell c0)).trans c0
          have d1 := (hB.cell (block_lt_of_cell c1)).trans c1
          have hnil := hR.nil 60 (by omega) (by decide)
          have hpat := hR.pats
          have hf := hR.free 256
          have kS : (convert 22 9 (.slice (some ⟨wr.heap.size, 0, none⟩) 1 1)).run Tryz.prog (wr.alloc (.cells #[.int .u8 60] 5)) = .ok (.string ⟨#[60]⟩) (wr.alloc (.cells #[.int .u8 60] 5)) := conv1 wr 60
          have kA : (Builtin.append_ #[31, 31] 31 #[.slice (some ⟨w.heap.size, 0, none⟩) 3 4, .slice (some ⟨wr.heap.size + 1, 0, none⟩) 1 1]).run Tryz.prog ((wr.alloc (.cells #[.int .u8 60] 5)).alloc (.cells #[.string ⟨#[60]⟩] 9)) = .ok (.slice (some ⟨w.heap.size, 0, none⟩) 4 4) (((wr.alloc (.cells #[.int .u8 60] 5)).alloc (.cells #[.string ⟨#[60]⟩] 9)).setCell ⟨w.heap.size, 3, none⟩ (.string ⟨#[60]⟩)) := pat_append hR (by decide) (wr.alloc (.cells #[.int .u8 60] 5)) (below_alloc (Below.refl _ _) _) 60 _ (by simp)
          have hR2 : Rep w.heap.size ((wr.alloc (.cells #[.int .u8 60] 5)).alloc (.cells #[.string ⟨#[60]⟩] 9)) rb w.heap.size [(34, ⟨#[38, 113, 117, 111, 116, 59]⟩), (38, ⟨#[38, 97, 109, 112, 59]⟩), (62, ⟨#[38, 103, 116, 59]⟩)] := (hR.below (below_alloc (Below.refl _ _) _)).below (below_alloc (Below.refl _ _) _)
          have hB2 : Below w.heap.size w ((wr.alloc (.cells #[.int .u8 60] 5)).alloc (.cells #[.string ⟨#[60]⟩] 9)) := below_alloc (below_alloc hB _) _
          obtain ⟨W4, hW4⟩ : ∃ W4, W4 = ((((wr.alloc (.cells #[.int .u8 60] 5)).alloc (.cells #[.string ⟨#[60]⟩] 9)).setCell ⟨w.heap.size, 3, none⟩ (.string ⟨#[60]⟩)).setCell ⟨rb, 256, none⟩ (.slice (some ⟨w.heap.size, 0, none⟩) 4 4)) := ⟨_, rfl⟩
          obtain ⟨q1, q2⟩ := hR2.ready 60 (by omega) (by decide) ⟨#[38, 108, 116, 59]⟩ _ _ W4 hW4
          have hst := hR2.step (by decide) 60 ⟨#[38, 108, 116, 59]⟩ (by decide) w hB2 W4 hW4
          have kB : (convert 9 22 (.string ⟨#[38, 108, 116, 59]⟩)).run Tryz.prog ((((wr.alloc (.cells #[.int .u8 60] 5)).alloc (.cells #[.string ⟨#[60]⟩] 9)).setCell ⟨w.heap.size, 3, none⟩ (.string ⟨#[60]⟩)).setCell ⟨rb, 256, none⟩ (.slice (some ⟨w.heap.size, 0, none⟩) 4 4)) = .ok (.slice (some ⟨W4.heap.size, 0, none⟩) 4 (grownCap W4 4 0 5)) (Lib.bytesWorld W4 5 ⟨#[38, 108, 116, 59]⟩) := by
            rw [hW4]
            exact print_bytes 9 22 5 Tryz.underlying9 Tryz.underlying22 Tryz.underlying5 ⟨#[38, 108, 116, 59]⟩ _
          have e1 : ((⟨#[60]⟩ : ByteArray)[0]'(by decide)).toNat = 60 := rfl
          clear hW4 hR hB hR2 hB2
          go_wp2_with (at_builtin; refine append_ev (s := .tmp 119) (x := .tmp 123) rfl rfl rfl rfl kA ?_)
          go_roundg 0
          case measure => decide
          case rel => exact ⟨_, hst.1, hst.2, .inr (.inr (.inr (.inr (⟨rfl, rfl, rfl⟩))))⟩
        · go_wp2
          go_ret
          exact ⟨rb, rfl, hR, hB⟩
end Go.Proofs.YthoamjobclfjjaaGreatDoor.K
