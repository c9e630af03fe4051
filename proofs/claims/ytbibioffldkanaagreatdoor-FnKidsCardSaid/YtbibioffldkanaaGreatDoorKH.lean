/- What Go's library answers where the walks call it, and what a name between & and ; stands for. Condition: the cell of the library's variable MaxLen holds a number, its two errors are not nil. -/
import Derived.Test.YtbibioffldkanaaGreatDoorXWords
import Derived.Test.YtbibioffldkanaaGreatDoorXPure
import Derived.LaidEql
import Derived.Lib.AppendIntMem
import Derived.Test.YtbibioffldkanaaGreatDoorXLaid
import Derived.Test.YtbibioffldkanaaGreatDoorKS
import Derived.Test.YtbibioffldkanaaGreatDoorK0
import Derived.Test.YtbibioffldkanaaGreatDoorRows
import Derived.Stop.LaidErr
import Derived.Lib.SmallJoins
import Derived.LaidMore
namespace Go.Proofs.YtbibioffldkanaaGreatDoor.K
set_option linter.unusedVariables false
set_option linter.unusedSimpArgs false
open Go.RowKit Go.Proofs.YtbibioffldkanaaGreatDoor Go.Proofs.YtbibioffldkanaaGreatDoorW.PrintWords Go.Proofs.YtbibioffldkanaaGreatDoorW.PrintLast
theorem NM : Tryz.prog.globalNamed "strconv.ErrSyntax" = some 1 := by kernel_rfl
theorem Nz : Tryz.prog.globalNamed "strconv.ErrRange" = some 2 := by kernel_rfl
/-- An error variable of the library that is not nil. -/
def Df (w : World) (n : String) : Prop := ∃ tp p, w.var? Tryz.prog n = some #[.iface tp p]
theorem xY {w w' : World} {n : String} {g : Nat} (hg : Tryz.prog.globalNamed n = some g) (h : Df w n) (hB : Below w.heap.size w w') : Df w' n := by
  obtain ⟨tp, p, h⟩ := h
  refine ⟨tp, p, ?_⟩
  have hc := World.var?_cell hg h 0
  have hlt := World.block_lt_of_cell? w _ hc
  unfold World.var? at h ⊢
  rw [hg, Option.bind_some] at h ⊢
  rw [hB.block g hlt]
  exact h
def ML (w : World) : Prop := (∃ m : Int, w.cell? ⟨0, 0, none⟩ = some (.int .i64 m)) ∧ Df w "strconv.ErrSyntax" ∧ Df w "strconv.ErrRange"
theorem pJ {w w' : World} (hM : ML w) (hB : Below w.heap.size w w') : ML w' := by
  obtain ⟨⟨m, h⟩, h1, h2⟩ := hM
  exact ⟨⟨m, (hB.cell (World.block_lt_of_cell? w _ h)).trans h⟩, xY NM h1 hB, xY Nz h2 hB⟩
theorem tH {w : World} (hM : ML w) : ML w.drew := hM
theorem qZ {w : World} (hM : ML w) (n : Nat) : ML (w.drewN n) := hM
theorem rq {w : World} (hM : ML w) (o : Obj) : ML (w.alloc o) := pJ hM (gB (Below.refl _ _) o)
def strings_Cut.f (a0 a1 : ByteArray) : Option (ByteArray × ByteArray × Bool) := if a0.size < 4294967281 then some (⟨(Lib.cut a0.data.toList a1.data.toList).1.toArray⟩, ⟨(Lib.cut a0.data.toList a1.data.toList).2.1.toArray⟩, (Lib.cut a0.data.toList a1.data.toList).2.2) else none
theorem strings_Cut.calls (a0 a1 r0 r1 : ByteArray) (r2 : Bool) (w : World) (hM : ML w) (h : strings_Cut.f a0 a1 = some (r0, r1, r2)) :
    Calls Tryz.prog 56 #[.string a0, .string a1] w fun e w' => e = .returned (.tuple #[.string r0, .string r1, .bool r2]) ∧ jP w w' := by
  unfold strings_Cut.f at h
  by_cases hs : a0.size < 4294967281
  · rw [if_pos hs] at h
    obtain ⟨rfl, rfl, rfl⟩ : _ ∧ _ ∧ _ := by simpa using h
    obtain ⟨m, hm⟩ := hM.1
    refine (Any.strings_Cut { Tryz.BK with } a0 a1 m w hs hm).mono ?_
    rintro e w' ⟨rfl, n, rfl⟩
    exact ⟨rfl, ⟨n, rfl⟩⟩
  · rw [if_neg hs] at h; cases h
/-- What the library makes of a text of digits at 16 bits: the number, or an error that is not nil. -/
theorem yw (a0 : ByteArray) (hs : a0.size ≤ 281474976710656) (w : World) (hM : ML w) : ∃ (n : Nat) (e : Value), (match Lib.parseUintB 16 a0.data.toList with | .ok v => n = v ∧ e = .nilIface | .syntax => n = 0 ∧ ∃ t p, e = .iface t p | .range => n = 65535 ∧ ∃ t p, e = .iface t p) ∧
    Calls Tryz.prog 73 #[.string a0, .int .i64 10, .int .i64 16] w fun o w' => (∃ e', o = .returned (.tuple #[.int .u64 n, e']) ∧ (e = .nilIface → e' = .nilIface) ∧ (e ≠ .nilIface → ∃ t p, e' = .iface t p)) ∧ Below w.heap.size w w' := by
  obtain ⟨t1, p1, h1⟩ := hM.2.1
  obtain ⟨t2, p2, h2⟩ := hM.2.2
  cases hp : Lib.parseUintB 16 a0.data.toList with
  | ok v =>
    refine ⟨v, .nilIface, ⟨rfl, rfl⟩, (Any.strconv_ParseUint_10_at16_ok Tryz.laysPu14 a0 (by omega) v hp w).mono ?_⟩
    rintro o w' ⟨rfl, hw⟩
    refine ⟨⟨_, rfl, fun _ => rfl, fun h => absurd rfl h⟩, ?_⟩
    rcases hw with rfl | rfl
    · exact Below.refl _ _
    · exact Lib.bytesWorld_below w _ a0
  | «syntax» =>
    refine ⟨0, .iface 0 .nilIface, ⟨rfl, _, _, rfl⟩, (Any.strconv_ParseUint_10_at16_syntax_var Tryz.laysPu14 a0 hs hp t1 p1 w h1).mono ?_⟩
    rintro o w' ⟨N, rfl, _, _, hb⟩
    exact ⟨⟨_, rfl, fun h => (by cases h), fun _ => ⟨_, _, rfl⟩⟩, hb⟩
  | range =>
    refine ⟨65535, .iface 0 .nilIface, ⟨rfl, _, _, rfl⟩, (Any.strconv_ParseUint_10_at16_range_var Tryz.laysPu14 a0 hs hp t2 p2 w h2).mono ?_⟩
    rintro o w' ⟨N, rfl, _, _, hb⟩
    exact ⟨⟨_, rfl, fun h => (by cases h), fun _ => ⟨_, _, rfl⟩⟩, hb⟩
theorem star : "*" ++ "errors.errorString" = "*errors.errorString" := by decide
theorem KZ (u : TypeId) (h : Tryz.prog.typeName? 3 u = some "*errors.errorString") : u = 127 :=
  typeName_ptr_named (nm := "errors.errorString") (by rw [star]; kernel_rfl) (by kernel_rfl) (by decide) u (by rw [star]; exact h)
theorem yX {n : String} {g : Nat} {text : List UInt8} {r : List (String × DataW Unit)} {w : World} (hg : Tryz.prog.globalNamed n = some g) (ht : (Tryz.prog.globals[g]?).map (·.type) = some 105)
    (h : laidMet Tryz.prog ((n, .iface "*errors.errorString" (.ptr (.agg [.lit (.string text)]))) :: r) w) : Df w n := by
  obtain ⟨a, s, hv, _⟩ := laid_sentinel h hg ht Tryz.underlying105 KZ Tryz.underlying127 Tryz.underlying129 rfl rfl Tryz.underlying9 (by kernel_rfl) (by kernel_rfl)
  exact ⟨_, _, hv⟩
theorem JW {d1 d2 d3 : DataW Unit} {rest : List (String × DataW Unit)} {w : World} (hsh : w.ShapedOpen Tryz.prog) (h : laidMet Tryz.prog (("math/bits.deBruijn32tab", d1) :: ("math/bits.deBruijn64tab", d2) :: ("internal/strconv.uint64pow10", d3) :: ("strconv.ErrRange", Rows.laid_strconv_ErrRange) :: ("strconv.ErrSyntax", Rows.laid_strconv_ErrSyntax) :: rest) w) : ML w :=
  ⟨Tryz.BK.s1_3 w hsh, yX NM (by kernel_rfl) (qB (qB (qB (qB h)))), yX Nz (by kernel_rfl) (qB (qB (qB h)))⟩
def pX (a0 : ByteArray) : List UInt8 := Lib.trimPrefix a0.data.toList [35]
def zN (l : List UInt8) : Nat := match Lib.parseUintB 16 l with | .ok v => v | .syntax => 0 | .range => 65535
def DK (l : List UInt8) : Bool := match Lib.parseUintB 16 l with | .ok _ => true | .syntax => false | .range => false
def xW (a0 : ByteArray) : Bool := Lib.hasPrefix a0.data.toList [35] && (DK (pX a0) && (decide ((pX a0).length ≤ 3) && ((pX a0).all Pl.nN && (decide (32 ≤ zN (pX a0)) && decide (zN (pX a0) ≤ 126)))))
def nZ.f (a0 : ByteArray) : Option (Int × Bool) :=
  if a0.toList = [108, 116] then some (60, true) else if a0.toList = [103, 116] then some (62, true) else if a0.toList = [97, 109, 112] then some (38, true) else if a0.toList = [113, 117, 111, 116] then some (34, true) else if a0.toList = [97, 112, 111, 115] then some (39, true) else
  if a0.size ≤ 281474976710656 then some (((zN (pX a0) : Nat) : Int) % 256, xW a0) else none
theorem Jl {a : ByteArray} {l : List UInt8} (h : a.toList = l) : a = ⟨l.toArray⟩ := by
  rw [Pl.toList_data] at h
  obtain ⟨⟨x⟩⟩ := a
  simp at h
  rw [h]
theorem wO (a0 : ByteArray) (l : List UInt8) (w : World) (r : Int) (hl : (l = [108, 116] ∧ r = 60) ∨ (l = [103, 116] ∧ r = 62) ∨ (l = [97, 109, 112] ∧ r = 38) ∨ (l = [113, 117, 111, 116] ∧ r = 34) ∨ (l = [97, 112, 111, 115] ∧ r = 39)) (h : a0.toList = l) :
    Calls Tryz.prog 67 #[.string a0] w fun e w' => e = .returned (.tuple #[.int .u8 r, .bool true]) ∧ Below w.heap.size w w' := by
  obtain rfl := Jl h
  rcases hl with ⟨rfl, rfl⟩ | ⟨rfl, rfl⟩ | ⟨rfl, rfl⟩ | ⟨rfl, rfl⟩ | ⟨rfl, rfl⟩
  all_goals
    go_enter Tryz.func67, Tryz.ntmps67
    go_wp2
    go_ret2
    exact ⟨rfl, Below.refl _ _⟩
theorem Ib (c : UInt8) : oG.f (c.toNat : Int) = some (Pl.nN c) := by
  unfold oG.f Pl.nN
  by_cases h : (c.toNat : Int) ≥ 48
  · rw [if_pos h]
    congr 1
    rw [decide_eq_decide]
    omega
  · rw [if_neg h, decide_eq_false (by omega)]
theorem Dz {s : ByteArray} {l : List UInt8} (hl : s.data.toList = l) (hs : l.length < 9223372036854775807) : ∀ i, i ≤ l.length → Ev (fun k => gW.l0 k s (l.length : Int) (i : Int)) ((l.drop i).all Pl.nN) := by
  have hz := Pl.rZ hl
  refine Pl.rF (n := l.length) (g := fun k i => gW.l0 k s (l.length : Int) i) (F := fun i => (l.drop i).all Pl.nN) ?_ (fun i hi ih => ?_)
  · refine Ev.step (fun k => by rw [gW.l0]) ?_
    simp [Pl.kP]
  · refine Ev.step (fun k => by rw [gW.l0]) ?_
    rw [Pl.mf hi]
    simp only [Pl.lY, Pl.kP, Pl.mO, Pl.zM hl i hi, hz, Ib, Option.bind_some, Pl.kV (show i < 9223372036854775807 by omega), List.all_cons]
    rw [if_pos (by omega), if_pos (by omega), if_pos (by omega)]
    cases hb : Pl.nN l[i]
    · simp
    · simpa using ih
theorem IL (s : ByteArray) {l : List UInt8} (hl : s.data.toList = l) (hs : s.size < 9223372036854775807) : ∃ k, gW.f k s = some (l.all Pl.nN) := by
  have hz := Pl.rZ hl
  refine Ev.rounds (g := fun k => gW.f k s) ?_
  unfold gW.f
  rw [hz]
  exact Dz hl (by omega) 0 (Nat.zero_le _)
theorem JJ (l p : List UInt8) : (Lib.trimPrefix l p).length ≤ l.length := by
  unfold Lib.trimPrefix
  split <;> simp <;> omega
theorem He (a0 : ByteArray) (w : World) (hM : ML w) (h1 : ¬ a0.toList = [108, 116]) (h2 : ¬ a0.toList = [103, 116]) (h3 : ¬ a0.toList = [97, 109, 112]) (h4 : ¬ a0.toList = [113, 117, 111, 116]) (h5 : ¬ a0.toList = [97, 112, 111, 115]) (hs : a0.size ≤ 281474976710656) :
    Calls Tryz.prog 67 #[.string a0] w fun e w' => e = .returned (.tuple #[.int .u8 (((zN (pX a0) : Nat) : Int) % 256), .bool (xW a0)]) ∧ Below w.heap.size w w' := by
  have b1 : (a0.toList == [108, 116]) = false := beq_eq_false_iff_ne.2 h1
  have b2 : (a0.toList == [103, 116]) = false := beq_eq_false_iff_ne.2 h2
  have b3 : (a0.toList == [97, 109, 112]) = false := beq_eq_false_iff_ne.2 h3
  have b4 : (a0.toList == [113, 117, 111, 116]) = false := beq_eq_false_iff_ne.2 h4
  have b5 : (a0.toList == [97, 112, 111, 115]) = false := beq_eq_false_iff_ne.2 h5
  have hd : (⟨(pX a0).toArray⟩ : ByteArray).data.toList = pX a0 := by simp
  have hds : (⟨(pX a0).toArray⟩ : ByteArray).size ≤ 281474976710656 := by
    have := JJ a0.data.toList [35]
    have e : a0.data.toList.length = a0.size := by simp
    rw [← Pl.jy, hd]
    unfold pX
    omega
  obtain ⟨n, er, hn, hc⟩ := yw ⟨(pX a0).toArray⟩ hds w hM
  rw [hd] at hn
  have hN : zN (pX a0) = n := by
    unfold zN
    cases hp : Lib.parseUintB 16 (pX a0) <;> rw [hp] at hn <;> simp_all
  have cp : Calls Tryz.prog 53 #[.string a0, .string ⟨#[35]⟩] w fun e w' => e = .returned (.tuple #[.string ⟨(pX a0).toArray⟩, .bool (Lib.hasPrefix a0.data.toList [35])]) ∧ w' = w := Tryz.strings_CutPrefix a0 ⟨#[35]⟩ w
  rw [hN]
  have hDs : ((⟨(pX a0).toArray⟩ : ByteArray)).size = (pX a0).length := by rw [← Pl.jy, hd]
  have hok : xW a0 = (Lib.hasPrefix a0.data.toList [35] && (DK (pX a0) && (decide ((pX a0).length ≤ 3) && ((pX a0).all Pl.nN && (decide (32 ≤ n) && decide (n ≤ 126)))))) := by unfold xW; rw [hN]
  have hPe : (er = .nilIface ↔ DK (pX a0) = true) := by
    unfold DK
    cases hp : Lib.parseUintB 16 (pX a0) <;> rw [hp] at hn <;> simp only at hn ⊢
    all_goals first
      | (obtain ⟨_, t, p, rfl⟩ := hn; simp; done)
      | (obtain ⟨_, rfl⟩ := hn; simp; done)
  obtain ⟨k, hk⟩ := IL (⟨(pX a0).toArray⟩ : ByteArray) hd (by omega)
  have ac := fun w1 => gW.calls k (⟨(pX a0).toArray⟩ : ByteArray) ((pX a0).all Pl.nN) w1 hk
  generalize (⟨(pX a0).toArray⟩ : ByteArray) = D at *
  generalize (pX a0).all Pl.nN = al at *
  by_cases p1 : Lib.hasPrefix a0.data.toList [35] = true
  · rw [p1] at cp hok
    by_cases he : er = .nilIface
    · rw [hPe.1 he] at hok
      by_cases hl : (pX a0).length ≤ 3
      · have g3 : decide ((D.size : Int) ≤ 3) = true := decide_eq_true (by omega)
        rw [decide_eq_true hl] at hok
        cases al with
        | false =>
          rw [hok]
          go_enter Tryz.func67, Tryz.ntmps67
          go_wp2_with (first | (go_at_call 53; refine cp.mono ?_; rintro e w1 ⟨rfl, rfl⟩) | (go_at_call 73; refine hc.mono ?_; rintro e w2 ⟨⟨e1, rfl, q1, _⟩, hb1⟩; obtain rfl := q1 he) | (go_at_call 40; refine (ac _).mono ?_; rintro e w3 ⟨rfl, ⟨m, rfl⟩⟩))
          go_ret2
          exact ⟨rfl, by first | exact fU hb1 _ | (apply fU; exact hb1)⟩
        | true =>
          by_cases hn1 : 32 ≤ n
          · have g4 : decide ((n : Int) ≥ 32) = true := decide_eq_true (by omega)
            rw [decide_eq_true hn1] at hok
            have hok' : xW a0 = decide ((n : Int) ≤ 126) := by rw [hok]; simp; omega
            rw [hok']
            go_enter Tryz.func67, Tryz.ntmps67
            go_wp2_with (first | (go_at_call 53; refine cp.mono ?_; rintro e w1 ⟨rfl, rfl⟩) | (go_at_call 73; refine hc.mono ?_; rintro e w2 ⟨⟨e1, rfl, q1, _⟩, hb1⟩; obtain rfl := q1 he) | (go_at_call 40; refine (ac _).mono ?_; rintro e w3 ⟨rfl, ⟨m, rfl⟩⟩))
            go_ret2
            exact ⟨rfl, by first | exact fU hb1 _ | (apply fU; exact hb1)⟩
          · have g4 : decide ((n : Int) ≥ 32) = false := decide_eq_false (by omega)
            rw [decide_eq_false hn1] at hok
            have e256 : ((n : Int) % 256) = (n : Int) := by omega
            rw [hok, e256]
            go_enter Tryz.func67, Tryz.ntmps67
            go_wp2_with (first | (go_at_call 53; refine cp.mono ?_; rintro e w1 ⟨rfl, rfl⟩) | (go_at_call 73; refine hc.mono ?_; rintro e w2 ⟨⟨e1, rfl, q1, _⟩, hb1⟩; obtain rfl := q1 he) | (go_at_call 40; refine (ac _).mono ?_; rintro e w3 ⟨rfl, ⟨m, rfl⟩⟩))
            go_ret2
            exact ⟨rfl, by first | exact fU hb1 _ | (apply fU; exact hb1)⟩
      · have g3 : decide ((D.size : Int) ≤ 3) = false := decide_eq_false (by omega)
        rw [decide_eq_false hl] at hok
        rw [hok]
        go_enter Tryz.func67, Tryz.ntmps67
        go_wp2_with (first | (go_at_call 53; refine cp.mono ?_; rintro e w1 ⟨rfl, rfl⟩) | (go_at_call 73; refine hc.mono ?_; rintro e w2 ⟨⟨e1, rfl, q1, _⟩, hb1⟩; obtain rfl := q1 he))
        go_ret2
        exact ⟨rfl, hb1⟩
    · have hf : DK (pX a0) = false := by simpa using fun h => he (hPe.2 h)
      rw [hf] at hok
      rw [hok]
      go_enter Tryz.func67, Tryz.ntmps67
      go_wp2_with (first | (go_at_call 53; refine cp.mono ?_; rintro e w1 ⟨rfl, rfl⟩) | (go_at_call 73; refine hc.mono ?_; rintro e w2 ⟨⟨e1, rfl, _, q1⟩, hb1⟩; obtain ⟨t, p, rfl⟩ := q1 he))
      go_ret2
      exact ⟨rfl, hb1⟩
  · have p0 : Lib.hasPrefix a0.data.toList [35] = false := by simpa using p1
    have ho : xW a0 = false := by unfold xW; rw [p0]; rfl
    rw [ho]
    rw [p0] at cp
    go_enter Tryz.func67, Tryz.ntmps67
    go_wp2_with (first | (go_at_call 53; refine cp.mono ?_; rintro e w1 ⟨rfl, rfl⟩) | (go_at_call 73; refine hc.mono ?_; rintro e w2 ⟨⟨e1, rfl, _, _⟩, hb1⟩))
    go_ret2
    exact ⟨rfl, hb1⟩
theorem nZ.calls (a0 : ByteArray) (r0 : Int) (r1 : Bool) (w : World) (hM : ML w) (h : nZ.f a0 = some (r0, r1)) :
    Calls Tryz.prog 67 #[.string a0] w fun e w' => e = .returned (.tuple #[.int .u8 r0, .bool r1]) ∧ Below w.heap.size w w' := by
  unfold nZ.f at h
  by_cases h1 : a0.toList = [108, 116]
  · rw [if_pos h1] at h; cases h; exact wO a0 _ w 60 (.inl ⟨rfl, rfl⟩) h1
  · rw [if_neg h1] at h
    by_cases h2 : a0.toList = [103, 116]
    · rw [if_pos h2] at h; cases h; exact wO a0 _ w 62 (.inr (.inl ⟨rfl, rfl⟩)) h2
    · rw [if_neg h2] at h
      by_cases h3 : a0.toList = [97, 109, 112]
      · rw [if_pos h3] at h; cases h; exact wO a0 _ w 38 (.inr (.inr (.inl ⟨rfl, rfl⟩))) h3
      · rw [if_neg h3] at h
        by_cases h4 : a0.toList = [113, 117, 111, 116]
        · rw [if_pos h4] at h; cases h; exact wO a0 _ w 34 (.inr (.inr (.inr (.inl ⟨rfl, rfl⟩)))) h4
        · rw [if_neg h4] at h
          by_cases h5 : a0.toList = [97, 112, 111, 115]
          · rw [if_pos h5] at h; cases h; exact wO a0 _ w 39 (.inr (.inr (.inr (.inr ⟨rfl, rfl⟩)))) h5
          · rw [if_neg h5] at h
            by_cases hs : a0.size ≤ 281474976710656
            · rw [if_pos hs] at h; cases h; exact He a0 w hM h1 h2 h3 h4 h5 hs
            · rw [if_neg hs] at h; cases h
def strings_CutPrefix.f (a0 a1 : ByteArray) : Option (ByteArray × Bool) := some (⟨(Lib.trimPrefix a0.data.toList a1.data.toList).toArray⟩, Lib.hasPrefix a0.data.toList a1.data.toList)
theorem strings_CutPrefix.calls (a0 a1 r0 : ByteArray) (r1 : Bool) (w : World) (h : strings_CutPrefix.f a0 a1 = some (r0, r1)) :
    Calls Tryz.prog 53 #[.string a0, .string a1] w fun e w' => e = .returned (.tuple #[.string r0, .bool r1]) ∧ jP w w' := by
  unfold strings_CutPrefix.f at h
  obtain ⟨rfl, rfl⟩ : _ ∧ _ := by simpa using h
  refine (Tryz.strings_CutPrefix a0 a1 w).mono ?_
  rintro e w' ⟨rfl, rfl⟩
  exact ⟨rfl, jP.refl _⟩
end Go.Proofs.YtbibioffldkanaaGreatDoor.K
