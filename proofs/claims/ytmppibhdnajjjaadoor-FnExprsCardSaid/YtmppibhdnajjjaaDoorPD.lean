/- The text that the reference draws for ParseExpr: what a call of DrawParseExpr hands back. No condition beyond what each states. -/
import Derived.Test.YtmppibhdnajjjaaDoorP3
import Derived.Test.YtmppibhdnajjjaaDoorP11
import Derived.Test.YtmppibhdnajjjaaDoorP12
import Derived.Test.YtmppibhdnajjjaaDoorXWords
namespace Go.Proofs.YtmppibhdnajjjaaDoor.P
set_option linter.unusedVariables false
set_option linter.unusedSimpArgs false
open Go.RowKit Go.Proofs.YtmppibhdnajjjaaDoor Go.Proofs.YtmppibhdnajjjaaDoorW.PrintWords Go.Proofs.YtmppibhdnajjjaaDoorW.PrintLast Go.Proofs.YtmppibhdnajjjaaDoorW.PrintMore
/-- What the drawn text is turned to. -/
def turnT (s0 : List Int) (s4 : Int) (c : Int) (t : ByteArray) : Option ByteArray :=
  if c = 0 then (spec_l1Next.f s0 s4 (t.size : Int)).bind fun i => (spec_l1Pick.f s0 i.2 [48, 40, 118, 57, 41]).bind fun b => if 0 ≤ i.1 ∧ i.1 < (t.size : Int) then some (strOfNums ((bytesOf t).set i.1.toNat (b.1 % 256))) else none
  else if c = 1 then (spec_l1Next.f s0 s4 (t.size : Int)).bind fun i => if 0 ≤ i.1 ∧ i.1 ≤ (t.size : Int) then some (strOfNums ((bytesOf t).take i.1.toNat)) else none
  else if c = 2 then some (strOfNums (bytesOf t ++ [49])) else some (strOfNums (bytesOf t))
def spec_DrawParseExpr.f (k : Nat) (l0 : List Int) : Option ByteArray :=
  (spec_l1Source.f l0).bind fun s => (spec_l1Next.f s.1 s.2 2).bind fun a => (spec_l3Draw.f k s.1 a.2 (wrap64 (1 + a.1))).bind fun e => (spec_l3Text.f k e.1 (wrap64 ((e.1.length : Int) - 1))).bind fun t => (spec_l1Next.f s.1 e.2 6).bind fun c => if t.size ≤ 1000000 then turnT s.1 c.2 c.1 t else none
theorem spec_DrawParseExpr.mono : ∀ a0 k, LeO (spec_DrawParseExpr.f k a0) (spec_DrawParseExpr.f (k + 1) a0) := by
  intro a0 k
  unfold spec_DrawParseExpr.f
  repeat' first
      | (with_reducible exact spec_l3Draw.mono _ _ _ _)
      | (with_reducible exact spec_l3Text.mono _ _ _)
      | (with_reducible exact LeO.refl _)
      | (with_reducible exact LeO.none _)
      | (with_reducible refine LeO.ite ?_ ?_)
      | (with_reducible refine LeO.bind ?_ (fun _ => ?_))
      | exact LeO.refl _
/-- A row of bytes that a conversion has made, with room to its capacity. -/
def ConvRow (W : World) (b n cap : Nat) (xs : List Int) : Prop :=
  ReadsInt W .u8 (some ⟨b, 0, none⟩) n xs ∧ n ≤ cap ∧ cap ≤ maxLen ∧ ∃ cur fz, W.heap[b]? = some (.cells cur 5 (fz, fz + 1)) ∧ cap ≤ cur.size ∧ cur.size ≤ fz
theorem conv_new (W : World) (t : ByteArray) (hz : t.size ≤ 1000000) : ConvRow (Lib.bytesWorld W 5 t) W.heap.size t.size (grownCap W t.size 0 5) (bytesOf t) := by
  refine ⟨bytes_reads W 5 t (by omega), grownCap_ge W t.size 0 5, grownCap_le_maxLen W t.size 0 5 (by simp only [maxLen]; omega), _, _, Lib.bytesWorld_at_new W 5 t, ?_, Nat.le_refl _⟩
  have := grownCap_ge W t.size 0 5
  simp only [Lib.bytesCells, Array.size_append, Array.size_map, Array.size_replicate]
  have e : t.data.size = t.size := rfl
  omega
theorem ConvRow.keep {W W' : World} {b n cap g : Nat} {xs : List Int} (h : ConvRow W b n cap xs) (hk : KeepBut W W' g none) (hg : b ≠ g) : ConvRow W' b n cap xs := by
  obtain ⟨h1, h2, h3, cur, fz, hb, h4, h5⟩ := h
  have hlt : b < W.heap.size := (Array.getElem?_eq_some_iff.1 hb).1
  exact ⟨h1.keep hk (fun ad e _ => by cases e; exact hg), h2, h3, cur, fz, (hk.2 b hlt hg (by simp)).trans hb, h4, h5⟩
theorem reads_put {W : World} {b n : Nat} {xs : List Int} (h : ReadsInt W .u8 (some ⟨b, 0, none⟩) n xs) (i : Nat) (hi : i < n) (v : Int) : ReadsInt (W.setCell ⟨b, i, none⟩ (.int .u8 v)) .u8 (some ⟨b, 0, none⟩) n (xs.set i v) := by
  obtain ⟨h1, h2, h3⟩ := h
  obtain ⟨ad, e, hc⟩ := h3 (by omega)
  cases e
  refine ⟨by rw [List.length_set, h1], h2, fun _ => ⟨_, rfl, fun j hj => ?_⟩⟩
  have hcj := hc j hj
  have hci := hc i hi
  rw [add_plain] at hcj hci ⊢
  by_cases hji : j = i
  · subst hji
    have := World.cell?_setCells_in b [.int .u8 v] j W (fun q hq => by have : q = 0 := by simpa using hq
                                                                       subst this; rw [Nat.add_zero, hci]; rfl) 0 (by simp)
    rw [show W.setCells b j [.int .u8 v] = W.setCell ⟨b, j, none⟩ (.int .u8 v) from rfl, Nat.add_zero] at this
    rw [this]
    simp [List.getD_eq_getElem?_getD, List.getElem?_set, h1, hj]
  · have := World.cell?_setCells_out b [.int .u8 v] i W ⟨b, j, none⟩ (fun _ _ => by show j < i ∨ i + 1 ≤ j; omega)
    rw [show W.setCells b i [.int .u8 v] = W.setCell ⟨b, i, none⟩ (.int .u8 v) from rfl] at this
    rw [this, hcj]
    simp [List.getD_eq_getElem?_getD, List.getElem?_set, Ne.symm hji]
theorem conv_append {w0 W : World} {b n cap ad : Nat} {xs : List Int} (h : ConvRow W b n cap xs) (hn : n ≤ 1000000) (had : W.cell? ⟨ad, 0, none⟩ = some (.int .u8 49)) (hB : Below w0.heap.size w0 W) (hge : w0.heap.size ≤ b) :
    ∃ A c' W', (Builtin.append_ #[39, 39] 39 #[.slice (some ⟨b, 0, none⟩) n cap, .slice (some ⟨ad, 0, none⟩) 1 1]).run Tryd.prog W = .ok (.slice A (n + 1) c') W' ∧ ReadsInt W' .u8 A (n + 1) (xs ++ [49]) ∧ Below w0.heap.size w0 W' := by
  obtain ⟨i0, hi0, hz0, hs0, hb0⟩ := info_parts info5
  obtain ⟨h1, h2, h3, cur, fz, hb, h4, h5⟩ := h
  have hnews : ∀ j u, ([.int .u8 49] : List Value)[j]? = some u → W.cell? ((⟨ad, 0, none⟩ : Addr).add j) = some u := fun j u hj => by
    cases j with
    | succ j => simp at hj
    | zero =>
      rw [add_plain]
      simp at hj
      rw [← hj]
      exact had
  have hx := h1.1
  by_cases hroom : n + 1 ≤ cap
  · have hr := run_append_room_cells (P := Tryd.prog) W 39 39 5 i0 Tryd.underlying39 hi0 b 0 n cap ⟨ad, 0, none⟩ 1 1 [.int .u8 49] (by rw [hs0]; rfl) hnews (by simp [Value.oneCell']) hroom
      (fun j hj => by
        have : j = 0 := by simpa using hj
        subst this
        rw [hs0]
        simp only [World.cell?, hb]
        simp
        omega)
      (fun j hj => by
        have : j = 0 := by simpa using hj
        subst this
        rw [hs0]
        simp only [World.frozen?, hb]
        simp
        omega)
    rw [hs0, show 0 + n * 1 = n by omega] at hr
    refine ⟨_, _, _, hr, ?_, below_set hB hge⟩
    refine ⟨by rw [List.length_append, hx]; rfl, by omega, fun _ => ⟨_, rfl, fun j hj => ?_⟩⟩
    rw [add_plain]
    by_cases hjn : j = n
    · subst hjn
      have := World.cell?_setCells_in b [.int .u8 49] j W (fun q hq => by
        have : q = 0 := by simpa using hq
        subst this
        simp only [World.cell?, hb]
        simp
        omega) 0 (by simp)
      rw [Nat.add_zero] at this
      rw [this]
      simp [List.getD_eq_getElem?_getD, ← hx]
    · have := World.cell?_setCells_out b [.int .u8 49] n W ⟨b, j, none⟩ (fun _ _ => by show j < n ∨ n + 1 ≤ j; omega)
      rw [this]
      obtain ⟨ad', e, hc⟩ := h1.2.2 (by omega)
      cases e
      have := hc j (by omega)
      rw [add_plain] at this
      rw [this]
      simp [List.getD_eq_getElem?_getD, List.getElem?_append_left (show j < xs.length by omega)]
  · obtain ⟨v', W', hr, hown, hg⟩ := run_append_arg_grows (P := Tryd.prog) W 39 39 5 i0 (.int .u8 0) 1 1 Tryd.underlying39 hi0 hz0 hs0 hb0 rfl (by omega) ⟨b, 0, none⟩ n cap (xs.map (Value.int .u8)) (by rw [List.length_map, hx]; omega)
      (fun j u hj => by
        rw [List.getElem?_map] at hj
        cases hj2 : xs[j]? with
        | none => rw [hj2] at hj; cases hj
        | some y =>
          rw [hj2] at hj
          have hjl : j < n := by rw [← hx]; exact (List.getElem?_eq_some_iff.1 hj2).1
          obtain ⟨ad', e, hc⟩ := h1.2.2 (by omega)
          cases e
          rw [hc j hjl]
          simp [List.getD_eq_getElem?_getD, hj2] at hj ⊢
          exact hj)
      ⟨ad, 0, none⟩ 1 1 [.int .u8 49] rfl hnews (by omega) (by simp only [maxLen]; omega) (by omega)
    obtain ⟨A, c', rfl⟩ := own_slice hown
    refine ⟨A, c', W', hr, ?_, pw_below_grown hB none hB.size hg (fun k hk => by cases hk)⟩
    have e : xs.map (Value.int .u8) ++ [.int .u8 49] = nums .u8 (xs ++ [49]) := by unfold nums; rw [List.map_append]; rfl
    rw [e] at hown
    exact own_reads' hown
theorem append_ev {P : Program} {ops : Array Oper} {rest : List Oper} {o : Oper} {a : Act} {Q : Exit → Act → World → Prop} {W W' : World} {s x : Operand} {t : TypeId} {v vs vx : Value} (hgd : o.guard = none) (ho : o.op = .call { callee := .builtin .append, args := #[s, x], argTypes := #[t, t] })
    (hs : a.eval s = vs) (hx : a.eval x = vx) (hr : (Builtin.append_ #[t, t] o.type #[vs, vx]).run P W = .ok v W') (h : wpList P ops Q rest (a.put o.dst v) W') : wpList P ops Q (o :: rest) a W := by
  refine Kd.event_run hgd ?_ h
  simp [execOp, ho, resolve, invoke, hs, hx, builtin, hr]
set_option maxHeartbeats 4000000 in
set_option maxRecDepth 100000 in
theorem draw_ends (k : Nat) (A0 : Option Addr) (c0 : Nat) (l0 : List Int) (w : World) (hr0 : Kd.C (Kd.int .u8) w A0 l0.length l0) (hc0 : l0.length ≤ c0)
    (s0 : List Int) (s1 a1 s2 : Int) (es : List (S45)) (s3 : Int) (t : ByteArray) (c1 s4 : Int) (hs : spec_l1Source.f l0 = some (s0, s1)) (ha : spec_l1Next.f s0 s1 2 = some (a1, s2)) (he : spec_l3Draw.f k s0 s2 (wrap64 (1 + a1)) = some (es, s3))
    (ht : spec_l3Text.f k es (wrap64 ((es.length : Int) - 1)) = some t) (hc : spec_l1Next.f s0 s3 6 = some (c1, s4)) (hz : t.size ≤ 1000000) (r : ByteArray) (hr : turnT s0 s4 c1 t = some r) :
    Calls Tryd.prog 22 #[.slice A0 l0.length c0] w fun e w' => e = .returned (.string r) ∧ Below w.heap.size w w' := by
  have kb := fun W => print_bytes (P := Tryd.prog) 9 39 5 Tryd.underlying9 Tryd.underlying39 Tryd.underlying5 t W
  go_enter Tryd.func22, Tryd.ntmps22
  go_wp2_with (go_at_call 43; refine (spec_l1Source.calls A0 c0 l0 s0 s1 w w (Below.refl _ _) hr0 hc0 hs).mono ?_)
  rintro e w1 ⟨g, rfl, hI1, hB1, hb1⟩
  go_wp2_with (go_at_call 45; refine (spec_l1Next.calls g s0 s1 2 a1 s2 w _ hI1 hB1 ha).mono ?_)
  rintro e w2 ⟨rfl, hI2, hB2, hk2⟩
  go_wp2_with (go_at_call 44; refine (spec_l3Draw.calls k g s0 s2 (wrap64 (1 + a1)) es s3 w _ hI2 hB2 he).mono ?_)
  rintro e w3 ⟨v0, rfl, hv0, hI3, hB3, hk3⟩
  obtain ⟨A4, c4, rfl⟩ := Kd.R_slice hv0
  obtain ⟨_, hcl, hC4⟩ := Kd.R_reads' hv0
  go_wp2_with (go_at_call 35; refine (spec_l3Text.calls k A4 c4 es (wrap64 ((es.length : Int) - 1)) t _ hC4 hcl ht).mono ?_)
  rintro e w5 ⟨rfl, hB5⟩
  have hI5 := hI3.below hB5
  have hBw5 := below_then hB3 hB3.size hB5
  have hcv := conv_new w5 t hz
  have hbw : Below w5.heap.size w5 (Lib.bytesWorld w5 5 t) := bytes_below (Below.refl _ _) (Nat.le_refl _) 5 t
  have hI6 := hI5.below hbw
  have hB6 := below_then hBw5 hBw5.size hbw
  go_wp2_with (go_at_call 45; refine (spec_l1Next.calls g s0 s3 6 c1 s4 w _ hI6 hB6 hc).mono ?_)
  rintro e w7 ⟨rfl, hI7, hB7, hk7⟩
  have hgb : w5.heap.size ≠ g := hI5.fresh _ (Nat.le_refl _)
  have hR := hcv.keep hk7 hgb
  have hgeb : w.heap.size ≤ w5.heap.size := hBw5.size
  generalize grownCap w5 t.size 0 5 = cap at *
  generalize w5.heap.size = b at *
  unfold turnT at hr
  by_cases h0 : c1 = 0
  · subst h0
    rw [if_pos rfl] at hr
    obtain ⟨⟨i, s5⟩, hi, hr⟩ := Option.bind_eq_some_iff.mp hr
    obtain ⟨⟨d, s6⟩, hd, hr⟩ := Option.bind_eq_some_iff.mp hr
    have hr : (if 0 ≤ i ∧ i < (t.size : Int) then some (strOfNums ((bytesOf t).set i.toNat (d % 256))) else none) = some r := hr
    by_cases hin : 0 ≤ i ∧ i < (t.size : Int)
    · rw [if_pos hin] at hr
      obtain rfl := Option.some.inj hr
      go_wp2_with (go_at_call 45; refine (spec_l1Next.calls g s0 s4 (t.size : Int) i s5 w _ hI7 hB7 hi).mono ?_)
      rintro e w8 ⟨rfl, hI8, hB8, hk8⟩
      have hR8 := hR.keep hk8 hgb
      have hal : Below w8.heap.size w8 (w8.alloc (.cells #[.int .i64 48, .int .i64 40, .int .i64 118, .int .i64 57, .int .i64 41] 2)) := below_alloc (Below.refl _ _) _
      have hP : ReadsInt (w8.alloc (.cells #[.int .i64 48, .int .i64 40, .int .i64 118, .int .i64 57, .int .i64 41] 2)) .i64 (some ⟨w8.heap.size, 0, none⟩) 5 [48, 40, 118, 57, 41] := by
        refine ⟨rfl, by omega, fun _ => ⟨_, rfl, fun j hj => ?_⟩⟩
        have hh := heap_alloc_new w8 (.cells #[.int .i64 48, .int .i64 40, .int .i64 118, .int .i64 57, .int .i64 41] 2)
        rw [add_plain]
        simp only [World.cell?, hh]
        match j, hj with
        | 0, _ => rfl
        | 1, _ => rfl
        | 2, _ => rfl
        | 3, _ => rfl
        | 4, _ => rfl
      have hlt8 := hI8.fresh _ (Nat.le_refl _)
      go_wp2_with (go_at_call 46; refine (spec_l1Pick.calls g s0 s5 (some ⟨w8.heap.size, 0, none⟩) 5 [48, 40, 118, 57, 41] d s6 w _ (hI8.below hal) (below_then hB8 hB8.size hal) (Kd.C_of_reads (h1 := fun _ => rfl) hP) (Nat.le_refl _) (fun ad e _ => by cases e; exact hlt8) hd).mono ?_)
      rintro e w10 ⟨rfl, hI10, hB10, hk10⟩
      have hR10 := (hR8.keep (KeepBut.of_below hal g none) hgb).keep hk10 hgb
      have p0 := eq_true hin.1
      have p1 := eq_true hin.2
      obtain ⟨ad, ead, hcell⟩ := hR10.1.at_ i hin.1 hin.2
      cases ead
      rw [add_plain] at hcell
      have hfz : w10.frozen? ⟨b, i.toNat, none⟩ = false := by
        obtain ⟨_, hnc, _, cur, fz, hb, h4, h5⟩ := hR10
        simp only [World.frozen?, hb]
        simp
        omega
      have kS := string_of_reads (P := Tryd.prog) (dst := 9) (c := cap) Tryd.underlying39 Tryd.underlying5 Tryd.underlying9 (reads_put hR10.1 i.toNat (by omega) (d % 256))
      go_wp2
      go_ret
      exact ⟨rfl, below_set hB10 hgeb⟩
    · rw [if_neg hin] at hr; cases hr
  have b0 : (c1 == 0) = false := beq_eq_false_iff_ne.2 h0
  rw [if_neg h0] at hr
  by_cases h1 : c1 = 1
  · subst h1
    rw [if_pos rfl] at hr
    obtain ⟨⟨i, s5⟩, hi, hr⟩ := Option.bind_eq_some_iff.mp hr
    have hr : (if 0 ≤ i ∧ i ≤ (t.size : Int) then some (strOfNums ((bytesOf t).take i.toNat)) else none) = some r := hr
    by_cases hin : 0 ≤ i ∧ i ≤ (t.size : Int)
    · rw [if_pos hin] at hr
      obtain rfl := Option.some.inj hr
      have hbl := bytesOf_length t
      obtain ⟨i5, hi5, _, hs5, _⟩ := info_parts info5
      have kT := (print_take_of (P := Tryd.prog) (Value.int .u8) (0 : Int) 39 5 .i64 Tryd.underlying39 hi5 hs5 (some ⟨b, 0, none⟩) cap (bytesOf t) i hin.1 (by omega) (by have := hR.2.1; omega)).1
      rw [List.length_take, hbl, show min i.toNat t.size = i.toNat by omega] at kT
      go_wp2_with (go_at_call 45; refine (spec_l1Next.calls g s0 s4 (t.size : Int) i s5 w _ hI7 hB7 hi).mono ?_)
      rintro e w8 ⟨rfl, hI8, hB8, hk8⟩
      have kS := string_of_reads (P := Tryd.prog) (dst := 9) (c := cap) Tryd.underlying39 Tryd.underlying5 Tryd.underlying9 ((hR.keep hk8 hgb).1.take_ i.toNat (by omega))
      go_wp2
      go_ret
      exact ⟨rfl, hB8⟩
    · rw [if_neg hin] at hr; cases hr
  have b1 : (c1 == 1) = false := beq_eq_false_iff_ne.2 h1
  rw [if_neg h1] at hr
  by_cases h2 : c1 = 2
  · subst h2
    rw [if_pos rfl] at hr
    obtain rfl := Option.some.inj hr
    have hal : Below w7.heap.size w7 (w7.alloc (.cells #[.int .u8 49] 5)) := below_alloc (Below.refl _ _) _
    have hR8 := hR.keep (KeepBut.of_below hal g none) hgb
    obtain ⟨A9, c9, W9, kA, hR9, hB9⟩ := conv_append (ad := w7.heap.size) hR8 hz (by
      have hh := heap_alloc_new w7 (.cells #[.int .u8 49] 5)
      simp only [World.cell?, hh]
      rfl) (below_then hB7 hB7.size hal) hgeb
    have kS := string_of_reads (P := Tryd.prog) (dst := 9) (c := c9) Tryd.underlying39 Tryd.underlying5 Tryd.underlying9 hR9
    go_wp2_with (at_builtin; refine append_ev (s := .tmp 43) (x := .tmp 44) rfl rfl rfl rfl kA ?_)
    go_ret
    exact ⟨rfl, hB9⟩
  have b2 : (c1 == 2) = false := beq_eq_false_iff_ne.2 h2
  rw [if_neg h2] at hr
  obtain rfl := Option.some.inj hr
  have kS := string_of_reads (P := Tryd.prog) (dst := 9) (c := cap) Tryd.underlying39 Tryd.underlying5 Tryd.underlying9 hR.1
  go_wp2
  go_ret
  exact ⟨rfl, hB7⟩
theorem spec_DrawParseExpr.calls (k : Nat) (A0 : Option Addr) (c0 : Nat) (l0 : List Int) (r : ByteArray) (w : World) (hr0 : Kd.C (Kd.int .u8) w A0 l0.length l0) (hc0 : l0.length ≤ c0) (h : spec_DrawParseExpr.f k l0 = some r) :
    Calls Tryd.prog 22 #[.slice A0 l0.length c0] w fun e w' => e = .returned (.string r) ∧ Below w.heap.size w w' := by
  unfold spec_DrawParseExpr.f at h
  obtain ⟨⟨s0, s1⟩, hs, h⟩ := Option.bind_eq_some_iff.mp h
  obtain ⟨⟨a1, s2⟩, ha, h⟩ := Option.bind_eq_some_iff.mp h
  obtain ⟨⟨es, s3⟩, he, h⟩ := Option.bind_eq_some_iff.mp h
  obtain ⟨t, ht, h⟩ := Option.bind_eq_some_iff.mp h
  obtain ⟨⟨c1, s4⟩, hc, h⟩ := Option.bind_eq_some_iff.mp h
  have h : (if t.size ≤ 1000000 then turnT s0 s4 c1 t else none) = some r := h
  by_cases hz : t.size ≤ 1000000
  · rw [if_pos hz] at h
    exact draw_ends k A0 c0 l0 w hr0 hc0 s0 s1 a1 s2 es s3 t c1 s4 hs ha he ht hc hz r h
  · rw [if_neg hz] at h; cases h
end Go.Proofs.YtmppibhdnajjjaaDoor.P
