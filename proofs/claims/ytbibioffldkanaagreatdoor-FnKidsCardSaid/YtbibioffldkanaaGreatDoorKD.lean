/- The text that the reference draws for ParseTag: what a call of DrawParseTag hands back. No condition beyond what each states. -/
import Derived.Test.YtbibioffldkanaaGreatDoorK20
import Derived.Test.YtbibioffldkanaaGreatDoorK14
namespace Go.Proofs.YtbibioffldkanaaGreatDoor.K
set_option maxHeartbeats 8000000
set_option maxRecDepth 100000
set_option linter.unusedVariables false
set_option linter.unusedSimpArgs false
open Go.RowKit Go.Proofs.YtbibioffldkanaaGreatDoor Go.Proofs.YtbibioffldkanaaGreatDoorW.PrintWords Go.Proofs.YtbibioffldkanaaGreatDoorW.PrintLast Go.Proofs.YtbibioffldkanaaGreatDoorW.PrintMore
attribute [local go_sem] Instr.field asAgg
/-- What the drawn text is turned to: its bytes, and where the draws go on. -/
def CV (s0 : List Int) (s4 : Int) (c : Int) (t : ByteArray) : Option (List Int × Int) :=
  if c = 0 then (iC.f s0 s4 (t.size : Int)).bind fun i => (lh.f s0 i.2 [32, 34, 61, 97, 10]).bind fun b => if 0 ≤ i.1 ∧ i.1 < (t.size : Int) then some ((bytesOf t).set i.1.toNat (b.1 % 256), b.2) else none
  else if c = 1 then (if 2 ≤ t.size then some ((bytesOf t).take (t.size - 2) ++ [62], s4) else none)
  else if c = 2 then (iC.f s0 s4 (t.size : Int)).bind fun i => if 0 ≤ i.1 ∧ i.1 ≤ (t.size : Int) then some ((bytesOf t).take i.1.toNat, i.2) else none
  else if c = 3 then (if 2 ≤ t.size then some ((bytesOf t).take (t.size - 2) ++ [32, 10, 32, 120, 61, 34, 49, 34, 32, 32, 47, 62], s4) else none)
  else some (bytesOf t, s4)
def jL.f (k : Nat) (l0 : List Int) : Option ByteArray :=
  (lZ.f l0).bind fun s => (gu.f k s.1 s.2 (-1)).bind fun e => (jg.f k [(⟨e.1, e.2.1, e.2.2.1⟩ : S33)] 0).bind fun t => (iC.f s.1 e.2.2.2 7).bind fun c => if t.size ≤ 1000000 then (CV s.1 c.2 c.1 t).bind fun u => (lF.f s.1 u.2 40).bind fun b => some (if b.1 = true then strOfNums (List.replicate 601 0) else strOfNums u.1) else none
theorem jL.mono : ∀ a0 k, LeO (jL.f k a0) (jL.f (k + 1) a0) := by
  intro a0 k
  unfold jL.f
  repeat' (with_reducible first | exact gu.mono _ _ _ _ | exact jg.mono _ _ _ | exact LeO.refl _ | exact LeO.none _ | refine LeO.ite ?_ ?_ | refine LeO.bind ?_ (fun _ => ?_))
/-- A row of bytes that a conversion has made, with room to its capacity. -/
def qG (W : World) (b n cap : Nat) (xs : List Int) : Prop :=
  kC W .u8 (some ⟨b, 0, none⟩) n xs ∧ n ≤ cap ∧ cap ≤ maxLen ∧ ∃ cur fz, W.heap[b]? = some (.cells cur 5 (fz, fz + 1)) ∧ cap ≤ cur.size ∧ cur.size ≤ fz
theorem GG (W : World) (t : ByteArray) (hz : t.size ≤ 1000000) : qG (Lib.bytesWorld W 5 t) W.heap.size t.size (grownCap W t.size 0 5) (bytesOf t) := by
  refine ⟨BJ W 5 t jv, grownCap_ge W t.size 0 5, grownCap_le_maxLen W t.size 0 5 (by simp only [maxLen]; omega), _, _, Lib.bytesWorld_at_new W 5 t, ?_, Nat.le_refl _⟩
  have := grownCap_ge W t.size 0 5
  simp only [Lib.bytesCells, Array.size_append, Array.size_map, Array.size_replicate]
  have e : t.data.size = t.size := rfl
  omega
theorem qG.keep {W W' : World} {b n cap g : Nat} {xs : List Int} (h : qG W b n cap xs) (hk : gI W W' g none) (hg : b ≠ g) : qG W' b n cap xs := by
  obtain ⟨h1, h2, h3, cur, fz, hb, h4, h5⟩ := h
  have hlt : b < W.heap.size := (Array.getElem?_eq_some_iff.1 hb).1
  exact ⟨h1.keep hk (fun ad e _ => by cases e; exact hg), h2, h3, cur, fz, (hk.2 b hlt hg lI).trans hb, h4, h5⟩
theorem qG.take {W : World} {b n cap : Nat} {xs : List Int} (h : qG W b n cap xs) (m : Nat) (hm : m ≤ n) : qG W b m cap (xs.take m) := by
  obtain ⟨h1, h2, h3, h4⟩ := h
  exact ⟨h1.nM m hm, jv, h3, h4⟩
theorem Fv {W : World} {b n : Nat} {xs : List Int} (h : kC W .u8 (some ⟨b, 0, none⟩) n xs) (i : Nat) (hi : i < n) (v : Int) : kC (W.setCell ⟨b, i, none⟩ (.int .u8 v)) .u8 (some ⟨b, 0, none⟩) n (xs.set i v) := by
  obtain ⟨h1, h2, h3⟩ := h
  obtain ⟨ad, e, hc⟩ := h3 jv
  cases e
  refine ⟨by rw [List.length_set, h1], h2, fun _ => ⟨_, rfl, fun j hj => ?_⟩⟩
  have hcj := hc j hj
  have hci := hc i hi
  rw [add_plain] at hcj hci ⊢
  by_cases hji : j = i
  · subst hji
    have := World.cell?_setCells_in b [.int .u8 v] j W (fun q hq => by have : q = 0 := by simpa using hq
                                                                       subst this; rw [Nat.add_zero, hci]; rfl) 0 lI
    rw [show W.setCells b j [.int .u8 v] = W.setCell ⟨b, j, none⟩ (.int .u8 v) from rfl, Nat.add_zero] at this
    rw [this]
    simp [List.getD_eq_getElem?_getD, List.getElem?_set, h1, hj]
  · have := World.cell?_setCells_out b [.int .u8 v] i W ⟨b, j, none⟩ (fun _ _ => by show j < i ∨ i + 1 ≤ j; omega)
    rw [show W.setCells b i [.int .u8 v] = W.setCell ⟨b, i, none⟩ (.int .u8 v) from rfl] at this
    rw [this, hcj]
    simp [List.getD_eq_getElem?_getD, List.getElem?_set, Ne.symm hji]
theorem uo (b o : Nat) (vs : List Value) (W : World) : W.grownBy (W.setCells b o vs) (some b) := by
  obtain ⟨h1, h2, h3, h4⟩ := qF b vs o W
  exact ⟨h1, h2, h3, Nat.le_of_eq h4.symm, fun k _ hk => qo vs o k (fun e => hk (by rw [e]))⟩
/-- Behind what was read new bytes were written. -/
theorem yI {W : World} {b n : Nat} {xs ys : List Int} (h : kC W .u8 (some ⟨b, 0, none⟩) n xs) (hn : n + ys.length ≤ 9223372036854775807) (hc : ∀ j, j < ys.length → (W.cell? ⟨b, n + j, none⟩).isSome = true) : kC (W.setCells b n (nums .u8 ys)) .u8 (some ⟨b, 0, none⟩) (n + ys.length) (xs ++ ys) := by
  obtain ⟨h1, h2, h3⟩ := h
  have hl : (nums .u8 ys).length = ys.length := by simp [nums]
  refine ⟨by rw [List.length_append, h1], hn, fun _ => ⟨_, rfl, fun j hj => ?_⟩⟩
  rw [add_plain]
  by_cases hjn : j < n
  · have := World.cell?_setCells_out b (nums .u8 ys) n W ⟨b, j, none⟩ (fun _ _ => Or.inl hjn)
    rw [this]
    obtain ⟨ad', e, hcc⟩ := h3 jv
    cases e
    have := hcc j hjn
    rw [add_plain] at this
    rw [this]
    simp [List.getD_eq_getElem?_getD, List.getElem?_append_left (show j < xs.length by omega)]
  · obtain ⟨q, rfl⟩ : ∃ q, j = n + q := ⟨j - n, jv⟩
    have := World.cell?_setCells_in b (nums .u8 ys) n W (by rw [hl]; exact hc) q jv
    rw [this]
    have e1 : (xs ++ ys)[n + q]? = ys[q]? := by
      rw [List.getElem?_append_right jv, h1, Nat.add_sub_cancel_left]
    rw [List.getD_eq_getElem?_getD, e1, List.getElem?_eq_getElem jv]
    simp [nums]
def Gy (W : World) (b : Nat) (xs : List Int) (r : World → Option Addr → Nat → Nat → Prop) : Prop :=
  ∃ A n c' W', r W' A n c' ∧ kC W' .u8 A n xs ∧ W.grownBy W' (some b) ∧ ∀ ad, A = some ad → ad.block = b ∨ W.heap.size ≤ ad.block
theorem BD {W : World} {b n cap ad : Nat} {xs : List Int} {y : Int} (h : qG W b n cap xs) (hn : n ≤ 1000000) (had : W.cell? ⟨ad, 0, none⟩ = some (.int .u8 y)) :
    Gy W b (xs ++ [y]) fun W' A m c' => m = n + 1 ∧ (Builtin.append_ #[22, 22] 22 #[.slice (some ⟨b, 0, none⟩) n cap, .slice (some ⟨ad, 0, none⟩) 1 1]).run Tryz.prog W = .ok (.slice A (n + 1) c') W' := by
  obtain ⟨i0, ab, ag, aa, hb0⟩ := info_parts info5
  obtain ⟨h1, h2, h3, cur, fz, hb, h4, h5⟩ := h
  have hnews : ∀ j u, ([.int .u8 y] : List Value)[j]? = some u → W.cell? ((⟨ad, 0, none⟩ : Addr).add j) = some u := fun j u hj => by
    cases j with
    | succ j => simp at hj
    | zero =>
      rw [add_plain]
      simp at hj
      rw [← hj]
      exact had
  have hx := h1.1
  by_cases hroom : n + 1 ≤ cap
  · have hcell : ∀ j, j < 1 → (W.cell? ⟨b, n + j, none⟩).isSome = true := fun j hj => by
      simp only [World.cell?, hb]
      simp
      omega
    have hr := run_append_room_cells (P := Tryz.prog) W 22 22 5 i0 Tryz.underlying22 ab b 0 n cap ⟨ad, 0, none⟩ 1 1 [.int .u8 y] (by rw [aa]; rfl) hnews (by simp [Value.oneCell']) hroom
      (fun j hj => by
        rw [aa, Nat.zero_add, Nat.mul_one]
        exact hcell j (by simpa using hj))
      (fun j hj => by
        have : j = 0 := by simpa using hj
        subst this
        rw [aa]
        simp only [World.frozen?, hb]
        simp
        omega)
    rw [aa, show 0 + n * 1 = n by omega] at hr
    exact ⟨_, _, _, _, ⟨rfl, hr⟩, yI (ys := [y]) h1 (by show n + 1 ≤ _; omega) hcell, uo _ _ _ _, fun ad' e => .inl (by cases e; rfl)⟩
  · obtain ⟨v', W', hr, hown, hg⟩ := run_append_arg_grows (P := Tryz.prog) W 22 22 5 i0 (.int .u8 0) 1 1 Tryz.underlying22 ab ag aa hb0 rfl jv ⟨b, 0, none⟩ n cap (xs.map (Value.int .u8)) (by rw [List.length_map, hx]; omega)
      (fun j u hj => by
        rw [List.getElem?_map] at hj
        cases hj2 : xs[j]? with
        | none => rw [hj2] at hj; cases hj
        | some z =>
          rw [hj2] at hj
          have hjl : j < n := by rw [← hx]; exact (List.getElem?_eq_some_iff.1 hj2).1
          obtain ⟨ad', e, hc⟩ := h1.2.2 jv
          cases e
          rw [hc j hjl]
          simp [List.getD_eq_getElem?_getD, hj2] at hj ⊢
          exact hj)
      ⟨ad, 0, none⟩ 1 1 [.int .u8 y] rfl hnews jv (by simp only [maxLen]; omega) jv
    obtain ⟨A, c', rfl⟩ := zY hown
    have e : xs.map (Value.int .u8) ++ [.int .u8 y] = nums .u8 (xs ++ [y]) := by unfold nums; rw [List.map_append]; rfl
    rw [e] at hown
    exact ⟨A, _, c', W', ⟨rfl, hr⟩, D8 hown, ⟨hg.os, hg.tape, hg.output, hg.size, fun k hk _ => hg.block k hk lI⟩, fun ad' e => .inr (own_base hown ad'.block (by rw [e]; simp [Value.ownBlock]))⟩
theorem vS (s : ByteArray) : Lib.strCells s = nums .u8 (bytesOf s) := by
  unfold Lib.strCells nums bytesOf
  rw [List.map_map]
  rfl
theorem vO (w : World) (t u ty e : TypeId) (i : TypeInfo) (ht : Tryz.prog.underlying t = some (.slice e)) (hu : Tryz.prog.underlying u = some .string) (hi : Tryz.prog.info? e = some i) (aq : i.size = 1)
    (b sLen sCap : Nat) (s : ByteArray) (hroom : sLen + s.size ≤ sCap) (hc : ∀ j, j < s.size → (w.cell? ⟨b, sLen + j, none⟩).isSome = true) (hf : ∀ j, j < s.size → w.frozen? ⟨b, sLen + j, none⟩ = false) :
    (Builtin.append_ #[t, u] ty #[.slice (some ⟨b, 0, none⟩) sLen sCap, .string s]).run Tryz.prog w = .ok (.slice (some ⟨b, 0, none⟩) (sLen + s.size) sCap) (w.setCells b sLen (Lib.strCells s)) := by
  have hfc := Lib.run_firstCells_string (P := Tryz.prog) w 1 s
  have hst := run_storeCells_cells (P := Tryz.prog) b sLen (Lib.strCells s) 0 w (by rw [Lib.strCells_length]; simpa using hc) (by rw [Lib.strCells_length]; simpa using hf) (Lib.strCells_oneCell s)
  simp only [Nat.add_zero] at hst
  simp [Builtin.append_, run_underlying ht, run_underlying hu, sizeOf, typeInfo, hi, aq, Builtin.lenOf, hroom, hfc, Addr.add_lit, hst]
theorem Aw {W : World} {b n cap : Nat} {xs : List Int} (s : ByteArray) (h : qG W b n cap xs) (hn : n ≤ 1000000) (hs : s.size ≤ 1000000) :
    Gy W b (xs ++ bytesOf s) fun W' A m c' => m = n + s.size ∧ (Builtin.append_ #[22, 9] 22 #[.slice (some ⟨b, 0, none⟩) n cap, .string s]).run Tryz.prog W = .ok (.slice A (n + s.size) c') W' := by
  obtain ⟨i0, ab, ag, aa, hb0⟩ := info_parts info5
  obtain ⟨h1, h2, h3, cur, fz, hb, h4, h5⟩ := h
  have hx := h1.1
  have hl := bytesOf_length s
  by_cases hroom : n + s.size ≤ cap
  · have hcell : ∀ j, j < s.size → (W.cell? ⟨b, n + j, none⟩).isSome = true := fun j hj => by
      simp only [World.cell?, hb]
      simp
      omega
    have hr := vO W 22 9 22 5 i0 Tryz.underlying22 Tryz.underlying9 ab aa b n cap s hroom hcell
      (fun j hj => by
        simp only [World.frozen?, hb]
        simp
        omega)
    rw [vS] at hr
    have hm := yI (ys := bytesOf s) h1 jv (by rw [hl]; exact hcell)
    rw [hl] at hm
    exact ⟨_, _, _, _, ⟨rfl, hr⟩, hm, uo _ _ _ _, fun ad' e => .inl (by cases e; rfl)⟩
  · have hr := Lib.run_append_grow_string (P := Tryz.prog) W 22 9 22 5 i0 (.int .u8 0) Tryz.underlying22 Tryz.underlying9 ab ag ⟨b, 0, none⟩ n cap (nums .u8 xs) (by unfold nums; rw [List.length_map, hx, aa]; omega)
      (fun j u hj => by
        unfold nums at hj
        rw [List.getElem?_map] at hj
        cases hj2 : xs[j]? with
        | none => rw [hj2] at hj; cases hj
        | some z =>
          rw [hj2] at hj
          have hjl : j < n := by rw [← hx]; exact (List.getElem?_eq_some_iff.1 hj2).1
          obtain ⟨ad', e, hc⟩ := h1.2.2 jv
          cases e
          rw [hc j hjl]
          simp [List.getD_eq_getElem?_getD, hj2] at hj ⊢
          exact hj)
      s jv jv (by rw [hb0]; exact growslice_fits jv jv)
    have hge := grownCap_ge W (n + s.size) cap 5
    refine ⟨_, _, _, _, ⟨rfl, hr⟩, ?_, ⟨rfl, rfl, rfl, lI, fun k hk _ => by first | exact heap_alloc_old W.drew _ k hk | exact heap_alloc_old W.drew _ hk⟩, fun ad' e => .inr (by cases e; exact Nat.le_refl _)⟩
    refine ⟨by rw [List.length_append, hx, hl], jv, fun _ => ⟨_, rfl, fun j hj => ?_⟩⟩
    rw [add_plain]
    have hh := heap_alloc_new W.drew (.cells ((nums .u8 xs).toArray ++ (Lib.strCells s).toArray ++ Builtin.zeroCells (Value.int .u8 0).cells (grownCap W (n + s.size) cap 5 - (n + s.size))) 5)
    have e0 : W.drew.heap.size = W.heap.size := rfl
    rw [e0] at hh
    simp only [World.cell?, hh]
    have e1 : (((nums .u8 xs).toArray ++ (Lib.strCells s).toArray ++ Builtin.zeroCells (Value.int .u8 0).cells (grownCap W (n + s.size) cap 5 - (n + s.size))))[j]? = (nums .u8 (xs ++ bytesOf s))[j]? := by
      rw [Array.getElem?_append_left (by simp [nums, Lib.strCells_length]; omega), vS]
      simp [nums, List.map_append]
    rw [e1]
    unfold nums
    rw [List.getElem?_map, List.getElem?_eq_getElem (by rw [List.length_append]; omega), List.getD_eq_getElem?_getD, List.getElem?_eq_getElem (by rw [List.length_append]; omega)]
    rfl
theorem Ac {P : Program} {ops : Array Oper} {rest : List Oper} {o : Oper} {a : Act} {Q : Exit → Act → World → Prop} {W W' : World} {s x : Operand} {t u : TypeId} {v vs vx : Value} (hgd : o.guard = none) (ho : o.op = .call { callee := .builtin .append, args := #[s, x], argTypes := #[t, u] })
    (hs : a.eval s = vs) (hx : a.eval x = vx) (hr : (Builtin.append_ #[t, u] o.type #[vs, vx]).run P W = .ok v W') (h : wpList P ops Q rest (a.put o.dst v) W') : wpList P ops Q (o :: rest) a W := by
  refine Kd.xx hgd ?_ h
  simp [execOp, ho, resolve, invoke, hs, hx, builtin, hr]
theorem DW (w8 : World) : kC (w8.alloc (.cells #[.int .i64 32, .int .i64 34, .int .i64 61, .int .i64 97, .int .i64 10] 2)) .i64 (some ⟨w8.heap.size, 0, none⟩) 5 [32, 34, 61, 97, 10] := by
  refine ⟨rfl, jv, fun _ => ⟨_, rfl, fun j hj => ?_⟩⟩
  have hh := heap_alloc_new w8 (.cells #[.int .i64 32, .int .i64 34, .int .i64 61, .int .i64 97, .int .i64 10] 2)
  rw [add_plain]
  simp only [World.cell?, hh]
  match j, hj with
  | 0, _ => rfl
  | 1, _ => rfl
  | 2, _ => rfl
  | 3, _ => rfl
  | 4, _ => rfl
theorem grown_below {w0 W W' : World} {b : Nat} (hB : Below w0.heap.size w0 W) (hg : W.grownBy W' (some b)) (hge : w0.heap.size ≤ b) : Below w0.heap.size w0 W' := uK hB (some b) hB.size hg (fun k hk => by injection hk with hk; omega)
theorem DY (k : Nat) (A0 : Option Addr) (c0 : Nat) (l0 : List Int) (w : World) (ah : Kd.C (Kd.int .u8) w A0 l0.length l0) (hc0 : l0.length ≤ c0)
    (s0 : List Int) (s1 : Int) (n1 : ByteArray) (n2 : Int) (n3 : List S38) (s3 : Int) (t : ByteArray) (c1 s4 : Int) (xs : List Int) (s5 : Int) (bb : Bool) (s6 : Int) (hs : lZ.f l0 = some (s0, s1)) (he : gu.f k s0 s1 (-1) = some (n1, n2, n3, s3))
    (ht : jg.f k [(⟨n1, n2, n3⟩ : S33)] 0 = some t) (hc : iC.f s0 s3 7 = some (c1, s4)) (hz : t.size ≤ 1000000) (hr : CV s0 s4 c1 t = some (xs, s5)) (hch : lF.f s0 s5 40 = some (bb, s6)) :
    Calls Tryz.prog 10 #[.slice A0 l0.length c0] w fun e w' => e = .returned (.string (if bb = true then strOfNums (List.replicate 601 0) else strOfNums xs)) ∧ Below w.heap.size w w' := by
  have hu33 := Tryz.underlying33
  have kb := fun W => CQ (P := Tryz.prog) 9 22 5 Tryz.underlying9 Tryz.underlying22 Tryz.underlying5 t W
  go_enter Tryz.func10, Tryz.ntmps10
  go_upto_region 3 with (first
    | (go_at_call 15; refine (lZ.calls A0 c0 l0 s0 s1 w w (Below.refl _ _) ah hc0 hs).mono ?_; rintro e w1 ⟨g, rfl, hI1, hB1, hb1⟩)
    | (go_at_call 27; refine (gu.calls k g s0 s1 (-1) n1 n2 n3 s3 w _ hI1 hB1 he).mono ?_; rintro e w2 ⟨v2, rfl, ai, hI2, hB2, ar⟩; obtain ⟨A2, c2, rfl⟩ := Kd.jc ai)
    | ((with_reducible refine iW (N := 4) rfl ?_); refine jF ?hg (N := 4) ?hd (cs := #[.string (⟨#[]⟩ : ByteArray), .int .i64 0, .slice none 0 0]) (t := 33) ?hr ?_; (case hd => rfl); (case hg => rfl); (case hr => first | (go_simp; done) | (go_simp; rfl)); intro g3 hg3 w3 aj hb3; obtain ⟨y0, y1, y2, fy0, fy1, fy2⟩ := mP aj; have an : w2.heap.size ≤ g3 := (by rw [hg3]; exact Nat.le_refl _); clear hg3))
  have hbw3 := bel3 hb3 an (.string n1) (.int .i64 n2) (.slice A2 n3.length c2)
  have x3 := yj aj (.string n1) (.int .i64 n2) (.slice A2 n3.length c2)
  have ak := Kd.jQ (Kd.jY ai hbw3) hB1.size
  have hI3 := hI2.below hbw3
  have hB3 := pW hB2 hB2.size hbw3
  clear hbw3 ai aj hb3 an ar hI2 hB2 y0 y1 y2 fy0 fy1 fy2
  generalize ((w3.setCell ⟨g3, 0, none⟩ (.string n1)).setCell ⟨g3, 1, none⟩ (.int .i64 n2)).setCell ⟨g3, 2, none⟩ (.slice A2 n3.length c2) = W at x3 ak hI3 hB3 ⊢
  have y0 : W.cell? ⟨g3, 0, none⟩ = some (.string n1) := (fO x3 0).trans rfl
  have fy0 := jT x3 0
  have y1 : W.cell? ⟨g3, 1, none⟩ = some (.int .i64 n2) := (fO x3 1).trans rfl
  have fy1 := jT x3 1
  have y2 : W.cell? ⟨g3, 2, none⟩ = some (.slice A2 n3.length c2) := (fO x3 2).trans rfl
  have fy2 := jT x3 2
  go_upto_region 4 with (first
    | ((with_reducible refine iW (N := 11) rfl ?_); refine Kd.oP k33 w.heap.size 33 ?hg (N := 11) ?hd (xs := [(⟨n1, n2, n3⟩ : S33)]) (inner := [.string n1, .int .i64 n2, .slice A2 n3.length c2]) (ok := fun _ => True) (okp := fun _ => True) ?hr ?hp (fun _ hk => hk) trivial hB3 (fV hB3) lI ?_; (case hd => rfl); (case hg => rfl); (case hr => first | (go_simp; done) | (go_simp; rfl)); (case hp => exact uG rfl (qh _ _ _ (⟨n1, n2, n3⟩ : S33) ak)); intro u w4 hu hb4 hg4 hn4; obtain ⟨Au, cu, rfl⟩ := Kd.jc hu; have hI4 := hI3.grown hg4 lI; obtain ⟨_, hcu, hCu⟩ := Kd.iL hu; clear hg4 hn4)
    | (go_at_call 28; refine (jg.calls k Au cu [(⟨n1, n2, n3⟩ : S33)] 0 t _ hCu hcu ht).mono ?_; rintro e w5 ⟨rfl, hB5⟩))
  have hI5 := hI4.below hB5
  have hBw5 := pW hb4 hb4.size hB5
  have hcv := GG w5 t hz
  have hbw : Below w5.heap.size w5 (Lib.bytesWorld w5 5 t) := CY (Below.refl _ _) (Nat.le_refl _) 5 t
  have hI6 := hI5.below hbw
  have hB6 := pW hBw5 hBw5.size hbw
  go_upto_block 0 with (go_at_call 29; refine (iC.calls g s0 s3 7 c1 s4 w _ hI6 hB6 hc).mono ?_; rintro e w7 ⟨rfl, hI7, hB7, ao⟩)
  have hgb : w5.heap.size ≠ g := hI5.fresh _ (Nat.le_refl _)
  have hR := hcv.keep ao hgb
  have hgeb : w.heap.size ≤ w5.heap.size := hBw5.size
  clear hI1 hB1 hb1 x3 ak hI3 hB3 hu hb4 hI4 hCu hcu hB5 hI5 hBw5 hcv hbw hI6 hB6 ao y0 y1 y2 fy0 fy1 fy2 kb
  generalize grownCap w5 t.size 0 5 = cap at *
  generalize w5.heap.size = b at *
  have hne : some g ≠ some b := fun e => by injection e with e; exact hgb e.symm
  go_cut [5] (fun v5 wc => ∃ (A : Option Addr) (n c : Nat), v5 = .slice A n c ∧ fD (kC wc .u8 A n xs) ∧ fD (∀ ad, A = some ad → 0 < n → ad.block ≠ g) ∧ fD (fK w wc g s0 s5) ∧ fD (Below w.heap.size w wc))
  case first =>
    unfold CV at hr
    by_cases h0 : c1 = 0
    · subst h0
      rw [if_pos rfl] at hr
      obtain ⟨⟨i, s8⟩, hi, hr⟩ := Option.bind_eq_some_iff.mp hr
      obtain ⟨⟨d, s9⟩, hd, hr⟩ := Option.bind_eq_some_iff.mp hr
      replace hr : (if 0 ≤ i ∧ i < (t.size : Int) then some ((bytesOf t).set i.toNat (d % 256), s9) else none) = some (xs, s5) := hr
      by_cases hin : 0 ≤ i ∧ i < (t.size : Int)
      · rw [if_pos hin] at hr
        obtain ⟨rfl, rfl⟩ : (bytesOf t).set i.toNat (d % 256) = xs ∧ s9 = s5 := by simpa using hr
        have hfzz : ∀ {V : World}, qG V b t.size cap (bytesOf t) → V.frozen? ⟨b, i.toNat, none⟩ = false := fun hR10 => by
          obtain ⟨_, hnc, _, cur, fz, hb, h4, h5⟩ := hR10
          simp only [World.frozen?, hb]
          simp
          omega
        have p0 := eq_true hin.1
        have p1 := eq_true hin.2
        go_wp2_with (first
          | (go_at_call 29; refine (iC.calls g s0 s4 (t.size : Int) i s8 w _ hI7 hB7 hi).mono ?_; rintro e w8 ⟨rfl, hI8, hB8, al⟩; have hR8 := hR.keep al hgb; have hal : Below w8.heap.size w8 (w8.alloc (.cells #[.int .i64 32, .int .i64 34, .int .i64 61, .int .i64 97, .int .i64 10] 2)) := gB (Below.refl _ _) _; have hlt8 := hI8.fresh _ (Nat.le_refl _))
          | (go_at_call 30; refine (lh.calls g s0 s8 (some ⟨w8.heap.size, 0, none⟩) 5 [32, 34, 61, 97, 10] d s9 w _ (hI8.below hal) (pW hB8 hB8.size hal) (Kd.yL (h1 := fun _ => rfl) (DW w8)) (Nat.le_refl _) (fun ad e _ => by cases e; exact hlt8) hd).mono ?_; rintro e af ⟨rfl, hI10, hB10, am⟩; have hR10 := (hR8.keep (gI.of_below hal g none) hgb).keep am hgb; obtain ⟨ad, ead, hcell⟩ := hR10.1.at_ i hin.1 hin.2; cases ead; rw [add_plain] at hcell; have hfz := hfzz hR10))
        go_meet
        case rel => exact ⟨some ⟨b, 0, none⟩, t.size, cap, rfl, ⟨Fv hR10.1 i.toNat jv (d % 256)⟩, ⟨fun ad e _ => by cases e; exact hgb⟩, ⟨hI10.grown (uo b i.toNat [.int .u8 (d % 256)] af) hne⟩, ⟨gX hB10 hgeb⟩⟩
      · rw [if_neg hin] at hr; cases hr
    have b0 : (c1 == 0) = false := beq_eq_false_iff_ne.2 h0
    rw [if_neg h0] at hr
    by_cases h1 : c1 = 1
    · subst h1
      rw [if_pos rfl] at hr
      by_cases h2 : 2 ≤ t.size
      · rw [if_pos h2] at hr
        obtain ⟨rfl, rfl⟩ : (bytesOf t).take (t.size - 2) ++ [62] = xs ∧ s4 = s5 := by simpa using hr
        have hbl := bytesOf_length t
        obtain ⟨i5, ac, _, ae, _⟩ := info_parts info5
        have kT := (rX (P := Tryz.prog) (Value.int .u8) (0 : Int) 22 5 .i64 Tryz.underlying22 ac ae (some ⟨b, 0, none⟩) cap (bytesOf t) ((t.size : Int) - 2) jv jv (by have := hR.2.1; omega)).1
        rw [List.length_take, hbl, show min ((t.size : Int) - 2).toNat t.size = t.size - 2 by omega] at kT
        have hal : Below w7.heap.size w7 (w7.alloc (.cells #[.int .u8 62] 5)) := gB (Below.refl _ _) _
        have hI8 := hI7.below hal
        obtain ⟨A9, n9, c9, W9, ⟨rfl, kA⟩, hR9, hg9, hA9⟩ := BD (ad := w7.heap.size) ((hR.take (t.size - 2) jv).keep (gI.of_below hal g none) hgb) jv (by
          have hh := heap_alloc_new w7 (.cells #[.int .u8 62] 5)
          simp only [World.cell?, hh]
          rfl)
        have kw : wrap64 ((t.size : Int) - 2) = (t.size : Int) - 2 := by unfold wrap64; omega
        go_wp2_with (at_builtin; refine Ac (s := .tmp 34) (x := .tmp 35) rfl rfl rfl rfl kA ?_)
        go_meet
        case rel => exact ⟨A9, _, c9, rfl, ⟨hR9⟩, ⟨fun ad e _ => (hA9 ad e).elim (fun h => h ▸ hgb) (fun h => hI8.fresh _ h)⟩, ⟨hI8.grown hg9 hne⟩, ⟨grown_below (pW hB7 hB7.size hal) hg9 hgeb⟩⟩
      · rw [if_neg h2] at hr; cases hr
    have b1 : (c1 == 1) = false := beq_eq_false_iff_ne.2 h1
    rw [if_neg h1] at hr
    by_cases h2 : c1 = 2
    · subst h2
      rw [if_pos rfl] at hr
      obtain ⟨⟨i, s8⟩, hi, hr⟩ := Option.bind_eq_some_iff.mp hr
      replace hr : (if 0 ≤ i ∧ i ≤ (t.size : Int) then some ((bytesOf t).take i.toNat, s8) else none) = some (xs, s5) := hr
      by_cases hin : 0 ≤ i ∧ i ≤ (t.size : Int)
      · rw [if_pos hin] at hr
        obtain ⟨rfl, rfl⟩ : (bytesOf t).take i.toNat = xs ∧ s8 = s5 := by simpa using hr
        have hbl := bytesOf_length t
        obtain ⟨i5, ac, _, ae, _⟩ := info_parts info5
        have kT := (rX (P := Tryz.prog) (Value.int .u8) (0 : Int) 22 5 .i64 Tryz.underlying22 ac ae (some ⟨b, 0, none⟩) cap (bytesOf t) i hin.1 jv (by have := hR.2.1; omega)).1
        rw [List.length_take, hbl, show min i.toNat t.size = i.toNat by omega] at kT
        go_wp2_with (go_at_call 29; refine (iC.calls g s0 s4 (t.size : Int) i s8 w _ hI7 hB7 hi).mono ?_; rintro e w8 ⟨rfl, hI8, hB8, al⟩)
        go_meet
        case rel => exact ⟨some ⟨b, 0, none⟩, i.toNat, cap, rfl, ⟨(hR.keep al hgb).1.nM i.toNat jv⟩, ⟨fun ad e _ => by cases e; exact hgb⟩, ⟨hI8⟩, ⟨hB8⟩⟩
      · rw [if_neg hin] at hr; cases hr
    have b2 : (c1 == 2) = false := beq_eq_false_iff_ne.2 h2
    rw [if_neg h2] at hr
    by_cases h3 : c1 = 3
    · subst h3
      rw [if_pos rfl] at hr
      by_cases h2 : 2 ≤ t.size
      · rw [if_pos h2] at hr
        obtain ⟨rfl, rfl⟩ : (bytesOf t).take (t.size - 2) ++ [32, 10, 32, 120, 61, 34, 49, 34, 32, 32, 47, 62] = xs ∧ s4 = s5 := by simpa using hr
        have hbl := bytesOf_length t
        obtain ⟨i5, ac, _, ae, _⟩ := info_parts info5
        have kT := (rX (P := Tryz.prog) (Value.int .u8) (0 : Int) 22 5 .i64 Tryz.underlying22 ac ae (some ⟨b, 0, none⟩) cap (bytesOf t) ((t.size : Int) - 2) jv jv (by have := hR.2.1; omega)).1
        rw [List.length_take, hbl, show min ((t.size : Int) - 2).toNat t.size = t.size - 2 by omega] at kT
        obtain ⟨A9, n9, c9, W9, ⟨rfl, kA⟩, hR9, hg9, hA9⟩ := Aw (⟨#[32, 10, 32, 120, 61, 34, 49, 34, 32, 32, 47, 62]⟩ : ByteArray) (hR.take (t.size - 2) jv) jv (by show 12 ≤ _; omega)
        have kw : wrap64 ((t.size : Int) - 2) = (t.size : Int) - 2 := by unfold wrap64; omega
        go_wp2_with (at_builtin; refine Ac (s := .tmp 51) (x := .const (.string (⟨#[32, 10, 32, 120, 61, 34, 49, 34, 32, 32, 47, 62]⟩ : ByteArray))) rfl rfl rfl rfl kA ?_)
        go_meet
        case rel => exact ⟨A9, _, c9, rfl, ⟨hR9⟩, ⟨fun ad e _ => (hA9 ad e).elim (fun h => h ▸ hgb) (fun h => hI7.fresh _ h)⟩, ⟨hI7.grown hg9 hne⟩, ⟨grown_below hB7 hg9 hgeb⟩⟩
      · rw [if_neg h2] at hr; cases hr
    have b3 : (c1 == 3) = false := beq_eq_false_iff_ne.2 h3
    rw [if_neg h3] at hr
    obtain ⟨rfl, rfl⟩ : bytesOf t = xs ∧ s4 = s5 := by simpa using hr
    go_wp2
    go_meet
    case rel => exact ⟨some ⟨b, 0, none⟩, t.size, cap, rfl, ⟨hR.1⟩, ⟨fun ad e _ => by cases e; exact hgb⟩, ⟨hI7⟩, ⟨hB7⟩⟩
  case rest =>
    obtain ⟨A, n, c, rfl, ⟨hR⟩, ⟨hf⟩, ⟨hI⟩, ⟨hB⟩⟩ := hcut
    go_wp2_with (go_at_call 31; refine (lF.calls g s0 s5 40 bb s6 w _ hI hB hch).mono ?_)
    rintro e w9 ⟨rfl, hI9, hB9, au⟩
    cases bb with
    | false =>
      have kS := uk (P := Tryz.prog) (dst := 9) (c := c) Tryz.underlying22 Tryz.underlying5 Tryz.underlying9 (hR.keep au hf)
      go_wp2
      go_ret
      exact ⟨rfl, hB9⟩
    | true =>
      go_wp2_with ((with_reducible refine iW (N := 55) rfl ?_); refine Kd.Ei (Kd.int .u8) _ 5 rfl (N := 55) rfl 22 _ _ rfl 601 rfl rfl Tryz.underlying22 (.int .u8 0) 1 info5 rfl iO jv 0 (ok := fun _ => True) (okp := fun _ => True) rfl (fun _ hk => hk) trivial jv jv (Below.refl _ _) (Nat.le_refl _) ?_; intro v af ho hb hg hat; obtain ⟨av, ap, rfl⟩ := Kd.jc ho; have kS : (convert 22 9 (.slice av 601 ap)).run Tryz.prog af = .ok (.string (strOfNums (List.replicate 601 0))) af := uk (P := Tryz.prog) (dst := 9) (c := ap) Tryz.underlying22 Tryz.underlying5 Tryz.underlying9 (Kd.vZ (d := (0 : Int)) (Kd.iL ho).2.2))
      go_ret
      exact ⟨rfl, pW hB9 hB9.size hb⟩
theorem jL.calls (k : Nat) (A0 : Option Addr) (c0 : Nat) (l0 : List Int) (r : ByteArray) (w : World) (ah : Kd.C (Kd.int .u8) w A0 l0.length l0) (hc0 : l0.length ≤ c0) (h : jL.f k l0 = some r) :
    Calls Tryz.prog 10 #[.slice A0 l0.length c0] w fun e w' => e = .returned (.string r) ∧ Below w.heap.size w w' := by
 unfold jL.f at h
 obtain ⟨⟨s0, s1⟩, hs, h⟩ := Option.bind_eq_some_iff.mp h; obtain ⟨⟨n1, n2, n3, s3⟩, he, h⟩ := Option.bind_eq_some_iff.mp h; obtain ⟨t, ht, h⟩ := Option.bind_eq_some_iff.mp h; obtain ⟨⟨c1, s4⟩, hc, h⟩ := Option.bind_eq_some_iff.mp h; by_cases hz : t.size ≤ 1000000
 ·rw [if_pos hz] at h; obtain ⟨⟨xs, s5⟩, hr, h⟩ := Option.bind_eq_some_iff.mp h; obtain ⟨⟨bb, s6⟩, hch, h⟩ := Option.bind_eq_some_iff.mp h; obtain rfl := Option.some.inj h; exact DY k A0 c0 l0 w ah hc0 s0 s1 n1 n2 n3 s3 t c1 s4 xs s5 bb s6 hs he ht hc hz hr hch
 ·rw [if_neg hz] at h; cases h
end Go.Proofs.YtbibioffldkanaaGreatDoor.K
