/- The text of an expression, as the program makes it. No condition. -/
import Derived.Test.YtmppibhdnajjjaaDoorUExpr3
import Derived.Test.YtmppibhdnajjjaaDoorPH
import Derived.Test.YtmppibhdnajjjaaDoorP7
namespace Go.Proofs.YtmppibhdnajjjaaDoor.P
set_option linter.unusedVariables false
set_option linter.unusedSimpArgs false
open Go.RowKit Go.Proofs.YtmppibhdnajjjaaDoor Go.Proofs.YtmppibhdnajjjaaDoorW.PrintWords Go.Proofs.YtmppibhdnajjjaaDoorW.PrintLast
def bs (l : List UInt8) : ByteArray := ⟨l.toArray⟩
theorem bs_data (l : List UInt8) : (bs l).data.toList = l := by simp [bs]
theorem bs_size (l : List UInt8) : (bs l).size = l.length := by rw [← Pl.size_toList, bs_data]
theorem bs_append (l m : List UInt8) : bs l ++ bs m = bs (l ++ m) := by
  have : (bs l ++ bs m).data.toList = (bs (l ++ m)).data.toList := by rw [ByteArray.data_append, bs_data]; simp [bs]
  generalize bs l ++ bs m = a at this
  generalize bs (l ++ m) = b at this
  obtain ⟨⟨x⟩⟩ := a
  obtain ⟨⟨y⟩⟩ := b
  simp at this
  rw [this]
theorem decDigits_le (n : Nat) : (Lib.decDigits n).length ≤ n + 1 := by
  induction n using Nat.strongRecOn with
  | _ n ih =>
    rw [Lib.decDigits]
    by_cases h : n < 10
    · rw [dif_pos h]; simp
    · rw [dif_neg h, List.length_append]
      have := ih (n / 10) (by omega)
      simp
      omega
theorem decDigits_4 (n : Nat) (h : n ≤ 9999) : (Lib.decDigits n).length ≤ 4 := by
  have e1 : ∀ n, n < 10 → (Lib.decDigits n).length ≤ 1 := fun n h => by rw [Lib.decDigits, dif_pos h]; simp
  have e2 : ∀ (k : Nat) (B : Nat), (∀ n, n < B → (Lib.decDigits n).length ≤ k) → ∀ n, n < 10 * B → (Lib.decDigits n).length ≤ k + 1 := by
    intro k B hB n hn
    rw [Lib.decDigits]
    by_cases h : n < 10
    · rw [dif_pos h]; simp
    · rw [dif_neg h, List.length_append]
      have := hB (n / 10) (by omega)
      simp
      omega
  exact e2 3 1000 (e2 2 100 (e2 1 10 e1)) n (by omega)
theorem dig_one (n : Nat) (h : n < 10) : strOfNums [(wrap64 (48 + (n : Int))) % 256] = bs [UInt8.ofNat (48 + n)] := by
  rw [Pl.wrap_in (by omega) (by omega)]
  unfold strOfNums bs
  simp only [List.map_cons, List.map_nil]
  have : ((48 + (n : Int)) % 256).toNat = 48 + n := by omega
  rw [this]
theorem decimal_eq (n : Nat) (h : n ≤ 1000000) : impl_decimal.f (n : Int) = some (bs (Lib.decDigits n)) := by
  first
  | (unfold impl_decimal.f; rw [if_pos ⟨by omega, by omega⟩])
  | (unfold impl_decimal.f strconv_FormatInt_90.f; rw [if_pos ⟨rfl, by omega, by omega⟩, Option.bind_some])
  unfold Lib.itoa bs
  rw [if_neg (by omega), Int.toNat_natCast]
/-- The sign of a kind with two parts. -/
def signB (K : Int) : UInt8 := if K = 3 then 43 else if K = 4 then 45 else if K = 5 then 42 else if K = 6 then 47 else if K = 7 then 60 else if K = 8 then 61 else 38
/-- The text of a node. -/
def txtF (e : List Nd) : Nat → Nat → List UInt8
  | 0, _ => []
  | f + 1, i => if kK e i = 1 then Lib.decDigits (e.getD i z45).f1.toNat else if kK e i = 2 then 118 :: Lib.decDigits (e.getD i z45).f1.toNat
      else if kK e i = 10 then 33 :: txtF e f (kL e i) else 40 :: (txtF e f (kL e i) ++ signB (kK e i) :: (txtF e f (kR e i) ++ [41]))
theorem sign_cut (K : Int) (h : 3 ≤ K ∧ K ≤ 9) : (⟨#[43, 45, 42, 47, 60, 61, 38]⟩ : ByteArray).extract ((wrap64 (K - 3)) : Int).toNat ((wrap64 ((wrap64 (K - 3)) + 1)) : Int).toNat = bs [signB K] := by
  rw [Pl.wrap_in (x := K - 3) (by omega) (by omega), Pl.wrap_in (by omega) (by omega)]
  obtain rfl | rfl | rfl | rfl | rfl | rfl | rfl : K = 3 ∨ K = 4 ∨ K = 5 ∨ K = 6 ∨ K = 7 ∨ K = 8 ∨ K = 9 := by omega
  all_goals decide +kernel
theorem bin_eq (L R : List UInt8) (c : UInt8) : (((bs [40] ++ bs L) ++ bs [c]) ++ bs R) ++ bs [41] = bs (40 :: (L ++ c :: (R ++ [41]))) := by
  rw [bs_append, bs_append, bs_append, bs_append]
  congr 1
  simp
theorem textI_ev (e : List Nd) (hl : e.length ≤ 16) (hf : fineN e) : ∀ f i, i < f → i < e.length → (txtF e f i).length ≤ 5 * Pl.sz (kK e) (kL e) (kR e) i ∧ Ev (fun k => impl_nodeText.f k e (i : Int)) (bs (txtF e f i)) := by
  intro f
  induction f with
  | zero => intro i h; omega
  | succ f ih =>
    intro i hif hi
    have ha := fineN_ahead hf
    have h0 := nodeC_0 (hf i hi)
    obtain ⟨a1, a2⟩ := ha i hi
    have eK := kK_at e i hi
    have eV : e.getD i z45 = e[i] := by rw [List.getD_eq_getElem?_getD, List.getElem?_eq_getElem hi]; rfl
    have hs := Pl.sz_eq ha hi
    have b16 := Pl.sz_le ha i hi
    have p16 : 2 ^ (i + 1) ≤ 2 ^ 16 := Nat.pow_le_pow_right (by omega) (by omega)
    have c16 : (2 : Nat) ^ 16 = 65536 := by decide
    rw [txtF, eV]
    have big : Pl.sz (kK e) (kL e) (kR e) i ≤ 65536 := by omega
    by_cases k1 : kK e i = 1
    · have hv := h0.2.2.2.2 (by rw [← eK]; exact k1)
      obtain ⟨n, hn⟩ : ∃ n : Nat, e[i].f1 = (n : Int) := ⟨e[i].f1.toNat, by omega⟩
      have h4 := decDigits_4 n (by omega)
      rw [if_pos k1, hn, Int.toNat_natCast]
      rw [if_neg (by omega), if_neg (fun h => by have := Pl.two_inner h; omega)] at hs
      refine ⟨by omega, ?_⟩
      refine Ev.step (fun k => by rw [impl_nodeText.f]) ?_
      rw [rd_iNode e i hi, ← eK, hn, decimal_eq n (by omega)]
      exact Pl.ev_ite_pos (by omega) (Pl.ev_ite_pos (by omega) (Pl.ev_ite_pos k1 (Ev.now _)))
    · rw [if_neg k1]
      by_cases k2 : kK e i = 2
      · have hv := h0.2.2.2.1 (by rw [← eK]; exact k2)
        obtain ⟨n, hn⟩ : ∃ n : Nat, e[i].f1 = (n : Int) := ⟨e[i].f1.toNat, by omega⟩
        have h4 := decDigits_4 n (by omega)
        rw [if_pos k2, hn, Int.toNat_natCast]
        rw [if_neg (by omega), if_neg (fun h => by have := Pl.two_inner h; omega)] at hs
        have e2 : (⟨#[118]⟩ : ByteArray) ++ bs (Lib.decDigits n) = bs (118 :: Lib.decDigits n) := bs_append [118] _
        refine ⟨by simp; omega, ?_⟩
        refine Ev.step (fun k => by rw [impl_nodeText.f]) ?_
        rw [rd_iNode e i hi, ← eK, hn, decimal_eq n (by omega)]
        simp only [Option.bind_some]
        rw [e2, bs_size]
        exact Pl.ev_ite_pos (by omega) (Pl.ev_ite_pos (by omega) (Pl.ev_ite_neg k1 (Pl.ev_ite_pos k2 (Pl.ev_ite_pos (by omega) (Ev.now _)))))
      · have hI : 2 < kK e i := by have := h0.1; omega
        have hL := a1 hI
        have eL : e[i].f2 = ((kL e i : Nat) : Int) := by
          rw [kL_at e i hi]; rw [eK] at hI; have := h0.2.1 hI; omega
        obtain ⟨l1, l3⟩ := ih (kL e i) (by omega) (by omega)
        rw [if_neg k2]
        by_cases k10 : kK e i = 10
        · rw [if_pos k10]
          rw [if_pos hI, if_neg (fun h => by have := of_decide_eq_true h; omega)] at hs
          have e2 : (⟨#[33]⟩ : ByteArray) ++ bs (txtF e f (kL e i)) = bs (33 :: txtF e f (kL e i)) := bs_append [33] _
          refine ⟨by simp; omega, ?_⟩
          refine Ev.step (fun k => by rw [impl_nodeText.f]) ?_
          rw [rd_iNode e i hi, ← eK, eL]
          refine Pl.ev_ite_pos (by omega) (Pl.ev_ite_pos (by omega) (Pl.ev_ite_neg k1 (Pl.ev_ite_neg k2 (Pl.ev_ite_pos k10 (Pl.ev_bind' l3 ?_)))))
          rw [e2, bs_size]
          exact Pl.ev_ite_pos (by omega) (Ev.now _)
        · have hle := fineN_le hf i hi
          have hk : 3 ≤ kK e i ∧ kK e i ≤ 9 := by omega
          have hT : Pl.two (kK e i) = true := decide_eq_true hk
          have hR := a2 hT
          have eR : e[i].f3 = ((kR e i : Nat) : Int) := by
            rw [kR_at e i hi]; rw [eK] at hk; have := h0.2.2.1 hk; omega
          obtain ⟨r1, r3⟩ := ih (kR e i) (by omega) (by omega)
          rw [if_neg k10]
          rw [if_pos hI, if_pos hT] at hs
          have e40 : (⟨#[40]⟩ : ByteArray) = bs [40] := rfl
          have e41 : (⟨#[41]⟩ : ByteArray) = bs [41] := rfl
          have w1 : wrap64 (kK e i - 3) = kK e i - 3 := Pl.wrap_in (by omega) (by omega)
          have w2 : wrap64 (kK e i - 3 + 1) = kK e i - 3 + 1 := Pl.wrap_in (by omega) (by omega)
          have sc := sign_cut (kK e i) hk
          rw [w1, w2] at sc
          have s1 : (bs [40] ++ bs (txtF e f (kL e i))).size = 1 + (txtF e f (kL e i)).length := by rw [bs_append, bs_size]; simp; omega
          have s2 : ((bs [40] ++ bs (txtF e f (kL e i))) ++ bs [signB (kK e i)]).size = 2 + (txtF e f (kL e i)).length := by rw [bs_append, bs_append, bs_size]; simp; omega
          have s3 : (((bs [40] ++ bs (txtF e f (kL e i))) ++ bs [signB (kK e i)]) ++ bs (txtF e f (kR e i))).size = 2 + (txtF e f (kL e i)).length + (txtF e f (kR e i)).length := by rw [bs_append, bs_append, bs_append, bs_size]; simp; omega
          refine ⟨by simp; omega, ?_⟩
          refine Ev.step (fun k => by rw [impl_nodeText.f]) ?_
          rw [rd_iNode e i hi, ← eK, eL, eR, w1, w2, sc, e40, e41]
          refine Pl.ev_ite_pos (by omega) (Pl.ev_ite_pos (by omega) (Pl.ev_ite_neg k1 (Pl.ev_ite_neg k2 (Pl.ev_ite_neg k10 (Pl.ev_bind' l3 ?_)))))
          rw [s1, bs_size, bs_size]
          refine Pl.ev_ite_pos (by omega) (Pl.ev_ite_pos (by omega) (Pl.ev_ite_pos (by omega) (Pl.ev_ite_pos (by omega) (Pl.ev_ite_pos (by simp; omega) (Pl.ev_bind' r3 ?_)))))
          rw [s2, s3, bs_size, bin_eq]
          exact Pl.ev_ite_pos (by omega) (Pl.ev_ite_pos (by omega) (Ev.now _))
theorem exprC_len {e : List Nd} (h : exprC e = 0) : (1 ≤ e.length ∧ e.length ≤ 16) ∧ fineN e := by
  unfold exprC at h
  by_cases hl : 1 ≤ e.length ∧ e.length ≤ 16
  · rw [if_pos hl] at h
    by_cases hn : nodesC 0 e = 0
    · exact ⟨hl, (nodesC_fine e).1 hn⟩
    · rw [if_neg hn] at h; exact absurd h hn
  · rw [if_neg hl] at h; exact absurd h (by omega)
/-- The text of an expression. -/
def textE (e : List Nd) : List UInt8 := txtF e e.length (e.length - 1)
theorem implText_ev {e : List Nd} (h1 : 1 ≤ e.length) (hl : e.length ≤ 16) (hf : fineN e) : Ev (fun k => impl_exprText.f k e) (bs (textE e)) := by
  unfold impl_exprText.f
  obtain ⟨_, t⟩ := textI_ev e hl hf e.length (e.length - 1) (by omega) (by omega)
  have ew : wrap64 ((e.length : Int) - 1) = ((e.length - 1 : Nat) : Int) := by rw [Pl.wrap_in (by omega) (by omega)]; omega
  rw [ew]
  exact Pl.ev_ite_neg (by omega) (Pl.ev_bind' t (Ev.now _))
end Go.Proofs.YtmppibhdnajjjaaDoor.P
