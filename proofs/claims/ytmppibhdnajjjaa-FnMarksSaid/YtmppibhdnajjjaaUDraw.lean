/- The draws that a law's own inputs are made of: each is a number below its bound. No condition. -/
import Derived.Test.YtmppibhdnajjjaaXPure
import Derived.Test.YtmppibhdnajjjaaC5
namespace Go.Proofs.Ytmppibhdnajjjaa.C
set_option linter.unusedVariables false
set_option linter.unusedSimpArgs false
open Go.RowKit Go.Proofs.Ytmppibhdnajjjaa Go.Proofs.YtmppibhdnajjjaaW.PrintWords Go.Proofs.YtmppibhdnajjjaaW.PrintLast
/-- A code's bytes, as the draws need them. -/
def codeOk (c : List Int) : Prop := c.length ≤ 1048577 ∧ ∀ x ∈ c, 0 ≤ x ∧ x ≤ 255
theorem wf_u8 {x : Int} (h : (Lit.int .u8 x).wf = true) : 0 ≤ x ∧ x ≤ 255 := by
  simp [Lit.wf, IntKind.min, IntKind.max, IntKind.signed, IntKind.bits] at h
  omega
theorem codeOk_of {c : List Int} (h : ¬ (c.length : Int) > 1048576) (hc : ∀ x ∈ c, (Lit.int .u8 x).wf = true) : codeOk c := ⟨by omega, fun x hx => wf_u8 (hc x hx)⟩
theorem rd_byte {c : List Int} (hc : ∀ x ∈ c, 0 ≤ x ∧ x ≤ 255) (i : Int) : 0 ≤ rd c i ∧ rd c i ≤ 255 := by
  unfold rd
  rw [List.getD_eq_getElem?_getD]
  cases h : c[i.toNat]? with
  | none => simp
  | some x => exact hc x (List.mem_of_getElem? h)
theorem tmod_in {x n : Int} (hx : 0 ≤ x) (hn : 0 < n) : 0 ≤ Int.tmod x n ∧ Int.tmod x n < n := by
  rw [Int.tmod_eq_emod_of_nonneg hx]
  exact ⟨Int.emod_nonneg _ (by omega), Int.emod_lt_of_pos _ hn⟩
theorem tdiv_in {x n : Int} (hx : 0 ≤ x) (hn : 0 < n) : 0 ≤ Int.tdiv x n ∧ Int.tdiv x n ≤ x := by
  rw [Int.tdiv_eq_ediv_of_nonneg hx]
  exact ⟨Int.ediv_nonneg hx (by omega), Int.ediv_le_self _ hx⟩
theorem next_ev {c : List Int} (hc : codeOk c) (a : Int) (h0 : 0 ≤ a) (h1 : a ≤ 1000000) (n : Int) (n0 : 1 ≤ n) (n1 : n ≤ 1000000) : ∃ v, spec_l1Next.f c a n = some (v, a + 1) ∧ 0 ≤ v ∧ v < n := by
  obtain ⟨hl, hb⟩ := hc
  unfold spec_l1Next.f
  have e1 : wrap64 (a + 1) = a + 1 := Pl.wrap_in (by omega) (by omega)
  have e2 : wrap64 (a + 1 - 1) = a := by rw [Pl.wrap_in (by omega) (by omega)]; omega
  rw [if_neg (by omega), e1, e2]
  by_cases k0 : (c.length : Int) = 0
  · rw [if_pos k0, if_neg (by omega), Pl.wrap_in (x := a * 7) (by omega) (by omega)]
    exact ⟨_, rfl, tmod_in (by omega) (by omega)⟩
  · obtain ⟨t0, t1⟩ := tmod_in (x := a) (n := (c.length : Int)) h0 (by omega)
    obtain ⟨d0, d1⟩ := tdiv_in (x := a) (n := (c.length : Int)) h0 (by omega)
    obtain ⟨b0, b1⟩ := rd_byte hb (Int.tmod a (c.length : Int))
    rw [if_neg k0, if_pos t0, if_pos t1]
    have w1 : wrap64 (rd c (Int.tmod a (c.length : Int))) = rd c (Int.tmod a (c.length : Int)) := Pl.wrap_in (by omega) (by omega)
    have w2 : wrap64 (Int.tdiv a (c.length : Int)) = Int.tdiv a (c.length : Int) := Pl.wrap_in (by omega) (by omega)
    have w3 : wrap64 (Int.tdiv a (c.length : Int) * 37) = Int.tdiv a (c.length : Int) * 37 := Pl.wrap_in (by omega) (by omega)
    have w4 : wrap64 (rd c (Int.tmod a (c.length : Int)) + Int.tdiv a (c.length : Int) * 37) = rd c (Int.tmod a (c.length : Int)) + Int.tdiv a (c.length : Int) * 37 := Pl.wrap_in (by omega) (by omega)
    by_cases big : n > 200
    · obtain ⟨u0, u1⟩ := tmod_in (x := a + 1) (n := (c.length : Int)) (by omega) (by omega)
      obtain ⟨q0, q1⟩ := rd_byte hb (Int.tmod (a + 1) (c.length : Int))
      rw [if_pos big, e1, if_pos u0, if_pos u1, if_neg (by omega), w1, w2, w3, w4]
      have w5 : wrap64 (rd c (Int.tmod (a + 1) (c.length : Int))) = rd c (Int.tmod (a + 1) (c.length : Int)) := Pl.wrap_in (by omega) (by omega)
      rw [w5]
      refine ⟨_, rfl, tmod_in ?_ (by omega)⟩
      rw [Pl.wrap_in (x := (rd c (Int.tmod a (c.length : Int)) + Int.tdiv a (c.length : Int) * 37) * 251) (by omega) (by omega), Pl.wrap_in (x := rd c (Int.tmod (a + 1) (c.length : Int)) * 13) (by omega) (by omega)]
      rw [Pl.wrap_in (x := (rd c (Int.tmod a (c.length : Int)) + Int.tdiv a (c.length : Int) * 37) * 251 + rd c (Int.tmod (a + 1) (c.length : Int)) * 13) (by omega) (by omega), Pl.wrap_in (by omega) (by omega)]
      omega
    · rw [if_neg big, if_neg (by omega), w1, w2, w3, w4]
      exact ⟨_, rfl, tmod_in (by omega) (by omega)⟩
theorem pick_ev {c : List Int} (hc : codeOk c) (a : Int) (h0 : 0 ≤ a) (h1 : a ≤ 1000000) (l : List Int) (l0 : 1 ≤ l.length) (l1 : l.length ≤ 1000) : ∃ v, spec_l1Pick.f c a l = some (v, a + 1) ∧ v ∈ l := by
  obtain ⟨v, e, v0, v1⟩ := next_ev hc a h0 h1 (l.length : Int) (by omega) (by omega)
  unfold spec_l1Pick.f
  rw [e, Option.bind_some]
  refine ⟨rd l v, by rw [if_pos v0, if_pos v1], ?_⟩
  obtain ⟨i, rfl⟩ : ∃ i : Nat, v = i := ⟨v.toNat, by omega⟩
  rw [Pl.rd_get l i (by omega)]
  exact List.getElem_mem _
end Go.Proofs.Ytmppibhdnajjjaa.C
