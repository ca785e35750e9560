/- Lemmas and contracts, part 2: joined texts; no condition of their own. -/
import Derived.Test.YtgecikpkjfomiaaGreatDoorJB1
import Derived.WalkMore
import Derived.Deep.CutBlock
import Derived.Laws.OwnMore
import Derived.Laws.ResultCell
import Derived.Test.YtgecikpkjfomiaaGreatDoorShelf
import Derived.Sort.OwnSorted
import Derived.Lib.AppendZeros
import Derived.Deep.RegionHeld3
/- Numbers of unlike lengths: what is read. -/
namespace Go.Stk
open Go Go.RowKit Go.Proofs

section
variable {w : World}

/-- A byte of a slice: where it lies. -/
theorem Byt.at_ {v : Value} {l : List UInt8} (h : Byt w v l) {i : Nat} {c : UInt8} (hi : l[i]? = some c) : ∃ b o k, v = .slice (some ⟨b, o, none⟩) l.length k ∧ w.cell? ⟨b, o + i, none⟩ = some (.int .u8 (c.toNat : Int)) ∧ i < l.length := by
  have hl := (List.getElem?_eq_some_iff.1 hi).1
  rcases h.2 with ⟨h1, _⟩ | ⟨b, o, cap, cur, fr, rfl, hb, h1, h2, h3, h4⟩
  · omega
  · exact ⟨b, o, cap, rfl, by rw [cell_of hb, h4 i _ (byV_get hi)], hl⟩

theorem shl_bits (v c i : Nat) (hv : v < 128 ^ i) (hc : c < 128) (hi : i ≤ 8 ∨ (i = 9 ∧ c ≤ 1)) : bits .or .u64 (v : Int) (((c * 128 ^ i : Nat) : Int)) = ((v + c * 128 ^ i : Nat) : Int) := by
  have h1 : c * 128 ^ i < 18446744073709551616 := by
    rcases hi with hi | ⟨rfl, hi⟩
    · have hp : 128 ^ i ≤ 128 ^ 8 := Nat.pow_le_pow_right (by omega) hi
      have h2 : c * 128 ^ i ≤ 127 * 128 ^ i := Nat.mul_le_mul_right _ (by omega)
      omega
    · have h2 : c * 128 ^ 9 ≤ 1 * 128 ^ 9 := Nat.mul_le_mul_right _ hi
      omega
  have hp : 128 ^ i ≤ 128 ^ 9 := Nat.pow_le_pow_right (by omega) (by omega)
  rw [or_u64 _ _ (by omega) h1]
  congr 1
  have e : 128 ^ i = 2 ^ (7 * i) := by rw [Nat.pow_mul]
  rw [e] at hv ⊢
  rw [Nat.or_comm, Nat.mul_comm c, ← Nat.two_pow_add_eq_or_of_lt hv, Nat.add_comm]

def RetGet (w : World) (r : Nat × Int × Int) (e : Ending) (w' : World) : Prop := e = .returned (.tuple #[.int .u64 (r.1 : Int), .int .i64 r.2.1, .int .i64 r.2.2]) ∧ w = w'

set_option maxRecDepth 100000 in
set_option maxHeartbeats 3200000 in
theorem lebGet_in {v : Value} {l : List UInt8} (h : Byt w v l) (hl : l.length ≤ 70368744177664) {p : Nat} (hp : p ≤ l.length) :
    Calls Tryz.prog 60 #[v, .int .i64 (p : Int)] w (RetGet w (lebGet l p)) := by
  have hdrop : ∀ i, (l.drop p)[i]? = l[p + i]? := fun i => List.getElem?_drop
  have hres : (lebG (l.drop p) = (0, 0, 4) → lebGet l p = (0, 0, 4)) ∧ (lebG (l.drop p) = (0, 0, 5) → lebGet l p = (0, 0, 5)) ∧ (∀ x n, lebG (l.drop p) = (x, n, 0) → lebGet l p = (x, (p : Int) + n, 0)) := by
    unfold lebGet
    rw [if_neg (by omega)]
    simp only [Int.toNat_natCast]
    exact ⟨fun e => by rw [e]; simp, fun e => by rw [e]; simp, fun x n e => by rw [e]; simp⟩
  generalize lebGet l p = R at *
  obtain ⟨a, k, rfl⟩ := h.len
  generalize hs : l.drop p = s at *
  generalize hL : l.length = L at *
  have hnl : ¬ (L < p) := by omega
  go_enter Tryz.func60, Tryz.ntmps60
  go_wp2
  go_step3
  go_wp2
  go_step3
  go_wp2
  go_loopg [4, 7, 8] 10 (fun m x y _z wr => ∃ i n, y = .int .i64 ((i : Nat) : Int) ∧ x = .int .u64 ((n : Nat) : Int) ∧ m = 10 - i ∧ i ≤ 10 ∧ w = wr ∧ (∀ j, j < i → ∃ c, s[j]? = some c ∧ 128 ≤ c.toNat) ∧ (i ≤ 9 → n = valL (s.take i)))
  case atStart => exact ⟨0, 0, rfl, rfl, rfl, by omega, rfl, fun j hj => by omega, fun _ => rfl⟩
  case round =>
    obtain ⟨i, n, rfl, rfl, hm, hi, rfl, hpre, hv⟩ := hrel
    by_cases hi9 : i = 10
    · subst hi9
      obtain ⟨c, hc, hc8⟩ := hpre 9 (by omega)
      have hf := lebG_form (i := 9) (by omega) (fun j hj => hpre j (by omega)) hc (.inl rfl) (.inl ⟨rfl, by omega⟩)
      have hR := hres.2.1 hf
      clear hres
      subst hR
      clear hf hpre hv h hs hdrop hc
      go_wp2
      rw [Exit.noGoto_ret]
      go_ret3
      exact ⟨rfl, rfl⟩
    · have hlen := take_len hpre
      cases hc : s[i]? with
      | none =>
        have hpi : p + i = L := by
          rw [hdrop i] at hc
          have h1 := List.getElem?_eq_none_iff.1 hc
          have h2 : i ≤ s.length := by rw [List.length_take] at hlen; omega
          rw [← hs, List.length_drop] at h2
          omega
        have hf := lebG_short (by omega) hpre hc
        have hR := hres.1 hf
        clear hres
        subst hR
        have hpz : IntKind.i64.wrap ((p : Int) + (i : Int)) = (L : Int) := by rw [IntWalk.i64_in _ (by omega)]; omega
        clear hf hpre hv h hs hdrop hc hlen
        have hi10 : (i : Int) < 10 := by omega
        go_wp2
        rw [Exit.noGoto_ret]
        go_ret3
        exact ⟨rfl, rfl⟩
      | some c =>
        have hcl : l[p + i]? = some c := by rw [← hdrop i]; exact hc
        obtain ⟨b, o, k', he, hcell, hlt⟩ := h.at_ hcl
        injection he with e1 e2 e3
        subst e1
        subst e3
        clear e2
        have hpi : (p : Int) + (i : Int) ≠ (L : Int) := by omega
        have hpz : IntKind.i64.wrap ((p : Int) + (i : Int)) = ((p + i : Nat) : Int) := by rw [IntWalk.i64_in _ (by omega)]; omega
        have hi10 : (i : Int) < 10 := by omega
        skip
        have hcw := c.toNat_lt
        have hval := valL_lt (s.take i)
        rw [hlen] at hval
        have hvi := hv (by omega)
        subst hvi
        have h127 : bits .and .u8 (c.toNat : Int) 127 = ((c.toNat % 128 : Nat) : Int) := by
          rw [show (127 : Int) = ((127 : Nat) : Int) from rfl, and_u8 _ _ hcw (by omega), and_127_fin ⟨c.toNat, hcw⟩]
        have hbnn := bits_lo_u64 .or (valL (s.take i) : Int) (IntKind.u64.wrap ((c.toNat : Int) % 128 * 2 ^ (7 * i)))
        obtain ⟨N2, hN2⟩ : ∃ N2 : Nat, bits .or .u64 (valL (s.take i) : Int) (IntKind.u64.wrap ((c.toNat : Int) % 128 * 2 ^ (7 * i))) = (N2 : Int) := ⟨_, (Int.toNat_of_nonneg hbnn).symm⟩
        have hN2v : (i ≤ 8 ∨ (i = 9 ∧ c.toNat % 128 ≤ 1)) → N2 = valL (s.take (i + 1)) := by
          intro h8
          have e1 := shl_bits (valL (s.take i)) (c.toNat % 128) i hval (by omega) h8
          have e2 : valL (s.take (i + 1)) = valL (s.take i) + c.toNat % 128 * 128 ^ i := by rw [take_succ_get hc, valL_snoc, hlen]
          have e3 : IntKind.u64.wrap ((c.toNat : Int) % 128 * 2 ^ (7 * i)) = ((c.toNat % 128 * 128 ^ i : Nat) : Int) := by
            have e4 : ((c.toNat : Int) % 128 * 2 ^ (7 * i)) = ((c.toNat % 128 * 128 ^ i : Nat) : Int) := by
              have e5 : (2 : Int) ^ (7 * i) = ((128 ^ i : Nat) : Int) := by rw [Int.natCast_pow, Int.pow_mul]; rfl
              rw [e5, Int.natCast_mul]; rfl
            rw [e4, IntKind.wrap_u64]
            have h1 : c.toNat % 128 * 128 ^ i < 18446744073709551616 := by
              rcases h8 with hi8 | ⟨rfl, hi8⟩
              · have hp : 128 ^ i ≤ 128 ^ 8 := Nat.pow_le_pow_right (by omega) hi8
                have h2 : c.toNat % 128 * 128 ^ i ≤ 127 * 128 ^ i := Nat.mul_le_mul_right _ (by omega)
                omega
              · have h2 : c.toNat % 128 * 128 ^ 9 ≤ 1 * 128 ^ 9 := Nat.mul_le_mul_right _ hi8
                omega
            omega
          rw [e3, e1] at hN2
          rw [e2]
          omega
        clear hbnn hval
        by_cases h8 : c.toNat < 128
        · have hform := lebG_form (by omega) hpre hc (.inr h8)
          have hok := lebG_ok (by omega) hpre hc (.inr h8)
          generalize hC : c.toNat = C at *
          by_cases h9 : i = 9
          · subst h9
            by_cases hc1 : 1 < C
            · have hR := hres.2.1 (hform (.inl ⟨rfl, hc1⟩))
              clear hres hform hok
              subst hR
              clear hpre hv h hs hdrop hc hcl hN2v hN2
              go_wp2
              all_goals first
                | (exfalso; omega)
                | (try rw [Exit.noGoto_ret]
                   go_ret3
                   exact ⟨rfl, rfl⟩)
            · by_cases hc0 : C = 0
              · have hR := hres.2.1 (hform (.inr ⟨by omega, hc0⟩))
                clear hres hform hok
                subst hR
                clear hpre hv h hs hdrop hc hcl hN2v hN2
                go_wp2
                all_goals first
                  | (exfalso; omega)
                  | (try rw [Exit.noGoto_ret]
                     go_ret3
                     exact ⟨rfl, rfl⟩)
              · have hR := hres.2.2 _ _ (hok (by omega))
                rw [← hN2v (.inr ⟨rfl, by omega⟩)] at hR
                rw [show (C : Int) % 128 * 2 ^ (7 * 9) = (C : Int) % 128 * 9223372036854775808 from rfl, IntKind.wrap_u64, Int.emod_eq_of_lt (by omega) (by omega)] at hN2
                generalize hX : (p : Int) + ((9 + 1 : Nat) : Int) = X at hR
                have hX2 : (p : Int) + 9 + 1 = X := by omega
                have hz : ((C : Int) == 0) = false := by simpa using hc0
                clear hres hform hok hX
                subst hR
                clear hpre hv h hs hdrop hc hcl hN2v
                go_wp2
                all_goals first
                  | (exfalso; omega)
                  | (try rw [Exit.noGoto_ret]
                     go_ret3
                     exact ⟨rfl, rfl⟩)
          · by_cases h0 : 0 < i
            · by_cases hc0 : C = 0
              · have hR := hres.2.1 (hform (.inr ⟨by omega, hc0⟩))
                clear hres hform hok
                subst hR
                clear hpre hv h hs hdrop hc hcl hN2v hN2
                go_wp2
                all_goals first
                  | (exfalso; omega)
                  | (try rw [Exit.noGoto_ret]
                     go_ret3
                     exact ⟨rfl, rfl⟩)
              · have hR := hres.2.2 _ _ (hok (by omega))
                rw [← hN2v (.inl (by omega))] at hR
                generalize hX : (p : Int) + ((i + 1 : Nat) : Int) = X at hR
                have hX2 : (p : Int) + (i : Int) + 1 = X := by omega
                have hz : ((C : Int) == 0) = false := by simpa using hc0
                have h9z : ((i : Int) == 9) = false := by simp; omega
                clear hres hform hok hX
                subst hR
                clear hpre hv h hs hdrop hc hcl hN2v
                go_wp2
                all_goals first
                  | (exfalso; omega)
                  | (try rw [Exit.noGoto_ret]
                     go_ret3
                     exact ⟨rfl, rfl⟩)
            · have hR := hres.2.2 _ _ (hok (by omega))
              rw [← hN2v (.inl (by omega))] at hR
              generalize hX : (p : Int) + ((i + 1 : Nat) : Int) = X at hR
              have hX2 : (p : Int) + (i : Int) + 1 = X := by omega
              have hz : ¬ ((0 : Int) < (i : Int)) := by omega
              have h9z : ((i : Int) == 9) = false := by simp; omega
              clear hres hform hok hX
              subst hR
              clear hpre hv h hs hdrop hc hcl hN2v
              go_wp2
              all_goals first
                | (exfalso; omega)
                | (try rw [Exit.noGoto_ret]
                   go_ret3
                   exact ⟨rfl, rfl⟩)
        · have hpre2 : ∀ j, j < i + 1 → ∃ c, s[j]? = some c ∧ 128 ≤ c.toNat := by
            intro j hj
            by_cases e : j = i
            · subst e; exact ⟨c, hc, by omega⟩
            · exact hpre j (by omega)
          have HR := hid (show ∃ i' n', Value.int .i64 ((i : Int) + 1) = .int .i64 ((i' : Nat) : Int) ∧ Value.int .u64 (N2 : Int) = .int .u64 ((n' : Nat) : Int) ∧ 10 - (i + 1) = 10 - i' ∧ i' ≤ 10 ∧ w = w ∧ (∀ j, j < i' → ∃ c, s[j]? = some c ∧ 128 ≤ c.toNat) ∧ (i' ≤ 9 → n' = valL (s.take i')) from ⟨i + 1, N2, rfl, rfl, rfl, by omega, rfl, hpre2, fun h => hN2v (.inl (by omega))⟩)
          have hmm : 10 - (i + 1) < 10 - i := by omega
          generalize c.toNat = C at *
          clear hpre hpre2 hv h hs hdrop hc hcl hN2v hres
          go_wp2
          go_roundg (10 - (i + 1))
          case measure => exact hmm
          case rel =>
            obtain ⟨i', n', q1, q2, q3, q4, _, q5, q6⟩ := HR.out
            exact ⟨i', n', q1, q2, q3, q4, rfl, q5, q6⟩

set_option maxRecDepth 100000 in
set_option maxHeartbeats 1600000 in
theorem lebGet_any {v : Value} {l : List UInt8} (h : Byt w v l) (hl : l.length ≤ 70368744177664) (at_ : Int) :
    Calls Tryz.prog 60 #[v, .int .i64 at_] w (RetGet w (lebGet l at_)) := by
  by_cases ha : at_ < 0 ∨ (l.length : Int) < at_
  · have e : lebGet l at_ = (0, 0, 2) := by unfold lebGet; rw [if_pos ha]
    rw [e]
    obtain ⟨a, k, rfl⟩ := h.len
    clear h e
    generalize l.length = L at *
    rcases ha with ha | ha
    all_goals
      go_enter Tryz.func60, Tryz.ntmps60
      go_wp2
      go_step3
      go_wp2
      all_goals first
        | (exfalso; omega)
        | (try rw [Exit.noGoto_ret]
           go_ret3
           exact ⟨rfl, rfl⟩)
  · obtain ⟨p, rfl⟩ : ∃ p : Nat, at_ = p := ⟨at_.toNat, by omega⟩
    exact lebGet_in h hl (by omega)

end
end Go.Stk

/- Numbers of unlike lengths: what the document's way reads. -/
namespace Go.Stk
open Go Go.RowKit Go.Proofs

theorem valL_drop_le : ∀ (j : Nat) (l : List UInt8), valL (l.drop j) ≤ valL l
  | 0, l => by simp
  | j + 1, [] => by simp
  | j + 1, x :: r => by
    have := valL_drop_le j r
    simp only [List.drop_succ_cons, valL]
    omega

section
variable {w : World}

set_option maxRecDepth 100000 in
set_option maxHeartbeats 3200000 in
theorem refGet_in {v : Value} {l : List UInt8} (h : Byt w v l) (hl : l.length ≤ 70368744177664) {p : Nat} (hp : p ≤ l.length) :
    Calls Tryz.prog 62 #[v, .int .i64 (p : Int)] w (RetGet w (lebGet l p)) := by
  have hdrop : ∀ i, (l.drop p)[i]? = l[p + i]? := fun i => List.getElem?_drop
  have hres : (lebG (l.drop p) = (0, 0, 4) → lebGet l p = (0, 0, 4)) ∧ (lebG (l.drop p) = (0, 0, 5) → lebGet l p = (0, 0, 5)) ∧ (∀ x n, lebG (l.drop p) = (x, n, 0) → lebGet l p = (x, (p : Int) + n, 0)) := by
    unfold lebGet
    rw [if_neg (by omega)]
    simp only [Int.toNat_natCast]
    exact ⟨fun e => by rw [e]; simp, fun e => by rw [e]; simp, fun x n e => by rw [e]; simp⟩
  generalize lebGet l p = R at *
  obtain ⟨a, k, rfl⟩ := h.len
  generalize hs : l.drop p = s at *
  generalize hL : l.length = L at *
  have hnl : ¬ (L < p) := by omega
  go_enter Tryz.func62, Tryz.ntmps62
  go_upto_block 0 with fail
  go_cut [7] (fun y wx => ∃ i, y = .int .i64 ((i : Nat) : Int) ∧ i ≤ 9 ∧ p + i ≤ L ∧ w = wx ∧ (∀ j, j < i → ∃ c, s[j]? = some c ∧ 128 ≤ c.toNat) ∧ (i = 9 ∨ ∀ c, s[i]? = some c → c.toNat < 128))
  case first =>
    go_wp2_with fail
    go_loopg [7] 9 (fun m y wr => ∃ i, y = .int .i64 ((i : Nat) : Int) ∧ m = 9 - i ∧ i ≤ 9 ∧ p + i ≤ L ∧ w = wr ∧ (∀ j, j < i → ∃ c, s[j]? = some c ∧ 128 ≤ c.toNat))
    case atStart => exact ⟨0, rfl, rfl, by omega, by omega, rfl, fun j hj => by omega⟩
    case round =>
      obtain ⟨i, rfl, hm, hi, hpl, rfl, hpre⟩ := hrel
      have HP := hid hpre
      by_cases hi9 : i = 9
      · have HF := hid hi9
        have hlt : ¬ ((i : Int) < 9) := by omega
        clear h hs hdrop hpre hi9 hres
        go_wp2_with fail
        all_goals
          go_meet
          exact ⟨i, rfl, hi, hpl, rfl, HP.out, .inl HF.out⟩
      · have hlt : (i : Int) < 9 := by omega
        have hpz : IntKind.i64.wrap ((p : Int) + (i : Int)) = ((p + i : Nat) : Int) := by rw [IntWalk.i64_in _ (by omega)]; omega
        cases hc : s[i]? with
        | none =>
          have hge : ¬ ((p : Int) + (i : Int) < (L : Int)) := by
            rw [hdrop i] at hc
            have := List.getElem?_eq_none_iff.1 hc
            omega
          have HC := hid hc
          clear h hs hdrop hpre hi9 hres hc
          go_wp2_with fail
          all_goals
            go_meet
            exact ⟨i, rfl, hi, hpl, rfl, HP.out, .inr (fun c hc => by rw [HC.out] at hc; cases hc)⟩
        | some c =>
          have hcl : l[p + i]? = some c := by rw [← hdrop i]; exact hc
          obtain ⟨b, o, k', he, hcell, hlt2⟩ := h.at_ hcl
          injection he with e1 e2 e3
          subst e1
          subst e3
          clear e2
          have HC := hid hc
          have hcw := c.toNat_lt
          have hlt3 : (p : Int) + (i : Int) < (L : Int) := by omega
          by_cases h8 : 128 ≤ c.toNat
          · have hpre2 : ∀ j, j < i + 1 → ∃ c, s[j]? = some c ∧ 128 ≤ c.toNat := by
              intro j hj
              by_cases e : j = i
              · subst e; exact ⟨c, hc, by omega⟩
              · exact hpre j (by omega)
            have HP2 := hid hpre2
            have h8i : (128 : Int) ≤ (c.toNat : Int) := by omega
            have hmm : 9 - (i + 1) < gk := by omega
            have HL := hid (show p + (i + 1) ≤ L by omega)
            have HI := hid (show i + 1 ≤ 9 by omega)
            generalize c.toNat = C at *
            clear h hs hdrop hpre hi9 hres hpre2 hc hcl
            go_wp2_with fail
            go_roundg (9 - (i + 1))
            case measure => exact hmm
            case rel => exact ⟨i + 1, rfl, rfl, HI.out, HL.out, rfl, HP2.out⟩
          · have h8i : ¬ (128 : Int) ≤ (c.toNat : Int) := by omega
            have HN := hid h8
            generalize hC : c.toNat = C at *
            have HCC := hid hC
            clear h hs hdrop hpre hi9 hres hc hcl h8
            go_wp2_with fail
            all_goals
              go_meet
              exact ⟨i, rfl, hi, hpl, rfl, HP.out, .inr (fun c' hc' => by rw [HC.out] at hc'; injection hc' with e; rw [← e, HCC.out]; have := HN.out; omega)⟩
  case rest =>
    obtain ⟨i, rfl, hi, hpl, rfl, hpre, hend⟩ := hcut
    have HB := hid h
    have HD := hid hdrop
    have hpz : IntKind.i64.wrap ((p : Int) + (i : Int)) = ((p + i : Nat) : Int) := by rw [IntWalk.i64_in _ (by omega)]; omega
    cases hc : s[i]? with
    | none =>
      have hge : (p : Int) + (i : Int) = (L : Int) := by
        rw [hdrop i] at hc
        have := List.getElem?_eq_none_iff.1 hc
        omega
      have hgez : ((p : Int) + (i : Int) == (L : Int)) = true := by simpa using hge
      have hR := hres.1 (lebG_short hi hpre hc)
      clear hres
      subst hR
      clear hpre hend hc h hs hdrop
      go_wp2
      all_goals first
        | (exfalso; omega)
        | (go_ret3
           exact ⟨rfl, rfl⟩)
    | some c =>
      have hcl : l[p + i]? = some c := by rw [← hdrop i]; exact hc
      obtain ⟨b, o, k', he, hcell, hlt2⟩ := h.at_ hcl
      injection he with e1 e2 e3
      subst e1
      subst e3
      clear e2
      have HC := hid hc
      have hcw := c.toNat_lt
      have hnez : ((p : Int) + (i : Int) == (L : Int)) = false := by simp; omega
      have hend2 : i = 9 ∨ c.toNat < 128 := hend.imp id (fun h => h c hc)
      by_cases hA : i = 9 ∧ 1 < c.toNat
      · have hR := hres.2.1 (lebG_form hi hpre hc hend2 (.inl hA))
        obtain ⟨hA1, hA2⟩ := hA
        have hA3 : ((i : Int) == 9) = true := by simp; omega
        have hA4 : (1 : Int) < (c.toNat : Int) := by omega
        clear hres
        subst hR
        clear hpre hend hend2 hc h hs hdrop hA1 hA2
        generalize c.toNat = C at *
        go_wp2
        all_goals first
          | (exfalso; omega)
          | (go_ret3
             exact ⟨rfl, rfl⟩)
      · by_cases hB : 0 < i ∧ c.toNat = 0
        · have hR := hres.2.1 (lebG_form hi hpre hc hend2 (.inr hB))
          obtain ⟨hB1, hB2⟩ := hB
          clear hres
          subst hR
          clear hpre hend hend2 hc h hs hdrop
          generalize c.toNat = C at *
          go_wp2
          all_goals first
            | (exfalso; omega)
            | (go_ret3
               exact ⟨rfl, rfl⟩)
        · by_cases h9 : i = 9
          · have h9z : ((i : Int) == 9) = true := by simp; omega
            have hc1 : ¬ (1 : Int) < (c.toNat : Int) := by omega
            have hc0 : ((c.toNat : Int) == 0) = false := by simp; omega
            have hip : (0 : Int) < (i : Int) := by omega
            have hR := hres.2.2 _ _ (lebG_ok hi hpre hc hend2 (by omega))
            generalize hX : (p : Int) + ((i + 1 : Nat) : Int) = X at hR
            have hX2 : (p : Int) + (i : Int) + 1 = X := by omega
            have HR := hid hR
            have HBD := hid (val_bound hc (take_len hpre) (by omega))
            clear h9
            clear hR hpre hend hend2 hres hX hc h hs hdrop
            go_wp2
            all_goals try (exfalso; omega)
            go_loopg [9, 10] (i + 1) (fun m x y wr => ∃ j V, j = m ∧ j ≤ i + 1 ∧ x = .int .u64 ((V : Nat) : Int) ∧ y = .int .i64 ((j : Int) - 1) ∧ w = wr ∧ V = valL ((s.take (i + 1)).drop j))
            case atStart => exact ⟨i + 1, 0, rfl, Nat.le_refl _, rfl, by congr 1; omega, rfl, by rw [List.drop_of_length_le (by rw [List.length_take]; omega)]; rfl⟩
            case round =>
              obtain ⟨j, V, rfl, hj, rfl, rfl, rfl, hV⟩ := hrel
              cases j with
              | zero =>
                have hRR := HR.out
                rw [List.drop_zero] at hV
                rw [← hV] at hRR
                clear hV hcl
                subst hRR
                go_wp2
                all_goals first
                  | (exfalso; omega)
                  | (go_ret3
                     exact ⟨rfl, rfl⟩)
              | succ j =>
                obtain ⟨c', hc'⟩ : ∃ c', s[j]? = some c' := by
                  have h2 := (List.getElem?_eq_some_iff.1 HC.out).1
                  exact ⟨s[j]'(by omega), by simp⟩
                have hcl' : l[p + j]? = some c' := by rw [← HD.out j]; exact hc'
                obtain ⟨b', o', k', he, hcell', hlt'⟩ := HB.out.at_ hcl'
                injection he with e1 e2 e3
                injection e1 with e1
                injection e1 with e4 e5 _
                subst e4
                subst e5
                clear e2 e3
                have hlen := List.length_take_of_le (show i + 1 ≤ s.length by have h2 := (List.getElem?_eq_some_iff.1 HC.out).1; omega)
                have hstep : valL ((s.take (i + 1)).drop j) = c'.toNat % 128 + 128 * V := by
                  rw [hV, List.drop_eq_getElem_cons (by rw [hlen]; omega)]
                  have e : (s.take (i + 1))[j]'(by rw [hlen]; omega) = c' := by
                    rw [List.getElem_take]
                    exact (List.getElem?_eq_some_iff.1 hc').2
                  rw [e]
                  rfl
                have hbd := valL_drop_le j (s.take (i + 1))
                have hbd2 := HBD.out
                have HS := hid hstep
                have hcw := c'.toNat_lt
                have hw1 : IntKind.u64.wrap (128 * (V : Int)) = ((128 * V : Nat) : Int) := by rw [IntKind.wrap_u64]; omega
                generalize hW2 : 128 * V = V2 at *
                have hw2 : IntKind.u64.wrap ((V2 : Int) + (c'.toNat : Int) % 128) = ((c'.toNat % 128 + V2 : Nat) : Int) := by rw [IntKind.wrap_u64]; omega
                generalize hV3 : c'.toNat % 128 + V2 = V3 at *
                generalize c'.toNat = C' at *
                have hjz : (0 : Int) ≤ ((j + 1 : Nat) : Int) - 1 := by omega
                have hje : ((j + 1 : Nat) : Int) - 1 = (j : Int) := by omega
                rw [hje] at hjz ⊢
                have hpz2 : IntKind.i64.wrap ((p : Int) + (j : Int)) = ((p + j : Nat) : Int) := by rw [IntWalk.i64_in _ (by omega)]; omega
                have hjs : IntKind.i64.wrap ((j : Int) - 1) = (j : Int) - 1 := by rw [IntWalk.i64_in _ (by omega)]
                have HJ := hid (show j ≤ i + 1 by omega)
                clear hV hstep hbd hbd2 hlen hcl' hc' hcl hV3 hW2
                go_wp2
                go_roundg j
                case measure => omega
                case rel => exact ⟨j, V3, rfl, HJ.out, rfl, rfl, rfl, HS.out.symm⟩
          · have h9z : ((i : Int) == 9) = false := by simp; omega
            by_cases h0 : 0 < i
            · have hc0 : ((c.toNat : Int) == 0) = false := by simp; omega
              have hip : (0 : Int) < (i : Int) := by omega
              have hR := hres.2.2 _ _ (lebG_ok hi hpre hc hend2 (by omega))
              generalize hX : (p : Int) + ((i + 1 : Nat) : Int) = X at hR
              have hX2 : (p : Int) + (i : Int) + 1 = X := by omega
              have HR := hid hR
              have HBD := hid (val_bound hc (take_len hpre) (by omega))
              clear hR hpre hend hend2 hres hX hc h hs hdrop
              go_wp2
              all_goals try (exfalso; omega)
              go_loopg [9, 10] (i + 1) (fun m x y wr => ∃ j V, j = m ∧ j ≤ i + 1 ∧ x = .int .u64 ((V : Nat) : Int) ∧ y = .int .i64 ((j : Int) - 1) ∧ w = wr ∧ V = valL ((s.take (i + 1)).drop j))
              case atStart => exact ⟨i + 1, 0, rfl, Nat.le_refl _, rfl, by congr 1; omega, rfl, by rw [List.drop_of_length_le (by rw [List.length_take]; omega)]; rfl⟩
              case round =>
                obtain ⟨j, V, rfl, hj, rfl, rfl, rfl, hV⟩ := hrel
                cases j with
                | zero =>
                  have hRR := HR.out
                  rw [List.drop_zero] at hV
                  rw [← hV] at hRR
                  clear hV hcl
                  subst hRR
                  go_wp2
                  all_goals first
                    | (exfalso; omega)
                    | (go_ret3
                       exact ⟨rfl, rfl⟩)
                | succ j =>
                  obtain ⟨c', hc'⟩ : ∃ c', s[j]? = some c' := by
                    have h2 := (List.getElem?_eq_some_iff.1 HC.out).1
                    exact ⟨s[j]'(by omega), by simp⟩
                  have hcl' : l[p + j]? = some c' := by rw [← HD.out j]; exact hc'
                  obtain ⟨b', o', k', he, hcell', hlt'⟩ := HB.out.at_ hcl'
                  injection he with e1 e2 e3
                  injection e1 with e1
                  injection e1 with e4 e5 _
                  subst e4
                  subst e5
                  clear e2 e3
                  have hlen := List.length_take_of_le (show i + 1 ≤ s.length by have h2 := (List.getElem?_eq_some_iff.1 HC.out).1; omega)
                  have hstep : valL ((s.take (i + 1)).drop j) = c'.toNat % 128 + 128 * V := by
                    rw [hV, List.drop_eq_getElem_cons (by rw [hlen]; omega)]
                    have e : (s.take (i + 1))[j]'(by rw [hlen]; omega) = c' := by
                      rw [List.getElem_take]
                      exact (List.getElem?_eq_some_iff.1 hc').2
                    rw [e]
                    rfl
                  have hbd := valL_drop_le j (s.take (i + 1))
                  have hbd2 := HBD.out
                  have HS := hid hstep
                  have hcw := c'.toNat_lt
                  have hw1 : IntKind.u64.wrap (128 * (V : Int)) = ((128 * V : Nat) : Int) := by rw [IntKind.wrap_u64]; omega
                  generalize hW2 : 128 * V = V2 at *
                  have hw2 : IntKind.u64.wrap ((V2 : Int) + (c'.toNat : Int) % 128) = ((c'.toNat % 128 + V2 : Nat) : Int) := by rw [IntKind.wrap_u64]; omega
                  generalize hV3 : c'.toNat % 128 + V2 = V3 at *
                  generalize c'.toNat = C' at *
                  have hjz : (0 : Int) ≤ ((j + 1 : Nat) : Int) - 1 := by omega
                  have hje : ((j + 1 : Nat) : Int) - 1 = (j : Int) := by omega
                  rw [hje] at hjz ⊢
                  have hpz2 : IntKind.i64.wrap ((p : Int) + (j : Int)) = ((p + j : Nat) : Int) := by rw [IntWalk.i64_in _ (by omega)]; omega
                  have hjs : IntKind.i64.wrap ((j : Int) - 1) = (j : Int) - 1 := by rw [IntWalk.i64_in _ (by omega)]
                  have HJ := hid (show j ≤ i + 1 by omega)
                  clear hV hstep hbd hbd2 hlen hcl' hc' hcl hV3 hW2
                  go_wp2
                  go_roundg j
                  case measure => omega
                  case rel => exact ⟨j, V3, rfl, HJ.out, rfl, rfl, rfl, HS.out.symm⟩
            · have hip : ¬ (0 : Int) < (i : Int) := by omega
              have hR := hres.2.2 _ _ (lebG_ok hi hpre hc hend2 (by omega))
              generalize hX : (p : Int) + ((i + 1 : Nat) : Int) = X at hR
              have hX2 : (p : Int) + (i : Int) + 1 = X := by omega
              have HR := hid hR
              have HBD := hid (val_bound hc (take_len hpre) (by omega))
              clear hR hpre hend hend2 hres hX hc h hs hdrop
              go_wp2
              all_goals try (exfalso; omega)
              go_loopg [9, 10] (i + 1) (fun m x y wr => ∃ j V, j = m ∧ j ≤ i + 1 ∧ x = .int .u64 ((V : Nat) : Int) ∧ y = .int .i64 ((j : Int) - 1) ∧ w = wr ∧ V = valL ((s.take (i + 1)).drop j))
              case atStart => exact ⟨i + 1, 0, rfl, Nat.le_refl _, rfl, by congr 1; omega, rfl, by rw [List.drop_of_length_le (by rw [List.length_take]; omega)]; rfl⟩
              case round =>
                obtain ⟨j, V, rfl, hj, rfl, rfl, rfl, hV⟩ := hrel
                cases j with
                | zero =>
                  have hRR := HR.out
                  rw [List.drop_zero] at hV
                  rw [← hV] at hRR
                  clear hV hcl
                  subst hRR
                  go_wp2
                  all_goals first
                    | (exfalso; omega)
                    | (go_ret3
                       exact ⟨rfl, rfl⟩)
                | succ j =>
                  obtain ⟨c', hc'⟩ : ∃ c', s[j]? = some c' := by
                    have h2 := (List.getElem?_eq_some_iff.1 HC.out).1
                    exact ⟨s[j]'(by omega), by simp⟩
                  have hcl' : l[p + j]? = some c' := by rw [← HD.out j]; exact hc'
                  obtain ⟨b', o', k', he, hcell', hlt'⟩ := HB.out.at_ hcl'
                  injection he with e1 e2 e3
                  injection e1 with e1
                  injection e1 with e4 e5 _
                  subst e4
                  subst e5
                  clear e2 e3
                  have hlen := List.length_take_of_le (show i + 1 ≤ s.length by have h2 := (List.getElem?_eq_some_iff.1 HC.out).1; omega)
                  have hstep : valL ((s.take (i + 1)).drop j) = c'.toNat % 128 + 128 * V := by
                    rw [hV, List.drop_eq_getElem_cons (by rw [hlen]; omega)]
                    have e : (s.take (i + 1))[j]'(by rw [hlen]; omega) = c' := by
                      rw [List.getElem_take]
                      exact (List.getElem?_eq_some_iff.1 hc').2
                    rw [e]
                    rfl
                  have hbd := valL_drop_le j (s.take (i + 1))
                  have hbd2 := HBD.out
                  have HS := hid hstep
                  have hcw := c'.toNat_lt
                  have hw1 : IntKind.u64.wrap (128 * (V : Int)) = ((128 * V : Nat) : Int) := by rw [IntKind.wrap_u64]; omega
                  generalize hW2 : 128 * V = V2 at *
                  have hw2 : IntKind.u64.wrap ((V2 : Int) + (c'.toNat : Int) % 128) = ((c'.toNat % 128 + V2 : Nat) : Int) := by rw [IntKind.wrap_u64]; omega
                  generalize hV3 : c'.toNat % 128 + V2 = V3 at *
                  generalize c'.toNat = C' at *
                  have hjz : (0 : Int) ≤ ((j + 1 : Nat) : Int) - 1 := by omega
                  have hje : ((j + 1 : Nat) : Int) - 1 = (j : Int) := by omega
                  rw [hje] at hjz ⊢
                  have hpz2 : IntKind.i64.wrap ((p : Int) + (j : Int)) = ((p + j : Nat) : Int) := by rw [IntWalk.i64_in _ (by omega)]; omega
                  have hjs : IntKind.i64.wrap ((j : Int) - 1) = (j : Int) - 1 := by rw [IntWalk.i64_in _ (by omega)]
                  have HJ := hid (show j ≤ i + 1 by omega)
                  clear hV hstep hbd hbd2 hlen hcl' hc' hcl hV3 hW2
                  go_wp2
                  go_roundg j
                  case measure => omega
                  case rel => exact ⟨j, V3, rfl, HJ.out, rfl, rfl, rfl, HS.out.symm⟩

set_option maxRecDepth 100000 in
set_option maxHeartbeats 1600000 in
theorem refGet_any {v : Value} {l : List UInt8} (h : Byt w v l) (hl : l.length ≤ 70368744177664) (at_ : Int) :
    Calls Tryz.prog 62 #[v, .int .i64 at_] w (RetGet w (lebGet l at_)) := by
  by_cases ha : at_ < 0 ∨ (l.length : Int) < at_
  · have e : lebGet l at_ = (0, 0, 2) := by unfold lebGet; rw [if_pos ha]
    rw [e]
    obtain ⟨a, k, rfl⟩ := h.len
    clear h e
    generalize l.length = L at *
    rcases ha with ha | ha
    all_goals
      go_enter Tryz.func62, Tryz.ntmps62
      go_wp2
      all_goals first
        | (exfalso; omega)
        | (go_ret3
           exact ⟨rfl, rfl⟩)
  · obtain ⟨p, rfl⟩ : ∃ p : Nat, at_ = p := ⟨at_.toNat, by omega⟩
    exact refGet_in h hl (by omega)

end
end Go.Stk

/- Counted rows: what is read. -/
namespace Go.Stk
open Go Go.RowKit Go.Proofs

/-- A number that is at most most: it, the place behind it, the error. -/
def cntGet (l : List UInt8) (at_ most : Int) : Int × Int × Int :=
  if (lebGet l at_).2.2 ≠ 0 then (0, 0, (lebGet l at_).2.2) else if most < 0 ∨ most < (lebGet l at_).1 then (0, 0, 3) else ((lebGet l at_).1, (lebGet l at_).2.1, 0)

/-- The counted row at a place: its bytes, the place behind it, the error. -/
def rowGet (l : List UInt8) (at_ most : Int) : List UInt8 × Int × Int :=
  if (cntGet l at_ most).2.2 ≠ 0 then ([], 0, (cntGet l at_ most).2.2) else if (l.length : Int) - (cntGet l at_ most).2.1 < (cntGet l at_ most).1 then ([], 0, 4) else
  ((l.drop (cntGet l at_ most).2.1.toNat).take (cntGet l at_ most).1.toNat, (cntGet l at_ most).2.1 + (cntGet l at_ most).1, 0)

theorem lebGet_ok {l : List UInt8} {at_ : Int} (h : (lebGet l at_).2.2 = 0) : (lebGet l at_).1 < 18446744073709551616 ∧ 0 ≤ at_ ∧ at_ < (lebGet l at_).2.1 ∧ (lebGet l at_).2.1 ≤ l.length := by
  unfold lebGet at h ⊢
  by_cases ha : at_ < 0 ∨ (l.length : Int) < at_
  · rw [if_pos ha] at h; simp at h
  · rw [if_neg ha] at h ⊢
    simp only at h ⊢
    rw [if_pos h]
    obtain ⟨p, rfl⟩ : ∃ p : Nat, at_ = p := ⟨at_.toNat, by omega⟩
    simp only [Int.toNat_natCast] at h ⊢
    have hl := @List.length_drop _ p l
    generalize l.drop p = s at *
    have hcle : ∀ k (s : List UInt8), cont k s ≤ k := by
      intro k
      induction k with
      | zero => intro s; simp [cont]
      | succ k ih =>
        intro s
        cases s with
        | nil => simp [cont]
        | cons x r =>
          simp only [cont]
          split
          · have := ih r; omega
          · omega
    have h9 := hcle 9 s
    unfold lebG at h ⊢
    cases hc : s[cont 9 s]? with
    | none => rw [hc] at h; simp at h
    | some c =>
      rw [hc] at h
      simp only at h ⊢
      by_cases hf : (cont 9 s = 9 ∧ 1 < c.toNat) ∨ (0 < cont 9 s ∧ c.toNat = 0)
      · rw [if_pos hf] at h; simp at h
      · rw [if_neg hf]
        have hlt := (List.getElem?_eq_some_iff.1 hc).1
        simp only
        refine ⟨?_, by omega, by omega, by omega⟩
        refine val_bound hc (by rw [List.length_take]; omega) ?_
        by_cases h8 : cont 9 s ≤ 8
        · exact .inl h8
        · exact .inr ⟨by omega, by have : ¬ (cont 9 s = 9 ∧ 1 < c.toNat) := fun h => hf (.inl h); omega⟩

theorem cntGet_ok {l : List UInt8} {at_ most : Int} (h : (cntGet l at_ most).2.2 = 0) : 0 ≤ (cntGet l at_ most).1 ∧ (cntGet l at_ most).1 ≤ most ∧ 0 ≤ at_ ∧ at_ < (cntGet l at_ most).2.1 ∧ (cntGet l at_ most).2.1 ≤ l.length := by
  unfold cntGet at h ⊢
  by_cases he : (lebGet l at_).2.2 ≠ 0
  · rw [if_pos he] at h; exact absurd h he
  · rw [if_neg he] at h ⊢
    have h0 : (lebGet l at_).2.2 = 0 := by omega
    have := lebGet_ok h0
    by_cases hm : most < 0 ∨ most < (lebGet l at_).1
    · rw [if_pos hm] at h; simp at h
    · rw [if_neg hm]
      simp only
      omega

theorem rowGet_ok {l : List UInt8} {at_ most : Int} (h : (rowGet l at_ most).2.2 = 0) : (rowGet l at_ most).1.length ≤ most ∧ 0 ≤ at_ ∧ at_ < (rowGet l at_ most).2.1 ∧ (rowGet l at_ most).2.1 ≤ l.length := by
  unfold rowGet at h ⊢
  by_cases he : (cntGet l at_ most).2.2 ≠ 0
  · rw [if_pos he] at h; exact absurd h he
  · rw [if_neg he] at h ⊢
    have h0 : (cntGet l at_ most).2.2 = 0 := by omega
    have := cntGet_ok h0
    by_cases hm : (l.length : Int) - (cntGet l at_ most).2.1 < (cntGet l at_ most).1
    · rw [if_pos hm] at h; simp at h
    · rw [if_neg hm]
      simp only [List.length_take, List.length_drop]
      omega

section
variable {w : World}

def RetCnt (w : World) (r : Int × Int × Int) (e : Ending) (w' : World) : Prop := e = .returned (.tuple #[.int .i64 r.1, .int .i64 r.2.1, .int .i64 r.2.2]) ∧ w = w'

/-- A call answers bytes, a place and an error. -/
def RetRow (w : World) (r : List UInt8 × Int × Int) (e : Ending) (w' : World) : Prop := ∃ v, e = .returned (.tuple #[v, .int .i64 r.2.1, .int .i64 r.2.2]) ∧ Byt w' v r.1 ∧ Keep (fun _ => False) w w'

set_option maxRecDepth 100000 in
set_option maxHeartbeats 1600000 in
theorem lebcount_any {v : Value} {l : List UInt8} (h : Byt w v l) (hl : l.length ≤ 70368744177664) (at_ most : Int) (hm : most ≤ 9223372036854775807) :
    Calls Tryz.prog 129 #[v, .int .i64 at_, .int .i64 most] w (RetCnt w (cntGet l at_ most)) := by
  have hget := lebGet_any h hl at_
  have hok : (lebGet l at_).2.2 = 0 → _ := fun h => lebGet_ok h
  unfold cntGet
  clear h
  generalize lebGet l at_ = r at *
  obtain ⟨n, next, e⟩ := r
  simp only at hok hget ⊢
  by_cases he : e = 0
  · subst he
    simp only [ne_eq, not_true_eq_false, if_false]
    obtain ⟨hn, _⟩ := hok rfl
    by_cases h1 : most < 0
    · rw [if_pos (.inl h1)]
      clear hok hm hn
      go_enter Tryz.func129, Tryz.ntmps129
      go_wp2_with (go_at_call 60; refine hget.mono ?_; rintro e w' ⟨rfl, rfl⟩)
      all_goals first
        | (exfalso; omega)
        | (go_ret3
           exact ⟨rfl, rfl⟩)
    · have hw : IntKind.u64.wrap most = most := by rw [IntKind.wrap_u64]; omega
      by_cases h2 : most < (n : Int)
      · rw [if_pos (.inr h2)]
        clear hok
        go_enter Tryz.func129, Tryz.ntmps129
        go_wp2_with (go_at_call 60; refine hget.mono ?_; rintro e w' ⟨rfl, rfl⟩)
        all_goals first
          | (exfalso; omega)
          | (go_ret3
             exact ⟨rfl, rfl⟩)
      · rw [if_neg (by omega)]
        have hw2 : IntKind.i64.wrap (n : Int) = (n : Int) := IntWalk.i64_in _ (by omega)
        clear hok
        go_enter Tryz.func129, Tryz.ntmps129
        go_wp2_with (go_at_call 60; refine hget.mono ?_; rintro e w' ⟨rfl, rfl⟩)
        all_goals first
          | (exfalso; omega)
          | (go_ret3
             exact ⟨rfl, rfl⟩)
  · rw [if_pos he]
    have hz : (e != 0) = true := by simpa using he
    clear hok he
    go_enter Tryz.func129, Tryz.ntmps129
    go_wp2_with (go_at_call 60; refine hget.mono ?_; rintro e w' ⟨rfl, rfl⟩)
    go_ret3
    exact ⟨rfl, rfl⟩

set_option maxRecDepth 100000 in
set_option maxHeartbeats 1600000 in
theorem refcount_any {v : Value} {l : List UInt8} (h : Byt w v l) (hl : l.length ≤ 70368744177664) (at_ most : Int) (hm : most ≤ 9223372036854775807) :
    Calls Tryz.prog 130 #[v, .int .i64 at_, .int .i64 most] w (RetCnt w (cntGet l at_ most)) := by
  have hget := refGet_any h hl at_
  have hok : (lebGet l at_).2.2 = 0 → _ := fun h => lebGet_ok h
  unfold cntGet
  clear h
  generalize lebGet l at_ = r at *
  obtain ⟨n, next, e⟩ := r
  simp only at hok hget ⊢
  by_cases he : e = 0
  · subst he
    simp only [ne_eq, not_true_eq_false, if_false]
    obtain ⟨hn, _⟩ := hok rfl
    by_cases h1 : most < 0
    · rw [if_pos (.inl h1)]
      clear hok hm hn
      go_enter Tryz.func130, Tryz.ntmps130
      go_wp2_with (go_at_call 62; refine hget.mono ?_; rintro e w' ⟨rfl, rfl⟩)
      all_goals first
        | (exfalso; omega)
        | (go_ret3
           exact ⟨rfl, rfl⟩)
    · have hw : IntKind.u64.wrap most = most := by rw [IntKind.wrap_u64]; omega
      by_cases h2 : most < (n : Int)
      · rw [if_pos (.inr h2)]
        clear hok
        go_enter Tryz.func130, Tryz.ntmps130
        go_wp2_with (go_at_call 62; refine hget.mono ?_; rintro e w' ⟨rfl, rfl⟩)
        all_goals first
          | (exfalso; omega)
          | (go_ret3
             exact ⟨rfl, rfl⟩)
      · rw [if_neg (by omega)]
        have hw2 : IntKind.i64.wrap (n : Int) = (n : Int) := IntWalk.i64_in _ (by omega)
        clear hok
        go_enter Tryz.func130, Tryz.ntmps130
        go_wp2_with (go_at_call 62; refine hget.mono ?_; rintro e w' ⟨rfl, rfl⟩)
        all_goals first
          | (exfalso; omega)
          | (go_ret3
             exact ⟨rfl, rfl⟩)
  · rw [if_pos he]
    have hz : (e != 0) = true := by simpa using he
    clear hok he
    go_enter Tryz.func130, Tryz.ntmps130
    go_wp2_with (go_at_call 62; refine hget.mono ?_; rintro e w' ⟨rfl, rfl⟩)
    go_ret3
    exact ⟨rfl, rfl⟩

end
end Go.Stk

/- Counted rows: what is read, with its bytes. -/
namespace Go.Stk
open Go Go.RowKit Go.Proofs

section
variable {w : World}

theorem made_byt (n : Nat) : (madeCells (Value.int .u8 0).cells (n * 1)).toList = byV (List.replicate n 0) := by
  apply List.ext_getElem?
  intro i
  by_cases h : i < n
  · simp [madeCells, byV, Value.cells, h, Nat.mod_one]
  · simp [madeCells, byV, Value.cells, h]

/-- make([]byte, n). -/
theorem make_byt (w : World) (n : Nat) (hn : n ≤ 281474976710656) :
    ∃ w1, (Instr.makeSlice 24 (.int .i64 (n : Int)) (.int .i64 (n : Int))).run Tryz.prog w = .ok (.slice (some ⟨w.heap.size, 0, none⟩) n n) w1 ∧ w1.ownsRow w.heap.size 5 1 (.slice (some ⟨w.heap.size, 0, none⟩) n n) n (byV (List.replicate n 0)) ∧ Keep (fun _ => False) w w1 := by
  have info_u8 : (Tryz.prog.info? 5).map (fun i => (i.zero, i.size, i.bytes)) = some (some (.int .u8 0), 1, 1) := by kernel_rfl
  obtain ⟨i, hi, hz, hs, hby⟩ := info_parts info_u8
  obtain ⟨w', h1, h2, h3⟩ := run_make_full (P := Tryz.prog) w w.heap.size 24 5 i _ _ Tryz.underlying24 hi hz hs .i64 .i64 n (by rw [hby]; omega) (by unfold maxLen; omega) (Nat.le_refl _)
  rw [made_byt] at h2
  exact ⟨w', h1, h2, KeepN.row (Keep.refl _ w) h3 (Nat.le_refl _) (fun k hk => by cases hk)⟩

/-- copy(x, y), x the call's own. -/
theorem copy_own {w1 : World} {ty : TypeId} {g n c : Nat} {xs l : List UInt8} {v : Value} (hk : Keep (fun _ => False) w w1) (hown : w1.ownsRow w.heap.size 5 1 (.slice (some ⟨g, 0, none⟩) n c) n (byV xs)) (h : Byt w1 v l) (hl : n ≤ l.length) :
    ∃ w', (Builtin.copy_ #[24, 24] ty #[.slice (some ⟨g, 0, none⟩) n c, v]).run Tryz.prog w1 = .ok (.int .i64 (n : Int)) w' ∧ w'.ownsRow w.heap.size 5 1 (.slice (some ⟨g, 0, none⟩) n c) n (byV (l.take n)) ∧ Keep (fun _ => False) w w' := by
  obtain ⟨w', h1, h2, h3, h4⟩ := run_copy_byt (ty := ty) (own_zero hown) h (Nat.zero_le n)
  have e : sliced (some ⟨g, 0, none⟩) 0 n c 1 = .slice (some ⟨g, 0, none⟩) n c := by
    unfold sliced
    by_cases hc : c = 0 <;> simp [hc, add_addr]
  have e2 : min l.length (n - 0) = n := by omega
  have e3 : over xs 0 (l.take (n - 0)) = l.take n := by
    have hx := hown.1
    rw [byV_length, Nat.mul_one] at hx
    unfold over
    rw [List.take_zero, List.nil_append, Nat.sub_zero, List.length_take, List.drop_of_length_le (by omega), List.append_nil]
  rw [e, e2] at h1
  rw [e3] at h2
  have hlt := (hown.lt g rfl).1
  exact ⟨w', h1, own_base h2 (fun k hk => by rw [Value.own_slice] at hk; injection hk with hk; omega), KeepN.row hk h3 hk.size (fun k hk => .inl (by injection hk with hk; omega))⟩

set_option maxRecDepth 100000 in
set_option maxHeartbeats 1600000 in
theorem lebGetRow_any {v : Value} {l : List UInt8} (h : Byt w v l) (hl : l.length ≤ 70368744177664) (at_ most : Int) (hm : most ≤ 9223372036854775807) :
    Calls Tryz.prog 109 #[v, .int .i64 at_, .int .i64 most] w (RetRow w (rowGet l at_ most)) := by
  have hget := lebcount_any h hl at_ most hm
  have hok : (cntGet l at_ most).2.2 = 0 → _ := fun h => cntGet_ok h
  unfold rowGet
  generalize cntGet l at_ most = r at *
  obtain ⟨n, next, e⟩ := r
  simp only at hok hget ⊢
  by_cases he : e = 0
  · subst he
    simp only [ne_eq, not_true_eq_false, if_false]
    obtain ⟨h0, h1, h2, h3, h4⟩ := hok rfl
    clear hok
    obtain ⟨n, rfl⟩ : ∃ m : Nat, n = m := ⟨n.toNat, by omega⟩
    obtain ⟨next, rfl⟩ : ∃ m : Nat, next = m := ⟨next.toNat, by omega⟩
    have hw : IntKind.i64.wrap ((l.length : Int) - (next : Int)) = (l.length : Int) - (next : Int) := IntWalk.i64_in _ (by omega)
    by_cases hs : (l.length : Int) - (next : Int) < (n : Int)
    · rw [if_pos hs]
      have FIN := hid (show RetRow w ([], 0, 4) (.returned (.tuple #[.slice none 0 0, .int .i64 0, .int .i64 4])) w from ⟨_, rfl, Byt.nil _, Keep.refl _ _⟩)
      obtain ⟨a, k, rfl⟩ := h.len
      clear h
      generalize l.length = L at *
      go_enter Tryz.func109, Tryz.ntmps109
      go_wp2_with (go_at_call 129; refine hget.mono ?_; rintro e w' ⟨rfl, rfl⟩)
      all_goals first
        | (exfalso; omega)
        | (go_ret3
           exact FIN.out)
    · rw [if_neg hs]
      simp only [Int.toNat_natCast]
      obtain ⟨w1, hr1, ho1, hk1⟩ := make_byt w n (by omega)
      obtain ⟨d, hsl, hd⟩ := (h.keep hk1).from_ (k := next) (by omega)
      obtain ⟨w2, hr2, ho2, hk2⟩ := copy_own (ty := 3) hk1 ho1 hd (by rw [List.length_drop]; omega)
      have FIN := hid (show RetRow w ((l.drop next).take n, (next : Int) + (n : Int), 0) (.returned (.tuple #[.slice (some ⟨w.heap.size, 0, none⟩) n n, .int .i64 ((next : Int) + (n : Int)), .int .i64 0])) w2 from ⟨_, rfl, Byt.of_own ho2, hk2⟩)
      have hw2 : IntKind.i64.wrap ((next : Int) + (n : Int)) = (next : Int) + (n : Int) := IntWalk.i64_in _ (by omega)
      obtain ⟨a, k, rfl⟩ := h.len
      clear h ho1 hk1 hd ho2 hk2
      generalize l.length = L at *
      go_enter Tryz.func109, Tryz.ntmps109
      go_wp2_with (first | (go_at_call 129; refine hget.mono ?_; rintro e w' ⟨rfl, rfl⟩) | (at_builtin; refine wpList_copy_run rfl _ _ _ rfl hr2 rfl rfl ?_))
      all_goals first
        | (exfalso; omega)
        | (go_ret3
           exact FIN.out)
  · rw [if_pos he]
    have FIN := hid (show RetRow w ([], 0, e) (.returned (.tuple #[.slice none 0 0, .int .i64 0, .int .i64 e])) w from ⟨_, rfl, Byt.nil _, Keep.refl _ _⟩)
    have hz : (e != 0) = true := by simpa using he
    clear hok he h
    go_enter Tryz.func109, Tryz.ntmps109
    go_wp2_with (go_at_call 129; refine hget.mono ?_; rintro e w' ⟨rfl, rfl⟩)
    go_ret3
    exact FIN.out

set_option maxRecDepth 100000 in
set_option maxHeartbeats 1600000 in
theorem refGetRow_any {v : Value} {l : List UInt8} (h : Byt w v l) (hl : l.length ≤ 70368744177664) (at_ most : Int) (hm : most ≤ 9223372036854775807) :
    Calls Tryz.prog 110 #[v, .int .i64 at_, .int .i64 most] w (RetRow w (rowGet l at_ most)) := by
  have hget := refcount_any h hl at_ most hm
  have hok : (cntGet l at_ most).2.2 = 0 → _ := fun h => cntGet_ok h
  unfold rowGet
  generalize cntGet l at_ most = r at *
  obtain ⟨n, next, e⟩ := r
  simp only at hok hget ⊢
  by_cases he : e = 0
  · subst he
    simp only [ne_eq, not_true_eq_false, if_false]
    obtain ⟨h0, h1, h2, h3, h4⟩ := hok rfl
    clear hok
    obtain ⟨n, rfl⟩ : ∃ m : Nat, n = m := ⟨n.toNat, by omega⟩
    obtain ⟨next, rfl⟩ : ∃ m : Nat, next = m := ⟨next.toNat, by omega⟩
    have hw : IntKind.i64.wrap ((l.length : Int) - (next : Int)) = (l.length : Int) - (next : Int) := IntWalk.i64_in _ (by omega)
    by_cases hs : (l.length : Int) - (next : Int) < (n : Int)
    · rw [if_pos hs]
      have FIN := hid (show RetRow w ([], 0, 4) (.returned (.tuple #[.slice none 0 0, .int .i64 0, .int .i64 4])) w from ⟨_, rfl, Byt.nil _, Keep.refl _ _⟩)
      obtain ⟨a, k, rfl⟩ := h.len
      clear h
      generalize l.length = L at *
      go_enter Tryz.func110, Tryz.ntmps110
      go_wp2_with (go_at_call 130; refine hget.mono ?_; rintro e w' ⟨rfl, rfl⟩)
      all_goals first
        | (exfalso; omega)
        | (go_ret3
           exact FIN.out)
    · rw [if_neg hs]
      simp only [Int.toNat_natCast]
      obtain ⟨d, hsl, hd⟩ := h.part (i := next) (k := next + n) (by omega) (by omega)
      obtain ⟨v4, w4, hr4, ho4, hk4, _⟩ := append_own (ty := 24) (Keep.refl (fun _ => False) w) (xs := []) (World.ownsRow_nil _ _ _ _) hd (by rw [List.length_take, List.length_drop, List.length_nil]; omega)
      rw [List.nil_append, Nat.add_sub_cancel_left] at ho4
      have FIN := hid (show RetRow w ((l.drop next).take n, (next : Int) + (n : Int), 0) (.returned (.tuple #[v4, .int .i64 ((next : Int) + (n : Int)), .int .i64 0])) w4 from ⟨_, rfl, Byt.of_own ho4, hk4⟩)
      have hw2 : IntKind.i64.wrap ((next : Int) + (n : Int)) = ((next + n : Nat) : Int) := by rw [IntWalk.i64_in _ (by omega)]; omega
      have hnn : (next : Int) + (n : Int) = ((next + n : Nat) : Int) := by omega
      rw [hnn] at FIN
      rw [hnn]
      clear hnn
      obtain ⟨a, k, rfl⟩ := h.len
      clear h hd ho4 hk4
      generalize l.length = L at *
      generalize next + n = N2 at *
      go_enter Tryz.func110, Tryz.ntmps110
      go_wp2_with (first | (go_at_call 130; refine hget.mono ?_; rintro e w' ⟨rfl, rfl⟩) | (at_builtin; refine wpList_append_run rfl _ _ _ rfl hr4 rfl rfl ?_))
      all_goals first
        | (exfalso; omega)
        | (go_ret3
           exact FIN.out)
  · rw [if_pos he]
    have FIN := hid (show RetRow w ([], 0, e) (.returned (.tuple #[.slice none 0 0, .int .i64 0, .int .i64 e])) w from ⟨_, rfl, Byt.nil _, Keep.refl _ _⟩)
    have hz : (e != 0) = true := by simpa using he
    clear hok he h
    go_enter Tryz.func110, Tryz.ntmps110
    go_wp2_with (go_at_call 130; refine hget.mono ?_; rintro e w' ⟨rfl, rfl⟩)
    go_ret3
    exact FIN.out

end
end Go.Stk

/- CRC-32C: both ways come to the same number. -/
namespace Go.Stk
open Go Go.RowKit Go.Proofs

/-- One bit goes out. -/
def crcStep (r : Nat) : Nat := if r % 2 = 0 then r / 2 else (r / 2) ^^^ 2197175160
def crcTake (r : Nat) (c : Nat) : Nat := crcStep (crcStep (crcStep (crcStep (crcStep (crcStep (crcStep (crcStep (r ^^^ c))))))))
def crcMore (r : Nat) (l : List UInt8) : Nat := l.foldl (fun r c => crcTake r c.toNat) r
/-- The sum of bytes. -/
def crcOf (l : List UInt8) : Nat := 4294967295 - crcMore 4294967295 l

theorem crcStep_lt {r : Nat} (h : r < 4294967296) : crcStep r < 4294967296 := by
  unfold crcStep
  split
  · omega
  · have : (r / 2) ^^^ 2197175160 < 2 ^ 32 := Nat.xor_lt_two_pow (by omega) (by omega)
    omega
theorem crcTake_lt {r c : Nat} (h : r < 4294967296) (hc : c < 256) : crcTake r c < 4294967296 := by
  have : r ^^^ c < 2 ^ 32 := Nat.xor_lt_two_pow (by omega) (by omega)
  exact crcStep_lt (crcStep_lt (crcStep_lt (crcStep_lt (crcStep_lt (crcStep_lt (crcStep_lt (crcStep_lt (by omega))))))))
theorem crcMore_lt : ∀ (l : List UInt8) {r : Nat}, r < 4294967296 → crcMore r l < 4294967296
  | [], _, h => h
  | c :: l, _, h => crcMore_lt l (crcTake_lt h c.toNat_lt)
theorem crcOf_lt (l : List UInt8) : crcOf l < 4294967296 := by unfold crcOf; omega

theorem xor_ones {r : Nat} (h : r < 4294967296) : r ^^^ 4294967295 = 4294967295 - r := by
  have e : (BitVec.ofNat 32 r ^^^ BitVec.allOnes 32) = ~~~ (BitVec.ofNat 32 r) := BitVec.xor_allOnes
  have e2 := congrArg BitVec.toNat e
  rw [BitVec.toNat_xor, BitVec.toNat_not, BitVec.toNat_ofNat, BitVec.toNat_allOnes, Nat.mod_eq_of_lt (by omega)] at e2
  simpa using e2

section
variable {w : World}

def RetU32 (w : World) (n : Nat) (e : Ending) (w' : World) : Prop := e = .returned (.int .u32 (n : Int)) ∧ w = w'

set_option maxRecDepth 100000 in
theorem crcStep_any (r : Nat) (hr : r < 4294967296) (w : World) : Calls Tryz.prog 159 #[.int .u32 (r : Int)] w (RetU32 w (crcStep r)) := by
  have h1 : bits .and .u32 (r : Int) 1 = ((r % 2 : Nat) : Int) := by
    rw [show (1 : Int) = ((1 : Nat) : Int) from rfl, and_u32 _ _ hr (by omega), Nat.and_one_is_mod]
  unfold crcStep
  by_cases h : r % 2 = 0
  · rw [if_pos h]
    rw [h] at h1
    have h2 : bits .and .u32 2197175160 0 = 0 := by decide
    have h3 : bits .xor .u32 ((r : Int) / 2) 0 = ((r / 2 : Nat) : Int) := by
      rw [show (r : Int) / 2 = ((r / 2 : Nat) : Int) by omega, show (0 : Int) = ((0 : Nat) : Int) from rfl, xor_u32 _ _ (by omega) (by omega), Nat.xor_zero]
    generalize r / 2 = R2 at *
    clear h hr
    go_enter Tryz.func159, Tryz.ntmps159
    go_wp2
    go_ret
    exact ⟨rfl, rfl⟩
  · rw [if_neg h]
    rw [show r % 2 = 1 by omega] at h1
    have h2 : bits .and .u32 2197175160 4294967295 = 2197175160 := by decide
    have h3 : bits .xor .u32 ((r : Int) / 2) 2197175160 = (((r / 2) ^^^ 2197175160 : Nat) : Int) := by
      rw [show (r : Int) / 2 = ((r / 2 : Nat) : Int) by omega, show (2197175160 : Int) = ((2197175160 : Nat) : Int) from rfl, xor_u32 _ _ (by omega) (by omega)]
    generalize (r / 2) ^^^ 2197175160 = R2 at *
    clear h hr
    go_enter Tryz.func159, Tryz.ntmps159
    go_wp2
    go_ret
    exact ⟨rfl, rfl⟩

set_option maxRecDepth 100000 in
theorem refStep_any (r : Nat) (hr : r < 4294967296) (w : World) : Calls Tryz.prog 160 #[.int .u32 (r : Int)] w (RetU32 w (crcStep r)) := by
  unfold crcStep
  by_cases h : r % 2 = 0
  · rw [if_pos h]
    have h1 : ((r : Int) % 2 == 0) = true := by simp; omega
    have h2 : (r : Int) / 2 = ((r / 2 : Nat) : Int) := by omega
    have hm : ((r / 2 : Nat) : Int) % 4294967296 = ((r / 2 : Nat) : Int) := by omega
    generalize r / 2 = R2 at *
    clear h hr
    go_enter Tryz.func160, Tryz.ntmps160
    go_wp2
    go_ret
    exact ⟨rfl, rfl⟩
  · rw [if_neg h]
    have h1 : ((r : Int) % 2 == 0) = false := by simp; omega
    have h3 : bits .xor .u32 ((r : Int) / 2) 2197175160 = (((r / 2) ^^^ 2197175160 : Nat) : Int) := by
      rw [show (r : Int) / 2 = ((r / 2 : Nat) : Int) by omega, show (2197175160 : Int) = ((2197175160 : Nat) : Int) from rfl, xor_u32 _ _ (by omega) (by omega)]
    have hm : (r : Int) / 2 % 4294967296 = (r : Int) / 2 := by omega
    generalize (r / 2) ^^^ 2197175160 = R2 at *
    clear h hr
    go_enter Tryz.func160, Tryz.ntmps160
    go_wp2
    go_ret
    exact ⟨rfl, rfl⟩

/-- k bits go out. -/
def crcSteps : Nat → Nat → Nat
  | 0, r => r
  | k + 1, r => crcSteps k (crcStep r)

set_option maxRecDepth 100000 in
theorem crcTake_any (r c : Nat) (hr : r < 4294967296) (hc : c < 256) (w : World) : Calls Tryz.prog 138 #[.int .u32 (r : Int), .int .u8 (c : Int)] w (RetU32 w (crcTake r c)) := by
  have hlt : r ^^^ c < 4294967296 := by
    have : r ^^^ c < 2 ^ 32 := Nat.xor_lt_two_pow (by omega) (by omega)
    omega
  have h3 : bits .xor .u32 (r : Int) (c : Int) = ((r ^^^ c : Nat) : Int) := xor_u32 _ _ hr (by omega)
  have e : crcTake r c = crcSteps 8 (r ^^^ c) := rfl
  rw [e]
  generalize r ^^^ c = x at *
  have hw : IntKind.u32.wrap (c : Int) = (c : Int) := by rw [IntKind.wrap_u32]; omega
  clear e hr hc
  go_enter Tryz.func138, Tryz.ntmps138
  go_wp2
  go_loopg [0, 9] 8 (fun m y z wr => ∃ k q, k = m ∧ k ≤ 8 ∧ z = .int .i64 ((8 : Int) - (k : Int)) ∧ y = .int .u32 ((q : Nat) : Int) ∧ q < 4294967296 ∧ w = wr ∧ crcSteps k q = crcSteps 8 x)
  case atStart => exact ⟨8, x, rfl, Nat.le_refl _, rfl, rfl, hlt, rfl, rfl⟩
  case round =>
    obtain ⟨k, q, rfl, hk, rfl, rfl, hq, rfl, he⟩ := hrel
    cases k with
    | zero =>
      simp only [crcSteps] at he
      rw [he]
      clear he
      go_wp2
      go_ret
      exact ⟨rfl, rfl⟩
    | succ k =>
      have hstep := crcStep_any q hq w
      have hqs := crcStep_lt hq
      have HE := hid (show crcSteps k (crcStep q) = crcSteps 8 x from he)
      clear he
      generalize crcStep q = q2 at *
      have hlt8 : (8 : Int) - ((k + 1 : Nat) : Int) < 8 := by omega
      have hnx : IntKind.i64.wrap ((8 : Int) - ((k + 1 : Nat) : Int) + 1) = (8 : Int) - (k : Int) := by rw [IntWalk.i64_in _ (by omega)]; omega
      have HK := hid (show k ≤ 8 by omega)
      generalize (8 : Int) - ((k + 1 : Nat) : Int) = I at *
      go_wp2_with (go_at_call 159; refine hstep.mono ?_; rintro e w' ⟨rfl, rfl⟩)
      go_roundg k
      case measure => omega
      case rel => exact ⟨k, q2, rfl, HK.out, rfl, rfl, hqs, rfl, HE.out⟩

set_option maxRecDepth 100000 in
theorem refTake_any (r c : Nat) (hr : r < 4294967296) (hc : c < 256) (w : World) : Calls Tryz.prog 139 #[.int .u32 (r : Int), .int .u8 (c : Int)] w (RetU32 w (crcTake r c)) := by
  have hlt : r ^^^ c < 4294967296 := by
    have : r ^^^ c < 2 ^ 32 := Nat.xor_lt_two_pow (by omega) (by omega)
    omega
  have h3 : bits .xor .u32 (r : Int) (c : Int) = ((r ^^^ c : Nat) : Int) := xor_u32 _ _ hr (by omega)
  have e : crcTake r c = crcSteps 8 (r ^^^ c) := rfl
  rw [e]
  generalize r ^^^ c = x at *
  have hw : IntKind.u32.wrap (c : Int) = (c : Int) := by rw [IntKind.wrap_u32]; omega
  clear e hr hc
  go_enter Tryz.func139, Tryz.ntmps139
  go_wp2
  go_loopg [0, 5] 8 (fun m y z wr => ∃ k q, k = m ∧ k ≤ 8 ∧ z = .int .i64 ((8 : Int) - (k : Int)) ∧ y = .int .u32 ((q : Nat) : Int) ∧ q < 4294967296 ∧ w = wr ∧ crcSteps k q = crcSteps 8 x)
  case atStart => exact ⟨8, x, rfl, Nat.le_refl _, rfl, rfl, hlt, rfl, rfl⟩
  case round =>
    obtain ⟨k, q, rfl, hk, rfl, rfl, hq, rfl, he⟩ := hrel
    cases k with
    | zero =>
      simp only [crcSteps] at he
      rw [he]
      clear he
      go_wp2
      go_ret
      exact ⟨rfl, rfl⟩
    | succ k =>
      have hstep := refStep_any q hq w
      have hqs := crcStep_lt hq
      have HE := hid (show crcSteps k (crcStep q) = crcSteps 8 x from he)
      clear he
      generalize crcStep q = q2 at *
      have hlt8 : (8 : Int) - ((k + 1 : Nat) : Int) < 8 := by omega
      have hnx : IntKind.i64.wrap ((8 : Int) - ((k + 1 : Nat) : Int) + 1) = (8 : Int) - (k : Int) := by rw [IntWalk.i64_in _ (by omega)]; omega
      have HK := hid (show k ≤ 8 by omega)
      generalize (8 : Int) - ((k + 1 : Nat) : Int) = I at *
      go_wp2_with (go_at_call 160; refine hstep.mono ?_; rintro e w' ⟨rfl, rfl⟩)
      go_roundg k
      case measure => omega
      case rel => exact ⟨k, q2, rfl, HK.out, rfl, rfl, hqs, rfl, HE.out⟩


set_option maxRecDepth 100000 in
set_option maxHeartbeats 1600000 in
theorem crcMore_any {v : Value} {l : List UInt8} (h : Byt w v l) (hl : l.length ≤ 70368744177664) :
    Calls Tryz.prog 127 #[.int .u32 0, v] w (RetU32 w (crcOf l)) := by
  obtain ⟨a, k, rfl⟩ := h.len
  have HB := hid h
  have HL := hid (show l.length = l.length from rfl)
  have hones : bits .xor .u32 IntKind.u32.max 0 = 4294967295 := by decide
  generalize hL : l.length = L at *
  have HLL := hid hL
  clear h hL
  go_enter Tryz.func127, Tryz.ntmps127
  go_wp2
  go_loopg [5, 7, 12] L (fun m y _c z wr => ∃ i q, m = L - i ∧ i ≤ L ∧ z = .int .i64 ((i : Nat) : Int) ∧ y = .int .u32 ((q : Nat) : Int) ∧ q < 4294967296 ∧ w = wr ∧ crcMore q (l.drop i) = crcMore 4294967295 l)
  case atStart => exact ⟨0, 4294967295, rfl, by omega, rfl, by rfl, by omega, rfl, rfl⟩
  case round =>
    obtain ⟨i, q, hm, hi, rfl, rfl, hq, rfl, he⟩ := hrel
    by_cases hlt : i = L
    · have hres : bits .xor .u32 IntKind.u32.max (q : Int) = ((crcOf l : Nat) : Int) := by
        rw [List.drop_of_length_le (by have := HLL.out; omega)] at he
        have e : q = crcMore 4294967295 l := he
        rw [show IntKind.u32.max = ((4294967295 : Nat) : Int) from rfl, xor_u32 _ _ (by omega) hq, Nat.xor_comm, xor_ones hq, e]
        rfl
      have hge : ¬ ((i : Int) < (L : Int)) := by omega
      generalize crcOf l = R at *
      clear he hlt
      go_wp2
      go_ret
      exact ⟨rfl, rfl⟩
    · obtain ⟨c, hc⟩ : ∃ c, l[i]? = some c := ⟨l[i]'(by have := HLL.out; omega), by simp⟩
      obtain ⟨b, o, k', he', hcell, hlt2⟩ := HB.out.at_ hc
      injection he' with e1 e2 e3
      subst e1
      subst e3
      clear e2
      have hcw := c.toNat_lt
      have htake := crcTake_any q c.toNat hq hcw w
      have hq2 := crcTake_lt hq hcw
      have HE := hid (show crcMore (crcTake q c.toNat) (l.drop (i + 1)) = crcMore 4294967295 l by
        rw [← he, List.drop_eq_getElem_cons (show i < l.length by have := HLL.out; omega)]
        have e5 : l[i]'(by have := HLL.out; omega) = c := (List.getElem?_eq_some_iff.1 hc).2
        rw [e5]
        rfl)
      have hii : (i : Int) < (L : Int) := by omega
      have HI := hid (show i + 1 ≤ L by omega)
      have hmm : L - (i + 1) < gk := by omega
      generalize crcTake q c.toNat = Q2 at *
      generalize c.toNat = C at *
      clear he hlt hc hm hlt2
      go_wp2_with (go_at_call 138; refine htake.mono ?_; rintro e w' ⟨rfl, rfl⟩)
      go_roundg (L - (i + 1))
      case measure => exact hmm
      case rel => exact ⟨i + 1, Q2, rfl, HI.out, rfl, rfl, hq2, rfl, HE.out⟩

set_option maxRecDepth 100000 in
set_option maxHeartbeats 1600000 in
theorem stookref02More_any {v : Value} {l : List UInt8} (h : Byt w v l) (hl : l.length ≤ 70368744177664) :
    Calls Tryz.prog 128 #[.int .u32 0, v] w (RetU32 w (crcOf l)) := by
  obtain ⟨a, k, rfl⟩ := h.len
  have HB := hid h
  have HL := hid (show l.length = l.length from rfl)
  have hones : bits .xor .u32 IntKind.u32.max 0 = 4294967295 := by decide
  generalize hL : l.length = L at *
  have HLL := hid hL
  clear h hL
  go_enter Tryz.func128, Tryz.ntmps128
  go_wp2
  go_loopg [5, 6] L (fun m y z wr => ∃ i q, m = L - i ∧ i ≤ L ∧ z = .int .i64 ((i : Nat) : Int) ∧ y = .int .u32 ((q : Nat) : Int) ∧ q < 4294967296 ∧ w = wr ∧ crcMore q (l.drop i) = crcMore 4294967295 l)
  case atStart => exact ⟨0, 4294967295, rfl, by omega, rfl, by rfl, by omega, rfl, rfl⟩
  case round =>
    obtain ⟨i, q, hm, hi, rfl, rfl, hq, rfl, he⟩ := hrel
    by_cases hlt : i = L
    · have hres : bits .xor .u32 IntKind.u32.max (q : Int) = ((crcOf l : Nat) : Int) := by
        rw [List.drop_of_length_le (by have := HLL.out; omega)] at he
        have e : q = crcMore 4294967295 l := he
        rw [show IntKind.u32.max = ((4294967295 : Nat) : Int) from rfl, xor_u32 _ _ (by omega) hq, Nat.xor_comm, xor_ones hq, e]
        rfl
      have hge : ¬ ((i : Int) < (L : Int)) := by omega
      generalize crcOf l = R at *
      clear he hlt
      go_wp2
      go_ret
      exact ⟨rfl, rfl⟩
    · obtain ⟨c, hc⟩ : ∃ c, l[i]? = some c := ⟨l[i]'(by have := HLL.out; omega), by simp⟩
      obtain ⟨b, o, k', he', hcell, hlt2⟩ := HB.out.at_ hc
      injection he' with e1 e2 e3
      subst e1
      subst e3
      clear e2
      have hcw := c.toNat_lt
      have htake := refTake_any q c.toNat hq hcw w
      have hq2 := crcTake_lt hq hcw
      have HE := hid (show crcMore (crcTake q c.toNat) (l.drop (i + 1)) = crcMore 4294967295 l by
        rw [← he, List.drop_eq_getElem_cons (show i < l.length by have := HLL.out; omega)]
        have e5 : l[i]'(by have := HLL.out; omega) = c := (List.getElem?_eq_some_iff.1 hc).2
        rw [e5]
        rfl)
      have hii : (i : Int) < (L : Int) := by omega
      have HI := hid (show i + 1 ≤ L by omega)
      have hmm : L - (i + 1) < gk := by omega
      generalize crcTake q c.toNat = Q2 at *
      generalize c.toNat = C at *
      clear he hlt hc hm hlt2
      go_wp2_with (go_at_call 139; refine htake.mono ?_; rintro e w' ⟨rfl, rfl⟩)
      go_roundg (L - (i + 1))
      case measure => exact hmm
      case rel => exact ⟨i + 1, Q2, rfl, HI.out, rfl, rfl, hq2, rfl, HE.out⟩

set_option maxRecDepth 100000 in
theorem crcOf_any {v : Value} {l : List UInt8} (h : Byt w v l) (hl : l.length ≤ 70368744177664) : Calls Tryz.prog 103 #[v] w (RetU32 w (crcOf l)) := by
  have hm := crcMore_any h hl
  clear h
  go_enter Tryz.func103, Tryz.ntmps103
  go_wp2_with (go_at_call 127; refine hm.mono ?_; rintro e w' ⟨rfl, rfl⟩)
  go_ret
  exact ⟨rfl, rfl⟩

set_option maxRecDepth 100000 in
theorem refOf_any {v : Value} {l : List UInt8} (h : Byt w v l) (hl : l.length ≤ 70368744177664) : Calls Tryz.prog 108 #[v] w (RetU32 w (crcOf l)) := by
  have hm := stookref02More_any h hl
  clear h
  go_enter Tryz.func108, Tryz.ntmps108
  go_wp2_with (go_at_call 128; refine hm.mono ?_; rintro e w' ⟨rfl, rfl⟩)
  go_ret
  exact ⟨rfl, rfl⟩

/-- A number as four bytes. -/
def fourL (n : Nat) : List UInt8 := [UInt8.ofNat n, UInt8.ofNat (n / 256), UInt8.ofNat (n / 65536), UInt8.ofNat (n / 16777216)]

theorem fourV (n : Nat) : (byV (fourL n)).toArray = #[.int .u8 ((n % 256 : Nat) : Int), .int .u8 ((n / 256 % 256 : Nat) : Int), .int .u8 ((n / 65536 % 256 : Nat) : Int), .int .u8 ((n / 16777216 % 256 : Nat) : Int)] := by
  simp [byV, fourL]

set_option maxRecDepth 100000 in
theorem refFour_any (n : Nat) (w : World) : Calls Tryz.prog 107 #[.int .u32 (n : Int)] w (RetOwn w (fourL n)) := by
  have hnew := own_new w w.heap.size (fourL n) (Nat.le_refl _) (by simp [maxLen, fourL])
  rw [fourV] at hnew
  have hk := Keep.alloc (Keep.refl (fun _ => False) w) (.cells #[.int .u8 ((n % 256 : Nat) : Int), .int .u8 ((n / 256 % 256 : Nat) : Int), .int .u8 ((n / 65536 % 256 : Nat) : Int), .int .u8 ((n / 16777216 % 256 : Nat) : Int)] 5)
  have FIN := hid (show RetOwn w (fourL n) (.returned (.slice (some ⟨w.heap.size, 0, none⟩) 4 4)) _ from ⟨_, rfl, hnew, hk⟩)
  clear hnew hk
  have h0 : IntKind.u8.wrap (n : Int) = ((n % 256 : Nat) : Int) := by rw [IntKind.wrap_u8]; omega
  have h1 : IntKind.u8.wrap ((n : Int) / 256) = ((n / 256 % 256 : Nat) : Int) := by rw [IntKind.wrap_u8]; omega
  have h2 : IntKind.u8.wrap ((n : Int) / 65536) = ((n / 65536 % 256 : Nat) : Int) := by rw [IntKind.wrap_u8]; omega
  have h3 : IntKind.u8.wrap ((n : Int) / 16777216) = ((n / 16777216 % 256 : Nat) : Int) := by rw [IntKind.wrap_u8]; omega
  generalize n % 256 = N0 at *
  generalize n / 256 % 256 = N1 at *
  generalize n / 65536 % 256 = N2 at *
  generalize n / 16777216 % 256 = N3 at *
  go_enter Tryz.func107, Tryz.ntmps107
  go_wp2
  go_ret
  exact FIN.out

end
end Go.Stk

/- Frames: what is put. -/
namespace Go.Stk
open Go Go.RowKit Go.Proofs

/-- The frame of a payload. -/
def frameL (l : List UInt8) : List UInt8 := rowL l ++ fourL (crcOf (rowL l))
def frmPut (l : List UInt8) : List UInt8 × Int := if 65536 < l.length then ([], 3) else (frameL l, 0)

section
variable {w : World}

/-- A call answers bytes and an error. -/
def RetBE (w : World) (r : List UInt8 × Int) (e : Ending) (w' : World) : Prop := ∃ v, e = .returned (.tuple #[v, .int .i64 r.2]) ∧ Byt w' v r.1 ∧ Keep (fun _ => False) w w'

set_option maxRecDepth 100000 in
set_option maxHeartbeats 1600000 in
theorem lebLen_any (n : Nat) (hn : n < 18446744073709551616) (w : World) : Calls Tryz.prog 126 #[.int .u64 (n : Int)] w fun e w' => e = .returned (.int .i64 ((lebL n).length : Int)) ∧ w = w' := by
  have h10 := lebL_ten hn
  generalize hL : (lebL n).length = L at *
  go_enter Tryz.func126, Tryz.ntmps126
  go_wp2
  go_loopg [0, 3] n (fun m y z wr => ∃ q k, q = m ∧ y = .int .u64 ((q : Nat) : Int) ∧ z = .int .i64 ((k : Nat) : Int) ∧ q < 18446744073709551616 ∧ w = wr ∧ k + (lebL q).length = L + 1)
  case atStart => exact ⟨n, 1, rfl, rfl, rfl, hn, rfl, by omega⟩
  case round =>
    obtain ⟨q, k, rfl, rfl, rfl, hq, rfl, he⟩ := hrel
    by_cases h : q < 128
    · rw [lebL_small h] at he
      have hk : k = L := by simpa using he
      subst hk
      have hge : ¬ ((128 : Int) ≤ (q : Int)) := by omega
      clear he h hL
      go_wp2
      all_goals first
        | (exfalso; omega)
        | (go_ret
           exact ⟨rfl, rfl⟩)
    · rw [lebL_big h, List.length_cons] at he
      have hdiv : (q : Int) / 128 = ((q / 128 : Nat) : Int) := by omega
      have hge : (128 : Int) ≤ (q : Int) := by omega
      have hlt : q / 128 < q := by omega
      have hq2 : q / 128 < 18446744073709551616 := by omega
      generalize q / 128 = Q2 at *
      have HE := hid (show k + 1 + (lebL Q2).length = L + 1 by omega)
      have hk1 : IntKind.i64.wrap ((k : Int) + 1) = ((k + 1 : Nat) : Int) := by rw [IntWalk.i64_in _ (by omega)]; omega
      generalize k + 1 = K1 at *
      clear he h hL
      go_wp2
      all_goals try (exfalso; omega)
      go_roundg Q2
      case measure => exact hlt
      case rel => exact ⟨Q2, K1, rfl, rfl, rfl, hq2, rfl, HE.out⟩

set_option maxRecDepth 100000 in
theorem frameSize_any (n : Nat) (hn : n ≤ 65536) (w : World) : Calls Tryz.prog 101 #[.int .i64 (n : Int)] w fun e w' => e = .returned (.int .i64 (((lebL n).length + n + 4 : Nat) : Int)) ∧ w = w' := by
  have hlen := lebLen_any n (by omega) w
  have h10 := lebL_ten (n := n) (by omega)
  generalize (lebL n).length = L at *
  have hw : IntKind.u64.wrap (n : Int) = (n : Int) := by rw [IntKind.wrap_u64]; omega
  have hw1 : IntKind.i64.wrap ((L : Int) + (n : Int)) = (L : Int) + (n : Int) := IntWalk.i64_in _ (by omega)
  have hw2 : IntKind.i64.wrap ((L : Int) + (n : Int) + 4) = ((L + n + 4 : Nat) : Int) := by rw [IntWalk.i64_in _ (by omega)]; omega
  generalize L + n + 4 = M at *
  go_enter Tryz.func101, Tryz.ntmps101
  go_wp2_with (go_at_call 126; refine hlen.mono ?_; rintro e w' ⟨rfl, rfl⟩)
  all_goals first
    | (exfalso; omega)
    | (go_ret
       exact ⟨rfl, rfl⟩)

theorem rowL_len {l : List UInt8} (h : l.length ≤ 65536) : (rowL l).length ≤ 65546 := by
  have := lebL_ten (n := l.length) (by omega)
  simp only [rowL, List.length_append]
  omega

/-- make([]byte, 0, n). -/
theorem make_cap (w : World) (n : Nat) (hn : n ≤ 281474976710656) :
    ∃ w1, (Instr.makeSlice 24 (.int .i64 0) (.int .i64 (n : Int))).run Tryz.prog w = .ok (.slice (some ⟨w.heap.size, 0, none⟩) 0 n) w1 ∧ w1.ownsRow w.heap.size 5 1 (.slice (some ⟨w.heap.size, 0, none⟩) 0 n) 0 [] ∧ Keep (fun _ => False) w w1 := by
  have info_u8 : (Tryz.prog.info? 5).map (fun i => (i.zero, i.size, i.bytes)) = some (some (.int .u8 0), 1, 1) := by kernel_rfl
  obtain ⟨i, hi, hz, hs, hby⟩ := info_parts info_u8
  obtain ⟨w', h1, h2, h3⟩ := run_make_own (P := Tryz.prog) w w.heap.size 24 5 i _ _ Tryz.underlying24 hi hz hs .i64 .i64 n (by rw [hby]; omega) (by unfold maxLen; omega) (Nat.le_refl _)
  exact ⟨w', h1, h2, KeepN.row (Keep.refl _ w) h3 (Nat.le_refl _) (fun k hk => by cases hk)⟩

set_option maxRecDepth 100000 in
set_option maxHeartbeats 1600000 in
theorem framePut_any {v : Value} {l : List UInt8} (h : Byt w v l) (hl : l.length ≤ 70368744177664) : Calls Tryz.prog 54 #[v] w (RetBE w (frmPut l)) := by
  unfold frmPut
  by_cases hb : 65536 < l.length
  · rw [if_pos hb]
    have FIN := hid (show RetBE w ([], 3) (.returned (.tuple #[.slice none 0 0, .int .i64 3])) w from ⟨_, rfl, Byt.nil _, Keep.refl _ _⟩)
    obtain ⟨a, k, rfl⟩ := h.len
    clear h
    generalize l.length = L at *
    go_enter Tryz.func54, Tryz.ntmps54
    go_wp2_with fail
    all_goals first
      | (exfalso; omega)
      | (go_ret2
         exact FIN.out)
  · rw [if_neg hb]
    have hsize := frameSize_any l.length (by omega) w
    have hrl := rowL_len (l := l) (by omega)
    have hcl := crcOf_lt (rowL l)
    obtain ⟨w1, hr1, ho1, hk1⟩ := make_cap w ((lebL l.length).length + l.length + 4) (by have := lebL_ten (n := l.length) (by omega); omega)
    have hrow := lebPutRow_any (h.keep hk1) hl
    have hmid : ∀ v2 w2, Byt w2 v2 (rowL l) → Keep (fun _ => False) w1 w2 → ∃ v3 w3, (Builtin.append_ #[24, 24] 24 #[.slice (some ⟨w.heap.size, 0, none⟩) 0 ((lebL l.length).length + l.length + 4), v2]).run Tryz.prog w2 = .ok v3 w3 ∧
        Calls Tryz.prog 103 #[v3] w3 (RetU32 w3 (crcOf (rowL l))) ∧ ∃ v4 w4, (Builtin.append_ #[24, 24] 24 #[v3, .slice (some ⟨w3.heap.size, 0, none⟩) 4 4]).run Tryz.prog (w3.alloc (.cells (byV (fourL (crcOf (rowL l)))).toArray 5)) = .ok v4 w4 ∧ RetBE w (frameL l, 0) (.returned (.tuple #[v4, .int .i64 0])) w4 := by
      intro v2 w2 h2 hk2
      have hk12 := hk1.trans hk2 (fun _ h => h.elim)
      obtain ⟨v3, w3, hr3, ho3, hk3, _, _⟩ := append_own (ty := 24) (xs := []) hk12 (own_keep ho1 hk2) h2 (by simp only [List.length_nil]; omega)
      rw [List.nil_append] at ho3
      refine ⟨v3, w3, hr3, crcOf_any (Byt.of_own ho3) (by omega), ?_⟩
      have hn := byt_new w3 (fourL (crcOf (rowL l))) (by simp [maxLen, fourL])
      obtain ⟨v4, w4, hr4, ho4, hk4, _, _⟩ := append_own (ty := 24) (Keep.alloc hk3 (.cells (byV (fourL (crcOf (rowL l)))).toArray 5)) (own_keep ho3 (Keep.alloc (Keep.refl _ w3) _)) hn (by simp only [fourL, List.length_cons, List.length_nil]; omega)
      exact ⟨v4, w4, hr4, v4, rfl, Byt.of_own ho4, hk4⟩
    rw [fourV] at hmid
    have HM := hid hmid
    obtain ⟨a, k, rfl⟩ := h.len
    clear h hmid hk1 ho1
    generalize hN : crcOf (rowL l) = n at *
    have h0 : IntKind.u8.wrap (n : Int) = ((n % 256 : Nat) : Int) := by rw [IntKind.wrap_u8]; omega
    have h1 : IntKind.u8.wrap ((n : Int) / 256) = ((n / 256 % 256 : Nat) : Int) := by rw [IntKind.wrap_u8]; omega
    have h2 : IntKind.u8.wrap ((n : Int) / 65536) = ((n / 65536 % 256 : Nat) : Int) := by rw [IntKind.wrap_u8]; omega
    have h3 : IntKind.u8.wrap ((n : Int) / 16777216) = ((n / 16777216 % 256 : Nat) : Int) := by rw [IntKind.wrap_u8]; omega
    clear hN hcl hrl
    generalize n % 256 = N0 at *
    generalize n / 256 % 256 = N1 at *
    generalize n / 65536 % 256 = N2 at *
    generalize n / 16777216 % 256 = N3 at *
    generalize (lebL l.length).length + l.length + 4 = CP at *
    generalize hL : l.length = L at *
    go_enter Tryz.func54, Tryz.ntmps54
    go_wp2_with (first
      | (go_at_call 101; refine hsize.mono ?_; rintro e w' ⟨rfl, rfl⟩)
      | (go_at_call 102; refine hrow.mono ?_; rintro e w2 ⟨v2, rfl, hb2, hk2⟩; obtain ⟨v3, w3, hr3, hcrc, v4, w4, hr4, FIN⟩ := HM.out v2 w2 hb2 hk2)
      | (go_at_call 103; refine hcrc.mono ?_; rintro e w' ⟨rfl, rfl⟩)
      | (at_builtin; refine wpList_append_run rfl _ _ _ rfl hr3 rfl rfl ?_)
      | (at_builtin; refine wpList_append_run rfl _ _ _ rfl hr4 rfl rfl ?_))
    all_goals first
      | (exfalso; omega)
      | (go_ret2
         exact FIN)

set_option maxRecDepth 100000 in
set_option maxHeartbeats 1600000 in
theorem refFramePut_any {v : Value} {l : List UInt8} (h : Byt w v l) (hl : l.length ≤ 70368744177664) : Calls Tryz.prog 58 #[v] w (RetBE w (frmPut l)) := by
  unfold frmPut
  by_cases hb : 65536 < l.length
  · rw [if_pos hb]
    have FIN := hid (show RetBE w ([], 3) (.returned (.tuple #[.slice none 0 0, .int .i64 3])) w from ⟨_, rfl, Byt.nil _, Keep.refl _ _⟩)
    obtain ⟨a, k, rfl⟩ := h.len
    clear h
    generalize l.length = L at *
    go_enter Tryz.func58, Tryz.ntmps58
    go_wp2_with fail
    all_goals first
      | (exfalso; omega)
      | (go_ret2
         exact FIN.out)
  · rw [if_neg hb]
    have hrow := refPutRow_any h hl
    have hrl := rowL_len (l := l) (by omega)
    have hmid : ∀ v2 w2, w2.ownsRow w.heap.size 5 1 v2 (rowL l).length (byV (rowL l)) → Keep (fun _ => False) w w2 → Calls Tryz.prog 108 #[v2] w2 (RetU32 w2 (crcOf (rowL l))) ∧ Calls Tryz.prog 107 #[.int .u32 (crcOf (rowL l) : Int)] w2 (RetOwn w2 (fourL (crcOf (rowL l)))) ∧
        ∀ v3 w3, Byt w3 v3 (fourL (crcOf (rowL l))) → Keep (fun _ => False) w2 w3 → ∃ v4 w4, (Builtin.append_ #[24, 24] 24 #[v2, v3]).run Tryz.prog w3 = .ok v4 w4 ∧ RetBE w (frameL l, 0) (.returned (.tuple #[v4, .int .i64 0])) w4 := by
      intro v2 w2 h2 hk2
      refine ⟨refOf_any (Byt.of_own h2) (by omega), refFour_any _ _, fun v3 w3 h3 hk3 => ?_⟩
      obtain ⟨v4, w4, hr4, ho4, hk4, _, _⟩ := append_own (ty := 24) (hk2.trans hk3 (fun _ h => h.elim)) (own_keep h2 hk3) h3 (by simp only [fourL, List.length_cons, List.length_nil]; omega)
      exact ⟨v4, w4, hr4, v4, rfl, Byt.of_own ho4, hk4⟩
    have HM := hid hmid
    obtain ⟨a, k, rfl⟩ := h.len
    clear h hmid
    generalize crcOf (rowL l) = n at *
    generalize hL : l.length = L at *
    go_enter Tryz.func58, Tryz.ntmps58
    go_wp2_with (first
      | (go_at_call 106; refine hrow.mono ?_; rintro e w2 ⟨v2, rfl, hb2, hk2⟩; obtain ⟨hof, hfour, hm3⟩ := HM.out v2 w2 hb2 hk2; have HM3 := hid hm3; clear hm3)
      | (go_at_call 108; refine hof.mono ?_; rintro e w' ⟨rfl, rfl⟩)
      | (go_at_call 107; refine hfour.mono ?_; rintro e w3 ⟨v3, rfl, hb3, hk3⟩; obtain ⟨v4, w4, hr4, FIN⟩ := HM3.out v3 w3 (Byt.of_own hb3) hk3)
      | (at_builtin; refine wpList_append_run rfl _ _ _ rfl hr4 rfl rfl ?_))
    all_goals first
      | (exfalso; omega)
      | (go_ret2
         exact FIN)

end
end Go.Stk

/- Frames: what is read. -/
namespace Go.Stk
open Go Go.RowKit Go.Proofs

/-- The payload of the frame at a place: it, the place behind, the error. -/
def frmGet (l : List UInt8) (at_ : Int) : List UInt8 × Int × Int :=
  if (rowGet l at_ 65536).2.2 ≠ 0 then ([], 0, (rowGet l at_ 65536).2.2)
  else if (l.length : Int) - (rowGet l at_ 65536).2.1 < 4 then ([], 0, 4)
  else if (l.drop (rowGet l at_ 65536).2.1.toNat).take 4 = fourL (crcOf ((l.drop at_.toNat).take ((rowGet l at_ 65536).2.1.toNat - at_.toNat))) then ((rowGet l at_ 65536).1, (rowGet l at_ 65536).2.1 + 4, 0) else ([], 0, 6)

theorem four_eq {n : Nat} (hn : n < 4294967296) (a b c d : UInt8) : [a, b, c, d] = fourL n ↔ n = a.toNat + b.toNat * 256 + c.toNat * 65536 + d.toNat * 16777216 := by
  have ha := a.toNat_lt
  have hb := b.toNat_lt
  have hc := c.toNat_lt
  have hd := d.toNat_lt
  unfold fourL
  simp only [List.cons.injEq, and_true, ← UInt8.toNat_inj, UInt8.toNat_ofNat']
  constructor
  · rintro ⟨h1, h2, h3, h4⟩; omega
  · intro h; omega

theorem or_add {a b k : Nat} (h : a < 2 ^ k) : a ||| (b * 2 ^ k) = a + b * 2 ^ k := by
  rw [Nat.or_comm, Nat.mul_comm b, ← Nat.two_pow_add_eq_or_of_lt h, Nat.add_comm]

theorem or_four (a b c d : Nat) (ha : a < 256) (hb : b < 256) (hc : c < 256) (hd : d < 256) :
    bits .or .u32 (bits .or .u32 (bits .or .u32 (a : Int) ((b : Int) * 256)) ((c : Int) * 65536)) ((d : Int) * 16777216) = ((a + b * 256 + c * 65536 + d * 16777216 : Nat) : Int) := by
  have e1 : (b : Int) * 256 = ((b * 256 : Nat) : Int) := by omega
  have e2 : (c : Int) * 65536 = ((c * 65536 : Nat) : Int) := by omega
  have e3 : (d : Int) * 16777216 = ((d * 16777216 : Nat) : Int) := by omega
  have h1 := or_add (a := a) (b := b) (k := 8) (by omega)
  have h2 := or_add (a := a + b * 256) (b := c) (k := 16) (by omega)
  have h3 := or_add (a := a + b * 256 + c * 65536) (b := d) (k := 24) (by omega)
  rw [e1, e2, e3, or_u32 _ _ (by omega) (by omega), show a ||| b * 256 = a + b * 256 from h1, or_u32 _ _ (by omega) (by omega), show a + b * 256 ||| c * 65536 = a + b * 256 + c * 65536 from h2,
    or_u32 _ _ (by omega) (by omega), show a + b * 256 + c * 65536 ||| d * 16777216 = _ from h3]

theorem take_four {l : List UInt8} {n : Nat} (h : n + 4 ≤ l.length) : ∃ a b c d, (l.drop n).take 4 = [a, b, c, d] ∧ l[n]? = some a ∧ l[n + 1]? = some b ∧ l[n + 2]? = some c ∧ l[n + 3]? = some d := by
  refine ⟨l[n], l[n + 1], l[n + 2], l[n + 3], ?_, by simp, by simp, by simp, by simp⟩
  rw [List.drop_eq_getElem_cons (by omega), List.drop_eq_getElem_cons (by omega), List.drop_eq_getElem_cons (by omega), List.drop_eq_getElem_cons (by omega)]
  rfl

section
variable {w : World}

set_option maxRecDepth 100000 in
set_option maxHeartbeats 3200000 in
theorem frameGet_any {v : Value} {l : List UInt8} (h : Byt w v l) (hl : l.length ≤ 70368744177664) (at_ : Int) :
    Calls Tryz.prog 59 #[v, .int .i64 at_] w (RetRow w (frmGet l at_)) := by
  have hrow := lebGetRow_any h hl at_ 65536 (by omega)
  have hok : (rowGet l at_ 65536).2.2 = 0 → _ := fun h => rowGet_ok h
  unfold frmGet
  generalize hr0 : rowGet l at_ 65536 = r at *
  obtain ⟨p, next, e⟩ := r
  simp only at hok hrow ⊢
  by_cases he : e = 0
  · subst he
    simp only [ne_eq, not_true_eq_false, if_false]
    obtain ⟨h0, h1, h2, h3⟩ := hok rfl
    clear hok hr0
    obtain ⟨at_, rfl⟩ : ∃ m : Nat, at_ = m := ⟨at_.toNat, by omega⟩
    obtain ⟨next, rfl⟩ : ∃ m : Nat, next = m := ⟨next.toNat, by omega⟩
    have hw : IntKind.i64.wrap ((l.length : Int) - (next : Int)) = (l.length : Int) - (next : Int) := IntWalk.i64_in _ (by omega)
    by_cases hs : (l.length : Int) - (next : Int) < 4
    · rw [if_pos hs]
      have FIN : ∀ w2, Keep (fun _ => False) w w2 → RetRow w ([], 0, 4) (.returned (.tuple #[.slice none 0 0, .int .i64 0, .int .i64 4])) w2 := fun w2 hk => ⟨_, rfl, Byt.nil _, hk⟩
      have HF := hid FIN
      obtain ⟨a, k, rfl⟩ := h.len
      clear h FIN
      generalize l.length = L at *
      go_enter Tryz.func59, Tryz.ntmps59
      go_wp2_with (go_at_call 109; refine hrow.mono ?_; rintro e w2 ⟨vp, rfl, hvp, hk2⟩; have HK2 := hid hk2; clear hk2 hvp)
      all_goals first
        | (exfalso; omega)
        | (go_ret3
           exact HF.out _ HK2.out)
    · rw [if_neg hs]
      simp only [Int.toNat_natCast]
      obtain ⟨s0, s1, s2, s3, hfour, q0, q1, q2, q3⟩ := take_four (l := l) (n := next) (by omega)
      have hcl := crcOf_lt ((l.drop at_).take (next - at_))
      obtain ⟨d, hsl, hd⟩ := h.part3 (i := at_) (k := next) (by omega) (by omega)
      obtain ⟨d2, hsl2, hd2⟩ := h.part3 (i := next) (k := next + 4) (by omega) (by omega)
      rw [Nat.add_sub_cancel_left, hfour] at hd2
      have hcrc : ∀ w2, Keep (fun _ => False) w w2 → Calls Tryz.prog 103 #[d] w2 (RetU32 w2 (crcOf ((l.drop at_).take (next - at_)))) := fun w2 hk => crcOf_any (hd.keep hk) (by rw [List.length_take, List.length_drop]; omega)
      have hb0 := s0.toNat_lt
      have hb1 := s1.toNat_lt
      have hb2 := s2.toNat_lt
      have hb3 := s3.toNat_lt
      have hor := or_four s0.toNat s1.toNat s2.toNat s3.toNat hb0 hb1 hb2 hb3
      obtain ⟨b, o, k2, hd2e, hcell0, _⟩ := hd2.at_ (i := 0) (c := s0) rfl
      have hcells : ∀ w2, Keep (fun _ => False) w w2 → w2.cell? ⟨b, o, none⟩ = some (.int .u8 (s0.toNat : Int)) ∧ w2.cell? ⟨b, o + 1, none⟩ = some (.int .u8 (s1.toNat : Int)) ∧ w2.cell? ⟨b, o + 2, none⟩ = some (.int .u8 (s2.toNat : Int)) ∧ w2.cell? ⟨b, o + 3, none⟩ = some (.int .u8 (s3.toNat : Int)) := by
        intro w2 hk
        have hx := hd2.keep hk
        have g : ∀ (i : Nat) (c : UInt8), [s0, s1, s2, s3][i]? = some c → w2.cell? ⟨b, o + i, none⟩ = some (.int .u8 (c.toNat : Int)) := by
          intro i c hi
          obtain ⟨b', o', k', e', hc, _⟩ := hx.at_ hi
          rw [hd2e] at e'
          injection e' with e1 _ _
          injection e1 with e1
          injection e1 with e4 e5 _
          subst e4; subst e5
          exact hc
        exact ⟨g 0 s0 rfl, g 1 s1 rfl, g 2 s2 rfl, g 3 s3 rfl⟩
      subst hd2e
      have hmk : ∀ (v2 : Value) (W2 : World), Byt W2 v2 p → Keep (fun _ => False) w W2 → ∃ W3 W4, (Instr.makeSlice 24 (.int .i64 (p.length : Int)) (.int .i64 (p.length : Int))).run Tryz.prog W2 = .ok (.slice (some ⟨W2.heap.size, 0, none⟩) p.length p.length) W3 ∧
          (Builtin.copy_ #[24, 24] 3 #[.slice (some ⟨W2.heap.size, 0, none⟩) p.length p.length, v2]).run Tryz.prog W3 = .ok (.int .i64 (p.length : Int)) W4 ∧ RetRow w (p, (next : Int) + 4, 0) (.returned (.tuple #[.slice (some ⟨W2.heap.size, 0, none⟩) p.length p.length, .int .i64 ((next : Int) + 4), .int .i64 0])) W4 := by
        intro v2 W2 hv2 hk2
        obtain ⟨W3, hr3, ho3, hk3⟩ := make_byt W2 p.length (by omega)
        obtain ⟨W4, hr4, ho4, hk4⟩ := copy_own (ty := 3) hk3 ho3 (hv2.keep hk3) (Nat.le_refl _)
        rw [List.take_length] at ho4
        exact ⟨W3, W4, hr3, hr4, _, rfl, Byt.of_own ho4, hk2.trans hk4 (fun _ h => h.elim)⟩
      have FIN : ∀ w2, Keep (fun _ => False) w w2 → RetRow w ([], 0, 6) (.returned (.tuple #[.slice none 0 0, .int .i64 0, .int .i64 6])) w2 := fun w2 hk => ⟨_, rfl, Byt.nil _, hk⟩
      have HF := hid FIN
      have HMK := hid hmk
      have HCELL := hid hcells
      have HCRC := hid hcrc
      have hiff := four_eq hcl s0 s1 s2 s3
      rw [← hfour] at hiff
      by_cases hsum : crcOf ((l.drop at_).take (next - at_)) = s0.toNat + s1.toNat * 256 + s2.toNat * 65536 + s3.toNat * 16777216
      · rw [if_pos (hiff.2 hsum)]
        generalize crcOf ((l.drop at_).take (next - at_)) = C at *
        generalize s0.toNat = B0 at *
        generalize s1.toNat = B1 at *
        generalize s2.toNat = B2 at *
        generalize s3.toNat = B3 at *
        have k0 : IntKind.u32.wrap (B0 : Int) = (B0 : Int) := by rw [IntKind.wrap_u32]; omega
        have k1 : IntKind.u32.wrap (B1 : Int) = (B1 : Int) := by rw [IntKind.wrap_u32]; omega
        have k2 : IntKind.u32.wrap (B2 : Int) = (B2 : Int) := by rw [IntKind.wrap_u32]; omega
        have k3 : IntKind.u32.wrap (B3 : Int) = (B3 : Int) := by rw [IntKind.wrap_u32]; omega
        have k4 : IntKind.u32.wrap ((B1 : Int) * 256) = (B1 : Int) * 256 := by rw [IntKind.wrap_u32]; omega
        have k5 : IntKind.u32.wrap ((B2 : Int) * 65536) = (B2 : Int) * 65536 := by rw [IntKind.wrap_u32]; omega
        have k6 : IntKind.u32.wrap ((B3 : Int) * 16777216) = (B3 : Int) * 16777216 := by rw [IntKind.wrap_u32]; omega
        have hw4 : IntKind.i64.wrap ((next : Int) + 4) = ((next + 4 : Nat) : Int) := by rw [IntWalk.i64_in _ (by omega)]; omega
        have hn4 : (next : Int) + 4 = ((next + 4 : Nat) : Int) := by omega
        generalize B0 + B1 * 256 + B2 * 65536 + B3 * 16777216 = N at *
        have hpl : (p.length : Int) ≤ 65536 := h0
        clear hmk hcells hcrc hfour hiff q0 q1 q2 q3 hd hd2 hcell0 FIN
        obtain ⟨a, k, rfl⟩ := h.len
        clear h
        generalize l.length = L at *
        have hz : ((C : Int) != (N : Int)) = false := by simp [hsum]
        clear hsum
        rw [hn4] at HMK ⊢
        clear hn4
        generalize next + 4 = NX at *
        go_enter Tryz.func59, Tryz.ntmps59
        go_wp2_with (go_at_call 109; refine hrow.mono ?_; rintro e w2 ⟨vp, rfl, hvp, hk2⟩; obtain ⟨c0, c1, c2, c3⟩ := HCELL.out w2 hk2; have HK2 := hid hk2; have HVP := hid hvp; obtain ⟨pa, pc, hvpe⟩ := hvp.len; subst hvpe; clear hk2 hvp)
        all_goals try (exfalso; omega)
        go_quiet ((go_at_call 103; exact Calls.quiet_of_same ((HCRC.out _ (HK2.out.drewN _)).mono (fun e w' h => ⟨h.1, h.2.symm⟩))))
        obtain ⟨W3, W4, hr3, hr4, FIN2⟩ := HMK.out _ (w2.drewN nq) (HVP.out.drewN nq) (HK2.out.drewN nq)
        generalize w2.drewN nq = W2 at *
        go_wp2_with (at_builtin; refine wpList_copy_run rfl _ _ _ rfl hr4 rfl rfl ?_)
        all_goals first
          | (exfalso; omega)
          | (go_ret3
             exact FIN2)
      · rw [if_neg (fun hx => hsum (hiff.1 hx))]
        generalize crcOf ((l.drop at_).take (next - at_)) = C at *
        generalize s0.toNat = B0 at *
        generalize s1.toNat = B1 at *
        generalize s2.toNat = B2 at *
        generalize s3.toNat = B3 at *
        have k0 : IntKind.u32.wrap (B0 : Int) = (B0 : Int) := by rw [IntKind.wrap_u32]; omega
        have k1 : IntKind.u32.wrap (B1 : Int) = (B1 : Int) := by rw [IntKind.wrap_u32]; omega
        have k2 : IntKind.u32.wrap (B2 : Int) = (B2 : Int) := by rw [IntKind.wrap_u32]; omega
        have k3 : IntKind.u32.wrap (B3 : Int) = (B3 : Int) := by rw [IntKind.wrap_u32]; omega
        have k4 : IntKind.u32.wrap ((B1 : Int) * 256) = (B1 : Int) * 256 := by rw [IntKind.wrap_u32]; omega
        have k5 : IntKind.u32.wrap ((B2 : Int) * 65536) = (B2 : Int) * 65536 := by rw [IntKind.wrap_u32]; omega
        have k6 : IntKind.u32.wrap ((B3 : Int) * 16777216) = (B3 : Int) * 16777216 := by rw [IntKind.wrap_u32]; omega
        have hw4 : IntKind.i64.wrap ((next : Int) + 4) = ((next + 4 : Nat) : Int) := by rw [IntWalk.i64_in _ (by omega)]; omega
        have hn4 : (next : Int) + 4 = ((next + 4 : Nat) : Int) := by omega
        generalize B0 + B1 * 256 + B2 * 65536 + B3 * 16777216 = N at *
        have hpl : (p.length : Int) ≤ 65536 := h0
        clear hmk hcells hcrc hfour hiff q0 q1 q2 q3 hd hd2 hcell0 FIN
        obtain ⟨a, k, rfl⟩ := h.len
        clear h
        generalize l.length = L at *
        have hz : ((C : Int) != (N : Int)) = true := by simp; omega
        clear hsum hn4 HMK
        generalize next + 4 = NX at *
        go_enter Tryz.func59, Tryz.ntmps59
        go_wp2_with (go_at_call 109; refine hrow.mono ?_; rintro e w2 ⟨vp, rfl, hvp, hk2⟩; obtain ⟨c0, c1, c2, c3⟩ := HCELL.out w2 hk2; have HK2 := hid hk2; have HVP := hid hvp; obtain ⟨pa, pc, hvpe⟩ := hvp.len; subst hvpe; clear hk2 hvp)
        all_goals try (exfalso; omega)
        go_quiet ((go_at_call 103; exact Calls.quiet_of_same ((HCRC.out _ (HK2.out.drewN _)).mono (fun e w' h => ⟨h.1, h.2.symm⟩))))
        have FIN2 := HF.out _ (HK2.out.drewN nq)
        generalize w2.drewN nq = W2 at *
        go_wp2
        all_goals first
          | (exfalso; omega)
          | (go_ret3
             exact FIN2)
  · rw [if_pos he]
    have FIN : ∀ w2, Keep (fun _ => False) w w2 → RetRow w ([], 0, e) (.returned (.tuple #[.slice none 0 0, .int .i64 0, .int .i64 e])) w2 := fun w2 hk => ⟨_, rfl, Byt.nil _, hk⟩
    have HF := hid FIN
    have hz : (e != 0) = true := by simpa using he
    clear hok he h FIN
    go_enter Tryz.func59, Tryz.ntmps59
    go_wp2_with (go_at_call 109; refine hrow.mono ?_; rintro e w2 ⟨vp, rfl, hvp, hk2⟩; have HK2 := hid hk2; clear hk2 hvp)
    go_ret3
    exact HF.out _ HK2.out

end
end Go.Stk

/- Frames: what the document's way reads. -/
namespace Go.Stk
open Go Go.RowKit Go.Proofs

section
variable {w : World}

set_option maxRecDepth 100000 in
set_option maxHeartbeats 3200000 in
theorem refFrameGet_any {v : Value} {l : List UInt8} (h : Byt w v l) (hl : l.length ≤ 70368744177664) (at_ : Int) :
    Calls Tryz.prog 61 #[v, .int .i64 at_] w (RetRow w (frmGet l at_)) := by
  have hrow := refGetRow_any h hl at_ 65536 (by omega)
  have hok : (rowGet l at_ 65536).2.2 = 0 → _ := fun h => rowGet_ok h
  unfold frmGet
  generalize hr0 : rowGet l at_ 65536 = r at *
  obtain ⟨p, next, e⟩ := r
  simp only at hok hrow ⊢
  by_cases he : e = 0
  · subst he
    simp only [ne_eq, not_true_eq_false, if_false]
    obtain ⟨h0, h1, h2, h3⟩ := hok rfl
    clear hok hr0
    obtain ⟨at_, rfl⟩ : ∃ m : Nat, at_ = m := ⟨at_.toNat, by omega⟩
    obtain ⟨next, rfl⟩ : ∃ m : Nat, next = m := ⟨next.toNat, by omega⟩
    have hw : IntKind.i64.wrap ((l.length : Int) - (next : Int)) = (l.length : Int) - (next : Int) := IntWalk.i64_in _ (by omega)
    by_cases hs : (l.length : Int) - (next : Int) < 4
    · rw [if_pos hs]
      have FIN : ∀ w2, Keep (fun _ => False) w w2 → RetRow w ([], 0, 4) (.returned (.tuple #[.slice none 0 0, .int .i64 0, .int .i64 4])) w2 := fun w2 hk => ⟨_, rfl, Byt.nil _, hk⟩
      have HF := hid FIN
      obtain ⟨a, k, rfl⟩ := h.len
      clear h FIN
      generalize l.length = L at *
      go_enter Tryz.func61, Tryz.ntmps61
      go_wp2_with (go_at_call 110; refine hrow.mono ?_; rintro e w2 ⟨vp, rfl, hvp, hk2⟩; have HK2 := hid hk2; clear hk2 hvp)
      all_goals first
        | (exfalso; omega)
        | (go_ret3
           exact HF.out _ HK2.out)
    · rw [if_neg hs]
      simp only [Int.toNat_natCast]
      have hcl := crcOf_lt ((l.drop at_).take (next - at_))
      obtain ⟨d, hsl, hd⟩ := h.part (i := at_) (k := next) (by omega) (by omega)
      have hcrc : ∀ w2, Keep (fun _ => False) w w2 → Calls Tryz.prog 108 #[d] w2 (RetU32 w2 (crcOf ((l.drop at_).take (next - at_)))) := fun w2 hk => refOf_any (hd.keep hk) (by rw [List.length_take, List.length_drop]; omega)
      have hfour := fun w2 => refFour_any (crcOf ((l.drop at_).take (next - at_))) w2
      have FIN : ∀ w2, Keep (fun _ => False) w w2 → RetRow w ([], 0, 6) (.returned (.tuple #[.slice none 0 0, .int .i64 0, .int .i64 6])) w2 := fun w2 hk => ⟨_, rfl, Byt.nil _, hk⟩
      have FOK : ∀ v2 w2, Byt w2 v2 p → Keep (fun _ => False) w w2 → RetRow w (p, (next : Int) + 4, 0) (.returned (.tuple #[v2, .int .i64 ((next : Int) + 4), .int .i64 0])) w2 := fun v2 w2 h2 hk => ⟨_, rfl, h2, hk⟩
      have hpost : ∃ R : List UInt8 × Int × Int, (if (l.drop next).take 4 = fourL (crcOf ((l.drop at_).take (next - at_))) then (p, (next : Int) + 4, 0) else ([], 0, 6)) = R ∧ ((l.drop next).take 4 = fourL (crcOf ((l.drop at_).take (next - at_))) → R = (p, (next : Int) + 4, 0)) ∧ (¬ (l.drop next).take 4 = fourL (crcOf ((l.drop at_).take (next - at_))) → R = ([], 0, 6)) :=
        ⟨_, rfl, fun h => by rw [if_pos h], fun h => by rw [if_neg h]⟩
      obtain ⟨R, hR0, hR1, hR2⟩ := hpost
      rw [hR0]
      clear hR0
      have hl4 : (fourL (crcOf ((l.drop at_).take (next - at_)))).length = 4 := rfl
      have hT4 : ((l.drop next).take 4).length = 4 := by rw [List.length_take, List.length_drop]; omega
      have hTl : ∀ i, i < 4 → ((l.drop next).take 4)[i]? = l[next + i]? := fun i hi => by rw [List.getElem?_take, if_pos hi, List.getElem?_drop]
      have HBY := hid h
      have HF := hid FIN
      have HOK := hid FOK
      have HCRC := hid hcrc
      have HTL := hid hTl
      have H1 := hid hR1
      have H2 := hid hR2
      have HT4 := hid hT4
      generalize hT : (l.drop next).take 4 = T at *
      have hwx : ∀ i : Nat, i < 4 → IntKind.i64.wrap ((next : Int) + (i : Int)) = ((next + i : Nat) : Int) := fun i hi => by rw [IntWalk.i64_in _ (by omega)]; omega
      have HWX := hid hwx
      have hw4 : IntKind.i64.wrap ((next : Int) + 4) = (next : Int) + 4 := IntWalk.i64_in _ (by omega)
      obtain ⟨a, k, rfl⟩ := h.len
      have hL4 : next + 4 ≤ l.length := by omega
      clear h hd hcrc FIN FOK hR1 hR2 hT4 hTl hT hwx
      generalize crcOf ((l.drop at_).take (next - at_)) = C at *
      have HL4 := hid hl4
      clear hl4
      generalize hLL : l.length = L at *
      go_enter Tryz.func61, Tryz.ntmps61
      go_wp2_with (first
        | (go_at_call 110; refine hrow.mono ?_; rintro e w2 ⟨vp, rfl, hvp, hk2⟩; have hof := HCRC.out w2 hk2; have hfw := hfour w2; have HK2 := hid hk2; have HVP := hid hvp; clear hk2 hvp)
        | (go_at_call 108; refine hof.mono ?_; rintro e w' ⟨rfl, rfl⟩)
        | (go_at_call 107; refine hfw.mono ?_; rintro e w3 ⟨v3, rfl, hv3, hk3⟩; have HK3 := hid (HK2.out.trans hk3 (fun _ h => h.elim)); have HB3 := hid (Byt.of_own hv3); have HP3 := hid (HVP.out.keep hk3); clear hv3 hk3))
      all_goals try (exfalso; omega)
      go_loopg [11] 4 (fun m y wr => ∃ i nq, m = 4 - i ∧ i ≤ 4 ∧ y = .int .i64 ((i : Nat) : Int) ∧ wr = w3.drewN nq ∧ ∀ j, j < i → T[j]? = (fourL C)[j]?)
      case atStart => exact ⟨0, 0, rfl, by omega, rfl, rfl, fun j hj => by omega⟩
      case round =>
        obtain ⟨i, nq, hm, hi, rfl, rfl, heq⟩ := hrel
        by_cases h4 : i = 4
        · have hTF : T = fourL C := by
            apply List.ext_getElem?
            intro j
            by_cases hj : j < 4
            · exact heq j (by omega)
            · rw [List.getElem?_eq_none (by have := HT4.out; omega), List.getElem?_eq_none (by have := HL4.out; omega)]
          have hRR := H1.out hTF
          subst hRR
          subst h4
          have FIN2 := HOK.out _ _ (HP3.out.drewN nq) (HK3.out.drewN nq)
          generalize w3.drewN nq = W3 at *
          clear heq hTF
          go_wp2
          go_ret3
          exact FIN2
        · have hi4 : i < 4 := by omega
          obtain ⟨x, hx⟩ : ∃ x, T[i]? = some x := ⟨T[i]'(by have := HT4.out; omega), by simp⟩
          obtain ⟨y, hy⟩ : ∃ y, (fourL C)[i]? = some y := ⟨(fourL C)[i]'(by have := HL4.out; omega), by simp⟩
          have hxl : l[next + i]? = some x := by rw [← HTL.out i hi4]; exact hx
          obtain ⟨b, o, k2, he1, hc1, hlt1⟩ := ((HBY.out.keep HK3.out).drewN nq).at_ hxl
          obtain ⟨b3, o3, k3, he3, hc3, hlt3⟩ := (HB3.out.drewN nq).at_ hy
          injection he1 with e1 e2 e3
          subst e1
          subst e3
          clear e2
          have hw1 := HWX.out i hi4
          have hii : (i : Int) < 4 := by omega
          have hin : ¬ (4 : Int) ≤ (i : Int) := by omega
          rw [show (fourL C).length = 4 from rfl] at he3
          subst he3
          have HX := hid (And.intro hx hy)
          have hxx := x.toNat_lt
          have hyy := y.toNat_lt
          by_cases hxy : x = y
          · subst hxy
            have HREL := hid (show ∀ j, j < i + 1 → T[j]? = (fourL C)[j]? from fun j hj => by
              by_cases e : j = i
              · subst e; rw [HX.out.1, HX.out.2]
              · exact heq j (by omega))
            have hI1 : IntKind.i64.wrap ((i : Int) + 1) = ((i + 1 : Nat) : Int) := by rw [IntWalk.i64_in _ (by omega)]; omega
            have hmm : 4 - (i + 1) < gk := by omega
            have HI := hid (show i + 1 ≤ 4 by omega)
            generalize x.toNat = X at *
            generalize hni : next + i = NI at *
            generalize hi1 : i + 1 = I1 at *
            clear heq hx hy hxl hm hlt1 hlt3 h4 hi4 hfour
            generalize hW3 : w3.drewN nq = W3 at *
            have HW3 := hid hW3
            clear hW3
            go_wp2_with fail
            go_quiet (fail)
            go_wp2
            go_roundg (4 - I1)
            case measure => exact hmm
            case rel => exact ⟨I1, _, rfl, HI.out, rfl, by rw [← HW3.out, World.drewN_drewN], HREL.out⟩
          · have hRR := H2.out (fun e => hxy (by
              have := HX.out
              rw [e] at this
              exact Option.some.inj (this.1.symm.trans this.2)))
            subst hRR
            have hne : x.toNat ≠ y.toNat := fun e => hxy (UInt8.toNat_inj.1 e)
            have hnz : ((x.toNat : Int) != (y.toNat : Int)) = true := by simp; omega
            have HK4 := hid (HK3.out.drewN nq)
            generalize x.toNat = X at *
            generalize y.toNat = Y at *
            generalize hni : next + i = NI at *
            clear heq hx hy hxl hm hlt1 hlt3 h4 hi4 hfour hxy
            generalize w3.drewN nq = W3 at *
            go_wp2_with fail
            go_quiet (fail)
            have FIN2 := HF.out _ (HK4.out.drewN nq)
            generalize W3.drewN nq = W4 at *
            go_wp2
            go_ret3
            exact FIN2
  · rw [if_pos he]
    have FIN : ∀ w2, Keep (fun _ => False) w w2 → RetRow w ([], 0, e) (.returned (.tuple #[.slice none 0 0, .int .i64 0, .int .i64 e])) w2 := fun w2 hk => ⟨_, rfl, Byt.nil _, hk⟩
    have HF := hid FIN
    have hz : (e != 0) = true := by simpa using he
    clear hok he h FIN
    go_enter Tryz.func61, Tryz.ntmps61
    go_wp2_with (go_at_call 110; refine hrow.mono ?_; rintro e w2 ⟨vp, rfl, hvp, hk2⟩; have HK2 := hid hk2; clear hk2 hvp)
    go_ret3
    exact HF.out _ HK2.out

end
end Go.Stk

/- What the statements share: the same bytes, the same texts. -/
namespace Go.Stk
open Go Go.RowKit Go.Proofs

theorem keep0_trans {a b c : World} (h : Keep (fun _ => False) a b) (k : Keep (fun _ => False) b c) : Keep (fun _ => False) a c := h.trans k (fun _ h => h.elim)

theorem toList_inj {a b : ByteArray} (h : a.toList = b.toList) : a = b := by
  rw [ByteArray.toList_eq, ByteArray.toList_eq] at h
  cases a; cases b
  simp only at h
  rw [Array.toList_inj] at h
  rw [h]

section
variable {w : World}

theorem Txt.at_ {v : Value} {l : List ByteArray} (h : Txt w v l) {i : Nat} {c : ByteArray} (hi : l[i]? = some c) : ∃ b o k, v = .slice (some ⟨b, o, none⟩) l.length k ∧ w.cell? ⟨b, o + i, none⟩ = some (.string c) ∧ i < l.length := by
  have hl := (List.getElem?_eq_some_iff.1 hi).1
  rcases h.2 with ⟨h1, _⟩ | ⟨b, o, cap, cur, fr, rfl, hb, h1, h2, h3, h4⟩
  · omega
  · exact ⟨b, o, cap, rfl, by rw [cell_of hb, h4 i (.string c) (by simp [strV, hi])], hl⟩

/-- A call answers whether; nothing has changed. -/
def RetYes (w : World) (p : Bool) (e : Ending) (w' : World) : Prop := e = .returned (.bool p) ∧ ∃ nq, w' = w.drewN nq

theorem byt_drewN {v : Value} {l : List UInt8} (h : Byt w v l) (n : Nat) : Byt (w.drewN n) v l := h
theorem txt_drewN {v : Value} {l : List ByteArray} (h : Txt w v l) (n : Nat) : Txt (w.drewN n) v l := h

set_option maxRecDepth 100000 in
set_option maxHeartbeats 1600000 in
theorem Same_any {va vb : Value} {la lb : List UInt8} (ha : Byt w va la) (hb : Byt w vb lb) (hl : la.length ≤ 70368744177664) : Calls Tryz.prog 13 #[va, vb] w (RetYes w (decide (la = lb))) := by
  have HA := hid ha
  have HB := hid hb
  obtain ⟨aa, ka, _, rfl⟩ : ∃ a k, True ∧ va = .slice a la.length k := by
    obtain ⟨a, k, h1, _⟩ := Sl.form ha
    exact ⟨a, k, trivial, h1⟩
  obtain ⟨ab, kb, _, rfl⟩ : ∃ a k, True ∧ vb = .slice a lb.length k := by
    obtain ⟨a, k, h1, _⟩ := Sl.form hb
    exact ⟨a, k, trivial, h1⟩
  clear ha hb
  by_cases hlen : la.length = lb.length
  · have hlz : ((la.length : Int) != (lb.length : Int)) = false := by simp [hlen]
    generalize hR : decide (la = lb) = R at *
    have HR := hid hR
    have HLN := hid hlen
    generalize hLA : la.length = LA at *
    generalize hLB : lb.length = LB at *
    have HLA := hid hLA
    have HLB := hid hLB
    clear hR hlen hLA hLB
    go_enter Tryz.func13, Tryz.ntmps13
    go_wp2
    all_goals try (exfalso; omega)
    go_loopg [5] LA (fun m y wr => ∃ i nq, m = LA - i ∧ i ≤ LA ∧ y = .int .i64 ((i : Nat) : Int) ∧ wr = w.drewN nq ∧ ∀ j, j < i → la[j]? = lb[j]?)
    case atStart => exact ⟨0, 0, rfl, by omega, rfl, rfl, fun j hj => by omega⟩
    case round =>
      obtain ⟨i, nq, hm, hi, rfl, rfl, heq⟩ := hrel
      by_cases hlt : i = LA
      · have e : la = lb := by
          apply List.ext_getElem?
          intro j
          by_cases hj : j < LA
          · exact heq j (by omega)
          · rw [List.getElem?_eq_none (by have := HLA.out; omega), List.getElem?_eq_none (by have := HLB.out; have := HLN.out; omega)]
        have hRT : true = R := by rw [← HR.out]; simp [e]
        subst hRT
        have hge : ¬ ((i : Int) < (LA : Int)) := by omega
        have FIN := hid (show RetYes w true (.returned (.bool true)) (w.drewN nq) from ⟨rfl, nq, rfl⟩)
        generalize w.drewN nq = W at *
        clear heq e hlt
        go_wp2
        all_goals first
          | (exfalso; omega)
          | (go_ret
             exact FIN.out)
      · have hilt : i < LA := by omega
        obtain ⟨x, hx⟩ : ∃ x, la[i]? = some x := ⟨la[i]'(by have := HLA.out; omega), by simp⟩
        obtain ⟨y, hy⟩ : ∃ y, lb[i]? = some y := ⟨lb[i]'(by have := HLB.out; have := HLN.out; omega), by simp⟩
        obtain ⟨b, o, k2, he1, hc1, hlt1⟩ := (byt_drewN HA.out nq).at_ hx
        obtain ⟨b3, o3, k3, he3, hc3, hlt3⟩ := (byt_drewN HB.out nq).at_ hy
        injection he1 with e1 e2 e3
        injection he3 with e4 e5 e6
        subst e1
        subst e3
        subst e4
        subst e6
        clear e2 e5
        have hii : (i : Int) < (LA : Int) := by omega
        have hii2 : (i : Int) < (LB : Int) := by have := HLN.out; omega
        have hii0 : (0 : Int) ≤ (i : Int) := by omega
        by_cases hxy : x = y
        · subst hxy
          have HREL := hid (show ∀ j, j < i + 1 → la[j]? = lb[j]? from fun j hj => by
            by_cases e : j = i
            · subst e; rw [hx, hy]
            · exact heq j (by omega))
          have hI1 : IntKind.i64.wrap ((i : Int) + 1) = ((i + 1 : Nat) : Int) := by rw [IntWalk.i64_in _ (by omega)]; omega
          have hmm : LA - (i + 1) < gk := by omega
          have HI := hid (show i + 1 ≤ LA by omega)
          generalize x.toNat = X at *
          generalize i + 1 = I1 at *
          clear heq hx hy hm hlt1 hlt3 hilt hlt
          generalize hW : w.drewN nq = W at *
          have HW := hid hW
          clear hW
          go_wp2_with fail
          go_quiet (fail)
          go_wp2
          go_roundg (LA - I1)
          case measure => exact hmm
          case rel => exact ⟨I1, _, rfl, HI.out, rfl, by rw [← HW.out, World.drewN_drewN], HREL.out⟩
        · have hRF : false = R := by
            rw [← HR.out]
            symm
            refine decide_eq_false (fun e => hxy ?_)
            rw [e] at hx
            exact Option.some.inj (hx.symm.trans hy)
          subst hRF
          have hne : x.toNat ≠ y.toNat := fun e => hxy (UInt8.toNat_inj.1 e)
          have hnz : ((x.toNat : Int) != (y.toNat : Int)) = true := by simp; omega
          generalize x.toNat = X at *
          generalize y.toNat = Y at *
          clear heq hx hy hm hlt1 hlt3 hilt hlt hxy
          generalize hW : w.drewN nq = W at *
          have HW := hid hW
          clear hW
          go_wp2_with fail
          go_quiet (fail)
          go_wp2
          all_goals first
            | (exfalso; omega)
            | (go_ret
               exact ⟨rfl, _, by rw [← HW.out, World.drewN_drewN]⟩)
  · have hd : decide (la = lb) = false := decide_eq_false (fun e => hlen (by rw [e]))
    rw [hd]
    have hlz : ((la.length : Int) != (lb.length : Int)) = true := by simp; omega
    have FIN := hid (show RetYes w false (.returned (.bool false)) w from ⟨rfl, 0, rfl⟩)
    clear hd
    generalize la.length = LA at *
    generalize lb.length = LB at *
    go_enter Tryz.func13, Tryz.ntmps13
    go_wp2
    all_goals first
      | (exfalso; omega)
      | (go_ret
         exact FIN.out)

set_option maxRecDepth 100000 in
set_option maxHeartbeats 1600000 in
theorem Texts_any {va vb : Value} {la lb : List ByteArray} (ha : Txt w va la) (hb : Txt w vb lb) (hl : la.length ≤ 70368744177664) : Calls Tryz.prog 25 #[va, vb] w (RetYes w (decide (la = lb))) := by
  have HA := hid ha
  have HB := hid hb
  obtain ⟨aa, ka, _, rfl⟩ : ∃ a k, True ∧ va = .slice a la.length k := by
    obtain ⟨a, k, h1, _⟩ := Sl.form ha
    exact ⟨a, k, trivial, h1⟩
  obtain ⟨ab, kb, _, rfl⟩ : ∃ a k, True ∧ vb = .slice a lb.length k := by
    obtain ⟨a, k, h1, _⟩ := Sl.form hb
    exact ⟨a, k, trivial, h1⟩
  clear ha hb
  by_cases hlen : la.length = lb.length
  · have hlz : ((la.length : Int) != (lb.length : Int)) = false := by simp [hlen]
    generalize hR : decide (la = lb) = R at *
    have HR := hid hR
    have HLN := hid hlen
    generalize hLA : la.length = LA at *
    generalize hLB : lb.length = LB at *
    have HLA := hid hLA
    have HLB := hid hLB
    clear hR hlen hLA hLB
    go_enter Tryz.func25, Tryz.ntmps25
    go_wp2
    all_goals try (exfalso; omega)
    go_loopg [5] LA (fun m y wr => ∃ i nq, m = LA - i ∧ i ≤ LA ∧ y = .int .i64 ((i : Nat) : Int) ∧ wr = w.drewN nq ∧ ∀ j, j < i → la[j]? = lb[j]?)
    case atStart => exact ⟨0, 0, rfl, by omega, rfl, rfl, fun j hj => by omega⟩
    case round =>
      obtain ⟨i, nq, hm, hi, rfl, rfl, heq⟩ := hrel
      by_cases hlt : i = LA
      · have e : la = lb := by
          apply List.ext_getElem?
          intro j
          by_cases hj : j < LA
          · exact heq j (by omega)
          · rw [List.getElem?_eq_none (by have := HLA.out; omega), List.getElem?_eq_none (by have := HLB.out; have := HLN.out; omega)]
        have hRT : true = R := by rw [← HR.out]; simp [e]
        subst hRT
        have hge : ¬ ((i : Int) < (LA : Int)) := by omega
        have FIN := hid (show RetYes w true (.returned (.bool true)) (w.drewN nq) from ⟨rfl, nq, rfl⟩)
        generalize w.drewN nq = W at *
        clear heq e hlt
        go_wp2
        all_goals first
          | (exfalso; omega)
          | (go_ret
             exact FIN.out)
      · have hilt : i < LA := by omega
        obtain ⟨x, hx⟩ : ∃ x, la[i]? = some x := ⟨la[i]'(by have := HLA.out; omega), by simp⟩
        obtain ⟨y, hy⟩ : ∃ y, lb[i]? = some y := ⟨lb[i]'(by have := HLB.out; have := HLN.out; omega), by simp⟩
        obtain ⟨b, o, k2, he1, hc1, hlt1⟩ := (txt_drewN HA.out nq).at_ hx
        obtain ⟨b3, o3, k3, he3, hc3, hlt3⟩ := (txt_drewN HB.out nq).at_ hy
        injection he1 with e1 e2 e3
        injection he3 with e4 e5 e6
        subst e1
        subst e3
        subst e4
        subst e6
        clear e2 e5
        have hii : (i : Int) < (LA : Int) := by omega
        have hii2 : (i : Int) < (LB : Int) := by have := HLN.out; omega
        have hii0 : (0 : Int) ≤ (i : Int) := by omega
        by_cases hxy : x = y
        · subst hxy
          have HREL := hid (show ∀ j, j < i + 1 → la[j]? = lb[j]? from fun j hj => by
            by_cases e : j = i
            · subst e; rw [hx, hy]
            · exact heq j (by omega))
          have hI1 : IntKind.i64.wrap ((i : Int) + 1) = ((i + 1 : Nat) : Int) := by rw [IntWalk.i64_in _ (by omega)]; omega
          have hmm : LA - (i + 1) < gk := by omega
          have HI := hid (show i + 1 ≤ LA by omega)
          generalize i + 1 = I1 at *
          clear heq hx hy hm hlt1 hlt3 hilt hlt
          generalize hW : w.drewN nq = W at *
          have HW := hid hW
          clear hW
          go_wp2_with fail
          go_quiet (fail)
          go_wp2
          go_roundg (LA - I1)
          case measure => exact hmm
          case rel => exact ⟨I1, _, rfl, HI.out, rfl, by rw [← HW.out, World.drewN_drewN], HREL.out⟩
        · have hRF : false = R := by
            rw [← HR.out]
            symm
            refine decide_eq_false (fun e => hxy ?_)
            rw [e] at hx
            exact Option.some.inj (hx.symm.trans hy)
          subst hRF
          have hnz : (x.toList == y.toList) = false := beq_false_of_ne (fun e => hxy (toList_inj e))
          clear heq hx hy hm hlt1 hlt3 hilt hlt hxy
          generalize hW : w.drewN nq = W at *
          have HW := hid hW
          clear hW
          go_wp2_with fail
          go_quiet (fail)
          go_wp2
          all_goals first
            | (exfalso; omega)
            | (go_ret
               exact ⟨rfl, _, by rw [← HW.out, World.drewN_drewN]⟩)
  · have hd : decide (la = lb) = false := decide_eq_false (fun e => hlen (by rw [e]))
    rw [hd]
    have hlz : ((la.length : Int) != (lb.length : Int)) = true := by simp; omega
    have FIN := hid (show RetYes w false (.returned (.bool false)) w from ⟨rfl, 0, rfl⟩)
    clear hd
    generalize la.length = LA at *
    generalize lb.length = LB at *
    go_enter Tryz.func25, Tryz.ntmps25
    go_wp2
    all_goals first
      | (exfalso; omega)
      | (go_ret
         exact FIN.out)

end
end Go.Stk

/- What the statements share: room behind bytes. -/
namespace Go.Stk
open Go Go.RowKit Go.Proofs

section
variable {w : World}

/-- What Wide makes. -/
def IsWide (w : World) (v : Value) (l : List UInt8) : Prop := ∃ g, v = .slice (some ⟨g, 0, none⟩) l.length (l.length + 3) ∧ w.heap[g]? = some (.cells (byV (l ++ [7, 7, 7])).toArray 5 (0, 0)) ∧ l.length ≤ 70368744177664

theorem IsWide.byt {v : Value} {l : List UInt8} (h : IsWide w v l) : Byt w v l := by
  obtain ⟨g, rfl, hg, hl⟩ := h
  refine ⟨by simp [byV], .inr ⟨g, 0, l.length + 3, _, (⟨_, imm_u8⟩, _), rfl, hg, by omega, by unfold maxLen; omega, by simp [byV], fun i x hx => ?_⟩⟩
  have hi : i < l.length := by
    have := (List.getElem?_eq_some_iff.1 hx).1
    rwa [byV_length] at this
  simp only [List.getElem?_toArray, Nat.zero_add, byV_append]
  rw [List.getElem?_append_left (by rw [byV_length]; exact hi)]
  exact hx

theorem IsWide.keep {w' : World} {v : Value} {l : List UInt8} {F : Nat → Prop} (h : IsWide w v l) (k : Keep F w w') : IsWide w' v l := by
  obtain ⟨g, rfl, hg, hl⟩ := h
  exact ⟨g, rfl, (k.imm g _ _ _ (lt_of hg) hg imm_u8).trans hg, hl⟩

theorem set_byV (xs : List UInt8) (i : Nat) : (byV xs).toArray.setIfInBounds i (.int .u8 7) = (byV (xs.set i 7)).toArray := by
  simp only [List.setIfInBounds_toArray, byV]
  congr 1
  rw [List.map_set]
  rfl

set_option maxRecDepth 100000 in
set_option maxHeartbeats 1600000 in
theorem Wide_any {v : Value} {l : List UInt8} (h : Byt w v l) (hl : l.length ≤ 70368744177664) : Calls Tryz.prog 14 #[v] w fun e w' => ∃ v', e = .returned v' ∧ IsWide w' v' l ∧ Keep (fun _ => False) w w' := by
  obtain ⟨w1, hr1, ho1, hk1⟩ := make_byt w (l.length + 3) (by omega)
  obtain ⟨w2, hr2, ho2, hg2, hs2⟩ := run_copy_byt (ty := 3) (own_zero ho1) (h.keep hk1) (Nat.zero_le (l.length + 3))
  have e : sliced (some ⟨w.heap.size, 0, none⟩) 0 (l.length + 3) (l.length + 3) 1 = .slice (some ⟨w.heap.size, 0, none⟩) (l.length + 3) (l.length + 3) := by
    unfold sliced; simp [add_addr]
  have e2 : min l.length (l.length + 3 - 0) = l.length := by omega
  have e3 : over (List.replicate (l.length + 3) 0) 0 (l.take (l.length + 3 - 0)) = l ++ [0, 0, 0] := by
    unfold over
    rw [List.take_zero, List.nil_append, List.take_of_length_le (by omega), Nat.zero_add, List.drop_replicate, Nat.add_sub_cancel_left]
    rfl
  rw [e, e2] at hr2
  rw [e3] at ho2
  have hk2 : Keep (fun _ => False) w w2 := KeepN.row hk1 hg2 hk1.size (fun k hk => .inl (by injection hk with hk; omega))
  have hblk : w2.heap[w.heap.size]? = some (.cells (byV (l ++ [0, 0, 0])).toArray 5 (0, 0)) := by
    rcases ho2.2 with ⟨hx, _⟩ | ⟨g, cap, cur, hx, _, hg, _, _, hcs, ht⟩
    · cases hx
    · injection hx with e1 _ e3
      injection e1 with e1
      injection e1 with e1
      subst e1
      subst e3
      rw [hg]
      congr 2
      rw [← ht, List.take_of_length_le (by rw [Array.length_toList]; omega)]
  have hw0 : IntKind.i64.wrap ((l.length : Int) + 3) = ((l.length + 3 : Nat) : Int) := by rw [IntWalk.i64_in _ (by omega)]; omega
  have hle : (l.length : Int) ≤ ((l.length + 3 : Nat) : Int) := by omega
  have HBLK := hid hblk
  have HK2 := hid hk2
  obtain ⟨a, k, rfl⟩ := h.len
  clear h ho1 hk1 ho2 hg2 hs2 hk2 hblk e e2 e3
  have hLL : l.length ≤ l.length := Nat.le_refl _
  generalize hL : l.length = L at *
  have HL := hid hL
  clear hL
  generalize hL3 : L + 3 = L3 at *
  have HL3 := hid hL3
  clear hL3
  go_enter Tryz.func14, Tryz.ntmps14
  go_wp2_with (at_builtin; refine wpList_copy_run rfl _ _ _ rfl hr2 rfl rfl ?_)
  all_goals try (exfalso; omega)
  go_loopg [5] 3 (fun m y wr => ∃ i xs, m = L3 - i ∧ L ≤ i ∧ i ≤ L3 ∧ y = .int .i64 ((i : Nat) : Int) ∧ wr.heap[w.heap.size]? = some (.cells (byV xs).toArray 5 (0, 0)) ∧ xs.length = L3 ∧ xs.take i = (l ++ [7, 7, 7]).take i ∧ Keep (fun _ => False) w wr)
  case atStart =>
    have h3 := HL3.out
    have h1 := HL.out
    refine ⟨L, l ++ [0, 0, 0], by omega, Nat.le_refl _, by omega, rfl, HBLK.out, by rw [List.length_append]; simp; omega, ?_, HK2.out⟩
    rw [← h1, List.take_left, List.take_left]
  case round =>
    obtain ⟨i, xs, hm, hi0, hi, rfl, hblk, hxs, htk, hk⟩ := hrel
    have h3 := HL3.out
    have h1 := HL.out
    by_cases hlt : i = L3
    · have hx7 : xs = l ++ [7, 7, 7] := by
        rw [List.take_of_length_le (by omega), List.take_of_length_le (by rw [List.length_append]; simp; omega)] at htk
        exact htk
      rw [hx7] at hblk
      have hge : ¬ ((i : Int) < (L3 : Int)) := by omega
      have FIN := hid (show ∃ v', Ending.returned (.slice (some ⟨w.heap.size, 0, none⟩) L (L + 3)) = .returned v' ∧ IsWide wr v' l ∧ Keep (fun _ => False) w wr from ⟨_, rfl, ⟨w.heap.size, by rw [h1], hblk, by omega⟩, hk⟩)
      rw [h3] at FIN
      clear hm hi0 hblk hxs htk hk hx7 HBLK HK2
      go_wp2
      all_goals first
        | (exfalso; omega)
        | (go_ret
           exact FIN.out)
    · have hc := cell_of hblk i
      have hz := fz_of hblk i
      obtain ⟨x, hx⟩ : ∃ x, xs[i]? = some x := ⟨xs[i]'(by omega), by simp⟩
      have hx2 := byV_get hx
      rw [List.getElem?_toArray, hx2] at hc
      have hi1 : IntKind.i64.wrap ((i : Int) + 1) = ((i + 1 : Nat) : Int) := by rw [IntWalk.i64_in _ (by omega)]; omega
      have hii : (i : Int) < (L3 : Int) := by omega
      have hmm : L3 - (i + 1) < gk := by omega
      have hb2 := blk_set hblk i (.int .u8 7)
      rw [set_byV] at hb2
      have HREL := hid (show L ≤ i + 1 ∧ i + 1 ≤ L3 ∧ (wr.setCell ⟨w.heap.size, i, none⟩ (.int .u8 7)).heap[w.heap.size]? = some (.cells (byV (xs.set i 7)).toArray 5 (0, 0)) ∧ (xs.set i 7).length = L3 ∧ (xs.set i 7).take (i + 1) = (l ++ [7, 7, 7]).take (i + 1) ∧ Keep (fun _ => False) w (wr.setCell ⟨w.heap.size, i, none⟩ (.int .u8 7)) from ⟨by omega, by omega, hb2, by rw [List.length_set]; exact hxs, by
          rw [List.take_add_one, List.take_add_one, List.take_set_of_le (by omega), htk, List.getElem?_set_self (by omega), List.getElem?_append_right (by omega)]
          have : i - l.length < 3 := by omega
          rcases (show i - l.length = 0 ∨ i - l.length = 1 ∨ i - l.length = 2 by omega) with h | h | h <;> rw [h] <;> rfl, Keep.setCell hk hblk (.inl (Nat.le_refl _)) i _⟩)
      generalize x.toNat = X at *
      clear hm hi0 hblk hxs htk hk hx hx2 hb2
      go_wp2
      all_goals try (exfalso; omega)
      go_roundg (L3 - (i + 1))
      case measure => exact hmm
      case rel => exact ⟨i + 1, _, rfl, HREL.out.1, HREL.out.2.1, rfl, HREL.out.2.2.1, HREL.out.2.2.2.1, HREL.out.2.2.2.2.1, HREL.out.2.2.2.2.2⟩

end
end Go.Stk

/- What the statements share: what Wide made is as it was. -/
namespace Go.Stk
open Go Go.RowKit Go.Proofs

section
variable {w : World}

set_option maxRecDepth 100000 in
set_option maxHeartbeats 1600000 in
theorem Left_any {va vb : Value} {l : List UInt8} (ha : IsWide w va l) (hb : Byt w vb l) : Calls Tryz.prog 17 #[va, vb] w (RetYes w true) := by
  have hl : l.length ≤ 70368744177664 := by obtain ⟨g, _, _, hl⟩ := ha; exact hl
  have hsame := Same_any ha.byt hb hl
  rw [show decide (l = l) = true from decide_eq_true rfl] at hsame
  obtain ⟨g, rfl, hg, _⟩ := ha
  have hc : ∀ k, w.cell? ⟨g, k, none⟩ = (byV (l ++ [7, 7, 7])).toArray[k]? := cell_of hg
  have hc0 : w.cell? ⟨g, l.length, none⟩ = some (.int .u8 7) := by rw [hc, List.getElem?_toArray, byV_append, List.getElem?_append_right (by rw [byV_length]; omega), byV_length, Nat.sub_self]; rfl
  have hc1 : w.cell? ⟨g, l.length + 1, none⟩ = some (.int .u8 7) := by rw [hc, List.getElem?_toArray, byV_append, List.getElem?_append_right (by rw [byV_length]; omega), byV_length, Nat.add_sub_cancel_left]; rfl
  have hc2 : w.cell? ⟨g, l.length + 2, none⟩ = some (.int .u8 7) := by rw [hc, List.getElem?_toArray, byV_append, List.getElem?_append_right (by rw [byV_length]; omega), byV_length, Nat.add_sub_cancel_left]; rfl
  obtain ⟨b, k, rfl⟩ := hb.len
  have hw3 : IntKind.i64.wrap ((l.length : Int) + 3) = (l.length : Int) + 3 := IntWalk.i64_in _ (by omega)
  have hw1 : IntKind.i64.wrap ((l.length : Int) + 1) = (l.length : Int) + 1 := IntWalk.i64_in _ (by omega)
  have hw2 : IntKind.i64.wrap ((l.length : Int) + 2) = (l.length : Int) + 2 := IntWalk.i64_in _ (by omega)
  clear hb hg hc
  generalize l.length = L at *
  go_enter Tryz.func17, Tryz.ntmps17
  go_wp2_with (go_at_call 13; refine hsame.mono ?_; rintro e w' ⟨rfl, nq, rfl⟩)
  all_goals first
    | (exfalso; omega)
    | skip
  go_ret
  exact ⟨rfl, _, rfl⟩

end
end Go.Stk

/- The manifest's bytes: what may be, and the document's way to put. -/
namespace Go.Stk
open Go Go.RowKit Go.Proofs

def manMay (g s : Int) : Bool := decide (1 ≤ g) && decide (g ≤ 2147483647) && decide (0 ≤ s) && decide (s ≤ 32)
def manBody (g s : Int) : List UInt8 := [109] ++ lebL g.toNat ++ lebL s.toNat
/-- A manifest's bytes, and the error. -/
def manPut (g s : Int) : List UInt8 × Int := if manMay g s then frmPut (manBody g s) else ([], 2)
/-- What is read of bytes: a manifest and the error. -/
def manGet (b : List UInt8) : Int × Int × Int :=
  if (frmGet b 0).2.2 ≠ 0 then (0, 0, (frmGet b 0).2.2)
  else if (frmGet b 0).1.head? ≠ some 109 then (0, 0, 5)
  else if (lebGet (frmGet b 0).1 1).2.2 ≠ 0 then (0, 0, (lebGet (frmGet b 0).1 1).2.2)
  else if (lebGet (frmGet b 0).1 (lebGet (frmGet b 0).1 1).2.1).2.2 ≠ 0 then (0, 0, (lebGet (frmGet b 0).1 (lebGet (frmGet b 0).1 1).2.1).2.2)
  else if (lebGet (frmGet b 0).1 (lebGet (frmGet b 0).1 1).2.1).2.1 ≠ (frmGet b 0).1.length ∨ (frmGet b 0).2.1 ≠ b.length ∨ (lebGet (frmGet b 0).1 1).1 < 1 ∨ 2147483647 < (lebGet (frmGet b 0).1 1).1 ∨ 32 < (lebGet (frmGet b 0).1 (lebGet (frmGet b 0).1 1).2.1).1 then (0, 0, 5)
  else ((lebGet (frmGet b 0).1 1).1, (lebGet (frmGet b 0).1 (lebGet (frmGet b 0).1 1).2.1).1, 0)

def manV (g s : Int) : Value := .agg #[.int .i64 g, .int .i64 s]

section
variable {w : World}

set_option maxRecDepth 100000 in
set_option maxHeartbeats 1600000 in
theorem may_any (g s : Int) (w : World) : Calls Tryz.prog 53 #[manV g s] w fun e w' => e = .returned (.bool (manMay g s)) ∧ Keep (fun _ => False) w w' := by
  have hk := hid (Keep.alloc (Keep.refl (fun _ => False) w) (.cells #[.int .i64 g, .int .i64 s] 23))
  unfold manMay manV
  by_cases h1 : 1 ≤ g
  · by_cases h2 : g ≤ 2147483647
    · by_cases h3 : 0 ≤ s
      · by_cases h4 : s ≤ 32
        · rw [show (decide (1 ≤ g) && decide (g ≤ 2147483647) && decide (0 ≤ s) && decide (s ≤ 32)) = true by simp [h1, h2, h3, h4]]
          go_enter Tryz.func53, Tryz.ntmps53
          go_wp2
          all_goals first
            | (exfalso; omega)
            | (go_ret
               exact ⟨rfl, hk.out⟩)
        · rw [show (decide (1 ≤ g) && decide (g ≤ 2147483647) && decide (0 ≤ s) && decide (s ≤ 32)) = false by simp [h4]]
          go_enter Tryz.func53, Tryz.ntmps53
          go_wp2
          all_goals first
            | (exfalso; omega)
            | (go_ret
               exact ⟨rfl, hk.out⟩)
      · rw [show (decide (1 ≤ g) && decide (g ≤ 2147483647) && decide (0 ≤ s) && decide (s ≤ 32)) = false by simp [h3]]
        go_enter Tryz.func53, Tryz.ntmps53
        go_wp2
        all_goals first
          | (exfalso; omega)
          | (go_ret
             exact ⟨rfl, hk.out⟩)
    · rw [show (decide (1 ≤ g) && decide (g ≤ 2147483647) && decide (0 ≤ s) && decide (s ≤ 32)) = false by simp [h2]]
      go_enter Tryz.func53, Tryz.ntmps53
      go_wp2
      all_goals first
        | (exfalso; omega)
        | (go_ret
           exact ⟨rfl, hk.out⟩)
  · rw [show (decide (1 ≤ g) && decide (g ≤ 2147483647) && decide (0 ≤ s) && decide (s ≤ 32)) = false by simp [h1]]
    go_enter Tryz.func53, Tryz.ntmps53
    go_wp2
    all_goals first
      | (exfalso; omega)
      | (go_ret
         exact ⟨rfl, hk.out⟩)

theorem manMay_iff (g s : Int) : manMay g s = true ↔ 1 ≤ g ∧ g ≤ 2147483647 ∧ 0 ≤ s ∧ s ≤ 32 := by
  simp [manMay, and_assoc]

theorem manBody_len {g s : Int} (h : manMay g s = true) : (manBody g s).length ≤ 21 := by
  have hm := (manMay_iff g s).1 h
  have h1 := lebL_ten (n := g.toNat) (by omega)
  have h2 := lebL_ten (n := s.toNat) (by omega)
  simp only [manBody, List.length_append, List.length_cons, List.length_nil]
  omega

set_option maxRecDepth 100000 in
set_option maxHeartbeats 1600000 in
theorem refManPut_any (g s : Int) (w : World) : Calls Tryz.prog 12 #[manV g s] w (RetBE w (manPut g s)) := by
  have hk := Keep.alloc (Keep.refl (fun _ => False) w) (.cells #[.int .i64 g, .int .i64 s] 23)
  unfold manPut manV
  by_cases hm : manMay g s = true
  · rw [if_pos hm]
    obtain ⟨h1, h2, h3, h4⟩ := (manMay_iff g s).1 hm
    have hbl := manBody_len hm
    have hlg := lebL_ten (n := g.toNat) (by omega)
    have hls := lebL_ten (n := s.toNat) (by omega)
    have hbox := blk_new w (.cells #[.int .i64 g, .int .i64 s] 23)
    generalize hW0 : w.alloc (.cells #[.int .i64 g, .int .i64 s] 23) = W0 at *
    have hboxk : ∀ W, Keep (fun _ => False) W0 W → ∀ k, W.cell? ⟨w.heap.size, k, none⟩ = (#[.int .i64 g, .int .i64 s] : Array Value)[k]? := fun W hkW => cell_of ((hkW.block _ (lt_of hbox) (fun h => h)).trans hbox)
    obtain ⟨v1, w1, hr1, ho1, hk1, ⟨a1, c1, rfl⟩⟩ := append_byte (w := W0) (ty := 24) (Keep.refl _ W0) (xs := []) (World.ownsRow_nil _ _ _ _) 109 (by omega) (by simp)
    rw [List.nil_append] at ho1
    have hput1 := refPut_any g.toNat w1 (by omega)
    have hmid : ∀ v2 w2, w2.ownsRow w1.heap.size 5 1 v2 (lebL g.toNat).length (byV (lebL g.toNat)) → Keep (fun _ => False) w1 w2 →
        ∃ v3 w3, (Builtin.append_ #[24, 24] 24 #[.slice a1 (([] : List UInt8).length + 1) c1, v2]).run Tryz.prog w2 = .ok v3 w3 ∧ (∃ a c, v3 = .slice a ([UInt8.ofNat 109] ++ lebL g.toNat).length c) ∧ (∀ k, w3.cell? ⟨w.heap.size, k, none⟩ = (#[.int .i64 g, .int .i64 s] : Array Value)[k]?) ∧
        Calls Tryz.prog 57 #[.int .u64 (s.toNat : Int)] w3 (RetOwn w3 (lebL s.toNat)) ∧
        ∀ v4 w4, w4.ownsRow w3.heap.size 5 1 v4 (lebL s.toNat).length (byV (lebL s.toNat)) → Keep (fun _ => False) w3 w4 →
          ∃ v5 w5, (Builtin.append_ #[24, 24] 24 #[v3, v4]).run Tryz.prog w4 = .ok v5 w5 ∧ Calls Tryz.prog 58 #[v5] w5 (RetBE w5 (frmPut (manBody g s))) ∧ Keep (fun _ => False) w w5 := by
      intro v2 w2 h2 hk2
      obtain ⟨v3, w3, hr3, ho3, hk3, hs3, _⟩ := append_own (w := W0) (ty := 24) (keep0_trans hk1 hk2) (own_keep ho1 hk2) (Byt.of_own h2) (by simp only [List.length_cons, List.length_nil]; omega)
      refine ⟨v3, w3, hr3, hs3, hboxk w3 hk3, refPut_any _ w3 (by omega), fun v4 w4 h4 hk4 => ?_⟩
      obtain ⟨v5, w5, hr5, ho5, hk5, _, _⟩ := append_own (w := W0) (ty := 24) (keep0_trans hk3 hk4) (own_keep ho3 hk4) (Byt.of_own h4) (by simp only [List.length_append, List.length_cons, List.length_nil]; omega)
      have hb5 : Byt w5 v5 (manBody g s) := Byt.of_own ho5
      exact ⟨v5, w5, hr5, refFramePut_any hb5 (by omega), keep0_trans hk hk5⟩
    have HM := hid hmid
    have hc1 := hboxk w1 hk1
    have hc0 := hboxk W0 (Keep.refl _ _)
    have hg := Int.toNat_of_nonneg (show 0 ≤ g by omega)
    have hs := Int.toNat_of_nonneg h3
    have hwg : IntKind.u64.wrap g = g := by rw [IntKind.wrap_u64]; omega
    have hws : IntKind.u64.wrap s = s := by rw [IntKind.wrap_u64]; omega
    rw [hg] at hput1
    rw [hs] at HM
    clear hm hk hmid hboxk hbox ho1 hk1 hg hs hlg hls hbl
    go_enter Tryz.func12, Tryz.ntmps12
    go_wp2_with (first
      | (at_builtin; refine wpList_append_run rfl _ _ _ rfl hr1 rfl rfl ?_; clear hr1)
      | (go_at_call 57; refine hput1.mono ?_; clear hput1; rintro e w2 ⟨v2, rfl, h2, hk2⟩; obtain ⟨v3, w3, hr3, ⟨a3, c3, hv3⟩, hc3, hput2, hm2⟩ := HM.out v2 w2 h2 hk2; subst hv3; have HM2 := hid hm2; clear hm2 h2 hk2)
      | (at_builtin; refine wpList_append_run rfl _ _ _ rfl hr3 rfl rfl ?_; clear hr3)
      | (go_at_call 57; refine hput2.mono ?_; clear hput2; rintro e w4 ⟨v4, rfl, h4, hk4⟩; obtain ⟨v5, w5, hr5, hfr, hk5⟩ := HM2.out v4 w4 h4 hk4; have HK5 := hid hk5; clear h4 hk4 hk5)
      | (at_builtin; refine wpList_append_run rfl _ _ _ rfl hr5 rfl rfl ?_; clear hr5)
      | (go_at_call 58; refine hfr.mono ?_; rintro e w6 ⟨v6, rfl, h6, hk6⟩; have H6 := hid h6; have HK6 := hid hk6; clear h6 hk6))
    all_goals first
      | (exfalso; omega)
      | (go_ret2
         exact ⟨v6, rfl, H6.out, keep0_trans HK5.out HK6.out⟩)
  · rw [if_neg hm]
    have FIN := hid (show RetBE w ([], 2) (.returned (.tuple #[.slice none 0 0, .int .i64 2])) (w.alloc (.cells #[.int .i64 g, .int .i64 s] 23)) from ⟨_, rfl, Byt.nil _, hk⟩)
    have hn : ¬ (1 ≤ g ∧ g ≤ 2147483647 ∧ 0 ≤ s ∧ s ≤ 32) := fun h => hm ((manMay_iff g s).2 h)
    clear hm hk
    go_enter Tryz.func12, Tryz.ntmps12
    go_wp2_with fail
    all_goals first
      | (go_ret2
         exact FIN.out)
      | (exfalso; omega)
      | skip

end
end Go.Stk

/- The manifest's bytes: the document's way to read. -/
namespace Go.Stk
open Go Go.RowKit Go.Proofs

def RetMan (w : World) (r : Int × Int × Int) (e : Ending) (w' : World) : Prop := e = .returned (.tuple #[manV r.1 r.2.1, .int .i64 r.2.2]) ∧ Keep (fun _ => False) w w'

theorem frmGet_ok {l : List UInt8} {at_ : Int} (h : (frmGet l at_).2.2 = 0) : (frmGet l at_).1.length ≤ 65536 := by
  unfold frmGet at h ⊢
  by_cases he : (rowGet l at_ 65536).2.2 ≠ 0
  · rw [if_pos he] at h; exact absurd h he
  · rw [if_neg he] at h ⊢
    have := rowGet_ok (l := l) (at_ := at_) (most := 65536) (by omega)
    split
    · simp
    · split
      · simp only; omega
      · simp

section
variable {w : World}

theorem set2_keep {W1 : World} {c : Array Value} {t : TypeId} {fr : Nat × Nat} (hk : Keep (fun _ => False) w W1) (hb : W1.heap[w.heap.size]? = some (.cells c t fr)) (x y : Value) :
    Keep (fun _ => False) w ((W1.setCell ⟨w.heap.size, 0, none⟩ x).setCell ⟨w.heap.size, 1, none⟩ y) :=
  Keep.setCell (Keep.setCell hk hb (.inl (Nat.le_refl _)) 0 x) (blk_set hb 0 x) (.inl (Nat.le_refl _)) 1 y

set_option maxRecDepth 100000 in
set_option maxHeartbeats 3200000 in
theorem refManGet_any {v : Value} {l : List UInt8} (h : Byt w v l) (hl : l.length ≤ 70368744177664) : Calls Tryz.prog 16 #[v] w (RetMan w (manGet l)) := by
  have hk0 := Keep.alloc (Keep.refl (fun _ => False) w) (.cells #[.int .i64 0, .int .i64 0] 23)
  have hbox := blk_new w (.cells #[.int .i64 0, .int .i64 0] 23)
  have hfr := refFrameGet_any (h.keep hk0) hl 0
  generalize hW0 : w.alloc (.cells #[.int .i64 0, .int .i64 0] 23) = W0 at *
  unfold manGet
  have hfok : (frmGet l 0).2.2 = 0 → _ := fun h => frmGet_ok h
  generalize frmGet l 0 = r at *
  obtain ⟨p, next, e⟩ := r
  simp only at hfr hfok ⊢
  have hboxk : ∀ W, Keep (fun _ => False) W0 W → W.heap[w.heap.size]? = some (.cells #[.int .i64 0, .int .i64 0] 23 (0, 0)) := fun W hkW => (hkW.block _ (lt_of hbox) (fun h => h)).trans hbox
  have HB := hid hboxk
  have HFIN : Hid (∀ W1, Keep (fun _ => False) W0 W1 → ∀ x y, Keep (fun _ => False) w ((W1.setCell ⟨w.heap.size, 0, none⟩ x).setCell ⟨w.heap.size, 1, none⟩ y)) := fun W1 hk x y => set2_keep (keep0_trans hk0 hk) (hboxk W1 hk) x y
  have HFIN3 : Hid (∀ W1 W3 : World, Keep (fun _ => False) W0 W1 → ∀ {o : Obj}, Keep (fun _ => False) (W1.alloc o) W3 → ∀ x y, Keep (fun _ => False) w ((W3.setCell ⟨w.heap.size, 0, none⟩ x).setCell ⟨w.heap.size, 1, none⟩ y)) := fun W1 W3 hk o hk3 x y =>
    set2_keep (keep0_trans hk0 (keep0_trans (Keep.alloc hk o) hk3)) ((hk3.block _ (by have := lt_of (hboxk W1 hk); simp; omega) (fun h => h)).trans (blk_alloc (hboxk W1 hk) o)) x y
  obtain ⟨a, k, rfl⟩ := h.len
  clear h hk0 hbox hboxk
  by_cases he : e = 0
  · subst he
    have hpl := hfok rfl
    simp only [ne_eq, not_true_eq_false, if_false]
    clear hfok
    by_cases hp : p.head? = some 109
    · rw [if_neg (by simp [hp])]
      have hlen : 0 < p.length := by
        cases p with
        | nil => simp at hp
        | cons c r => simp
      have hp0 : p[0]? = some 109 := by rw [← List.head?_eq_getElem?]; exact hp
      have hg1 : ∀ W vp, Byt W vp p → Calls Tryz.prog 62 #[vp, .int .i64 1] W (RetGet W (lebGet p 1)) := fun W vp hb => refGet_any hb (by omega) 1
      have hok1 : (lebGet p 1).2.2 = 0 → _ := fun h => lebGet_ok h
      have hg2 : ∀ W vp, Byt W vp p → Calls Tryz.prog 62 #[vp, .int .i64 (lebGet p 1).2.1] W (RetGet W (lebGet p (lebGet p 1).2.1)) := fun W vp hb => refGet_any hb (by omega) _
      have hok2 : (lebGet p (lebGet p 1).2.1).2.2 = 0 → _ := fun h => lebGet_ok h
      generalize lebGet p 1 = r1 at *
      obtain ⟨gn, at1, e1⟩ := r1
      simp only at hg1 hg2 hok1 hok2 ⊢
      generalize lebGet p at1 = r2 at *
      obtain ⟨sn, at2, e2⟩ := r2
      simp only at hg2 hok2 ⊢
      have HG1 := hid hg1
      have HG2 := hid hg2
      generalize hPL : p.length = PL at *
      generalize l.length = L at *
      have hPz : ((PL : Int) == 0) = false := by simp; omega
      clear hg1 hg2 hp
      by_cases he1 : e1 = 0
      · subst he1
        simp only [not_true_eq_false, if_false]
        obtain ⟨q1, q2, q3, q4⟩ := hok1 rfl
        clear hok1
        by_cases he2 : e2 = 0
        · subst he2
          simp only [not_true_eq_false, if_false]
          obtain ⟨s1, s2, s3, s4⟩ := hok2 rfl
          clear hok2
          by_cases hall : at2 = (PL : Int) ∧ next = (L : Int) ∧ 1 ≤ gn ∧ gn ≤ 2147483647 ∧ sn ≤ 32
          · obtain ⟨t1, t2, t3, t4, t5⟩ := hall
            rw [if_neg (by omega)]
            have hwg : IntKind.i64.wrap (gn : Int) = (gn : Int) := IntWalk.i64_in _ (by omega)
            have hws : IntKind.i64.wrap (sn : Int) = (sn : Int) := IntWalk.i64_in _ (by omega)
            have HMAY := hid (show manMay (gn : Int) (sn : Int) = true from (manMay_iff _ _).2 (by omega))
            subst t1
            subst t2
            go_enter Tryz.func16, Tryz.ntmps16
            go_wp2_with (first
      | (go_at_call 61; refine hfr.mono ?_; clear hfr; rintro e w1 ⟨vp, rfl, hvp, hk1⟩; have hc := cell_of (HB.out w1 hk1); have hfz := fz_of (HB.out w1 hk1); have HK1 := hid hk1; have HVP := hid hvp; obtain ⟨pb, po, pk, hvpe, hp0c, _⟩ := hvp.at_ hp0; rw [hPL] at hvpe; subst hvpe; have hp0d : w1.cell? ⟨pb, po, none⟩ = some (.int .u8 109) := hp0c; have hg1 := HG1.out w1 _ HVP.out; have hg2 := HG2.out w1 _ HVP.out; clear hvp hk1)
      | (go_at_call 62; refine hg1.mono ?_; clear hg1; rintro e w' ⟨rfl, rfl⟩)
      | (go_at_call 62; refine hg2.mono ?_; clear hg2; rintro e w' ⟨rfl, rfl⟩)
      )
            all_goals first
              | (exfalso; omega)
              | (try simp only [Exit.inBlock, Exit.then]
                 refine bodyPost_ret (v := .tuple #[manV (gn : Int) (sn : Int), .int .i64 0]) ?_ rfl ⟨?_, ?_⟩
                 · rw [results_cell_tmp rfl]
                   go_simp
                   try rfl
                 · rfl
                 · first
                     | exact HFIN.out _ HK1.out _ _
                     | exact HFIN3.out _ _ HK1.out HK3.out _ _)
          · rw [if_pos (by omega)]
            go_enter Tryz.func16, Tryz.ntmps16
            go_wp2_with (first
      | (go_at_call 61; refine hfr.mono ?_; clear hfr; rintro e w1 ⟨vp, rfl, hvp, hk1⟩; have hc := cell_of (HB.out w1 hk1); have hfz := fz_of (HB.out w1 hk1); have HK1 := hid hk1; have HVP := hid hvp; obtain ⟨pb, po, pk, hvpe, hp0c, _⟩ := hvp.at_ hp0; rw [hPL] at hvpe; subst hvpe; have hp0d : w1.cell? ⟨pb, po, none⟩ = some (.int .u8 109) := hp0c; have hg1 := HG1.out w1 _ HVP.out; have hg2 := HG2.out w1 _ HVP.out; clear hvp hk1)
      | (go_at_call 62; refine hg1.mono ?_; clear hg1; rintro e w' ⟨rfl, rfl⟩)
      | (go_at_call 62; refine hg2.mono ?_; clear hg2; rintro e w' ⟨rfl, rfl⟩)
      )
            all_goals first
              | (exfalso; omega)
              | (try simp only [Exit.inBlock, Exit.then]
                 refine bodyPost_ret (v := .tuple #[manV 0 0, .int .i64 5]) ?_ rfl ⟨?_, ?_⟩
                 · rw [results_cell_tmp rfl]
                   go_simp
                   try rfl
                 · rfl
                 · first
                     | exact HFIN.out _ HK1.out _ _
                     | exact HFIN3.out _ _ HK1.out HK3.out _ _)
        · rw [if_pos he2]
          have hz : (e2 != 0) = true := by simpa using he2
          clear hok2 he2
          go_enter Tryz.func16, Tryz.ntmps16
          go_wp2_with (first
      | (go_at_call 61; refine hfr.mono ?_; clear hfr; rintro e w1 ⟨vp, rfl, hvp, hk1⟩; have hc := cell_of (HB.out w1 hk1); have hfz := fz_of (HB.out w1 hk1); have HK1 := hid hk1; have HVP := hid hvp; obtain ⟨pb, po, pk, hvpe, hp0c, _⟩ := hvp.at_ hp0; rw [hPL] at hvpe; subst hvpe; have hp0d : w1.cell? ⟨pb, po, none⟩ = some (.int .u8 109) := hp0c; have hg1 := HG1.out w1 _ HVP.out; have hg2 := HG2.out w1 _ HVP.out; clear hvp hk1)
      | (go_at_call 62; refine hg1.mono ?_; clear hg1; rintro e w' ⟨rfl, rfl⟩)
      | (go_at_call 62; refine hg2.mono ?_; clear hg2; rintro e w' ⟨rfl, rfl⟩)
      )
          all_goals first
            | (exfalso; omega)
            | (try simp only [Exit.inBlock, Exit.then]
               refine bodyPost_ret (v := .tuple #[manV 0 0, .int .i64 e2]) ?_ rfl ⟨?_, ?_⟩
               · rw [results_cell_tmp rfl]
                 go_simp
                 try rfl
               · rfl
               · first
                   | exact HFIN.out _ HK1.out _ _
                   | exact HFIN3.out _ _ HK1.out HK3.out _ _)
      · rw [if_pos he1]
        have hz : (e1 != 0) = true := by simpa using he1
        clear hok1 he1 hok2
        go_enter Tryz.func16, Tryz.ntmps16
        go_wp2_with (first
      | (go_at_call 61; refine hfr.mono ?_; clear hfr; rintro e w1 ⟨vp, rfl, hvp, hk1⟩; have hc := cell_of (HB.out w1 hk1); have hfz := fz_of (HB.out w1 hk1); have HK1 := hid hk1; have HVP := hid hvp; obtain ⟨pb, po, pk, hvpe, hp0c, _⟩ := hvp.at_ hp0; rw [hPL] at hvpe; subst hvpe; have hp0d : w1.cell? ⟨pb, po, none⟩ = some (.int .u8 109) := hp0c; have hg1 := HG1.out w1 _ HVP.out; have hg2 := HG2.out w1 _ HVP.out; clear hvp hk1)
      | (go_at_call 62; refine hg1.mono ?_; clear hg1; rintro e w' ⟨rfl, rfl⟩)
      | (go_at_call 62; refine hg2.mono ?_; clear hg2; rintro e w' ⟨rfl, rfl⟩)
      )
        all_goals first
          | (exfalso; omega)
          | (try simp only [Exit.inBlock, Exit.then]
             refine bodyPost_ret (v := .tuple #[manV 0 0, .int .i64 e1]) ?_ rfl ⟨?_, ?_⟩
             · rw [results_cell_tmp rfl]
               go_simp
               try rfl
             · rfl
             · first
                 | exact HFIN.out _ HK1.out _ _
                 | exact HFIN3.out _ _ HK1.out HK3.out _ _)
    · rw [if_pos hp]
      cases p with
      | nil =>
        have FIN0 := hid (show ([] : List UInt8).length = 0 from rfl)
        generalize l.length = L at *
        go_enter Tryz.func16, Tryz.ntmps16
        go_wp2_with (first | (go_at_call 61; refine hfr.mono ?_; clear hfr; rintro e w1 ⟨vp, rfl, hvp, hk1⟩; have hc := cell_of (HB.out w1 hk1); have hfz := fz_of (HB.out w1 hk1); have HK1 := hid hk1; have HVP := hid hvp; obtain ⟨na, nk, hvpe⟩ := hvp.len; rw [FIN0.out] at hvpe; subst hvpe; clear hvp hk1))
        all_goals first
          | (exfalso; omega)
          | (try simp only [Exit.inBlock, Exit.then]
             refine bodyPost_ret (v := .tuple #[manV 0 0, .int .i64 5]) ?_ rfl ⟨?_, ?_⟩
             · rw [results_cell_tmp rfl]
               go_simp
               try rfl
             · rfl
             · first
                 | exact HFIN.out _ HK1.out _ _
                 | exact HFIN3.out _ _ HK1.out HK3.out _ _)
      | cons c rest =>
        have hne : c.toNat ≠ 109 := fun e => hp (by simp only [List.head?_cons]; rw [show c = 109 from UInt8.toNat_inj.1 e])
        have hnz : ((c.toNat : Int) != 109) = true := by simp; omega
        have hcc := c.toNat_lt
        have hPz : (((c :: rest).length : Int) == 0) = false := by simp; omega
        have hp0 : (c :: rest)[0]? = some c := rfl
        have hlen : 0 < (c :: rest).length := by simp
        generalize hcr : c :: rest = p at *
        generalize hPL : p.length = PL at *
        generalize l.length = L at *
        clear hp
        go_enter Tryz.func16, Tryz.ntmps16
        go_wp2_with (first | (go_at_call 61; refine hfr.mono ?_; clear hfr; rintro e w1 ⟨vp, rfl, hvp, hk1⟩; have hc := cell_of (HB.out w1 hk1); have hfz := fz_of (HB.out w1 hk1); have HK1 := hid hk1; have HVP := hid hvp; obtain ⟨pb, po, pk, hvpe, hp0c, _⟩ := hvp.at_ hp0; rw [hPL] at hvpe; subst hvpe; rw [Nat.add_zero] at hp0c; clear hvp hk1))
        all_goals first
          | (exfalso; omega)
          | (try simp only [Exit.inBlock, Exit.then]
             refine bodyPost_ret (v := .tuple #[manV 0 0, .int .i64 5]) ?_ rfl ⟨?_, ?_⟩
             · rw [results_cell_tmp rfl]
               go_simp
               try rfl
             · rfl
             · first
                 | exact HFIN.out _ HK1.out _ _
                 | exact HFIN3.out _ _ HK1.out HK3.out _ _)
  · rw [if_pos he]
    have hz : (e != 0) = true := by simpa using he
    clear he hfok
    generalize l.length = L at *
    go_enter Tryz.func16, Tryz.ntmps16
    go_wp2_with (first | (go_at_call 61; refine hfr.mono ?_; clear hfr; rintro e w1 ⟨vp, rfl, hvp, hk1⟩; have hc := cell_of (HB.out w1 hk1); have hfz := fz_of (HB.out w1 hk1); have HK1 := hid hk1; have HVP := hid hvp; clear hvp hk1))
    all_goals first
      | (exfalso; omega)
      | (try simp only [Exit.inBlock, Exit.then]
         refine bodyPost_ret (v := .tuple #[manV 0 0, .int .i64 e]) ?_ rfl ⟨?_, ?_⟩
         · rw [results_cell_tmp rfl]
           go_simp
           try rfl
         · rfl
         · first
             | exact HFIN.out _ HK1.out _ _
             | exact HFIN3.out _ _ HK1.out HK3.out _ _)


end
end Go.Stk

/- The manifest's bytes: what is read. -/
namespace Go.Stk
open Go Go.RowKit Go.Proofs

section
variable {w : World}

set_option maxRecDepth 100000 in
set_option maxHeartbeats 3200000 in
theorem manGet_any {v : Value} {l : List UInt8} (h : Byt w v l) (hl : l.length ≤ 70368744177664) : Calls Tryz.prog 15 #[v] w (RetMan w (manGet l)) := by
  have hk0 := Keep.alloc (Keep.refl (fun _ => False) w) (.cells #[.int .i64 0, .int .i64 0] 23)
  have hbox := blk_new w (.cells #[.int .i64 0, .int .i64 0] 23)
  have hfr := frameGet_any (h.keep hk0) hl 0
  generalize hW0 : w.alloc (.cells #[.int .i64 0, .int .i64 0] 23) = W0 at *
  unfold manGet
  have hfok : (frmGet l 0).2.2 = 0 → _ := fun h => frmGet_ok h
  generalize frmGet l 0 = r at *
  obtain ⟨p, next, e⟩ := r
  simp only at hfr hfok ⊢
  have hboxk : ∀ W, Keep (fun _ => False) W0 W → W.heap[w.heap.size]? = some (.cells #[.int .i64 0, .int .i64 0] 23 (0, 0)) := fun W hkW => (hkW.block _ (lt_of hbox) (fun h => h)).trans hbox
  have HB := hid hboxk
  have HFIN : Hid (∀ W1, Keep (fun _ => False) W0 W1 → ∀ x y, Keep (fun _ => False) w ((W1.setCell ⟨w.heap.size, 0, none⟩ x).setCell ⟨w.heap.size, 1, none⟩ y)) := fun W1 hk x y => set2_keep (keep0_trans hk0 hk) (hboxk W1 hk) x y
  have HFIN3 : Hid (∀ W1 W3 : World, Keep (fun _ => False) W0 W1 → ∀ {o : Obj}, Keep (fun _ => False) (W1.alloc o) W3 → ∀ x y, Keep (fun _ => False) w ((W3.setCell ⟨w.heap.size, 0, none⟩ x).setCell ⟨w.heap.size, 1, none⟩ y)) := fun W1 W3 hk o hk3 x y =>
    set2_keep (keep0_trans hk0 (keep0_trans (Keep.alloc hk o) hk3)) ((hk3.block _ (by have := lt_of (hboxk W1 hk); simp; omega) (fun h => h)).trans (blk_alloc (hboxk W1 hk) o)) x y
  obtain ⟨a, k, rfl⟩ := h.len
  clear h hk0 hbox hboxk
  by_cases he : e = 0
  · subst he
    have hpl := hfok rfl
    simp only [ne_eq, not_true_eq_false, if_false]
    clear hfok
    by_cases hp : p.head? = some 109
    · rw [if_neg (by simp [hp])]
      have hlen : 0 < p.length := by
        cases p with
        | nil => simp at hp
        | cons c r => simp
      have hp0 : p[0]? = some 109 := by rw [← List.head?_eq_getElem?]; exact hp
      have hg1 : ∀ W vp, Byt W vp p → Calls Tryz.prog 60 #[vp, .int .i64 1] W (RetGet W (lebGet p 1)) := fun W vp hb => lebGet_any hb (by omega) 1
      have hok1 : (lebGet p 1).2.2 = 0 → _ := fun h => lebGet_ok h
      have hg2 : ∀ W vp, Byt W vp p → Calls Tryz.prog 60 #[vp, .int .i64 (lebGet p 1).2.1] W (RetGet W (lebGet p (lebGet p 1).2.1)) := fun W vp hb => lebGet_any hb (by omega) _
      have hok2 : (lebGet p (lebGet p 1).2.1).2.2 = 0 → _ := fun h => lebGet_ok h
      generalize lebGet p 1 = r1 at *
      obtain ⟨gn, at1, e1⟩ := r1
      simp only at hg1 hg2 hok1 hok2 ⊢
      generalize lebGet p at1 = r2 at *
      obtain ⟨sn, at2, e2⟩ := r2
      simp only at hg2 hok2 ⊢
      have HG1 := hid hg1
      have HG2 := hid hg2
      generalize hPL : p.length = PL at *
      generalize l.length = L at *
      have hPz : ((PL : Int) == 0) = false := by simp; omega
      clear hg1 hg2 hp
      by_cases he1 : e1 = 0
      · subst he1
        simp only [not_true_eq_false, if_false]
        obtain ⟨q1, q2, q3, q4⟩ := hok1 rfl
        clear hok1
        by_cases he2 : e2 = 0
        · subst he2
          simp only [not_true_eq_false, if_false]
          obtain ⟨s1, s2, s3, s4⟩ := hok2 rfl
          clear hok2
          by_cases hall : at2 = (PL : Int) ∧ next = (L : Int) ∧ 1 ≤ gn ∧ gn ≤ 2147483647 ∧ sn ≤ 32
          · obtain ⟨t1, t2, t3, t4, t5⟩ := hall
            rw [if_neg (by omega)]
            have hwg : IntKind.i64.wrap (gn : Int) = (gn : Int) := IntWalk.i64_in _ (by omega)
            have hws : IntKind.i64.wrap (sn : Int) = (sn : Int) := IntWalk.i64_in _ (by omega)
            have HMAY := hid (show manMay (gn : Int) (sn : Int) = true from (manMay_iff _ _).2 (by omega))
            subst t1
            subst t2
            go_enter Tryz.func15, Tryz.ntmps15
            go_wp2_with (first
      | (go_at_call 59; refine hfr.mono ?_; clear hfr; rintro e w1 ⟨vp, rfl, hvp, hk1⟩; have hc := cell_of (HB.out w1 hk1); have hfz := fz_of (HB.out w1 hk1); have HK1 := hid hk1; have HVP := hid hvp; obtain ⟨pb, po, pk, hvpe, hp0c, _⟩ := hvp.at_ hp0; rw [hPL] at hvpe; subst hvpe; have hp0d : w1.cell? ⟨pb, po, none⟩ = some (.int .u8 109) := hp0c; have hg1 := HG1.out w1 _ HVP.out; have hg2 := HG2.out w1 _ HVP.out; clear hvp hk1)
      | (go_at_call 60; refine hg1.mono ?_; clear hg1; rintro e w' ⟨rfl, rfl⟩)
      | (go_at_call 60; refine hg2.mono ?_; clear hg2; rintro e w' ⟨rfl, rfl⟩)
      | (go_at_call 53; refine (may_any _ _ _).mono ?_; rintro e w3 ⟨rfl, hk3⟩; rw [HMAY.out]; have hc3 := cell_of ((hk3.block _ (by have := lt_of (HB.out w1 HK1.out); simp; omega) (fun h => h)).trans (blk_alloc (HB.out w1 HK1.out) _)); have hfz3 := fz_of ((hk3.block _ (by have := lt_of (HB.out w1 HK1.out); simp; omega) (fun h => h)).trans (blk_alloc (HB.out w1 HK1.out) _)); have hm0 := cell_of ((hk3.block _ (by simp) (fun h => h)).trans (blk_new w1 _)); have HK3 := hid hk3; clear hk3))
            all_goals first
              | (exfalso; omega)
              | (try simp only [Exit.inBlock, Exit.then]
                 refine bodyPost_ret (v := .tuple #[manV (gn : Int) (sn : Int), .int .i64 0]) ?_ rfl ⟨?_, ?_⟩
                 · rw [results_cell_tmp rfl]
                   go_simp
                   try rfl
                 · rfl
                 · first
                     | exact HFIN.out _ HK1.out _ _
                     | exact HFIN3.out _ _ HK1.out HK3.out _ _)
          · rw [if_pos (by omega)]
            by_cases hb : gn < 1 ∧ sn ≤ 32
            · obtain ⟨b1, b2⟩ := hb
              have hwg : IntKind.i64.wrap (gn : Int) = (gn : Int) := IntWalk.i64_in _ (by omega)
              have hws : IntKind.i64.wrap (sn : Int) = (sn : Int) := IntWalk.i64_in _ (by omega)
              have HMAY := hid (show manMay (gn : Int) (sn : Int) = false by
                cases hx : manMay (gn : Int) (sn : Int) with
                | false => rfl
                | true => have := (manMay_iff _ _).1 hx; omega)
              go_enter Tryz.func15, Tryz.ntmps15
              go_wp2_with (first
        | (go_at_call 59; refine hfr.mono ?_; clear hfr; rintro e w1 ⟨vp, rfl, hvp, hk1⟩; have hc := cell_of (HB.out w1 hk1); have hfz := fz_of (HB.out w1 hk1); have HK1 := hid hk1; have HVP := hid hvp; obtain ⟨pb, po, pk, hvpe, hp0c, _⟩ := hvp.at_ hp0; rw [hPL] at hvpe; subst hvpe; have hp0d : w1.cell? ⟨pb, po, none⟩ = some (.int .u8 109) := hp0c; have hg1 := HG1.out w1 _ HVP.out; have hg2 := HG2.out w1 _ HVP.out; clear hvp hk1)
        | (go_at_call 60; refine hg1.mono ?_; clear hg1; rintro e w' ⟨rfl, rfl⟩)
        | (go_at_call 60; refine hg2.mono ?_; clear hg2; rintro e w' ⟨rfl, rfl⟩)
        | (go_at_call 53; refine (may_any _ _ _).mono ?_; rintro e w3 ⟨rfl, hk3⟩; rw [HMAY.out]; have hc3 := cell_of ((hk3.block _ (by have := lt_of (HB.out w1 HK1.out); simp; omega) (fun h => h)).trans (blk_alloc (HB.out w1 HK1.out) _)); have hfz3 := fz_of ((hk3.block _ (by have := lt_of (HB.out w1 HK1.out); simp; omega) (fun h => h)).trans (blk_alloc (HB.out w1 HK1.out) _)); have hm0 := cell_of ((hk3.block _ (by simp) (fun h => h)).trans (blk_new w1 _)); have HK3 := hid hk3; clear hk3))
              all_goals first
                | (exfalso; omega)
                | (try simp only [Exit.inBlock, Exit.then]
                   refine bodyPost_ret (v := .tuple #[manV 0 0, .int .i64 5]) ?_ rfl ⟨?_, ?_⟩
                   · rw [results_cell_tmp rfl]
                     go_simp
                     try rfl
                   · rfl
                   · first
                       | exact HFIN.out _ HK1.out _ _
                       | exact HFIN3.out _ _ HK1.out HK3.out _ _)
            · go_enter Tryz.func15, Tryz.ntmps15
              go_wp2_with (first
        | (go_at_call 59; refine hfr.mono ?_; clear hfr; rintro e w1 ⟨vp, rfl, hvp, hk1⟩; have hc := cell_of (HB.out w1 hk1); have hfz := fz_of (HB.out w1 hk1); have HK1 := hid hk1; have HVP := hid hvp; obtain ⟨pb, po, pk, hvpe, hp0c, _⟩ := hvp.at_ hp0; rw [hPL] at hvpe; subst hvpe; have hp0d : w1.cell? ⟨pb, po, none⟩ = some (.int .u8 109) := hp0c; have hg1 := HG1.out w1 _ HVP.out; have hg2 := HG2.out w1 _ HVP.out; clear hvp hk1)
        | (go_at_call 60; refine hg1.mono ?_; clear hg1; rintro e w' ⟨rfl, rfl⟩)
        | (go_at_call 60; refine hg2.mono ?_; clear hg2; rintro e w' ⟨rfl, rfl⟩)
        | (go_at_call 53; refine (may_any _ _ _).mono ?_; rintro e w3 ⟨rfl, hk3⟩; rw [HMAY.out]; have hc3 := cell_of ((hk3.block _ (by have := lt_of (HB.out w1 HK1.out); simp; omega) (fun h => h)).trans (blk_alloc (HB.out w1 HK1.out) _)); have hfz3 := fz_of ((hk3.block _ (by have := lt_of (HB.out w1 HK1.out); simp; omega) (fun h => h)).trans (blk_alloc (HB.out w1 HK1.out) _)); have hm0 := cell_of ((hk3.block _ (by simp) (fun h => h)).trans (blk_new w1 _)); have HK3 := hid hk3; clear hk3))
              all_goals first
                | (exfalso; omega)
                | (try simp only [Exit.inBlock, Exit.then]
                   refine bodyPost_ret (v := .tuple #[manV 0 0, .int .i64 5]) ?_ rfl ⟨?_, ?_⟩
                   · rw [results_cell_tmp rfl]
                     go_simp
                     try rfl
                   · rfl
                   · first
                       | exact HFIN.out _ HK1.out _ _
                       | exact HFIN3.out _ _ HK1.out HK3.out _ _)
        · rw [if_pos he2]
          have hz : (e2 != 0) = true := by simpa using he2
          clear hok2 he2
          go_enter Tryz.func15, Tryz.ntmps15
          go_wp2_with (first
      | (go_at_call 59; refine hfr.mono ?_; clear hfr; rintro e w1 ⟨vp, rfl, hvp, hk1⟩; have hc := cell_of (HB.out w1 hk1); have hfz := fz_of (HB.out w1 hk1); have HK1 := hid hk1; have HVP := hid hvp; obtain ⟨pb, po, pk, hvpe, hp0c, _⟩ := hvp.at_ hp0; rw [hPL] at hvpe; subst hvpe; have hp0d : w1.cell? ⟨pb, po, none⟩ = some (.int .u8 109) := hp0c; have hg1 := HG1.out w1 _ HVP.out; have hg2 := HG2.out w1 _ HVP.out; clear hvp hk1)
      | (go_at_call 60; refine hg1.mono ?_; clear hg1; rintro e w' ⟨rfl, rfl⟩)
      | (go_at_call 60; refine hg2.mono ?_; clear hg2; rintro e w' ⟨rfl, rfl⟩)
      | (go_at_call 53; refine (may_any _ _ _).mono ?_; rintro e w3 ⟨rfl, hk3⟩; rw [HMAY.out]; have hc3 := cell_of ((hk3.block _ (by have := lt_of (HB.out w1 HK1.out); simp; omega) (fun h => h)).trans (blk_alloc (HB.out w1 HK1.out) _)); have hfz3 := fz_of ((hk3.block _ (by have := lt_of (HB.out w1 HK1.out); simp; omega) (fun h => h)).trans (blk_alloc (HB.out w1 HK1.out) _)); have hm0 := cell_of ((hk3.block _ (by simp) (fun h => h)).trans (blk_new w1 _)); have HK3 := hid hk3; clear hk3))
          all_goals first
            | (exfalso; omega)
            | (try simp only [Exit.inBlock, Exit.then]
               refine bodyPost_ret (v := .tuple #[manV 0 0, .int .i64 e2]) ?_ rfl ⟨?_, ?_⟩
               · rw [results_cell_tmp rfl]
                 go_simp
                 try rfl
               · rfl
               · first
                   | exact HFIN.out _ HK1.out _ _
                   | exact HFIN3.out _ _ HK1.out HK3.out _ _)
      · rw [if_pos he1]
        have hz : (e1 != 0) = true := by simpa using he1
        clear hok1 he1 hok2
        go_enter Tryz.func15, Tryz.ntmps15
        go_wp2_with (first
      | (go_at_call 59; refine hfr.mono ?_; clear hfr; rintro e w1 ⟨vp, rfl, hvp, hk1⟩; have hc := cell_of (HB.out w1 hk1); have hfz := fz_of (HB.out w1 hk1); have HK1 := hid hk1; have HVP := hid hvp; obtain ⟨pb, po, pk, hvpe, hp0c, _⟩ := hvp.at_ hp0; rw [hPL] at hvpe; subst hvpe; have hp0d : w1.cell? ⟨pb, po, none⟩ = some (.int .u8 109) := hp0c; have hg1 := HG1.out w1 _ HVP.out; have hg2 := HG2.out w1 _ HVP.out; clear hvp hk1)
      | (go_at_call 60; refine hg1.mono ?_; clear hg1; rintro e w' ⟨rfl, rfl⟩)
      | (go_at_call 60; refine hg2.mono ?_; clear hg2; rintro e w' ⟨rfl, rfl⟩)
      | (go_at_call 53; refine (may_any _ _ _).mono ?_; rintro e w3 ⟨rfl, hk3⟩; rw [HMAY.out]; have hc3 := cell_of ((hk3.block _ (by have := lt_of (HB.out w1 HK1.out); simp; omega) (fun h => h)).trans (blk_alloc (HB.out w1 HK1.out) _)); have hfz3 := fz_of ((hk3.block _ (by have := lt_of (HB.out w1 HK1.out); simp; omega) (fun h => h)).trans (blk_alloc (HB.out w1 HK1.out) _)); have hm0 := cell_of ((hk3.block _ (by simp) (fun h => h)).trans (blk_new w1 _)); have HK3 := hid hk3; clear hk3))
        all_goals first
          | (exfalso; omega)
          | (try simp only [Exit.inBlock, Exit.then]
             refine bodyPost_ret (v := .tuple #[manV 0 0, .int .i64 e1]) ?_ rfl ⟨?_, ?_⟩
             · rw [results_cell_tmp rfl]
               go_simp
               try rfl
             · rfl
             · first
                 | exact HFIN.out _ HK1.out _ _
                 | exact HFIN3.out _ _ HK1.out HK3.out _ _)
    · rw [if_pos hp]
      cases p with
      | nil =>
        have FIN0 := hid (show ([] : List UInt8).length = 0 from rfl)
        generalize l.length = L at *
        go_enter Tryz.func15, Tryz.ntmps15
        go_wp2_with (first | (go_at_call 59; refine hfr.mono ?_; clear hfr; rintro e w1 ⟨vp, rfl, hvp, hk1⟩; have hc := cell_of (HB.out w1 hk1); have hfz := fz_of (HB.out w1 hk1); have HK1 := hid hk1; have HVP := hid hvp; obtain ⟨na, nk, hvpe⟩ := hvp.len; rw [FIN0.out] at hvpe; subst hvpe; clear hvp hk1))
        all_goals first
          | (exfalso; omega)
          | (try simp only [Exit.inBlock, Exit.then]
             refine bodyPost_ret (v := .tuple #[manV 0 0, .int .i64 5]) ?_ rfl ⟨?_, ?_⟩
             · rw [results_cell_tmp rfl]
               go_simp
               try rfl
             · rfl
             · first
                 | exact HFIN.out _ HK1.out _ _
                 | exact HFIN3.out _ _ HK1.out HK3.out _ _)
      | cons c rest =>
        have hne : c.toNat ≠ 109 := fun e => hp (by simp only [List.head?_cons]; rw [show c = 109 from UInt8.toNat_inj.1 e])
        have hnz : ((c.toNat : Int) != 109) = true := by simp; omega
        have hcc := c.toNat_lt
        have hPz : (((c :: rest).length : Int) == 0) = false := by simp; omega
        have hp0 : (c :: rest)[0]? = some c := rfl
        have hlen : 0 < (c :: rest).length := by simp
        generalize hcr : c :: rest = p at *
        generalize hPL : p.length = PL at *
        generalize l.length = L at *
        clear hp
        go_enter Tryz.func15, Tryz.ntmps15
        go_wp2_with (first | (go_at_call 59; refine hfr.mono ?_; clear hfr; rintro e w1 ⟨vp, rfl, hvp, hk1⟩; have hc := cell_of (HB.out w1 hk1); have hfz := fz_of (HB.out w1 hk1); have HK1 := hid hk1; have HVP := hid hvp; obtain ⟨pb, po, pk, hvpe, hp0c, _⟩ := hvp.at_ hp0; rw [hPL] at hvpe; subst hvpe; rw [Nat.add_zero] at hp0c; clear hvp hk1))
        all_goals first
          | (exfalso; omega)
          | (try simp only [Exit.inBlock, Exit.then]
             refine bodyPost_ret (v := .tuple #[manV 0 0, .int .i64 5]) ?_ rfl ⟨?_, ?_⟩
             · rw [results_cell_tmp rfl]
               go_simp
               try rfl
             · rfl
             · first
                 | exact HFIN.out _ HK1.out _ _
                 | exact HFIN3.out _ _ HK1.out HK3.out _ _)
  · rw [if_pos he]
    have hz : (e != 0) = true := by simpa using he
    clear he hfok
    generalize l.length = L at *
    go_enter Tryz.func15, Tryz.ntmps15
    go_wp2_with (first | (go_at_call 59; refine hfr.mono ?_; clear hfr; rintro e w1 ⟨vp, rfl, hvp, hk1⟩; have hc := cell_of (HB.out w1 hk1); have hfz := fz_of (HB.out w1 hk1); have HK1 := hid hk1; have HVP := hid hvp; clear hvp hk1))
    all_goals first
      | (exfalso; omega)
      | (try simp only [Exit.inBlock, Exit.then]
         refine bodyPost_ret (v := .tuple #[manV 0 0, .int .i64 e]) ?_ rfl ⟨?_, ?_⟩
         · rw [results_cell_tmp rfl]
           go_simp
           try rfl
         · rfl
         · first
             | exact HFIN.out _ HK1.out _ _
             | exact HFIN3.out _ _ HK1.out HK3.out _ _)


end
end Go.Stk

/- The manifest on the disk: what is read. -/
namespace Go.Stk
open Go Go.RowKit Go.Proofs

abbrev nMan : ByteArray := ⟨#[109, 97, 110, 105, 102, 101, 115, 116]⟩
abbrev nNew : ByteArray := ⟨#[109, 97, 110, 105, 102, 101, 115, 116, 46, 110, 101, 119]⟩

/-- What Read tells. -/
def manRead (fs : Fs) : Int × Int × Int := if fs.getE nMan ≠ 0 then (0, 0, fs.getE nMan) else manGet (fs.at nMan).now

section
variable {w : World} {g : Nat} {fs : Fs} {G : FG}

theorem IsFS.now_len (h : IsFS w g fs G) (name : ByteArray) : (fs.at name).now.length ≤ 1048576 := Fs.size_le h.wf (fs.num name)

set_option maxRecDepth 100000 in
set_option maxHeartbeats 1600000 in
theorem manRead_any (h : IsFS w g fs G) : Calls Tryz.prog 27 #[.pointer (some ⟨g, 0, none⟩)] w (RetMan w (manRead fs)) := by
  have hk0 := Keep.alloc (Keep.refl (fun _ => False) w) (.cells #[.int .i64 0, .int .i64 0] 23)
  have hbox := blk_new w (.cells #[.int .i64 0, .int .i64 0] 23)
  have h0 : IsFS (w.alloc (.cells #[.int .i64 0, .int .i64 0] 23)) g fs G := h.keep hk0 (fun _ _ h => h)
  have hlen := h.now_len nMan
  generalize hW0 : w.alloc (.cells #[.int .i64 0, .int .i64 0] 23) = W0 at *
  have hsize := Size_any h0 nMan
  have hboxk : ∀ W, Keep (fun _ => False) W0 W → W.heap[w.heap.size]? = some (.cells #[.int .i64 0, .int .i64 0] 23 (0, 0)) := fun W hkW => (hkW.block _ (lt_of hbox) (fun h => h)).trans hbox
  have hfin : ∀ W1, Keep (fun _ => False) W0 W1 → ∀ x y, Keep (fun _ => False) w ((W1.setCell ⟨w.heap.size, 0, none⟩ x).setCell ⟨w.heap.size, 1, none⟩ y) := fun W1 hk x y => set2_keep (keep0_trans hk0 hk) (hboxk W1 hk) x y
  have HFIN := hid hfin
  have HB := hid hboxk
  have hc0 := cell_of hbox
  have hz0 := fz_of hbox
  unfold manRead
  by_cases he : fs.getE nMan = 0
  · rw [if_pos he, he] at hsize
    rw [if_neg (by simp [he])]
    have hread := Read_ok (at_ := 0) (n := (fs.at nMan).now.length) h0 he (Nat.zero_le _) (by omega)
    rw [List.drop_zero, List.take_length] at hread
    have hget : ∀ v1 w1, Byt w1 v1 (fs.at nMan).now → Calls Tryz.prog 15 #[v1] w1 (RetMan w1 (manGet (fs.at nMan).now)) := fun v1 w1 hb => manGet_any hb (by omega)
    have HG := hid hget
    generalize (fs.at nMan).now = l at *
    generalize l.length = L at *
    generalize manGet l = R at *
    obtain ⟨A, B, E⟩ := R
    clear h h0 he hk0 hbox hboxk hfin hget
    go_enter Tryz.func27, Tryz.ntmps27
    go_wp2_with (first
      | (go_at_call 43; refine hsize.mono ?_; clear hsize; rintro e w' ⟨rfl, rfl⟩)
      | (go_at_call 80; refine hread.mono ?_; clear hread; rintro e w1 ⟨v1, rfl, hv1, hk1⟩; have hgt := HG.out v1 w1 hv1; have HK1 := hid hk1; clear hv1 hk1)
      | (go_at_call 15; refine hgt.mono ?_; clear hgt; rintro e w2 ⟨rfl, hk2⟩; unfold manV; have HK2 := hid (keep0_trans HK1.out hk2); have hc2 := cell_of (HB.out w2 HK2.out); have hz2 := fz_of (HB.out w2 HK2.out); clear hk2))
    refine bodyPost_ret (v := .tuple #[manV A B, .int .i64 E]) ?_ rfl ⟨?_, ?_⟩
    · rw [results_cell_tmp rfl]
      go_simp
      try rfl
    · rfl
    · exact HFIN.out _ HK2.out _ _
  · rw [if_neg he] at hsize
    rw [if_pos he]
    generalize fs.getE nMan = E at *
    have hz : (E != 0) = true := by simpa using he
    clear h h0 he hk0 hbox hboxk hfin
    go_enter Tryz.func27, Tryz.ntmps27
    go_wp2_with (go_at_call 43; refine hsize.mono ?_; clear hsize; rintro e w' ⟨rfl, rfl⟩)
    refine bodyPost_ret (v := .tuple #[manV 0 0, .int .i64 E]) ?_ rfl ⟨?_, ?_⟩
    · rw [results_cell_tmp rfl]
      go_simp
      try rfl
    · rfl
    · exact HFIN.out _ (Keep.refl _ _) _ _

end
end Go.Stk

/- The disk: Create. -/
namespace Go.Stk
open Go Go.RowKit Go.Proofs

theorem filV_append : ∀ (k : Nat) (xs : List (Nat × Value)) (p : Nat × Value), filV k (xs ++ [p]) = filV k xs ++ [(((k + xs.length : Nat) : Int), .pointer (some ⟨p.1, 0, none⟩))]
  | k, [], p => by simp [filV]
  | k, q :: r, p => by
    simp only [List.cons_append, filV, filV_append (k + 1) r p]
    rw [show k + 1 + r.length = k + (q :: r).length by simp; omega]

theorem filV_keys : ∀ (k : Nat) (xs : List (Nat × Value)) (i : Int), i ∈ keysOf (filV k xs) → i < ((k + xs.length : Nat) : Int)
  | _, [], _, h => by simp [filV, keysOf] at h
  | k, q :: r, i, h => by
    simp only [filV, keysOf, List.map_cons, List.mem_cons] at h
    rcases h with rfl | h
    · simp; omega
    · have := filV_keys (k + 1) r i h
      simp only [List.length_cons]
      omega

section
variable {w : World} {g : Nat} {fs : Fs} {G : FG} {u : Int}

/-- A new file stands among the disk's. -/
theorem IsFSu.more {w' : World} {x : Nat} {D : List (Int × Value)} (h : IsFSu w g fs G u) (hx : w.heap.size ≤ x)
    (hk : Keep (fun i => i = g ∨ i = G.mf) w w')
    (ht : w'.heap[g]? = some (.cells #[.bool true, .int .i64 fs.room, .int .i64 u, .map (some G.mf), .int .i64 ((fs.files.length + 1 : Nat) : Int), .map (some G.ms), .map (some G.mn), G.vrow, .int .i64 fs.acts, .int .i64 fs.fuse, .bool fs.dead] 88 (0, 0)))
    (hm : KMap IK w' G.mf D) (hp : D.Perm (filV 1 (G.xs ++ [(x, .slice none 0 0)]))) (hb : w'.heap[x]? = some (.cells #[.slice none 0 0, .slice none 0 0, .slice none 0 0] 118 (0, 0))) :
    ∃ G', IsFSu w' g { fs with files := fs.files ++ [⟨[], []⟩] } G' u ∧ Adv g G G' w w' := by
  have hnd := h.nd
  have hnd2 := hnd
  simp only [FG.blocks, List.nodup_cons, List.mem_cons, List.mem_append, not_or] at hnd2
  obtain ⟨⟨g1, g2, g3, g4, g5⟩, ⟨f1, f2, f3, f4⟩, ⟨s1, s2, s3⟩, ⟨n1, n2⟩, hnd3⟩ := hnd2
  have hbl : ({ G with xs := G.xs ++ [(x, .slice none 0 0)] } : FG).blocks g = G.blocks g ++ [x] := by
    simp [FG.blocks, List.flatMap_append, fileBlocks, Value.ownBlock]
  have hs := h.kms; have hn := h.kmn
  refine ⟨{ G with xs := G.xs ++ [(x, .slice none 0 0)] }, ⟨?_, ?_, ?_, ⟨D, hm, hp⟩, ?_, by simp [h.len], ?_, ?_, h.wf.more⟩, ⟨hk.mono ?_, ?_⟩⟩
  · have hu : ({ fs with files := fs.files ++ [⟨[], []⟩] } : Fs).files.length = fs.files.length + 1 := by simp
    rw [hu]
    exact ht
  · obtain ⟨E, a, b⟩ := hs
    refine ⟨E, a.of_block (hk.block _ a.lt ?_), b⟩
    rintro (e | e)
    · exact g2 e.symm
    · exact f1 e.symm
  · obtain ⟨E, a, b⟩ := hn
    refine ⟨E, a.of_block (hk.block _ a.lt ?_), b⟩
    rintro (e | e)
    · exact g3 e.symm
    · exact f2 e.symm
  · refine ownsRow_block h.row (fun i hi => hk.block i (h.row.lt i hi).2 ?_)
    rintro (e | e)
    · exact g4 (by simp [hi, e])
    · exact f3 (by simp [hi, e])
  · intro i p f hpi hfi
    by_cases hi : i < G.xs.length
    · have hpi' : G.xs[i]? = some p := by
        have : (G.xs ++ [(x, Value.slice none 0 0)])[i]? = G.xs[i]? := List.getElem?_append_left hi
        rw [← this]; exact hpi
      have hfi' : fs.files[i]? = some f := by
        have : (fs.files ++ [⟨[], []⟩])[i]? = fs.files[i]? := List.getElem?_append_left (by rw [← h.len]; exact hi)
        rw [← this]; exact hfi
      refine (h.fl i p f hpi' hfi').keep hk (fun j hj => ?_)
      have hjm : j ∈ G.xs.flatMap fileBlocks := List.mem_flatMap.2 ⟨p, List.mem_of_getElem? hpi', hj⟩
      rintro (e | e)
      · subst e; exact g5 hjm
      · subst e; exact f4 hjm
    · have hil : i = G.xs.length := by
        have := (List.getElem?_eq_some_iff.1 hpi).1
        simp at this; omega
      subst hil
      have hp' : some p = some (x, Value.slice none 0 0) := hpi.symm.trans (by simp)
      have hf' : some f = some (⟨[], []⟩ : Fl) := hfi.symm.trans (by simp [h.len])
      injection hp' with hp'
      injection hf' with hf'
      rw [hp', hf']
      exact ⟨_, _, [], hb, Byt.nil _, Byt.nil _, World.ownsRow_nil _ _ _ _, trivial⟩
  · rw [hbl]
    refine List.nodup_append.2 ⟨hnd, by simp, ?_⟩
    intro a ha b hb' e
    simp only [List.mem_singleton] at hb'
    subst hb'; subst e
    have := h.lt a ha
    omega
  · rintro i (e | e)
    · subst e; exact mem_blocks_self G i
    · subst e; simp [FG.blocks]
  · intro k hk'
    rw [hbl] at hk'
    rcases List.mem_append.1 hk' with hk' | hk'
    · exact .inl hk'
    · rw [List.mem_singleton.1 hk']; exact .inr hx

theorem IsFSu.len_look (h : IsFSu w g fs G u) : ∃ es c, w.heap[G.mn]? = some (.map es c) ∧ es.size = fs.seen.length := by
  obtain ⟨D, hm, hp⟩ := h.kmn
  obtain ⟨es, c, hb, hs⟩ := hm.len
  exact ⟨es, c, hb, by rw [hs, hp.length_eq]; simp [dirV]⟩

theorem IsFSu.seen_len (h : IsFSu w g fs G u) : (Builtin.len_ #[85] 3 #[.map (some G.mn)]).run Tryz.prog w = .ok (.int .i64 (fs.seen.length : Int)) w := by
  obtain ⟨es, c, hb, hs⟩ := h.len_look
  simp [Builtin.len_, MapKept.run_getObj_map hb, Result.andThen, hs, goInt]

/-- Behind 'f.next++; f.files[f.next] = &file{}'. -/
theorem create_mid (h : IsFSu w g fs G u) :
    ∃ w3 G', (Instr.mapUpdate 84 (.map (some G.mf)) (.int .i64 ((fs.files.length : Int) + 1)) (.pointer (some ⟨w.heap.size, 0, none⟩))).run Tryz.prog
        (((w.setCell ⟨g, 4, none⟩ (.int .i64 ((fs.files.length : Int) + 1))).alloc (.cells #[.slice none 0 0, .slice none 0 0, .slice none 0 0] 118)).drew) = .ok () w3 ∧
      IsFSu w3 g { fs with files := fs.files ++ [⟨[], []⟩] } G' u ∧ Adv g G G' w w3 := by
  obtain ⟨D, hm, hp⟩ := h.kmf
  have hnd := h.nd
  have hgm : G.mf ≠ g := by
    intro e
    simp [FG.blocks, e] at hnd
  have e1 : ((fs.files.length : Int) + 1) = ((fs.files.length + 1 : Nat) : Int) := by omega
  have hm1 : KMap IK (w.setCell ⟨g, 4, none⟩ (.int .i64 ((fs.files.length : Int) + 1))) G.mf D := hm.of_block (blk_set_ne hgm 4 _)
  have hm2 := (hm1.alloc (.cells #[.slice none 0 0, .slice none 0 0, .slice none 0 0] 118)).drew
  obtain ⟨w3, hu, hm3, hg3, _, _⟩ := hm2.update (P := Tryz.prog) (t := 84) (.inr ⟨.i64, rfl⟩) Tryz.underlying84 Tryz.underlying3 ((fs.files.length : Int) + 1) (.pointer (some ⟨w.heap.size, 0, none⟩))
  have hk1 : Keep (fun i => i = g ∨ i = G.mf) w (w.setCell ⟨g, 4, none⟩ (.int .i64 ((fs.files.length : Int) + 1))) := Keep.setCell (Keep.refl _ w) h.top (.inr ⟨.inl rfl, notImm_fs⟩) 4 _
  have hk2 := (Keep.alloc hk1 (.cells #[.slice none 0 0, .slice none 0 0, .slice none 0 0] 118)).drew
  have hk3 : Keep (fun i => i = g ∨ i = G.mf) w w3 := hk2.trans (keep_map hm2 hg3) (fun i hi => .inl (.inr hi))
  have hnew : ((w.setCell ⟨g, 4, none⟩ (.int .i64 ((fs.files.length : Int) + 1))).alloc (.cells #[.slice none 0 0, .slice none 0 0, .slice none 0 0] 118)).heap[w.heap.size]? = some (.cells #[.slice none 0 0, .slice none 0 0, .slice none 0 0] 118 (0, 0)) := by
    have := blk_new (w.setCell ⟨g, 4, none⟩ (.int .i64 ((fs.files.length : Int) + 1))) (.cells #[.slice none 0 0, .slice none 0 0, .slice none 0 0] 118)
    rwa [size_set] at this
  have hmlt := hm.lt
  have htop1 := blk_set h.top 4 (.int .i64 ((fs.files.length : Int) + 1))
  have hlt := lt_of htop1
  obtain ⟨G', hi, ha⟩ := h.more (w' := w3) (x := w.heap.size) (D := dput D ((fs.files.length : Int) + 1) (.pointer (some ⟨w.heap.size, 0, none⟩))) (Nat.le_refl _) hk3
    (by
      rw [hg3.block g (by show g < (World.alloc _ _).heap.size; simp; rw [size_set] at *; omega) (by simp; exact Ne.symm hgm)]
      show (World.alloc _ _).heap[g]? = _
      rw [blk_alloc htop1]
      rw [e1]
      rfl)
    hm3
    (by
      refine (dput_perm hp hm.nodup _ _).trans ?_
      rw [filV_append, dput_of_not]
      · rw [e1, h.len, show 1 + fs.files.length = fs.files.length + 1 by omega]
      · intro hmem
        have := filV_keys 1 G.xs _ hmem
        rw [h.len] at this
        omega)
    (by
      rw [hg3.block w.heap.size (by show w.heap.size < (World.alloc _ _).heap.size; simp) (by simp; omega)]
      exact hnew)
  exact ⟨w3, G', hu, hi, ha⟩

set_option maxRecDepth 100000 in
set_option maxHeartbeats 1600000 in
theorem Create_err (h : IsFS w g fs G) (name : ByteArray) (hn : name.size ≤ maxLen) (he : fs.createE name ≠ 0) :
    Calls Tryz.prog 22 #[.pointer (some ⟨g, 0, none⟩), .string name] w (FsPost w g G fs (.int .i64 (fs.createE name))) := by
  have hready := ready_any h
  have hnm := isName_any (w := w) name hn
  unfold Fs.createE at he ⊢
  cases hd : fs.dead with
  | true =>
    simp only [hd, if_true] at hready ⊢
    have H := hid h
    clear h he hd hnm
    go_enter Tryz.func22, Tryz.ntmps22
    go_wp2_with (go_at_call 74; refine hready.mono ?_; rintro e w' ⟨rfl, rfl⟩)
    go_ret
    exact FsPost.no H.out (Keep.refl _ w)
  | false =>
    simp only [hd, Bool.false_eq_true, if_false] at hready he ⊢
    cases hnb : isName name with
    | false =>
      simp only [if_true]
      rw [hnb] at hnm
      have H := hid h
      have HN := hid hnm
      clear h he hd hnm hnb
      go_enter Tryz.func22, Tryz.ntmps22
      go_wp2_with (first | (go_at_call 74; refine hready.mono ?_; rintro e w' ⟨rfl, rfl⟩) | (go_at_call 75; refine HN.out.mono ?_; rintro e w' ⟨rfl, hk⟩))
      go_ret
      exact FsPost.no H.out hk
    | true =>
      simp only [hnb, Bool.true_eq_false, if_false] at he ⊢
      rw [hnb] at hnm
      have H := hid h
      have HN := hid hnm
      cases hg : dget fs.seen name with
      | some n =>
        simp only [Option.isSome_some, if_true]
        have hl : ∀ w1, Keep (fun _ => False) w w1 → (Instr.lookup 85 (.map (some G.mn)) (.string name) true).run Tryz.prog w1 = .ok (.tuple #[.int .i64 (n : Int), .bool true]) w1 := fun w1 hk => (h.keep hk (fun _ _ h => h)).seen_hit hg
        have hc : ∀ w1, Keep (fun _ => False) w w1 → w1.cell? ⟨g, 6, none⟩ = some (.map (some G.mn)) := fun w1 hk => (h.keep hk (fun _ _ h => h)).cell 6
        have HL := hid hl
        have HC := hid hc
        clear h he hd hnm hnb hg hl hc
        go_enter Tryz.func22, Tryz.ntmps22
        go_wp2_with (first | (go_at_call 74; refine hready.mono ?_; rintro e w' ⟨rfl, rfl⟩) | (go_at_call 75; refine HN.out.mono ?_; rintro e w1 ⟨rfl, hk⟩; have hl1 := HL.out w1 hk; have hc1 := HC.out w1 hk))
        go_ret
        exact FsPost.no H.out hk
      | none =>
        simp only [hg, Option.isSome_none, Bool.false_eq_true, if_false] at he ⊢
        have h64 : 64 ≤ fs.seen.length := by
          by_cases h64 : 64 ≤ fs.seen.length
          · exact h64
          · simp [h64] at he
        simp only [h64, if_true]
        have hl : ∀ w1, Keep (fun _ => False) w w1 → (Instr.lookup 85 (.map (some G.mn)) (.string name) true).run Tryz.prog w1 = .ok (.tuple #[.int .i64 0, .bool false]) w1 := fun w1 hk => (h.keep hk (fun _ _ h => h)).seen_miss hg
        have hc : ∀ w1, Keep (fun _ => False) w w1 → w1.cell? ⟨g, 6, none⟩ = some (.map (some G.mn)) := fun w1 hk => (h.keep hk (fun _ _ h => h)).cell 6
        have hlen : ∀ w1, Keep (fun _ => False) w w1 → (Builtin.len_ #[85] 3 #[.map (some G.mn)]).run Tryz.prog w1 = .ok (.int .i64 (fs.seen.length : Int)) w1 := fun w1 hk => (h.keep hk (fun _ _ h => h)).seen_len
        have HL := hid hl
        have HC := hid hc
        have HLEN := hid hlen
        generalize hS : fs.seen.length = S at *
        have h64' : (64 : Int) ≤ (S : Int) := by omega
        clear h he hd hnm hnb hg hl hc hlen hS h64
        go_enter Tryz.func22, Tryz.ntmps22
        go_wp2_with (first | (go_at_call 74; refine hready.mono ?_; rintro e w' ⟨rfl, rfl⟩) | (go_at_call 75; refine HN.out.mono ?_; rintro e w1 ⟨rfl, hk⟩; have hl1 := HL.out w1 hk; have hc1 := HC.out w1 hk; have hn1 := HLEN.out w1 hk))
        go_ret
        exact FsPost.no H.out hk

set_option maxRecDepth 100000 in
set_option maxHeartbeats 1600000 in
theorem Create_ok (h : IsFS w g fs G) (name : ByteArray) (hn : name.size ≤ maxLen) (he : fs.createE name = 0) (hs : fs.row.length < 1099511627776) (hf : fs.files.length < 1099511627776) :
    Calls Tryz.prog 22 #[.pointer (some ⟨g, 0, none⟩), .string name] w (FsPost w g G (fs.createS name).tick (.int .i64 fs.endE)) := by
  have hready := ready_any h
  have hnm := isName_any (w := w) name hn
  unfold Fs.createE at he
  cases hd : fs.dead with
  | true => simp [hd] at he
  | false =>
  simp only [hd, Bool.false_eq_true, if_false] at hready he
  cases hnb : isName name with
  | false => simp [hnb] at he
  | true =>
  simp only [hnb, Bool.true_eq_false, if_false] at he
  rw [hnb] at hnm
  cases hg : dget fs.seen name with
  | some n => simp [hg] at he
  | none =>
  have h64 : ¬ 64 ≤ fs.seen.length := by
    intro h64
    simp [hg, h64] at he
  have hl : ∀ w1, Keep (fun _ => False) w w1 → (Instr.lookup 85 (.map (some G.mn)) (.string name) true).run Tryz.prog w1 = .ok (.tuple #[.int .i64 0, .bool false]) w1 := fun w1 hk => (h.keep hk (fun _ _ h => h)).seen_miss hg
  have hc : ∀ w1, Keep (fun _ => False) w w1 → IsFS w1 g fs G := fun w1 hk => h.keep hk (fun _ _ h => h)
  have hlen : ∀ w1, Keep (fun _ => False) w w1 → (Builtin.len_ #[85] 3 #[.map (some G.mn)]).run Tryz.prog w1 = .ok (.int .i64 (fs.seen.length : Int)) w1 := fun w1 hk => (h.keep hk (fun _ _ h => h)).seen_len
  have hwf := h.wf.create (name := name) (by omega)
  have HL := hid hl
  have HC := hid hc
  have HLEN := hid hlen
  have HN := hid hnm
  have HWF := hid hwf
  have HG := hid (lt_of h.top)
  generalize hS : fs.seen.length = S at *
  have h64' : ¬ (64 : Int) ≤ (S : Int) := by omega
  have hf0 : (0 : Int) ≤ (fs.files.length : Int) := by omega
  have hf1 : (fs.files.length : Int) ≤ 1099511627776 := by omega
  clear h he hnm hnb hg hl hc hlen hS h64 hwf
  go_enter Tryz.func22, Tryz.ntmps22
  go_upto_region 12 with (first | (go_at_call 74; refine hready.mono ?_; rintro e w' ⟨rfl, rfl⟩) | (go_at_call 75; refine HN.out.mono ?_; rintro e w1 ⟨rfl, hk⟩; have hl1 := HL.out w1 hk; have hc1 := (HC.out w1 hk).cell; have hz1 := (HC.out w1 hk).fz; have hn1 := HLEN.out w1 hk))
  obtain ⟨w3, G3, hu, hi3, ha3⟩ := create_mid (HC.out w1 hk)
  have htop2 := blk_set (HC.out w1 hk).top 4 (.int .i64 ((fs.files.length : Int) + 1))
  have hc2 := cell_of htop2
  have hca := fun o => cell_of (blk_alloc htop2 o)
  have hsz : w1.heap.size = (w1.setCell ⟨g, 4, none⟩ (.int .i64 ((fs.files.length : Int) + 1))).heap.size := (size_set _ _ _).symm
  rw [hsz] at hu
  have HI3 := hid hi3
  have HA3 := hid ha3
  have HK := hid hk
  clear hi3 ha3 hk hl1 hn1 hc1 hz1 htop2 hsz
  generalize hW2 : w1.setCell ⟨g, 4, none⟩ (.int .i64 ((fs.files.length : Int) + 1)) = W2 at *
  clear hW2
  go_cut [] (fun wx => wx = w3)
  case first =>
    go_wp2_with fail
    go_region
    all_goals
      go_wp2_with fail
      go_meet
      rfl
  case rest =>
    subst hcut
    have hturn := turn_any HI3.out hd (.create name (fs.files.length + 1)) HWF.out hs
    have e1 : ((fs.files.length + 1 : Nat) : Int) = (fs.files.length : Int) + 1 := by omega
    simp only [mvV, e1] at hturn
    have hm3 := HI3.out.cell
    simp only [List.length_append, List.length_cons, List.length_nil, Nat.zero_add, e1] at hm3
    have HT := hid hturn
    clear hturn e1 hc2 hca hu
    go_wp2_with (go_at_call 76; refine HT.out.mono ?_; rintro e w4 ⟨rfl, hp⟩)
    go_ret
    obtain ⟨G4, hi4, ha4⟩ := hp
    exact FsPost.after HK.out ⟨rfl, G4, hi4, HA3.out.trans ha4⟩

theorem Create_any (h : IsFS w g fs G) (name : ByteArray) (hn : name.size ≤ maxLen) (hs : fs.row.length < 1099511627776) (hf : fs.files.length < 1099511627776) :
    Calls Tryz.prog 22 #[.pointer (some ⟨g, 0, none⟩), .string name] w (FsPost w g G (fs.createR name).2 (.int .i64 (fs.createR name).1)) := by
  unfold Fs.createR
  by_cases he : fs.createE name = 0
  · rw [if_neg (by simp [he])]
    exact Create_ok h name hn he hs hf
  · rw [if_pos he]
    exact Create_err h name hn he

end
end Go.Stk

/- The disk: Append. -/
namespace Go.Stk
open Go Go.RowKit Go.Proofs

def Fs.appendR (fs : Fs) (name : ByteArray) (b : List UInt8) : Int × Fs := if fs.appendE name b ≠ 0 then (fs.appendE name b, fs) else (fs.endE, (fs.change name (fs.appendC name b)).tick)

section
variable {w : World} {g : Nat} {fs : Fs} {G : FG}

theorem Fs.change_eq {fs : Fs} {name : ByteArray} {n : Nat} {f : Fl} (hn : dget fs.seen name = some n) (hf : fs.at name = f) (c : Ch) : fs.change name c = { fs with files := fs.files.set (n - 1) ⟨f.sure, f.row ++ [c]⟩ } := by
  simp [Fs.change, Fs.setFile, Fs.num, hn, hf]

theorem append_do (x b : List UInt8) : (⟨false, x.length, b⟩ : Ch).do x = x ++ b := by
  simp [Ch.do]

set_option maxRecDepth 100000 in
set_option maxHeartbeats 1600000 in
theorem Append_err (h : IsFS w g fs G) (name : ByteArray) {v : Value} {b : List UInt8} (hb : Byt w v b) (hl : b.length ≤ 35184372088832) (he : fs.appendE name b ≠ 0) :
    Calls Tryz.prog 23 #[.pointer (some ⟨g, 0, none⟩), .string name, v] w (FsPost w g G fs (.int .i64 (fs.appendE name b))) := by
  unfold Fs.appendE at he ⊢
  by_cases h0 : fs.getE name = 0
  · simp only [h0, ne_eq, not_true_eq_false, if_false] at he ⊢
    have hc : 0 < b.length ∧ (fs.room : Int) - fs.used < b.length := by
      by_cases hc : 0 < b.length ∧ (fs.room : Int) - fs.used < b.length
      · exact hc
      · simp [hc] at he
    rw [if_pos hc]
    obtain ⟨hc1, hc2⟩ := hc
    obtain ⟨hd, n, hn⟩ := Fs.getE_ok h0
    obtain ⟨p, f, h1, hi, _, _, _⟩ := h.at_name hn
    have hget := get_ok h hd hn h1 hi
    obtain ⟨a, c, rfl⟩ := hb.len
    have FIN := hid (FsPost.no h (Keep.refl _ w).drew (v := .int .i64 9))
    have FIN2 : ∀ nq, FsPost w g G fs (.int .i64 9) (.returned (.int .i64 9)) (w.drewN nq) := fun nq => FsPost.no h ((Keep.refl _ w).drewN nq)
    have F2 := hid FIN2
    have hcell := h.cell
    have hr0 := h.wf.room
    have hu0 : fs.used ≤ 67108864 := by
      have e1 := sumOf_le h.wf (dirV fs.seen)
      rw [sumOf_dirV] at e1
      have e2 := Fs.seen_many h.wf
      have e3 : (dirV fs.seen).length = fs.seen.length := by simp [dirV]
      rw [e3] at e1
      show (fs.seen.map fun p => fs.size p.2).sum ≤ _
      omega
    generalize hR : fs.room = R at *
    generalize hU : fs.used = U at *
    generalize hB : b.length = B at *
    have q1 : (0 : Int) < (B : Int) := by omega
    have q2 : (R : Int) - (U : Int) < (B : Int) := hc2
    have q3 : (0 : Int) ≤ (R : Int) := by omega
    have q4 : (R : Int) ≤ 1048576 := by omega
    have q5 : (0 : Int) ≤ (U : Int) := by omega
    have q6 : (U : Int) ≤ 67108864 := by omega
    clear h hb hl he h0 hn hi h1 hd hR hU hB hc2 hr0 hu0 FIN2
    go_enter Tryz.func23, Tryz.ntmps23
    go_wp2_with (go_at_call 77; refine hget.mono ?_; rintro e w' ⟨rfl, rfl⟩)
    go_quiet (fail)
    go_wp2
    go_ret
    exact F2.out _
  · simp only [ne_eq, h0, not_false_eq_true, if_true]
    have hget := get_err h name h0
    have FIN := hid (FsPost.no h (Keep.refl _ w) (v := .int .i64 (fs.getE name)))
    obtain ⟨a, c, rfl⟩ := hb.len
    clear h hb he
    generalize fs.getE name = E at *
    have hne : (E != 0) = true := by simpa using h0
    clear h0
    go_enter Tryz.func23, Tryz.ntmps23
    go_wp2_with (go_at_call 77; refine hget.mono ?_; rintro e w' ⟨rfl, rfl⟩)
    go_ret
    exact FIN.out

theorem used_le (h : IsFS w g fs G) : fs.used ≤ 67108864 := by
  have e1 := sumOf_le h.wf (dirV fs.seen)
  rw [sumOf_dirV] at e1
  have e2 := Fs.seen_many h.wf
  have e3 : (dirV fs.seen).length = fs.seen.length := by simp [dirV]
  rw [e3] at e1
  show (fs.seen.map fun p => fs.size p.2).sum ≤ _
  omega

/-- Behind the copy of what is appended. -/
theorem append_mid (h : IsFS w g fs G) {name : ByteArray} {n : Nat} {p : Nat × Value} {f : Fl} {v : Value} {b : List UInt8} (hn : dget fs.seen name = some n) (hd : fs.dead = false) (hp : G.xs[n - 1]? = some p) (hfi : fs.files[n - 1]? = some f) (hat : fs.at name = f) (hb : Byt w v b)
    (hc : ¬ (0 < b.length ∧ (fs.room : Int) - fs.used < b.length)) (hl : b.length ≤ 35184372088832) (hs : f.row.length < 1099511627776) (nq : Nat) :
    ∃ v1 w1, (Builtin.append_ #[24, 24] 24 #[.slice none 0 0, v]).run Tryz.prog (w.drewN nq) = .ok v1 w1 ∧ (∃ a1 c1, v1 = .slice a1 b.length c1) ∧ Keep (fun _ => False) w w1 ∧
      (∀ w2 : World, w2 = w1 ∨ w2 = w1.drew → Calls Tryz.prog 78 #[.pointer (some ⟨g, 0, none⟩), .pointer (some ⟨p.1, 0, none⟩), .agg #[.bool false, .int .i64 (f.now.length : Int), v1]] w2 (FsPost w g G (fs.change name (fs.appendC name b)).tick (.int .i64 fs.endE))) := by
  have hk0 : Keep (fun _ => False) w (w.drewN nq) := (Keep.refl _ w).drewN nq
  obtain ⟨v1, w1, hr1, hown1, hg1, hat1⟩ := run_append_byt (ty := 24) (x := .slice none 0 0) (xs := []) (w := w.drewN nq) (World.ownsRow_nil _ _ _ _) (hb.keep hk0) (by simp; omega)
  rw [List.nil_append, List.length_nil, Nat.zero_add] at hown1
  have hk1 : Keep (fun _ => False) w w1 := KeepN.row hk0 hg1 (Nat.le_refl _) (fun k hk => by simp [Value.ownBlock] at hk)
  have hb1 : Byt w1 v1 b := Byt.of_own hown1
  have hfm := List.mem_of_getElem? hfi
  have hnow := h.wf.now_le hfm
  have hroom := h.wf.room
  have hsz : f.now.length ≤ fs.used := by
    have := Fs.size_le_used (fs := fs) hn
    have e : fs.size n = f.now.length := by
      have : fs.file n = f := by rw [← hat]; simp [Fs.at, Fs.num, hn]
      simp [Fs.size, this]
    omega
  have hbl : f.now.length + b.length ≤ 1048576 := by
    by_cases h0 : 0 < b.length
    · have : ¬ (fs.room : Int) - fs.used < b.length := fun h2 => hc ⟨h0, h2⟩
      omega
    · omega
  have hwf := h.wf.change (c := ⟨false, f.now.length, b⟩) hfi (Nat.le_refl _) (by rw [append_do, List.length_append]; exact hbl)
  refine ⟨v1, w1, hr1, ?_, hk1, fun w2 hw2 => ?_⟩
  · exact hb1.len
  · have hk2 : Keep (fun _ => False) w w2 := by rcases hw2 with rfl | rfl; exact hk1; exact hk1.drew
    have hb2 : Byt w2 v1 b := by rcases hw2 with rfl | rfl; exact hb1; exact hb1
    have hch := change_any (c := ⟨false, f.now.length, b⟩) (h.keep hk2 (fun _ _ h => h)) hd hp hfi hb2 (Nat.le_refl _) (by show f.now.length + b.length ≤ _; omega) hs hwf
    have e : fs.change name (fs.appendC name b) = { fs with files := fs.files.set (n - 1) ⟨f.sure, f.row ++ [⟨false, f.now.length, b⟩]⟩ } := by
      rw [Fs.change_eq hn hat]
      simp [Fs.appendC, hat]
    rw [e]
    exact hch.mono (fun e w' hp => FsPost.after hk2 hp)

set_option maxRecDepth 100000 in
set_option maxHeartbeats 3200000 in
theorem Append_ok (h : IsFS w g fs G) (name : ByteArray) {v : Value} {b : List UInt8} (hb : Byt w v b) (hl : b.length ≤ 35184372088832) (he : fs.appendE name b = 0) (hs : ∀ f ∈ fs.files, f.row.length < 1099511627776) :
    Calls Tryz.prog 23 #[.pointer (some ⟨g, 0, none⟩), .string name, v] w (FsPost w g G (fs.change name (fs.appendC name b)).tick (.int .i64 fs.endE)) := by
  unfold Fs.appendE at he
  have h0 : fs.getE name = 0 := by
    by_cases h0 : fs.getE name = 0
    · exact h0
    · simp [h0] at he
  simp only [h0, ne_eq, not_true_eq_false, if_false] at he
  have hc : ¬ (0 < b.length ∧ (fs.room : Int) - fs.used < b.length) := by
    intro hc
    simp [hc] at he
  obtain ⟨hd, n, hn⟩ := Fs.getE_ok h0
  obtain ⟨p, f, h1, hi, hfi, hat, hx⟩ := h.at_name hn
  have hget := get_ok h hd hn h1 hi
  obtain ⟨nx, vr⟩ := p
  obtain ⟨vs, vn, cs, hbx, hvs, hvn, hrow, hch⟩ := hx
  obtain ⟨va, vc, rfl⟩ := hvn.len
  have hmid := fun nq => append_mid h hn hd hi hfi hat hb hc hl (hs f (List.mem_of_getElem? hfi)) nq
  have hcx := cell_of hbx
  have hcx1 : ∀ w1, Keep (fun _ => False) w w1 → ∀ k, w1.cell? ⟨nx, k, none⟩ = (#[vs, .slice va f.now.length vc, vr] : Array Value)[k]? := fun w1 hk => cell_of ((hk.block nx (lt_of hbx) (fun h => h)).trans hbx)
  obtain ⟨a, c, rfl⟩ := hb.len
  have hcell := h.cell
  have hr0 := h.wf.room
  have hu0 := used_le h
  have hd0 : (fs.room : Int) - fs.used = (fs.room : Int) - fs.used := rfl
  simp only at hget hmid
  have HM := hid hmid
  have HX1 := hid hcx1
  generalize hR : fs.room = R at *
  generalize hU : fs.used = U at *
  generalize hB : b.length = B at *
  have q3 : (0 : Int) ≤ (R : Int) := by omega
  have q4 : (R : Int) ≤ 1048576 := by omega
  have q5 : (0 : Int) ≤ (U : Int) := by omega
  have q6 : (U : Int) ≤ 67108864 := by omega
  by_cases hB0 : 0 < B
  · have hB1 : ¬ ((R : Int) - (U : Int) < (B : Int)) := fun h2 => hc ⟨hB0, h2⟩
    clear h hb hl he h0 hn hi h1 hd hR hU hB hc hr0 hu0 hmid hcx1 hbx hvs hvn hrow hch hat hfi hs hd0
    go_enter Tryz.func23, Tryz.ntmps23
    go_wp2_with (go_at_call 77; refine hget.mono ?_; rintro e w' ⟨rfl, rfl⟩)
    go_quiet (fail)
    go_upto_region 6 with fail
    obtain ⟨v1, w1, hr1, ⟨a1, c1, rfl⟩, hk1, hch1⟩ := HM.out (nq + 1)
    have hr2 : (Builtin.append_ #[24, 24] 24 #[.slice none 0 0, .slice a B c]).run Tryz.prog (w.drewN nq).drew = .ok (.slice a1 B c1) w1 := hr1
    have hx1 := HX1.out w1 hk1
    have HCH := hid (hch1 w1 (.inl rfl))
    clear hr1 hk1 hch1
    go_wp2_with fail
    go_region_law (first | (refine step_append_run (by rfl) _ _ _ (by rfl) hr2 (by rfl) (by rfl) ?_) | (go_simp; go_at_call 78; refine HCH.out.mono ?_; rintro e w4 ⟨rfl, hp⟩))
    all_goals
      go_wp2
      go_ret
      exact ⟨rfl, hp⟩
  · have hB1 : decide (0 < B) = false := by simpa using hB0
    clear h hb hl he h0 hn hi h1 hd hR hU hB hc hr0 hu0 hmid hcx1 hbx hvs hvn hrow hch hat hfi hs hd0
    go_enter Tryz.func23, Tryz.ntmps23
    go_wp2_with (go_at_call 77; refine hget.mono ?_; rintro e w' ⟨rfl, rfl⟩)
    go_quiet (fail)
    go_upto_region 6 with fail
    obtain ⟨v1, w1, hr1, ⟨a1, c1, rfl⟩, hk1, hch1⟩ := HM.out (nq + 1)
    have hr2 : (Builtin.append_ #[24, 24] 24 #[.slice none 0 0, .slice a B c]).run Tryz.prog (w.drewN nq).drew = .ok (.slice a1 B c1) w1 := hr1
    have hx1 := HX1.out w1 hk1
    have HCH := hid (hch1 w1 (.inl rfl))
    clear hr1 hk1 hch1
    go_wp2_with fail
    go_region_law (first | (refine step_append_run (by rfl) _ _ _ (by rfl) hr2 (by rfl) (by rfl) ?_) | (go_simp; go_at_call 78; refine HCH.out.mono ?_; rintro e w4 ⟨rfl, hp⟩))
    all_goals
      go_wp2
      go_ret
      exact ⟨rfl, hp⟩

theorem Append_any (h : IsFS w g fs G) (name : ByteArray) {v : Value} {b : List UInt8} (hb : Byt w v b) (hl : b.length ≤ 35184372088832) (hs : ∀ f ∈ fs.files, f.row.length < 1099511627776) :
    Calls Tryz.prog 23 #[.pointer (some ⟨g, 0, none⟩), .string name, v] w (FsPost w g G (fs.appendR name b).2 (.int .i64 (fs.appendR name b).1)) := by
  unfold Fs.appendR
  by_cases he : fs.appendE name b = 0
  · rw [if_neg (by simp [he])]
    exact Append_ok h name hb hl he hs
  · rw [if_pos he]
    exact Append_err h name hb hl he

end
end Go.Stk

/- The manifest on the disk: the steps of Write. -/
namespace Go.Stk
open Go Go.RowKit Go.Proofs

def hasB (l : List ByteArray) (x : ByteArray) : Bool := l.any fun y => decide (y = x)

/-- slices.Contains, of texts. -/
def ContainsOK : Prop := ∀ (w : World) (v : Value) (l : List ByteArray) (x : ByteArray), Txt w v l → Calls Tryz.prog 66 #[v, .string x] w fun e w' => e = .returned (.bool (hasB l x)) ∧ w' = w

/-- What the closure remove does. -/
def Fs.rmR (fs : Fs) : Int × Fs := if hasB fs.names nNew = true then fs.removeR nNew else (0, fs)

section
variable {w : World} {g p : Nat} {fs : Fs} {G : FG}

/-- A variable that holds the disk's address. -/
def IsVar (w : World) (p g : Nat) (G : FG) : Prop := w.heap[p]? = some (.cells #[.pointer (some ⟨g, 0, none⟩)] 35 (0, 0)) ∧ ∀ k ∈ G.blocks g, k ≠ p

theorem IsVar.adv {G' : FG} {w' : World} (h : IsVar w p g G) (ha : Adv g G G' w w') : IsVar w' p g G' :=
  ⟨(ha.1.block p (lt_of h.1) (fun hm => h.2 p hm rfl)).trans h.1, fun k hk e => by
    subst e
    rcases ha.2 k hk with hm | hm
    · exact h.2 k hm rfl
    · have := lt_of h.1; omega⟩

set_option maxRecDepth 100000 in
set_option maxHeartbeats 1600000 in
theorem rm_any (hS : SortStr) (hL : LenZero) (hC : ContainsOK) (h : IsFS w g fs G) (hv : IsVar w p g G) (hs : fs.row.length < 1099511627776) :
    Calls Tryz.prog 65 #[.pointer (some ⟨p, 0, none⟩)] w (FsPost w g G fs.rmR.2 (.int .i64 fs.rmR.1)) := by
  have hn := Names_any hS hL h
  have hc := cell_of hv.1
  have hrm : ∀ w1, Keep (fun _ => False) w w1 → Calls Tryz.prog 26 #[.pointer (some ⟨g, 0, none⟩), .string nNew] w1 (FsPost w1 g G (fs.removeR nNew).2 (.int .i64 (fs.removeR nNew).1)) := fun w1 hk => Remove_any (h.keep hk (fun _ _ h => h)) nNew hs
  have hc1 : ∀ w1, Keep (fun _ => False) w w1 → ∀ k, w1.cell? ⟨p, k, none⟩ = _ := fun w1 hk => cell_of ((hk.block p (lt_of hv.1) (fun h => h)).trans hv.1)
  have hcon : ∀ w1 v1, Txt w1 v1 fs.names → Calls Tryz.prog 66 #[v1, .string nNew] w1 fun e w' => e = .returned (.bool (hasB fs.names nNew)) ∧ w' = w1 := fun w1 v1 ht => hC w1 v1 _ _ ht
  have FIN : ∀ w1, Keep (fun _ => False) w w1 → FsPost w g G fs (.int .i64 0) (.returned (.int .i64 0)) w1 := fun w1 hk => FsPost.no h hk
  have HF := hid FIN
  have HRM := hid hrm
  have HC1 := hid hc1
  have HCON := hid hcon
  have HAF : Hid (∀ w1 e w2 v fs', Keep (fun _ => False) w w1 → FsPost w1 g G fs' v e w2 → FsPost w g G fs' v e w2) := fun w1 e w2 v fs' hk hp => FsPost.after hk hp
  unfold Fs.rmR
  clear h hv hrm hc1 hcon FIN
  by_cases hm : hasB fs.names nNew = true
  · rw [if_pos hm]
    generalize fs.removeR nNew = R at *
    obtain ⟨E, fs'⟩ := R
    generalize hasB fs.names nNew = B at *
    subst hm
    go_enter Tryz.func65, Tryz.ntmps65
    go_wp2_with (first
      | (go_at_call 24; refine hn.mono ?_; clear hn; rintro e w1 ⟨v1, rfl, ht, hk1⟩; have hcn := HCON.out w1 v1 ht; have hr := HRM.out w1 hk1; have hcw := HC1.out w1 hk1; have HK1 := hid hk1; clear ht hk1)
      | (go_at_call 66; refine hcn.mono ?_; clear hcn; rintro e w' ⟨rfl, rfl⟩)
      | (go_at_call 26; refine hr.mono ?_; clear hr; rintro e w2 ⟨rfl, hp⟩; have HP := hid hp; clear hp))
    go_ret
    exact HAF.out _ _ _ _ _ HK1.out ⟨rfl, HP.out⟩
  · rw [if_neg hm]
    have hd : hasB fs.names nNew = false := by simpa using hm
    clear hm
    generalize hasB fs.names nNew = B at *
    subst hd
    go_enter Tryz.func65, Tryz.ntmps65
    go_wp2_with (first
      | (go_at_call 24; refine hn.mono ?_; clear hn; rintro e w1 ⟨v1, rfl, ht, hk1⟩; have hcn := HCON.out w1 v1 ht; have hcw := HC1.out w1 hk1; have HK1 := hid hk1; clear ht hk1)
      | (go_at_call 66; refine hcn.mono ?_; clear hcn; rintro e w' ⟨rfl, rfl⟩))
    go_ret
    exact HF.out _ HK1.out


set_option maxRecDepth 100000 in
theorem cr_any (h : IsFS w g fs G) (hv : IsVar w p g G) (hs : fs.row.length < 1099511627776) (hf : fs.files.length < 1099511627776) :
    Calls Tryz.prog 67 #[.pointer (some ⟨p, 0, none⟩)] w (FsPost w g G (fs.createR nNew).2 (.int .i64 (fs.createR nNew).1)) := by
  have hcall := Create_any h nNew (show (12 : Nat) ≤ maxLen by unfold maxLen; omega) hs hf
  have hc := cell_of hv.1
  generalize fs.createR nNew = R at *
  obtain ⟨E, fs'⟩ := R
  clear h hv
  go_enter Tryz.func67, Tryz.ntmps67
  go_wp2_with (go_at_call 22; refine hcall.mono ?_; clear hcall; rintro e w2 ⟨rfl, hp⟩; have HP := hid hp; clear hp)
  go_ret
  exact ⟨rfl, HP.out⟩

set_option maxRecDepth 100000 in
theorem ap_any (h : IsFS w g fs G) (hv : IsVar w p g G) {b : List UInt8} {q : Nat} {v : Value} (hq : w.heap[q]? = some (.cells #[v] 24 (0, 0))) (hb : Byt w v b) (hl : b.length ≤ 35184372088832) (hs : ∀ f ∈ fs.files, f.row.length < 1099511627776) :
    Calls Tryz.prog 68 #[.pointer (some ⟨p, 0, none⟩), .pointer (some ⟨q, 0, none⟩)] w (FsPost w g G (fs.appendR nNew b).2 (.int .i64 (fs.appendR nNew b).1)) := by
  have hcall := Append_any h nNew hb hl hs
  have hc := cell_of hv.1
  have hcq := cell_of hq
  obtain ⟨va, vc, rfl⟩ := hb.len
  generalize fs.appendR nNew b = R at *
  obtain ⟨E, fs'⟩ := R
  clear h hv
  go_enter Tryz.func68, Tryz.ntmps68
  go_wp2_with (go_at_call 23; refine hcall.mono ?_; clear hcall; rintro e w2 ⟨rfl, hp⟩; have HP := hid hp; clear hp)
  go_ret
  exact ⟨rfl, HP.out⟩

set_option maxRecDepth 100000 in
theorem sy_any (h : IsFS w g fs G) (hv : IsVar w p g G) :
    Calls Tryz.prog 69 #[.pointer (some ⟨p, 0, none⟩)] w (FsPost w g G (fs.syncR nNew).2 (.int .i64 (fs.syncR nNew).1)) := by
  have hcall := Sync_any h nNew
  have hc := cell_of hv.1
  generalize fs.syncR nNew = R at *
  obtain ⟨E, fs'⟩ := R
  clear h hv
  go_enter Tryz.func69, Tryz.ntmps69
  go_wp2_with (go_at_call 70; refine hcall.mono ?_; clear hcall; rintro e w2 ⟨rfl, hp⟩; have HP := hid hp; clear hp)
  go_ret
  exact ⟨rfl, HP.out⟩

set_option maxRecDepth 100000 in
theorem re_any (h : IsFS w g fs G) (hv : IsVar w p g G) (hs : fs.row.length < 1099511627776) :
    Calls Tryz.prog 71 #[.pointer (some ⟨p, 0, none⟩)] w (FsPost w g G (fs.renameR nNew nMan).2 (.int .i64 (fs.renameR nNew nMan).1)) := by
  have hcall := Rename_any h nNew nMan (show (8 : Nat) ≤ maxLen by unfold maxLen; omega) hs
  have hc := cell_of hv.1
  generalize fs.renameR nNew nMan = R at *
  obtain ⟨E, fs'⟩ := R
  clear h hv
  go_enter Tryz.func71, Tryz.ntmps71
  go_wp2_with (go_at_call 72; refine hcall.mono ?_; clear hcall; rintro e w2 ⟨rfl, hp⟩; have HP := hid hp; clear hp)
  go_ret
  exact ⟨rfl, HP.out⟩

end
end Go.Stk

/- The steps of manifest.Write, as plain data. -/
namespace Go.Stk
open Go

def Fs.step (b : List UInt8) : Nat → Fs → Int × Fs
  | 0, fs => fs.rmR
  | 1, fs => fs.createR nNew
  | 2, fs => fs.appendR nNew b
  | 3, fs => fs.syncR nNew
  | 4, fs => fs.renameR nNew nMan
  | _, fs => fs.syncDirR

/-- Behind an error: what became of it goes, if there is power. -/
def Fs.undo (fs : Fs) : Fs := if fs.dead then fs else fs.rmR.2

/-- n steps, from the number k on. -/
def Fs.steps (b : List UInt8) : Nat → Nat → Fs → Int × Fs
  | 0, _, fs => (0, fs)
  | n + 1, k, fs => if (fs.step b k).1 ≠ 0 then ((fs.step b k).1, (fs.step b k).2.undo) else Fs.steps b n (k + 1) (fs.step b k).2

/-- manifest.Write. -/
def manWrite (fs : Fs) (g s : Int) : Int × Fs := if (manPut g s).2 ≠ 0 then ((manPut g s).2, fs) else Fs.steps (manPut g s).1 6 0 fs

theorem Fs.Small.mono {n m : Nat} {fs : Fs} (h : fs.Small n) (hm : n ≤ m) : fs.Small m :=
  ⟨Nat.le_trans h.1 hm, Nat.le_trans h.2.1 hm, fun f hf => Nat.le_trans (h.2.2 f hf) hm⟩

theorem Fs.Small.tick {n : Nat} {fs : Fs} (h : fs.Small n) : fs.tick.Small n := h

theorem small_set {n : Nat} {fs : Fs} (h : fs.Small n) (i : Nat) {f : Fl} (hf : f.row.length ≤ n) : (fs.setFile i f).Small n := by
  refine ⟨h.1, by simp only [Fs.setFile, List.length_set]; exact h.2.1, fun f' hf' => ?_⟩
  simp only [Fs.setFile] at hf'
  rcases List.mem_or_eq_of_mem_set hf' with h1 | h1
  · exact h.2.2 f' h1
  · subst h1; exact hf

theorem small_file {n : Nat} {fs : Fs} (h : fs.Small n) (k : Nat) : (fs.file k).row.length ≤ n := by
  unfold Fs.file
  by_cases hk : k - 1 < fs.files.length
  · rw [List.getD, List.getElem?_eq_getElem hk]
    exact h.2.2 _ (List.getElem_mem hk)
  · rw [List.getD, List.getElem?_eq_none (by omega)]
    simp

theorem small_rm {n : Nat} {fs : Fs} (h : fs.Small n) (a : ByteArray) : (fs.removeR a).2.Small (n + 1) := by
  unfold Fs.removeR
  split
  · exact h.mono (by omega)
  · refine ⟨?_, Nat.le_trans h.2.1 (by omega), fun f hf => Nat.le_trans (h.2.2 f hf) (by omega)⟩
    have := h.1
    simp only [Fs.tick, Fs.move, List.length_append, List.length_cons, List.length_nil]
    omega

theorem small_rmR {n : Nat} {fs : Fs} (h : fs.Small n) : fs.rmR.2.Small (n + 1) := by
  unfold Fs.rmR
  split
  · exact small_rm h _
  · exact h.mono (by omega)

theorem small_create {n : Nat} {fs : Fs} (h : fs.Small n) (a : ByteArray) : (fs.createR a).2.Small (n + 1) := by
  unfold Fs.createR
  split
  · exact h.mono (by omega)
  · refine ⟨?_, ?_, fun f hf => ?_⟩
    · have := h.1
      simp only [Fs.tick, Fs.createS, List.length_append, List.length_cons, List.length_nil]
      omega
    · have := h.2.1
      simp only [Fs.tick, Fs.createS, List.length_append, List.length_cons, List.length_nil]
      omega
    · simp only [Fs.tick, Fs.createS, List.mem_append, List.mem_singleton] at hf
      rcases hf with hf | rfl
      · exact Nat.le_trans (h.2.2 f hf) (by omega)
      · simp

theorem small_append {n : Nat} {fs : Fs} (h : fs.Small n) (a : ByteArray) (b : List UInt8) : (fs.appendR a b).2.Small (n + 1) := by
  unfold Fs.appendR
  split
  · exact h.mono (by omega)
  · refine Fs.Small.tick (small_set (h.mono (by omega)) _ ?_)
    have := small_file h (fs.num a)
    simp only [Fs.at, List.length_append, List.length_cons, List.length_nil]
    omega

theorem small_sync {n : Nat} {fs : Fs} (h : fs.Small n) (a : ByteArray) : (fs.syncR a).2.Small (n + 1) := by
  unfold Fs.syncR
  split
  · exact h.mono (by omega)
  · simp only
    split
    · exact (h.mono (by omega)).tick
    · exact Fs.Small.tick (small_set (h.mono (by omega)) _ (by simp))

theorem small_rename {n : Nat} {fs : Fs} (h : fs.Small n) (a b : ByteArray) : (fs.renameR a b).2.Small (n + 1) := by
  unfold Fs.renameR
  split
  · exact h.mono (by omega)
  · refine ⟨?_, Nat.le_trans h.2.1 (by omega), fun f hf => Nat.le_trans (h.2.2 f hf) (by omega)⟩
    have := h.1
    simp only [Fs.tick, Fs.move, List.length_append, List.length_cons, List.length_nil]
    omega

theorem small_syncDir {n : Nat} {fs : Fs} (h : fs.Small n) : fs.syncDirR.2.Small (n + 1) := by
  unfold Fs.syncDirR
  split
  · exact h.mono (by omega)
  · simp only
    split
    · exact (h.mono (by omega)).tick
    · exact ⟨Nat.zero_le _, Nat.le_trans h.2.1 (by omega), fun f hf => Nat.le_trans (h.2.2 f hf) (by omega)⟩

theorem small_step {n : Nat} {fs : Fs} (h : fs.Small n) (b : List UInt8) (k : Nat) : (fs.step b k).2.Small (n + 1) := by
  unfold Fs.step
  split
  · exact small_rmR h
  · exact small_create h _
  · exact small_append h _ _
  · exact small_sync h _
  · exact small_rename h _ _
  · exact small_syncDir h

end Go.Stk

/- The disk as it is seen, while the power is on: names and contents. No program stands here. -/
namespace Go.Stk
open Go

/-- What is seen: names, each with its bytes. -/
def Fs.view (fs : Fs) : List (ByteArray × List UInt8) := fs.seen.map fun p => (p.1, (fs.file p.2).now)

/-- The power is on, and no failure is armed. -/
structure Calm (fs : Fs) (room : Nat) : Prop where
  wf : fs.WF
  dead : fs.dead = false
  fuse : fs.fuse = 0
  room : fs.room = room
  nums : (fs.seen.map (·.2)).Nodup

theorem dget_view (fs : Fs) (name : ByteArray) : dget fs.view name = (dget fs.seen name).map fun n => (fs.file n).now := dget_map fs.seen (fun n => (fs.file n).now) name
theorem keys_view (fs : Fs) : keysOf fs.view = keysOf fs.seen := keysOf_map fs.seen (fun n => (fs.file n).now)
theorem view_nodup {fs : Fs} (h : fs.WF) : (keysOf fs.view).Nodup := by rw [keys_view]; exact h.seen_nodup
theorem used_view (fs : Fs) : fs.used = (fs.view.map fun p => p.2.length).sum := by
  simp only [Fs.used, Fs.view, List.map_map]
  rfl
theorem view_length (fs : Fs) : fs.view.length = fs.seen.length := by simp [Fs.view]

theorem calm_tick {fs : Fs} {room : Nat} (h : Calm fs room) : Calm fs.tick room :=
  ⟨h.wf.tick, by simp [Fs.tick, h.fuse], by simp [Fs.tick, h.fuse], h.room, h.nums⟩
theorem view_tick (fs : Fs) : fs.tick.view = fs.view := rfl
theorem calm_end {fs : Fs} {room : Nat} (h : Calm fs room) : fs.endE = 0 := by simp [Fs.endE, h.fuse]
theorem calm_new {room : Nat} (h : room ≤ 1048576) : Calm (Fs.new room) room ∧ (Fs.new room).view = [] :=
  ⟨⟨Fs.WF.new room h, rfl, rfl, rfl, List.nodup_nil⟩, rfl⟩

section
variable {fs : Fs} {room : Nat} {name : ByteArray} {x : List UInt8}

theorem calm_getE (h : Calm fs room) (hx : dget fs.view name = some x) : fs.getE name = 0 ∧ (fs.at name).now = x ∧ ∃ n, dget fs.seen name = some n ∧ (fs.file n).now = x ∧ fs.at name = fs.file n ∧ fs.num name = n := by
  rw [dget_view] at hx
  cases hn : dget fs.seen name with
  | none => rw [hn] at hx; simp at hx
  | some n =>
    rw [hn] at hx
    simp only [Option.map_some, Option.some.injEq] at hx
    have e : fs.num name = n := by simp [Fs.num, hn]
    exact ⟨by simp [Fs.getE, h.dead, hn], by rw [Fs.at, e]; exact hx, n, rfl, hx, by rw [Fs.at, e], e⟩

theorem calm_getE_none (h : Calm fs room) (hx : dget fs.view name = none) : fs.getE name = 7 := by
  rw [dget_view] at hx
  cases hn : dget fs.seen name with
  | none => simp [Fs.getE, h.dead, hn]
  | some n => rw [hn] at hx; simp at hx

theorem names_view (h : Calm fs room) : fs.names = sortB (keysOf fs.view) := by rw [Fs.names, if_neg (by simp [h.dead]), keys_view]

theorem dput_self {κ α : Type} [DecidableEq κ] {D : List (κ × α)} {k : κ} {v : α} (h : dget D k = some v) : dput D k v = D := by
  induction D with
  | nil => simp [dget] at h
  | cons p r ih =>
    obtain ⟨a, u⟩ := p
    simp only [dget] at h
    simp only [dput]
    split at h
    · rename_i e
      injection h with h
      rw [if_pos e, h, e]
    · rename_i e
      rw [if_neg e, ih h]

/-! ### moves -/

theorem dput_new {κ α : Type} [DecidableEq κ] {D : List (κ × α)} {k : κ} (v : α) (h : dget D k = none) : dput D k v = D ++ [(k, v)] := by
  induction D with
  | nil => rfl
  | cons p r ih =>
    obtain ⟨a, u⟩ := p
    simp only [dget] at h
    split at h
    · cases h
    · rename_i hne
      simp only [dput, if_neg hne, ih h, List.cons_append]

theorem file_append_old (fs : Fs) (f : Fl) {n : Nat} (h1 : 1 ≤ n) (h2 : n ≤ fs.files.length) : (fs.files ++ [f]).getD (n - 1) ⟨[], []⟩ = fs.file n := by
  simp only [Fs.file, List.getD]
  rw [List.getElem?_append_left (by omega)]

theorem calm_create (h : Calm fs room) (hn : isName name = true) (hx : dget fs.view name = none) (hl : fs.view.length < 64) :
    (fs.createR name).1 = 0 ∧ Calm (fs.createR name).2 room ∧ (fs.createR name).2.view = fs.view ++ [(name, [])] := by
  have hd : dget fs.seen name = none := by
    rw [dget_view] at hx
    cases hn : dget fs.seen name with
    | none => rfl
    | some n => rw [hn] at hx; simp at hx
  rw [view_length] at hl
  have hE : fs.createE name = 0 := by
    unfold Fs.createE
    rw [if_neg (by simp [h.dead]), if_neg (by simp [hn]), if_neg (by simp [hd]), if_neg (by omega)]
  have e : fs.createR name = (fs.endE, (fs.createS name).tick) := by rw [Fs.createR, if_neg (by simp [hE])]
  have hs : (fs.createS name).seen = fs.seen ++ [(name, fs.files.length + 1)] := by
    show mvs (fs.row ++ [.create name (fs.files.length + 1)]) fs.sure = _
    rw [mvs_snoc]
    exact dput_new _ hd
  have hv : (fs.createS name).view = fs.view ++ [(name, [])] := by
    unfold Fs.view
    rw [hs, List.map_append]
    congr 1
    · refine List.map_congr_left fun p hp => ?_
      obtain ⟨q1, q2⟩ := h.wf.seen_nums p hp
      have := file_append_old fs ⟨[], []⟩ q1 q2
      show (p.1, ((fs.files ++ [(⟨[], []⟩ : Fl)]).getD (p.2 - 1) ⟨[], []⟩).now) = _
      rw [this]
    · show [(name, ((fs.files ++ [(⟨[], []⟩ : Fl)]).getD (fs.files.length + 1 - 1) ⟨[], []⟩).now)] = _
      simp [Fl.now, chs]
  rw [e]
  refine ⟨calm_end h, calm_tick ⟨h.wf.create hl, h.dead, h.fuse, h.room, ?_⟩, hv⟩
  rw [hs, List.map_append, List.nodup_append]
  refine ⟨h.nums, by simp, fun a ha b hb => ?_⟩
  obtain ⟨p, hp, rfl⟩ := List.mem_map.1 ha
  have := (h.wf.seen_nums p hp).2
  simp at hb
  omega

theorem nums_ddel {D : Dir} {k : ByteArray} (h : (D.map (·.2)).Nodup) : ((ddel D k).map (·.2)).Nodup := by
  induction D with
  | nil => exact h
  | cons p r ih =>
    obtain ⟨a, u⟩ := p
    simp only [List.map_cons, List.nodup_cons] at h
    simp only [ddel]
    split
    · exact h.2
    · simp only [List.map_cons, List.nodup_cons]
      refine ⟨fun hm => ?_, ih h.2⟩
      obtain ⟨q, hq, e⟩ := List.mem_map.1 hm
      exact h.1 (List.mem_map.2 ⟨q, mem_ddel hq, e⟩)

theorem dget_ddel_ne_mem {D : Dir} {k : ByteArray} {n : Nat} (h : (D.map (·.2)).Nodup) (hk : (keysOf D).Nodup) (hn : dget D k = some n) : n ∉ (ddel D k).map (·.2) := by
  induction D with
  | nil => simp [dget] at hn
  | cons p r ih =>
    obtain ⟨a, u⟩ := p
    simp only [List.map_cons, List.nodup_cons] at h
    simp only [keysOf, List.map_cons, List.nodup_cons] at hk
    simp only [dget] at hn
    simp only [ddel]
    by_cases e : a = k
    · rw [if_pos e] at hn ⊢
      injection hn with hn
      subst hn
      exact h.1
    · rw [if_neg e] at hn ⊢
      simp only [List.map_cons, List.mem_cons, not_or]
      refine ⟨fun e2 => ?_, ih h.2 hk.2 hn⟩
      subst e2
      exact h.1 (List.mem_map.2 ⟨(k, n), dget_some_mem hn, rfl⟩)

theorem nums_dput {D : Dir} {k : ByteArray} {n : Nat} (h : (D.map (·.2)).Nodup) (hn : n ∉ D.map (·.2)) : ((dput D k n).map (·.2)).Nodup := by
  induction D with
  | nil => simp [dput]
  | cons p r ih =>
    obtain ⟨a, u⟩ := p
    simp only [List.map_cons, List.nodup_cons, List.mem_cons, not_or] at h hn
    simp only [dput]
    split
    · simp only [List.map_cons, List.nodup_cons]
      exact ⟨hn.2, h.2⟩
    · simp only [List.map_cons, List.nodup_cons]
      refine ⟨fun hm => ?_, ih h.2 hn.2⟩
      obtain ⟨q, hq, e⟩ := List.mem_map.1 hm
      rcases mem_dput hq with h1 | h1
      · subst h1
        exact hn.1 e
      · exact h.1 (List.mem_map.2 ⟨q, h1, e⟩)

theorem calm_rename (h : Calm fs room) {b : ByteArray} (hb : isName b = true) (hx : dget fs.view name = some x) :
    (fs.renameR name b).1 = 0 ∧ Calm (fs.renameR name b).2 room ∧ (fs.renameR name b).2.view = dput (ddel fs.view name) b x := by
  obtain ⟨hE, _, n, hn, hf, _, _⟩ := calm_getE h hx
  have e : fs.renameR name b = (fs.endE, (fs.move (.rename name b)).tick) := by
    rw [Fs.renameR, if_neg]
    simp [Fs.renameE, hE, hb]
  have hs : (fs.move (.rename name b)).seen = dput (ddel fs.seen name) b n := by
    show mvs (fs.row ++ [.rename name b]) fs.sure = _
    rw [mvs_snoc]
    show dput (ddel fs.seen name) b ((dget fs.seen name).getD 0) = _
    rw [hn]
    rfl
  rw [e]
  refine ⟨calm_end h, calm_tick ⟨h.wf.rename (by simp [hn]), h.dead, h.fuse, h.room, ?_⟩, ?_⟩
  · rw [hs]
    exact nums_dput (nums_ddel h.nums) (dget_ddel_ne_mem h.nums h.wf.seen_nodup hn)
  · show (fs.move (.rename name b)).view = _
    unfold Fs.view
    rw [hs]
    show (dput (ddel fs.seen name) b n).map (fun p => (p.1, (fs.file p.2).now)) = _
    rw [← dput_map (f := fun n => (fs.file n).now), ← ddel_map (f := fun n => (fs.file n).now), hf]

theorem calm_remove (h : Calm fs room) (hx : dget fs.view name = some x) :
    (fs.removeR name).1 = 0 ∧ Calm (fs.removeR name).2 room ∧ (fs.removeR name).2.view = ddel fs.view name := by
  obtain ⟨hE, _, n, hn, hf, _, _⟩ := calm_getE h hx
  have e : fs.removeR name = (fs.endE, (fs.move (.remove name)).tick) := by rw [Fs.removeR, if_neg (by simp [hE])]
  have hs : (fs.move (.remove name)).seen = ddel fs.seen name := by
    show mvs (fs.row ++ [.remove name]) fs.sure = _
    rw [mvs_snoc]
    rfl
  rw [e]
  refine ⟨calm_end h, calm_tick ⟨h.wf.remove, h.dead, h.fuse, h.room, ?_⟩, ?_⟩
  · rw [hs]
    exact nums_ddel h.nums
  · show (fs.move (.remove name)).view = _
    unfold Fs.view
    rw [hs]
    show (ddel fs.seen name).map (fun p => (p.1, (fs.file p.2).now)) = _
    rw [← ddel_map (f := fun n => (fs.file n).now)]

/-! ### changes -/

theorem map_set {D : Dir} {f g : Nat → List UInt8} {n : Nat} {y : List UInt8} (hk : (keysOf D).Nodup) (hd : (D.map (·.2)).Nodup) (hn : dget D name = some n) (hg : ∀ m, m ∈ D.map (·.2) → m ≠ n → g m = f m) (hy : g n = y) :
    (D.map fun p => (p.1, g p.2)) = dput (D.map fun p => (p.1, f p.2)) name y := by
  induction D with
  | nil => simp [dget] at hn
  | cons p r ih =>
    obtain ⟨a, u⟩ := p
    simp only [List.map_cons, List.nodup_cons] at hd
    simp only [keysOf, List.map_cons, List.nodup_cons] at hk
    simp only [dget] at hn
    simp only [List.map_cons, dput]
    by_cases e : a = name
    · rw [if_pos e] at hn ⊢
      injection hn with hn
      subst hn
      rw [hy, e]
      congr 1
      refine List.map_congr_left fun p hp => ?_
      rw [hg p.2 (by simp only [List.map_cons, List.mem_cons]; exact .inr (List.mem_map.2 ⟨p, hp, rfl⟩)) (fun e2 => hd.1 (List.mem_map.2 ⟨p, hp, e2⟩))]
    · rw [if_neg e] at hn ⊢
      have hm : n ∈ r.map (·.2) := List.mem_map.2 ⟨(name, n), dget_some_mem hn, rfl⟩
      rw [hg u (by simp) (fun e2 => hd.1 (e2 ▸ hm)), ih hk.2 hd.2 hn (fun m hm h => hg m (by simp only [List.map_cons, List.mem_cons]; exact .inr hm) h)]

theorem file_set (fs : Fs) (f : Fl) {n m : Nat} (h1 : 1 ≤ n) (h2 : n ≤ fs.files.length) (hm : 1 ≤ m) : (fs.setFile n f).file m = if m = n then f else fs.file m := by
  simp only [Fs.file, Fs.setFile, List.getD]
  by_cases e : m = n
  · subst e
    rw [if_pos rfl, List.getElem?_set_self (by omega)]
    rfl
  · rw [if_neg e, List.getElem?_set_ne (by omega)]

/-- A file stands anew. -/
theorem calm_file (h : Calm fs room) {f : Fl} {y : List UInt8} (hx : dget fs.view name = some x) (hy : f.now = y) (hwf : (fs.setFile (fs.num name) f).WF) :
    Calm (fs.setFile (fs.num name) f) room ∧ (fs.setFile (fs.num name) f).view = dput fs.view name y := by
  obtain ⟨hE, _, n, hn, hf, _, hnum⟩ := calm_getE h hx
  rw [hnum] at hwf ⊢
  obtain ⟨q1, q2⟩ := h.wf.seen_nums _ (dget_some_mem hn)
  refine ⟨⟨hwf, h.dead, h.fuse, h.room, h.nums⟩, ?_⟩
  exact map_set h.wf.seen_nodup h.nums hn (f := fun n => (fs.file n).now) (g := fun m => ((fs.setFile n f).file m).now) (fun m hm hne => by
    obtain ⟨p, hp, rfl⟩ := List.mem_map.1 hm
    have := (h.wf.seen_nums p hp).1
    show ((fs.setFile n f).file p.2).now = (fs.file p.2).now
    rw [file_set fs f q1 q2 this, if_neg hne]) (by show ((fs.setFile n f).file n).now = y; rw [file_set fs f q1 q2 q1, if_pos rfl, hy])

theorem le_used (h : Calm fs room) (hx : dget fs.view name = some x) : x.length ≤ fs.used := by
  obtain ⟨hE, _, n, hn, hf, _, _⟩ := calm_getE h hx
  have := Fs.size_le_used hn
  rw [Fs.size, hf] at this
  exact this

/-- A change of a file that keeps to the disk's room. -/
theorem calm_change (h : Calm fs room) {c : Ch} (hx : dget fs.view name = some x) (hat : c.at_ ≤ x.length) (hl : (c.do x).length ≤ 1048576) :
    Calm (fs.change name c).tick room ∧ (fs.change name c).tick.view = dput fs.view name (c.do x) := by
  obtain ⟨hE, hat', n, hn, hf, he, hnum⟩ := calm_getE h hx
  obtain ⟨q1, q2⟩ := h.wf.seen_nums _ (dget_some_mem hn)
  have hfi : fs.files[n - 1]? = some (fs.file n) := by
    simp only [Fs.file, List.getD]
    rw [List.getElem?_eq_getElem (by simp only at q1 q2; omega)]
    rfl
  have hwf := h.wf.change (c := c) hfi (by rw [hf]; exact hat) (by rw [hf]; exact hl)
  have hnow : (⟨(fs.at name).sure, (fs.at name).row ++ [c]⟩ : Fl).now = c.do x := by
    show chs ((fs.at name).row ++ [c]) (fs.at name).sure = _
    rw [chs_snoc]
    show c.do (fs.at name).now = _
    rw [hat']
  obtain ⟨k1, k2⟩ := calm_file h (f := ⟨(fs.at name).sure, (fs.at name).row ++ [c]⟩) hx hnow (by rw [hnum, he]; exact hwf)
  exact ⟨calm_tick k1, k2⟩

theorem used_room (h : Calm fs room) {b : List UInt8} (hc : ¬ (0 < b.length ∧ (fs.room : Int) - fs.used < b.length)) (hu : fs.used ≤ 1048576) : fs.used + b.length ≤ 1048576 := by
  have := h.wf.room
  by_cases h0 : b.length = 0
  · omega
  · have : ¬ ((fs.room : Int) - fs.used < b.length) := fun hh => hc ⟨by omega, hh⟩
    omega

theorem calm_append (h : Calm fs room) {b : List UInt8} (hx : dget fs.view name = some x) (hc : ¬ (0 < b.length ∧ (room : Int) - fs.used < b.length)) (hu : fs.used ≤ 1048576) :
    (fs.appendR name b).1 = 0 ∧ Calm (fs.appendR name b).2 room ∧ (fs.appendR name b).2.view = dput fs.view name (x ++ b) := by
  obtain ⟨hE, hat', n, hn, hf, he, hnum⟩ := calm_getE h hx
  rw [← h.room] at hc
  have hle := le_used h hx
  have hr := used_room h hc hu
  have e : fs.appendR name b = (fs.endE, (fs.change name (fs.appendC name b)).tick) := by
    rw [Fs.appendR, if_neg]
    rw [Fs.appendE, if_neg (by simp [hE]), if_neg hc]
    simp
  have hdo : (fs.appendC name b).do x = x ++ b := by
    simp only [Fs.appendC, hat', Ch.do]
    simp
  rw [e]
  obtain ⟨k1, k2⟩ := calm_change h (c := fs.appendC name b) hx (by simp [Fs.appendC, hat']) (by rw [hdo, List.length_append]; omega)
  exact ⟨calm_end h, k1, by rw [k2, hdo]⟩

theorem calm_append_full (h : Calm fs room) {b : List UInt8} (hx : dget fs.view name = some x) (hc : 0 < b.length ∧ (room : Int) - fs.used < b.length) : fs.appendR name b = (9, fs) := by
  obtain ⟨hE, _⟩ := calm_getE h hx
  rw [← h.room] at hc
  have e : fs.appendE name b = 9 := by rw [Fs.appendE, if_neg (by simp [hE]), if_pos hc]
  rw [Fs.appendR, if_pos (by simp [e]), e]

theorem calm_sync (h : Calm fs room) (hx : dget fs.view name = some x) : (fs.syncR name).1 = 0 ∧ Calm (fs.syncR name).2 room ∧ (fs.syncR name).2.view = fs.view := by
  obtain ⟨hE, hat', n, hn, hf, he, hnum⟩ := calm_getE h hx
  have e : fs.syncR name = (fs.endE, (fs.syncS name).tick) := by
    rw [Fs.syncR, if_neg (by simp [hE]), if_neg (by simp [h.fuse])]
  rw [e]
  have hlen : x.length ≤ 1048576 := by
    have := Fs.size_le h.wf n
    rwa [Fs.size, hf] at this
  have hwf : (fs.setFile (fs.num name) ⟨(fs.at name).now, []⟩).WF := by
    rw [hat']
    exact h.wf.file hlen
  obtain ⟨k1, k2⟩ := calm_file h (f := ⟨(fs.at name).now, []⟩) (y := x) hx (by rw [hat']; rfl) hwf
  refine ⟨calm_end h, calm_tick k1, ?_⟩
  show (fs.setFile (fs.num name) ⟨(fs.at name).now, []⟩).view = _
  rw [k2]
  exact dput_self hx

theorem calm_syncDir (h : Calm fs room) : fs.syncDirR.1 = 0 ∧ Calm fs.syncDirR.2 room ∧ fs.syncDirR.2.view = fs.view := by
  have e : fs.syncDirR = (fs.endE, fs.syncDirS.tick) := by
    rw [Fs.syncDirR, if_neg (by simp [h.dead]), if_neg (by simp [h.fuse])]
  rw [e]
  exact ⟨calm_end h, calm_tick ⟨h.wf.syncDir, h.dead, h.fuse, h.room, h.nums⟩, rfl⟩

end
end Go.Stk

/- What is put is got: numbers, rows, frames, manifests. No program stands here. -/
namespace Go.Stk
open Go

theorem lebL_form (n : Nat) : ∃ i c, (lebL n).length = i + 1 ∧ (∀ j, j < i → ∃ x, (lebL n)[j]? = some x ∧ 128 ≤ x.toNat) ∧ (lebL n)[i]? = some c ∧ c.toNat < 128 ∧ (1 ≤ n → c.toNat ≠ 0) ∧ valL (lebL n) = n ∧ (0 < i → 128 ≤ n) := by
  induction n using Nat.strongRecOn with
  | _ n ih =>
    by_cases h : n < 128
    · rw [lebL_small h]
      have e : (UInt8.ofNat n).toNat = n := by simp; omega
      exact ⟨0, UInt8.ofNat n, rfl, fun j hj => by omega, rfl, by omega, fun h1 => by omega, by simp only [valL]; omega, fun h => by omega⟩
    · rw [lebL_big h]
      obtain ⟨i, c, h1, h2, h3, h4, h5, h6, h7⟩ := ih (n / 128) (by omega)
      have e : (UInt8.ofNat (n % 128 + 128)).toNat = n % 128 + 128 := by simp; omega
      refine ⟨i + 1, c, by simp [h1], fun j hj => ?_, by simpa using h3, h4, fun _ => h5 (by omega), ?_, fun _ => by omega⟩
      · cases j with
        | zero => exact ⟨_, rfl, by omega⟩
        | succ j => simpa using h2 j (by omega)
      · simp only [valL, h6, e]
        omega

theorem valL_ge : ∀ (l : List UInt8) (i : Nat) (c : UInt8), l[i]? = some c → c.toNat < 128 → c.toNat * 128 ^ i ≤ valL l
  | [], i, c, h, _ => by simp at h
  | x :: r, 0, c, h, hc => by
    simp only [List.getElem?_cons_zero, Option.some.injEq] at h
    subst h
    simp only [valL, Nat.pow_zero, Nat.mul_one]
    omega
  | x :: r, i + 1, c, h, hc => by
    simp only [List.getElem?_cons_succ] at h
    have := valL_ge r i c h hc
    simp only [valL, Nat.pow_succ]
    rw [← Nat.mul_assoc, Nat.mul_comm]
    omega

theorem lebG_put {n : Nat} (hn : n < 18446744073709551616) (r : List UInt8) : lebG (lebL n ++ r) = (n, (lebL n).length, 0) := by
  obtain ⟨i, c, h1, h2, h3, h4, h5, h6, h7⟩ := lebL_form n
  have h10 := lebL_ten hn
  have hge := valL_ge _ i c h3 h4
  rw [h6] at hge
  have ha : ∀ j, j < i + 1 → (lebL n ++ r)[j]? = (lebL n)[j]? := fun j hj => List.getElem?_append_left (by omega)
  have h9 : i = 9 → c.toNat ≤ 1 := fun e => by
    subst e
    omega
  rw [lebG_ok (i := i) (c := c) (by omega) (fun j hj => by rw [ha j (by omega)]; exact h2 j hj) (by rw [ha i (by omega)]; exact h3) (.inr h4) (by
    rintro (⟨e, h⟩ | ⟨h, e⟩)
    · have := h9 e; omega
    · exact h5 (by have := h7 h; omega) e)]
  rw [← h1, List.take_left', h6]
  rfl

theorem lebGet_put {n : Nat} (hn : n < 18446744073709551616) (p r : List UInt8) : lebGet (p ++ (lebL n ++ r)) p.length = (n, ((p.length + (lebL n).length : Nat) : Int), 0) := by
  unfold lebGet
  rw [if_neg (by simp; omega)]
  have e : (p ++ (lebL n ++ r)).drop (p.length : Int).toNat = lebL n ++ r := by simp
  rw [e, lebG_put hn]
  simp

theorem cntGet_put {n : Nat} {most : Int} (hn : n < 18446744073709551616) (hm : (n : Int) ≤ most) (p r : List UInt8) : cntGet (p ++ (lebL n ++ r)) p.length most = ((n : Int), ((p.length + (lebL n).length : Nat) : Int), 0) := by
  unfold cntGet
  rw [lebGet_put hn]
  simp only [ne_eq, not_true_eq_false, if_false]
  rw [if_neg (by omega)]

theorem rowGet_put {l : List UInt8} {most : Int} (hn : l.length < 18446744073709551616) (hm : (l.length : Int) ≤ most) (p r : List UInt8) : rowGet (p ++ (rowL l ++ r)) p.length most = (l, ((p.length + (rowL l).length : Nat) : Int), 0) := by
  unfold rowGet
  have e : p ++ (rowL l ++ r) = p ++ (lebL l.length ++ (l ++ r)) := by simp [rowL]
  rw [e, cntGet_put hn hm]
  simp only [ne_eq, not_true_eq_false, if_false]
  rw [if_neg (by simp; omega)]
  have e2 : (p ++ (lebL l.length ++ (l ++ r))).drop (((p.length + (lebL l.length).length : Nat) : Int)).toNat = l ++ r := by
    rw [Int.toNat_natCast, ← List.append_assoc, List.drop_left' (by simp)]
  rw [e2]
  simp [rowL]
  omega

theorem fourL_len (n : Nat) : (fourL n).length = 4 := rfl

theorem frmGet_put {l : List UInt8} (hl : l.length ≤ 65536) (p r : List UInt8) : frmGet (p ++ (frameL l ++ r)) p.length = (l, ((p.length + (frameL l).length : Nat) : Int), 0) := by
  unfold frmGet
  have e : p ++ (frameL l ++ r) = p ++ (rowL l ++ (fourL (crcOf (rowL l)) ++ r)) := by simp [frameL]
  rw [e, rowGet_put (by omega) (by omega)]
  simp only [ne_eq, not_true_eq_false, if_false]
  rw [if_neg (by simp [fourL_len]; omega)]
  have e2 : (p ++ (rowL l ++ (fourL (crcOf (rowL l)) ++ r))).drop (((p.length + (rowL l).length : Nat) : Int)).toNat = fourL (crcOf (rowL l)) ++ r := by
    rw [Int.toNat_natCast, ← List.append_assoc, List.drop_left' (by simp)]
  have e3 : ((p ++ (rowL l ++ (fourL (crcOf (rowL l)) ++ r))).drop ((p.length : Nat) : Int).toNat).take ((((p.length + (rowL l).length : Nat) : Int)).toNat - ((p.length : Nat) : Int).toNat) = rowL l := by
    rw [Int.toNat_natCast, Int.toNat_natCast, List.drop_left' rfl, show p.length + (rowL l).length - p.length = (rowL l).length by omega, List.take_left' rfl]
  rw [e2, e3, if_pos (by rw [List.take_left' (fourL_len _)])]
  simp [frameL, fourL_len]
  omega

theorem manGet_put {g s : Int} (h : manMay g s = true) : manGet (manPut g s).1 = (g, s, 0) := by
  obtain ⟨h1, h2, h3, h4⟩ := (manMay_iff g s).1 h
  have hb := manBody_len h
  have e : (manPut g s).1 = frameL (manBody g s) := by
    unfold manPut frmPut
    rw [if_pos h, if_neg (by omega)]
  rw [e]
  unfold manGet
  have f := frmGet_put (l := manBody g s) (by omega) [] []
  simp only [List.nil_append, List.append_nil, List.length_nil, Nat.zero_add] at f
  rw [show ((0 : Nat) : Int) = 0 from rfl] at f
  rw [f]
  have k1 := lebGet_put (n := g.toNat) (by omega) [109] (lebL s.toNat)
  have k2 := lebGet_put (n := s.toNat) (by omega) ([109] ++ lebL g.toNat) []
  have b1 : manBody g s = [109] ++ (lebL g.toNat ++ lebL s.toNat) := by simp [manBody]
  have b2 : manBody g s = ([109] ++ lebL g.toNat) ++ (lebL s.toNat ++ []) := by simp [manBody]
  have k1' : lebGet (manBody g s) 1 = (g.toNat, ((1 + (lebL g.toNat).length : Nat) : Int), 0) := by rw [b1]; exact k1
  have k2' : lebGet (manBody g s) ((1 + (lebL g.toNat).length : Nat) : Int) = (s.toNat, ((1 + (lebL g.toNat).length + (lebL s.toNat).length : Nat) : Int), 0) := by
    rw [b2]
    have : (([109] ++ lebL g.toNat).length : Int) = ((1 + (lebL g.toNat).length : Nat) : Int) := by simp; omega
    rw [this] at k2
    rw [k2]
    simp
    omega
  simp only [ne_eq, not_true_eq_false, if_false]
  rw [if_neg (by simp [manBody]), k1']
  simp only [not_true_eq_false, if_false]
  rw [k2']
  simp only [not_true_eq_false, if_false]
  rw [if_neg (by simp [manBody]; omega)]
  simp
  omega

end Go.Stk

/- The library's calls that were hypotheses: sort.Strings on a row of its own, bits.Len of 0, slices.Contains of texts. -/
namespace Go.Stk
open Go Go.RowKit Go.Proofs

theorem len_zero : LenZero := fun w => (Tryz.bits_Len 0 w (by omega) (by omega)).mono fun _ _ ⟨h1, h2⟩ => ⟨h1, h2⟩

theorem encStr_strV (l : List ByteArray) : (l.map fun s => s.data.toList).map encStr = strV l := by
  simp [strV, encStr, Function.comp_def]

theorem sort_str : SortStr := by
  intro w g cap l hlen h
  rcases h.2 with ⟨h0, _⟩ | ⟨g', cap', cur, hv, _, hb, h1, h2, h3, h4⟩
  · cases h0
  cases hv
  have hl : (l.map fun s => s.data.toList).length = l.length := by simp
  have hH := holds_of_block (ss := l.map fun s => s.data.toList) hb (by rw [encStr_strV, hl]; simpa using h4)
  have hc := Tryz.sort_Strings g 0 cap (l.map fun s => s.data.toList) w hH (lt_of hb) (by rw [hl]; omega)
  rw [hl] at hc
  refine hc.mono ?_
  rintro e w' ⟨rfl, n, os, rfl⟩
  refine ⟨rfl, ?_, grownBy_sorted _⟩
  have := ownsRow_sorted (base := 0) (n := n) (os := os) (ss := l.map fun s => s.data.toList) (ts := (l.map fun s => s.data.toList).mergeSort fun x y => decide (x ≤ y)) (by simp) (Nat.zero_le _) hb (by rw [hl]; exact h1) h2 h3
  rw [hl] at this
  have e : ((l.map fun s => s.data.toList).mergeSort fun x y => decide (x ≤ y)).map encStr = strV (sortB l) := by
    rw [sortB, strV, List.map_map]
    rfl
  rw [e] at this
  exact this

theorem contains_ok : ContainsOK := by
  intro w v l x ht
  obtain ⟨a, c, hv, h1, h2⟩ := ht.form
  rcases ht.2 with ⟨h0, _⟩ | ⟨b, o, cap, cur, fr, rfl, hb, g1, g2, g3, g4⟩
  · have hl : l = [] := List.eq_nil_of_length_eq_zero h0
    subst hl
    subst hv
    exact Tryz.slices_Contains_string_empty a c x w
  · have hcell : ∀ j, j < l.length → w.cell? ⟨b, o + j, none⟩ = some (.string (l.getD j ByteArray.empty)) := by
      intro j hj
      rw [cell_of hb, g4 j (.string l[j]) (by simp [strV, hj])]
      simp [List.getD, List.getElem?_eq_getElem hj]
    have := Tryz.slices_Contains_string b o l.length cap l x w (Nat.le_refl _) (by unfold maxLen at g2; omega) hcell
    refine this.mono ?_
    rintro e w' ⟨rfl, rfl⟩
    refine ⟨?_, rfl⟩
    rw [List.take_length]
    congr 2
    rw [Bool.eq_iff_iff, Lib.containsS_iff]
    simp [hasB]

end Go.Stk

/- slices.Concat of three rows of bytes. -/
namespace Go.Stk
open Go Go.RowKit Go.Proofs

section
variable {w : World}

def RetRoom (w : World) (e : Ending) (w' : World) : Prop := ∃ v cap, e = .returned v ∧ v = .slice (some ⟨w.heap.size, 0, none⟩) 0 cap ∧ w'.ownsRow w.heap.size 5 1 v 0 [] ∧ Keep (fun _ => False) w w'

theorem nil_zeros (w : World) (n : Nat) (h0 : 0 < n) (hn : n ≤ 1099511627776) :
    ∃ cap w1, (Builtin.append_ #[24, 3] 24 #[.slice none 0 0, .int .i64 (n : Int)]).run Tryz.prog w = .ok (.slice (some ⟨w.heap.size, 0, none⟩) n cap) w1 ∧ 0 < cap ∧ w1.ownsRow w.heap.size 5 1 (.slice (some ⟨w.heap.size, 0, none⟩) 0 cap) 0 [] ∧ Keep (fun _ => False) w w1 := by
  have info_u8 : (Tryz.prog.info? 5).map (fun i => (i.zero, i.size, i.bytes)) = some (some (.int .u8 0), 1, 1) := by kernel_rfl
  obtain ⟨i, hi, hz, hs, hby⟩ := info_parts info_u8
  have hr := Lib.run_append_nil_zeros (P := Tryz.prog) w 24 3 24 5 i _ .i64 .i64 Tryz.underlying24 Tryz.underlying3 hi hz n h0 (by omega) (by omega) (by rw [hby]; omega)
  have hge := grownCap_ge w n 0 5
  have hle := grownCap_le_maxLen w n 0 5 (by unfold maxLen; omega)
  refine ⟨_, _, hr, by omega, ⟨rfl, .inr ⟨w.heap.size, _, _, rfl, Nat.le_refl _, heap_alloc_new w.drew _, Nat.zero_le _, hle, ?_, rfl⟩⟩, Keep.alloc (Keep.refl _ w).drew _⟩
  simp only [Array.size_append, size_zeroCells]
  have : (Value.int IntKind.u8 0).cells.size = 1 := rfl
  rw [this]
  omega

set_option maxRecDepth 100000 in
set_option maxHeartbeats 1600000 in
theorem grow_any (n : Nat) (h0 : 0 < n) (hn : n ≤ 1099511627776) (w : World) : Calls Tryz.prog 104 #[.slice none 0 0, .int .i64 (n : Int)] w (RetRoom w) := by
  obtain ⟨cap, w1, hr, hc, ho, hk⟩ := nil_zeros w n h0 hn
  have FIN := hid (show RetRoom w (.returned (.slice (some ⟨w.heap.size, 0, none⟩) 0 cap)) w1 from ⟨_, cap, rfl, rfl, ho, hk⟩)
  have hcz : ¬ cap = 0 := by omega
  clear ho hk
  go_enter Tryz.func104, Tryz.ntmps104
  go_wp2_with (at_builtin; refine wpList_append_run rfl _ _ _ rfl hr rfl rfl ?_; clear hr)
  all_goals first
    | (exfalso; omega)
    | skip
  go_ret
  exact FIN.out

set_option maxRecDepth 100000 in
set_option maxHeartbeats 3200000 in
theorem concat_any {b : Nat} {v1 v2 v3 : Value} {l1 l2 l3 : List UInt8} (hb : w.heap[b]? = some (.cells #[v1, v2, v3] 24 (0, 0))) (h1 : Byt w v1 l1) (h2 : Byt w v2 l2) (h3 : Byt w v3 l3) (h0 : 0 < l1.length) (hl : l1.length + l2.length + l3.length ≤ 1048576) :
    Calls Tryz.prog 55 #[.slice (some ⟨b, 0, none⟩) 3 3] w (RetByt w (l1 ++ l2 ++ l3)) := by
  have hc := cell_of hb
  have hw1 : IntKind.i64.wrap ((l1.length : Int) + (l2.length : Int)) = ((l1.length + l2.length : Nat) : Int) := by rw [IntWalk.i64_in _ (by omega)]; omega
  have hw2 : IntKind.i64.wrap (((l1.length + l2.length : Nat) : Int) + (l3.length : Int)) = ((l1.length + l2.length + l3.length : Nat) : Int) := by rw [IntWalk.i64_in _ (by omega)]; omega
  have hgrow := grow_any (l1.length + l2.length + l3.length) (by omega) (by omega) w
  have hmid : ∀ v0 W0, W0.ownsRow w.heap.size 5 1 v0 0 [] → Keep (fun _ => False) w W0 → ∃ va Wa vb Wb vc Wc, (Builtin.append_ #[24, 24] 24 #[v0, v1]).run Tryz.prog W0 = .ok va Wa ∧ (Builtin.append_ #[24, 24] 24 #[va, v2]).run Tryz.prog Wa = .ok vb Wb ∧ (Builtin.append_ #[24, 24] 24 #[vb, v3]).run Tryz.prog Wb = .ok vc Wc ∧
      (∀ W, Keep (fun _ => False) w W → ∀ k, W.cell? ⟨b, k, none⟩ = (#[v1, v2, v3] : Array Value)[k]?) ∧ Keep (fun _ => False) w W0 ∧ Keep (fun _ => False) w Wa ∧ Keep (fun _ => False) w Wb ∧ RetByt w (l1 ++ l2 ++ l3) (.returned vc) Wc := by
    intro v0 W0 ho hk
    obtain ⟨va, Wa, hra, hoa, hka, _, _⟩ := append_own (ty := 24) (xs := []) hk ho (h1.keep hk) (by simp only [List.length_nil]; omega)
    rw [List.nil_append] at hoa
    obtain ⟨vb, Wb, hrb, hob, hkb, _, _⟩ := append_own (ty := 24) hka hoa (h2.keep hka) (by omega)
    obtain ⟨vc, Wc, hrc, hoc, hkc, _, _⟩ := append_own (ty := 24) hkb hob (h3.keep hkb) (by rw [List.length_append]; omega)
    exact ⟨va, Wa, vb, Wb, vc, Wc, hra, hrb, hrc, fun W hk => cell_of ((hk.block _ (lt_of hb) (fun h => h)).trans hb), hk, hka, hkb, vc, rfl, Byt.of_own hoc, hkc⟩
  have HM := hid hmid
  obtain ⟨a1, k1, rfl⟩ := h1.len
  obtain ⟨a2, k2, rfl⟩ := h2.len
  obtain ⟨a3, k3, rfl⟩ := h3.len
  clear h1 h2 h3 hmid hb
  generalize hL12 : l1.length + l2.length = L12 at *
  generalize hL123 : L12 + l3.length = L123 at *
  generalize l1.length = L1 at *
  generalize l2.length = L2 at *
  generalize l3.length = L3 at *
  go_enter Tryz.func55, Tryz.ntmps55
  go_wp2
  refine wp_loop_rounds 4 ?_
  rw [rounds_succ]
  go_wp2
  all_goals try (exfalso; omega)
  rw [rounds_succ]
  go_wp2
  all_goals try (exfalso; omega)
  rw [rounds_succ]
  go_wp2
  all_goals try (exfalso; omega)
  rw [rounds_succ]
  go_wp2_with (go_at_call 104; refine hgrow.mono ?_; clear hgrow; rintro e W0 ⟨v0, cap, rfl, hv0, ho, hk⟩; obtain ⟨va, Wa, vb, Wb, vc, Wc, hra, hrb, hrc, hcs, q0, qa, qb, FIN⟩ := HM.out v0 W0 ho hk; have c0 := hcs W0 q0; have ca := hcs Wa qa; have cb := hcs Wb qb; subst hv0; clear ho hk hcs q0 qa qb)
  all_goals try (exfalso; omega)
  refine wp_loop_rounds 4 ?_
  rw [rounds_succ]
  go_wp2_with (at_builtin; refine wpList_append_run rfl _ _ _ rfl hra rfl rfl ?_; clear hra)
  rw [rounds_succ]
  go_wp2_with (at_builtin; refine wpList_append_run rfl _ _ _ rfl hrb rfl rfl ?_; clear hrb)
  rw [rounds_succ]
  go_wp2_with (at_builtin; refine wpList_append_run rfl _ _ _ rfl hrc rfl rfl ?_; clear hrc)
  rw [rounds_succ]
  go_wp2
  go_ret
  exact FIN

end
end Go.Stk

/- The manifest's bytes: what is put. -/
namespace Go.Stk
open Go Go.RowKit Go.Proofs

section
variable {w : World}

theorem byt_m (W : World) : Byt (W.alloc (.cells #[.int .u8 109] 5)) (.slice (some ⟨W.heap.size, 0, none⟩) 1 1) [109] := by
  have := byt_new W [109] (by simp [maxLen])
  exact this

theorem blk_at {W : World} {n : Nat} (o : Obj) (hn : W.heap.size = n) : (W.alloc o).heap[n]? = some o := by subst hn; exact blk_new W o
theorem blk_at_drew {W : World} {n : Nat} (o : Obj) (hn : W.heap.size = n) : (W.alloc o).drew.heap[n]? = some o := by subst hn; exact blk_new W o

set_option maxRecDepth 100000 in
set_option maxHeartbeats 6400000 in
theorem manPut_any (g s : Int) (w : World) : Calls Tryz.prog 11 #[manV g s] w (RetBE w (manPut g s)) := by
  have hk0 := Keep.alloc (Keep.refl (fun _ => False) w) (.cells #[.int .i64 g, .int .i64 s] 23)
  have hbox := blk_new w (.cells #[.int .i64 g, .int .i64 s] 23)
  have hmay := may_any g s (w.alloc (.cells #[.int .i64 g, .int .i64 s] 23))
  unfold manPut manV at *
  generalize hW0 : w.alloc (.cells #[.int .i64 g, .int .i64 s] 23) = W0 at *
  cases hm : manMay g s with
  | false =>
    rw [hm] at hmay
    rw [if_neg (by simp)]
    have FIN : ∀ w1, Keep (fun _ => False) W0 w1 → RetBE w ([], 2) (.returned (.tuple #[.slice none 0 0, .int .i64 2])) w1 := fun w1 hk => ⟨_, rfl, Byt.nil _, keep0_trans hk0 hk⟩
    have HF := hid FIN
    have hc := cell_of hbox
    clear hbox hk0 FIN
    go_enter Tryz.func11, Tryz.ntmps11
    go_wp2_with (go_at_call 53; refine hmay.mono ?_; clear hmay; rintro e w1 ⟨rfl, hk1⟩; have HK1 := hid hk1; clear hk1)
    go_ret2
    exact HF.out _ HK1.out
  | true =>
    rw [hm] at hmay
    rw [if_pos rfl]
    obtain ⟨h1, h2, h3, h4⟩ := (manMay_iff g s).1 hm
    have hbl := manBody_len hm
    obtain ⟨G, rfl⟩ : ∃ G : Nat, g = G := ⟨g.toNat, by omega⟩
    obtain ⟨S, rfl⟩ : ∃ S : Nat, s = S := ⟨s.toNat, by omega⟩
    have hcc : ∀ (W : World) (b : Nat) (v1 v2 v3 : Value), W.heap[b]? = some (.cells #[v1, v2, v3] 24 (0, 0)) → Byt W v1 [109] → Byt W v2 (lebL G) → Byt W v3 (lebL S) → Calls Tryz.prog 55 #[.slice (some ⟨b, 0, none⟩) 3 3] W (RetByt W (manBody G S)) := by
      intro W b v1 v2 v3 hb q1 q2 q3
      have := concat_any hb q1 q2 q3 (by simp) (by simp only [manBody, Int.toNat_natCast, List.length_append] at hbl; omega)
      simpa only [manBody, Int.toNat_natCast] using this
    have hfp : ∀ (W : World) (v : Value), Byt W v (manBody G S) → Calls Tryz.prog 54 #[v] W (RetBE W (frmPut (manBody G S))) := fun W v hv => framePut_any hv (by omega)
    have hpg : ∀ W : World, Calls Tryz.prog 56 #[.int .u64 (G : Int)] W (RetClip W (lebL G)) := fun W => lebPut_any G (by omega) W
    have hps : ∀ W : World, Calls Tryz.prog 56 #[.int .u64 (S : Int)] W (RetClip W (lebL S)) := fun W => lebPut_any S (by omega) W
    generalize manBody G S = BD at *
    generalize lebL G = LG at *
    generalize lebL S = LS at *
    have HCC := hid hcc
    have HFP := hid hfp
    have HPG := hid hpg
    have HPS := hid hps
    have hboxk : ∀ W, Keep (fun _ => False) W0 W → ∀ k, W.cell? ⟨w.heap.size, k, none⟩ = (#[.int .i64 (G : Int), .int .i64 (S : Int)] : Array Value)[k]? := fun W hkW => cell_of ((hkW.block _ (lt_of hbox) (fun h => h)).trans hbox)
    have HBX := hid hboxk
    have HK0 := hid hk0
    have hc := hboxk W0 (Keep.refl _ _)
    have hwg : IntKind.u64.wrap (G : Int) = (G : Int) := by rw [IntKind.wrap_u64]; omega
    have hws : IntKind.u64.wrap (S : Int) = (S : Int) := by rw [IntKind.wrap_u64]; omega
    clear hm hk0 hbox hboxk hcc hfp hpg hps
    go_enter Tryz.func11, Tryz.ntmps11
    have HS : Hid (∀ W, Keep (fun _ => False) W0 W → W.cell? ⟨w.heap.size, 0, none⟩ = some (.int .i64 (G : Int)) ∧ W.cell? ⟨w.heap.size, 1, none⟩ = some (.int .i64 (S : Int))) := fun W hk => ⟨HBX.out W hk 0, HBX.out W hk 1⟩
    go_upto_region 3 with (go_at_call 53; refine hmay.mono ?_; clear hmay; rintro e w1 ⟨rfl, hk1⟩; have HK1 := hid hk1; have hc1 := HBX.out w1 hk1; clear hk1)
    go_region_held3 (fun W => W.cell? ⟨w.heap.size, 0, none⟩ = some (.int .i64 (G : Int)) ∧ W.cell? ⟨w.heap.size, 1, none⟩ = some (.int .i64 (S : Int))) ((refine HS.out _ ?_; repeat (with_reducible first | exact HK1.out.drew | exact HK1.out | exact HK0.out | refine keep0_trans ?_ HK6.out | refine keep0_trans ?_ HK5.out | refine keep0_trans ?_ HKG.out | refine keep0_trans ?_ HKS.out | refine keep0_trans ?_ HK1.out | refine KeepN.drew ?_ | refine Keep.alloc ?_ _))) (first
      | (go_at_call_of 56 G; refine (HPG.out _).mono ?_; rintro e wG ⟨vG, rfl, hvG, hkG⟩; have HKG := hid hkG; obtain ⟨hbG, aG, hvGe⟩ := hvG; generalize hLG : LG.length = LGn at hvGe; subst hvGe; have HBG := hid hbG; have HLG := hid hLG; clear hbG hkG hLG)
      | (go_at_call_of 56 S; refine (HPS.out _).mono ?_; rintro e wS ⟨vS, rfl, hvS, hkS⟩; have HKS := hid hkS; obtain ⟨hbS, aS, hvSe⟩ := hvS; generalize hLS : LS.length = LSn at hvSe; subst hvSe; have HBS := hid hbS; have HLS := hid hLS; clear hbS hkS hLS)
      | (go_at_call 55; refine (HCC.out _ _ _ _ _ (by first | exact blk_at _ (by simp) | exact blk_at_drew _ (by simp)) (by repeat (with_reducible first | exact HBG.out | exact HBS.out | exact byt_m _ | refine Byt.drew ?_ | refine Byt.keep ?_ HKG.out | refine Byt.keep ?_ HKS.out | refine Byt.keep ?_ (Keep.alloc (Keep.refl (fun _ => False) _) _))) (by repeat (with_reducible first | exact HBG.out | exact HBS.out | exact byt_m _ | refine Byt.drew ?_ | refine Byt.keep ?_ HKG.out | refine Byt.keep ?_ HKS.out | refine Byt.keep ?_ (Keep.alloc (Keep.refl (fun _ => False) _) _))) (by repeat (with_reducible first | exact HBG.out | exact HBS.out | exact byt_m _ | refine Byt.drew ?_ | refine Byt.keep ?_ HKG.out | refine Byt.keep ?_ HKS.out | refine Byt.keep ?_ (Keep.alloc (Keep.refl (fun _ => False) _) _)))).mono ?_; rintro e w5 ⟨v5, rfl, hb5, hk5⟩; have HK5 := hid hk5; have hfp := HFP.out w5 v5 hb5; obtain ⟨a5, c5, hv5e⟩ := hb5.len; generalize BD.length = L5 at hv5e; subst hv5e; clear hk5 hb5)
      | (go_at_call 54; refine hfp.mono ?_; clear hfp; rintro e w6 ⟨v6, rfl, h6, hk6⟩; have HK6 := hid hk6; have H6 := hid h6; clear hk6 h6))
    all_goals
      go_wp2
      go_ret2
      refine ⟨v6, rfl, H6.out, ?_⟩
      repeat (with_reducible first | exact HK1.out.drew | exact HK1.out | exact HK0.out | refine keep0_trans ?_ HK6.out | refine keep0_trans ?_ HK5.out | refine keep0_trans ?_ HKG.out | refine keep0_trans ?_ HKS.out | refine keep0_trans ?_ HK1.out | refine KeepN.drew ?_ | refine Keep.alloc ?_ _)

end
end Go.Stk
