/- Lemmas and contracts, part 3: joined texts; no condition of their own. -/
import Derived.Test.YtgecikpkjfomiaaGreatDoorJB2
import Derived.Test.YtgecikpkjfomiaaGreatDoorShelf
import Derived.Test.YtgecikpkjfomiaaGreatDoorRows
import Derived.ProofKit
import Derived.OpenShut
import Derived.Deep.Slices
import Derived.Lib.SmallJoins
import Derived.Deep.SlicePairs
import Derived.Test.YtgecikpkjfomiaaGreatDoorCards
import Derived.Test.YtgecikpkjfomiaaGreatDoorTie
import Derived.Deep.DeepHandedRow
import Derived.Deep.DeepWitnessRowRef
import Derived.Lib.LaidTab
/- manifest.Write. -/
namespace Go.Stk
open Go Go.RowKit Go.Proofs

section
variable {w : World} {g : Nat} {fs : Fs} {G : FG}

theorem Adv.block {G' : FG} {w' : World} {k : Nat} (ha : Adv g G G' w w') (hk : k < w.heap.size) (hn : k ∉ G.blocks g) : w'.heap[k]? = w.heap[k]? ∧ k ∉ G'.blocks g :=
  ⟨ha.1.block k hk hn, fun hm => (ha.2 k hm).elim hn (fun h => by omega)⟩

theorem frmPut_len (l : List UInt8) : (frmPut l).1.length ≤ 65550 := by
  unfold frmPut
  split
  · simp
  · rename_i h
    have := rowL_len (l := l) (by omega)
    simp only [frameL, fourL, List.length_append, List.length_cons, List.length_nil]
    omega
theorem manPut_len (a s : Int) : (manPut a s).1.length ≤ 65550 := by
  unfold manPut
  split
  · exact frmPut_len _
  · simp

/-- The six steps, as function values. -/
def wrFns (p q g : Nat) : Array Value := #[.func (.func 65) #[] #[.pointer (some ⟨p, 0, none⟩)], .func (.func 67) #[] #[.pointer (some ⟨p, 0, none⟩)], .func (.func 68) #[] #[.pointer (some ⟨p, 0, none⟩), .pointer (some ⟨q, 0, none⟩)],
  .func (.func 69) #[] #[.pointer (some ⟨p, 0, none⟩)], .func (.func 71) #[] #[.pointer (some ⟨p, 0, none⟩)], .func (.func 73) #[.pointer (some ⟨g, 0, none⟩)] #[]]

/-- What holds behind j steps. -/
structure WrInv (w0 : World) (g p q fa : Nat) (fs0 : Fs) (G0 : FG) (v : Value) (b : List UInt8) (n j : Nat) (fs : Fs) (G : FG) (wr : World) : Prop where
  is : IsFS wr g fs G
  var : IsVar wr p g G
  vb : wr.heap[q]? = some (.cells #[v] 24 (0, 0))
  nq : q ∉ G.blocks g
  byt : Byt wr v b
  fns : wr.heap[fa]? = some (.cells (wrFns p q g) 92 (0, 0))
  nf : fa ∉ G.blocks g
  st : Fs.steps b 6 0 fs0 = Fs.steps b (6 - j) j fs
  sm : fs.Small (n + j)
  adv : Adv g G0 G w0 wr

theorem WrInv.next {w0 wr w' : World} {g p q fa n j : Nat} {fs0 fs : Fs} {G0 G G' : FG} {v : Value} {b : List UInt8} (h : WrInv w0 g p q fa fs0 G0 v b n j fs G wr) (hj : j < 6) (hE : (fs.step b j).1 = 0)
    (hi : IsFS w' g (fs.step b j).2 G') (ha : Adv g G G' wr w') : WrInv w0 g p q fa fs0 G0 v b n (j + 1) (fs.step b j).2 G' w' := by
  obtain ⟨q1, q2⟩ := ha.block (lt_of h.vb) h.nq
  obtain ⟨f1, f2⟩ := ha.block (lt_of h.fns) h.nf
  refine ⟨hi, h.var.adv ha, q1.trans h.vb, q2, h.byt.keep ha.1, f1.trans h.fns, f2, ?_, small_step h.sm b j, h.adv.trans ha⟩
  rw [h.st, show 6 - j = (6 - (j + 1)) + 1 by omega, Fs.steps, if_neg (by simp [hE])]

theorem WrInv.fail {w0 wr w' : World} {g p q fa n j : Nat} {fs0 fs fs' : Fs} {G0 G G' G'' : FG} {w'' : World} {v : Value} {b : List UInt8} (h : WrInv w0 g p q fa fs0 G0 v b n j fs G wr) (hj : j < 6) (hE : (fs.step b j).1 ≠ 0)
    (ha : Adv g G G' wr w') (hu : fs' = (fs.step b j).2.undo) (hi : IsFS w'' g fs' G'') (hb : Adv g G' G'' w' w'') :
    FsPost w0 g G0 (Fs.steps b 6 0 fs0).2 (.int .i64 (Fs.steps b 6 0 fs0).1) (.returned (.int .i64 (fs.step b j).1)) w'' := by
  have e : Fs.steps b 6 0 fs0 = ((fs.step b j).1, fs') := by
    rw [h.st, show 6 - j = (6 - (j + 1)) + 1 by omega, Fs.steps, if_pos hE, hu]
  rw [e]
  exact ⟨rfl, G'', hi, h.adv.trans (ha.trans hb)⟩

theorem WrInv.done {w0 wr : World} {g p q fa n : Nat} {fs0 fs : Fs} {G0 G : FG} {v : Value} {b : List UInt8} (h : WrInv w0 g p q fa fs0 G0 v b n 6 fs G wr) :
    FsPost w0 g G0 (Fs.steps b 6 0 fs0).2 (.int .i64 (Fs.steps b 6 0 fs0).1) (.returned (.int .i64 0)) wr := by
  rw [h.st]
  exact ⟨rfl, G, h.is, h.adv⟩

theorem WrInv.row {w0 wr : World} {g p q fa n j : Nat} {fs0 fs : Fs} {G0 G : FG} {v : Value} {b : List UInt8} (h : WrInv w0 g p q fa fs0 G0 v b n j fs G wr) (hn : n ≤ 1000000) (hj : j < 7) : fs.row.length < 1099511627776 ∧ fs.files.length < 1099511627776 ∧ (∀ f ∈ fs.files, f.row.length < 1099511627776) :=
  ⟨by have := h.sm.1; omega, by have := h.sm.2.1; omega, fun f hf => by have := h.sm.2.2 f hf; omega⟩

theorem WrInv.start {w w1 : World} {g n BL : Nat} {fs : Fs} {G : FG} {va : Option Addr} {vc : Nat} {b : List UInt8} {a s : Int} (h : IsFS w g fs G) (hs : fs.Small n)
    (hk : Keep (fun _ => False) ((w.alloc (.cells #[.pointer (some ⟨g, 0, none⟩)] 35)).alloc (.cells #[.int .i64 a, .int .i64 s] 23)) w1) (hv : Byt w1 (.slice va BL vc) b) :
    WrInv w g w.heap.size w1.heap.size (w1.heap.size + 1) fs G (.slice va BL vc) b n 0 fs G ((w1.alloc (.cells #[.slice va BL vc] 24)).alloc (.cells (wrFns w.heap.size w1.heap.size g) 92)) := by
  have hk0 : Keep (fun _ => False) w ((w.alloc (.cells #[.pointer (some ⟨g, 0, none⟩)] 35)).alloc (.cells #[.int .i64 a, .int .i64 s] 23)) := Keep.alloc (Keep.alloc (Keep.refl _ w) _) _
  have hk1 := keep0_trans hk0 hk
  have hk2 : Keep (fun _ => False) w ((w1.alloc (.cells #[.slice va BL vc] 24)).alloc (.cells (wrFns w.heap.size w1.heap.size g) 92)) := Keep.alloc (Keep.alloc hk1 _) _
  have hsz := hk1.size
  have hs0 := hk.size
  simp only [World.size_alloc] at hs0
  have hlt := h.lt
  have hp := (hk.block w.heap.size (by simp; omega) (fun h => h)).trans (blk_alloc (blk_new w _) _)
  refine ⟨h.keep hk2 (fun _ _ h => h), ⟨blk_alloc (blk_alloc hp _) _, fun k hk e => by have := hlt k hk; omega⟩, blk_alloc (blk_new w1 _) _, fun hm => by have := hlt _ hm; omega, (hv.keep (Keep.alloc (Keep.refl (fun _ => False) _) _)).keep (Keep.alloc (Keep.refl (fun _ => False) _) _), ?_, fun hm => by have := hlt _ hm; omega, rfl, hs, hk2.mono (fun _ h => h.elim), fun k hk => .inl hk⟩
  have := blk_new (w1.alloc (.cells #[.slice va BL vc] 24)) (.cells (wrFns w.heap.size w1.heap.size g) 92)
  rwa [World.size_alloc] at this

set_option maxRecDepth 100000 in
theorem get_nil (w : World) (name : ByteArray) : Calls Tryz.prog 77 #[.pointer none, .string name] w fun e w' => e = .returned (.tuple #[.pointer none, .int .i64 1]) ∧ w = w' := by
  go_enter Tryz.func77, Tryz.ntmps77
  go_wp2_with (go_at_call 74; refine (ready_nil _).mono ?_; rintro e w' ⟨rfl, rfl⟩)
  go_ret2
  exact ⟨rfl, rfl⟩

set_option maxRecDepth 100000 in
theorem Size_nil (w : World) (name : ByteArray) : Calls Tryz.prog 43 #[.pointer none, .string name] w fun e w' => e = .returned (.tuple #[.int .i64 0, .int .i64 1]) ∧ w = w' := by
  go_enter Tryz.func43, Tryz.ntmps43
  go_wp2_with (go_at_call 77; refine (get_nil _ _).mono ?_; rintro e w' ⟨rfl, rfl⟩)
  go_ret2
  exact ⟨rfl, rfl⟩

set_option maxRecDepth 100000 in
set_option maxHeartbeats 1600000 in
theorem manWrite_any (a s : Int) (n : Nat) (h : IsFS w g fs G) (hs : fs.Small n) (hn : n ≤ 1000000) : Calls Tryz.prog 20 #[.pointer (some ⟨g, 0, none⟩), manV a s] w (FsPost w g G (manWrite fs a s).2 (.int .i64 (manWrite fs a s).1)) := by
  have hmf : ∀ (fn : Fn) (first cap : Array Value) (w : World), (Instr.makeFunc fn first cap).run Tryz.prog w = .ok (.func fn first cap) w := fun _ _ _ _ => rfl
  have hk0 : Keep (fun _ => False) w ((w.alloc (.cells #[.pointer (some ⟨g, 0, none⟩)] 35)).alloc (.cells #[.int .i64 a, .int .i64 s] 23)) := Keep.alloc (Keep.alloc (Keep.refl _ w) _) _
  unfold manV
  unfold manWrite
  by_cases hm : (manPut a s).2 = 0
  · rw [if_neg (by simp [hm])]
    have hput := manPut_any a s
    unfold manV at hput
    have hsz : ∀ W, Keep (fun _ => False) w W → Calls Tryz.prog 43 #[.pointer (some ⟨g, 0, none⟩), .string ByteArray.empty] W fun e w' => ∃ x y : Int, e = .returned (.tuple #[.int .i64 x, .int .i64 y]) ∧ (y == 1) = false ∧ W = w' := by
      intro W hk
      refine (Size_any (h.keep hk (fun _ _ h => h)) ByteArray.empty).mono ?_
      rintro e w' ⟨rfl, rfl⟩
      refine ⟨_, _, rfl, ?_, rfl⟩
      rcases getE_val fs ByteArray.empty with e | e | e <;> rw [e] <;> rfl
    have HSZ := hid hsz
    clear hsz
    have hsz1 := HSZ.out _ hk0
    have hbl : (manPut a s).1.length ≤ 1048576 := Nat.le_trans (manPut_len a s) (by omega)
    generalize manPut a s = R at *
    obtain ⟨BD, PE⟩ := R
    simp only at hm hbl ⊢
    subst hm
    generalize hBL : BD.length = BL at *
    have HBL := hid hBL
    clear hBL
    have HST := fun (w1 : World) (hk : Keep (fun _ => False) _ w1) (va : Option Addr) (vc : Nat) (hv : Byt w1 (.slice va BL vc) BD) => WrInv.start (a := a) (s := s) h hs hk hv
    have HST' := hid HST
    clear HST
    go_enter Tryz.func20, Tryz.ntmps20
    go_wp2_with (first
      | (go_at_call 43; refine hsz1.mono ?_; clear hsz1; rintro e w' ⟨x, y, rfl, hy, rfl⟩)
      | (go_at_call 11; refine (hput _).mono ?_; clear hput; rintro e w1 ⟨v, rfl, hv, hk⟩; obtain ⟨va, vc, hve⟩ := hv.len; rw [HBL.out] at hve; subst hve; have HV := hid hv; have HK1 := hid hk; have hp1 := cell_of ((hk.block w.heap.size (by simp; omega) (fun h => h)).trans (blk_alloc (blk_new w _) _)); have hlt1 : w.heap.size + 1 < w1.heap.size := (by have := hk.size; simp at this; omega); have hp2 : ∀ o, (w1.alloc o).cell? ⟨w.heap.size, 0, none⟩ = some (.pointer (some ⟨g, 0, none⟩)) := (fun o => (cell_of (blk_alloc ((hk.block w.heap.size (by simp; omega) (fun h => h)).trans (blk_alloc (blk_new w _) _)) o) 0)); clear hv hk))
    have HI0 := hid (HST'.out w1 HK1.out va vc HV.out)
    clear hp1 hp2 hlt1 hy h hs hk0 HV HK1 HSZ
    generalize w1.heap.size = q at *
    generalize w.heap.size = p at *
    unfold wrFns at HI0
    go_loopg [39] 6 (fun k i wr => ∃ (j : Nat) (fsj : Fs) (Gj : FG), j ≤ 6 ∧ k = 6 - j ∧ i = .int .i64 (j : Int) ∧ Hid (WrInv w g p q (q + 1) fs G (.slice va BL vc) BD n j fsj Gj wr))
    case atStart => exact ⟨0, fs, G, by omega, rfl, rfl, HI0.out⟩
    case round =>
      obtain ⟨j, fsj, Gj, hj, rfl, rfl, INV⟩ := hrel
      clear HI0 HST'
      have hcell := cell_of INV.out.fns
      unfold wrFns at hcell
      have HR := INV.out.row hn (by omega)
      by_cases h6 : j = 6
      · subst h6
        have FIN := hid INV.out.done
        clear hcell HR INV
        go_wp2
        go_ret
        exact FIN.out
      by_cases h60 : j = 0
      · subst h60
        have hc := hcell 0
        have hstep := rm_any sort_str len_zero contains_ok INV.out.is INV.out.var HR.1
        have HNX := hid (fun w' G' => INV.out.next (w' := w') (G' := G') (by omega))
        have HFL := hid (fun w' G' fs' w'' G'' => INV.out.fail (w' := w') (G' := G') (fs' := fs') (w'' := w'') (G'' := G'') (by omega))
        have hsmall := small_step INV.out.sm BD 0
        have hvar := INV.out.var
        change Calls Tryz.prog _ _ wr (FsPost wr g Gj (fsj.step BD 0).2 (.int .i64 (fsj.step BD 0).1)) at hstep
        unfold Fs.undo at HFL
        generalize fsj.step BD 0 = R at *
        obtain ⟨E, fs'⟩ := R
        simp only at hstep HNX HFL hsmall
        have HVAR := hid hvar
        clear hcell HR INV h6 hvar
        by_cases hE : E = 0
        · subst hE
          clear HFL
          go_wp2_with (go_at_call 65; refine hstep.mono ?_; clear hstep; rintro e w2 ⟨rfl, G2, hI2, hA2⟩; have NX := hid (HNX.out w2 G2 rfl hI2 hA2); clear hI2 hA2)
          go_roundg (6 - 1)
          case measure => omega
          case rel => exact ⟨1, fs', G2, by omega, rfl, rfl, NX.out⟩
        · have hz : (E != 0) = true := by simpa using hE
          have HZ := hid hE
          have hrow : fs'.row.length < 1099511627776 := by have := hsmall.1; omega
          clear HNX hE
          by_cases hd : fs'.dead = true
          · have HF2 : Hid (∀ w2 G2, IsFS w2 g fs' G2 → Adv g Gj G2 wr w2 → _) := fun w2 G2 hi ha => HFL.out w2 G2 fs' w2 G2 HZ.out ha (by rw [if_pos hd]) hi (Adv.refl _ _ _)
            have HD := hid hd
            clear HFL hd
            go_wp2_with (first
              | (go_at_call 65; refine hstep.mono ?_; clear hstep; rintro e w2 ⟨rfl, G2, hI2, hA2⟩; have FIN := hid (HF2.out w2 G2 hI2 hA2); have hv2 := cell_of (HVAR.out.adv hA2).1; have hdead := Dead_any hI2; rw [HD.out] at hdead; clear hI2 hA2)
              | (go_at_call 50; refine hdead.mono ?_; clear hdead; rintro e w' ⟨rfl, rfl⟩))
            go_ret
            exact FIN.out
          · have HF2 : Hid (∀ w2 G2 w3 G3, Adv g Gj G2 wr w2 → IsFS w3 g fs'.rmR.2 G3 → Adv g G2 G3 w2 w3 → _) := fun w2 G2 w3 G3 ha hi hb => HFL.out w2 G2 _ w3 G3 HZ.out ha (by rw [if_neg hd]) hi hb
            have HD := hid (show fs'.dead = false by simpa using hd)
            clear HFL hd
            go_wp2_with (first
              | (go_at_call 65; refine hstep.mono ?_; clear hstep; rintro e w2 ⟨rfl, G2, hI2, hA2⟩; have HA2 := hid hA2; have hv2 := cell_of (HVAR.out.adv hA2).1; have hdead := Dead_any hI2; rw [HD.out] at hdead; have hrm := rm_any sort_str len_zero contains_ok hI2 (HVAR.out.adv hA2) hrow; clear hI2 hA2)
              | (go_at_call 50; refine hdead.mono ?_; clear hdead; rintro e w' ⟨rfl, rfl⟩)
              | (go_at_call 65; refine hrm.mono ?_; clear hrm; rintro e w3 ⟨rfl, G3, hI3, hA3⟩; have FIN := hid (HF2.out w2 G2 w3 G3 HA2.out hI3 hA3); clear hI3 hA3))
            go_ret
            exact FIN.out
      by_cases h61 : j = 1
      · subst h61
        have hc := hcell 1
        have hstep := cr_any INV.out.is INV.out.var HR.1 HR.2.1
        have HNX := hid (fun w' G' => INV.out.next (w' := w') (G' := G') (by omega))
        have HFL := hid (fun w' G' fs' w'' G'' => INV.out.fail (w' := w') (G' := G') (fs' := fs') (w'' := w'') (G'' := G'') (by omega))
        have hsmall := small_step INV.out.sm BD 1
        have hvar := INV.out.var
        change Calls Tryz.prog _ _ wr (FsPost wr g Gj (fsj.step BD 1).2 (.int .i64 (fsj.step BD 1).1)) at hstep
        unfold Fs.undo at HFL
        generalize fsj.step BD 1 = R at *
        obtain ⟨E, fs'⟩ := R
        simp only at hstep HNX HFL hsmall
        have HVAR := hid hvar
        clear hcell HR INV h6 hvar
        by_cases hE : E = 0
        · subst hE
          clear HFL
          go_wp2_with (go_at_call 67; refine hstep.mono ?_; clear hstep; rintro e w2 ⟨rfl, G2, hI2, hA2⟩; have NX := hid (HNX.out w2 G2 rfl hI2 hA2); clear hI2 hA2)
          go_roundg (6 - 2)
          case measure => omega
          case rel => exact ⟨2, fs', G2, by omega, rfl, rfl, NX.out⟩
        · have hz : (E != 0) = true := by simpa using hE
          have HZ := hid hE
          have hrow : fs'.row.length < 1099511627776 := by have := hsmall.1; omega
          clear HNX hE
          by_cases hd : fs'.dead = true
          · have HF2 : Hid (∀ w2 G2, IsFS w2 g fs' G2 → Adv g Gj G2 wr w2 → _) := fun w2 G2 hi ha => HFL.out w2 G2 fs' w2 G2 HZ.out ha (by rw [if_pos hd]) hi (Adv.refl _ _ _)
            have HD := hid hd
            clear HFL hd
            go_wp2_with (first
              | (go_at_call 67; refine hstep.mono ?_; clear hstep; rintro e w2 ⟨rfl, G2, hI2, hA2⟩; have FIN := hid (HF2.out w2 G2 hI2 hA2); have hv2 := cell_of (HVAR.out.adv hA2).1; have hdead := Dead_any hI2; rw [HD.out] at hdead; clear hI2 hA2)
              | (go_at_call 50; refine hdead.mono ?_; clear hdead; rintro e w' ⟨rfl, rfl⟩))
            go_ret
            exact FIN.out
          · have HF2 : Hid (∀ w2 G2 w3 G3, Adv g Gj G2 wr w2 → IsFS w3 g fs'.rmR.2 G3 → Adv g G2 G3 w2 w3 → _) := fun w2 G2 w3 G3 ha hi hb => HFL.out w2 G2 _ w3 G3 HZ.out ha (by rw [if_neg hd]) hi hb
            have HD := hid (show fs'.dead = false by simpa using hd)
            clear HFL hd
            go_wp2_with (first
              | (go_at_call 67; refine hstep.mono ?_; clear hstep; rintro e w2 ⟨rfl, G2, hI2, hA2⟩; have HA2 := hid hA2; have hv2 := cell_of (HVAR.out.adv hA2).1; have hdead := Dead_any hI2; rw [HD.out] at hdead; have hrm := rm_any sort_str len_zero contains_ok hI2 (HVAR.out.adv hA2) hrow; clear hI2 hA2)
              | (go_at_call 50; refine hdead.mono ?_; clear hdead; rintro e w' ⟨rfl, rfl⟩)
              | (go_at_call 65; refine hrm.mono ?_; clear hrm; rintro e w3 ⟨rfl, G3, hI3, hA3⟩; have FIN := hid (HF2.out w2 G2 w3 G3 HA2.out hI3 hA3); clear hI3 hA3))
            go_ret
            exact FIN.out
      by_cases h62 : j = 2
      · subst h62
        have hc := hcell 2
        have hstep := ap_any INV.out.is INV.out.var INV.out.vb INV.out.byt (by have := HBL.out; omega) HR.2.2
        have HNX := hid (fun w' G' => INV.out.next (w' := w') (G' := G') (by omega))
        have HFL := hid (fun w' G' fs' w'' G'' => INV.out.fail (w' := w') (G' := G') (fs' := fs') (w'' := w'') (G'' := G'') (by omega))
        have hsmall := small_step INV.out.sm BD 2
        have hvar := INV.out.var
        change Calls Tryz.prog _ _ wr (FsPost wr g Gj (fsj.step BD 2).2 (.int .i64 (fsj.step BD 2).1)) at hstep
        unfold Fs.undo at HFL
        generalize fsj.step BD 2 = R at *
        obtain ⟨E, fs'⟩ := R
        simp only at hstep HNX HFL hsmall
        have HVAR := hid hvar
        clear hcell HR INV h6 hvar
        by_cases hE : E = 0
        · subst hE
          clear HFL
          go_wp2_with (go_at_call 68; refine hstep.mono ?_; clear hstep; rintro e w2 ⟨rfl, G2, hI2, hA2⟩; have NX := hid (HNX.out w2 G2 rfl hI2 hA2); clear hI2 hA2)
          go_roundg (6 - 3)
          case measure => omega
          case rel => exact ⟨3, fs', G2, by omega, rfl, rfl, NX.out⟩
        · have hz : (E != 0) = true := by simpa using hE
          have HZ := hid hE
          have hrow : fs'.row.length < 1099511627776 := by have := hsmall.1; omega
          clear HNX hE
          by_cases hd : fs'.dead = true
          · have HF2 : Hid (∀ w2 G2, IsFS w2 g fs' G2 → Adv g Gj G2 wr w2 → _) := fun w2 G2 hi ha => HFL.out w2 G2 fs' w2 G2 HZ.out ha (by rw [if_pos hd]) hi (Adv.refl _ _ _)
            have HD := hid hd
            clear HFL hd
            go_wp2_with (first
              | (go_at_call 68; refine hstep.mono ?_; clear hstep; rintro e w2 ⟨rfl, G2, hI2, hA2⟩; have FIN := hid (HF2.out w2 G2 hI2 hA2); have hv2 := cell_of (HVAR.out.adv hA2).1; have hdead := Dead_any hI2; rw [HD.out] at hdead; clear hI2 hA2)
              | (go_at_call 50; refine hdead.mono ?_; clear hdead; rintro e w' ⟨rfl, rfl⟩))
            go_ret
            exact FIN.out
          · have HF2 : Hid (∀ w2 G2 w3 G3, Adv g Gj G2 wr w2 → IsFS w3 g fs'.rmR.2 G3 → Adv g G2 G3 w2 w3 → _) := fun w2 G2 w3 G3 ha hi hb => HFL.out w2 G2 _ w3 G3 HZ.out ha (by rw [if_neg hd]) hi hb
            have HD := hid (show fs'.dead = false by simpa using hd)
            clear HFL hd
            go_wp2_with (first
              | (go_at_call 68; refine hstep.mono ?_; clear hstep; rintro e w2 ⟨rfl, G2, hI2, hA2⟩; have HA2 := hid hA2; have hv2 := cell_of (HVAR.out.adv hA2).1; have hdead := Dead_any hI2; rw [HD.out] at hdead; have hrm := rm_any sort_str len_zero contains_ok hI2 (HVAR.out.adv hA2) hrow; clear hI2 hA2)
              | (go_at_call 50; refine hdead.mono ?_; clear hdead; rintro e w' ⟨rfl, rfl⟩)
              | (go_at_call 65; refine hrm.mono ?_; clear hrm; rintro e w3 ⟨rfl, G3, hI3, hA3⟩; have FIN := hid (HF2.out w2 G2 w3 G3 HA2.out hI3 hA3); clear hI3 hA3))
            go_ret
            exact FIN.out
      by_cases h63 : j = 3
      · subst h63
        have hc := hcell 3
        have hstep := sy_any INV.out.is INV.out.var
        have HNX := hid (fun w' G' => INV.out.next (w' := w') (G' := G') (by omega))
        have HFL := hid (fun w' G' fs' w'' G'' => INV.out.fail (w' := w') (G' := G') (fs' := fs') (w'' := w'') (G'' := G'') (by omega))
        have hsmall := small_step INV.out.sm BD 3
        have hvar := INV.out.var
        change Calls Tryz.prog _ _ wr (FsPost wr g Gj (fsj.step BD 3).2 (.int .i64 (fsj.step BD 3).1)) at hstep
        unfold Fs.undo at HFL
        generalize fsj.step BD 3 = R at *
        obtain ⟨E, fs'⟩ := R
        simp only at hstep HNX HFL hsmall
        have HVAR := hid hvar
        clear hcell HR INV h6 hvar
        by_cases hE : E = 0
        · subst hE
          clear HFL
          go_wp2_with (go_at_call 69; refine hstep.mono ?_; clear hstep; rintro e w2 ⟨rfl, G2, hI2, hA2⟩; have NX := hid (HNX.out w2 G2 rfl hI2 hA2); clear hI2 hA2)
          go_roundg (6 - 4)
          case measure => omega
          case rel => exact ⟨4, fs', G2, by omega, rfl, rfl, NX.out⟩
        · have hz : (E != 0) = true := by simpa using hE
          have HZ := hid hE
          have hrow : fs'.row.length < 1099511627776 := by have := hsmall.1; omega
          clear HNX hE
          by_cases hd : fs'.dead = true
          · have HF2 : Hid (∀ w2 G2, IsFS w2 g fs' G2 → Adv g Gj G2 wr w2 → _) := fun w2 G2 hi ha => HFL.out w2 G2 fs' w2 G2 HZ.out ha (by rw [if_pos hd]) hi (Adv.refl _ _ _)
            have HD := hid hd
            clear HFL hd
            go_wp2_with (first
              | (go_at_call 69; refine hstep.mono ?_; clear hstep; rintro e w2 ⟨rfl, G2, hI2, hA2⟩; have FIN := hid (HF2.out w2 G2 hI2 hA2); have hv2 := cell_of (HVAR.out.adv hA2).1; have hdead := Dead_any hI2; rw [HD.out] at hdead; clear hI2 hA2)
              | (go_at_call 50; refine hdead.mono ?_; clear hdead; rintro e w' ⟨rfl, rfl⟩))
            go_ret
            exact FIN.out
          · have HF2 : Hid (∀ w2 G2 w3 G3, Adv g Gj G2 wr w2 → IsFS w3 g fs'.rmR.2 G3 → Adv g G2 G3 w2 w3 → _) := fun w2 G2 w3 G3 ha hi hb => HFL.out w2 G2 _ w3 G3 HZ.out ha (by rw [if_neg hd]) hi hb
            have HD := hid (show fs'.dead = false by simpa using hd)
            clear HFL hd
            go_wp2_with (first
              | (go_at_call 69; refine hstep.mono ?_; clear hstep; rintro e w2 ⟨rfl, G2, hI2, hA2⟩; have HA2 := hid hA2; have hv2 := cell_of (HVAR.out.adv hA2).1; have hdead := Dead_any hI2; rw [HD.out] at hdead; have hrm := rm_any sort_str len_zero contains_ok hI2 (HVAR.out.adv hA2) hrow; clear hI2 hA2)
              | (go_at_call 50; refine hdead.mono ?_; clear hdead; rintro e w' ⟨rfl, rfl⟩)
              | (go_at_call 65; refine hrm.mono ?_; clear hrm; rintro e w3 ⟨rfl, G3, hI3, hA3⟩; have FIN := hid (HF2.out w2 G2 w3 G3 HA2.out hI3 hA3); clear hI3 hA3))
            go_ret
            exact FIN.out
      by_cases h64 : j = 4
      · subst h64
        have hc := hcell 4
        have hstep := re_any INV.out.is INV.out.var HR.1
        have HNX := hid (fun w' G' => INV.out.next (w' := w') (G' := G') (by omega))
        have HFL := hid (fun w' G' fs' w'' G'' => INV.out.fail (w' := w') (G' := G') (fs' := fs') (w'' := w'') (G'' := G'') (by omega))
        have hsmall := small_step INV.out.sm BD 4
        have hvar := INV.out.var
        change Calls Tryz.prog _ _ wr (FsPost wr g Gj (fsj.step BD 4).2 (.int .i64 (fsj.step BD 4).1)) at hstep
        unfold Fs.undo at HFL
        generalize fsj.step BD 4 = R at *
        obtain ⟨E, fs'⟩ := R
        simp only at hstep HNX HFL hsmall
        have HVAR := hid hvar
        clear hcell HR INV h6 hvar
        by_cases hE : E = 0
        · subst hE
          clear HFL
          go_wp2_with (go_at_call 71; refine hstep.mono ?_; clear hstep; rintro e w2 ⟨rfl, G2, hI2, hA2⟩; have NX := hid (HNX.out w2 G2 rfl hI2 hA2); clear hI2 hA2)
          go_roundg (6 - 5)
          case measure => omega
          case rel => exact ⟨5, fs', G2, by omega, rfl, rfl, NX.out⟩
        · have hz : (E != 0) = true := by simpa using hE
          have HZ := hid hE
          have hrow : fs'.row.length < 1099511627776 := by have := hsmall.1; omega
          clear HNX hE
          by_cases hd : fs'.dead = true
          · have HF2 : Hid (∀ w2 G2, IsFS w2 g fs' G2 → Adv g Gj G2 wr w2 → _) := fun w2 G2 hi ha => HFL.out w2 G2 fs' w2 G2 HZ.out ha (by rw [if_pos hd]) hi (Adv.refl _ _ _)
            have HD := hid hd
            clear HFL hd
            go_wp2_with (first
              | (go_at_call 71; refine hstep.mono ?_; clear hstep; rintro e w2 ⟨rfl, G2, hI2, hA2⟩; have FIN := hid (HF2.out w2 G2 hI2 hA2); have hv2 := cell_of (HVAR.out.adv hA2).1; have hdead := Dead_any hI2; rw [HD.out] at hdead; clear hI2 hA2)
              | (go_at_call 50; refine hdead.mono ?_; clear hdead; rintro e w' ⟨rfl, rfl⟩))
            go_ret
            exact FIN.out
          · have HF2 : Hid (∀ w2 G2 w3 G3, Adv g Gj G2 wr w2 → IsFS w3 g fs'.rmR.2 G3 → Adv g G2 G3 w2 w3 → _) := fun w2 G2 w3 G3 ha hi hb => HFL.out w2 G2 _ w3 G3 HZ.out ha (by rw [if_neg hd]) hi hb
            have HD := hid (show fs'.dead = false by simpa using hd)
            clear HFL hd
            go_wp2_with (first
              | (go_at_call 71; refine hstep.mono ?_; clear hstep; rintro e w2 ⟨rfl, G2, hI2, hA2⟩; have HA2 := hid hA2; have hv2 := cell_of (HVAR.out.adv hA2).1; have hdead := Dead_any hI2; rw [HD.out] at hdead; have hrm := rm_any sort_str len_zero contains_ok hI2 (HVAR.out.adv hA2) hrow; clear hI2 hA2)
              | (go_at_call 50; refine hdead.mono ?_; clear hdead; rintro e w' ⟨rfl, rfl⟩)
              | (go_at_call 65; refine hrm.mono ?_; clear hrm; rintro e w3 ⟨rfl, G3, hI3, hA3⟩; have FIN := hid (HF2.out w2 G2 w3 G3 HA2.out hI3 hA3); clear hI3 hA3))
            go_ret
            exact FIN.out
      by_cases h65 : j = 5
      · subst h65
        have hc := hcell 5
        have hstep := SyncDir_any INV.out.is
        have HNX := hid (fun w' G' => INV.out.next (w' := w') (G' := G') (by omega))
        have HFL := hid (fun w' G' fs' w'' G'' => INV.out.fail (w' := w') (G' := G') (fs' := fs') (w'' := w'') (G'' := G'') (by omega))
        have hsmall := small_step INV.out.sm BD 5
        have hvar := INV.out.var
        change Calls Tryz.prog _ _ wr (FsPost wr g Gj (fsj.step BD 5).2 (.int .i64 (fsj.step BD 5).1)) at hstep
        unfold Fs.undo at HFL
        generalize fsj.step BD 5 = R at *
        obtain ⟨E, fs'⟩ := R
        simp only at hstep HNX HFL hsmall
        have HVAR := hid hvar
        clear hcell HR INV h6 hvar
        by_cases hE : E = 0
        · subst hE
          clear HFL
          go_wp2_with (go_at_call 73; refine hstep.mono ?_; clear hstep; rintro e w2 ⟨rfl, G2, hI2, hA2⟩; have NX := hid (HNX.out w2 G2 rfl hI2 hA2); clear hI2 hA2)
          go_roundg (6 - 6)
          case measure => omega
          case rel => exact ⟨6, fs', G2, by omega, rfl, rfl, NX.out⟩
        · have hz : (E != 0) = true := by simpa using hE
          have HZ := hid hE
          have hrow : fs'.row.length < 1099511627776 := by have := hsmall.1; omega
          clear HNX hE
          by_cases hd : fs'.dead = true
          · have HF2 : Hid (∀ w2 G2, IsFS w2 g fs' G2 → Adv g Gj G2 wr w2 → _) := fun w2 G2 hi ha => HFL.out w2 G2 fs' w2 G2 HZ.out ha (by rw [if_pos hd]) hi (Adv.refl _ _ _)
            have HD := hid hd
            clear HFL hd
            go_wp2_with (first
              | (go_at_call 73; refine hstep.mono ?_; clear hstep; rintro e w2 ⟨rfl, G2, hI2, hA2⟩; have FIN := hid (HF2.out w2 G2 hI2 hA2); have hv2 := cell_of (HVAR.out.adv hA2).1; have hdead := Dead_any hI2; rw [HD.out] at hdead; clear hI2 hA2)
              | (go_at_call 50; refine hdead.mono ?_; clear hdead; rintro e w' ⟨rfl, rfl⟩))
            go_ret
            exact FIN.out
          · have HF2 : Hid (∀ w2 G2 w3 G3, Adv g Gj G2 wr w2 → IsFS w3 g fs'.rmR.2 G3 → Adv g G2 G3 w2 w3 → _) := fun w2 G2 w3 G3 ha hi hb => HFL.out w2 G2 _ w3 G3 HZ.out ha (by rw [if_neg hd]) hi hb
            have HD := hid (show fs'.dead = false by simpa using hd)
            clear HFL hd
            go_wp2_with (first
              | (go_at_call 73; refine hstep.mono ?_; clear hstep; rintro e w2 ⟨rfl, G2, hI2, hA2⟩; have HA2 := hid hA2; have hv2 := cell_of (HVAR.out.adv hA2).1; have hdead := Dead_any hI2; rw [HD.out] at hdead; have hrm := rm_any sort_str len_zero contains_ok hI2 (HVAR.out.adv hA2) hrow; clear hI2 hA2)
              | (go_at_call 50; refine hdead.mono ?_; clear hdead; rintro e w' ⟨rfl, rfl⟩)
              | (go_at_call 65; refine hrm.mono ?_; clear hrm; rintro e w3 ⟨rfl, G3, hI3, hA3⟩; have FIN := hid (HF2.out w2 G2 w3 G3 HA2.out hI3 hA3); clear hI3 hA3))
            go_ret
            exact FIN.out
      omega
  · rw [if_pos hm]
    have hput := manPut_any a s
    unfold manV at hput
    have hsz : ∀ W, Keep (fun _ => False) w W → Calls Tryz.prog 43 #[.pointer (some ⟨g, 0, none⟩), .string ByteArray.empty] W fun e w' => ∃ x y : Int, e = .returned (.tuple #[.int .i64 x, .int .i64 y]) ∧ (y == 1) = false ∧ W = w' := by
      intro W hk
      refine (Size_any (h.keep hk (fun _ _ h => h)) ByteArray.empty).mono ?_
      rintro e w' ⟨rfl, rfl⟩
      refine ⟨_, _, rfl, ?_, rfl⟩
      rcases getE_val fs ByteArray.empty with e | e | e <;> rw [e] <;> rfl
    have hsz1 : Calls Tryz.prog 43 #[.pointer (some ⟨g, 0, none⟩), .string ByteArray.empty] _ fun e w' => ∃ x y : Int, e = .returned (.tuple #[.int .i64 x, .int .i64 y]) ∧ (y == 1) = false ∧ _ = w' := hsz _ hk0
    generalize manPut a s = R at *
    obtain ⟨BD, PE⟩ := R
    simp only at hm ⊢
    have hz : (PE != 0) = true := by simpa using hm
    have HF := hid (fun w1 hk => FsPost.no (v := .int .i64 PE) h (keep0_trans (c := w1) hk0 hk))
    clear hk0 hm h hs hsz
    go_enter Tryz.func20, Tryz.ntmps20
    go_wp2_with (first
      | (go_at_call 43; refine hsz1.mono ?_; clear hsz1; rintro e w' ⟨x, y, rfl, hy, rfl⟩)
      | (go_at_call 11; refine (hput _).mono ?_; clear hput; rintro e w1 ⟨v, rfl, hv, hk⟩; obtain ⟨va, vc, hve⟩ := hv.len; subst hve; have HK1 := hid hk; have hp1 := cell_of ((hk.block w.heap.size (by simp; omega) (fun h => h)).trans (blk_alloc (blk_new w _) _)); clear hv hk))
    go_ret
    exact HF.out _ (Keep.alloc HK1.out _)

set_option maxRecDepth 100000 in
theorem manWrite_nil (a s : Int) (w : World) : Calls Tryz.prog 20 #[.pointer none, manV a s] w fun e w' => e = .returned (.int .i64 1) ∧ Keep (fun _ => False) w w' := by
  unfold manV
  have hk0 : Keep (fun _ => False) w ((w.alloc (.cells #[.pointer none] 35)).alloc (.cells #[.int .i64 a, .int .i64 s] 23)) := Keep.alloc (Keep.alloc (Keep.refl _ w) _) _
  have HK := hid hk0
  clear hk0
  go_enter Tryz.func20, Tryz.ntmps20
  go_wp2_with (go_at_call 43; refine (Size_nil _ _).mono ?_; rintro e w' ⟨rfl, rfl⟩)
  go_ret
  exact ⟨rfl, HK.out⟩

end
end Go.Stk

/- Names of files, at the inputs that the laws of layer 26 use. -/
namespace Go.Stk
open Go Go.RowKit Go.Proofs

section
variable {w : World}

/-- The text of a small number. -/
theorem itoa_small (i : Nat) (hi : i < 100) (l : Array UInt8) (hl : (Lib.decDigits i).toArray = l) (w : World) : Calls Tryz.prog 111 #[.int .i64 (i : Int)] w fun e w' => e = .returned (.string ⟨l⟩) ∧ w' = w := by
  subst hl
  exact Tryz.strconv_Itoa_small i hi w

theorem itoa5 (w : World) : Calls Tryz.prog 111 #[.int .i64 5] w fun e w' => e = .returned (.string ⟨#[53]⟩) ∧ w' = w := itoa_small 5 (by omega) _ (by decide +kernel) w
theorem itoa0 (w : World) : Calls Tryz.prog 111 #[.int .i64 0] w fun e w' => e = .returned (.string ⟨#[48]⟩) ∧ w' = w := itoa_small 0 (by omega) _ (by decide +kernel) w
theorem itoa7 (w : World) : Calls Tryz.prog 111 #[.int .i64 7] w fun e w' => e = .returned (.string ⟨#[55]⟩) ∧ w' = w := itoa_small 7 (by omega) _ (by decide +kernel) w

set_option maxRecDepth 100000 in
theorem name_shard (w : World) : Calls Tryz.prog 63 #[.string ⟨#[115, 104, 97, 114, 100]⟩, .int .i64 5, .int .i64 0] w fun e w' => e = .returned (.string ⟨#[115, 104, 97, 114, 100, 46, 53, 46, 48]⟩) ∧ w' = w := by
  go_enter Tryz.func63, Tryz.ntmps63
  go_wp2_with fail
  refine (itoa5 _).mono ?_; rintro e w' ⟨rfl, rfl⟩
  go_wp2_with fail
  refine (itoa0 _).mono ?_; rintro e w' ⟨rfl, rfl⟩
  go_wp2_with fail
  go_ret
  exact ⟨rfl, rfl⟩

set_option maxRecDepth 100000 in
theorem name_index5 (w : World) : Calls Tryz.prog 63 #[.string ⟨#[105, 110, 100, 101, 120]⟩, .int .i64 5, .int .i64 (-1)] w fun e w' => e = .returned (.string ⟨#[105, 110, 100, 101, 120, 46, 53]⟩) ∧ w' = w := by
  go_enter Tryz.func63, Tryz.ntmps63
  go_wp2_with fail
  refine (itoa5 _).mono ?_; rintro e w' ⟨rfl, rfl⟩
  go_wp2_with fail
  go_ret
  exact ⟨rfl, rfl⟩

set_option maxRecDepth 100000 in
theorem name_vocab5 (w : World) : Calls Tryz.prog 63 #[.string ⟨#[118, 111, 99, 97, 98]⟩, .int .i64 5, .int .i64 (-1)] w fun e w' => e = .returned (.string ⟨#[118, 111, 99, 97, 98, 46, 53]⟩) ∧ w' = w := by
  go_enter Tryz.func63, Tryz.ntmps63
  go_wp2_with fail
  refine (itoa5 _).mono ?_; rintro e w' ⟨rfl, rfl⟩
  go_wp2_with fail
  go_ret
  exact ⟨rfl, rfl⟩

set_option maxRecDepth 100000 in
theorem name_shard5 (w : World) : Calls Tryz.prog 63 #[.string ⟨#[115, 104, 97, 114, 100]⟩, .int .i64 5, .int .i64 (-1)] w fun e w' => e = .returned (.string ⟨#[115, 104, 97, 114, 100, 46, 53]⟩) ∧ w' = w := by
  go_enter Tryz.func63, Tryz.ntmps63
  go_wp2_with fail
  refine (itoa5 _).mono ?_; rintro e w' ⟨rfl, rfl⟩
  go_wp2_with fail
  go_ret
  exact ⟨rfl, rfl⟩

set_option maxRecDepth 100000 in
theorem name_log5 (w : World) : Calls Tryz.prog 63 #[.string ⟨#[108, 111, 103]⟩, .int .i64 5, .int .i64 (-1)] w fun e w' => e = .returned (.string ⟨#[108, 111, 103, 46, 53]⟩) ∧ w' = w := by
  go_enter Tryz.func63, Tryz.ntmps63
  go_wp2_with fail
  refine (itoa5 _).mono ?_; rintro e w' ⟨rfl, rfl⟩
  go_wp2_with fail
  go_ret
  exact ⟨rfl, rfl⟩

theorem cut_shard (w : World) : Calls Tryz.prog 112 #[.string ⟨#[108, 111, 103, 46, 53, 46, 55]⟩, .string ⟨#[115, 104, 97, 114, 100, 46, 53, 46]⟩] w fun e w' => e = .returned (.tuple #[.string ⟨#[108, 111, 103, 46, 53, 46, 55]⟩, .bool false]) ∧ w' = w := Tryz.strings_CutPrefix ⟨#[108, 111, 103, 46, 53, 46, 55]⟩ ⟨#[115, 104, 97, 114, 100, 46, 53, 46]⟩ w
theorem cut_log (w : World) : Calls Tryz.prog 112 #[.string ⟨#[108, 111, 103, 46, 53, 46, 55]⟩, .string ⟨#[108, 111, 103, 46, 53, 46]⟩] w fun e w' => e = .returned (.tuple #[.string ⟨#[55]⟩, .bool true]) ∧ w' = w := Tryz.strings_CutPrefix ⟨#[108, 111, 103, 46, 53, 46, 55]⟩ ⟨#[108, 111, 103, 46, 53, 46]⟩ w

theorem keep_bytesWorld (w : World) (e : TypeId) (s : ByteArray) : Keep (fun _ => False) w (Lib.bytesWorld w e s) := by
  exact Keep.of_below ⟨rfl, rfl, rfl, by rw [Lib.bytesWorld_size]; omega, fun k hk => Lib.bytesWorld_at_old w _ s k hk⟩

theorem atoi7 (w : World) : Calls Tryz.prog 124 #[.string ⟨#[55]⟩] w fun e w' => e = .returned (.tuple #[.int .i64 7, .nilIface]) ∧ Keep (fun _ => False) w w' := by
  refine (Tryz.strconv_Atoi ⟨#[55]⟩ 7 (by decide) (by decide +kernel) w).mono ?_
  rintro e w' ⟨rfl, t, rfl⟩
  exact ⟨rfl, keep_bytesWorld _ _ _⟩

set_option maxRecDepth 100000 in
theorem tens7 (w : World) : Calls Tryz.prog 113 #[.string ⟨#[55]⟩] w fun e w' => e = .returned (.bool true) ∧ Keep (fun _ => False) w w' := by
  go_enter Tryz.func113, Tryz.ntmps113
  go_wp2_with fail
  refine (atoi7 _).mono ?_; rintro e w1 ⟨rfl, hk⟩
  have HK := hid hk
  clear hk
  go_wp2_with fail
  refine (itoa7 _).mono ?_; rintro e w' ⟨rfl, rfl⟩
  go_wp2_with fail
  go_ret
  exact ⟨rfl, HK.out⟩

set_option maxRecDepth 100000 in
set_option maxHeartbeats 800000 in
theorem of_log (w : World) : Calls Tryz.prog 64 #[.string ⟨#[108, 111, 103, 46, 53, 46, 55]⟩, .int .i64 5] w fun e w' => e = .returned (.bool true) ∧ Keep (fun _ => False) w w' := by
  go_enter Tryz.func64, Tryz.ntmps64
  go_wp2
  refine wp_loop_rounds 3 ?_
  rw [rounds_succ]
  go_wp2_with fail
  refine (name_index5 _).mono ?_; rintro e w' ⟨rfl, rfl⟩
  go_wp2_with fail
  rw [rounds_succ]
  go_wp2_with fail
  refine (name_vocab5 _).mono ?_; rintro e w' ⟨rfl, rfl⟩
  go_wp2_with fail
  rw [rounds_succ]
  go_wp2_with fail
  refine wp_loop_rounds 3 ?_
  rw [rounds_succ]
  go_wp2_with fail
  refine (name_shard5 _).mono ?_; rintro e w' ⟨rfl, rfl⟩
  go_wp2_with fail
  refine (cut_shard _).mono ?_; rintro e w' ⟨rfl, rfl⟩
  go_wp2_with fail
  rw [rounds_succ]
  go_wp2_with fail
  refine (name_log5 _).mono ?_; rintro e w' ⟨rfl, rfl⟩
  go_wp2_with fail
  refine (cut_log _).mono ?_; rintro e w' ⟨rfl, rfl⟩
  go_wp2_with fail
  refine (tens7 _).mono ?_; rintro e w1 ⟨rfl, hk⟩
  have HK := hid (keep0_trans (Keep.alloc (Keep.alloc (Keep.refl (fun _ => False) w) _) _) hk)
  clear hk
  go_wp2_with fail
  go_ret
  exact ⟨rfl, HK.out⟩

end
end Go.Stk

/- The run of layer 26 that each of its laws makes. -/
namespace Go.Stk
open Go Go.RowKit Go.Proofs

theorem hasB_sort (l : List ByteArray) (x : ByteArray) : hasB (sortB l) x = hasB l x := by
  rw [Bool.eq_iff_iff]
  simp [hasB, sortB_mem]

theorem hasB_names (fs : Fs) (x : ByteArray) : hasB fs.names x = (!fs.dead && hasB (keysOf fs.seen) x) := by
  unfold Fs.names
  cases fs.dead with
  | true => simp [hasB]
  | false => simpa using hasB_sort _ _

theorem live26 : (manWrite (Fs.new 100) 5 32).1 = 0 ∧ manRead (manWrite (Fs.new 100) 5 32).2 = (5, 32, 0) := by
  decide +kernel

section
variable {w : World}

theorem live26' : ∃ fs2, manWrite (Fs.new 100) 5 32 = (0, fs2) ∧ manRead fs2 = (5, 32, 0) := ⟨(manWrite (Fs.new 100) 5 32).2, Prod.ext live26.1 rfl, live26.2⟩
theorem small_new (room : Nat) : (Fs.new room).Small 0 := ⟨Nat.le_refl _, Nat.le_refl _, fun f hf => by simp [Fs.new] at hf⟩

/-- What a disk of one's own became: nothing else. -/
theorem Adv.fresh {g : Nat} {G G' : FG} {w0 w1 w2 : World} (ha : Adv g G G' w1 w2) (hk : Keep (fun _ => False) w0 w1) (hG : ∀ k ∈ G.blocks g, w0.heap.size ≤ k) : Keep (fun _ => False) w0 w2 ∧ ∀ k ∈ G'.blocks g, w0.heap.size ≤ k :=
  ⟨hk.trans ha.1 (fun i hi => .inr (hG i hi)), fun k hm => (ha.2 k hm).elim (hG k) (fun h => Nat.le_trans hk.size h)⟩

set_option maxRecDepth 100000 in
set_option maxHeartbeats 1600000 in
theorem lives26_any (w : World) : Calls Tryz.prog 18 #[] w (RetBool w true) := by
  have hnew := New_ok (w := w) 100 (by omega)
  obtain ⟨fs2, e1, e2⟩ := live26'
  have HW : Hid (∀ W g G, IsFS W g (Fs.new 100) G → Calls Tryz.prog 20 #[.pointer (some ⟨g, 0, none⟩), .agg #[.int .i64 5, .int .i64 32]] W (FsPost W g G fs2 (.int .i64 0))) := fun W g G h => by
    have := manWrite_any 5 32 0 h (small_new 100) (by omega)
    rw [e1] at this
    exact this
  have HR : Hid (∀ W g G, IsFS W g fs2 G → Calls Tryz.prog 27 #[.pointer (some ⟨g, 0, none⟩)] W (RetMan W (5, 32, 0))) := fun W g G h => by
    have := manRead_any h
    rw [e2] at this
    exact this
  clear e1 e2
  go_enter Tryz.func18, Tryz.ntmps18
  go_wp2_with fail
  refine hnew.mono ?_
  clear hnew
  rintro e w1 ⟨g, G, rfl, h1, hk1, hG1⟩
  have hI := h1.keep (Keep.alloc (Keep.refl (fun _ => False) w1) (.cells #[.int .i64 5, .int .i64 32] 23)) (fun _ _ h => h)
  have hwr := HW.out _ g G hI
  have HI := hid hI
  have hlt := h1.lt
  have HA : Hid (∀ G2 w2, Adv g G G2 (w1.alloc (.cells #[.int .i64 5, .int .i64 32] 23)) w2 → Keep (fun _ => False) w w2 ∧ w2.heap[w1.heap.size]? = some (.cells #[.int .i64 5, .int .i64 32] 23 (0, 0))) := fun G2 w2 ha =>
    ⟨(ha.fresh (Keep.alloc hk1 _) hG1).1, ((ha.block (by simp) (fun hm => by have := hlt _ hm; omega)).1.trans (blk_new w1 _))⟩
  clear h1 hk1 hG1 hI hlt
  go_wp2_with fail
  refine hwr.mono ?_
  clear hwr
  rintro e w2 ⟨rfl, G2, h2, ha⟩
  obtain ⟨hk2, hc2⟩ := HA.out G2 w2 ha
  have hrd := HR.out w2 g G2 h2
  have HK2 := hid hk2
  have HC2 := hid hc2
  clear h2 ha hk2 hc2
  go_wp2_with fail
  refine hrd.mono ?_
  clear hrd
  rintro e w3 ⟨rfl, hk3⟩
  have HK3 := hid (keep0_trans HK2.out hk3)
  have hc3 : ∀ o k, (w3.alloc o).cell? ⟨w1.heap.size, k, none⟩ = (#[.int .i64 5, .int .i64 32] : Array Value)[k]? := fun o => cell_of (blk_alloc ((hk3.block _ (lt_of HC2.out) (fun h => h)).trans HC2.out) o)
  clear hk3
  unfold manV
  go_wp2_with fail
  refine (name_shard _).mono ?_
  rintro e w4 ⟨rfl, rfl⟩
  go_wp2_with fail
  refine (of_log _).mono ?_
  rintro e w4 ⟨rfl, hk4⟩
  have HK4 := hid (keep0_trans (Keep.alloc HK3.out _) hk4)
  clear hk4
  go_wp2_with fail
  go_ret
  exact ⟨rfl, HK4.out⟩
end

end Go.Stk

/- What manifest.Write and Read do to a disk, while the power is on. No program stands here. -/
namespace Go.Stk
open Go

/-- What of a manifest is there. -/
def manFile : Option (Int × Int) → List (ByteArray × List UInt8)
  | none => []
  | some m => [(nMan, (manPut m.1 m.2).1)]
def newFile : Option (List UInt8) → List (ByteArray × List UInt8)
  | none => []
  | some x => [(nNew, x)]
def manSize (o : Option (Int × Int)) : Nat := match o with
  | none => 0
  | some m => (manPut m.1 m.2).1.length

theorem nMan_ne : nMan ≠ nNew := by decide
theorem nNew_ne : nNew ≠ nMan := by decide
theorem isName_new : isName nNew = true := by decide +kernel
theorem isName_man : isName nMan = true := by decide +kernel

theorem get_new (o : Option (Int × Int)) (x : Option (List UInt8)) : dget (manFile o ++ newFile x) nNew = x := by
  cases o <;> cases x <;> simp [manFile, newFile, dget]
theorem get_man (o : Option (Int × Int)) (x : Option (List UInt8)) : dget (manFile o ++ newFile x) nMan = o.map fun m => (manPut m.1 m.2).1 := by
  cases o <;> cases x <;> simp [manFile, newFile, dget]
theorem put_new (o : Option (Int × Int)) (x : Option (List UInt8)) (y : List UInt8) : dput (manFile o ++ newFile x) nNew y = manFile o ++ newFile (some y) := by
  cases o <;> cases x <;> simp [manFile, newFile, dput]
theorem del_new (o : Option (Int × Int)) (x : Option (List UInt8)) : ddel (manFile o ++ newFile x) nNew = manFile o ++ newFile none := by
  cases o <;> cases x <;> simp [manFile, newFile, ddel]
theorem put_man (o : Option (Int × Int)) (m : Int × Int) : dput (manFile o ++ newFile none) nMan (manPut m.1 m.2).1 = manFile (some m) ++ newFile none := by
  cases o <;> simp [manFile, newFile, dput]
theorem keys_new (o : Option (Int × Int)) (x : Option (List UInt8)) : hasB (keysOf (manFile o ++ newFile x)) nNew = x.isSome := by
  cases o <;> cases x <;> simp [manFile, newFile, keysOf, hasB]
theorem size_view (o : Option (Int × Int)) (x : Option (List UInt8)) : ((manFile o ++ newFile x).map fun p => p.2.length).sum = manSize o + (x.map List.length).getD 0 := by
  cases o <;> cases x <;> simp [manFile, newFile, manSize]
theorem view_few (o : Option (Int × Int)) (x : Option (List UInt8)) : (manFile o ++ newFile x).length < 64 := by
  cases o <;> cases x <;> simp [manFile, newFile]

/-- The disk has a manifest, or none, and what becomes one, or not. -/
structure MSt (fs : Fs) (room : Nat) (o : Option (Int × Int)) (x : Option (List UInt8)) : Prop where
  calm : Calm fs room
  view : fs.view = manFile o ++ newFile x
  may : ∀ m, o = some m → manMay m.1 m.2 = true

theorem frm_len {l : List UInt8} (h : l.length ≤ 65536) : (frmPut l).2 = 0 ∧ 0 < (frmPut l).1.length := by
  unfold frmPut
  rw [if_neg (by omega)]
  simp [frameL, fourL]
theorem manPut_ok {a s : Int} (h : manMay a s = true) : (manPut a s).2 = 0 ∧ 0 < (manPut a s).1.length := by
  have := manBody_len h
  unfold manPut
  rw [if_pos h]
  exact frm_len (by omega)
theorem manPut_no {a s : Int} (h : manMay a s = false) : manPut a s = ([], 2) := by
  unfold manPut
  rw [if_neg (by simp [h])]

section
variable {fs : Fs} {room : Nat} {o : Option (Int × Int)} {x : Option (List UInt8)}

theorem MSt.used (h : MSt fs room o x) : fs.used = manSize o + (x.map List.length).getD 0 := by rw [used_view, h.view, size_view]
theorem MSt.used_le (h : MSt fs room o x) (hx : (x.map List.length).getD 0 ≤ 900000) : fs.used ≤ 1048576 := by
  rw [h.used]
  have : manSize o ≤ 65550 := by
    unfold manSize
    split
    · omega
    · exact manPut_len _ _
  omega

theorem MSt.rm (h : MSt fs room o x) : fs.rmR.1 = 0 ∧ MSt fs.rmR.2 room o none := by
  unfold Fs.rmR
  rw [hasB_names, h.calm.dead, ← keys_view, h.view, keys_new]
  cases x with
  | none =>
    rw [if_neg (by simp)]
    exact ⟨rfl, h.calm, h.view, h.may⟩
  | some y =>
    rw [if_pos (by simp)]
    obtain ⟨q1, q2, q3⟩ := calm_remove h.calm (name := nNew) (x := y) (by rw [h.view, get_new])
    exact ⟨q1, q2, by rw [q3, h.view, del_new], h.may⟩

theorem MSt.remove {y : List UInt8} (h : MSt fs room o (some y)) : (fs.removeR nNew).1 = 0 ∧ MSt (fs.removeR nNew).2 room o none := by
  obtain ⟨q1, q2, q3⟩ := calm_remove h.calm (name := nNew) (x := y) (by rw [h.view, get_new])
  exact ⟨q1, q2, by rw [q3, h.view, del_new], h.may⟩

theorem MSt.create (h : MSt fs room o none) : (fs.createR nNew).1 = 0 ∧ MSt (fs.createR nNew).2 room o (some []) := by
  obtain ⟨q1, q2, q3⟩ := calm_create h.calm (name := nNew) isName_new (by rw [h.view, get_new]) (by rw [h.view]; exact view_few _ _)
  refine ⟨q1, q2, ?_, h.may⟩
  rw [q3, h.view]
  simp [newFile]

theorem MSt.append (h : MSt fs room o (some [])) {b : List UInt8} (hc : (b.length : Int) ≤ room - manSize o) : (fs.appendR nNew b).1 = 0 ∧ MSt (fs.appendR nNew b).2 room o (some b) := by
  have hu := h.used
  simp only [Option.map_some, List.length_nil, Option.getD_some, Nat.add_zero] at hu
  obtain ⟨q1, q2, q3⟩ := calm_append h.calm (name := nNew) (x := []) (b := b) (by rw [h.view, get_new]) (by rw [hu]; omega) (h.used_le (by simp))
  exact ⟨q1, q2, by rw [q3, h.view, put_new]; simp, h.may⟩

theorem MSt.append_full (h : MSt fs room o (some [])) {b : List UInt8} (hb : 0 < b.length) (hc : (room : Int) - manSize o < b.length) : fs.appendR nNew b = (9, fs) := by
  have hu := h.used
  simp only [Option.map_some, List.length_nil, Option.getD_some, Nat.add_zero] at hu
  exact calm_append_full h.calm (name := nNew) (x := []) (by rw [h.view, get_new]) (by rw [hu]; omega)

theorem MSt.sync {y : List UInt8} (h : MSt fs room o (some y)) : (fs.syncR nNew).1 = 0 ∧ MSt (fs.syncR nNew).2 room o (some y) := by
  obtain ⟨q1, q2, q3⟩ := calm_sync h.calm (name := nNew) (x := y) (by rw [h.view, get_new])
  exact ⟨q1, q2, by rw [q3, h.view], h.may⟩

theorem MSt.rename {m : Int × Int} (h : MSt fs room o (some (manPut m.1 m.2).1)) (hm : manMay m.1 m.2 = true) : (fs.renameR nNew nMan).1 = 0 ∧ MSt (fs.renameR nNew nMan).2 room (some m) none := by
  obtain ⟨q1, q2, q3⟩ := calm_rename h.calm (name := nNew) (b := nMan) isName_man (by rw [h.view, get_new])
  refine ⟨q1, q2, by rw [q3, h.view, del_new, put_man], fun m' e => ?_⟩
  injection e with e
  subst e
  exact hm

theorem MSt.syncDir (h : MSt fs room o x) : fs.syncDirR.1 = 0 ∧ MSt fs.syncDirR.2 room o x := by
  obtain ⟨q1, q2, q3⟩ := calm_syncDir h.calm
  exact ⟨q1, q2, by rw [q3, h.view], h.may⟩

theorem steps_ok {b : List UInt8} {n k : Nat} {fs : Fs} (h : (fs.step b k).1 = 0) : Fs.steps b (n + 1) k fs = Fs.steps b n (k + 1) (fs.step b k).2 := by
  rw [Fs.steps, if_neg (by simp [h])]
theorem steps_no {b : List UInt8} {n k : Nat} {fs : Fs} (h : (fs.step b k).1 ≠ 0) : Fs.steps b (n + 1) k fs = ((fs.step b k).1, (fs.step b k).2.undo) := by
  rw [Fs.steps, if_pos h]

/-- A manifest is written. -/
theorem MSt.write (h : MSt fs room o x) {m : Int × Int} (hm : manMay m.1 m.2 = true) (hc : ((manPut m.1 m.2).1.length : Int) ≤ room - manSize o) :
    (manWrite fs m.1 m.2).1 = 0 ∧ MSt (manWrite fs m.1 m.2).2 room (some m) none := by
  obtain ⟨e1, e2⟩ := manPut_ok hm
  unfold manWrite
  rw [if_neg (by simp [e1])]
  obtain ⟨a0, s0⟩ := h.rm
  have r0 : Fs.steps (manPut m.1 m.2).1 6 0 fs = Fs.steps (manPut m.1 m.2).1 5 1 fs.rmR.2 := steps_ok a0
  rw [r0]
  generalize fs.rmR.2 = f1 at *
  obtain ⟨a1, s1⟩ := MSt.create s0
  have r1 : Fs.steps (manPut m.1 m.2).1 5 1 f1 = Fs.steps (manPut m.1 m.2).1 4 2 (f1.createR nNew).2 := steps_ok a1
  rw [r1]
  generalize (f1.createR nNew).2 = f2 at *
  obtain ⟨a2, s2⟩ := MSt.append s1 hc
  have r2 : Fs.steps (manPut m.1 m.2).1 4 2 f2 = Fs.steps (manPut m.1 m.2).1 3 3 (f2.appendR nNew (manPut m.1 m.2).1).2 := steps_ok a2
  rw [r2]
  generalize (f2.appendR nNew (manPut m.1 m.2).1).2 = f3 at *
  obtain ⟨a3, s3⟩ := MSt.sync s2
  have r3 : Fs.steps (manPut m.1 m.2).1 3 3 f3 = Fs.steps (manPut m.1 m.2).1 2 4 (f3.syncR nNew).2 := steps_ok a3
  rw [r3]
  generalize (f3.syncR nNew).2 = f4 at *
  obtain ⟨a4, s4⟩ := MSt.rename s3 hm
  have r4 : Fs.steps (manPut m.1 m.2).1 2 4 f4 = Fs.steps (manPut m.1 m.2).1 1 5 (f4.renameR nNew nMan).2 := steps_ok a4
  rw [r4]
  generalize (f4.renameR nNew nMan).2 = f5 at *
  obtain ⟨a5, s5⟩ := MSt.syncDir s4
  have r5 : Fs.steps (manPut m.1 m.2).1 1 5 f5 = Fs.steps (manPut m.1 m.2).1 0 6 f5.syncDirR.2 := steps_ok a5
  rw [r5]
  exact ⟨rfl, s5⟩

/-- There is no room for it. -/
theorem MSt.write_full (h : MSt fs room o x) {m : Int × Int} (hm : manMay m.1 m.2 = true) (hc : (room : Int) - manSize o < (manPut m.1 m.2).1.length) :
    (manWrite fs m.1 m.2).1 = 9 ∧ MSt (manWrite fs m.1 m.2).2 room o none := by
  obtain ⟨e1, e2⟩ := manPut_ok hm
  unfold manWrite
  rw [if_neg (by simp [e1])]
  obtain ⟨a0, s0⟩ := h.rm
  have r0 : Fs.steps (manPut m.1 m.2).1 6 0 fs = Fs.steps (manPut m.1 m.2).1 5 1 fs.rmR.2 := steps_ok a0
  rw [r0]
  generalize fs.rmR.2 = f1 at *
  obtain ⟨a1, s1⟩ := MSt.create s0
  have r1 : Fs.steps (manPut m.1 m.2).1 5 1 f1 = Fs.steps (manPut m.1 m.2).1 4 2 (f1.createR nNew).2 := steps_ok a1
  rw [r1]
  generalize (f1.createR nNew).2 = f2 at *
  have a2 : f2.step (manPut m.1 m.2).1 2 = (9, f2) := MSt.append_full s1 e2 hc
  have r2 : Fs.steps (manPut m.1 m.2).1 4 2 f2 = ((f2.step (manPut m.1 m.2).1 2).1, (f2.step (manPut m.1 m.2).1 2).2.undo) := steps_no (by rw [a2]; simp)
  rw [r2, a2]
  refine ⟨rfl, ?_⟩
  show MSt (Fs.undo f2) room o none
  unfold Fs.undo
  rw [if_neg (by simp [s1.calm.dead])]
  exact (MSt.rm s1).2

theorem MSt.write_no {m : Int × Int} (hm : manMay m.1 m.2 = false) : manWrite fs m.1 m.2 = (2, fs) := by
  unfold manWrite
  rw [manPut_no hm]
  simp

theorem MSt.read (h : MSt fs room o x) : manRead fs = match o with | none => (0, 0, 7) | some m => (m.1, m.2, 0) := by
  unfold manRead
  cases o with
  | none =>
    have := calm_getE_none h.calm (name := nMan) (by rw [h.view, get_man]; rfl)
    rw [this]
    simp
  | some m =>
    obtain ⟨q1, q2, _⟩ := calm_getE h.calm (name := nMan) (x := (manPut m.1 m.2).1) (by rw [h.view, get_man]; rfl)
    rw [if_neg (by simp [q1]), q2, manGet_put (h.may m rfl)]

theorem small_undo {n : Nat} (h : fs.Small n) : fs.undo.Small (n + 1) := by
  unfold Fs.undo
  split
  · exact h.mono (by omega)
  · exact small_rmR h
theorem small_steps (b : List UInt8) : ∀ (k i n : Nat) (fs : Fs), fs.Small n → (Fs.steps b k i fs).2.Small (n + k + 1)
  | 0, _, _, _, h => h.mono (by omega)
  | k + 1, i, n, fs, h => by
    rw [Fs.steps]
    split
    · exact (small_undo (small_step h b i)).mono (by omega)
    · exact (small_steps b k (i + 1) (n + 1) _ (small_step h b i)).mono (by omega)
theorem small_write {n : Nat} (h : fs.Small n) (a s : Int) : (manWrite fs a s).2.Small (n + 7) := by
  unfold manWrite
  split
  · exact h.mono (by omega)
  · exact small_steps _ 6 0 n fs h

end
end Go.Stk

/- The law ManifestBytes: its walk. -/
namespace Go.Stk
open Go Go.RowKit Go.Proofs

section
variable {w : World}

theorem keep_drewN {w w' : World} {F : Nat → Prop} (h : Keep F w w') (n : Nat) : Keep F w (w'.drewN n) := KeepN.drewN h n

set_option maxRecDepth 100000 in
set_option maxHeartbeats 1600000 in
theorem manifestBytes_any (a s : Int) {v : Value} {l : List UInt8} (h : Byt w v l) (hl : l.length ≤ 35184372088832) : Calls Tryz.prog 3 #[manV a s, v] w (RetBool w true) := by
  unfold manV
  have hk0 : Keep (fun _ => False) w (w.alloc (.cells #[.int .i64 a, .int .i64 s] 23)) := Keep.alloc (Keep.refl _ w) _
  have hb0 := blk_new w (.cells #[.int .i64 a, .int .i64 s] 23)
  have hput := manPut_any a s (w.alloc (.cells #[.int .i64 a, .int .i64 s] 23))
  have hrput := fun w1 => refManPut_any a s w1
  have hlen := manPut_len a s
  unfold manV at hput hrput
  have HK0 := hid hk0
  have HB0 := hid hb0
  have HB := hid h
  obtain ⟨va, vc, rfl⟩ := h.len
  generalize manPut a s = R at *
  obtain ⟨BD, PE⟩ := R
  simp only at hlen
  have hg1 := fun (W : World) (x : Value) (hx : Byt W x l) => manGet_any hx (by omega)
  have hg2 := fun (W : World) (x : Value) (hx : Byt W x l) => refManGet_any hx (by omega)
  have hwd := fun (W : World) (x : Value) (hx : Byt W x l) => Wide_any hx (by omega)
  generalize manGet l = M at *
  obtain ⟨M1, M2, M3⟩ := M
  have HG1 := hid hg1
  have HG2 := hid hg2
  have HWD := hid hwd
  clear hg1 hg2 hwd
  clear hk0 hb0 h
  go_enter Tryz.func3, Tryz.ntmps3
  go_wp2_with fail
  refine hput.mono ?_
  clear hput
  rintro e w1 ⟨v1, rfl, hv1, hk1⟩
  have hb1 := (hk1.block _ (lt_of HB0.out) (fun h => h)).trans HB0.out
  have hc1 := cell_of hb1
  have HB1 := hid hb1
  have HV1 := hid hv1
  have HK1 := hid (keep0_trans HK0.out hk1)
  obtain ⟨a1, c1, hv1e⟩ := hv1.len
  subst hv1e
  clear hv1 hk1 hb1
  go_wp2_with fail
  refine (hrput _).mono ?_
  clear hrput
  rintro e w2 ⟨v2, rfl, hv2, hk2⟩
  have HV2 := hid hv2
  have HV1' := hid (HV1.out.keep hk2)
  have HK2 := hid (keep0_trans HK1.out hk2)
  obtain ⟨a2, c2, hv2e⟩ := hv2.len
  subst hv2e
  have hsame := Same_any HV1'.out HV2.out (by omega)
  rw [decide_eq_true rfl] at hsame
  clear hv2 hk2
  go_wp2_with fail
  refine hsame.mono ?_
  clear hsame
  rintro e w3 ⟨rfl, nq, rfl⟩
  have HK3 := hid (keep_drewN HK2.out nq)
  have hwide := HWD.out _ _ (HB.out.keep HK3.out)
  go_wp2_with fail
  refine hwide.mono ?_
  clear hwide
  rintro e w4 ⟨v4, rfl, hv4, hk4⟩
  have HV4 := hid hv4
  have HK4 := hid (keep0_trans HK3.out hk4)
  have hget := HG1.out _ _ hv4.byt
  obtain ⟨g4, hv4e, _, _⟩ := hv4
  subst hv4e
  clear hk4
  go_wp2_with fail
  refine hget.mono ?_
  clear hget
  rintro e w5 ⟨rfl, hk5⟩
  have HK5 := hid (keep0_trans HK4.out hk5)
  have HV5 := hid (HV4.out.keep hk5)
  clear hk5
  unfold manV
  have hget := HG2.out _ _ (HB.out.keep (Keep.alloc HK5.out (.cells #[.int .i64 M1, .int .i64 M2] 23)))
  go_wp2_with fail
  refine hget.mono ?_
  clear hget
  rintro e w6 ⟨rfl, hk6⟩
  have hb5 := (hk6.block _ (by simp) (fun h => h)).trans (blk_new w5 _)
  have hc5 := fun o => cell_of (blk_alloc hb5 o)
  have HK6 := hid (keep0_trans (Keep.alloc HK5.out _) hk6)
  have HV6 := hid ((HV5.out.keep (Keep.alloc (Keep.refl (fun _ => False) _) _)).keep hk6)
  clear hk6 hb5
  unfold manV
  have hleft := fun o => Left_any (HV6.out.keep (Keep.alloc (Keep.refl (fun _ => False) _) o)) (HB.out.keep (Keep.alloc HK6.out o))
  go_wp2_with fail
  refine (hleft _).mono ?_
  clear hleft
  rintro e w7 ⟨rfl, nq, rfl⟩
  have hkf := fun o => keep_drewN (Keep.alloc HK6.out o) nq
  have HKF := hid hkf
  clear hkf
  go_wp2_with fail
  refine (lives26_any _).mono ?_
  rintro e w8 ⟨rfl, hk8⟩
  have HK8 := hid (keep0_trans (HKF.out _) hk8)
  clear hk8
  go_wp2_with fail
  go_ret
  exact ⟨rfl, HK8.out⟩
end
end Go.Stk

/- A law of layer 26 in memory: its disk, a manifest's variable, and the manifests that came in. -/
namespace Go.Stk
open Go Go.RowKit Go.Proofs

/-- Manifests that came in. -/
def Mans (w : World) (v : Value) (ms : List (Int × Int)) : Prop := ∃ a cap, v = .slice a ms.length cap ∧ ms.length ≤ cap ∧ cap ≤ maxLen ∧
  ∀ j m, ms[j]? = some m → ∃ b o, a = some ⟨b, o, none⟩ ∧ b < w.heap.size ∧ w.cell? ⟨b, o + j * 2, none⟩ = some (.int .i64 m.1) ∧ w.cell? ⟨b, o + j * 2 + 1, none⟩ = some (.int .i64 m.2)

theorem keep_cell {w w' : World} (h : Keep (fun _ => False) w w') {b : Nat} (hb : b < w.heap.size) (o : Nat) : w'.cell? ⟨b, o, none⟩ = w.cell? ⟨b, o, none⟩ := by
  have := h.block b hb (fun h => h)
  simp [World.cell?, this]

theorem notImm_man : ¬ Imm 23 := fun h => h.elim (fun h => absurd h (by rw [show hasByte 23 = false by kernel_rfl]; simp)) (fun h => by simp at h)

structure Hold (w : World) (g pw : Nat) (was : Int × Int) (fs : Fs) (G : FG) (wr : World) : Prop where
  is : IsFS wr g fs G
  keep : Keep (fun _ => False) w wr
  own : ∀ k ∈ G.blocks g, w.heap.size ≤ k
  box : wr.heap[pw]? = some (.cells #[.int .i64 was.1, .int .i64 was.2] 23 (0, 0))
  nb : pw ∉ G.blocks g
  lo : w.heap.size ≤ pw

section
variable {w wr w' : World} {g pw : Nat} {was : Int × Int} {fs fs' : Fs} {G G' : FG}

theorem Hold.adv (h : Hold w g pw was fs G wr) (hi : IsFS w' g fs' G') (ha : Adv g G G' wr w') : Hold w g pw was fs' G' w' := by
  obtain ⟨q1, q2⟩ := ha.fresh h.keep h.own
  obtain ⟨q3, q4⟩ := ha.block (lt_of h.box) h.nb
  exact ⟨hi, q1, q2, q3.trans h.box, q4, h.lo⟩

theorem Hold.more (h : Hold w g pw was fs G wr) (hk : Keep (fun _ => False) wr w') : Hold w g pw was fs G w' :=
  ⟨h.is.keep hk (fun _ _ h => h), keep0_trans h.keep hk, h.own, (hk.block _ (lt_of h.box) (fun h => h)).trans h.box, h.nb, h.lo⟩

theorem Hold.set (h : Hold w g pw was fs G wr) (a s : Int) : Hold w g pw (a, s) fs G ((wr.setCell ⟨pw, 0, none⟩ (.int .i64 a)).setCell ⟨pw, 1, none⟩ (.int .i64 s)) := by
  have hb := h.box
  have k1 : Keep (fun i => i = pw) wr (wr.setCell ⟨pw, 0, none⟩ (.int .i64 a)) := keep_set hb notImm_man 0 _
  have hb1 := blk_set hb 0 (.int .i64 a)
  have k2 : Keep (fun i => i = pw) wr ((wr.setCell ⟨pw, 0, none⟩ (.int .i64 a)).setCell ⟨pw, 1, none⟩ (.int .i64 s)) := Keep.setCell k1 hb1 (.inr ⟨rfl, notImm_man⟩) 1 _
  refine ⟨h.is.keep k2 (fun i hi e => h.nb (e ▸ hi)), h.keep.trans k2 (fun i hi => .inr (by subst hi; exact h.lo)), h.own, ?_, h.nb, h.lo⟩
  rw [blk_set hb1]
  rfl

theorem Hold.cell (h : Hold w g pw was fs G wr) : ∀ k, wr.cell? ⟨pw, k, none⟩ = (#[.int .i64 was.1, .int .i64 was.2] : Array Value)[k]? := cell_of h.box
theorem Hold.free (h : Hold w g pw was fs G wr) (k : Nat) : wr.frozen? ⟨pw, k, none⟩ = false := fz_of h.box k

/-- A law's loop. -/
structure WSt (w : World) (room g pw j : Nat) (o : Option (Int × Int)) (was : Int × Int) (fs : Fs) (G : FG) (wr : World) : Prop where
  hold : Hold w g pw was fs G wr
  st : MSt fs room o none
  was : ∀ m, o = some m → was = m
  sm : fs.Small (20 * j)

theorem used_call {room : Nat} {o : Option (Int × Int)} {x : Option (List UInt8)} (h : IsFS wr g fs G) (hs : MSt fs room o x) : Calls Tryz.prog 21 #[.pointer (some ⟨g, 0, none⟩)] wr fun e w' => e = .returned (.int .i64 ((manSize o + (x.map List.length).getD 0 : Nat) : Int)) ∧ wr = w' := by
  have := Used_any h hs.calm.dead
  rw [hs.used] at this
  exact this

theorem hold_post (h : Hold w g pw was fs G wr) {v : Value} {e : Ending} (hp : FsPost wr g G fs' v e w') : e = .returned v ∧ ∃ G', Hold w g pw was fs' G' w' ∧ Keep (fun _ => False) w w' := by
  obtain ⟨rfl, G', hi, ha⟩ := hp
  exact ⟨rfl, G', h.adv hi ha, (h.adv hi ha).keep⟩
end

theorem Txt.len {w : World} {v : Value} {l : List ByteArray} (h : Txt w v l) : ∃ a c, v = .slice a l.length c := by
  obtain ⟨a, c, h1, _⟩ := Sl.form h
  exact ⟨a, c, h1⟩
theorem Txt.keep {F : Nat → Prop} {w w' : World} {v : Value} {l : List ByteArray} (h : Txt w v l) (k : Keep F w w') : Txt w' v l := Sl.keep h k
theorem txt_post {w w' : World} {g : Nat} {G : FG} {fs' : Fs} {v x : Value} {e : Ending} {l : List ByteArray} (hp : FsPost w g G fs' v e w') (h : Txt w x l) : Txt w' x l := by
  obtain ⟨_, G', _, ha⟩ := hp
  exact h.keep ha.1

theorem sort_one (a : ByteArray) : sortB [a] = [a] := by
  simp [sortB]
theorem sort_none : sortB [] = [] := by simp [sortB]
theorem sort_man : sortB [nMan, nNew] = [nMan, nNew] := by
  unfold sortB
  rw [List.mergeSort_of_pairwise]
  · rfl
  · simp only [List.map_cons, List.map_nil, List.pairwise_cons, List.mem_cons, List.not_mem_nil, or_false, forall_eq]
    refine ⟨by decide +kernel, by simp, by simp⟩

theorem names_mst {fs : Fs} {room : Nat} {o : Option (Int × Int)} {x : Option (List UInt8)} (h : MSt fs room o x) : fs.names = (o.map fun _ => nMan).toList ++ (x.map fun _ => nNew).toList := by
  rw [names_view h.calm, h.view]
  cases o <;> cases x
  · exact sort_none
  · exact sort_one _
  · exact sort_one _
  · exact sort_man

end Go.Stk

/- The law ManifestWrites: its walk. -/
namespace Go.Stk
open Go Go.RowKit Go.Proofs

section
variable {w : World}

set_option maxRecDepth 100000 in
set_option maxHeartbeats 1600000 in
theorem manifestWrites_bad (room : Int) (vl vo : Value) (h : room < 0 ∨ 1048576 < room) (w : World) : Calls Tryz.prog 4 #[.int .i64 room, vl, vo] w (RetBool w true) := by
  have hnew := New_bad (w := w) room h
  have hwr := manWrite_nil 1 0 w
  unfold manV at hwr
  clear h
  go_enter Tryz.func4, Tryz.ntmps4
  go_wp2_with fail
  refine hnew.mono ?_
  rintro e w1 ⟨rfl, rfl⟩
  go_wp2_with fail
  refine hwr.mono ?_
  rintro e w2 ⟨rfl, hk⟩
  have HK := hid hk
  clear hk hwr hnew
  go_wp2_with fail
  refine (lives26_any _).mono ?_
  rintro e w3 ⟨rfl, hk⟩
  have HK3 := hid (keep0_trans HK.out hk)
  clear hk
  go_wp2_with fail
  go_ret
  exact ⟨rfl, HK3.out⟩

set_option maxRecDepth 100000 in
set_option maxHeartbeats 12800000 in
theorem manifestWrites_any (room : Nat) {vl vo : Value} {ms : List (Int × Int)} {ob : List UInt8} (hl : Mans w vl ms) (ho : Byt w vo ob) (hr : room ≤ 1048576) (hol : ob.length ≤ 1048576) : Calls Tryz.prog 4 #[.int .i64 (room : Int), vl, vo] w (RetBool w true) := by
  have hnew := New_ok (w := w) room hr
  obtain ⟨va, vc, rfl, hcap, hcm, hcells⟩ := hl
  obtain ⟨oa, oc, rfl⟩ := ho.len
  have HC := hid hcells
  have HO := hid ho
  generalize hLen : ms.length = N at *
  generalize hOL : ob.length = OL at *
  have HLEN := hid hLen
  have HOL := hid hOL
  unfold maxLen at hcm
  clear hcells ho hLen hOL
  go_enter Tryz.func4, Tryz.ntmps4
  go_wp2_with fail
  refine hnew.mono ?_
  clear hnew
  rintro e w1 ⟨g, G, rfl, h1, hk1, hG1⟩
  have H0 := hid (show Hold w g w1.heap.size (0, 0) (Fs.new room) G (w1.alloc (.cells #[.int .i64 0, .int .i64 0] 23)) from
    ⟨h1.keep (Keep.alloc (Keep.refl (fun _ => False) w1) _) (fun _ _ h => h), Keep.alloc hk1 _, hG1, blk_new w1 _, fun hm => by have := h1.lt _ hm; omega, hk1.size⟩)
  have S0 := hid (show WSt w room g w1.heap.size 0 none (0, 0) (Fs.new room) G _ from ⟨H0.out, ⟨(calm_new hr).1, (calm_new hr).2, (fun m e => by cases e)⟩, (fun m e => by cases e), (small_new room).mono (by omega)⟩)
  clear h1 hk1 hG1 H0
  go_wp2_with fail
  generalize w1.heap.size = pw at *
  go_loopg [10, 11] N (fun k th i wr => ∃ (j : Nat) (o : Option (Int × Int)) (was : Int × Int) (fs : Fs) (G : FG), j ≤ N ∧ j ≤ 10 ∧ k = N - j ∧ i = .int .i64 (j : Int) ∧ th = .int .i64 (manSize o : Int) ∧ Hid (WSt w room g pw j o was fs G wr))
  case atStart => exact ⟨0, none, (0, 0), Fs.new room, G, by omega, by omega, rfl, rfl, rfl, S0.out⟩
  case round =>
    clear S0
    obtain ⟨j, o, was, fs, G, hj, hj10, rfl, rfl, rfl, S⟩ := hrel
    by_cases hgo : j < N ∧ j < 10
    · obtain ⟨hjN, hj9⟩ := hgo
      obtain ⟨⟨a, s⟩, hm⟩ : ∃ m, ms[j]? = some m := ⟨ms[j]'(by rw [HLEN.out]; omega), by rw [List.getElem?_eq_getElem]⟩
      obtain ⟨vb, vo, hva, hvb, hc0, hc1⟩ := HC.out j _ hm
      have HM := hid hm
      subst hva
      have CL : Hid (∀ W, Keep (fun _ => False) w W → W.cell? ⟨vb, vo + j * 2, none⟩ = some (.int .i64 a) ∧ W.cell? ⟨vb, vo + j * 2 + 1, none⟩ = some (.int .i64 s)) := fun W hk => ⟨(keep_cell hk hvb _).trans hc0, (keep_cell hk hvb _).trans hc1⟩
      have HD := hid S.out.hold
      have UC := hid (used_call S.out.hold.is S.out.st)
      have SB : Hid (fs.row.length < 1099511627776 ∧ fs.files.length < 1099511627776 ∧ ∀ f ∈ fs.files, f.row.length < 1099511627776) := ⟨by have := S.out.sm.1; omega, by have := S.out.sm.2.1; omega, fun f hf => by have := S.out.sm.2.2 f hf; omega⟩
      have hmsl : manSize o ≤ 65550 := by
        unfold manSize
        split
        · omega
        · exact manPut_len _ _
      simp only [Option.map_none, Option.getD_none, Nat.add_zero] at UC
      generalize hMS : manSize o = MS at *
      have HMS := hid hMS
      clear hm hc0 hc1 hMS
      have RP : Hid (∀ W, Calls Tryz.prog 12 #[.agg #[.int .i64 a, .int .i64 s]] W (RetBE W (manPut a s))) := fun W => refManPut_any a s W
      by_cases hp3 : (j : Int) % 3 = 1
      · by_cases hof : (OL : Int) ≤ (room : Int) - (MS : Int)
        · have h3 : ((j : Int) % 3 == 1) = true := by rw [beq_iff_eq]; omega
          have hfit : decide ((OL : Int) ≤ (room : Int) - (MS : Int)) = true := by simp; omega
          obtain ⟨c1, c2⟩ := S.out.st.create
          have CR : Hid (Calls Tryz.prog 22 #[.pointer (some ⟨g, 0, none⟩), .string nNew] wr (FsPost wr g G (fs.createR nNew).2 (.int .i64 0))) := by
            have := Create_any HD.out.is nNew (show (12 : Nat) ≤ maxLen by unfold maxLen; omega) SB.out.1 SB.out.2.1
            rw [c1] at this
            exact this
          have sm1 := small_create S.out.sm nNew
          generalize (fs.createR nNew).2 = fsc at *
          obtain ⟨d1, d2⟩ := MSt.append (b := ob) c2 (by rw [HOL.out, HMS.out]; omega)
          have AP : Hid (∀ W G', IsFS W g fsc G' → Byt W (.slice oa OL oc) ob → Calls Tryz.prog 23 #[.pointer (some ⟨g, 0, none⟩), .string nNew, .slice oa OL oc] W (FsPost W g G' (fsc.appendR nNew ob).2 (.int .i64 0))) := fun W G' h hb => by
            have := Append_any h nNew hb (by have := HOL.out; omega) (fun f hf => by have := sm1.2.2 f hf; omega)
            rw [d1] at this
            exact this
          have sm2 := small_append sm1 nNew ob
          generalize (fsc.appendR nNew ob).2 = fsA at *
          have STA := hid d2
          have SMA := hid (show fsA.Small (20 * j + 2) from sm2)
          clear c1 c2 sm1 sm2 d1 d2
          have NC : Hid (∀ W G', IsFS W g fsA G' → Calls Tryz.prog 24 #[.pointer (some ⟨g, 0, none⟩)] W (RetTxt W fsA.names)) := fun W G' h => Names_any sort_str len_zero h
          rw [names_mst STA.out] at NC
          by_cases hmay : manMay a s = true
          · obtain ⟨PE0, PL0⟩ := manPut_ok hmay
            by_cases hroom : ((manPut a s).1.length : Int) ≤ (room : Int) - (MS : Int)
            · obtain ⟨WE, WM⟩ := STA.out.write (m := (a, s)) hmay (by rw [HMS.out]; exact hroom)
              simp only at WE WM
              have hsz : manSize (some (a, s)) = (manPut a s).1.length := rfl
              have WRA : Hid (∀ W G', IsFS W g fsA G' → Calls Tryz.prog 20 #[.pointer (some ⟨g, 0, none⟩), .agg #[.int .i64 a, .int .i64 s]] W (FsPost W g G' (manWrite fsA a s).2 (.int .i64 0))) := fun W G' h => by
                have := manWrite_any a s _ h SMA.out (by omega)
                rw [WE] at this
                exact this
              have hsm := small_write SMA.out a s
              generalize (manWrite fsA a s).2 = fs4 at *
              have ST6 := hid WM
              have SM6 := hid (show fs4.Small (20 * (j + 1)) from hsm.mono (by omega))
              have RD : Hid (∀ W G', IsFS W g fs4 G' → Calls Tryz.prog 27 #[.pointer (some ⟨g, 0, none⟩)] W (RetMan W (a, s, 0))) := fun W G' h => by
                have := manRead_any h
                rw [WM.read] at this
                exact this
              have UF : Hid (∀ W G', IsFS W g fs4 G' → Calls Tryz.prog 21 #[.pointer (some ⟨g, 0, none⟩)] W fun e w' => e = .returned (.int .i64 ((manPut a s).1.length : Int)) ∧ W = w') := fun W G' h => used_call h WM
              have WAS : Hid (∀ m, some (a, s) = some m → (a, s) = m) := fun m e => by injection e
              generalize manPut a s = R at *
              obtain ⟨BD, PE⟩ := R
              simp only at PE0 PL0 hroom UF hsz
              subst PE0
              generalize hBL : BD.length = BL at *
              have HBL := hid hBL
              have hgr : decide ((BL : Int) > (room : Int) - (MS : Int)) = false := by simp; omega
              have hz : ((BL : Int) == 0) = false := by simp; omega
              have TH := hid (show (Value.int .i64 (BL : Int)) = .int .i64 (manSize (some (a, s)) : Int) by rw [hsz])
              clear hBL WE WM hmay hsm hsz hroom
              go_wp2_with fail
              refine (UC.out).mono ?_
              rintro e w' ⟨rfl, rfl⟩
              go_wp2_with fail
              refine (CR.out).mono ?_
              rintro e wa hp
              obtain ⟨rfl, Ga, Ha, hka⟩ := hold_post HD.out hp
              have HDa := hid Ha
              have HKa := hid hka
              clear Ha hka hp
              have hap := AP.out wa Ga HDa.out.is (HO.out.keep HKa.out)
              go_wp2_with fail
              refine hap.mono ?_
              clear hap
              rintro e wb hp
              obtain ⟨rfl, Gb, Hb, hkb⟩ := hold_post HDa.out hp
              have HD1 := hid Hb
              have HK1 := hid hkb
              clear Hb hkb hp HDa HKa
              obtain ⟨hcl0, hcl1⟩ := CL.out wb HK1.out
              go_wp2_with fail
              refine (RP.out wb).mono ?_
              rintro e w2 ⟨v2, rfl, hv2, hk2⟩
              obtain ⟨va2, vc2, hv2e⟩ := hv2.len
              rw [HBL.out] at hv2e
              subst hv2e
              have HD2 := hid (HD1.out.more hk2)
              have HK2 := hid HD2.out.keep
              clear hv2 hk2 hcl0 hcl1
              have hnm := NC.out w2 _ HD2.out.is
              go_wp2_with fail
              refine hnm.mono ?_
              clear hnm
              rintro e w3 ⟨v3, rfl, hv3, hk3⟩
              have HT := hid hv3
              obtain ⟨ta, tc, hv3e⟩ := Txt.len hv3
              subst hv3e
              have HD3 := hid (HD2.out.more hk3)
              have HK3 := hid HD3.out.keep
              clear hv3 hk3
              obtain ⟨hcl0, hcl1⟩ := CL.out w3 HK3.out
              have hwr := WRA.out w3 _ HD3.out.is
              go_wp2_with fail
              refine hwr.mono ?_
              clear hwr
              rintro e w4 hp
              have HT4 := hid (txt_post hp HT.out)
              obtain ⟨rfl, G4, H4, hk4⟩ := hold_post HD3.out hp
              have HD4 := hid H4
              have HK4 := hid hk4
              clear H4 hk4 hcl0 hcl1 hp
              obtain ⟨hcl0, hcl1⟩ := CL.out w4 HK4.out
              have hbx := HD4.out.cell
              have hfz := HD4.out.free
              have HD5 := hid (HD4.out.set a s)
              have hrd := RD.out _ _ HD5.out.is
              go_wp2_with fail
              refine hrd.mono ?_
              clear hrd hcl0 hcl1 hbx hfz
              rintro e w6 ⟨rfl, hk6⟩
              have HD6 := hid (HD5.out.more hk6)
              clear hk6
              unfold manV
              have hb6 := fun o => cell_of (blk_alloc HD6.out.box o)
              have hus := fun o => UF.out _ _ (HD6.out.more (Keep.alloc (Keep.refl (fun _ => False) w6) o)).is
              go_wp2_with fail
              refine (hus _).mono ?_
              clear hus
              rintro e w' ⟨rfl, rfl⟩
              have HF := hid (fun o => HD6.out.more (Keep.alloc (Keep.refl (fun _ => False) w6) o))
              clear hb6
              go_wp2_with fail
              go_roundg (N - (j + 1))
              case measure => omega
              case rel => exact ⟨j + 1, _, _, _, _, by omega, by omega, rfl, by go_num, TH.out, ⟨HF.out _, ST6.out, WAS.out, SM6.out⟩⟩
            · cases o with
              | none =>
                obtain ⟨WE, WM⟩ := STA.out.write_full (m := (a, s)) hmay (by rw [HMS.out]; show (room : Int) - (MS : Int) < ((manPut a s).1.length : Int); omega)
                simp only at WE WM
                have WRA : Hid (∀ W G', IsFS W g fsA G' → Calls Tryz.prog 20 #[.pointer (some ⟨g, 0, none⟩), .agg #[.int .i64 a, .int .i64 s]] W (FsPost W g G' (manWrite fsA a s).2 (.int .i64 9))) := fun W G' h => by
                  have := manWrite_any a s _ h SMA.out (by omega)
                  rw [WE] at this
                  exact this
                have hsm := small_write SMA.out a s
                generalize (manWrite fsA a s).2 = fs6 at *
                generalize manPut a s = R at *
                obtain ⟨BD, PE⟩ := R
                simp only at PE0 PL0 hroom
                subst PE0
                generalize hBL : BD.length = BL at *
                have HBL := hid hBL
                have hgr : decide ((BL : Int) > (room : Int) - (MS : Int)) = true := by simp; omega
                have hgr0 : (room : Int) - (MS : Int) < (BL : Int) := by omega
                clear hBL WE hmay hroom
                have ST6 := hid WM
                have SM6 := hid (show fs6.Small (20 * (j + 1)) from hsm.mono (by omega))
                have WAS := hid S.out.was
                obtain rfl : MS = 0 := HMS.out.symm
                replace hgr0 : decide (room < BL) = true := by simp; omega
                have RD : Hid (∀ W G', IsFS W g fs6 G' → Calls Tryz.prog 27 #[.pointer (some ⟨g, 0, none⟩)] W (RetMan W (0, 0, 7))) := fun W G' h => by
                  have := manRead_any h
                  rw [WM.read] at this
                  exact this
                have UF : Hid (∀ W G', IsFS W g fs6 G' → Calls Tryz.prog 21 #[.pointer (some ⟨g, 0, none⟩)] W fun e w' => e = .returned (.int .i64 0) ∧ W = w') := fun W G' h => used_call h WM
                have TH := hid (show (Value.int .i64 (0 : Int)) = .int .i64 (manSize none : Int) from rfl)
                clear WM hsm
                go_wp2_with fail
                refine (UC.out).mono ?_
                rintro e w' ⟨rfl, rfl⟩
                go_wp2_with fail
                refine (CR.out).mono ?_
                rintro e wa hp
                obtain ⟨rfl, Ga, Ha, hka⟩ := hold_post HD.out hp
                have HDa := hid Ha
                have HKa := hid hka
                clear Ha hka hp
                have hap := AP.out wa Ga HDa.out.is (HO.out.keep HKa.out)
                go_wp2_with fail
                refine hap.mono ?_
                clear hap
                rintro e wb hp
                obtain ⟨rfl, Gb, Hb, hkb⟩ := hold_post HDa.out hp
                have HD1 := hid Hb
                have HK1 := hid hkb
                clear Hb hkb hp HDa HKa
                obtain ⟨hcl0, hcl1⟩ := CL.out wb HK1.out
                go_wp2_with fail
                refine (RP.out wb).mono ?_
                rintro e w2 ⟨v2, rfl, hv2, hk2⟩
                obtain ⟨va2, vc2, hv2e⟩ := hv2.len
                rw [HBL.out] at hv2e
                subst hv2e
                have HD2 := hid (HD1.out.more hk2)
                have HK2 := hid HD2.out.keep
                clear hv2 hk2 hcl0 hcl1
                have hnm := NC.out w2 _ HD2.out.is
                go_wp2_with fail
                refine hnm.mono ?_
                clear hnm
                rintro e w3 ⟨v3, rfl, hv3, hk3⟩
                have HT := hid hv3
                obtain ⟨ta, tc, hv3e⟩ := Txt.len hv3
                subst hv3e
                have HD3 := hid (HD2.out.more hk3)
                have HK3 := hid HD3.out.keep
                clear hv3 hk3
                obtain ⟨hcl0, hcl1⟩ := CL.out w3 HK3.out
                have hwr := WRA.out w3 _ HD3.out.is
                go_wp2_with fail
                refine hwr.mono ?_
                clear hwr
                rintro e w4 hp
                have HT4 := hid (txt_post hp HT.out)
                obtain ⟨rfl, G4, H4, hk4⟩ := hold_post HD3.out hp
                have HD4 := hid H4
                have HK4 := hid hk4
                clear H4 hk4 hcl0 hcl1 hp
                have hrd := RD.out _ _ HD4.out.is
                go_wp2_with fail
                refine hrd.mono ?_
                clear hrd
                rintro e w6 ⟨rfl, hk6⟩
                have HD6 := hid (HD4.out.more hk6)
                clear hk6
                unfold manV
                have hb6 := fun o => cell_of (blk_alloc HD6.out.box o)
                have hus := fun o => UF.out _ _ (HD6.out.more (Keep.alloc (Keep.refl (fun _ => False) w6) o)).is
                go_wp2_with fail
                refine (hus _).mono ?_
                clear hus
                rintro e w' ⟨rfl, rfl⟩
                have HF := hid (fun o => HD6.out.more (Keep.alloc (Keep.refl (fun _ => False) w6) o))
                clear hb6
                go_wp2_with fail
                go_roundg (N - (j + 1))
                case measure => omega
                case rel => exact ⟨j + 1, _, _, _, _, by omega, by omega, rfl, by go_num, TH.out, ⟨HF.out _, ST6.out, WAS.out, SM6.out⟩⟩
              | some m =>
                obtain ⟨WE, WM⟩ := STA.out.write_full (m := (a, s)) hmay (by rw [HMS.out]; show (room : Int) - (MS : Int) < ((manPut a s).1.length : Int); omega)
                simp only at WE WM
                have WRA : Hid (∀ W G', IsFS W g fsA G' → Calls Tryz.prog 20 #[.pointer (some ⟨g, 0, none⟩), .agg #[.int .i64 a, .int .i64 s]] W (FsPost W g G' (manWrite fsA a s).2 (.int .i64 9))) := fun W G' h => by
                  have := manWrite_any a s _ h SMA.out (by omega)
                  rw [WE] at this
                  exact this
                have hsm := small_write SMA.out a s
                generalize (manWrite fsA a s).2 = fs6 at *
                generalize manPut a s = R at *
                obtain ⟨BD, PE⟩ := R
                simp only at PE0 PL0 hroom
                subst PE0
                generalize hBL : BD.length = BL at *
                have HBL := hid hBL
                have hgr : decide ((BL : Int) > (room : Int) - (MS : Int)) = true := by simp; omega
                have hgr0 : (room : Int) - (MS : Int) < (BL : Int) := by omega
                clear hBL WE hmay hroom
                have ST6 := hid WM
                have SM6 := hid (show fs6.Small (20 * (j + 1)) from hsm.mono (by omega))
                have WAS := hid S.out.was
                obtain ⟨m1, m2⟩ := m
                have hwas := S.out.was _ rfl
                subst hwas
                have RD : Hid (∀ W G', IsFS W g fs6 G' → Calls Tryz.prog 27 #[.pointer (some ⟨g, 0, none⟩)] W (RetMan W (m1, m2, 0))) := fun W G' h => by
                  have := manRead_any h
                  rw [WM.read] at this
                  exact this
                have UF : Hid (∀ W G', IsFS W g fs6 G' → Calls Tryz.prog 21 #[.pointer (some ⟨g, 0, none⟩)] W fun e w' => e = .returned (.int .i64 (MS : Int)) ∧ W = w') := fun W G' h => by
                  have := used_call h WM
                  rw [HMS.out] at this
                  exact this
                have hMS0 : 0 < MS := by
                  rw [← HMS.out]
                  exact (manPut_ok (WM.may _ rfl)).2
                have hz : ((MS : Int) == 0) = false := by simp; omega
                have TH := hid (show (Value.int .i64 (MS : Int)) = .int .i64 (manSize (some (m1, m2)) : Int) by rw [HMS.out])
                clear WM hsm
                go_wp2_with fail
                refine (UC.out).mono ?_
                rintro e w' ⟨rfl, rfl⟩
                go_wp2_with fail
                refine (CR.out).mono ?_
                rintro e wa hp
                obtain ⟨rfl, Ga, Ha, hka⟩ := hold_post HD.out hp
                have HDa := hid Ha
                have HKa := hid hka
                clear Ha hka hp
                have hap := AP.out wa Ga HDa.out.is (HO.out.keep HKa.out)
                go_wp2_with fail
                refine hap.mono ?_
                clear hap
                rintro e wb hp
                obtain ⟨rfl, Gb, Hb, hkb⟩ := hold_post HDa.out hp
                have HD1 := hid Hb
                have HK1 := hid hkb
                clear Hb hkb hp HDa HKa
                obtain ⟨hcl0, hcl1⟩ := CL.out wb HK1.out
                go_wp2_with fail
                refine (RP.out wb).mono ?_
                rintro e w2 ⟨v2, rfl, hv2, hk2⟩
                obtain ⟨va2, vc2, hv2e⟩ := hv2.len
                rw [HBL.out] at hv2e
                subst hv2e
                have HD2 := hid (HD1.out.more hk2)
                have HK2 := hid HD2.out.keep
                clear hv2 hk2 hcl0 hcl1
                have hnm := NC.out w2 _ HD2.out.is
                go_wp2_with fail
                refine hnm.mono ?_
                clear hnm
                rintro e w3 ⟨v3, rfl, hv3, hk3⟩
                have HT := hid hv3
                obtain ⟨ta, tc, hv3e⟩ := Txt.len hv3
                subst hv3e
                have HD3 := hid (HD2.out.more hk3)
                have HK3 := hid HD3.out.keep
                clear hv3 hk3
                obtain ⟨hcl0, hcl1⟩ := CL.out w3 HK3.out
                have hwr := WRA.out w3 _ HD3.out.is
                go_wp2_with fail
                refine hwr.mono ?_
                clear hwr
                rintro e w4 hp
                have HT4 := hid (txt_post hp HT.out)
                obtain ⟨rfl, G4, H4, hk4⟩ := hold_post HD3.out hp
                have HD4 := hid H4
                have HK4 := hid hk4
                clear H4 hk4 hcl0 hcl1 hp
                have hrd := RD.out _ _ HD4.out.is
                go_wp2_with fail
                refine hrd.mono ?_
                clear hrd
                rintro e w6 ⟨rfl, hk6⟩
                have HD6 := hid (HD4.out.more hk6)
                clear hk6
                unfold manV
                have hb6 := fun o => cell_of (blk_alloc HD6.out.box o)
                have hus := fun o => UF.out _ _ (HD6.out.more (Keep.alloc (Keep.refl (fun _ => False) w6) o)).is
                go_wp2_with fail
                refine (hus _).mono ?_
                clear hus
                rintro e w' ⟨rfl, rfl⟩
                have HF := hid (fun o => HD6.out.more (Keep.alloc (Keep.refl (fun _ => False) w6) o))
                clear hb6
                go_wp2_with fail
                go_roundg (N - (j + 1))
                case measure => omega
                case rel => exact ⟨j + 1, _, _, _, _, by omega, by omega, rfl, by go_num, TH.out, ⟨HF.out _, ST6.out, WAS.out, SM6.out⟩⟩
          · replace hmay : manMay a s = false := by simpa using hmay
            cases o with
            | none =>
              have WE := MSt.write_no (fs := fsA) (m := (a, s)) hmay
              simp only at WE
              have WRA : Hid (∀ W G', IsFS W g fsA G' → Calls Tryz.prog 20 #[.pointer (some ⟨g, 0, none⟩), .agg #[.int .i64 a, .int .i64 s]] W (FsPost W g G' fsA (.int .i64 2))) := fun W G' h => by
                have := manWrite_any a s _ h SMA.out (by omega)
                rw [WE] at this
                exact this
              rw [manPut_no hmay] at RP
              have HBL := hid (show ([] : List UInt8).length = 0 from rfl)
              clear WE hmay
              obtain ⟨r1, WM⟩ := STA.out.remove
              have RM : Hid (∀ W G', IsFS W g fsA G' → Calls Tryz.prog 26 #[.pointer (some ⟨g, 0, none⟩), .string nNew] W (FsPost W g G' (fsA.removeR nNew).2 (.int .i64 0))) := fun W G' h => by
                have := Remove_any h nNew (by have := SMA.out.1; omega)
                rw [r1] at this
                exact this
              have hsm := small_rm SMA.out nNew
              generalize (fsA.removeR nNew).2 = fs6 at *
              clear r1
              have ST6 := hid WM
              have SM6 := hid (show fs6.Small (20 * (j + 1)) from hsm.mono (by omega))
              have WAS := hid S.out.was
              obtain rfl : MS = 0 := HMS.out.symm
              have RD : Hid (∀ W G', IsFS W g fs6 G' → Calls Tryz.prog 27 #[.pointer (some ⟨g, 0, none⟩)] W (RetMan W (0, 0, 7))) := fun W G' h => by
                have := manRead_any h
                rw [WM.read] at this
                exact this
              have UF : Hid (∀ W G', IsFS W g fs6 G' → Calls Tryz.prog 21 #[.pointer (some ⟨g, 0, none⟩)] W fun e w' => e = .returned (.int .i64 0) ∧ W = w') := fun W G' h => used_call h WM
              have TH := hid (show (Value.int .i64 (0 : Int)) = .int .i64 (manSize none : Int) from rfl)
              clear WM hsm
              go_wp2_with fail
              refine (UC.out).mono ?_
              rintro e w' ⟨rfl, rfl⟩
              go_wp2_with fail
              refine (CR.out).mono ?_
              rintro e wa hp
              obtain ⟨rfl, Ga, Ha, hka⟩ := hold_post HD.out hp
              have HDa := hid Ha
              have HKa := hid hka
              clear Ha hka hp
              have hap := AP.out wa Ga HDa.out.is (HO.out.keep HKa.out)
              go_wp2_with fail
              refine hap.mono ?_
              clear hap
              rintro e wb hp
              obtain ⟨rfl, Gb, Hb, hkb⟩ := hold_post HDa.out hp
              have HD1 := hid Hb
              have HK1 := hid hkb
              clear Hb hkb hp HDa HKa
              obtain ⟨hcl0, hcl1⟩ := CL.out wb HK1.out
              go_wp2_with fail
              refine (RP.out wb).mono ?_
              rintro e w2 ⟨v2, rfl, hv2, hk2⟩
              obtain ⟨va2, vc2, hv2e⟩ := hv2.len
              rw [HBL.out] at hv2e
              subst hv2e
              have HD2 := hid (HD1.out.more hk2)
              have HK2 := hid HD2.out.keep
              clear hv2 hk2 hcl0 hcl1
              have hnm := NC.out w2 _ HD2.out.is
              go_wp2_with fail
              refine hnm.mono ?_
              clear hnm
              rintro e w3 ⟨v3, rfl, hv3, hk3⟩
              have HT := hid hv3
              obtain ⟨ta, tc, hv3e⟩ := Txt.len hv3
              subst hv3e
              have HD3 := hid (HD2.out.more hk3)
              have HK3 := hid HD3.out.keep
              clear hv3 hk3
              obtain ⟨hcl0, hcl1⟩ := CL.out w3 HK3.out
              have hwr := WRA.out w3 _ HD3.out.is
              go_wp2_with fail
              refine hwr.mono ?_
              clear hwr
              rintro e w4 hp
              have HT4 := hid (txt_post hp HT.out)
              obtain ⟨rfl, G4, H4, hk4⟩ := hold_post HD3.out hp
              have HD4 := hid H4
              have HK4 := hid hk4
              clear H4 hk4 hcl0 hcl1 hp
              have hnm := NC.out w4 _ HD4.out.is
              go_wp2_with fail
              refine hnm.mono ?_
              clear hnm
              rintro e w5 ⟨v5, rfl, hv5, hk5⟩
              have HD5 := hid (HD4.out.more hk5)
              have HT5 := hid (HT4.out.keep hk5)
              have htx := Texts_any HT5.out hv5 (by simp)
              rw [decide_eq_true rfl] at htx
              obtain ⟨ta5, tc5, hv5e⟩ := Txt.len hv5
              subst hv5e
              clear hv5 hk5
              go_wp2_with fail
              refine htx.mono ?_
              clear htx
              rintro e w5' ⟨rfl, nq, rfl⟩
              have HD5' := hid (HD5.out.more (keep_drewN (Keep.refl (fun _ => False) w5) nq))
              obtain ⟨tb, to_, tk, hte, htc, _⟩ := HT5.out.at_ (i := 0) (c := nNew) rfl
              injection hte with hte _ _
              subst hte
              rw [Nat.add_zero] at htc
              have hrm := RM.out _ _ HD5'.out.is
              go_wp2_with fail
              refine hrm.mono ?_
              clear hrm
              rintro e w5a hp
              obtain ⟨rfl, G5, H5, hk5⟩ := hold_post HD5'.out hp
              have HD5a := hid H5
              clear H5 hk5 hp
              have hrd := RD.out _ _ HD5a.out.is
              go_wp2_with fail
              refine hrd.mono ?_
              clear hrd
              rintro e w6 ⟨rfl, hk6⟩
              have HD6 := hid (HD5a.out.more hk6)
              clear hk6
              unfold manV
              have hb6 := fun o => cell_of (blk_alloc HD6.out.box o)
              have hus := fun o => UF.out _ _ (HD6.out.more (Keep.alloc (Keep.refl (fun _ => False) w6) o)).is
              go_wp2_with fail
              refine (hus _).mono ?_
              clear hus
              rintro e w' ⟨rfl, rfl⟩
              have HF := hid (fun o => HD6.out.more (Keep.alloc (Keep.refl (fun _ => False) w6) o))
              clear hb6
              go_wp2_with fail
              go_roundg (N - (j + 1))
              case measure => omega
              case rel => exact ⟨j + 1, _, _, _, _, by omega, by omega, rfl, by go_num, TH.out, ⟨HF.out _, ST6.out, WAS.out, SM6.out⟩⟩
            | some m =>
              have WE := MSt.write_no (fs := fsA) (m := (a, s)) hmay
              simp only at WE
              have WRA : Hid (∀ W G', IsFS W g fsA G' → Calls Tryz.prog 20 #[.pointer (some ⟨g, 0, none⟩), .agg #[.int .i64 a, .int .i64 s]] W (FsPost W g G' fsA (.int .i64 2))) := fun W G' h => by
                have := manWrite_any a s _ h SMA.out (by omega)
                rw [WE] at this
                exact this
              rw [manPut_no hmay] at RP
              have HBL := hid (show ([] : List UInt8).length = 0 from rfl)
              clear WE hmay
              obtain ⟨r1, WM⟩ := STA.out.remove
              have RM : Hid (∀ W G', IsFS W g fsA G' → Calls Tryz.prog 26 #[.pointer (some ⟨g, 0, none⟩), .string nNew] W (FsPost W g G' (fsA.removeR nNew).2 (.int .i64 0))) := fun W G' h => by
                have := Remove_any h nNew (by have := SMA.out.1; omega)
                rw [r1] at this
                exact this
              have hsm := small_rm SMA.out nNew
              generalize (fsA.removeR nNew).2 = fs6 at *
              clear r1
              have ST6 := hid WM
              have SM6 := hid (show fs6.Small (20 * (j + 1)) from hsm.mono (by omega))
              have WAS := hid S.out.was
              obtain ⟨m1, m2⟩ := m
              have hwas := S.out.was _ rfl
              subst hwas
              have RD : Hid (∀ W G', IsFS W g fs6 G' → Calls Tryz.prog 27 #[.pointer (some ⟨g, 0, none⟩)] W (RetMan W (m1, m2, 0))) := fun W G' h => by
                have := manRead_any h
                rw [WM.read] at this
                exact this
              have UF : Hid (∀ W G', IsFS W g fs6 G' → Calls Tryz.prog 21 #[.pointer (some ⟨g, 0, none⟩)] W fun e w' => e = .returned (.int .i64 (MS : Int)) ∧ W = w') := fun W G' h => by
                have := used_call h WM
                rw [HMS.out] at this
                exact this
              have hMS0 : 0 < MS := by
                rw [← HMS.out]
                exact (manPut_ok (WM.may _ rfl)).2
              have hz : ((MS : Int) == 0) = false := by simp; omega
              have TH := hid (show (Value.int .i64 (MS : Int)) = .int .i64 (manSize (some (m1, m2)) : Int) by rw [HMS.out])
              clear WM hsm
              go_wp2_with fail
              refine (UC.out).mono ?_
              rintro e w' ⟨rfl, rfl⟩
              go_wp2_with fail
              refine (CR.out).mono ?_
              rintro e wa hp
              obtain ⟨rfl, Ga, Ha, hka⟩ := hold_post HD.out hp
              have HDa := hid Ha
              have HKa := hid hka
              clear Ha hka hp
              have hap := AP.out wa Ga HDa.out.is (HO.out.keep HKa.out)
              go_wp2_with fail
              refine hap.mono ?_
              clear hap
              rintro e wb hp
              obtain ⟨rfl, Gb, Hb, hkb⟩ := hold_post HDa.out hp
              have HD1 := hid Hb
              have HK1 := hid hkb
              clear Hb hkb hp HDa HKa
              obtain ⟨hcl0, hcl1⟩ := CL.out wb HK1.out
              go_wp2_with fail
              refine (RP.out wb).mono ?_
              rintro e w2 ⟨v2, rfl, hv2, hk2⟩
              obtain ⟨va2, vc2, hv2e⟩ := hv2.len
              rw [HBL.out] at hv2e
              subst hv2e
              have HD2 := hid (HD1.out.more hk2)
              have HK2 := hid HD2.out.keep
              clear hv2 hk2 hcl0 hcl1
              have hnm := NC.out w2 _ HD2.out.is
              go_wp2_with fail
              refine hnm.mono ?_
              clear hnm
              rintro e w3 ⟨v3, rfl, hv3, hk3⟩
              have HT := hid hv3
              obtain ⟨ta, tc, hv3e⟩ := Txt.len hv3
              subst hv3e
              have HD3 := hid (HD2.out.more hk3)
              have HK3 := hid HD3.out.keep
              clear hv3 hk3
              obtain ⟨hcl0, hcl1⟩ := CL.out w3 HK3.out
              have hwr := WRA.out w3 _ HD3.out.is
              go_wp2_with fail
              refine hwr.mono ?_
              clear hwr
              rintro e w4 hp
              have HT4 := hid (txt_post hp HT.out)
              obtain ⟨rfl, G4, H4, hk4⟩ := hold_post HD3.out hp
              have HD4 := hid H4
              have HK4 := hid hk4
              clear H4 hk4 hcl0 hcl1 hp
              have hnm := NC.out w4 _ HD4.out.is
              go_wp2_with fail
              refine hnm.mono ?_
              clear hnm
              rintro e w5 ⟨v5, rfl, hv5, hk5⟩
              have HD5 := hid (HD4.out.more hk5)
              have HT5 := hid (HT4.out.keep hk5)
              have htx := Texts_any HT5.out hv5 (by simp)
              rw [decide_eq_true rfl] at htx
              obtain ⟨ta5, tc5, hv5e⟩ := Txt.len hv5
              subst hv5e
              clear hv5 hk5
              go_wp2_with fail
              refine htx.mono ?_
              clear htx
              rintro e w5' ⟨rfl, nq, rfl⟩
              have HD5' := hid (HD5.out.more (keep_drewN (Keep.refl (fun _ => False) w5) nq))
              obtain ⟨tb, to_, tk, hte, htc, _⟩ := HT5.out.at_ (i := 1) (c := nNew) rfl
              injection hte with hte _ _
              subst hte
              have hrm := RM.out _ _ HD5'.out.is
              go_wp2_with fail
              refine hrm.mono ?_
              clear hrm
              rintro e w5a hp
              obtain ⟨rfl, G5, H5, hk5⟩ := hold_post HD5'.out hp
              have HD5a := hid H5
              clear H5 hk5 hp
              have hrd := RD.out _ _ HD5a.out.is
              go_wp2_with fail
              refine hrd.mono ?_
              clear hrd
              rintro e w6 ⟨rfl, hk6⟩
              have HD6 := hid (HD5a.out.more hk6)
              clear hk6
              unfold manV
              have hb6 := fun o => cell_of (blk_alloc HD6.out.box o)
              have hus := fun o => UF.out _ _ (HD6.out.more (Keep.alloc (Keep.refl (fun _ => False) w6) o)).is
              go_wp2_with fail
              refine (hus _).mono ?_
              clear hus
              rintro e w' ⟨rfl, rfl⟩
              have HF := hid (fun o => HD6.out.more (Keep.alloc (Keep.refl (fun _ => False) w6) o))
              clear hb6
              go_wp2_with fail
              go_roundg (N - (j + 1))
              case measure => omega
              case rel => exact ⟨j + 1, _, _, _, _, by omega, by omega, rfl, by go_num, TH.out, ⟨HF.out _, ST6.out, WAS.out, SM6.out⟩⟩
        · have h3 : ((j : Int) % 3 == 1) = true := by rw [beq_iff_eq]; omega
          have hfit : decide ((OL : Int) ≤ (room : Int) - (MS : Int)) = false := by simp; omega
          obtain ⟨fsA, hfsA⟩ : ∃ fsA, fsA = fs := ⟨fs, rfl⟩
          subst hfsA
          have STA := hid S.out.st
          have SMA := hid (show fsA.Small (20 * j + 2) from S.out.sm.mono (by omega))
          have NC : Hid (∀ W G', IsFS W g fsA G' → Calls Tryz.prog 24 #[.pointer (some ⟨g, 0, none⟩)] W (RetTxt W fsA.names)) := fun W G' h => Names_any sort_str len_zero h
          rw [names_mst STA.out] at NC
          by_cases hmay : manMay a s = true
          · obtain ⟨PE0, PL0⟩ := manPut_ok hmay
            by_cases hroom : ((manPut a s).1.length : Int) ≤ (room : Int) - (MS : Int)
            · obtain ⟨WE, WM⟩ := STA.out.write (m := (a, s)) hmay (by rw [HMS.out]; exact hroom)
              simp only at WE WM
              have hsz : manSize (some (a, s)) = (manPut a s).1.length := rfl
              have WRA : Hid (∀ W G', IsFS W g fsA G' → Calls Tryz.prog 20 #[.pointer (some ⟨g, 0, none⟩), .agg #[.int .i64 a, .int .i64 s]] W (FsPost W g G' (manWrite fsA a s).2 (.int .i64 0))) := fun W G' h => by
                have := manWrite_any a s _ h SMA.out (by omega)
                rw [WE] at this
                exact this
              have hsm := small_write SMA.out a s
              generalize (manWrite fsA a s).2 = fs4 at *
              have ST6 := hid WM
              have SM6 := hid (show fs4.Small (20 * (j + 1)) from hsm.mono (by omega))
              have RD : Hid (∀ W G', IsFS W g fs4 G' → Calls Tryz.prog 27 #[.pointer (some ⟨g, 0, none⟩)] W (RetMan W (a, s, 0))) := fun W G' h => by
                have := manRead_any h
                rw [WM.read] at this
                exact this
              have UF : Hid (∀ W G', IsFS W g fs4 G' → Calls Tryz.prog 21 #[.pointer (some ⟨g, 0, none⟩)] W fun e w' => e = .returned (.int .i64 ((manPut a s).1.length : Int)) ∧ W = w') := fun W G' h => used_call h WM
              have WAS : Hid (∀ m, some (a, s) = some m → (a, s) = m) := fun m e => by injection e
              generalize manPut a s = R at *
              obtain ⟨BD, PE⟩ := R
              simp only at PE0 PL0 hroom UF hsz
              subst PE0
              generalize hBL : BD.length = BL at *
              have HBL := hid hBL
              have hgr : decide ((BL : Int) > (room : Int) - (MS : Int)) = false := by simp; omega
              have hz : ((BL : Int) == 0) = false := by simp; omega
              have TH := hid (show (Value.int .i64 (BL : Int)) = .int .i64 (manSize (some (a, s)) : Int) by rw [hsz])
              clear hBL WE WM hmay hsm hsz hroom
              go_wp2_with fail
              refine (UC.out).mono ?_
              rintro e w' ⟨rfl, rfl⟩
              have HD1 := HD
              have HK1 := hid HD.out.keep
              obtain ⟨hcl0, hcl1⟩ := CL.out wr HK1.out
              go_wp2_with fail
              refine (RP.out wr).mono ?_
              rintro e w2 ⟨v2, rfl, hv2, hk2⟩
              obtain ⟨va2, vc2, hv2e⟩ := hv2.len
              rw [HBL.out] at hv2e
              subst hv2e
              have HD2 := hid (HD1.out.more hk2)
              have HK2 := hid HD2.out.keep
              clear hv2 hk2 hcl0 hcl1
              have hnm := NC.out w2 _ HD2.out.is
              go_wp2_with fail
              refine hnm.mono ?_
              clear hnm
              rintro e w3 ⟨v3, rfl, hv3, hk3⟩
              have HT := hid hv3
              obtain ⟨ta, tc, hv3e⟩ := Txt.len hv3
              subst hv3e
              have HD3 := hid (HD2.out.more hk3)
              have HK3 := hid HD3.out.keep
              clear hv3 hk3
              obtain ⟨hcl0, hcl1⟩ := CL.out w3 HK3.out
              have hwr := WRA.out w3 _ HD3.out.is
              go_wp2_with fail
              refine hwr.mono ?_
              clear hwr
              rintro e w4 hp
              have HT4 := hid (txt_post hp HT.out)
              obtain ⟨rfl, G4, H4, hk4⟩ := hold_post HD3.out hp
              have HD4 := hid H4
              have HK4 := hid hk4
              clear H4 hk4 hcl0 hcl1 hp
              obtain ⟨hcl0, hcl1⟩ := CL.out w4 HK4.out
              have hbx := HD4.out.cell
              have hfz := HD4.out.free
              have HD5 := hid (HD4.out.set a s)
              have hrd := RD.out _ _ HD5.out.is
              go_wp2_with fail
              refine hrd.mono ?_
              clear hrd hcl0 hcl1 hbx hfz
              rintro e w6 ⟨rfl, hk6⟩
              have HD6 := hid (HD5.out.more hk6)
              clear hk6
              unfold manV
              have hb6 := fun o => cell_of (blk_alloc HD6.out.box o)
              have hus := fun o => UF.out _ _ (HD6.out.more (Keep.alloc (Keep.refl (fun _ => False) w6) o)).is
              go_wp2_with fail
              refine (hus _).mono ?_
              clear hus
              rintro e w' ⟨rfl, rfl⟩
              have HF := hid (fun o => HD6.out.more (Keep.alloc (Keep.refl (fun _ => False) w6) o))
              clear hb6
              go_wp2_with fail
              go_roundg (N - (j + 1))
              case measure => omega
              case rel => exact ⟨j + 1, _, _, _, _, by omega, by omega, rfl, by go_num, TH.out, ⟨HF.out _, ST6.out, WAS.out, SM6.out⟩⟩
            · cases o with
              | none =>
                obtain ⟨WE, WM⟩ := STA.out.write_full (m := (a, s)) hmay (by rw [HMS.out]; show (room : Int) - (MS : Int) < ((manPut a s).1.length : Int); omega)
                simp only at WE WM
                have WRA : Hid (∀ W G', IsFS W g fsA G' → Calls Tryz.prog 20 #[.pointer (some ⟨g, 0, none⟩), .agg #[.int .i64 a, .int .i64 s]] W (FsPost W g G' (manWrite fsA a s).2 (.int .i64 9))) := fun W G' h => by
                  have := manWrite_any a s _ h SMA.out (by omega)
                  rw [WE] at this
                  exact this
                have hsm := small_write SMA.out a s
                generalize (manWrite fsA a s).2 = fs6 at *
                generalize manPut a s = R at *
                obtain ⟨BD, PE⟩ := R
                simp only at PE0 PL0 hroom
                subst PE0
                generalize hBL : BD.length = BL at *
                have HBL := hid hBL
                have hgr : decide ((BL : Int) > (room : Int) - (MS : Int)) = true := by simp; omega
                have hgr0 : (room : Int) - (MS : Int) < (BL : Int) := by omega
                clear hBL WE hmay hroom
                have ST6 := hid WM
                have SM6 := hid (show fs6.Small (20 * (j + 1)) from hsm.mono (by omega))
                have WAS := hid S.out.was
                obtain rfl : MS = 0 := HMS.out.symm
                replace hgr0 : decide (room < BL) = true := by simp; omega
                have RD : Hid (∀ W G', IsFS W g fs6 G' → Calls Tryz.prog 27 #[.pointer (some ⟨g, 0, none⟩)] W (RetMan W (0, 0, 7))) := fun W G' h => by
                  have := manRead_any h
                  rw [WM.read] at this
                  exact this
                have UF : Hid (∀ W G', IsFS W g fs6 G' → Calls Tryz.prog 21 #[.pointer (some ⟨g, 0, none⟩)] W fun e w' => e = .returned (.int .i64 0) ∧ W = w') := fun W G' h => used_call h WM
                have TH := hid (show (Value.int .i64 (0 : Int)) = .int .i64 (manSize none : Int) from rfl)
                clear WM hsm
                go_wp2_with fail
                refine (UC.out).mono ?_
                rintro e w' ⟨rfl, rfl⟩
                have HD1 := HD
                have HK1 := hid HD.out.keep
                obtain ⟨hcl0, hcl1⟩ := CL.out wr HK1.out
                go_wp2_with fail
                refine (RP.out wr).mono ?_
                rintro e w2 ⟨v2, rfl, hv2, hk2⟩
                obtain ⟨va2, vc2, hv2e⟩ := hv2.len
                rw [HBL.out] at hv2e
                subst hv2e
                have HD2 := hid (HD1.out.more hk2)
                have HK2 := hid HD2.out.keep
                clear hv2 hk2 hcl0 hcl1
                have hnm := NC.out w2 _ HD2.out.is
                go_wp2_with fail
                refine hnm.mono ?_
                clear hnm
                rintro e w3 ⟨v3, rfl, hv3, hk3⟩
                have HT := hid hv3
                obtain ⟨ta, tc, hv3e⟩ := Txt.len hv3
                subst hv3e
                have HD3 := hid (HD2.out.more hk3)
                have HK3 := hid HD3.out.keep
                clear hv3 hk3
                obtain ⟨hcl0, hcl1⟩ := CL.out w3 HK3.out
                have hwr := WRA.out w3 _ HD3.out.is
                go_wp2_with fail
                refine hwr.mono ?_
                clear hwr
                rintro e w4 hp
                have HT4 := hid (txt_post hp HT.out)
                obtain ⟨rfl, G4, H4, hk4⟩ := hold_post HD3.out hp
                have HD4 := hid H4
                have HK4 := hid hk4
                clear H4 hk4 hcl0 hcl1 hp
                have hrd := RD.out _ _ HD4.out.is
                go_wp2_with fail
                refine hrd.mono ?_
                clear hrd
                rintro e w6 ⟨rfl, hk6⟩
                have HD6 := hid (HD4.out.more hk6)
                clear hk6
                unfold manV
                have hb6 := fun o => cell_of (blk_alloc HD6.out.box o)
                have hus := fun o => UF.out _ _ (HD6.out.more (Keep.alloc (Keep.refl (fun _ => False) w6) o)).is
                go_wp2_with fail
                refine (hus _).mono ?_
                clear hus
                rintro e w' ⟨rfl, rfl⟩
                have HF := hid (fun o => HD6.out.more (Keep.alloc (Keep.refl (fun _ => False) w6) o))
                clear hb6
                go_wp2_with fail
                go_roundg (N - (j + 1))
                case measure => omega
                case rel => exact ⟨j + 1, _, _, _, _, by omega, by omega, rfl, by go_num, TH.out, ⟨HF.out _, ST6.out, WAS.out, SM6.out⟩⟩
              | some m =>
                obtain ⟨WE, WM⟩ := STA.out.write_full (m := (a, s)) hmay (by rw [HMS.out]; show (room : Int) - (MS : Int) < ((manPut a s).1.length : Int); omega)
                simp only at WE WM
                have WRA : Hid (∀ W G', IsFS W g fsA G' → Calls Tryz.prog 20 #[.pointer (some ⟨g, 0, none⟩), .agg #[.int .i64 a, .int .i64 s]] W (FsPost W g G' (manWrite fsA a s).2 (.int .i64 9))) := fun W G' h => by
                  have := manWrite_any a s _ h SMA.out (by omega)
                  rw [WE] at this
                  exact this
                have hsm := small_write SMA.out a s
                generalize (manWrite fsA a s).2 = fs6 at *
                generalize manPut a s = R at *
                obtain ⟨BD, PE⟩ := R
                simp only at PE0 PL0 hroom
                subst PE0
                generalize hBL : BD.length = BL at *
                have HBL := hid hBL
                have hgr : decide ((BL : Int) > (room : Int) - (MS : Int)) = true := by simp; omega
                have hgr0 : (room : Int) - (MS : Int) < (BL : Int) := by omega
                clear hBL WE hmay hroom
                have ST6 := hid WM
                have SM6 := hid (show fs6.Small (20 * (j + 1)) from hsm.mono (by omega))
                have WAS := hid S.out.was
                obtain ⟨m1, m2⟩ := m
                have hwas := S.out.was _ rfl
                subst hwas
                have RD : Hid (∀ W G', IsFS W g fs6 G' → Calls Tryz.prog 27 #[.pointer (some ⟨g, 0, none⟩)] W (RetMan W (m1, m2, 0))) := fun W G' h => by
                  have := manRead_any h
                  rw [WM.read] at this
                  exact this
                have UF : Hid (∀ W G', IsFS W g fs6 G' → Calls Tryz.prog 21 #[.pointer (some ⟨g, 0, none⟩)] W fun e w' => e = .returned (.int .i64 (MS : Int)) ∧ W = w') := fun W G' h => by
                  have := used_call h WM
                  rw [HMS.out] at this
                  exact this
                have hMS0 : 0 < MS := by
                  rw [← HMS.out]
                  exact (manPut_ok (WM.may _ rfl)).2
                have hz : ((MS : Int) == 0) = false := by simp; omega
                have TH := hid (show (Value.int .i64 (MS : Int)) = .int .i64 (manSize (some (m1, m2)) : Int) by rw [HMS.out])
                clear WM hsm
                go_wp2_with fail
                refine (UC.out).mono ?_
                rintro e w' ⟨rfl, rfl⟩
                have HD1 := HD
                have HK1 := hid HD.out.keep
                obtain ⟨hcl0, hcl1⟩ := CL.out wr HK1.out
                go_wp2_with fail
                refine (RP.out wr).mono ?_
                rintro e w2 ⟨v2, rfl, hv2, hk2⟩
                obtain ⟨va2, vc2, hv2e⟩ := hv2.len
                rw [HBL.out] at hv2e
                subst hv2e
                have HD2 := hid (HD1.out.more hk2)
                have HK2 := hid HD2.out.keep
                clear hv2 hk2 hcl0 hcl1
                have hnm := NC.out w2 _ HD2.out.is
                go_wp2_with fail
                refine hnm.mono ?_
                clear hnm
                rintro e w3 ⟨v3, rfl, hv3, hk3⟩
                have HT := hid hv3
                obtain ⟨ta, tc, hv3e⟩ := Txt.len hv3
                subst hv3e
                have HD3 := hid (HD2.out.more hk3)
                have HK3 := hid HD3.out.keep
                clear hv3 hk3
                obtain ⟨hcl0, hcl1⟩ := CL.out w3 HK3.out
                have hwr := WRA.out w3 _ HD3.out.is
                go_wp2_with fail
                refine hwr.mono ?_
                clear hwr
                rintro e w4 hp
                have HT4 := hid (txt_post hp HT.out)
                obtain ⟨rfl, G4, H4, hk4⟩ := hold_post HD3.out hp
                have HD4 := hid H4
                have HK4 := hid hk4
                clear H4 hk4 hcl0 hcl1 hp
                have hrd := RD.out _ _ HD4.out.is
                go_wp2_with fail
                refine hrd.mono ?_
                clear hrd
                rintro e w6 ⟨rfl, hk6⟩
                have HD6 := hid (HD4.out.more hk6)
                clear hk6
                unfold manV
                have hb6 := fun o => cell_of (blk_alloc HD6.out.box o)
                have hus := fun o => UF.out _ _ (HD6.out.more (Keep.alloc (Keep.refl (fun _ => False) w6) o)).is
                go_wp2_with fail
                refine (hus _).mono ?_
                clear hus
                rintro e w' ⟨rfl, rfl⟩
                have HF := hid (fun o => HD6.out.more (Keep.alloc (Keep.refl (fun _ => False) w6) o))
                clear hb6
                go_wp2_with fail
                go_roundg (N - (j + 1))
                case measure => omega
                case rel => exact ⟨j + 1, _, _, _, _, by omega, by omega, rfl, by go_num, TH.out, ⟨HF.out _, ST6.out, WAS.out, SM6.out⟩⟩
          · replace hmay : manMay a s = false := by simpa using hmay
            cases o with
            | none =>
              have WE := MSt.write_no (fs := fsA) (m := (a, s)) hmay
              simp only at WE
              have WRA : Hid (∀ W G', IsFS W g fsA G' → Calls Tryz.prog 20 #[.pointer (some ⟨g, 0, none⟩), .agg #[.int .i64 a, .int .i64 s]] W (FsPost W g G' fsA (.int .i64 2))) := fun W G' h => by
                have := manWrite_any a s _ h SMA.out (by omega)
                rw [WE] at this
                exact this
              rw [manPut_no hmay] at RP
              have HBL := hid (show ([] : List UInt8).length = 0 from rfl)
              clear WE hmay
              have WM := STA.out
              have hsm := SMA.out
              obtain ⟨fs6, hfs6⟩ : ∃ fs6, fs6 = fsA := ⟨fsA, rfl⟩
              subst hfs6
              have ST6 := hid WM
              have SM6 := hid (show fs6.Small (20 * (j + 1)) from hsm.mono (by omega))
              have WAS := hid S.out.was
              obtain rfl : MS = 0 := HMS.out.symm
              have RD : Hid (∀ W G', IsFS W g fs6 G' → Calls Tryz.prog 27 #[.pointer (some ⟨g, 0, none⟩)] W (RetMan W (0, 0, 7))) := fun W G' h => by
                have := manRead_any h
                rw [WM.read] at this
                exact this
              have UF : Hid (∀ W G', IsFS W g fs6 G' → Calls Tryz.prog 21 #[.pointer (some ⟨g, 0, none⟩)] W fun e w' => e = .returned (.int .i64 0) ∧ W = w') := fun W G' h => used_call h WM
              have TH := hid (show (Value.int .i64 (0 : Int)) = .int .i64 (manSize none : Int) from rfl)
              clear WM hsm
              go_wp2_with fail
              refine (UC.out).mono ?_
              rintro e w' ⟨rfl, rfl⟩
              have HD1 := HD
              have HK1 := hid HD.out.keep
              obtain ⟨hcl0, hcl1⟩ := CL.out wr HK1.out
              go_wp2_with fail
              refine (RP.out wr).mono ?_
              rintro e w2 ⟨v2, rfl, hv2, hk2⟩
              obtain ⟨va2, vc2, hv2e⟩ := hv2.len
              rw [HBL.out] at hv2e
              subst hv2e
              have HD2 := hid (HD1.out.more hk2)
              have HK2 := hid HD2.out.keep
              clear hv2 hk2 hcl0 hcl1
              have hnm := NC.out w2 _ HD2.out.is
              go_wp2_with fail
              refine hnm.mono ?_
              clear hnm
              rintro e w3 ⟨v3, rfl, hv3, hk3⟩
              have HT := hid hv3
              obtain ⟨ta, tc, hv3e⟩ := Txt.len hv3
              subst hv3e
              have HD3 := hid (HD2.out.more hk3)
              have HK3 := hid HD3.out.keep
              clear hv3 hk3
              obtain ⟨hcl0, hcl1⟩ := CL.out w3 HK3.out
              have hwr := WRA.out w3 _ HD3.out.is
              go_wp2_with fail
              refine hwr.mono ?_
              clear hwr
              rintro e w4 hp
              have HT4 := hid (txt_post hp HT.out)
              obtain ⟨rfl, G4, H4, hk4⟩ := hold_post HD3.out hp
              have HD4 := hid H4
              have HK4 := hid hk4
              clear H4 hk4 hcl0 hcl1 hp
              have hnm := NC.out w4 _ HD4.out.is
              go_wp2_with fail
              refine hnm.mono ?_
              clear hnm
              rintro e w5 ⟨v5, rfl, hv5, hk5⟩
              have HD5 := hid (HD4.out.more hk5)
              have HT5 := hid (HT4.out.keep hk5)
              have htx := Texts_any HT5.out hv5 (by simp)
              rw [decide_eq_true rfl] at htx
              obtain ⟨ta5, tc5, hv5e⟩ := Txt.len hv5
              subst hv5e
              clear hv5 hk5
              go_wp2_with fail
              refine htx.mono ?_
              clear htx
              rintro e w5' ⟨rfl, nq, rfl⟩
              have HD5' := hid (HD5.out.more (keep_drewN (Keep.refl (fun _ => False) w5) nq))
              have hrd := RD.out _ _ HD5'.out.is
              go_wp2_with fail
              refine hrd.mono ?_
              clear hrd
              rintro e w6 ⟨rfl, hk6⟩
              have HD6 := hid (HD5'.out.more hk6)
              clear hk6
              unfold manV
              have hb6 := fun o => cell_of (blk_alloc HD6.out.box o)
              have hus := fun o => UF.out _ _ (HD6.out.more (Keep.alloc (Keep.refl (fun _ => False) w6) o)).is
              go_wp2_with fail
              refine (hus _).mono ?_
              clear hus
              rintro e w' ⟨rfl, rfl⟩
              have HF := hid (fun o => HD6.out.more (Keep.alloc (Keep.refl (fun _ => False) w6) o))
              clear hb6
              go_wp2_with fail
              go_roundg (N - (j + 1))
              case measure => omega
              case rel => exact ⟨j + 1, _, _, _, _, by omega, by omega, rfl, by go_num, TH.out, ⟨HF.out _, ST6.out, WAS.out, SM6.out⟩⟩
            | some m =>
              have WE := MSt.write_no (fs := fsA) (m := (a, s)) hmay
              simp only at WE
              have WRA : Hid (∀ W G', IsFS W g fsA G' → Calls Tryz.prog 20 #[.pointer (some ⟨g, 0, none⟩), .agg #[.int .i64 a, .int .i64 s]] W (FsPost W g G' fsA (.int .i64 2))) := fun W G' h => by
                have := manWrite_any a s _ h SMA.out (by omega)
                rw [WE] at this
                exact this
              rw [manPut_no hmay] at RP
              have HBL := hid (show ([] : List UInt8).length = 0 from rfl)
              clear WE hmay
              have WM := STA.out
              have hsm := SMA.out
              obtain ⟨fs6, hfs6⟩ : ∃ fs6, fs6 = fsA := ⟨fsA, rfl⟩
              subst hfs6
              have ST6 := hid WM
              have SM6 := hid (show fs6.Small (20 * (j + 1)) from hsm.mono (by omega))
              have WAS := hid S.out.was
              obtain ⟨m1, m2⟩ := m
              have hwas := S.out.was _ rfl
              subst hwas
              have RD : Hid (∀ W G', IsFS W g fs6 G' → Calls Tryz.prog 27 #[.pointer (some ⟨g, 0, none⟩)] W (RetMan W (m1, m2, 0))) := fun W G' h => by
                have := manRead_any h
                rw [WM.read] at this
                exact this
              have UF : Hid (∀ W G', IsFS W g fs6 G' → Calls Tryz.prog 21 #[.pointer (some ⟨g, 0, none⟩)] W fun e w' => e = .returned (.int .i64 (MS : Int)) ∧ W = w') := fun W G' h => by
                have := used_call h WM
                rw [HMS.out] at this
                exact this
              have hMS0 : 0 < MS := by
                rw [← HMS.out]
                exact (manPut_ok (WM.may _ rfl)).2
              have hz : ((MS : Int) == 0) = false := by simp; omega
              have TH := hid (show (Value.int .i64 (MS : Int)) = .int .i64 (manSize (some (m1, m2)) : Int) by rw [HMS.out])
              clear WM hsm
              go_wp2_with fail
              refine (UC.out).mono ?_
              rintro e w' ⟨rfl, rfl⟩
              have HD1 := HD
              have HK1 := hid HD.out.keep
              obtain ⟨hcl0, hcl1⟩ := CL.out wr HK1.out
              go_wp2_with fail
              refine (RP.out wr).mono ?_
              rintro e w2 ⟨v2, rfl, hv2, hk2⟩
              obtain ⟨va2, vc2, hv2e⟩ := hv2.len
              rw [HBL.out] at hv2e
              subst hv2e
              have HD2 := hid (HD1.out.more hk2)
              have HK2 := hid HD2.out.keep
              clear hv2 hk2 hcl0 hcl1
              have hnm := NC.out w2 _ HD2.out.is
              go_wp2_with fail
              refine hnm.mono ?_
              clear hnm
              rintro e w3 ⟨v3, rfl, hv3, hk3⟩
              have HT := hid hv3
              obtain ⟨ta, tc, hv3e⟩ := Txt.len hv3
              subst hv3e
              have HD3 := hid (HD2.out.more hk3)
              have HK3 := hid HD3.out.keep
              clear hv3 hk3
              obtain ⟨hcl0, hcl1⟩ := CL.out w3 HK3.out
              have hwr := WRA.out w3 _ HD3.out.is
              go_wp2_with fail
              refine hwr.mono ?_
              clear hwr
              rintro e w4 hp
              have HT4 := hid (txt_post hp HT.out)
              obtain ⟨rfl, G4, H4, hk4⟩ := hold_post HD3.out hp
              have HD4 := hid H4
              have HK4 := hid hk4
              clear H4 hk4 hcl0 hcl1 hp
              have hnm := NC.out w4 _ HD4.out.is
              go_wp2_with fail
              refine hnm.mono ?_
              clear hnm
              rintro e w5 ⟨v5, rfl, hv5, hk5⟩
              have HD5 := hid (HD4.out.more hk5)
              have HT5 := hid (HT4.out.keep hk5)
              have htx := Texts_any HT5.out hv5 (by simp)
              rw [decide_eq_true rfl] at htx
              obtain ⟨ta5, tc5, hv5e⟩ := Txt.len hv5
              subst hv5e
              clear hv5 hk5
              go_wp2_with fail
              refine htx.mono ?_
              clear htx
              rintro e w5' ⟨rfl, nq, rfl⟩
              have HD5' := hid (HD5.out.more (keep_drewN (Keep.refl (fun _ => False) w5) nq))
              obtain ⟨tb, to_, tk, hte, htc, _⟩ := HT5.out.at_ (i := 0) (c := nMan) rfl
              injection hte with hte _ _
              subst hte
              rw [Nat.add_zero] at htc
              have hrd := RD.out _ _ HD5'.out.is
              go_wp2_with fail
              refine hrd.mono ?_
              clear hrd
              rintro e w6 ⟨rfl, hk6⟩
              have HD6 := hid (HD5'.out.more hk6)
              clear hk6
              unfold manV
              have hb6 := fun o => cell_of (blk_alloc HD6.out.box o)
              have hus := fun o => UF.out _ _ (HD6.out.more (Keep.alloc (Keep.refl (fun _ => False) w6) o)).is
              go_wp2_with fail
              refine (hus _).mono ?_
              clear hus
              rintro e w' ⟨rfl, rfl⟩
              have HF := hid (fun o => HD6.out.more (Keep.alloc (Keep.refl (fun _ => False) w6) o))
              clear hb6
              go_wp2_with fail
              go_roundg (N - (j + 1))
              case measure => omega
              case rel => exact ⟨j + 1, _, _, _, _, by omega, by omega, rfl, by go_num, TH.out, ⟨HF.out _, ST6.out, WAS.out, SM6.out⟩⟩
      · have h3 : ((j : Int) % 3 == 1) = false := by rw [beq_eq_false_iff_ne]; omega
        obtain ⟨fsA, hfsA⟩ : ∃ fsA, fsA = fs := ⟨fs, rfl⟩
        subst hfsA
        have STA := hid S.out.st
        have SMA := hid (show fsA.Small (20 * j + 2) from S.out.sm.mono (by omega))
        have NC : Hid (∀ W G', IsFS W g fsA G' → Calls Tryz.prog 24 #[.pointer (some ⟨g, 0, none⟩)] W (RetTxt W fsA.names)) := fun W G' h => Names_any sort_str len_zero h
        rw [names_mst STA.out] at NC
        by_cases hmay : manMay a s = true
        · obtain ⟨PE0, PL0⟩ := manPut_ok hmay
          by_cases hroom : ((manPut a s).1.length : Int) ≤ (room : Int) - (MS : Int)
          · obtain ⟨WE, WM⟩ := STA.out.write (m := (a, s)) hmay (by rw [HMS.out]; exact hroom)
            simp only at WE WM
            have hsz : manSize (some (a, s)) = (manPut a s).1.length := rfl
            have WRA : Hid (∀ W G', IsFS W g fsA G' → Calls Tryz.prog 20 #[.pointer (some ⟨g, 0, none⟩), .agg #[.int .i64 a, .int .i64 s]] W (FsPost W g G' (manWrite fsA a s).2 (.int .i64 0))) := fun W G' h => by
              have := manWrite_any a s _ h SMA.out (by omega)
              rw [WE] at this
              exact this
            have hsm := small_write SMA.out a s
            generalize (manWrite fsA a s).2 = fs4 at *
            have ST6 := hid WM
            have SM6 := hid (show fs4.Small (20 * (j + 1)) from hsm.mono (by omega))
            have RD : Hid (∀ W G', IsFS W g fs4 G' → Calls Tryz.prog 27 #[.pointer (some ⟨g, 0, none⟩)] W (RetMan W (a, s, 0))) := fun W G' h => by
              have := manRead_any h
              rw [WM.read] at this
              exact this
            have UF : Hid (∀ W G', IsFS W g fs4 G' → Calls Tryz.prog 21 #[.pointer (some ⟨g, 0, none⟩)] W fun e w' => e = .returned (.int .i64 ((manPut a s).1.length : Int)) ∧ W = w') := fun W G' h => used_call h WM
            have WAS : Hid (∀ m, some (a, s) = some m → (a, s) = m) := fun m e => by injection e
            generalize manPut a s = R at *
            obtain ⟨BD, PE⟩ := R
            simp only at PE0 PL0 hroom UF hsz
            subst PE0
            generalize hBL : BD.length = BL at *
            have HBL := hid hBL
            have hgr : decide ((BL : Int) > (room : Int) - (MS : Int)) = false := by simp; omega
            have hz : ((BL : Int) == 0) = false := by simp; omega
            have TH := hid (show (Value.int .i64 (BL : Int)) = .int .i64 (manSize (some (a, s)) : Int) by rw [hsz])
            clear hBL WE WM hmay hsm hsz hroom
            have HD1 := HD
            have HK1 := hid HD.out.keep
            obtain ⟨hcl0, hcl1⟩ := CL.out wr HK1.out
            go_wp2_with fail
            refine (RP.out wr).mono ?_
            rintro e w2 ⟨v2, rfl, hv2, hk2⟩
            obtain ⟨va2, vc2, hv2e⟩ := hv2.len
            rw [HBL.out] at hv2e
            subst hv2e
            have HD2 := hid (HD1.out.more hk2)
            have HK2 := hid HD2.out.keep
            clear hv2 hk2 hcl0 hcl1
            have hnm := NC.out w2 _ HD2.out.is
            go_wp2_with fail
            refine hnm.mono ?_
            clear hnm
            rintro e w3 ⟨v3, rfl, hv3, hk3⟩
            have HT := hid hv3
            obtain ⟨ta, tc, hv3e⟩ := Txt.len hv3
            subst hv3e
            have HD3 := hid (HD2.out.more hk3)
            have HK3 := hid HD3.out.keep
            clear hv3 hk3
            obtain ⟨hcl0, hcl1⟩ := CL.out w3 HK3.out
            have hwr := WRA.out w3 _ HD3.out.is
            go_wp2_with fail
            refine hwr.mono ?_
            clear hwr
            rintro e w4 hp
            have HT4 := hid (txt_post hp HT.out)
            obtain ⟨rfl, G4, H4, hk4⟩ := hold_post HD3.out hp
            have HD4 := hid H4
            have HK4 := hid hk4
            clear H4 hk4 hcl0 hcl1 hp
            obtain ⟨hcl0, hcl1⟩ := CL.out w4 HK4.out
            have hbx := HD4.out.cell
            have hfz := HD4.out.free
            have HD5 := hid (HD4.out.set a s)
            have hrd := RD.out _ _ HD5.out.is
            go_wp2_with fail
            refine hrd.mono ?_
            clear hrd hcl0 hcl1 hbx hfz
            rintro e w6 ⟨rfl, hk6⟩
            have HD6 := hid (HD5.out.more hk6)
            clear hk6
            unfold manV
            have hb6 := fun o => cell_of (blk_alloc HD6.out.box o)
            have hus := fun o => UF.out _ _ (HD6.out.more (Keep.alloc (Keep.refl (fun _ => False) w6) o)).is
            go_wp2_with fail
            refine (hus _).mono ?_
            clear hus
            rintro e w' ⟨rfl, rfl⟩
            have HF := hid (fun o => HD6.out.more (Keep.alloc (Keep.refl (fun _ => False) w6) o))
            clear hb6
            go_wp2_with fail
            go_roundg (N - (j + 1))
            case measure => omega
            case rel => exact ⟨j + 1, _, _, _, _, by omega, by omega, rfl, by go_num, TH.out, ⟨HF.out _, ST6.out, WAS.out, SM6.out⟩⟩
          · cases o with
            | none =>
              obtain ⟨WE, WM⟩ := STA.out.write_full (m := (a, s)) hmay (by rw [HMS.out]; show (room : Int) - (MS : Int) < ((manPut a s).1.length : Int); omega)
              simp only at WE WM
              have WRA : Hid (∀ W G', IsFS W g fsA G' → Calls Tryz.prog 20 #[.pointer (some ⟨g, 0, none⟩), .agg #[.int .i64 a, .int .i64 s]] W (FsPost W g G' (manWrite fsA a s).2 (.int .i64 9))) := fun W G' h => by
                have := manWrite_any a s _ h SMA.out (by omega)
                rw [WE] at this
                exact this
              have hsm := small_write SMA.out a s
              generalize (manWrite fsA a s).2 = fs6 at *
              generalize manPut a s = R at *
              obtain ⟨BD, PE⟩ := R
              simp only at PE0 PL0 hroom
              subst PE0
              generalize hBL : BD.length = BL at *
              have HBL := hid hBL
              have hgr : decide ((BL : Int) > (room : Int) - (MS : Int)) = true := by simp; omega
              have hgr0 : (room : Int) - (MS : Int) < (BL : Int) := by omega
              clear hBL WE hmay hroom
              have ST6 := hid WM
              have SM6 := hid (show fs6.Small (20 * (j + 1)) from hsm.mono (by omega))
              have WAS := hid S.out.was
              obtain rfl : MS = 0 := HMS.out.symm
              replace hgr0 : decide (room < BL) = true := by simp; omega
              have RD : Hid (∀ W G', IsFS W g fs6 G' → Calls Tryz.prog 27 #[.pointer (some ⟨g, 0, none⟩)] W (RetMan W (0, 0, 7))) := fun W G' h => by
                have := manRead_any h
                rw [WM.read] at this
                exact this
              have UF : Hid (∀ W G', IsFS W g fs6 G' → Calls Tryz.prog 21 #[.pointer (some ⟨g, 0, none⟩)] W fun e w' => e = .returned (.int .i64 0) ∧ W = w') := fun W G' h => used_call h WM
              have TH := hid (show (Value.int .i64 (0 : Int)) = .int .i64 (manSize none : Int) from rfl)
              clear WM hsm
              have HD1 := HD
              have HK1 := hid HD.out.keep
              obtain ⟨hcl0, hcl1⟩ := CL.out wr HK1.out
              go_wp2_with fail
              refine (RP.out wr).mono ?_
              rintro e w2 ⟨v2, rfl, hv2, hk2⟩
              obtain ⟨va2, vc2, hv2e⟩ := hv2.len
              rw [HBL.out] at hv2e
              subst hv2e
              have HD2 := hid (HD1.out.more hk2)
              have HK2 := hid HD2.out.keep
              clear hv2 hk2 hcl0 hcl1
              have hnm := NC.out w2 _ HD2.out.is
              go_wp2_with fail
              refine hnm.mono ?_
              clear hnm
              rintro e w3 ⟨v3, rfl, hv3, hk3⟩
              have HT := hid hv3
              obtain ⟨ta, tc, hv3e⟩ := Txt.len hv3
              subst hv3e
              have HD3 := hid (HD2.out.more hk3)
              have HK3 := hid HD3.out.keep
              clear hv3 hk3
              obtain ⟨hcl0, hcl1⟩ := CL.out w3 HK3.out
              have hwr := WRA.out w3 _ HD3.out.is
              go_wp2_with fail
              refine hwr.mono ?_
              clear hwr
              rintro e w4 hp
              have HT4 := hid (txt_post hp HT.out)
              obtain ⟨rfl, G4, H4, hk4⟩ := hold_post HD3.out hp
              have HD4 := hid H4
              have HK4 := hid hk4
              clear H4 hk4 hcl0 hcl1 hp
              have hrd := RD.out _ _ HD4.out.is
              go_wp2_with fail
              refine hrd.mono ?_
              clear hrd
              rintro e w6 ⟨rfl, hk6⟩
              have HD6 := hid (HD4.out.more hk6)
              clear hk6
              unfold manV
              have hb6 := fun o => cell_of (blk_alloc HD6.out.box o)
              have hus := fun o => UF.out _ _ (HD6.out.more (Keep.alloc (Keep.refl (fun _ => False) w6) o)).is
              go_wp2_with fail
              refine (hus _).mono ?_
              clear hus
              rintro e w' ⟨rfl, rfl⟩
              have HF := hid (fun o => HD6.out.more (Keep.alloc (Keep.refl (fun _ => False) w6) o))
              clear hb6
              go_wp2_with fail
              go_roundg (N - (j + 1))
              case measure => omega
              case rel => exact ⟨j + 1, _, _, _, _, by omega, by omega, rfl, by go_num, TH.out, ⟨HF.out _, ST6.out, WAS.out, SM6.out⟩⟩
            | some m =>
              obtain ⟨WE, WM⟩ := STA.out.write_full (m := (a, s)) hmay (by rw [HMS.out]; show (room : Int) - (MS : Int) < ((manPut a s).1.length : Int); omega)
              simp only at WE WM
              have WRA : Hid (∀ W G', IsFS W g fsA G' → Calls Tryz.prog 20 #[.pointer (some ⟨g, 0, none⟩), .agg #[.int .i64 a, .int .i64 s]] W (FsPost W g G' (manWrite fsA a s).2 (.int .i64 9))) := fun W G' h => by
                have := manWrite_any a s _ h SMA.out (by omega)
                rw [WE] at this
                exact this
              have hsm := small_write SMA.out a s
              generalize (manWrite fsA a s).2 = fs6 at *
              generalize manPut a s = R at *
              obtain ⟨BD, PE⟩ := R
              simp only at PE0 PL0 hroom
              subst PE0
              generalize hBL : BD.length = BL at *
              have HBL := hid hBL
              have hgr : decide ((BL : Int) > (room : Int) - (MS : Int)) = true := by simp; omega
              have hgr0 : (room : Int) - (MS : Int) < (BL : Int) := by omega
              clear hBL WE hmay hroom
              have ST6 := hid WM
              have SM6 := hid (show fs6.Small (20 * (j + 1)) from hsm.mono (by omega))
              have WAS := hid S.out.was
              obtain ⟨m1, m2⟩ := m
              have hwas := S.out.was _ rfl
              subst hwas
              have RD : Hid (∀ W G', IsFS W g fs6 G' → Calls Tryz.prog 27 #[.pointer (some ⟨g, 0, none⟩)] W (RetMan W (m1, m2, 0))) := fun W G' h => by
                have := manRead_any h
                rw [WM.read] at this
                exact this
              have UF : Hid (∀ W G', IsFS W g fs6 G' → Calls Tryz.prog 21 #[.pointer (some ⟨g, 0, none⟩)] W fun e w' => e = .returned (.int .i64 (MS : Int)) ∧ W = w') := fun W G' h => by
                have := used_call h WM
                rw [HMS.out] at this
                exact this
              have hMS0 : 0 < MS := by
                rw [← HMS.out]
                exact (manPut_ok (WM.may _ rfl)).2
              have hz : ((MS : Int) == 0) = false := by simp; omega
              have TH := hid (show (Value.int .i64 (MS : Int)) = .int .i64 (manSize (some (m1, m2)) : Int) by rw [HMS.out])
              clear WM hsm
              have HD1 := HD
              have HK1 := hid HD.out.keep
              obtain ⟨hcl0, hcl1⟩ := CL.out wr HK1.out
              go_wp2_with fail
              refine (RP.out wr).mono ?_
              rintro e w2 ⟨v2, rfl, hv2, hk2⟩
              obtain ⟨va2, vc2, hv2e⟩ := hv2.len
              rw [HBL.out] at hv2e
              subst hv2e
              have HD2 := hid (HD1.out.more hk2)
              have HK2 := hid HD2.out.keep
              clear hv2 hk2 hcl0 hcl1
              have hnm := NC.out w2 _ HD2.out.is
              go_wp2_with fail
              refine hnm.mono ?_
              clear hnm
              rintro e w3 ⟨v3, rfl, hv3, hk3⟩
              have HT := hid hv3
              obtain ⟨ta, tc, hv3e⟩ := Txt.len hv3
              subst hv3e
              have HD3 := hid (HD2.out.more hk3)
              have HK3 := hid HD3.out.keep
              clear hv3 hk3
              obtain ⟨hcl0, hcl1⟩ := CL.out w3 HK3.out
              have hwr := WRA.out w3 _ HD3.out.is
              go_wp2_with fail
              refine hwr.mono ?_
              clear hwr
              rintro e w4 hp
              have HT4 := hid (txt_post hp HT.out)
              obtain ⟨rfl, G4, H4, hk4⟩ := hold_post HD3.out hp
              have HD4 := hid H4
              have HK4 := hid hk4
              clear H4 hk4 hcl0 hcl1 hp
              have hrd := RD.out _ _ HD4.out.is
              go_wp2_with fail
              refine hrd.mono ?_
              clear hrd
              rintro e w6 ⟨rfl, hk6⟩
              have HD6 := hid (HD4.out.more hk6)
              clear hk6
              unfold manV
              have hb6 := fun o => cell_of (blk_alloc HD6.out.box o)
              have hus := fun o => UF.out _ _ (HD6.out.more (Keep.alloc (Keep.refl (fun _ => False) w6) o)).is
              go_wp2_with fail
              refine (hus _).mono ?_
              clear hus
              rintro e w' ⟨rfl, rfl⟩
              have HF := hid (fun o => HD6.out.more (Keep.alloc (Keep.refl (fun _ => False) w6) o))
              clear hb6
              go_wp2_with fail
              go_roundg (N - (j + 1))
              case measure => omega
              case rel => exact ⟨j + 1, _, _, _, _, by omega, by omega, rfl, by go_num, TH.out, ⟨HF.out _, ST6.out, WAS.out, SM6.out⟩⟩
        · replace hmay : manMay a s = false := by simpa using hmay
          cases o with
          | none =>
            have WE := MSt.write_no (fs := fsA) (m := (a, s)) hmay
            simp only at WE
            have WRA : Hid (∀ W G', IsFS W g fsA G' → Calls Tryz.prog 20 #[.pointer (some ⟨g, 0, none⟩), .agg #[.int .i64 a, .int .i64 s]] W (FsPost W g G' fsA (.int .i64 2))) := fun W G' h => by
              have := manWrite_any a s _ h SMA.out (by omega)
              rw [WE] at this
              exact this
            rw [manPut_no hmay] at RP
            have HBL := hid (show ([] : List UInt8).length = 0 from rfl)
            clear WE hmay
            have WM := STA.out
            have hsm := SMA.out
            obtain ⟨fs6, hfs6⟩ : ∃ fs6, fs6 = fsA := ⟨fsA, rfl⟩
            subst hfs6
            have ST6 := hid WM
            have SM6 := hid (show fs6.Small (20 * (j + 1)) from hsm.mono (by omega))
            have WAS := hid S.out.was
            obtain rfl : MS = 0 := HMS.out.symm
            have RD : Hid (∀ W G', IsFS W g fs6 G' → Calls Tryz.prog 27 #[.pointer (some ⟨g, 0, none⟩)] W (RetMan W (0, 0, 7))) := fun W G' h => by
              have := manRead_any h
              rw [WM.read] at this
              exact this
            have UF : Hid (∀ W G', IsFS W g fs6 G' → Calls Tryz.prog 21 #[.pointer (some ⟨g, 0, none⟩)] W fun e w' => e = .returned (.int .i64 0) ∧ W = w') := fun W G' h => used_call h WM
            have TH := hid (show (Value.int .i64 (0 : Int)) = .int .i64 (manSize none : Int) from rfl)
            clear WM hsm
            have HD1 := HD
            have HK1 := hid HD.out.keep
            obtain ⟨hcl0, hcl1⟩ := CL.out wr HK1.out
            go_wp2_with fail
            refine (RP.out wr).mono ?_
            rintro e w2 ⟨v2, rfl, hv2, hk2⟩
            obtain ⟨va2, vc2, hv2e⟩ := hv2.len
            rw [HBL.out] at hv2e
            subst hv2e
            have HD2 := hid (HD1.out.more hk2)
            have HK2 := hid HD2.out.keep
            clear hv2 hk2 hcl0 hcl1
            have hnm := NC.out w2 _ HD2.out.is
            go_wp2_with fail
            refine hnm.mono ?_
            clear hnm
            rintro e w3 ⟨v3, rfl, hv3, hk3⟩
            have HT := hid hv3
            obtain ⟨ta, tc, hv3e⟩ := Txt.len hv3
            subst hv3e
            have HD3 := hid (HD2.out.more hk3)
            have HK3 := hid HD3.out.keep
            clear hv3 hk3
            obtain ⟨hcl0, hcl1⟩ := CL.out w3 HK3.out
            have hwr := WRA.out w3 _ HD3.out.is
            go_wp2_with fail
            refine hwr.mono ?_
            clear hwr
            rintro e w4 hp
            have HT4 := hid (txt_post hp HT.out)
            obtain ⟨rfl, G4, H4, hk4⟩ := hold_post HD3.out hp
            have HD4 := hid H4
            have HK4 := hid hk4
            clear H4 hk4 hcl0 hcl1 hp
            have hnm := NC.out w4 _ HD4.out.is
            go_wp2_with fail
            refine hnm.mono ?_
            clear hnm
            rintro e w5 ⟨v5, rfl, hv5, hk5⟩
            have HD5 := hid (HD4.out.more hk5)
            have HT5 := hid (HT4.out.keep hk5)
            have htx := Texts_any HT5.out hv5 (by simp)
            rw [decide_eq_true rfl] at htx
            obtain ⟨ta5, tc5, hv5e⟩ := Txt.len hv5
            subst hv5e
            clear hv5 hk5
            go_wp2_with fail
            refine htx.mono ?_
            clear htx
            rintro e w5' ⟨rfl, nq, rfl⟩
            have HD5' := hid (HD5.out.more (keep_drewN (Keep.refl (fun _ => False) w5) nq))
            have hrd := RD.out _ _ HD5'.out.is
            go_wp2_with fail
            refine hrd.mono ?_
            clear hrd
            rintro e w6 ⟨rfl, hk6⟩
            have HD6 := hid (HD5'.out.more hk6)
            clear hk6
            unfold manV
            have hb6 := fun o => cell_of (blk_alloc HD6.out.box o)
            have hus := fun o => UF.out _ _ (HD6.out.more (Keep.alloc (Keep.refl (fun _ => False) w6) o)).is
            go_wp2_with fail
            refine (hus _).mono ?_
            clear hus
            rintro e w' ⟨rfl, rfl⟩
            have HF := hid (fun o => HD6.out.more (Keep.alloc (Keep.refl (fun _ => False) w6) o))
            clear hb6
            go_wp2_with fail
            go_roundg (N - (j + 1))
            case measure => omega
            case rel => exact ⟨j + 1, _, _, _, _, by omega, by omega, rfl, by go_num, TH.out, ⟨HF.out _, ST6.out, WAS.out, SM6.out⟩⟩
          | some m =>
            have WE := MSt.write_no (fs := fsA) (m := (a, s)) hmay
            simp only at WE
            have WRA : Hid (∀ W G', IsFS W g fsA G' → Calls Tryz.prog 20 #[.pointer (some ⟨g, 0, none⟩), .agg #[.int .i64 a, .int .i64 s]] W (FsPost W g G' fsA (.int .i64 2))) := fun W G' h => by
              have := manWrite_any a s _ h SMA.out (by omega)
              rw [WE] at this
              exact this
            rw [manPut_no hmay] at RP
            have HBL := hid (show ([] : List UInt8).length = 0 from rfl)
            clear WE hmay
            have WM := STA.out
            have hsm := SMA.out
            obtain ⟨fs6, hfs6⟩ : ∃ fs6, fs6 = fsA := ⟨fsA, rfl⟩
            subst hfs6
            have ST6 := hid WM
            have SM6 := hid (show fs6.Small (20 * (j + 1)) from hsm.mono (by omega))
            have WAS := hid S.out.was
            obtain ⟨m1, m2⟩ := m
            have hwas := S.out.was _ rfl
            subst hwas
            have RD : Hid (∀ W G', IsFS W g fs6 G' → Calls Tryz.prog 27 #[.pointer (some ⟨g, 0, none⟩)] W (RetMan W (m1, m2, 0))) := fun W G' h => by
              have := manRead_any h
              rw [WM.read] at this
              exact this
            have UF : Hid (∀ W G', IsFS W g fs6 G' → Calls Tryz.prog 21 #[.pointer (some ⟨g, 0, none⟩)] W fun e w' => e = .returned (.int .i64 (MS : Int)) ∧ W = w') := fun W G' h => by
              have := used_call h WM
              rw [HMS.out] at this
              exact this
            have hMS0 : 0 < MS := by
              rw [← HMS.out]
              exact (manPut_ok (WM.may _ rfl)).2
            have hz : ((MS : Int) == 0) = false := by simp; omega
            have TH := hid (show (Value.int .i64 (MS : Int)) = .int .i64 (manSize (some (m1, m2)) : Int) by rw [HMS.out])
            clear WM hsm
            have HD1 := HD
            have HK1 := hid HD.out.keep
            obtain ⟨hcl0, hcl1⟩ := CL.out wr HK1.out
            go_wp2_with fail
            refine (RP.out wr).mono ?_
            rintro e w2 ⟨v2, rfl, hv2, hk2⟩
            obtain ⟨va2, vc2, hv2e⟩ := hv2.len
            rw [HBL.out] at hv2e
            subst hv2e
            have HD2 := hid (HD1.out.more hk2)
            have HK2 := hid HD2.out.keep
            clear hv2 hk2 hcl0 hcl1
            have hnm := NC.out w2 _ HD2.out.is
            go_wp2_with fail
            refine hnm.mono ?_
            clear hnm
            rintro e w3 ⟨v3, rfl, hv3, hk3⟩
            have HT := hid hv3
            obtain ⟨ta, tc, hv3e⟩ := Txt.len hv3
            subst hv3e
            have HD3 := hid (HD2.out.more hk3)
            have HK3 := hid HD3.out.keep
            clear hv3 hk3
            obtain ⟨hcl0, hcl1⟩ := CL.out w3 HK3.out
            have hwr := WRA.out w3 _ HD3.out.is
            go_wp2_with fail
            refine hwr.mono ?_
            clear hwr
            rintro e w4 hp
            have HT4 := hid (txt_post hp HT.out)
            obtain ⟨rfl, G4, H4, hk4⟩ := hold_post HD3.out hp
            have HD4 := hid H4
            have HK4 := hid hk4
            clear H4 hk4 hcl0 hcl1 hp
            have hnm := NC.out w4 _ HD4.out.is
            go_wp2_with fail
            refine hnm.mono ?_
            clear hnm
            rintro e w5 ⟨v5, rfl, hv5, hk5⟩
            have HD5 := hid (HD4.out.more hk5)
            have HT5 := hid (HT4.out.keep hk5)
            have htx := Texts_any HT5.out hv5 (by simp)
            rw [decide_eq_true rfl] at htx
            obtain ⟨ta5, tc5, hv5e⟩ := Txt.len hv5
            subst hv5e
            clear hv5 hk5
            go_wp2_with fail
            refine htx.mono ?_
            clear htx
            rintro e w5' ⟨rfl, nq, rfl⟩
            have HD5' := hid (HD5.out.more (keep_drewN (Keep.refl (fun _ => False) w5) nq))
            have hrd := RD.out _ _ HD5'.out.is
            go_wp2_with fail
            refine hrd.mono ?_
            clear hrd
            rintro e w6 ⟨rfl, hk6⟩
            have HD6 := hid (HD5'.out.more hk6)
            clear hk6
            unfold manV
            have hb6 := fun o => cell_of (blk_alloc HD6.out.box o)
            have hus := fun o => UF.out _ _ (HD6.out.more (Keep.alloc (Keep.refl (fun _ => False) w6) o)).is
            go_wp2_with fail
            refine (hus _).mono ?_
            clear hus
            rintro e w' ⟨rfl, rfl⟩
            have HF := hid (fun o => HD6.out.more (Keep.alloc (Keep.refl (fun _ => False) w6) o))
            clear hb6
            go_wp2_with fail
            go_roundg (N - (j + 1))
            case measure => omega
            case rel => exact ⟨j + 1, _, _, _, _, by omega, by omega, rfl, by go_num, TH.out, ⟨HF.out _, ST6.out, WAS.out, SM6.out⟩⟩
    · have FIN := hid S.out.hold.keep
      by_cases hjN : j < N
      · have hj10' : j = 10 := by omega
        subst hj10'
        go_wp2_with fail
        refine (lives26_any _).mono ?_
        rintro e w9 ⟨rfl, hk9⟩
        have HK9 := hid (keep0_trans FIN.out hk9)
        clear hk9
        go_wp2_with fail
        go_ret
        exact ⟨rfl, HK9.out⟩
      · go_wp2_with fail
        refine (lives26_any _).mono ?_
        rintro e w9 ⟨rfl, hk9⟩
        have HK9 := hid (keep0_trans FIN.out hk9)
        clear hk9
        go_wp2_with fail
        go_ret
        exact ⟨rfl, HK9.out⟩
end
end Go.Stk

/-
  FOR A PROOF OF AN '..UptoSaid': WHAT THE BOUND GIVES. Copy it as <Name>Bulk.lean (put your seat's Name for YtgecikpkjfomiaaGreatDoor, the bound of 'uptoSmall' for 1048576), name it in GOCLAIM.json's 'order' behind <Name>Rows. By an AI agent, Sun Nov 15 2026. No person has read it. No macro, syntax, notation, axiom, sorry.
-/
namespace Go.Proofs.YtgecikpkjfomiaaGreatDoor.bulks

theorem one_le {H : Type} (d : DataW H) : 1 ≤ Rows.uptoBulk d := by
  cases d with
  | lit l => cases l <;> simp [Rows.uptoBulk]
  | nil => simp [Rows.uptoBulk]
  | ptr d => simp [Rows.uptoBulk]
  | slice elems spare => simp [Rows.uptoBulk]
  | agg parts => simp [Rows.uptoBulk]
  | iface t d => simp [Rows.uptoBulk]
  | map entries => simp [Rows.uptoBulk]
  | held h => simp [Rows.uptoBulk]

/-- a part's bulk is at most the whole's -/
theorem part_le {H : Type} {d : DataW H} {l : List (DataW H)} (h : d ∈ l) : Rows.uptoBulk d ≤ Rows.uptoBulkAll l := by
  induction l with
  | nil => cases h
  | cons x r ih =>
    simp only [Rows.uptoBulkAll]
    cases List.mem_cons.1 h with
    | inl e => subst e; omega
    | inr e => have := ih e; omega

theorem append {H : Type} (l r : List (DataW H)) : Rows.uptoBulkAll (l ++ r) = Rows.uptoBulkAll l + Rows.uptoBulkAll r := by
  induction l with
  | nil => simp [Rows.uptoBulkAll]
  | cons x l ih => simp only [List.cons_append, Rows.uptoBulkAll, ih]; omega

/-- so many values at the most -/
theorem length_le {H : Type} (l : List (DataW H)) : l.length ≤ Rows.uptoBulkAll l := by
  induction l with
  | nil => simp [Rows.uptoBulkAll]
  | cons x r ih => have := one_le x; simp only [Rows.uptoBulkAll, List.length_cons]; omega

/-- a slice's places, and what they hold -/
theorem slice_le {H : Type} (elems spare : List (DataW H)) : elems.length + spare.length + 1 ≤ Rows.uptoBulk (.slice elems spare) := by
  have h1 := length_le elems
  have h2 := length_le spare
  simp only [Rows.uptoBulk]
  omega
theorem slice_elems {H : Type} (elems spare : List (DataW H)) : Rows.uptoBulkAll elems + 1 ≤ Rows.uptoBulk (.slice elems spare) := by
  simp only [Rows.uptoBulk]
  omega

/-- a string's letters -/
theorem string_eq {H : Type} (bytes : List UInt8) : Rows.uptoBulk (DataW.lit (H := H) (.string bytes)) = bytes.length + 1 := by
  simp [Rows.uptoBulk]

/-- THE BOUND, as the builder hands it over ('hk') -/
theorem bound {H : Type} {l : List (DataW H)} (hk : Rows.uptoSmall H l = true) : Rows.uptoBulkAll l ≤ 1048576 := by
  simpa [Rows.uptoSmall] using hk

/-- ROOM: a slice of n elements of b bytes, grown by append: below the 2^48 bytes that append, make and a Builder bear. Here n up to 2^21, b up to 4,096: put your own numbers. -/
theorem room {n b : Nat} (hn : n ≤ 2097152) (hb : b ≤ 4096) : (n + n / 4 + 192) * b ≤ 281474976710656 := by
  have h : (n + n / 4 + 192) * b ≤ 2621632 * 4096 := Nat.mul_le_mul (by omega) hb
  omega

end Go.Proofs.YtgecikpkjfomiaaGreatDoor.bulks

/- How the arguments of a law stand in memory: bytes that came in. -/
namespace Go.Stk
open Go Go.RowKit Go.Proofs Go.ChangeShapes Go.WideShapes Go.ChangeAt

theorem liesAt_noFit (P : Program) {u : TypeId} {k : IntKind} (hu : P.underlying u = some (.int k)) : ∀ (d : Nat) (row count off n : Nat), noFit P (sameLayout P P.depth · u) P.depth row = true → liesAt P d row count off u n = false
  | 0, _, _, _, _, _ => rfl
  | d + 1, row, count, off, n, h => by
    simp only [liesAt, hu, rowAt_noFit P _ _ _ h]
    rfl

/-- A row that holds a slice of bytes has bytes. -/
theorem lies_byte {row : TypeId} {count off n : Nat} (h : liesAt Tryz.prog Tryz.prog.depth row count off 5 n = true) : hasByte row = true := by
  cases hb : hasByte row with
  | true => rfl
  | false =>
    unfold hasByte at hb
    have := liesAt_noFit Tryz.prog Tryz.underlying5 Tryz.prog.depth row count off n (by simpa using hb)
    rw [this] at h
    cases h

section
variable {H : Type} {enc : TypeId × Value → H} {W : World}

set_option maxRecDepth 100000 in
/-- Bytes that came in. -/
theorem open_byt {base : Nat} {v : Value} {d : DataW H} {ps : List MemPlace} (hok : Value.okWide Tryz.prog W .any base 24 v) (h : DataW.Trod enc Tryz.prog W 0 (fun _ => true) true 24 v d ps) :
    ∃ l, Byt W v l ∧ l.length + 1 ≤ Go.Proofs.YtgecikpkjfomiaaGreatDoor.Rows.uptoBulk d := by
  obtain ⟨fuel, hf⟩ := h
  obtain ⟨a0, len, cap, rfl⟩ := okWide_slice Tryz.underlying24 hok
  rcases open_ints Tryz.underlying24 Tryz.underlying5 (by kernel_rfl) hf with ⟨hcs, hx⟩ | ⟨a, len', cap', zs, hcs, _, hl, hm, hz, hx, hcell, hwf⟩
  · injection hcs with hcs _
    injection hcs with e1 e2 e3
    subst e1 e2 e3
    exact ⟨[], Byt.nil W, by simp only [Prod.mk.injEq] at hx; rw [hx.1]; simp [Go.Proofs.YtgecikpkjfomiaaGreatDoor.Rows.uptoBulk]⟩
  · injection hcs with hcs _
    injection hcs with e1 e2 e3
    subst e1 e2 e3
    simp only [if_true] at hz
    have hlen : ((zs.take len).map fun z => UInt8.ofNat z.toNat).length = len := by simp; omega
    have hval : byV ((zs.take len).map fun z => UInt8.ofNat z.toNat) = (zs.take len).map (Value.int .u8) := by
      simp only [byV, List.map_map]
      refine List.map_congr_left fun z hz => ?_
      have := hwf z (List.mem_of_mem_take hz)
      simp only [Lit.wf, Bool.and_eq_true, decide_eq_true_eq] at this
      have e1 : IntKind.u8.min = 0 := by decide
      have e2 : IntKind.u8.max = 255 := by decide
      rw [e1, e2] at this
      simp only [Function.comp_apply, UInt8.toNat_ofNat']
      congr 1
      omega
    refine ⟨(zs.take len).map fun z => UInt8.ofNat z.toNat, ⟨by rw [byV_length, Nat.mul_one], ?_⟩, ?_⟩
    · rw [hlen]
      by_cases h0 : len = 0
      · subst h0
        exact .inl ⟨rfl, .inr ⟨a, cap, rfl, hm⟩⟩
      · obtain ⟨b, off, spot⟩ := a
        have hspot : spot = none := by simpa [Addr.add] using World.cell?_spot (hcell 0 (by omega))
        subst hspot
        simp only [Value.okWide, Tryz.underlying24, Cell.okWide, Cell.ok, World.has] at hok
        obtain ⟨_, _, _, _, row, cells, hsh, hlies⟩ := hok
        simp only [World.shape?] at hsh
        cases hb : W.heap[b]? with
        | none => rw [hb] at hsh; simp at hsh
        | some o =>
          rw [hb] at hsh
          cases o with
          | cells cur t fr =>
            simp only [Option.some.injEq, Prod.mk.injEq] at hsh
            obtain ⟨rfl, rfl⟩ := hsh
            have hc : ∀ i, i < cap → cur[off + i]? = some (.int .u8 (zs.getD i 0)) := by
              intro i hi
              have := hcell i (by omega)
              rwa [add_addr, cell_of hb] at this
            refine .inr ⟨b, off, cap, cur, (⟨t, .inl (lies_byte hlies)⟩, fr), rfl, hb, hl, hm, ?_, fun i x hx => ?_⟩
            · have := (Array.getElem?_eq_some_iff.1 (hc (cap - 1) (by omega))).1
              omega
            · rw [hval] at hx
              have hi : i < len := by
                have := (List.getElem?_eq_some_iff.1 hx).1
                simp at this
                omega
              rw [hc i (by omega), ← hx]
              simp [List.getElem?_take_of_lt hi, List.getD, show i < zs.length by omega]
          | _ => simp at hsh
    · simp only [Prod.mk.injEq] at hx
      rw [hx.1, hlen]
      have := Go.Proofs.YtgecikpkjfomiaaGreatDoor.bulks.slice_le (H := H) (lits .u8 (zs.take len)) (lits .u8 (zs.drop len))
      simp only [lits, List.length_map, List.length_take] at this
      simp only [lits]
      omega

set_option maxRecDepth 100000 in
/-- A manifest that came in. -/
theorem open_man {base : Nat} {v : Value} {d : DataW H} {ps : List MemPlace} (hok : Value.okWide Tryz.prog W .any base 23 v) (h : DataW.Trod enc Tryz.prog W 0 (fun _ => true) true 23 v d ps) :
    ∃ a s : Int, v = .agg #[.int .i64 a, .int .i64 s] := by
  obtain ⟨v0, v1, y0, y1, n, rfl, rfl, rfl, h0, h1⟩ := Joins.open_agg2 Tryz.underlying23 (by kernel_rfl) (by kernel_rfl) hok h
  obtain ⟨a, e0, _, _⟩ := DataW.trod_int Tryz.underlying3 h0
  obtain ⟨s, e1, _, _⟩ := DataW.trod_int Tryz.underlying3 h1
  injection e0 with e0 _
  injection e1 with e1 _
  subst e0 e1
  exact ⟨a, s, rfl⟩
end
end Go.Stk

/- Manifests that came in. -/
namespace Go.Stk
open Go Go.RowKit Go.Proofs Go.ChangeShapes Go.WideShapes Go.ChangeAt

theorem lt_cell {w : World} {b o : Nat} {v : Value} (h : w.cell? ⟨b, o, none⟩ = some v) : b < w.heap.size := by
  cases hb : w.heap[b]? with
  | none => simp [World.cell?, hb] at h
  | some x => exact lt_of hb

def numI : Value → Int
  | .int _ n => n
  | _ => 0

section
variable {H : Type} {enc : TypeId × Value → H} {W : World}

set_option maxRecDepth 100000 in
theorem open_mans {base : Nat} {v : Value} {d : DataW H} {ps : List MemPlace} (hok : Value.okWide Tryz.prog W .any base 34 v) (h : DataW.Trod enc Tryz.prog W 0 (fun _ => true) true 34 v d ps) :
    ∃ ms, Mans W v ms ∧ ms.length + 1 ≤ Go.Proofs.YtgecikpkjfomiaaGreatDoor.Rows.uptoBulk d := by
  obtain ⟨fuel, hf⟩ := h
  obtain ⟨a0, len, cap, rfl⟩ := okWide_slice Tryz.underlying34 hok
  rcases Deep.open_slice_pairs Tryz.underlying34 Tryz.underlying23 (by kernel_rfl) rfl rfl (by kernel_rfl) (by kernel_rfl) hf with ⟨hcs, hx⟩ | ⟨a, len', cap', m, n, V0, V1, D0, D1, P0, P1, hcs, _, hl, hm, hmm, hx, hcell⟩
  · injection hcs with hcs _
    injection hcs with e1 e2 e3
    subst e1 e2 e3
    refine ⟨[], ⟨none, 0, rfl, Nat.le_refl _, Nat.zero_le _, fun j m h => by simp at h⟩, ?_⟩
    simp only [Prod.mk.injEq] at hx
    rw [hx.1]
    simp [Go.Proofs.YtgecikpkjfomiaaGreatDoor.Rows.uptoBulk]
  · injection hcs with hcs _
    injection hcs with e1 e2 e3
    subst e1 e2 e3
    simp only [if_true] at hmm
    subst hmm
    refine ⟨(List.range len).map fun i => (numI (V0 i), numI (V1 i)), ⟨some a, m, by simp, by simpa using hl, hm, fun j x hj => ?_⟩, ?_⟩
    · have hjl : j < len := by
        have := (List.getElem?_eq_some_iff.1 hj).1
        simpa using this
      obtain ⟨c0, c1, t0, t1⟩ := hcell j (by omega)
      obtain ⟨n0, q0, _, _⟩ := DataW.trod_int Tryz.underlying3 t0
      obtain ⟨n1, q1, _, _⟩ := DataW.trod_int Tryz.underlying3 t1
      injection q0 with q0 _
      injection q1 with q1 _
      obtain ⟨b, off, spot⟩ := a
      have hspot : spot = none := by simpa [Addr.add] using World.cell?_spot (hcell 0 (by omega)).1
      subst hspot
      rw [add_addr] at c0 c1
      simp only [List.getElem?_map, List.getElem?_range hjl, Option.map_some, Option.some.injEq] at hj
      subst hj
      refine ⟨b, off, rfl, lt_cell c0, ?_, ?_⟩
      · rw [c0, q0]; rfl
      · rw [show off + j * 2 + 1 = off + (j * 2 + 1) by omega, c1, q1]; rfl
    · simp only [Prod.mk.injEq] at hx
      rw [hx.1]
      have := Go.Proofs.YtgecikpkjfomiaaGreatDoor.bulks.slice_le (H := H) ((List.range len).map fun i => .agg [D0 i, D1 i]) ((List.range (m - len)).map fun j => .agg [D0 (len + j), D1 (len + j)])
      simp only [List.length_map, List.length_range] at this ⊢
      omega
end
end Go.Stk

/- What the cards of a seat ask beside the walks: a world for the witness, whose package-level variables hold what their initialisers lay. -/
namespace Go.Stk
open Go Go.RowKit Go.Proofs Go.ChangeShapes Go.WideShapes Go.ChangeAt

theorem own : ownKnob Tryz.prog.godebug = none := by kernel_rfl
theorem laidOut : laidOutB Tryz.prog = true := by kernel_rfl

/-- The settled world with two blocks more (the errors' texts), the five variables holding what their initialisers lay. -/
noncomputable def laidWorld (os : Os) : World :=
  let N := (World.settled Tryz.prog os).heap.size
  let w0 := World.holding Tryz.prog os ⟨#[.cells #[.string ⟨#[118, 97, 108, 117, 101, 32, 111, 117, 116, 32, 111, 102, 32, 114, 97, 110, 103, 101]⟩] 225, .cells #[.string ⟨#[105, 110, 118, 97, 108, 105, 100, 32, 115, 121, 110, 116, 97, 120]⟩] 225], #[], []⟩
  let put (h : Array Obj) (g : Nat) (cs : Array Value) : Array Obj := h.modify g fun
    | .cells _ t frozen => .cells cs t frozen
    | o => o
  let h1 := put w0.heap 1 #[.iface 223 (.pointer (some ⟨N, 0, none⟩))]
  let h2 := put h1 0 #[.iface 223 (.pointer (some ⟨N + 1, 0, none⟩))]
  let h3 := put h2 2 #[.int .u64 1, .int .u64 10, .int .u64 100, .int .u64 1000, .int .u64 10000, .int .u64 100000, .int .u64 1000000, .int .u64 10000000, .int .u64 100000000, .int .u64 1000000000, .int .u64 10000000000, .int .u64 100000000000, .int .u64 1000000000000, .int .u64 10000000000000, .int .u64 100000000000000, .int .u64 1000000000000000, .int .u64 10000000000000000, .int .u64 100000000000000000, .int .u64 1000000000000000000, .int .u64 10000000000000000000]
  let h4 := put h3 3 #[.int .u8 0, .int .u8 1, .int .u8 28, .int .u8 2, .int .u8 29, .int .u8 14, .int .u8 24, .int .u8 3, .int .u8 30, .int .u8 22, .int .u8 20, .int .u8 15, .int .u8 25, .int .u8 17, .int .u8 4, .int .u8 8, .int .u8 31, .int .u8 27, .int .u8 13, .int .u8 23, .int .u8 21, .int .u8 19, .int .u8 16, .int .u8 7, .int .u8 26, .int .u8 12, .int .u8 18, .int .u8 6, .int .u8 11, .int .u8 5, .int .u8 10, .int .u8 9]
  let h5 := put h4 4 #[.int .u8 0, .int .u8 1, .int .u8 56, .int .u8 2, .int .u8 57, .int .u8 49, .int .u8 28, .int .u8 3, .int .u8 61, .int .u8 58, .int .u8 42, .int .u8 50, .int .u8 38, .int .u8 29, .int .u8 17, .int .u8 4, .int .u8 62, .int .u8 47, .int .u8 59, .int .u8 36, .int .u8 45, .int .u8 43, .int .u8 51, .int .u8 22, .int .u8 53, .int .u8 39, .int .u8 33, .int .u8 30, .int .u8 24, .int .u8 18, .int .u8 12, .int .u8 5, .int .u8 63, .int .u8 55, .int .u8 48, .int .u8 27, .int .u8 60, .int .u8 41, .int .u8 37, .int .u8 16, .int .u8 46, .int .u8 35, .int .u8 44, .int .u8 21, .int .u8 52, .int .u8 32, .int .u8 23, .int .u8 11, .int .u8 54, .int .u8 26, .int .u8 40, .int .u8 15, .int .u8 34, .int .u8 20, .int .u8 31, .int .u8 10, .int .u8 25, .int .u8 14, .int .u8 19, .int .u8 9, .int .u8 13, .int .u8 8, .int .u8 7, .int .u8 6]
  { w0 with heap := h5 }

theorem laid_met (os : Os) (args : Array Value) : laidMet Tryz.prog Go.Proofs.YtgecikpkjfomiaaGreatDoor.Rows.manifestBytesRow.laid ((laidWorld os).forCall (fun _ _ => 0) ⟨#[], args, []⟩).memory :=
  laidMet_of_run' 8 (by kernel_rfl) (by kernel_rfl)

section
variable {H : Type} {enc : TypeId × Value → H} {W W' : World}

theorem trodAll_stays {P : Program} (hl : laidOutB P = true) (hb : Below W.heap.size W W') {ts : List TypeId} : ∀ {vs : List Value} {ds : List (DataW H)} {ps : List MemPlace}, (ts.all fun t => P.readableRec t && decide (t < P.types.size)) = true →
    DataW.TrodAll enc P W 0 (fun _ => true) true ts vs ds ps → (∀ x ∈ ps, x.block < W.heap.size) → DataW.TrodAll enc P W' 0 (fun b => decide (b < W.heap.size)) true ts vs ds ps := by
  induction ts with
  | nil =>
    intro vs ds ps _ h _
    obtain ⟨rfl, rfl, rfl⟩ := trodAll_nil h
    exact trodAll_mk0
  | cons t ts ih =>
    intro vs ds ps hr h hlt
    obtain ⟨v, vs', d, ds', p, q, rfl, rfl, rfl, h0, h1⟩ := trodAll_cons h
    simp only [List.all_cons, Bool.and_eq_true, decide_eq_true_eq] at hr
    exact trodAll_cons_mk (Below.trod hl hr.1.1 hr.1.2 h0 hb (fun x hx => hlt x (by simp [hx]))) (ih hr.2 h1 (fun x hx => hlt x (by simp [hx])))

/-- What a law's walk gives of its row. -/
theorem post_law {fn : Func} {s : ChangeSpec} {args : Array Value} {ds : List (DataW H)} {p : List MemPlace} (hW : DataW.Whole enc Tryz.prog fn.params.toList s.vars false W args.toList ds [] p) (hv : s.vars = []) (hr : fn.resultTypes = #[4])
    (hread : (fn.params.toList.all fun t => Tryz.prog.readableRec t && decide (t < Tryz.prog.types.size)) = true) (hfn : s.fn H (ds ++ []) = { results := [.lit (.bool true)], args := ds }) (hk : Keep (fun _ => False) W W') :
    s.post enc Tryz.prog fn false true false false W args (.bool true) W' := by
  have hW' := hW
  obtain ⟨pa, pv, hA, hV, rfl, _, _⟩ := hW
  rw [hv] at hV
  obtain ⟨_, rfl⟩ := trodVars_none hV
  have hb : Below W.heap.size W W' := hk.below (fun _ h => h.elim)
  have hlt : ∀ x ∈ pa, x.block < W.heap.size := fun x hx => hW'.lt x (by simp [hx])
  refine ⟨ds, [], pa ++ [], [], pa, [], hW', ?_, ?_, ?_, hb.frame _, fun h => by cases h⟩
  · rw [hfn, hr]
    exact trodAll_mk1 (shut_bool Tryz.underlying4 _)
  · rw [hfn]
    exact trodAll_stays laidOut hb hread hA hlt
  · rw [hfn, hv]
    rfl

theorem wants_none {ts : List TypeId} (h : (ts.all fun t => !Tryz.prog.wantsStandIn t) = true) : ∀ t ∈ ts, Tryz.prog.wantsStandIn t = false := by
  intro t ht
  have := List.all_eq_true.1 h t ht
  simpa using this
end

end Go.Stk
