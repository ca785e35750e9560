/- Proved: ManifestWrites (P26.2): whatever is written, with whatever room and whatever else is there, what is read behind it is the document's, and so are the errors (the first 10 manifests). Conditions: the arguments together are of bulk at most 1048576; the package-level variables that the row lists hold what the program's text lays (the card ties them to it). -/
import Derived.Test.YtgecikpkjfomiaaGreatDoorJB3
namespace Go.Proofs.YtgecikpkjfomiaaGreatDoor
open Go Go.RowKit Go.ChangeShapes Go.WideShapes Go.ChangeAt Go.Stk
namespace ManifestWritesP

set_option maxRecDepth 100000 in
/-- What the walk gives, of every argument. -/
theorem contract (H : Type) (enc : TypeId × Value → H) (F : Stop.Interp) (W : World) (base : Nat) (args : Array Value) (ds gs : List (DataW H)) (before : List MemPlace)
    (hval : ∀ (j : Nat) t v, Tryz.f4.params[j]? = some t → args[j]? = some v → Value.okWide Tryz.prog W .any base t v)
    (hW : DataW.Whole enc Tryz.prog Tryz.f4.params.toList (Rows.OpenSpec.upto Rows.manifestWritesSpec).vars false W args.toList ds gs before) (hsm : Rows.uptoSmall H (ds ++ gs) = true) (_hL : laidMetH Tryz.prog Rows.manifestWritesUptoRow.laid W) (_hsh : W.ShapedOpen Tryz.prog) :
    Calls Tryz.prog 4 args W fun e W' => ∃ v, e = .returned v ∧ ((Rows.OpenSpec.upto Rows.manifestWritesSpec).at F).post enc Tryz.prog Tryz.f4 false true false false W args v W' := by
  have hW' := hW
  obtain ⟨p, q, hA0, hV, rfl, hfz, hnd⟩ := hW
  have hA : DataW.TrodAll enc Tryz.prog W 0 (fun _ => true) true Tryz.f4.params.toList args.toList ds p := hA0
  have hVn : DataW.TrodVars enc Tryz.prog W (fun _ => true) [] gs q := hV
  obtain ⟨rfl, rfl⟩ := trodVars_none hVn
  have hsmall := bulks.bound hsm
  rw [List.append_nil] at hsmall hW'
  rw [Tryz.params4] at hA hval
  obtain ⟨v0, vs0, d0, ds0, p0, q0, hargs, rfl, rfl, h0, r0⟩ := trodAll_cons hA
  obtain ⟨v1, vs1, d1, ds1, p1, q1, rfl, rfl, rfl, h1, r1⟩ := trodAll_cons r0
  obtain ⟨v2, vs2, d2, ds2, p2, q2, rfl, rfl, rfl, h2, r2⟩ := trodAll_cons r1
  obtain ⟨rfl, rfl, rfl⟩ := trodAll_nil r2
  obtain rfl : args = #[v0, v1, v2] := by cases args; simp_all
  obtain ⟨n, rfl, _, _, _⟩ := open_int Tryz.underlying3 (hval 0 _ v0 rfl rfl) h0
  obtain ⟨ms, hms, hml⟩ := open_mans (hval 1 _ v1 rfl rfl) h1
  obtain ⟨l, hb, hl⟩ := open_byt (hval 2 _ v2 rfl rfl) h2
  have hlen : l.length ≤ 1048576 := by
    simp only [Rows.uptoBulkAll] at hsmall
    omega
  have walk : Calls Tryz.prog 4 #[.int .i64 n, v1, v2] W (RetBool W true) := by
    by_cases hn : n < 0 ∨ 1048576 < n
    · exact manifestWrites_bad n v1 v2 hn W
    · obtain ⟨room, rfl⟩ : ∃ room : Nat, n = room := ⟨n.toNat, by omega⟩
      exact manifestWrites_any room hms hb (by omega) hlen
  clear hA0
  refine walk.mono fun e W' ⟨he, hk⟩ => ?_
  subst he
  exact ⟨_, rfl, post_law hW' rfl (by kernel_rfl) (by kernel_rfl) rfl hk⟩

theorem reads (os : Os) {H : Type} (enc : TypeId × Value → H) : ∃ places, DataW.whole enc Tryz.prog ((laidWorld os).forCall (fun _ _ => 0) ⟨#[], #[.int .i64 0, .slice none 0 0, .slice none 0 0], []⟩).memory Tryz.f4.params.toList Rows.manifestWritesSpec.vars false (#[.int .i64 0, .slice none 0 0, .slice none 0 0] : Array Value).toList 8 = some ([.lit (.int .i64 0), .nil, .nil], [], places) :=
  ⟨[], by kernel_rfl⟩

set_option maxRecDepth 100000 in
theorem lifted (os : Os) (started : os.Started) (H : Type) (enc : TypeId × Value → H) (F : Stop.Interp) :
    ReturnsInHanded {} Tryz.checked os 4 .any ((Rows.OpenSpec.upto Rows.manifestWritesSpec).preRow enc Tryz.prog Tryz.f4 Rows.manifestWritesUptoRow.domain false Rows.manifestWritesUptoRow.laid) (((Rows.OpenSpec.upto Rows.manifestWritesSpec).at F).post enc Tryz.prog Tryz.f4 false true false false) := by
  obtain ⟨places, hx⟩ := reads os enc
  refine returnsInHanded_of_row (C := Tryz.checked) (s := Rows.OpenSpec.upto Rows.manifestWritesSpec) own started (by kernel_rfl) Tryz.func4
    (witness_row_atRef (enc := enc) (C := Tryz.checked) false (laidWorld os) #[.int .i64 0, .slice none 0 0, .slice none 0 0] rfl (by kernel_rfl) (by kernel_rfl) (by kernel_rfl)
      (OpenSpec.preRow_of_cond 8 hx (by kernel_rfl) (fun k hk => by cases hk; kernel_rfl) (by kernel_rfl) (laid_met os _))) ?_
  intro W base args ds gs before hval hW _ hc _ hL hsh _
  exact contract H enc F W base args ds gs before hval hW (hc _ rfl) hL hsh

theorem said : Rows.ManifestWritesUptoSaid :=
  OpenClaim.holds_of_cond 4 Tryz.f4 rfl rfl rfl rfl rfl rfl rfl ⟨rfl, rfl, rfl, rfl, rfl⟩ rfl rfl rfl rfl rfl (by kernel_rfl) Tryz.func4 (by kernel_rfl)
    (of_decide_eq_true (by kernel_rfl)) (by unfold Func.isWrapper; first | (rw [if_pos (by decide +kernel)]; kernel_rfl) | (rw [if_neg (by decide +kernel)]; exact ⟨rfl, rfl⟩))
    (fun os started H enc _ F => by rw [OpenClaim.pre_eq_preRow]; exact lifted os started H enc F)

theorem plain (f : FuncId) (fn : Func) (hf : Tryz.pinned.checked.prog.funcNamed "stook/stooklaw26.ManifestWrites" = some f) (hfn : Tryz.pinned.checked.prog.funcs[f]? = some fn) :
    true = Tryz.pinned.checked.prog.looks [] ∧ ∀ (j : Nat) t, fn.params[j]? = some t → Tryz.pinned.checked.prog.wantsStandIn t = false := by
  obtain rfl : f = 4 := Option.some.inj ((show Tryz.prog.funcNamed "stook/stooklaw26.ManifestWrites" = some 4 by kernel_rfl).symm.trans hf) |>.symm
  obtain rfl : fn = Tryz.f4 := (Option.some.inj (Tryz.func4.symm.trans hfn)).symm
  refine ⟨by kernel_rfl, fun j t ht => ?_⟩
  exact wants_none (ts := Tryz.f4.params.toList) (by kernel_rfl) t (by simpa using Array.mem_of_getElem? ht)

end ManifestWritesP

/-- The card of ManifestWrites, in its second form. -/
theorem manifestWrites_holds : Rows.ManifestWritesUptoCardSaid :=
  Claim7.holds_tied_plain_at .later [] _ _ _ _ ManifestWritesP.said (fun _ h => by cases h) (by kernel_rfl) (fun _ h => by cases h) manifestWritesUpto_row_tie rfl ⟨rfl, rfl⟩ (by kernel_rfl) rfl ManifestWritesP.plain (by kernel_rfl)

end Go.Proofs.YtgecikpkjfomiaaGreatDoor
