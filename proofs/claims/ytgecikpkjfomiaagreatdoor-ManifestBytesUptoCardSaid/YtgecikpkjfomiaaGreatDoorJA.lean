/- Proved: ManifestBytes (P26.1): a manifest's bytes, and what is read of any bytes, are the document's; what is handed in stays. Conditions: the arguments together are of bulk at most 1048576; the package-level variables that the row lists hold what the program's text lays (the card ties them to it). -/
import Derived.Test.YtgecikpkjfomiaaGreatDoorJA3
namespace Go.Proofs.YtgecikpkjfomiaaGreatDoor
open Go Go.RowKit Go.ChangeShapes Go.WideShapes Go.ChangeAt Go.Stk
namespace ManifestBytesP

set_option maxRecDepth 100000 in
/-- What the walk gives, of every argument. -/
theorem contract (H : Type) (enc : TypeId × Value → H) (F : Stop.Interp) (W : World) (base : Nat) (args : Array Value) (ds gs : List (DataW H)) (before : List MemPlace)
    (hval : ∀ (j : Nat) t v, Tryz.f3.params[j]? = some t → args[j]? = some v → Value.okWide Tryz.prog W .any base t v)
    (hW : DataW.Whole enc Tryz.prog Tryz.f3.params.toList (Rows.OpenSpec.upto Rows.manifestBytesSpec).vars false W args.toList ds gs before) (hsm : Rows.uptoSmall H (ds ++ gs) = true) (hL : laidMetH Tryz.prog Rows.manifestBytesUptoRow.laid W) (hsh : W.ShapedOpen Tryz.prog) :
    Calls Tryz.prog 3 args W fun e W' => ∃ v, e = .returned v ∧ ((Rows.OpenSpec.upto Rows.manifestBytesSpec).at F).post enc Tryz.prog Tryz.f3 false true false false W args v W' := by
  have hW' := hW
  obtain ⟨p, q, hA0, hV, rfl, hfz, hnd⟩ := hW
  have hA : DataW.TrodAll enc Tryz.prog W 0 (fun _ => true) true Tryz.f3.params.toList args.toList ds p := hA0
  have hVn : DataW.TrodVars enc Tryz.prog W (fun _ => true) [] gs q := hV
  obtain ⟨rfl, rfl⟩ := trodVars_none hVn
  have hsmall := bulks.bound hsm
  rw [List.append_nil] at hsmall hW'
  rw [Tryz.params3] at hA hval
  obtain ⟨v0, v1, d0, d1, p0, p1, rfl, rfl, rfl, h0, h1⟩ := trodAll_two hA
  obtain ⟨a, s, rfl⟩ := open_man (hval 0 _ v0 rfl rfl) h0
  obtain ⟨l, hb, hl⟩ := open_byt (hval 1 _ v1 rfl rfl) h1
  have hlen : l.length ≤ 35184372088832 := by
    simp only [Rows.uptoBulkAll] at hsmall
    omega
  have walk : Calls Tryz.prog 3 #[manV a s, v1] W (RetBool W true) := manifestBytes_any a s hb hlen
  clear hA0
  refine walk.mono fun e W' ⟨he, hk⟩ => ?_
  subst he
  exact ⟨_, rfl, post_law hW' rfl (by kernel_rfl) (by kernel_rfl) rfl hk⟩

theorem reads (os : Os) {H : Type} (enc : TypeId × Value → H) : ∃ places, DataW.whole enc Tryz.prog ((laidWorld os).forCall (fun _ _ => 0) ⟨#[], #[.agg #[.int .i64 0, .int .i64 0], .slice none 0 0], []⟩).memory Tryz.f3.params.toList Rows.manifestBytesSpec.vars false (#[.agg #[.int .i64 0, .int .i64 0], .slice none 0 0] : Array Value).toList 8 = some ([.agg [.lit (.int .i64 0), .lit (.int .i64 0)], .nil], [], places) :=
  ⟨[], by kernel_rfl⟩

set_option maxRecDepth 100000 in
theorem lifted (os : Os) (started : os.Started) (H : Type) (enc : TypeId × Value → H) (F : Stop.Interp) :
    ReturnsInHanded {} Tryz.checked os 3 .any ((Rows.OpenSpec.upto Rows.manifestBytesSpec).preRow enc Tryz.prog Tryz.f3 Rows.manifestBytesUptoRow.domain false Rows.manifestBytesUptoRow.laid) (((Rows.OpenSpec.upto Rows.manifestBytesSpec).at F).post enc Tryz.prog Tryz.f3 false true false false) := by
  obtain ⟨places, hx⟩ := reads os enc
  refine returnsInHanded_of_row (C := Tryz.checked) (s := Rows.OpenSpec.upto Rows.manifestBytesSpec) own started (by kernel_rfl) Tryz.func3
    (witness_row_atRef (enc := enc) (C := Tryz.checked) false (laidWorld os) #[.agg #[.int .i64 0, .int .i64 0], .slice none 0 0] rfl (by kernel_rfl) (by kernel_rfl) (by kernel_rfl)
      (OpenSpec.preRow_of_cond 8 hx (by kernel_rfl) (fun k hk => by cases hk; kernel_rfl) (by kernel_rfl) (laid_met os _))) ?_
  intro W base args ds gs before hval hW _ hc _ hL hsh _
  exact contract H enc F W base args ds gs before hval hW (hc _ rfl) hL hsh

theorem said : Rows.ManifestBytesUptoSaid :=
  OpenClaim.holds_of_cond 3 Tryz.f3 rfl rfl rfl rfl rfl rfl rfl ⟨rfl, rfl, rfl, rfl, rfl⟩ rfl rfl rfl rfl rfl (by kernel_rfl) Tryz.func3 (by kernel_rfl)
    (of_decide_eq_true (by kernel_rfl)) (by unfold Func.isWrapper; first | (rw [if_pos (by decide +kernel)]; kernel_rfl) | (rw [if_neg (by decide +kernel)]; exact ⟨rfl, rfl⟩))
    (fun os started H enc _ F => by rw [OpenClaim.pre_eq_preRow]; exact lifted os started H enc F)

theorem plain (f : FuncId) (fn : Func) (hf : Tryz.pinned.checked.prog.funcNamed "stook/stooklaw26.ManifestBytes" = some f) (hfn : Tryz.pinned.checked.prog.funcs[f]? = some fn) :
    true = Tryz.pinned.checked.prog.looks [] ∧ ∀ (j : Nat) t, fn.params[j]? = some t → Tryz.pinned.checked.prog.wantsStandIn t = false := by
  obtain rfl : f = 3 := Option.some.inj ((show Tryz.prog.funcNamed "stook/stooklaw26.ManifestBytes" = some 3 by kernel_rfl).symm.trans hf) |>.symm
  obtain rfl : fn = Tryz.f3 := (Option.some.inj (Tryz.func3.symm.trans hfn)).symm
  refine ⟨by kernel_rfl, fun j t ht => ?_⟩
  exact wants_none (ts := Tryz.f3.params.toList) (by kernel_rfl) t (by simpa using Array.mem_of_getElem? ht)

end ManifestBytesP

/-- The card of ManifestBytes, in its second form. -/
theorem manifestBytes_holds : Rows.ManifestBytesUptoCardSaid :=
  Claim7.holds_tied_plain_at .later [] _ _ _ _ ManifestBytesP.said (fun _ h => by cases h) (by kernel_rfl) (fun _ h => by cases h) manifestBytesUpto_row_tie rfl ⟨rfl, rfl⟩ (by kernel_rfl) rfl ManifestBytesP.plain (by kernel_rfl)

end Go.Proofs.YtgecikpkjfomiaaGreatDoor
