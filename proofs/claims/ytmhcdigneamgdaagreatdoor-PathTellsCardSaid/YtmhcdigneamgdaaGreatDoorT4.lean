/- PathTells: for any path, both texts of it are the same, and the chapter's rows hold. No condition beyond the row's own. -/
import Derived.Test.YtmhcdigneamgdaaGreatDoorT3
/- PathTells: for any path both texts are the same, and the chapter's rows hold: the row's statement and the card. No condition. -/
namespace Go.Proofs.YtmhcdigneamgdaaGreatDoor.PathTells
open Go.ChangeShapes Go.WideShapes Go.ChangeAt Go.RowKit Go.Proofs.YtmhcdigneamgdaaGreatDoorW.PrintWords Go.Proofs.YtmhcdigneamgdaaGreatDoorW.PrintMore Go.Proofs.YtmhcdigneamgdaaGreatDoor.G Go.Proofs.YtmhcdigneamgdaaGreatDoor.Crd
set_option linter.unusedVariables false

theorem own : ownKnob Tryz.prog.godebug = none := by kernel_rfl
theorem mn_size (s : ByteArray) : (s.extract 0 (mn (s.size : Int) 300).toNat).size ≤ 300 := by
  rw [ByteArray.size_extract]
  unfold mn
  split <;> omega
set_option maxRecDepth 100000 in
theorem lifted (os : Os) (started : os.Started) (H : Type) (enc : TypeId × Value → H) (F : Stop.Interp) :
    ReturnsInHanded {} Tryz.checked os 3 .any ((OpenSpec.ofChange Rows.pathTellsSpec).preRow enc Tryz.prog Tryz.f3 Rows.pathTellsRow.domain false Rows.pathTellsRow.laid) (((OpenSpec.ofChange Rows.pathTellsSpec).at F).post enc Tryz.prog Tryz.f3 false true false false) := by
  refine returnsInHanded_of_row (C := Tryz.checked) (s := OpenSpec.ofChange Rows.pathTellsSpec) own started (by kernel_rfl) Tryz.func3
    (ChangeSpec.witness_shaped (s := Rows.pathTellsSpec) (enc := enc) (C := Tryz.checked) (os := os) (X := fun w _ => laidMetH Tryz.prog laidL w) false (startW os) #[.agg #[.bool false, .bool false, .slice none 0 0, .string ⟨#[]⟩, .string ⟨#[]⟩]] 8 (start_os os) (start_shaped os _) (by kernel_rfl) (by kernel_rfl) (by kernel_rfl) (start_met os _)) ?_
  intro W base args ds gs before hval0 hW _ _ _ hL hSh _
  have hval : ∀ (j : Nat) t v, Tryz.f3.params[j]? = some t → args[j]? = some v → Value.okWide Tryz.prog W .any base t v := hval0
  have hW' := hW
  obtain ⟨p, q, hA0, hV, rfl, hfz, hnd⟩ := hW
  have hA : DataW.TrodAll enc Tryz.prog W 0 (fun _ => true) true Tryz.f3.params.toList args.toList ds p := hA0
  rw [Tryz.params3] at hA hval
  obtain ⟨v0, vs0, d0, ds0, p0, q0, hargs, rfl, rfl, h0, r0⟩ := trodAll_cons hA
  obtain ⟨rfl, rfl, rfl⟩ := trodAll_nil r0
  obtain rfl : args = #[v0] := by cases args; simp_all
  obtain ⟨rfl, rfl⟩ := trodVars_none hV
  have k0 := h0
  have lt0 : ∀ x ∈ p0, x.block < W.heap.size := by obtain ⟨m, hm⟩ := k0; exact DataW.trod_lt m _ _ _ hm
  obtain ⟨a, b, A, c, l, s, t, rfl, hC, hc⟩ := open_path (hval 0 26 v0 rfl rfl) h0
  clear hA0 hval0
  have hG := glob_of hL hSh
  obtain ⟨k, r, h1, h2⟩ := pure_tells a b l (s.extract 0 (mn (s.size : Int) 300).toNat) (t.extract 0 (mn (t.size : Int) 300).toNat) (mn_size s) (mn_size t)
  refine (law_tells k a b A c l s t _ _ r W hC hc rfl rfl h1 h2 hG).mono fun e W' ⟨he, bel⟩ => ?_
  subst he
  exact ⟨_, rfl, _, _, _, [], _, [], hW', trodAll_mk1 (shut_bool Tryz.underlying4 _), trodAll_cons_mk (Below.trod laidOut (by kernel_rfl) (of_decide_eq_true (by kernel_rfl)) k0 bel lt0) trodAll_mk0, rfl, bel.frame _, fun h => by cases h⟩

theorem said : Rows.PathTellsSaid :=
  OpenClaim.holds_of_cond 3 Tryz.f3 rfl rfl rfl rfl rfl rfl rfl ⟨rfl, rfl, rfl, rfl, rfl⟩ rfl rfl rfl rfl rfl (by kernel_rfl) Tryz.func3 (by kernel_rfl)
    (of_decide_eq_true (by kernel_rfl)) (by unfold Func.isWrapper; first | (rw [if_pos (by decide +kernel)]; kernel_rfl) | (rw [if_neg (by decide +kernel)]; exact ⟨rfl, rfl⟩))
    (fun os started H enc _ F => by rw [OpenClaim.pre_eq_preRow]; exact lifted os started H enc F)
theorem plain (f : FuncId) (fn : Func) (hf : Tryz.pinned.checked.prog.funcNamed "postrider/postriderlaw06.PathTells" = some f) (hfn : Tryz.pinned.checked.prog.funcs[f]? = some fn) :
    false = Tryz.pinned.checked.prog.looks [] ∧ ∀ (j : Nat) t, fn.params[j]? = some t → Tryz.pinned.checked.prog.wantsStandIn t = false := by
  obtain rfl : f = 3 := Option.some.inj ((show Tryz.prog.funcNamed "postrider/postriderlaw06.PathTells" = some 3 by kernel_rfl).symm.trans hf) |>.symm
  obtain rfl : fn = Tryz.f3 := (Option.some.inj (Tryz.func3.symm.trans hfn)).symm
  refine ⟨by kernel_rfl, fun j t ht => ?_⟩
  rw [Tryz.params3] at ht
  obtain rfl : t = 26 := by simpa using Array.mem_of_getElem? ht
  exact (show Tryz.prog.wantsStandIn 26 = false by kernel_rfl)
end Go.Proofs.YtmhcdigneamgdaaGreatDoor.PathTells
namespace Go.Proofs.YtmhcdigneamgdaaGreatDoor
/-- The tied card. -/
theorem pathTells_holds : Rows.PathTellsCardSaid :=
  Claim7.holds_tied_plain_at .later [] _ _ _ _ PathTells.said (fun _ h => by cases h) (by kernel_rfl) (fun _ h => by cases h) pathTells_row_tie rfl ⟨rfl, rfl⟩ (by kernel_rfl) rfl PathTells.plain (by kernel_rfl)
#print axioms pathTells_holds
end Go.Proofs.YtmhcdigneamgdaaGreatDoor
