/- Parts of the proof, put together: Pas, Pal, Ppt, Prm, Frm, Tel, Tls, LwT, Rf4, Rf5, Rf6, PuT, Crd, Wit, Arg. -/
import Derived.Test.YtmhcdigneamgdaaGreatDoorT2
import Derived.Handy
import Derived.BigRegion
import Derived.Deep.RegionHeld3
import Derived.Test.YtmhcdigneamgdaaGreatDoorT0
import Derived.Test.YtmhcdigneamgdaaGreatDoorCards
import Derived.Test.YtmhcdigneamgdaaGreatDoorTie
import Derived.ProofKit
import Derived.LaidMore
import Derived.OpenShut
import Derived.Stop.Joined
import Derived.Deep.DeepHandedRow
import Derived.Lib.LaidTab
import Derived.Lay
import Derived.Shelf.Vars
import Derived.Laws.IdiomMaps
import Derived.SliceStrings
/- Walk of path.Parse: the way of an address. -/
namespace Go.Proofs.YtmhcdigneamgdaaGreatDoor.G
open Go.RowKit Go.Proofs.YtmhcdigneamgdaaGreatDoorW.PrintWords Go.Proofs.YtmhcdigneamgdaaGreatDoorW.PrintMore Go.Proofs.YtmhcdigneamgdaaGreatDoor.Qa Go.Proofs.YtmhcdigneamgdaaGreatDoor.Qb
attribute [local go_sem] max2_int max_two
set_option linter.unusedVariables false

set_option maxHeartbeats 8000000 in
set_option maxRecDepth 1000000 in
theorem parse_addr_ok (k : Nat) (a0 s1 s2 : ByteArray) (rt : List ByteArray) (m : Nat) (wr : Int) (al ad : ByteArray) (ae : Int) (w : World) (hG : Glob w) (hcp : strings_CutPrefix.f a0 ⟨#[60]⟩ = some (s1, true)) (hrt : path_route.f k s1 = some (rt, s2, true)) (hen : path_ends.f k s2 = some (m : Int)) (hm : m < s2.size) (hs : s2.size ≤ 4294967280) (hs0 : a0.size ≤ 4294967280)
    (hdm : path_domains.f k rt = some wr) (sm : Bool) (hsm : text_Same.f (s2.extract 0 m) master = some sm) (hcase : ((s2.extract 0 m).toList.isEmpty = false ∧ sm = false) ∨ ((rt.length : Int) == 0) = false) (had : addr_Parse.f k (s2.extract 0 m) = some (al, ad, ae)) (hw : wr = 0) (he : ae = 0) (hsz : (a0.size : Int) - ((s2.size - (m + 1) : Nat) : Int) ≤ 256) :
    Calls Tryz.prog 12 #[.string a0] w fun e w' => ∃ v2_ : Value, e = .returned (.tuple #[.agg #[.bool false, .bool false, v2_, .string al, .string ad], .string (s2.extract (m + 1) s2.size), .int .i64 0]) ∧ Kd.R Kd.string 9 w' w.heap.size (fun _ => True) v2_ rt ∧ Below w.heap.size w w' := by
  have HCP := Aside0.mk hcp
  have HRT := Aside0.mk hrt
  have HEN := Aside0.mk hen
  have HDM := Aside0.mk hdm
  have HG := Aside0.mk hG
  clear hcp hrt hen hdm hG
  have huP := Tryz.underlying26
  have huA := Tryz.underlying24
  have hm1 : (m : Int) < (s2.size : Int) := by omega
  have hm2 : (m : Int) + 1 ≤ (s2.size : Int) := by omega
  subst hw he
  have HSM := Aside0.mk hsm
  have HAD := Aside0.mk had
  unfold master at HSM
  clear hsm had
  cases hoB : (s2.extract 0 m).toList.isEmpty <;> cases sm
  · clear hcase
    have hoC : ¬ (s2.extract 0 m).toList = [] := by simpa using hoB
    go_enter Tryz.func12, Tryz.ntmps12
    go_wp2_with (first | ((with_reducible refine gate_dst (N := 2) rfl ?_); refine box_event ?hg (N := 2) ?hd (cs := #[.bool false, .bool false, .slice none 0 0, .string ⟨#[]⟩, .string ⟨#[]⟩]) (t := 26) ?hr ?_; (case hd => rfl); (case hg => rfl); (case hr => first | (go_simp; done) | (go_simp; rfl)); intro gb hg w2 hbox hb; have HB0 := Aside0.mk hb; have BK := Aside0.mk hbox; have GE := Aside0.mk (Nat.le_of_eq hg.symm); clear hb hbox hg; obtain ⟨hc0, hc1, hc2, hc3, hc4, hf0, hf1, hf2, hf3, hf4⟩ := five BK.out) | (go_at_call 27; (with_reducible refine (strings_CutPrefix.calls a0 ⟨#[60]⟩ s1 true _ HCP.out).mono ?_); rintro e' w' ⟨rfl, ⟨nd, rfl⟩⟩) | (go_at_call 28; (with_reducible refine (path_route.calls k s1 rt s2 true _ HRT.out ?hGG).mono ?_); (case hGG => exact HG.out.below (pw_below_drewN HB0.out _)); rintro e' w3 ⟨v0, rfl, hR, hb3⟩; obtain ⟨Ad, cp, rfl, hle, hC⟩ := Kd.R_reads hR; have HR3 := Aside0.mk (Kd.R_lower hR (show w.heap.size ≤ _ from HB0.out.size)); have HC3 := Aside0.mk hC; have HLE := Aside0.mk hle; have BK3 := Aside0.mk (blk_below (blk_drewN BK.out _) hb3); have HB3 := Aside0.mk (then_below (pw_below_drewN HB0.out _) hb3); clear hR hC hle hb3; clear hc0 hf0 hc1 hf1 hc2 hf2 hc3 hf3 hc4 hf4; obtain ⟨hc0, hc1, hc2, hc3, hc4, hf0, hf1, hf2, hf3, hf4⟩ := five BK3.out) | (go_at_call 29; (with_reducible refine (path_ends.calls k s2 (m : Int) _ HEN.out).mono ?_); rintro e' w4 ⟨rfl, hb4⟩; have BK4 := Aside0.mk (blk_below BK3.out hb4); have HB4 := Aside0.mk (then_below HB3.out hb4); have HR4 := Aside0.mk (Kd.R_below HR3.out hb4); have HC4 := Aside0.mk (Kd.C_below HC3.out hb4); clear hb4; clear hc0 hf0 hc1 hf1 hc2 hf2 hc3 hf3 hc4 hf4; obtain ⟨hc0, hc1, hc2, hc3, hc4, hf0, hf1, hf2, hf3, hf4⟩ := five BK4.out))
    go_region
    have hb5 : Below w4.heap.size w4 (w4.alloc (.cells #[.bool false, .bool false, .slice Ad rt.length cp, .string ⟨#[]⟩, .string ⟨#[]⟩] 26)).drew := below_drew (below_alloc (Below.refl _ _) _); have BK5 := Aside0.mk (blk_below BK4.out hb5); have BP5 := Aside0.mk (show (w4.alloc (.cells #[.bool false, .bool false, .slice Ad rt.length cp, .string ⟨#[]⟩, .string ⟨#[]⟩] 26)).drew.heap[w4.heap.size]? = some (.cells #[.bool false, .bool false, .slice Ad rt.length cp, .string ⟨#[]⟩, .string ⟨#[]⟩] 26 (0, 0)) from blk_drew (blk_new _ _)); have HB5 := Aside0.mk (then_below HB4.out hb5); have HR5 := Aside0.mk (Kd.R_below HR4.out hb5); have HC5 := Aside0.mk (Kd.C_below HC4.out hb5); have GP := Aside0.mk HB4.out.size; have hne : gb ≠ w4.heap.size := Nat.ne_of_lt (blk_lt BK4.out); have hne2 : w4.heap.size ≠ gb := fun h => hne h.symm; clear hb5 HR4 HC4 hc0 hf0 hc1 hf1 hc2 hf2 hc3 hf3 hc4 hf4; generalize (w4.alloc (.cells #[.bool false, .bool false, .slice Ad rt.length cp, .string ⟨#[]⟩, .string ⟨#[]⟩] 26)).drew = w5 at BK5 BP5 HB5 HR5 HC5 ⊢; clear BK4 HB4; generalize w4.heap.size = gp at BP5 GP hne hne2 ⊢; obtain ⟨hc0, hc1, hc2, hc3, hc4, hf0, hf1, hf2, hf3, hf4⟩ := five BK5.out; obtain ⟨pc0, pc1, pc2, pc3, pc4, pf0, pf1, pf2, pf3, pf4⟩ := five BP5.out
    go_wp2_with (first | (go_at_call 30; (with_reducible refine (path_domains.calls k Ad cp rt 0 _ HC5.out HLE.out HDM.out ?hGG).mono ?_); (case hGG => exact HG.out.below HB5.out); rintro e' w6 ⟨rfl, hb6⟩; have BK6 := Aside0.mk (blk_below BK5.out hb6); have BP6 := Aside0.mk (blk_below BP5.out hb6); have HB6 := Aside0.mk (then_below HB5.out hb6); have HR6 := Aside0.mk (Kd.R_below HR5.out hb6); have HC6 := Aside0.mk (Kd.C_below HC5.out hb6); clear hb6; clear hc0 hf0 hc1 hf1 hc2 hf2 hc3 hf3 hc4 hf4; clear pc0 pf0 pc1 pf1 pc2 pf2 pc3 pf3 pc4 pf4; obtain ⟨hc0, hc1, hc2, hc3, hc4, hf0, hf1, hf2, hf3, hf4⟩ := five BK6.out; obtain ⟨pc0, pc1, pc2, pc3, pc4, pf0, pf1, pf2, pf3, pf4⟩ := five BP6.out) | (go_at_call 31; (with_reducible refine (text_Same.calls (s2.extract 0 m) ⟨#[112, 111, 115, 116, 109, 97, 115, 116, 101, 114]⟩ _ _ HSM.out).mono ?_); rintro e' w7 ⟨rfl, hb7⟩; have BK7 := Aside0.mk (blk_below BK6.out hb7); have BP7 := Aside0.mk (blk_below BP6.out hb7); have HB7 := Aside0.mk (then_below HB6.out hb7); have HR7 := Aside0.mk (Kd.R_below HR6.out hb7); have HC7 := Aside0.mk (Kd.C_below HC6.out hb7); clear hb7; clear hc0 hf0 hc1 hf1 hc2 hf2 hc3 hf3 hc4 hf4; clear pc0 pf0 pc1 pf1 pc2 pf2 pc3 pf3 pc4 pf4; obtain ⟨hc0, hc1, hc2, hc3, hc4, hf0, hf1, hf2, hf3, hf4⟩ := five BK7.out; obtain ⟨pc0, pc1, pc2, pc3, pc4, pf0, pf1, pf2, pf3, pf4⟩ := five BP7.out) | (go_at_call 32; (with_reducible refine (addr_Parse.calls k (s2.extract 0 m) al ad 0 _ HAD.out ?hGG).mono ?_); (case hGG => exact HG.out.below HB7.out); rintro e' w8 ⟨rfl, hb8⟩; have BK8 := Aside0.mk (blk_below BK7.out hb8); have BP8 := Aside0.mk (blk_below BP7.out hb8); have HB8 := Aside0.mk (then_below HB7.out hb8); have HR8 := Aside0.mk (Kd.R_below HR7.out hb8); have HC8 := Aside0.mk (Kd.C_below HC7.out hb8); clear hb8; clear hc0 hf0 hc1 hf1 hc2 hf2 hc3 hf3 hc4 hf4; clear pc0 pf0 pc1 pf1 pc2 pf2 pc3 pf3 pc4 pf4; obtain ⟨hc0, hc1, hc2, hc3, hc4, hf0, hf1, hf2, hf3, hf4⟩ := five BK8.out; obtain ⟨pc0, pc1, pc2, pc3, pc4, pf0, pf1, pf2, pf3, pf4⟩ := five BP8.out) | ((with_reducible refine gate_dst (N := 14) rfl ?_); refine box_event ?hg (N := 14) ?hd (cs := #[.string ⟨#[]⟩, .string ⟨#[]⟩]) (t := 24) ?hr ?_; (case hd => rfl); (case hg => rfl); (case hr => first | (go_simp; done) | (go_simp; rfl)); intro ga hg w9 hbox hb9; have BA9 := Aside0.mk hbox; have GA := Aside0.mk (show w.heap.size ≤ ga from (by rw [hg]; exact HB8.out.size)); have hna : gb ≠ ga := (by rw [hg]; exact Nat.ne_of_lt (blk_lt BK8.out)); have hna2 : ga ≠ gb := fun h => hna h.symm; have hnp : gp ≠ ga := (by rw [hg]; exact Nat.ne_of_lt (blk_lt BP8.out)); have hnp2 : ga ≠ gp := fun h => hnp h.symm; clear hbox hg; have BK9 := Aside0.mk (blk_below BK8.out hb9); have BP9 := Aside0.mk (blk_below BP8.out hb9); have HB9 := Aside0.mk (then_below HB8.out hb9); have HR9 := Aside0.mk (Kd.R_below HR8.out hb9); have HC9 := Aside0.mk (Kd.C_below HC8.out hb9); clear hb9; clear hc0 hf0 hc1 hf1 hc2 hf2 hc3 hf3 hc4 hf4; clear pc0 pf0 pc1 pf1 pc2 pf2 pc3 pf3 pc4 pf4; obtain ⟨hc0, hc1, hc2, hc3, hc4, hf0, hf1, hf2, hf3, hf4⟩ := five BK9.out; obtain ⟨pc0, pc1, pc2, pc3, pc4, pf0, pf1, pf2, pf3, pf4⟩ := five BP9.out; have ac0 : w9.cell? ⟨ga, 0, none⟩ = some (.string ⟨#[]⟩) := (blk_cell BA9.out 0).trans rfl; have ac1 : w9.cell? ⟨ga, 1, none⟩ = some (.string ⟨#[]⟩) := (blk_cell BA9.out 1).trans rfl; have af0 := blk_frozen BA9.out 0; have af1 := blk_frozen BA9.out 1))
    refine bodyPost_ret (results_ctt rfl _ _ gb 26 #[.bool false, .bool false, .slice Ad rt.length cp, .string al, .string ad] (0, 0) _ rfl (by exact blk5 (blk_far (blk_far (blk_far (blk_far BK9.out (by exact hna) _) (by exact hna) _) (by exact hne) _) (by exact hne) _) rfl _ _ _ _ _) Tryz.underlying26 rfl (by kernel_rfl)) rfl ⟨_, rfl, by exact R5 (R1 (R1 (R1 (R1 HR9.out BA9.out (by decide) 0 _) (blk_set BA9.out 0 _) (by decide) 1 _) (blk_far (blk_far BP9.out (by exact hnp) _) (by exact hnp) _) (by decide) 3 _) (blk_set (blk_far (blk_far BP9.out (by exact hnp) _) (by exact hnp) _) 3 _) (by decide) 4 _) (blk_far (blk_far (blk_far (blk_far BK9.out (by exact hna) _) (by exact hna) _) (by exact hne) _) (by exact hne) _) (by decide) rfl _ _ _ _ _, by exact below5 (below_set (below_set (below_set (below_set HB9.out GA.out) GA.out) GP.out) GP.out) GE.out _ _ _ _ _⟩
  all_goals have hrl : ((rt.length : Int) == 0) = false := hcase.elim (fun h => by rcases h with ⟨h1, h2⟩; first | exact absurd (hoB.symm.trans h1) (by decide) | cases h2) id
  all_goals clear hcase
  · have hoC : ¬ (s2.extract 0 m).toList = [] := by simpa using hoB
    go_enter Tryz.func12, Tryz.ntmps12
    go_wp2_with (first | ((with_reducible refine gate_dst (N := 2) rfl ?_); refine box_event ?hg (N := 2) ?hd (cs := #[.bool false, .bool false, .slice none 0 0, .string ⟨#[]⟩, .string ⟨#[]⟩]) (t := 26) ?hr ?_; (case hd => rfl); (case hg => rfl); (case hr => first | (go_simp; done) | (go_simp; rfl)); intro gb hg w2 hbox hb; have HB0 := Aside0.mk hb; have BK := Aside0.mk hbox; have GE := Aside0.mk (Nat.le_of_eq hg.symm); clear hb hbox hg; obtain ⟨hc0, hc1, hc2, hc3, hc4, hf0, hf1, hf2, hf3, hf4⟩ := five BK.out) | (go_at_call 27; (with_reducible refine (strings_CutPrefix.calls a0 ⟨#[60]⟩ s1 true _ HCP.out).mono ?_); rintro e' w' ⟨rfl, ⟨nd, rfl⟩⟩) | (go_at_call 28; (with_reducible refine (path_route.calls k s1 rt s2 true _ HRT.out ?hGG).mono ?_); (case hGG => exact HG.out.below (pw_below_drewN HB0.out _)); rintro e' w3 ⟨v0, rfl, hR, hb3⟩; obtain ⟨Ad, cp, rfl, hle, hC⟩ := Kd.R_reads hR; have HR3 := Aside0.mk (Kd.R_lower hR (show w.heap.size ≤ _ from HB0.out.size)); have HC3 := Aside0.mk hC; have HLE := Aside0.mk hle; have BK3 := Aside0.mk (blk_below (blk_drewN BK.out _) hb3); have HB3 := Aside0.mk (then_below (pw_below_drewN HB0.out _) hb3); clear hR hC hle hb3; clear hc0 hf0 hc1 hf1 hc2 hf2 hc3 hf3 hc4 hf4; obtain ⟨hc0, hc1, hc2, hc3, hc4, hf0, hf1, hf2, hf3, hf4⟩ := five BK3.out) | (go_at_call 29; (with_reducible refine (path_ends.calls k s2 (m : Int) _ HEN.out).mono ?_); rintro e' w4 ⟨rfl, hb4⟩; have BK4 := Aside0.mk (blk_below BK3.out hb4); have HB4 := Aside0.mk (then_below HB3.out hb4); have HR4 := Aside0.mk (Kd.R_below HR3.out hb4); have HC4 := Aside0.mk (Kd.C_below HC3.out hb4); clear hb4; clear hc0 hf0 hc1 hf1 hc2 hf2 hc3 hf3 hc4 hf4; obtain ⟨hc0, hc1, hc2, hc3, hc4, hf0, hf1, hf2, hf3, hf4⟩ := five BK4.out))
    go_region
    have hb5 : Below w4.heap.size w4 (w4.alloc (.cells #[.bool false, .bool false, .slice Ad rt.length cp, .string ⟨#[]⟩, .string ⟨#[]⟩] 26)).drew := below_drew (below_alloc (Below.refl _ _) _); have BK5 := Aside0.mk (blk_below BK4.out hb5); have BP5 := Aside0.mk (show (w4.alloc (.cells #[.bool false, .bool false, .slice Ad rt.length cp, .string ⟨#[]⟩, .string ⟨#[]⟩] 26)).drew.heap[w4.heap.size]? = some (.cells #[.bool false, .bool false, .slice Ad rt.length cp, .string ⟨#[]⟩, .string ⟨#[]⟩] 26 (0, 0)) from blk_drew (blk_new _ _)); have HB5 := Aside0.mk (then_below HB4.out hb5); have HR5 := Aside0.mk (Kd.R_below HR4.out hb5); have HC5 := Aside0.mk (Kd.C_below HC4.out hb5); have GP := Aside0.mk HB4.out.size; have hne : gb ≠ w4.heap.size := Nat.ne_of_lt (blk_lt BK4.out); have hne2 : w4.heap.size ≠ gb := fun h => hne h.symm; clear hb5 HR4 HC4 hc0 hf0 hc1 hf1 hc2 hf2 hc3 hf3 hc4 hf4; generalize (w4.alloc (.cells #[.bool false, .bool false, .slice Ad rt.length cp, .string ⟨#[]⟩, .string ⟨#[]⟩] 26)).drew = w5 at BK5 BP5 HB5 HR5 HC5 ⊢; clear BK4 HB4; generalize w4.heap.size = gp at BP5 GP hne hne2 ⊢; obtain ⟨hc0, hc1, hc2, hc3, hc4, hf0, hf1, hf2, hf3, hf4⟩ := five BK5.out; obtain ⟨pc0, pc1, pc2, pc3, pc4, pf0, pf1, pf2, pf3, pf4⟩ := five BP5.out
    go_wp2_with (first | (go_at_call 30; (with_reducible refine (path_domains.calls k Ad cp rt 0 _ HC5.out HLE.out HDM.out ?hGG).mono ?_); (case hGG => exact HG.out.below HB5.out); rintro e' w6 ⟨rfl, hb6⟩; have BK6 := Aside0.mk (blk_below BK5.out hb6); have BP6 := Aside0.mk (blk_below BP5.out hb6); have HB6 := Aside0.mk (then_below HB5.out hb6); have HR6 := Aside0.mk (Kd.R_below HR5.out hb6); have HC6 := Aside0.mk (Kd.C_below HC5.out hb6); clear hb6; clear hc0 hf0 hc1 hf1 hc2 hf2 hc3 hf3 hc4 hf4; clear pc0 pf0 pc1 pf1 pc2 pf2 pc3 pf3 pc4 pf4; obtain ⟨hc0, hc1, hc2, hc3, hc4, hf0, hf1, hf2, hf3, hf4⟩ := five BK6.out; obtain ⟨pc0, pc1, pc2, pc3, pc4, pf0, pf1, pf2, pf3, pf4⟩ := five BP6.out) | (go_at_call 31; (with_reducible refine (text_Same.calls (s2.extract 0 m) ⟨#[112, 111, 115, 116, 109, 97, 115, 116, 101, 114]⟩ _ _ HSM.out).mono ?_); rintro e' w7 ⟨rfl, hb7⟩; have BK7 := Aside0.mk (blk_below BK6.out hb7); have BP7 := Aside0.mk (blk_below BP6.out hb7); have HB7 := Aside0.mk (then_below HB6.out hb7); have HR7 := Aside0.mk (Kd.R_below HR6.out hb7); have HC7 := Aside0.mk (Kd.C_below HC6.out hb7); clear hb7; clear hc0 hf0 hc1 hf1 hc2 hf2 hc3 hf3 hc4 hf4; clear pc0 pf0 pc1 pf1 pc2 pf2 pc3 pf3 pc4 pf4; obtain ⟨hc0, hc1, hc2, hc3, hc4, hf0, hf1, hf2, hf3, hf4⟩ := five BK7.out; obtain ⟨pc0, pc1, pc2, pc3, pc4, pf0, pf1, pf2, pf3, pf4⟩ := five BP7.out) | (go_at_call 32; (with_reducible refine (addr_Parse.calls k (s2.extract 0 m) al ad 0 _ HAD.out ?hGG).mono ?_); (case hGG => exact HG.out.below HB7.out); rintro e' w8 ⟨rfl, hb8⟩; have BK8 := Aside0.mk (blk_below BK7.out hb8); have BP8 := Aside0.mk (blk_below BP7.out hb8); have HB8 := Aside0.mk (then_below HB7.out hb8); have HR8 := Aside0.mk (Kd.R_below HR7.out hb8); have HC8 := Aside0.mk (Kd.C_below HC7.out hb8); clear hb8; clear hc0 hf0 hc1 hf1 hc2 hf2 hc3 hf3 hc4 hf4; clear pc0 pf0 pc1 pf1 pc2 pf2 pc3 pf3 pc4 pf4; obtain ⟨hc0, hc1, hc2, hc3, hc4, hf0, hf1, hf2, hf3, hf4⟩ := five BK8.out; obtain ⟨pc0, pc1, pc2, pc3, pc4, pf0, pf1, pf2, pf3, pf4⟩ := five BP8.out) | ((with_reducible refine gate_dst (N := 14) rfl ?_); refine box_event ?hg (N := 14) ?hd (cs := #[.string ⟨#[]⟩, .string ⟨#[]⟩]) (t := 24) ?hr ?_; (case hd => rfl); (case hg => rfl); (case hr => first | (go_simp; done) | (go_simp; rfl)); intro ga hg w9 hbox hb9; have BA9 := Aside0.mk hbox; have GA := Aside0.mk (show w.heap.size ≤ ga from (by rw [hg]; exact HB8.out.size)); have hna : gb ≠ ga := (by rw [hg]; exact Nat.ne_of_lt (blk_lt BK8.out)); have hna2 : ga ≠ gb := fun h => hna h.symm; have hnp : gp ≠ ga := (by rw [hg]; exact Nat.ne_of_lt (blk_lt BP8.out)); have hnp2 : ga ≠ gp := fun h => hnp h.symm; clear hbox hg; have BK9 := Aside0.mk (blk_below BK8.out hb9); have BP9 := Aside0.mk (blk_below BP8.out hb9); have HB9 := Aside0.mk (then_below HB8.out hb9); have HR9 := Aside0.mk (Kd.R_below HR8.out hb9); have HC9 := Aside0.mk (Kd.C_below HC8.out hb9); clear hb9; clear hc0 hf0 hc1 hf1 hc2 hf2 hc3 hf3 hc4 hf4; clear pc0 pf0 pc1 pf1 pc2 pf2 pc3 pf3 pc4 pf4; obtain ⟨hc0, hc1, hc2, hc3, hc4, hf0, hf1, hf2, hf3, hf4⟩ := five BK9.out; obtain ⟨pc0, pc1, pc2, pc3, pc4, pf0, pf1, pf2, pf3, pf4⟩ := five BP9.out; have ac0 : w9.cell? ⟨ga, 0, none⟩ = some (.string ⟨#[]⟩) := (blk_cell BA9.out 0).trans rfl; have ac1 : w9.cell? ⟨ga, 1, none⟩ = some (.string ⟨#[]⟩) := (blk_cell BA9.out 1).trans rfl; have af0 := blk_frozen BA9.out 0; have af1 := blk_frozen BA9.out 1))
    refine bodyPost_ret (results_ctt rfl _ _ gb 26 #[.bool false, .bool false, .slice Ad rt.length cp, .string al, .string ad] (0, 0) _ rfl (by exact blk5 (blk_far (blk_far (blk_far (blk_far BK9.out (by exact hna) _) (by exact hna) _) (by exact hne) _) (by exact hne) _) rfl _ _ _ _ _) Tryz.underlying26 rfl (by kernel_rfl)) rfl ⟨_, rfl, by exact R5 (R1 (R1 (R1 (R1 HR9.out BA9.out (by decide) 0 _) (blk_set BA9.out 0 _) (by decide) 1 _) (blk_far (blk_far BP9.out (by exact hnp) _) (by exact hnp) _) (by decide) 3 _) (blk_set (blk_far (blk_far BP9.out (by exact hnp) _) (by exact hnp) _) 3 _) (by decide) 4 _) (blk_far (blk_far (blk_far (blk_far BK9.out (by exact hna) _) (by exact hna) _) (by exact hne) _) (by exact hne) _) (by decide) rfl _ _ _ _ _, by exact below5 (below_set (below_set (below_set (below_set HB9.out GA.out) GA.out) GP.out) GP.out) GE.out _ _ _ _ _⟩
  all_goals have hoC : (s2.extract 0 m).toList = [] := by simpa using hoB
  all_goals (go_enter Tryz.func12, Tryz.ntmps12; go_wp2_with (first | ((with_reducible refine gate_dst (N := 2) rfl ?_); refine box_event ?hg (N := 2) ?hd (cs := #[.bool false, .bool false, .slice none 0 0, .string ⟨#[]⟩, .string ⟨#[]⟩]) (t := 26) ?hr ?_; (case hd => rfl); (case hg => rfl); (case hr => first | (go_simp; done) | (go_simp; rfl)); intro gb hg w2 hbox hb; have HB0 := Aside0.mk hb; have BK := Aside0.mk hbox; have GE := Aside0.mk (Nat.le_of_eq hg.symm); clear hb hbox hg; obtain ⟨hc0, hc1, hc2, hc3, hc4, hf0, hf1, hf2, hf3, hf4⟩ := five BK.out) | (go_at_call 27; (with_reducible refine (strings_CutPrefix.calls a0 ⟨#[60]⟩ s1 true _ HCP.out).mono ?_); rintro e' w' ⟨rfl, ⟨nd, rfl⟩⟩) | (go_at_call 28; (with_reducible refine (path_route.calls k s1 rt s2 true _ HRT.out ?hGG).mono ?_); (case hGG => exact HG.out.below (pw_below_drewN HB0.out _)); rintro e' w3 ⟨v0, rfl, hR, hb3⟩; obtain ⟨Ad, cp, rfl, hle, hC⟩ := Kd.R_reads hR; have HR3 := Aside0.mk (Kd.R_lower hR (show w.heap.size ≤ _ from HB0.out.size)); have HC3 := Aside0.mk hC; have HLE := Aside0.mk hle; have BK3 := Aside0.mk (blk_below (blk_drewN BK.out _) hb3); have HB3 := Aside0.mk (then_below (pw_below_drewN HB0.out _) hb3); clear hR hC hle hb3; clear hc0 hf0 hc1 hf1 hc2 hf2 hc3 hf3 hc4 hf4; obtain ⟨hc0, hc1, hc2, hc3, hc4, hf0, hf1, hf2, hf3, hf4⟩ := five BK3.out) | (go_at_call 29; (with_reducible refine (path_ends.calls k s2 (m : Int) _ HEN.out).mono ?_); rintro e' w4 ⟨rfl, hb4⟩; have BK4 := Aside0.mk (blk_below BK3.out hb4); have HB4 := Aside0.mk (then_below HB3.out hb4); have HR4 := Aside0.mk (Kd.R_below HR3.out hb4); have HC4 := Aside0.mk (Kd.C_below HC3.out hb4); clear hb4; clear hc0 hf0 hc1 hf1 hc2 hf2 hc3 hf3 hc4 hf4; obtain ⟨hc0, hc1, hc2, hc3, hc4, hf0, hf1, hf2, hf3, hf4⟩ := five BK4.out)); go_region; have hb5 : Below w4.heap.size w4 (w4.alloc (.cells #[.bool false, .bool false, .slice Ad rt.length cp, .string ⟨#[]⟩, .string ⟨#[]⟩] 26)).drew := below_drew (below_alloc (Below.refl _ _) _); have BK5 := Aside0.mk (blk_below BK4.out hb5); have BP5 := Aside0.mk (show (w4.alloc (.cells #[.bool false, .bool false, .slice Ad rt.length cp, .string ⟨#[]⟩, .string ⟨#[]⟩] 26)).drew.heap[w4.heap.size]? = some (.cells #[.bool false, .bool false, .slice Ad rt.length cp, .string ⟨#[]⟩, .string ⟨#[]⟩] 26 (0, 0)) from blk_drew (blk_new _ _)); have HB5 := Aside0.mk (then_below HB4.out hb5); have HR5 := Aside0.mk (Kd.R_below HR4.out hb5); have HC5 := Aside0.mk (Kd.C_below HC4.out hb5); have GP := Aside0.mk HB4.out.size; have hne : gb ≠ w4.heap.size := Nat.ne_of_lt (blk_lt BK4.out); have hne2 : w4.heap.size ≠ gb := fun h => hne h.symm; clear hb5 HR4 HC4 hc0 hf0 hc1 hf1 hc2 hf2 hc3 hf3 hc4 hf4; generalize (w4.alloc (.cells #[.bool false, .bool false, .slice Ad rt.length cp, .string ⟨#[]⟩, .string ⟨#[]⟩] 26)).drew = w5 at BK5 BP5 HB5 HR5 HC5 ⊢; clear BK4 HB4; generalize w4.heap.size = gp at BP5 GP hne hne2 ⊢; obtain ⟨hc0, hc1, hc2, hc3, hc4, hf0, hf1, hf2, hf3, hf4⟩ := five BK5.out; obtain ⟨pc0, pc1, pc2, pc3, pc4, pf0, pf1, pf2, pf3, pf4⟩ := five BP5.out; go_wp2_with (first | (go_at_call 30; (with_reducible refine (path_domains.calls k Ad cp rt 0 _ HC5.out HLE.out HDM.out ?hGG).mono ?_); (case hGG => exact HG.out.below HB5.out); rintro e' w6 ⟨rfl, hb6⟩; have BK6 := Aside0.mk (blk_below BK5.out hb6); have BP6 := Aside0.mk (blk_below BP5.out hb6); have HB6 := Aside0.mk (then_below HB5.out hb6); have HR6 := Aside0.mk (Kd.R_below HR5.out hb6); have HC6 := Aside0.mk (Kd.C_below HC5.out hb6); clear hb6; clear hc0 hf0 hc1 hf1 hc2 hf2 hc3 hf3 hc4 hf4; clear pc0 pf0 pc1 pf1 pc2 pf2 pc3 pf3 pc4 pf4; obtain ⟨hc0, hc1, hc2, hc3, hc4, hf0, hf1, hf2, hf3, hf4⟩ := five BK6.out; obtain ⟨pc0, pc1, pc2, pc3, pc4, pf0, pf1, pf2, pf3, pf4⟩ := five BP6.out) | (go_at_call 31; (with_reducible refine (text_Same.calls (s2.extract 0 m) ⟨#[112, 111, 115, 116, 109, 97, 115, 116, 101, 114]⟩ _ _ HSM.out).mono ?_); rintro e' w7 ⟨rfl, hb7⟩; have BK7 := Aside0.mk (blk_below BK6.out hb7); have BP7 := Aside0.mk (blk_below BP6.out hb7); have HB7 := Aside0.mk (then_below HB6.out hb7); have HR7 := Aside0.mk (Kd.R_below HR6.out hb7); have HC7 := Aside0.mk (Kd.C_below HC6.out hb7); clear hb7; clear hc0 hf0 hc1 hf1 hc2 hf2 hc3 hf3 hc4 hf4; clear pc0 pf0 pc1 pf1 pc2 pf2 pc3 pf3 pc4 pf4; obtain ⟨hc0, hc1, hc2, hc3, hc4, hf0, hf1, hf2, hf3, hf4⟩ := five BK7.out; obtain ⟨pc0, pc1, pc2, pc3, pc4, pf0, pf1, pf2, pf3, pf4⟩ := five BP7.out) | (go_at_call 32; (with_reducible refine (addr_Parse.calls k (s2.extract 0 m) al ad 0 _ HAD.out ?hGG).mono ?_); (case hGG => exact HG.out.below HB7.out); rintro e' w8 ⟨rfl, hb8⟩; have BK8 := Aside0.mk (blk_below BK7.out hb8); have BP8 := Aside0.mk (blk_below BP7.out hb8); have HB8 := Aside0.mk (then_below HB7.out hb8); have HR8 := Aside0.mk (Kd.R_below HR7.out hb8); have HC8 := Aside0.mk (Kd.C_below HC7.out hb8); clear hb8; clear hc0 hf0 hc1 hf1 hc2 hf2 hc3 hf3 hc4 hf4; clear pc0 pf0 pc1 pf1 pc2 pf2 pc3 pf3 pc4 pf4; obtain ⟨hc0, hc1, hc2, hc3, hc4, hf0, hf1, hf2, hf3, hf4⟩ := five BK8.out; obtain ⟨pc0, pc1, pc2, pc3, pc4, pf0, pf1, pf2, pf3, pf4⟩ := five BP8.out) | ((with_reducible refine gate_dst (N := 14) rfl ?_); refine box_event ?hg (N := 14) ?hd (cs := #[.string ⟨#[]⟩, .string ⟨#[]⟩]) (t := 24) ?hr ?_; (case hd => rfl); (case hg => rfl); (case hr => first | (go_simp; done) | (go_simp; rfl)); intro ga hg w9 hbox hb9; have BA9 := Aside0.mk hbox; have GA := Aside0.mk (show w.heap.size ≤ ga from (by rw [hg]; exact HB8.out.size)); have hna : gb ≠ ga := (by rw [hg]; exact Nat.ne_of_lt (blk_lt BK8.out)); have hna2 : ga ≠ gb := fun h => hna h.symm; have hnp : gp ≠ ga := (by rw [hg]; exact Nat.ne_of_lt (blk_lt BP8.out)); have hnp2 : ga ≠ gp := fun h => hnp h.symm; clear hbox hg; have BK9 := Aside0.mk (blk_below BK8.out hb9); have BP9 := Aside0.mk (blk_below BP8.out hb9); have HB9 := Aside0.mk (then_below HB8.out hb9); have HR9 := Aside0.mk (Kd.R_below HR8.out hb9); have HC9 := Aside0.mk (Kd.C_below HC8.out hb9); clear hb9; clear hc0 hf0 hc1 hf1 hc2 hf2 hc3 hf3 hc4 hf4; clear pc0 pf0 pc1 pf1 pc2 pf2 pc3 pf3 pc4 pf4; obtain ⟨hc0, hc1, hc2, hc3, hc4, hf0, hf1, hf2, hf3, hf4⟩ := five BK9.out; obtain ⟨pc0, pc1, pc2, pc3, pc4, pf0, pf1, pf2, pf3, pf4⟩ := five BP9.out; have ac0 : w9.cell? ⟨ga, 0, none⟩ = some (.string ⟨#[]⟩) := (blk_cell BA9.out 0).trans rfl; have ac1 : w9.cell? ⟨ga, 1, none⟩ = some (.string ⟨#[]⟩) := (blk_cell BA9.out 1).trans rfl; have af0 := blk_frozen BA9.out 0; have af1 := blk_frozen BA9.out 1)); refine bodyPost_ret (results_ctt rfl _ _ gb 26 #[.bool false, .bool false, .slice Ad rt.length cp, .string al, .string ad] (0, 0) _ rfl (by exact blk5 (blk_far (blk_far (blk_far (blk_far BK9.out (by exact hna) _) (by exact hna) _) (by exact hne) _) (by exact hne) _) rfl _ _ _ _ _) Tryz.underlying26 rfl (by kernel_rfl)) rfl ⟨_, rfl, by exact R5 (R1 (R1 (R1 (R1 HR9.out BA9.out (by decide) 0 _) (blk_set BA9.out 0 _) (by decide) 1 _) (blk_far (blk_far BP9.out (by exact hnp) _) (by exact hnp) _) (by decide) 3 _) (blk_set (blk_far (blk_far BP9.out (by exact hnp) _) (by exact hnp) _) 3 _) (by decide) 4 _) (blk_far (blk_far (blk_far (blk_far BK9.out (by exact hna) _) (by exact hna) _) (by exact hne) _) (by exact hne) _) (by decide) rfl _ _ _ _ _, by exact below5 (below_set (below_set (below_set (below_set HB9.out GA.out) GA.out) GP.out) GP.out) GE.out _ _ _ _ _⟩)

set_option maxHeartbeats 8000000 in
set_option maxRecDepth 1000000 in
theorem parse_addr_ls (k : Nat) (a0 s1 s2 : ByteArray) (rt : List ByteArray) (m : Nat) (wr : Int) (al ad : ByteArray) (ae : Int) (w : World) (hG : Glob w) (hcp : strings_CutPrefix.f a0 ⟨#[60]⟩ = some (s1, true)) (hrt : path_route.f k s1 = some (rt, s2, true)) (hen : path_ends.f k s2 = some (m : Int)) (hm : m < s2.size) (hs : s2.size ≤ 4294967280) (hs0 : a0.size ≤ 4294967280)
    (hdm : path_domains.f k rt = some wr) (sm : Bool) (hsm : text_Same.f (s2.extract 0 m) master = some sm) (hcase : ((s2.extract 0 m).toList.isEmpty = false ∧ sm = false) ∨ ((rt.length : Int) == 0) = false) (had : addr_Parse.f k (s2.extract 0 m) = some (al, ad, ae)) (hw : wr = 0) (he : ae = 0) (hsz : 256 < (a0.size : Int) - ((s2.size - (m + 1) : Nat) : Int)) :
    Calls Tryz.prog 12 #[.string a0] w fun e w' => ∃ v2_ : Value, e = .returned (.tuple #[.agg #[.bool false, .bool false, v2_, .string ⟨#[]⟩, .string ⟨#[]⟩], .string ⟨#[]⟩, .int .i64 3]) ∧ Kd.R Kd.string 9 w' w.heap.size (fun _ => True) v2_ [] ∧ Below w.heap.size w w' := by
  have HCP := Aside0.mk hcp
  have HRT := Aside0.mk hrt
  have HEN := Aside0.mk hen
  have HDM := Aside0.mk hdm
  have HG := Aside0.mk hG
  clear hcp hrt hen hdm hG
  have huP := Tryz.underlying26
  have huA := Tryz.underlying24
  have hm1 : (m : Int) < (s2.size : Int) := by omega
  have hm2 : (m : Int) + 1 ≤ (s2.size : Int) := by omega
  subst hw he
  have HSM := Aside0.mk hsm
  have HAD := Aside0.mk had
  unfold master at HSM
  clear hsm had
  cases hoB : (s2.extract 0 m).toList.isEmpty <;> cases sm
  · clear hcase
    have hoC : ¬ (s2.extract 0 m).toList = [] := by simpa using hoB
    go_enter Tryz.func12, Tryz.ntmps12
    go_wp2_with (first | ((with_reducible refine gate_dst (N := 2) rfl ?_); refine box_event ?hg (N := 2) ?hd (cs := #[.bool false, .bool false, .slice none 0 0, .string ⟨#[]⟩, .string ⟨#[]⟩]) (t := 26) ?hr ?_; (case hd => rfl); (case hg => rfl); (case hr => first | (go_simp; done) | (go_simp; rfl)); intro gb hg w2 hbox hb; have HB0 := Aside0.mk hb; have BK := Aside0.mk hbox; have GE := Aside0.mk (Nat.le_of_eq hg.symm); clear hb hbox hg; obtain ⟨hc0, hc1, hc2, hc3, hc4, hf0, hf1, hf2, hf3, hf4⟩ := five BK.out) | (go_at_call 27; (with_reducible refine (strings_CutPrefix.calls a0 ⟨#[60]⟩ s1 true _ HCP.out).mono ?_); rintro e' w' ⟨rfl, ⟨nd, rfl⟩⟩) | (go_at_call 28; (with_reducible refine (path_route.calls k s1 rt s2 true _ HRT.out ?hGG).mono ?_); (case hGG => exact HG.out.below (pw_below_drewN HB0.out _)); rintro e' w3 ⟨v0, rfl, hR, hb3⟩; obtain ⟨Ad, cp, rfl, hle, hC⟩ := Kd.R_reads hR; have HR3 := Aside0.mk (Kd.R_lower hR (show w.heap.size ≤ _ from HB0.out.size)); have HC3 := Aside0.mk hC; have HLE := Aside0.mk hle; have BK3 := Aside0.mk (blk_below (blk_drewN BK.out _) hb3); have HB3 := Aside0.mk (then_below (pw_below_drewN HB0.out _) hb3); clear hR hC hle hb3; clear hc0 hf0 hc1 hf1 hc2 hf2 hc3 hf3 hc4 hf4; obtain ⟨hc0, hc1, hc2, hc3, hc4, hf0, hf1, hf2, hf3, hf4⟩ := five BK3.out) | (go_at_call 29; (with_reducible refine (path_ends.calls k s2 (m : Int) _ HEN.out).mono ?_); rintro e' w4 ⟨rfl, hb4⟩; have BK4 := Aside0.mk (blk_below BK3.out hb4); have HB4 := Aside0.mk (then_below HB3.out hb4); have HR4 := Aside0.mk (Kd.R_below HR3.out hb4); have HC4 := Aside0.mk (Kd.C_below HC3.out hb4); clear hb4; clear hc0 hf0 hc1 hf1 hc2 hf2 hc3 hf3 hc4 hf4; obtain ⟨hc0, hc1, hc2, hc3, hc4, hf0, hf1, hf2, hf3, hf4⟩ := five BK4.out))
    go_region
    have hb5 : Below w4.heap.size w4 (w4.alloc (.cells #[.bool false, .bool false, .slice Ad rt.length cp, .string ⟨#[]⟩, .string ⟨#[]⟩] 26)).drew := below_drew (below_alloc (Below.refl _ _) _); have BK5 := Aside0.mk (blk_below BK4.out hb5); have BP5 := Aside0.mk (show (w4.alloc (.cells #[.bool false, .bool false, .slice Ad rt.length cp, .string ⟨#[]⟩, .string ⟨#[]⟩] 26)).drew.heap[w4.heap.size]? = some (.cells #[.bool false, .bool false, .slice Ad rt.length cp, .string ⟨#[]⟩, .string ⟨#[]⟩] 26 (0, 0)) from blk_drew (blk_new _ _)); have HB5 := Aside0.mk (then_below HB4.out hb5); have HR5 := Aside0.mk (Kd.R_below HR4.out hb5); have HC5 := Aside0.mk (Kd.C_below HC4.out hb5); have GP := Aside0.mk HB4.out.size; have hne : gb ≠ w4.heap.size := Nat.ne_of_lt (blk_lt BK4.out); have hne2 : w4.heap.size ≠ gb := fun h => hne h.symm; clear hb5 HR4 HC4 hc0 hf0 hc1 hf1 hc2 hf2 hc3 hf3 hc4 hf4; generalize (w4.alloc (.cells #[.bool false, .bool false, .slice Ad rt.length cp, .string ⟨#[]⟩, .string ⟨#[]⟩] 26)).drew = w5 at BK5 BP5 HB5 HR5 HC5 ⊢; clear BK4 HB4; generalize w4.heap.size = gp at BP5 GP hne hne2 ⊢; obtain ⟨hc0, hc1, hc2, hc3, hc4, hf0, hf1, hf2, hf3, hf4⟩ := five BK5.out; obtain ⟨pc0, pc1, pc2, pc3, pc4, pf0, pf1, pf2, pf3, pf4⟩ := five BP5.out
    go_wp2_with (first | (go_at_call 30; (with_reducible refine (path_domains.calls k Ad cp rt 0 _ HC5.out HLE.out HDM.out ?hGG).mono ?_); (case hGG => exact HG.out.below HB5.out); rintro e' w6 ⟨rfl, hb6⟩; have BK6 := Aside0.mk (blk_below BK5.out hb6); have BP6 := Aside0.mk (blk_below BP5.out hb6); have HB6 := Aside0.mk (then_below HB5.out hb6); have HR6 := Aside0.mk (Kd.R_below HR5.out hb6); have HC6 := Aside0.mk (Kd.C_below HC5.out hb6); clear hb6; clear hc0 hf0 hc1 hf1 hc2 hf2 hc3 hf3 hc4 hf4; clear pc0 pf0 pc1 pf1 pc2 pf2 pc3 pf3 pc4 pf4; obtain ⟨hc0, hc1, hc2, hc3, hc4, hf0, hf1, hf2, hf3, hf4⟩ := five BK6.out; obtain ⟨pc0, pc1, pc2, pc3, pc4, pf0, pf1, pf2, pf3, pf4⟩ := five BP6.out) | (go_at_call 31; (with_reducible refine (text_Same.calls (s2.extract 0 m) ⟨#[112, 111, 115, 116, 109, 97, 115, 116, 101, 114]⟩ _ _ HSM.out).mono ?_); rintro e' w7 ⟨rfl, hb7⟩; have BK7 := Aside0.mk (blk_below BK6.out hb7); have BP7 := Aside0.mk (blk_below BP6.out hb7); have HB7 := Aside0.mk (then_below HB6.out hb7); have HR7 := Aside0.mk (Kd.R_below HR6.out hb7); have HC7 := Aside0.mk (Kd.C_below HC6.out hb7); clear hb7; clear hc0 hf0 hc1 hf1 hc2 hf2 hc3 hf3 hc4 hf4; clear pc0 pf0 pc1 pf1 pc2 pf2 pc3 pf3 pc4 pf4; obtain ⟨hc0, hc1, hc2, hc3, hc4, hf0, hf1, hf2, hf3, hf4⟩ := five BK7.out; obtain ⟨pc0, pc1, pc2, pc3, pc4, pf0, pf1, pf2, pf3, pf4⟩ := five BP7.out) | (go_at_call 32; (with_reducible refine (addr_Parse.calls k (s2.extract 0 m) al ad 0 _ HAD.out ?hGG).mono ?_); (case hGG => exact HG.out.below HB7.out); rintro e' w8 ⟨rfl, hb8⟩; have BK8 := Aside0.mk (blk_below BK7.out hb8); have BP8 := Aside0.mk (blk_below BP7.out hb8); have HB8 := Aside0.mk (then_below HB7.out hb8); have HR8 := Aside0.mk (Kd.R_below HR7.out hb8); have HC8 := Aside0.mk (Kd.C_below HC7.out hb8); clear hb8; clear hc0 hf0 hc1 hf1 hc2 hf2 hc3 hf3 hc4 hf4; clear pc0 pf0 pc1 pf1 pc2 pf2 pc3 pf3 pc4 pf4; obtain ⟨hc0, hc1, hc2, hc3, hc4, hf0, hf1, hf2, hf3, hf4⟩ := five BK8.out; obtain ⟨pc0, pc1, pc2, pc3, pc4, pf0, pf1, pf2, pf3, pf4⟩ := five BP8.out) | ((with_reducible refine gate_dst (N := 14) rfl ?_); refine box_event ?hg (N := 14) ?hd (cs := #[.string ⟨#[]⟩, .string ⟨#[]⟩]) (t := 24) ?hr ?_; (case hd => rfl); (case hg => rfl); (case hr => first | (go_simp; done) | (go_simp; rfl)); intro ga hg w9 hbox hb9; have BA9 := Aside0.mk hbox; have GA := Aside0.mk (show w.heap.size ≤ ga from (by rw [hg]; exact HB8.out.size)); have hna : gb ≠ ga := (by rw [hg]; exact Nat.ne_of_lt (blk_lt BK8.out)); have hna2 : ga ≠ gb := fun h => hna h.symm; have hnp : gp ≠ ga := (by rw [hg]; exact Nat.ne_of_lt (blk_lt BP8.out)); have hnp2 : ga ≠ gp := fun h => hnp h.symm; clear hbox hg; have BK9 := Aside0.mk (blk_below BK8.out hb9); have BP9 := Aside0.mk (blk_below BP8.out hb9); have HB9 := Aside0.mk (then_below HB8.out hb9); have HR9 := Aside0.mk (Kd.R_below HR8.out hb9); have HC9 := Aside0.mk (Kd.C_below HC8.out hb9); clear hb9; clear hc0 hf0 hc1 hf1 hc2 hf2 hc3 hf3 hc4 hf4; clear pc0 pf0 pc1 pf1 pc2 pf2 pc3 pf3 pc4 pf4; obtain ⟨hc0, hc1, hc2, hc3, hc4, hf0, hf1, hf2, hf3, hf4⟩ := five BK9.out; obtain ⟨pc0, pc1, pc2, pc3, pc4, pf0, pf1, pf2, pf3, pf4⟩ := five BP9.out; have ac0 : w9.cell? ⟨ga, 0, none⟩ = some (.string ⟨#[]⟩) := (blk_cell BA9.out 0).trans rfl; have ac1 : w9.cell? ⟨ga, 1, none⟩ = some (.string ⟨#[]⟩) := (blk_cell BA9.out 1).trans rfl; have af0 := blk_frozen BA9.out 0; have af1 := blk_frozen BA9.out 1))
    refine bodyPost_ret (results_ctt rfl _ _ gb 26 #[.bool false, .bool false, .slice none 0 0, .string ⟨#[]⟩, .string ⟨#[]⟩] (0, 0) _ rfl (by exact blk5 (blk_far (blk_far (blk_far (blk_far BK9.out (by exact hna) _) (by exact hna) _) (by exact hne) _) (by exact hne) _) rfl _ _ _ _ _) Tryz.underlying26 rfl (by kernel_rfl)) rfl ⟨_, rfl, Kd.R_nil _ _ _ _ _, by exact below5 (below_set (below_set (below_set (below_set HB9.out GA.out) GA.out) GP.out) GP.out) GE.out _ _ _ _ _⟩
  all_goals have hrl : ((rt.length : Int) == 0) = false := hcase.elim (fun h => by rcases h with ⟨h1, h2⟩; first | exact absurd (hoB.symm.trans h1) (by decide) | cases h2) id
  all_goals clear hcase
  · have hoC : ¬ (s2.extract 0 m).toList = [] := by simpa using hoB
    go_enter Tryz.func12, Tryz.ntmps12
    go_wp2_with (first | ((with_reducible refine gate_dst (N := 2) rfl ?_); refine box_event ?hg (N := 2) ?hd (cs := #[.bool false, .bool false, .slice none 0 0, .string ⟨#[]⟩, .string ⟨#[]⟩]) (t := 26) ?hr ?_; (case hd => rfl); (case hg => rfl); (case hr => first | (go_simp; done) | (go_simp; rfl)); intro gb hg w2 hbox hb; have HB0 := Aside0.mk hb; have BK := Aside0.mk hbox; have GE := Aside0.mk (Nat.le_of_eq hg.symm); clear hb hbox hg; obtain ⟨hc0, hc1, hc2, hc3, hc4, hf0, hf1, hf2, hf3, hf4⟩ := five BK.out) | (go_at_call 27; (with_reducible refine (strings_CutPrefix.calls a0 ⟨#[60]⟩ s1 true _ HCP.out).mono ?_); rintro e' w' ⟨rfl, ⟨nd, rfl⟩⟩) | (go_at_call 28; (with_reducible refine (path_route.calls k s1 rt s2 true _ HRT.out ?hGG).mono ?_); (case hGG => exact HG.out.below (pw_below_drewN HB0.out _)); rintro e' w3 ⟨v0, rfl, hR, hb3⟩; obtain ⟨Ad, cp, rfl, hle, hC⟩ := Kd.R_reads hR; have HR3 := Aside0.mk (Kd.R_lower hR (show w.heap.size ≤ _ from HB0.out.size)); have HC3 := Aside0.mk hC; have HLE := Aside0.mk hle; have BK3 := Aside0.mk (blk_below (blk_drewN BK.out _) hb3); have HB3 := Aside0.mk (then_below (pw_below_drewN HB0.out _) hb3); clear hR hC hle hb3; clear hc0 hf0 hc1 hf1 hc2 hf2 hc3 hf3 hc4 hf4; obtain ⟨hc0, hc1, hc2, hc3, hc4, hf0, hf1, hf2, hf3, hf4⟩ := five BK3.out) | (go_at_call 29; (with_reducible refine (path_ends.calls k s2 (m : Int) _ HEN.out).mono ?_); rintro e' w4 ⟨rfl, hb4⟩; have BK4 := Aside0.mk (blk_below BK3.out hb4); have HB4 := Aside0.mk (then_below HB3.out hb4); have HR4 := Aside0.mk (Kd.R_below HR3.out hb4); have HC4 := Aside0.mk (Kd.C_below HC3.out hb4); clear hb4; clear hc0 hf0 hc1 hf1 hc2 hf2 hc3 hf3 hc4 hf4; obtain ⟨hc0, hc1, hc2, hc3, hc4, hf0, hf1, hf2, hf3, hf4⟩ := five BK4.out))
    go_region
    have hb5 : Below w4.heap.size w4 (w4.alloc (.cells #[.bool false, .bool false, .slice Ad rt.length cp, .string ⟨#[]⟩, .string ⟨#[]⟩] 26)).drew := below_drew (below_alloc (Below.refl _ _) _); have BK5 := Aside0.mk (blk_below BK4.out hb5); have BP5 := Aside0.mk (show (w4.alloc (.cells #[.bool false, .bool false, .slice Ad rt.length cp, .string ⟨#[]⟩, .string ⟨#[]⟩] 26)).drew.heap[w4.heap.size]? = some (.cells #[.bool false, .bool false, .slice Ad rt.length cp, .string ⟨#[]⟩, .string ⟨#[]⟩] 26 (0, 0)) from blk_drew (blk_new _ _)); have HB5 := Aside0.mk (then_below HB4.out hb5); have HR5 := Aside0.mk (Kd.R_below HR4.out hb5); have HC5 := Aside0.mk (Kd.C_below HC4.out hb5); have GP := Aside0.mk HB4.out.size; have hne : gb ≠ w4.heap.size := Nat.ne_of_lt (blk_lt BK4.out); have hne2 : w4.heap.size ≠ gb := fun h => hne h.symm; clear hb5 HR4 HC4 hc0 hf0 hc1 hf1 hc2 hf2 hc3 hf3 hc4 hf4; generalize (w4.alloc (.cells #[.bool false, .bool false, .slice Ad rt.length cp, .string ⟨#[]⟩, .string ⟨#[]⟩] 26)).drew = w5 at BK5 BP5 HB5 HR5 HC5 ⊢; clear BK4 HB4; generalize w4.heap.size = gp at BP5 GP hne hne2 ⊢; obtain ⟨hc0, hc1, hc2, hc3, hc4, hf0, hf1, hf2, hf3, hf4⟩ := five BK5.out; obtain ⟨pc0, pc1, pc2, pc3, pc4, pf0, pf1, pf2, pf3, pf4⟩ := five BP5.out
    go_wp2_with (first | (go_at_call 30; (with_reducible refine (path_domains.calls k Ad cp rt 0 _ HC5.out HLE.out HDM.out ?hGG).mono ?_); (case hGG => exact HG.out.below HB5.out); rintro e' w6 ⟨rfl, hb6⟩; have BK6 := Aside0.mk (blk_below BK5.out hb6); have BP6 := Aside0.mk (blk_below BP5.out hb6); have HB6 := Aside0.mk (then_below HB5.out hb6); have HR6 := Aside0.mk (Kd.R_below HR5.out hb6); have HC6 := Aside0.mk (Kd.C_below HC5.out hb6); clear hb6; clear hc0 hf0 hc1 hf1 hc2 hf2 hc3 hf3 hc4 hf4; clear pc0 pf0 pc1 pf1 pc2 pf2 pc3 pf3 pc4 pf4; obtain ⟨hc0, hc1, hc2, hc3, hc4, hf0, hf1, hf2, hf3, hf4⟩ := five BK6.out; obtain ⟨pc0, pc1, pc2, pc3, pc4, pf0, pf1, pf2, pf3, pf4⟩ := five BP6.out) | (go_at_call 31; (with_reducible refine (text_Same.calls (s2.extract 0 m) ⟨#[112, 111, 115, 116, 109, 97, 115, 116, 101, 114]⟩ _ _ HSM.out).mono ?_); rintro e' w7 ⟨rfl, hb7⟩; have BK7 := Aside0.mk (blk_below BK6.out hb7); have BP7 := Aside0.mk (blk_below BP6.out hb7); have HB7 := Aside0.mk (then_below HB6.out hb7); have HR7 := Aside0.mk (Kd.R_below HR6.out hb7); have HC7 := Aside0.mk (Kd.C_below HC6.out hb7); clear hb7; clear hc0 hf0 hc1 hf1 hc2 hf2 hc3 hf3 hc4 hf4; clear pc0 pf0 pc1 pf1 pc2 pf2 pc3 pf3 pc4 pf4; obtain ⟨hc0, hc1, hc2, hc3, hc4, hf0, hf1, hf2, hf3, hf4⟩ := five BK7.out; obtain ⟨pc0, pc1, pc2, pc3, pc4, pf0, pf1, pf2, pf3, pf4⟩ := five BP7.out) | (go_at_call 32; (with_reducible refine (addr_Parse.calls k (s2.extract 0 m) al ad 0 _ HAD.out ?hGG).mono ?_); (case hGG => exact HG.out.below HB7.out); rintro e' w8 ⟨rfl, hb8⟩; have BK8 := Aside0.mk (blk_below BK7.out hb8); have BP8 := Aside0.mk (blk_below BP7.out hb8); have HB8 := Aside0.mk (then_below HB7.out hb8); have HR8 := Aside0.mk (Kd.R_below HR7.out hb8); have HC8 := Aside0.mk (Kd.C_below HC7.out hb8); clear hb8; clear hc0 hf0 hc1 hf1 hc2 hf2 hc3 hf3 hc4 hf4; clear pc0 pf0 pc1 pf1 pc2 pf2 pc3 pf3 pc4 pf4; obtain ⟨hc0, hc1, hc2, hc3, hc4, hf0, hf1, hf2, hf3, hf4⟩ := five BK8.out; obtain ⟨pc0, pc1, pc2, pc3, pc4, pf0, pf1, pf2, pf3, pf4⟩ := five BP8.out) | ((with_reducible refine gate_dst (N := 14) rfl ?_); refine box_event ?hg (N := 14) ?hd (cs := #[.string ⟨#[]⟩, .string ⟨#[]⟩]) (t := 24) ?hr ?_; (case hd => rfl); (case hg => rfl); (case hr => first | (go_simp; done) | (go_simp; rfl)); intro ga hg w9 hbox hb9; have BA9 := Aside0.mk hbox; have GA := Aside0.mk (show w.heap.size ≤ ga from (by rw [hg]; exact HB8.out.size)); have hna : gb ≠ ga := (by rw [hg]; exact Nat.ne_of_lt (blk_lt BK8.out)); have hna2 : ga ≠ gb := fun h => hna h.symm; have hnp : gp ≠ ga := (by rw [hg]; exact Nat.ne_of_lt (blk_lt BP8.out)); have hnp2 : ga ≠ gp := fun h => hnp h.symm; clear hbox hg; have BK9 := Aside0.mk (blk_below BK8.out hb9); have BP9 := Aside0.mk (blk_below BP8.out hb9); have HB9 := Aside0.mk (then_below HB8.out hb9); have HR9 := Aside0.mk (Kd.R_below HR8.out hb9); have HC9 := Aside0.mk (Kd.C_below HC8.out hb9); clear hb9; clear hc0 hf0 hc1 hf1 hc2 hf2 hc3 hf3 hc4 hf4; clear pc0 pf0 pc1 pf1 pc2 pf2 pc3 pf3 pc4 pf4; obtain ⟨hc0, hc1, hc2, hc3, hc4, hf0, hf1, hf2, hf3, hf4⟩ := five BK9.out; obtain ⟨pc0, pc1, pc2, pc3, pc4, pf0, pf1, pf2, pf3, pf4⟩ := five BP9.out; have ac0 : w9.cell? ⟨ga, 0, none⟩ = some (.string ⟨#[]⟩) := (blk_cell BA9.out 0).trans rfl; have ac1 : w9.cell? ⟨ga, 1, none⟩ = some (.string ⟨#[]⟩) := (blk_cell BA9.out 1).trans rfl; have af0 := blk_frozen BA9.out 0; have af1 := blk_frozen BA9.out 1))
    refine bodyPost_ret (results_ctt rfl _ _ gb 26 #[.bool false, .bool false, .slice none 0 0, .string ⟨#[]⟩, .string ⟨#[]⟩] (0, 0) _ rfl (by exact blk5 (blk_far (blk_far (blk_far (blk_far BK9.out (by exact hna) _) (by exact hna) _) (by exact hne) _) (by exact hne) _) rfl _ _ _ _ _) Tryz.underlying26 rfl (by kernel_rfl)) rfl ⟨_, rfl, Kd.R_nil _ _ _ _ _, by exact below5 (below_set (below_set (below_set (below_set HB9.out GA.out) GA.out) GP.out) GP.out) GE.out _ _ _ _ _⟩
  all_goals have hoC : (s2.extract 0 m).toList = [] := by simpa using hoB
  all_goals (go_enter Tryz.func12, Tryz.ntmps12; go_wp2_with (first | ((with_reducible refine gate_dst (N := 2) rfl ?_); refine box_event ?hg (N := 2) ?hd (cs := #[.bool false, .bool false, .slice none 0 0, .string ⟨#[]⟩, .string ⟨#[]⟩]) (t := 26) ?hr ?_; (case hd => rfl); (case hg => rfl); (case hr => first | (go_simp; done) | (go_simp; rfl)); intro gb hg w2 hbox hb; have HB0 := Aside0.mk hb; have BK := Aside0.mk hbox; have GE := Aside0.mk (Nat.le_of_eq hg.symm); clear hb hbox hg; obtain ⟨hc0, hc1, hc2, hc3, hc4, hf0, hf1, hf2, hf3, hf4⟩ := five BK.out) | (go_at_call 27; (with_reducible refine (strings_CutPrefix.calls a0 ⟨#[60]⟩ s1 true _ HCP.out).mono ?_); rintro e' w' ⟨rfl, ⟨nd, rfl⟩⟩) | (go_at_call 28; (with_reducible refine (path_route.calls k s1 rt s2 true _ HRT.out ?hGG).mono ?_); (case hGG => exact HG.out.below (pw_below_drewN HB0.out _)); rintro e' w3 ⟨v0, rfl, hR, hb3⟩; obtain ⟨Ad, cp, rfl, hle, hC⟩ := Kd.R_reads hR; have HR3 := Aside0.mk (Kd.R_lower hR (show w.heap.size ≤ _ from HB0.out.size)); have HC3 := Aside0.mk hC; have HLE := Aside0.mk hle; have BK3 := Aside0.mk (blk_below (blk_drewN BK.out _) hb3); have HB3 := Aside0.mk (then_below (pw_below_drewN HB0.out _) hb3); clear hR hC hle hb3; clear hc0 hf0 hc1 hf1 hc2 hf2 hc3 hf3 hc4 hf4; obtain ⟨hc0, hc1, hc2, hc3, hc4, hf0, hf1, hf2, hf3, hf4⟩ := five BK3.out) | (go_at_call 29; (with_reducible refine (path_ends.calls k s2 (m : Int) _ HEN.out).mono ?_); rintro e' w4 ⟨rfl, hb4⟩; have BK4 := Aside0.mk (blk_below BK3.out hb4); have HB4 := Aside0.mk (then_below HB3.out hb4); have HR4 := Aside0.mk (Kd.R_below HR3.out hb4); have HC4 := Aside0.mk (Kd.C_below HC3.out hb4); clear hb4; clear hc0 hf0 hc1 hf1 hc2 hf2 hc3 hf3 hc4 hf4; obtain ⟨hc0, hc1, hc2, hc3, hc4, hf0, hf1, hf2, hf3, hf4⟩ := five BK4.out)); go_region; have hb5 : Below w4.heap.size w4 (w4.alloc (.cells #[.bool false, .bool false, .slice Ad rt.length cp, .string ⟨#[]⟩, .string ⟨#[]⟩] 26)).drew := below_drew (below_alloc (Below.refl _ _) _); have BK5 := Aside0.mk (blk_below BK4.out hb5); have BP5 := Aside0.mk (show (w4.alloc (.cells #[.bool false, .bool false, .slice Ad rt.length cp, .string ⟨#[]⟩, .string ⟨#[]⟩] 26)).drew.heap[w4.heap.size]? = some (.cells #[.bool false, .bool false, .slice Ad rt.length cp, .string ⟨#[]⟩, .string ⟨#[]⟩] 26 (0, 0)) from blk_drew (blk_new _ _)); have HB5 := Aside0.mk (then_below HB4.out hb5); have HR5 := Aside0.mk (Kd.R_below HR4.out hb5); have HC5 := Aside0.mk (Kd.C_below HC4.out hb5); have GP := Aside0.mk HB4.out.size; have hne : gb ≠ w4.heap.size := Nat.ne_of_lt (blk_lt BK4.out); have hne2 : w4.heap.size ≠ gb := fun h => hne h.symm; clear hb5 HR4 HC4 hc0 hf0 hc1 hf1 hc2 hf2 hc3 hf3 hc4 hf4; generalize (w4.alloc (.cells #[.bool false, .bool false, .slice Ad rt.length cp, .string ⟨#[]⟩, .string ⟨#[]⟩] 26)).drew = w5 at BK5 BP5 HB5 HR5 HC5 ⊢; clear BK4 HB4; generalize w4.heap.size = gp at BP5 GP hne hne2 ⊢; obtain ⟨hc0, hc1, hc2, hc3, hc4, hf0, hf1, hf2, hf3, hf4⟩ := five BK5.out; obtain ⟨pc0, pc1, pc2, pc3, pc4, pf0, pf1, pf2, pf3, pf4⟩ := five BP5.out; go_wp2_with (first | (go_at_call 30; (with_reducible refine (path_domains.calls k Ad cp rt 0 _ HC5.out HLE.out HDM.out ?hGG).mono ?_); (case hGG => exact HG.out.below HB5.out); rintro e' w6 ⟨rfl, hb6⟩; have BK6 := Aside0.mk (blk_below BK5.out hb6); have BP6 := Aside0.mk (blk_below BP5.out hb6); have HB6 := Aside0.mk (then_below HB5.out hb6); have HR6 := Aside0.mk (Kd.R_below HR5.out hb6); have HC6 := Aside0.mk (Kd.C_below HC5.out hb6); clear hb6; clear hc0 hf0 hc1 hf1 hc2 hf2 hc3 hf3 hc4 hf4; clear pc0 pf0 pc1 pf1 pc2 pf2 pc3 pf3 pc4 pf4; obtain ⟨hc0, hc1, hc2, hc3, hc4, hf0, hf1, hf2, hf3, hf4⟩ := five BK6.out; obtain ⟨pc0, pc1, pc2, pc3, pc4, pf0, pf1, pf2, pf3, pf4⟩ := five BP6.out) | (go_at_call 31; (with_reducible refine (text_Same.calls (s2.extract 0 m) ⟨#[112, 111, 115, 116, 109, 97, 115, 116, 101, 114]⟩ _ _ HSM.out).mono ?_); rintro e' w7 ⟨rfl, hb7⟩; have BK7 := Aside0.mk (blk_below BK6.out hb7); have BP7 := Aside0.mk (blk_below BP6.out hb7); have HB7 := Aside0.mk (then_below HB6.out hb7); have HR7 := Aside0.mk (Kd.R_below HR6.out hb7); have HC7 := Aside0.mk (Kd.C_below HC6.out hb7); clear hb7; clear hc0 hf0 hc1 hf1 hc2 hf2 hc3 hf3 hc4 hf4; clear pc0 pf0 pc1 pf1 pc2 pf2 pc3 pf3 pc4 pf4; obtain ⟨hc0, hc1, hc2, hc3, hc4, hf0, hf1, hf2, hf3, hf4⟩ := five BK7.out; obtain ⟨pc0, pc1, pc2, pc3, pc4, pf0, pf1, pf2, pf3, pf4⟩ := five BP7.out) | (go_at_call 32; (with_reducible refine (addr_Parse.calls k (s2.extract 0 m) al ad 0 _ HAD.out ?hGG).mono ?_); (case hGG => exact HG.out.below HB7.out); rintro e' w8 ⟨rfl, hb8⟩; have BK8 := Aside0.mk (blk_below BK7.out hb8); have BP8 := Aside0.mk (blk_below BP7.out hb8); have HB8 := Aside0.mk (then_below HB7.out hb8); have HR8 := Aside0.mk (Kd.R_below HR7.out hb8); have HC8 := Aside0.mk (Kd.C_below HC7.out hb8); clear hb8; clear hc0 hf0 hc1 hf1 hc2 hf2 hc3 hf3 hc4 hf4; clear pc0 pf0 pc1 pf1 pc2 pf2 pc3 pf3 pc4 pf4; obtain ⟨hc0, hc1, hc2, hc3, hc4, hf0, hf1, hf2, hf3, hf4⟩ := five BK8.out; obtain ⟨pc0, pc1, pc2, pc3, pc4, pf0, pf1, pf2, pf3, pf4⟩ := five BP8.out) | ((with_reducible refine gate_dst (N := 14) rfl ?_); refine box_event ?hg (N := 14) ?hd (cs := #[.string ⟨#[]⟩, .string ⟨#[]⟩]) (t := 24) ?hr ?_; (case hd => rfl); (case hg => rfl); (case hr => first | (go_simp; done) | (go_simp; rfl)); intro ga hg w9 hbox hb9; have BA9 := Aside0.mk hbox; have GA := Aside0.mk (show w.heap.size ≤ ga from (by rw [hg]; exact HB8.out.size)); have hna : gb ≠ ga := (by rw [hg]; exact Nat.ne_of_lt (blk_lt BK8.out)); have hna2 : ga ≠ gb := fun h => hna h.symm; have hnp : gp ≠ ga := (by rw [hg]; exact Nat.ne_of_lt (blk_lt BP8.out)); have hnp2 : ga ≠ gp := fun h => hnp h.symm; clear hbox hg; have BK9 := Aside0.mk (blk_below BK8.out hb9); have BP9 := Aside0.mk (blk_below BP8.out hb9); have HB9 := Aside0.mk (then_below HB8.out hb9); have HR9 := Aside0.mk (Kd.R_below HR8.out hb9); have HC9 := Aside0.mk (Kd.C_below HC8.out hb9); clear hb9; clear hc0 hf0 hc1 hf1 hc2 hf2 hc3 hf3 hc4 hf4; clear pc0 pf0 pc1 pf1 pc2 pf2 pc3 pf3 pc4 pf4; obtain ⟨hc0, hc1, hc2, hc3, hc4, hf0, hf1, hf2, hf3, hf4⟩ := five BK9.out; obtain ⟨pc0, pc1, pc2, pc3, pc4, pf0, pf1, pf2, pf3, pf4⟩ := five BP9.out; have ac0 : w9.cell? ⟨ga, 0, none⟩ = some (.string ⟨#[]⟩) := (blk_cell BA9.out 0).trans rfl; have ac1 : w9.cell? ⟨ga, 1, none⟩ = some (.string ⟨#[]⟩) := (blk_cell BA9.out 1).trans rfl; have af0 := blk_frozen BA9.out 0; have af1 := blk_frozen BA9.out 1)); refine bodyPost_ret (results_ctt rfl _ _ gb 26 #[.bool false, .bool false, .slice none 0 0, .string ⟨#[]⟩, .string ⟨#[]⟩] (0, 0) _ rfl (by exact blk5 (blk_far (blk_far (blk_far (blk_far BK9.out (by exact hna) _) (by exact hna) _) (by exact hne) _) (by exact hne) _) rfl _ _ _ _ _) Tryz.underlying26 rfl (by kernel_rfl)) rfl ⟨_, rfl, Kd.R_nil _ _ _ _ _, by exact below5 (below_set (below_set (below_set (below_set HB9.out GA.out) GA.out) GP.out) GP.out) GE.out _ _ _ _ _⟩)

set_option maxHeartbeats 8000000 in
set_option maxRecDepth 1000000 in
theorem parse_addr_l1 (k : Nat) (a0 s1 s2 : ByteArray) (rt : List ByteArray) (m : Nat) (wr : Int) (al ad : ByteArray) (ae : Int) (w : World) (hG : Glob w) (hcp : strings_CutPrefix.f a0 ⟨#[60]⟩ = some (s1, true)) (hrt : path_route.f k s1 = some (rt, s2, true)) (hen : path_ends.f k s2 = some (m : Int)) (hm : m < s2.size) (hs : s2.size ≤ 4294967280) (hs0 : a0.size ≤ 4294967280)
    (hdm : path_domains.f k rt = some wr) (sm : Bool) (hsm : text_Same.f (s2.extract 0 m) master = some sm) (hcase : ((s2.extract 0 m).toList.isEmpty = false ∧ sm = false) ∨ ((rt.length : Int) == 0) = false) (had : addr_Parse.f k (s2.extract 0 m) = some (al, ad, ae)) (h5 : (ae == 5) = false) (h6 : (wr == 5) = false) (hlt : wr < ae) (hne0 : (ae != 0) = true) :
    Calls Tryz.prog 12 #[.string a0] w fun e w' => ∃ v2_ : Value, e = .returned (.tuple #[.agg #[.bool false, .bool false, v2_, .string ⟨#[]⟩, .string ⟨#[]⟩], .string ⟨#[]⟩, .int .i64 3]) ∧ Kd.R Kd.string 9 w' w.heap.size (fun _ => True) v2_ [] ∧ Below w.heap.size w w' := by
  have HCP := Aside0.mk hcp
  have HRT := Aside0.mk hrt
  have HEN := Aside0.mk hen
  have HDM := Aside0.mk hdm
  have HG := Aside0.mk hG
  clear hcp hrt hen hdm hG
  have huP := Tryz.underlying26
  have huA := Tryz.underlying24
  have hm1 : (m : Int) < (s2.size : Int) := by omega
  have hm2 : (m : Int) + 1 ≤ (s2.size : Int) := by omega
  have HSM := Aside0.mk hsm
  have HAD := Aside0.mk had
  unfold master at HSM
  clear hsm had
  cases hoB : (s2.extract 0 m).toList.isEmpty <;> cases sm
  · clear hcase
    have hoC : ¬ (s2.extract 0 m).toList = [] := by simpa using hoB
    go_enter Tryz.func12, Tryz.ntmps12
    go_wp2_with (first | ((with_reducible refine gate_dst (N := 2) rfl ?_); refine box_event ?hg (N := 2) ?hd (cs := #[.bool false, .bool false, .slice none 0 0, .string ⟨#[]⟩, .string ⟨#[]⟩]) (t := 26) ?hr ?_; (case hd => rfl); (case hg => rfl); (case hr => first | (go_simp; done) | (go_simp; rfl)); intro gb hg w2 hbox hb; have HB0 := Aside0.mk hb; have BK := Aside0.mk hbox; have GE := Aside0.mk (Nat.le_of_eq hg.symm); clear hb hbox hg; obtain ⟨hc0, hc1, hc2, hc3, hc4, hf0, hf1, hf2, hf3, hf4⟩ := five BK.out) | (go_at_call 27; (with_reducible refine (strings_CutPrefix.calls a0 ⟨#[60]⟩ s1 true _ HCP.out).mono ?_); rintro e' w' ⟨rfl, ⟨nd, rfl⟩⟩) | (go_at_call 28; (with_reducible refine (path_route.calls k s1 rt s2 true _ HRT.out ?hGG).mono ?_); (case hGG => exact HG.out.below (pw_below_drewN HB0.out _)); rintro e' w3 ⟨v0, rfl, hR, hb3⟩; obtain ⟨Ad, cp, rfl, hle, hC⟩ := Kd.R_reads hR; have HR3 := Aside0.mk (Kd.R_lower hR (show w.heap.size ≤ _ from HB0.out.size)); have HC3 := Aside0.mk hC; have HLE := Aside0.mk hle; have BK3 := Aside0.mk (blk_below (blk_drewN BK.out _) hb3); have HB3 := Aside0.mk (then_below (pw_below_drewN HB0.out _) hb3); clear hR hC hle hb3; clear hc0 hf0 hc1 hf1 hc2 hf2 hc3 hf3 hc4 hf4; obtain ⟨hc0, hc1, hc2, hc3, hc4, hf0, hf1, hf2, hf3, hf4⟩ := five BK3.out) | (go_at_call 29; (with_reducible refine (path_ends.calls k s2 (m : Int) _ HEN.out).mono ?_); rintro e' w4 ⟨rfl, hb4⟩; have BK4 := Aside0.mk (blk_below BK3.out hb4); have HB4 := Aside0.mk (then_below HB3.out hb4); have HR4 := Aside0.mk (Kd.R_below HR3.out hb4); have HC4 := Aside0.mk (Kd.C_below HC3.out hb4); clear hb4; clear hc0 hf0 hc1 hf1 hc2 hf2 hc3 hf3 hc4 hf4; obtain ⟨hc0, hc1, hc2, hc3, hc4, hf0, hf1, hf2, hf3, hf4⟩ := five BK4.out))
    go_region
    have hb5 : Below w4.heap.size w4 (w4.alloc (.cells #[.bool false, .bool false, .slice Ad rt.length cp, .string ⟨#[]⟩, .string ⟨#[]⟩] 26)).drew := below_drew (below_alloc (Below.refl _ _) _); have BK5 := Aside0.mk (blk_below BK4.out hb5); have BP5 := Aside0.mk (show (w4.alloc (.cells #[.bool false, .bool false, .slice Ad rt.length cp, .string ⟨#[]⟩, .string ⟨#[]⟩] 26)).drew.heap[w4.heap.size]? = some (.cells #[.bool false, .bool false, .slice Ad rt.length cp, .string ⟨#[]⟩, .string ⟨#[]⟩] 26 (0, 0)) from blk_drew (blk_new _ _)); have HB5 := Aside0.mk (then_below HB4.out hb5); have HR5 := Aside0.mk (Kd.R_below HR4.out hb5); have HC5 := Aside0.mk (Kd.C_below HC4.out hb5); have GP := Aside0.mk HB4.out.size; have hne : gb ≠ w4.heap.size := Nat.ne_of_lt (blk_lt BK4.out); have hne2 : w4.heap.size ≠ gb := fun h => hne h.symm; clear hb5 HR4 HC4 hc0 hf0 hc1 hf1 hc2 hf2 hc3 hf3 hc4 hf4; generalize (w4.alloc (.cells #[.bool false, .bool false, .slice Ad rt.length cp, .string ⟨#[]⟩, .string ⟨#[]⟩] 26)).drew = w5 at BK5 BP5 HB5 HR5 HC5 ⊢; clear BK4 HB4; generalize w4.heap.size = gp at BP5 GP hne hne2 ⊢; obtain ⟨hc0, hc1, hc2, hc3, hc4, hf0, hf1, hf2, hf3, hf4⟩ := five BK5.out; obtain ⟨pc0, pc1, pc2, pc3, pc4, pf0, pf1, pf2, pf3, pf4⟩ := five BP5.out
    go_wp2_with (first | (go_at_call 30; (with_reducible refine (path_domains.calls k Ad cp rt wr _ HC5.out HLE.out HDM.out ?hGG).mono ?_); (case hGG => exact HG.out.below HB5.out); rintro e' w6 ⟨rfl, hb6⟩; have BK6 := Aside0.mk (blk_below BK5.out hb6); have BP6 := Aside0.mk (blk_below BP5.out hb6); have HB6 := Aside0.mk (then_below HB5.out hb6); have HR6 := Aside0.mk (Kd.R_below HR5.out hb6); have HC6 := Aside0.mk (Kd.C_below HC5.out hb6); clear hb6; clear hc0 hf0 hc1 hf1 hc2 hf2 hc3 hf3 hc4 hf4; clear pc0 pf0 pc1 pf1 pc2 pf2 pc3 pf3 pc4 pf4; obtain ⟨hc0, hc1, hc2, hc3, hc4, hf0, hf1, hf2, hf3, hf4⟩ := five BK6.out; obtain ⟨pc0, pc1, pc2, pc3, pc4, pf0, pf1, pf2, pf3, pf4⟩ := five BP6.out) | (go_at_call 31; (with_reducible refine (text_Same.calls (s2.extract 0 m) ⟨#[112, 111, 115, 116, 109, 97, 115, 116, 101, 114]⟩ _ _ HSM.out).mono ?_); rintro e' w7 ⟨rfl, hb7⟩; have BK7 := Aside0.mk (blk_below BK6.out hb7); have BP7 := Aside0.mk (blk_below BP6.out hb7); have HB7 := Aside0.mk (then_below HB6.out hb7); have HR7 := Aside0.mk (Kd.R_below HR6.out hb7); have HC7 := Aside0.mk (Kd.C_below HC6.out hb7); clear hb7; clear hc0 hf0 hc1 hf1 hc2 hf2 hc3 hf3 hc4 hf4; clear pc0 pf0 pc1 pf1 pc2 pf2 pc3 pf3 pc4 pf4; obtain ⟨hc0, hc1, hc2, hc3, hc4, hf0, hf1, hf2, hf3, hf4⟩ := five BK7.out; obtain ⟨pc0, pc1, pc2, pc3, pc4, pf0, pf1, pf2, pf3, pf4⟩ := five BP7.out) | (go_at_call 32; (with_reducible refine (addr_Parse.calls k (s2.extract 0 m) al ad ae _ HAD.out ?hGG).mono ?_); (case hGG => exact HG.out.below HB7.out); rintro e' w8 ⟨rfl, hb8⟩; have BK8 := Aside0.mk (blk_below BK7.out hb8); have BP8 := Aside0.mk (blk_below BP7.out hb8); have HB8 := Aside0.mk (then_below HB7.out hb8); have HR8 := Aside0.mk (Kd.R_below HR7.out hb8); have HC8 := Aside0.mk (Kd.C_below HC7.out hb8); clear hb8; clear hc0 hf0 hc1 hf1 hc2 hf2 hc3 hf3 hc4 hf4; clear pc0 pf0 pc1 pf1 pc2 pf2 pc3 pf3 pc4 pf4; obtain ⟨hc0, hc1, hc2, hc3, hc4, hf0, hf1, hf2, hf3, hf4⟩ := five BK8.out; obtain ⟨pc0, pc1, pc2, pc3, pc4, pf0, pf1, pf2, pf3, pf4⟩ := five BP8.out) | ((with_reducible refine gate_dst (N := 14) rfl ?_); refine box_event ?hg (N := 14) ?hd (cs := #[.string ⟨#[]⟩, .string ⟨#[]⟩]) (t := 24) ?hr ?_; (case hd => rfl); (case hg => rfl); (case hr => first | (go_simp; done) | (go_simp; rfl)); intro ga hg w9 hbox hb9; have BA9 := Aside0.mk hbox; have GA := Aside0.mk (show w.heap.size ≤ ga from (by rw [hg]; exact HB8.out.size)); have hna : gb ≠ ga := (by rw [hg]; exact Nat.ne_of_lt (blk_lt BK8.out)); have hna2 : ga ≠ gb := fun h => hna h.symm; have hnp : gp ≠ ga := (by rw [hg]; exact Nat.ne_of_lt (blk_lt BP8.out)); have hnp2 : ga ≠ gp := fun h => hnp h.symm; clear hbox hg; have BK9 := Aside0.mk (blk_below BK8.out hb9); have BP9 := Aside0.mk (blk_below BP8.out hb9); have HB9 := Aside0.mk (then_below HB8.out hb9); have HR9 := Aside0.mk (Kd.R_below HR8.out hb9); have HC9 := Aside0.mk (Kd.C_below HC8.out hb9); clear hb9; clear hc0 hf0 hc1 hf1 hc2 hf2 hc3 hf3 hc4 hf4; clear pc0 pf0 pc1 pf1 pc2 pf2 pc3 pf3 pc4 pf4; obtain ⟨hc0, hc1, hc2, hc3, hc4, hf0, hf1, hf2, hf3, hf4⟩ := five BK9.out; obtain ⟨pc0, pc1, pc2, pc3, pc4, pf0, pf1, pf2, pf3, pf4⟩ := five BP9.out; have ac0 : w9.cell? ⟨ga, 0, none⟩ = some (.string ⟨#[]⟩) := (blk_cell BA9.out 0).trans rfl; have ac1 : w9.cell? ⟨ga, 1, none⟩ = some (.string ⟨#[]⟩) := (blk_cell BA9.out 1).trans rfl; have af0 := blk_frozen BA9.out 0; have af1 := blk_frozen BA9.out 1))
    refine bodyPost_ret (results_ctt rfl _ _ gb 26 #[.bool false, .bool false, .slice none 0 0, .string ⟨#[]⟩, .string ⟨#[]⟩] (0, 0) _ rfl (by exact blk5 (blk_far (blk_far (blk_far (blk_far BK9.out (by exact hna) _) (by exact hna) _) (by exact hne) _) (by exact hne) _) rfl _ _ _ _ _) Tryz.underlying26 rfl (by kernel_rfl)) rfl ⟨_, rfl, Kd.R_nil _ _ _ _ _, by exact below5 (below_set (below_set (below_set (below_set HB9.out GA.out) GA.out) GP.out) GP.out) GE.out _ _ _ _ _⟩
  all_goals have hrl : ((rt.length : Int) == 0) = false := hcase.elim (fun h => by rcases h with ⟨h1, h2⟩; first | exact absurd (hoB.symm.trans h1) (by decide) | cases h2) id
  all_goals clear hcase
  · have hoC : ¬ (s2.extract 0 m).toList = [] := by simpa using hoB
    go_enter Tryz.func12, Tryz.ntmps12
    go_wp2_with (first | ((with_reducible refine gate_dst (N := 2) rfl ?_); refine box_event ?hg (N := 2) ?hd (cs := #[.bool false, .bool false, .slice none 0 0, .string ⟨#[]⟩, .string ⟨#[]⟩]) (t := 26) ?hr ?_; (case hd => rfl); (case hg => rfl); (case hr => first | (go_simp; done) | (go_simp; rfl)); intro gb hg w2 hbox hb; have HB0 := Aside0.mk hb; have BK := Aside0.mk hbox; have GE := Aside0.mk (Nat.le_of_eq hg.symm); clear hb hbox hg; obtain ⟨hc0, hc1, hc2, hc3, hc4, hf0, hf1, hf2, hf3, hf4⟩ := five BK.out) | (go_at_call 27; (with_reducible refine (strings_CutPrefix.calls a0 ⟨#[60]⟩ s1 true _ HCP.out).mono ?_); rintro e' w' ⟨rfl, ⟨nd, rfl⟩⟩) | (go_at_call 28; (with_reducible refine (path_route.calls k s1 rt s2 true _ HRT.out ?hGG).mono ?_); (case hGG => exact HG.out.below (pw_below_drewN HB0.out _)); rintro e' w3 ⟨v0, rfl, hR, hb3⟩; obtain ⟨Ad, cp, rfl, hle, hC⟩ := Kd.R_reads hR; have HR3 := Aside0.mk (Kd.R_lower hR (show w.heap.size ≤ _ from HB0.out.size)); have HC3 := Aside0.mk hC; have HLE := Aside0.mk hle; have BK3 := Aside0.mk (blk_below (blk_drewN BK.out _) hb3); have HB3 := Aside0.mk (then_below (pw_below_drewN HB0.out _) hb3); clear hR hC hle hb3; clear hc0 hf0 hc1 hf1 hc2 hf2 hc3 hf3 hc4 hf4; obtain ⟨hc0, hc1, hc2, hc3, hc4, hf0, hf1, hf2, hf3, hf4⟩ := five BK3.out) | (go_at_call 29; (with_reducible refine (path_ends.calls k s2 (m : Int) _ HEN.out).mono ?_); rintro e' w4 ⟨rfl, hb4⟩; have BK4 := Aside0.mk (blk_below BK3.out hb4); have HB4 := Aside0.mk (then_below HB3.out hb4); have HR4 := Aside0.mk (Kd.R_below HR3.out hb4); have HC4 := Aside0.mk (Kd.C_below HC3.out hb4); clear hb4; clear hc0 hf0 hc1 hf1 hc2 hf2 hc3 hf3 hc4 hf4; obtain ⟨hc0, hc1, hc2, hc3, hc4, hf0, hf1, hf2, hf3, hf4⟩ := five BK4.out))
    go_region
    have hb5 : Below w4.heap.size w4 (w4.alloc (.cells #[.bool false, .bool false, .slice Ad rt.length cp, .string ⟨#[]⟩, .string ⟨#[]⟩] 26)).drew := below_drew (below_alloc (Below.refl _ _) _); have BK5 := Aside0.mk (blk_below BK4.out hb5); have BP5 := Aside0.mk (show (w4.alloc (.cells #[.bool false, .bool false, .slice Ad rt.length cp, .string ⟨#[]⟩, .string ⟨#[]⟩] 26)).drew.heap[w4.heap.size]? = some (.cells #[.bool false, .bool false, .slice Ad rt.length cp, .string ⟨#[]⟩, .string ⟨#[]⟩] 26 (0, 0)) from blk_drew (blk_new _ _)); have HB5 := Aside0.mk (then_below HB4.out hb5); have HR5 := Aside0.mk (Kd.R_below HR4.out hb5); have HC5 := Aside0.mk (Kd.C_below HC4.out hb5); have GP := Aside0.mk HB4.out.size; have hne : gb ≠ w4.heap.size := Nat.ne_of_lt (blk_lt BK4.out); have hne2 : w4.heap.size ≠ gb := fun h => hne h.symm; clear hb5 HR4 HC4 hc0 hf0 hc1 hf1 hc2 hf2 hc3 hf3 hc4 hf4; generalize (w4.alloc (.cells #[.bool false, .bool false, .slice Ad rt.length cp, .string ⟨#[]⟩, .string ⟨#[]⟩] 26)).drew = w5 at BK5 BP5 HB5 HR5 HC5 ⊢; clear BK4 HB4; generalize w4.heap.size = gp at BP5 GP hne hne2 ⊢; obtain ⟨hc0, hc1, hc2, hc3, hc4, hf0, hf1, hf2, hf3, hf4⟩ := five BK5.out; obtain ⟨pc0, pc1, pc2, pc3, pc4, pf0, pf1, pf2, pf3, pf4⟩ := five BP5.out
    go_wp2_with (first | (go_at_call 30; (with_reducible refine (path_domains.calls k Ad cp rt wr _ HC5.out HLE.out HDM.out ?hGG).mono ?_); (case hGG => exact HG.out.below HB5.out); rintro e' w6 ⟨rfl, hb6⟩; have BK6 := Aside0.mk (blk_below BK5.out hb6); have BP6 := Aside0.mk (blk_below BP5.out hb6); have HB6 := Aside0.mk (then_below HB5.out hb6); have HR6 := Aside0.mk (Kd.R_below HR5.out hb6); have HC6 := Aside0.mk (Kd.C_below HC5.out hb6); clear hb6; clear hc0 hf0 hc1 hf1 hc2 hf2 hc3 hf3 hc4 hf4; clear pc0 pf0 pc1 pf1 pc2 pf2 pc3 pf3 pc4 pf4; obtain ⟨hc0, hc1, hc2, hc3, hc4, hf0, hf1, hf2, hf3, hf4⟩ := five BK6.out; obtain ⟨pc0, pc1, pc2, pc3, pc4, pf0, pf1, pf2, pf3, pf4⟩ := five BP6.out) | (go_at_call 31; (with_reducible refine (text_Same.calls (s2.extract 0 m) ⟨#[112, 111, 115, 116, 109, 97, 115, 116, 101, 114]⟩ _ _ HSM.out).mono ?_); rintro e' w7 ⟨rfl, hb7⟩; have BK7 := Aside0.mk (blk_below BK6.out hb7); have BP7 := Aside0.mk (blk_below BP6.out hb7); have HB7 := Aside0.mk (then_below HB6.out hb7); have HR7 := Aside0.mk (Kd.R_below HR6.out hb7); have HC7 := Aside0.mk (Kd.C_below HC6.out hb7); clear hb7; clear hc0 hf0 hc1 hf1 hc2 hf2 hc3 hf3 hc4 hf4; clear pc0 pf0 pc1 pf1 pc2 pf2 pc3 pf3 pc4 pf4; obtain ⟨hc0, hc1, hc2, hc3, hc4, hf0, hf1, hf2, hf3, hf4⟩ := five BK7.out; obtain ⟨pc0, pc1, pc2, pc3, pc4, pf0, pf1, pf2, pf3, pf4⟩ := five BP7.out) | (go_at_call 32; (with_reducible refine (addr_Parse.calls k (s2.extract 0 m) al ad ae _ HAD.out ?hGG).mono ?_); (case hGG => exact HG.out.below HB7.out); rintro e' w8 ⟨rfl, hb8⟩; have BK8 := Aside0.mk (blk_below BK7.out hb8); have BP8 := Aside0.mk (blk_below BP7.out hb8); have HB8 := Aside0.mk (then_below HB7.out hb8); have HR8 := Aside0.mk (Kd.R_below HR7.out hb8); have HC8 := Aside0.mk (Kd.C_below HC7.out hb8); clear hb8; clear hc0 hf0 hc1 hf1 hc2 hf2 hc3 hf3 hc4 hf4; clear pc0 pf0 pc1 pf1 pc2 pf2 pc3 pf3 pc4 pf4; obtain ⟨hc0, hc1, hc2, hc3, hc4, hf0, hf1, hf2, hf3, hf4⟩ := five BK8.out; obtain ⟨pc0, pc1, pc2, pc3, pc4, pf0, pf1, pf2, pf3, pf4⟩ := five BP8.out) | ((with_reducible refine gate_dst (N := 14) rfl ?_); refine box_event ?hg (N := 14) ?hd (cs := #[.string ⟨#[]⟩, .string ⟨#[]⟩]) (t := 24) ?hr ?_; (case hd => rfl); (case hg => rfl); (case hr => first | (go_simp; done) | (go_simp; rfl)); intro ga hg w9 hbox hb9; have BA9 := Aside0.mk hbox; have GA := Aside0.mk (show w.heap.size ≤ ga from (by rw [hg]; exact HB8.out.size)); have hna : gb ≠ ga := (by rw [hg]; exact Nat.ne_of_lt (blk_lt BK8.out)); have hna2 : ga ≠ gb := fun h => hna h.symm; have hnp : gp ≠ ga := (by rw [hg]; exact Nat.ne_of_lt (blk_lt BP8.out)); have hnp2 : ga ≠ gp := fun h => hnp h.symm; clear hbox hg; have BK9 := Aside0.mk (blk_below BK8.out hb9); have BP9 := Aside0.mk (blk_below BP8.out hb9); have HB9 := Aside0.mk (then_below HB8.out hb9); have HR9 := Aside0.mk (Kd.R_below HR8.out hb9); have HC9 := Aside0.mk (Kd.C_below HC8.out hb9); clear hb9; clear hc0 hf0 hc1 hf1 hc2 hf2 hc3 hf3 hc4 hf4; clear pc0 pf0 pc1 pf1 pc2 pf2 pc3 pf3 pc4 pf4; obtain ⟨hc0, hc1, hc2, hc3, hc4, hf0, hf1, hf2, hf3, hf4⟩ := five BK9.out; obtain ⟨pc0, pc1, pc2, pc3, pc4, pf0, pf1, pf2, pf3, pf4⟩ := five BP9.out; have ac0 : w9.cell? ⟨ga, 0, none⟩ = some (.string ⟨#[]⟩) := (blk_cell BA9.out 0).trans rfl; have ac1 : w9.cell? ⟨ga, 1, none⟩ = some (.string ⟨#[]⟩) := (blk_cell BA9.out 1).trans rfl; have af0 := blk_frozen BA9.out 0; have af1 := blk_frozen BA9.out 1))
    refine bodyPost_ret (results_ctt rfl _ _ gb 26 #[.bool false, .bool false, .slice none 0 0, .string ⟨#[]⟩, .string ⟨#[]⟩] (0, 0) _ rfl (by exact blk5 (blk_far (blk_far (blk_far (blk_far BK9.out (by exact hna) _) (by exact hna) _) (by exact hne) _) (by exact hne) _) rfl _ _ _ _ _) Tryz.underlying26 rfl (by kernel_rfl)) rfl ⟨_, rfl, Kd.R_nil _ _ _ _ _, by exact below5 (below_set (below_set (below_set (below_set HB9.out GA.out) GA.out) GP.out) GP.out) GE.out _ _ _ _ _⟩
  all_goals have hoC : (s2.extract 0 m).toList = [] := by simpa using hoB
  all_goals (go_enter Tryz.func12, Tryz.ntmps12; go_wp2_with (first | ((with_reducible refine gate_dst (N := 2) rfl ?_); refine box_event ?hg (N := 2) ?hd (cs := #[.bool false, .bool false, .slice none 0 0, .string ⟨#[]⟩, .string ⟨#[]⟩]) (t := 26) ?hr ?_; (case hd => rfl); (case hg => rfl); (case hr => first | (go_simp; done) | (go_simp; rfl)); intro gb hg w2 hbox hb; have HB0 := Aside0.mk hb; have BK := Aside0.mk hbox; have GE := Aside0.mk (Nat.le_of_eq hg.symm); clear hb hbox hg; obtain ⟨hc0, hc1, hc2, hc3, hc4, hf0, hf1, hf2, hf3, hf4⟩ := five BK.out) | (go_at_call 27; (with_reducible refine (strings_CutPrefix.calls a0 ⟨#[60]⟩ s1 true _ HCP.out).mono ?_); rintro e' w' ⟨rfl, ⟨nd, rfl⟩⟩) | (go_at_call 28; (with_reducible refine (path_route.calls k s1 rt s2 true _ HRT.out ?hGG).mono ?_); (case hGG => exact HG.out.below (pw_below_drewN HB0.out _)); rintro e' w3 ⟨v0, rfl, hR, hb3⟩; obtain ⟨Ad, cp, rfl, hle, hC⟩ := Kd.R_reads hR; have HR3 := Aside0.mk (Kd.R_lower hR (show w.heap.size ≤ _ from HB0.out.size)); have HC3 := Aside0.mk hC; have HLE := Aside0.mk hle; have BK3 := Aside0.mk (blk_below (blk_drewN BK.out _) hb3); have HB3 := Aside0.mk (then_below (pw_below_drewN HB0.out _) hb3); clear hR hC hle hb3; clear hc0 hf0 hc1 hf1 hc2 hf2 hc3 hf3 hc4 hf4; obtain ⟨hc0, hc1, hc2, hc3, hc4, hf0, hf1, hf2, hf3, hf4⟩ := five BK3.out) | (go_at_call 29; (with_reducible refine (path_ends.calls k s2 (m : Int) _ HEN.out).mono ?_); rintro e' w4 ⟨rfl, hb4⟩; have BK4 := Aside0.mk (blk_below BK3.out hb4); have HB4 := Aside0.mk (then_below HB3.out hb4); have HR4 := Aside0.mk (Kd.R_below HR3.out hb4); have HC4 := Aside0.mk (Kd.C_below HC3.out hb4); clear hb4; clear hc0 hf0 hc1 hf1 hc2 hf2 hc3 hf3 hc4 hf4; obtain ⟨hc0, hc1, hc2, hc3, hc4, hf0, hf1, hf2, hf3, hf4⟩ := five BK4.out)); go_region; have hb5 : Below w4.heap.size w4 (w4.alloc (.cells #[.bool false, .bool false, .slice Ad rt.length cp, .string ⟨#[]⟩, .string ⟨#[]⟩] 26)).drew := below_drew (below_alloc (Below.refl _ _) _); have BK5 := Aside0.mk (blk_below BK4.out hb5); have BP5 := Aside0.mk (show (w4.alloc (.cells #[.bool false, .bool false, .slice Ad rt.length cp, .string ⟨#[]⟩, .string ⟨#[]⟩] 26)).drew.heap[w4.heap.size]? = some (.cells #[.bool false, .bool false, .slice Ad rt.length cp, .string ⟨#[]⟩, .string ⟨#[]⟩] 26 (0, 0)) from blk_drew (blk_new _ _)); have HB5 := Aside0.mk (then_below HB4.out hb5); have HR5 := Aside0.mk (Kd.R_below HR4.out hb5); have HC5 := Aside0.mk (Kd.C_below HC4.out hb5); have GP := Aside0.mk HB4.out.size; have hne : gb ≠ w4.heap.size := Nat.ne_of_lt (blk_lt BK4.out); have hne2 : w4.heap.size ≠ gb := fun h => hne h.symm; clear hb5 HR4 HC4 hc0 hf0 hc1 hf1 hc2 hf2 hc3 hf3 hc4 hf4; generalize (w4.alloc (.cells #[.bool false, .bool false, .slice Ad rt.length cp, .string ⟨#[]⟩, .string ⟨#[]⟩] 26)).drew = w5 at BK5 BP5 HB5 HR5 HC5 ⊢; clear BK4 HB4; generalize w4.heap.size = gp at BP5 GP hne hne2 ⊢; obtain ⟨hc0, hc1, hc2, hc3, hc4, hf0, hf1, hf2, hf3, hf4⟩ := five BK5.out; obtain ⟨pc0, pc1, pc2, pc3, pc4, pf0, pf1, pf2, pf3, pf4⟩ := five BP5.out; go_wp2_with (first | (go_at_call 30; (with_reducible refine (path_domains.calls k Ad cp rt wr _ HC5.out HLE.out HDM.out ?hGG).mono ?_); (case hGG => exact HG.out.below HB5.out); rintro e' w6 ⟨rfl, hb6⟩; have BK6 := Aside0.mk (blk_below BK5.out hb6); have BP6 := Aside0.mk (blk_below BP5.out hb6); have HB6 := Aside0.mk (then_below HB5.out hb6); have HR6 := Aside0.mk (Kd.R_below HR5.out hb6); have HC6 := Aside0.mk (Kd.C_below HC5.out hb6); clear hb6; clear hc0 hf0 hc1 hf1 hc2 hf2 hc3 hf3 hc4 hf4; clear pc0 pf0 pc1 pf1 pc2 pf2 pc3 pf3 pc4 pf4; obtain ⟨hc0, hc1, hc2, hc3, hc4, hf0, hf1, hf2, hf3, hf4⟩ := five BK6.out; obtain ⟨pc0, pc1, pc2, pc3, pc4, pf0, pf1, pf2, pf3, pf4⟩ := five BP6.out) | (go_at_call 31; (with_reducible refine (text_Same.calls (s2.extract 0 m) ⟨#[112, 111, 115, 116, 109, 97, 115, 116, 101, 114]⟩ _ _ HSM.out).mono ?_); rintro e' w7 ⟨rfl, hb7⟩; have BK7 := Aside0.mk (blk_below BK6.out hb7); have BP7 := Aside0.mk (blk_below BP6.out hb7); have HB7 := Aside0.mk (then_below HB6.out hb7); have HR7 := Aside0.mk (Kd.R_below HR6.out hb7); have HC7 := Aside0.mk (Kd.C_below HC6.out hb7); clear hb7; clear hc0 hf0 hc1 hf1 hc2 hf2 hc3 hf3 hc4 hf4; clear pc0 pf0 pc1 pf1 pc2 pf2 pc3 pf3 pc4 pf4; obtain ⟨hc0, hc1, hc2, hc3, hc4, hf0, hf1, hf2, hf3, hf4⟩ := five BK7.out; obtain ⟨pc0, pc1, pc2, pc3, pc4, pf0, pf1, pf2, pf3, pf4⟩ := five BP7.out) | (go_at_call 32; (with_reducible refine (addr_Parse.calls k (s2.extract 0 m) al ad ae _ HAD.out ?hGG).mono ?_); (case hGG => exact HG.out.below HB7.out); rintro e' w8 ⟨rfl, hb8⟩; have BK8 := Aside0.mk (blk_below BK7.out hb8); have BP8 := Aside0.mk (blk_below BP7.out hb8); have HB8 := Aside0.mk (then_below HB7.out hb8); have HR8 := Aside0.mk (Kd.R_below HR7.out hb8); have HC8 := Aside0.mk (Kd.C_below HC7.out hb8); clear hb8; clear hc0 hf0 hc1 hf1 hc2 hf2 hc3 hf3 hc4 hf4; clear pc0 pf0 pc1 pf1 pc2 pf2 pc3 pf3 pc4 pf4; obtain ⟨hc0, hc1, hc2, hc3, hc4, hf0, hf1, hf2, hf3, hf4⟩ := five BK8.out; obtain ⟨pc0, pc1, pc2, pc3, pc4, pf0, pf1, pf2, pf3, pf4⟩ := five BP8.out) | ((with_reducible refine gate_dst (N := 14) rfl ?_); refine box_event ?hg (N := 14) ?hd (cs := #[.string ⟨#[]⟩, .string ⟨#[]⟩]) (t := 24) ?hr ?_; (case hd => rfl); (case hg => rfl); (case hr => first | (go_simp; done) | (go_simp; rfl)); intro ga hg w9 hbox hb9; have BA9 := Aside0.mk hbox; have GA := Aside0.mk (show w.heap.size ≤ ga from (by rw [hg]; exact HB8.out.size)); have hna : gb ≠ ga := (by rw [hg]; exact Nat.ne_of_lt (blk_lt BK8.out)); have hna2 : ga ≠ gb := fun h => hna h.symm; have hnp : gp ≠ ga := (by rw [hg]; exact Nat.ne_of_lt (blk_lt BP8.out)); have hnp2 : ga ≠ gp := fun h => hnp h.symm; clear hbox hg; have BK9 := Aside0.mk (blk_below BK8.out hb9); have BP9 := Aside0.mk (blk_below BP8.out hb9); have HB9 := Aside0.mk (then_below HB8.out hb9); have HR9 := Aside0.mk (Kd.R_below HR8.out hb9); have HC9 := Aside0.mk (Kd.C_below HC8.out hb9); clear hb9; clear hc0 hf0 hc1 hf1 hc2 hf2 hc3 hf3 hc4 hf4; clear pc0 pf0 pc1 pf1 pc2 pf2 pc3 pf3 pc4 pf4; obtain ⟨hc0, hc1, hc2, hc3, hc4, hf0, hf1, hf2, hf3, hf4⟩ := five BK9.out; obtain ⟨pc0, pc1, pc2, pc3, pc4, pf0, pf1, pf2, pf3, pf4⟩ := five BP9.out; have ac0 : w9.cell? ⟨ga, 0, none⟩ = some (.string ⟨#[]⟩) := (blk_cell BA9.out 0).trans rfl; have ac1 : w9.cell? ⟨ga, 1, none⟩ = some (.string ⟨#[]⟩) := (blk_cell BA9.out 1).trans rfl; have af0 := blk_frozen BA9.out 0; have af1 := blk_frozen BA9.out 1)); refine bodyPost_ret (results_ctt rfl _ _ gb 26 #[.bool false, .bool false, .slice none 0 0, .string ⟨#[]⟩, .string ⟨#[]⟩] (0, 0) _ rfl (by exact blk5 (blk_far (blk_far (blk_far (blk_far BK9.out (by exact hna) _) (by exact hna) _) (by exact hne) _) (by exact hne) _) rfl _ _ _ _ _) Tryz.underlying26 rfl (by kernel_rfl)) rfl ⟨_, rfl, Kd.R_nil _ _ _ _ _, by exact below5 (below_set (below_set (below_set (below_set HB9.out GA.out) GA.out) GP.out) GP.out) GE.out _ _ _ _ _⟩)

set_option maxHeartbeats 8000000 in
set_option maxRecDepth 1000000 in
theorem parse_addr_l2 (k : Nat) (a0 s1 s2 : ByteArray) (rt : List ByteArray) (m : Nat) (wr : Int) (al ad : ByteArray) (ae : Int) (w : World) (hG : Glob w) (hcp : strings_CutPrefix.f a0 ⟨#[60]⟩ = some (s1, true)) (hrt : path_route.f k s1 = some (rt, s2, true)) (hen : path_ends.f k s2 = some (m : Int)) (hm : m < s2.size) (hs : s2.size ≤ 4294967280) (hs0 : a0.size ≤ 4294967280)
    (hdm : path_domains.f k rt = some wr) (sm : Bool) (hsm : text_Same.f (s2.extract 0 m) master = some sm) (hcase : ((s2.extract 0 m).toList.isEmpty = false ∧ sm = false) ∨ ((rt.length : Int) == 0) = false) (had : addr_Parse.f k (s2.extract 0 m) = some (al, ad, ae)) (h5 : (ae == 5) = false) (h6 : (wr == 5) = false) (hlt : ae ≤ wr) (hne0 : (wr != 0) = true) :
    Calls Tryz.prog 12 #[.string a0] w fun e w' => ∃ v2_ : Value, e = .returned (.tuple #[.agg #[.bool false, .bool false, v2_, .string ⟨#[]⟩, .string ⟨#[]⟩], .string ⟨#[]⟩, .int .i64 3]) ∧ Kd.R Kd.string 9 w' w.heap.size (fun _ => True) v2_ [] ∧ Below w.heap.size w w' := by
  have HCP := Aside0.mk hcp
  have HRT := Aside0.mk hrt
  have HEN := Aside0.mk hen
  have HDM := Aside0.mk hdm
  have HG := Aside0.mk hG
  clear hcp hrt hen hdm hG
  have huP := Tryz.underlying26
  have huA := Tryz.underlying24
  have hm1 : (m : Int) < (s2.size : Int) := by omega
  have hm2 : (m : Int) + 1 ≤ (s2.size : Int) := by omega
  have HSM := Aside0.mk hsm
  have HAD := Aside0.mk had
  unfold master at HSM
  clear hsm had
  cases hoB : (s2.extract 0 m).toList.isEmpty <;> cases sm
  · clear hcase
    have hoC : ¬ (s2.extract 0 m).toList = [] := by simpa using hoB
    go_enter Tryz.func12, Tryz.ntmps12
    go_wp2_with (first | ((with_reducible refine gate_dst (N := 2) rfl ?_); refine box_event ?hg (N := 2) ?hd (cs := #[.bool false, .bool false, .slice none 0 0, .string ⟨#[]⟩, .string ⟨#[]⟩]) (t := 26) ?hr ?_; (case hd => rfl); (case hg => rfl); (case hr => first | (go_simp; done) | (go_simp; rfl)); intro gb hg w2 hbox hb; have HB0 := Aside0.mk hb; have BK := Aside0.mk hbox; have GE := Aside0.mk (Nat.le_of_eq hg.symm); clear hb hbox hg; obtain ⟨hc0, hc1, hc2, hc3, hc4, hf0, hf1, hf2, hf3, hf4⟩ := five BK.out) | (go_at_call 27; (with_reducible refine (strings_CutPrefix.calls a0 ⟨#[60]⟩ s1 true _ HCP.out).mono ?_); rintro e' w' ⟨rfl, ⟨nd, rfl⟩⟩) | (go_at_call 28; (with_reducible refine (path_route.calls k s1 rt s2 true _ HRT.out ?hGG).mono ?_); (case hGG => exact HG.out.below (pw_below_drewN HB0.out _)); rintro e' w3 ⟨v0, rfl, hR, hb3⟩; obtain ⟨Ad, cp, rfl, hle, hC⟩ := Kd.R_reads hR; have HR3 := Aside0.mk (Kd.R_lower hR (show w.heap.size ≤ _ from HB0.out.size)); have HC3 := Aside0.mk hC; have HLE := Aside0.mk hle; have BK3 := Aside0.mk (blk_below (blk_drewN BK.out _) hb3); have HB3 := Aside0.mk (then_below (pw_below_drewN HB0.out _) hb3); clear hR hC hle hb3; clear hc0 hf0 hc1 hf1 hc2 hf2 hc3 hf3 hc4 hf4; obtain ⟨hc0, hc1, hc2, hc3, hc4, hf0, hf1, hf2, hf3, hf4⟩ := five BK3.out) | (go_at_call 29; (with_reducible refine (path_ends.calls k s2 (m : Int) _ HEN.out).mono ?_); rintro e' w4 ⟨rfl, hb4⟩; have BK4 := Aside0.mk (blk_below BK3.out hb4); have HB4 := Aside0.mk (then_below HB3.out hb4); have HR4 := Aside0.mk (Kd.R_below HR3.out hb4); have HC4 := Aside0.mk (Kd.C_below HC3.out hb4); clear hb4; clear hc0 hf0 hc1 hf1 hc2 hf2 hc3 hf3 hc4 hf4; obtain ⟨hc0, hc1, hc2, hc3, hc4, hf0, hf1, hf2, hf3, hf4⟩ := five BK4.out))
    go_region
    have hb5 : Below w4.heap.size w4 (w4.alloc (.cells #[.bool false, .bool false, .slice Ad rt.length cp, .string ⟨#[]⟩, .string ⟨#[]⟩] 26)).drew := below_drew (below_alloc (Below.refl _ _) _); have BK5 := Aside0.mk (blk_below BK4.out hb5); have BP5 := Aside0.mk (show (w4.alloc (.cells #[.bool false, .bool false, .slice Ad rt.length cp, .string ⟨#[]⟩, .string ⟨#[]⟩] 26)).drew.heap[w4.heap.size]? = some (.cells #[.bool false, .bool false, .slice Ad rt.length cp, .string ⟨#[]⟩, .string ⟨#[]⟩] 26 (0, 0)) from blk_drew (blk_new _ _)); have HB5 := Aside0.mk (then_below HB4.out hb5); have HR5 := Aside0.mk (Kd.R_below HR4.out hb5); have HC5 := Aside0.mk (Kd.C_below HC4.out hb5); have GP := Aside0.mk HB4.out.size; have hne : gb ≠ w4.heap.size := Nat.ne_of_lt (blk_lt BK4.out); have hne2 : w4.heap.size ≠ gb := fun h => hne h.symm; clear hb5 HR4 HC4 hc0 hf0 hc1 hf1 hc2 hf2 hc3 hf3 hc4 hf4; generalize (w4.alloc (.cells #[.bool false, .bool false, .slice Ad rt.length cp, .string ⟨#[]⟩, .string ⟨#[]⟩] 26)).drew = w5 at BK5 BP5 HB5 HR5 HC5 ⊢; clear BK4 HB4; generalize w4.heap.size = gp at BP5 GP hne hne2 ⊢; obtain ⟨hc0, hc1, hc2, hc3, hc4, hf0, hf1, hf2, hf3, hf4⟩ := five BK5.out; obtain ⟨pc0, pc1, pc2, pc3, pc4, pf0, pf1, pf2, pf3, pf4⟩ := five BP5.out
    go_wp2_with (first | (go_at_call 30; (with_reducible refine (path_domains.calls k Ad cp rt wr _ HC5.out HLE.out HDM.out ?hGG).mono ?_); (case hGG => exact HG.out.below HB5.out); rintro e' w6 ⟨rfl, hb6⟩; have BK6 := Aside0.mk (blk_below BK5.out hb6); have BP6 := Aside0.mk (blk_below BP5.out hb6); have HB6 := Aside0.mk (then_below HB5.out hb6); have HR6 := Aside0.mk (Kd.R_below HR5.out hb6); have HC6 := Aside0.mk (Kd.C_below HC5.out hb6); clear hb6; clear hc0 hf0 hc1 hf1 hc2 hf2 hc3 hf3 hc4 hf4; clear pc0 pf0 pc1 pf1 pc2 pf2 pc3 pf3 pc4 pf4; obtain ⟨hc0, hc1, hc2, hc3, hc4, hf0, hf1, hf2, hf3, hf4⟩ := five BK6.out; obtain ⟨pc0, pc1, pc2, pc3, pc4, pf0, pf1, pf2, pf3, pf4⟩ := five BP6.out) | (go_at_call 31; (with_reducible refine (text_Same.calls (s2.extract 0 m) ⟨#[112, 111, 115, 116, 109, 97, 115, 116, 101, 114]⟩ _ _ HSM.out).mono ?_); rintro e' w7 ⟨rfl, hb7⟩; have BK7 := Aside0.mk (blk_below BK6.out hb7); have BP7 := Aside0.mk (blk_below BP6.out hb7); have HB7 := Aside0.mk (then_below HB6.out hb7); have HR7 := Aside0.mk (Kd.R_below HR6.out hb7); have HC7 := Aside0.mk (Kd.C_below HC6.out hb7); clear hb7; clear hc0 hf0 hc1 hf1 hc2 hf2 hc3 hf3 hc4 hf4; clear pc0 pf0 pc1 pf1 pc2 pf2 pc3 pf3 pc4 pf4; obtain ⟨hc0, hc1, hc2, hc3, hc4, hf0, hf1, hf2, hf3, hf4⟩ := five BK7.out; obtain ⟨pc0, pc1, pc2, pc3, pc4, pf0, pf1, pf2, pf3, pf4⟩ := five BP7.out) | (go_at_call 32; (with_reducible refine (addr_Parse.calls k (s2.extract 0 m) al ad ae _ HAD.out ?hGG).mono ?_); (case hGG => exact HG.out.below HB7.out); rintro e' w8 ⟨rfl, hb8⟩; have BK8 := Aside0.mk (blk_below BK7.out hb8); have BP8 := Aside0.mk (blk_below BP7.out hb8); have HB8 := Aside0.mk (then_below HB7.out hb8); have HR8 := Aside0.mk (Kd.R_below HR7.out hb8); have HC8 := Aside0.mk (Kd.C_below HC7.out hb8); clear hb8; clear hc0 hf0 hc1 hf1 hc2 hf2 hc3 hf3 hc4 hf4; clear pc0 pf0 pc1 pf1 pc2 pf2 pc3 pf3 pc4 pf4; obtain ⟨hc0, hc1, hc2, hc3, hc4, hf0, hf1, hf2, hf3, hf4⟩ := five BK8.out; obtain ⟨pc0, pc1, pc2, pc3, pc4, pf0, pf1, pf2, pf3, pf4⟩ := five BP8.out) | ((with_reducible refine gate_dst (N := 14) rfl ?_); refine box_event ?hg (N := 14) ?hd (cs := #[.string ⟨#[]⟩, .string ⟨#[]⟩]) (t := 24) ?hr ?_; (case hd => rfl); (case hg => rfl); (case hr => first | (go_simp; done) | (go_simp; rfl)); intro ga hg w9 hbox hb9; have BA9 := Aside0.mk hbox; have GA := Aside0.mk (show w.heap.size ≤ ga from (by rw [hg]; exact HB8.out.size)); have hna : gb ≠ ga := (by rw [hg]; exact Nat.ne_of_lt (blk_lt BK8.out)); have hna2 : ga ≠ gb := fun h => hna h.symm; have hnp : gp ≠ ga := (by rw [hg]; exact Nat.ne_of_lt (blk_lt BP8.out)); have hnp2 : ga ≠ gp := fun h => hnp h.symm; clear hbox hg; have BK9 := Aside0.mk (blk_below BK8.out hb9); have BP9 := Aside0.mk (blk_below BP8.out hb9); have HB9 := Aside0.mk (then_below HB8.out hb9); have HR9 := Aside0.mk (Kd.R_below HR8.out hb9); have HC9 := Aside0.mk (Kd.C_below HC8.out hb9); clear hb9; clear hc0 hf0 hc1 hf1 hc2 hf2 hc3 hf3 hc4 hf4; clear pc0 pf0 pc1 pf1 pc2 pf2 pc3 pf3 pc4 pf4; obtain ⟨hc0, hc1, hc2, hc3, hc4, hf0, hf1, hf2, hf3, hf4⟩ := five BK9.out; obtain ⟨pc0, pc1, pc2, pc3, pc4, pf0, pf1, pf2, pf3, pf4⟩ := five BP9.out; have ac0 : w9.cell? ⟨ga, 0, none⟩ = some (.string ⟨#[]⟩) := (blk_cell BA9.out 0).trans rfl; have ac1 : w9.cell? ⟨ga, 1, none⟩ = some (.string ⟨#[]⟩) := (blk_cell BA9.out 1).trans rfl; have af0 := blk_frozen BA9.out 0; have af1 := blk_frozen BA9.out 1))
    refine bodyPost_ret (results_ctt rfl _ _ gb 26 #[.bool false, .bool false, .slice none 0 0, .string ⟨#[]⟩, .string ⟨#[]⟩] (0, 0) _ rfl (by exact blk5 (blk_far (blk_far (blk_far (blk_far BK9.out (by exact hna) _) (by exact hna) _) (by exact hne) _) (by exact hne) _) rfl _ _ _ _ _) Tryz.underlying26 rfl (by kernel_rfl)) rfl ⟨_, rfl, Kd.R_nil _ _ _ _ _, by exact below5 (below_set (below_set (below_set (below_set HB9.out GA.out) GA.out) GP.out) GP.out) GE.out _ _ _ _ _⟩
  all_goals have hrl : ((rt.length : Int) == 0) = false := hcase.elim (fun h => by rcases h with ⟨h1, h2⟩; first | exact absurd (hoB.symm.trans h1) (by decide) | cases h2) id
  all_goals clear hcase
  · have hoC : ¬ (s2.extract 0 m).toList = [] := by simpa using hoB
    go_enter Tryz.func12, Tryz.ntmps12
    go_wp2_with (first | ((with_reducible refine gate_dst (N := 2) rfl ?_); refine box_event ?hg (N := 2) ?hd (cs := #[.bool false, .bool false, .slice none 0 0, .string ⟨#[]⟩, .string ⟨#[]⟩]) (t := 26) ?hr ?_; (case hd => rfl); (case hg => rfl); (case hr => first | (go_simp; done) | (go_simp; rfl)); intro gb hg w2 hbox hb; have HB0 := Aside0.mk hb; have BK := Aside0.mk hbox; have GE := Aside0.mk (Nat.le_of_eq hg.symm); clear hb hbox hg; obtain ⟨hc0, hc1, hc2, hc3, hc4, hf0, hf1, hf2, hf3, hf4⟩ := five BK.out) | (go_at_call 27; (with_reducible refine (strings_CutPrefix.calls a0 ⟨#[60]⟩ s1 true _ HCP.out).mono ?_); rintro e' w' ⟨rfl, ⟨nd, rfl⟩⟩) | (go_at_call 28; (with_reducible refine (path_route.calls k s1 rt s2 true _ HRT.out ?hGG).mono ?_); (case hGG => exact HG.out.below (pw_below_drewN HB0.out _)); rintro e' w3 ⟨v0, rfl, hR, hb3⟩; obtain ⟨Ad, cp, rfl, hle, hC⟩ := Kd.R_reads hR; have HR3 := Aside0.mk (Kd.R_lower hR (show w.heap.size ≤ _ from HB0.out.size)); have HC3 := Aside0.mk hC; have HLE := Aside0.mk hle; have BK3 := Aside0.mk (blk_below (blk_drewN BK.out _) hb3); have HB3 := Aside0.mk (then_below (pw_below_drewN HB0.out _) hb3); clear hR hC hle hb3; clear hc0 hf0 hc1 hf1 hc2 hf2 hc3 hf3 hc4 hf4; obtain ⟨hc0, hc1, hc2, hc3, hc4, hf0, hf1, hf2, hf3, hf4⟩ := five BK3.out) | (go_at_call 29; (with_reducible refine (path_ends.calls k s2 (m : Int) _ HEN.out).mono ?_); rintro e' w4 ⟨rfl, hb4⟩; have BK4 := Aside0.mk (blk_below BK3.out hb4); have HB4 := Aside0.mk (then_below HB3.out hb4); have HR4 := Aside0.mk (Kd.R_below HR3.out hb4); have HC4 := Aside0.mk (Kd.C_below HC3.out hb4); clear hb4; clear hc0 hf0 hc1 hf1 hc2 hf2 hc3 hf3 hc4 hf4; obtain ⟨hc0, hc1, hc2, hc3, hc4, hf0, hf1, hf2, hf3, hf4⟩ := five BK4.out))
    go_region
    have hb5 : Below w4.heap.size w4 (w4.alloc (.cells #[.bool false, .bool false, .slice Ad rt.length cp, .string ⟨#[]⟩, .string ⟨#[]⟩] 26)).drew := below_drew (below_alloc (Below.refl _ _) _); have BK5 := Aside0.mk (blk_below BK4.out hb5); have BP5 := Aside0.mk (show (w4.alloc (.cells #[.bool false, .bool false, .slice Ad rt.length cp, .string ⟨#[]⟩, .string ⟨#[]⟩] 26)).drew.heap[w4.heap.size]? = some (.cells #[.bool false, .bool false, .slice Ad rt.length cp, .string ⟨#[]⟩, .string ⟨#[]⟩] 26 (0, 0)) from blk_drew (blk_new _ _)); have HB5 := Aside0.mk (then_below HB4.out hb5); have HR5 := Aside0.mk (Kd.R_below HR4.out hb5); have HC5 := Aside0.mk (Kd.C_below HC4.out hb5); have GP := Aside0.mk HB4.out.size; have hne : gb ≠ w4.heap.size := Nat.ne_of_lt (blk_lt BK4.out); have hne2 : w4.heap.size ≠ gb := fun h => hne h.symm; clear hb5 HR4 HC4 hc0 hf0 hc1 hf1 hc2 hf2 hc3 hf3 hc4 hf4; generalize (w4.alloc (.cells #[.bool false, .bool false, .slice Ad rt.length cp, .string ⟨#[]⟩, .string ⟨#[]⟩] 26)).drew = w5 at BK5 BP5 HB5 HR5 HC5 ⊢; clear BK4 HB4; generalize w4.heap.size = gp at BP5 GP hne hne2 ⊢; obtain ⟨hc0, hc1, hc2, hc3, hc4, hf0, hf1, hf2, hf3, hf4⟩ := five BK5.out; obtain ⟨pc0, pc1, pc2, pc3, pc4, pf0, pf1, pf2, pf3, pf4⟩ := five BP5.out
    go_wp2_with (first | (go_at_call 30; (with_reducible refine (path_domains.calls k Ad cp rt wr _ HC5.out HLE.out HDM.out ?hGG).mono ?_); (case hGG => exact HG.out.below HB5.out); rintro e' w6 ⟨rfl, hb6⟩; have BK6 := Aside0.mk (blk_below BK5.out hb6); have BP6 := Aside0.mk (blk_below BP5.out hb6); have HB6 := Aside0.mk (then_below HB5.out hb6); have HR6 := Aside0.mk (Kd.R_below HR5.out hb6); have HC6 := Aside0.mk (Kd.C_below HC5.out hb6); clear hb6; clear hc0 hf0 hc1 hf1 hc2 hf2 hc3 hf3 hc4 hf4; clear pc0 pf0 pc1 pf1 pc2 pf2 pc3 pf3 pc4 pf4; obtain ⟨hc0, hc1, hc2, hc3, hc4, hf0, hf1, hf2, hf3, hf4⟩ := five BK6.out; obtain ⟨pc0, pc1, pc2, pc3, pc4, pf0, pf1, pf2, pf3, pf4⟩ := five BP6.out) | (go_at_call 31; (with_reducible refine (text_Same.calls (s2.extract 0 m) ⟨#[112, 111, 115, 116, 109, 97, 115, 116, 101, 114]⟩ _ _ HSM.out).mono ?_); rintro e' w7 ⟨rfl, hb7⟩; have BK7 := Aside0.mk (blk_below BK6.out hb7); have BP7 := Aside0.mk (blk_below BP6.out hb7); have HB7 := Aside0.mk (then_below HB6.out hb7); have HR7 := Aside0.mk (Kd.R_below HR6.out hb7); have HC7 := Aside0.mk (Kd.C_below HC6.out hb7); clear hb7; clear hc0 hf0 hc1 hf1 hc2 hf2 hc3 hf3 hc4 hf4; clear pc0 pf0 pc1 pf1 pc2 pf2 pc3 pf3 pc4 pf4; obtain ⟨hc0, hc1, hc2, hc3, hc4, hf0, hf1, hf2, hf3, hf4⟩ := five BK7.out; obtain ⟨pc0, pc1, pc2, pc3, pc4, pf0, pf1, pf2, pf3, pf4⟩ := five BP7.out) | (go_at_call 32; (with_reducible refine (addr_Parse.calls k (s2.extract 0 m) al ad ae _ HAD.out ?hGG).mono ?_); (case hGG => exact HG.out.below HB7.out); rintro e' w8 ⟨rfl, hb8⟩; have BK8 := Aside0.mk (blk_below BK7.out hb8); have BP8 := Aside0.mk (blk_below BP7.out hb8); have HB8 := Aside0.mk (then_below HB7.out hb8); have HR8 := Aside0.mk (Kd.R_below HR7.out hb8); have HC8 := Aside0.mk (Kd.C_below HC7.out hb8); clear hb8; clear hc0 hf0 hc1 hf1 hc2 hf2 hc3 hf3 hc4 hf4; clear pc0 pf0 pc1 pf1 pc2 pf2 pc3 pf3 pc4 pf4; obtain ⟨hc0, hc1, hc2, hc3, hc4, hf0, hf1, hf2, hf3, hf4⟩ := five BK8.out; obtain ⟨pc0, pc1, pc2, pc3, pc4, pf0, pf1, pf2, pf3, pf4⟩ := five BP8.out) | ((with_reducible refine gate_dst (N := 14) rfl ?_); refine box_event ?hg (N := 14) ?hd (cs := #[.string ⟨#[]⟩, .string ⟨#[]⟩]) (t := 24) ?hr ?_; (case hd => rfl); (case hg => rfl); (case hr => first | (go_simp; done) | (go_simp; rfl)); intro ga hg w9 hbox hb9; have BA9 := Aside0.mk hbox; have GA := Aside0.mk (show w.heap.size ≤ ga from (by rw [hg]; exact HB8.out.size)); have hna : gb ≠ ga := (by rw [hg]; exact Nat.ne_of_lt (blk_lt BK8.out)); have hna2 : ga ≠ gb := fun h => hna h.symm; have hnp : gp ≠ ga := (by rw [hg]; exact Nat.ne_of_lt (blk_lt BP8.out)); have hnp2 : ga ≠ gp := fun h => hnp h.symm; clear hbox hg; have BK9 := Aside0.mk (blk_below BK8.out hb9); have BP9 := Aside0.mk (blk_below BP8.out hb9); have HB9 := Aside0.mk (then_below HB8.out hb9); have HR9 := Aside0.mk (Kd.R_below HR8.out hb9); have HC9 := Aside0.mk (Kd.C_below HC8.out hb9); clear hb9; clear hc0 hf0 hc1 hf1 hc2 hf2 hc3 hf3 hc4 hf4; clear pc0 pf0 pc1 pf1 pc2 pf2 pc3 pf3 pc4 pf4; obtain ⟨hc0, hc1, hc2, hc3, hc4, hf0, hf1, hf2, hf3, hf4⟩ := five BK9.out; obtain ⟨pc0, pc1, pc2, pc3, pc4, pf0, pf1, pf2, pf3, pf4⟩ := five BP9.out; have ac0 : w9.cell? ⟨ga, 0, none⟩ = some (.string ⟨#[]⟩) := (blk_cell BA9.out 0).trans rfl; have ac1 : w9.cell? ⟨ga, 1, none⟩ = some (.string ⟨#[]⟩) := (blk_cell BA9.out 1).trans rfl; have af0 := blk_frozen BA9.out 0; have af1 := blk_frozen BA9.out 1))
    refine bodyPost_ret (results_ctt rfl _ _ gb 26 #[.bool false, .bool false, .slice none 0 0, .string ⟨#[]⟩, .string ⟨#[]⟩] (0, 0) _ rfl (by exact blk5 (blk_far (blk_far (blk_far (blk_far BK9.out (by exact hna) _) (by exact hna) _) (by exact hne) _) (by exact hne) _) rfl _ _ _ _ _) Tryz.underlying26 rfl (by kernel_rfl)) rfl ⟨_, rfl, Kd.R_nil _ _ _ _ _, by exact below5 (below_set (below_set (below_set (below_set HB9.out GA.out) GA.out) GP.out) GP.out) GE.out _ _ _ _ _⟩
  all_goals have hoC : (s2.extract 0 m).toList = [] := by simpa using hoB
  all_goals (go_enter Tryz.func12, Tryz.ntmps12; go_wp2_with (first | ((with_reducible refine gate_dst (N := 2) rfl ?_); refine box_event ?hg (N := 2) ?hd (cs := #[.bool false, .bool false, .slice none 0 0, .string ⟨#[]⟩, .string ⟨#[]⟩]) (t := 26) ?hr ?_; (case hd => rfl); (case hg => rfl); (case hr => first | (go_simp; done) | (go_simp; rfl)); intro gb hg w2 hbox hb; have HB0 := Aside0.mk hb; have BK := Aside0.mk hbox; have GE := Aside0.mk (Nat.le_of_eq hg.symm); clear hb hbox hg; obtain ⟨hc0, hc1, hc2, hc3, hc4, hf0, hf1, hf2, hf3, hf4⟩ := five BK.out) | (go_at_call 27; (with_reducible refine (strings_CutPrefix.calls a0 ⟨#[60]⟩ s1 true _ HCP.out).mono ?_); rintro e' w' ⟨rfl, ⟨nd, rfl⟩⟩) | (go_at_call 28; (with_reducible refine (path_route.calls k s1 rt s2 true _ HRT.out ?hGG).mono ?_); (case hGG => exact HG.out.below (pw_below_drewN HB0.out _)); rintro e' w3 ⟨v0, rfl, hR, hb3⟩; obtain ⟨Ad, cp, rfl, hle, hC⟩ := Kd.R_reads hR; have HR3 := Aside0.mk (Kd.R_lower hR (show w.heap.size ≤ _ from HB0.out.size)); have HC3 := Aside0.mk hC; have HLE := Aside0.mk hle; have BK3 := Aside0.mk (blk_below (blk_drewN BK.out _) hb3); have HB3 := Aside0.mk (then_below (pw_below_drewN HB0.out _) hb3); clear hR hC hle hb3; clear hc0 hf0 hc1 hf1 hc2 hf2 hc3 hf3 hc4 hf4; obtain ⟨hc0, hc1, hc2, hc3, hc4, hf0, hf1, hf2, hf3, hf4⟩ := five BK3.out) | (go_at_call 29; (with_reducible refine (path_ends.calls k s2 (m : Int) _ HEN.out).mono ?_); rintro e' w4 ⟨rfl, hb4⟩; have BK4 := Aside0.mk (blk_below BK3.out hb4); have HB4 := Aside0.mk (then_below HB3.out hb4); have HR4 := Aside0.mk (Kd.R_below HR3.out hb4); have HC4 := Aside0.mk (Kd.C_below HC3.out hb4); clear hb4; clear hc0 hf0 hc1 hf1 hc2 hf2 hc3 hf3 hc4 hf4; obtain ⟨hc0, hc1, hc2, hc3, hc4, hf0, hf1, hf2, hf3, hf4⟩ := five BK4.out)); go_region; have hb5 : Below w4.heap.size w4 (w4.alloc (.cells #[.bool false, .bool false, .slice Ad rt.length cp, .string ⟨#[]⟩, .string ⟨#[]⟩] 26)).drew := below_drew (below_alloc (Below.refl _ _) _); have BK5 := Aside0.mk (blk_below BK4.out hb5); have BP5 := Aside0.mk (show (w4.alloc (.cells #[.bool false, .bool false, .slice Ad rt.length cp, .string ⟨#[]⟩, .string ⟨#[]⟩] 26)).drew.heap[w4.heap.size]? = some (.cells #[.bool false, .bool false, .slice Ad rt.length cp, .string ⟨#[]⟩, .string ⟨#[]⟩] 26 (0, 0)) from blk_drew (blk_new _ _)); have HB5 := Aside0.mk (then_below HB4.out hb5); have HR5 := Aside0.mk (Kd.R_below HR4.out hb5); have HC5 := Aside0.mk (Kd.C_below HC4.out hb5); have GP := Aside0.mk HB4.out.size; have hne : gb ≠ w4.heap.size := Nat.ne_of_lt (blk_lt BK4.out); have hne2 : w4.heap.size ≠ gb := fun h => hne h.symm; clear hb5 HR4 HC4 hc0 hf0 hc1 hf1 hc2 hf2 hc3 hf3 hc4 hf4; generalize (w4.alloc (.cells #[.bool false, .bool false, .slice Ad rt.length cp, .string ⟨#[]⟩, .string ⟨#[]⟩] 26)).drew = w5 at BK5 BP5 HB5 HR5 HC5 ⊢; clear BK4 HB4; generalize w4.heap.size = gp at BP5 GP hne hne2 ⊢; obtain ⟨hc0, hc1, hc2, hc3, hc4, hf0, hf1, hf2, hf3, hf4⟩ := five BK5.out; obtain ⟨pc0, pc1, pc2, pc3, pc4, pf0, pf1, pf2, pf3, pf4⟩ := five BP5.out; go_wp2_with (first | (go_at_call 30; (with_reducible refine (path_domains.calls k Ad cp rt wr _ HC5.out HLE.out HDM.out ?hGG).mono ?_); (case hGG => exact HG.out.below HB5.out); rintro e' w6 ⟨rfl, hb6⟩; have BK6 := Aside0.mk (blk_below BK5.out hb6); have BP6 := Aside0.mk (blk_below BP5.out hb6); have HB6 := Aside0.mk (then_below HB5.out hb6); have HR6 := Aside0.mk (Kd.R_below HR5.out hb6); have HC6 := Aside0.mk (Kd.C_below HC5.out hb6); clear hb6; clear hc0 hf0 hc1 hf1 hc2 hf2 hc3 hf3 hc4 hf4; clear pc0 pf0 pc1 pf1 pc2 pf2 pc3 pf3 pc4 pf4; obtain ⟨hc0, hc1, hc2, hc3, hc4, hf0, hf1, hf2, hf3, hf4⟩ := five BK6.out; obtain ⟨pc0, pc1, pc2, pc3, pc4, pf0, pf1, pf2, pf3, pf4⟩ := five BP6.out) | (go_at_call 31; (with_reducible refine (text_Same.calls (s2.extract 0 m) ⟨#[112, 111, 115, 116, 109, 97, 115, 116, 101, 114]⟩ _ _ HSM.out).mono ?_); rintro e' w7 ⟨rfl, hb7⟩; have BK7 := Aside0.mk (blk_below BK6.out hb7); have BP7 := Aside0.mk (blk_below BP6.out hb7); have HB7 := Aside0.mk (then_below HB6.out hb7); have HR7 := Aside0.mk (Kd.R_below HR6.out hb7); have HC7 := Aside0.mk (Kd.C_below HC6.out hb7); clear hb7; clear hc0 hf0 hc1 hf1 hc2 hf2 hc3 hf3 hc4 hf4; clear pc0 pf0 pc1 pf1 pc2 pf2 pc3 pf3 pc4 pf4; obtain ⟨hc0, hc1, hc2, hc3, hc4, hf0, hf1, hf2, hf3, hf4⟩ := five BK7.out; obtain ⟨pc0, pc1, pc2, pc3, pc4, pf0, pf1, pf2, pf3, pf4⟩ := five BP7.out) | (go_at_call 32; (with_reducible refine (addr_Parse.calls k (s2.extract 0 m) al ad ae _ HAD.out ?hGG).mono ?_); (case hGG => exact HG.out.below HB7.out); rintro e' w8 ⟨rfl, hb8⟩; have BK8 := Aside0.mk (blk_below BK7.out hb8); have BP8 := Aside0.mk (blk_below BP7.out hb8); have HB8 := Aside0.mk (then_below HB7.out hb8); have HR8 := Aside0.mk (Kd.R_below HR7.out hb8); have HC8 := Aside0.mk (Kd.C_below HC7.out hb8); clear hb8; clear hc0 hf0 hc1 hf1 hc2 hf2 hc3 hf3 hc4 hf4; clear pc0 pf0 pc1 pf1 pc2 pf2 pc3 pf3 pc4 pf4; obtain ⟨hc0, hc1, hc2, hc3, hc4, hf0, hf1, hf2, hf3, hf4⟩ := five BK8.out; obtain ⟨pc0, pc1, pc2, pc3, pc4, pf0, pf1, pf2, pf3, pf4⟩ := five BP8.out) | ((with_reducible refine gate_dst (N := 14) rfl ?_); refine box_event ?hg (N := 14) ?hd (cs := #[.string ⟨#[]⟩, .string ⟨#[]⟩]) (t := 24) ?hr ?_; (case hd => rfl); (case hg => rfl); (case hr => first | (go_simp; done) | (go_simp; rfl)); intro ga hg w9 hbox hb9; have BA9 := Aside0.mk hbox; have GA := Aside0.mk (show w.heap.size ≤ ga from (by rw [hg]; exact HB8.out.size)); have hna : gb ≠ ga := (by rw [hg]; exact Nat.ne_of_lt (blk_lt BK8.out)); have hna2 : ga ≠ gb := fun h => hna h.symm; have hnp : gp ≠ ga := (by rw [hg]; exact Nat.ne_of_lt (blk_lt BP8.out)); have hnp2 : ga ≠ gp := fun h => hnp h.symm; clear hbox hg; have BK9 := Aside0.mk (blk_below BK8.out hb9); have BP9 := Aside0.mk (blk_below BP8.out hb9); have HB9 := Aside0.mk (then_below HB8.out hb9); have HR9 := Aside0.mk (Kd.R_below HR8.out hb9); have HC9 := Aside0.mk (Kd.C_below HC8.out hb9); clear hb9; clear hc0 hf0 hc1 hf1 hc2 hf2 hc3 hf3 hc4 hf4; clear pc0 pf0 pc1 pf1 pc2 pf2 pc3 pf3 pc4 pf4; obtain ⟨hc0, hc1, hc2, hc3, hc4, hf0, hf1, hf2, hf3, hf4⟩ := five BK9.out; obtain ⟨pc0, pc1, pc2, pc3, pc4, pf0, pf1, pf2, pf3, pf4⟩ := five BP9.out; have ac0 : w9.cell? ⟨ga, 0, none⟩ = some (.string ⟨#[]⟩) := (blk_cell BA9.out 0).trans rfl; have ac1 : w9.cell? ⟨ga, 1, none⟩ = some (.string ⟨#[]⟩) := (blk_cell BA9.out 1).trans rfl; have af0 := blk_frozen BA9.out 0; have af1 := blk_frozen BA9.out 1)); refine bodyPost_ret (results_ctt rfl _ _ gb 26 #[.bool false, .bool false, .slice none 0 0, .string ⟨#[]⟩, .string ⟨#[]⟩] (0, 0) _ rfl (by exact blk5 (blk_far (blk_far (blk_far (blk_far BK9.out (by exact hna) _) (by exact hna) _) (by exact hne) _) (by exact hne) _) rfl _ _ _ _ _) Tryz.underlying26 rfl (by kernel_rfl)) rfl ⟨_, rfl, Kd.R_nil _ _ _ _ _, by exact below5 (below_set (below_set (below_set (below_set HB9.out GA.out) GA.out) GP.out) GP.out) GE.out _ _ _ _ _⟩)

set_option maxHeartbeats 8000000 in
set_option maxRecDepth 1000000 in
theorem parse_addr_f1 (k : Nat) (a0 s1 s2 : ByteArray) (rt : List ByteArray) (m : Nat) (wr : Int) (al ad : ByteArray) (ae : Int) (w : World) (hG : Glob w) (hcp : strings_CutPrefix.f a0 ⟨#[60]⟩ = some (s1, true)) (hrt : path_route.f k s1 = some (rt, s2, true)) (hen : path_ends.f k s2 = some (m : Int)) (hm : m < s2.size) (hs : s2.size ≤ 4294967280) (hs0 : a0.size ≤ 4294967280)
    (hdm : path_domains.f k rt = some wr) (sm : Bool) (hsm : text_Same.f (s2.extract 0 m) master = some sm) (hcase : ((s2.extract 0 m).toList.isEmpty = false ∧ sm = false) ∨ ((rt.length : Int) == 0) = false) (had : addr_Parse.f k (s2.extract 0 m) = some (al, ad, ae)) (h5 : (ae == 5) = true) :
    Calls Tryz.prog 12 #[.string a0] w fun e w' => ∃ v2_ : Value, e = .returned (.tuple #[.agg #[.bool false, .bool false, v2_, .string ⟨#[]⟩, .string ⟨#[]⟩], .string ⟨#[]⟩, .int .i64 5]) ∧ Kd.R Kd.string 9 w' w.heap.size (fun _ => True) v2_ [] ∧ Below w.heap.size w w' := by
  have HCP := Aside0.mk hcp
  have HRT := Aside0.mk hrt
  have HEN := Aside0.mk hen
  have HDM := Aside0.mk hdm
  have HG := Aside0.mk hG
  clear hcp hrt hen hdm hG
  have huP := Tryz.underlying26
  have huA := Tryz.underlying24
  have hm1 : (m : Int) < (s2.size : Int) := by omega
  have hm2 : (m : Int) + 1 ≤ (s2.size : Int) := by omega
  have HSM := Aside0.mk hsm
  have HAD := Aside0.mk had
  unfold master at HSM
  clear hsm had
  cases hoB : (s2.extract 0 m).toList.isEmpty <;> cases sm
  · clear hcase
    have hoC : ¬ (s2.extract 0 m).toList = [] := by simpa using hoB
    go_enter Tryz.func12, Tryz.ntmps12
    go_wp2_with (first | ((with_reducible refine gate_dst (N := 2) rfl ?_); refine box_event ?hg (N := 2) ?hd (cs := #[.bool false, .bool false, .slice none 0 0, .string ⟨#[]⟩, .string ⟨#[]⟩]) (t := 26) ?hr ?_; (case hd => rfl); (case hg => rfl); (case hr => first | (go_simp; done) | (go_simp; rfl)); intro gb hg w2 hbox hb; have HB0 := Aside0.mk hb; have BK := Aside0.mk hbox; have GE := Aside0.mk (Nat.le_of_eq hg.symm); clear hb hbox hg; obtain ⟨hc0, hc1, hc2, hc3, hc4, hf0, hf1, hf2, hf3, hf4⟩ := five BK.out) | (go_at_call 27; (with_reducible refine (strings_CutPrefix.calls a0 ⟨#[60]⟩ s1 true _ HCP.out).mono ?_); rintro e' w' ⟨rfl, ⟨nd, rfl⟩⟩) | (go_at_call 28; (with_reducible refine (path_route.calls k s1 rt s2 true _ HRT.out ?hGG).mono ?_); (case hGG => exact HG.out.below (pw_below_drewN HB0.out _)); rintro e' w3 ⟨v0, rfl, hR, hb3⟩; obtain ⟨Ad, cp, rfl, hle, hC⟩ := Kd.R_reads hR; have HR3 := Aside0.mk (Kd.R_lower hR (show w.heap.size ≤ _ from HB0.out.size)); have HC3 := Aside0.mk hC; have HLE := Aside0.mk hle; have BK3 := Aside0.mk (blk_below (blk_drewN BK.out _) hb3); have HB3 := Aside0.mk (then_below (pw_below_drewN HB0.out _) hb3); clear hR hC hle hb3; clear hc0 hf0 hc1 hf1 hc2 hf2 hc3 hf3 hc4 hf4; obtain ⟨hc0, hc1, hc2, hc3, hc4, hf0, hf1, hf2, hf3, hf4⟩ := five BK3.out) | (go_at_call 29; (with_reducible refine (path_ends.calls k s2 (m : Int) _ HEN.out).mono ?_); rintro e' w4 ⟨rfl, hb4⟩; have BK4 := Aside0.mk (blk_below BK3.out hb4); have HB4 := Aside0.mk (then_below HB3.out hb4); have HR4 := Aside0.mk (Kd.R_below HR3.out hb4); have HC4 := Aside0.mk (Kd.C_below HC3.out hb4); clear hb4; clear hc0 hf0 hc1 hf1 hc2 hf2 hc3 hf3 hc4 hf4; obtain ⟨hc0, hc1, hc2, hc3, hc4, hf0, hf1, hf2, hf3, hf4⟩ := five BK4.out))
    go_region
    have hb5 : Below w4.heap.size w4 (w4.alloc (.cells #[.bool false, .bool false, .slice Ad rt.length cp, .string ⟨#[]⟩, .string ⟨#[]⟩] 26)).drew := below_drew (below_alloc (Below.refl _ _) _); have BK5 := Aside0.mk (blk_below BK4.out hb5); have BP5 := Aside0.mk (show (w4.alloc (.cells #[.bool false, .bool false, .slice Ad rt.length cp, .string ⟨#[]⟩, .string ⟨#[]⟩] 26)).drew.heap[w4.heap.size]? = some (.cells #[.bool false, .bool false, .slice Ad rt.length cp, .string ⟨#[]⟩, .string ⟨#[]⟩] 26 (0, 0)) from blk_drew (blk_new _ _)); have HB5 := Aside0.mk (then_below HB4.out hb5); have HR5 := Aside0.mk (Kd.R_below HR4.out hb5); have HC5 := Aside0.mk (Kd.C_below HC4.out hb5); have GP := Aside0.mk HB4.out.size; have hne : gb ≠ w4.heap.size := Nat.ne_of_lt (blk_lt BK4.out); have hne2 : w4.heap.size ≠ gb := fun h => hne h.symm; clear hb5 HR4 HC4 hc0 hf0 hc1 hf1 hc2 hf2 hc3 hf3 hc4 hf4; generalize (w4.alloc (.cells #[.bool false, .bool false, .slice Ad rt.length cp, .string ⟨#[]⟩, .string ⟨#[]⟩] 26)).drew = w5 at BK5 BP5 HB5 HR5 HC5 ⊢; clear BK4 HB4; generalize w4.heap.size = gp at BP5 GP hne hne2 ⊢; obtain ⟨hc0, hc1, hc2, hc3, hc4, hf0, hf1, hf2, hf3, hf4⟩ := five BK5.out; obtain ⟨pc0, pc1, pc2, pc3, pc4, pf0, pf1, pf2, pf3, pf4⟩ := five BP5.out
    go_wp2_with (first | (go_at_call 30; (with_reducible refine (path_domains.calls k Ad cp rt wr _ HC5.out HLE.out HDM.out ?hGG).mono ?_); (case hGG => exact HG.out.below HB5.out); rintro e' w6 ⟨rfl, hb6⟩; have BK6 := Aside0.mk (blk_below BK5.out hb6); have BP6 := Aside0.mk (blk_below BP5.out hb6); have HB6 := Aside0.mk (then_below HB5.out hb6); have HR6 := Aside0.mk (Kd.R_below HR5.out hb6); have HC6 := Aside0.mk (Kd.C_below HC5.out hb6); clear hb6; clear hc0 hf0 hc1 hf1 hc2 hf2 hc3 hf3 hc4 hf4; clear pc0 pf0 pc1 pf1 pc2 pf2 pc3 pf3 pc4 pf4; obtain ⟨hc0, hc1, hc2, hc3, hc4, hf0, hf1, hf2, hf3, hf4⟩ := five BK6.out; obtain ⟨pc0, pc1, pc2, pc3, pc4, pf0, pf1, pf2, pf3, pf4⟩ := five BP6.out) | (go_at_call 31; (with_reducible refine (text_Same.calls (s2.extract 0 m) ⟨#[112, 111, 115, 116, 109, 97, 115, 116, 101, 114]⟩ _ _ HSM.out).mono ?_); rintro e' w7 ⟨rfl, hb7⟩; have BK7 := Aside0.mk (blk_below BK6.out hb7); have BP7 := Aside0.mk (blk_below BP6.out hb7); have HB7 := Aside0.mk (then_below HB6.out hb7); have HR7 := Aside0.mk (Kd.R_below HR6.out hb7); have HC7 := Aside0.mk (Kd.C_below HC6.out hb7); clear hb7; clear hc0 hf0 hc1 hf1 hc2 hf2 hc3 hf3 hc4 hf4; clear pc0 pf0 pc1 pf1 pc2 pf2 pc3 pf3 pc4 pf4; obtain ⟨hc0, hc1, hc2, hc3, hc4, hf0, hf1, hf2, hf3, hf4⟩ := five BK7.out; obtain ⟨pc0, pc1, pc2, pc3, pc4, pf0, pf1, pf2, pf3, pf4⟩ := five BP7.out) | (go_at_call 32; (with_reducible refine (addr_Parse.calls k (s2.extract 0 m) al ad ae _ HAD.out ?hGG).mono ?_); (case hGG => exact HG.out.below HB7.out); rintro e' w8 ⟨rfl, hb8⟩; have BK8 := Aside0.mk (blk_below BK7.out hb8); have BP8 := Aside0.mk (blk_below BP7.out hb8); have HB8 := Aside0.mk (then_below HB7.out hb8); have HR8 := Aside0.mk (Kd.R_below HR7.out hb8); have HC8 := Aside0.mk (Kd.C_below HC7.out hb8); clear hb8; clear hc0 hf0 hc1 hf1 hc2 hf2 hc3 hf3 hc4 hf4; clear pc0 pf0 pc1 pf1 pc2 pf2 pc3 pf3 pc4 pf4; obtain ⟨hc0, hc1, hc2, hc3, hc4, hf0, hf1, hf2, hf3, hf4⟩ := five BK8.out; obtain ⟨pc0, pc1, pc2, pc3, pc4, pf0, pf1, pf2, pf3, pf4⟩ := five BP8.out) | ((with_reducible refine gate_dst (N := 14) rfl ?_); refine box_event ?hg (N := 14) ?hd (cs := #[.string ⟨#[]⟩, .string ⟨#[]⟩]) (t := 24) ?hr ?_; (case hd => rfl); (case hg => rfl); (case hr => first | (go_simp; done) | (go_simp; rfl)); intro ga hg w9 hbox hb9; have BA9 := Aside0.mk hbox; have GA := Aside0.mk (show w.heap.size ≤ ga from (by rw [hg]; exact HB8.out.size)); have hna : gb ≠ ga := (by rw [hg]; exact Nat.ne_of_lt (blk_lt BK8.out)); have hna2 : ga ≠ gb := fun h => hna h.symm; have hnp : gp ≠ ga := (by rw [hg]; exact Nat.ne_of_lt (blk_lt BP8.out)); have hnp2 : ga ≠ gp := fun h => hnp h.symm; clear hbox hg; have BK9 := Aside0.mk (blk_below BK8.out hb9); have BP9 := Aside0.mk (blk_below BP8.out hb9); have HB9 := Aside0.mk (then_below HB8.out hb9); have HR9 := Aside0.mk (Kd.R_below HR8.out hb9); have HC9 := Aside0.mk (Kd.C_below HC8.out hb9); clear hb9; clear hc0 hf0 hc1 hf1 hc2 hf2 hc3 hf3 hc4 hf4; clear pc0 pf0 pc1 pf1 pc2 pf2 pc3 pf3 pc4 pf4; obtain ⟨hc0, hc1, hc2, hc3, hc4, hf0, hf1, hf2, hf3, hf4⟩ := five BK9.out; obtain ⟨pc0, pc1, pc2, pc3, pc4, pf0, pf1, pf2, pf3, pf4⟩ := five BP9.out; have ac0 : w9.cell? ⟨ga, 0, none⟩ = some (.string ⟨#[]⟩) := (blk_cell BA9.out 0).trans rfl; have ac1 : w9.cell? ⟨ga, 1, none⟩ = some (.string ⟨#[]⟩) := (blk_cell BA9.out 1).trans rfl; have af0 := blk_frozen BA9.out 0; have af1 := blk_frozen BA9.out 1))
    refine bodyPost_ret (results_ctt rfl _ _ gb 26 #[.bool false, .bool false, .slice none 0 0, .string ⟨#[]⟩, .string ⟨#[]⟩] (0, 0) _ rfl (by exact blk5 (blk_far (blk_far BK9.out (by exact hna) _) (by exact hna) _) rfl _ _ _ _ _) Tryz.underlying26 rfl (by kernel_rfl)) rfl ⟨_, rfl, Kd.R_nil _ _ _ _ _, by exact below5 (below_set (below_set HB9.out GA.out) GA.out) GE.out _ _ _ _ _⟩
  all_goals have hrl : ((rt.length : Int) == 0) = false := hcase.elim (fun h => by rcases h with ⟨h1, h2⟩; first | exact absurd (hoB.symm.trans h1) (by decide) | cases h2) id
  all_goals clear hcase
  · have hoC : ¬ (s2.extract 0 m).toList = [] := by simpa using hoB
    go_enter Tryz.func12, Tryz.ntmps12
    go_wp2_with (first | ((with_reducible refine gate_dst (N := 2) rfl ?_); refine box_event ?hg (N := 2) ?hd (cs := #[.bool false, .bool false, .slice none 0 0, .string ⟨#[]⟩, .string ⟨#[]⟩]) (t := 26) ?hr ?_; (case hd => rfl); (case hg => rfl); (case hr => first | (go_simp; done) | (go_simp; rfl)); intro gb hg w2 hbox hb; have HB0 := Aside0.mk hb; have BK := Aside0.mk hbox; have GE := Aside0.mk (Nat.le_of_eq hg.symm); clear hb hbox hg; obtain ⟨hc0, hc1, hc2, hc3, hc4, hf0, hf1, hf2, hf3, hf4⟩ := five BK.out) | (go_at_call 27; (with_reducible refine (strings_CutPrefix.calls a0 ⟨#[60]⟩ s1 true _ HCP.out).mono ?_); rintro e' w' ⟨rfl, ⟨nd, rfl⟩⟩) | (go_at_call 28; (with_reducible refine (path_route.calls k s1 rt s2 true _ HRT.out ?hGG).mono ?_); (case hGG => exact HG.out.below (pw_below_drewN HB0.out _)); rintro e' w3 ⟨v0, rfl, hR, hb3⟩; obtain ⟨Ad, cp, rfl, hle, hC⟩ := Kd.R_reads hR; have HR3 := Aside0.mk (Kd.R_lower hR (show w.heap.size ≤ _ from HB0.out.size)); have HC3 := Aside0.mk hC; have HLE := Aside0.mk hle; have BK3 := Aside0.mk (blk_below (blk_drewN BK.out _) hb3); have HB3 := Aside0.mk (then_below (pw_below_drewN HB0.out _) hb3); clear hR hC hle hb3; clear hc0 hf0 hc1 hf1 hc2 hf2 hc3 hf3 hc4 hf4; obtain ⟨hc0, hc1, hc2, hc3, hc4, hf0, hf1, hf2, hf3, hf4⟩ := five BK3.out) | (go_at_call 29; (with_reducible refine (path_ends.calls k s2 (m : Int) _ HEN.out).mono ?_); rintro e' w4 ⟨rfl, hb4⟩; have BK4 := Aside0.mk (blk_below BK3.out hb4); have HB4 := Aside0.mk (then_below HB3.out hb4); have HR4 := Aside0.mk (Kd.R_below HR3.out hb4); have HC4 := Aside0.mk (Kd.C_below HC3.out hb4); clear hb4; clear hc0 hf0 hc1 hf1 hc2 hf2 hc3 hf3 hc4 hf4; obtain ⟨hc0, hc1, hc2, hc3, hc4, hf0, hf1, hf2, hf3, hf4⟩ := five BK4.out))
    go_region
    have hb5 : Below w4.heap.size w4 (w4.alloc (.cells #[.bool false, .bool false, .slice Ad rt.length cp, .string ⟨#[]⟩, .string ⟨#[]⟩] 26)).drew := below_drew (below_alloc (Below.refl _ _) _); have BK5 := Aside0.mk (blk_below BK4.out hb5); have BP5 := Aside0.mk (show (w4.alloc (.cells #[.bool false, .bool false, .slice Ad rt.length cp, .string ⟨#[]⟩, .string ⟨#[]⟩] 26)).drew.heap[w4.heap.size]? = some (.cells #[.bool false, .bool false, .slice Ad rt.length cp, .string ⟨#[]⟩, .string ⟨#[]⟩] 26 (0, 0)) from blk_drew (blk_new _ _)); have HB5 := Aside0.mk (then_below HB4.out hb5); have HR5 := Aside0.mk (Kd.R_below HR4.out hb5); have HC5 := Aside0.mk (Kd.C_below HC4.out hb5); have GP := Aside0.mk HB4.out.size; have hne : gb ≠ w4.heap.size := Nat.ne_of_lt (blk_lt BK4.out); have hne2 : w4.heap.size ≠ gb := fun h => hne h.symm; clear hb5 HR4 HC4 hc0 hf0 hc1 hf1 hc2 hf2 hc3 hf3 hc4 hf4; generalize (w4.alloc (.cells #[.bool false, .bool false, .slice Ad rt.length cp, .string ⟨#[]⟩, .string ⟨#[]⟩] 26)).drew = w5 at BK5 BP5 HB5 HR5 HC5 ⊢; clear BK4 HB4; generalize w4.heap.size = gp at BP5 GP hne hne2 ⊢; obtain ⟨hc0, hc1, hc2, hc3, hc4, hf0, hf1, hf2, hf3, hf4⟩ := five BK5.out; obtain ⟨pc0, pc1, pc2, pc3, pc4, pf0, pf1, pf2, pf3, pf4⟩ := five BP5.out
    go_wp2_with (first | (go_at_call 30; (with_reducible refine (path_domains.calls k Ad cp rt wr _ HC5.out HLE.out HDM.out ?hGG).mono ?_); (case hGG => exact HG.out.below HB5.out); rintro e' w6 ⟨rfl, hb6⟩; have BK6 := Aside0.mk (blk_below BK5.out hb6); have BP6 := Aside0.mk (blk_below BP5.out hb6); have HB6 := Aside0.mk (then_below HB5.out hb6); have HR6 := Aside0.mk (Kd.R_below HR5.out hb6); have HC6 := Aside0.mk (Kd.C_below HC5.out hb6); clear hb6; clear hc0 hf0 hc1 hf1 hc2 hf2 hc3 hf3 hc4 hf4; clear pc0 pf0 pc1 pf1 pc2 pf2 pc3 pf3 pc4 pf4; obtain ⟨hc0, hc1, hc2, hc3, hc4, hf0, hf1, hf2, hf3, hf4⟩ := five BK6.out; obtain ⟨pc0, pc1, pc2, pc3, pc4, pf0, pf1, pf2, pf3, pf4⟩ := five BP6.out) | (go_at_call 31; (with_reducible refine (text_Same.calls (s2.extract 0 m) ⟨#[112, 111, 115, 116, 109, 97, 115, 116, 101, 114]⟩ _ _ HSM.out).mono ?_); rintro e' w7 ⟨rfl, hb7⟩; have BK7 := Aside0.mk (blk_below BK6.out hb7); have BP7 := Aside0.mk (blk_below BP6.out hb7); have HB7 := Aside0.mk (then_below HB6.out hb7); have HR7 := Aside0.mk (Kd.R_below HR6.out hb7); have HC7 := Aside0.mk (Kd.C_below HC6.out hb7); clear hb7; clear hc0 hf0 hc1 hf1 hc2 hf2 hc3 hf3 hc4 hf4; clear pc0 pf0 pc1 pf1 pc2 pf2 pc3 pf3 pc4 pf4; obtain ⟨hc0, hc1, hc2, hc3, hc4, hf0, hf1, hf2, hf3, hf4⟩ := five BK7.out; obtain ⟨pc0, pc1, pc2, pc3, pc4, pf0, pf1, pf2, pf3, pf4⟩ := five BP7.out) | (go_at_call 32; (with_reducible refine (addr_Parse.calls k (s2.extract 0 m) al ad ae _ HAD.out ?hGG).mono ?_); (case hGG => exact HG.out.below HB7.out); rintro e' w8 ⟨rfl, hb8⟩; have BK8 := Aside0.mk (blk_below BK7.out hb8); have BP8 := Aside0.mk (blk_below BP7.out hb8); have HB8 := Aside0.mk (then_below HB7.out hb8); have HR8 := Aside0.mk (Kd.R_below HR7.out hb8); have HC8 := Aside0.mk (Kd.C_below HC7.out hb8); clear hb8; clear hc0 hf0 hc1 hf1 hc2 hf2 hc3 hf3 hc4 hf4; clear pc0 pf0 pc1 pf1 pc2 pf2 pc3 pf3 pc4 pf4; obtain ⟨hc0, hc1, hc2, hc3, hc4, hf0, hf1, hf2, hf3, hf4⟩ := five BK8.out; obtain ⟨pc0, pc1, pc2, pc3, pc4, pf0, pf1, pf2, pf3, pf4⟩ := five BP8.out) | ((with_reducible refine gate_dst (N := 14) rfl ?_); refine box_event ?hg (N := 14) ?hd (cs := #[.string ⟨#[]⟩, .string ⟨#[]⟩]) (t := 24) ?hr ?_; (case hd => rfl); (case hg => rfl); (case hr => first | (go_simp; done) | (go_simp; rfl)); intro ga hg w9 hbox hb9; have BA9 := Aside0.mk hbox; have GA := Aside0.mk (show w.heap.size ≤ ga from (by rw [hg]; exact HB8.out.size)); have hna : gb ≠ ga := (by rw [hg]; exact Nat.ne_of_lt (blk_lt BK8.out)); have hna2 : ga ≠ gb := fun h => hna h.symm; have hnp : gp ≠ ga := (by rw [hg]; exact Nat.ne_of_lt (blk_lt BP8.out)); have hnp2 : ga ≠ gp := fun h => hnp h.symm; clear hbox hg; have BK9 := Aside0.mk (blk_below BK8.out hb9); have BP9 := Aside0.mk (blk_below BP8.out hb9); have HB9 := Aside0.mk (then_below HB8.out hb9); have HR9 := Aside0.mk (Kd.R_below HR8.out hb9); have HC9 := Aside0.mk (Kd.C_below HC8.out hb9); clear hb9; clear hc0 hf0 hc1 hf1 hc2 hf2 hc3 hf3 hc4 hf4; clear pc0 pf0 pc1 pf1 pc2 pf2 pc3 pf3 pc4 pf4; obtain ⟨hc0, hc1, hc2, hc3, hc4, hf0, hf1, hf2, hf3, hf4⟩ := five BK9.out; obtain ⟨pc0, pc1, pc2, pc3, pc4, pf0, pf1, pf2, pf3, pf4⟩ := five BP9.out; have ac0 : w9.cell? ⟨ga, 0, none⟩ = some (.string ⟨#[]⟩) := (blk_cell BA9.out 0).trans rfl; have ac1 : w9.cell? ⟨ga, 1, none⟩ = some (.string ⟨#[]⟩) := (blk_cell BA9.out 1).trans rfl; have af0 := blk_frozen BA9.out 0; have af1 := blk_frozen BA9.out 1))
    refine bodyPost_ret (results_ctt rfl _ _ gb 26 #[.bool false, .bool false, .slice none 0 0, .string ⟨#[]⟩, .string ⟨#[]⟩] (0, 0) _ rfl (by exact blk5 (blk_far (blk_far BK9.out (by exact hna) _) (by exact hna) _) rfl _ _ _ _ _) Tryz.underlying26 rfl (by kernel_rfl)) rfl ⟨_, rfl, Kd.R_nil _ _ _ _ _, by exact below5 (below_set (below_set HB9.out GA.out) GA.out) GE.out _ _ _ _ _⟩
  all_goals have hoC : (s2.extract 0 m).toList = [] := by simpa using hoB
  all_goals (go_enter Tryz.func12, Tryz.ntmps12; go_wp2_with (first | ((with_reducible refine gate_dst (N := 2) rfl ?_); refine box_event ?hg (N := 2) ?hd (cs := #[.bool false, .bool false, .slice none 0 0, .string ⟨#[]⟩, .string ⟨#[]⟩]) (t := 26) ?hr ?_; (case hd => rfl); (case hg => rfl); (case hr => first | (go_simp; done) | (go_simp; rfl)); intro gb hg w2 hbox hb; have HB0 := Aside0.mk hb; have BK := Aside0.mk hbox; have GE := Aside0.mk (Nat.le_of_eq hg.symm); clear hb hbox hg; obtain ⟨hc0, hc1, hc2, hc3, hc4, hf0, hf1, hf2, hf3, hf4⟩ := five BK.out) | (go_at_call 27; (with_reducible refine (strings_CutPrefix.calls a0 ⟨#[60]⟩ s1 true _ HCP.out).mono ?_); rintro e' w' ⟨rfl, ⟨nd, rfl⟩⟩) | (go_at_call 28; (with_reducible refine (path_route.calls k s1 rt s2 true _ HRT.out ?hGG).mono ?_); (case hGG => exact HG.out.below (pw_below_drewN HB0.out _)); rintro e' w3 ⟨v0, rfl, hR, hb3⟩; obtain ⟨Ad, cp, rfl, hle, hC⟩ := Kd.R_reads hR; have HR3 := Aside0.mk (Kd.R_lower hR (show w.heap.size ≤ _ from HB0.out.size)); have HC3 := Aside0.mk hC; have HLE := Aside0.mk hle; have BK3 := Aside0.mk (blk_below (blk_drewN BK.out _) hb3); have HB3 := Aside0.mk (then_below (pw_below_drewN HB0.out _) hb3); clear hR hC hle hb3; clear hc0 hf0 hc1 hf1 hc2 hf2 hc3 hf3 hc4 hf4; obtain ⟨hc0, hc1, hc2, hc3, hc4, hf0, hf1, hf2, hf3, hf4⟩ := five BK3.out) | (go_at_call 29; (with_reducible refine (path_ends.calls k s2 (m : Int) _ HEN.out).mono ?_); rintro e' w4 ⟨rfl, hb4⟩; have BK4 := Aside0.mk (blk_below BK3.out hb4); have HB4 := Aside0.mk (then_below HB3.out hb4); have HR4 := Aside0.mk (Kd.R_below HR3.out hb4); have HC4 := Aside0.mk (Kd.C_below HC3.out hb4); clear hb4; clear hc0 hf0 hc1 hf1 hc2 hf2 hc3 hf3 hc4 hf4; obtain ⟨hc0, hc1, hc2, hc3, hc4, hf0, hf1, hf2, hf3, hf4⟩ := five BK4.out)); go_region; have hb5 : Below w4.heap.size w4 (w4.alloc (.cells #[.bool false, .bool false, .slice Ad rt.length cp, .string ⟨#[]⟩, .string ⟨#[]⟩] 26)).drew := below_drew (below_alloc (Below.refl _ _) _); have BK5 := Aside0.mk (blk_below BK4.out hb5); have BP5 := Aside0.mk (show (w4.alloc (.cells #[.bool false, .bool false, .slice Ad rt.length cp, .string ⟨#[]⟩, .string ⟨#[]⟩] 26)).drew.heap[w4.heap.size]? = some (.cells #[.bool false, .bool false, .slice Ad rt.length cp, .string ⟨#[]⟩, .string ⟨#[]⟩] 26 (0, 0)) from blk_drew (blk_new _ _)); have HB5 := Aside0.mk (then_below HB4.out hb5); have HR5 := Aside0.mk (Kd.R_below HR4.out hb5); have HC5 := Aside0.mk (Kd.C_below HC4.out hb5); have GP := Aside0.mk HB4.out.size; have hne : gb ≠ w4.heap.size := Nat.ne_of_lt (blk_lt BK4.out); have hne2 : w4.heap.size ≠ gb := fun h => hne h.symm; clear hb5 HR4 HC4 hc0 hf0 hc1 hf1 hc2 hf2 hc3 hf3 hc4 hf4; generalize (w4.alloc (.cells #[.bool false, .bool false, .slice Ad rt.length cp, .string ⟨#[]⟩, .string ⟨#[]⟩] 26)).drew = w5 at BK5 BP5 HB5 HR5 HC5 ⊢; clear BK4 HB4; generalize w4.heap.size = gp at BP5 GP hne hne2 ⊢; obtain ⟨hc0, hc1, hc2, hc3, hc4, hf0, hf1, hf2, hf3, hf4⟩ := five BK5.out; obtain ⟨pc0, pc1, pc2, pc3, pc4, pf0, pf1, pf2, pf3, pf4⟩ := five BP5.out; go_wp2_with (first | (go_at_call 30; (with_reducible refine (path_domains.calls k Ad cp rt wr _ HC5.out HLE.out HDM.out ?hGG).mono ?_); (case hGG => exact HG.out.below HB5.out); rintro e' w6 ⟨rfl, hb6⟩; have BK6 := Aside0.mk (blk_below BK5.out hb6); have BP6 := Aside0.mk (blk_below BP5.out hb6); have HB6 := Aside0.mk (then_below HB5.out hb6); have HR6 := Aside0.mk (Kd.R_below HR5.out hb6); have HC6 := Aside0.mk (Kd.C_below HC5.out hb6); clear hb6; clear hc0 hf0 hc1 hf1 hc2 hf2 hc3 hf3 hc4 hf4; clear pc0 pf0 pc1 pf1 pc2 pf2 pc3 pf3 pc4 pf4; obtain ⟨hc0, hc1, hc2, hc3, hc4, hf0, hf1, hf2, hf3, hf4⟩ := five BK6.out; obtain ⟨pc0, pc1, pc2, pc3, pc4, pf0, pf1, pf2, pf3, pf4⟩ := five BP6.out) | (go_at_call 31; (with_reducible refine (text_Same.calls (s2.extract 0 m) ⟨#[112, 111, 115, 116, 109, 97, 115, 116, 101, 114]⟩ _ _ HSM.out).mono ?_); rintro e' w7 ⟨rfl, hb7⟩; have BK7 := Aside0.mk (blk_below BK6.out hb7); have BP7 := Aside0.mk (blk_below BP6.out hb7); have HB7 := Aside0.mk (then_below HB6.out hb7); have HR7 := Aside0.mk (Kd.R_below HR6.out hb7); have HC7 := Aside0.mk (Kd.C_below HC6.out hb7); clear hb7; clear hc0 hf0 hc1 hf1 hc2 hf2 hc3 hf3 hc4 hf4; clear pc0 pf0 pc1 pf1 pc2 pf2 pc3 pf3 pc4 pf4; obtain ⟨hc0, hc1, hc2, hc3, hc4, hf0, hf1, hf2, hf3, hf4⟩ := five BK7.out; obtain ⟨pc0, pc1, pc2, pc3, pc4, pf0, pf1, pf2, pf3, pf4⟩ := five BP7.out) | (go_at_call 32; (with_reducible refine (addr_Parse.calls k (s2.extract 0 m) al ad ae _ HAD.out ?hGG).mono ?_); (case hGG => exact HG.out.below HB7.out); rintro e' w8 ⟨rfl, hb8⟩; have BK8 := Aside0.mk (blk_below BK7.out hb8); have BP8 := Aside0.mk (blk_below BP7.out hb8); have HB8 := Aside0.mk (then_below HB7.out hb8); have HR8 := Aside0.mk (Kd.R_below HR7.out hb8); have HC8 := Aside0.mk (Kd.C_below HC7.out hb8); clear hb8; clear hc0 hf0 hc1 hf1 hc2 hf2 hc3 hf3 hc4 hf4; clear pc0 pf0 pc1 pf1 pc2 pf2 pc3 pf3 pc4 pf4; obtain ⟨hc0, hc1, hc2, hc3, hc4, hf0, hf1, hf2, hf3, hf4⟩ := five BK8.out; obtain ⟨pc0, pc1, pc2, pc3, pc4, pf0, pf1, pf2, pf3, pf4⟩ := five BP8.out) | ((with_reducible refine gate_dst (N := 14) rfl ?_); refine box_event ?hg (N := 14) ?hd (cs := #[.string ⟨#[]⟩, .string ⟨#[]⟩]) (t := 24) ?hr ?_; (case hd => rfl); (case hg => rfl); (case hr => first | (go_simp; done) | (go_simp; rfl)); intro ga hg w9 hbox hb9; have BA9 := Aside0.mk hbox; have GA := Aside0.mk (show w.heap.size ≤ ga from (by rw [hg]; exact HB8.out.size)); have hna : gb ≠ ga := (by rw [hg]; exact Nat.ne_of_lt (blk_lt BK8.out)); have hna2 : ga ≠ gb := fun h => hna h.symm; have hnp : gp ≠ ga := (by rw [hg]; exact Nat.ne_of_lt (blk_lt BP8.out)); have hnp2 : ga ≠ gp := fun h => hnp h.symm; clear hbox hg; have BK9 := Aside0.mk (blk_below BK8.out hb9); have BP9 := Aside0.mk (blk_below BP8.out hb9); have HB9 := Aside0.mk (then_below HB8.out hb9); have HR9 := Aside0.mk (Kd.R_below HR8.out hb9); have HC9 := Aside0.mk (Kd.C_below HC8.out hb9); clear hb9; clear hc0 hf0 hc1 hf1 hc2 hf2 hc3 hf3 hc4 hf4; clear pc0 pf0 pc1 pf1 pc2 pf2 pc3 pf3 pc4 pf4; obtain ⟨hc0, hc1, hc2, hc3, hc4, hf0, hf1, hf2, hf3, hf4⟩ := five BK9.out; obtain ⟨pc0, pc1, pc2, pc3, pc4, pf0, pf1, pf2, pf3, pf4⟩ := five BP9.out; have ac0 : w9.cell? ⟨ga, 0, none⟩ = some (.string ⟨#[]⟩) := (blk_cell BA9.out 0).trans rfl; have ac1 : w9.cell? ⟨ga, 1, none⟩ = some (.string ⟨#[]⟩) := (blk_cell BA9.out 1).trans rfl; have af0 := blk_frozen BA9.out 0; have af1 := blk_frozen BA9.out 1)); refine bodyPost_ret (results_ctt rfl _ _ gb 26 #[.bool false, .bool false, .slice none 0 0, .string ⟨#[]⟩, .string ⟨#[]⟩] (0, 0) _ rfl (by exact blk5 (blk_far (blk_far BK9.out (by exact hna) _) (by exact hna) _) rfl _ _ _ _ _) Tryz.underlying26 rfl (by kernel_rfl)) rfl ⟨_, rfl, Kd.R_nil _ _ _ _ _, by exact below5 (below_set (below_set HB9.out GA.out) GA.out) GE.out _ _ _ _ _⟩)

set_option maxHeartbeats 8000000 in
set_option maxRecDepth 1000000 in
theorem parse_addr_f2 (k : Nat) (a0 s1 s2 : ByteArray) (rt : List ByteArray) (m : Nat) (wr : Int) (al ad : ByteArray) (ae : Int) (w : World) (hG : Glob w) (hcp : strings_CutPrefix.f a0 ⟨#[60]⟩ = some (s1, true)) (hrt : path_route.f k s1 = some (rt, s2, true)) (hen : path_ends.f k s2 = some (m : Int)) (hm : m < s2.size) (hs : s2.size ≤ 4294967280) (hs0 : a0.size ≤ 4294967280)
    (hdm : path_domains.f k rt = some wr) (sm : Bool) (hsm : text_Same.f (s2.extract 0 m) master = some sm) (hcase : ((s2.extract 0 m).toList.isEmpty = false ∧ sm = false) ∨ ((rt.length : Int) == 0) = false) (had : addr_Parse.f k (s2.extract 0 m) = some (al, ad, ae)) (h5 : (ae == 5) = false) (h6 : (wr == 5) = true) :
    Calls Tryz.prog 12 #[.string a0] w fun e w' => ∃ v2_ : Value, e = .returned (.tuple #[.agg #[.bool false, .bool false, v2_, .string ⟨#[]⟩, .string ⟨#[]⟩], .string ⟨#[]⟩, .int .i64 5]) ∧ Kd.R Kd.string 9 w' w.heap.size (fun _ => True) v2_ [] ∧ Below w.heap.size w w' := by
  have HCP := Aside0.mk hcp
  have HRT := Aside0.mk hrt
  have HEN := Aside0.mk hen
  have HDM := Aside0.mk hdm
  have HG := Aside0.mk hG
  clear hcp hrt hen hdm hG
  have huP := Tryz.underlying26
  have huA := Tryz.underlying24
  have hm1 : (m : Int) < (s2.size : Int) := by omega
  have hm2 : (m : Int) + 1 ≤ (s2.size : Int) := by omega
  have HSM := Aside0.mk hsm
  have HAD := Aside0.mk had
  unfold master at HSM
  clear hsm had
  cases hoB : (s2.extract 0 m).toList.isEmpty <;> cases sm
  · clear hcase
    have hoC : ¬ (s2.extract 0 m).toList = [] := by simpa using hoB
    go_enter Tryz.func12, Tryz.ntmps12
    go_wp2_with (first | ((with_reducible refine gate_dst (N := 2) rfl ?_); refine box_event ?hg (N := 2) ?hd (cs := #[.bool false, .bool false, .slice none 0 0, .string ⟨#[]⟩, .string ⟨#[]⟩]) (t := 26) ?hr ?_; (case hd => rfl); (case hg => rfl); (case hr => first | (go_simp; done) | (go_simp; rfl)); intro gb hg w2 hbox hb; have HB0 := Aside0.mk hb; have BK := Aside0.mk hbox; have GE := Aside0.mk (Nat.le_of_eq hg.symm); clear hb hbox hg; obtain ⟨hc0, hc1, hc2, hc3, hc4, hf0, hf1, hf2, hf3, hf4⟩ := five BK.out) | (go_at_call 27; (with_reducible refine (strings_CutPrefix.calls a0 ⟨#[60]⟩ s1 true _ HCP.out).mono ?_); rintro e' w' ⟨rfl, ⟨nd, rfl⟩⟩) | (go_at_call 28; (with_reducible refine (path_route.calls k s1 rt s2 true _ HRT.out ?hGG).mono ?_); (case hGG => exact HG.out.below (pw_below_drewN HB0.out _)); rintro e' w3 ⟨v0, rfl, hR, hb3⟩; obtain ⟨Ad, cp, rfl, hle, hC⟩ := Kd.R_reads hR; have HR3 := Aside0.mk (Kd.R_lower hR (show w.heap.size ≤ _ from HB0.out.size)); have HC3 := Aside0.mk hC; have HLE := Aside0.mk hle; have BK3 := Aside0.mk (blk_below (blk_drewN BK.out _) hb3); have HB3 := Aside0.mk (then_below (pw_below_drewN HB0.out _) hb3); clear hR hC hle hb3; clear hc0 hf0 hc1 hf1 hc2 hf2 hc3 hf3 hc4 hf4; obtain ⟨hc0, hc1, hc2, hc3, hc4, hf0, hf1, hf2, hf3, hf4⟩ := five BK3.out) | (go_at_call 29; (with_reducible refine (path_ends.calls k s2 (m : Int) _ HEN.out).mono ?_); rintro e' w4 ⟨rfl, hb4⟩; have BK4 := Aside0.mk (blk_below BK3.out hb4); have HB4 := Aside0.mk (then_below HB3.out hb4); have HR4 := Aside0.mk (Kd.R_below HR3.out hb4); have HC4 := Aside0.mk (Kd.C_below HC3.out hb4); clear hb4; clear hc0 hf0 hc1 hf1 hc2 hf2 hc3 hf3 hc4 hf4; obtain ⟨hc0, hc1, hc2, hc3, hc4, hf0, hf1, hf2, hf3, hf4⟩ := five BK4.out))
    go_region
    have hb5 : Below w4.heap.size w4 (w4.alloc (.cells #[.bool false, .bool false, .slice Ad rt.length cp, .string ⟨#[]⟩, .string ⟨#[]⟩] 26)).drew := below_drew (below_alloc (Below.refl _ _) _); have BK5 := Aside0.mk (blk_below BK4.out hb5); have BP5 := Aside0.mk (show (w4.alloc (.cells #[.bool false, .bool false, .slice Ad rt.length cp, .string ⟨#[]⟩, .string ⟨#[]⟩] 26)).drew.heap[w4.heap.size]? = some (.cells #[.bool false, .bool false, .slice Ad rt.length cp, .string ⟨#[]⟩, .string ⟨#[]⟩] 26 (0, 0)) from blk_drew (blk_new _ _)); have HB5 := Aside0.mk (then_below HB4.out hb5); have HR5 := Aside0.mk (Kd.R_below HR4.out hb5); have HC5 := Aside0.mk (Kd.C_below HC4.out hb5); have GP := Aside0.mk HB4.out.size; have hne : gb ≠ w4.heap.size := Nat.ne_of_lt (blk_lt BK4.out); have hne2 : w4.heap.size ≠ gb := fun h => hne h.symm; clear hb5 HR4 HC4 hc0 hf0 hc1 hf1 hc2 hf2 hc3 hf3 hc4 hf4; generalize (w4.alloc (.cells #[.bool false, .bool false, .slice Ad rt.length cp, .string ⟨#[]⟩, .string ⟨#[]⟩] 26)).drew = w5 at BK5 BP5 HB5 HR5 HC5 ⊢; clear BK4 HB4; generalize w4.heap.size = gp at BP5 GP hne hne2 ⊢; obtain ⟨hc0, hc1, hc2, hc3, hc4, hf0, hf1, hf2, hf3, hf4⟩ := five BK5.out; obtain ⟨pc0, pc1, pc2, pc3, pc4, pf0, pf1, pf2, pf3, pf4⟩ := five BP5.out
    go_wp2_with (first | (go_at_call 30; (with_reducible refine (path_domains.calls k Ad cp rt wr _ HC5.out HLE.out HDM.out ?hGG).mono ?_); (case hGG => exact HG.out.below HB5.out); rintro e' w6 ⟨rfl, hb6⟩; have BK6 := Aside0.mk (blk_below BK5.out hb6); have BP6 := Aside0.mk (blk_below BP5.out hb6); have HB6 := Aside0.mk (then_below HB5.out hb6); have HR6 := Aside0.mk (Kd.R_below HR5.out hb6); have HC6 := Aside0.mk (Kd.C_below HC5.out hb6); clear hb6; clear hc0 hf0 hc1 hf1 hc2 hf2 hc3 hf3 hc4 hf4; clear pc0 pf0 pc1 pf1 pc2 pf2 pc3 pf3 pc4 pf4; obtain ⟨hc0, hc1, hc2, hc3, hc4, hf0, hf1, hf2, hf3, hf4⟩ := five BK6.out; obtain ⟨pc0, pc1, pc2, pc3, pc4, pf0, pf1, pf2, pf3, pf4⟩ := five BP6.out) | (go_at_call 31; (with_reducible refine (text_Same.calls (s2.extract 0 m) ⟨#[112, 111, 115, 116, 109, 97, 115, 116, 101, 114]⟩ _ _ HSM.out).mono ?_); rintro e' w7 ⟨rfl, hb7⟩; have BK7 := Aside0.mk (blk_below BK6.out hb7); have BP7 := Aside0.mk (blk_below BP6.out hb7); have HB7 := Aside0.mk (then_below HB6.out hb7); have HR7 := Aside0.mk (Kd.R_below HR6.out hb7); have HC7 := Aside0.mk (Kd.C_below HC6.out hb7); clear hb7; clear hc0 hf0 hc1 hf1 hc2 hf2 hc3 hf3 hc4 hf4; clear pc0 pf0 pc1 pf1 pc2 pf2 pc3 pf3 pc4 pf4; obtain ⟨hc0, hc1, hc2, hc3, hc4, hf0, hf1, hf2, hf3, hf4⟩ := five BK7.out; obtain ⟨pc0, pc1, pc2, pc3, pc4, pf0, pf1, pf2, pf3, pf4⟩ := five BP7.out) | (go_at_call 32; (with_reducible refine (addr_Parse.calls k (s2.extract 0 m) al ad ae _ HAD.out ?hGG).mono ?_); (case hGG => exact HG.out.below HB7.out); rintro e' w8 ⟨rfl, hb8⟩; have BK8 := Aside0.mk (blk_below BK7.out hb8); have BP8 := Aside0.mk (blk_below BP7.out hb8); have HB8 := Aside0.mk (then_below HB7.out hb8); have HR8 := Aside0.mk (Kd.R_below HR7.out hb8); have HC8 := Aside0.mk (Kd.C_below HC7.out hb8); clear hb8; clear hc0 hf0 hc1 hf1 hc2 hf2 hc3 hf3 hc4 hf4; clear pc0 pf0 pc1 pf1 pc2 pf2 pc3 pf3 pc4 pf4; obtain ⟨hc0, hc1, hc2, hc3, hc4, hf0, hf1, hf2, hf3, hf4⟩ := five BK8.out; obtain ⟨pc0, pc1, pc2, pc3, pc4, pf0, pf1, pf2, pf3, pf4⟩ := five BP8.out) | ((with_reducible refine gate_dst (N := 14) rfl ?_); refine box_event ?hg (N := 14) ?hd (cs := #[.string ⟨#[]⟩, .string ⟨#[]⟩]) (t := 24) ?hr ?_; (case hd => rfl); (case hg => rfl); (case hr => first | (go_simp; done) | (go_simp; rfl)); intro ga hg w9 hbox hb9; have BA9 := Aside0.mk hbox; have GA := Aside0.mk (show w.heap.size ≤ ga from (by rw [hg]; exact HB8.out.size)); have hna : gb ≠ ga := (by rw [hg]; exact Nat.ne_of_lt (blk_lt BK8.out)); have hna2 : ga ≠ gb := fun h => hna h.symm; have hnp : gp ≠ ga := (by rw [hg]; exact Nat.ne_of_lt (blk_lt BP8.out)); have hnp2 : ga ≠ gp := fun h => hnp h.symm; clear hbox hg; have BK9 := Aside0.mk (blk_below BK8.out hb9); have BP9 := Aside0.mk (blk_below BP8.out hb9); have HB9 := Aside0.mk (then_below HB8.out hb9); have HR9 := Aside0.mk (Kd.R_below HR8.out hb9); have HC9 := Aside0.mk (Kd.C_below HC8.out hb9); clear hb9; clear hc0 hf0 hc1 hf1 hc2 hf2 hc3 hf3 hc4 hf4; clear pc0 pf0 pc1 pf1 pc2 pf2 pc3 pf3 pc4 pf4; obtain ⟨hc0, hc1, hc2, hc3, hc4, hf0, hf1, hf2, hf3, hf4⟩ := five BK9.out; obtain ⟨pc0, pc1, pc2, pc3, pc4, pf0, pf1, pf2, pf3, pf4⟩ := five BP9.out; have ac0 : w9.cell? ⟨ga, 0, none⟩ = some (.string ⟨#[]⟩) := (blk_cell BA9.out 0).trans rfl; have ac1 : w9.cell? ⟨ga, 1, none⟩ = some (.string ⟨#[]⟩) := (blk_cell BA9.out 1).trans rfl; have af0 := blk_frozen BA9.out 0; have af1 := blk_frozen BA9.out 1))
    refine bodyPost_ret (results_ctt rfl _ _ gb 26 #[.bool false, .bool false, .slice none 0 0, .string ⟨#[]⟩, .string ⟨#[]⟩] (0, 0) _ rfl (by exact blk5 (blk_far (blk_far BK9.out (by exact hna) _) (by exact hna) _) rfl _ _ _ _ _) Tryz.underlying26 rfl (by kernel_rfl)) rfl ⟨_, rfl, Kd.R_nil _ _ _ _ _, by exact below5 (below_set (below_set HB9.out GA.out) GA.out) GE.out _ _ _ _ _⟩
  all_goals have hrl : ((rt.length : Int) == 0) = false := hcase.elim (fun h => by rcases h with ⟨h1, h2⟩; first | exact absurd (hoB.symm.trans h1) (by decide) | cases h2) id
  all_goals clear hcase
  · have hoC : ¬ (s2.extract 0 m).toList = [] := by simpa using hoB
    go_enter Tryz.func12, Tryz.ntmps12
    go_wp2_with (first | ((with_reducible refine gate_dst (N := 2) rfl ?_); refine box_event ?hg (N := 2) ?hd (cs := #[.bool false, .bool false, .slice none 0 0, .string ⟨#[]⟩, .string ⟨#[]⟩]) (t := 26) ?hr ?_; (case hd => rfl); (case hg => rfl); (case hr => first | (go_simp; done) | (go_simp; rfl)); intro gb hg w2 hbox hb; have HB0 := Aside0.mk hb; have BK := Aside0.mk hbox; have GE := Aside0.mk (Nat.le_of_eq hg.symm); clear hb hbox hg; obtain ⟨hc0, hc1, hc2, hc3, hc4, hf0, hf1, hf2, hf3, hf4⟩ := five BK.out) | (go_at_call 27; (with_reducible refine (strings_CutPrefix.calls a0 ⟨#[60]⟩ s1 true _ HCP.out).mono ?_); rintro e' w' ⟨rfl, ⟨nd, rfl⟩⟩) | (go_at_call 28; (with_reducible refine (path_route.calls k s1 rt s2 true _ HRT.out ?hGG).mono ?_); (case hGG => exact HG.out.below (pw_below_drewN HB0.out _)); rintro e' w3 ⟨v0, rfl, hR, hb3⟩; obtain ⟨Ad, cp, rfl, hle, hC⟩ := Kd.R_reads hR; have HR3 := Aside0.mk (Kd.R_lower hR (show w.heap.size ≤ _ from HB0.out.size)); have HC3 := Aside0.mk hC; have HLE := Aside0.mk hle; have BK3 := Aside0.mk (blk_below (blk_drewN BK.out _) hb3); have HB3 := Aside0.mk (then_below (pw_below_drewN HB0.out _) hb3); clear hR hC hle hb3; clear hc0 hf0 hc1 hf1 hc2 hf2 hc3 hf3 hc4 hf4; obtain ⟨hc0, hc1, hc2, hc3, hc4, hf0, hf1, hf2, hf3, hf4⟩ := five BK3.out) | (go_at_call 29; (with_reducible refine (path_ends.calls k s2 (m : Int) _ HEN.out).mono ?_); rintro e' w4 ⟨rfl, hb4⟩; have BK4 := Aside0.mk (blk_below BK3.out hb4); have HB4 := Aside0.mk (then_below HB3.out hb4); have HR4 := Aside0.mk (Kd.R_below HR3.out hb4); have HC4 := Aside0.mk (Kd.C_below HC3.out hb4); clear hb4; clear hc0 hf0 hc1 hf1 hc2 hf2 hc3 hf3 hc4 hf4; obtain ⟨hc0, hc1, hc2, hc3, hc4, hf0, hf1, hf2, hf3, hf4⟩ := five BK4.out))
    go_region
    have hb5 : Below w4.heap.size w4 (w4.alloc (.cells #[.bool false, .bool false, .slice Ad rt.length cp, .string ⟨#[]⟩, .string ⟨#[]⟩] 26)).drew := below_drew (below_alloc (Below.refl _ _) _); have BK5 := Aside0.mk (blk_below BK4.out hb5); have BP5 := Aside0.mk (show (w4.alloc (.cells #[.bool false, .bool false, .slice Ad rt.length cp, .string ⟨#[]⟩, .string ⟨#[]⟩] 26)).drew.heap[w4.heap.size]? = some (.cells #[.bool false, .bool false, .slice Ad rt.length cp, .string ⟨#[]⟩, .string ⟨#[]⟩] 26 (0, 0)) from blk_drew (blk_new _ _)); have HB5 := Aside0.mk (then_below HB4.out hb5); have HR5 := Aside0.mk (Kd.R_below HR4.out hb5); have HC5 := Aside0.mk (Kd.C_below HC4.out hb5); have GP := Aside0.mk HB4.out.size; have hne : gb ≠ w4.heap.size := Nat.ne_of_lt (blk_lt BK4.out); have hne2 : w4.heap.size ≠ gb := fun h => hne h.symm; clear hb5 HR4 HC4 hc0 hf0 hc1 hf1 hc2 hf2 hc3 hf3 hc4 hf4; generalize (w4.alloc (.cells #[.bool false, .bool false, .slice Ad rt.length cp, .string ⟨#[]⟩, .string ⟨#[]⟩] 26)).drew = w5 at BK5 BP5 HB5 HR5 HC5 ⊢; clear BK4 HB4; generalize w4.heap.size = gp at BP5 GP hne hne2 ⊢; obtain ⟨hc0, hc1, hc2, hc3, hc4, hf0, hf1, hf2, hf3, hf4⟩ := five BK5.out; obtain ⟨pc0, pc1, pc2, pc3, pc4, pf0, pf1, pf2, pf3, pf4⟩ := five BP5.out
    go_wp2_with (first | (go_at_call 30; (with_reducible refine (path_domains.calls k Ad cp rt wr _ HC5.out HLE.out HDM.out ?hGG).mono ?_); (case hGG => exact HG.out.below HB5.out); rintro e' w6 ⟨rfl, hb6⟩; have BK6 := Aside0.mk (blk_below BK5.out hb6); have BP6 := Aside0.mk (blk_below BP5.out hb6); have HB6 := Aside0.mk (then_below HB5.out hb6); have HR6 := Aside0.mk (Kd.R_below HR5.out hb6); have HC6 := Aside0.mk (Kd.C_below HC5.out hb6); clear hb6; clear hc0 hf0 hc1 hf1 hc2 hf2 hc3 hf3 hc4 hf4; clear pc0 pf0 pc1 pf1 pc2 pf2 pc3 pf3 pc4 pf4; obtain ⟨hc0, hc1, hc2, hc3, hc4, hf0, hf1, hf2, hf3, hf4⟩ := five BK6.out; obtain ⟨pc0, pc1, pc2, pc3, pc4, pf0, pf1, pf2, pf3, pf4⟩ := five BP6.out) | (go_at_call 31; (with_reducible refine (text_Same.calls (s2.extract 0 m) ⟨#[112, 111, 115, 116, 109, 97, 115, 116, 101, 114]⟩ _ _ HSM.out).mono ?_); rintro e' w7 ⟨rfl, hb7⟩; have BK7 := Aside0.mk (blk_below BK6.out hb7); have BP7 := Aside0.mk (blk_below BP6.out hb7); have HB7 := Aside0.mk (then_below HB6.out hb7); have HR7 := Aside0.mk (Kd.R_below HR6.out hb7); have HC7 := Aside0.mk (Kd.C_below HC6.out hb7); clear hb7; clear hc0 hf0 hc1 hf1 hc2 hf2 hc3 hf3 hc4 hf4; clear pc0 pf0 pc1 pf1 pc2 pf2 pc3 pf3 pc4 pf4; obtain ⟨hc0, hc1, hc2, hc3, hc4, hf0, hf1, hf2, hf3, hf4⟩ := five BK7.out; obtain ⟨pc0, pc1, pc2, pc3, pc4, pf0, pf1, pf2, pf3, pf4⟩ := five BP7.out) | (go_at_call 32; (with_reducible refine (addr_Parse.calls k (s2.extract 0 m) al ad ae _ HAD.out ?hGG).mono ?_); (case hGG => exact HG.out.below HB7.out); rintro e' w8 ⟨rfl, hb8⟩; have BK8 := Aside0.mk (blk_below BK7.out hb8); have BP8 := Aside0.mk (blk_below BP7.out hb8); have HB8 := Aside0.mk (then_below HB7.out hb8); have HR8 := Aside0.mk (Kd.R_below HR7.out hb8); have HC8 := Aside0.mk (Kd.C_below HC7.out hb8); clear hb8; clear hc0 hf0 hc1 hf1 hc2 hf2 hc3 hf3 hc4 hf4; clear pc0 pf0 pc1 pf1 pc2 pf2 pc3 pf3 pc4 pf4; obtain ⟨hc0, hc1, hc2, hc3, hc4, hf0, hf1, hf2, hf3, hf4⟩ := five BK8.out; obtain ⟨pc0, pc1, pc2, pc3, pc4, pf0, pf1, pf2, pf3, pf4⟩ := five BP8.out) | ((with_reducible refine gate_dst (N := 14) rfl ?_); refine box_event ?hg (N := 14) ?hd (cs := #[.string ⟨#[]⟩, .string ⟨#[]⟩]) (t := 24) ?hr ?_; (case hd => rfl); (case hg => rfl); (case hr => first | (go_simp; done) | (go_simp; rfl)); intro ga hg w9 hbox hb9; have BA9 := Aside0.mk hbox; have GA := Aside0.mk (show w.heap.size ≤ ga from (by rw [hg]; exact HB8.out.size)); have hna : gb ≠ ga := (by rw [hg]; exact Nat.ne_of_lt (blk_lt BK8.out)); have hna2 : ga ≠ gb := fun h => hna h.symm; have hnp : gp ≠ ga := (by rw [hg]; exact Nat.ne_of_lt (blk_lt BP8.out)); have hnp2 : ga ≠ gp := fun h => hnp h.symm; clear hbox hg; have BK9 := Aside0.mk (blk_below BK8.out hb9); have BP9 := Aside0.mk (blk_below BP8.out hb9); have HB9 := Aside0.mk (then_below HB8.out hb9); have HR9 := Aside0.mk (Kd.R_below HR8.out hb9); have HC9 := Aside0.mk (Kd.C_below HC8.out hb9); clear hb9; clear hc0 hf0 hc1 hf1 hc2 hf2 hc3 hf3 hc4 hf4; clear pc0 pf0 pc1 pf1 pc2 pf2 pc3 pf3 pc4 pf4; obtain ⟨hc0, hc1, hc2, hc3, hc4, hf0, hf1, hf2, hf3, hf4⟩ := five BK9.out; obtain ⟨pc0, pc1, pc2, pc3, pc4, pf0, pf1, pf2, pf3, pf4⟩ := five BP9.out; have ac0 : w9.cell? ⟨ga, 0, none⟩ = some (.string ⟨#[]⟩) := (blk_cell BA9.out 0).trans rfl; have ac1 : w9.cell? ⟨ga, 1, none⟩ = some (.string ⟨#[]⟩) := (blk_cell BA9.out 1).trans rfl; have af0 := blk_frozen BA9.out 0; have af1 := blk_frozen BA9.out 1))
    refine bodyPost_ret (results_ctt rfl _ _ gb 26 #[.bool false, .bool false, .slice none 0 0, .string ⟨#[]⟩, .string ⟨#[]⟩] (0, 0) _ rfl (by exact blk5 (blk_far (blk_far BK9.out (by exact hna) _) (by exact hna) _) rfl _ _ _ _ _) Tryz.underlying26 rfl (by kernel_rfl)) rfl ⟨_, rfl, Kd.R_nil _ _ _ _ _, by exact below5 (below_set (below_set HB9.out GA.out) GA.out) GE.out _ _ _ _ _⟩
  all_goals have hoC : (s2.extract 0 m).toList = [] := by simpa using hoB
  all_goals (go_enter Tryz.func12, Tryz.ntmps12; go_wp2_with (first | ((with_reducible refine gate_dst (N := 2) rfl ?_); refine box_event ?hg (N := 2) ?hd (cs := #[.bool false, .bool false, .slice none 0 0, .string ⟨#[]⟩, .string ⟨#[]⟩]) (t := 26) ?hr ?_; (case hd => rfl); (case hg => rfl); (case hr => first | (go_simp; done) | (go_simp; rfl)); intro gb hg w2 hbox hb; have HB0 := Aside0.mk hb; have BK := Aside0.mk hbox; have GE := Aside0.mk (Nat.le_of_eq hg.symm); clear hb hbox hg; obtain ⟨hc0, hc1, hc2, hc3, hc4, hf0, hf1, hf2, hf3, hf4⟩ := five BK.out) | (go_at_call 27; (with_reducible refine (strings_CutPrefix.calls a0 ⟨#[60]⟩ s1 true _ HCP.out).mono ?_); rintro e' w' ⟨rfl, ⟨nd, rfl⟩⟩) | (go_at_call 28; (with_reducible refine (path_route.calls k s1 rt s2 true _ HRT.out ?hGG).mono ?_); (case hGG => exact HG.out.below (pw_below_drewN HB0.out _)); rintro e' w3 ⟨v0, rfl, hR, hb3⟩; obtain ⟨Ad, cp, rfl, hle, hC⟩ := Kd.R_reads hR; have HR3 := Aside0.mk (Kd.R_lower hR (show w.heap.size ≤ _ from HB0.out.size)); have HC3 := Aside0.mk hC; have HLE := Aside0.mk hle; have BK3 := Aside0.mk (blk_below (blk_drewN BK.out _) hb3); have HB3 := Aside0.mk (then_below (pw_below_drewN HB0.out _) hb3); clear hR hC hle hb3; clear hc0 hf0 hc1 hf1 hc2 hf2 hc3 hf3 hc4 hf4; obtain ⟨hc0, hc1, hc2, hc3, hc4, hf0, hf1, hf2, hf3, hf4⟩ := five BK3.out) | (go_at_call 29; (with_reducible refine (path_ends.calls k s2 (m : Int) _ HEN.out).mono ?_); rintro e' w4 ⟨rfl, hb4⟩; have BK4 := Aside0.mk (blk_below BK3.out hb4); have HB4 := Aside0.mk (then_below HB3.out hb4); have HR4 := Aside0.mk (Kd.R_below HR3.out hb4); have HC4 := Aside0.mk (Kd.C_below HC3.out hb4); clear hb4; clear hc0 hf0 hc1 hf1 hc2 hf2 hc3 hf3 hc4 hf4; obtain ⟨hc0, hc1, hc2, hc3, hc4, hf0, hf1, hf2, hf3, hf4⟩ := five BK4.out)); go_region; have hb5 : Below w4.heap.size w4 (w4.alloc (.cells #[.bool false, .bool false, .slice Ad rt.length cp, .string ⟨#[]⟩, .string ⟨#[]⟩] 26)).drew := below_drew (below_alloc (Below.refl _ _) _); have BK5 := Aside0.mk (blk_below BK4.out hb5); have BP5 := Aside0.mk (show (w4.alloc (.cells #[.bool false, .bool false, .slice Ad rt.length cp, .string ⟨#[]⟩, .string ⟨#[]⟩] 26)).drew.heap[w4.heap.size]? = some (.cells #[.bool false, .bool false, .slice Ad rt.length cp, .string ⟨#[]⟩, .string ⟨#[]⟩] 26 (0, 0)) from blk_drew (blk_new _ _)); have HB5 := Aside0.mk (then_below HB4.out hb5); have HR5 := Aside0.mk (Kd.R_below HR4.out hb5); have HC5 := Aside0.mk (Kd.C_below HC4.out hb5); have GP := Aside0.mk HB4.out.size; have hne : gb ≠ w4.heap.size := Nat.ne_of_lt (blk_lt BK4.out); have hne2 : w4.heap.size ≠ gb := fun h => hne h.symm; clear hb5 HR4 HC4 hc0 hf0 hc1 hf1 hc2 hf2 hc3 hf3 hc4 hf4; generalize (w4.alloc (.cells #[.bool false, .bool false, .slice Ad rt.length cp, .string ⟨#[]⟩, .string ⟨#[]⟩] 26)).drew = w5 at BK5 BP5 HB5 HR5 HC5 ⊢; clear BK4 HB4; generalize w4.heap.size = gp at BP5 GP hne hne2 ⊢; obtain ⟨hc0, hc1, hc2, hc3, hc4, hf0, hf1, hf2, hf3, hf4⟩ := five BK5.out; obtain ⟨pc0, pc1, pc2, pc3, pc4, pf0, pf1, pf2, pf3, pf4⟩ := five BP5.out; go_wp2_with (first | (go_at_call 30; (with_reducible refine (path_domains.calls k Ad cp rt wr _ HC5.out HLE.out HDM.out ?hGG).mono ?_); (case hGG => exact HG.out.below HB5.out); rintro e' w6 ⟨rfl, hb6⟩; have BK6 := Aside0.mk (blk_below BK5.out hb6); have BP6 := Aside0.mk (blk_below BP5.out hb6); have HB6 := Aside0.mk (then_below HB5.out hb6); have HR6 := Aside0.mk (Kd.R_below HR5.out hb6); have HC6 := Aside0.mk (Kd.C_below HC5.out hb6); clear hb6; clear hc0 hf0 hc1 hf1 hc2 hf2 hc3 hf3 hc4 hf4; clear pc0 pf0 pc1 pf1 pc2 pf2 pc3 pf3 pc4 pf4; obtain ⟨hc0, hc1, hc2, hc3, hc4, hf0, hf1, hf2, hf3, hf4⟩ := five BK6.out; obtain ⟨pc0, pc1, pc2, pc3, pc4, pf0, pf1, pf2, pf3, pf4⟩ := five BP6.out) | (go_at_call 31; (with_reducible refine (text_Same.calls (s2.extract 0 m) ⟨#[112, 111, 115, 116, 109, 97, 115, 116, 101, 114]⟩ _ _ HSM.out).mono ?_); rintro e' w7 ⟨rfl, hb7⟩; have BK7 := Aside0.mk (blk_below BK6.out hb7); have BP7 := Aside0.mk (blk_below BP6.out hb7); have HB7 := Aside0.mk (then_below HB6.out hb7); have HR7 := Aside0.mk (Kd.R_below HR6.out hb7); have HC7 := Aside0.mk (Kd.C_below HC6.out hb7); clear hb7; clear hc0 hf0 hc1 hf1 hc2 hf2 hc3 hf3 hc4 hf4; clear pc0 pf0 pc1 pf1 pc2 pf2 pc3 pf3 pc4 pf4; obtain ⟨hc0, hc1, hc2, hc3, hc4, hf0, hf1, hf2, hf3, hf4⟩ := five BK7.out; obtain ⟨pc0, pc1, pc2, pc3, pc4, pf0, pf1, pf2, pf3, pf4⟩ := five BP7.out) | (go_at_call 32; (with_reducible refine (addr_Parse.calls k (s2.extract 0 m) al ad ae _ HAD.out ?hGG).mono ?_); (case hGG => exact HG.out.below HB7.out); rintro e' w8 ⟨rfl, hb8⟩; have BK8 := Aside0.mk (blk_below BK7.out hb8); have BP8 := Aside0.mk (blk_below BP7.out hb8); have HB8 := Aside0.mk (then_below HB7.out hb8); have HR8 := Aside0.mk (Kd.R_below HR7.out hb8); have HC8 := Aside0.mk (Kd.C_below HC7.out hb8); clear hb8; clear hc0 hf0 hc1 hf1 hc2 hf2 hc3 hf3 hc4 hf4; clear pc0 pf0 pc1 pf1 pc2 pf2 pc3 pf3 pc4 pf4; obtain ⟨hc0, hc1, hc2, hc3, hc4, hf0, hf1, hf2, hf3, hf4⟩ := five BK8.out; obtain ⟨pc0, pc1, pc2, pc3, pc4, pf0, pf1, pf2, pf3, pf4⟩ := five BP8.out) | ((with_reducible refine gate_dst (N := 14) rfl ?_); refine box_event ?hg (N := 14) ?hd (cs := #[.string ⟨#[]⟩, .string ⟨#[]⟩]) (t := 24) ?hr ?_; (case hd => rfl); (case hg => rfl); (case hr => first | (go_simp; done) | (go_simp; rfl)); intro ga hg w9 hbox hb9; have BA9 := Aside0.mk hbox; have GA := Aside0.mk (show w.heap.size ≤ ga from (by rw [hg]; exact HB8.out.size)); have hna : gb ≠ ga := (by rw [hg]; exact Nat.ne_of_lt (blk_lt BK8.out)); have hna2 : ga ≠ gb := fun h => hna h.symm; have hnp : gp ≠ ga := (by rw [hg]; exact Nat.ne_of_lt (blk_lt BP8.out)); have hnp2 : ga ≠ gp := fun h => hnp h.symm; clear hbox hg; have BK9 := Aside0.mk (blk_below BK8.out hb9); have BP9 := Aside0.mk (blk_below BP8.out hb9); have HB9 := Aside0.mk (then_below HB8.out hb9); have HR9 := Aside0.mk (Kd.R_below HR8.out hb9); have HC9 := Aside0.mk (Kd.C_below HC8.out hb9); clear hb9; clear hc0 hf0 hc1 hf1 hc2 hf2 hc3 hf3 hc4 hf4; clear pc0 pf0 pc1 pf1 pc2 pf2 pc3 pf3 pc4 pf4; obtain ⟨hc0, hc1, hc2, hc3, hc4, hf0, hf1, hf2, hf3, hf4⟩ := five BK9.out; obtain ⟨pc0, pc1, pc2, pc3, pc4, pf0, pf1, pf2, pf3, pf4⟩ := five BP9.out; have ac0 : w9.cell? ⟨ga, 0, none⟩ = some (.string ⟨#[]⟩) := (blk_cell BA9.out 0).trans rfl; have ac1 : w9.cell? ⟨ga, 1, none⟩ = some (.string ⟨#[]⟩) := (blk_cell BA9.out 1).trans rfl; have af0 := blk_frozen BA9.out 0; have af1 := blk_frozen BA9.out 1)); refine bodyPost_ret (results_ctt rfl _ _ gb 26 #[.bool false, .bool false, .slice none 0 0, .string ⟨#[]⟩, .string ⟨#[]⟩] (0, 0) _ rfl (by exact blk5 (blk_far (blk_far BK9.out (by exact hna) _) (by exact hna) _) rfl _ _ _ _ _) Tryz.underlying26 rfl (by kernel_rfl)) rfl ⟨_, rfl, Kd.R_nil _ _ _ _ _, by exact below5 (below_set (below_set HB9.out GA.out) GA.out) GE.out _ _ _ _ _⟩)
end Go.Proofs.YtmhcdigneamgdaaGreatDoor.G

/- Path.Parse whole: the ways together. -/
namespace Go.Proofs.YtmhcdigneamgdaaGreatDoor.G
open Go.RowKit Go.Proofs.YtmhcdigneamgdaaGreatDoorW.PrintWords Go.Proofs.YtmhcdigneamgdaaGreatDoorW.PrintMore Go.Proofs.YtmhcdigneamgdaaGreatDoor.Qa Go.Proofs.YtmhcdigneamgdaaGreatDoor.Qb
set_option linter.unusedVariables false

theorem finPath_cases (a0 behind : ByteArray) (nul post : Bool) (l : List ByteArray) (loc dom : ByteArray) (wrong : Int) :
    (wrong = 0 ∧ (a0.size : Int) - (behind.size : Int) ≤ 256 ∧ finPath a0 behind nul post l loc dom wrong = (nul, post, l, loc, dom, behind, 0)) ∨
    (wrong ≠ 0 ∧ finPath a0 behind nul post l loc dom wrong = noPath 3) ∨
    (wrong = 0 ∧ 256 < (a0.size : Int) - (behind.size : Int) ∧ finPath a0 behind nul post l loc dom wrong = noPath 3) := by
  unfold finPath
  by_cases h : wrong = 0
  · by_cases h2 : (a0.size : Int) - (behind.size : Int) > 256
    · right; right; exact ⟨h, h2, by simp [h2]⟩
    · left; exact ⟨h, by omega, by simp [h, h2]⟩
  · right; left; exact ⟨h, by simp [h]⟩

theorem behind_size (s2 : ByteArray) (m : Nat) (hm : m < s2.size) : ((s2.extract (m + 1) s2.size).size : Int) = ((s2.size - (m + 1) : Nat) : Int) := by
  simp [ByteArray.size_extract]

theorem path_Parse.calls (k : Nat) (a0 : ByteArray) (r1 r2 : Bool) (r3 : List ByteArray) (r4 r5 r6 : ByteArray) (r7 : Int) (w : World)
    (hf : path_Parse.f k a0 = some (r1, r2, r3, r4, r5, r6, r7)) (hG : Glob w) :
    Calls Tryz.prog 12 #[.string a0] w fun e w' => ∃ v2_ : Value, e = .returned (.tuple #[.agg #[.bool r1, .bool r2, v2_, .string r4, .string r5], .string r6, .int .i64 r7]) ∧ Kd.R Kd.string 9 w' w.heap.size (fun _ => True) v2_ r3 ∧ Below w.heap.size w w' := by
  unfold path_Parse.f at hf
  obtain ⟨⟨s1, b0⟩, hcp, hf⟩ := Option.bind_eq_some_iff.mp hf
  cases b0 with
  | false =>
    simp only [if_true, noPath, Option.some.injEq, Prod.mk.injEq] at hf
    obtain ⟨rfl, rfl, rfl, rfl, rfl, rfl, rfl⟩ := hf
    exact parse_no a0 s1 w hcp
  | true =>
    rw [if_neg (by simp)] at hf
    obtain ⟨⟨rt, s2, b⟩, hrt, hf⟩ := Option.bind_eq_some_iff.mp hf
    obtain ⟨n, hen, hf⟩ := Option.bind_eq_some_iff.mp hf
    dsimp only at hf hen
    by_cases hb : b = false ∨ n < 0
    · rw [if_pos hb] at hf
      simp only [noPath, Option.some.injEq, Prod.mk.injEq] at hf
      obtain ⟨rfl, rfl, rfl, rfl, rfl, rfl, rfl⟩ := hf
      exact parse_bad k a0 s1 s2 rt b n w hG hcp hrt hen hb
    · rw [if_neg hb] at hf
      by_cases hg : n < (s2.size : Int) ∧ a0.size ≤ 4294967280 ∧ s2.size ≤ a0.size
      · rw [if_pos hg] at hf
        have hbt : b = true := by cases b <;> simp_all
        have hn : 0 ≤ n := by omega
        subst hbt
        obtain ⟨m, rfl⟩ := Int.eq_ofNat_of_zero_le hn
        obtain ⟨h1, h2, h3⟩ := hg
        have hm : m < s2.size := by omega
        have hs : s2.size ≤ 4294967280 := by omega
        have hbs := behind_size s2 m hm
        simp only [Int.toNat_natCast] at hf
        generalize hbe : s2.extract (m + 1) s2.size = be at hf hbs
        have key : ∀ x y : PR, x = y → some x = some (r1, r2, r3, r4, r5, r6, r7) → y = (r1, r2, r3, r4, r5, r6, r7) := fun x y h h2 => by rw [← h]; exact Option.some.inj h2
        unfold onePath at hf
        obtain ⟨wr, hdm, hf⟩ := Option.bind_eq_some_iff.mp hf
        by_cases hnull : (s2.extract 0 m).toList = [] ∧ rt = []
        · rw [if_pos hnull] at hf
          have hrl : ((rt.length : Int) == 0) = true := by rw [hnull.2]; rfl
          rcases finPath_cases a0 be true false rt ⟨#[]⟩ ⟨#[]⟩ wr with ⟨hw, hz, he⟩ | ⟨hw, he⟩ | ⟨hw, hz, he⟩ <;> have hf' := key _ _ he hf <;> simp only [noPath, Prod.mk.injEq] at hf' <;> obtain ⟨rfl, rfl, rfl, rfl, rfl, rfl, rfl⟩ := hf'
          · rw [← hbe]; exact parse_null_ok k a0 s1 s2 rt m wr w hG hcp hrt hen hm hs h2 hdm hnull.1 hrl hw (by omega)
          · exact parse_null_lw k a0 s1 s2 rt m wr w hG hcp hrt hen hm hs h2 hdm hnull.1 hrl (by simpa using hw)
          · exact parse_null_ls k a0 s1 s2 rt m wr w hG hcp hrt hen hm hs h2 hdm hnull.1 hrl hw (by omega)
        · rw [if_neg hnull] at hf
          obtain ⟨sm, hsm, hf⟩ := Option.bind_eq_some_iff.mp hf
          have hone : ((s2.extract 0 m).toList.isEmpty && ((rt.length : Int) == 0)) = false := by
            rw [Bool.eq_false_iff]
            intro h
            rw [Bool.and_eq_true] at h
            exact hnull ⟨by simpa using h.1, by simpa using h.2⟩
          by_cases hpost : sm = true ∧ rt = []
          · rw [if_pos hpost] at hf
            have hrl : ((rt.length : Int) == 0) = true := by rw [hpost.2]; rfl
            rw [hpost.1] at hsm
            rcases finPath_cases a0 be false true rt ⟨#[]⟩ ⟨#[]⟩ wr with ⟨hw, hz, he⟩ | ⟨hw, he⟩ | ⟨hw, hz, he⟩ <;> have hf' := key _ _ he hf <;> simp only [noPath, Prod.mk.injEq] at hf' <;> obtain ⟨rfl, rfl, rfl, rfl, rfl, rfl, rfl⟩ := hf'
            · rw [← hbe]; exact parse_post_ok k a0 s1 s2 rt m wr w hG hcp hrt hen hm hs h2 hdm hone hrl hsm hw (by omega)
            · exact parse_post_lw k a0 s1 s2 rt m wr w hG hcp hrt hen hm hs h2 hdm hone hrl hsm (by simpa using hw)
            · exact parse_post_ls k a0 s1 s2 rt m wr w hG hcp hrt hen hm hs h2 hdm hone hrl hsm hw (by omega)
          · rw [if_neg hpost] at hf
            obtain ⟨⟨al, ad, ae⟩, had, hf⟩ := Option.bind_eq_some_iff.mp hf
            dsimp only at hf
            have hcase : ((s2.extract 0 m).toList.isEmpty = false ∧ sm = false) ∨ ((rt.length : Int) == 0) = false := by
              cases hrl : ((rt.length : Int) == 0) with
              | false => exact Or.inr rfl
              | true =>
                left
                have hr : rt = [] := by simpa using hrl
                constructor
                · cases h : (s2.extract 0 m).toList.isEmpty with
                  | false => rfl
                  | true => rw [h, hrl] at hone; cases hone
                · cases sm with
                  | false => rfl
                  | true => exact absurd ⟨rfl, hr⟩ hpost
            by_cases h5 : ae = 5
            · rw [if_pos (Or.inl h5)] at hf
              simp only [noPath, Option.some.injEq, Prod.mk.injEq] at hf
              obtain ⟨rfl, rfl, rfl, rfl, rfl, rfl, rfl⟩ := hf
              exact parse_addr_f1 k a0 s1 s2 rt m wr al ad ae w hG hcp hrt hen hm hs h2 hdm sm hsm hcase had (by simpa using h5)
            · by_cases h6 : wr = 5
              · rw [if_pos (Or.inr h6)] at hf
                simp only [noPath, Option.some.injEq, Prod.mk.injEq] at hf
                obtain ⟨rfl, rfl, rfl, rfl, rfl, rfl, rfl⟩ := hf
                exact parse_addr_f2 k a0 s1 s2 rt m wr al ad ae w hG hcp hrt hen hm hs h2 hdm sm hsm hcase had (by simpa using h5) (by simpa using h6)
              · rw [if_neg (fun h => h.elim h5 h6)] at hf
                by_cases hnn : 0 ≤ ae ∧ 0 ≤ wr
                · rw [if_pos hnn] at hf
                  rcases finPath_cases a0 be false false rt al ad (if wr < ae then ae else wr) with ⟨hw, hz, he⟩ | ⟨hw, he⟩ | ⟨hw, hz, he⟩ <;> have hf' := key _ _ he hf <;> simp only [noPath, Prod.mk.injEq] at hf' <;> obtain ⟨rfl, rfl, rfl, rfl, rfl, rfl, rfl⟩ := hf'
                  · have h8 : wr = 0 ∧ ae = 0 := by split at hw <;> omega
                    rw [← hbe]; exact parse_addr_ok k a0 s1 s2 rt m wr al ad ae w hG hcp hrt hen hm hs h2 hdm sm hsm hcase had h8.1 h8.2 (by omega)
                  · by_cases hlt : wr < ae
                    · exact parse_addr_l1 k a0 s1 s2 rt m wr al ad ae w hG hcp hrt hen hm hs h2 hdm sm hsm hcase had (by simpa using h5) (by simpa using h6) hlt (by rw [if_pos hlt] at hw; simpa using hw)
                    · exact parse_addr_l2 k a0 s1 s2 rt m wr al ad ae w hG hcp hrt hen hm hs h2 hdm sm hsm hcase had (by simpa using h5) (by simpa using h6) (by omega) (by rw [if_neg hlt] at hw; simpa using hw)
                  · have h8 : wr = 0 ∧ ae = 0 := by split at hw <;> omega
                    exact parse_addr_ls k a0 s1 s2 rt m wr al ad ae w hG hcp hrt hen hm hs h2 hdm sm hsm hcase had h8.1 h8.2 (by omega)
                · rw [if_neg hnn] at hf; cases hf
      · rw [if_neg hg] at hf; cases hf
/-- More rounds tell the same. -/
theorem path_Parse.mono : ∀ a0 k, LeO (path_Parse.f k a0) (path_Parse.f (k + 1) a0) := by
  intro a0 k
  unfold path_Parse.f onePath
  repeat' first
      | (with_reducible exact path_route.mono _ _)
      | (with_reducible exact path_ends.mono _ _)
      | (with_reducible exact path_domains.mono _ _)
      | (with_reducible exact addr_Parse.mono _ _)
      | (with_reducible exact LeO.refl _)
      | (with_reducible exact LeO.none _)
      | (with_reducible refine LeO.ite ?_ ?_)
      | (with_reducible refine LeO.bind ?_ (fun _ => ?_))
end Go.Proofs.YtmhcdigneamgdaaGreatDoor.G

/- Walk of path.parts, with its closures. -/
namespace Go.Proofs.YtmhcdigneamgdaaGreatDoor.G
open Go.RowKit Go.Proofs.YtmhcdigneamgdaaGreatDoorW.PrintWords Go.Proofs.YtmhcdigneamgdaaGreatDoorW.PrintMore Go.Proofs.YtmhcdigneamgdaaGreatDoor.Qa Go.Proofs.YtmhcdigneamgdaaGreatDoor.Qb
set_option linter.unusedVariables false

def letterB (b : UInt8) : Bool := let c : Int := b.toNat; (decide (97 ≤ c) && decide (c ≤ 122)) || (decide (65 ≤ c) && decide (c ≤ 90)) || (decide (48 ≤ c) && decide (c ≤ 57)) || c == 45
def badB (b : UInt8) : Bool := let c : Int := b.toNat; decide (c ≤ 32) || decide (126 < c) || c == 61

set_option maxHeartbeats 4000000 in
theorem letter_calls (b : UInt8) (w : World) :
    Calls Tryz.prog 68 #[.int .u8 b.toNat] w fun e w' => e = .returned (.bool (letterB b)) ∧ w' = w := by
  unfold letterB
  generalize (b.toNat : Int) = c
  go_enter Tryz.func68, Tryz.ntmps68
  go_wp2
  all_goals
    go_ret
    show Ending.returned (.bool _) = _ ∧ _
    refine ⟨congrArg (fun x => Ending.returned (Value.bool x)) (Bool.eq_iff_iff.mpr ?_), rfl⟩
    simp only [Bool.or_eq_true, Bool.and_eq_true, decide_eq_true_eq, beq_iff_eq]
    try omega
set_option maxHeartbeats 4000000 in
theorem odd_calls (x : Int) (w : World) (hx : ∃ b : UInt8, x = (b.toNat : Int)) :
    Calls Tryz.prog 67 #[.int .u8 x] w fun e w' => e = .returned (.bool (!letterB x.toNat.toUInt8)) ∧ Below w.heap.size w w' := by
  obtain ⟨b, rfl⟩ := hx
  rw [byte_id]
  have hcon := letter_calls b w
  generalize letterB b = r at hcon
  generalize (b.toNat : Int) = c at hcon
  go_enter Tryz.func67, Tryz.ntmps67
  go_wp2_with (go_at_call 68; refine hcon.mono ?_; rintro e w' ⟨rfl, rfl⟩)
  go_ret
  exact ⟨rfl, Below.refl _ _⟩
set_option maxHeartbeats 4000000 in
theorem bad_calls (x : Int) (w : World) (hx : ∃ b : UInt8, x = (b.toNat : Int)) :
    Calls Tryz.prog 69 #[.int .u8 x] w fun e w' => e = .returned (.bool (badB x.toNat.toUInt8)) ∧ Below w.heap.size w w' := by
  obtain ⟨b, rfl⟩ := hx
  rw [byte_id]
  unfold badB
  generalize (b.toNat : Int) = c
  go_enter Tryz.func69, Tryz.ntmps69
  go_wp2
  all_goals
    go_ret
    show Ending.returned (.bool _) = _ ∧ _
    refine ⟨congrArg (fun x => Ending.returned (Value.bool x)) (Bool.eq_iff_iff.mpr ?_), Below.refl _ _⟩
    simp only [Bool.or_eq_true, Bool.and_eq_true, decide_eq_true_eq, beq_iff_eq]
    try omega

theorem con_of (p : UInt8 → Bool) (f : Nat) (eg : ∀ args w, (callFunc f args).run Tryz.prog w = .ok (.enter f args) w) (s : ByteArray) (w : World) (hs : s.size ≤ 9223372036854775807)
    (hp : ∀ (x : Int) (W : World), (∃ b : UInt8, x = (b.toNat : Int)) → Calls Tryz.prog f #[.int .u8 x] W fun e w' => e = .returned (.bool (p x.toNat.toUInt8)) ∧ Below W.heap.size W w') :
    Calls Tryz.prog 70 #[.slice (some ⟨w.heap.size, 0, none⟩) s.size (grownCap w s.size 0 5), .func (.func f) #[] #[]] (Lib.bytesWorld w 5 s) fun e w' => e = .returned (.bool (s.data.toList.any p)) ∧ Below w.heap.size w w' := by
  have hC := Kd.C_of_reads (d := (0 : Int)) (h1 := fun _ => rfl) (bytes_reads w 5 s hs)
  have hB := bytes_below (Below.refl w.heap.size w) (Nat.le_refl _) 5 s
  have hlen := bytesOf_length s
  rw [← hlen] at hC
  have hcon := conFunc_byte (fun x => p x.toNat.toUInt8) f #[] eg _ (grownCap w s.size 0 5) (bytesOf s) _ hC (fun W x hx hb => by
    obtain ⟨b, _, rfl⟩ := List.mem_map.1 hx
    exact (hp _ W ⟨b, rfl⟩).mono fun e w' ⟨he, hb2⟩ => ⟨he, hb.trans (hb2.mono hb.size)⟩)
  rw [hlen] at hcon
  have hx : ((bytesOf s).any fun x => p x.toNat.toUInt8) = s.data.toList.any p := by
    show ((s.data.toList.map fun b => (b.toNat : Int)).any fun x => p x.toNat.toUInt8) = _
    rw [List.any_map]
    congr 1
    funext b
    exact congrArg p (byte_id b)
  rw [hx] at hcon
  exact hcon.mono fun e w' ⟨he, hb⟩ => ⟨he, hB.trans (hb.mono hB.size)⟩
theorem results_tmp4 {fn : Func} {t u v x : Tmp} (h : fn.results = #[.tmp t, .tmp u, .tmp v, .tmp x]) (tmps : Array Value) (P : Program) (w : World) :
    (results fn tmps).run P w = .ok (.tuple #[tmps.getD t undef, tmps.getD u undef, tmps.getD v undef, tmps.getD x undef]) w := by
  simp [results, h]
theorem con_odd (s : ByteArray) (w : World) (r : Bool) (hs : s.size ≤ 9223372036854775807) (hr : (s.data.toList.any fun b => !letterB b) = r) :
    Calls Tryz.prog 70 #[.slice (some ⟨w.heap.size, 0, none⟩) s.size (grownCap w s.size 0 5), .func (.func 67) #[] #[]] (Lib.bytesWorld w 5 s) fun e w' => e = .returned (.bool r) ∧ Below w.heap.size w w' := by
  have h := con_of (fun b => !letterB b) 67 (enters_of Tryz.func67 (by kernel_rfl) rfl) s w hs odd_calls
  rw [hr] at h
  exact h
theorem con_bad (s : ByteArray) (w : World) (r : Bool) (hs : s.size ≤ 9223372036854775807) (hr : (s.data.toList.any badB) = r) :
    Calls Tryz.prog 70 #[.slice (some ⟨w.heap.size, 0, none⟩) s.size (grownCap w s.size 0 5), .func (.func 69) #[] #[]] (Lib.bytesWorld w 5 s) fun e w' => e = .returned (.bool r) ∧ Below w.heap.size w w' := by
  have h := con_of badB 69 (enters_of Tryz.func69 (by kernel_rfl) rfl) s w hs bad_calls
  rw [hr] at h
  exact h
set_option maxHeartbeats 8000000 in
set_option maxRecDepth 1000000 in
theorem parts_none (a0 n v l : ByteArray) (h : Bool) (w : World) (hG : Glob w) (hcut : strings_Cut.f a0 ⟨#[61]⟩ = some (n, v, h)) (hlow : text_Lower.f n = some l) (hn : n.size ≤ 9223372036854775807) (hv : v.size ≤ 9223372036854775807) (h0 : n.toList = []) :
    Calls Tryz.prog 41 #[.string a0] w fun e w' => e = .returned (.tuple #[.string l, .string v, .bool h, .bool false]) ∧ Below w.heap.size w w' := by
  have HCUT := Aside0.mk hcut
  have HLOW := Aside0.mk hlow
  have HN := Aside0.mk hn
  have HV := Aside0.mk hv
  have HG := Aside0.mk hG
  have HB := Aside0.mk (Below.refl w.heap.size w)
  have KB := Aside0.mk (fun (s : ByteArray) (W : World) => print_bytes (P := Tryz.prog) 9 55 5 Tryz.underlying9 Tryz.underlying55 Tryz.underlying5 s W)
  clear hcut hlow hn hv hG
  have h0b : n.toList.isEmpty = true := by rw [h0]; rfl
  go_enter Tryz.func41, Tryz.ntmps41
  go_wp2_with (first | (go_at_call 57; (with_reducible refine (strings_Cut.calls a0 ⟨#[61]⟩ n v h _ HCUT.out HG.out).mono ?_); rintro e w1 ⟨rfl, ⟨nd, rfl⟩⟩; have n0_ := Aside0.mk (pw_below_drewN HB.out nd); clear HB; have HB := n0_; clear n0_; generalize w.drewN nd = w1 at HB ⊢; have kb1 := KB.out n w1) | (go_at_call 60; (with_reducible refine (text_Lower.calls n l _ HLOW.out).mono ?_); rintro e w4 ⟨rfl, hb⟩; have n0_ := Aside0.mk (then_below HB.out hb); clear HB; have HB := n0_; clear n0_ hb))
  exact bodyPost_ret (results_tmp4 rfl _ _ _) rfl ⟨rfl, HB.out⟩
set_option maxHeartbeats 8000000 in
set_option maxRecDepth 1000000 in
theorem parts_odd (a0 n v l : ByteArray) (h : Bool) (w : World) (hG : Glob w) (hcut : strings_Cut.f a0 ⟨#[61]⟩ = some (n, v, h)) (hlow : text_Lower.f n = some l) (hn : n.size ≤ 9223372036854775807) (hv : v.size ≤ 9223372036854775807) (h0 : ¬ n.toList = []) (ho : (n.data.toList.any fun b => !letterB b) = true) :
    Calls Tryz.prog 41 #[.string a0] w fun e w' => e = .returned (.tuple #[.string l, .string v, .bool h, .bool false]) ∧ Below w.heap.size w w' := by
  have HCUT := Aside0.mk hcut
  have HLOW := Aside0.mk hlow
  have HN := Aside0.mk hn
  have HV := Aside0.mk hv
  have HG := Aside0.mk hG
  have HB := Aside0.mk (Below.refl w.heap.size w)
  have KB := Aside0.mk (fun (s : ByteArray) (W : World) => print_bytes (P := Tryz.prog) 9 55 5 Tryz.underlying9 Tryz.underlying55 Tryz.underlying5 s W)
  clear hcut hlow hn hv hG
  have h0b : n.toList.isEmpty = false := by simpa using h0
  have HO := Aside0.mk ho
  clear ho
  go_enter Tryz.func41, Tryz.ntmps41
  go_wp2_with (first | (go_at_call 57; (with_reducible refine (strings_Cut.calls a0 ⟨#[61]⟩ n v h _ HCUT.out HG.out).mono ?_); rintro e w1 ⟨rfl, ⟨nd, rfl⟩⟩; have n0_ := Aside0.mk (pw_below_drewN HB.out nd); clear HB; have HB := n0_; clear n0_; generalize w.drewN nd = w1 at HB ⊢; have kb1 := KB.out n w1) | (go_at_call 70; (with_reducible refine (con_odd n w1 true HN.out HO.out).mono ?_); rintro e w2 ⟨rfl, hb⟩; have n0_ := Aside0.mk (then_below HB.out hb); clear HB; have HB := n0_; clear n0_ hb; have kb2 := KB.out v w2) | (go_at_call 60; (with_reducible refine (text_Lower.calls n l _ HLOW.out).mono ?_); rintro e w4 ⟨rfl, hb⟩; have n0_ := Aside0.mk (then_below HB.out hb); clear HB; have HB := n0_; clear n0_ hb))
  exact bodyPost_ret (results_tmp4 rfl _ _ _) rfl ⟨rfl, HB.out⟩
set_option maxHeartbeats 8000000 in
set_option maxRecDepth 1000000 in
theorem parts_empty (a0 n v l : ByteArray) (w : World) (hG : Glob w) (hcut : strings_Cut.f a0 ⟨#[61]⟩ = some (n, v, true)) (hlow : text_Lower.f n = some l) (hn : n.size ≤ 9223372036854775807) (hv : v.size ≤ 9223372036854775807) (h0 : ¬ n.toList = []) (ho : (n.data.toList.any fun b => !letterB b) = false) (h1 : v.toList = []) :
    Calls Tryz.prog 41 #[.string a0] w fun e w' => e = .returned (.tuple #[.string l, .string v, .bool true, .bool false]) ∧ Below w.heap.size w w' := by
  have HCUT := Aside0.mk hcut
  have HLOW := Aside0.mk hlow
  have HN := Aside0.mk hn
  have HV := Aside0.mk hv
  have HG := Aside0.mk hG
  have HB := Aside0.mk (Below.refl w.heap.size w)
  have KB := Aside0.mk (fun (s : ByteArray) (W : World) => print_bytes (P := Tryz.prog) 9 55 5 Tryz.underlying9 Tryz.underlying55 Tryz.underlying5 s W)
  clear hcut hlow hn hv hG
  have h0b : n.toList.isEmpty = false := by simpa using h0
  have h1b : v.toList.isEmpty = true := by rw [h1]; rfl
  have HO := Aside0.mk ho
  clear ho
  go_enter Tryz.func41, Tryz.ntmps41
  go_wp2_with (first | (go_at_call 57; (with_reducible refine (strings_Cut.calls a0 ⟨#[61]⟩ n v true _ HCUT.out HG.out).mono ?_); rintro e w1 ⟨rfl, ⟨nd, rfl⟩⟩; have n0_ := Aside0.mk (pw_below_drewN HB.out nd); clear HB; have HB := n0_; clear n0_; generalize w.drewN nd = w1 at HB ⊢; have kb1 := KB.out n w1) | (go_at_call 70; (with_reducible refine (con_odd n w1 false HN.out HO.out).mono ?_); rintro e w2 ⟨rfl, hb⟩; have n0_ := Aside0.mk (then_below HB.out hb); clear HB; have HB := n0_; clear n0_ hb; have kb2 := KB.out v w2) | (go_at_call 60; (with_reducible refine (text_Lower.calls n l _ HLOW.out).mono ?_); rintro e w4 ⟨rfl, hb⟩; have n0_ := Aside0.mk (then_below HB.out hb); clear HB; have HB := n0_; clear n0_ hb))
  exact bodyPost_ret (results_tmp4 rfl _ _ _) rfl ⟨rfl, HB.out⟩
set_option maxHeartbeats 8000000 in
set_option maxRecDepth 1000000 in
theorem parts_has (a0 n v l : ByteArray) (w : World) (hG : Glob w) (hcut : strings_Cut.f a0 ⟨#[61]⟩ = some (n, v, true)) (hlow : text_Lower.f n = some l) (hn : n.size ≤ 9223372036854775807) (hv : v.size ≤ 9223372036854775807) (r : Bool) (h0 : ¬ n.toList = []) (ho : (n.data.toList.any fun b => !letterB b) = false) (h1 : ¬ v.toList = []) (hd : (v.data.toList.any badB) = r) :
    Calls Tryz.prog 41 #[.string a0] w fun e w' => e = .returned (.tuple #[.string l, .string v, .bool true, .bool (!r)]) ∧ Below w.heap.size w w' := by
  have HCUT := Aside0.mk hcut
  have HLOW := Aside0.mk hlow
  have HN := Aside0.mk hn
  have HV := Aside0.mk hv
  have HG := Aside0.mk hG
  have HB := Aside0.mk (Below.refl w.heap.size w)
  have KB := Aside0.mk (fun (s : ByteArray) (W : World) => print_bytes (P := Tryz.prog) 9 55 5 Tryz.underlying9 Tryz.underlying55 Tryz.underlying5 s W)
  clear hcut hlow hn hv hG
  have h0b : n.toList.isEmpty = false := by simpa using h0
  have h1b : v.toList.isEmpty = false := by simpa using h1
  have HD := Aside0.mk hd
  clear hd
  have HO := Aside0.mk ho
  clear ho
  go_enter Tryz.func41, Tryz.ntmps41
  go_wp2_with (first | (go_at_call 57; (with_reducible refine (strings_Cut.calls a0 ⟨#[61]⟩ n v true _ HCUT.out HG.out).mono ?_); rintro e w1 ⟨rfl, ⟨nd, rfl⟩⟩; have n0_ := Aside0.mk (pw_below_drewN HB.out nd); clear HB; have HB := n0_; clear n0_; generalize w.drewN nd = w1 at HB ⊢; have kb1 := KB.out n w1) | (go_at_call 70; (with_reducible refine (con_odd n w1 false HN.out HO.out).mono ?_); rintro e w2 ⟨rfl, hb⟩; have n0_ := Aside0.mk (then_below HB.out hb); clear HB; have HB := n0_; clear n0_ hb; have kb2 := KB.out v w2) | (go_at_call 70; (with_reducible refine (con_bad v w2 r HV.out HD.out).mono ?_); rintro e w3 ⟨rfl, hb⟩; have n0_ := Aside0.mk (then_below HB.out hb); clear HB; have HB := n0_; clear n0_ hb) | (go_at_call 60; (with_reducible refine (text_Lower.calls n l _ HLOW.out).mono ?_); rintro e w4 ⟨rfl, hb⟩; have n0_ := Aside0.mk (then_below HB.out hb); clear HB; have HB := n0_; clear n0_ hb))
  exact bodyPost_ret (results_tmp4 rfl _ _ _) rfl ⟨rfl, HB.out⟩
set_option maxHeartbeats 8000000 in
set_option maxRecDepth 1000000 in
theorem parts_bare (a0 n v l : ByteArray) (w : World) (hG : Glob w) (hcut : strings_Cut.f a0 ⟨#[61]⟩ = some (n, v, false)) (hlow : text_Lower.f n = some l) (hn : n.size ≤ 9223372036854775807) (hv : v.size ≤ 9223372036854775807) (r : Bool) (h0 : ¬ n.toList = []) (ho : (n.data.toList.any fun b => !letterB b) = false) (hd : (v.data.toList.any badB) = r) :
    Calls Tryz.prog 41 #[.string a0] w fun e w' => e = .returned (.tuple #[.string l, .string v, .bool false, .bool (!r)]) ∧ Below w.heap.size w w' := by
  have HCUT := Aside0.mk hcut
  have HLOW := Aside0.mk hlow
  have HN := Aside0.mk hn
  have HV := Aside0.mk hv
  have HG := Aside0.mk hG
  have HB := Aside0.mk (Below.refl w.heap.size w)
  have KB := Aside0.mk (fun (s : ByteArray) (W : World) => print_bytes (P := Tryz.prog) 9 55 5 Tryz.underlying9 Tryz.underlying55 Tryz.underlying5 s W)
  clear hcut hlow hn hv hG
  have h0b : n.toList.isEmpty = false := by simpa using h0
  have HD := Aside0.mk hd
  clear hd
  have HO := Aside0.mk ho
  clear ho
  go_enter Tryz.func41, Tryz.ntmps41
  go_wp2_with (first | (go_at_call 57; (with_reducible refine (strings_Cut.calls a0 ⟨#[61]⟩ n v false _ HCUT.out HG.out).mono ?_); rintro e w1 ⟨rfl, ⟨nd, rfl⟩⟩; have n0_ := Aside0.mk (pw_below_drewN HB.out nd); clear HB; have HB := n0_; clear n0_; generalize w.drewN nd = w1 at HB ⊢; have kb1 := KB.out n w1) | (go_at_call 70; (with_reducible refine (con_odd n w1 false HN.out HO.out).mono ?_); rintro e w2 ⟨rfl, hb⟩; have n0_ := Aside0.mk (then_below HB.out hb); clear HB; have HB := n0_; clear n0_ hb; have kb2 := KB.out v w2) | (go_at_call 70; (with_reducible refine (con_bad v w2 r HV.out HD.out).mono ?_); rintro e w3 ⟨rfl, hb⟩; have n0_ := Aside0.mk (then_below HB.out hb); clear HB; have HB := n0_; clear n0_ hb) | (go_at_call 60; (with_reducible refine (text_Lower.calls n l _ HLOW.out).mono ?_); rintro e w4 ⟨rfl, hb⟩; have n0_ := Aside0.mk (then_below HB.out hb); clear HB; have HB := n0_; clear n0_ hb))
  exact bodyPost_ret (results_tmp4 rfl _ _ _) rfl ⟨rfl, HB.out⟩
def isParam (n v : ByteArray) (h : Bool) : Bool := !n.toList.isEmpty && n.data.toList.all letterB && (!h || !v.toList.isEmpty) && !(v.data.toList.any badB)
def path_parts.f (a0 : ByteArray) : Option (ByteArray × ByteArray × Bool × Bool) :=
  (strings_Cut.f a0 ⟨#[61]⟩).bind fun c => (text_Lower.f c.1).bind fun l =>
    if c.1.size ≤ 9223372036854775807 ∧ c.2.1.size ≤ 9223372036854775807 then some (l, c.2.1, c.2.2, isParam c.1 c.2.1 c.2.2) else none
theorem any_odd (l : List UInt8) : (l.any fun b => !letterB b) = !(l.all letterB) := by
  induction l with
  | nil => rfl
  | cons a l ih => simp only [List.any_cons, List.all_cons, Bool.not_and, ih]
theorem path_parts.calls (a0 r1 r2 : ByteArray) (r3 r4 : Bool) (w : World) (hf : path_parts.f a0 = some (r1, r2, r3, r4)) (hG : Glob w) :
    Calls Tryz.prog 41 #[.string a0] w fun e w' => e = .returned (.tuple #[.string r1, .string r2, .bool r3, .bool r4]) ∧ Below w.heap.size w w' := by
  unfold path_parts.f at hf
  obtain ⟨⟨n, v, h⟩, hcut, hf⟩ := Option.bind_eq_some_iff.mp hf
  obtain ⟨l, hlow, hf⟩ := Option.bind_eq_some_iff.mp hf
  dsimp only at hf hlow
  split at hf
  · rename_i hs
    obtain ⟨hn, hv⟩ := hs
    simp only [Option.some.injEq, Prod.mk.injEq] at hf
    obtain ⟨rfl, rfl, rfl, rfl⟩ := hf
    by_cases h0 : n.toList = []
    · have hr : isParam n v h = false := by simp [isParam, h0]
      rw [hr]
      exact parts_none a0 n v l h w hG hcut hlow hn hv h0
    · have h0b : n.toList.isEmpty = false := by simpa using h0
      cases ho : (n.data.toList.any fun b => !letterB b) with
      | true =>
        have hl : n.data.toList.all letterB = false := by
          have := any_odd n.data.toList
          rw [ho] at this
          simpa using this.symm
        have hr : isParam n v h = false := by simp [isParam, hl]
        rw [hr]
        exact parts_odd a0 n v l h w hG hcut hlow hn hv h0 ho
      | false =>
        have hl : n.data.toList.all letterB = true := by
          have := any_odd n.data.toList
          rw [ho] at this
          simpa using this.symm
        cases h with
        | false =>
          have hr : isParam n v false = !(v.data.toList.any badB) := by simp [isParam, hl, h0b]
          rw [hr]
          exact parts_bare a0 n v l w hG hcut hlow hn hv _ h0 ho rfl
        | true =>
          by_cases h1 : v.toList = []
          · have hr : isParam n v true = false := by simp [isParam, h1]
            rw [hr]
            exact parts_empty a0 n v l w hG hcut hlow hn hv h0 ho h1
          · have h1b : v.toList.isEmpty = false := by simpa using h1
            have hr : isParam n v true = !(v.data.toList.any badB) := by simp [isParam, hl, h0b, h1b]
            rw [hr]
            exact parts_has a0 n v l w hG hcut hlow hn hv _ h0 ho h1 rfl
  · cases hf
end Go.Proofs.YtmhcdigneamgdaaGreatDoor.G

/- Walk of path.ParseParams at the two texts that the chapter's rows come to ("" and " SIZE=5"). -/
namespace Go.Proofs.YtmhcdigneamgdaaGreatDoor.G
open Go.RowKit Go.Proofs.YtmhcdigneamgdaaGreatDoorW.PrintWords Go.Proofs.YtmhcdigneamgdaaGreatDoorW.PrintMore Go.Proofs.YtmhcdigneamgdaaGreatDoor.Qa Go.Proofs.YtmhcdigneamgdaaGreatDoor.Qb
attribute [local go_sem] max2_int max_two
set_option linter.unusedVariables false

/-- All blocks but one are as they were. -/
structure But (g : Nat) (w w' : World) : Prop where
  os : w'.os = w.os
  tape : w'.tape = w.tape
  output : w'.output = w.output
  size : w.heap.size ≤ w'.heap.size
  block : ∀ k, k < w.heap.size → k ≠ g → w'.heap[k]? = w.heap[k]?
theorem But.below {g base : Nat} {w w' : World} (h : But g w w') (hg : base ≤ g) (hb : base ≤ w.heap.size) : Below base w w' :=
  ⟨h.os, h.tape, h.output, h.size, fun k hk => h.block k (by omega) (by omega)⟩
theorem But.blk {g b : Nat} {o : Obj} {w w' : World} (h : But g w w') (hb : w.heap[b]? = some o) (hne : b ≠ g) : w'.heap[b]? = some o :=
  (h.block b (blk_lt hb) hne).trans hb
theorem But.of_set (w : World) (g j : Nat) (v : Value) : But g w (w.setCell ⟨g, j, none⟩ v) :=
  ⟨rfl, rfl, rfl, by simp [World.setCell], fun k _ hn => Below.heap_setCell w ⟨g, j, none⟩ v k hn⟩
theorem But.of_below {g : Nat} {w w' : World} (h : Below w.heap.size w w') : But g w w' := ⟨h.os, h.tape, h.output, h.size, fun k hk _ => h.block k hk⟩
theorem But.trans {g : Nat} {a b c : World} (h : But g a b) (k : But g b c) : But g a c :=
  ⟨k.os.trans h.os, k.tape.trans h.tape, k.output.trans h.output, Nat.le_trans h.size k.size, fun i hi hn => (k.block i (Nat.lt_of_lt_of_le hi h.size) hn).trans (h.block i hi hn)⟩

set_option maxHeartbeats 4000000 in
theorem params_none (w : World) :
    Calls Tryz.prog 16 #[.string ⟨#[]⟩] w fun e w' => e = .returned (.tuple #[.agg #[.bool false, .bool false, .int .i64 0], .int .i64 0]) ∧ Below w.heap.size w w' := by
  go_enter Tryz.func16, Tryz.ntmps16
  go_wp2
  exact bodyPost_ret (v := .tuple #[.agg #[.bool false, .bool false, .int .i64 0], .int .i64 0]) (by simp [results, Tryz.results16, go_sem]) rfl ⟨rfl, by go_grown⟩

set_option maxHeartbeats 4000000 in
theorem say_size (g : Nat) (h e : Bool) (n : Int) (v : ByteArray) (r1 r2 : Int) (w : World) (hb : w.heap[g]? = some (.cells #[.bool h, .bool e, .int .i64 n] 46 (0, 0))) (hn : text_Number.f v 9 = some (r1, r2)) :
    Calls Tryz.prog 159 #[.pointer (some ⟨g, 0, none⟩), .string v] w fun E w' => E = .returned (.int .i64 r2) ∧ w'.heap[g]? = some (.cells #[.bool true, .bool e, .int .i64 r1] 46 (0, 0)) ∧ But g w w' := by
  have HN := Aside0.mk hn
  have HB := Aside0.mk hb
  clear hn
  have c0 := (blk_cell hb 0).trans rfl
  have f0 := blk_frozen hb 0
  have f2 := blk_frozen hb 2
  clear hb
  go_enter Tryz.func159, Tryz.ntmps159
  go_wp2_with (go_at_call 106; (with_reducible refine (text_Number.calls v 9 r1 r2 _ HN.out).mono ?_); rintro e' w2 ⟨rfl, hb2⟩; have HB2 := Aside0.mk (blk_below (blk_put HB.out 0 (.bool true) rfl) hb2); have BT := Aside0.mk ((But.of_set w g 0 (.bool true)).trans (But.of_below hb2)); clear hb2; have d2 := (blk_cell HB2.out 2).trans rfl; have f2' := blk_frozen HB2.out 2)
  go_ret
  exact ⟨rfl, blk_put HB2.out 2 (.int .i64 r1) rfl, BT.out.trans (But.of_set _ g 2 (.int .i64 r1))⟩

set_option maxHeartbeats 4000000 in
theorem index_nil (s : ByteArray) (w : World) :
    Calls Tryz.prog 71 #[.slice none 0 0, .string s] w fun E w' => E = .returned (.int .i64 (-1)) ∧ w' = w := by
  go_enter Tryz.func71, Tryz.ntmps71
  go_wp2
  go_rounds 1
  go_ret
  exact ⟨rfl, rfl⟩
set_option maxHeartbeats 4000000 in
theorem contains_nil (s : ByteArray) (w : World) :
    Calls Tryz.prog 42 #[.slice none 0 0, .string s] w fun E w' => E = .returned (.bool false) ∧ w' = w := by
  go_enter Tryz.func42, Tryz.ntmps42
  go_wp2_with (go_at_call 71; (with_reducible refine (index_nil s _).mono ?_); rintro e w' ⟨rfl, rfl⟩)
  go_ret
  exact ⟨rfl, rfl⟩

/-- The lookup of what parameters say. -/
theorem says_run {w : World} (hG : Glob w) : ∃ (bm : Nat), w.cell? ⟨0, 0, none⟩ = some (.map (some bm)) ∧ ∀ (W : World), Below w.heap.size w W → ∀ (s : ByteArray), s.size ≤ 9223372036854775807 → (Instr.lookup 87 (.map (some bm)) (.string s) true).run Tryz.prog W = .ok (.tuple #[sayVal s, .bool (sayHas s)]) W := by
  obtain ⟨bm, es, clock, h1, h2, h3⟩ := hG.says
  exact ⟨bm, h1, fun W hb s hs => h3 W s (blk_below h2 hb) hs⟩

def sizeFive : ByteArray := ⟨#[83, 73, 90, 69, 61, 53]⟩
def spaceSize : ByteArray := ⟨#[32, 83, 73, 90, 69, 61, 53]⟩
theorem split_five : text_Split.f 5 ((⟨#[32, 83, 73, 90, 69, 61, 53]⟩ : ByteArray).extract 1 7) 32 = some [sizeFive] := by kernel_rfl
theorem parts_five : path_parts.f sizeFive = some (⟨#[115, 105, 122, 101]⟩, ⟨#[53]⟩, true, true) := by kernel_rfl
theorem number_five : text_Number.f ⟨#[53]⟩ 9 = some (5, 0) := by kernel_rfl

theorem say_at : sayVal ⟨#[115, 105, 122, 101]⟩ = .func (.func 159) #[] #[] := by kernel_rfl
theorem say_has : sayHas ⟨#[115, 105, 122, 101]⟩ = true := by kernel_rfl
set_option maxRecDepth 1000000 in
set_option maxHeartbeats 4000000 in
theorem params_size (w : World) (hG : Glob w) :
    Calls Tryz.prog 16 #[.string ⟨#[32, 83, 73, 90, 69, 61, 53]⟩] w fun e w' => e = .returned (.tuple #[.agg #[.bool true, .bool false, .int .i64 5], .int .i64 0]) ∧ Below w.heap.size w w' := by
  have HG := Aside0.mk hG
  clear hG
  go_enter Tryz.func16, Tryz.ntmps16
  go_wp2_with (first | (go_at_call 40; (with_reducible refine (text_Split.calls 5 ((⟨#[32, 83, 73, 90, 69, 61, 53]⟩ : ByteArray).extract 1 7) 32 [sizeFive] _ split_five).mono ?_); rintro e' w1 ⟨v0, rfl, hR, hb1⟩; obtain ⟨Ad, cp, rfl, hle, hC⟩ := Kd.R_reads hR; obtain ⟨ad, rfl, hcell⟩ := Kd.at_string hC 0 (by decide) (by decide); have BR1 := Aside0.mk (blk_below (blk_alloc (blk_new w (.cells #[.bool false, .bool false, .int .i64 0] 46)) _) hb1); have BP1 := Aside0.mk (blk_below (blk_new (w.alloc (.cells #[.bool false, .bool false, .int .i64 0] 46)) (.cells #[.bool false, .bool false, .int .i64 0] 46)) hb1); have HB1 := Aside0.mk (below_then (below_alloc (below_alloc (Below.refl _ _) _) _) (by simp; omega) hb1); clear hR hb1 hC hle; have hc0 : w1.cell? ad = some (.string sizeFive) := hcell; have hc1 : w1.cell? (ad.add 0) = some (.string sizeFive) := hcell; clear hcell))
  refine wp_loop_rounds 2 ?_
  rw [rounds_succ]
  obtain ⟨bm, hgc, hrun⟩ := says_run HG.out
  have HRUN := Aside0.mk hrun
  clear hrun
  have hg1 : w1.cell? ⟨0, 0, none⟩ = some (.map (some bm)) := pw_cell_below HB1.out hgc
  go_wp2_with (first | (go_at_call 41; (with_reducible refine (path_parts.calls sizeFive _ _ _ _ _ parts_five ?hGG).mono ?_); (case hGG => exact HG.out.below HB1.out); rintro e' w2 ⟨rfl, hb2⟩; have BR2 := Aside0.mk (blk_below BR1.out hb2); have BP2 := Aside0.mk (blk_below BP1.out hb2); have HB2 := Aside0.mk (then_below HB1.out hb2); have hg2 : w2.cell? ⟨0, 0, none⟩ = some (.map (some bm)) := pw_cell_below HB2.out hgc; have hl2 := HRUN.out w2 HB2.out ⟨#[115, 105, 122, 101]⟩ (by decide); rw [say_at, say_has] at hl2; clear hb2) | (go_at_call 42; (with_reducible refine (contains_nil ⟨#[115, 105, 122, 101]⟩ _).mono ?_); rintro e' w' ⟨rfl, rfl⟩) | (go_at_call 159; (with_reducible refine (say_size (w.heap.size + 1) false false 0 ⟨#[53]⟩ 5 0 _ ?hpb number_five).mono ?_); (case hpb => simpa using BP2.out); rintro e' w3 ⟨rfl, hp3, hbut⟩; have BR3 := Aside0.mk (hbut.blk BR2.out (by omega)); have BP3 := Aside0.mk hp3; have HB3 := Aside0.mk (HB2.out.trans (hbut.below (by omega) HB2.out.size)); clear hbut hp3; have pc0 : w3.cell? ⟨w.heap.size + 1, 0, none⟩ = some (.bool true) := (blk_cell BP3.out 0).trans rfl; have pc1 : w3.cell? ⟨w.heap.size + 1, 1, none⟩ = some (.bool false) := (blk_cell BP3.out 1).trans rfl; have pc2 : w3.cell? ⟨w.heap.size + 1, 2, none⟩ = some (.int .i64 5) := (blk_cell BP3.out 2).trans rfl; have rc0 : w3.cell? ⟨w.heap.size, 0, none⟩ = some (.bool false) := (blk_cell BR3.out 0).trans rfl; have rc1 : w3.cell? ⟨w.heap.size, 1, none⟩ = some (.bool false) := (blk_cell BR3.out 1).trans rfl; have rc2 : w3.cell? ⟨w.heap.size, 2, none⟩ = some (.int .i64 0) := (blk_cell BR3.out 2).trans rfl; have rf0 := blk_frozen BR3.out 0; have rf1 := blk_frozen BR3.out 1; have rf2 := blk_frozen BR3.out 2; have pf0 := blk_frozen BP3.out 0; have pf1 := blk_frozen BP3.out 1; have pf2 := blk_frozen BP3.out 2; have hz3 : w.heap.size + 1 < w3.heap.size := blk_lt BP3.out))
  have hb4 : ∀ o o', Below w3.heap.size w3 (World.drew (World.alloc (World.alloc w3 o) o')) := fun o o' => below_drew (below_alloc (below_alloc (Below.refl _ _) _) _)
  have HZ := Aside0.mk hz3
  clear hz3
  generalize hW4 : (World.drew (World.alloc (World.alloc w3 _) _)) = w4
  replace hb4 : Below w3.heap.size w3 w4 := hW4 ▸ hb4 _ _
  clear hW4 pc0 pc1 pc2 rc0 rc1 rc2 rf0 rf1 rf2 pf0 pf1 pf2
  have BR4 := Aside0.mk (blk_below BR3.out hb4); have BP4 := Aside0.mk (blk_below BP3.out hb4); have HB4 := Aside0.mk (then_below HB3.out hb4)
  clear hb4
  have pc0 : w4.cell? ⟨w.heap.size + 1, 0, none⟩ = some (.bool true) := (blk_cell BP4.out 0).trans rfl; have pc1 : w4.cell? ⟨w.heap.size + 1, 1, none⟩ = some (.bool false) := (blk_cell BP4.out 1).trans rfl; have pc2 : w4.cell? ⟨w.heap.size + 1, 2, none⟩ = some (.int .i64 5) := (blk_cell BP4.out 2).trans rfl; have rc0 : w4.cell? ⟨w.heap.size, 0, none⟩ = some (.bool false) := (blk_cell BR4.out 0).trans rfl; have rc1 : w4.cell? ⟨w.heap.size, 1, none⟩ = some (.bool false) := (blk_cell BR4.out 1).trans rfl; have rc2 : w4.cell? ⟨w.heap.size, 2, none⟩ = some (.int .i64 0) := (blk_cell BR4.out 2).trans rfl; have rf0 := blk_frozen BR4.out 0; have rf1 := blk_frozen BR4.out 1; have rf2 := blk_frozen BR4.out 2
  rw [rounds_succ]
  go_wp2
  refine bodyPost_ret (results_ct rfl _ _ w.heap.size 46 #[.bool true, .bool false, .int .i64 5] (0, 0) _ rfl (by exact blk_put (blk_put (blk_put BR4.out 0 (.bool true) rfl) 1 (.bool false) rfl) 2 (.int .i64 5) rfl) Tryz.underlying46 rfl (by kernel_rfl)) rfl ⟨rfl, ?_⟩
  exact below_set (below_set (below_set HB4.out (Nat.le_refl _)) (Nat.le_refl _)) (Nat.le_refl _)
/-- What path.ParseParams tells at the two texts. -/
def path_ParseParams.f (a0 : ByteArray) : Option (Bool × Bool × Int × Int) := if a0 = ⟨#[]⟩ then some (false, false, 0, 0) else if a0 = ⟨#[32, 83, 73, 90, 69, 61, 53]⟩ then some (true, false, 5, 0) else none
theorem path_ParseParams.calls (a0 : ByteArray) (r1 r2 : Bool) (r3 r4 : Int) (w : World) (h : path_ParseParams.f a0 = some (r1, r2, r3, r4)) (hG : Glob w) :
    Calls Tryz.prog 16 #[.string a0] w fun e w' => e = .returned (.tuple #[.agg #[.bool r1, .bool r2, .int .i64 r3], .int .i64 r4]) ∧ Below w.heap.size w w' := by
  unfold path_ParseParams.f at h
  split at h
  · rename_i ha
    subst ha
    simp only [Option.some.injEq, Prod.mk.injEq] at h
    obtain ⟨rfl, rfl, rfl, rfl⟩ := h
    exact params_none w
  · split at h
    · rename_i ha
      subst ha
      simp only [Option.some.injEq, Prod.mk.injEq] at h
      obtain ⟨rfl, rfl, rfl, rfl⟩ := h
      exact params_size w hG
    · cases h
end Go.Proofs.YtmhcdigneamgdaaGreatDoor.G

/- Walk of path.From where a path and its parameters are read. -/
namespace Go.Proofs.YtmhcdigneamgdaaGreatDoor.G
open Go.RowKit Go.Proofs.YtmhcdigneamgdaaGreatDoorW.PrintWords Go.Proofs.YtmhcdigneamgdaaGreatDoorW.PrintMore Go.Proofs.YtmhcdigneamgdaaGreatDoor.Qa Go.Proofs.YtmhcdigneamgdaaGreatDoor.Qb
attribute [local go_sem] max2_int max_two
set_option linter.unusedVariables false

theorem blk_new2 (w : World) (o o' : Obj) : ((w.alloc o).alloc o').heap[w.heap.size + 1]? = some o' := by
  have h := blk_new (w.alloc o) o'
  rwa [World.size_alloc] at h
theorem three {w : World} {g t : Nat} {v0 v1 v2 : Value} (h : w.heap[g]? = some (.cells #[v0, v1, v2] t (0, 0))) :
    w.cell? ⟨g, 0, none⟩ = some v0 ∧ w.cell? ⟨g, 1, none⟩ = some v1 ∧ w.cell? ⟨g, 2, none⟩ = some v2 ∧ w.frozen? ⟨g, 0, none⟩ = false ∧ w.frozen? ⟨g, 1, none⟩ = false ∧ w.frozen? ⟨g, 2, none⟩ = false :=
  ⟨(blk_cell h 0).trans rfl, (blk_cell h 1).trans rfl, (blk_cell h 2).trans rfl, blk_frozen h 0, blk_frozen h 1, blk_frozen h 2⟩
set_option maxHeartbeats 8000000 in
set_option maxRecDepth 1000000 in
theorem from_ok (k : Nat) (a0 : ByteArray) (nul : Bool) (l : List ByteArray) (loc dom rest : ByteArray) (h e : Bool) (n : Int) (w : World) (hG : Glob w) (hp : path_Parse.f k a0 = some (nul, false, l, loc, dom, rest, 0)) (hq : path_ParseParams.f rest = some (h, e, n, 0)) :
    Calls Tryz.prog 17 #[.string a0] w fun E w' => ∃ v2_ : Value, E = .returned (.tuple #[.agg #[.bool nul, .bool false, v2_, .string loc, .string dom], .agg #[.bool h, .bool e, .int .i64 n], .int .i64 0]) ∧ Kd.R Kd.string 9 w' w.heap.size (fun _ => True) v2_ l ∧ Below w.heap.size w w' := by
  have HP := Aside0.mk hp
  have HQ := Aside0.mk hq
  have HG := Aside0.mk hG
  clear hp hq hG
  go_enter Tryz.func17, Tryz.ntmps17
  go_upto_region 9 with (first | (go_at_call 12; (with_reducible refine (path_Parse.calls k a0 nul false l loc dom rest 0 _ HP.out ?hGG).mono ?_); (case hGG => exact HG.out.below (below_alloc (below_alloc (Below.refl _ _) _) _)); rintro e' w1 ⟨v2, rfl, hR, hb1⟩; obtain ⟨Ad, cp, rfl, hle, hC⟩ := Kd.R_reads hR; have HR1 := Aside0.mk (Kd.R_lower hR (show w.heap.size ≤ _ by simp; omega)); clear hR hle hC; have BR1 := Aside0.mk (blk_below (blk_alloc (blk_new w (.cells #[.bool false, .bool false, .slice none 0 0, .string ⟨#[]⟩, .string ⟨#[]⟩] 26)) _) hb1); have BP1 := Aside0.mk (blk_below (blk_new2 w _ (.cells #[.bool false, .bool false, .int .i64 0] 46)) hb1); have HB1 := Aside0.mk (then_below (below_alloc (below_alloc (Below.refl _ _) _) _) hb1); clear hb1) | (go_at_call 16; (with_reducible refine (path_ParseParams.calls rest h e n 0 _ HQ.out ?hGG).mono ?_); (case hGG => exact HG.out.below (below_alloc HB1.out _)); rintro e' w2 ⟨rfl, hb2⟩; have BR2 := Aside0.mk (blk_below (blk_alloc BR1.out _) hb2); have BP2 := Aside0.mk (blk_below (blk_alloc BP1.out _) hb2); have BQ2 := Aside0.mk (blk_below (blk_new w1 _) hb2); have HR2 := Aside0.mk (Kd.R_below (Kd.R_alloc HR1.out _) hb2); have HB2 := Aside0.mk (then_below (below_alloc HB1.out _) hb2); clear hb2))
  have fresh : ∀ o, Below w.heap.size w (w2.alloc o) := fun o => below_alloc HB2.out o
  have BR3 := Aside0.mk (blk_alloc BR2.out (.cells #[.bool h, .bool e, .int .i64 n] 46))
  have BP3 := Aside0.mk (blk_alloc BP2.out (.cells #[.bool h, .bool e, .int .i64 n] 46))
  have BQ3 := Aside0.mk (blk_alloc BQ2.out (.cells #[.bool h, .bool e, .int .i64 n] 46))
  have BS3 := Aside0.mk (blk_new w2 (.cells #[.bool h, .bool e, .int .i64 n] 46))
  have HR3 := Aside0.mk (Kd.R_alloc HR2.out (.cells #[.bool h, .bool e, .int .i64 n] 46))
  have HB3 := Aside0.mk (fresh (.cells #[.bool h, .bool e, .int .i64 n] 46))
  have GR := Aside0.mk (blk_lt BR1.out)
  have GP := Aside0.mk (blk_lt BP1.out)
  have GS := Aside0.mk (blk_lt BR2.out)
  have GT := Aside0.mk (blk_lt BP2.out)
  clear BR2 BP2 BQ2 HR2 HB2 fresh
  generalize (w2.alloc (.cells #[.bool h, .bool e, .int .i64 n] 46)) = w3 at BR3 BP3 BQ3 BS3 HR3 HB3 ⊢
  have ne0 : w.heap.size ≠ w.heap.size + 1 := by omega
  have me0 : w.heap.size + 1 ≠ w.heap.size := fun h => ne0 h.symm
  have ne1 : w.heap.size ≠ w1.heap.size := Nat.ne_of_lt GR.out
  have me1 : w1.heap.size ≠ w.heap.size := fun h => ne1 h.symm
  have ne2 : w.heap.size ≠ w2.heap.size := Nat.ne_of_lt GS.out
  have me2 : w2.heap.size ≠ w.heap.size := fun h => ne2 h.symm
  have ne3 : w.heap.size + 1 ≠ w1.heap.size := Nat.ne_of_lt GP.out
  have me3 : w1.heap.size ≠ w.heap.size + 1 := fun h => ne3 h.symm
  have ne4 : w.heap.size + 1 ≠ w2.heap.size := Nat.ne_of_lt GT.out
  have me4 : w2.heap.size ≠ w.heap.size + 1 := fun h => ne4 h.symm
  obtain ⟨rc0, rc1, rc2, rc3, rc4, rf0, rf1, rf2, rf3, rf4⟩ := five BR3.out
  obtain ⟨qc0, qc1, qc2, qc3, qc4, qf0, qf1, qf2, qf3, qf4⟩ := five BQ3.out
  obtain ⟨pc0, pc1, pc2, pf0, pf1, pf2⟩ := three BP3.out
  obtain ⟨sc0, sc1, sc2, sf0, sf1, sf2⟩ := three BS3.out
  go_region
  all_goals go_wp2_with fail
  have b5 := Aside0.mk (blk5 BR3.out rfl (.bool nul) (.bool false) (.slice Ad l.length cp) (.string loc) (.string dom))
  have r5 := Aside0.mk (R5 HR3.out BR3.out (by decide) rfl (.bool nul) (.bool false) (.slice Ad l.length cp) (.string loc) (.string dom))
  have e5 := Aside0.mk (below5 HB3.out (Nat.le_refl _) (.bool nul) (.bool false) (.slice Ad l.length cp) (.string loc) (.string dom))
  have p5 := Aside0.mk (blk_far (blk_far (blk_far (blk_far (blk_far BP3.out (p := ⟨w.heap.size, 0, none⟩) me0 (.bool nul)) (p := ⟨w.heap.size, 1, none⟩) me0 (.bool false)) (p := ⟨w.heap.size, 2, none⟩) me0 (.slice Ad l.length cp)) (p := ⟨w.heap.size, 3, none⟩) me0 (.string loc)) (p := ⟨w.heap.size, 4, none⟩) me0 (.string dom))
  generalize (((((w3.setCell ⟨w.heap.size, 0, none⟩ (.bool nul)).setCell ⟨w.heap.size, 1, none⟩ (.bool false)).setCell ⟨w.heap.size, 2, none⟩ (.slice Ad l.length cp)).setCell ⟨w.heap.size, 3, none⟩ (.string loc)).setCell ⟨w.heap.size, 4, none⟩ (.string dom)) = w5 at b5 r5 e5 p5 ⊢
  have q0 := blk_put p5.out 0 (.bool h) rfl
  have q1 := blk_put q0 1 (.bool e) rfl
  refine bodyPost_ret (results_list (rs := [.cell 2 26, .cell 3 46, .tmp 4]) rfl (by simp)
    (.cell w.heap.size 26 #[.bool nul, .bool false, .slice Ad l.length cp, .string loc, .string dom] (0, 0) _ rfl (by exact blk_drew (blk_far (blk_far (blk_far b5.out (by exact ne0) _) (by exact ne0) _) (by exact ne0) _)) Tryz.underlying26 rfl (by kernel_rfl)
      (.cell (w.heap.size + 1) 46 #[.bool h, .bool e, .int .i64 n] (0, 0) _ rfl (by exact blk_drew (blk_put q1 2 (.int .i64 n) rfl)) Tryz.underlying46 rfl (by kernel_rfl) (.tmp .nil)))) rfl ⟨_, rfl, ?_, ?_⟩
  · exact Kd.R_drew (R1 (R1 (R1 r5.out p5.out (by decide) 0 _) q0 (by decide) 1 _) q1 (by decide) 2 _)
  · exact below_drew (below_set (below_set (below_set e5.out (Nat.le_succ _)) (Nat.le_succ _)) (Nat.le_succ _))
end Go.Proofs.YtmhcdigneamgdaaGreatDoor.G

/- Walks of path.To at paths without parameters behind them, and of the chapter's rows (postriderlaw06.tells). -/
namespace Go.Proofs.YtmhcdigneamgdaaGreatDoor.G
open Go.RowKit Go.Proofs.YtmhcdigneamgdaaGreatDoorW.PrintWords Go.Proofs.YtmhcdigneamgdaaGreatDoorW.PrintMore Go.Proofs.YtmhcdigneamgdaaGreatDoor.Qa Go.Proofs.YtmhcdigneamgdaaGreatDoor.Qb
attribute [local go_sem] max2_int max_two
set_option linter.unusedVariables false

set_option maxHeartbeats 8000000 in
set_option maxRecDepth 1000000 in
theorem to_null (k : Nat) (a0 : ByteArray) (post : Bool) (l : List ByteArray) (loc dom rest : ByteArray) (w : World) (hG : Glob w) (hp : path_Parse.f k a0 = some (true, post, l, loc, dom, rest, 0)) :
    Calls Tryz.prog 18 #[.string a0] w fun e w' => e = .returned (.tuple #[.agg #[.bool false, .bool false, .slice none 0 0, .string ⟨#[]⟩, .string ⟨#[]⟩], .int .i64 5]) ∧ Below w.heap.size w w' := by
  have HP := Aside0.mk hp
  have HG := Aside0.mk hG
  clear hp hG
  go_enter Tryz.func18, Tryz.ntmps18
  go_wp2_with (go_at_call 12; (with_reducible refine (path_Parse.calls k a0 true post l loc dom rest 0 _ HP.out ?hGG).mono ?_); (case hGG => exact HG.out.below (below_alloc (Below.refl _ _) _)); rintro e' w1 ⟨v2, rfl, hR, hb1⟩; obtain ⟨Ad, cp, rfl, hle, hC⟩ := Kd.R_reads hR; have HR1 := Aside0.mk (Kd.R_lower hR (show w.heap.size ≤ _ by simp)); clear hR hle hC; have BR1 := Aside0.mk (blk_below (blk_new w (.cells #[.bool false, .bool false, .slice none 0 0, .string ⟨#[]⟩, .string ⟨#[]⟩] 26)) hb1); have HB1 := Aside0.mk (below_then (below_alloc (Below.refl _ _) _) (by simp) hb1); clear hb1; have rc0 : w1.cell? ⟨w.heap.size, 0, none⟩ = some (.bool false) := (blk_cell BR1.out 0).trans rfl; have rf0 := blk_frozen BR1.out 0; have rc1 : w1.cell? ⟨w.heap.size, 1, none⟩ = some (.bool false) := (blk_cell BR1.out 1).trans rfl; have rf1 := blk_frozen BR1.out 1; have rc2 : w1.cell? ⟨w.heap.size, 2, none⟩ = some (.slice none 0 0) := (blk_cell BR1.out 2).trans rfl; have rf2 := blk_frozen BR1.out 2; have rc3 : w1.cell? ⟨w.heap.size, 3, none⟩ = some (.string ⟨#[]⟩) := (blk_cell BR1.out 3).trans rfl; have rf3 := blk_frozen BR1.out 3; have rc4 : w1.cell? ⟨w.heap.size, 4, none⟩ = some (.string ⟨#[]⟩) := (blk_cell BR1.out 4).trans rfl; have rf4 := blk_frozen BR1.out 4; have hz1 : w.heap.size < w1.heap.size := blk_lt BR1.out; have hne : w.heap.size ≠ w1.heap.size := Nat.ne_of_lt hz1)
  refine bodyPost_ret (results_ct rfl _ _ w.heap.size 26 #[.bool false, .bool false, .slice none 0 0, .string ⟨#[]⟩, .string ⟨#[]⟩] (0, 0) _ rfl (by exact blk_alloc (blk5 BR1.out rfl _ _ _ _ _) _) Tryz.underlying26 rfl (by kernel_rfl)) rfl ⟨rfl, ?_⟩
  exact below_alloc (below5 HB1.out (Nat.le_refl _) _ _ _ _ _) _
set_option maxHeartbeats 8000000 in
set_option maxRecDepth 1000000 in
theorem to_ok (k : Nat) (a0 : ByteArray) (post : Bool) (l : List ByteArray) (loc dom : ByteArray) (w : World) (hG : Glob w) (hp : path_Parse.f k a0 = some (false, post, l, loc, dom, ⟨#[]⟩, 0)) :
    Calls Tryz.prog 18 #[.string a0] w fun e w' => ∃ v2_ : Value, e = .returned (.tuple #[.agg #[.bool false, .bool post, v2_, .string loc, .string dom], .int .i64 0]) ∧ Kd.R Kd.string 9 w' w.heap.size (fun _ => True) v2_ l ∧ Below w.heap.size w w' := by
  have HP := Aside0.mk hp
  have HG := Aside0.mk hG
  clear hp hG
  go_enter Tryz.func18, Tryz.ntmps18
  go_wp2_with (go_at_call 12; (with_reducible refine (path_Parse.calls k a0 false post l loc dom ⟨#[]⟩ 0 _ HP.out ?hGG).mono ?_); (case hGG => exact HG.out.below (below_alloc (Below.refl _ _) _)); rintro e' w1 ⟨v2, rfl, hR, hb1⟩; obtain ⟨Ad, cp, rfl, hle, hC⟩ := Kd.R_reads hR; have HR1 := Aside0.mk (Kd.R_lower hR (show w.heap.size ≤ _ by simp)); clear hR hle hC; have BR1 := Aside0.mk (blk_below (blk_new w (.cells #[.bool false, .bool false, .slice none 0 0, .string ⟨#[]⟩, .string ⟨#[]⟩] 26)) hb1); have HB1 := Aside0.mk (below_then (below_alloc (Below.refl _ _) _) (by simp) hb1); clear hb1; have rc0 : w1.cell? ⟨w.heap.size, 0, none⟩ = some (.bool false) := (blk_cell BR1.out 0).trans rfl; have rf0 := blk_frozen BR1.out 0; have rc1 : w1.cell? ⟨w.heap.size, 1, none⟩ = some (.bool false) := (blk_cell BR1.out 1).trans rfl; have rf1 := blk_frozen BR1.out 1; have rc2 : w1.cell? ⟨w.heap.size, 2, none⟩ = some (.slice none 0 0) := (blk_cell BR1.out 2).trans rfl; have rf2 := blk_frozen BR1.out 2; have rc3 : w1.cell? ⟨w.heap.size, 3, none⟩ = some (.string ⟨#[]⟩) := (blk_cell BR1.out 3).trans rfl; have rf3 := blk_frozen BR1.out 3; have rc4 : w1.cell? ⟨w.heap.size, 4, none⟩ = some (.string ⟨#[]⟩) := (blk_cell BR1.out 4).trans rfl; have rf4 := blk_frozen BR1.out 4; have hz1 : w.heap.size < w1.heap.size := blk_lt BR1.out; have hne : w.heap.size ≠ w1.heap.size := Nat.ne_of_lt hz1)
  refine bodyPost_ret (results_ct rfl _ _ w.heap.size 26 #[.bool false, .bool post, .slice Ad l.length cp, .string loc, .string dom] (0, 0) _ rfl (by exact blk_alloc (blk5 BR1.out rfl _ _ _ _ _) _) Tryz.underlying26 rfl (by kernel_rfl)) rfl ⟨_, rfl, ?_, ?_⟩
  · exact Kd.R_alloc (R5 HR1.out BR1.out (by decide) rfl _ _ _ _ _) _
  · exact below_alloc (below5 HB1.out (Nat.le_refl _) _ _ _ _ _) _
end Go.Proofs.YtmhcdigneamgdaaGreatDoor.G

/- The chapter's rows (postriderlaw06.tells): what the calls give there. -/
namespace Go.Proofs.YtmhcdigneamgdaaGreatDoor.G
open Go.RowKit Go.Proofs.YtmhcdigneamgdaaGreatDoorW.PrintWords Go.Proofs.YtmhcdigneamgdaaGreatDoorW.PrintMore Go.Proofs.YtmhcdigneamgdaaGreatDoor.Qa Go.Proofs.YtmhcdigneamgdaaGreatDoor.Qb
set_option linter.unusedVariables false
theorem row1 : path_Parse.f 20 ⟨#[60, 97, 64, 98, 46, 99, 62, 32, 83, 73, 90, 69, 61, 53]⟩ = some (false, false, [], ⟨#[97]⟩, ⟨#[98, 46, 99]⟩, ⟨#[32, 83, 73, 90, 69, 61, 53]⟩, 0) := by kernel_rfl
theorem row2 : path_Parse.f 20 ⟨#[60, 64, 120, 44, 64, 121, 58, 97, 64, 98, 46, 99, 62]⟩ = some (false, false, [⟨#[120]⟩, ⟨#[121]⟩], ⟨#[97]⟩, ⟨#[98, 46, 99]⟩, ⟨#[]⟩, 0) := by kernel_rfl
theorem row3 : path_Parse.f 20 ⟨#[60, 62]⟩ = some (true, false, [], ⟨#[]⟩, ⟨#[]⟩, ⟨#[]⟩, 0) := by kernel_rfl
theorem par1 : path_ParseParams.f ⟨#[32, 83, 73, 90, 69, 61, 53]⟩ = some (true, false, 5, 0) := by kernel_rfl
theorem par2 : path_ParseParams.f ⟨#[]⟩ = some (false, false, 0, 0) := by kernel_rfl
theorem row4 : path_Parse.f 20 ⟨#[60, 112, 111, 115, 116, 77, 97, 115, 116, 101, 114, 62]⟩ = some (false, true, [], ⟨#[]⟩, ⟨#[]⟩, ⟨#[]⟩, 0) := by kernel_rfl
theorem row5 : path_Parse.f 20 ⟨#[60, 62]⟩ = some (true, false, [], ⟨#[]⟩, ⟨#[]⟩, ⟨#[]⟩, 0) := by kernel_rfl
set_option maxHeartbeats 8000000 in
set_option maxRecDepth 1000000 in
theorem tells_true (w : World) (hG : Glob w) :
    Calls Tryz.prog 10 #[] w fun e w' => e = .returned (.bool true) ∧ Below w.heap.size w w' := by
  have HG := Aside0.mk hG
  clear hG
  go_enter Tryz.func10, Tryz.ntmps10
  go_upto_region 6 with (first | (go_at_call 17; (with_reducible refine (from_ok 20 _ _ _ _ _ _ _ _ _ _ ?hGG row1 par1).mono ?_); (case hGG => exact HG.out.below (Below.refl _ _)); rintro e' w1 ⟨v1, rfl, hR, hb⟩; obtain ⟨Ad1, cp1, rfl, hle, hC⟩ := Kd.R_reads hR; have HB1 := Aside0.mk hb; clear hR hb hle hC) | (go_at_call 17; (with_reducible refine (from_ok 20 _ _ _ _ _ _ _ _ _ _ ?hGG row2 par2).mono ?_); (case hGG => exact HG.out.below (below_alloc (below_alloc HB1.out _) _)); rintro e' w2 ⟨v2, rfl, hR, hb⟩; obtain ⟨Ad2, cp2, rfl, hle, hC⟩ := Kd.R_reads hR; have BA2 := Aside0.mk (blk_below (blk_alloc (blk_new w1 _) _) hb); have BB2 := Aside0.mk (blk_below (blk_new2 w1 _ _) hb); have HB2 := Aside0.mk (then_below (below_alloc (below_alloc HB1.out _) _) hb); have HR2 := Aside0.mk (Kd.R_lower hR (show w.heap.size ≤ _ from (below_alloc (below_alloc HB1.out _) _).size)); clear hR hb hle hC) | (go_at_call 17; (with_reducible refine (from_ok 20 _ _ _ _ _ _ _ _ _ _ ?hGG row3 par2).mono ?_); (case hGG => exact HG.out.below (below_alloc (below_alloc HB2.out _) _)); rintro e' w3 ⟨v3, rfl, hR, hb⟩; obtain ⟨Ad3, cp3, rfl, hle, hC⟩ := Kd.R_reads hR; have BA3 := Aside0.mk (blk_below (blk_alloc (blk_alloc BA2.out _) _) hb); have BB3 := Aside0.mk (blk_below (blk_alloc (blk_alloc BB2.out _) _) hb); have BC3 := Aside0.mk (blk_below (blk_alloc (blk_new w2 _) _) hb); have HB3 := Aside0.mk (then_below (below_alloc (below_alloc HB2.out _) _) hb); have HR3 := Aside0.mk (Kd.R_below (Kd.R_alloc (Kd.R_alloc HR2.out _) _) hb); clear hR hb hle hC) | (go_at_call 18; (with_reducible refine (to_ok 20 _ _ _ _ _ _ ?hGG row4).mono ?_); (case hGG => exact HG.out.below (below_alloc (below_alloc HB3.out _) _)); rintro e' w4 ⟨v4, rfl, hR, hb⟩; obtain ⟨Ad4, cp4, rfl, hle, hC⟩ := Kd.R_reads hR; have BA4 := Aside0.mk (blk_below (blk_alloc (blk_alloc BA3.out _) _) hb); have BB4 := Aside0.mk (blk_below (blk_alloc (blk_alloc BB3.out _) _) hb); have BC4 := Aside0.mk (blk_below (blk_alloc (blk_alloc BC3.out _) _) hb); have BD4 := Aside0.mk (blk_below (blk_alloc (blk_new w3 _) _) hb); have HB4 := Aside0.mk (then_below (below_alloc (below_alloc HB3.out _) _) hb); have HR4 := Aside0.mk (Kd.R_below (Kd.R_alloc (Kd.R_alloc HR3.out _) _) hb); clear hR hb hle hC) | (go_at_call 18; (with_reducible refine (to_null 20 _ _ _ _ _ _ _ ?hGG row5).mono ?_); (case hGG => exact HG.out.below (below_alloc HB4.out _)); rintro e' w5 ⟨rfl, hb⟩; have BA5 := Aside0.mk (blk_below (blk_alloc BA4.out _) hb); have BB5 := Aside0.mk (blk_below (blk_alloc BB4.out _) hb); have BC5 := Aside0.mk (blk_below (blk_alloc BC4.out _) hb); have BD5 := Aside0.mk (blk_below (blk_alloc BD4.out _) hb); have BE5 := Aside0.mk (blk_below (blk_new w4 _) hb); have HB5 := Aside0.mk (then_below (below_alloc HB4.out _) hb); have HR5 := Aside0.mk (Kd.R_below (Kd.R_alloc HR4.out _) hb); clear hb))
  have fresh : ∀ o, Below w.heap.size w (w5.alloc o) := fun o => below_alloc HB5.out o
  have BA6 := Aside0.mk (blk_alloc BA5.out (.cells #[.bool false, .bool false, .slice none 0 0, .string ⟨#[]⟩, .string ⟨#[]⟩] 26))
  have BB6 := Aside0.mk (blk_alloc BB5.out (.cells #[.bool false, .bool false, .slice none 0 0, .string ⟨#[]⟩, .string ⟨#[]⟩] 26))
  have BC6 := Aside0.mk (blk_alloc BC5.out (.cells #[.bool false, .bool false, .slice none 0 0, .string ⟨#[]⟩, .string ⟨#[]⟩] 26))
  have BD6 := Aside0.mk (blk_alloc BD5.out (.cells #[.bool false, .bool false, .slice none 0 0, .string ⟨#[]⟩, .string ⟨#[]⟩] 26))
  have BE6 := Aside0.mk (blk_alloc BE5.out (.cells #[.bool false, .bool false, .slice none 0 0, .string ⟨#[]⟩, .string ⟨#[]⟩] 26))
  have HB6 := Aside0.mk (fresh (.cells #[.bool false, .bool false, .slice none 0 0, .string ⟨#[]⟩, .string ⟨#[]⟩] 26))
  have HR6 := Aside0.mk (Kd.R_alloc HR5.out (.cells #[.bool false, .bool false, .slice none 0 0, .string ⟨#[]⟩, .string ⟨#[]⟩] 26))
  clear BA5 BB5 BC5 BD5 BE5 HB5 HR5 fresh
  generalize (w5.alloc (.cells #[.bool false, .bool false, .slice none 0 0, .string ⟨#[]⟩, .string ⟨#[]⟩] 26)) = w6 at BA6 BB6 BC6 BD6 BE6 HB6 HR6 ⊢
  obtain ⟨ad, e0, hcell⟩ := Kd.at_string (Kd.R_reads' HR6.out).2.2 1 (by decide) (by decide)
  cases e0
  have hc1 : w6.cell? (ad.add 1) = some (.string ⟨#[121]⟩) := hcell
  have hc2 : w6.cell? ⟨ad.block, ad.off + 1, none⟩ = some (.string ⟨#[121]⟩) := hcell
  clear hcell
  have cBA3 := (blk_cell BA6.out 3).trans rfl
  have cBA4 := (blk_cell BA6.out 4).trans rfl
  have cBB0 := (blk_cell BB6.out 0).trans rfl
  have cBB2 := (blk_cell BB6.out 2).trans rfl
  have cBC2 := (blk_cell BC6.out 2).trans rfl
  have cBD0 := (blk_cell BD6.out 0).trans rfl
  have cBE1 := (blk_cell BE6.out 1).trans rfl
  go_wp2
  go_ret
  exact ⟨rfl, HB6.out⟩
def postriderlaw06_tells.f : Option Bool := some true
theorem postriderlaw06_tells.calls (r : Bool) (w : World) (h : postriderlaw06_tells.f = some r) (hG : Glob w) :
    Calls Tryz.prog 10 #[] w fun e w' => e = .returned (.bool r) ∧ Below w.heap.size w w' := by
  obtain rfl := Option.some.inj h
  exact tells_true w hG
end Go.Proofs.YtmhcdigneamgdaaGreatDoor.G

/- Walk of the law PathTells, out of what both texts are. -/
namespace Go.Proofs.YtmhcdigneamgdaaGreatDoor.G
open Go.RowKit Go.Proofs.YtmhcdigneamgdaaGreatDoorW.PrintWords Go.Proofs.YtmhcdigneamgdaaGreatDoorW.PrintMore Go.Proofs.YtmhcdigneamgdaaGreatDoor.Qa Go.Proofs.YtmhcdigneamgdaaGreatDoor.Qb
attribute [local go_sem] max2_int max_two min2_int min_two
set_option linter.unusedVariables false

set_option maxHeartbeats 4000000 in
set_option maxRecDepth 100000 in
theorem of_calls (a b : Bool) (A : Option Addr) (n c : Nat) (s t : ByteArray) (w : World) :
    Calls Tryz.prog 9 #[.agg #[.bool a, .bool b, .slice A n c, .string s, .string t]] w fun e w' => e = .returned (.agg #[.bool a, .bool b, .slice A n c, .string s, .string t]) ∧ Below w.heap.size w w' := by
  go_enter Tryz.func9, Tryz.ntmps9
  go_wp2
  exact bodyPost_ret (v := .agg #[.bool a, .bool b, .slice A n c, .string s, .string t]) (by simp [results, Tryz.results9, go_sem]) rfl ⟨rfl, below_alloc (below_alloc (Below.refl _ _) _) _⟩

/-- A world that has kept what was there, and one block of the call's own. -/
def Keeps (w : World) (gb : Nat) (cs : Array Value) (ty : TypeId) (W : World) : Prop := Below w.heap.size w W ∧ W.heap[gb]? = some (.cells cs ty (0, 0))
theorem Keeps.step {w : World} {gb : Nat} {cs : Array Value} {ty : TypeId} {W W' : World} (hb : Below W.heap.size W W') (h : Keeps w gb cs ty W) : Keeps w gb cs ty W' := ⟨then_below h.1 hb, blk_below h.2 hb⟩
theorem Keeps.drew {w : World} {gb : Nat} {cs : Array Value} {ty : TypeId} {W : World} (h : Keeps w gb cs ty W) : Keeps w gb cs ty W.drew := ⟨below_drew h.1, blk_drew h.2⟩
theorem Keeps.below {w : World} {gb : Nat} {cs : Array Value} {ty : TypeId} {W : World} (h : Keeps w gb cs ty W) : Below w.heap.size w W := h.1
theorem Keeps.cell {w : World} {gb : Nat} {cs : Array Value} {ty : TypeId} {W : World} (h : Keeps w gb cs ty W) (i : Nat) : W.cell? ⟨gb, i, none⟩ = cs[i]? := blk_cell h.2 i

theorem Keeps.five {w : World} {gb : Nat} {x0 x1 x2 x3 x4 : Value} {ty : TypeId} {W : World} (K : Keeps w gb #[x0, x1, x2, x3, x4] ty W) :
    W.cell? ⟨gb, 0, none⟩ = some x0 ∧ W.cell? ⟨gb, 1, none⟩ = some x1 ∧ W.cell? ⟨gb, 2, none⟩ = some x2 ∧ W.cell? ⟨gb, 3, none⟩ = some x3 ∧ W.cell? ⟨gb, 4, none⟩ = some x4 ∧ Keeps w gb #[x0, x1, x2, x3, x4] ty W :=
  ⟨(K.cell 0).trans rfl, (K.cell 1).trans rfl, (K.cell 2).trans rfl, (K.cell 3).trans rfl, (K.cell 4).trans rfl, K⟩

set_option maxHeartbeats 8000000 in
set_option maxRecDepth 100000 in
theorem law_tells (k : Nat) (a b : Bool) (A : Option Addr) (c : Nat) (l : List ByteArray) (s t : ByteArray) (i j : Int) (r : ByteArray) (w : World) (hC : Kd.C Kd.string w A l.length l) (hc : l.length ≤ c)
    (hi : mn (s.size : Int) 300 = i) (hj : mn (t.size : Int) 300 = j)
    (h1 : path_Path_Text.f a b l (s.extract 0 i.toNat) (t.extract 0 j.toNat) = some r) (h2 : postriderref06_Text.f k a b l (s.extract 0 i.toNat) (t.extract 0 j.toNat) = some r) (hG : Glob w) :
    Calls Tryz.prog 3 #[.agg #[.bool a, .bool b, .slice A l.length c, .string s, .string t]] w fun e w' => e = .returned (.bool true) ∧ Below w.heap.size w w' := by
  have HG := Aside0.mk hG
  have H1 := Aside0.mk h1
  have H2 := Aside0.mk h2
  have HC := Aside0.mk hC
  have HL := Aside0.mk hc
  clear hG h1 h2 hC hc
  have i0 : 0 ≤ i := by unfold mn at hi; split at hi <;> omega
  have i1 : i ≤ s.size := by unfold mn at hi; split at hi <;> omega
  have j0 : 0 ≤ j := by unfold mn at hj; split at hj <;> omega
  have j1 : j ≤ t.size := by unfold mn at hj; split at hj <;> omega
  have hi_ : (if 300 < (s.size : Int) then 300 else (s.size : Int)) = i := hi
  have hj_ : (if 300 < (t.size : Int) then 300 else (t.size : Int)) = j := hj
  clear hi hj
  have i0b := decide_eq_true i0
  have i1b := decide_eq_true i1
  have j0b := decide_eq_true j0
  have j1b := decide_eq_true j1
  replace i0 := eq_true i0
  replace i1 := eq_true i1
  replace j0 := eq_true j0
  replace j1 := eq_true j1
  go_enter Tryz.func3, Tryz.ntmps3
  go_wp2
  have BK1 := Aside0.mk (blk_new w (.cells #[.bool a, .bool b, .slice A l.length c, .string s, .string t] 26))
  have HB1 := Aside0.mk (below_alloc (Below.refl w.heap.size w) (.cells #[.bool a, .bool b, .slice A l.length c, .string s, .string t] 26))
  have GE := Aside0.mk (Nat.le_refl w.heap.size)
  generalize (w.alloc (.cells #[.bool a, .bool b, .slice A l.length c, .string s, .string t] 26)) = w1 at BK1 HB1 ⊢
  obtain ⟨gb, hgb⟩ : ∃ g, g = w.heap.size := ⟨_, rfl⟩
  rw [← hgb] at BK1 ⊢
  have GB := Aside0.mk hgb
  clear hgb
  have c0 := (blk_cell BK1.out 0).trans rfl
  have c1 := (blk_cell BK1.out 1).trans rfl
  have c2 := (blk_cell BK1.out 2).trans rfl
  have c3 := (blk_cell BK1.out 3).trans rfl
  have c4 := (blk_cell BK1.out 4).trans rfl
  have f3 := blk_frozen BK1.out 3
  have f4 := blk_frozen BK1.out 4
  go_region
  go_wp2_with fail
  have KP := Aside0.mk (show Keeps w gb #[.bool a, .bool b, .slice A l.length c, .string (s.extract 0 i.toNat), .string (t.extract 0 j.toNat)] 26 (((w1.setCell ⟨gb, 3, none⟩ (.string (s.extract 0 i.toNat))).setCell ⟨gb, 4, none⟩ (.string (t.extract 0 j.toNat))).drew) from ⟨below_drew (below_set (below_set HB1.out (Nat.le_of_eq GB.out.symm)) (Nat.le_of_eq GB.out.symm)), blk_drew (blk_put (blk_put BK1.out 3 _ rfl) 4 _ rfl)⟩)
  generalize (((w1.setCell ⟨gb, 3, none⟩ (.string (s.extract 0 i.toNat))).setCell ⟨gb, 4, none⟩ (.string (t.extract 0 j.toNat))).drew) = w2 at KP ⊢
  clear BK1 HB1 c0 c1 c2 c3 c4 f3 f4 i0 i1 j0 j1 i0b i1b j0b j1b hi_ hj_
  generalize s.extract 0 i.toNat = s1 at KP H1 H2 ⊢
  generalize t.extract 0 j.toNat = t1 at KP H1 H2 ⊢
  have kp := KP.out
  have c0 := (kp.cell 0).trans rfl
  have c1 := (kp.cell 1).trans rfl
  have c2 := (kp.cell 2).trans rfl
  have c3 := (kp.cell 3).trans rfl
  have c4 := (kp.cell 4).trans rfl
  have hrr : (r.toList == r.toList) = true := beq_self_eq_true _
  go_region_held3 (fun W => W.cell? ⟨gb, 0, none⟩ = some (.bool a) ∧ W.cell? ⟨gb, 1, none⟩ = some (.bool b) ∧ W.cell? ⟨gb, 2, none⟩ = some (.slice A l.length c) ∧ W.cell? ⟨gb, 3, none⟩ = some (.string s1) ∧ W.cell? ⟨gb, 4, none⟩ = some (.string t1) ∧ Keeps w gb #[.bool a, .bool b, .slice A l.length c, .string s1, .string t1] 26 W)
    (first | exact Keeps.five (by go_split_ands; assumption) | exact Keeps.five (Keeps.step (by assumption) (by go_split_ands; assumption)) | exact Keeps.five (Keeps.drew (by go_split_ands; assumption)))
    (first
      | (go_at_call 7; refine (path_Path_Text.calls a b A c l s1 t1 r _ (Kd.C_below HC.out (Keeps.below (by go_split_ands; assumption))) HL.out H1.out (HG.out.below (Keeps.below (by go_split_ands; assumption)))).mono ?_; rintro e' w' ⟨rfl, hb⟩)
      | (go_at_call 9; refine (of_calls a b A l.length c s1 t1 _).mono ?_; rintro e' w' ⟨rfl, hb⟩)
      | (go_at_call 8; refine (postriderref06_Text.calls k a b A c l s1 t1 r _ (Kd.C_below HC.out (Keeps.below (by go_split_ands; assumption))) HL.out H2.out).mono ?_; rintro e' w' ⟨rfl, hb⟩)
      | (go_at_call 10; refine (tells_true _ (HG.out.below (Keeps.below (by go_split_ands; assumption)))).mono ?_; rintro e' w' ⟨rfl, hb⟩))
  all_goals (go_wp2_with fail; go_ret; exact ⟨rfl, Keeps.below (by go_split_ands; first | assumption | exact Keeps.step (by assumption) (by assumption))⟩)
end Go.Proofs.YtmhcdigneamgdaaGreatDoor.G

/- Plain: what the reference's functions of layer 4 compute, over lists of bytes. -/
namespace Go.Proofs.YtmhcdigneamgdaaGreatDoor.G
open Go.RowKit Go.Proofs.YtmhcdigneamgdaaGreatDoorW.PrintWords Go.Proofs.YtmhcdigneamgdaaGreatDoorW.PrintMore Go.Proofs.YtmhcdigneamgdaaGreatDoor.Qa Go.Proofs.YtmhcdigneamgdaaGreatDoor.Qb
set_option linter.unusedVariables false

theorem w64s (i : Nat) (h : i < 9223372036854775807) : wrap64 ((i : Int) + 1) = ((i + 1 : Nat) : Int) := by unfold wrap64; omega
theorem ba_len (s : ByteArray) : s.data.toList.length = s.size := by simp
theorem bt_nat (s : ByteArray) (i : Nat) (h : i < s.size) : bt s (i : Int) = ((s.data.toList[i]'(by simpa using h)).toNat : Int) := by
  have h2 : ((i : Int).toNat) < s.size := by omega
  unfold bt
  rw [dif_pos h2]
  simp [ByteArray.getElem_eq_getElem_data]
theorem drop_cons (s : ByteArray) (i : Nat) (h : i < s.size) : s.data.toList.drop i = (s.data.toList[i]'(by simpa using h)) :: s.data.toList.drop (i + 1) :=
  List.drop_eq_getElem_cons (by simpa using h)
theorem drop_end (s : ByteArray) (i : Nat) (h : s.size ≤ i) : s.data.toList.drop i = [] := List.drop_eq_nil_of_le (by simpa using h)
theorem more_k {α : Type} {f : Nat → Option α} (h : ∀ k, LeO (f k) (f (k + 1))) {r : α} {k : Nat} (e : f k = some r) (k' : Nat) (hk : k ≤ k') : f k' = some r := by
  obtain ⟨d, rfl⟩ := Nat.exists_eq_add_of_le hk
  induction d with
  | zero => exact e
  | succ d ih => exact h _ _ (ih (by omega))
theorem kpos {k d : Nat} (h : d < k) : ∃ m, k = m + 1 := ⟨k - 1, by omega⟩

theorem ref_plain1 (b : UInt8) : postriderref04_plain.f (b.toNat : Int) = some (Sp.plainB b) := by
  unfold postriderref04_plain.f Sp.plainB
  by_cases h : (b.toNat : Int) ≥ 32
  · rw [if_pos h]
    have h2 : 32 ≤ b.toNat := by omega
    simp only [h2, decide_true, Bool.true_and, Option.some.injEq]
    exact decide_eq_decide.2 (by omega)
  · rw [if_neg h]
    have h2 : ¬ 32 ≤ b.toNat := by omega
    simp [h2]
theorem ref_plain_l (s : ByteArray) (hs : s.size ≤ 1000000) (d : Nat) : ∀ (k i : Nat), i + d = s.size → d < k → postriderref04_Plain.l0 k s (i : Int) = some (Sp.plainL (s.data.toList.drop i)) := by
  induction d with
  | zero =>
    intro k i hi hk
    obtain ⟨k, rfl⟩ := kpos hk
    simp only [postriderref04_Plain.l0]
    rw [if_neg (by omega), drop_end s i (by omega)]
    rfl
  | succ d ih =>
    intro k i hi hk
    obtain ⟨k, rfl⟩ := kpos hk
    have hlt : i < s.size := by omega
    simp only [postriderref04_Plain.l0]
    rw [if_pos (by omega), if_pos (by omega), bt_nat s i hlt, ref_plain1, drop_cons s i hlt, w64s i (by omega)]
    simp only [Option.bind_some]
    have e : Sp.plainL ((s.data.toList[i]'(by simpa using hlt)) :: s.data.toList.drop (i + 1)) = (Sp.plainB (s.data.toList[i]'(by simpa using hlt)) && Sp.plainL (s.data.toList.drop (i + 1))) := rfl
    rw [e]
    cases h : Sp.plainB (s.data.toList[i]'(by simpa using hlt)) with
    | true => rw [if_pos rfl, ih k (i + 1) (by omega) (by omega)]; rfl
    | false => rfl
theorem ref_plain (s : ByteArray) (hs : s.size ≤ 1000000) (k : Nat) (hk : s.size < k) : postriderref04_Plain.f k s = some (Sp.plainL s.data.toList) := by
  have h := ref_plain_l s hs s.size k 0 (by omega) hk
  rw [List.drop_zero] at h
  exact h

theorem ref_letter1 : ∀ n : Fin 256, postriderref04_Letter.f 30 ((UInt8.ofNat n.1).toNat : Int) = some (Sp.atomB (UInt8.ofNat n.1)) := by decide +kernel
theorem ref_letter (b : UInt8) (k : Nat) (hk : 30 ≤ k) : postriderref04_Letter.f k (b.toNat : Int) = some (Sp.atomB b) := by
  have h := ref_letter1 ⟨b.toNat, b.toNat_lt⟩
  simp only [UInt8.ofNat_toNat] at h
  exact more_k (f := fun k => postriderref04_Letter.f k (b.toNat : Int)) (fun k => postriderref04_Letter.mono _ k) h k hk

/-- Dot atoms, byte by byte. -/
def dotGo : Bool → List UInt8 → Bool
  | e, [] => !e
  | e, b :: r => if b = 46 then (if e then false else dotGo true r) else if Sp.atomB b then dotGo false r else false
theorem dotGo_eq (l : List UInt8) : dotGo true l = Sp.dotAtomL l ∧ ∀ p ps, Sp.splitL 46 l = p :: ps → dotGo false l = (p.all Sp.atomB && ps.all Sp.atomL) := by
  induction l with
  | nil =>
    refine ⟨rfl, fun p ps h => ?_⟩
    simp only [Sp.splitL, List.cons.injEq] at h
    obtain ⟨rfl, rfl⟩ := h
    rfl
  | cons b r ih =>
    obtain ⟨ih1, ih2⟩ := ih
    by_cases hb : b = 46
    · subst hb
      refine ⟨rfl, fun p ps h => ?_⟩
      simp only [Sp.splitL, if_true, List.cons.injEq] at h
      obtain ⟨rfl, rfl⟩ := h
      show dotGo true r = _
      rw [ih1]
      rfl
    · cases hs : Sp.splitL 46 r with
      | nil => exact absurd hs (Sp.splitL_ne 46 r)
      | cons p ps =>
        have h2 := ih2 p ps hs
        have hsp : Sp.splitL 46 (b :: r) = (b :: p) :: ps := by simp only [Sp.splitL, if_neg hb, hs]
        have hg : ∀ e, dotGo e (b :: r) = (Sp.atomB b && dotGo false r) := fun e => by
          simp only [dotGo, if_neg hb]
          cases Sp.atomB b <;> rfl
        constructor
        · rw [hg, h2]
          unfold Sp.dotAtomL
          rw [hsp]
          simp only [List.all_cons, Sp.atomL, List.isEmpty_cons, Bool.not_false, Bool.true_and, Bool.and_assoc]
        · intro p' ps' h
          rw [hsp] at h
          simp only [List.cons.injEq] at h
          obtain ⟨rfl, rfl⟩ := h
          rw [hg, h2]
          simp only [List.all_cons, Bool.and_assoc]
theorem ref_dot_l (s : ByteArray) (hs : s.size ≤ 1000000) (d : Nat) : ∀ (k i : Nat) (e : Bool), i + d = s.size → d + 40 < k → postriderref04_DotAtom.l0 k s e (i : Int) = some (dotGo e (s.data.toList.drop i)) := by
  induction d with
  | zero =>
    intro k i e hi hk
    obtain ⟨k, rfl⟩ := kpos hk
    simp only [postriderref04_DotAtom.l0]
    rw [if_neg (by omega), drop_end s i (by omega)]
    rfl
  | succ d ih =>
    intro k i e hi hk
    obtain ⟨k, rfl⟩ := kpos hk
    have hlt : i < s.size := by omega
    simp only [postriderref04_DotAtom.l0]
    rw [if_pos (by omega), if_pos (by omega), bt_nat s i hlt, drop_cons s i hlt, w64s i (by omega)]
    generalize (s.data.toList[i]'(by simpa using hlt)) = b
    by_cases hb : b = 46
    · subst hb
      rw [if_pos (by decide)]
      simp only [dotGo, if_true]
      cases e with
      | true => rfl
      | false => rw [if_neg (by simp), ih k (i + 1) true (by omega) (by omega)]; rfl
    · have hn : ¬ ((b.toNat : Int) = 46) := fun h => hb (by
        have : b.toNat = 46 := by omega
        exact UInt8.toNat_inj.1 this)
      rw [if_neg hn, ref_letter b k (by omega)]
      simp only [Option.bind_some, dotGo, if_neg hb]
      cases Sp.atomB b with
      | true => rw [if_pos rfl, if_pos rfl, ih k (i + 1) false (by omega) (by omega)]
      | false => rfl
theorem ref_dot (s : ByteArray) (hs : s.size ≤ 1000000) (k : Nat) (hk : s.size + 40 < k) : postriderref04_DotAtom.f k s = some (Sp.dotAtomL s.data.toList) := by
  have h := ref_dot_l s hs s.size k 0 true (by omega) hk
  rw [List.drop_zero, (dotGo_eq _).1] at h
  exact h

theorem ext_one (s : ByteArray) (i : Nat) (h : i < s.size) : s.extract ((i : Int).toNat) ((((i + 1 : Nat) : Int)).toNat) = ⟨#[s.data.toList[i]'(by simpa using h)]⟩ := by
  rw [Int.toNat_natCast, Int.toNat_natCast, Lib.extract_eq]
  rw [drop_cons s i h, show i + 1 - i = 1 by omega]
  rfl
theorem app_lit (a : ByteArray) (b : UInt8) : a ++ (⟨#[b]⟩ : ByteArray) = ⟨(a.data.toList ++ [b]).toArray⟩ := by
  apply ByteArray.ext
  rw [ByteArray.data_append]
  apply Array.ext'
  simp
theorem ref_quote_l (s : ByteArray) (hs : s.size ≤ 1000000) (d : Nat) : ∀ (k i : Nat) (acc : List UInt8), i + d = s.size → d < k → acc.length ≤ 2 * i + 1 →
    postriderref04_Quote.l0 k s ⟨acc.toArray⟩ (i : Int) = some (⟨(acc ++ ((s.data.toList.drop i).flatMap fun b => if b = 34 ∨ b = 92 then [92, b] else [b]) ++ [34]).toArray⟩, 0) := by
  induction d with
  | zero =>
    intro k i acc hi hk ha
    obtain ⟨k, rfl⟩ := kpos hk
    simp only [postriderref04_Quote.l0]
    have hz : (⟨acc.toArray⟩ : ByteArray).size = acc.length := by simp [ByteArray.size]
    rw [if_neg (by omega), if_pos (by omega), drop_end s i (by omega), app_lit]
    simp
  | succ d ih =>
    intro k i acc hi hk ha
    obtain ⟨k, rfl⟩ := kpos hk
    have hlt : i < s.size := by omega
    have hz : (⟨acc.toArray⟩ : ByteArray).size = acc.length := by simp [ByteArray.size]
    simp only [postriderref04_Quote.l0]
    rw [if_pos (by omega), if_pos (by omega), bt_nat s i hlt, drop_cons s i hlt, w64s i (by omega), ext_one s i hlt]
    generalize (s.data.toList[i]'(by simpa using hlt)) = b
    have e1 : ((⟨acc.toArray⟩ : ByteArray) ++ (⟨#[92]⟩ : ByteArray)) = ⟨(acc ++ [92]).toArray⟩ := app_lit _ _
    have e2 : (⟨(acc ++ [92]).toArray⟩ : ByteArray) ++ (⟨#[b]⟩ : ByteArray) = ⟨(acc ++ [92, b]).toArray⟩ := by rw [app_lit]; simp
    have e3 : ((⟨acc.toArray⟩ : ByteArray) ++ (⟨#[b]⟩ : ByteArray)) = ⟨(acc ++ [b]).toArray⟩ := app_lit _ _
    have z1 : (⟨(acc ++ [92]).toArray⟩ : ByteArray).size = acc.length + 1 := by simp [ByteArray.size]
    have z2 : (⟨#[b]⟩ : ByteArray).size = 1 := rfl
    have hle : (i : Int) ≤ ((i + 1 : Nat) : Int) := by omega
    have hle2 : ((i + 1 : Nat) : Int) ≤ (s.size : Int) := by omega
    rw [e1, e2, e3, z1, z2, hz]
    have hesc : (b = 34 ∨ b = 92) → postriderref04_Quote.l0 k s ⟨(acc ++ [92, b]).toArray⟩ ((i + 1 : Nat) : Int) = some (⟨(acc ++ (((b :: s.data.toList.drop (i + 1)).flatMap fun b => if b = 34 ∨ b = 92 then [92, b] else [b])) ++ [34]).toArray⟩, 0) := fun h => by
      rw [ih k (i + 1) (acc ++ [92, b]) (by omega) (by omega) (by simp; omega)]
      simp [List.flatMap_cons, h]
    by_cases h34 : b = 34
    · have : ((b.toNat : Int) = 34) := by rw [h34]; rfl
      rw [if_pos this, if_pos (by omega), if_pos hle, if_pos hle2, if_pos (by omega)]
      exact hesc (.inl h34)
    · have n34 : ¬ ((b.toNat : Int) = 34) := fun h => h34 (UInt8.toNat_inj.1 (by show b.toNat = 34; omega))
      rw [if_neg n34]
      by_cases h92 : b = 92
      · have : ((b.toNat : Int) = 92) := by rw [h92]; rfl
        rw [if_pos this, if_pos (by omega), if_pos hle, if_pos hle2, if_pos (by omega)]
        exact hesc (.inr h92)
      · have n92 : ¬ ((b.toNat : Int) = 92) := fun h => h92 (UInt8.toNat_inj.1 (by show b.toNat = 92; omega))
        rw [if_neg n92, if_pos hle, if_pos hle2, if_pos (by omega), ih k (i + 1) (acc ++ [b]) (by omega) (by omega) (by simp; omega)]
        simp [List.flatMap_cons, h34, h92]
theorem ref_quote (s : ByteArray) (hs : s.size ≤ 1000000) (k : Nat) (hk : s.size < k) : postriderref04_Quote.f k s = some (if Sp.plainL s.data.toList then (⟨(Sp.quoteL s.data.toList).toArray⟩, 0) else (⟨#[]⟩, 5)) := by
  unfold postriderref04_Quote.f
  rw [ref_plain s hs k hk]
  simp only [Option.bind_some]
  cases Sp.plainL s.data.toList with
  | false => rfl
  | true =>
    rw [if_pos rfl, if_pos rfl]
    have h := ref_quote_l s hs s.size k 0 [34] (by omega) hk (by simp)
    rw [List.drop_zero] at h
    exact h
end Go.Proofs.YtmhcdigneamgdaaGreatDoor.G

/- Plain: what the reference's functions of layers 4 (Split, Number) and 5 compute, over lists of bytes. -/
namespace Go.Proofs.YtmhcdigneamgdaaGreatDoor.G
open Go.RowKit Go.Proofs.YtmhcdigneamgdaaGreatDoorW.PrintWords Go.Proofs.YtmhcdigneamgdaaGreatDoorW.PrintMore Go.Proofs.YtmhcdigneamgdaaGreatDoor.Qa Go.Proofs.YtmhcdigneamgdaaGreatDoor.Qb
set_option linter.unusedVariables false

theorem split_free (c : UInt8) (p : List UInt8) (h : c ∉ p) : Sp.splitL c p = [p] := by
  induction p with
  | nil => rfl
  | cons b r ih =>
    have hb : b ≠ c := fun e => h (by simp [e])
    have hr : c ∉ r := fun e => h (List.mem_cons_of_mem _ e)
    simp only [Sp.splitL, if_neg hb, ih hr]
theorem split_at (c : UInt8) (p r : List UInt8) (h : c ∉ p) : Sp.splitL c (p ++ c :: r) = p :: Sp.splitL c r := by
  induction p with
  | nil => simp [Sp.splitL]
  | cons b q ih =>
    have hb : b ≠ c := fun e => h (by simp [e])
    have hq : c ∉ q := fun e => h (List.mem_cons_of_mem _ e)
    simp only [List.cons_append, Sp.splitL, if_neg hb, ih hq]
theorem split_pre (c : UInt8) (p r : List UInt8) (h : c ∉ p) : ∃ q qs, Sp.splitL c r = q :: qs ∧ Sp.splitL c (p ++ r) = (p ++ q) :: qs := by
  induction p with
  | nil =>
    cases hs : Sp.splitL c r with
    | nil => exact absurd hs (Sp.splitL_ne c r)
    | cons q qs => exact ⟨q, qs, rfl, hs⟩
  | cons b p ih =>
    have hb : b ≠ c := fun e => h (by simp [e])
    obtain ⟨q, qs, h1, h2⟩ := ih (fun e => h (List.mem_cons_of_mem _ e))
    exact ⟨q, qs, h1, by simp only [List.cons_append, Sp.splitL, if_neg hb, h2]⟩
theorem split_count (c : UInt8) (l : List UInt8) : (Sp.splitL c l).length = l.count c + 1 := by
  induction l with
  | nil => rfl
  | cons b r ih =>
    by_cases hb : b = c
    · subst hb
      simp only [Sp.splitL, if_true, List.length_cons, ih, List.count_cons_self]
    · simp only [Sp.splitL, if_neg hb]
      rw [List.count_cons_of_ne hb]
      cases hs : Sp.splitL c r with
      | nil => exact absurd hs (Sp.splitL_ne c r)
      | cons p ps => rw [hs] at ih; exact ih
/-- The bytes from a place on, up to another one. -/
def cur (l : List UInt8) (f i : Nat) : List UInt8 := (l.drop f).take (i - f)
theorem cur_split (l : List UInt8) (f i : Nat) (h : f ≤ i) : l.drop f = cur l f i ++ l.drop i := by
  unfold cur
  have e : l.drop i = (l.drop f).drop (i - f) := by rw [List.drop_drop]; congr 1; omega
  rw [e, List.take_append_drop]
theorem cur_snoc (l : List UInt8) (f i : Nat) (h : f ≤ i) (hi : i < l.length) : cur l f (i + 1) = cur l f i ++ [l[i]] := by
  unfold cur
  rw [show i + 1 - f = (i - f) + 1 by omega, List.take_succ_eq_append_getElem (by rw [List.length_drop]; omega)]
  congr 2
  rw [List.getElem_drop]
  congr 1
  omega
theorem cur_nil (l : List UInt8) (i : Nat) : cur l i i = [] := by simp [cur]
theorem cur_len (l : List UInt8) (f i : Nat) (h : f ≤ i) (hi : i ≤ l.length) : (cur l f i).length = i - f := by
  unfold cur
  rw [List.length_take, List.length_drop]
  omega
theorem ext_cur (s : ByteArray) (f i : Nat) : s.extract ((f : Int).toNat) ((i : Int).toNat) = ⟨(cur s.data.toList f i).toArray⟩ := by
  rw [Int.toNat_natCast, Int.toNat_natCast, Lib.extract_eq]
  rfl
def mkL (l : List UInt8) : ByteArray := ⟨l.toArray⟩
theorem mkL_list (l : List UInt8) : (mkL l).data.toList = l := rfl
theorem mkL_size (l : List UInt8) : (mkL l).size = l.length := by simp [mkL, ByteArray.size]

theorem ref_split_l (s : ByteArray) (c : UInt8) (hs : s.size ≤ 1000000) (d : Nat) : ∀ (k i f : Nat) (acc : List ByteArray), i + d = s.size → d < k → f ≤ i → c ∉ cur s.data.toList f i → acc.length ≤ i →
    postriderref04_Split.l0 k s (c.toNat : Int) acc (f : Int) (i : Int) = some (acc ++ (Sp.splitL c (s.data.toList.drop f)).map mkL) := by
  induction d with
  | zero =>
    intro k i f acc hi hk hf hc ha
    obtain ⟨k, rfl⟩ := kpos hk
    simp only [postriderref04_Split.l0]
    have hl := ba_len s
    have e : s.data.toList.drop f = cur s.data.toList f i := by
      rw [cur_split _ f i hf, drop_end s i (by omega), List.append_nil]
    have e2 : s.extract ((f : Int).toNat) s.size = mkL (s.data.toList.drop f) := by
      have h := ext_cur s f i
      rw [Int.toNat_natCast, Int.toNat_natCast] at h
      rw [Int.toNat_natCast, e, show s.size = i by omega]
      exact h
    rw [if_neg (by omega), if_pos (by omega), if_pos (by omega), if_pos (by omega), e2, e, split_free c _ hc]
    rfl
  | succ d ih =>
    intro k i f acc hi hk hf hc ha
    obtain ⟨k, rfl⟩ := kpos hk
    have hlt : i < s.size := by omega
    have hl := ba_len s
    simp only [postriderref04_Split.l0]
    rw [if_pos (by omega), if_pos (by omega), bt_nat s i hlt, w64s i (by omega)]
    by_cases hb : (s.data.toList[i]'(by simpa using hlt)) = c
    · rw [if_pos (by rw [hb]), if_pos (by omega), if_pos (by omega), if_pos (by omega), if_pos (by omega), ext_cur s f i,
        ih k (i + 1) (i + 1) _ (by omega) (by omega) (by omega) (by rw [cur_nil]; simp) (by simp; omega)]
      have e : s.data.toList.drop f = cur s.data.toList f i ++ c :: s.data.toList.drop (i + 1) := by
        rw [cur_split _ f i hf, drop_cons s i hlt, hb]
      rw [e, split_at c _ _ hc]
      simp [mkL]
    · have hn : ¬ (((s.data.toList[i]'(by simpa using hlt)).toNat : Int) = (c.toNat : Int)) := fun h => hb (UInt8.toNat_inj.1 (by omega))
      rw [if_neg hn, ih k (i + 1) f acc (by omega) (by omega) (by omega) ?_ (by omega)]
      rw [cur_snoc _ f i hf (by omega)]
      intro hm
      rcases List.mem_append.1 hm with h | h
      · exact hc h
      · exact hb (List.mem_singleton.1 h).symm
theorem ref_split (s : ByteArray) (c : UInt8) (hs : s.size ≤ 1000000) (k : Nat) (hk : s.size < k) : postriderref04_Split.f k s (c.toNat : Int) = some ((Sp.splitL c s.data.toList).map mkL) := by
  have h := ref_split_l s c hs s.size k 0 0 [] (by omega) hk (by omega) (by rw [cur_nil]; simp) (by simp)
  rw [List.drop_zero] at h
  exact h

def numFrom (n : Nat) (l : List UInt8) : Nat := l.foldl (fun n b => 10 * n + (b.toNat - 48)) n
theorem numFrom_cons (n : Nat) (b : UInt8) (l : List UInt8) : numFrom n (b :: l) = numFrom (10 * n + (b.toNat - 48)) l := by unfold numFrom; rw [List.foldl_cons]
theorem numFrom_zero (l : List UInt8) : numFrom 0 l = Sp.numL l := by unfold numFrom Sp.numL; rfl
set_option maxHeartbeats 2000000 in
theorem ref_num_l (s : ByteArray) (hs : s.size ≤ 3) (d : Nat) : ∀ (k i n : Nat), i + d = s.size → d < k → (i = 0 ∧ n = 0 ∨ i = 1 ∧ n ≤ 9 ∨ i = 2 ∧ n ≤ 99 ∨ 3 ≤ i) → postriderref04_Number.l0 k s (n : Int) (i : Int) = some (if (s.data.toList.drop i).all Sp.digitB then (((numFrom n (s.data.toList.drop i) : Nat) : Int), (0 : Int)) else (0, 5)) := by
  induction d with
  | zero =>
    intro k i n hi hk hn
    obtain ⟨k, rfl⟩ := kpos hk
    simp only [postriderref04_Number.l0]
    rw [if_neg (by omega), drop_end s i (by omega)]
    rfl
  | succ d ih =>
    intro k i n hi hk hn
    obtain ⟨k, rfl⟩ := kpos hk
    have hlt : i < s.size := by omega
    simp only [postriderref04_Number.l0]
    rw [if_pos (by omega), if_pos (by omega), bt_nat s i hlt, drop_cons s i hlt, w64s i (by omega)]
    have hb := (s.data.toList[i]'(by simpa using hlt)).toNat_lt
    generalize (s.data.toList[i]'(by simpa using hlt)) = b at hb ⊢
    have hall : ∀ r : List UInt8, (b :: r).all Sp.digitB = (Sp.digitB b && r.all Sp.digitB) := fun r => rfl
    rw [hall]
    by_cases h1 : (b.toNat : Int) < 48
    · have : Sp.digitB b = false := by unfold Sp.digitB; rw [decide_eq_false (by omega)]; rfl
      rw [if_pos h1, this]
      rfl
    · by_cases h2 : (b.toNat : Int) > 57
      · have : Sp.digitB b = false := by unfold Sp.digitB; rw [decide_eq_false (p := b.toNat ≤ 57) (by omega), Bool.and_false]
        rw [if_neg h1, if_pos h2, this]
        rfl
      · have hd : Sp.digitB b = true := by unfold Sp.digitB; rw [decide_eq_true (p := 48 ≤ b.toNat) (by omega), decide_eq_true (p := b.toNat ≤ 57) (by omega)]; rfl
        have hn2 : n ≤ 99 := by omega
        have hnum : wrap64 (wrap64 (10 * (n : Int)) + ((b.toNat : Int) - 48) % 256) = ((10 * n + (b.toNat - 48) : Nat) : Int) := by
          unfold wrap64
          omega
        rw [if_neg h1, if_neg h2, hnum, ih k (i + 1) _ (by omega) (by omega) (by omega), hd, numFrom_cons, Bool.true_and]
theorem ref_num (s : ByteArray) (k : Nat) (hk : 30 ≤ k) : postriderref04_Number.f k s 3 = some (if Sp.numOk s.data.toList 3 then (((Sp.numL s.data.toList : Nat) : Int), (0 : Int)) else (0, 5)) := by
  obtain ⟨k, rfl⟩ : ∃ m, k = m + 4 := ⟨k - 4, by omega⟩
  have hl := ba_len s
  unfold postriderref04_Number.f
  rw [if_neg (by decide)]
  simp only [postriderref04_Number.j0, postriderref04_Number.j1, postriderref04_Number.j2]
  rw [if_neg (by decide)]
  by_cases h0 : (s.size : Int) < 1
  · have e : s.data.toList = [] := List.length_eq_zero_iff.1 (by omega)
    rw [if_pos h0, e]
    rfl
  · rw [if_neg h0]
    by_cases h3 : (s.size : Int) > 3
    · have : Sp.numOk s.data.toList 3 = false := by
        unfold Sp.numOk
        rw [decide_eq_false (p := (s.data.toList.length : Int) ≤ 3) (by omega), Bool.and_false, Bool.false_and]
      rw [decide_eq_true h3, this]
      rfl
    · have he : s.data.toList.isEmpty = false := by
        cases h : s.data.toList with
        | nil => rw [h] at hl; simp only [List.length_nil] at hl; omega
        | cons b r => rfl
      have h := ref_num_l s (by omega) s.size (k + 1) 0 0 (by omega) (by omega) (.inl ⟨rfl, rfl⟩)
      rw [List.drop_zero, numFrom_zero] at h
      have e3 : Sp.numOk s.data.toList 3 = s.data.toList.all Sp.digitB := by
        unfold Sp.numOk
        rw [he, decide_eq_true (p := (s.data.toList.length : Int) ≤ 3) (by omega)]
        simp only [Bool.not_false, Bool.true_and]
      rw [decide_eq_false h3, if_neg (by simp), e3]
      exact h
end Go.Proofs.YtmhcdigneamgdaaGreatDoor.G

/- Plain: what the reference's functions of layer 5 compute (domains, addresses), over lists of bytes; both texts of a path are the same. -/
namespace Go.Proofs.YtmhcdigneamgdaaGreatDoor.G
open Go.RowKit Go.Proofs.YtmhcdigneamgdaaGreatDoorW.PrintWords Go.Proofs.YtmhcdigneamgdaaGreatDoorW.PrintMore Go.Proofs.YtmhcdigneamgdaaGreatDoor.Qa Go.Proofs.YtmhcdigneamgdaaGreatDoor.Qb
set_option linter.unusedVariables false

def dig (d : Fin 10) : UInt8 := UInt8.ofNat (48 + d.1)
theorem dig_of (b : UInt8) (h : Sp.digitB b = true) : ∃ d, b = dig d := by
  unfold Sp.digitB at h
  simp only [Bool.and_eq_true, decide_eq_true_eq] at h
  refine ⟨⟨b.toNat - 48, by omega⟩, ?_⟩
  unfold dig
  apply UInt8.toNat_inj.1
  simp only [UInt8.toNat_ofNat']
  omega
theorem oct1 : ∀ a : Fin 10, (Lib.itoa (Sp.numL [dig a] : Nat) == [dig a]) = true := by decide +kernel
theorem oct2 : ∀ a b : Fin 10, (Lib.itoa (Sp.numL [dig a, dig b] : Nat) == [dig a, dig b]) = !(dig a == 48) := by decide +kernel
theorem oct3 : ∀ a b c : Fin 10, (Lib.itoa (Sp.numL [dig a, dig b, dig c] : Nat) == [dig a, dig b, dig c]) = !(dig a == 48) := by decide +kernel
theorem oct_eq (p : List UInt8) (h : Sp.numOk p 3 = true) : (Lib.itoa (Sp.numL p : Nat) == p) = !(decide (p.length > 1) && p.headD 0 == 48) := by
  unfold Sp.numOk at h
  simp only [Bool.and_eq_true, decide_eq_true_eq, List.all_eq_true] at h
  obtain ⟨⟨h1, h2⟩, h3⟩ := h
  match p, h1, h2, h3 with
  | [a], _, _, h3 =>
    obtain ⟨a, rfl⟩ := dig_of a (h3 _ (by simp))
    rw [oct1]
    rfl
  | [a, b], _, _, h3 =>
    obtain ⟨a, rfl⟩ := dig_of a (h3 _ (by simp))
    obtain ⟨b, rfl⟩ := dig_of b (h3 _ (by simp))
    rw [oct2]
    rfl
  | [a, b, c], _, _, h3 =>
    obtain ⟨a, rfl⟩ := dig_of a (h3 _ (by simp))
    obtain ⟨b, rfl⟩ := dig_of b (h3 _ (by simp))
    obtain ⟨c, rfl⟩ := dig_of c (h3 _ (by simp))
    rw [oct3]
    rfl
  | a :: b :: c :: d :: r, _, h2, _ => simp only [List.length_cons] at h2; omega
theorem bt_head (b : UInt8) (r : List UInt8) : bt (mkL (b :: r)) 0 = (b.toNat : Int) := by
  have h := bt_nat (mkL (b :: r)) 0 (by rw [mkL_size]; simp)
  exact h
theorem rd_map (L : List (List UInt8)) (i : Nat) (h : i < L.length) : rdOf ByteArray.empty (L.map mkL) (i : Int) = mkL L[i] := by
  unfold rdOf
  simp [List.getD_eq_getElem?_getD, h]
theorem ref_lit_l (L : List (List UInt8)) (h4 : L.length = 4) (d : Nat) : ∀ (k i : Nat), i + d = 4 → d + 40 < k → postriderref05_literal.l0 k (L.map mkL) (i : Int) = some ((L.drop i).all Sp.octetL) := by
  induction d with
  | zero =>
    intro k i hi hk
    obtain ⟨k, rfl⟩ := kpos hk
    simp only [postriderref05_literal.l0]
    rw [if_neg (by omega), List.drop_eq_nil_of_le (by omega)]
    rfl
  | succ d ih =>
    intro k i hi hk
    obtain ⟨k, rfl⟩ := kpos hk
    have hlt : i < L.length := by omega
    have hln : ((L.map mkL).length : Int) = 4 := by simp [h4]
    simp only [postriderref05_literal.l0]
    rw [if_pos (by omega), if_pos (by omega), if_pos (by omega), rd_map L i hlt, ref_num _ k (by omega), mkL_list, mkL_size, w64s i (by omega), ih k (i + 1) (by omega) (by omega),
      show (L.drop i) = L[i] :: L.drop (i + 1) from List.drop_eq_getElem_cons hlt]
    generalize L[i] = p
    simp only [Option.bind_some, List.all_cons]
    cases hok : Sp.numOk p 3 with
    | false =>
      have : Sp.octetL p = false := by unfold Sp.octetL; rw [hok]; rfl
      rw [this]
      rfl
    | true =>
      have ho : Sp.octetL p = (decide (Sp.numL p < 256) && !(decide (p.length > 1) && p.headD 0 == 48)) := by
        unfold Sp.octetL
        rw [hok, oct_eq p hok, Bool.true_and]
      rw [if_pos rfl]
      dsimp only
      rw [if_pos rfl, ho]
      by_cases hn : Sp.numL p < 256
      · rw [if_neg (by omega), decide_eq_true hn]
        by_cases hl : p.length > 1
        · match p, hl with
          | b :: r, hl =>
            rw [if_pos (by omega), if_pos (by omega), bt_head, decide_eq_true hl]
            by_cases hb : b = 48
            · subst hb
              rw [if_pos (by decide)]
              rfl
            · have hn : ¬ ((b.toNat : Int) = 48) := fun h => hb (UInt8.toNat_inj.1 (by show b.toNat = 48; omega))
              have hb2 : ((b :: r).headD 0 == 48) = false := by
                show (b == 48) = false
                exact beq_false_of_ne hb
              rw [if_neg hn, hb2]
              simp
        · rw [if_neg (by omega), decide_eq_false hl]
          simp
      · rw [if_pos (by omega), decide_eq_false hn]
        simp

theorem ref_lett1 : ∀ n : Fin 256, postriderref05_letter.f ((UInt8.ofNat n.1).toNat : Int) = some (Sp.hosts.contains (UInt8.ofNat n.1) && !(UInt8.ofNat n.1 == 45)) := by decide +kernel
theorem ref_lett (b : UInt8) : postriderref05_letter.f (b.toNat : Int) = some (Sp.hosts.contains b && !(b == 45)) := by
  have h := ref_lett1 ⟨b.toNat, b.toNat_lt⟩
  simpa only [UInt8.ofNat_toNat] using h

def fin (long : Bool) (ps : List (List UInt8)) : Int := if ps.all Sp.labelL then (if long = true ∨ ps.all (fun p => decide (p.length ≤ 63)) = false then 3 else 0) else 5
theorem ite_cong {a b : Prop} [Decidable a] [Decidable b] {x y : Int} (h : a ↔ b) : (if a then x else y) = if b then x else y := by
  by_cases ha : a
  · rw [if_pos ha, if_pos (h.1 ha)]
  · rw [if_neg ha, if_neg (fun hb => ha (h.2 hb))]
theorem fin_cons (long : Bool) (p : List UInt8) (ps : List (List UInt8)) : fin long (p :: ps) = if Sp.labelL p then fin (long || decide (p.length > 63)) ps else 5 := by
  unfold fin
  have hall : (p :: ps).all Sp.labelL = (Sp.labelL p && ps.all Sp.labelL) := rfl
  by_cases hp : Sp.labelL p = true
  · rw [if_pos hp]
    by_cases hq : ps.all Sp.labelL = true
    · have ha : (p :: ps).all Sp.labelL = true := by rw [hall, hp, hq]; rfl
      rw [if_pos ha, if_pos hq]
      have hiff : (long = true ∨ (p :: ps).all (fun p => decide (p.length ≤ 63)) = false) ↔ ((long || decide (p.length > 63)) = true ∨ ps.all (fun p => decide (p.length ≤ 63)) = false) := by
        by_cases h : p.length ≤ 63
        · have h2 : ¬ 63 < p.length := by omega
          simp [List.all_cons, h, h2]
        · have h2 : 63 < p.length := by omega
          simp [h, h2]
      exact ite_cong hiff
    · have ha : ¬ (p :: ps).all Sp.labelL = true := by rw [hall, hp, Bool.true_and]; exact hq
      rw [if_neg ha, if_neg hq]
  · have hp2 : Sp.labelL p = false := by simpa using hp
    have ha : ¬ (p :: ps).all Sp.labelL = true := by rw [hall, hp2, Bool.false_and]; simp
    rw [if_neg hp, if_neg ha]
theorem fin_nil (long : Bool) : fin long [] = if long then 3 else 0 := by
  unfold fin
  cases long <;> rfl
theorem not46 (p : List UInt8) (h : p.all (Sp.hosts.contains ·) = true) : (46 : UInt8) ∉ p := fun hm => by
  have := List.all_eq_true.1 h 46 hm
  revert this
  decide
theorem cur_get0 (l : List UInt8) (f i : Nat) (h : f < i) (hi : i ≤ l.length) : (cur l f i).headD 0 = l[f]'(by omega) := by
  unfold cur
  rw [List.drop_eq_getElem_cons (by omega), show i - f = (i - f - 1) + 1 by omega, List.take_succ_cons]
  rfl
theorem cur_last (l : List UInt8) (f i : Nat) (h : f < i) (hi : i ≤ l.length) : (cur l f i).getLastD 0 = l[i - 1]'(by omega) := by
  obtain ⟨j, rfl⟩ : ∃ j, i = j + 1 := ⟨i - 1, by omega⟩
  rw [cur_snoc l f j (by omega) (by omega)]
  simp
theorem label_cur (l : List UInt8) (f i : Nat) (h : f < i) (hi : i ≤ l.length) (ha : (cur l f i).all (Sp.hosts.contains ·) = true) : Sp.labelL (cur l f i) = (!(l[f]'(by omega) == 45) && !(l[i - 1]'(by omega) == 45)) := by
  unfold Sp.labelL
  rw [ha, cur_get0 l f i h hi, cur_last l f i h hi]
  have he : (cur l f i).isEmpty = false := by
    cases hc : cur l f i with
    | nil => have := cur_len l f i (by omega) hi; rw [hc] at this; simp only [List.length_nil] at this; omega
    | cons b r => rfl
  rw [he]
  simp
theorem eq45 (b : UInt8) : ((b.toNat : Int) = 45) ↔ b = 45 := ⟨fun h => UInt8.toNat_inj.1 (by show b.toNat = 45; omega), fun h => by subst h; rfl⟩
/-- At the end of a label. -/
theorem dom_end (s : ByteArray) (hs : s.size ≤ 1000000) (k f i : Nat) (long : Bool) (NX : Bool → Int) (hf : f ≤ i) (hi : i ≤ s.size) (ha : (cur s.data.toList f i).all (Sp.hosts.contains ·) = true)
    (hn : ∀ lg, postriderref05_Domain.l0 k s lg ((i + 1 : Nat) : Int) ((i + 1 : Nat) : Int) = some (NX lg)) :
    postriderref05_Domain.j2 (k + 2) s long (f : Int) (i : Int) false = some (if Sp.labelL (cur s.data.toList f i) then NX (long || decide ((cur s.data.toList f i).length > 63)) else 5) := by
  have hl := ba_len s
  have hj3 : ∀ b, postriderref05_Domain.j3 (k + 1) s long (f : Int) (i : Int) b = some (if b then 5 else NX (long || decide ((cur s.data.toList f i).length > 63))) := fun b => by
    simp only [postriderref05_Domain.j3]
    cases b with
    | true => rfl
    | false =>
      have hw : wrap64 ((i : Int) - (f : Int)) = ((i - f : Nat) : Int) := by unfold wrap64; omega
      rw [if_neg (by simp), hw, w64s i (by omega), cur_len _ f i hf (by omega)]
      by_cases h : i - f > 63
      · rw [if_pos (by omega), hn, decide_eq_true h, Bool.or_true]; rfl
      · rw [if_neg (by omega), hn, decide_eq_false h, Bool.or_false]; rfl
  simp only [postriderref05_Domain.j2]
  rw [if_neg (by simp)]
  by_cases he : i = f
  · subst he
    rw [if_pos rfl, hj3, cur_nil]
    rfl
  · have hlt : f < i := by omega
    rw [if_neg (by omega), if_pos (by omega), if_pos (by omega), bt_nat s f (by omega), label_cur _ f i hlt (by omega) ha]
    have hw : wrap64 ((i : Int) - 1) = ((i - 1 : Nat) : Int) := by unfold wrap64; omega
    by_cases h1 : (s.data.toList[f]'(by omega)) = 45
    · rw [if_pos ((eq45 _).2 h1), hj3, h1]
      rfl
    · rw [if_neg (fun h => h1 ((eq45 _).1 h)), hw, if_pos (by omega), if_pos (by omega), bt_nat s (i - 1) (by omega), hj3]
      have e1 : ((s.data.toList[f]'(by omega)) == 45) = false := beq_false_of_ne h1
      rw [e1]
      by_cases h2 : (s.data.toList[i - 1]'(by omega)) = 45
      · have e2 : ((s.data.toList[i - 1]'(by omega)) == 45) = true := by rw [h2]; rfl
        have e3 : ((((s.data.toList[i - 1]'(by omega)).toNat : Int)) == 45) = true := by rw [h2]; rfl
        rw [e2, e3]
        rfl
      · have e2 : ((s.data.toList[i - 1]'(by omega)) == 45) = false := beq_false_of_ne h2
        have e3 : ((((s.data.toList[i - 1]'(by omega)).toNat : Int)) == 45) = false := beq_false_of_ne (fun h => h2 ((eq45 _).1 h))
        rw [e2, e3]
        rfl
theorem ref_dom_l (s : ByteArray) (hs : s.size ≤ 1000000) (d : Nat) : ∀ (k i f : Nat) (long : Bool), i + d = s.size → 3 * d + 10 < k → f ≤ i → (cur s.data.toList f i).all (Sp.hosts.contains ·) = true →
    postriderref05_Domain.l0 k s long (f : Int) (i : Int) = some (fin long (Sp.splitL 46 (s.data.toList.drop f))) := by
  have hl := ba_len s
  induction d with
  | zero =>
    intro k i f long hi hk hf ha
    obtain ⟨k, rfl⟩ : ∃ m, k = m + 4 := ⟨k - 4, by omega⟩
    have e : s.data.toList.drop f = cur s.data.toList f i := by rw [cur_split _ f i hf, drop_end s i (by omega), List.append_nil]
    have hnx : ∀ lg, postriderref05_Domain.l0 (k + 1) s lg ((i + 1 : Nat) : Int) ((i + 1 : Nat) : Int) = some (if lg then 3 else 0) := fun lg => by
      simp only [postriderref05_Domain.l0]
      rw [if_neg (by omega)]
      cases lg <;> rfl
    have h := dom_end s hs (k + 1) f i long _ hf (by omega) ha hnx
    rw [postriderref05_Domain.l0]
    rw [if_pos (by omega), if_neg (by omega), h, e, split_free 46 _ (not46 _ ha), fin_cons, fin_nil]
  | succ d ih =>
    intro k i f long hi hk hf ha
    obtain ⟨k, rfl⟩ : ∃ m, k = m + 3 := ⟨k - 3, by omega⟩
    have hlt : i < s.size := by omega
    rw [postriderref05_Domain.l0]
    rw [if_pos (by omega), if_pos (by omega), if_pos (by omega), bt_nat s i hlt]
    have hsp : s.data.toList.drop f = cur s.data.toList f i ++ (s.data.toList[i]'(by omega)) :: s.data.toList.drop (i + 1) := by
      rw [cur_split _ f i hf, drop_cons s i hlt]
    by_cases hb : (s.data.toList[i]'(by omega)) = 46
    · have e1 : ((((s.data.toList[i]'(by omega)).toNat : Int)) != 46) = false := by rw [hb]; rfl
      have hnx : ∀ lg, postriderref05_Domain.l0 k s lg ((i + 1 : Nat) : Int) ((i + 1 : Nat) : Int) = some (fin lg (Sp.splitL 46 (s.data.toList.drop (i + 1)))) := fun lg =>
        ih k (i + 1) (i + 1) lg (by omega) (by omega) (by omega) (by rw [cur_nil]; rfl)
      have h := dom_end s hs k f i long _ hf (by omega) ha hnx
      rw [e1, h, hsp, hb, split_at 46 _ _ (not46 _ ha), fin_cons]
    · have e1 : ((((s.data.toList[i]'(by omega)).toNat : Int)) != 46) = true := by
        rw [bne_iff_ne]
        intro h
        exact hb (UInt8.toNat_inj.1 (by show (s.data.toList[i]'(by omega)).toNat = 46; omega))
      rw [e1, postriderref05_Domain.j2]
      rw [if_pos rfl, if_pos (by omega), if_pos (by omega), bt_nat s i hlt, ref_lett, w64s i (by omega)]
      have hsn := cur_snoc s.data.toList f i hf (by omega)
      generalize hbb : (s.data.toList[i]'(by omega)) = b at hsp hb hsn ⊢
      simp only [Option.bind_some]
      cases hh : Sp.hosts.contains b with
      | true =>
        have hnext := ih (k + 1) (i + 1) f long (by omega) (by omega) (by omega) (by rw [hsn, List.all_append, ha]; simp only [List.all_cons, List.all_nil, hh]; rfl)
        by_cases h45 : b = 45
        · rw [h45]
          rw [if_neg (by decide), if_pos (by decide)]
          exact hnext
        · have : (b == 45) = false := beq_false_of_ne h45
          rw [this, if_pos (by decide)]
          exact hnext
      | false =>
        have h45 : ¬ ((b.toNat : Int) = 45) := fun h => by
          rw [(eq45 b).1 h] at hh
          revert hh
          decide
        rw [if_neg (by simp), if_neg h45]
        obtain ⟨q, qs, h1, h2⟩ := split_pre 46 (cur s.data.toList f i ++ [b]) (s.data.toList.drop (i + 1)) (by
          intro hm
          rcases List.mem_append.1 hm with h | h
          · exact not46 _ ha h
          · exact hb (List.mem_singleton.1 h).symm)
        have h3 : s.data.toList.drop f = (cur s.data.toList f i ++ [b]) ++ s.data.toList.drop (i + 1) := by rw [hsp]; simp
        rw [h3, h2, fin_cons]
        have hlab : Sp.labelL (cur s.data.toList f i ++ [b] ++ q) = false := by
          unfold Sp.labelL
          have : (cur s.data.toList f i ++ [b] ++ q).all (Sp.hosts.contains ·) = false := by
            rw [List.all_append, List.all_append]
            simp only [List.all_cons, hh, Bool.false_and, Bool.and_false]
          rw [this]
          simp
        rw [hlab]
        rfl
theorem ext_mid (s : ByteArray) (b : UInt8) (m : List UInt8) (h : s.data.toList = b :: m) (hm : m ≠ []) : s.extract 1 (((s.size - 1 : Nat) : Int).toNat) = mkL m.dropLast := by
  have hl := ba_len s
  rw [h, List.length_cons] at hl
  rw [Int.toNat_natCast, Lib.extract_eq, h]
  unfold mkL
  rw [List.drop_succ_cons, List.drop_zero, List.dropLast_eq_take, show s.size - 1 - 1 = m.length - 1 by omega]
theorem ref_lit (s : ByteArray) (hs : s.size ≤ 1000000) (k : Nat) (hk : s.size + 60 < k) (m : List UInt8) (h : s.data.toList = 91 :: m) :
    postriderref05_literal.f k s = some (decide (m.getLast? = some 93) && (decide (m.dropLast.count 46 = 3) && (Sp.splitL 46 m.dropLast).all Sp.octetL)) := by
  have hl := ba_len s
  have hl2 : s.size = m.length + 1 := by rw [h, List.length_cons] at hl; omega
  obtain ⟨k, rfl⟩ : ∃ j, k = j + 1 := ⟨k - 1, by omega⟩
  unfold postriderref05_literal.f
  cases hm : m with
  | nil =>
    rw [hm] at hl2
    rw [if_pos (by simp only [List.length_nil] at hl2; omega)]
    rfl
  | cons c r =>
    rw [← hm]
    have hne : m ≠ [] := by rw [hm]; simp
    have hmp : 0 < m.length := List.length_pos_iff.2 hne
    have h0 : bt s 0 = 91 := by
      have e := bt_nat s 0 (by omega)
      have e2 : (s.data.toList[0]'(by omega)) = 91 := by simp only [h, List.getElem_cons_zero]
      rw [e2] at e
      exact e
    have hw : wrap64 ((s.size : Int) - 1) = ((s.size - 1 : Nat) : Int) := by unfold wrap64; omega
    have hlast : (s.data.toList[s.size - 1]'(by omega)) = m.getLast hne := by
      rw [List.getLast_eq_getElem]
      simp only [h]
      rw [List.getElem_cons]
      rw [dif_neg (by omega)]
      congr 1
      omega
    rw [if_neg (by omega), if_pos (by omega), if_pos h0, hw, if_pos (by omega), if_pos (by omega), bt_nat s (s.size - 1) (by omega), hlast]
    simp only [postriderref05_literal.j0]
    rw [List.getLast?_eq_some_getLast hne]
    by_cases h93 : m.getLast hne = 93
    · rw [h93]
      rw [if_neg (by decide), hw, if_pos (by omega), if_pos (by omega), ext_mid s 91 m h hne]
      have hsp := ref_split (mkL m.dropLast) 46 (by rw [mkL_size, List.length_dropLast]; omega) k (by rw [mkL_size, List.length_dropLast]; omega)
      rw [mkL_list] at hsp
      rw [show ((46 : Int)) = (((46 : UInt8).toNat : Nat) : Int) from rfl, hsp]
      simp only [Option.bind_some, decide_true, Bool.true_and]
      have hc := split_count 46 m.dropLast
      by_cases h3 : m.dropLast.count 46 = 3
      · have hlit := ref_lit_l (Sp.splitL 46 m.dropLast) (by omega) 4 k 0 (by omega) (by omega)
        rw [List.drop_zero] at hlit
        rw [if_pos (by rw [List.length_map]; omega), decide_eq_true h3, Bool.true_and]
        exact hlit
      · rw [if_neg (by rw [List.length_map]; omega), decide_eq_false h3, Bool.false_and]
    · have e1 : (((m.getLast hne).toNat : Int) != 93) = true := by
        rw [bne_iff_ne]
        intro e
        exact h93 (UInt8.toNat_inj.1 (by show (m.getLast hne).toNat = 93; omega))
      rw [e1, if_pos rfl, decide_eq_false (by simpa using h93), Bool.false_and]
theorem ref_dom (s : ByteArray) (hs : s.size ≤ 1000000) (k : Nat) (hk : 3 * s.size + 100 < k) : postriderref05_Domain.f k s = some (Sp.domL s.data.toList) := by
  have hl := ba_len s
  obtain ⟨k, rfl⟩ : ∃ j, k = j + 1 := ⟨k - 1, by omega⟩
  unfold postriderref05_Domain.f
  have hplain : (∀ m, s.data.toList ≠ 91 :: m) → postriderref05_Domain.j0 (k + 1) s false = some (Sp.domL s.data.toList) := fun hn => by
    simp only [postriderref05_Domain.j0]
    have h := ref_dom_l s hs s.size k 0 0 (decide ((s.size : Int) > 255)) (by omega) (by omega) (by omega) (by rw [cur_nil]; rfl)
    rw [List.drop_zero] at h
    rw [if_neg (by simp)]
    refine h.trans (congrArg some ?_)
    unfold Sp.domL
    split
    · rename_i m hm
      exact absurd hm (hn m)
    · unfold fin
      by_cases ha : (Sp.splitL 46 s.data.toList).all Sp.labelL = true
      · rw [if_pos ha, if_pos ha]
        have : (decide ((s.size : Int) > 255) = true) ↔ s.data.toList.length > 255 := by rw [decide_eq_true_iff]; omega
        simp only [this]
      · rw [if_neg ha, if_neg ha]
  cases hd : s.data.toList with
  | nil =>
    rw [hd] at hl
    rw [if_neg (by simp only [List.length_nil] at hl; omega), ← hd]
    exact hplain (fun m => by rw [hd]; simp)
  | cons b m =>
    have hpos : 0 < s.size := by rw [hd, List.length_cons] at hl; omega
    have h0 : bt s 0 = (b.toNat : Int) := by
      have e := bt_nat s 0 hpos
      have e2 : (s.data.toList[0]'(by omega)) = b := by simp only [hd, List.getElem_cons_zero]
      rw [e2] at e
      exact e
    rw [if_pos (by omega), if_pos (by omega), h0, ← hd]
    by_cases hb : b = 91
    · subst hb
      have e1 : ((((91 : UInt8).toNat : Int)) == 91) = true := rfl
      rw [e1, postriderref05_Domain.j0, if_pos rfl, ref_lit s hs k (by omega) m hd, hd]
      simp only [Option.bind_some, Sp.domL]
      by_cases h1 : m.getLast? = some 93
      · rw [if_pos h1, decide_eq_true h1, Bool.true_and]
        by_cases h2 : m.dropLast.count 46 = 3
        · rw [decide_eq_true h2, Bool.true_and]
          cases h3 : (Sp.splitL 46 m.dropLast).all Sp.octetL with
          | true => rw [if_pos rfl, if_pos ⟨h2, rfl⟩]
          | false => rw [if_neg (by simp), if_neg (fun h => by cases h.2)]
        · rw [decide_eq_false h2, Bool.false_and, if_neg (by simp), if_neg (fun h => h2 h.1)]
      · rw [if_neg h1, decide_eq_false h1, Bool.false_and, if_neg (by simp)]
    · have e1 : (((b.toNat : Int)) == 91) = false := beq_false_of_ne (fun e => hb (UInt8.toNat_inj.1 (by show b.toNat = 91; omega)))
      rw [e1]
      exact hplain (fun m' => by rw [hd]; intro h; exact hb (List.cons.inj h).1)
end Go.Proofs.YtmhcdigneamgdaaGreatDoor.G

/- Plain: both texts of a path are the same. -/
namespace Go.Proofs.YtmhcdigneamgdaaGreatDoor.G
open Go.RowKit Go.Proofs.YtmhcdigneamgdaaGreatDoorW.PrintWords Go.Proofs.YtmhcdigneamgdaaGreatDoorW.PrintMore Go.Proofs.YtmhcdigneamgdaaGreatDoor.Qa Go.Proofs.YtmhcdigneamgdaaGreatDoor.Qb
set_option linter.unusedVariables false
/-- Whether an address may be. -/
def mayL (s t : List UInt8) : Bool := decide (1 ≤ s.length) && decide (s.length ≤ 64) && Sp.plainL s && (Sp.domL t == 0)
def textL (s t : List UInt8) : List UInt8 := if mayL s t then (if Sp.dotAtomL s then s else Sp.quoteL s) ++ [64] ++ t else []
theorem may_prog (s t : ByteArray) (ht : t.size ≤ 1000000) : addr_May.f s t = some (mayL s.data.toList t.data.toList) := by
  have hl := ba_len s
  unfold addr_May.f mayL
  have e0 : s.toList = s.data.toList := ByteArray.toList_eq s
  rw [e0]
  by_cases h0 : s.data.toList = []
  · rw [if_pos h0, h0]
    rfl
  · have hp : 0 < s.data.toList.length := List.length_pos_iff.2 h0
    rw [if_neg h0, decide_eq_true (p := 1 ≤ s.data.toList.length) (by omega), Bool.true_and]
    by_cases h1 : (s.size : Int) ≤ 64
    · rw [if_pos h1, decide_eq_true (p := s.data.toList.length ≤ 64) (by omega), Bool.true_and]
      unfold text_Plain.f
      simp only [Option.bind_some]
      cases Sp.plainL s.data.toList with
      | false => rfl
      | true =>
        rw [if_pos rfl]
        unfold addr_MayDomain.f addr_domain.f
        rw [if_pos (by omega)]
        rfl
    · rw [if_neg h1, decide_eq_false (p := s.data.toList.length ≤ 64) (by omega)]
      rfl
theorem may_ref (s t : ByteArray) (hs : s.size ≤ 1000000) (ht : t.size ≤ 1000000) (k : Nat) (hk : s.size + 3 * t.size + 200 < k) : postriderref05_May.f k s t = some (mayL s.data.toList t.data.toList) := by
  have hl := ba_len s
  unfold postriderref05_May.f mayL
  by_cases h0 : (s.size : Int) ≥ 1
  · rw [if_pos h0, decide_eq_true (p := 1 ≤ s.data.toList.length) (by omega), Bool.true_and]
    by_cases h1 : (s.size : Int) ≤ 64
    · rw [if_pos h1, decide_eq_true (p := s.data.toList.length ≤ 64) (by omega), Bool.true_and, ref_plain s hs k (by omega)]
      simp only [Option.bind_some]
      cases Sp.plainL s.data.toList with
      | false => rfl
      | true => rw [if_pos rfl, ref_dom t ht k (by omega)]; rfl
    · rw [if_neg h1, decide_eq_false (p := s.data.toList.length ≤ 64) (by omega)]
      rfl
  · rw [if_neg h0, decide_eq_false (p := 1 ≤ s.data.toList.length) (by omega)]
    rfl
theorem mkL_eq (s : ByteArray) : s = mkL s.data.toList := by
  unfold mkL
  exact (Lib.mk_data s).symm
theorem app_mk (a b : ByteArray) : a ++ b = mkL (a.data.toList ++ b.data.toList) := by
  apply ByteArray.ext
  rw [ByteArray.data_append]
  apply Array.ext'
  simp [mkL]
theorem quote_len (l : List UInt8) : (Sp.quoteL l).length ≤ 2 * l.length + 2 := by
  unfold Sp.quoteL
  have : (l.flatMap fun b => if b = 34 ∨ b = 92 then [92, b] else [b]).length ≤ 2 * l.length := by
    induction l with
    | nil => simp
    | cons b r ih =>
      rw [List.flatMap_cons, List.length_append, List.length_cons]
      have : (if b = 34 ∨ b = 92 then [92, b] else [b]).length ≤ 2 := by split <;> simp
      omega
  simp only [List.length_cons, List.length_append, List.length_nil]
  omega
theorem text_prog (s t : ByteArray) (hs : s.size ≤ 1000000) (ht : t.size ≤ 1000000) : addr_Text.f s t = some (mkL (textL s.data.toList t.data.toList)) := by
  unfold addr_Text.f textL
  rw [may_prog s t ht]
  simp only [Option.bind_some]
  cases hm : mayL s.data.toList t.data.toList with
  | false => rfl
  | true =>
    have hpl : Sp.plainL s.data.toList = true := by
      unfold mayL at hm
      simp only [Bool.and_eq_true] at hm
      exact hm.1.2
    rw [if_pos rfl, if_pos rfl]
    unfold text_DotAtom.f
    rw [if_pos (by omega)]
    simp only [Option.bind_some]
    cases Sp.dotAtomL s.data.toList with
    | true =>
      rw [if_pos rfl, if_pos rfl, if_pos (by omega), if_pos (by rw [ByteArray.size_append]; show s.size + 1 + t.size ≤ _; omega), app_mk, app_mk s]
      rfl
    | false =>
      rw [if_neg (by simp), if_neg (by simp)]
      unfold text_Quote.f
      rw [if_pos (by omega), hpl]
      simp only [Option.bind_some, if_true]
      have hq := quote_len s.data.toList
      have hl := ba_len s
      have hz : (⟨(Sp.quoteL s.data.toList).toArray⟩ : ByteArray).size = (Sp.quoteL s.data.toList).length := mkL_size _
      rw [if_pos (by omega), if_pos (by rw [ByteArray.size_append, hz]; show _ + 1 + t.size ≤ _; omega), app_mk, app_mk ⟨(Sp.quoteL s.data.toList).toArray⟩]
      rfl
theorem text_ref (s t : ByteArray) (hs : s.size ≤ 1000000) (ht : t.size ≤ 1000000) (k : Nat) (hk : s.size + 3 * t.size + 200 < k) : postriderref05_Text.f k s t = some (mkL (textL s.data.toList t.data.toList)) := by
  unfold postriderref05_Text.f textL
  rw [may_ref s t hs ht k hk]
  simp only [Option.bind_some]
  cases hm : mayL s.data.toList t.data.toList with
  | false => rfl
  | true =>
    have hpl : Sp.plainL s.data.toList = true := by
      unfold mayL at hm
      simp only [Bool.and_eq_true] at hm
      exact hm.1.2
    rw [if_pos rfl, if_pos rfl, ref_dot s hs k (by omega)]
    simp only [Option.bind_some]
    cases Sp.dotAtomL s.data.toList with
    | true =>
      rw [if_pos rfl, if_pos rfl, if_pos (by omega), if_pos (by rw [ByteArray.size_append]; show s.size + 1 + t.size ≤ _; omega), app_mk, app_mk s]
      rfl
    | false =>
      rw [if_neg (by simp), if_neg (by simp), ref_quote s hs k (by omega), hpl]
      simp only [Option.bind_some, if_true]
      have hq := quote_len s.data.toList
      have hl := ba_len s
      have hz : (⟨(Sp.quoteL s.data.toList).toArray⟩ : ByteArray).size = (Sp.quoteL s.data.toList).length := mkL_size _
      rw [if_pos (by omega), if_pos (by rw [ByteArray.size_append, hz]; show _ + 1 + t.size ≤ _; omega), app_mk, app_mk ⟨(Sp.quoteL s.data.toList).toArray⟩]
      rfl
theorem text_len (s t : List UInt8) : (textL s t).length ≤ 2 * s.length + t.length + 3 := by
  unfold textL
  have := quote_len s
  split
  · split <;> simp only [List.length_append, List.length_cons, List.length_nil] <;> omega
  · simp
theorem pure_tells (a b : Bool) (l : List ByteArray) (s t : ByteArray) (hs : s.size ≤ 300) (ht : t.size ≤ 300) : ∃ k r, path_Path_Text.f a b l s t = some r ∧ postriderref06_Text.f k a b l s t = some r := by
  unfold path_Path_Text.f postriderref06_Text.f
  by_cases ha : a = true
  · exact ⟨0, _, if_pos ha, if_pos ha⟩
  · rw [if_neg ha]
    by_cases hb : b = true
    · exact ⟨0, _, if_pos hb, by rw [if_neg ha, if_pos hb]⟩
    · refine ⟨3000, ?_⟩
      rw [if_neg ha, if_neg hb, if_neg hb, may_prog s t (by omega), may_ref s t (by omega) (by omega) 3000 (by omega)]
      simp only [Option.bind_some]
      cases hm : mayL s.data.toList t.data.toList with
      | false => exact ⟨_, rfl, rfl⟩
      | true =>
        rw [if_pos rfl, if_pos rfl, text_prog s t (by omega) (by omega), text_ref s t (by omega) (by omega) 3000 (by omega)]
        simp only [Option.bind_some]
        have hl := ba_len s
        have hl2 := ba_len t
        have hz := mkL_size (textL s.data.toList t.data.toList)
        have hq := text_len s.data.toList t.data.toList
        have hsum : ((⟨#[60]⟩ : ByteArray) ++ mkL (textL s.data.toList t.data.toList)).size + 1 ≤ 9223372036854775807 := by
          rw [ByteArray.size_append, hz]
          show 1 + _ + 1 ≤ _
          omega
        rw [if_pos (by omega), if_pos hsum]
        exact ⟨_, rfl, rfl⟩
end Go.Proofs.YtmhcdigneamgdaaGreatDoor.G

/- What the rows' list gives: the fact on the package-level variables that the walks lean on; a start that meets the list. -/
namespace Go.Proofs.YtmhcdigneamgdaaGreatDoor.Crd
open Go.ChangeShapes Go.WideShapes Go.ChangeAt Go.WideMaps Go.WideElems Go.RowKit Go.Proofs.YtmhcdigneamgdaaGreatDoor.G

def laidL : List (String × DataW Unit) := Rows.pathTellsRow.laid
theorem one_of {W : World} (h : laidMetH Tryz.prog laidL W) (n : String) (d : DataW Unit) (e : laidL.filter (fun x => x.1 == n) = [(n, d)]) (hd : d.handleName?.isNone = true) : laidMet Tryz.prog [(n, d)] W := by
  have h1 := h.filter (fun x => x.1 == n)
  rw [e, MakeChecks.laidMetH_plain _ _ _ (by simp [hd])] at h1
  exact h1
theorem pow_of {W : World} (h : laidMetH Tryz.prog laidL W) : Lib.TabIs Tryz.prog W "internal/strconv.uint64pow10" .u64 Lib.pow10Tab :=
  Lib.tabIs_of_head (rest := []) gPow10 (by kernel_rfl) Tryz.underlying160 Tryz.underlying111 (by kernel_rfl) (by kernel_rfl) (one_of h "internal/strconv.uint64pow10" (Lib.tabData .u64 Lib.pow10Tab) (by kernel_rfl) (by kernel_rfl))
theorem gAtext : Tryz.prog.globalNamed "postrider/text.atext" = some 4 := by kernel_rfl
theorem atext_of {W : World} (h : laidMetH Tryz.prog laidL W) : Lib.TabIs Tryz.prog W "postrider/text.atext" .u32 [0, 2751442170, 3355443198, 2147483647] :=
  Lib.tabIs_of_head (rest := []) gAtext (by kernel_rfl) Tryz.underlying140 Tryz.underlying108 (by kernel_rfl) (by kernel_rfl) (one_of h "postrider/text.atext" (Lib.tabData .u32 [0, 2751442170, 3355443198, 2147483647]) (by kernel_rfl) (by kernel_rfl))
theorem max_of {W : World} (hs : W.ShapedOpen Tryz.prog) : ∃ m, W.cell? ⟨3, 0, none⟩ = some (.int .i64 m) :=
  cell_of_shapedOpen_int (zero := #[.int .i64 0]) (t := 3) hs (by decide +kernel) (by kernel_rfl) rfl (by kernel_rfl) (by kernel_rfl) Tryz.underlying3
theorem gSays : Tryz.prog.globalNamed "postrider/path.says" = some 0 := by kernel_rfl
theorem tSays : (Tryz.prog.globals[0]?).map (·.type) = some 87 := by kernel_rfl
def bodyN : List UInt8 := [112, 111, 115, 116, 114, 105, 100, 101, 114, 47, 112, 97, 116, 104, 46, 115, 97, 121, 115, 36, 50]
def sizeN : List UInt8 := [112, 111, 115, 116, 114, 105, 100, 101, 114, 47, 112, 97, 116, 104, 46, 115, 97, 121, 115, 36, 49]
theorem ba_ne (a b : ByteArray) (h : a ≠ b) : (a == b) = false := by
  cases hb : a == b with
  | false => rfl
  | true =>
    exfalso
    apply h
    obtain ⟨a⟩ := a
    obtain ⟨b⟩ := b
    have h2 : (a == b) = true := hb
    rw [eq_of_beq h2]
theorem elem_func {P : Program} {w : World} {base : Nat} {sp : Nat → Bool} {n : Nat} {e : TypeId} {ps rs : Array TypeId} {va : Bool} {v : Value} {b : UInt8} {r : List UInt8} {y : DataW (List UInt8) × List MemPlace} {f0 : FuncId}
    (ht : P.underlying e = some (.func ps rs va)) (hone : ((List.range P.funcs.size).filter fun f => (P.funcs[f]?).any (·.name.toUTF8.data.toList == b :: r)) = [f0])
    (h : elemAt (funcToken P) P w base sp true n e v = some y) (hy : y.1 = .held (b :: r)) : v = .func (.func f0) #[] #[] := by
  unfold elemAt at h
  split at h
  · rename_i hf
    have hc : v.cells.toList = [v] := by
      cases v <;> first | rfl | (simp [Value.formed, ht] at hf)
    rw [hc] at h
    obtain ⟨y1, y2⟩ := y
    cases hy
    exact func_of_trod ht hone h
  · cases h
theorem body_one : ((List.range Tryz.prog.funcs.size).filter fun f => (Tryz.prog.funcs[f]?).any (·.name.toUTF8.data.toList == bodyN)) = [160] := by kernel_rfl
theorem size_one : ((List.range Tryz.prog.funcs.size).filter fun f => (Tryz.prog.funcs[f]?).any (·.name.toUTF8.data.toList == sizeN)) = [159] := by kernel_rfl
def saysD : DataW (List UInt8) := .map [(.string [98, 111, 100, 121], .held bodyN), (.string [115, 105, 122, 101], .held sizeN)]
theorem at_other (l : List UInt8) (h1 : l ≠ [98, 111, 100, 121]) (h2 : l ≠ [115, 105, 122, 101]) (z : DataW (List UInt8)) : saysD.atKey (.string l) z = z := by
  simp [saysD, DataW.atKey, Lit.sameKey, Ne.symm h1, Ne.symm h2]
set_option maxRecDepth 100000 in
theorem says_of {W : World} (h : laidMetH Tryz.prog laidL W) : ∃ bm es clock, W.cell? ⟨0, 0, none⟩ = some (.map (some bm)) ∧ W.heap[bm]? = some (.map es clock) ∧ ∀ (W' : World) (s : ByteArray), W'.heap[bm]? = some (.map es clock) → s.size ≤ 9223372036854775807 → (Instr.lookup 87 (.map (some bm)) (.string s) true).run Tryz.prog W' = .ok (.tuple #[sayVal s, .bool (sayHas s)]) W' := by
  obtain ⟨g, t, cs, fuel, p, hg, ht, hv, hd⟩ := h.funcs (n := "postrider/path.says") (d := .map [(.string [98, 111, 100, 121], .iface "func" (.lit (.string bodyN))), (.string [115, 105, 122, 101], .iface "func" (.lit (.string sizeN)))]) (by
    show _ ∈ Rows.pathTellsRow.laid
    exact .tail _ (.tail _ (.tail _ (.tail _ (.tail _ (.head _))))))
  obtain rfl := Option.some.inj (gSays.symm.trans hg)
  obtain rfl := Option.some.inj (tSays.symm.trans ht)
  have hd' : DataW.trod (funcToken Tryz.prog) Tryz.prog W 0 (fun _ => true) true fuel 87 cs.toList = some (.map [(.string [98, 111, 100, 121], .held bodyN), (.string [115, 105, 122, 101], .held sizeN)], p) := hd
  rcases open_map Tryz.underlying87 hd' with ⟨_, hx⟩ | ⟨bm, es, clock, m, rfl, hcs, hb, _, F, hx⟩
  · cases hx
  simp only [Prod.mk.injEq] at hx
  have hcell : W.cell? ⟨0, 0, none⟩ = some (.map (some bm)) := by
    have := World.var?_cell hg hv 0
    rw [Array.eq_one_of_toList hcs] at this
    simpa using this
  refine ⟨bm, es, clock, hcell, hb, fun W' s hb' hs => ?_⟩
  have zero : (zeroValue 85).run Tryz.prog W' = .ok .nilFunc W' := by kernel_rfl
  have law : KeyLaw Tryz.prog 9 := string_law Tryz.underlying9
  rcases fit_lookup_ok (w := W') law Tryz.underlying87 zero hb' F (keyOf_string_mk (s := s) Tryz.underlying9 hs) with ⟨hrun, hat⟩ | ⟨v, y, hrun, hRv, hat, _⟩
  · have h0 : ∀ zd, saysD.atKey (.string s.data.toList) zd = zd := fun zd => by have := hat zd; rw [← hx.1] at this; exact this
    by_cases h1 : s = ⟨#[115, 105, 122, 101]⟩
    · subst h1
      have := h0 .nil
      have e2 : saysD.atKey (.string [115, 105, 122, 101]) .nil = .held sizeN := rfl
      rw [e2] at this
      cases this
    · by_cases h2 : s = ⟨#[98, 111, 100, 121]⟩
      · subst h2
        have := h0 .nil
        have e2 : saysD.atKey (.string [98, 111, 100, 121]) .nil = .held bodyN := rfl
        rw [e2] at this
        cases this
      · have e1 : sayVal s = .nilFunc := by simp [sayVal, h1, h2]
        have e2 : sayHas s = false := by unfold sayHas; rw [ba_ne _ _ h1, ba_ne _ _ h2]; rfl
        rw [e1, e2]
        exact hrun
  · have h0 : ∀ zd, saysD.atKey (.string s.data.toList) zd = y.1 := fun zd => by have := hat zd; rw [← hx.1] at this; exact this
    by_cases h1 : s = ⟨#[115, 105, 122, 101]⟩
    · subst h1
      have e2 : saysD.atKey (.string [115, 105, 122, 101]) .nil = .held sizeN := rfl
      have := elem_func Tryz.underlying85 size_one hRv (((h0 .nil).symm.trans e2))
      subst this
      exact hrun
    · by_cases h2 : s = ⟨#[98, 111, 100, 121]⟩
      · subst h2
        have e2 : saysD.atKey (.string [98, 111, 100, 121]) .nil = .held bodyN := rfl
        have := elem_func Tryz.underlying85 body_one hRv (((h0 .nil).symm.trans e2))
        subst this
        exact hrun
      · have n1 : s.data.toList ≠ [98, 111, 100, 121] := fun e => h2 (by rw [← Lib.mk_data s, e])
        have n2 : s.data.toList ≠ [115, 105, 122, 101] := fun e => h1 (by rw [← Lib.mk_data s, e])
        have a1 := h0 .nil
        have a2 := h0 (.held [])
        rw [at_other _ n1 n2] at a1 a2
        rw [← a1] at a2
        cases a2
/-- What the row's list gives the walks. -/
theorem glob_of {W : World} (h : laidMetH Tryz.prog laidL W) (hs : W.ShapedOpen Tryz.prog) : Glob W where
  maxLen := max_of hs
  pow10 := pow_of h
  pow10b := World.block_lt_of_cell? W _ ((pow_of h).cell gPow10 0 (by decide))
  atext := fun i hi => (atext_of h).cell gAtext i (by simpa using hi)
  says := says_of h
end Go.Proofs.YtmhcdigneamgdaaGreatDoor.Crd

/- A start that meets the rows' list: the heap that the door's own run leaves (the functions by name), the plain data laid over it. -/
namespace Go.Proofs.YtmhcdigneamgdaaGreatDoor.Crd
open Go.ChangeShapes Go.WideShapes Go.ChangeAt Go.WideMaps Go.WideElems Go.RowKit

def plainL : List (String × DataW Unit) := laidL.filter fun x => x.2.handleName?.isNone
def plainN : List String := plainL.map (·.1)
noncomputable def startW (os : Os) : World := (World.doorLaid Tryz.prog 400 os).layVars Tryz.prog plainL
theorem start_os (os : Os) : (startW os).os = os := by
  unfold startW
  rw [World.layVars_os]
  rfl
theorem plain_all : (plainL.filter fun x => plainN.contains x.1) = plainL := by kernel_rfl
theorem plain_none : (plainL.filter fun x => !plainN.contains x.1) = [] := by kernel_rfl
set_option maxRecDepth 100000 in
theorem start_plain (os : Os) : laidMet Tryz.prog plainL (startW os) :=
  laidMet_layVars (w0 := World.doorLaid Tryz.prog 400 os) plainN [] (by rw [plain_all]; rfl) (by rw [plain_all]; kernel_rfl) (by rw [plain_all]; kernel_rfl) (by rw [plain_none]; exact LaidIn.none)
set_option maxRecDepth 100000 in
theorem start_met (os : Os) (args : Array Value) : laidMetH Tryz.prog laidL ((startW os).forCall (fun _ _ => 0) ⟨#[], args, []⟩).memory :=
  laidMetH_of_parts3 (fuel := 8) ((start_plain os).of_heap (by simp [World.memory, World.forCall, Input.heap])) (by kernel_rfl) (by kernel_rfl)
set_option maxRecDepth 100000 in
theorem start_shaped (os : Os) (args : Array Value) : ((startW os).forCall (fun _ _ => 0) ⟨#[], args, []⟩).Shaped Tryz.prog :=
  World.shaped_of_RefB (by kernel_rfl) (by kernel_rfl)
end Go.Proofs.YtmhcdigneamgdaaGreatDoor.Crd

/- Arguments opened: strings, slices of strings, a path by value. -/
namespace Go.Proofs.YtmhcdigneamgdaaGreatDoor.Crd
open Go.ChangeShapes Go.WideShapes Go.ChangeAt Go.RowKit Go.Proofs.YtmhcdigneamgdaaGreatDoorW.PrintWords

theorem laidOut : laidOutB Tryz.prog = true := by kernel_rfl
section
variable {H : Type} {enc : TypeId × Value → H} {w : World} {base : Nat} {sp : Nat → Bool} {held : Bool}
/-- A slice of strings that came in reads as a list. -/
theorem strs_C {P : Program} {t e : TypeId} {fuel : Nat} {v : Value} {x : DataW H × List MemPlace} (ht : P.underlying t = some (.slice e)) (he : P.underlying e = some .string) (hc : P.cellsOf e = 1)
    (h : DataW.trod enc P w base sp held fuel t [v] = some x) : ∃ (A : Option Addr) (c : Nat) (l : List ByteArray), v = .slice A l.length c ∧ Kd.C Kd.string w A l.length l ∧ l.length ≤ c ∧ ∀ s ∈ l, s.size ≤ maxLen := by
  rcases open_strings ht he hc h with ⟨hcs, _⟩ | ⟨a, len, cap, ss, hcs, _, hl, hm, hz, _, hcell, hsz⟩
  · obtain rfl : v = .slice none 0 0 := by simpa using hcs
    exact ⟨none, 0, [], rfl, Kd.C_nil _ w, Nat.le_refl _, fun s hs => by cases hs⟩
  · obtain rfl : v = .slice (some a) len cap := by simpa using hcs
    have hle : len ≤ ss.length := by rw [hz]; split <;> omega
    have hlen : (ss.take len).length = len := by rw [List.length_take]; omega
    refine ⟨some a, cap, ss.take len, by rw [hlen], ?_, by omega, fun s hs => hsz s (List.mem_of_mem_take hs)⟩
    refine Kd.C_of_reads (d := ByteArray.empty) (h1 := fun _ => rfl) ⟨rfl, by unfold maxLen at hm; omega, fun _ => ⟨a, rfl, fun j hj => ?_⟩⟩
    rw [hlen] at hj
    have h2 := hcell j (by omega)
    have e : (ss.take len).getD j ByteArray.empty = ss.getD j ByteArray.empty := by
      simp [List.getD_eq_getElem?_getD, hj]
    rw [e]
    exact h2
set_option maxRecDepth 100000 in
/-- A path by value. -/
theorem open_path {r : Reach} {b0 : Nat} {v : Value} {d : DataW H} {p : List MemPlace} (hv : Value.okWide Tryz.prog w r b0 26 v) (h : DataW.Trod enc Tryz.prog w base sp held 26 v d p) :
    ∃ (a b : Bool) (A : Option Addr) (c : Nat) (l : List ByteArray) (s t : ByteArray), v = .agg #[.bool a, .bool b, .slice A l.length c, .string s, .string t] ∧ Kd.C Kd.string w A l.length l ∧ l.length ≤ c := by
  obtain ⟨cs, rfl, hsz⟩ := okWide_struct Tryz.underlying26 hv
  have hC : Tryz.prog.cellsOf 26 = 5 := by kernel_rfl
  obtain ⟨l⟩ := cs
  match l, hsz.trans hC with
  | [c0, c1, c2, c3, c4], _ =>
    obtain ⟨fuel, hf⟩ := h
    obtain ⟨xs, n, _, hx, _, hlen, hg⟩ := DataW.trod_struct Tryz.underlying26 hf
    match xs, hlen with
    | [y0, y1, y2, y3], _ =>
      have k4 : Tryz.prog.cellsOf 4 = 1 := by kernel_rfl
      have k22 : Tryz.prog.cellsOf 22 = 1 := by kernel_rfl
      have k24 : Tryz.prog.cellsOf 24 = 2 := by kernel_rfl
      have k9 : Tryz.prog.cellsOf 9 = 1 := by kernel_rfl
      have g0 : DataW.trod enc Tryz.prog w base sp held n 4 (([c0, c1, c2, c3, c4].drop 0).take (Tryz.prog.cellsOf 4)) = some y0 := hg 0 _ rfl
      have g1 : DataW.trod enc Tryz.prog w base sp held n 4 (([c0, c1, c2, c3, c4].drop 1).take (Tryz.prog.cellsOf 4)) = some y1 := hg 1 _ rfl
      have g2 : DataW.trod enc Tryz.prog w base sp held n 22 (([c0, c1, c2, c3, c4].drop 2).take (Tryz.prog.cellsOf 22)) = some y2 := hg 2 _ rfl
      have g3 : DataW.trod enc Tryz.prog w base sp held n 24 (([c0, c1, c2, c3, c4].drop 3).take (Tryz.prog.cellsOf 24)) = some y3 := hg 3 _ rfl
      rw [k4] at g0 g1
      rw [k22] at g2
      rw [k24] at g3
      obtain ⟨a, ha, _⟩ := DataW.trod_bool Tryz.underlying4 g0
      obtain ⟨b, hb, _⟩ := DataW.trod_bool Tryz.underlying4 g1
      obtain ⟨A, c, l, hl, hC2, hle, _⟩ := strs_C Tryz.underlying22 Tryz.underlying9 k9 (g2 : DataW.trod enc Tryz.prog w base sp held n 22 [c2] = some y2)
      obtain ⟨xs3, n3, _, hx3, _, hlen3, hg3⟩ := DataW.trod_struct Tryz.underlying24 g3
      match xs3, hlen3 with
      | [z0, z1], _ =>
        have q0 : DataW.trod enc Tryz.prog w base sp held n3 9 (([c3, c4].drop 0).take (Tryz.prog.cellsOf 9)) = some z0 := hg3 0 _ rfl
        have q1 : DataW.trod enc Tryz.prog w base sp held n3 9 (([c3, c4].drop 1).take (Tryz.prog.cellsOf 9)) = some z1 := hg3 1 _ rfl
        rw [k9] at q0 q1
        obtain ⟨s, hs, _⟩ := DataW.trod_string Tryz.underlying9 q0
        obtain ⟨t, ht, _⟩ := DataW.trod_string Tryz.underlying9 q1
        simp only [List.drop_zero, List.drop_succ_cons, List.take_succ_cons, List.take_zero, List.cons.injEq, and_true] at ha hb hs ht
        subst ha hb hs ht hl
        exact ⟨a, b, A, c, l, s, t, rfl, hC2, hle⟩
end
end Go.Proofs.YtmhcdigneamgdaaGreatDoor.Crd
