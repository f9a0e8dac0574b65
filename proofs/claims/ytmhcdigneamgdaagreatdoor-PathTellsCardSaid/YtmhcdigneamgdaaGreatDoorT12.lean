/- Parts of the proof, put together: Qb, Par. -/
import Derived.Test.YtmhcdigneamgdaaGreatDoorT4
import Derived.Test.YtmhcdigneamgdaaGreatDoorT5
import Derived.Test.YtmhcdigneamgdaaGreatDoorT6
import Derived.Test.YtmhcdigneamgdaaGreatDoorT7
import Derived.Test.YtmhcdigneamgdaaGreatDoorT8
import Derived.Test.YtmhcdigneamgdaaGreatDoorT9
import Derived.Test.YtmhcdigneamgdaaGreatDoorT10
import Derived.Test.YtmhcdigneamgdaaGreatDoorT11
namespace Go.Proofs.YtmhcdigneamgdaaGreatDoor.Qb
open Go.RowKit Go.Proofs.YtmhcdigneamgdaaGreatDoor.G Go.Proofs.YtmhcdigneamgdaaGreatDoor.Qa Go.Proofs.YtmhcdigneamgdaaGreatDoorW.PrintWords Go.Proofs.YtmhcdigneamgdaaGreatDoorW.PrintLast Go.Proofs.YtmhcdigneamgdaaGreatDoorW.PrintMore
attribute [local go_sem] max2_int min2_int max_two min_two max_three min_three max_four min_four   -- for this text's walks alone
set_option linter.unusedVariables false
set_option linter.unusedSimpArgs false

end Go.Proofs.YtmhcdigneamgdaaGreatDoor.Qb

/- Walk of path.Parse. -/
namespace Go.Proofs.YtmhcdigneamgdaaGreatDoor.G
open Go.RowKit Go.Proofs.YtmhcdigneamgdaaGreatDoorW.PrintWords Go.Proofs.YtmhcdigneamgdaaGreatDoorW.PrintMore Go.Proofs.YtmhcdigneamgdaaGreatDoor.Qa Go.Proofs.YtmhcdigneamgdaaGreatDoor.Qb
attribute [local go_sem] max2_int max_two
set_option linter.unusedVariables false
set_option linter.unusedSimpArgs false

abbrev PR := Bool × Bool × List ByteArray × ByteArray × ByteArray × ByteArray × Int
def noPath (e : Int) : PR := (false, false, [], ⟨#[]⟩, ⟨#[]⟩, ⟨#[]⟩, e)
/-- What is left when the path is read: too long, or it. -/
def finPath (a0 behind : ByteArray) (nul post : Bool) (l : List ByteArray) (loc dom : ByteArray) (wrong : Int) : PR :=
  if wrong ≠ 0 ∨ (a0.size : Int) - (behind.size : Int) > 256 then noPath 3 else (nul, post, l, loc, dom, behind, 0)
def master : ByteArray := ⟨#[112, 111, 115, 116, 109, 97, 115, 116, 101, 114]⟩
def onePath (k : Nat) (a0 : ByteArray) (l : List ByteArray) (one behind : ByteArray) : Option PR :=
  (path_domains.f k l).bind fun wrong =>
    if one.toList = [] ∧ l = [] then some (finPath a0 behind true false l ⟨#[]⟩ ⟨#[]⟩ wrong)
    else (text_Same.f one master).bind fun same =>
      if same = true ∧ l = [] then some (finPath a0 behind false true l ⟨#[]⟩ ⟨#[]⟩ wrong)
      else (addr_Parse.f k one).bind fun a =>
        if a.2.2 = 5 ∨ wrong = 5 then some (noPath 5) else if 0 ≤ a.2.2 ∧ 0 ≤ wrong then some (finPath a0 behind false false l a.1 a.2.1 (if wrong < a.2.2 then a.2.2 else wrong)) else none
def path_Parse.f (k : Nat) (a0 : ByteArray) : Option PR :=
  (strings_CutPrefix.f a0 ⟨#[60]⟩).bind fun c =>
    if c.2 = false then some (noPath 5) else
    (path_route.f k c.1).bind fun rt =>
      (path_ends.f k rt.2.1).bind fun n =>
        if rt.2.2 = false ∨ n < 0 then some (noPath 5)
        else if n < (rt.2.1.size : Int) ∧ a0.size ≤ 4294967280 ∧ rt.2.1.size ≤ a0.size then onePath k a0 rt.1 (rt.2.1.extract 0 n.toNat) (rt.2.1.extract (n.toNat + 1) rt.2.1.size)
        else none

theorem five {w : World} {g t : Nat} {v0 v1 v2 v3 v4 : Value} (h : w.heap[g]? = some (.cells #[v0, v1, v2, v3, v4] t (0, 0))) :
    w.cell? ⟨g, 0, none⟩ = some v0 ∧ w.cell? ⟨g, 1, none⟩ = some v1 ∧ w.cell? ⟨g, 2, none⟩ = some v2 ∧ w.cell? ⟨g, 3, none⟩ = some v3 ∧ w.cell? ⟨g, 4, none⟩ = some v4 ∧
    w.frozen? ⟨g, 0, none⟩ = false ∧ w.frozen? ⟨g, 1, none⟩ = false ∧ w.frozen? ⟨g, 2, none⟩ = false ∧ w.frozen? ⟨g, 3, none⟩ = false ∧ w.frozen? ⟨g, 4, none⟩ = false :=
  ⟨(blk_cell h 0).trans rfl, (blk_cell h 1).trans rfl, (blk_cell h 2).trans rfl, (blk_cell h 3).trans rfl, (blk_cell h 4).trans rfl, blk_frozen h 0, blk_frozen h 1, blk_frozen h 2, blk_frozen h 3, blk_frozen h 4⟩
theorem blk5 {w : World} {g t : Nat} {cs : Array Value} (h : w.heap[g]? = some (.cells cs t (0, 0))) (hs : cs.size = 5) (a b c d e : Value) :
    (((((w.setCell ⟨g, 0, none⟩ a).setCell ⟨g, 1, none⟩ b).setCell ⟨g, 2, none⟩ c).setCell ⟨g, 3, none⟩ d).setCell ⟨g, 4, none⟩ e).heap[g]? = some (.cells #[a, b, c, d, e] t (0, 0)) := by
  obtain ⟨l⟩ := cs
  match l, hs with
  | [x0, x1, x2, x3, x4], _ =>
    exact blk_put (blk_put (blk_put (blk_put (blk_put h 0 a rfl) 1 b rfl) 2 c rfl) 3 d rfl) 4 e rfl
theorem below5 {w W : World} {g : Nat} (h : Below w.heap.size w W) (hg : w.heap.size ≤ g) (a b c d e : Value) :
    Below w.heap.size w (((((W.setCell ⟨g, 0, none⟩ a).setCell ⟨g, 1, none⟩ b).setCell ⟨g, 2, none⟩ c).setCell ⟨g, 3, none⟩ d).setCell ⟨g, 4, none⟩ e) :=
  below_set (below_set (below_set (below_set (below_set h hg) hg) hg) hg) hg

set_option maxHeartbeats 8000000 in
set_option maxRecDepth 1000000 in
theorem parse_no (a0 s1 : ByteArray) (w : World) (hcp : strings_CutPrefix.f a0 ⟨#[60]⟩ = some (s1, false)) :
    Calls Tryz.prog 12 #[.string a0] w fun e w' => ∃ v2_ : Value, e = .returned (.tuple #[.agg #[.bool false, .bool false, v2_, .string ⟨#[]⟩, .string ⟨#[]⟩], .string ⟨#[]⟩, .int .i64 5]) ∧ Kd.R Kd.string 9 w' w.heap.size (fun _ => True) v2_ [] ∧ Below w.heap.size w w' := by
  have HCP := Aside0.mk hcp
  clear hcp
  have huP := Tryz.underlying26
  go_enter Tryz.func12, Tryz.ntmps12
  go_wp2_with (first | ((with_reducible refine gate_dst (N := 2) rfl ?_); refine box_event ?hg (N := 2) ?hd (cs := #[.bool false, .bool false, .slice none 0 0, .string ⟨#[]⟩, .string ⟨#[]⟩]) (t := 26) ?hr ?_; (case hd => rfl); (case hg => rfl); (case hr => first | (go_simp; done) | (go_simp; rfl)); intro gb hg w2 hbox hb; have HB0 := Aside0.mk hb; have BK := Aside0.mk hbox; have GE := Aside0.mk (Nat.le_of_eq hg.symm); clear hb hbox hg; obtain ⟨hc0, hc1, hc2, hc3, hc4, hf0, hf1, hf2, hf3, hf4⟩ := five BK.out) | (go_at_call 27; (with_reducible refine (strings_CutPrefix.calls a0 ⟨#[60]⟩ s1 false _ HCP.out).mono ?_); rintro e' w' ⟨rfl, ⟨nd, rfl⟩⟩))
  refine bodyPost_ret (results_ctt rfl _ _ gb 26 #[.bool false, .bool false, .slice none 0 0, .string ⟨#[]⟩, .string ⟨#[]⟩] (0, 0) _ rfl (by exact blk5 (blk_drewN BK.out _) rfl _ _ _ _ _) Tryz.underlying26 rfl (by kernel_rfl)) rfl ⟨_, rfl, Kd.R_nil _ _ _ _ _, by exact below5 (pw_below_drewN HB0.out _) GE.out _ _ _ _ _⟩

set_option maxHeartbeats 8000000 in
set_option maxRecDepth 1000000 in
theorem parse_bad (k : Nat) (a0 s1 s2 : ByteArray) (rt : List ByteArray) (b : Bool) (n : Int) (w : World) (hG : Glob w) (hcp : strings_CutPrefix.f a0 ⟨#[60]⟩ = some (s1, true)) (hrt : path_route.f k s1 = some (rt, s2, b)) (hen : path_ends.f k s2 = some n) (h : b = false ∨ n < 0) :
    Calls Tryz.prog 12 #[.string a0] w fun e w' => ∃ v2_ : Value, e = .returned (.tuple #[.agg #[.bool false, .bool false, v2_, .string ⟨#[]⟩, .string ⟨#[]⟩], .string ⟨#[]⟩, .int .i64 5]) ∧ Kd.R Kd.string 9 w' w.heap.size (fun _ => True) v2_ [] ∧ Below w.heap.size w w' := by
  have HCP := Aside0.mk hcp
  have HRT := Aside0.mk hrt
  have HEN := Aside0.mk hen
  have HG := Aside0.mk hG
  clear hcp hrt hen hG
  have huP := Tryz.underlying26
  cases b with
  | false =>
    clear h
    go_enter Tryz.func12, Tryz.ntmps12
    go_wp2_with (first | ((with_reducible refine gate_dst (N := 2) rfl ?_); refine box_event ?hg (N := 2) ?hd (cs := #[.bool false, .bool false, .slice none 0 0, .string ⟨#[]⟩, .string ⟨#[]⟩]) (t := 26) ?hr ?_; (case hd => rfl); (case hg => rfl); (case hr => first | (go_simp; done) | (go_simp; rfl)); intro gb hg w2 hbox hb; have HB0 := Aside0.mk hb; have BK := Aside0.mk hbox; have GE := Aside0.mk (Nat.le_of_eq hg.symm); clear hb hbox hg; obtain ⟨hc0, hc1, hc2, hc3, hc4, hf0, hf1, hf2, hf3, hf4⟩ := five BK.out) | (go_at_call 27; (with_reducible refine (strings_CutPrefix.calls a0 ⟨#[60]⟩ s1 true _ HCP.out).mono ?_); rintro e' w' ⟨rfl, ⟨nd, rfl⟩⟩) | (go_at_call 28; (with_reducible refine (path_route.calls k s1 rt s2 false _ HRT.out ?hGG).mono ?_); (case hGG => exact HG.out.below (pw_below_drewN HB0.out _)); rintro e' w3 ⟨v0, rfl, hR, hb3⟩; obtain ⟨Ad, cp, rfl, hle, hC⟩ := Kd.R_reads hR; have HR3 := Aside0.mk (Kd.R_lower hR (show w.heap.size ≤ _ from HB0.out.size)); have HC3 := Aside0.mk hC; have HLE := Aside0.mk hle; have BK3 := Aside0.mk (blk_below (blk_drewN BK.out _) hb3); have HB3 := Aside0.mk (then_below (pw_below_drewN HB0.out _) hb3); clear hR hC hle hb3; clear hc0 hf0 hc1 hf1 hc2 hf2 hc3 hf3 hc4 hf4; obtain ⟨hc0, hc1, hc2, hc3, hc4, hf0, hf1, hf2, hf3, hf4⟩ := five BK3.out) | (go_at_call 29; (with_reducible refine (path_ends.calls k s2 n _ HEN.out).mono ?_); rintro e' w4 ⟨rfl, hb4⟩; have BK4 := Aside0.mk (blk_below BK3.out hb4); have HB4 := Aside0.mk (then_below HB3.out hb4); have HR4 := Aside0.mk (Kd.R_below HR3.out hb4); have HC4 := Aside0.mk (Kd.C_below HC3.out hb4); clear hb4; clear hc0 hf0 hc1 hf1 hc2 hf2 hc3 hf3 hc4 hf4; obtain ⟨hc0, hc1, hc2, hc3, hc4, hf0, hf1, hf2, hf3, hf4⟩ := five BK4.out))
    refine bodyPost_ret (results_ctt rfl _ _ gb 26 #[.bool false, .bool false, .slice none 0 0, .string ⟨#[]⟩, .string ⟨#[]⟩] (0, 0) _ rfl (by exact blk5 BK4.out rfl _ _ _ _ _) Tryz.underlying26 rfl (by kernel_rfl)) rfl ⟨_, rfl, Kd.R_nil _ _ _ _ _, by exact below5 HB4.out GE.out _ _ _ _ _⟩
  | true =>
    have hn : n < 0 := by simpa using h
    clear h
    go_enter Tryz.func12, Tryz.ntmps12
    go_wp2_with (first | ((with_reducible refine gate_dst (N := 2) rfl ?_); refine box_event ?hg (N := 2) ?hd (cs := #[.bool false, .bool false, .slice none 0 0, .string ⟨#[]⟩, .string ⟨#[]⟩]) (t := 26) ?hr ?_; (case hd => rfl); (case hg => rfl); (case hr => first | (go_simp; done) | (go_simp; rfl)); intro gb hg w2 hbox hb; have HB0 := Aside0.mk hb; have BK := Aside0.mk hbox; have GE := Aside0.mk (Nat.le_of_eq hg.symm); clear hb hbox hg; obtain ⟨hc0, hc1, hc2, hc3, hc4, hf0, hf1, hf2, hf3, hf4⟩ := five BK.out) | (go_at_call 27; (with_reducible refine (strings_CutPrefix.calls a0 ⟨#[60]⟩ s1 true _ HCP.out).mono ?_); rintro e' w' ⟨rfl, ⟨nd, rfl⟩⟩) | (go_at_call 28; (with_reducible refine (path_route.calls k s1 rt s2 true _ HRT.out ?hGG).mono ?_); (case hGG => exact HG.out.below (pw_below_drewN HB0.out _)); rintro e' w3 ⟨v0, rfl, hR, hb3⟩; obtain ⟨Ad, cp, rfl, hle, hC⟩ := Kd.R_reads hR; have HR3 := Aside0.mk (Kd.R_lower hR (show w.heap.size ≤ _ from HB0.out.size)); have HC3 := Aside0.mk hC; have HLE := Aside0.mk hle; have BK3 := Aside0.mk (blk_below (blk_drewN BK.out _) hb3); have HB3 := Aside0.mk (then_below (pw_below_drewN HB0.out _) hb3); clear hR hC hle hb3; clear hc0 hf0 hc1 hf1 hc2 hf2 hc3 hf3 hc4 hf4; obtain ⟨hc0, hc1, hc2, hc3, hc4, hf0, hf1, hf2, hf3, hf4⟩ := five BK3.out) | (go_at_call 29; (with_reducible refine (path_ends.calls k s2 n _ HEN.out).mono ?_); rintro e' w4 ⟨rfl, hb4⟩; have BK4 := Aside0.mk (blk_below BK3.out hb4); have HB4 := Aside0.mk (then_below HB3.out hb4); have HR4 := Aside0.mk (Kd.R_below HR3.out hb4); have HC4 := Aside0.mk (Kd.C_below HC3.out hb4); clear hb4; clear hc0 hf0 hc1 hf1 hc2 hf2 hc3 hf3 hc4 hf4; obtain ⟨hc0, hc1, hc2, hc3, hc4, hf0, hf1, hf2, hf3, hf4⟩ := five BK4.out))
    refine bodyPost_ret (results_ctt rfl _ _ gb 26 #[.bool false, .bool false, .slice none 0 0, .string ⟨#[]⟩, .string ⟨#[]⟩] (0, 0) _ rfl (by exact blk5 BK4.out rfl _ _ _ _ _) Tryz.underlying26 rfl (by kernel_rfl)) rfl ⟨_, rfl, Kd.R_nil _ _ _ _ _, by exact below5 HB4.out GE.out _ _ _ _ _⟩
theorem R5 {W : World} {base g t : Nat} {cs : Array Value} {v : Value} {xs : List ByteArray} (h : Kd.R Kd.string 9 W base (fun _ => True) v xs) (hb : W.heap[g]? = some (.cells cs t (0, 0))) (ht : 9 ≠ t) (hs : cs.size = 5) (a b c d e : Value) :
    Kd.R Kd.string 9 (((((W.setCell ⟨g, 0, none⟩ a).setCell ⟨g, 1, none⟩ b).setCell ⟨g, 2, none⟩ c).setCell ⟨g, 3, none⟩ d).setCell ⟨g, 4, none⟩ e) base (fun _ => True) v xs := by
  have hq : ∀ q, q ∈ 9 :: Kd.string.E → q ≠ t := fun q hq => by
    have : q = 9 := by simpa [Kd.string, Kd.scalar] using hq
    omega
  exact Kd.R_set (Kd.R_set (Kd.R_set (Kd.R_set (Kd.R_set h hb hq 0 a) (blk_set hb 0 a) hq 1 b) (blk_set (blk_set hb 0 a) 1 b) hq 2 c) (blk_set (blk_set (blk_set hb 0 a) 1 b) 2 c) hq 3 d) (blk_set (blk_set (blk_set (blk_set hb 0 a) 1 b) 2 c) 3 d) hq 4 e
theorem R1 {W : World} {base g t : Nat} {cs : Array Value} {v : Value} {xs : List ByteArray} (h : Kd.R Kd.string 9 W base (fun _ => True) v xs) (hb : W.heap[g]? = some (.cells cs t (0, 0))) (ht : 9 ≠ t) (j : Nat) (a : Value) :
    Kd.R Kd.string 9 (W.setCell ⟨g, j, none⟩ a) base (fun _ => True) v xs :=
  Kd.R_set h hb (fun q hq => by
    have : q = 9 := by simpa [Kd.string, Kd.scalar] using hq
    omega) j a

set_option maxHeartbeats 8000000 in
set_option maxRecDepth 1000000 in
theorem parse_null_ok (k : Nat) (a0 s1 s2 : ByteArray) (rt : List ByteArray) (m : Nat) (wr : Int) (w : World) (hG : Glob w) (hcp : strings_CutPrefix.f a0 ⟨#[60]⟩ = some (s1, true)) (hrt : path_route.f k s1 = some (rt, s2, true)) (hen : path_ends.f k s2 = some (m : Int)) (hm : m < s2.size) (hs : s2.size ≤ 4294967280) (hs0 : a0.size ≤ 4294967280)
    (hdm : path_domains.f k rt = some wr) (hone : (s2.extract 0 m).toList = []) (hrl : ((rt.length : Int) == 0) = true) (hw : wr = 0) (hsz : (a0.size : Int) - ((s2.size - (m + 1) : Nat) : Int) ≤ 256) :
    Calls Tryz.prog 12 #[.string a0] w fun e w' => ∃ v2_ : Value, e = .returned (.tuple #[.agg #[.bool true, .bool false, v2_, .string ⟨#[]⟩, .string ⟨#[]⟩], .string (s2.extract (m + 1) s2.size), .int .i64 0]) ∧ Kd.R Kd.string 9 w' w.heap.size (fun _ => True) v2_ rt ∧ Below w.heap.size w w' := by
  have HCP := Aside0.mk hcp
  have HRT := Aside0.mk hrt
  have HEN := Aside0.mk hen
  have HDM := Aside0.mk hdm
  have HG := Aside0.mk hG
  clear hcp hrt hen hdm hG
  have huP := Tryz.underlying26
  have huA := Tryz.underlying24
  have hm1 : (m : Int) < (s2.size : Int) := by omega
  have hm2 : (m : Int) + 1 ≤ (s2.size : Int) := by omega
  subst hw
  have hoB : (s2.extract 0 m).toList.isEmpty = true := by rw [hone]; rfl
  go_enter Tryz.func12, Tryz.ntmps12
  go_wp2_with (first | ((with_reducible refine gate_dst (N := 2) rfl ?_); refine box_event ?hg (N := 2) ?hd (cs := #[.bool false, .bool false, .slice none 0 0, .string ⟨#[]⟩, .string ⟨#[]⟩]) (t := 26) ?hr ?_; (case hd => rfl); (case hg => rfl); (case hr => first | (go_simp; done) | (go_simp; rfl)); intro gb hg w2 hbox hb; have HB0 := Aside0.mk hb; have BK := Aside0.mk hbox; have GE := Aside0.mk (Nat.le_of_eq hg.symm); clear hb hbox hg; obtain ⟨hc0, hc1, hc2, hc3, hc4, hf0, hf1, hf2, hf3, hf4⟩ := five BK.out) | (go_at_call 27; (with_reducible refine (strings_CutPrefix.calls a0 ⟨#[60]⟩ s1 true _ HCP.out).mono ?_); rintro e' w' ⟨rfl, ⟨nd, rfl⟩⟩) | (go_at_call 28; (with_reducible refine (path_route.calls k s1 rt s2 true _ HRT.out ?hGG).mono ?_); (case hGG => exact HG.out.below (pw_below_drewN HB0.out _)); rintro e' w3 ⟨v0, rfl, hR, hb3⟩; obtain ⟨Ad, cp, rfl, hle, hC⟩ := Kd.R_reads hR; have HR3 := Aside0.mk (Kd.R_lower hR (show w.heap.size ≤ _ from HB0.out.size)); have HC3 := Aside0.mk hC; have HLE := Aside0.mk hle; have BK3 := Aside0.mk (blk_below (blk_drewN BK.out _) hb3); have HB3 := Aside0.mk (then_below (pw_below_drewN HB0.out _) hb3); clear hR hC hle hb3; clear hc0 hf0 hc1 hf1 hc2 hf2 hc3 hf3 hc4 hf4; obtain ⟨hc0, hc1, hc2, hc3, hc4, hf0, hf1, hf2, hf3, hf4⟩ := five BK3.out) | (go_at_call 29; (with_reducible refine (path_ends.calls k s2 (m : Int) _ HEN.out).mono ?_); rintro e' w4 ⟨rfl, hb4⟩; have BK4 := Aside0.mk (blk_below BK3.out hb4); have HB4 := Aside0.mk (then_below HB3.out hb4); have HR4 := Aside0.mk (Kd.R_below HR3.out hb4); have HC4 := Aside0.mk (Kd.C_below HC3.out hb4); clear hb4; clear hc0 hf0 hc1 hf1 hc2 hf2 hc3 hf3 hc4 hf4; obtain ⟨hc0, hc1, hc2, hc3, hc4, hf0, hf1, hf2, hf3, hf4⟩ := five BK4.out))
  go_region
  have hb5 : Below w4.heap.size w4 (w4.alloc (.cells #[.bool false, .bool false, .slice Ad rt.length cp, .string ⟨#[]⟩, .string ⟨#[]⟩] 26)).drew := below_drew (below_alloc (Below.refl _ _) _); have BK5 := Aside0.mk (blk_below BK4.out hb5); have BP5 := Aside0.mk (show (w4.alloc (.cells #[.bool false, .bool false, .slice Ad rt.length cp, .string ⟨#[]⟩, .string ⟨#[]⟩] 26)).drew.heap[w4.heap.size]? = some (.cells #[.bool false, .bool false, .slice Ad rt.length cp, .string ⟨#[]⟩, .string ⟨#[]⟩] 26 (0, 0)) from blk_drew (blk_new _ _)); have HB5 := Aside0.mk (then_below HB4.out hb5); have HR5 := Aside0.mk (Kd.R_below HR4.out hb5); have HC5 := Aside0.mk (Kd.C_below HC4.out hb5); have GP := Aside0.mk HB4.out.size; have hne : gb ≠ w4.heap.size := Nat.ne_of_lt (blk_lt BK4.out); have hne2 : w4.heap.size ≠ gb := fun h => hne h.symm; clear hb5 HR4 HC4 hc0 hf0 hc1 hf1 hc2 hf2 hc3 hf3 hc4 hf4; generalize (w4.alloc (.cells #[.bool false, .bool false, .slice Ad rt.length cp, .string ⟨#[]⟩, .string ⟨#[]⟩] 26)).drew = w5 at BK5 BP5 HB5 HR5 HC5 ⊢; clear BK4 HB4; generalize w4.heap.size = gp at BP5 GP hne hne2 ⊢; obtain ⟨hc0, hc1, hc2, hc3, hc4, hf0, hf1, hf2, hf3, hf4⟩ := five BK5.out; obtain ⟨pc0, pc1, pc2, pc3, pc4, pf0, pf1, pf2, pf3, pf4⟩ := five BP5.out
  go_wp2_with (first | (go_at_call 30; (with_reducible refine (path_domains.calls k Ad cp rt 0 _ HC5.out HLE.out HDM.out ?hGG).mono ?_); (case hGG => exact HG.out.below HB5.out); rintro e' w6 ⟨rfl, hb6⟩; have BK6 := Aside0.mk (blk_below BK5.out hb6); have BP6 := Aside0.mk (blk_below BP5.out hb6); have HB6 := Aside0.mk (then_below HB5.out hb6); have HR6 := Aside0.mk (Kd.R_below HR5.out hb6); have HC6 := Aside0.mk (Kd.C_below HC5.out hb6); clear hb6; clear hc0 hf0 hc1 hf1 hc2 hf2 hc3 hf3 hc4 hf4; clear pc0 pf0 pc1 pf1 pc2 pf2 pc3 pf3 pc4 pf4; obtain ⟨hc0, hc1, hc2, hc3, hc4, hf0, hf1, hf2, hf3, hf4⟩ := five BK6.out; obtain ⟨pc0, pc1, pc2, pc3, pc4, pf0, pf1, pf2, pf3, pf4⟩ := five BP6.out))
  refine bodyPost_ret (results_ctt rfl _ _ gb 26 #[.bool true, .bool false, .slice Ad rt.length cp, .string ⟨#[]⟩, .string ⟨#[]⟩] (0, 0) _ rfl (by exact blk5 (blk_far BK6.out (by exact hne) _) rfl _ _ _ _ _) Tryz.underlying26 rfl (by kernel_rfl)) rfl ⟨_, rfl, by exact R5 (R1 HR6.out BP6.out (by decide) 0 _) (blk_far BK6.out (by exact hne) _) (by decide) rfl _ _ _ _ _, by exact below5 (below_set HB6.out GP.out) GE.out _ _ _ _ _⟩

set_option maxHeartbeats 8000000 in
set_option maxRecDepth 1000000 in
theorem parse_null_lw (k : Nat) (a0 s1 s2 : ByteArray) (rt : List ByteArray) (m : Nat) (wr : Int) (w : World) (hG : Glob w) (hcp : strings_CutPrefix.f a0 ⟨#[60]⟩ = some (s1, true)) (hrt : path_route.f k s1 = some (rt, s2, true)) (hen : path_ends.f k s2 = some (m : Int)) (hm : m < s2.size) (hs : s2.size ≤ 4294967280) (hs0 : a0.size ≤ 4294967280)
    (hdm : path_domains.f k rt = some wr) (hone : (s2.extract 0 m).toList = []) (hrl : ((rt.length : Int) == 0) = true) (hw : (wr != 0) = true) :
    Calls Tryz.prog 12 #[.string a0] w fun e w' => ∃ v2_ : Value, e = .returned (.tuple #[.agg #[.bool false, .bool false, v2_, .string ⟨#[]⟩, .string ⟨#[]⟩], .string ⟨#[]⟩, .int .i64 3]) ∧ Kd.R Kd.string 9 w' w.heap.size (fun _ => True) v2_ [] ∧ Below w.heap.size w w' := by
  have HCP := Aside0.mk hcp
  have HRT := Aside0.mk hrt
  have HEN := Aside0.mk hen
  have HDM := Aside0.mk hdm
  have HG := Aside0.mk hG
  clear hcp hrt hen hdm hG
  have huP := Tryz.underlying26
  have huA := Tryz.underlying24
  have hm1 : (m : Int) < (s2.size : Int) := by omega
  have hm2 : (m : Int) + 1 ≤ (s2.size : Int) := by omega
  have hoB : (s2.extract 0 m).toList.isEmpty = true := by rw [hone]; rfl
  go_enter Tryz.func12, Tryz.ntmps12
  go_wp2_with (first | ((with_reducible refine gate_dst (N := 2) rfl ?_); refine box_event ?hg (N := 2) ?hd (cs := #[.bool false, .bool false, .slice none 0 0, .string ⟨#[]⟩, .string ⟨#[]⟩]) (t := 26) ?hr ?_; (case hd => rfl); (case hg => rfl); (case hr => first | (go_simp; done) | (go_simp; rfl)); intro gb hg w2 hbox hb; have HB0 := Aside0.mk hb; have BK := Aside0.mk hbox; have GE := Aside0.mk (Nat.le_of_eq hg.symm); clear hb hbox hg; obtain ⟨hc0, hc1, hc2, hc3, hc4, hf0, hf1, hf2, hf3, hf4⟩ := five BK.out) | (go_at_call 27; (with_reducible refine (strings_CutPrefix.calls a0 ⟨#[60]⟩ s1 true _ HCP.out).mono ?_); rintro e' w' ⟨rfl, ⟨nd, rfl⟩⟩) | (go_at_call 28; (with_reducible refine (path_route.calls k s1 rt s2 true _ HRT.out ?hGG).mono ?_); (case hGG => exact HG.out.below (pw_below_drewN HB0.out _)); rintro e' w3 ⟨v0, rfl, hR, hb3⟩; obtain ⟨Ad, cp, rfl, hle, hC⟩ := Kd.R_reads hR; have HR3 := Aside0.mk (Kd.R_lower hR (show w.heap.size ≤ _ from HB0.out.size)); have HC3 := Aside0.mk hC; have HLE := Aside0.mk hle; have BK3 := Aside0.mk (blk_below (blk_drewN BK.out _) hb3); have HB3 := Aside0.mk (then_below (pw_below_drewN HB0.out _) hb3); clear hR hC hle hb3; clear hc0 hf0 hc1 hf1 hc2 hf2 hc3 hf3 hc4 hf4; obtain ⟨hc0, hc1, hc2, hc3, hc4, hf0, hf1, hf2, hf3, hf4⟩ := five BK3.out) | (go_at_call 29; (with_reducible refine (path_ends.calls k s2 (m : Int) _ HEN.out).mono ?_); rintro e' w4 ⟨rfl, hb4⟩; have BK4 := Aside0.mk (blk_below BK3.out hb4); have HB4 := Aside0.mk (then_below HB3.out hb4); have HR4 := Aside0.mk (Kd.R_below HR3.out hb4); have HC4 := Aside0.mk (Kd.C_below HC3.out hb4); clear hb4; clear hc0 hf0 hc1 hf1 hc2 hf2 hc3 hf3 hc4 hf4; obtain ⟨hc0, hc1, hc2, hc3, hc4, hf0, hf1, hf2, hf3, hf4⟩ := five BK4.out))
  go_region
  have hb5 : Below w4.heap.size w4 (w4.alloc (.cells #[.bool false, .bool false, .slice Ad rt.length cp, .string ⟨#[]⟩, .string ⟨#[]⟩] 26)).drew := below_drew (below_alloc (Below.refl _ _) _); have BK5 := Aside0.mk (blk_below BK4.out hb5); have BP5 := Aside0.mk (show (w4.alloc (.cells #[.bool false, .bool false, .slice Ad rt.length cp, .string ⟨#[]⟩, .string ⟨#[]⟩] 26)).drew.heap[w4.heap.size]? = some (.cells #[.bool false, .bool false, .slice Ad rt.length cp, .string ⟨#[]⟩, .string ⟨#[]⟩] 26 (0, 0)) from blk_drew (blk_new _ _)); have HB5 := Aside0.mk (then_below HB4.out hb5); have HR5 := Aside0.mk (Kd.R_below HR4.out hb5); have HC5 := Aside0.mk (Kd.C_below HC4.out hb5); have GP := Aside0.mk HB4.out.size; have hne : gb ≠ w4.heap.size := Nat.ne_of_lt (blk_lt BK4.out); have hne2 : w4.heap.size ≠ gb := fun h => hne h.symm; clear hb5 HR4 HC4 hc0 hf0 hc1 hf1 hc2 hf2 hc3 hf3 hc4 hf4; generalize (w4.alloc (.cells #[.bool false, .bool false, .slice Ad rt.length cp, .string ⟨#[]⟩, .string ⟨#[]⟩] 26)).drew = w5 at BK5 BP5 HB5 HR5 HC5 ⊢; clear BK4 HB4; generalize w4.heap.size = gp at BP5 GP hne hne2 ⊢; obtain ⟨hc0, hc1, hc2, hc3, hc4, hf0, hf1, hf2, hf3, hf4⟩ := five BK5.out; obtain ⟨pc0, pc1, pc2, pc3, pc4, pf0, pf1, pf2, pf3, pf4⟩ := five BP5.out
  go_wp2_with (first | (go_at_call 30; (with_reducible refine (path_domains.calls k Ad cp rt wr _ HC5.out HLE.out HDM.out ?hGG).mono ?_); (case hGG => exact HG.out.below HB5.out); rintro e' w6 ⟨rfl, hb6⟩; have BK6 := Aside0.mk (blk_below BK5.out hb6); have BP6 := Aside0.mk (blk_below BP5.out hb6); have HB6 := Aside0.mk (then_below HB5.out hb6); have HR6 := Aside0.mk (Kd.R_below HR5.out hb6); have HC6 := Aside0.mk (Kd.C_below HC5.out hb6); clear hb6; clear hc0 hf0 hc1 hf1 hc2 hf2 hc3 hf3 hc4 hf4; clear pc0 pf0 pc1 pf1 pc2 pf2 pc3 pf3 pc4 pf4; obtain ⟨hc0, hc1, hc2, hc3, hc4, hf0, hf1, hf2, hf3, hf4⟩ := five BK6.out; obtain ⟨pc0, pc1, pc2, pc3, pc4, pf0, pf1, pf2, pf3, pf4⟩ := five BP6.out))
  refine bodyPost_ret (results_ctt rfl _ _ gb 26 #[.bool false, .bool false, .slice none 0 0, .string ⟨#[]⟩, .string ⟨#[]⟩] (0, 0) _ rfl (by exact blk5 (blk_far BK6.out (by exact hne) _) rfl _ _ _ _ _) Tryz.underlying26 rfl (by kernel_rfl)) rfl ⟨_, rfl, Kd.R_nil _ _ _ _ _, by exact below5 (below_set HB6.out GP.out) GE.out _ _ _ _ _⟩

set_option maxHeartbeats 8000000 in
set_option maxRecDepth 1000000 in
theorem parse_null_ls (k : Nat) (a0 s1 s2 : ByteArray) (rt : List ByteArray) (m : Nat) (wr : Int) (w : World) (hG : Glob w) (hcp : strings_CutPrefix.f a0 ⟨#[60]⟩ = some (s1, true)) (hrt : path_route.f k s1 = some (rt, s2, true)) (hen : path_ends.f k s2 = some (m : Int)) (hm : m < s2.size) (hs : s2.size ≤ 4294967280) (hs0 : a0.size ≤ 4294967280)
    (hdm : path_domains.f k rt = some wr) (hone : (s2.extract 0 m).toList = []) (hrl : ((rt.length : Int) == 0) = true) (hw : wr = 0) (hsz : 256 < (a0.size : Int) - ((s2.size - (m + 1) : Nat) : Int)) :
    Calls Tryz.prog 12 #[.string a0] w fun e w' => ∃ v2_ : Value, e = .returned (.tuple #[.agg #[.bool false, .bool false, v2_, .string ⟨#[]⟩, .string ⟨#[]⟩], .string ⟨#[]⟩, .int .i64 3]) ∧ Kd.R Kd.string 9 w' w.heap.size (fun _ => True) v2_ [] ∧ Below w.heap.size w w' := by
  have HCP := Aside0.mk hcp
  have HRT := Aside0.mk hrt
  have HEN := Aside0.mk hen
  have HDM := Aside0.mk hdm
  have HG := Aside0.mk hG
  clear hcp hrt hen hdm hG
  have huP := Tryz.underlying26
  have huA := Tryz.underlying24
  have hm1 : (m : Int) < (s2.size : Int) := by omega
  have hm2 : (m : Int) + 1 ≤ (s2.size : Int) := by omega
  subst hw
  have hoB : (s2.extract 0 m).toList.isEmpty = true := by rw [hone]; rfl
  go_enter Tryz.func12, Tryz.ntmps12
  go_wp2_with (first | ((with_reducible refine gate_dst (N := 2) rfl ?_); refine box_event ?hg (N := 2) ?hd (cs := #[.bool false, .bool false, .slice none 0 0, .string ⟨#[]⟩, .string ⟨#[]⟩]) (t := 26) ?hr ?_; (case hd => rfl); (case hg => rfl); (case hr => first | (go_simp; done) | (go_simp; rfl)); intro gb hg w2 hbox hb; have HB0 := Aside0.mk hb; have BK := Aside0.mk hbox; have GE := Aside0.mk (Nat.le_of_eq hg.symm); clear hb hbox hg; obtain ⟨hc0, hc1, hc2, hc3, hc4, hf0, hf1, hf2, hf3, hf4⟩ := five BK.out) | (go_at_call 27; (with_reducible refine (strings_CutPrefix.calls a0 ⟨#[60]⟩ s1 true _ HCP.out).mono ?_); rintro e' w' ⟨rfl, ⟨nd, rfl⟩⟩) | (go_at_call 28; (with_reducible refine (path_route.calls k s1 rt s2 true _ HRT.out ?hGG).mono ?_); (case hGG => exact HG.out.below (pw_below_drewN HB0.out _)); rintro e' w3 ⟨v0, rfl, hR, hb3⟩; obtain ⟨Ad, cp, rfl, hle, hC⟩ := Kd.R_reads hR; have HR3 := Aside0.mk (Kd.R_lower hR (show w.heap.size ≤ _ from HB0.out.size)); have HC3 := Aside0.mk hC; have HLE := Aside0.mk hle; have BK3 := Aside0.mk (blk_below (blk_drewN BK.out _) hb3); have HB3 := Aside0.mk (then_below (pw_below_drewN HB0.out _) hb3); clear hR hC hle hb3; clear hc0 hf0 hc1 hf1 hc2 hf2 hc3 hf3 hc4 hf4; obtain ⟨hc0, hc1, hc2, hc3, hc4, hf0, hf1, hf2, hf3, hf4⟩ := five BK3.out) | (go_at_call 29; (with_reducible refine (path_ends.calls k s2 (m : Int) _ HEN.out).mono ?_); rintro e' w4 ⟨rfl, hb4⟩; have BK4 := Aside0.mk (blk_below BK3.out hb4); have HB4 := Aside0.mk (then_below HB3.out hb4); have HR4 := Aside0.mk (Kd.R_below HR3.out hb4); have HC4 := Aside0.mk (Kd.C_below HC3.out hb4); clear hb4; clear hc0 hf0 hc1 hf1 hc2 hf2 hc3 hf3 hc4 hf4; obtain ⟨hc0, hc1, hc2, hc3, hc4, hf0, hf1, hf2, hf3, hf4⟩ := five BK4.out))
  go_region
  have hb5 : Below w4.heap.size w4 (w4.alloc (.cells #[.bool false, .bool false, .slice Ad rt.length cp, .string ⟨#[]⟩, .string ⟨#[]⟩] 26)).drew := below_drew (below_alloc (Below.refl _ _) _); have BK5 := Aside0.mk (blk_below BK4.out hb5); have BP5 := Aside0.mk (show (w4.alloc (.cells #[.bool false, .bool false, .slice Ad rt.length cp, .string ⟨#[]⟩, .string ⟨#[]⟩] 26)).drew.heap[w4.heap.size]? = some (.cells #[.bool false, .bool false, .slice Ad rt.length cp, .string ⟨#[]⟩, .string ⟨#[]⟩] 26 (0, 0)) from blk_drew (blk_new _ _)); have HB5 := Aside0.mk (then_below HB4.out hb5); have HR5 := Aside0.mk (Kd.R_below HR4.out hb5); have HC5 := Aside0.mk (Kd.C_below HC4.out hb5); have GP := Aside0.mk HB4.out.size; have hne : gb ≠ w4.heap.size := Nat.ne_of_lt (blk_lt BK4.out); have hne2 : w4.heap.size ≠ gb := fun h => hne h.symm; clear hb5 HR4 HC4 hc0 hf0 hc1 hf1 hc2 hf2 hc3 hf3 hc4 hf4; generalize (w4.alloc (.cells #[.bool false, .bool false, .slice Ad rt.length cp, .string ⟨#[]⟩, .string ⟨#[]⟩] 26)).drew = w5 at BK5 BP5 HB5 HR5 HC5 ⊢; clear BK4 HB4; generalize w4.heap.size = gp at BP5 GP hne hne2 ⊢; obtain ⟨hc0, hc1, hc2, hc3, hc4, hf0, hf1, hf2, hf3, hf4⟩ := five BK5.out; obtain ⟨pc0, pc1, pc2, pc3, pc4, pf0, pf1, pf2, pf3, pf4⟩ := five BP5.out
  go_wp2_with (first | (go_at_call 30; (with_reducible refine (path_domains.calls k Ad cp rt 0 _ HC5.out HLE.out HDM.out ?hGG).mono ?_); (case hGG => exact HG.out.below HB5.out); rintro e' w6 ⟨rfl, hb6⟩; have BK6 := Aside0.mk (blk_below BK5.out hb6); have BP6 := Aside0.mk (blk_below BP5.out hb6); have HB6 := Aside0.mk (then_below HB5.out hb6); have HR6 := Aside0.mk (Kd.R_below HR5.out hb6); have HC6 := Aside0.mk (Kd.C_below HC5.out hb6); clear hb6; clear hc0 hf0 hc1 hf1 hc2 hf2 hc3 hf3 hc4 hf4; clear pc0 pf0 pc1 pf1 pc2 pf2 pc3 pf3 pc4 pf4; obtain ⟨hc0, hc1, hc2, hc3, hc4, hf0, hf1, hf2, hf3, hf4⟩ := five BK6.out; obtain ⟨pc0, pc1, pc2, pc3, pc4, pf0, pf1, pf2, pf3, pf4⟩ := five BP6.out))
  refine bodyPost_ret (results_ctt rfl _ _ gb 26 #[.bool false, .bool false, .slice none 0 0, .string ⟨#[]⟩, .string ⟨#[]⟩] (0, 0) _ rfl (by exact blk5 (blk_far BK6.out (by exact hne) _) rfl _ _ _ _ _) Tryz.underlying26 rfl (by kernel_rfl)) rfl ⟨_, rfl, Kd.R_nil _ _ _ _ _, by exact below5 (below_set HB6.out GP.out) GE.out _ _ _ _ _⟩

set_option maxHeartbeats 8000000 in
set_option maxRecDepth 1000000 in
theorem parse_post_ok (k : Nat) (a0 s1 s2 : ByteArray) (rt : List ByteArray) (m : Nat) (wr : Int) (w : World) (hG : Glob w) (hcp : strings_CutPrefix.f a0 ⟨#[60]⟩ = some (s1, true)) (hrt : path_route.f k s1 = some (rt, s2, true)) (hen : path_ends.f k s2 = some (m : Int)) (hm : m < s2.size) (hs : s2.size ≤ 4294967280) (hs0 : a0.size ≤ 4294967280)
    (hdm : path_domains.f k rt = some wr) (hone : ((s2.extract 0 m).toList.isEmpty && ((rt.length : Int) == 0)) = false) (hrl : ((rt.length : Int) == 0) = true) (hsm : text_Same.f (s2.extract 0 m) master = some true) (hw : wr = 0) (hsz : (a0.size : Int) - ((s2.size - (m + 1) : Nat) : Int) ≤ 256) :
    Calls Tryz.prog 12 #[.string a0] w fun e w' => ∃ v2_ : Value, e = .returned (.tuple #[.agg #[.bool false, .bool true, v2_, .string ⟨#[]⟩, .string ⟨#[]⟩], .string (s2.extract (m + 1) s2.size), .int .i64 0]) ∧ Kd.R Kd.string 9 w' w.heap.size (fun _ => True) v2_ rt ∧ Below w.heap.size w w' := by
  have HCP := Aside0.mk hcp
  have HRT := Aside0.mk hrt
  have HEN := Aside0.mk hen
  have HDM := Aside0.mk hdm
  have HG := Aside0.mk hG
  clear hcp hrt hen hdm hG
  have huP := Tryz.underlying26
  have huA := Tryz.underlying24
  have hm1 : (m : Int) < (s2.size : Int) := by omega
  have hm2 : (m : Int) + 1 ≤ (s2.size : Int) := by omega
  subst hw
  have hoB : (s2.extract 0 m).toList.isEmpty = false := by simpa [hrl] using hone
  have hoC : ¬ (s2.extract 0 m).toList = [] := by simpa using hoB
  have HSM := Aside0.mk hsm
  unfold master at HSM
  clear hsm hone
  go_enter Tryz.func12, Tryz.ntmps12
  go_wp2_with (first | ((with_reducible refine gate_dst (N := 2) rfl ?_); refine box_event ?hg (N := 2) ?hd (cs := #[.bool false, .bool false, .slice none 0 0, .string ⟨#[]⟩, .string ⟨#[]⟩]) (t := 26) ?hr ?_; (case hd => rfl); (case hg => rfl); (case hr => first | (go_simp; done) | (go_simp; rfl)); intro gb hg w2 hbox hb; have HB0 := Aside0.mk hb; have BK := Aside0.mk hbox; have GE := Aside0.mk (Nat.le_of_eq hg.symm); clear hb hbox hg; obtain ⟨hc0, hc1, hc2, hc3, hc4, hf0, hf1, hf2, hf3, hf4⟩ := five BK.out) | (go_at_call 27; (with_reducible refine (strings_CutPrefix.calls a0 ⟨#[60]⟩ s1 true _ HCP.out).mono ?_); rintro e' w' ⟨rfl, ⟨nd, rfl⟩⟩) | (go_at_call 28; (with_reducible refine (path_route.calls k s1 rt s2 true _ HRT.out ?hGG).mono ?_); (case hGG => exact HG.out.below (pw_below_drewN HB0.out _)); rintro e' w3 ⟨v0, rfl, hR, hb3⟩; obtain ⟨Ad, cp, rfl, hle, hC⟩ := Kd.R_reads hR; have HR3 := Aside0.mk (Kd.R_lower hR (show w.heap.size ≤ _ from HB0.out.size)); have HC3 := Aside0.mk hC; have HLE := Aside0.mk hle; have BK3 := Aside0.mk (blk_below (blk_drewN BK.out _) hb3); have HB3 := Aside0.mk (then_below (pw_below_drewN HB0.out _) hb3); clear hR hC hle hb3; clear hc0 hf0 hc1 hf1 hc2 hf2 hc3 hf3 hc4 hf4; obtain ⟨hc0, hc1, hc2, hc3, hc4, hf0, hf1, hf2, hf3, hf4⟩ := five BK3.out) | (go_at_call 29; (with_reducible refine (path_ends.calls k s2 (m : Int) _ HEN.out).mono ?_); rintro e' w4 ⟨rfl, hb4⟩; have BK4 := Aside0.mk (blk_below BK3.out hb4); have HB4 := Aside0.mk (then_below HB3.out hb4); have HR4 := Aside0.mk (Kd.R_below HR3.out hb4); have HC4 := Aside0.mk (Kd.C_below HC3.out hb4); clear hb4; clear hc0 hf0 hc1 hf1 hc2 hf2 hc3 hf3 hc4 hf4; obtain ⟨hc0, hc1, hc2, hc3, hc4, hf0, hf1, hf2, hf3, hf4⟩ := five BK4.out))
  go_region
  have hb5 : Below w4.heap.size w4 (w4.alloc (.cells #[.bool false, .bool false, .slice Ad rt.length cp, .string ⟨#[]⟩, .string ⟨#[]⟩] 26)).drew := below_drew (below_alloc (Below.refl _ _) _); have BK5 := Aside0.mk (blk_below BK4.out hb5); have BP5 := Aside0.mk (show (w4.alloc (.cells #[.bool false, .bool false, .slice Ad rt.length cp, .string ⟨#[]⟩, .string ⟨#[]⟩] 26)).drew.heap[w4.heap.size]? = some (.cells #[.bool false, .bool false, .slice Ad rt.length cp, .string ⟨#[]⟩, .string ⟨#[]⟩] 26 (0, 0)) from blk_drew (blk_new _ _)); have HB5 := Aside0.mk (then_below HB4.out hb5); have HR5 := Aside0.mk (Kd.R_below HR4.out hb5); have HC5 := Aside0.mk (Kd.C_below HC4.out hb5); have GP := Aside0.mk HB4.out.size; have hne : gb ≠ w4.heap.size := Nat.ne_of_lt (blk_lt BK4.out); have hne2 : w4.heap.size ≠ gb := fun h => hne h.symm; clear hb5 HR4 HC4 hc0 hf0 hc1 hf1 hc2 hf2 hc3 hf3 hc4 hf4; generalize (w4.alloc (.cells #[.bool false, .bool false, .slice Ad rt.length cp, .string ⟨#[]⟩, .string ⟨#[]⟩] 26)).drew = w5 at BK5 BP5 HB5 HR5 HC5 ⊢; clear BK4 HB4; generalize w4.heap.size = gp at BP5 GP hne hne2 ⊢; obtain ⟨hc0, hc1, hc2, hc3, hc4, hf0, hf1, hf2, hf3, hf4⟩ := five BK5.out; obtain ⟨pc0, pc1, pc2, pc3, pc4, pf0, pf1, pf2, pf3, pf4⟩ := five BP5.out
  go_wp2_with (first | (go_at_call 30; (with_reducible refine (path_domains.calls k Ad cp rt 0 _ HC5.out HLE.out HDM.out ?hGG).mono ?_); (case hGG => exact HG.out.below HB5.out); rintro e' w6 ⟨rfl, hb6⟩; have BK6 := Aside0.mk (blk_below BK5.out hb6); have BP6 := Aside0.mk (blk_below BP5.out hb6); have HB6 := Aside0.mk (then_below HB5.out hb6); have HR6 := Aside0.mk (Kd.R_below HR5.out hb6); have HC6 := Aside0.mk (Kd.C_below HC5.out hb6); clear hb6; clear hc0 hf0 hc1 hf1 hc2 hf2 hc3 hf3 hc4 hf4; clear pc0 pf0 pc1 pf1 pc2 pf2 pc3 pf3 pc4 pf4; obtain ⟨hc0, hc1, hc2, hc3, hc4, hf0, hf1, hf2, hf3, hf4⟩ := five BK6.out; obtain ⟨pc0, pc1, pc2, pc3, pc4, pf0, pf1, pf2, pf3, pf4⟩ := five BP6.out) | (go_at_call 31; (with_reducible refine (text_Same.calls (s2.extract 0 m) ⟨#[112, 111, 115, 116, 109, 97, 115, 116, 101, 114]⟩ true _ HSM.out).mono ?_); rintro e' w7 ⟨rfl, hb7⟩; have BK7 := Aside0.mk (blk_below BK6.out hb7); have BP7 := Aside0.mk (blk_below BP6.out hb7); have HB7 := Aside0.mk (then_below HB6.out hb7); have HR7 := Aside0.mk (Kd.R_below HR6.out hb7); have HC7 := Aside0.mk (Kd.C_below HC6.out hb7); clear hb7; clear hc0 hf0 hc1 hf1 hc2 hf2 hc3 hf3 hc4 hf4; clear pc0 pf0 pc1 pf1 pc2 pf2 pc3 pf3 pc4 pf4; obtain ⟨hc0, hc1, hc2, hc3, hc4, hf0, hf1, hf2, hf3, hf4⟩ := five BK7.out; obtain ⟨pc0, pc1, pc2, pc3, pc4, pf0, pf1, pf2, pf3, pf4⟩ := five BP7.out))
  refine bodyPost_ret (results_ctt rfl _ _ gb 26 #[.bool false, .bool true, .slice Ad rt.length cp, .string ⟨#[]⟩, .string ⟨#[]⟩] (0, 0) _ rfl (by exact blk5 (blk_far BK7.out (by exact hne) _) rfl _ _ _ _ _) Tryz.underlying26 rfl (by kernel_rfl)) rfl ⟨_, rfl, by exact R5 (R1 HR7.out BP7.out (by decide) 1 _) (blk_far BK7.out (by exact hne) _) (by decide) rfl _ _ _ _ _, by exact below5 (below_set HB7.out GP.out) GE.out _ _ _ _ _⟩

set_option maxHeartbeats 8000000 in
set_option maxRecDepth 1000000 in
theorem parse_post_lw (k : Nat) (a0 s1 s2 : ByteArray) (rt : List ByteArray) (m : Nat) (wr : Int) (w : World) (hG : Glob w) (hcp : strings_CutPrefix.f a0 ⟨#[60]⟩ = some (s1, true)) (hrt : path_route.f k s1 = some (rt, s2, true)) (hen : path_ends.f k s2 = some (m : Int)) (hm : m < s2.size) (hs : s2.size ≤ 4294967280) (hs0 : a0.size ≤ 4294967280)
    (hdm : path_domains.f k rt = some wr) (hone : ((s2.extract 0 m).toList.isEmpty && ((rt.length : Int) == 0)) = false) (hrl : ((rt.length : Int) == 0) = true) (hsm : text_Same.f (s2.extract 0 m) master = some true) (hw : (wr != 0) = true) :
    Calls Tryz.prog 12 #[.string a0] w fun e w' => ∃ v2_ : Value, e = .returned (.tuple #[.agg #[.bool false, .bool false, v2_, .string ⟨#[]⟩, .string ⟨#[]⟩], .string ⟨#[]⟩, .int .i64 3]) ∧ Kd.R Kd.string 9 w' w.heap.size (fun _ => True) v2_ [] ∧ Below w.heap.size w w' := by
  have HCP := Aside0.mk hcp
  have HRT := Aside0.mk hrt
  have HEN := Aside0.mk hen
  have HDM := Aside0.mk hdm
  have HG := Aside0.mk hG
  clear hcp hrt hen hdm hG
  have huP := Tryz.underlying26
  have huA := Tryz.underlying24
  have hm1 : (m : Int) < (s2.size : Int) := by omega
  have hm2 : (m : Int) + 1 ≤ (s2.size : Int) := by omega
  have hoB : (s2.extract 0 m).toList.isEmpty = false := by simpa [hrl] using hone
  have hoC : ¬ (s2.extract 0 m).toList = [] := by simpa using hoB
  have HSM := Aside0.mk hsm
  unfold master at HSM
  clear hsm hone
  go_enter Tryz.func12, Tryz.ntmps12
  go_wp2_with (first | ((with_reducible refine gate_dst (N := 2) rfl ?_); refine box_event ?hg (N := 2) ?hd (cs := #[.bool false, .bool false, .slice none 0 0, .string ⟨#[]⟩, .string ⟨#[]⟩]) (t := 26) ?hr ?_; (case hd => rfl); (case hg => rfl); (case hr => first | (go_simp; done) | (go_simp; rfl)); intro gb hg w2 hbox hb; have HB0 := Aside0.mk hb; have BK := Aside0.mk hbox; have GE := Aside0.mk (Nat.le_of_eq hg.symm); clear hb hbox hg; obtain ⟨hc0, hc1, hc2, hc3, hc4, hf0, hf1, hf2, hf3, hf4⟩ := five BK.out) | (go_at_call 27; (with_reducible refine (strings_CutPrefix.calls a0 ⟨#[60]⟩ s1 true _ HCP.out).mono ?_); rintro e' w' ⟨rfl, ⟨nd, rfl⟩⟩) | (go_at_call 28; (with_reducible refine (path_route.calls k s1 rt s2 true _ HRT.out ?hGG).mono ?_); (case hGG => exact HG.out.below (pw_below_drewN HB0.out _)); rintro e' w3 ⟨v0, rfl, hR, hb3⟩; obtain ⟨Ad, cp, rfl, hle, hC⟩ := Kd.R_reads hR; have HR3 := Aside0.mk (Kd.R_lower hR (show w.heap.size ≤ _ from HB0.out.size)); have HC3 := Aside0.mk hC; have HLE := Aside0.mk hle; have BK3 := Aside0.mk (blk_below (blk_drewN BK.out _) hb3); have HB3 := Aside0.mk (then_below (pw_below_drewN HB0.out _) hb3); clear hR hC hle hb3; clear hc0 hf0 hc1 hf1 hc2 hf2 hc3 hf3 hc4 hf4; obtain ⟨hc0, hc1, hc2, hc3, hc4, hf0, hf1, hf2, hf3, hf4⟩ := five BK3.out) | (go_at_call 29; (with_reducible refine (path_ends.calls k s2 (m : Int) _ HEN.out).mono ?_); rintro e' w4 ⟨rfl, hb4⟩; have BK4 := Aside0.mk (blk_below BK3.out hb4); have HB4 := Aside0.mk (then_below HB3.out hb4); have HR4 := Aside0.mk (Kd.R_below HR3.out hb4); have HC4 := Aside0.mk (Kd.C_below HC3.out hb4); clear hb4; clear hc0 hf0 hc1 hf1 hc2 hf2 hc3 hf3 hc4 hf4; obtain ⟨hc0, hc1, hc2, hc3, hc4, hf0, hf1, hf2, hf3, hf4⟩ := five BK4.out))
  go_region
  have hb5 : Below w4.heap.size w4 (w4.alloc (.cells #[.bool false, .bool false, .slice Ad rt.length cp, .string ⟨#[]⟩, .string ⟨#[]⟩] 26)).drew := below_drew (below_alloc (Below.refl _ _) _); have BK5 := Aside0.mk (blk_below BK4.out hb5); have BP5 := Aside0.mk (show (w4.alloc (.cells #[.bool false, .bool false, .slice Ad rt.length cp, .string ⟨#[]⟩, .string ⟨#[]⟩] 26)).drew.heap[w4.heap.size]? = some (.cells #[.bool false, .bool false, .slice Ad rt.length cp, .string ⟨#[]⟩, .string ⟨#[]⟩] 26 (0, 0)) from blk_drew (blk_new _ _)); have HB5 := Aside0.mk (then_below HB4.out hb5); have HR5 := Aside0.mk (Kd.R_below HR4.out hb5); have HC5 := Aside0.mk (Kd.C_below HC4.out hb5); have GP := Aside0.mk HB4.out.size; have hne : gb ≠ w4.heap.size := Nat.ne_of_lt (blk_lt BK4.out); have hne2 : w4.heap.size ≠ gb := fun h => hne h.symm; clear hb5 HR4 HC4 hc0 hf0 hc1 hf1 hc2 hf2 hc3 hf3 hc4 hf4; generalize (w4.alloc (.cells #[.bool false, .bool false, .slice Ad rt.length cp, .string ⟨#[]⟩, .string ⟨#[]⟩] 26)).drew = w5 at BK5 BP5 HB5 HR5 HC5 ⊢; clear BK4 HB4; generalize w4.heap.size = gp at BP5 GP hne hne2 ⊢; obtain ⟨hc0, hc1, hc2, hc3, hc4, hf0, hf1, hf2, hf3, hf4⟩ := five BK5.out; obtain ⟨pc0, pc1, pc2, pc3, pc4, pf0, pf1, pf2, pf3, pf4⟩ := five BP5.out
  go_wp2_with (first | (go_at_call 30; (with_reducible refine (path_domains.calls k Ad cp rt wr _ HC5.out HLE.out HDM.out ?hGG).mono ?_); (case hGG => exact HG.out.below HB5.out); rintro e' w6 ⟨rfl, hb6⟩; have BK6 := Aside0.mk (blk_below BK5.out hb6); have BP6 := Aside0.mk (blk_below BP5.out hb6); have HB6 := Aside0.mk (then_below HB5.out hb6); have HR6 := Aside0.mk (Kd.R_below HR5.out hb6); have HC6 := Aside0.mk (Kd.C_below HC5.out hb6); clear hb6; clear hc0 hf0 hc1 hf1 hc2 hf2 hc3 hf3 hc4 hf4; clear pc0 pf0 pc1 pf1 pc2 pf2 pc3 pf3 pc4 pf4; obtain ⟨hc0, hc1, hc2, hc3, hc4, hf0, hf1, hf2, hf3, hf4⟩ := five BK6.out; obtain ⟨pc0, pc1, pc2, pc3, pc4, pf0, pf1, pf2, pf3, pf4⟩ := five BP6.out) | (go_at_call 31; (with_reducible refine (text_Same.calls (s2.extract 0 m) ⟨#[112, 111, 115, 116, 109, 97, 115, 116, 101, 114]⟩ true _ HSM.out).mono ?_); rintro e' w7 ⟨rfl, hb7⟩; have BK7 := Aside0.mk (blk_below BK6.out hb7); have BP7 := Aside0.mk (blk_below BP6.out hb7); have HB7 := Aside0.mk (then_below HB6.out hb7); have HR7 := Aside0.mk (Kd.R_below HR6.out hb7); have HC7 := Aside0.mk (Kd.C_below HC6.out hb7); clear hb7; clear hc0 hf0 hc1 hf1 hc2 hf2 hc3 hf3 hc4 hf4; clear pc0 pf0 pc1 pf1 pc2 pf2 pc3 pf3 pc4 pf4; obtain ⟨hc0, hc1, hc2, hc3, hc4, hf0, hf1, hf2, hf3, hf4⟩ := five BK7.out; obtain ⟨pc0, pc1, pc2, pc3, pc4, pf0, pf1, pf2, pf3, pf4⟩ := five BP7.out))
  refine bodyPost_ret (results_ctt rfl _ _ gb 26 #[.bool false, .bool false, .slice none 0 0, .string ⟨#[]⟩, .string ⟨#[]⟩] (0, 0) _ rfl (by exact blk5 (blk_far BK7.out (by exact hne) _) rfl _ _ _ _ _) Tryz.underlying26 rfl (by kernel_rfl)) rfl ⟨_, rfl, Kd.R_nil _ _ _ _ _, by exact below5 (below_set HB7.out GP.out) GE.out _ _ _ _ _⟩

set_option maxHeartbeats 8000000 in
set_option maxRecDepth 1000000 in
theorem parse_post_ls (k : Nat) (a0 s1 s2 : ByteArray) (rt : List ByteArray) (m : Nat) (wr : Int) (w : World) (hG : Glob w) (hcp : strings_CutPrefix.f a0 ⟨#[60]⟩ = some (s1, true)) (hrt : path_route.f k s1 = some (rt, s2, true)) (hen : path_ends.f k s2 = some (m : Int)) (hm : m < s2.size) (hs : s2.size ≤ 4294967280) (hs0 : a0.size ≤ 4294967280)
    (hdm : path_domains.f k rt = some wr) (hone : ((s2.extract 0 m).toList.isEmpty && ((rt.length : Int) == 0)) = false) (hrl : ((rt.length : Int) == 0) = true) (hsm : text_Same.f (s2.extract 0 m) master = some true) (hw : wr = 0) (hsz : 256 < (a0.size : Int) - ((s2.size - (m + 1) : Nat) : Int)) :
    Calls Tryz.prog 12 #[.string a0] w fun e w' => ∃ v2_ : Value, e = .returned (.tuple #[.agg #[.bool false, .bool false, v2_, .string ⟨#[]⟩, .string ⟨#[]⟩], .string ⟨#[]⟩, .int .i64 3]) ∧ Kd.R Kd.string 9 w' w.heap.size (fun _ => True) v2_ [] ∧ Below w.heap.size w w' := by
  have HCP := Aside0.mk hcp
  have HRT := Aside0.mk hrt
  have HEN := Aside0.mk hen
  have HDM := Aside0.mk hdm
  have HG := Aside0.mk hG
  clear hcp hrt hen hdm hG
  have huP := Tryz.underlying26
  have huA := Tryz.underlying24
  have hm1 : (m : Int) < (s2.size : Int) := by omega
  have hm2 : (m : Int) + 1 ≤ (s2.size : Int) := by omega
  subst hw
  have hoB : (s2.extract 0 m).toList.isEmpty = false := by simpa [hrl] using hone
  have hoC : ¬ (s2.extract 0 m).toList = [] := by simpa using hoB
  have HSM := Aside0.mk hsm
  unfold master at HSM
  clear hsm hone
  go_enter Tryz.func12, Tryz.ntmps12
  go_wp2_with (first | ((with_reducible refine gate_dst (N := 2) rfl ?_); refine box_event ?hg (N := 2) ?hd (cs := #[.bool false, .bool false, .slice none 0 0, .string ⟨#[]⟩, .string ⟨#[]⟩]) (t := 26) ?hr ?_; (case hd => rfl); (case hg => rfl); (case hr => first | (go_simp; done) | (go_simp; rfl)); intro gb hg w2 hbox hb; have HB0 := Aside0.mk hb; have BK := Aside0.mk hbox; have GE := Aside0.mk (Nat.le_of_eq hg.symm); clear hb hbox hg; obtain ⟨hc0, hc1, hc2, hc3, hc4, hf0, hf1, hf2, hf3, hf4⟩ := five BK.out) | (go_at_call 27; (with_reducible refine (strings_CutPrefix.calls a0 ⟨#[60]⟩ s1 true _ HCP.out).mono ?_); rintro e' w' ⟨rfl, ⟨nd, rfl⟩⟩) | (go_at_call 28; (with_reducible refine (path_route.calls k s1 rt s2 true _ HRT.out ?hGG).mono ?_); (case hGG => exact HG.out.below (pw_below_drewN HB0.out _)); rintro e' w3 ⟨v0, rfl, hR, hb3⟩; obtain ⟨Ad, cp, rfl, hle, hC⟩ := Kd.R_reads hR; have HR3 := Aside0.mk (Kd.R_lower hR (show w.heap.size ≤ _ from HB0.out.size)); have HC3 := Aside0.mk hC; have HLE := Aside0.mk hle; have BK3 := Aside0.mk (blk_below (blk_drewN BK.out _) hb3); have HB3 := Aside0.mk (then_below (pw_below_drewN HB0.out _) hb3); clear hR hC hle hb3; clear hc0 hf0 hc1 hf1 hc2 hf2 hc3 hf3 hc4 hf4; obtain ⟨hc0, hc1, hc2, hc3, hc4, hf0, hf1, hf2, hf3, hf4⟩ := five BK3.out) | (go_at_call 29; (with_reducible refine (path_ends.calls k s2 (m : Int) _ HEN.out).mono ?_); rintro e' w4 ⟨rfl, hb4⟩; have BK4 := Aside0.mk (blk_below BK3.out hb4); have HB4 := Aside0.mk (then_below HB3.out hb4); have HR4 := Aside0.mk (Kd.R_below HR3.out hb4); have HC4 := Aside0.mk (Kd.C_below HC3.out hb4); clear hb4; clear hc0 hf0 hc1 hf1 hc2 hf2 hc3 hf3 hc4 hf4; obtain ⟨hc0, hc1, hc2, hc3, hc4, hf0, hf1, hf2, hf3, hf4⟩ := five BK4.out))
  go_region
  have hb5 : Below w4.heap.size w4 (w4.alloc (.cells #[.bool false, .bool false, .slice Ad rt.length cp, .string ⟨#[]⟩, .string ⟨#[]⟩] 26)).drew := below_drew (below_alloc (Below.refl _ _) _); have BK5 := Aside0.mk (blk_below BK4.out hb5); have BP5 := Aside0.mk (show (w4.alloc (.cells #[.bool false, .bool false, .slice Ad rt.length cp, .string ⟨#[]⟩, .string ⟨#[]⟩] 26)).drew.heap[w4.heap.size]? = some (.cells #[.bool false, .bool false, .slice Ad rt.length cp, .string ⟨#[]⟩, .string ⟨#[]⟩] 26 (0, 0)) from blk_drew (blk_new _ _)); have HB5 := Aside0.mk (then_below HB4.out hb5); have HR5 := Aside0.mk (Kd.R_below HR4.out hb5); have HC5 := Aside0.mk (Kd.C_below HC4.out hb5); have GP := Aside0.mk HB4.out.size; have hne : gb ≠ w4.heap.size := Nat.ne_of_lt (blk_lt BK4.out); have hne2 : w4.heap.size ≠ gb := fun h => hne h.symm; clear hb5 HR4 HC4 hc0 hf0 hc1 hf1 hc2 hf2 hc3 hf3 hc4 hf4; generalize (w4.alloc (.cells #[.bool false, .bool false, .slice Ad rt.length cp, .string ⟨#[]⟩, .string ⟨#[]⟩] 26)).drew = w5 at BK5 BP5 HB5 HR5 HC5 ⊢; clear BK4 HB4; generalize w4.heap.size = gp at BP5 GP hne hne2 ⊢; obtain ⟨hc0, hc1, hc2, hc3, hc4, hf0, hf1, hf2, hf3, hf4⟩ := five BK5.out; obtain ⟨pc0, pc1, pc2, pc3, pc4, pf0, pf1, pf2, pf3, pf4⟩ := five BP5.out
  go_wp2_with (first | (go_at_call 30; (with_reducible refine (path_domains.calls k Ad cp rt 0 _ HC5.out HLE.out HDM.out ?hGG).mono ?_); (case hGG => exact HG.out.below HB5.out); rintro e' w6 ⟨rfl, hb6⟩; have BK6 := Aside0.mk (blk_below BK5.out hb6); have BP6 := Aside0.mk (blk_below BP5.out hb6); have HB6 := Aside0.mk (then_below HB5.out hb6); have HR6 := Aside0.mk (Kd.R_below HR5.out hb6); have HC6 := Aside0.mk (Kd.C_below HC5.out hb6); clear hb6; clear hc0 hf0 hc1 hf1 hc2 hf2 hc3 hf3 hc4 hf4; clear pc0 pf0 pc1 pf1 pc2 pf2 pc3 pf3 pc4 pf4; obtain ⟨hc0, hc1, hc2, hc3, hc4, hf0, hf1, hf2, hf3, hf4⟩ := five BK6.out; obtain ⟨pc0, pc1, pc2, pc3, pc4, pf0, pf1, pf2, pf3, pf4⟩ := five BP6.out) | (go_at_call 31; (with_reducible refine (text_Same.calls (s2.extract 0 m) ⟨#[112, 111, 115, 116, 109, 97, 115, 116, 101, 114]⟩ true _ HSM.out).mono ?_); rintro e' w7 ⟨rfl, hb7⟩; have BK7 := Aside0.mk (blk_below BK6.out hb7); have BP7 := Aside0.mk (blk_below BP6.out hb7); have HB7 := Aside0.mk (then_below HB6.out hb7); have HR7 := Aside0.mk (Kd.R_below HR6.out hb7); have HC7 := Aside0.mk (Kd.C_below HC6.out hb7); clear hb7; clear hc0 hf0 hc1 hf1 hc2 hf2 hc3 hf3 hc4 hf4; clear pc0 pf0 pc1 pf1 pc2 pf2 pc3 pf3 pc4 pf4; obtain ⟨hc0, hc1, hc2, hc3, hc4, hf0, hf1, hf2, hf3, hf4⟩ := five BK7.out; obtain ⟨pc0, pc1, pc2, pc3, pc4, pf0, pf1, pf2, pf3, pf4⟩ := five BP7.out))
  refine bodyPost_ret (results_ctt rfl _ _ gb 26 #[.bool false, .bool false, .slice none 0 0, .string ⟨#[]⟩, .string ⟨#[]⟩] (0, 0) _ rfl (by exact blk5 (blk_far BK7.out (by exact hne) _) rfl _ _ _ _ _) Tryz.underlying26 rfl (by kernel_rfl)) rfl ⟨_, rfl, Kd.R_nil _ _ _ _ _, by exact below5 (below_set HB7.out GP.out) GE.out _ _ _ _ _⟩

end Go.Proofs.YtmhcdigneamgdaaGreatDoor.G
