/- Parts of the proof, put together: Pal, Ppt, Prm, Frm, Tel, Tls. -/
import Derived.Test.YtmhcdigneamgdaaGreatDoorT13
import Derived.Test.YtmhcdigneamgdaaGreatDoorT12
import Derived.Handy
import Derived.BigRegion
/- Path.Parse whole: the ways together. -/
namespace Go.Proofs.YtmhcdigneamgdaaGreatDoor.G
open Go.RowKit Go.Proofs.YtmhcdigneamgdaaGreatDoorW.PrintWords Go.Proofs.YtmhcdigneamgdaaGreatDoorW.PrintMore Go.Proofs.YtmhcdigneamgdaaGreatDoor.Qa Go.Proofs.YtmhcdigneamgdaaGreatDoor.Qb
set_option linter.unusedVariables false
set_option linter.unusedSimpArgs false

theorem finPath_cases (a0 behind : ByteArray) (nul post : Bool) (l : List ByteArray) (loc dom : ByteArray) (wrong : Int) :
    (wrong = 0 ∧ (a0.size : Int) - (behind.size : Int) ≤ 256 ∧ finPath a0 behind nul post l loc dom wrong = (nul, post, l, loc, dom, behind, 0)) ∨
    (wrong ≠ 0 ∧ finPath a0 behind nul post l loc dom wrong = noPath 3) ∨
    (wrong = 0 ∧ 256 < (a0.size : Int) - (behind.size : Int) ∧ finPath a0 behind nul post l loc dom wrong = noPath 3) := by
  unfold finPath
  by_cases h : wrong = 0
  · by_cases h2 : (a0.size : Int) - (behind.size : Int) > 256
    · right; right; exact ⟨h, h2, by simp [h2]⟩
    · left; exact ⟨h, by omega, by simp [h, h2]⟩
  · right; left; exact ⟨h, by simp [h]⟩

theorem behind_size (s2 : ByteArray) (m : Nat) (hm : m < s2.size) : ((s2.extract (m + 1) s2.size).size : Int) = ((s2.size - (m + 1) : Nat) : Int) := by
  simp [ByteArray.size_extract]

theorem path_Parse.calls (k : Nat) (a0 : ByteArray) (r1 r2 : Bool) (r3 : List ByteArray) (r4 r5 r6 : ByteArray) (r7 : Int) (w : World)
    (hf : path_Parse.f k a0 = some (r1, r2, r3, r4, r5, r6, r7)) (hG : Glob w) :
    Calls Tryz.prog 12 #[.string a0] w fun e w' => ∃ v2_ : Value, e = .returned (.tuple #[.agg #[.bool r1, .bool r2, v2_, .string r4, .string r5], .string r6, .int .i64 r7]) ∧ Kd.R Kd.string 9 w' w.heap.size (fun _ => True) v2_ r3 ∧ Below w.heap.size w w' := by
  unfold path_Parse.f at hf
  obtain ⟨⟨s1, b0⟩, hcp, hf⟩ := Option.bind_eq_some_iff.mp hf
  cases b0 with
  | false =>
    simp only [if_true, noPath, Option.some.injEq, Prod.mk.injEq] at hf
    obtain ⟨rfl, rfl, rfl, rfl, rfl, rfl, rfl⟩ := hf
    exact parse_no a0 s1 w hcp
  | true =>
    rw [if_neg (by simp)] at hf
    obtain ⟨⟨rt, s2, b⟩, hrt, hf⟩ := Option.bind_eq_some_iff.mp hf
    obtain ⟨n, hen, hf⟩ := Option.bind_eq_some_iff.mp hf
    dsimp only at hf hen
    by_cases hb : b = false ∨ n < 0
    · rw [if_pos hb] at hf
      simp only [noPath, Option.some.injEq, Prod.mk.injEq] at hf
      obtain ⟨rfl, rfl, rfl, rfl, rfl, rfl, rfl⟩ := hf
      exact parse_bad k a0 s1 s2 rt b n w hG hcp hrt hen hb
    · rw [if_neg hb] at hf
      by_cases hg : n < (s2.size : Int) ∧ a0.size ≤ 4294967280 ∧ s2.size ≤ a0.size
      · rw [if_pos hg] at hf
        have hbt : b = true := by cases b <;> simp_all
        have hn : 0 ≤ n := by omega
        subst hbt
        obtain ⟨m, rfl⟩ := Int.eq_ofNat_of_zero_le hn
        obtain ⟨h1, h2, h3⟩ := hg
        have hm : m < s2.size := by omega
        have hs : s2.size ≤ 4294967280 := by omega
        have hbs := behind_size s2 m hm
        simp only [Int.toNat_natCast] at hf
        generalize hbe : s2.extract (m + 1) s2.size = be at hf hbs
        have key : ∀ x y : PR, x = y → some x = some (r1, r2, r3, r4, r5, r6, r7) → y = (r1, r2, r3, r4, r5, r6, r7) := fun x y h h2 => by rw [← h]; exact Option.some.inj h2
        unfold onePath at hf
        obtain ⟨wr, hdm, hf⟩ := Option.bind_eq_some_iff.mp hf
        by_cases hnull : (s2.extract 0 m).toList = [] ∧ rt = []
        · rw [if_pos hnull] at hf
          have hrl : ((rt.length : Int) == 0) = true := by rw [hnull.2]; rfl
          rcases finPath_cases a0 be true false rt ⟨#[]⟩ ⟨#[]⟩ wr with ⟨hw, hz, he⟩ | ⟨hw, he⟩ | ⟨hw, hz, he⟩ <;> have hf' := key _ _ he hf <;> simp only [noPath, Prod.mk.injEq] at hf' <;> obtain ⟨rfl, rfl, rfl, rfl, rfl, rfl, rfl⟩ := hf'
          · rw [← hbe]; exact parse_null_ok k a0 s1 s2 rt m wr w hG hcp hrt hen hm hs h2 hdm hnull.1 hrl hw (by omega)
          · exact parse_null_lw k a0 s1 s2 rt m wr w hG hcp hrt hen hm hs h2 hdm hnull.1 hrl (by simpa using hw)
          · exact parse_null_ls k a0 s1 s2 rt m wr w hG hcp hrt hen hm hs h2 hdm hnull.1 hrl hw (by omega)
        · rw [if_neg hnull] at hf
          obtain ⟨sm, hsm, hf⟩ := Option.bind_eq_some_iff.mp hf
          have hone : ((s2.extract 0 m).toList.isEmpty && ((rt.length : Int) == 0)) = false := by
            rw [Bool.eq_false_iff]
            intro h
            rw [Bool.and_eq_true] at h
            exact hnull ⟨by simpa using h.1, by simpa using h.2⟩
          by_cases hpost : sm = true ∧ rt = []
          · rw [if_pos hpost] at hf
            have hrl : ((rt.length : Int) == 0) = true := by rw [hpost.2]; rfl
            rw [hpost.1] at hsm
            rcases finPath_cases a0 be false true rt ⟨#[]⟩ ⟨#[]⟩ wr with ⟨hw, hz, he⟩ | ⟨hw, he⟩ | ⟨hw, hz, he⟩ <;> have hf' := key _ _ he hf <;> simp only [noPath, Prod.mk.injEq] at hf' <;> obtain ⟨rfl, rfl, rfl, rfl, rfl, rfl, rfl⟩ := hf'
            · rw [← hbe]; exact parse_post_ok k a0 s1 s2 rt m wr w hG hcp hrt hen hm hs h2 hdm hone hrl hsm hw (by omega)
            · exact parse_post_lw k a0 s1 s2 rt m wr w hG hcp hrt hen hm hs h2 hdm hone hrl hsm (by simpa using hw)
            · exact parse_post_ls k a0 s1 s2 rt m wr w hG hcp hrt hen hm hs h2 hdm hone hrl hsm hw (by omega)
          · rw [if_neg hpost] at hf
            obtain ⟨⟨al, ad, ae⟩, had, hf⟩ := Option.bind_eq_some_iff.mp hf
            dsimp only at hf
            have hcase : ((s2.extract 0 m).toList.isEmpty = false ∧ sm = false) ∨ ((rt.length : Int) == 0) = false := by
              cases hrl : ((rt.length : Int) == 0) with
              | false => exact Or.inr rfl
              | true =>
                left
                have hr : rt = [] := by simpa using hrl
                constructor
                · cases h : (s2.extract 0 m).toList.isEmpty with
                  | false => rfl
                  | true => rw [h, hrl] at hone; cases hone
                · cases sm with
                  | false => rfl
                  | true => exact absurd ⟨rfl, hr⟩ hpost
            by_cases h5 : ae = 5
            · rw [if_pos (Or.inl h5)] at hf
              simp only [noPath, Option.some.injEq, Prod.mk.injEq] at hf
              obtain ⟨rfl, rfl, rfl, rfl, rfl, rfl, rfl⟩ := hf
              exact parse_addr_f1 k a0 s1 s2 rt m wr al ad ae w hG hcp hrt hen hm hs h2 hdm sm hsm hcase had (by simpa using h5)
            · by_cases h6 : wr = 5
              · rw [if_pos (Or.inr h6)] at hf
                simp only [noPath, Option.some.injEq, Prod.mk.injEq] at hf
                obtain ⟨rfl, rfl, rfl, rfl, rfl, rfl, rfl⟩ := hf
                exact parse_addr_f2 k a0 s1 s2 rt m wr al ad ae w hG hcp hrt hen hm hs h2 hdm sm hsm hcase had (by simpa using h5) (by simpa using h6)
              · rw [if_neg (fun h => h.elim h5 h6)] at hf
                by_cases hnn : 0 ≤ ae ∧ 0 ≤ wr
                · rw [if_pos hnn] at hf
                  rcases finPath_cases a0 be false false rt al ad (if wr < ae then ae else wr) with ⟨hw, hz, he⟩ | ⟨hw, he⟩ | ⟨hw, hz, he⟩ <;> have hf' := key _ _ he hf <;> simp only [noPath, Prod.mk.injEq] at hf' <;> obtain ⟨rfl, rfl, rfl, rfl, rfl, rfl, rfl⟩ := hf'
                  · have h8 : wr = 0 ∧ ae = 0 := by split at hw <;> omega
                    rw [← hbe]; exact parse_addr_ok k a0 s1 s2 rt m wr al ad ae w hG hcp hrt hen hm hs h2 hdm sm hsm hcase had h8.1 h8.2 (by omega)
                  · by_cases hlt : wr < ae
                    · exact parse_addr_l1 k a0 s1 s2 rt m wr al ad ae w hG hcp hrt hen hm hs h2 hdm sm hsm hcase had (by simpa using h5) (by simpa using h6) hlt (by rw [if_pos hlt] at hw; simpa using hw)
                    · exact parse_addr_l2 k a0 s1 s2 rt m wr al ad ae w hG hcp hrt hen hm hs h2 hdm sm hsm hcase had (by simpa using h5) (by simpa using h6) (by omega) (by rw [if_neg hlt] at hw; simpa using hw)
                  · have h8 : wr = 0 ∧ ae = 0 := by split at hw <;> omega
                    exact parse_addr_ls k a0 s1 s2 rt m wr al ad ae w hG hcp hrt hen hm hs h2 hdm sm hsm hcase had h8.1 h8.2 (by omega)
                · rw [if_neg hnn] at hf; cases hf
      · rw [if_neg hg] at hf; cases hf
/-- More rounds tell the same. -/
theorem path_Parse.mono : ∀ a0 k, LeO (path_Parse.f k a0) (path_Parse.f (k + 1) a0) := by
  intro a0 k
  unfold path_Parse.f onePath
  repeat' first
      | (with_reducible exact path_route.mono _ _)
      | (with_reducible exact path_ends.mono _ _)
      | (with_reducible exact path_domains.mono _ _)
      | (with_reducible exact addr_Parse.mono _ _)
      | (with_reducible exact LeO.refl _)
      | (with_reducible exact LeO.none _)
      | (with_reducible refine LeO.ite ?_ ?_)
      | (with_reducible refine LeO.bind ?_ (fun _ => ?_))
end Go.Proofs.YtmhcdigneamgdaaGreatDoor.G

/- Walk of path.parts, with its closures. -/
namespace Go.Proofs.YtmhcdigneamgdaaGreatDoor.G
open Go.RowKit Go.Proofs.YtmhcdigneamgdaaGreatDoorW.PrintWords Go.Proofs.YtmhcdigneamgdaaGreatDoorW.PrintMore Go.Proofs.YtmhcdigneamgdaaGreatDoor.Qa Go.Proofs.YtmhcdigneamgdaaGreatDoor.Qb
set_option linter.unusedVariables false
set_option linter.unusedSimpArgs false

def letterB (b : UInt8) : Bool := let c : Int := b.toNat; (decide (97 ≤ c) && decide (c ≤ 122)) || (decide (65 ≤ c) && decide (c ≤ 90)) || (decide (48 ≤ c) && decide (c ≤ 57)) || c == 45
def badB (b : UInt8) : Bool := let c : Int := b.toNat; decide (c ≤ 32) || decide (126 < c) || c == 61

set_option maxHeartbeats 4000000 in
theorem letter_calls (b : UInt8) (w : World) :
    Calls Tryz.prog 68 #[.int .u8 b.toNat] w fun e w' => e = .returned (.bool (letterB b)) ∧ w' = w := by
  unfold letterB
  generalize (b.toNat : Int) = c
  go_enter Tryz.func68, Tryz.ntmps68
  go_wp2
  all_goals
    go_ret
    show Ending.returned (.bool _) = _ ∧ _
    refine ⟨congrArg (fun x => Ending.returned (Value.bool x)) (Bool.eq_iff_iff.mpr ?_), rfl⟩
    simp only [Bool.or_eq_true, Bool.and_eq_true, decide_eq_true_eq, beq_iff_eq]
    try omega
set_option maxHeartbeats 4000000 in
theorem odd_calls (x : Int) (w : World) (hx : ∃ b : UInt8, x = (b.toNat : Int)) :
    Calls Tryz.prog 67 #[.int .u8 x] w fun e w' => e = .returned (.bool (!letterB x.toNat.toUInt8)) ∧ Below w.heap.size w w' := by
  obtain ⟨b, rfl⟩ := hx
  rw [byte_id]
  have hcon := letter_calls b w
  generalize letterB b = r at hcon
  generalize (b.toNat : Int) = c at hcon
  go_enter Tryz.func67, Tryz.ntmps67
  go_wp2_with (go_at_call 68; refine hcon.mono ?_; rintro e w' ⟨rfl, rfl⟩)
  go_ret
  exact ⟨rfl, Below.refl _ _⟩
set_option maxHeartbeats 4000000 in
theorem bad_calls (x : Int) (w : World) (hx : ∃ b : UInt8, x = (b.toNat : Int)) :
    Calls Tryz.prog 69 #[.int .u8 x] w fun e w' => e = .returned (.bool (badB x.toNat.toUInt8)) ∧ Below w.heap.size w w' := by
  obtain ⟨b, rfl⟩ := hx
  rw [byte_id]
  unfold badB
  generalize (b.toNat : Int) = c
  go_enter Tryz.func69, Tryz.ntmps69
  go_wp2
  all_goals
    go_ret
    show Ending.returned (.bool _) = _ ∧ _
    refine ⟨congrArg (fun x => Ending.returned (Value.bool x)) (Bool.eq_iff_iff.mpr ?_), Below.refl _ _⟩
    simp only [Bool.or_eq_true, Bool.and_eq_true, decide_eq_true_eq, beq_iff_eq]
    try omega

theorem con_of (p : UInt8 → Bool) (f : Nat) (eg : ∀ args w, (callFunc f args).run Tryz.prog w = .ok (.enter f args) w) (s : ByteArray) (w : World) (hs : s.size ≤ 9223372036854775807)
    (hp : ∀ (x : Int) (W : World), (∃ b : UInt8, x = (b.toNat : Int)) → Calls Tryz.prog f #[.int .u8 x] W fun e w' => e = .returned (.bool (p x.toNat.toUInt8)) ∧ Below W.heap.size W w') :
    Calls Tryz.prog 70 #[.slice (some ⟨w.heap.size, 0, none⟩) s.size (grownCap w s.size 0 5), .func (.func f) #[] #[]] (Lib.bytesWorld w 5 s) fun e w' => e = .returned (.bool (s.data.toList.any p)) ∧ Below w.heap.size w w' := by
  have hC := Kd.C_of_reads (d := (0 : Int)) (h1 := fun _ => rfl) (bytes_reads w 5 s hs)
  have hB := bytes_below (Below.refl w.heap.size w) (Nat.le_refl _) 5 s
  have hlen := bytesOf_length s
  rw [← hlen] at hC
  have hcon := conFunc_byte (fun x => p x.toNat.toUInt8) f #[] eg _ (grownCap w s.size 0 5) (bytesOf s) _ hC (fun W x hx hb => by
    obtain ⟨b, _, rfl⟩ := List.mem_map.1 hx
    exact (hp _ W ⟨b, rfl⟩).mono fun e w' ⟨he, hb2⟩ => ⟨he, hb.trans (hb2.mono hb.size)⟩)
  rw [hlen] at hcon
  have hx : ((bytesOf s).any fun x => p x.toNat.toUInt8) = s.data.toList.any p := by
    show ((s.data.toList.map fun b => (b.toNat : Int)).any fun x => p x.toNat.toUInt8) = _
    rw [List.any_map]
    congr 1
    funext b
    exact congrArg p (byte_id b)
  rw [hx] at hcon
  exact hcon.mono fun e w' ⟨he, hb⟩ => ⟨he, hB.trans (hb.mono hB.size)⟩
theorem results_tmp4 {fn : Func} {t u v x : Tmp} (h : fn.results = #[.tmp t, .tmp u, .tmp v, .tmp x]) (tmps : Array Value) (P : Program) (w : World) :
    (results fn tmps).run P w = .ok (.tuple #[tmps.getD t undef, tmps.getD u undef, tmps.getD v undef, tmps.getD x undef]) w := by
  simp [results, h]
theorem con_odd (s : ByteArray) (w : World) (r : Bool) (hs : s.size ≤ 9223372036854775807) (hr : (s.data.toList.any fun b => !letterB b) = r) :
    Calls Tryz.prog 70 #[.slice (some ⟨w.heap.size, 0, none⟩) s.size (grownCap w s.size 0 5), .func (.func 67) #[] #[]] (Lib.bytesWorld w 5 s) fun e w' => e = .returned (.bool r) ∧ Below w.heap.size w w' := by
  have h := con_of (fun b => !letterB b) 67 (enters_of Tryz.func67 (by kernel_rfl) rfl) s w hs odd_calls
  rw [hr] at h
  exact h
theorem con_bad (s : ByteArray) (w : World) (r : Bool) (hs : s.size ≤ 9223372036854775807) (hr : (s.data.toList.any badB) = r) :
    Calls Tryz.prog 70 #[.slice (some ⟨w.heap.size, 0, none⟩) s.size (grownCap w s.size 0 5), .func (.func 69) #[] #[]] (Lib.bytesWorld w 5 s) fun e w' => e = .returned (.bool r) ∧ Below w.heap.size w w' := by
  have h := con_of badB 69 (enters_of Tryz.func69 (by kernel_rfl) rfl) s w hs bad_calls
  rw [hr] at h
  exact h
set_option maxHeartbeats 8000000 in
set_option maxRecDepth 1000000 in
theorem parts_none (a0 n v l : ByteArray) (h : Bool) (w : World) (hG : Glob w) (hcut : strings_Cut.f a0 ⟨#[61]⟩ = some (n, v, h)) (hlow : text_Lower.f n = some l) (hn : n.size ≤ 9223372036854775807) (hv : v.size ≤ 9223372036854775807) (h0 : n.toList = []) :
    Calls Tryz.prog 41 #[.string a0] w fun e w' => e = .returned (.tuple #[.string l, .string v, .bool h, .bool false]) ∧ Below w.heap.size w w' := by
  have HCUT := Aside0.mk hcut
  have HLOW := Aside0.mk hlow
  have HN := Aside0.mk hn
  have HV := Aside0.mk hv
  have HG := Aside0.mk hG
  have HB := Aside0.mk (Below.refl w.heap.size w)
  have KB := Aside0.mk (fun (s : ByteArray) (W : World) => print_bytes (P := Tryz.prog) 9 55 5 Tryz.underlying9 Tryz.underlying55 Tryz.underlying5 s W)
  clear hcut hlow hn hv hG
  have h0b : n.toList.isEmpty = true := by rw [h0]; rfl
  go_enter Tryz.func41, Tryz.ntmps41
  go_wp2_with (first | (go_at_call 57; (with_reducible refine (strings_Cut.calls a0 ⟨#[61]⟩ n v h _ HCUT.out HG.out).mono ?_); rintro e w1 ⟨rfl, ⟨nd, rfl⟩⟩; have n0_ := Aside0.mk (pw_below_drewN HB.out nd); clear HB; have HB := n0_; clear n0_; generalize w.drewN nd = w1 at HB ⊢; have kb1 := KB.out n w1) | (go_at_call 60; (with_reducible refine (text_Lower.calls n l _ HLOW.out).mono ?_); rintro e w4 ⟨rfl, hb⟩; have n0_ := Aside0.mk (then_below HB.out hb); clear HB; have HB := n0_; clear n0_ hb))
  exact bodyPost_ret (results_tmp4 rfl _ _ _) rfl ⟨rfl, HB.out⟩
set_option maxHeartbeats 8000000 in
set_option maxRecDepth 1000000 in
theorem parts_odd (a0 n v l : ByteArray) (h : Bool) (w : World) (hG : Glob w) (hcut : strings_Cut.f a0 ⟨#[61]⟩ = some (n, v, h)) (hlow : text_Lower.f n = some l) (hn : n.size ≤ 9223372036854775807) (hv : v.size ≤ 9223372036854775807) (h0 : ¬ n.toList = []) (ho : (n.data.toList.any fun b => !letterB b) = true) :
    Calls Tryz.prog 41 #[.string a0] w fun e w' => e = .returned (.tuple #[.string l, .string v, .bool h, .bool false]) ∧ Below w.heap.size w w' := by
  have HCUT := Aside0.mk hcut
  have HLOW := Aside0.mk hlow
  have HN := Aside0.mk hn
  have HV := Aside0.mk hv
  have HG := Aside0.mk hG
  have HB := Aside0.mk (Below.refl w.heap.size w)
  have KB := Aside0.mk (fun (s : ByteArray) (W : World) => print_bytes (P := Tryz.prog) 9 55 5 Tryz.underlying9 Tryz.underlying55 Tryz.underlying5 s W)
  clear hcut hlow hn hv hG
  have h0b : n.toList.isEmpty = false := by simpa using h0
  have HO := Aside0.mk ho
  clear ho
  go_enter Tryz.func41, Tryz.ntmps41
  go_wp2_with (first | (go_at_call 57; (with_reducible refine (strings_Cut.calls a0 ⟨#[61]⟩ n v h _ HCUT.out HG.out).mono ?_); rintro e w1 ⟨rfl, ⟨nd, rfl⟩⟩; have n0_ := Aside0.mk (pw_below_drewN HB.out nd); clear HB; have HB := n0_; clear n0_; generalize w.drewN nd = w1 at HB ⊢; have kb1 := KB.out n w1) | (go_at_call 70; (with_reducible refine (con_odd n w1 true HN.out HO.out).mono ?_); rintro e w2 ⟨rfl, hb⟩; have n0_ := Aside0.mk (then_below HB.out hb); clear HB; have HB := n0_; clear n0_ hb; have kb2 := KB.out v w2) | (go_at_call 60; (with_reducible refine (text_Lower.calls n l _ HLOW.out).mono ?_); rintro e w4 ⟨rfl, hb⟩; have n0_ := Aside0.mk (then_below HB.out hb); clear HB; have HB := n0_; clear n0_ hb))
  exact bodyPost_ret (results_tmp4 rfl _ _ _) rfl ⟨rfl, HB.out⟩
set_option maxHeartbeats 8000000 in
set_option maxRecDepth 1000000 in
theorem parts_empty (a0 n v l : ByteArray) (w : World) (hG : Glob w) (hcut : strings_Cut.f a0 ⟨#[61]⟩ = some (n, v, true)) (hlow : text_Lower.f n = some l) (hn : n.size ≤ 9223372036854775807) (hv : v.size ≤ 9223372036854775807) (h0 : ¬ n.toList = []) (ho : (n.data.toList.any fun b => !letterB b) = false) (h1 : v.toList = []) :
    Calls Tryz.prog 41 #[.string a0] w fun e w' => e = .returned (.tuple #[.string l, .string v, .bool true, .bool false]) ∧ Below w.heap.size w w' := by
  have HCUT := Aside0.mk hcut
  have HLOW := Aside0.mk hlow
  have HN := Aside0.mk hn
  have HV := Aside0.mk hv
  have HG := Aside0.mk hG
  have HB := Aside0.mk (Below.refl w.heap.size w)
  have KB := Aside0.mk (fun (s : ByteArray) (W : World) => print_bytes (P := Tryz.prog) 9 55 5 Tryz.underlying9 Tryz.underlying55 Tryz.underlying5 s W)
  clear hcut hlow hn hv hG
  have h0b : n.toList.isEmpty = false := by simpa using h0
  have h1b : v.toList.isEmpty = true := by rw [h1]; rfl
  have HO := Aside0.mk ho
  clear ho
  go_enter Tryz.func41, Tryz.ntmps41
  go_wp2_with (first | (go_at_call 57; (with_reducible refine (strings_Cut.calls a0 ⟨#[61]⟩ n v true _ HCUT.out HG.out).mono ?_); rintro e w1 ⟨rfl, ⟨nd, rfl⟩⟩; have n0_ := Aside0.mk (pw_below_drewN HB.out nd); clear HB; have HB := n0_; clear n0_; generalize w.drewN nd = w1 at HB ⊢; have kb1 := KB.out n w1) | (go_at_call 70; (with_reducible refine (con_odd n w1 false HN.out HO.out).mono ?_); rintro e w2 ⟨rfl, hb⟩; have n0_ := Aside0.mk (then_below HB.out hb); clear HB; have HB := n0_; clear n0_ hb; have kb2 := KB.out v w2) | (go_at_call 60; (with_reducible refine (text_Lower.calls n l _ HLOW.out).mono ?_); rintro e w4 ⟨rfl, hb⟩; have n0_ := Aside0.mk (then_below HB.out hb); clear HB; have HB := n0_; clear n0_ hb))
  exact bodyPost_ret (results_tmp4 rfl _ _ _) rfl ⟨rfl, HB.out⟩
set_option maxHeartbeats 8000000 in
set_option maxRecDepth 1000000 in
theorem parts_has (a0 n v l : ByteArray) (w : World) (hG : Glob w) (hcut : strings_Cut.f a0 ⟨#[61]⟩ = some (n, v, true)) (hlow : text_Lower.f n = some l) (hn : n.size ≤ 9223372036854775807) (hv : v.size ≤ 9223372036854775807) (r : Bool) (h0 : ¬ n.toList = []) (ho : (n.data.toList.any fun b => !letterB b) = false) (h1 : ¬ v.toList = []) (hd : (v.data.toList.any badB) = r) :
    Calls Tryz.prog 41 #[.string a0] w fun e w' => e = .returned (.tuple #[.string l, .string v, .bool true, .bool (!r)]) ∧ Below w.heap.size w w' := by
  have HCUT := Aside0.mk hcut
  have HLOW := Aside0.mk hlow
  have HN := Aside0.mk hn
  have HV := Aside0.mk hv
  have HG := Aside0.mk hG
  have HB := Aside0.mk (Below.refl w.heap.size w)
  have KB := Aside0.mk (fun (s : ByteArray) (W : World) => print_bytes (P := Tryz.prog) 9 55 5 Tryz.underlying9 Tryz.underlying55 Tryz.underlying5 s W)
  clear hcut hlow hn hv hG
  have h0b : n.toList.isEmpty = false := by simpa using h0
  have h1b : v.toList.isEmpty = false := by simpa using h1
  have HD := Aside0.mk hd
  clear hd
  have HO := Aside0.mk ho
  clear ho
  go_enter Tryz.func41, Tryz.ntmps41
  go_wp2_with (first | (go_at_call 57; (with_reducible refine (strings_Cut.calls a0 ⟨#[61]⟩ n v true _ HCUT.out HG.out).mono ?_); rintro e w1 ⟨rfl, ⟨nd, rfl⟩⟩; have n0_ := Aside0.mk (pw_below_drewN HB.out nd); clear HB; have HB := n0_; clear n0_; generalize w.drewN nd = w1 at HB ⊢; have kb1 := KB.out n w1) | (go_at_call 70; (with_reducible refine (con_odd n w1 false HN.out HO.out).mono ?_); rintro e w2 ⟨rfl, hb⟩; have n0_ := Aside0.mk (then_below HB.out hb); clear HB; have HB := n0_; clear n0_ hb; have kb2 := KB.out v w2) | (go_at_call 70; (with_reducible refine (con_bad v w2 r HV.out HD.out).mono ?_); rintro e w3 ⟨rfl, hb⟩; have n0_ := Aside0.mk (then_below HB.out hb); clear HB; have HB := n0_; clear n0_ hb) | (go_at_call 60; (with_reducible refine (text_Lower.calls n l _ HLOW.out).mono ?_); rintro e w4 ⟨rfl, hb⟩; have n0_ := Aside0.mk (then_below HB.out hb); clear HB; have HB := n0_; clear n0_ hb))
  exact bodyPost_ret (results_tmp4 rfl _ _ _) rfl ⟨rfl, HB.out⟩
set_option maxHeartbeats 8000000 in
set_option maxRecDepth 1000000 in
theorem parts_bare (a0 n v l : ByteArray) (w : World) (hG : Glob w) (hcut : strings_Cut.f a0 ⟨#[61]⟩ = some (n, v, false)) (hlow : text_Lower.f n = some l) (hn : n.size ≤ 9223372036854775807) (hv : v.size ≤ 9223372036854775807) (r : Bool) (h0 : ¬ n.toList = []) (ho : (n.data.toList.any fun b => !letterB b) = false) (hd : (v.data.toList.any badB) = r) :
    Calls Tryz.prog 41 #[.string a0] w fun e w' => e = .returned (.tuple #[.string l, .string v, .bool false, .bool (!r)]) ∧ Below w.heap.size w w' := by
  have HCUT := Aside0.mk hcut
  have HLOW := Aside0.mk hlow
  have HN := Aside0.mk hn
  have HV := Aside0.mk hv
  have HG := Aside0.mk hG
  have HB := Aside0.mk (Below.refl w.heap.size w)
  have KB := Aside0.mk (fun (s : ByteArray) (W : World) => print_bytes (P := Tryz.prog) 9 55 5 Tryz.underlying9 Tryz.underlying55 Tryz.underlying5 s W)
  clear hcut hlow hn hv hG
  have h0b : n.toList.isEmpty = false := by simpa using h0
  have HD := Aside0.mk hd
  clear hd
  have HO := Aside0.mk ho
  clear ho
  go_enter Tryz.func41, Tryz.ntmps41
  go_wp2_with (first | (go_at_call 57; (with_reducible refine (strings_Cut.calls a0 ⟨#[61]⟩ n v false _ HCUT.out HG.out).mono ?_); rintro e w1 ⟨rfl, ⟨nd, rfl⟩⟩; have n0_ := Aside0.mk (pw_below_drewN HB.out nd); clear HB; have HB := n0_; clear n0_; generalize w.drewN nd = w1 at HB ⊢; have kb1 := KB.out n w1) | (go_at_call 70; (with_reducible refine (con_odd n w1 false HN.out HO.out).mono ?_); rintro e w2 ⟨rfl, hb⟩; have n0_ := Aside0.mk (then_below HB.out hb); clear HB; have HB := n0_; clear n0_ hb; have kb2 := KB.out v w2) | (go_at_call 70; (with_reducible refine (con_bad v w2 r HV.out HD.out).mono ?_); rintro e w3 ⟨rfl, hb⟩; have n0_ := Aside0.mk (then_below HB.out hb); clear HB; have HB := n0_; clear n0_ hb) | (go_at_call 60; (with_reducible refine (text_Lower.calls n l _ HLOW.out).mono ?_); rintro e w4 ⟨rfl, hb⟩; have n0_ := Aside0.mk (then_below HB.out hb); clear HB; have HB := n0_; clear n0_ hb))
  exact bodyPost_ret (results_tmp4 rfl _ _ _) rfl ⟨rfl, HB.out⟩
def isParam (n v : ByteArray) (h : Bool) : Bool := !n.toList.isEmpty && n.data.toList.all letterB && (!h || !v.toList.isEmpty) && !(v.data.toList.any badB)
def path_parts.f (a0 : ByteArray) : Option (ByteArray × ByteArray × Bool × Bool) :=
  (strings_Cut.f a0 ⟨#[61]⟩).bind fun c => (text_Lower.f c.1).bind fun l =>
    if c.1.size ≤ 9223372036854775807 ∧ c.2.1.size ≤ 9223372036854775807 then some (l, c.2.1, c.2.2, isParam c.1 c.2.1 c.2.2) else none
theorem any_odd (l : List UInt8) : (l.any fun b => !letterB b) = !(l.all letterB) := by
  induction l with
  | nil => rfl
  | cons a l ih => simp only [List.any_cons, List.all_cons, Bool.not_and, ih]
theorem path_parts.calls (a0 r1 r2 : ByteArray) (r3 r4 : Bool) (w : World) (hf : path_parts.f a0 = some (r1, r2, r3, r4)) (hG : Glob w) :
    Calls Tryz.prog 41 #[.string a0] w fun e w' => e = .returned (.tuple #[.string r1, .string r2, .bool r3, .bool r4]) ∧ Below w.heap.size w w' := by
  unfold path_parts.f at hf
  obtain ⟨⟨n, v, h⟩, hcut, hf⟩ := Option.bind_eq_some_iff.mp hf
  obtain ⟨l, hlow, hf⟩ := Option.bind_eq_some_iff.mp hf
  dsimp only at hf hlow
  split at hf
  · rename_i hs
    obtain ⟨hn, hv⟩ := hs
    simp only [Option.some.injEq, Prod.mk.injEq] at hf
    obtain ⟨rfl, rfl, rfl, rfl⟩ := hf
    by_cases h0 : n.toList = []
    · have hr : isParam n v h = false := by simp [isParam, h0]
      rw [hr]
      exact parts_none a0 n v l h w hG hcut hlow hn hv h0
    · have h0b : n.toList.isEmpty = false := by simpa using h0
      cases ho : (n.data.toList.any fun b => !letterB b) with
      | true =>
        have hl : n.data.toList.all letterB = false := by
          have := any_odd n.data.toList
          rw [ho] at this
          simpa using this.symm
        have hr : isParam n v h = false := by simp [isParam, hl]
        rw [hr]
        exact parts_odd a0 n v l h w hG hcut hlow hn hv h0 ho
      | false =>
        have hl : n.data.toList.all letterB = true := by
          have := any_odd n.data.toList
          rw [ho] at this
          simpa using this.symm
        cases h with
        | false =>
          have hr : isParam n v false = !(v.data.toList.any badB) := by simp [isParam, hl, h0b]
          rw [hr]
          exact parts_bare a0 n v l w hG hcut hlow hn hv _ h0 ho rfl
        | true =>
          by_cases h1 : v.toList = []
          · have hr : isParam n v true = false := by simp [isParam, h1]
            rw [hr]
            exact parts_empty a0 n v l w hG hcut hlow hn hv h0 ho h1
          · have h1b : v.toList.isEmpty = false := by simpa using h1
            have hr : isParam n v true = !(v.data.toList.any badB) := by simp [isParam, hl, h0b, h1b]
            rw [hr]
            exact parts_has a0 n v l w hG hcut hlow hn hv _ h0 ho h1 rfl
  · cases hf
end Go.Proofs.YtmhcdigneamgdaaGreatDoor.G

/- Walk of path.ParseParams at the two texts that the chapter's rows come to ("" and " SIZE=5"). -/
namespace Go.Proofs.YtmhcdigneamgdaaGreatDoor.G
open Go.RowKit Go.Proofs.YtmhcdigneamgdaaGreatDoorW.PrintWords Go.Proofs.YtmhcdigneamgdaaGreatDoorW.PrintMore Go.Proofs.YtmhcdigneamgdaaGreatDoor.Qa Go.Proofs.YtmhcdigneamgdaaGreatDoor.Qb
attribute [local go_sem] max2_int max_two
set_option linter.unusedVariables false
set_option linter.unusedSimpArgs false

/-- All blocks but one are as they were. -/
structure But (g : Nat) (w w' : World) : Prop where
  os : w'.os = w.os
  tape : w'.tape = w.tape
  output : w'.output = w.output
  size : w.heap.size ≤ w'.heap.size
  block : ∀ k, k < w.heap.size → k ≠ g → w'.heap[k]? = w.heap[k]?
theorem But.below {g base : Nat} {w w' : World} (h : But g w w') (hg : base ≤ g) (hb : base ≤ w.heap.size) : Below base w w' :=
  ⟨h.os, h.tape, h.output, h.size, fun k hk => h.block k (by omega) (by omega)⟩
theorem But.blk {g b : Nat} {o : Obj} {w w' : World} (h : But g w w') (hb : w.heap[b]? = some o) (hne : b ≠ g) : w'.heap[b]? = some o :=
  (h.block b (blk_lt hb) hne).trans hb
theorem But.of_set (w : World) (g j : Nat) (v : Value) : But g w (w.setCell ⟨g, j, none⟩ v) :=
  ⟨rfl, rfl, rfl, by simp [World.setCell], fun k _ hn => Below.heap_setCell w ⟨g, j, none⟩ v k hn⟩
theorem But.of_below {g : Nat} {w w' : World} (h : Below w.heap.size w w') : But g w w' := ⟨h.os, h.tape, h.output, h.size, fun k hk _ => h.block k hk⟩
theorem But.trans {g : Nat} {a b c : World} (h : But g a b) (k : But g b c) : But g a c :=
  ⟨k.os.trans h.os, k.tape.trans h.tape, k.output.trans h.output, Nat.le_trans h.size k.size, fun i hi hn => (k.block i (Nat.lt_of_lt_of_le hi h.size) hn).trans (h.block i hi hn)⟩

set_option maxHeartbeats 4000000 in
theorem params_none (w : World) :
    Calls Tryz.prog 16 #[.string ⟨#[]⟩] w fun e w' => e = .returned (.tuple #[.agg #[.bool false, .bool false, .int .i64 0], .int .i64 0]) ∧ Below w.heap.size w w' := by
  go_enter Tryz.func16, Tryz.ntmps16
  go_wp2
  exact bodyPost_ret (v := .tuple #[.agg #[.bool false, .bool false, .int .i64 0], .int .i64 0]) (by simp [results, Tryz.results16, go_sem]) rfl ⟨rfl, by go_grown⟩

set_option maxHeartbeats 4000000 in
theorem say_size (g : Nat) (h e : Bool) (n : Int) (v : ByteArray) (r1 r2 : Int) (w : World) (hb : w.heap[g]? = some (.cells #[.bool h, .bool e, .int .i64 n] 46 (0, 0))) (hn : text_Number.f v 9 = some (r1, r2)) :
    Calls Tryz.prog 159 #[.pointer (some ⟨g, 0, none⟩), .string v] w fun E w' => E = .returned (.int .i64 r2) ∧ w'.heap[g]? = some (.cells #[.bool true, .bool e, .int .i64 r1] 46 (0, 0)) ∧ But g w w' := by
  have HN := Aside0.mk hn
  have HB := Aside0.mk hb
  clear hn
  have c0 := (blk_cell hb 0).trans rfl
  have f0 := blk_frozen hb 0
  have f2 := blk_frozen hb 2
  clear hb
  go_enter Tryz.func159, Tryz.ntmps159
  go_wp2_with (go_at_call 106; (with_reducible refine (text_Number.calls v 9 r1 r2 _ HN.out).mono ?_); rintro e' w2 ⟨rfl, hb2⟩; have HB2 := Aside0.mk (blk_below (blk_put HB.out 0 (.bool true) rfl) hb2); have BT := Aside0.mk ((But.of_set w g 0 (.bool true)).trans (But.of_below hb2)); clear hb2; have d2 := (blk_cell HB2.out 2).trans rfl; have f2' := blk_frozen HB2.out 2)
  go_ret
  exact ⟨rfl, blk_put HB2.out 2 (.int .i64 r1) rfl, BT.out.trans (But.of_set _ g 2 (.int .i64 r1))⟩

set_option maxHeartbeats 4000000 in
theorem index_nil (s : ByteArray) (w : World) :
    Calls Tryz.prog 71 #[.slice none 0 0, .string s] w fun E w' => E = .returned (.int .i64 (-1)) ∧ w' = w := by
  go_enter Tryz.func71, Tryz.ntmps71
  go_wp2
  go_rounds 1
  go_ret
  exact ⟨rfl, rfl⟩
set_option maxHeartbeats 4000000 in
theorem contains_nil (s : ByteArray) (w : World) :
    Calls Tryz.prog 42 #[.slice none 0 0, .string s] w fun E w' => E = .returned (.bool false) ∧ w' = w := by
  go_enter Tryz.func42, Tryz.ntmps42
  go_wp2_with (go_at_call 71; (with_reducible refine (index_nil s _).mono ?_); rintro e w' ⟨rfl, rfl⟩)
  go_ret
  exact ⟨rfl, rfl⟩

/-- The lookup of what parameters say. -/
theorem says_run {w : World} (hG : Glob w) : ∃ (bm : Nat), w.cell? ⟨0, 0, none⟩ = some (.map (some bm)) ∧ ∀ (W : World), Below w.heap.size w W → ∀ (s : ByteArray), s.size ≤ 9223372036854775807 → (Instr.lookup 87 (.map (some bm)) (.string s) true).run Tryz.prog W = .ok (.tuple #[sayVal s, .bool (sayHas s)]) W := by
  obtain ⟨bm, es, clock, h1, h2, h3⟩ := hG.says
  exact ⟨bm, h1, fun W hb s hs => h3 W s (blk_below h2 hb) hs⟩

def sizeFive : ByteArray := ⟨#[83, 73, 90, 69, 61, 53]⟩
def spaceSize : ByteArray := ⟨#[32, 83, 73, 90, 69, 61, 53]⟩
theorem split_five : text_Split.f 5 ((⟨#[32, 83, 73, 90, 69, 61, 53]⟩ : ByteArray).extract 1 7) 32 = some [sizeFive] := by kernel_rfl
theorem parts_five : path_parts.f sizeFive = some (⟨#[115, 105, 122, 101]⟩, ⟨#[53]⟩, true, true) := by kernel_rfl
theorem number_five : text_Number.f ⟨#[53]⟩ 9 = some (5, 0) := by kernel_rfl

theorem say_at : sayVal ⟨#[115, 105, 122, 101]⟩ = .func (.func 159) #[] #[] := by kernel_rfl
theorem say_has : sayHas ⟨#[115, 105, 122, 101]⟩ = true := by kernel_rfl
set_option maxRecDepth 1000000 in
set_option maxHeartbeats 4000000 in
theorem params_size (w : World) (hG : Glob w) :
    Calls Tryz.prog 16 #[.string ⟨#[32, 83, 73, 90, 69, 61, 53]⟩] w fun e w' => e = .returned (.tuple #[.agg #[.bool true, .bool false, .int .i64 5], .int .i64 0]) ∧ Below w.heap.size w w' := by
  have HG := Aside0.mk hG
  clear hG
  go_enter Tryz.func16, Tryz.ntmps16
  go_wp2_with (first | (go_at_call 40; (with_reducible refine (text_Split.calls 5 ((⟨#[32, 83, 73, 90, 69, 61, 53]⟩ : ByteArray).extract 1 7) 32 [sizeFive] _ split_five).mono ?_); rintro e' w1 ⟨v0, rfl, hR, hb1⟩; obtain ⟨Ad, cp, rfl, hle, hC⟩ := Kd.R_reads hR; obtain ⟨ad, rfl, hcell⟩ := Kd.at_string hC 0 (by decide) (by decide); have BR1 := Aside0.mk (blk_below (blk_alloc (blk_new w (.cells #[.bool false, .bool false, .int .i64 0] 46)) _) hb1); have BP1 := Aside0.mk (blk_below (blk_new (w.alloc (.cells #[.bool false, .bool false, .int .i64 0] 46)) (.cells #[.bool false, .bool false, .int .i64 0] 46)) hb1); have HB1 := Aside0.mk (below_then (below_alloc (below_alloc (Below.refl _ _) _) _) (by simp; omega) hb1); clear hR hb1 hC hle; have hc0 : w1.cell? ad = some (.string sizeFive) := hcell; have hc1 : w1.cell? (ad.add 0) = some (.string sizeFive) := hcell; clear hcell))
  refine wp_loop_rounds 2 ?_
  rw [rounds_succ]
  obtain ⟨bm, hgc, hrun⟩ := says_run HG.out
  have HRUN := Aside0.mk hrun
  clear hrun
  have hg1 : w1.cell? ⟨0, 0, none⟩ = some (.map (some bm)) := pw_cell_below HB1.out hgc
  go_wp2_with (first | (go_at_call 41; (with_reducible refine (path_parts.calls sizeFive _ _ _ _ _ parts_five ?hGG).mono ?_); (case hGG => exact HG.out.below HB1.out); rintro e' w2 ⟨rfl, hb2⟩; have BR2 := Aside0.mk (blk_below BR1.out hb2); have BP2 := Aside0.mk (blk_below BP1.out hb2); have HB2 := Aside0.mk (then_below HB1.out hb2); have hg2 : w2.cell? ⟨0, 0, none⟩ = some (.map (some bm)) := pw_cell_below HB2.out hgc; have hl2 := HRUN.out w2 HB2.out ⟨#[115, 105, 122, 101]⟩ (by decide); rw [say_at, say_has] at hl2; clear hb2) | (go_at_call 42; (with_reducible refine (contains_nil ⟨#[115, 105, 122, 101]⟩ _).mono ?_); rintro e' w' ⟨rfl, rfl⟩) | (go_at_call 159; (with_reducible refine (say_size (w.heap.size + 1) false false 0 ⟨#[53]⟩ 5 0 _ ?hpb number_five).mono ?_); (case hpb => simpa using BP2.out); rintro e' w3 ⟨rfl, hp3, hbut⟩; have BR3 := Aside0.mk (hbut.blk BR2.out (by omega)); have BP3 := Aside0.mk hp3; have HB3 := Aside0.mk (HB2.out.trans (hbut.below (by omega) HB2.out.size)); clear hbut hp3; have pc0 : w3.cell? ⟨w.heap.size + 1, 0, none⟩ = some (.bool true) := (blk_cell BP3.out 0).trans rfl; have pc1 : w3.cell? ⟨w.heap.size + 1, 1, none⟩ = some (.bool false) := (blk_cell BP3.out 1).trans rfl; have pc2 : w3.cell? ⟨w.heap.size + 1, 2, none⟩ = some (.int .i64 5) := (blk_cell BP3.out 2).trans rfl; have rc0 : w3.cell? ⟨w.heap.size, 0, none⟩ = some (.bool false) := (blk_cell BR3.out 0).trans rfl; have rc1 : w3.cell? ⟨w.heap.size, 1, none⟩ = some (.bool false) := (blk_cell BR3.out 1).trans rfl; have rc2 : w3.cell? ⟨w.heap.size, 2, none⟩ = some (.int .i64 0) := (blk_cell BR3.out 2).trans rfl; have rf0 := blk_frozen BR3.out 0; have rf1 := blk_frozen BR3.out 1; have rf2 := blk_frozen BR3.out 2; have pf0 := blk_frozen BP3.out 0; have pf1 := blk_frozen BP3.out 1; have pf2 := blk_frozen BP3.out 2; have hz3 : w.heap.size + 1 < w3.heap.size := blk_lt BP3.out))
  have hb4 : ∀ o o', Below w3.heap.size w3 (World.drew (World.alloc (World.alloc w3 o) o')) := fun o o' => below_drew (below_alloc (below_alloc (Below.refl _ _) _) _)
  have HZ := Aside0.mk hz3
  clear hz3
  generalize hW4 : (World.drew (World.alloc (World.alloc w3 _) _)) = w4
  replace hb4 : Below w3.heap.size w3 w4 := hW4 ▸ hb4 _ _
  clear hW4 pc0 pc1 pc2 rc0 rc1 rc2 rf0 rf1 rf2 pf0 pf1 pf2
  have BR4 := Aside0.mk (blk_below BR3.out hb4); have BP4 := Aside0.mk (blk_below BP3.out hb4); have HB4 := Aside0.mk (then_below HB3.out hb4)
  clear hb4
  have pc0 : w4.cell? ⟨w.heap.size + 1, 0, none⟩ = some (.bool true) := (blk_cell BP4.out 0).trans rfl; have pc1 : w4.cell? ⟨w.heap.size + 1, 1, none⟩ = some (.bool false) := (blk_cell BP4.out 1).trans rfl; have pc2 : w4.cell? ⟨w.heap.size + 1, 2, none⟩ = some (.int .i64 5) := (blk_cell BP4.out 2).trans rfl; have rc0 : w4.cell? ⟨w.heap.size, 0, none⟩ = some (.bool false) := (blk_cell BR4.out 0).trans rfl; have rc1 : w4.cell? ⟨w.heap.size, 1, none⟩ = some (.bool false) := (blk_cell BR4.out 1).trans rfl; have rc2 : w4.cell? ⟨w.heap.size, 2, none⟩ = some (.int .i64 0) := (blk_cell BR4.out 2).trans rfl; have rf0 := blk_frozen BR4.out 0; have rf1 := blk_frozen BR4.out 1; have rf2 := blk_frozen BR4.out 2
  rw [rounds_succ]
  go_wp2
  refine bodyPost_ret (results_ct rfl _ _ w.heap.size 46 #[.bool true, .bool false, .int .i64 5] (0, 0) _ rfl (by exact blk_put (blk_put (blk_put BR4.out 0 (.bool true) rfl) 1 (.bool false) rfl) 2 (.int .i64 5) rfl) Tryz.underlying46 rfl (by kernel_rfl)) rfl ⟨rfl, ?_⟩
  exact below_set (below_set (below_set HB4.out (Nat.le_refl _)) (Nat.le_refl _)) (Nat.le_refl _)
/-- What path.ParseParams tells at the two texts. -/
def path_ParseParams.f (a0 : ByteArray) : Option (Bool × Bool × Int × Int) := if a0 = ⟨#[]⟩ then some (false, false, 0, 0) else if a0 = ⟨#[32, 83, 73, 90, 69, 61, 53]⟩ then some (true, false, 5, 0) else none
theorem path_ParseParams.calls (a0 : ByteArray) (r1 r2 : Bool) (r3 r4 : Int) (w : World) (h : path_ParseParams.f a0 = some (r1, r2, r3, r4)) (hG : Glob w) :
    Calls Tryz.prog 16 #[.string a0] w fun e w' => e = .returned (.tuple #[.agg #[.bool r1, .bool r2, .int .i64 r3], .int .i64 r4]) ∧ Below w.heap.size w w' := by
  unfold path_ParseParams.f at h
  split at h
  · rename_i ha
    subst ha
    simp only [Option.some.injEq, Prod.mk.injEq] at h
    obtain ⟨rfl, rfl, rfl, rfl⟩ := h
    exact params_none w
  · split at h
    · rename_i ha
      subst ha
      simp only [Option.some.injEq, Prod.mk.injEq] at h
      obtain ⟨rfl, rfl, rfl, rfl⟩ := h
      exact params_size w hG
    · cases h
end Go.Proofs.YtmhcdigneamgdaaGreatDoor.G

/- Walk of path.From where a path and its parameters are read. -/
namespace Go.Proofs.YtmhcdigneamgdaaGreatDoor.G
open Go.RowKit Go.Proofs.YtmhcdigneamgdaaGreatDoorW.PrintWords Go.Proofs.YtmhcdigneamgdaaGreatDoorW.PrintMore Go.Proofs.YtmhcdigneamgdaaGreatDoor.Qa Go.Proofs.YtmhcdigneamgdaaGreatDoor.Qb
attribute [local go_sem] max2_int max_two
set_option linter.unusedVariables false
set_option linter.unusedSimpArgs false

theorem blk_new2 (w : World) (o o' : Obj) : ((w.alloc o).alloc o').heap[w.heap.size + 1]? = some o' := by
  have h := blk_new (w.alloc o) o'
  rwa [World.size_alloc] at h
theorem three {w : World} {g t : Nat} {v0 v1 v2 : Value} (h : w.heap[g]? = some (.cells #[v0, v1, v2] t (0, 0))) :
    w.cell? ⟨g, 0, none⟩ = some v0 ∧ w.cell? ⟨g, 1, none⟩ = some v1 ∧ w.cell? ⟨g, 2, none⟩ = some v2 ∧ w.frozen? ⟨g, 0, none⟩ = false ∧ w.frozen? ⟨g, 1, none⟩ = false ∧ w.frozen? ⟨g, 2, none⟩ = false :=
  ⟨(blk_cell h 0).trans rfl, (blk_cell h 1).trans rfl, (blk_cell h 2).trans rfl, blk_frozen h 0, blk_frozen h 1, blk_frozen h 2⟩
set_option maxHeartbeats 8000000 in
set_option maxRecDepth 1000000 in
theorem from_ok (k : Nat) (a0 : ByteArray) (nul : Bool) (l : List ByteArray) (loc dom rest : ByteArray) (h e : Bool) (n : Int) (w : World) (hG : Glob w) (hp : path_Parse.f k a0 = some (nul, false, l, loc, dom, rest, 0)) (hq : path_ParseParams.f rest = some (h, e, n, 0)) :
    Calls Tryz.prog 17 #[.string a0] w fun E w' => ∃ v2_ : Value, E = .returned (.tuple #[.agg #[.bool nul, .bool false, v2_, .string loc, .string dom], .agg #[.bool h, .bool e, .int .i64 n], .int .i64 0]) ∧ Kd.R Kd.string 9 w' w.heap.size (fun _ => True) v2_ l ∧ Below w.heap.size w w' := by
  have HP := Aside0.mk hp
  have HQ := Aside0.mk hq
  have HG := Aside0.mk hG
  clear hp hq hG
  go_enter Tryz.func17, Tryz.ntmps17
  go_upto_region 9 with (first | (go_at_call 12; (with_reducible refine (path_Parse.calls k a0 nul false l loc dom rest 0 _ HP.out ?hGG).mono ?_); (case hGG => exact HG.out.below (below_alloc (below_alloc (Below.refl _ _) _) _)); rintro e' w1 ⟨v2, rfl, hR, hb1⟩; obtain ⟨Ad, cp, rfl, hle, hC⟩ := Kd.R_reads hR; have HR1 := Aside0.mk (Kd.R_lower hR (show w.heap.size ≤ _ by simp; omega)); clear hR hle hC; have BR1 := Aside0.mk (blk_below (blk_alloc (blk_new w (.cells #[.bool false, .bool false, .slice none 0 0, .string ⟨#[]⟩, .string ⟨#[]⟩] 26)) _) hb1); have BP1 := Aside0.mk (blk_below (blk_new2 w _ (.cells #[.bool false, .bool false, .int .i64 0] 46)) hb1); have HB1 := Aside0.mk (then_below (below_alloc (below_alloc (Below.refl _ _) _) _) hb1); clear hb1) | (go_at_call 16; (with_reducible refine (path_ParseParams.calls rest h e n 0 _ HQ.out ?hGG).mono ?_); (case hGG => exact HG.out.below (below_alloc HB1.out _)); rintro e' w2 ⟨rfl, hb2⟩; have BR2 := Aside0.mk (blk_below (blk_alloc BR1.out _) hb2); have BP2 := Aside0.mk (blk_below (blk_alloc BP1.out _) hb2); have BQ2 := Aside0.mk (blk_below (blk_new w1 _) hb2); have HR2 := Aside0.mk (Kd.R_below (Kd.R_alloc HR1.out _) hb2); have HB2 := Aside0.mk (then_below (below_alloc HB1.out _) hb2); clear hb2))
  have fresh : ∀ o, Below w.heap.size w (w2.alloc o) := fun o => below_alloc HB2.out o
  have BR3 := Aside0.mk (blk_alloc BR2.out (.cells #[.bool h, .bool e, .int .i64 n] 46))
  have BP3 := Aside0.mk (blk_alloc BP2.out (.cells #[.bool h, .bool e, .int .i64 n] 46))
  have BQ3 := Aside0.mk (blk_alloc BQ2.out (.cells #[.bool h, .bool e, .int .i64 n] 46))
  have BS3 := Aside0.mk (blk_new w2 (.cells #[.bool h, .bool e, .int .i64 n] 46))
  have HR3 := Aside0.mk (Kd.R_alloc HR2.out (.cells #[.bool h, .bool e, .int .i64 n] 46))
  have HB3 := Aside0.mk (fresh (.cells #[.bool h, .bool e, .int .i64 n] 46))
  have GR := Aside0.mk (blk_lt BR1.out)
  have GP := Aside0.mk (blk_lt BP1.out)
  have GS := Aside0.mk (blk_lt BR2.out)
  have GT := Aside0.mk (blk_lt BP2.out)
  clear BR2 BP2 BQ2 HR2 HB2 fresh
  generalize (w2.alloc (.cells #[.bool h, .bool e, .int .i64 n] 46)) = w3 at BR3 BP3 BQ3 BS3 HR3 HB3 ⊢
  have ne0 : w.heap.size ≠ w.heap.size + 1 := by omega
  have me0 : w.heap.size + 1 ≠ w.heap.size := fun h => ne0 h.symm
  have ne1 : w.heap.size ≠ w1.heap.size := Nat.ne_of_lt GR.out
  have me1 : w1.heap.size ≠ w.heap.size := fun h => ne1 h.symm
  have ne2 : w.heap.size ≠ w2.heap.size := Nat.ne_of_lt GS.out
  have me2 : w2.heap.size ≠ w.heap.size := fun h => ne2 h.symm
  have ne3 : w.heap.size + 1 ≠ w1.heap.size := Nat.ne_of_lt GP.out
  have me3 : w1.heap.size ≠ w.heap.size + 1 := fun h => ne3 h.symm
  have ne4 : w.heap.size + 1 ≠ w2.heap.size := Nat.ne_of_lt GT.out
  have me4 : w2.heap.size ≠ w.heap.size + 1 := fun h => ne4 h.symm
  obtain ⟨rc0, rc1, rc2, rc3, rc4, rf0, rf1, rf2, rf3, rf4⟩ := five BR3.out
  obtain ⟨qc0, qc1, qc2, qc3, qc4, qf0, qf1, qf2, qf3, qf4⟩ := five BQ3.out
  obtain ⟨pc0, pc1, pc2, pf0, pf1, pf2⟩ := three BP3.out
  obtain ⟨sc0, sc1, sc2, sf0, sf1, sf2⟩ := three BS3.out
  go_region
  all_goals go_wp2_with fail
  have b5 := Aside0.mk (blk5 BR3.out rfl (.bool nul) (.bool false) (.slice Ad l.length cp) (.string loc) (.string dom))
  have r5 := Aside0.mk (R5 HR3.out BR3.out (by decide) rfl (.bool nul) (.bool false) (.slice Ad l.length cp) (.string loc) (.string dom))
  have e5 := Aside0.mk (below5 HB3.out (Nat.le_refl _) (.bool nul) (.bool false) (.slice Ad l.length cp) (.string loc) (.string dom))
  have p5 := Aside0.mk (blk_far (blk_far (blk_far (blk_far (blk_far BP3.out (p := ⟨w.heap.size, 0, none⟩) me0 (.bool nul)) (p := ⟨w.heap.size, 1, none⟩) me0 (.bool false)) (p := ⟨w.heap.size, 2, none⟩) me0 (.slice Ad l.length cp)) (p := ⟨w.heap.size, 3, none⟩) me0 (.string loc)) (p := ⟨w.heap.size, 4, none⟩) me0 (.string dom))
  generalize (((((w3.setCell ⟨w.heap.size, 0, none⟩ (.bool nul)).setCell ⟨w.heap.size, 1, none⟩ (.bool false)).setCell ⟨w.heap.size, 2, none⟩ (.slice Ad l.length cp)).setCell ⟨w.heap.size, 3, none⟩ (.string loc)).setCell ⟨w.heap.size, 4, none⟩ (.string dom)) = w5 at b5 r5 e5 p5 ⊢
  have q0 := blk_put p5.out 0 (.bool h) rfl
  have q1 := blk_put q0 1 (.bool e) rfl
  refine bodyPost_ret (results_list (rs := [.cell 2 26, .cell 3 46, .tmp 4]) rfl (by simp)
    (.cell w.heap.size 26 #[.bool nul, .bool false, .slice Ad l.length cp, .string loc, .string dom] (0, 0) _ rfl (by exact blk_drew (blk_far (blk_far (blk_far b5.out (by exact ne0) _) (by exact ne0) _) (by exact ne0) _)) Tryz.underlying26 rfl (by kernel_rfl)
      (.cell (w.heap.size + 1) 46 #[.bool h, .bool e, .int .i64 n] (0, 0) _ rfl (by exact blk_drew (blk_put q1 2 (.int .i64 n) rfl)) Tryz.underlying46 rfl (by kernel_rfl) (.tmp .nil)))) rfl ⟨_, rfl, ?_, ?_⟩
  · exact Kd.R_drew (R1 (R1 (R1 r5.out p5.out (by decide) 0 _) q0 (by decide) 1 _) q1 (by decide) 2 _)
  · exact below_drew (below_set (below_set (below_set e5.out (Nat.le_succ _)) (Nat.le_succ _)) (Nat.le_succ _))
end Go.Proofs.YtmhcdigneamgdaaGreatDoor.G

/- Walks of path.To at paths without parameters behind them, and of the chapter's rows (postriderlaw06.tells). -/
namespace Go.Proofs.YtmhcdigneamgdaaGreatDoor.G
open Go.RowKit Go.Proofs.YtmhcdigneamgdaaGreatDoorW.PrintWords Go.Proofs.YtmhcdigneamgdaaGreatDoorW.PrintMore Go.Proofs.YtmhcdigneamgdaaGreatDoor.Qa Go.Proofs.YtmhcdigneamgdaaGreatDoor.Qb
attribute [local go_sem] max2_int max_two
set_option linter.unusedVariables false
set_option linter.unusedSimpArgs false

set_option maxHeartbeats 8000000 in
set_option maxRecDepth 1000000 in
theorem to_null (k : Nat) (a0 : ByteArray) (post : Bool) (l : List ByteArray) (loc dom rest : ByteArray) (w : World) (hG : Glob w) (hp : path_Parse.f k a0 = some (true, post, l, loc, dom, rest, 0)) :
    Calls Tryz.prog 18 #[.string a0] w fun e w' => e = .returned (.tuple #[.agg #[.bool false, .bool false, .slice none 0 0, .string ⟨#[]⟩, .string ⟨#[]⟩], .int .i64 5]) ∧ Below w.heap.size w w' := by
  have HP := Aside0.mk hp
  have HG := Aside0.mk hG
  clear hp hG
  go_enter Tryz.func18, Tryz.ntmps18
  go_wp2_with (go_at_call 12; (with_reducible refine (path_Parse.calls k a0 true post l loc dom rest 0 _ HP.out ?hGG).mono ?_); (case hGG => exact HG.out.below (below_alloc (Below.refl _ _) _)); rintro e' w1 ⟨v2, rfl, hR, hb1⟩; obtain ⟨Ad, cp, rfl, hle, hC⟩ := Kd.R_reads hR; have HR1 := Aside0.mk (Kd.R_lower hR (show w.heap.size ≤ _ by simp)); clear hR hle hC; have BR1 := Aside0.mk (blk_below (blk_new w (.cells #[.bool false, .bool false, .slice none 0 0, .string ⟨#[]⟩, .string ⟨#[]⟩] 26)) hb1); have HB1 := Aside0.mk (below_then (below_alloc (Below.refl _ _) _) (by simp) hb1); clear hb1; have rc0 : w1.cell? ⟨w.heap.size, 0, none⟩ = some (.bool false) := (blk_cell BR1.out 0).trans rfl; have rf0 := blk_frozen BR1.out 0; have rc1 : w1.cell? ⟨w.heap.size, 1, none⟩ = some (.bool false) := (blk_cell BR1.out 1).trans rfl; have rf1 := blk_frozen BR1.out 1; have rc2 : w1.cell? ⟨w.heap.size, 2, none⟩ = some (.slice none 0 0) := (blk_cell BR1.out 2).trans rfl; have rf2 := blk_frozen BR1.out 2; have rc3 : w1.cell? ⟨w.heap.size, 3, none⟩ = some (.string ⟨#[]⟩) := (blk_cell BR1.out 3).trans rfl; have rf3 := blk_frozen BR1.out 3; have rc4 : w1.cell? ⟨w.heap.size, 4, none⟩ = some (.string ⟨#[]⟩) := (blk_cell BR1.out 4).trans rfl; have rf4 := blk_frozen BR1.out 4; have hz1 : w.heap.size < w1.heap.size := blk_lt BR1.out; have hne : w.heap.size ≠ w1.heap.size := Nat.ne_of_lt hz1)
  refine bodyPost_ret (results_ct rfl _ _ w.heap.size 26 #[.bool false, .bool false, .slice none 0 0, .string ⟨#[]⟩, .string ⟨#[]⟩] (0, 0) _ rfl (by exact blk_alloc (blk5 BR1.out rfl _ _ _ _ _) _) Tryz.underlying26 rfl (by kernel_rfl)) rfl ⟨rfl, ?_⟩
  exact below_alloc (below5 HB1.out (Nat.le_refl _) _ _ _ _ _) _
set_option maxHeartbeats 8000000 in
set_option maxRecDepth 1000000 in
theorem to_ok (k : Nat) (a0 : ByteArray) (post : Bool) (l : List ByteArray) (loc dom : ByteArray) (w : World) (hG : Glob w) (hp : path_Parse.f k a0 = some (false, post, l, loc, dom, ⟨#[]⟩, 0)) :
    Calls Tryz.prog 18 #[.string a0] w fun e w' => ∃ v2_ : Value, e = .returned (.tuple #[.agg #[.bool false, .bool post, v2_, .string loc, .string dom], .int .i64 0]) ∧ Kd.R Kd.string 9 w' w.heap.size (fun _ => True) v2_ l ∧ Below w.heap.size w w' := by
  have HP := Aside0.mk hp
  have HG := Aside0.mk hG
  clear hp hG
  go_enter Tryz.func18, Tryz.ntmps18
  go_wp2_with (go_at_call 12; (with_reducible refine (path_Parse.calls k a0 false post l loc dom ⟨#[]⟩ 0 _ HP.out ?hGG).mono ?_); (case hGG => exact HG.out.below (below_alloc (Below.refl _ _) _)); rintro e' w1 ⟨v2, rfl, hR, hb1⟩; obtain ⟨Ad, cp, rfl, hle, hC⟩ := Kd.R_reads hR; have HR1 := Aside0.mk (Kd.R_lower hR (show w.heap.size ≤ _ by simp)); clear hR hle hC; have BR1 := Aside0.mk (blk_below (blk_new w (.cells #[.bool false, .bool false, .slice none 0 0, .string ⟨#[]⟩, .string ⟨#[]⟩] 26)) hb1); have HB1 := Aside0.mk (below_then (below_alloc (Below.refl _ _) _) (by simp) hb1); clear hb1; have rc0 : w1.cell? ⟨w.heap.size, 0, none⟩ = some (.bool false) := (blk_cell BR1.out 0).trans rfl; have rf0 := blk_frozen BR1.out 0; have rc1 : w1.cell? ⟨w.heap.size, 1, none⟩ = some (.bool false) := (blk_cell BR1.out 1).trans rfl; have rf1 := blk_frozen BR1.out 1; have rc2 : w1.cell? ⟨w.heap.size, 2, none⟩ = some (.slice none 0 0) := (blk_cell BR1.out 2).trans rfl; have rf2 := blk_frozen BR1.out 2; have rc3 : w1.cell? ⟨w.heap.size, 3, none⟩ = some (.string ⟨#[]⟩) := (blk_cell BR1.out 3).trans rfl; have rf3 := blk_frozen BR1.out 3; have rc4 : w1.cell? ⟨w.heap.size, 4, none⟩ = some (.string ⟨#[]⟩) := (blk_cell BR1.out 4).trans rfl; have rf4 := blk_frozen BR1.out 4; have hz1 : w.heap.size < w1.heap.size := blk_lt BR1.out; have hne : w.heap.size ≠ w1.heap.size := Nat.ne_of_lt hz1)
  refine bodyPost_ret (results_ct rfl _ _ w.heap.size 26 #[.bool false, .bool post, .slice Ad l.length cp, .string loc, .string dom] (0, 0) _ rfl (by exact blk_alloc (blk5 BR1.out rfl _ _ _ _ _) _) Tryz.underlying26 rfl (by kernel_rfl)) rfl ⟨_, rfl, ?_, ?_⟩
  · exact Kd.R_alloc (R5 HR1.out BR1.out (by decide) rfl _ _ _ _ _) _
  · exact below_alloc (below5 HB1.out (Nat.le_refl _) _ _ _ _ _) _
end Go.Proofs.YtmhcdigneamgdaaGreatDoor.G

/- The chapter's rows (postriderlaw06.tells): what the calls give there. -/
namespace Go.Proofs.YtmhcdigneamgdaaGreatDoor.G
open Go.RowKit Go.Proofs.YtmhcdigneamgdaaGreatDoorW.PrintWords Go.Proofs.YtmhcdigneamgdaaGreatDoorW.PrintMore Go.Proofs.YtmhcdigneamgdaaGreatDoor.Qa Go.Proofs.YtmhcdigneamgdaaGreatDoor.Qb
set_option linter.unusedVariables false
set_option linter.unusedSimpArgs false
theorem row1 : path_Parse.f 20 ⟨#[60, 97, 64, 98, 46, 99, 62, 32, 83, 73, 90, 69, 61, 53]⟩ = some (false, false, [], ⟨#[97]⟩, ⟨#[98, 46, 99]⟩, ⟨#[32, 83, 73, 90, 69, 61, 53]⟩, 0) := by kernel_rfl
theorem row2 : path_Parse.f 20 ⟨#[60, 64, 120, 44, 64, 121, 58, 97, 64, 98, 46, 99, 62]⟩ = some (false, false, [⟨#[120]⟩, ⟨#[121]⟩], ⟨#[97]⟩, ⟨#[98, 46, 99]⟩, ⟨#[]⟩, 0) := by kernel_rfl
theorem row3 : path_Parse.f 20 ⟨#[60, 62]⟩ = some (true, false, [], ⟨#[]⟩, ⟨#[]⟩, ⟨#[]⟩, 0) := by kernel_rfl
theorem par1 : path_ParseParams.f ⟨#[32, 83, 73, 90, 69, 61, 53]⟩ = some (true, false, 5, 0) := by kernel_rfl
theorem par2 : path_ParseParams.f ⟨#[]⟩ = some (false, false, 0, 0) := by kernel_rfl
theorem row4 : path_Parse.f 20 ⟨#[60, 112, 111, 115, 116, 77, 97, 115, 116, 101, 114, 62]⟩ = some (false, true, [], ⟨#[]⟩, ⟨#[]⟩, ⟨#[]⟩, 0) := by kernel_rfl
theorem row5 : path_Parse.f 20 ⟨#[60, 62]⟩ = some (true, false, [], ⟨#[]⟩, ⟨#[]⟩, ⟨#[]⟩, 0) := by kernel_rfl
set_option maxHeartbeats 8000000 in
set_option maxRecDepth 1000000 in
theorem tells_true (w : World) (hG : Glob w) :
    Calls Tryz.prog 10 #[] w fun e w' => e = .returned (.bool true) ∧ Below w.heap.size w w' := by
  have HG := Aside0.mk hG
  clear hG
  go_enter Tryz.func10, Tryz.ntmps10
  go_upto_region 6 with (first | (go_at_call 17; (with_reducible refine (from_ok 20 _ _ _ _ _ _ _ _ _ _ ?hGG row1 par1).mono ?_); (case hGG => exact HG.out.below (Below.refl _ _)); rintro e' w1 ⟨v1, rfl, hR, hb⟩; obtain ⟨Ad1, cp1, rfl, hle, hC⟩ := Kd.R_reads hR; have HB1 := Aside0.mk hb; clear hR hb hle hC) | (go_at_call 17; (with_reducible refine (from_ok 20 _ _ _ _ _ _ _ _ _ _ ?hGG row2 par2).mono ?_); (case hGG => exact HG.out.below (below_alloc (below_alloc HB1.out _) _)); rintro e' w2 ⟨v2, rfl, hR, hb⟩; obtain ⟨Ad2, cp2, rfl, hle, hC⟩ := Kd.R_reads hR; have BA2 := Aside0.mk (blk_below (blk_alloc (blk_new w1 _) _) hb); have BB2 := Aside0.mk (blk_below (blk_new2 w1 _ _) hb); have HB2 := Aside0.mk (then_below (below_alloc (below_alloc HB1.out _) _) hb); have HR2 := Aside0.mk (Kd.R_lower hR (show w.heap.size ≤ _ from (below_alloc (below_alloc HB1.out _) _).size)); clear hR hb hle hC) | (go_at_call 17; (with_reducible refine (from_ok 20 _ _ _ _ _ _ _ _ _ _ ?hGG row3 par2).mono ?_); (case hGG => exact HG.out.below (below_alloc (below_alloc HB2.out _) _)); rintro e' w3 ⟨v3, rfl, hR, hb⟩; obtain ⟨Ad3, cp3, rfl, hle, hC⟩ := Kd.R_reads hR; have BA3 := Aside0.mk (blk_below (blk_alloc (blk_alloc BA2.out _) _) hb); have BB3 := Aside0.mk (blk_below (blk_alloc (blk_alloc BB2.out _) _) hb); have BC3 := Aside0.mk (blk_below (blk_alloc (blk_new w2 _) _) hb); have HB3 := Aside0.mk (then_below (below_alloc (below_alloc HB2.out _) _) hb); have HR3 := Aside0.mk (Kd.R_below (Kd.R_alloc (Kd.R_alloc HR2.out _) _) hb); clear hR hb hle hC) | (go_at_call 18; (with_reducible refine (to_ok 20 _ _ _ _ _ _ ?hGG row4).mono ?_); (case hGG => exact HG.out.below (below_alloc (below_alloc HB3.out _) _)); rintro e' w4 ⟨v4, rfl, hR, hb⟩; obtain ⟨Ad4, cp4, rfl, hle, hC⟩ := Kd.R_reads hR; have BA4 := Aside0.mk (blk_below (blk_alloc (blk_alloc BA3.out _) _) hb); have BB4 := Aside0.mk (blk_below (blk_alloc (blk_alloc BB3.out _) _) hb); have BC4 := Aside0.mk (blk_below (blk_alloc (blk_alloc BC3.out _) _) hb); have BD4 := Aside0.mk (blk_below (blk_alloc (blk_new w3 _) _) hb); have HB4 := Aside0.mk (then_below (below_alloc (below_alloc HB3.out _) _) hb); have HR4 := Aside0.mk (Kd.R_below (Kd.R_alloc (Kd.R_alloc HR3.out _) _) hb); clear hR hb hle hC) | (go_at_call 18; (with_reducible refine (to_null 20 _ _ _ _ _ _ _ ?hGG row5).mono ?_); (case hGG => exact HG.out.below (below_alloc HB4.out _)); rintro e' w5 ⟨rfl, hb⟩; have BA5 := Aside0.mk (blk_below (blk_alloc BA4.out _) hb); have BB5 := Aside0.mk (blk_below (blk_alloc BB4.out _) hb); have BC5 := Aside0.mk (blk_below (blk_alloc BC4.out _) hb); have BD5 := Aside0.mk (blk_below (blk_alloc BD4.out _) hb); have BE5 := Aside0.mk (blk_below (blk_new w4 _) hb); have HB5 := Aside0.mk (then_below (below_alloc HB4.out _) hb); have HR5 := Aside0.mk (Kd.R_below (Kd.R_alloc HR4.out _) hb); clear hb))
  have fresh : ∀ o, Below w.heap.size w (w5.alloc o) := fun o => below_alloc HB5.out o
  have BA6 := Aside0.mk (blk_alloc BA5.out (.cells #[.bool false, .bool false, .slice none 0 0, .string ⟨#[]⟩, .string ⟨#[]⟩] 26))
  have BB6 := Aside0.mk (blk_alloc BB5.out (.cells #[.bool false, .bool false, .slice none 0 0, .string ⟨#[]⟩, .string ⟨#[]⟩] 26))
  have BC6 := Aside0.mk (blk_alloc BC5.out (.cells #[.bool false, .bool false, .slice none 0 0, .string ⟨#[]⟩, .string ⟨#[]⟩] 26))
  have BD6 := Aside0.mk (blk_alloc BD5.out (.cells #[.bool false, .bool false, .slice none 0 0, .string ⟨#[]⟩, .string ⟨#[]⟩] 26))
  have BE6 := Aside0.mk (blk_alloc BE5.out (.cells #[.bool false, .bool false, .slice none 0 0, .string ⟨#[]⟩, .string ⟨#[]⟩] 26))
  have HB6 := Aside0.mk (fresh (.cells #[.bool false, .bool false, .slice none 0 0, .string ⟨#[]⟩, .string ⟨#[]⟩] 26))
  have HR6 := Aside0.mk (Kd.R_alloc HR5.out (.cells #[.bool false, .bool false, .slice none 0 0, .string ⟨#[]⟩, .string ⟨#[]⟩] 26))
  clear BA5 BB5 BC5 BD5 BE5 HB5 HR5 fresh
  generalize (w5.alloc (.cells #[.bool false, .bool false, .slice none 0 0, .string ⟨#[]⟩, .string ⟨#[]⟩] 26)) = w6 at BA6 BB6 BC6 BD6 BE6 HB6 HR6 ⊢
  obtain ⟨ad, e0, hcell⟩ := Kd.at_string (Kd.R_reads' HR6.out).2.2 1 (by decide) (by decide)
  cases e0
  have hc1 : w6.cell? (ad.add 1) = some (.string ⟨#[121]⟩) := hcell
  have hc2 : w6.cell? ⟨ad.block, ad.off + 1, none⟩ = some (.string ⟨#[121]⟩) := hcell
  clear hcell
  have cBA3 := (blk_cell BA6.out 3).trans rfl
  have cBA4 := (blk_cell BA6.out 4).trans rfl
  have cBB0 := (blk_cell BB6.out 0).trans rfl
  have cBB2 := (blk_cell BB6.out 2).trans rfl
  have cBC2 := (blk_cell BC6.out 2).trans rfl
  have cBD0 := (blk_cell BD6.out 0).trans rfl
  have cBE1 := (blk_cell BE6.out 1).trans rfl
  go_wp2
  go_ret
  exact ⟨rfl, HB6.out⟩
def postriderlaw06_tells.f : Option Bool := some true
theorem postriderlaw06_tells.calls (r : Bool) (w : World) (h : postriderlaw06_tells.f = some r) (hG : Glob w) :
    Calls Tryz.prog 10 #[] w fun e w' => e = .returned (.bool r) ∧ Below w.heap.size w w' := by
  obtain rfl := Option.some.inj h
  exact tells_true w hG
end Go.Proofs.YtmhcdigneamgdaaGreatDoor.G
