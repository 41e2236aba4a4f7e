/- A part of the proof: XT10, XT11, XT12, XT13, XT14, XT15, XT16, XT17, XT18, XT19, XT20. -/
import Derived.Test.YtncecheccihjoaaP2
/- T10 -/
namespace Go.Proofs.Ytncecheccihjoaa.TT10
open Go Go.Proofs.Fw Go.Shelf
theorem en101 : Enters Go.Proofs.Try.prog 101 := enters_of Go.Proofs.Try.func101 (by kernel_rfl) rfl
theorem en102 : Enters Go.Proofs.Try.prog 102 := enters_of Go.Proofs.Try.func102 (by kernel_rfl) rfl
theorem en126 : Enters Go.Proofs.Try.prog 126 := enters_of Go.Proofs.Try.func126 (by kernel_rfl) rfl
theorem en147 : Enters Go.Proofs.Try.prog 147 := enters_of Go.Proofs.Try.func147 (by kernel_rfl) rfl
theorem en166 : Enters Go.Proofs.Try.prog 166 := enters_of Go.Proofs.Try.func166 (by kernel_rfl) rfl
theorem en175 : Enters Go.Proofs.Try.prog 175 := enters_of Go.Proofs.Try.func175 (by kernel_rfl) rfl
theorem en20 : Enters Go.Proofs.Try.prog 20 := enters_of Go.Proofs.Try.func20 (by kernel_rfl) rfl
theorem en21 : Enters Go.Proofs.Try.prog 21 := enters_of Go.Proofs.Try.func21 (by kernel_rfl) rfl
theorem en52 : Enters Go.Proofs.Try.prog 52 := enters_of Go.Proofs.Try.func52 (by kernel_rfl) rfl
theorem en66 : Enters Go.Proofs.Try.prog 66 := enters_of Go.Proofs.Try.func66 (by kernel_rfl) rfl
theorem fl38_0 : fldI Go.Proofs.Try.prog 38 0 = some 0 := by kernel_rfl
theorem fl38_5 : fldI Go.Proofs.Try.prog 38 5 = some 7 := by kernel_rfl
theorem fl50_0 : fldI Go.Proofs.Try.prog 50 0 = some 0 := by kernel_rfl
theorem fl50_1 : fldI Go.Proofs.Try.prog 50 1 = some 1 := by kernel_rfl
theorem fl50_2 : fldI Go.Proofs.Try.prog 50 2 = some 9 := by kernel_rfl
theorem fl50_3 : fldI Go.Proofs.Try.prog 50 3 = some 10 := by kernel_rfl
theorem mixed : Go.Proofs.Try.prog.follows .mixedOrders = true := by kernel_rfl
theorem sl28 : sliI Go.Proofs.Try.prog 28 = some (50, 11, 144) := by kernel_rfl
theorem sl36 : sliI Go.Proofs.Try.prog 36 = some (116, 2, 24) := by kernel_rfl
theorem sl48 : sliI Go.Proofs.Try.prog 48 = some (38, 8, 104) := by kernel_rfl
theorem ty2 : tyI Go.Proofs.Try.prog 2 = some (1, false) := by kernel_rfl
theorem ty35 : tyI Go.Proofs.Try.prog 35 = some (3, true) := by kernel_rfl
theorem ty36 : tyI Go.Proofs.Try.prog 36 = some (1, false) := by kernel_rfl
theorem ty38 : tyI Go.Proofs.Try.prog 38 = some (8, true) := by kernel_rfl
theorem ty47 : tyI Go.Proofs.Try.prog 47 = some (1, false) := by kernel_rfl
theorem ty48 : tyI Go.Proofs.Try.prog 48 = some (1, false) := by kernel_rfl
theorem ty50 : tyI Go.Proofs.Try.prog 50 = some (11, true) := by kernel_rfl
theorem u180 : Go.Proofs.Try.prog.underlying 180 = some (.int .u64) := by kernel_rfl
theorem u28 : Go.Proofs.Try.prog.underlying 28 = some (.slice 50) := by kernel_rfl
theorem u3 : Go.Proofs.Try.prog.underlying 3 = some (.int .i64) := by kernel_rfl
theorem u36 : Go.Proofs.Try.prog.underlying 36 = some (.slice 116) := by kernel_rfl
theorem u48 : Go.Proofs.Try.prog.underlying 48 = some (.slice 38) := by kernel_rfl
theorem z116 : zI Go.Proofs.Try.prog 116 = some (.agg #[(.string ⟨#[]⟩), (.int .i64 0)]) := by kernel_rfl
theorem z38 : zI Go.Proofs.Try.prog 38 = some (.agg #[(.string ⟨#[]⟩), (.string ⟨#[]⟩), (.string ⟨#[]⟩), (.int .i64 0), (.string ⟨#[]⟩), (.bool false), (.bool false), (.slice none 0 0)]) := by kernel_rfl
theorem z50 : zI Go.Proofs.Try.prog 50 = some (.agg #[(.int .i64 0), (.string ⟨#[]⟩), (.string ⟨#[]⟩), (.string ⟨#[]⟩), (.int .i64 0), (.string ⟨#[]⟩), (.bool false), (.bool false), (.slice none 0 0), (.int .i64 0), (.slice none 0 0)]) := by kernel_rfl
end Go.Proofs.Ytncecheccihjoaa.TT10
namespace Go.Proofs.Ytncecheccihjoaa
open Go Go.Proofs.Fw Go.Proofs
set_option linter.unusedVariables false
set_option linter.unusedSimpArgs false
set_option maxRecDepth 20000
set_option maxHeartbeats 4000000
def SymC (N : Nat) : Prop := ∀ (l : List Object) (rs : List AV) (b n cap lo m hi : Nat) (H : AH), (∀ o ∈ l, keyFits o.key) → n = l.length → hi ≤ n → n ≤ 1000000 → lo < m → m < hi → SortedR l lo m → SortedR l m hi → hi - lo < N →
  ACalls Try.prog [] 147 [.mslice b 0 n cap, .int .i64 lo, .int .i64 m, .int .i64 hi, .func (.func 101) [] []] ((b, .row (rowOf encObj l rs) 38) :: H) (fun _ H' => ∃ l', Within l l' lo hi ∧ SortedR l' lo hi ∧ H' = (b, .row (rowOf encObj l' rs) 38) :: H)

theorem symMerge_step (N : Nat) (ih : SymC N) (l : List Object) (rs : List AV) (b n cap lo m hi : Nat) (H : AH) (hk : ∀ o ∈ l, keyFits o.key) (hn : n = l.length) (hh : hi ≤ n) (hb : n ≤ 1000000) (h1 : lo < m) (h2 : m < hi) (s1 : SortedR l lo m) (s2 : SortedR l m hi) (hN : hi - lo < N + 1) : ACalls Try.prog [] 147 [.mslice b 0 n cap, .int .i64 lo, .int .i64 m, .int .i64 hi, .func (.func 101) [] []] ((b, .row (rowOf encObj l rs) 38) :: H) (fun _ H' => ∃ l', Within l l' lo hi ∧ SortedR l' lo hi ∧ H' = (b, .row (rowOf encObj l' rs) 38) :: H) := by
  refine ACalls.enter (n := 220) Try.func147 rfl rfl (Nat.le_of_ble_eq_true rfl) ?_
  refine AS.seq ?_
  refine AS.seq ?_
  refine AS.region rfl ?_
  refine AS.move rfl rfl rfl rfl ?_
  refine AS.move rfl rfl rfl rfl ?_
  refine AS.bin rfl rfl rfl rfl rfl (BinR.sub (c := ((m - lo : Nat) : Int)) (by rw [w64 (by omega) (by omega)]; omega)) ?_
  refine AS.bin rfl rfl rfl rfl rfl (BinR.eql rfl) ?_
  refine AS.opsEnd ?_
  refine AS.cond rfl (fun hc0 => ?_) (fun hc0 => ?_)
  · have e0 : m = lo + 1 := by simp only [decide_eq_true_eq] at hc0; omega
    refine AS.seq ?_
    refine AS.region rfl ?_
    refine AS.move rfl rfl rfl rfl ?_
    refine AS.assign rfl rfl rfl rfl ?_
    refine AS.opsEnd ?_
    refine AS.seq ?_
    refine AS.region rfl ?_
    refine AS.move rfl rfl rfl rfl ?_
    refine AS.assign rfl rfl rfl rfl ?_
    refine AS.opsEnd ?_
    refine AS.seq ?_
    refine AS.block ?_
    refine AS.loopI (α := Nat × Nat) (fun s => m ≤ s.1 ∧ s.1 ≤ s.2 ∧ s.2 ≤ hi ∧ (s.1 = m ∨ ∃ x y, l[s.1 - 1]? = some x ∧ l[lo]? = some y ∧ keyLess x.key y.key = true) ∧ (s.2 = hi ∨ ∃ x y, l[s.2]? = some x ∧ l[lo]? = some y ∧ keyLess x.key y.key = false)) (fun s => s.2 - s.1) (fun s => [(10, .int .i64 s.1), (11, .int .i64 s.2)]) [(0, _), (1, _), (4, _)] (fun s => (b, .row (rowOf encObj l rs) 38) :: H) (m, hi) ⟨Nat.le_refl _, by dsimp only; omega, Nat.le_refl _, .inl rfl, .inl rfl⟩ (.cons rfl (.cons rfl (.cons rfl (.cons rfl (.cons rfl (.nil)))))) rfl (fun s hI l0_ih => ?_)
    obtain ⟨i, j⟩ := s
    dsimp only at hI l0_ih ⊢
    obtain ⟨i1, i2, i3, i4, i5⟩ := hI
    refine AS.seq ?_
    refine AS.seq ?_
    refine AS.region rfl ?_
    refine AS.move rfl rfl rfl rfl ?_
    refine AS.move rfl rfl rfl rfl ?_
    refine AS.bin rfl rfl rfl rfl rfl (BinR.lss rfl) ?_
    refine AS.opsEnd ?_
    refine AS.cond rfl (fun hc1 => ?_) (fun hc1 => ?_)
    · have hij : i < j := by simp only [decide_eq_true_eq] at hc1; omega
      have hu0 : IntKind.i64.wrap ((i : Int) + (j : Int)) = ((i + j : Nat) : Int) := by rw [w64 (by omega) (by omega)]; omega
      have hu1 : IntKind.u64.wrap ((i + j : Nat) : Int) = ((i + j : Nat) : Int) := IntWalk.u64_in _ ⟨by omega, by omega⟩
      have hu2 : ((i + j : Nat) : Int) / 2 ^ (1 : Int).toNat = (((i + j) / 2 : Nat) : Int) := by show _ / (2 ^ 1 : Int) = _; omega
      have hu3 : IntKind.i64.wrap (((i + j) / 2 : Nat) : Int) = (((i + j) / 2 : Nat) : Int) := w64 (by omega) (by omega)
      obtain ⟨x, hx⟩ := getSome (l := l) (i := (i + j) / 2) (by omega)
      obtain ⟨y, hy⟩ := getSome (l := l) (i := lo) (by omega)
      have hb1 : (i + j) / 2 < n := by omega
      have hb2 : lo < n := by omega
      refine AS.skip ?_
      refine AS.block ?_
      refine AS.seq ?_
      refine AS.region rfl ?_
      refine AS.move rfl rfl rfl rfl ?_
      refine AS.move rfl rfl rfl rfl ?_
      refine AS.bin rfl rfl rfl rfl rfl (BinR.add hu0) ?_
      refine AS.convInt rfl rfl rfl rfl TT10.u3 TT10.u180 hu1 ?_
      refine AS.bin rfl rfl rfl rfl rfl (BinR.shr (by decide) (by decide) hu2) ?_
      refine AS.convInt rfl rfl rfl rfl TT10.u180 TT10.u3 hu3 ?_
      refine AS.assign rfl rfl rfl rfl ?_
      refine AS.opsEnd ?_
      refine AS.seq ?_
      refine SA.start1 TT10.mixed rfl ?_
      refine SA.rd 0 [4] rfl (fun env rest next => AS.move rfl rfl rfl rfl next) ?_
      refine SA.rd 1 [0] rfl (fun env rest next => AS.move rfl rfl rfl rfl next) ?_
      refine SA.rd 2 [12] rfl (fun env rest next => AS.move rfl rfl rfl rfl next) ?_
      refine SA.rd 3 [41, 42] rfl (fun env rest next => AS.rowAddr rfl rfl rfl rfl rfl TT10.sl48 ((i + j) / 2) rfl hb1 next) ?_
      refine SA.rd 4 [43] rfl (fun env rest next => AS.loadAt (enc := encObj) rfl rfl rfl rfl TT10.ty38 encObj_sz (fun _ => rfl) hx next) ?_
      refine SA.rd 5 [0] rfl (fun env rest next => AS.move rfl rfl rfl rfl next) ?_
      refine SA.rd 6 [1] rfl (fun env rest next => AS.move rfl rfl rfl rfl next) ?_
      refine SA.rd 7 [45, 46] rfl (fun env rest next => AS.rowAddr rfl rfl rfl rfl rfl TT10.sl48 lo rfl hb2 next) ?_
      refine SA.rd 8 [47] rfl (fun env rest next => AS.loadAt (enc := encObj) rfl rfl rfl rfl TT10.ty38 encObj_sz (fun _ => rfl) hy next) ?_
      refine SA.rd 9 [40, 44, 48] rfl (fun env rest next => AS.callVP rfl rfl rfl rfl rfl TT10.en101 (cmp_spec x y _ (hk _ (List.mem_of_getElem? hx)) (hk _ (List.mem_of_getElem? hy))) next) ?_
      refine SA.rd 10 [49] rfl (fun env rest next => AS.bin rfl rfl rfl rfl rfl (BinR.lss rfl) next) ?_
      refine SA.done rfl rfl rfl ?_
      refine AS.cond rfl (fun hc2 => ?_) (fun hc2 => ?_)
      · rw [cmp_lt] at hc2
        refine AS.region rfl ?_
        refine AS.move rfl rfl rfl rfl ?_
        refine AS.bin rfl rfl rfl rfl rfl (BinR.add (c := (((i + j) / 2 + 1 : Nat) : Int)) (by rw [w64 (by omega) (by omega)]; omega)) ?_
        refine AS.assign rfl rfl rfl rfl ?_
        refine AS.opsEnd ?_
        refine AS.inBlock ?_
        exact AS.nextI (l0_ih ((i + j) / 2 + 1, j) ⟨by dsimp only; omega, by dsimp only; omega, i3, .inr ⟨x, y, by dsimp only; rw [Nat.add_sub_cancel]; exact hx, hy, hc2⟩, i5⟩ (by dsimp only; omega)) [] (.cons rfl (.cons rfl (.cons rfl (.cons rfl (.cons rfl (.nil)))))) rfl
      · rw [cmp_lt] at hc2
        refine AS.region rfl ?_
        refine AS.move rfl rfl rfl rfl ?_
        refine AS.assign rfl rfl rfl rfl ?_
        refine AS.opsEnd ?_
        refine AS.inBlock ?_
        exact AS.nextI (l0_ih (i, (i + j) / 2) ⟨i1, by dsimp only; omega, by dsimp only; omega, i4, .inr ⟨x, y, hx, hy, hc2⟩⟩ (by dsimp only; omega)) [] (.cons rfl (.cons rfl (.cons rfl (.cons rfl (.cons rfl (.nil)))))) rfl
    · have hij : i = j := by simp only [decide_eq_false_iff_not] at hc1; omega
      subst hij
      refine AS.exit rfl ?_
      refine AS.seq ?_
      refine AS.seq ?_
      refine AS.region rfl ?_
      refine AS.move rfl rfl rfl rfl ?_
      refine AS.assign rfl rfl rfl rfl ?_
      refine AS.opsEnd ?_
      refine AS.block ?_
      refine AS.loopI (α := Nat × List Object) (fun s => lo ≤ s.1 ∧ s.1 ≤ i - 1 ∧ s.2.length = l.length ∧ s.2.Perm l ∧ ∀ p, s.2[p]? = l[upAt lo s.1 p]?) (fun s => i - 1 - s.1) (fun s => [(13, .int .i64 s.1)]) [(0, _), (10, _)] (fun s => (b, .row (rowOf encObj s.2 rs) 38) :: H) (lo, l) ⟨Nat.le_refl _, by dsimp only; omega, rfl, .refl _, up_start l lo⟩ (.cons rfl (.cons rfl (.cons rfl (.nil)))) rfl (fun s hI l1_ih => ?_)
      obtain ⟨k, c⟩ := s
      dsimp only at hI l1_ih ⊢
      obtain ⟨k1, k2, hlen, hp, hs⟩ := hI
      refine AS.seq ?_
      refine AS.seq ?_
      refine AS.region rfl ?_
      refine AS.move rfl rfl rfl rfl ?_
      refine AS.move rfl rfl rfl rfl ?_
      refine AS.bin rfl rfl rfl rfl rfl (BinR.sub (c := ((i - 1 : Nat) : Int)) (by rw [w64 (by omega) (by omega)]; omega)) ?_
      refine AS.bin rfl rfl rfl rfl rfl (BinR.lss rfl) ?_
      refine AS.opsEnd ?_
      refine AS.cond rfl (fun hc3 => ?_) (fun hc3 => ?_)
      · have hk3 : k < i - 1 := by simp only [decide_eq_true_eq] at hc3; omega
        obtain ⟨x, hx⟩ := getSome (l := c) (i := k) (by omega)
        obtain ⟨y, hy⟩ := getSome (l := c) (i := k + 1) (by omega)
        have e1 : IntKind.i64.wrap ((k : Int) + 1) = ((k + 1 : Nat) : Int) := by rw [w64 (by omega) (by omega)]; omega
        have hb1 : k < n := by omega
        have hb2 : k + 1 < n := by omega
        refine AS.skip ?_
        refine AS.seq ?_
        refine AS.block ?_
        refine SA.start1 TT10.mixed rfl ?_
        refine SA.rd 0 [0] rfl (fun env rest next => AS.move rfl rfl rfl rfl next) ?_
        refine SA.rd 1 [13] rfl (fun env rest next => AS.move rfl rfl rfl rfl next) ?_
        refine SA.rd 2 [0] rfl (fun env rest next => AS.move rfl rfl rfl rfl next) ?_
        refine SA.rd 3 [13] rfl (fun env rest next => AS.move rfl rfl rfl rfl next) ?_
        refine SA.rd 4 [64] rfl (fun env rest next => AS.bin rfl rfl rfl rfl rfl (BinR.add e1) next) ?_
        refine SA.rd 5 [0] rfl (fun env rest next => AS.move rfl rfl rfl rfl next) ?_
        refine SA.rd 6 [13] rfl (fun env rest next => AS.move rfl rfl rfl rfl next) ?_
        refine SA.rd 7 [67] rfl (fun env rest next => AS.bin rfl rfl rfl rfl rfl (BinR.add e1) next) ?_
        refine SA.rd 8 [66, 68] rfl (fun env rest next => AS.rowAddr rfl rfl rfl rfl rfl TT10.sl48 (k + 1) rfl hb2 next) ?_
        refine SA.rd 9 [69] rfl (fun env rest next => AS.loadAt (enc := encObj) rfl rfl rfl rfl TT10.ty38 encObj_sz (fun _ => rfl) hy next) ?_
        refine SA.rd 10 [0] rfl (fun env rest next => AS.move rfl rfl rfl rfl next) ?_
        refine SA.rd 11 [13] rfl (fun env rest next => AS.move rfl rfl rfl rfl next) ?_
        refine SA.rd 12 [71, 72] rfl (fun env rest next => AS.rowAddr rfl rfl rfl rfl rfl TT10.sl48 k rfl hb1 next) ?_
        refine SA.rd 13 [73] rfl (fun env rest next => AS.loadAt (enc := encObj) rfl rfl rfl rfl TT10.ty38 encObj_sz (fun _ => rfl) hx next) ?_
        refine SA.rd 14 [61, 62] rfl (fun env rest next => AS.rowAddr rfl rfl rfl rfl rfl TT10.sl48 k rfl hb1 next) ?_
        refine SA.chg 15 [70, 75] rfl rfl rfl rfl (fun env rest next => AS.storeAt (enc := encObj) (a := y) rfl rfl rfl rfl rfl encObj_flat TT10.ty38 encObj_sz (by omega) next) ⟨trivial, ⟨trivial, ⟨trivial, ⟨trivial, ⟨trivial, ⟨trivial, ⟨trivial, ⟨trivial, ⟨trivial, ⟨trivial, ⟨(fun H _ env rest next => AS.bin rfl rfl rfl rfl rfl (BinR.add e1) next), ⟨(fun H _ env rest next => AS.move rfl rfl rfl rfl next), ⟨(fun H _ env rest next => AS.move rfl rfl rfl rfl next), ⟨trivial, ⟨trivial, trivial⟩⟩⟩⟩⟩⟩⟩⟩⟩⟩⟩⟩⟩⟩⟩ ?_
        refine SA.rdA 16 [63, 65] rfl (fun H env rest next => AS.rowAddr rfl rfl rfl rfl rfl TT10.sl48 (k + 1) rfl hb2 next) ?_
        refine SA.chg 17 [74, 76] rfl rfl rfl rfl (fun env rest next => AS.storeAt (enc := encObj) (a := x) rfl rfl rfl rfl rfl encObj_flat TT10.ty38 encObj_sz (by rw [List.length_set]; omega) next) ⟨trivial, ⟨trivial, ⟨trivial, ⟨trivial, ⟨trivial, ⟨trivial, ⟨trivial, ⟨trivial, ⟨trivial, ⟨trivial, ⟨trivial, ⟨trivial, ⟨trivial, ⟨trivial, ⟨trivial, ⟨trivial, ⟨trivial, trivial⟩⟩⟩⟩⟩⟩⟩⟩⟩⟩⟩⟩⟩⟩⟩⟩⟩ ?_
        refine SA.done rfl rfl rfl ?_
        refine AS.inBlock ?_
        refine AS.region rfl ?_
        refine AS.move rfl rfl rfl rfl ?_
        refine AS.bin rfl rfl rfl rfl rfl (BinR.add e1) ?_
        refine AS.assign rfl rfl rfl rfl ?_
        refine AS.opsEnd ?_
        exact AS.nextI (l1_ih (k + 1, sw c k (k + 1) x y) ⟨by dsimp only; omega, by dsimp only; omega, by rw [sw_len]; exact hlen, (sw_perm hx hy).trans hp, up_step hs k1 hx hy⟩ (by dsimp only; omega)) [] (.cons rfl (.cons rfl (.cons rfl (.nil)))) rfl
      · have hk3 : k = i - 1 := by simp only [decide_eq_false_iff_not] at hc3; omega
        subst hk3
        refine AS.exit rfl ?_
        refine AS.retW Try.func147 rfl (.nil) ?_
        exact RWk.drop [] rfl ⟨c, up_within (i := i - 1) (by omega) (by omega) hlen hp hs, up_end e0 ⟨i1, i3⟩ s2 (by omega) i4 i5 hs, rfl⟩
  · have e0 : m ≠ lo + 1 := by simp only [decide_eq_false_iff_not] at hc0; omega
    refine AS.skip ?_
    refine AS.seq ?_
    refine AS.seq ?_
    refine AS.region rfl ?_
    refine AS.move rfl rfl rfl rfl ?_
    refine AS.move rfl rfl rfl rfl ?_
    refine AS.bin rfl rfl rfl rfl rfl (BinR.sub (c := ((hi - m : Nat) : Int)) (by rw [w64 (by omega) (by omega)]; omega)) ?_
    refine AS.bin rfl rfl rfl rfl rfl (BinR.eql rfl) ?_
    refine AS.opsEnd ?_
    refine AS.cond rfl (fun hc4 => ?_) (fun hc4 => ?_)
    · have e4 : hi = m + 1 := by simp only [decide_eq_true_eq] at hc4; omega
      refine AS.seq ?_
      refine AS.region rfl ?_
      refine AS.move rfl rfl rfl rfl ?_
      refine AS.assign rfl rfl rfl rfl ?_
      refine AS.opsEnd ?_
      refine AS.seq ?_
      refine AS.region rfl ?_
      refine AS.move rfl rfl rfl rfl ?_
      refine AS.assign rfl rfl rfl rfl ?_
      refine AS.opsEnd ?_
      refine AS.seq ?_
      refine AS.block ?_
      refine AS.loopI (α := Nat × Nat) (fun s => lo ≤ s.1 ∧ s.1 ≤ s.2 ∧ s.2 ≤ m ∧ (s.1 = lo ∨ ∃ x y, l[m]? = some x ∧ l[s.1 - 1]? = some y ∧ keyLess x.key y.key = false) ∧ (s.2 = m ∨ ∃ x y, l[m]? = some x ∧ l[s.2]? = some y ∧ keyLess x.key y.key = true)) (fun s => s.2 - s.1) (fun s => [(14, .int .i64 s.1), (15, .int .i64 s.2)]) [(0, _), (2, _), (4, _)] (fun s => (b, .row (rowOf encObj l rs) 38) :: H) (lo, m) ⟨Nat.le_refl _, by dsimp only; omega, Nat.le_refl _, .inl rfl, .inl rfl⟩ (.cons rfl (.cons rfl (.cons rfl (.cons rfl (.cons rfl (.nil)))))) rfl (fun s hI l2_ih => ?_)
      obtain ⟨i, j⟩ := s
      dsimp only at hI l2_ih ⊢
      obtain ⟨i1, i2, i3, i4, i5⟩ := hI
      refine AS.seq ?_
      refine AS.seq ?_
      refine AS.region rfl ?_
      refine AS.move rfl rfl rfl rfl ?_
      refine AS.move rfl rfl rfl rfl ?_
      refine AS.bin rfl rfl rfl rfl rfl (BinR.lss rfl) ?_
      refine AS.opsEnd ?_
      refine AS.cond rfl (fun hc5 => ?_) (fun hc5 => ?_)
      · have hij : i < j := by simp only [decide_eq_true_eq] at hc5; omega
        have hu0 : IntKind.i64.wrap ((i : Int) + (j : Int)) = ((i + j : Nat) : Int) := by rw [w64 (by omega) (by omega)]; omega
        have hu1 : IntKind.u64.wrap ((i + j : Nat) : Int) = ((i + j : Nat) : Int) := IntWalk.u64_in _ ⟨by omega, by omega⟩
        have hu2 : ((i + j : Nat) : Int) / 2 ^ (1 : Int).toNat = (((i + j) / 2 : Nat) : Int) := by show _ / (2 ^ 1 : Int) = _; omega
        have hu3 : IntKind.i64.wrap (((i + j) / 2 : Nat) : Int) = (((i + j) / 2 : Nat) : Int) := w64 (by omega) (by omega)
        obtain ⟨x, hx⟩ := getSome (l := l) (i := m) (by omega)
        obtain ⟨y, hy⟩ := getSome (l := l) (i := (i + j) / 2) (by omega)
        have hb1 : (i + j) / 2 < n := by omega
        have hb2 : m < n := by omega
        refine AS.skip ?_
        refine AS.block ?_
        refine AS.seq ?_
        refine AS.region rfl ?_
        refine AS.move rfl rfl rfl rfl ?_
        refine AS.move rfl rfl rfl rfl ?_
        refine AS.bin rfl rfl rfl rfl rfl (BinR.add hu0) ?_
        refine AS.convInt rfl rfl rfl rfl TT10.u3 TT10.u180 hu1 ?_
        refine AS.bin rfl rfl rfl rfl rfl (BinR.shr (by decide) (by decide) hu2) ?_
        refine AS.convInt rfl rfl rfl rfl TT10.u180 TT10.u3 hu3 ?_
        refine AS.assign rfl rfl rfl rfl ?_
        refine AS.opsEnd ?_
        refine AS.seq ?_
        refine SA.start1 TT10.mixed rfl ?_
        refine SA.rd 0 [4] rfl (fun env rest next => AS.move rfl rfl rfl rfl next) ?_
        refine SA.rd 1 [0] rfl (fun env rest next => AS.move rfl rfl rfl rfl next) ?_
        refine SA.rd 2 [2] rfl (fun env rest next => AS.move rfl rfl rfl rfl next) ?_
        refine SA.rd 3 [93, 94] rfl (fun env rest next => AS.rowAddr rfl rfl rfl rfl rfl TT10.sl48 m rfl hb2 next) ?_
        refine SA.rd 4 [95] rfl (fun env rest next => AS.loadAt (enc := encObj) rfl rfl rfl rfl TT10.ty38 encObj_sz (fun _ => rfl) hx next) ?_
        refine SA.rd 5 [0] rfl (fun env rest next => AS.move rfl rfl rfl rfl next) ?_
        refine SA.rd 6 [16] rfl (fun env rest next => AS.move rfl rfl rfl rfl next) ?_
        refine SA.rd 7 [97, 98] rfl (fun env rest next => AS.rowAddr rfl rfl rfl rfl rfl TT10.sl48 ((i + j) / 2) rfl hb1 next) ?_
        refine SA.rd 8 [99] rfl (fun env rest next => AS.loadAt (enc := encObj) rfl rfl rfl rfl TT10.ty38 encObj_sz (fun _ => rfl) hy next) ?_
        refine SA.rd 9 [92, 96, 100] rfl (fun env rest next => AS.callVP rfl rfl rfl rfl rfl TT10.en101 (cmp_spec x y _ (hk _ (List.mem_of_getElem? hx)) (hk _ (List.mem_of_getElem? hy))) next) ?_
        refine SA.rd 10 [101] rfl (fun env rest next => AS.bin rfl rfl rfl rfl rfl (BinR.lss rfl) next) ?_
        refine SA.rd 11 [102] rfl (fun env rest next => AS.not rfl rfl rfl rfl rfl next) ?_
        refine SA.done rfl rfl rfl ?_
        refine AS.cond rfl (fun hc6 => ?_) (fun hc6 => ?_)
        · rw [Bool.not_eq_true'] at hc6
          rw [cmp_lt] at hc6
          refine AS.region rfl ?_
          refine AS.move rfl rfl rfl rfl ?_
          refine AS.bin rfl rfl rfl rfl rfl (BinR.add (c := (((i + j) / 2 + 1 : Nat) : Int)) (by rw [w64 (by omega) (by omega)]; omega)) ?_
          refine AS.assign rfl rfl rfl rfl ?_
          refine AS.opsEnd ?_
          refine AS.inBlock ?_
          exact AS.nextI (l2_ih ((i + j) / 2 + 1, j) ⟨by dsimp only; omega, by dsimp only; omega, i3, .inr ⟨x, y, hx, by dsimp only; rw [Nat.add_sub_cancel]; exact hy, hc6⟩, i5⟩ (by dsimp only; omega)) [] (.cons rfl (.cons rfl (.cons rfl (.cons rfl (.cons rfl (.nil)))))) rfl
        · rw [Bool.not_eq_false'] at hc6
          rw [cmp_lt] at hc6
          refine AS.region rfl ?_
          refine AS.move rfl rfl rfl rfl ?_
          refine AS.assign rfl rfl rfl rfl ?_
          refine AS.opsEnd ?_
          refine AS.inBlock ?_
          exact AS.nextI (l2_ih (i, (i + j) / 2) ⟨i1, by dsimp only; omega, by dsimp only; omega, i4, .inr ⟨x, y, hx, hy, hc6⟩⟩ (by dsimp only; omega)) [] (.cons rfl (.cons rfl (.cons rfl (.cons rfl (.cons rfl (.nil)))))) rfl
      · have hij : i = j := by simp only [decide_eq_false_iff_not] at hc5; omega
        subst hij
        refine AS.exit rfl ?_
        refine AS.seq ?_
        refine AS.seq ?_
        refine AS.region rfl ?_
        refine AS.move rfl rfl rfl rfl ?_
        refine AS.assign rfl rfl rfl rfl ?_
        refine AS.opsEnd ?_
        refine AS.block ?_
        refine AS.loopI (α := Nat × List Object) (fun s => i ≤ s.1 ∧ s.1 ≤ m ∧ s.2.length = l.length ∧ s.2.Perm l ∧ ∀ p, s.2[p]? = l[downAt m s.1 p]?) (fun s => s.1) (fun s => [(17, .int .i64 s.1)]) [(0, _), (14, _)] (fun s => (b, .row (rowOf encObj s.2 rs) 38) :: H) (m, l) ⟨i3, Nat.le_refl _, rfl, .refl _, down_start l m⟩ (.cons rfl (.cons rfl (.cons rfl (.nil)))) rfl (fun s hI l3_ih => ?_)
        obtain ⟨k, c⟩ := s
        dsimp only at hI l3_ih ⊢
        obtain ⟨k1, k2, hlen, hp, hs⟩ := hI
        refine AS.seq ?_
        refine AS.seq ?_
        refine AS.region rfl ?_
        refine AS.move rfl rfl rfl rfl ?_
        refine AS.move rfl rfl rfl rfl ?_
        refine AS.bin rfl rfl rfl rfl rfl (BinR.gtr rfl) ?_
        refine AS.opsEnd ?_
        refine AS.cond rfl (fun hc7 => ?_) (fun hc7 => ?_)
        · have hk3 : i < k := by simp only [decide_eq_true_eq] at hc7; omega
          obtain ⟨x, hx⟩ := getSome (l := c) (i := k) (by omega)
          obtain ⟨y, hy⟩ := getSome (l := c) (i := k - 1) (by omega)
          have e1 : IntKind.i64.wrap ((k : Int) - 1) = ((k - 1 : Nat) : Int) := by rw [w64 (by omega) (by omega)]; omega
          have hb1 : k < n := by omega
          have hb2 : k - 1 < n := by omega
          refine AS.skip ?_
          refine AS.seq ?_
          refine AS.block ?_
          refine SA.start1 TT10.mixed rfl ?_
          refine SA.rd 0 [0] rfl (fun env rest next => AS.move rfl rfl rfl rfl next) ?_
          refine SA.rd 1 [17] rfl (fun env rest next => AS.move rfl rfl rfl rfl next) ?_
          refine SA.rd 2 [0] rfl (fun env rest next => AS.move rfl rfl rfl rfl next) ?_
          refine SA.rd 3 [17] rfl (fun env rest next => AS.move rfl rfl rfl rfl next) ?_
          refine SA.rd 4 [116] rfl (fun env rest next => AS.bin rfl rfl rfl rfl rfl (BinR.sub e1) next) ?_
          refine SA.rd 5 [0] rfl (fun env rest next => AS.move rfl rfl rfl rfl next) ?_
          refine SA.rd 6 [17] rfl (fun env rest next => AS.move rfl rfl rfl rfl next) ?_
          refine SA.rd 7 [119] rfl (fun env rest next => AS.bin rfl rfl rfl rfl rfl (BinR.sub e1) next) ?_
          refine SA.rd 8 [118, 120] rfl (fun env rest next => AS.rowAddr rfl rfl rfl rfl rfl TT10.sl48 (k - 1) rfl hb2 next) ?_
          refine SA.rd 9 [121] rfl (fun env rest next => AS.loadAt (enc := encObj) rfl rfl rfl rfl TT10.ty38 encObj_sz (fun _ => rfl) hy next) ?_
          refine SA.rd 10 [0] rfl (fun env rest next => AS.move rfl rfl rfl rfl next) ?_
          refine SA.rd 11 [17] rfl (fun env rest next => AS.move rfl rfl rfl rfl next) ?_
          refine SA.rd 12 [123, 124] rfl (fun env rest next => AS.rowAddr rfl rfl rfl rfl rfl TT10.sl48 k rfl hb1 next) ?_
          refine SA.rd 13 [125] rfl (fun env rest next => AS.loadAt (enc := encObj) rfl rfl rfl rfl TT10.ty38 encObj_sz (fun _ => rfl) hx next) ?_
          refine SA.rd 14 [113, 114] rfl (fun env rest next => AS.rowAddr rfl rfl rfl rfl rfl TT10.sl48 k rfl hb1 next) ?_
          refine SA.chg 15 [122, 127] rfl rfl rfl rfl (fun env rest next => AS.storeAt (enc := encObj) (a := y) rfl rfl rfl rfl rfl encObj_flat TT10.ty38 encObj_sz (by omega) next) ⟨trivial, ⟨trivial, ⟨trivial, ⟨trivial, ⟨trivial, ⟨trivial, ⟨trivial, ⟨trivial, ⟨trivial, ⟨trivial, ⟨(fun H _ env rest next => AS.bin rfl rfl rfl rfl rfl (BinR.sub e1) next), ⟨(fun H _ env rest next => AS.move rfl rfl rfl rfl next), ⟨(fun H _ env rest next => AS.move rfl rfl rfl rfl next), ⟨trivial, ⟨trivial, trivial⟩⟩⟩⟩⟩⟩⟩⟩⟩⟩⟩⟩⟩⟩⟩ ?_
          refine SA.rdA 16 [115, 117] rfl (fun H env rest next => AS.rowAddr rfl rfl rfl rfl rfl TT10.sl48 (k - 1) rfl hb2 next) ?_
          refine SA.chg 17 [126, 128] rfl rfl rfl rfl (fun env rest next => AS.storeAt (enc := encObj) (a := x) rfl rfl rfl rfl rfl encObj_flat TT10.ty38 encObj_sz (by rw [List.length_set]; omega) next) ⟨trivial, ⟨trivial, ⟨trivial, ⟨trivial, ⟨trivial, ⟨trivial, ⟨trivial, ⟨trivial, ⟨trivial, ⟨trivial, ⟨trivial, ⟨trivial, ⟨trivial, ⟨trivial, ⟨trivial, ⟨trivial, ⟨trivial, trivial⟩⟩⟩⟩⟩⟩⟩⟩⟩⟩⟩⟩⟩⟩⟩⟩⟩ ?_
          refine SA.done rfl rfl rfl ?_
          refine AS.inBlock ?_
          refine AS.region rfl ?_
          refine AS.move rfl rfl rfl rfl ?_
          refine AS.bin rfl rfl rfl rfl rfl (BinR.sub e1) ?_
          refine AS.assign rfl rfl rfl rfl ?_
          refine AS.opsEnd ?_
          exact AS.nextI (l3_ih (k - 1, sw c k (k - 1) x y) ⟨by dsimp only; omega, by dsimp only; omega, by rw [sw_len]; exact hlen, (sw_perm hx hy).trans hp, down_step hs k2 (by omega) hx hy⟩ (by dsimp only; omega)) [] (.cons rfl (.cons rfl (.cons rfl (.nil)))) rfl
        · have hk3 : k = i := by simp only [decide_eq_false_iff_not] at hc7; omega
          subst hk3
          refine AS.exit rfl ?_
          refine AS.retW Try.func147 rfl (.nil) ?_
          exact RWk.drop [] rfl ⟨c, down_within (i := k) (by omega) (by omega) (by omega) hlen hp hs, down_end e4 ⟨by omega, by omega⟩ s1 (by omega) i4 i5 hs, rfl⟩
    · have e4 : hi ≠ m + 1 := by simp only [decide_eq_false_iff_not] at hc4; omega
      refine AS.skip ?_
      refine AS.seq ?_
      obtain ⟨mid, hmid⟩ : ∃ mid, mid = (lo + hi) / 2 := ⟨_, rfl⟩
      have hu0 : IntKind.i64.wrap ((lo : Int) + (hi : Int)) = ((lo + hi : Nat) : Int) := by rw [w64 (by omega) (by omega)]; omega
      have hu1 : IntKind.u64.wrap ((lo + hi : Nat) : Int) = ((lo + hi : Nat) : Int) := IntWalk.u64_in _ ⟨by omega, by omega⟩
      have hu2 : ((lo + hi : Nat) : Int) / 2 ^ (1 : Int).toNat = ((mid : Nat) : Int) := by show _ / (2 ^ 1 : Int) = _; omega
      have hu3 : IntKind.i64.wrap ((mid : Nat) : Int) = ((mid : Nat) : Int) := w64 (by omega) (by omega)
      refine AS.region rfl ?_
      refine AS.move rfl rfl rfl rfl ?_
      refine AS.move rfl rfl rfl rfl ?_
      refine AS.bin rfl rfl rfl rfl rfl (BinR.add hu0) ?_
      refine AS.convInt rfl rfl rfl rfl TT10.u3 TT10.u180 hu1 ?_
      refine AS.bin rfl rfl rfl rfl rfl (BinR.shr (by decide) (by decide) hu2) ?_
      refine AS.convInt rfl rfl rfl rfl TT10.u180 TT10.u3 hu3 ?_
      refine AS.assign rfl rfl rfl rfl ?_
      refine AS.opsEnd ?_
      refine AS.seq ?_
      refine AS.region rfl ?_
      refine AS.move rfl rfl rfl rfl ?_
      refine AS.move rfl rfl rfl rfl ?_
      refine AS.bin rfl rfl rfl rfl rfl (BinR.add (c := ((mid + m : Nat) : Int)) (by rw [w64 (by omega) (by omega)]; omega)) ?_
      refine AS.assign rfl rfl rfl rfl ?_
      refine AS.opsEnd ?_
      refine AS.seq ?_
      refine AS.region rfl ?_
      refine AS.assign rfl rfl rfl rfl ?_
      refine AS.assign rfl rfl rfl rfl ?_
      refine AS.opsEnd ?_
      refine AS.seq ?_
      refine AS.seq ?_
      refine AS.region rfl ?_
      refine AS.move rfl rfl rfl rfl ?_
      refine AS.move rfl rfl rfl rfl ?_
      refine AS.bin rfl rfl rfl rfl rfl (BinR.gtr rfl) ?_
      refine AS.opsEnd ?_
      refine AS.joinK (α := Nat × Nat) (fun s => (mid < m ∧ s.1 = mid + m - hi ∧ s.2 = mid) ∨ (m ≤ mid ∧ s.1 = lo ∧ s.2 = m)) (fun s => [(20, .int .i64 s.1), (21, .int .i64 s.2)]) [(0, _), (1, _), (2, _), (3, _), (4, _), (18, _), (19, _)] (fun s => (b, .row (rowOf encObj l rs) 38) :: H) (.cons rfl (.cons rfl (.cons rfl (.cons rfl (.cons rfl (.cons rfl (.cons rfl (.nil)))))))) (fun c8_j => ?_) (fun s hlo => ?_)
      · refine AS.cond rfl (fun hc8 => ?_) (fun hc8 => ?_)
        · have e8 : mid < m := by simp only [decide_eq_true_eq] at hc8; omega
          refine AS.seq ?_
          refine AS.region rfl ?_
          refine AS.move rfl rfl rfl rfl ?_
          refine AS.move rfl rfl rfl rfl ?_
          refine AS.bin rfl rfl rfl rfl rfl (BinR.sub (c := ((mid + m - hi : Nat) : Int)) (by rw [w64 (by omega) (by omega)]; omega)) ?_
          refine AS.assign rfl rfl rfl rfl ?_
          refine AS.opsEnd ?_
          refine AS.region rfl ?_
          refine AS.move rfl rfl rfl rfl ?_
          refine AS.assign rfl rfl rfl rfl ?_
          refine AS.opsEnd ?_
          exact AS.nextI (c8_j (mid + m - hi, mid) (.inl ⟨e8, rfl, rfl⟩)) [] (.cons rfl (.cons rfl (.cons rfl (.cons rfl (.cons rfl (.cons rfl (.cons rfl (.cons rfl (.cons rfl (.nil)))))))))) rfl
        · have e8 : m ≤ mid := by simp only [decide_eq_false_iff_not] at hc8; omega
          refine AS.seq ?_
          refine AS.region rfl ?_
          refine AS.move rfl rfl rfl rfl ?_
          refine AS.assign rfl rfl rfl rfl ?_
          refine AS.opsEnd ?_
          refine AS.region rfl ?_
          refine AS.move rfl rfl rfl rfl ?_
          refine AS.assign rfl rfl rfl rfl ?_
          refine AS.opsEnd ?_
          exact AS.nextI (c8_j (lo, m) (.inr ⟨e8, rfl, rfl⟩)) [] (.cons rfl (.cons rfl (.cons rfl (.cons rfl (.cons rfl (.cons rfl (.cons rfl (.cons rfl (.cons rfl (.nil)))))))))) rfl
      · obtain ⟨bl, bh⟩ := s
        dsimp only at hlo ⊢
        refine AS.seq ?_
        refine AS.region rfl ?_
        refine AS.move rfl rfl rfl rfl ?_
        refine AS.bin rfl rfl rfl rfl rfl (BinR.sub (c := ((mid + m - 1 : Nat) : Int)) (by rw [w64 (by omega) (by omega)]; omega)) ?_
        refine AS.assign rfl rfl rfl rfl ?_
        refine AS.opsEnd ?_
        refine AS.seq ?_
        refine AS.block ?_
        refine AS.loopI (α := Nat × Nat) (fun s => Bs l (mid + m - 1) bl bh s.1 s.2) (fun s => s.2 - s.1) (fun s => [(20, .int .i64 s.1), (21, .int .i64 s.2)]) [(0, _), (1, _), (2, _), (3, _), (4, _), (18, _), (19, _), (22, _)] (fun s => (b, .row (rowOf encObj l rs) 38) :: H) (bl, bh) ⟨⟨Nat.le_refl _, by dsimp only; omega, Nat.le_refl _⟩, .inl rfl, .inl rfl⟩ (.cons rfl (.cons rfl (.cons rfl (.cons rfl (.cons rfl (.cons rfl (.cons rfl (.cons rfl (.cons rfl (.cons rfl (.nil))))))))))) rfl (fun s hI l4_ih => ?_)
        obtain ⟨s, r⟩ := s
        dsimp only at hI l4_ih ⊢
        have hle := hI.le
        refine AS.seq ?_
        refine AS.seq ?_
        refine AS.region rfl ?_
        refine AS.move rfl rfl rfl rfl ?_
        refine AS.move rfl rfl rfl rfl ?_
        refine AS.bin rfl rfl rfl rfl rfl (BinR.lss rfl) ?_
        refine AS.opsEnd ?_
        refine AS.cond rfl (fun hc9 => ?_) (fun hc9 => ?_)
        · have hij : s < r := by simp only [decide_eq_true_eq] at hc9; omega
          have hu0 : IntKind.i64.wrap ((s : Int) + (r : Int)) = ((s + r : Nat) : Int) := by rw [w64 (by omega) (by omega)]; omega
          have hu1 : IntKind.u64.wrap ((s + r : Nat) : Int) = ((s + r : Nat) : Int) := IntWalk.u64_in _ ⟨by omega, by omega⟩
          have hu2 : ((s + r : Nat) : Int) / 2 ^ (1 : Int).toNat = (((s + r) / 2 : Nat) : Int) := by show _ / (2 ^ 1 : Int) = _; omega
          have hu3 : IntKind.i64.wrap (((s + r) / 2 : Nat) : Int) = (((s + r) / 2 : Nat) : Int) := w64 (by omega) (by omega)
          have hb1 : mid + m - 1 - (s + r) / 2 < n := by omega
          have hb2 : (s + r) / 2 < n := by omega
          obtain ⟨x, hx⟩ := getSome (l := l) (i := mid + m - 1 - (s + r) / 2) (by omega)
          obtain ⟨y, hy⟩ := getSome (l := l) (i := (s + r) / 2) (by omega)
          have e5 : IntKind.i64.wrap (((mid + m - 1 : Nat) : Int) - (((s + r) / 2 : Nat) : Int)) = ((mid + m - 1 - (s + r) / 2 : Nat) : Int) := by rw [w64 (by omega) (by omega)]; omega
          refine AS.skip ?_
          refine AS.block ?_
          refine AS.seq ?_
          refine AS.region rfl ?_
          refine AS.move rfl rfl rfl rfl ?_
          refine AS.move rfl rfl rfl rfl ?_
          refine AS.bin rfl rfl rfl rfl rfl (BinR.add hu0) ?_
          refine AS.convInt rfl rfl rfl rfl TT10.u3 TT10.u180 hu1 ?_
          refine AS.bin rfl rfl rfl rfl rfl (BinR.shr (by decide) (by decide) hu2) ?_
          refine AS.convInt rfl rfl rfl rfl TT10.u180 TT10.u3 hu3 ?_
          refine AS.assign rfl rfl rfl rfl ?_
          refine AS.opsEnd ?_
          refine AS.seq ?_
          refine SA.start1 TT10.mixed rfl ?_
          refine SA.rd 0 [4] rfl (fun env rest next => AS.move rfl rfl rfl rfl next) ?_
          refine SA.rd 1 [0] rfl (fun env rest next => AS.move rfl rfl rfl rfl next) ?_
          refine SA.rd 2 [22] rfl (fun env rest next => AS.move rfl rfl rfl rfl next) ?_
          refine SA.rd 3 [23] rfl (fun env rest next => AS.move rfl rfl rfl rfl next) ?_
          refine SA.rd 4 [160, 161] rfl (fun env rest next => AS.bin rfl rfl rfl rfl rfl (BinR.sub e5) next) ?_
          refine SA.rd 5 [159, 162] rfl (fun env rest next => AS.rowAddr rfl rfl rfl rfl rfl TT10.sl48 (mid + m - 1 - (s + r) / 2) rfl hb1 next) ?_
          refine SA.rd 6 [163] rfl (fun env rest next => AS.loadAt (enc := encObj) rfl rfl rfl rfl TT10.ty38 encObj_sz (fun _ => rfl) hx next) ?_
          refine SA.rd 7 [0] rfl (fun env rest next => AS.move rfl rfl rfl rfl next) ?_
          refine SA.rd 8 [23] rfl (fun env rest next => AS.move rfl rfl rfl rfl next) ?_
          refine SA.rd 9 [165, 166] rfl (fun env rest next => AS.rowAddr rfl rfl rfl rfl rfl TT10.sl48 ((s + r) / 2) rfl hb2 next) ?_
          refine SA.rd 10 [167] rfl (fun env rest next => AS.loadAt (enc := encObj) rfl rfl rfl rfl TT10.ty38 encObj_sz (fun _ => rfl) hy next) ?_
          refine SA.rd 11 [158, 164, 168] rfl (fun env rest next => AS.callVP rfl rfl rfl rfl rfl TT10.en101 (cmp_spec x y _ (hk _ (List.mem_of_getElem? hx)) (hk _ (List.mem_of_getElem? hy))) next) ?_
          refine SA.rd 12 [169] rfl (fun env rest next => AS.bin rfl rfl rfl rfl rfl (BinR.lss rfl) next) ?_
          refine SA.rd 13 [170] rfl (fun env rest next => AS.not rfl rfl rfl rfl rfl next) ?_
          refine SA.done rfl rfl rfl ?_
          refine AS.cond rfl (fun hc10 => ?_) (fun hc10 => ?_)
          · rw [Bool.not_eq_true'] at hc10
            rw [cmp_lt] at hc10
            refine AS.region rfl ?_
            refine AS.move rfl rfl rfl rfl ?_
            refine AS.bin rfl rfl rfl rfl rfl (BinR.add (c := (((s + r) / 2 + 1 : Nat) : Int)) (by rw [w64 (by omega) (by omega)]; omega)) ?_
            refine AS.assign rfl rfl rfl rfl ?_
            refine AS.opsEnd ?_
            refine AS.inBlock ?_
            exact AS.nextI (l4_ih ((s + r) / 2 + 1, r) (bs_left hI hij hx hy hc10) (by dsimp only; omega)) [] (.cons rfl (.cons rfl (.cons rfl (.cons rfl (.cons rfl (.cons rfl (.cons rfl (.cons rfl (.cons rfl (.cons rfl (.nil))))))))))) rfl
          · rw [Bool.not_eq_false'] at hc10
            rw [cmp_lt] at hc10
            refine AS.region rfl ?_
            refine AS.move rfl rfl rfl rfl ?_
            refine AS.assign rfl rfl rfl rfl ?_
            refine AS.opsEnd ?_
            refine AS.inBlock ?_
            exact AS.nextI (l4_ih (s, (s + r) / 2) (bs_right hI hij hx hy hc10) (by dsimp only; omega)) [] (.cons rfl (.cons rfl (.cons rfl (.cons rfl (.cons rfl (.cons rfl (.cons rfl (.cons rfl (.cons rfl (.cons rfl (.nil))))))))))) rfl
        · have hij : s = r := by simp only [decide_eq_false_iff_not] at hc9; omega
          subst hij
          refine AS.exit rfl ?_
          refine AS.seq ?_
          refine AS.region rfl ?_
          refine AS.move rfl rfl rfl rfl ?_
          refine AS.move rfl rfl rfl rfl ?_
          refine AS.bin rfl rfl rfl rfl rfl (BinR.sub (c := ((mid + m - s : Nat) : Int)) (by rw [w64 (by omega) (by omega)]; omega)) ?_
          refine AS.assign rfl rfl rfl rfl ?_
          refine AS.opsEnd ?_
          refine AS.seq ?_
          refine AS.seq ?_
          refine AS.region rfl ?_
          refine AS.move rfl rfl rfl rfl ?_
          refine AS.move rfl rfl rfl rfl ?_
          refine AS.bin rfl rfl rfl rfl rfl (BinR.lss rfl) ?_
          refine AS.move rfl rfl rfl rfl ?_
          refine AS.splitT 181 rfl (fun g181 => ?_) (fun g181 => ?_)
          · refine AS.move rfl rfl rfl rfl ?_
            refine AS.move rfl rfl rfl rfl ?_
            refine AS.bin rfl rfl rfl rfl rfl (BinR.lss rfl) ?_
            refine AS.pick rfl rfl rfl rfl rfl ?_
            refine AS.opsEnd ?_
            refine AS.cond rfl (fun hc11 => ?_) (fun hc11 => ?_)
            · refine AS.region rfl ?_
              refine AS.move rfl rfl rfl rfl ?_
              refine AS.move rfl rfl rfl rfl ?_
              refine AS.move rfl rfl rfl rfl ?_
              refine AS.move rfl rfl rfl rfl ?_
              refine AS.move rfl rfl rfl rfl ?_
              refine AS.call rfl rfl rfl rfl TT10.en166 (rotate_spec l rs b n cap s m (mid + m - s) _ H hn (by omega) hb (by simp only [decide_eq_true_eq] at g181; omega) (by simp only [decide_eq_true_eq] at hc11; omega)) ?_
              rintro _ _ ⟨c1, d1, d2, d3, rfl⟩
              have q1 : s < m := by simp only [decide_eq_true_eq] at g181; omega
              have q2 : m < mid + m - s := by simp only [decide_eq_true_eq] at hc11; omega
              have hH := halves (b := hi) (by omega) h1 h2 hmid s1 s2 hlo hI (.inl ⟨q1, q2, d3⟩)
              have hw : Within l c1 lo hi := (rot_within q1 q2 d1 d2 d3).mono (by omega) (by omega)
              have hk1 : ∀ o ∈ c1, keyFits o.key := fun o ho => hk o (d2.mem_iff.1 ho)
              have hn1 : n = c1.length := by omega
              refine AS.opsEnd ?_
              refine AS.seq ?_
              refine AS.seq ?_
              refine AS.region rfl ?_
              refine AS.move rfl rfl rfl rfl ?_
              refine AS.move rfl rfl rfl rfl ?_
              refine AS.bin rfl rfl rfl rfl rfl (BinR.lss rfl) ?_
              refine AS.move rfl rfl rfl rfl ?_
              refine AS.splitT 195 rfl (fun g195 => ?_) (fun g195 => ?_)
              · refine AS.move rfl rfl rfl rfl ?_
                refine AS.move rfl rfl rfl rfl ?_
                refine AS.bin rfl rfl rfl rfl rfl (BinR.lss rfl) ?_
                refine AS.pick rfl rfl rfl rfl rfl ?_
                refine AS.opsEnd ?_
                refine AS.cond rfl (fun hc12 => ?_) (fun hc12 => ?_)
                · refine AS.region rfl ?_
                  refine AS.move rfl rfl rfl rfl ?_
                  refine AS.move rfl rfl rfl rfl ?_
                  refine AS.move rfl rfl rfl rfl ?_
                  refine AS.move rfl rfl rfl rfl ?_
                  refine AS.move rfl rfl rfl rfl ?_
                  refine AS.call rfl rfl rfl rfl TT10.en147 (ih c1 rs b n cap lo s mid H hk1 hn1 (by omega) hb (by simp only [decide_eq_true_eq] at g195; omega) (by simp only [decide_eq_true_eq] at hc12; omega) hH.l1 hH.r1 (by omega)) ?_
                  rintro _ _ ⟨c2, w1, t1, rfl⟩
                  have hk2 : ∀ o ∈ c2, keyFits o.key := fun o ho => hk1 o (w1.perm.mem_iff.1 ho)
                  have hn2 : n = c2.length := by rw [w1.len]; exact hn1
                  refine AS.opsEnd ?_
                  refine AS.seq ?_
                  refine AS.region rfl ?_
                  refine AS.move rfl rfl rfl rfl ?_
                  refine AS.move rfl rfl rfl rfl ?_
                  refine AS.bin rfl rfl rfl rfl rfl (BinR.lss rfl) ?_
                  refine AS.move rfl rfl rfl rfl ?_
                  refine AS.splitT 209 rfl (fun g209 => ?_) (fun g209 => ?_)
                  · refine AS.move rfl rfl rfl rfl ?_
                    refine AS.move rfl rfl rfl rfl ?_
                    refine AS.bin rfl rfl rfl rfl rfl (BinR.lss rfl) ?_
                    refine AS.pick rfl rfl rfl rfl rfl ?_
                    refine AS.opsEnd ?_
                    refine AS.cond rfl (fun hc13 => ?_) (fun hc13 => ?_)
                    · refine AS.region rfl ?_
                      refine AS.move rfl rfl rfl rfl ?_
                      refine AS.move rfl rfl rfl rfl ?_
                      refine AS.move rfl rfl rfl rfl ?_
                      refine AS.move rfl rfl rfl rfl ?_
                      refine AS.move rfl rfl rfl rfl ?_
                      refine AS.call rfl rfl rfl rfl TT10.en147 (ih c2 rs b n cap mid (mid + m - s) hi H hk2 hn2 (by omega) hb (by simp only [decide_eq_true_eq] at g209; omega) (by simp only [decide_eq_true_eq] at hc13; omega) (SortedR.out w1 hH.l2 (.inr (Nat.le_refl _))) (SortedR.out w1 hH.r2 (.inr (by omega))) (by omega)) ?_
                      rintro _ _ ⟨c3, w2, t2, rfl⟩
                      refine AS.opsEnd ?_
                      refine AS.rwk ?_
                      refine AS.end_ Try.func147 rfl (.nil) ?_
                      exact RWk.drop [] rfl ⟨c3, hw.trans ((w1.mono (Nat.le_refl _) (by omega)).trans (w2.mono (by omega) (Nat.le_refl _))), halves_end hH ⟨by omega, by omega⟩ w1 t1 w2 t2, rfl⟩
                    · have w2 : Within c2 c2 mid hi := .refl _ _ _
                      have t2 : SortedR c2 mid hi := by
                        simp only [decide_eq_true_eq, decide_eq_false_iff_not] at g209 hc13
                        by_cases hq : mid < mid + m - s
                        · have : mid + m - s = hi := by omega
                          have h3 := (SortedR.out w1 hH.l2 (.inr (Nat.le_refl _)))
                          rw [this] at h3; exact h3
                        · have : mid + m - s = mid := by omega
                          have h3 := (SortedR.out w1 hH.r2 (.inr (by omega)))
                          rw [this] at h3; exact h3
                      refine AS.skip ?_
                      refine AS.rwk ?_
                      refine AS.end_ Try.func147 rfl (.nil) ?_
                      exact RWk.drop [] rfl ⟨c2, hw.trans ((w1.mono (Nat.le_refl _) (by omega)).trans (w2.mono (by omega) (Nat.le_refl _))), halves_end hH ⟨by omega, by omega⟩ w1 t1 w2 t2, rfl⟩
                  · refine AS.pass rfl rfl rfl ?_
                    refine AS.pass rfl rfl rfl ?_
                    refine AS.pass rfl rfl rfl ?_
                    refine AS.pick rfl rfl rfl rfl rfl ?_
                    refine AS.opsEnd ?_
                    have w2 : Within c2 c2 mid hi := .refl _ _ _
                    have t2 : SortedR c2 mid hi := by
                      simp only [decide_eq_false_iff_not] at g209
                      have : mid + m - s = mid := by omega
                      have h3 := (SortedR.out w1 hH.r2 (.inr (by omega)))
                      rw [this] at h3; exact h3
                    refine AS.condF rfl ?_
                    refine AS.skip ?_
                    refine AS.rwk ?_
                    refine AS.end_ Try.func147 rfl (.nil) ?_
                    exact RWk.drop [] rfl ⟨c2, hw.trans ((w1.mono (Nat.le_refl _) (by omega)).trans (w2.mono (by omega) (Nat.le_refl _))), halves_end hH ⟨by omega, by omega⟩ w1 t1 w2 t2, rfl⟩
                · have w1 : Within c1 c1 lo mid := .refl _ _ _
                  have t1 : SortedR c1 lo mid := by
                    simp only [decide_eq_true_eq, decide_eq_false_iff_not] at g195 hc12
                    by_cases hq : lo < s
                    · have : s = mid := by omega
                      rw [← this]; exact hH.l1
                    · have : s = lo := by omega
                      have h3 := hH.r1
                      rw [this] at h3; exact h3
                  have hk2 := hk1
                  have hn2 := hn1
                  refine AS.skip ?_
                  refine AS.seq ?_
                  refine AS.region rfl ?_
                  refine AS.move rfl rfl rfl rfl ?_
                  refine AS.move rfl rfl rfl rfl ?_
                  refine AS.bin rfl rfl rfl rfl rfl (BinR.lss rfl) ?_
                  refine AS.move rfl rfl rfl rfl ?_
                  refine AS.splitT 209 rfl (fun g209 => ?_) (fun g209 => ?_)
                  · refine AS.move rfl rfl rfl rfl ?_
                    refine AS.move rfl rfl rfl rfl ?_
                    refine AS.bin rfl rfl rfl rfl rfl (BinR.lss rfl) ?_
                    refine AS.pick rfl rfl rfl rfl rfl ?_
                    refine AS.opsEnd ?_
                    refine AS.cond rfl (fun hc13 => ?_) (fun hc13 => ?_)
                    · refine AS.region rfl ?_
                      refine AS.move rfl rfl rfl rfl ?_
                      refine AS.move rfl rfl rfl rfl ?_
                      refine AS.move rfl rfl rfl rfl ?_
                      refine AS.move rfl rfl rfl rfl ?_
                      refine AS.move rfl rfl rfl rfl ?_
                      refine AS.call rfl rfl rfl rfl TT10.en147 (ih c1 rs b n cap mid (mid + m - s) hi H hk2 hn2 (by omega) hb (by simp only [decide_eq_true_eq] at g209; omega) (by simp only [decide_eq_true_eq] at hc13; omega) (SortedR.out w1 hH.l2 (.inr (Nat.le_refl _))) (SortedR.out w1 hH.r2 (.inr (by omega))) (by omega)) ?_
                      rintro _ _ ⟨c3, w2, t2, rfl⟩
                      refine AS.opsEnd ?_
                      refine AS.rwk ?_
                      refine AS.end_ Try.func147 rfl (.nil) ?_
                      exact RWk.drop [] rfl ⟨c3, hw.trans ((w1.mono (Nat.le_refl _) (by omega)).trans (w2.mono (by omega) (Nat.le_refl _))), halves_end hH ⟨by omega, by omega⟩ w1 t1 w2 t2, rfl⟩
                    · have w2 : Within c1 c1 mid hi := .refl _ _ _
                      have t2 : SortedR c1 mid hi := by
                        simp only [decide_eq_true_eq, decide_eq_false_iff_not] at g209 hc13
                        by_cases hq : mid < mid + m - s
                        · have : mid + m - s = hi := by omega
                          have h3 := (SortedR.out w1 hH.l2 (.inr (Nat.le_refl _)))
                          rw [this] at h3; exact h3
                        · have : mid + m - s = mid := by omega
                          have h3 := (SortedR.out w1 hH.r2 (.inr (by omega)))
                          rw [this] at h3; exact h3
                      refine AS.skip ?_
                      refine AS.rwk ?_
                      refine AS.end_ Try.func147 rfl (.nil) ?_
                      exact RWk.drop [] rfl ⟨c1, hw.trans ((w1.mono (Nat.le_refl _) (by omega)).trans (w2.mono (by omega) (Nat.le_refl _))), halves_end hH ⟨by omega, by omega⟩ w1 t1 w2 t2, rfl⟩
                  · refine AS.pass rfl rfl rfl ?_
                    refine AS.pass rfl rfl rfl ?_
                    refine AS.pass rfl rfl rfl ?_
                    refine AS.pick rfl rfl rfl rfl rfl ?_
                    refine AS.opsEnd ?_
                    have w2 : Within c1 c1 mid hi := .refl _ _ _
                    have t2 : SortedR c1 mid hi := by
                      simp only [decide_eq_false_iff_not] at g209
                      have : mid + m - s = mid := by omega
                      have h3 := (SortedR.out w1 hH.r2 (.inr (by omega)))
                      rw [this] at h3; exact h3
                    refine AS.condF rfl ?_
                    refine AS.skip ?_
                    refine AS.rwk ?_
                    refine AS.end_ Try.func147 rfl (.nil) ?_
                    exact RWk.drop [] rfl ⟨c1, hw.trans ((w1.mono (Nat.le_refl _) (by omega)).trans (w2.mono (by omega) (Nat.le_refl _))), halves_end hH ⟨by omega, by omega⟩ w1 t1 w2 t2, rfl⟩
              · refine AS.pass rfl rfl rfl ?_
                refine AS.pass rfl rfl rfl ?_
                refine AS.pass rfl rfl rfl ?_
                refine AS.pick rfl rfl rfl rfl rfl ?_
                refine AS.opsEnd ?_
                have w1 : Within c1 c1 lo mid := .refl _ _ _
                have t1 : SortedR c1 lo mid := by
                  simp only [decide_eq_true_eq, decide_eq_false_iff_not] at g195
                  have : s = lo := by omega
                  have h3 := hH.r1
                  rw [this] at h3; exact h3
                have hk2 := hk1
                have hn2 := hn1
                refine AS.condF rfl ?_
                refine AS.skip ?_
                refine AS.seq ?_
                refine AS.region rfl ?_
                refine AS.move rfl rfl rfl rfl ?_
                refine AS.move rfl rfl rfl rfl ?_
                refine AS.bin rfl rfl rfl rfl rfl (BinR.lss rfl) ?_
                refine AS.move rfl rfl rfl rfl ?_
                refine AS.splitT 209 rfl (fun g209 => ?_) (fun g209 => ?_)
                · refine AS.move rfl rfl rfl rfl ?_
                  refine AS.move rfl rfl rfl rfl ?_
                  refine AS.bin rfl rfl rfl rfl rfl (BinR.lss rfl) ?_
                  refine AS.pick rfl rfl rfl rfl rfl ?_
                  refine AS.opsEnd ?_
                  refine AS.cond rfl (fun hc13 => ?_) (fun hc13 => ?_)
                  · refine AS.region rfl ?_
                    refine AS.move rfl rfl rfl rfl ?_
                    refine AS.move rfl rfl rfl rfl ?_
                    refine AS.move rfl rfl rfl rfl ?_
                    refine AS.move rfl rfl rfl rfl ?_
                    refine AS.move rfl rfl rfl rfl ?_
                    refine AS.call rfl rfl rfl rfl TT10.en147 (ih c1 rs b n cap mid (mid + m - s) hi H hk2 hn2 (by omega) hb (by simp only [decide_eq_true_eq] at g209; omega) (by simp only [decide_eq_true_eq] at hc13; omega) (SortedR.out w1 hH.l2 (.inr (Nat.le_refl _))) (SortedR.out w1 hH.r2 (.inr (by omega))) (by omega)) ?_
                    rintro _ _ ⟨c3, w2, t2, rfl⟩
                    refine AS.opsEnd ?_
                    refine AS.rwk ?_
                    refine AS.end_ Try.func147 rfl (.nil) ?_
                    exact RWk.drop [] rfl ⟨c3, hw.trans ((w1.mono (Nat.le_refl _) (by omega)).trans (w2.mono (by omega) (Nat.le_refl _))), halves_end hH ⟨by omega, by omega⟩ w1 t1 w2 t2, rfl⟩
                  · have w2 : Within c1 c1 mid hi := .refl _ _ _
                    have t2 : SortedR c1 mid hi := by
                      simp only [decide_eq_true_eq, decide_eq_false_iff_not] at g209 hc13
                      by_cases hq : mid < mid + m - s
                      · have : mid + m - s = hi := by omega
                        have h3 := (SortedR.out w1 hH.l2 (.inr (Nat.le_refl _)))
                        rw [this] at h3; exact h3
                      · have : mid + m - s = mid := by omega
                        have h3 := (SortedR.out w1 hH.r2 (.inr (by omega)))
                        rw [this] at h3; exact h3
                    refine AS.skip ?_
                    refine AS.rwk ?_
                    refine AS.end_ Try.func147 rfl (.nil) ?_
                    exact RWk.drop [] rfl ⟨c1, hw.trans ((w1.mono (Nat.le_refl _) (by omega)).trans (w2.mono (by omega) (Nat.le_refl _))), halves_end hH ⟨by omega, by omega⟩ w1 t1 w2 t2, rfl⟩
                · refine AS.pass rfl rfl rfl ?_
                  refine AS.pass rfl rfl rfl ?_
                  refine AS.pass rfl rfl rfl ?_
                  refine AS.pick rfl rfl rfl rfl rfl ?_
                  refine AS.opsEnd ?_
                  have w2 : Within c1 c1 mid hi := .refl _ _ _
                  have t2 : SortedR c1 mid hi := by
                    simp only [decide_eq_false_iff_not] at g209
                    have : mid + m - s = mid := by omega
                    have h3 := (SortedR.out w1 hH.r2 (.inr (by omega)))
                    rw [this] at h3; exact h3
                  refine AS.condF rfl ?_
                  refine AS.skip ?_
                  refine AS.rwk ?_
                  refine AS.end_ Try.func147 rfl (.nil) ?_
                  exact RWk.drop [] rfl ⟨c1, hw.trans ((w1.mono (Nat.le_refl _) (by omega)).trans (w2.mono (by omega) (Nat.le_refl _))), halves_end hH ⟨by omega, by omega⟩ w1 t1 w2 t2, rfl⟩
            · have hH := halves (l' := l) (b := hi) (by omega) h1 h2 hmid s1 s2 hlo hI (.inr ⟨by simp only [decide_eq_true_eq, decide_eq_false_iff_not] at *; omega, rfl⟩)
              have hw : Within l l lo hi := .refl _ _ _
              have hk1 := hk
              have hn1 := hn
              refine AS.skip ?_
              refine AS.seq ?_
              refine AS.seq ?_
              refine AS.region rfl ?_
              refine AS.move rfl rfl rfl rfl ?_
              refine AS.move rfl rfl rfl rfl ?_
              refine AS.bin rfl rfl rfl rfl rfl (BinR.lss rfl) ?_
              refine AS.move rfl rfl rfl rfl ?_
              refine AS.splitT 195 rfl (fun g195 => ?_) (fun g195 => ?_)
              · refine AS.move rfl rfl rfl rfl ?_
                refine AS.move rfl rfl rfl rfl ?_
                refine AS.bin rfl rfl rfl rfl rfl (BinR.lss rfl) ?_
                refine AS.pick rfl rfl rfl rfl rfl ?_
                refine AS.opsEnd ?_
                refine AS.cond rfl (fun hc12 => ?_) (fun hc12 => ?_)
                · refine AS.region rfl ?_
                  refine AS.move rfl rfl rfl rfl ?_
                  refine AS.move rfl rfl rfl rfl ?_
                  refine AS.move rfl rfl rfl rfl ?_
                  refine AS.move rfl rfl rfl rfl ?_
                  refine AS.move rfl rfl rfl rfl ?_
                  refine AS.call rfl rfl rfl rfl TT10.en147 (ih l rs b n cap lo s mid H hk1 hn1 (by omega) hb (by simp only [decide_eq_true_eq] at g195; omega) (by simp only [decide_eq_true_eq] at hc12; omega) hH.l1 hH.r1 (by omega)) ?_
                  rintro _ _ ⟨c2, w1, t1, rfl⟩
                  have hk2 : ∀ o ∈ c2, keyFits o.key := fun o ho => hk1 o (w1.perm.mem_iff.1 ho)
                  have hn2 : n = c2.length := by rw [w1.len]; exact hn1
                  refine AS.opsEnd ?_
                  refine AS.seq ?_
                  refine AS.region rfl ?_
                  refine AS.move rfl rfl rfl rfl ?_
                  refine AS.move rfl rfl rfl rfl ?_
                  refine AS.bin rfl rfl rfl rfl rfl (BinR.lss rfl) ?_
                  refine AS.move rfl rfl rfl rfl ?_
                  refine AS.splitT 209 rfl (fun g209 => ?_) (fun g209 => ?_)
                  · refine AS.move rfl rfl rfl rfl ?_
                    refine AS.move rfl rfl rfl rfl ?_
                    refine AS.bin rfl rfl rfl rfl rfl (BinR.lss rfl) ?_
                    refine AS.pick rfl rfl rfl rfl rfl ?_
                    refine AS.opsEnd ?_
                    refine AS.cond rfl (fun hc13 => ?_) (fun hc13 => ?_)
                    · refine AS.region rfl ?_
                      refine AS.move rfl rfl rfl rfl ?_
                      refine AS.move rfl rfl rfl rfl ?_
                      refine AS.move rfl rfl rfl rfl ?_
                      refine AS.move rfl rfl rfl rfl ?_
                      refine AS.move rfl rfl rfl rfl ?_
                      refine AS.call rfl rfl rfl rfl TT10.en147 (ih c2 rs b n cap mid (mid + m - s) hi H hk2 hn2 (by omega) hb (by simp only [decide_eq_true_eq] at g209; omega) (by simp only [decide_eq_true_eq] at hc13; omega) (SortedR.out w1 hH.l2 (.inr (Nat.le_refl _))) (SortedR.out w1 hH.r2 (.inr (by omega))) (by omega)) ?_
                      rintro _ _ ⟨c3, w2, t2, rfl⟩
                      refine AS.opsEnd ?_
                      refine AS.rwk ?_
                      refine AS.end_ Try.func147 rfl (.nil) ?_
                      exact RWk.drop [] rfl ⟨c3, hw.trans ((w1.mono (Nat.le_refl _) (by omega)).trans (w2.mono (by omega) (Nat.le_refl _))), halves_end hH ⟨by omega, by omega⟩ w1 t1 w2 t2, rfl⟩
                    · have w2 : Within c2 c2 mid hi := .refl _ _ _
                      have t2 : SortedR c2 mid hi := by
                        simp only [decide_eq_true_eq, decide_eq_false_iff_not] at g209 hc13
                        by_cases hq : mid < mid + m - s
                        · have : mid + m - s = hi := by omega
                          have h3 := (SortedR.out w1 hH.l2 (.inr (Nat.le_refl _)))
                          rw [this] at h3; exact h3
                        · have : mid + m - s = mid := by omega
                          have h3 := (SortedR.out w1 hH.r2 (.inr (by omega)))
                          rw [this] at h3; exact h3
                      refine AS.skip ?_
                      refine AS.rwk ?_
                      refine AS.end_ Try.func147 rfl (.nil) ?_
                      exact RWk.drop [] rfl ⟨c2, hw.trans ((w1.mono (Nat.le_refl _) (by omega)).trans (w2.mono (by omega) (Nat.le_refl _))), halves_end hH ⟨by omega, by omega⟩ w1 t1 w2 t2, rfl⟩
                  · refine AS.pass rfl rfl rfl ?_
                    refine AS.pass rfl rfl rfl ?_
                    refine AS.pass rfl rfl rfl ?_
                    refine AS.pick rfl rfl rfl rfl rfl ?_
                    refine AS.opsEnd ?_
                    have w2 : Within c2 c2 mid hi := .refl _ _ _
                    have t2 : SortedR c2 mid hi := by
                      simp only [decide_eq_false_iff_not] at g209
                      have : mid + m - s = mid := by omega
                      have h3 := (SortedR.out w1 hH.r2 (.inr (by omega)))
                      rw [this] at h3; exact h3
                    refine AS.condF rfl ?_
                    refine AS.skip ?_
                    refine AS.rwk ?_
                    refine AS.end_ Try.func147 rfl (.nil) ?_
                    exact RWk.drop [] rfl ⟨c2, hw.trans ((w1.mono (Nat.le_refl _) (by omega)).trans (w2.mono (by omega) (Nat.le_refl _))), halves_end hH ⟨by omega, by omega⟩ w1 t1 w2 t2, rfl⟩
                · have w1 : Within l l lo mid := .refl _ _ _
                  have t1 : SortedR l lo mid := by
                    simp only [decide_eq_true_eq, decide_eq_false_iff_not] at g195 hc12
                    by_cases hq : lo < s
                    · have : s = mid := by omega
                      rw [← this]; exact hH.l1
                    · have : s = lo := by omega
                      have h3 := hH.r1
                      rw [this] at h3; exact h3
                  have hk2 := hk1
                  have hn2 := hn1
                  refine AS.skip ?_
                  refine AS.seq ?_
                  refine AS.region rfl ?_
                  refine AS.move rfl rfl rfl rfl ?_
                  refine AS.move rfl rfl rfl rfl ?_
                  refine AS.bin rfl rfl rfl rfl rfl (BinR.lss rfl) ?_
                  refine AS.move rfl rfl rfl rfl ?_
                  refine AS.splitT 209 rfl (fun g209 => ?_) (fun g209 => ?_)
                  · refine AS.move rfl rfl rfl rfl ?_
                    refine AS.move rfl rfl rfl rfl ?_
                    refine AS.bin rfl rfl rfl rfl rfl (BinR.lss rfl) ?_
                    refine AS.pick rfl rfl rfl rfl rfl ?_
                    refine AS.opsEnd ?_
                    refine AS.cond rfl (fun hc13 => ?_) (fun hc13 => ?_)
                    · refine AS.region rfl ?_
                      refine AS.move rfl rfl rfl rfl ?_
                      refine AS.move rfl rfl rfl rfl ?_
                      refine AS.move rfl rfl rfl rfl ?_
                      refine AS.move rfl rfl rfl rfl ?_
                      refine AS.move rfl rfl rfl rfl ?_
                      refine AS.call rfl rfl rfl rfl TT10.en147 (ih l rs b n cap mid (mid + m - s) hi H hk2 hn2 (by omega) hb (by simp only [decide_eq_true_eq] at g209; omega) (by simp only [decide_eq_true_eq] at hc13; omega) (SortedR.out w1 hH.l2 (.inr (Nat.le_refl _))) (SortedR.out w1 hH.r2 (.inr (by omega))) (by omega)) ?_
                      rintro _ _ ⟨c3, w2, t2, rfl⟩
                      refine AS.opsEnd ?_
                      refine AS.rwk ?_
                      refine AS.end_ Try.func147 rfl (.nil) ?_
                      exact RWk.drop [] rfl ⟨c3, hw.trans ((w1.mono (Nat.le_refl _) (by omega)).trans (w2.mono (by omega) (Nat.le_refl _))), halves_end hH ⟨by omega, by omega⟩ w1 t1 w2 t2, rfl⟩
                    · have w2 : Within l l mid hi := .refl _ _ _
                      have t2 : SortedR l mid hi := by
                        simp only [decide_eq_true_eq, decide_eq_false_iff_not] at g209 hc13
                        by_cases hq : mid < mid + m - s
                        · have : mid + m - s = hi := by omega
                          have h3 := (SortedR.out w1 hH.l2 (.inr (Nat.le_refl _)))
                          rw [this] at h3; exact h3
                        · have : mid + m - s = mid := by omega
                          have h3 := (SortedR.out w1 hH.r2 (.inr (by omega)))
                          rw [this] at h3; exact h3
                      refine AS.skip ?_
                      refine AS.rwk ?_
                      refine AS.end_ Try.func147 rfl (.nil) ?_
                      exact RWk.drop [] rfl ⟨l, hw.trans ((w1.mono (Nat.le_refl _) (by omega)).trans (w2.mono (by omega) (Nat.le_refl _))), halves_end hH ⟨by omega, by omega⟩ w1 t1 w2 t2, rfl⟩
                  · refine AS.pass rfl rfl rfl ?_
                    refine AS.pass rfl rfl rfl ?_
                    refine AS.pass rfl rfl rfl ?_
                    refine AS.pick rfl rfl rfl rfl rfl ?_
                    refine AS.opsEnd ?_
                    have w2 : Within l l mid hi := .refl _ _ _
                    have t2 : SortedR l mid hi := by
                      simp only [decide_eq_false_iff_not] at g209
                      have : mid + m - s = mid := by omega
                      have h3 := (SortedR.out w1 hH.r2 (.inr (by omega)))
                      rw [this] at h3; exact h3
                    refine AS.condF rfl ?_
                    refine AS.skip ?_
                    refine AS.rwk ?_
                    refine AS.end_ Try.func147 rfl (.nil) ?_
                    exact RWk.drop [] rfl ⟨l, hw.trans ((w1.mono (Nat.le_refl _) (by omega)).trans (w2.mono (by omega) (Nat.le_refl _))), halves_end hH ⟨by omega, by omega⟩ w1 t1 w2 t2, rfl⟩
              · refine AS.pass rfl rfl rfl ?_
                refine AS.pass rfl rfl rfl ?_
                refine AS.pass rfl rfl rfl ?_
                refine AS.pick rfl rfl rfl rfl rfl ?_
                refine AS.opsEnd ?_
                have w1 : Within l l lo mid := .refl _ _ _
                have t1 : SortedR l lo mid := by
                  simp only [decide_eq_true_eq, decide_eq_false_iff_not] at g195
                  have : s = lo := by omega
                  have h3 := hH.r1
                  rw [this] at h3; exact h3
                have hk2 := hk1
                have hn2 := hn1
                refine AS.condF rfl ?_
                refine AS.skip ?_
                refine AS.seq ?_
                refine AS.region rfl ?_
                refine AS.move rfl rfl rfl rfl ?_
                refine AS.move rfl rfl rfl rfl ?_
                refine AS.bin rfl rfl rfl rfl rfl (BinR.lss rfl) ?_
                refine AS.move rfl rfl rfl rfl ?_
                refine AS.splitT 209 rfl (fun g209 => ?_) (fun g209 => ?_)
                · refine AS.move rfl rfl rfl rfl ?_
                  refine AS.move rfl rfl rfl rfl ?_
                  refine AS.bin rfl rfl rfl rfl rfl (BinR.lss rfl) ?_
                  refine AS.pick rfl rfl rfl rfl rfl ?_
                  refine AS.opsEnd ?_
                  refine AS.cond rfl (fun hc13 => ?_) (fun hc13 => ?_)
                  · refine AS.region rfl ?_
                    refine AS.move rfl rfl rfl rfl ?_
                    refine AS.move rfl rfl rfl rfl ?_
                    refine AS.move rfl rfl rfl rfl ?_
                    refine AS.move rfl rfl rfl rfl ?_
                    refine AS.move rfl rfl rfl rfl ?_
                    refine AS.call rfl rfl rfl rfl TT10.en147 (ih l rs b n cap mid (mid + m - s) hi H hk2 hn2 (by omega) hb (by simp only [decide_eq_true_eq] at g209; omega) (by simp only [decide_eq_true_eq] at hc13; omega) (SortedR.out w1 hH.l2 (.inr (Nat.le_refl _))) (SortedR.out w1 hH.r2 (.inr (by omega))) (by omega)) ?_
                    rintro _ _ ⟨c3, w2, t2, rfl⟩
                    refine AS.opsEnd ?_
                    refine AS.rwk ?_
                    refine AS.end_ Try.func147 rfl (.nil) ?_
                    exact RWk.drop [] rfl ⟨c3, hw.trans ((w1.mono (Nat.le_refl _) (by omega)).trans (w2.mono (by omega) (Nat.le_refl _))), halves_end hH ⟨by omega, by omega⟩ w1 t1 w2 t2, rfl⟩
                  · have w2 : Within l l mid hi := .refl _ _ _
                    have t2 : SortedR l mid hi := by
                      simp only [decide_eq_true_eq, decide_eq_false_iff_not] at g209 hc13
                      by_cases hq : mid < mid + m - s
                      · have : mid + m - s = hi := by omega
                        have h3 := (SortedR.out w1 hH.l2 (.inr (Nat.le_refl _)))
                        rw [this] at h3; exact h3
                      · have : mid + m - s = mid := by omega
                        have h3 := (SortedR.out w1 hH.r2 (.inr (by omega)))
                        rw [this] at h3; exact h3
                    refine AS.skip ?_
                    refine AS.rwk ?_
                    refine AS.end_ Try.func147 rfl (.nil) ?_
                    exact RWk.drop [] rfl ⟨l, hw.trans ((w1.mono (Nat.le_refl _) (by omega)).trans (w2.mono (by omega) (Nat.le_refl _))), halves_end hH ⟨by omega, by omega⟩ w1 t1 w2 t2, rfl⟩
                · refine AS.pass rfl rfl rfl ?_
                  refine AS.pass rfl rfl rfl ?_
                  refine AS.pass rfl rfl rfl ?_
                  refine AS.pick rfl rfl rfl rfl rfl ?_
                  refine AS.opsEnd ?_
                  have w2 : Within l l mid hi := .refl _ _ _
                  have t2 : SortedR l mid hi := by
                    simp only [decide_eq_false_iff_not] at g209
                    have : mid + m - s = mid := by omega
                    have h3 := (SortedR.out w1 hH.r2 (.inr (by omega)))
                    rw [this] at h3; exact h3
                  refine AS.condF rfl ?_
                  refine AS.skip ?_
                  refine AS.rwk ?_
                  refine AS.end_ Try.func147 rfl (.nil) ?_
                  exact RWk.drop [] rfl ⟨l, hw.trans ((w1.mono (Nat.le_refl _) (by omega)).trans (w2.mono (by omega) (Nat.le_refl _))), halves_end hH ⟨by omega, by omega⟩ w1 t1 w2 t2, rfl⟩
          · refine AS.pass rfl rfl rfl ?_
            refine AS.pass rfl rfl rfl ?_
            refine AS.pass rfl rfl rfl ?_
            refine AS.pick rfl rfl rfl rfl rfl ?_
            refine AS.opsEnd ?_
            have hH := halves (l' := l) (b := hi) (by omega) h1 h2 hmid s1 s2 hlo hI (.inr ⟨by simp only [decide_eq_false_iff_not] at *; omega, rfl⟩)
            have hw : Within l l lo hi := .refl _ _ _
            have hk1 := hk
            have hn1 := hn
            refine AS.condF rfl ?_
            refine AS.skip ?_
            refine AS.seq ?_
            refine AS.seq ?_
            refine AS.region rfl ?_
            refine AS.move rfl rfl rfl rfl ?_
            refine AS.move rfl rfl rfl rfl ?_
            refine AS.bin rfl rfl rfl rfl rfl (BinR.lss rfl) ?_
            refine AS.move rfl rfl rfl rfl ?_
            refine AS.splitT 195 rfl (fun g195 => ?_) (fun g195 => ?_)
            · refine AS.move rfl rfl rfl rfl ?_
              refine AS.move rfl rfl rfl rfl ?_
              refine AS.bin rfl rfl rfl rfl rfl (BinR.lss rfl) ?_
              refine AS.pick rfl rfl rfl rfl rfl ?_
              refine AS.opsEnd ?_
              refine AS.cond rfl (fun hc12 => ?_) (fun hc12 => ?_)
              · refine AS.region rfl ?_
                refine AS.move rfl rfl rfl rfl ?_
                refine AS.move rfl rfl rfl rfl ?_
                refine AS.move rfl rfl rfl rfl ?_
                refine AS.move rfl rfl rfl rfl ?_
                refine AS.move rfl rfl rfl rfl ?_
                refine AS.call rfl rfl rfl rfl TT10.en147 (ih l rs b n cap lo s mid H hk1 hn1 (by omega) hb (by simp only [decide_eq_true_eq] at g195; omega) (by simp only [decide_eq_true_eq] at hc12; omega) hH.l1 hH.r1 (by omega)) ?_
                rintro _ _ ⟨c2, w1, t1, rfl⟩
                have hk2 : ∀ o ∈ c2, keyFits o.key := fun o ho => hk1 o (w1.perm.mem_iff.1 ho)
                have hn2 : n = c2.length := by rw [w1.len]; exact hn1
                refine AS.opsEnd ?_
                refine AS.seq ?_
                refine AS.region rfl ?_
                refine AS.move rfl rfl rfl rfl ?_
                refine AS.move rfl rfl rfl rfl ?_
                refine AS.bin rfl rfl rfl rfl rfl (BinR.lss rfl) ?_
                refine AS.move rfl rfl rfl rfl ?_
                refine AS.splitT 209 rfl (fun g209 => ?_) (fun g209 => ?_)
                · refine AS.move rfl rfl rfl rfl ?_
                  refine AS.move rfl rfl rfl rfl ?_
                  refine AS.bin rfl rfl rfl rfl rfl (BinR.lss rfl) ?_
                  refine AS.pick rfl rfl rfl rfl rfl ?_
                  refine AS.opsEnd ?_
                  refine AS.cond rfl (fun hc13 => ?_) (fun hc13 => ?_)
                  · refine AS.region rfl ?_
                    refine AS.move rfl rfl rfl rfl ?_
                    refine AS.move rfl rfl rfl rfl ?_
                    refine AS.move rfl rfl rfl rfl ?_
                    refine AS.move rfl rfl rfl rfl ?_
                    refine AS.move rfl rfl rfl rfl ?_
                    refine AS.call rfl rfl rfl rfl TT10.en147 (ih c2 rs b n cap mid (mid + m - s) hi H hk2 hn2 (by omega) hb (by simp only [decide_eq_true_eq] at g209; omega) (by simp only [decide_eq_true_eq] at hc13; omega) (SortedR.out w1 hH.l2 (.inr (Nat.le_refl _))) (SortedR.out w1 hH.r2 (.inr (by omega))) (by omega)) ?_
                    rintro _ _ ⟨c3, w2, t2, rfl⟩
                    refine AS.opsEnd ?_
                    refine AS.rwk ?_
                    refine AS.end_ Try.func147 rfl (.nil) ?_
                    exact RWk.drop [] rfl ⟨c3, hw.trans ((w1.mono (Nat.le_refl _) (by omega)).trans (w2.mono (by omega) (Nat.le_refl _))), halves_end hH ⟨by omega, by omega⟩ w1 t1 w2 t2, rfl⟩
                  · have w2 : Within c2 c2 mid hi := .refl _ _ _
                    have t2 : SortedR c2 mid hi := by
                      simp only [decide_eq_true_eq, decide_eq_false_iff_not] at g209 hc13
                      by_cases hq : mid < mid + m - s
                      · have : mid + m - s = hi := by omega
                        have h3 := (SortedR.out w1 hH.l2 (.inr (Nat.le_refl _)))
                        rw [this] at h3; exact h3
                      · have : mid + m - s = mid := by omega
                        have h3 := (SortedR.out w1 hH.r2 (.inr (by omega)))
                        rw [this] at h3; exact h3
                    refine AS.skip ?_
                    refine AS.rwk ?_
                    refine AS.end_ Try.func147 rfl (.nil) ?_
                    exact RWk.drop [] rfl ⟨c2, hw.trans ((w1.mono (Nat.le_refl _) (by omega)).trans (w2.mono (by omega) (Nat.le_refl _))), halves_end hH ⟨by omega, by omega⟩ w1 t1 w2 t2, rfl⟩
                · refine AS.pass rfl rfl rfl ?_
                  refine AS.pass rfl rfl rfl ?_
                  refine AS.pass rfl rfl rfl ?_
                  refine AS.pick rfl rfl rfl rfl rfl ?_
                  refine AS.opsEnd ?_
                  have w2 : Within c2 c2 mid hi := .refl _ _ _
                  have t2 : SortedR c2 mid hi := by
                    simp only [decide_eq_false_iff_not] at g209
                    have : mid + m - s = mid := by omega
                    have h3 := (SortedR.out w1 hH.r2 (.inr (by omega)))
                    rw [this] at h3; exact h3
                  refine AS.condF rfl ?_
                  refine AS.skip ?_
                  refine AS.rwk ?_
                  refine AS.end_ Try.func147 rfl (.nil) ?_
                  exact RWk.drop [] rfl ⟨c2, hw.trans ((w1.mono (Nat.le_refl _) (by omega)).trans (w2.mono (by omega) (Nat.le_refl _))), halves_end hH ⟨by omega, by omega⟩ w1 t1 w2 t2, rfl⟩
              · have w1 : Within l l lo mid := .refl _ _ _
                have t1 : SortedR l lo mid := by
                  simp only [decide_eq_true_eq, decide_eq_false_iff_not] at g195 hc12
                  by_cases hq : lo < s
                  · have : s = mid := by omega
                    rw [← this]; exact hH.l1
                  · have : s = lo := by omega
                    have h3 := hH.r1
                    rw [this] at h3; exact h3
                have hk2 := hk1
                have hn2 := hn1
                refine AS.skip ?_
                refine AS.seq ?_
                refine AS.region rfl ?_
                refine AS.move rfl rfl rfl rfl ?_
                refine AS.move rfl rfl rfl rfl ?_
                refine AS.bin rfl rfl rfl rfl rfl (BinR.lss rfl) ?_
                refine AS.move rfl rfl rfl rfl ?_
                refine AS.splitT 209 rfl (fun g209 => ?_) (fun g209 => ?_)
                · refine AS.move rfl rfl rfl rfl ?_
                  refine AS.move rfl rfl rfl rfl ?_
                  refine AS.bin rfl rfl rfl rfl rfl (BinR.lss rfl) ?_
                  refine AS.pick rfl rfl rfl rfl rfl ?_
                  refine AS.opsEnd ?_
                  refine AS.cond rfl (fun hc13 => ?_) (fun hc13 => ?_)
                  · refine AS.region rfl ?_
                    refine AS.move rfl rfl rfl rfl ?_
                    refine AS.move rfl rfl rfl rfl ?_
                    refine AS.move rfl rfl rfl rfl ?_
                    refine AS.move rfl rfl rfl rfl ?_
                    refine AS.move rfl rfl rfl rfl ?_
                    refine AS.call rfl rfl rfl rfl TT10.en147 (ih l rs b n cap mid (mid + m - s) hi H hk2 hn2 (by omega) hb (by simp only [decide_eq_true_eq] at g209; omega) (by simp only [decide_eq_true_eq] at hc13; omega) (SortedR.out w1 hH.l2 (.inr (Nat.le_refl _))) (SortedR.out w1 hH.r2 (.inr (by omega))) (by omega)) ?_
                    rintro _ _ ⟨c3, w2, t2, rfl⟩
                    refine AS.opsEnd ?_
                    refine AS.rwk ?_
                    refine AS.end_ Try.func147 rfl (.nil) ?_
                    exact RWk.drop [] rfl ⟨c3, hw.trans ((w1.mono (Nat.le_refl _) (by omega)).trans (w2.mono (by omega) (Nat.le_refl _))), halves_end hH ⟨by omega, by omega⟩ w1 t1 w2 t2, rfl⟩
                  · have w2 : Within l l mid hi := .refl _ _ _
                    have t2 : SortedR l mid hi := by
                      simp only [decide_eq_true_eq, decide_eq_false_iff_not] at g209 hc13
                      by_cases hq : mid < mid + m - s
                      · have : mid + m - s = hi := by omega
                        have h3 := (SortedR.out w1 hH.l2 (.inr (Nat.le_refl _)))
                        rw [this] at h3; exact h3
                      · have : mid + m - s = mid := by omega
                        have h3 := (SortedR.out w1 hH.r2 (.inr (by omega)))
                        rw [this] at h3; exact h3
                    refine AS.skip ?_
                    refine AS.rwk ?_
                    refine AS.end_ Try.func147 rfl (.nil) ?_
                    exact RWk.drop [] rfl ⟨l, hw.trans ((w1.mono (Nat.le_refl _) (by omega)).trans (w2.mono (by omega) (Nat.le_refl _))), halves_end hH ⟨by omega, by omega⟩ w1 t1 w2 t2, rfl⟩
                · refine AS.pass rfl rfl rfl ?_
                  refine AS.pass rfl rfl rfl ?_
                  refine AS.pass rfl rfl rfl ?_
                  refine AS.pick rfl rfl rfl rfl rfl ?_
                  refine AS.opsEnd ?_
                  have w2 : Within l l mid hi := .refl _ _ _
                  have t2 : SortedR l mid hi := by
                    simp only [decide_eq_false_iff_not] at g209
                    have : mid + m - s = mid := by omega
                    have h3 := (SortedR.out w1 hH.r2 (.inr (by omega)))
                    rw [this] at h3; exact h3
                  refine AS.condF rfl ?_
                  refine AS.skip ?_
                  refine AS.rwk ?_
                  refine AS.end_ Try.func147 rfl (.nil) ?_
                  exact RWk.drop [] rfl ⟨l, hw.trans ((w1.mono (Nat.le_refl _) (by omega)).trans (w2.mono (by omega) (Nat.le_refl _))), halves_end hH ⟨by omega, by omega⟩ w1 t1 w2 t2, rfl⟩
            · refine AS.pass rfl rfl rfl ?_
              refine AS.pass rfl rfl rfl ?_
              refine AS.pass rfl rfl rfl ?_
              refine AS.pick rfl rfl rfl rfl rfl ?_
              refine AS.opsEnd ?_
              have w1 : Within l l lo mid := .refl _ _ _
              have t1 : SortedR l lo mid := by
                simp only [decide_eq_true_eq, decide_eq_false_iff_not] at g195
                have : s = lo := by omega
                have h3 := hH.r1
                rw [this] at h3; exact h3
              have hk2 := hk1
              have hn2 := hn1
              refine AS.condF rfl ?_
              refine AS.skip ?_
              refine AS.seq ?_
              refine AS.region rfl ?_
              refine AS.move rfl rfl rfl rfl ?_
              refine AS.move rfl rfl rfl rfl ?_
              refine AS.bin rfl rfl rfl rfl rfl (BinR.lss rfl) ?_
              refine AS.move rfl rfl rfl rfl ?_
              refine AS.splitT 209 rfl (fun g209 => ?_) (fun g209 => ?_)
              · refine AS.move rfl rfl rfl rfl ?_
                refine AS.move rfl rfl rfl rfl ?_
                refine AS.bin rfl rfl rfl rfl rfl (BinR.lss rfl) ?_
                refine AS.pick rfl rfl rfl rfl rfl ?_
                refine AS.opsEnd ?_
                refine AS.cond rfl (fun hc13 => ?_) (fun hc13 => ?_)
                · refine AS.region rfl ?_
                  refine AS.move rfl rfl rfl rfl ?_
                  refine AS.move rfl rfl rfl rfl ?_
                  refine AS.move rfl rfl rfl rfl ?_
                  refine AS.move rfl rfl rfl rfl ?_
                  refine AS.move rfl rfl rfl rfl ?_
                  refine AS.call rfl rfl rfl rfl TT10.en147 (ih l rs b n cap mid (mid + m - s) hi H hk2 hn2 (by omega) hb (by simp only [decide_eq_true_eq] at g209; omega) (by simp only [decide_eq_true_eq] at hc13; omega) (SortedR.out w1 hH.l2 (.inr (Nat.le_refl _))) (SortedR.out w1 hH.r2 (.inr (by omega))) (by omega)) ?_
                  rintro _ _ ⟨c3, w2, t2, rfl⟩
                  refine AS.opsEnd ?_
                  refine AS.rwk ?_
                  refine AS.end_ Try.func147 rfl (.nil) ?_
                  exact RWk.drop [] rfl ⟨c3, hw.trans ((w1.mono (Nat.le_refl _) (by omega)).trans (w2.mono (by omega) (Nat.le_refl _))), halves_end hH ⟨by omega, by omega⟩ w1 t1 w2 t2, rfl⟩
                · have w2 : Within l l mid hi := .refl _ _ _
                  have t2 : SortedR l mid hi := by
                    simp only [decide_eq_true_eq, decide_eq_false_iff_not] at g209 hc13
                    by_cases hq : mid < mid + m - s
                    · have : mid + m - s = hi := by omega
                      have h3 := (SortedR.out w1 hH.l2 (.inr (Nat.le_refl _)))
                      rw [this] at h3; exact h3
                    · have : mid + m - s = mid := by omega
                      have h3 := (SortedR.out w1 hH.r2 (.inr (by omega)))
                      rw [this] at h3; exact h3
                  refine AS.skip ?_
                  refine AS.rwk ?_
                  refine AS.end_ Try.func147 rfl (.nil) ?_
                  exact RWk.drop [] rfl ⟨l, hw.trans ((w1.mono (Nat.le_refl _) (by omega)).trans (w2.mono (by omega) (Nat.le_refl _))), halves_end hH ⟨by omega, by omega⟩ w1 t1 w2 t2, rfl⟩
              · refine AS.pass rfl rfl rfl ?_
                refine AS.pass rfl rfl rfl ?_
                refine AS.pass rfl rfl rfl ?_
                refine AS.pick rfl rfl rfl rfl rfl ?_
                refine AS.opsEnd ?_
                have w2 : Within l l mid hi := .refl _ _ _
                have t2 : SortedR l mid hi := by
                  simp only [decide_eq_false_iff_not] at g209
                  have : mid + m - s = mid := by omega
                  have h3 := (SortedR.out w1 hH.r2 (.inr (by omega)))
                  rw [this] at h3; exact h3
                refine AS.condF rfl ?_
                refine AS.skip ?_
                refine AS.rwk ?_
                refine AS.end_ Try.func147 rfl (.nil) ?_
                exact RWk.drop [] rfl ⟨l, hw.trans ((w1.mono (Nat.le_refl _) (by omega)).trans (w2.mono (by omega) (Nat.le_refl _))), halves_end hH ⟨by omega, by omega⟩ w1 t1 w2 t2, rfl⟩
theorem symMerge_spec : ∀ N, SymC N
  | 0 => fun _ _ _ _ _ _ _ _ _ _ _ _ _ _ _ _ _ h => absurd h (Nat.not_lt_zero _)
  | N + 1 => fun l rs b n cap lo m hi H hk hn hh hb h1 h2 s1 s2 hN => symMerge_step N (symMerge_spec N) l rs b n cap lo m hi H hk hn hh hb h1 h2 s1 s2 hN

end Go.Proofs.Ytncecheccihjoaa
/- T11 -/
namespace Go.Proofs.Ytncecheccihjoaa.TT11
open Go Go.Proofs.Fw Go.Shelf
theorem en101 : Enters Go.Proofs.Try.prog 101 := enters_of Go.Proofs.Try.func101 (by kernel_rfl) rfl
theorem en102 : Enters Go.Proofs.Try.prog 102 := enters_of Go.Proofs.Try.func102 (by kernel_rfl) rfl
theorem en126 : Enters Go.Proofs.Try.prog 126 := enters_of Go.Proofs.Try.func126 (by kernel_rfl) rfl
theorem en133 : Enters Go.Proofs.Try.prog 133 := enters_of Go.Proofs.Try.func133 (by kernel_rfl) rfl
theorem en146 : Enters Go.Proofs.Try.prog 146 := enters_of Go.Proofs.Try.func146 (by kernel_rfl) rfl
theorem en147 : Enters Go.Proofs.Try.prog 147 := enters_of Go.Proofs.Try.func147 (by kernel_rfl) rfl
theorem en166 : Enters Go.Proofs.Try.prog 166 := enters_of Go.Proofs.Try.func166 (by kernel_rfl) rfl
theorem en175 : Enters Go.Proofs.Try.prog 175 := enters_of Go.Proofs.Try.func175 (by kernel_rfl) rfl
theorem en20 : Enters Go.Proofs.Try.prog 20 := enters_of Go.Proofs.Try.func20 (by kernel_rfl) rfl
theorem en21 : Enters Go.Proofs.Try.prog 21 := enters_of Go.Proofs.Try.func21 (by kernel_rfl) rfl
theorem en52 : Enters Go.Proofs.Try.prog 52 := enters_of Go.Proofs.Try.func52 (by kernel_rfl) rfl
theorem en66 : Enters Go.Proofs.Try.prog 66 := enters_of Go.Proofs.Try.func66 (by kernel_rfl) rfl
theorem fl38_0 : fldI Go.Proofs.Try.prog 38 0 = some 0 := by kernel_rfl
theorem fl38_5 : fldI Go.Proofs.Try.prog 38 5 = some 7 := by kernel_rfl
theorem fl50_0 : fldI Go.Proofs.Try.prog 50 0 = some 0 := by kernel_rfl
theorem fl50_1 : fldI Go.Proofs.Try.prog 50 1 = some 1 := by kernel_rfl
theorem fl50_2 : fldI Go.Proofs.Try.prog 50 2 = some 9 := by kernel_rfl
theorem fl50_3 : fldI Go.Proofs.Try.prog 50 3 = some 10 := by kernel_rfl
theorem mixed : Go.Proofs.Try.prog.follows .mixedOrders = true := by kernel_rfl
theorem sl28 : sliI Go.Proofs.Try.prog 28 = some (50, 11, 144) := by kernel_rfl
theorem sl36 : sliI Go.Proofs.Try.prog 36 = some (116, 2, 24) := by kernel_rfl
theorem sl48 : sliI Go.Proofs.Try.prog 48 = some (38, 8, 104) := by kernel_rfl
theorem ty2 : tyI Go.Proofs.Try.prog 2 = some (1, false) := by kernel_rfl
theorem ty35 : tyI Go.Proofs.Try.prog 35 = some (3, true) := by kernel_rfl
theorem ty36 : tyI Go.Proofs.Try.prog 36 = some (1, false) := by kernel_rfl
theorem ty38 : tyI Go.Proofs.Try.prog 38 = some (8, true) := by kernel_rfl
theorem ty47 : tyI Go.Proofs.Try.prog 47 = some (1, false) := by kernel_rfl
theorem ty48 : tyI Go.Proofs.Try.prog 48 = some (1, false) := by kernel_rfl
theorem ty50 : tyI Go.Proofs.Try.prog 50 = some (11, true) := by kernel_rfl
theorem u180 : Go.Proofs.Try.prog.underlying 180 = some (.int .u64) := by kernel_rfl
theorem u28 : Go.Proofs.Try.prog.underlying 28 = some (.slice 50) := by kernel_rfl
theorem u3 : Go.Proofs.Try.prog.underlying 3 = some (.int .i64) := by kernel_rfl
theorem u36 : Go.Proofs.Try.prog.underlying 36 = some (.slice 116) := by kernel_rfl
theorem u48 : Go.Proofs.Try.prog.underlying 48 = some (.slice 38) := by kernel_rfl
theorem z116 : zI Go.Proofs.Try.prog 116 = some (.agg #[(.string ⟨#[]⟩), (.int .i64 0)]) := by kernel_rfl
theorem z38 : zI Go.Proofs.Try.prog 38 = some (.agg #[(.string ⟨#[]⟩), (.string ⟨#[]⟩), (.string ⟨#[]⟩), (.int .i64 0), (.string ⟨#[]⟩), (.bool false), (.bool false), (.slice none 0 0)]) := by kernel_rfl
theorem z50 : zI Go.Proofs.Try.prog 50 = some (.agg #[(.int .i64 0), (.string ⟨#[]⟩), (.string ⟨#[]⟩), (.string ⟨#[]⟩), (.int .i64 0), (.string ⟨#[]⟩), (.bool false), (.bool false), (.slice none 0 0), (.int .i64 0), (.slice none 0 0)]) := by kernel_rfl
end Go.Proofs.Ytncecheccihjoaa.TT11
namespace Go.Proofs.Ytncecheccihjoaa
open Go Go.Proofs.Fw Go.Proofs
set_option linter.unusedVariables false
set_option linter.unusedSimpArgs false
set_option maxRecDepth 20000
set_option maxHeartbeats 4000000
theorem stable_spec (l : List Object) (rs : List AV) (b n cap : Nat) (H : AH) (hk : ∀ o ∈ l, keyFits o.key) (hn : n = l.length) (hb : n ≤ 1000000) : ACalls Try.prog [] 133 [.mslice b 0 n cap, .int .i64 n, .func (.func 101) [] []] ((b, .row (rowOf encObj l rs) 38) :: H) (fun _ H' => ∃ l', Within l l' 0 n ∧ SortedR l' 0 n ∧ H' = (b, .row (rowOf encObj l' rs) 38) :: H) := by
  refine ACalls.enter (n := 63) Try.func133 rfl rfl (Nat.le_of_ble_eq_true rfl) ?_
  refine AS.seq ?_
  refine AS.region rfl ?_
  refine AS.assign rfl rfl rfl rfl ?_
  refine AS.opsEnd ?_
  refine AS.seq ?_
  refine AS.region rfl ?_
  refine AS.move rfl rfl rfl rfl ?_
  refine AS.assign rfl rfl rfl rfl ?_
  refine AS.assign rfl rfl rfl rfl ?_
  refine AS.opsEnd ?_
  refine AS.seq ?_
  refine AS.block ?_
  refine AS.loopI (α := Nat × List Object) (fun s => s.1 ≤ n ∧ Within l s.2 0 n ∧ StU s.2 20 s.1) (fun s => n - s.1) (fun s => [(7, .int .i64 s.1), (8, .int .i64 ((s.1 + 20 : Nat) : Int))]) [(0, _), (1, _), (2, _), (6, _)] (fun s => (b, .row (rowOf encObj s.2 rs) 38) :: H) (0, l) ⟨Nat.zero_le _, .refl _ _ _, stU_start l (by omega)⟩ (.cons rfl (.cons rfl (.cons rfl (.cons rfl (.cons rfl (.cons rfl (.nil))))))) rfl (fun s hI l0_ih => ?_)
  obtain ⟨a, c⟩ := s
  dsimp only at hI l0_ih ⊢
  obtain ⟨ha, hW, hS⟩ := hI
  have hkc : ∀ o ∈ c, keyFits o.key := fun o ho => hk o (hW.perm.mem_iff.1 ho)
  have hlc : c.length = n := by rw [hW.len]; exact hn.symm
  refine AS.seq ?_
  refine AS.seq ?_
  refine AS.region rfl ?_
  refine AS.move rfl rfl rfl rfl ?_
  refine AS.move rfl rfl rfl rfl ?_
  refine AS.bin rfl rfl rfl rfl rfl (BinR.leq rfl) ?_
  refine AS.opsEnd ?_
  refine AS.cond rfl (fun hc0 => ?_) (fun hc0 => ?_)
  · have hlt : a + 20 ≤ n := by simp only [decide_eq_true_eq] at hc0; omega
    refine AS.skip ?_
    refine AS.block ?_
    refine AS.seq ?_
    refine AS.region rfl ?_
    refine AS.move rfl rfl rfl rfl ?_
    refine AS.move rfl rfl rfl rfl ?_
    refine AS.move rfl rfl rfl rfl ?_
    refine AS.move rfl rfl rfl rfl ?_
    refine AS.call rfl rfl rfl rfl TT11.en146 (insertion_spec c rs b n cap (a) (a + 20) H hkc (by omega) (by omega) hb (by omega)) ?_
    rintro _ _ ⟨c', w1, t1, rfl⟩
    refine AS.opsEnd ?_
    refine AS.seq ?_
    refine AS.region rfl ?_
    refine AS.move rfl rfl rfl rfl ?_
    refine AS.assign rfl rfl rfl rfl ?_
    refine AS.opsEnd ?_
    refine AS.region rfl ?_
    refine AS.move rfl rfl rfl rfl ?_
    refine AS.move rfl rfl rfl rfl ?_
    refine AS.bin rfl rfl rfl rfl rfl (BinR.add (c := ((a + 20 + 20 : Nat) : Int)) (by rw [w64 (by omega) (by omega)]; omega)) ?_
    refine AS.assign rfl rfl rfl rfl ?_
    refine AS.opsEnd ?_
    refine AS.inBlock ?_
    exact AS.nextI (l0_ih (a + 20, c') ⟨hlt, hW.trans (w1.mono (Nat.zero_le _) hlt), stU_step hS (by omega) w1 t1⟩ (by dsimp only; omega)) [] (.cons rfl (.cons rfl (.cons rfl (.cons rfl (.cons rfl (.cons rfl (.nil))))))) rfl
  · have hlt : n < a + 20 := by simp only [decide_eq_false_iff_not] at hc0; omega
    refine AS.exit rfl ?_
    refine AS.seq ?_
    refine AS.region rfl ?_
    refine AS.move rfl rfl rfl rfl ?_
    refine AS.move rfl rfl rfl rfl ?_
    refine AS.move rfl rfl rfl rfl ?_
    refine AS.move rfl rfl rfl rfl ?_
    refine AS.call rfl rfl rfl rfl TT11.en146 (insertion_spec c rs b n cap (a) (n) H hkc (by omega) (by omega) hb (by omega)) ?_
    rintro _ _ ⟨c1, w1, t1, rfl⟩
    have hB : Blocks c1 20 := stU_end hS (by omega) (by rw [hlc]; exact w1) (by rw [hlc]; exact t1)
    have hW1 : Within l c1 0 n := hW.trans (w1.mono (Nat.zero_le _) (Nat.le_refl _))
    refine AS.opsEnd ?_
    refine AS.block ?_
    refine AS.loopI (α := Nat × List Object) (fun s => 0 < s.1 ∧ Within l s.2 0 n ∧ Blocks s.2 s.1) (fun s => n - s.1) (fun s => [(6, .int .i64 s.1)]) [(0, _), (1, _), (2, _)] (fun s => (b, .row (rowOf encObj s.2 rs) 38) :: H) (20, c1) ⟨by dsimp only; omega, hW1, hB⟩ (.cons rfl (.cons rfl (.cons rfl (.cons rfl (.nil))))) rfl (fun s hI l1_ih => ?_)
    obtain ⟨u, c2⟩ := s
    dsimp only at hI l1_ih ⊢
    obtain ⟨hu, hW2, hB2⟩ := hI
    have hl2 : c2.length = n := by rw [hW2.len]; exact hn.symm
    refine AS.seq ?_
    refine AS.seq ?_
    refine AS.region rfl ?_
    refine AS.move rfl rfl rfl rfl ?_
    refine AS.move rfl rfl rfl rfl ?_
    refine AS.bin rfl rfl rfl rfl rfl (BinR.lss rfl) ?_
    refine AS.opsEnd ?_
    refine AS.cond rfl (fun hc1 => ?_) (fun hc1 => ?_)
    · have hun : u < n := by simp only [decide_eq_true_eq] at hc1; omega
      refine AS.skip ?_
      refine AS.block ?_
      refine AS.seq ?_
      refine AS.region rfl ?_
      refine AS.move rfl rfl rfl rfl ?_
      refine AS.bin rfl rfl rfl rfl rfl (BinR.mul (c := ((2 * u : Nat) : Int)) (by rw [w64 (by omega) (by omega)]; omega)) ?_
      refine AS.assign rfl rfl rfl rfl ?_
      refine AS.assign rfl rfl rfl rfl ?_
      refine AS.opsEnd ?_
      refine AS.seq ?_
      refine AS.block ?_
      refine AS.loopI (α := Nat × List Object) (fun s => s.1 ≤ n ∧ Within l s.2 0 n ∧ StB s.2 u s.1) (fun s => n - s.1) (fun s => [(7, .int .i64 s.1), (8, .int .i64 ((2 * u + s.1 : Nat) : Int))]) [(0, _), (1, _), (2, _), (6, _)] (fun s => (b, .row (rowOf encObj s.2 rs) 38) :: H) (0, c2) ⟨Nat.zero_le _, hW2, stB_start hu hB2⟩ (.cons rfl (.cons rfl (.cons rfl (.cons rfl (.cons rfl (.cons rfl (.nil))))))) rfl (fun s hI l2_ih => ?_)
      obtain ⟨a, c⟩ := s
      dsimp only at hI l2_ih ⊢
      obtain ⟨ha, hW, hS⟩ := hI
      have hpre := stB_pre hS
      have hpre2 : SortedR c (a + u) (2 * u + a) := by rw [Nat.add_comm (2 * u) a]; exact hpre.2
      have hkc : ∀ o ∈ c, keyFits o.key := fun o ho => hk o (hW.perm.mem_iff.1 ho)
      have hlc : c.length = n := by rw [hW.len]; exact hn.symm
      refine AS.seq ?_
      refine AS.seq ?_
      refine AS.region rfl ?_
      refine AS.move rfl rfl rfl rfl ?_
      refine AS.move rfl rfl rfl rfl ?_
      refine AS.bin rfl rfl rfl rfl rfl (BinR.leq rfl) ?_
      refine AS.opsEnd ?_
      refine AS.cond rfl (fun hc2 => ?_) (fun hc2 => ?_)
      · have hlt : a + 2 * u ≤ n := by simp only [decide_eq_true_eq] at hc2; omega
        refine AS.skip ?_
        refine AS.block ?_
        refine AS.seq ?_
        refine AS.region rfl ?_
        refine AS.move rfl rfl rfl rfl ?_
        refine AS.move rfl rfl rfl rfl ?_
        refine AS.move rfl rfl rfl rfl ?_
        refine AS.move rfl rfl rfl rfl ?_
        refine AS.bin rfl rfl rfl rfl rfl (BinR.add (c := ((a + u : Nat) : Int)) (by rw [w64 (by omega) (by omega)]; omega)) ?_
        refine AS.move rfl rfl rfl rfl ?_
        refine AS.move rfl rfl rfl rfl ?_
        refine AS.call rfl rfl rfl rfl TT11.en147 (symMerge_spec _ c rs b n cap a (a + u) (2 * u + a) H hkc (by omega) (by omega) hb (by omega) (by omega) hpre.1 hpre2 (Nat.lt_succ_self _)) ?_
        rintro _ _ ⟨c', w1, t1, rfl⟩
        rw [Nat.add_comm (2 * u) a] at w1 t1
        refine AS.opsEnd ?_
        refine AS.seq ?_
        refine AS.region rfl ?_
        refine AS.move rfl rfl rfl rfl ?_
        refine AS.assign rfl rfl rfl rfl ?_
        refine AS.opsEnd ?_
        refine AS.region rfl ?_
        refine AS.move rfl rfl rfl rfl ?_
        refine AS.move rfl rfl rfl rfl ?_
        refine AS.bin rfl rfl rfl rfl rfl (BinR.mul (c := ((2 * u : Nat) : Int)) (by rw [w64 (by omega) (by omega)]; omega)) ?_
        refine AS.bin rfl rfl rfl rfl rfl (BinR.add (c := ((2 * u + (2 * u + a) : Nat) : Int)) (by rw [w64 (by omega) (by omega)]; omega)) ?_
        refine AS.assign rfl rfl rfl rfl ?_
        refine AS.opsEnd ?_
        refine AS.inBlock ?_
        exact AS.nextI (l2_ih (2 * u + a, c') ⟨by dsimp only; omega, hW.trans (w1.mono (Nat.zero_le _) hlt), by dsimp only; rw [Nat.add_comm (2 * u) a]; exact stB_step hS hu w1 t1⟩ (by dsimp only; omega)) [] (.cons rfl (.cons rfl (.cons rfl (.cons rfl (.cons rfl (.cons rfl (.nil))))))) rfl
      · have hlt : n < a + 2 * u := by simp only [decide_eq_false_iff_not] at hc2; omega
        refine AS.exit rfl ?_
        refine AS.seq ?_
        refine AS.seq ?_
        refine AS.region rfl ?_
        refine AS.move rfl rfl rfl rfl ?_
        refine AS.move rfl rfl rfl rfl ?_
        refine AS.bin rfl rfl rfl rfl rfl (BinR.add (c := ((a + u : Nat) : Int)) (by rw [w64 (by omega) (by omega)]; omega)) ?_
        refine AS.assign rfl rfl rfl rfl ?_
        refine AS.opsEnd ?_
        refine AS.seq ?_
        refine AS.region rfl ?_
        refine AS.move rfl rfl rfl rfl ?_
        refine AS.move rfl rfl rfl rfl ?_
        refine AS.bin rfl rfl rfl rfl rfl (BinR.lss rfl) ?_
        refine AS.opsEnd ?_
        refine AS.cond rfl (fun hc3 => ?_) (fun hc3 => ?_)
        · have hm : a + u < n := by simp only [decide_eq_true_eq] at hc3; omega
          refine AS.region rfl ?_
          refine AS.move rfl rfl rfl rfl ?_
          refine AS.move rfl rfl rfl rfl ?_
          refine AS.move rfl rfl rfl rfl ?_
          refine AS.move rfl rfl rfl rfl ?_
          refine AS.move rfl rfl rfl rfl ?_
          refine AS.call rfl rfl rfl rfl TT11.en147 (symMerge_spec _ c rs b n cap a (a + u) n H hkc (by omega) (Nat.le_refl _) hb (by omega) hm hpre.1 (hpre.2.sub (Nat.le_refl _) (by omega)) (Nat.lt_succ_self _)) ?_
          rintro _ _ ⟨c', w1, t1, rfl⟩
          refine AS.opsEnd ?_
          refine AS.region rfl ?_
          refine AS.move rfl rfl rfl rfl ?_
          refine AS.bin rfl rfl rfl rfl rfl (BinR.mul (c := ((u * 2 : Nat) : Int)) (by rw [w64 (by omega) (by omega)]; omega)) ?_
          refine AS.assign rfl rfl rfl rfl ?_
          refine AS.opsEnd ?_
          refine AS.inBlock ?_
          exact AS.nextI (l1_ih (u * 2, c') ⟨by dsimp only; omega, hW.trans (w1.mono (Nat.zero_le _) (Nat.le_refl _)), stB_end1 hS (by omega) (by rw [hlc]; exact w1) (by rw [hlc]; exact t1)⟩ (by dsimp only; omega)) [] (.cons rfl (.cons rfl (.cons rfl (.cons rfl (.nil))))) rfl
        · have hm : n ≤ a + u := by simp only [decide_eq_false_iff_not] at hc3; omega
          refine AS.skip ?_
          refine AS.region rfl ?_
          refine AS.move rfl rfl rfl rfl ?_
          refine AS.bin rfl rfl rfl rfl rfl (BinR.mul (c := ((u * 2 : Nat) : Int)) (by rw [w64 (by omega) (by omega)]; omega)) ?_
          refine AS.assign rfl rfl rfl rfl ?_
          refine AS.opsEnd ?_
          refine AS.inBlock ?_
          exact AS.nextI (l1_ih (u * 2, c) ⟨by dsimp only; omega, hW, stB_end2 (c := c) hS hu (by omega)⟩ (by dsimp only; omega)) [] (.cons rfl (.cons rfl (.cons rfl (.cons rfl (.nil))))) rfl
    · have hun : n ≤ u := by simp only [decide_eq_false_iff_not] at hc1; omega
      refine AS.exit rfl ?_
      refine AS.rwk ?_
      refine AS.end_ Try.func133 rfl (.nil) ?_
      exact RWk.drop [] rfl ⟨c2, hW2, by have := blocks_end hB2 (by omega); rw [hl2] at this; exact this, rfl⟩
theorem sortStable_spec (l : List Object) (rs : List AV) (b n cap : Nat) (H : AH) (hk : ∀ o ∈ l, keyFits o.key) (hn : n = l.length) (hb : n ≤ 1000000) : ACalls Try.prog [] 100 [.mslice b 0 n cap, .func (.func 101) [] []] ((b, .row (rowOf encObj l rs) 38) :: H) (fun _ H' => ∃ l', Within l l' 0 n ∧ SortedR l' 0 n ∧ H' = (b, .row (rowOf encObj l' rs) 38) :: H) := by
  refine ACalls.enter (n := 9) Try.func100 rfl rfl (Nat.le_of_ble_eq_true rfl) ?_
  refine AS.region rfl ?_
  refine AS.move rfl rfl rfl rfl ?_
  refine AS.move rfl rfl rfl rfl ?_
  refine AS.len rfl rfl rfl rfl (by first | exact lenT_sl TT11.u48 | exact lenT_ms TT11.u48 | (rw [TT11.u48]; rfl)) rfl rfl ?_
  refine AS.move rfl rfl rfl rfl ?_
  refine AS.call rfl rfl rfl rfl TT11.en133 (stable_spec l rs b n cap H hk hn hb) ?_
  rintro _ _ ⟨c', w1, t1, rfl⟩
  refine AS.opsEnd ?_
  refine AS.rwk ?_
  refine AS.end_ Try.func100 rfl (.nil) ?_
  exact RWk.drop [] rfl ⟨c', w1, t1, rfl⟩
end Go.Proofs.Ytncecheccihjoaa
/- T12 -/
namespace Go.Proofs.Ytncecheccihjoaa.TT12
open Go Go.Proofs.Fw Go.Shelf
theorem en101 : Enters Go.Proofs.Try.prog 101 := enters_of Go.Proofs.Try.func101 (by kernel_rfl) rfl
theorem en102 : Enters Go.Proofs.Try.prog 102 := enters_of Go.Proofs.Try.func102 (by kernel_rfl) rfl
theorem en126 : Enters Go.Proofs.Try.prog 126 := enters_of Go.Proofs.Try.func126 (by kernel_rfl) rfl
theorem en133 : Enters Go.Proofs.Try.prog 133 := enters_of Go.Proofs.Try.func133 (by kernel_rfl) rfl
theorem en146 : Enters Go.Proofs.Try.prog 146 := enters_of Go.Proofs.Try.func146 (by kernel_rfl) rfl
theorem en147 : Enters Go.Proofs.Try.prog 147 := enters_of Go.Proofs.Try.func147 (by kernel_rfl) rfl
theorem en166 : Enters Go.Proofs.Try.prog 166 := enters_of Go.Proofs.Try.func166 (by kernel_rfl) rfl
theorem en175 : Enters Go.Proofs.Try.prog 175 := enters_of Go.Proofs.Try.func175 (by kernel_rfl) rfl
theorem en20 : Enters Go.Proofs.Try.prog 20 := enters_of Go.Proofs.Try.func20 (by kernel_rfl) rfl
theorem en21 : Enters Go.Proofs.Try.prog 21 := enters_of Go.Proofs.Try.func21 (by kernel_rfl) rfl
theorem en52 : Enters Go.Proofs.Try.prog 52 := enters_of Go.Proofs.Try.func52 (by kernel_rfl) rfl
theorem en66 : Enters Go.Proofs.Try.prog 66 := enters_of Go.Proofs.Try.func66 (by kernel_rfl) rfl
theorem fl38_0 : fldI Go.Proofs.Try.prog 38 0 = some 0 := by kernel_rfl
theorem fl38_5 : fldI Go.Proofs.Try.prog 38 5 = some 7 := by kernel_rfl
theorem fl50_0 : fldI Go.Proofs.Try.prog 50 0 = some 0 := by kernel_rfl
theorem fl50_1 : fldI Go.Proofs.Try.prog 50 1 = some 1 := by kernel_rfl
theorem fl50_2 : fldI Go.Proofs.Try.prog 50 2 = some 9 := by kernel_rfl
theorem fl50_3 : fldI Go.Proofs.Try.prog 50 3 = some 10 := by kernel_rfl
theorem mixed : Go.Proofs.Try.prog.follows .mixedOrders = true := by kernel_rfl
theorem sl28 : sliI Go.Proofs.Try.prog 28 = some (50, 11, 144) := by kernel_rfl
theorem sl36 : sliI Go.Proofs.Try.prog 36 = some (116, 2, 24) := by kernel_rfl
theorem sl48 : sliI Go.Proofs.Try.prog 48 = some (38, 8, 104) := by kernel_rfl
theorem ty2 : tyI Go.Proofs.Try.prog 2 = some (1, false) := by kernel_rfl
theorem ty35 : tyI Go.Proofs.Try.prog 35 = some (3, true) := by kernel_rfl
theorem ty36 : tyI Go.Proofs.Try.prog 36 = some (1, false) := by kernel_rfl
theorem ty38 : tyI Go.Proofs.Try.prog 38 = some (8, true) := by kernel_rfl
theorem ty47 : tyI Go.Proofs.Try.prog 47 = some (1, false) := by kernel_rfl
theorem ty48 : tyI Go.Proofs.Try.prog 48 = some (1, false) := by kernel_rfl
theorem ty50 : tyI Go.Proofs.Try.prog 50 = some (11, true) := by kernel_rfl
theorem u180 : Go.Proofs.Try.prog.underlying 180 = some (.int .u64) := by kernel_rfl
theorem u28 : Go.Proofs.Try.prog.underlying 28 = some (.slice 50) := by kernel_rfl
theorem u3 : Go.Proofs.Try.prog.underlying 3 = some (.int .i64) := by kernel_rfl
theorem u36 : Go.Proofs.Try.prog.underlying 36 = some (.slice 116) := by kernel_rfl
theorem u48 : Go.Proofs.Try.prog.underlying 48 = some (.slice 38) := by kernel_rfl
theorem z116 : zI Go.Proofs.Try.prog 116 = some (.agg #[(.string ⟨#[]⟩), (.int .i64 0)]) := by kernel_rfl
theorem z38 : zI Go.Proofs.Try.prog 38 = some (.agg #[(.string ⟨#[]⟩), (.string ⟨#[]⟩), (.string ⟨#[]⟩), (.int .i64 0), (.string ⟨#[]⟩), (.bool false), (.bool false), (.slice none 0 0)]) := by kernel_rfl
theorem z50 : zI Go.Proofs.Try.prog 50 = some (.agg #[(.int .i64 0), (.string ⟨#[]⟩), (.string ⟨#[]⟩), (.string ⟨#[]⟩), (.int .i64 0), (.string ⟨#[]⟩), (.bool false), (.bool false), (.slice none 0 0), (.int .i64 0), (.slice none 0 0)]) := by kernel_rfl
end Go.Proofs.Ytncecheccihjoaa.TT12
namespace Go.Proofs.Ytncecheccihjoaa
open Go Go.Proofs.Fw Go.Proofs
set_option linter.unusedVariables false
set_option linter.unusedSimpArgs false
set_option maxRecDepth 20000
set_option maxHeartbeats 4000000
theorem insertion_nil (fv : AV) (H : AH) : ACalls Try.prog [] 146 [.slice [] .full, .int .i64 0, .int .i64 0, fv] H (fun _ H' => H' = H) := by
  refine ACalls.enter (n := 53) Try.func146 rfl rfl (Nat.le_of_ble_eq_true rfl) ?_
  refine AS.seq ?_
  refine AS.region rfl ?_
  refine AS.move rfl rfl rfl rfl ?_
  refine AS.bin rfl rfl rfl rfl rfl (BinR.add (c := 1) rfl) ?_
  refine AS.assign rfl rfl rfl rfl ?_
  refine AS.opsEnd ?_
  refine AS.block ?_
  refine AS.loop ?_
  refine AS.seq ?_
  refine AS.seq ?_
  refine AS.region rfl ?_
  refine AS.move rfl rfl rfl rfl ?_
  refine AS.move rfl rfl rfl rfl ?_
  refine AS.bin rfl rfl rfl rfl rfl (BinR.lss (c := false) rfl) ?_
  refine AS.opsEnd ?_
  refine AS.condF rfl ?_
  refine AS.exit rfl ?_
  refine AS.rwk ?_
  refine AS.end_ Try.func146 rfl (.nil) ?_
  exact RWk.drop [] rfl rfl
theorem stable_nil (fv : AV) (H : AH) : ACalls Try.prog [] 133 [.slice [] .full, .int .i64 0, fv] H (fun _ H' => H' = H) := by
  refine ACalls.enter (n := 63) Try.func133 rfl rfl (Nat.le_of_ble_eq_true rfl) ?_
  refine AS.seq ?_
  refine AS.region rfl ?_
  refine AS.assign rfl rfl rfl rfl ?_
  refine AS.opsEnd ?_
  refine AS.seq ?_
  refine AS.region rfl ?_
  refine AS.move rfl rfl rfl rfl ?_
  refine AS.assign rfl rfl rfl rfl ?_
  refine AS.assign rfl rfl rfl rfl ?_
  refine AS.opsEnd ?_
  refine AS.seq ?_
  refine AS.block ?_
  refine AS.loop ?_
  refine AS.seq ?_
  refine AS.seq ?_
  refine AS.region rfl ?_
  refine AS.move rfl rfl rfl rfl ?_
  refine AS.move rfl rfl rfl rfl ?_
  refine AS.bin rfl rfl rfl rfl rfl (BinR.leq (c := false) rfl) ?_
  refine AS.opsEnd ?_
  refine AS.condF rfl ?_
  refine AS.exit rfl ?_
  refine AS.seq ?_
  refine AS.region rfl ?_
  refine AS.move rfl rfl rfl rfl ?_
  refine AS.move rfl rfl rfl rfl ?_
  refine AS.move rfl rfl rfl rfl ?_
  refine AS.move rfl rfl rfl rfl ?_
  refine AS.call rfl rfl rfl rfl TT12.en146 (insertion_nil _ H) ?_
  rintro _ _ rfl
  refine AS.opsEnd ?_
  refine AS.block ?_
  refine AS.loop ?_
  refine AS.seq ?_
  refine AS.seq ?_
  refine AS.region rfl ?_
  refine AS.move rfl rfl rfl rfl ?_
  refine AS.move rfl rfl rfl rfl ?_
  refine AS.bin rfl rfl rfl rfl rfl (BinR.lss (c := false) rfl) ?_
  refine AS.opsEnd ?_
  refine AS.condF rfl ?_
  refine AS.exit rfl ?_
  refine AS.rwk ?_
  refine AS.end_ Try.func133 rfl (.nil) ?_
  exact RWk.drop [] rfl rfl
theorem sortStable_nil (fv : AV) (H : AH) : ACalls Try.prog [] 100 [.slice [] .full, fv] H (fun _ H' => H' = H) := by
  refine ACalls.enter (n := 9) Try.func100 rfl rfl (Nat.le_of_ble_eq_true rfl) ?_
  refine AS.region rfl ?_
  refine AS.move rfl rfl rfl rfl ?_
  refine AS.move rfl rfl rfl rfl ?_
  refine AS.len rfl rfl rfl rfl (by first | exact lenT_sl TT12.u48 | exact lenT_ms TT12.u48 | (rw [TT12.u48]; rfl)) rfl rfl ?_
  refine AS.move rfl rfl rfl rfl ?_
  refine AS.call rfl rfl rfl rfl TT12.en133 (stable_nil _ H) ?_
  rintro _ _ rfl
  refine AS.opsEnd ?_
  refine AS.rwk ?_
  refine AS.end_ Try.func100 rfl (.nil) ?_
  exact RWk.drop [] rfl rfl
def svOf (i : Nat) : Option (Nat × Nat × List AV) → AV
  | none => .slice [] .full
  | some (b, cap, _) => .mslice b 0 i cap
def hpOf (out : List Object) (t : Nat) : Option (Nat × Nat × List AV) → AH
  | none => []
  | some (b, _, rs) => [(b, .row (rowOf encObj out rs) t)]
theorem rowTake {cs : List AV} {out : List Object} {m : Nat} (h : cs.take m = flat (out.map encObj)) : cs = rowOf encObj out (cs.drop m) := by
  rw [rowOf, ← h, List.take_append_drop]

theorem evown2_spec (e : Evt) (H : AH) (hl : e.objs.length ≤ 1000000) (hc : e.obj.charge.length ≤ 1000000) (hch : ∀ o ∈ e.objs, o.charge.length ≤ 1000000) : ACalls Try.prog [] 68 [encEv e] H (fun x H' => ∃ st, x = .agg [.int .i64 e.kind, .str e.obj.key.kind, .str e.obj.key.space, .str e.obj.key.name, .int .i64 e.obj.ver, .str e.obj.cls, .bool e.obj.term, .bool e.obj.best, .slice (e.obj.charge.map encRes) .any, .int .i64 e.ver, svOf e.objs.length st] ∧ H' = hpOf e.objs 38 st ++ H ∧ (st = none → e.objs = []) ∧ ∀ b cap rs, st = some (b, cap, rs) → e.objs.length ≤ cap) := by
  refine ACalls.enter (n := 26) Try.func68 rfl rfl (Nat.le_of_ble_eq_true rfl) ?_
  refine AS.seq ?_
  refine AS.region rfl ?_
  refine AS.box rfl rfl rfl rfl rfl ?_
  intro b1
  refine AS.allocZ rfl rfl rfl TT12.z50 rfl ?_
  intro b2
  refine AS.opsEnd ?_
  refine AS.seq ?_
  refine AS.region rfl ?_
  refine AS.fieldAddr rfl rfl rfl rfl TT12.fl50_1 ?_
  refine AS.load (y := encObj e.obj) rfl rfl rfl rfl TT12.ty38 rfl rfl rfl ?_
  refine AS.callP rfl rfl rfl rfl TT12.en66 (own_spec e.obj _ hc) ?_
  refine AS.fieldAddr rfl rfl rfl rfl TT12.fl50_1 ?_
  refine AS.store rfl rfl rfl rfl rfl rfl TT12.ty38 rfl rfl ?_
  refine AS.opsEnd ?_
  refine AS.seq ?_
  refine AS.region rfl ?_
  refine AS.assign rfl rfl rfl rfl ?_
  refine AS.opsEnd ?_
  refine AS.seq ?_
  refine AS.seq ?_
  refine AS.region rfl ?_
  refine AS.fieldAddr rfl rfl rfl rfl TT12.fl50_3 ?_
  refine AS.load rfl rfl rfl rfl TT12.ty48 rfl rfl rfl ?_
  refine AS.len rfl rfl rfl rfl (by first | exact lenT_sl TT12.u48 | exact lenT_ms TT12.u48 | (rw [TT12.u48]; rfl)) rfl (lenMap _ _) ?_
  refine AS.move rfl rfl rfl rfl ?_
  refine AS.opsEnd ?_
  refine AS.block ?_
  refine AS.loopI (α := Nat × List Object × Option (Nat × Nat × List AV)) (fun s => s.1 ≤ e.objs.length ∧ s.2.1 = e.objs.take s.1 ∧ (s.2.2 = none → s.2.1 = []) ∧ ∀ b cap rs, s.2.2 = some (b, cap, rs) → s.1 ≤ cap ∧ (rowOf encObj s.2.1 rs).length = cap * 8) (fun s => e.objs.length - s.1) (fun s => [(3, svOf s.1 s.2.2), (13, .int .i64 s.1)]) [(1, _), (2, _), (11, _), (12, _)] (fun s => hpOf s.2.1 38 s.2.2 ++ _) (0, [], none) ⟨Nat.zero_le _, by simp, fun _ => rfl, fun _ _ _ h => by cases h⟩ (.cons rfl (.cons rfl (.cons rfl (.cons rfl (.cons rfl (.cons rfl (.nil))))))) rfl (fun s hI l0_ih => ?_)
  obtain ⟨i, out, st⟩ := s
  dsimp only at hI l0_ih ⊢
  obtain ⟨i1, hout, hnone, hsome⟩ := hI
  refine AS.seq ?_
  refine AS.region rfl ?_
  refine AS.bin rfl rfl rfl rfl rfl (BinR.lss rfl) ?_
  refine AS.opsEnd ?_
  refine AS.seq ?_
  refine AS.cond rfl (fun hc0 => ?_) (fun hc0 => ?_)
  · have hi : i < e.objs.length := by simp only [decide_eq_true_eq] at hc0; omega
    obtain ⟨o, ho⟩ := getAt hi
    have hol : out.length = i := by rw [hout, List.length_take]; omega
    have hout2 : out ++ [o] = e.objs.take (i + 1) := by rw [hout, List.take_add_one, ho]; rfl
    refine AS.skip ?_
    refine AS.seq ?_
    refine AS.block ?_
    refine AS.seq ?_
    refine AS.region rfl ?_
    refine AS.indexAddr rfl rfl rfl rfl rfl TT12.sl48 (Int.natCast_nonneg _) (map_get _ _ ho) rfl ?_
    refine AS.iload (y := encObj o) rfl rfl rfl rfl TT12.ty38 rfl rfl rfl ?_
    refine AS.allocZ rfl rfl rfl TT12.z38 rfl ?_
    intro b5
    refine AS.store rfl rfl rfl rfl rfl rfl TT12.ty38 rfl rfl ?_
    refine AS.opsEnd ?_
    rcases st with _ | ⟨b, cap, rs⟩ <;> dsimp only [hpOf, svOf, List.nil_append, List.cons_append]
    · refine AS.region rfl ?_
      refine AS.move rfl rfl rfl rfl ?_
      refine AS.load (y := encObj o) rfl rfl rfl rfl TT12.ty38 rfl rfl rfl ?_
      refine AS.callP rfl rfl rfl rfl TT12.en66 (own_spec o _ (hch o (List.mem_of_getElem? ho))) ?_
      refine AS.buildSlice1 rfl rfl rfl TT12.sl48 rfl rfl rfl ?_
      refine AS.appendRow0 (ys := [encObj o]) rfl rfl rfl rfl rfl TT12.sl48 (by simp [encObj_sz]) (Nat.lt_succ_self 0) (by show 1 * 104 ≤ _; decide) ?_
      intro b' cap' cs' q1 q2 q3
      have hn0 : out = [] := hnone rfl
      subst hn0
      obtain ⟨rs', hrs⟩ : ∃ rs', cs' = rowOf encObj [o] rs' := ⟨_, rowTake (out := [o]) q3⟩
      subst hrs
      refine AS.assign rfl rfl rfl rfl ?_
      refine AS.opsEnd ?_
      refine AS.dropH [_] [_] rfl ?_
      refine AS.inBlock ?_
      refine AS.region rfl ?_
      refine AS.bin rfl rfl rfl rfl rfl (BinR.add (w64 (by omega) (by omega))) ?_
      refine AS.move rfl rfl rfl rfl ?_
      refine AS.opsEnd ?_
      have hi0 : i = 0 := hol.symm
      subst hi0
      exact AS.nextI (l0_ih (1, [o], some (b', cap', rs')) ⟨hi, hout2, fun h => (by cases h), fun _ _ _ h => by cases h; exact ⟨q2, q1⟩⟩ (by dsimp only; omega)) [] (.cons rfl (.cons rfl (.cons rfl (.cons rfl (.cons rfl (.cons rfl (.nil))))))) rfl
    · refine AS.region rfl ?_
      refine AS.move rfl rfl rfl rfl ?_
      refine AS.load (y := encObj o) rfl rfl rfl rfl TT12.ty38 rfl rfl rfl ?_
      refine AS.callP rfl rfl rfl rfl TT12.en66 (own_spec o _ (hch o (List.mem_of_getElem? ho))) ?_
      refine AS.buildSlice1 rfl rfl rfl TT12.sl48 rfl rfl rfl ?_
      refine AS.appendRow (ys := [encObj o]) rfl rfl rfl rfl rfl TT12.sl48 (hsome _ _ _ rfl).2 (hsome _ _ _ rfl).1 (by simp [encObj_sz]) (by simpa using map_one encObj_flat [o]) (Nat.lt_succ_self 0) (by simp only [List.length_singleton]; omega) ?_
      intro b' cap' cs' q1 q2 q3
      obtain ⟨rs', hrs⟩ : ∃ rs', cs' = rowOf encObj (out ++ [o]) rs' := ⟨_, rowTake (out := out ++ [o]) (by
        rw [q3, List.map_append]
        have := row_pick0 (rs := rs) encObj_sz out
        rw [hol] at this
        rw [this]; simp [flat])⟩
      subst hrs
      refine AS.assign rfl rfl rfl rfl ?_
      refine AS.opsEnd ?_
      refine AS.dropH [_] [_] rfl ?_
      refine AS.inBlock ?_
      refine AS.region rfl ?_
      refine AS.bin rfl rfl rfl rfl rfl (BinR.add (w64 (by omega) (by omega))) ?_
      refine AS.move rfl rfl rfl rfl ?_
      refine AS.opsEnd ?_
      exact AS.nextI (l0_ih (i + 1, out ++ [o], some (b', cap', rs')) ⟨hi, hout2, fun h => (by cases h), fun _ _ _ h => by cases h; exact ⟨q2, q1⟩⟩ (by dsimp only; omega)) [] (.cons rfl (.cons rfl (.cons rfl (.cons rfl (.cons rfl (.cons rfl (.nil))))))) rfl
  · have hieq : i = e.objs.length := by simp only [decide_eq_false_iff_not] at hc0; omega
    have hfin : out = e.objs := by rw [hout, hieq, List.take_length]
    subst hieq
    refine AS.exit rfl ?_
    refine AS.seq ?_
    subst hfin
    rcases st with _ | ⟨b, cap, rs⟩ <;> dsimp only [hpOf, svOf, List.nil_append, List.cons_append]
    · refine AS.region rfl ?_
      refine AS.move rfl rfl rfl rfl ?_
      refine AS.fieldAddr rfl rfl rfl rfl TT12.fl50_3 ?_
      refine AS.store rfl rfl rfl rfl rfl rfl TT12.ty48 rfl rfl ?_
      refine AS.opsEnd ?_
      refine AS.seq ?_
      refine AS.region rfl ?_
      refine AS.load rfl rfl rfl rfl TT12.ty50 rfl rfl rfl ?_
      refine AS.store rfl rfl rfl rfl rfl rfl TT12.ty50 rfl rfl ?_
      refine AS.opsEnd ?_
      refine AS.retW Try.func68 rfl (.cell rfl TT12.ty50 rfl rfl rfl (.nil)) ?_
      exact RWk.drop [_, _] rfl ⟨none, rfl, rfl, hnone, fun _ _ _ h => by cases h⟩
    · refine AS.region rfl ?_
      refine AS.move rfl rfl rfl rfl ?_
      refine AS.fieldAddr rfl rfl rfl rfl TT12.fl50_3 ?_
      refine AS.store rfl rfl rfl rfl rfl rfl TT12.ty48 rfl rfl ?_
      refine AS.opsEnd ?_
      refine AS.seq ?_
      refine AS.region rfl ?_
      refine AS.load rfl rfl rfl rfl TT12.ty50 rfl rfl rfl ?_
      refine AS.store rfl rfl rfl rfl rfl rfl TT12.ty50 rfl rfl ?_
      refine AS.opsEnd ?_
      refine AS.retW Try.func68 rfl (.cell rfl TT12.ty50 rfl rfl rfl (.nil)) ?_
      exact RWk.drop2 [_] [_, _] rfl ⟨some (b, cap, rs), rfl, rfl, hnone, fun b cap rs h => (hsome b cap rs h).1⟩
end Go.Proofs.Ytncecheccihjoaa
/- T13 -/
namespace Go.Proofs.Ytncecheccihjoaa.TT13
open Go Go.Proofs.Fw Go.Shelf
theorem b50 : bldI Go.Proofs.Try.prog 50 = some ([(.int .i64 0), (.str ⟨#[]⟩), (.str ⟨#[]⟩), (.str ⟨#[]⟩), (.int .i64 0), (.str ⟨#[]⟩), (.bool false), (.bool false), (.slice [] .full), (.int .i64 0), (.slice [] .full)], [(0, 1), (1, 8), (9, 1), (10, 1)]) := by kernel_rfl
theorem en100 : Enters Go.Proofs.Try.prog 100 := enters_of Go.Proofs.Try.func100 (by kernel_rfl) rfl
theorem en101 : Enters Go.Proofs.Try.prog 101 := enters_of Go.Proofs.Try.func101 (by kernel_rfl) rfl
theorem en102 : Enters Go.Proofs.Try.prog 102 := enters_of Go.Proofs.Try.func102 (by kernel_rfl) rfl
theorem en126 : Enters Go.Proofs.Try.prog 126 := enters_of Go.Proofs.Try.func126 (by kernel_rfl) rfl
theorem en133 : Enters Go.Proofs.Try.prog 133 := enters_of Go.Proofs.Try.func133 (by kernel_rfl) rfl
theorem en146 : Enters Go.Proofs.Try.prog 146 := enters_of Go.Proofs.Try.func146 (by kernel_rfl) rfl
theorem en147 : Enters Go.Proofs.Try.prog 147 := enters_of Go.Proofs.Try.func147 (by kernel_rfl) rfl
theorem en166 : Enters Go.Proofs.Try.prog 166 := enters_of Go.Proofs.Try.func166 (by kernel_rfl) rfl
theorem en175 : Enters Go.Proofs.Try.prog 175 := enters_of Go.Proofs.Try.func175 (by kernel_rfl) rfl
theorem en20 : Enters Go.Proofs.Try.prog 20 := enters_of Go.Proofs.Try.func20 (by kernel_rfl) rfl
theorem en21 : Enters Go.Proofs.Try.prog 21 := enters_of Go.Proofs.Try.func21 (by kernel_rfl) rfl
theorem en52 : Enters Go.Proofs.Try.prog 52 := enters_of Go.Proofs.Try.func52 (by kernel_rfl) rfl
theorem en66 : Enters Go.Proofs.Try.prog 66 := enters_of Go.Proofs.Try.func66 (by kernel_rfl) rfl
theorem en68 : Enters Go.Proofs.Try.prog 68 := enters_of Go.Proofs.Try.func68 (by kernel_rfl) rfl
theorem fl38_0 : fldI Go.Proofs.Try.prog 38 0 = some 0 := by kernel_rfl
theorem fl38_5 : fldI Go.Proofs.Try.prog 38 5 = some 7 := by kernel_rfl
theorem fl50_0 : fldI Go.Proofs.Try.prog 50 0 = some 0 := by kernel_rfl
theorem fl50_1 : fldI Go.Proofs.Try.prog 50 1 = some 1 := by kernel_rfl
theorem fl50_2 : fldI Go.Proofs.Try.prog 50 2 = some 9 := by kernel_rfl
theorem fl50_3 : fldI Go.Proofs.Try.prog 50 3 = some 10 := by kernel_rfl
theorem mixed : Go.Proofs.Try.prog.follows .mixedOrders = true := by kernel_rfl
theorem sl28 : sliI Go.Proofs.Try.prog 28 = some (50, 11, 144) := by kernel_rfl
theorem sl36 : sliI Go.Proofs.Try.prog 36 = some (116, 2, 24) := by kernel_rfl
theorem sl48 : sliI Go.Proofs.Try.prog 48 = some (38, 8, 104) := by kernel_rfl
theorem ty2 : tyI Go.Proofs.Try.prog 2 = some (1, false) := by kernel_rfl
theorem ty35 : tyI Go.Proofs.Try.prog 35 = some (3, true) := by kernel_rfl
theorem ty36 : tyI Go.Proofs.Try.prog 36 = some (1, false) := by kernel_rfl
theorem ty38 : tyI Go.Proofs.Try.prog 38 = some (8, true) := by kernel_rfl
theorem ty47 : tyI Go.Proofs.Try.prog 47 = some (1, false) := by kernel_rfl
theorem ty48 : tyI Go.Proofs.Try.prog 48 = some (1, false) := by kernel_rfl
theorem ty50 : tyI Go.Proofs.Try.prog 50 = some (11, true) := by kernel_rfl
theorem u180 : Go.Proofs.Try.prog.underlying 180 = some (.int .u64) := by kernel_rfl
theorem u28 : Go.Proofs.Try.prog.underlying 28 = some (.slice 50) := by kernel_rfl
theorem u3 : Go.Proofs.Try.prog.underlying 3 = some (.int .i64) := by kernel_rfl
theorem u36 : Go.Proofs.Try.prog.underlying 36 = some (.slice 116) := by kernel_rfl
theorem u48 : Go.Proofs.Try.prog.underlying 48 = some (.slice 38) := by kernel_rfl
theorem u50 : Go.Proofs.Try.prog.underlying 50 = some (.struct #[⟨"Kind", 47, 0, false, "", "", 0⟩, ⟨"Object", 38, 1, false, "", "", 8⟩, ⟨"Version", 2, 9, false, "", "", 112⟩, ⟨"Objects", 48, 10, false, "", "", 120⟩]) := by kernel_rfl
theorem z116 : zI Go.Proofs.Try.prog 116 = some (.agg #[(.string ⟨#[]⟩), (.int .i64 0)]) := by kernel_rfl
theorem z38 : zI Go.Proofs.Try.prog 38 = some (.agg #[(.string ⟨#[]⟩), (.string ⟨#[]⟩), (.string ⟨#[]⟩), (.int .i64 0), (.string ⟨#[]⟩), (.bool false), (.bool false), (.slice none 0 0)]) := by kernel_rfl
theorem z50 : zI Go.Proofs.Try.prog 50 = some (.agg #[(.int .i64 0), (.string ⟨#[]⟩), (.string ⟨#[]⟩), (.string ⟨#[]⟩), (.int .i64 0), (.string ⟨#[]⟩), (.bool false), (.bool false), (.slice none 0 0), (.int .i64 0), (.slice none 0 0)]) := by kernel_rfl
end Go.Proofs.Ytncecheccihjoaa.TT13
namespace Go.Proofs.Ytncecheccihjoaa
open Go Go.Proofs.Fw Go.Proofs
set_option linter.unusedVariables false
set_option linter.unusedSimpArgs false
set_option maxRecDepth 20000
set_option maxHeartbeats 4000000
theorem sorted_spec (l : List Object) (H : AH) (hl : l.length ≤ 1000000) (hk : ∀ o ∈ l, keyFits o.key) (ha : Apart l) (hch : ∀ o ∈ l, o.charge.length ≤ 1000000) : ACalls Try.prog [] 61 [.slice (l.map encObj) .any] H (fun x H' => x = .slice ((sortO l).map encObj) .any ∧ H' = H) := by
  refine ACalls.enter (n := 11) Try.func61 rfl rfl (Nat.le_of_ble_eq_true rfl) ?_
  refine AS.seq ?_
  refine AS.region rfl ?_
  refine AS.assign rfl rfl rfl rfl ?_
  refine AS.opsEnd ?_
  refine AS.seq ?_
  refine AS.region rfl ?_
  refine AS.move rfl rfl rfl rfl ?_
  refine AS.build rfl rfl rfl TT13.b50 rfl rfl ?_
  refine AS.weak 5 (encEv ⟨0, noObj, 0, l⟩) rfl (AVLe.agg (.cons (.refl _) (.cons (.refl _) (.cons (.refl _) (.cons (.refl _) (.cons (.refl _) (.cons (.refl _) (.cons (.refl _) (.cons (.refl _) (.cons (AVLe.tok _ _) (.cons (.refl _) (.cons (.refl _) .nil)))))))))))) ?_
  refine AS.call rfl rfl rfl rfl TT13.en68 (evown2_spec ⟨0, noObj, 0, l⟩ H hl (Nat.zero_le _) hch) ?_
  rintro _ _ ⟨st, rfl, rfl, hnone, hsome⟩
  rcases st with _ | ⟨b, cap, rs⟩ <;> dsimp only [hpOf, svOf, List.nil_append, List.cons_append]
  · skip
    refine AS.field rfl rfl rfl rfl TT13.u50 rfl TT13.ty48 rfl rfl ?_
    refine AS.assign rfl rfl rfl rfl ?_
    refine AS.opsEnd ?_
    refine AS.seq ?_
    refine AS.region rfl ?_
    refine AS.move rfl rfl rfl rfl ?_
    refine AS.call rfl rfl rfl rfl TT13.en100 (sortStable_nil _ H) ?_
    intro _ H2 h2
    rw [h2]
    refine AS.opsEnd ?_
    refine AS.seq ?_
    refine AS.region rfl ?_
    refine AS.move rfl rfl rfl rfl ?_
    refine AS.assign rfl rfl rfl rfl ?_
    refine AS.opsEnd ?_
    refine AS.retW Try.func61 rfl (.tmp rfl (.nil)) ?_
    have h0 : l = [] := hnone rfl
    subst h0
    exact ⟨_, H, Wk.le (AVLe.tok _ _), rfl, rfl⟩
  · skip
    refine AS.field rfl rfl rfl rfl TT13.u50 rfl TT13.ty48 rfl rfl ?_
    refine AS.assign rfl rfl rfl rfl ?_
    refine AS.opsEnd ?_
    refine AS.seq ?_
    refine AS.region rfl ?_
    refine AS.move rfl rfl rfl rfl ?_
    refine AS.call rfl rfl rfl rfl TT13.en100 (sortStable_spec l rs b l.length cap H hk rfl hl) ?_
    rintro _ _ ⟨c', w1, t1, rfl⟩
    refine AS.opsEnd ?_
    refine AS.seq ?_
    refine AS.region rfl ?_
    refine AS.move rfl rfl rfl rfl ?_
    refine AS.assign rfl rfl rfl rfl ?_
    refine AS.opsEnd ?_
    refine AS.retW Try.func61 rfl (.tmp rfl (.nil)) ?_
    refine ⟨_, H, Wk.freeze (b := b) (Froze.slice 0 l.length cap 8 (c'.map encObj) .any (by rw [List.length_map, w1.len]) (hsome _ _ _ rfl) (map_allSz encObj_sz (fun _ => rfl) _) (by rw [List.drop_zero, ← w1.len, row_pick0 encObj_sz]) (.inl rfl)), ?_, rfl⟩
    rw [sorted_is w1.perm (by rw [w1.len]; exact t1) ha]
end Go.Proofs.Ytncecheccihjoaa
/- T14 -/
namespace Go.Proofs.Ytncecheccihjoaa.TT14
open Go Go.Proofs.Fw Go.Shelf
theorem b50 : bldI Go.Proofs.Try.prog 50 = some ([(.int .i64 0), (.str ⟨#[]⟩), (.str ⟨#[]⟩), (.str ⟨#[]⟩), (.int .i64 0), (.str ⟨#[]⟩), (.bool false), (.bool false), (.slice [] .full), (.int .i64 0), (.slice [] .full)], [(0, 1), (1, 8), (9, 1), (10, 1)]) := by kernel_rfl
theorem en100 : Enters Go.Proofs.Try.prog 100 := enters_of Go.Proofs.Try.func100 (by kernel_rfl) rfl
theorem en101 : Enters Go.Proofs.Try.prog 101 := enters_of Go.Proofs.Try.func101 (by kernel_rfl) rfl
theorem en102 : Enters Go.Proofs.Try.prog 102 := enters_of Go.Proofs.Try.func102 (by kernel_rfl) rfl
theorem en126 : Enters Go.Proofs.Try.prog 126 := enters_of Go.Proofs.Try.func126 (by kernel_rfl) rfl
theorem en133 : Enters Go.Proofs.Try.prog 133 := enters_of Go.Proofs.Try.func133 (by kernel_rfl) rfl
theorem en146 : Enters Go.Proofs.Try.prog 146 := enters_of Go.Proofs.Try.func146 (by kernel_rfl) rfl
theorem en147 : Enters Go.Proofs.Try.prog 147 := enters_of Go.Proofs.Try.func147 (by kernel_rfl) rfl
theorem en166 : Enters Go.Proofs.Try.prog 166 := enters_of Go.Proofs.Try.func166 (by kernel_rfl) rfl
theorem en175 : Enters Go.Proofs.Try.prog 175 := enters_of Go.Proofs.Try.func175 (by kernel_rfl) rfl
theorem en20 : Enters Go.Proofs.Try.prog 20 := enters_of Go.Proofs.Try.func20 (by kernel_rfl) rfl
theorem en21 : Enters Go.Proofs.Try.prog 21 := enters_of Go.Proofs.Try.func21 (by kernel_rfl) rfl
theorem en52 : Enters Go.Proofs.Try.prog 52 := enters_of Go.Proofs.Try.func52 (by kernel_rfl) rfl
theorem en66 : Enters Go.Proofs.Try.prog 66 := enters_of Go.Proofs.Try.func66 (by kernel_rfl) rfl
theorem en68 : Enters Go.Proofs.Try.prog 68 := enters_of Go.Proofs.Try.func68 (by kernel_rfl) rfl
theorem fl106_0 : fldI Go.Proofs.Try.prog 106 0 = some 0 := by kernel_rfl
theorem fl106_1 : fldI Go.Proofs.Try.prog 106 1 = some 1 := by kernel_rfl
theorem fl106_2 : fldI Go.Proofs.Try.prog 106 2 = some 2 := by kernel_rfl
theorem fl38_0 : fldI Go.Proofs.Try.prog 38 0 = some 0 := by kernel_rfl
theorem fl38_1 : fldI Go.Proofs.Try.prog 38 1 = some 3 := by kernel_rfl
theorem fl38_5 : fldI Go.Proofs.Try.prog 38 5 = some 7 := by kernel_rfl
theorem fl50_0 : fldI Go.Proofs.Try.prog 50 0 = some 0 := by kernel_rfl
theorem fl50_1 : fldI Go.Proofs.Try.prog 50 1 = some 1 := by kernel_rfl
theorem fl50_2 : fldI Go.Proofs.Try.prog 50 2 = some 9 := by kernel_rfl
theorem fl50_3 : fldI Go.Proofs.Try.prog 50 3 = some 10 := by kernel_rfl
theorem mixed : Go.Proofs.Try.prog.follows .mixedOrders = true := by kernel_rfl
theorem mp104 : mapI Go.Proofs.Try.prog 104 = some (35, 38) := by kernel_rfl
theorem ps35 : plainS Go.Proofs.Try.prog 35 = true := by kernel_rfl
theorem sl28 : sliI Go.Proofs.Try.prog 28 = some (50, 11, 144) := by kernel_rfl
theorem sl36 : sliI Go.Proofs.Try.prog 36 = some (116, 2, 24) := by kernel_rfl
theorem sl48 : sliI Go.Proofs.Try.prog 48 = some (38, 8, 104) := by kernel_rfl
theorem ty104 : tyI Go.Proofs.Try.prog 104 = some (1, false) := by kernel_rfl
theorem ty2 : tyI Go.Proofs.Try.prog 2 = some (1, false) := by kernel_rfl
theorem ty28 : tyI Go.Proofs.Try.prog 28 = some (1, false) := by kernel_rfl
theorem ty35 : tyI Go.Proofs.Try.prog 35 = some (3, true) := by kernel_rfl
theorem ty36 : tyI Go.Proofs.Try.prog 36 = some (1, false) := by kernel_rfl
theorem ty38 : tyI Go.Proofs.Try.prog 38 = some (8, true) := by kernel_rfl
theorem ty47 : tyI Go.Proofs.Try.prog 47 = some (1, false) := by kernel_rfl
theorem ty48 : tyI Go.Proofs.Try.prog 48 = some (1, false) := by kernel_rfl
theorem ty50 : tyI Go.Proofs.Try.prog 50 = some (11, true) := by kernel_rfl
theorem u180 : Go.Proofs.Try.prog.underlying 180 = some (.int .u64) := by kernel_rfl
theorem u28 : Go.Proofs.Try.prog.underlying 28 = some (.slice 50) := by kernel_rfl
theorem u3 : Go.Proofs.Try.prog.underlying 3 = some (.int .i64) := by kernel_rfl
theorem u35 : Go.Proofs.Try.prog.underlying 35 = some (.struct #[⟨"Kind", 9, 0, false, "", "", 0⟩, ⟨"Space", 9, 1, false, "", "", 16⟩, ⟨"Name", 9, 2, false, "", "", 32⟩]) := by kernel_rfl
theorem u36 : Go.Proofs.Try.prog.underlying 36 = some (.slice 116) := by kernel_rfl
theorem u48 : Go.Proofs.Try.prog.underlying 48 = some (.slice 38) := by kernel_rfl
theorem u50 : Go.Proofs.Try.prog.underlying 50 = some (.struct #[⟨"Kind", 47, 0, false, "", "", 0⟩, ⟨"Object", 38, 1, false, "", "", 8⟩, ⟨"Version", 2, 9, false, "", "", 112⟩, ⟨"Objects", 48, 10, false, "", "", 120⟩]) := by kernel_rfl
theorem z116 : zI Go.Proofs.Try.prog 116 = some (.agg #[(.string ⟨#[]⟩), (.int .i64 0)]) := by kernel_rfl
theorem z38 : zI Go.Proofs.Try.prog 38 = some (.agg #[(.string ⟨#[]⟩), (.string ⟨#[]⟩), (.string ⟨#[]⟩), (.int .i64 0), (.string ⟨#[]⟩), (.bool false), (.bool false), (.slice none 0 0)]) := by kernel_rfl
theorem z50 : zI Go.Proofs.Try.prog 50 = some (.agg #[(.int .i64 0), (.string ⟨#[]⟩), (.string ⟨#[]⟩), (.string ⟨#[]⟩), (.int .i64 0), (.string ⟨#[]⟩), (.bool false), (.bool false), (.slice none 0 0), (.int .i64 0), (.slice none 0 0)]) := by kernel_rfl
end Go.Proofs.Ytncecheccihjoaa.TT14
namespace Go.Proofs.Ytncecheccihjoaa
open Go Go.Proofs.Fw Go.Proofs
set_option linter.unusedVariables false
set_option linter.unusedSimpArgs false
set_option maxRecDepth 20000
set_option maxHeartbeats 4000000
theorem keyR : KeyR Try.prog 35 encKey := keyR_key TT14.u35 TT14.ps35 rfl (fun _ _ _ _ _ _ => rfl)

def stH (s m : Nat) (v : Int) (M : List (Key × Object)) (log : List Evt) (tk : Tok) (H : AH) : AH := (s, .row [.map m, .int .i64 v, .slice (log.map encEv) tk] 106) :: (m, .map (mapAV encKey encObj M)) :: (G tk (log.map encEv).length 11 50 ++ H)

theorem written_spec (s m : Nat) (v : Int) (M : List (Key × Object)) (log : List Evt) (tk : Tok) (kind : Int) (o : Object) (H : AH) (hv : 0 ≤ v ∧ v ≤ 1000000) (htk : tk.grows = true) (hl : log.length ≤ 1000000) (hc : o.charge.length ≤ 1000000) : ACalls Try.prog [] 70 [.ptr s 0, .int .i64 kind, encObj o] (stH s m v M log tk H) (fun x H' => x = .int .i64 (v + 1) ∧ ∃ tk', tk'.grows = true ∧ H' = stH s m (v + 1) (if decide (kind = 0) then mset M o.key (o.wv (v + 1)) else M) (log ++ [(⟨kind, o.wv (v + 1), 0, []⟩ : Evt)]) tk' H) := by
  unfold stH
  refine ACalls.enter (n := 46) Try.func70 rfl rfl (Nat.le_of_ble_eq_true rfl) ?_
  refine AS.seq ?_
  refine AS.region rfl ?_
  refine AS.box rfl rfl rfl rfl rfl ?_
  intro b5
  refine AS.assign rfl rfl rfl rfl ?_
  refine AS.opsEnd ?_
  refine AS.seq ?_
  refine AS.region rfl ?_
  refine AS.move rfl rfl rfl rfl ?_
  refine AS.nilCheck rfl rfl rfl rfl rfl ?_
  refine AS.fieldAddr rfl rfl rfl rfl TT14.fl106_1 ?_
  refine AS.load rfl rfl rfl rfl TT14.ty2 rfl rfl rfl ?_
  refine AS.bin rfl rfl rfl rfl rfl (BinR.add (w64 (by omega) (by omega))) ?_
  refine AS.nilCheck rfl rfl rfl rfl rfl ?_
  refine AS.fieldAddr rfl rfl rfl rfl TT14.fl106_1 ?_
  refine AS.store rfl rfl rfl rfl rfl rfl TT14.ty2 rfl rfl ?_
  refine AS.opsEnd ?_
  refine AS.seq ?_
  refine AS.region rfl ?_
  refine AS.move rfl rfl rfl rfl ?_
  refine AS.nilCheck rfl rfl rfl rfl rfl ?_
  refine AS.fieldAddr rfl rfl rfl rfl TT14.fl106_1 ?_
  refine AS.load rfl rfl rfl rfl TT14.ty2 rfl rfl rfl ?_
  refine AS.fieldAddr rfl rfl rfl rfl TT14.fl38_1 ?_
  refine AS.store rfl rfl rfl rfl rfl rfl TT14.ty2 rfl rfl ?_
  refine AS.opsEnd ?_
  refine AS.seq ?_
  refine SA.start1 TT14.mixed rfl ?_
  refine SA.rd 0 [0] rfl (fun env rest next => AS.move rfl rfl rfl rfl next) ?_
  refine SA.rd 1 [0] rfl (fun env rest next => AS.move rfl rfl rfl rfl next) ?_
  refine SA.rd 2 [20] rfl (fun env rest next => AS.nilCheck rfl rfl rfl rfl rfl next) ?_
  refine SA.rd 3 [21] rfl (fun env rest next => AS.fieldAddr rfl rfl rfl rfl TT14.fl106_2 next) ?_
  refine SA.rd 4 [22] rfl (fun env rest next => AS.load rfl rfl rfl rfl TT14.ty28 rfl rfl rfl next) ?_
  refine SA.rd 5 [1] rfl (fun env rest next => AS.move rfl rfl rfl rfl next) ?_
  refine SA.rd 6 [5] rfl (fun env rest next => AS.load (y := encObj (o.wv (v + 1))) rfl rfl rfl rfl TT14.ty38 rfl rfl rfl next) ?_
  refine SA.rd 7 [25] rfl (fun env rest next => AS.callP rfl rfl rfl rfl TT14.en66 (own_spec (o.wv (v + 1)) _ hc) next) ?_
  refine SA.rd 8 [24, 26] rfl (fun env rest next => AS.build rfl rfl rfl TT14.b50 rfl rfl (AS.putLe (AVLe.agg (.cons (.refl _) (.cons (.refl _) (.cons (.refl _) (.cons (.refl _) (.cons (.refl _) (.cons (.refl _) (.cons (.refl _) (.cons (.refl _) (.cons (.refl _) (.cons (.refl _) (.cons (AVLe.tok _ _) .nil)))))))))))) next)) ?_
  refine SA.rd 9 [27] rfl (fun env rest next => AS.buildSlice1 rfl rfl rfl TT14.sl28 rfl rfl rfl next) ?_
  refine SA.turn (α := Tok) (val := fun tk' => .slice ((log ++ [(⟨kind, o.wv (v + 1), 0, []⟩ : Evt)]).map encEv) tk') (Hn := fun tk' => (b5, .row (encObj (o.wv (v + 1))).cells 38) :: (s, .row [.map m, .int .i64 (v + 1), .slice (log.map encEv) tk] 106) :: (m, .map (mapAV encKey encObj M)) :: (G tk' ((log ++ [(⟨kind, o.wv (v + 1), 0, []⟩ : Evt)]).map encEv).length 11 50 ++ H)) (Φ := fun tk' => tk'.grows = true) 10 [23, 28] rfl rfl rfl rfl (fun env rest h => AS.append1 (enc := encEv) (a := (⟨kind, o.wv (v + 1), 0, []⟩ : Evt)) rfl rfl rfl rfl rfl TT14.sl28 htk rfl encEv_sz encEv_flat (by omega) (fun tk' q => AS.permH [] (List.perm_append_comm_assoc _ [_, _, _] _) (h tk' q))) (Ros.get (c := 10) ⟨trivial, ⟨trivial, ⟨trivial, ⟨trivial, ⟨trivial, ⟨trivial, ⟨trivial, ⟨trivial, ⟨trivial, ⟨(fun H _ env rest next => AS.move rfl rfl rfl rfl next), trivial⟩⟩⟩⟩⟩⟩⟩⟩⟩⟩) ?_
  intro tk1 h1
  refine SA.rdA 11 [19] rfl (fun H env rest next => AS.nilCheck rfl rfl rfl rfl rfl next) ?_
  refine SA.rdA 12 [30] rfl (fun H env rest next => AS.fieldAddr rfl rfl rfl rfl TT14.fl106_2 next) ?_
  refine SA.chg 13 [29, 31] rfl rfl rfl rfl (fun env rest next => AS.store rfl rfl rfl rfl rfl rfl TT14.ty28 rfl rfl next) ⟨trivial, ⟨trivial, ⟨trivial, ⟨trivial, ⟨trivial, ⟨trivial, ⟨trivial, ⟨trivial, ⟨trivial, ⟨trivial, ⟨trivial, ⟨trivial, ⟨trivial, trivial⟩⟩⟩⟩⟩⟩⟩⟩⟩⟩⟩⟩⟩ ?_
  refine SA.done rfl rfl rfl ?_
  refine AS.seq ?_
  refine AS.seq ?_
  refine AS.region rfl ?_
  refine AS.move rfl rfl rfl rfl ?_
  refine AS.bin rfl rfl rfl rfl rfl (BinR.eql rfl) ?_
  refine AS.opsEnd ?_
  refine AS.cond rfl (fun hc0 => ?_) (fun hc0 => ?_)
  · refine SA.start1 TT14.mixed rfl ?_
    refine SA.rd 0 [0] rfl (fun env rest next => AS.move rfl rfl rfl rfl next) ?_
    refine SA.rd 1 [34] rfl (fun env rest next => AS.nilCheck rfl rfl rfl rfl rfl next) ?_
    refine SA.rd 2 [35] rfl (fun env rest next => AS.fieldAddr rfl rfl rfl rfl TT14.fl106_0 next) ?_
    refine SA.rd 3 [36] rfl (fun env rest next => AS.load rfl rfl rfl rfl TT14.ty104 rfl rfl rfl next) ?_
    refine SA.rd 4 [5] rfl (fun env rest next => AS.fieldAddr rfl rfl rfl rfl TT14.fl38_0 next) ?_
    refine SA.rd 5 [38] rfl (fun env rest next => AS.load (y := encKey o.key) rfl rfl rfl rfl TT14.ty35 rfl rfl rfl next) ?_
    refine SA.rd 6 [5] rfl (fun env rest next => AS.load (y := encObj (o.wv (v + 1))) rfl rfl rfl rfl TT14.ty38 rfl rfl rfl next) ?_
    refine SA.rd 7 [40] rfl (fun env rest next => AS.callP rfl rfl rfl rfl TT14.en66 (own_spec (o.wv (v + 1)) _ hc) next) ?_
    refine SA.chg 8 [37, 39, 41] rfl rfl rfl rfl (fun env rest next => AS.mapUpdate (m := M) (x := o.key) (y := o.wv (v + 1)) (encK := encKey) (encV := encObj) rfl rfl rfl rfl rfl rfl TT14.mp104 keyR next) ⟨trivial, ⟨trivial, ⟨trivial, ⟨trivial, ⟨trivial, ⟨trivial, ⟨trivial, ⟨trivial, trivial⟩⟩⟩⟩⟩⟩⟩⟩ ?_
    refine SA.done rfl rfl rfl ?_
    refine AS.seq ?_
    refine AS.region rfl ?_
    refine AS.move rfl rfl rfl rfl ?_
    refine AS.nilCheck rfl rfl rfl rfl rfl ?_
    refine AS.fieldAddr rfl rfl rfl rfl TT14.fl106_1 ?_
    refine AS.load rfl rfl rfl rfl TT14.ty2 rfl rfl rfl ?_
    refine AS.assign rfl rfl rfl rfl ?_
    refine AS.opsEnd ?_
    refine AS.retW Try.func70 rfl (.tmp rfl (.nil)) ?_
    rw [hc0]
    exact RWk.drop [_] rfl ⟨rfl, tk1, h1, rfl⟩
  · refine AS.skip ?_
    refine AS.seq ?_
    refine AS.region rfl ?_
    refine AS.move rfl rfl rfl rfl ?_
    refine AS.nilCheck rfl rfl rfl rfl rfl ?_
    refine AS.fieldAddr rfl rfl rfl rfl TT14.fl106_1 ?_
    refine AS.load rfl rfl rfl rfl TT14.ty2 rfl rfl rfl ?_
    refine AS.assign rfl rfl rfl rfl ?_
    refine AS.opsEnd ?_
    refine AS.retW Try.func70 rfl (.tmp rfl (.nil)) ?_
    rw [hc0]
    exact RWk.drop [_] rfl ⟨rfl, tk1, h1, rfl⟩
end Go.Proofs.Ytncecheccihjoaa
/- T15 -/
namespace Go.Proofs.Ytncecheccihjoaa.TT15
open Go Go.Proofs.Fw Go.Shelf
theorem b50 : bldI Go.Proofs.Try.prog 50 = some ([(.int .i64 0), (.str ⟨#[]⟩), (.str ⟨#[]⟩), (.str ⟨#[]⟩), (.int .i64 0), (.str ⟨#[]⟩), (.bool false), (.bool false), (.slice [] .full), (.int .i64 0), (.slice [] .full)], [(0, 1), (1, 8), (9, 1), (10, 1)]) := by kernel_rfl
theorem en100 : Enters Go.Proofs.Try.prog 100 := enters_of Go.Proofs.Try.func100 (by kernel_rfl) rfl
theorem en101 : Enters Go.Proofs.Try.prog 101 := enters_of Go.Proofs.Try.func101 (by kernel_rfl) rfl
theorem en102 : Enters Go.Proofs.Try.prog 102 := enters_of Go.Proofs.Try.func102 (by kernel_rfl) rfl
theorem en126 : Enters Go.Proofs.Try.prog 126 := enters_of Go.Proofs.Try.func126 (by kernel_rfl) rfl
theorem en133 : Enters Go.Proofs.Try.prog 133 := enters_of Go.Proofs.Try.func133 (by kernel_rfl) rfl
theorem en146 : Enters Go.Proofs.Try.prog 146 := enters_of Go.Proofs.Try.func146 (by kernel_rfl) rfl
theorem en147 : Enters Go.Proofs.Try.prog 147 := enters_of Go.Proofs.Try.func147 (by kernel_rfl) rfl
theorem en166 : Enters Go.Proofs.Try.prog 166 := enters_of Go.Proofs.Try.func166 (by kernel_rfl) rfl
theorem en175 : Enters Go.Proofs.Try.prog 175 := enters_of Go.Proofs.Try.func175 (by kernel_rfl) rfl
theorem en20 : Enters Go.Proofs.Try.prog 20 := enters_of Go.Proofs.Try.func20 (by kernel_rfl) rfl
theorem en21 : Enters Go.Proofs.Try.prog 21 := enters_of Go.Proofs.Try.func21 (by kernel_rfl) rfl
theorem en52 : Enters Go.Proofs.Try.prog 52 := enters_of Go.Proofs.Try.func52 (by kernel_rfl) rfl
theorem en66 : Enters Go.Proofs.Try.prog 66 := enters_of Go.Proofs.Try.func66 (by kernel_rfl) rfl
theorem en68 : Enters Go.Proofs.Try.prog 68 := enters_of Go.Proofs.Try.func68 (by kernel_rfl) rfl
theorem en69 : Enters Go.Proofs.Try.prog 69 := enters_of Go.Proofs.Try.func69 (by kernel_rfl) rfl
theorem en70 : Enters Go.Proofs.Try.prog 70 := enters_of Go.Proofs.Try.func70 (by kernel_rfl) rfl
theorem fl106_0 : fldI Go.Proofs.Try.prog 106 0 = some 0 := by kernel_rfl
theorem fl106_1 : fldI Go.Proofs.Try.prog 106 1 = some 1 := by kernel_rfl
theorem fl106_2 : fldI Go.Proofs.Try.prog 106 2 = some 2 := by kernel_rfl
theorem fl38_0 : fldI Go.Proofs.Try.prog 38 0 = some 0 := by kernel_rfl
theorem fl38_1 : fldI Go.Proofs.Try.prog 38 1 = some 3 := by kernel_rfl
theorem fl38_5 : fldI Go.Proofs.Try.prog 38 5 = some 7 := by kernel_rfl
theorem fl50_0 : fldI Go.Proofs.Try.prog 50 0 = some 0 := by kernel_rfl
theorem fl50_1 : fldI Go.Proofs.Try.prog 50 1 = some 1 := by kernel_rfl
theorem fl50_2 : fldI Go.Proofs.Try.prog 50 2 = some 9 := by kernel_rfl
theorem fl50_3 : fldI Go.Proofs.Try.prog 50 3 = some 10 := by kernel_rfl
theorem mixed : Go.Proofs.Try.prog.follows .mixedOrders = true := by kernel_rfl
theorem mp104 : mapI Go.Proofs.Try.prog 104 = some (35, 38) := by kernel_rfl
theorem ps35 : plainS Go.Proofs.Try.prog 35 = true := by kernel_rfl
theorem sl28 : sliI Go.Proofs.Try.prog 28 = some (50, 11, 144) := by kernel_rfl
theorem sl36 : sliI Go.Proofs.Try.prog 36 = some (116, 2, 24) := by kernel_rfl
theorem sl48 : sliI Go.Proofs.Try.prog 48 = some (38, 8, 104) := by kernel_rfl
theorem ty104 : tyI Go.Proofs.Try.prog 104 = some (1, false) := by kernel_rfl
theorem ty2 : tyI Go.Proofs.Try.prog 2 = some (1, false) := by kernel_rfl
theorem ty28 : tyI Go.Proofs.Try.prog 28 = some (1, false) := by kernel_rfl
theorem ty35 : tyI Go.Proofs.Try.prog 35 = some (3, true) := by kernel_rfl
theorem ty36 : tyI Go.Proofs.Try.prog 36 = some (1, false) := by kernel_rfl
theorem ty38 : tyI Go.Proofs.Try.prog 38 = some (8, true) := by kernel_rfl
theorem ty47 : tyI Go.Proofs.Try.prog 47 = some (1, false) := by kernel_rfl
theorem ty48 : tyI Go.Proofs.Try.prog 48 = some (1, false) := by kernel_rfl
theorem ty50 : tyI Go.Proofs.Try.prog 50 = some (11, true) := by kernel_rfl
theorem u180 : Go.Proofs.Try.prog.underlying 180 = some (.int .u64) := by kernel_rfl
theorem u25 : Go.Proofs.Try.prog.underlying 25 = some (.pointer 106) := by kernel_rfl
theorem u28 : Go.Proofs.Try.prog.underlying 28 = some (.slice 50) := by kernel_rfl
theorem u3 : Go.Proofs.Try.prog.underlying 3 = some (.int .i64) := by kernel_rfl
theorem u35 : Go.Proofs.Try.prog.underlying 35 = some (.struct #[⟨"Kind", 9, 0, false, "", "", 0⟩, ⟨"Space", 9, 1, false, "", "", 16⟩, ⟨"Name", 9, 2, false, "", "", 32⟩]) := by kernel_rfl
theorem u36 : Go.Proofs.Try.prog.underlying 36 = some (.slice 116) := by kernel_rfl
theorem u48 : Go.Proofs.Try.prog.underlying 48 = some (.slice 38) := by kernel_rfl
theorem u50 : Go.Proofs.Try.prog.underlying 50 = some (.struct #[⟨"Kind", 47, 0, false, "", "", 0⟩, ⟨"Object", 38, 1, false, "", "", 8⟩, ⟨"Version", 2, 9, false, "", "", 112⟩, ⟨"Objects", 48, 10, false, "", "", 120⟩]) := by kernel_rfl
theorem z116 : zI Go.Proofs.Try.prog 116 = some (.agg #[(.string ⟨#[]⟩), (.int .i64 0)]) := by kernel_rfl
theorem z38 : zI Go.Proofs.Try.prog 38 = some (.agg #[(.string ⟨#[]⟩), (.string ⟨#[]⟩), (.string ⟨#[]⟩), (.int .i64 0), (.string ⟨#[]⟩), (.bool false), (.bool false), (.slice none 0 0)]) := by kernel_rfl
theorem z50 : zI Go.Proofs.Try.prog 50 = some (.agg #[(.int .i64 0), (.string ⟨#[]⟩), (.string ⟨#[]⟩), (.string ⟨#[]⟩), (.int .i64 0), (.string ⟨#[]⟩), (.bool false), (.bool false), (.slice none 0 0), (.int .i64 0), (.slice none 0 0)]) := by kernel_rfl
end Go.Proofs.Ytncecheccihjoaa.TT15
namespace Go.Proofs.Ytncecheccihjoaa
open Go Go.Proofs.Fw Go.Proofs
set_option linter.unusedVariables false
set_option linter.unusedSimpArgs false
set_option maxRecDepth 20000
set_option maxHeartbeats 4000000
theorem stPerm (L : AH) (s m : Nat) (v : Int) (M : List (Key × Object)) (log : List Evt) (tk : Tok) (H : AH) : (L ++ stH s m v M log tk H).Perm (stH s m v M log tk (L ++ H)) := by
  unfold stH
  refine (List.perm_append_comm_assoc L [_, _] _).trans ?_
  exact ((List.perm_append_comm_assoc L _ H).cons _).cons _

def gotO (M : List (Key × Object)) (k : Key) : Object := (mget M k).getD noObj

theorem version_spec (s m : Nat) (v : Int) (M : List (Key × Object)) (log : List Evt) (tk : Tok) (H : AH) : ACalls Try.prog [] 24 [.ptr s 0] (stH s m v M log tk H) (fun x H' => x = .int .i64 v ∧ H' = (stH s m v M log tk H)) := by
  unfold stH
  refine ACalls.enter (n := 9) Try.func24 rfl rfl (Nat.le_of_ble_eq_true rfl) ?_
  refine AS.seq ?_
  refine AS.region rfl ?_
  refine AS.assign rfl rfl rfl rfl ?_
  refine AS.opsEnd ?_
  refine AS.seq ?_
  refine AS.seq ?_
  refine AS.region rfl ?_
  refine AS.move rfl rfl rfl rfl ?_
  refine AS.bin rfl rfl rfl rfl rfl (BinR.pnil TT15.u25) ?_
  refine AS.opsEnd ?_
  refine AS.condF rfl ?_
  refine AS.skip ?_
  refine AS.seq ?_
  refine AS.region rfl ?_
  refine AS.move rfl rfl rfl rfl ?_
  refine AS.nilCheck rfl rfl rfl rfl rfl ?_
  refine AS.fieldAddr rfl rfl rfl rfl TT15.fl106_1 ?_
  refine AS.load rfl rfl rfl rfl TT15.ty2 rfl rfl rfl ?_
  refine AS.assign rfl rfl rfl rfl ?_
  refine AS.opsEnd ?_
  refine AS.retW Try.func24 rfl (.tmp rfl (.nil)) ?_
  exact RWk.drop [] rfl ⟨rfl, rfl⟩
theorem get_spec (s m : Nat) (v : Int) (M : List (Key × Object)) (log : List Evt) (tk : Tok) (k : Key) (H : AH) (hM : ∀ o, mget M k = some o → o.charge.length ≤ 1000000) : ACalls Try.prog [] 18 [.ptr s 0, encKey k] (stH s m v M log tk H) (fun x H' => x = .tup [encObj (gotO M k), .bool (mget M k).isSome] ∧ H' = (stH s m v M log tk H)) := by
  unfold stH
  refine ACalls.enter (n := 23) Try.func18 rfl rfl (Nat.le_of_ble_eq_true rfl) ?_
  refine AS.seq ?_
  refine AS.region rfl ?_
  refine AS.box rfl rfl rfl rfl rfl ?_
  intro b3
  refine AS.allocZ rfl rfl rfl TT15.z38 rfl ?_
  intro b4
  refine AS.assign rfl rfl rfl rfl ?_
  refine AS.opsEnd ?_
  refine AS.seq ?_
  refine AS.seq ?_
  refine AS.region rfl ?_
  refine AS.move rfl rfl rfl rfl ?_
  refine AS.bin rfl rfl rfl rfl rfl (BinR.pnil TT15.u25) ?_
  refine AS.opsEnd ?_
  refine AS.condF rfl ?_
  refine AS.skip ?_
  refine AS.seq ?_
  rcases hg : mget M k with _ | q
  · refine SA.startG TT15.mixed rfl ?_
    refine SA.rdG 0 [0] rfl (fun G env rest next => AS.move rfl rfl rfl rfl next) ?_
    refine SA.rdG 1 [12] rfl (fun G env rest next => AS.nilCheck rfl rfl rfl rfl rfl next) ?_
    refine SA.rdG 2 [13] rfl (fun G env rest next => AS.fieldAddr rfl rfl rfl rfl TT15.fl106_0 next) ?_
    refine SA.rdG 3 [14] rfl (fun G env rest next => AS.load rfl rfl rfl rfl TT15.ty104 rfl rfl rfl next) ?_
    refine SA.rdG 4 [3] rfl (fun G env rest next => AS.load (y := encKey k) rfl rfl rfl rfl TT15.ty35 rfl rfl rfl next) ?_
    refine SA.rdG 5 [15, 16] rfl (fun G env rest next => AS.lookupZ (m := M) (x := k) (encK := encKey) (encV := encObj) rfl rfl rfl rfl rfl TT15.mp104 keyR TT15.z38 hg rfl next) ?_
    refine SA.rdG 6 [17] rfl (fun G env rest next => AS.move rfl rfl rfl rfl next) ?_
    refine SA.rdG 7 [11] rfl (fun G env rest next => AS.extract rfl rfl rfl rfl rfl next) ?_
    refine SA.rdG 8 [11] rfl (fun G env rest next => AS.extract rfl rfl rfl rfl rfl next) ?_
    refine SA.new 9 [] rfl rfl rfl rfl (fun env rest next => AS.allocZ rfl rfl rfl TT15.z38 rfl next) ?_ ⟨[], rfl⟩
    intro b6
    refine SA.chg 10 [6, 18] rfl rfl rfl rfl (fun env rest next => AS.store rfl rfl rfl rfl rfl rfl TT15.ty38 rfl rfl next) ⟨trivial, ⟨(fun H _ env rest next => AS.extract rfl rfl rfl rfl rfl next), ⟨trivial, ⟨trivial, ⟨trivial, ⟨trivial, ⟨trivial, ⟨trivial, ⟨trivial, ⟨trivial, trivial⟩⟩⟩⟩⟩⟩⟩⟩⟩⟩ ?_
    refine SA.rdA 11 [19] rfl (fun H env rest next => AS.assign rfl rfl rfl rfl next) ?_
    refine SA.done rfl rfl rfl ?_
    refine AS.seq ?_
    refine AS.region rfl ?_
    refine AS.load rfl rfl rfl rfl TT15.ty38 rfl rfl rfl ?_
    refine AS.weak 20 (encObj noObj) rfl (AVLe.agg (.cons (.refl _) (.cons (.refl _) (.cons (.refl _) (.cons (.refl _) (.cons (.refl _) (.cons (.refl _) (.cons (.refl _) (.cons (AVLe.tok _ _) .nil))))))))) ?_
    refine AS.callP rfl rfl rfl rfl TT15.en66 (own_spec noObj _ (Nat.zero_le _)) ?_
    refine AS.move rfl rfl rfl rfl ?_
    refine AS.store rfl rfl rfl rfl rfl rfl TT15.ty38 rfl rfl ?_
    refine AS.assign rfl rfl rfl rfl ?_
    refine AS.opsEnd ?_
    refine AS.retW Try.func18 rfl (.cell rfl TT15.ty38 rfl rfl rfl (.tmp rfl (.nil))) ?_
    exact RWk.drop [_, _, _] rfl ⟨by simp only [gotO, hg]; rfl, rfl⟩
  · refine SA.startG TT15.mixed rfl ?_
    refine SA.rdG 0 [0] rfl (fun G env rest next => AS.move rfl rfl rfl rfl next) ?_
    refine SA.rdG 1 [12] rfl (fun G env rest next => AS.nilCheck rfl rfl rfl rfl rfl next) ?_
    refine SA.rdG 2 [13] rfl (fun G env rest next => AS.fieldAddr rfl rfl rfl rfl TT15.fl106_0 next) ?_
    refine SA.rdG 3 [14] rfl (fun G env rest next => AS.load rfl rfl rfl rfl TT15.ty104 rfl rfl rfl next) ?_
    refine SA.rdG 4 [3] rfl (fun G env rest next => AS.load (y := encKey k) rfl rfl rfl rfl TT15.ty35 rfl rfl rfl next) ?_
    refine SA.rdG 5 [15, 16] rfl (fun G env rest next => AS.lookupZ (m := M) (x := k) (encK := encKey) (encV := encObj) rfl rfl rfl rfl rfl TT15.mp104 keyR TT15.z38 hg rfl next) ?_
    refine SA.rdG 6 [17] rfl (fun G env rest next => AS.move rfl rfl rfl rfl next) ?_
    refine SA.rdG 7 [11] rfl (fun G env rest next => AS.extract rfl rfl rfl rfl rfl next) ?_
    refine SA.rdG 8 [11] rfl (fun G env rest next => AS.extract rfl rfl rfl rfl rfl next) ?_
    refine SA.new 9 [] rfl rfl rfl rfl (fun env rest next => AS.allocZ rfl rfl rfl TT15.z38 rfl next) ?_ ⟨[], rfl⟩
    intro b6
    refine SA.chg 10 [6, 18] rfl rfl rfl rfl (fun env rest next => AS.store rfl rfl rfl rfl rfl rfl TT15.ty38 rfl rfl next) ⟨trivial, ⟨(fun H _ env rest next => AS.extract rfl rfl rfl rfl rfl next), ⟨trivial, ⟨trivial, ⟨trivial, ⟨trivial, ⟨trivial, ⟨trivial, ⟨trivial, ⟨trivial, trivial⟩⟩⟩⟩⟩⟩⟩⟩⟩⟩ ?_
    refine SA.rdA 11 [19] rfl (fun H env rest next => AS.assign rfl rfl rfl rfl next) ?_
    refine SA.done rfl rfl rfl ?_
    refine AS.seq ?_
    refine AS.region rfl ?_
    refine AS.load (y := encObj q) rfl rfl rfl rfl TT15.ty38 rfl rfl rfl ?_
    refine AS.callP rfl rfl rfl rfl TT15.en66 (own_spec q _ (hM q hg)) ?_
    refine AS.move rfl rfl rfl rfl ?_
    refine AS.store rfl rfl rfl rfl rfl rfl TT15.ty38 rfl rfl ?_
    refine AS.assign rfl rfl rfl rfl ?_
    refine AS.opsEnd ?_
    refine AS.retW Try.func18 rfl (.cell rfl TT15.ty38 rfl rfl rfl (.tmp rfl (.nil))) ?_
    exact RWk.drop [_, _, _] rfl ⟨by simp only [gotO, hg]; rfl, rfl⟩
theorem put_spec (s m : Nat) (v : Int) (M : List (Key × Object)) (log : List Evt) (tk : Tok) (o : Object) (H : AH) (hv : 0 ≤ v ∧ v ≤ 1000000) (htk : tk.grows = true) (hl : log.length ≤ 1000000) (hc : o.charge.length ≤ 1000000) : ACalls Try.prog [] 27 [.ptr s 0, encObj o] (stH s m v M log tk H) (fun x H' => (objRight (o.wv 1) = false ∧ x = .tup [.int .i64 0, .int .i64 1] ∧ H' = (stH s m v M log tk H)) ∨ (objRight (o.wv 1) = true ∧ mget M o.key = none ∧ 1000 ≤ M.length ∧ x = .tup [.int .i64 0, .int .i64 3] ∧ H' = (stH s m v M log tk H)) ∨ (objRight (o.wv 1) = true ∧ (mget M o.key = none → M.length < 1000) ∧ x = .tup [.int .i64 (v + 1), .int .i64 0] ∧ ∃ tk', tk'.grows = true ∧ H' = stH s m (v + 1) (mset M o.key (o.wv (v + 1))) (log ++ [(⟨0, o.wv (v + 1), 0, []⟩ : Evt)]) tk' H)) := by
  have hml : (mapAV encKey encObj M).length = M.length := by rw [mapAV, List.length_map]
  unfold stH
  refine ACalls.enter (n := 39) Try.func27 rfl rfl (Nat.le_of_ble_eq_true rfl) ?_
  refine AS.seq ?_
  refine AS.region rfl ?_
  refine AS.box rfl rfl rfl rfl rfl ?_
  intro b3
  refine AS.assign rfl rfl rfl rfl ?_
  refine AS.assign rfl rfl rfl rfl ?_
  refine AS.opsEnd ?_
  refine AS.seq ?_
  refine AS.region rfl ?_
  refine AS.fieldAddr rfl rfl rfl rfl TT15.fl38_1 ?_
  refine AS.store rfl rfl rfl rfl rfl rfl TT15.ty2 rfl rfl ?_
  refine AS.opsEnd ?_
  refine AS.seq ?_
  refine AS.seq ?_
  refine AS.region rfl ?_
  refine AS.move rfl rfl rfl rfl ?_
  refine AS.bin rfl rfl rfl rfl rfl (BinR.pnil TT15.u25) ?_
  refine AS.move rfl rfl rfl rfl ?_
  refine AS.load (y := encObj (o.wv 1)) rfl rfl rfl rfl TT15.ty38 rfl rfl rfl ?_
  refine AS.callP rfl rfl rfl rfl TT15.en69 (object_right (o.wv 1) _ hc) ?_
  refine AS.not rfl rfl rfl rfl rfl ?_
  refine AS.pick rfl rfl rfl rfl rfl ?_
  refine AS.opsEnd ?_
  refine AS.cond rfl (fun hc0 => ?_) (fun hc0 => ?_)
  · rw [Bool.not_eq_true'] at hc0
    refine AS.seq ?_
    refine AS.region rfl ?_
    refine AS.assign rfl rfl rfl rfl ?_
    refine AS.assign rfl rfl rfl rfl ?_
    refine AS.opsEnd ?_
    refine AS.retW Try.func27 rfl (.tmp rfl (.tmp rfl (.nil))) ?_
    exact RWk.drop [_] rfl (.inl ⟨hc0, rfl, rfl⟩)
  · rw [Bool.not_eq_false'] at hc0
    refine AS.skip ?_
    refine AS.seq ?_
    refine AS.seq ?_
    rcases hg : mget M o.key with _ | q
    · refine SA.startG TT15.mixed rfl ?_
      refine SA.rdG 0 [0] rfl (fun G env rest next => AS.move rfl rfl rfl rfl next) ?_
      refine SA.rdG 1 [17] rfl (fun G env rest next => AS.nilCheck rfl rfl rfl rfl rfl next) ?_
      refine SA.rdG 2 [18] rfl (fun G env rest next => AS.fieldAddr rfl rfl rfl rfl TT15.fl106_0 next) ?_
      refine SA.rdG 3 [19] rfl (fun G env rest next => AS.load rfl rfl rfl rfl TT15.ty104 rfl rfl rfl next) ?_
      refine SA.rdG 4 [3] rfl (fun G env rest next => AS.fieldAddr rfl rfl rfl rfl TT15.fl38_0 next) ?_
      refine SA.rdG 5 [21] rfl (fun G env rest next => AS.load (y := encKey o.key) rfl rfl rfl rfl TT15.ty35 rfl rfl rfl next) ?_
      refine SA.rdG 6 [20, 22] rfl (fun G env rest next => AS.lookupZ (m := M) (x := o.key) (encK := encKey) (encV := encObj) rfl rfl rfl rfl rfl TT15.mp104 keyR TT15.z38 hg rfl next) ?_
      refine SA.rdG 7 [23] rfl (fun G env rest next => AS.move rfl rfl rfl rfl next) ?_
      refine SA.rdG 8 [16] rfl (fun G env rest next => AS.extract rfl rfl rfl rfl rfl next) ?_
      refine SA.rdG 9 [16] rfl (fun G env rest next => AS.extract rfl rfl rfl rfl rfl next) ?_
      refine SA.new 10 [] rfl rfl rfl rfl (fun env rest next => AS.allocZ rfl rfl rfl TT15.z38 rfl next) ?_ ⟨[], rfl⟩
      intro b6
      refine SA.chg 11 [6, 24] rfl rfl rfl rfl (fun env rest next => AS.store rfl rfl rfl rfl rfl rfl TT15.ty38 rfl rfl next) ⟨trivial, ⟨(fun H _ env rest next => AS.extract rfl rfl rfl rfl rfl next), ⟨trivial, ⟨trivial, ⟨trivial, ⟨trivial, ⟨trivial, ⟨trivial, ⟨trivial, ⟨trivial, ⟨trivial, trivial⟩⟩⟩⟩⟩⟩⟩⟩⟩⟩⟩ ?_
      refine SA.rdA 12 [25] rfl (fun H env rest next => AS.assign rfl rfl rfl rfl next) ?_
      refine SA.done rfl rfl rfl ?_
      refine AS.seq ?_
      refine AS.region rfl ?_
      refine AS.move rfl rfl rfl rfl ?_
      refine AS.not rfl rfl rfl rfl rfl ?_
      refine AS.move rfl rfl rfl rfl ?_
      refine AS.move rfl rfl rfl rfl ?_
      refine AS.nilCheck rfl rfl rfl rfl rfl ?_
      refine AS.fieldAddr rfl rfl rfl rfl TT15.fl106_0 ?_
      refine AS.load rfl rfl rfl rfl TT15.ty104 rfl rfl rfl ?_
      refine AS.lenMap rfl rfl rfl rfl TT15.mp104 rfl ?_
      refine AS.bin rfl rfl rfl rfl rfl (BinR.geq rfl) ?_
      refine AS.pick rfl rfl rfl rfl rfl ?_
      refine AS.opsEnd ?_
      refine AS.cond rfl (fun hc1 => ?_) (fun hc1 => ?_)
      · refine AS.seq ?_
        refine AS.region rfl ?_
        refine AS.assign rfl rfl rfl rfl ?_
        refine AS.assign rfl rfl rfl rfl ?_
        refine AS.opsEnd ?_
        refine AS.retW Try.func27 rfl (.tmp rfl (.tmp rfl (.nil))) ?_
        exact RWk.drop [_, _] rfl (.inr (.inl ⟨hc0, rfl, by simp only [decide_eq_true_eq] at hc1; omega, rfl, rfl⟩))
      · refine AS.skip ?_
        refine AS.seq ?_
        refine AS.permH [] (stPerm [_, _] s m v M log tk H) ?_
        dsimp only [stH, List.cons_append, List.nil_append]
        refine AS.region rfl ?_
        refine AS.move rfl rfl rfl rfl ?_
        refine AS.load (y := encObj (o.wv 1)) rfl rfl rfl rfl TT15.ty38 rfl rfl rfl ?_
        refine AS.call rfl rfl rfl rfl TT15.en70 (written_spec s m v M log tk 0 (o.wv 1) _ hv htk hl hc) ?_
        rintro _ _ ⟨rfl, tk', h1, rfl⟩
        refine AS.assign rfl rfl rfl rfl ?_
        refine AS.assign rfl rfl rfl rfl ?_
        refine AS.opsEnd ?_
        refine AS.retW Try.func27 rfl (.tmp rfl (.tmp rfl (.nil))) ?_
        simp only [decide_eq_false_iff_not] at hc1
        exact RWk.permD [_, _] (stPerm [_, _] _ _ _ _ _ _ _).symm (.inr (.inr ⟨hc0, fun _ => by omega, rfl, tk', h1, rfl⟩))
    · refine SA.startG TT15.mixed rfl ?_
      refine SA.rdG 0 [0] rfl (fun G env rest next => AS.move rfl rfl rfl rfl next) ?_
      refine SA.rdG 1 [17] rfl (fun G env rest next => AS.nilCheck rfl rfl rfl rfl rfl next) ?_
      refine SA.rdG 2 [18] rfl (fun G env rest next => AS.fieldAddr rfl rfl rfl rfl TT15.fl106_0 next) ?_
      refine SA.rdG 3 [19] rfl (fun G env rest next => AS.load rfl rfl rfl rfl TT15.ty104 rfl rfl rfl next) ?_
      refine SA.rdG 4 [3] rfl (fun G env rest next => AS.fieldAddr rfl rfl rfl rfl TT15.fl38_0 next) ?_
      refine SA.rdG 5 [21] rfl (fun G env rest next => AS.load (y := encKey o.key) rfl rfl rfl rfl TT15.ty35 rfl rfl rfl next) ?_
      refine SA.rdG 6 [20, 22] rfl (fun G env rest next => AS.lookupZ (m := M) (x := o.key) (encK := encKey) (encV := encObj) rfl rfl rfl rfl rfl TT15.mp104 keyR TT15.z38 hg rfl next) ?_
      refine SA.rdG 7 [23] rfl (fun G env rest next => AS.move rfl rfl rfl rfl next) ?_
      refine SA.rdG 8 [16] rfl (fun G env rest next => AS.extract rfl rfl rfl rfl rfl next) ?_
      refine SA.rdG 9 [16] rfl (fun G env rest next => AS.extract rfl rfl rfl rfl rfl next) ?_
      refine SA.new 10 [] rfl rfl rfl rfl (fun env rest next => AS.allocZ rfl rfl rfl TT15.z38 rfl next) ?_ ⟨[], rfl⟩
      intro b6
      refine SA.chg 11 [6, 24] rfl rfl rfl rfl (fun env rest next => AS.store rfl rfl rfl rfl rfl rfl TT15.ty38 rfl rfl next) ⟨trivial, ⟨(fun H _ env rest next => AS.extract rfl rfl rfl rfl rfl next), ⟨trivial, ⟨trivial, ⟨trivial, ⟨trivial, ⟨trivial, ⟨trivial, ⟨trivial, ⟨trivial, ⟨trivial, trivial⟩⟩⟩⟩⟩⟩⟩⟩⟩⟩⟩ ?_
      refine SA.rdA 12 [25] rfl (fun H env rest next => AS.assign rfl rfl rfl rfl next) ?_
      refine SA.done rfl rfl rfl ?_
      refine AS.seq ?_
      refine AS.region rfl ?_
      refine AS.move rfl rfl rfl rfl ?_
      refine AS.not rfl rfl rfl rfl rfl ?_
      refine AS.move rfl rfl rfl rfl ?_
      refine AS.pass rfl rfl rfl ?_
      refine AS.pass rfl rfl rfl ?_
      refine AS.pass rfl rfl rfl ?_
      refine AS.pass rfl rfl rfl ?_
      refine AS.pass rfl rfl rfl ?_
      refine AS.pass rfl rfl rfl ?_
      refine AS.pick rfl rfl rfl rfl rfl ?_
      refine AS.opsEnd ?_
      refine AS.condF rfl ?_
      refine AS.skip ?_
      refine AS.seq ?_
      refine AS.permH [] (stPerm [_, _] s m v M log tk H) ?_
      dsimp only [stH, List.cons_append, List.nil_append]
      refine AS.region rfl ?_
      refine AS.move rfl rfl rfl rfl ?_
      refine AS.load (y := encObj (o.wv 1)) rfl rfl rfl rfl TT15.ty38 rfl rfl rfl ?_
      refine AS.call rfl rfl rfl rfl TT15.en70 (written_spec s m v M log tk 0 (o.wv 1) _ hv htk hl hc) ?_
      rintro _ _ ⟨rfl, tk', h1, rfl⟩
      refine AS.assign rfl rfl rfl rfl ?_
      refine AS.assign rfl rfl rfl rfl ?_
      refine AS.opsEnd ?_
      refine AS.retW Try.func27 rfl (.tmp rfl (.tmp rfl (.nil))) ?_
      exact RWk.permD [_, _] (stPerm [_, _] _ _ _ _ _ _ _).symm (.inr (.inr ⟨hc0, (fun h => by cases h), rfl, tk', h1, rfl⟩))
end Go.Proofs.Ytncecheccihjoaa
/- T16 -/
namespace Go.Proofs.Ytncecheccihjoaa.TT16
open Go Go.Proofs.Fw Go.Shelf
theorem b38 : bldI Go.Proofs.Try.prog 38 = some ([(.str ⟨#[]⟩), (.str ⟨#[]⟩), (.str ⟨#[]⟩), (.int .i64 0), (.str ⟨#[]⟩), (.bool false), (.bool false), (.slice [] .full)], [(0, 3), (3, 1), (4, 1), (5, 1), (6, 1), (7, 1)]) := by kernel_rfl
theorem b50 : bldI Go.Proofs.Try.prog 50 = some ([(.int .i64 0), (.str ⟨#[]⟩), (.str ⟨#[]⟩), (.str ⟨#[]⟩), (.int .i64 0), (.str ⟨#[]⟩), (.bool false), (.bool false), (.slice [] .full), (.int .i64 0), (.slice [] .full)], [(0, 1), (1, 8), (9, 1), (10, 1)]) := by kernel_rfl
theorem en100 : Enters Go.Proofs.Try.prog 100 := enters_of Go.Proofs.Try.func100 (by kernel_rfl) rfl
theorem en101 : Enters Go.Proofs.Try.prog 101 := enters_of Go.Proofs.Try.func101 (by kernel_rfl) rfl
theorem en102 : Enters Go.Proofs.Try.prog 102 := enters_of Go.Proofs.Try.func102 (by kernel_rfl) rfl
theorem en126 : Enters Go.Proofs.Try.prog 126 := enters_of Go.Proofs.Try.func126 (by kernel_rfl) rfl
theorem en133 : Enters Go.Proofs.Try.prog 133 := enters_of Go.Proofs.Try.func133 (by kernel_rfl) rfl
theorem en146 : Enters Go.Proofs.Try.prog 146 := enters_of Go.Proofs.Try.func146 (by kernel_rfl) rfl
theorem en147 : Enters Go.Proofs.Try.prog 147 := enters_of Go.Proofs.Try.func147 (by kernel_rfl) rfl
theorem en166 : Enters Go.Proofs.Try.prog 166 := enters_of Go.Proofs.Try.func166 (by kernel_rfl) rfl
theorem en175 : Enters Go.Proofs.Try.prog 175 := enters_of Go.Proofs.Try.func175 (by kernel_rfl) rfl
theorem en20 : Enters Go.Proofs.Try.prog 20 := enters_of Go.Proofs.Try.func20 (by kernel_rfl) rfl
theorem en21 : Enters Go.Proofs.Try.prog 21 := enters_of Go.Proofs.Try.func21 (by kernel_rfl) rfl
theorem en52 : Enters Go.Proofs.Try.prog 52 := enters_of Go.Proofs.Try.func52 (by kernel_rfl) rfl
theorem en66 : Enters Go.Proofs.Try.prog 66 := enters_of Go.Proofs.Try.func66 (by kernel_rfl) rfl
theorem en68 : Enters Go.Proofs.Try.prog 68 := enters_of Go.Proofs.Try.func68 (by kernel_rfl) rfl
theorem en69 : Enters Go.Proofs.Try.prog 69 := enters_of Go.Proofs.Try.func69 (by kernel_rfl) rfl
theorem en70 : Enters Go.Proofs.Try.prog 70 := enters_of Go.Proofs.Try.func70 (by kernel_rfl) rfl
theorem en71 : Enters Go.Proofs.Try.prog 71 := enters_of Go.Proofs.Try.func71 (by kernel_rfl) rfl
theorem fl106_0 : fldI Go.Proofs.Try.prog 106 0 = some 0 := by kernel_rfl
theorem fl106_1 : fldI Go.Proofs.Try.prog 106 1 = some 1 := by kernel_rfl
theorem fl106_2 : fldI Go.Proofs.Try.prog 106 2 = some 2 := by kernel_rfl
theorem fl38_0 : fldI Go.Proofs.Try.prog 38 0 = some 0 := by kernel_rfl
theorem fl38_1 : fldI Go.Proofs.Try.prog 38 1 = some 3 := by kernel_rfl
theorem fl38_5 : fldI Go.Proofs.Try.prog 38 5 = some 7 := by kernel_rfl
theorem fl50_0 : fldI Go.Proofs.Try.prog 50 0 = some 0 := by kernel_rfl
theorem fl50_1 : fldI Go.Proofs.Try.prog 50 1 = some 1 := by kernel_rfl
theorem fl50_2 : fldI Go.Proofs.Try.prog 50 2 = some 9 := by kernel_rfl
theorem fl50_3 : fldI Go.Proofs.Try.prog 50 3 = some 10 := by kernel_rfl
theorem mixed : Go.Proofs.Try.prog.follows .mixedOrders = true := by kernel_rfl
theorem mp104 : mapI Go.Proofs.Try.prog 104 = some (35, 38) := by kernel_rfl
theorem ps35 : plainS Go.Proofs.Try.prog 35 = true := by kernel_rfl
theorem sl28 : sliI Go.Proofs.Try.prog 28 = some (50, 11, 144) := by kernel_rfl
theorem sl36 : sliI Go.Proofs.Try.prog 36 = some (116, 2, 24) := by kernel_rfl
theorem sl48 : sliI Go.Proofs.Try.prog 48 = some (38, 8, 104) := by kernel_rfl
theorem ty104 : tyI Go.Proofs.Try.prog 104 = some (1, false) := by kernel_rfl
theorem ty2 : tyI Go.Proofs.Try.prog 2 = some (1, false) := by kernel_rfl
theorem ty28 : tyI Go.Proofs.Try.prog 28 = some (1, false) := by kernel_rfl
theorem ty35 : tyI Go.Proofs.Try.prog 35 = some (3, true) := by kernel_rfl
theorem ty36 : tyI Go.Proofs.Try.prog 36 = some (1, false) := by kernel_rfl
theorem ty38 : tyI Go.Proofs.Try.prog 38 = some (8, true) := by kernel_rfl
theorem ty47 : tyI Go.Proofs.Try.prog 47 = some (1, false) := by kernel_rfl
theorem ty48 : tyI Go.Proofs.Try.prog 48 = some (1, false) := by kernel_rfl
theorem ty50 : tyI Go.Proofs.Try.prog 50 = some (11, true) := by kernel_rfl
theorem u180 : Go.Proofs.Try.prog.underlying 180 = some (.int .u64) := by kernel_rfl
theorem u25 : Go.Proofs.Try.prog.underlying 25 = some (.pointer 106) := by kernel_rfl
theorem u28 : Go.Proofs.Try.prog.underlying 28 = some (.slice 50) := by kernel_rfl
theorem u3 : Go.Proofs.Try.prog.underlying 3 = some (.int .i64) := by kernel_rfl
theorem u35 : Go.Proofs.Try.prog.underlying 35 = some (.struct #[⟨"Kind", 9, 0, false, "", "", 0⟩, ⟨"Space", 9, 1, false, "", "", 16⟩, ⟨"Name", 9, 2, false, "", "", 32⟩]) := by kernel_rfl
theorem u36 : Go.Proofs.Try.prog.underlying 36 = some (.slice 116) := by kernel_rfl
theorem u48 : Go.Proofs.Try.prog.underlying 48 = some (.slice 38) := by kernel_rfl
theorem u50 : Go.Proofs.Try.prog.underlying 50 = some (.struct #[⟨"Kind", 47, 0, false, "", "", 0⟩, ⟨"Object", 38, 1, false, "", "", 8⟩, ⟨"Version", 2, 9, false, "", "", 112⟩, ⟨"Objects", 48, 10, false, "", "", 120⟩]) := by kernel_rfl
theorem z116 : zI Go.Proofs.Try.prog 116 = some (.agg #[(.string ⟨#[]⟩), (.int .i64 0)]) := by kernel_rfl
theorem z38 : zI Go.Proofs.Try.prog 38 = some (.agg #[(.string ⟨#[]⟩), (.string ⟨#[]⟩), (.string ⟨#[]⟩), (.int .i64 0), (.string ⟨#[]⟩), (.bool false), (.bool false), (.slice none 0 0)]) := by kernel_rfl
theorem z50 : zI Go.Proofs.Try.prog 50 = some (.agg #[(.int .i64 0), (.string ⟨#[]⟩), (.string ⟨#[]⟩), (.string ⟨#[]⟩), (.int .i64 0), (.string ⟨#[]⟩), (.bool false), (.bool false), (.slice none 0 0), (.int .i64 0), (.slice none 0 0)]) := by kernel_rfl
end Go.Proofs.Ytncecheccihjoaa.TT16
namespace Go.Proofs.Ytncecheccihjoaa
open Go Go.Proofs.Fw Go.Proofs
set_option linter.unusedVariables false
set_option linter.unusedSimpArgs false
set_option maxRecDepth 20000
set_option maxHeartbeats 4000000
theorem delete_spec (s m : Nat) (v : Int) (M : List (Key × Object)) (log : List Evt) (tk : Tok) (k : Key) (H : AH) (hv : 0 ≤ v ∧ v ≤ 1000000) (htk : tk.grows = true) (hl : log.length ≤ 1000000) : ACalls Try.prog [] 28 [.ptr s 0, encKey k] (stH s m v M log tk H) (fun x H' => (keyRight k = false ∧ x = .tup [.int .i64 0, .int .i64 1] ∧ H' = (stH s m v M log tk H)) ∨ (keyRight k = true ∧ mget M k = none ∧ x = .tup [.int .i64 0, .int .i64 4] ∧ H' = (stH s m v M log tk H)) ∨ (keyRight k = true ∧ (mget M k).isSome = true ∧ x = .tup [.int .i64 (v + 1), .int .i64 0] ∧ ∃ tk', tk'.grows = true ∧ H' = stH s m (v + 1) (mdel M k) (log ++ [(⟨1, (⟨k, 0, ⟨#[]⟩, false, false, []⟩ : Object).wv (v + 1), 0, []⟩ : Evt)]) tk' H)) := by
  unfold stH
  refine ACalls.enter (n := 35) Try.func28 rfl rfl (Nat.le_of_ble_eq_true rfl) ?_
  refine AS.seq ?_
  refine AS.region rfl ?_
  refine AS.box rfl rfl rfl rfl rfl ?_
  intro b3
  refine AS.assign rfl rfl rfl rfl ?_
  refine AS.assign rfl rfl rfl rfl ?_
  refine AS.opsEnd ?_
  refine AS.seq ?_
  refine AS.seq ?_
  refine AS.region rfl ?_
  refine AS.move rfl rfl rfl rfl ?_
  refine AS.bin rfl rfl rfl rfl rfl (BinR.pnil TT16.u25) ?_
  refine AS.move rfl rfl rfl rfl ?_
  refine AS.load (y := encKey k) rfl rfl rfl rfl TT16.ty35 rfl rfl rfl ?_
  refine AS.callP rfl rfl rfl rfl TT16.en71 (label_key _ _) ?_
  refine AS.not rfl rfl rfl rfl rfl ?_
  refine AS.pick rfl rfl rfl rfl rfl ?_
  refine AS.opsEnd ?_
  refine AS.cond rfl (fun hc0 => ?_) (fun hc0 => ?_)
  · rw [Bool.not_eq_true'] at hc0
    refine AS.seq ?_
    refine AS.region rfl ?_
    refine AS.assign rfl rfl rfl rfl ?_
    refine AS.assign rfl rfl rfl rfl ?_
    refine AS.opsEnd ?_
    refine AS.retW Try.func28 rfl (.tmp rfl (.tmp rfl (.nil))) ?_
    exact RWk.drop [_] rfl (.inl ⟨hc0, rfl, rfl⟩)
  · rw [Bool.not_eq_false'] at hc0
    refine AS.skip ?_
    refine AS.seq ?_
    refine AS.seq ?_
    rcases hg : mget M k with _ | q
    · refine SA.startG TT16.mixed rfl ?_
      refine SA.rdG 0 [0] rfl (fun G env rest next => AS.move rfl rfl rfl rfl next) ?_
      refine SA.rdG 1 [16] rfl (fun G env rest next => AS.nilCheck rfl rfl rfl rfl rfl next) ?_
      refine SA.rdG 2 [17] rfl (fun G env rest next => AS.fieldAddr rfl rfl rfl rfl TT16.fl106_0 next) ?_
      refine SA.rdG 3 [18] rfl (fun G env rest next => AS.load rfl rfl rfl rfl TT16.ty104 rfl rfl rfl next) ?_
      refine SA.rdG 4 [3] rfl (fun G env rest next => AS.load (y := encKey k) rfl rfl rfl rfl TT16.ty35 rfl rfl rfl next) ?_
      refine SA.rdG 5 [19, 20] rfl (fun G env rest next => AS.lookupZ (m := M) (x := k) (encK := encKey) (encV := encObj) rfl rfl rfl rfl rfl TT16.mp104 keyR TT16.z38 hg rfl next) ?_
      refine SA.rdG 6 [21] rfl (fun G env rest next => AS.move rfl rfl rfl rfl next) ?_
      refine SA.rdG 7 [15] rfl (fun G env rest next => AS.extract rfl rfl rfl rfl rfl next) ?_
      refine SA.rdG 8 [15] rfl (fun G env rest next => AS.extract rfl rfl rfl rfl rfl next) ?_
      refine SA.new 9 [] rfl rfl rfl rfl (fun env rest next => AS.allocZ rfl rfl rfl TT16.z38 rfl next) ?_ ⟨[], rfl⟩
      intro b6
      refine SA.chg 10 [6, 22] rfl rfl rfl rfl (fun env rest next => AS.store rfl rfl rfl rfl rfl rfl TT16.ty38 rfl rfl next) ⟨trivial, ⟨(fun H _ env rest next => AS.extract rfl rfl rfl rfl rfl next), ⟨trivial, ⟨trivial, ⟨trivial, ⟨trivial, ⟨trivial, ⟨trivial, ⟨trivial, ⟨trivial, trivial⟩⟩⟩⟩⟩⟩⟩⟩⟩⟩ ?_
      refine SA.rdA 11 [23] rfl (fun H env rest next => AS.assign rfl rfl rfl rfl next) ?_
      refine SA.done rfl rfl rfl ?_
      refine AS.seq ?_
      refine AS.region rfl ?_
      refine AS.move rfl rfl rfl rfl ?_
      refine AS.not rfl rfl rfl rfl rfl ?_
      refine AS.opsEnd ?_
      refine AS.condT rfl ?_
      refine AS.seq ?_
      refine AS.region rfl ?_
      refine AS.assign rfl rfl rfl rfl ?_
      refine AS.assign rfl rfl rfl rfl ?_
      refine AS.opsEnd ?_
      refine AS.retW Try.func28 rfl (.tmp rfl (.tmp rfl (.nil))) ?_
      exact RWk.drop [_, _] rfl (.inr (.inl ⟨hc0, rfl, rfl, rfl⟩))
    · refine SA.startG TT16.mixed rfl ?_
      refine SA.rdG 0 [0] rfl (fun G env rest next => AS.move rfl rfl rfl rfl next) ?_
      refine SA.rdG 1 [16] rfl (fun G env rest next => AS.nilCheck rfl rfl rfl rfl rfl next) ?_
      refine SA.rdG 2 [17] rfl (fun G env rest next => AS.fieldAddr rfl rfl rfl rfl TT16.fl106_0 next) ?_
      refine SA.rdG 3 [18] rfl (fun G env rest next => AS.load rfl rfl rfl rfl TT16.ty104 rfl rfl rfl next) ?_
      refine SA.rdG 4 [3] rfl (fun G env rest next => AS.load (y := encKey k) rfl rfl rfl rfl TT16.ty35 rfl rfl rfl next) ?_
      refine SA.rdG 5 [19, 20] rfl (fun G env rest next => AS.lookupZ (m := M) (x := k) (encK := encKey) (encV := encObj) rfl rfl rfl rfl rfl TT16.mp104 keyR TT16.z38 hg rfl next) ?_
      refine SA.rdG 6 [21] rfl (fun G env rest next => AS.move rfl rfl rfl rfl next) ?_
      refine SA.rdG 7 [15] rfl (fun G env rest next => AS.extract rfl rfl rfl rfl rfl next) ?_
      refine SA.rdG 8 [15] rfl (fun G env rest next => AS.extract rfl rfl rfl rfl rfl next) ?_
      refine SA.new 9 [] rfl rfl rfl rfl (fun env rest next => AS.allocZ rfl rfl rfl TT16.z38 rfl next) ?_ ⟨[], rfl⟩
      intro b6
      refine SA.chg 10 [6, 22] rfl rfl rfl rfl (fun env rest next => AS.store rfl rfl rfl rfl rfl rfl TT16.ty38 rfl rfl next) ⟨trivial, ⟨(fun H _ env rest next => AS.extract rfl rfl rfl rfl rfl next), ⟨trivial, ⟨trivial, ⟨trivial, ⟨trivial, ⟨trivial, ⟨trivial, ⟨trivial, ⟨trivial, trivial⟩⟩⟩⟩⟩⟩⟩⟩⟩⟩ ?_
      refine SA.rdA 11 [23] rfl (fun H env rest next => AS.assign rfl rfl rfl rfl next) ?_
      refine SA.done rfl rfl rfl ?_
      refine AS.seq ?_
      refine AS.region rfl ?_
      refine AS.move rfl rfl rfl rfl ?_
      refine AS.not rfl rfl rfl rfl rfl ?_
      refine AS.opsEnd ?_
      refine AS.condF rfl ?_
      refine AS.skip ?_
      refine AS.seq ?_
      refine SA.start1 TT16.mixed rfl ?_
      refine SA.rd 0 [0] rfl (fun env rest next => AS.move rfl rfl rfl rfl next) ?_
      refine SA.rd 1 [26] rfl (fun env rest next => AS.nilCheck rfl rfl rfl rfl rfl next) ?_
      refine SA.rd 2 [27] rfl (fun env rest next => AS.fieldAddr rfl rfl rfl rfl TT16.fl106_0 next) ?_
      refine SA.rd 3 [28] rfl (fun env rest next => AS.load rfl rfl rfl rfl TT16.ty104 rfl rfl rfl next) ?_
      refine SA.rd 4 [3] rfl (fun env rest next => AS.load (y := encKey k) rfl rfl rfl rfl TT16.ty35 rfl rfl rfl next) ?_
      refine SA.chg 5 [29, 30] rfl rfl rfl rfl (fun env rest next => AS.delete (m := M) (x := k) (encK := encKey) (encV := encObj) rfl rfl rfl rfl rfl TT16.mp104 keyR next) ⟨trivial, ⟨trivial, ⟨trivial, ⟨trivial, ⟨trivial, trivial⟩⟩⟩⟩⟩ ?_
      refine SA.done rfl rfl rfl ?_
      refine AS.seq ?_
      refine AS.permH [] (stPerm [_, _] s m v (mdel M k) log tk H) ?_
      dsimp only [stH, List.cons_append, List.nil_append]
      refine AS.region rfl ?_
      refine AS.move rfl rfl rfl rfl ?_
      refine AS.load (y := encKey k) rfl rfl rfl rfl TT16.ty35 rfl rfl rfl ?_
      refine AS.build rfl rfl rfl TT16.b38 rfl rfl ?_
      refine AS.weak 33 (encObj (⟨k, 0, ⟨#[]⟩, false, false, []⟩ : Object)) rfl (AVLe.agg (.cons (.refl _) (.cons (.refl _) (.cons (.refl _) (.cons (.refl _) (.cons (.refl _) (.cons (.refl _) (.cons (.refl _) (.cons (AVLe.tok _ _) .nil))))))))) ?_
      refine AS.call rfl rfl rfl rfl TT16.en70 (written_spec s m v (mdel M k) log tk 1 (⟨k, 0, ⟨#[]⟩, false, false, []⟩ : Object) _ hv htk hl (Nat.zero_le _)) ?_
      rintro _ _ ⟨rfl, tk', h1, rfl⟩
      refine AS.assign rfl rfl rfl rfl ?_
      refine AS.assign rfl rfl rfl rfl ?_
      refine AS.opsEnd ?_
      refine AS.retW Try.func28 rfl (.tmp rfl (.tmp rfl (.nil))) ?_
      exact RWk.permD [_, _] (stPerm [_, _] _ _ _ _ _ _ _).symm (.inr (.inr ⟨hc0, rfl, rfl, tk', h1, rfl⟩))
theorem log_spec (s m : Nat) (v : Int) (M : List (Key × Object)) (log : List Evt) (tk : Tok) (H : AH) (hl : log.length ≤ 1000000) (hch : ∀ e ∈ log, e.objs.length ≤ 1000000 ∧ e.obj.charge.length ≤ 1000000 ∧ ∀ o ∈ e.objs, o.charge.length ≤ 1000000) : ACalls Try.prog [] 26 [.ptr s 0] (stH s m v M log tk H) (fun x H' => x = .slice (log.map encEv) .any ∧ H' = (stH s m v M log tk H)) := by
  unfold stH
  refine ACalls.enter (n := 24) Try.func26 rfl rfl (Nat.le_of_ble_eq_true rfl) ?_
  refine AS.seq ?_
  refine AS.region rfl ?_
  refine AS.assign rfl rfl rfl rfl ?_
  refine AS.opsEnd ?_
  refine AS.seq ?_
  refine AS.seq ?_
  refine AS.region rfl ?_
  refine AS.move rfl rfl rfl rfl ?_
  refine AS.bin rfl rfl rfl rfl rfl (BinR.pnil TT16.u25) ?_
  refine AS.opsEnd ?_
  refine AS.condF rfl ?_
  refine AS.skip ?_
  refine AS.seq ?_
  refine AS.region rfl ?_
  refine AS.assign rfl rfl rfl rfl ?_
  refine AS.opsEnd ?_
  refine AS.seq ?_
  refine AS.seq ?_
  refine AS.region rfl ?_
  refine AS.move rfl rfl rfl rfl ?_
  refine AS.nilCheck rfl rfl rfl rfl rfl ?_
  refine AS.fieldAddr rfl rfl rfl rfl TT16.fl106_2 ?_
  refine AS.load rfl rfl rfl rfl TT16.ty28 rfl rfl rfl ?_
  refine AS.len rfl rfl rfl rfl (by first | exact lenT_sl TT16.u28 | exact lenT_ms TT16.u28 | (rw [TT16.u28]; rfl)) rfl (lenMap _ _) ?_
  refine AS.move rfl rfl rfl rfl ?_
  refine AS.opsEnd ?_
  refine AS.block ?_
  refine AS.loopI (α := Nat × List Evt × Tok) (fun z => z.1 ≤ log.length ∧ z.2.1 = log.take z.1 ∧ z.2.2.grows = true) (fun z => log.length - z.1) (fun z => [(3, .slice (z.2.1.map encEv) z.2.2), (13, .int .i64 z.1)]) [(11, _), (12, _)] (fun z => G z.2.2 (z.2.1.map encEv).length 11 50 ++ (stH s m v M log tk H)) (0, [], .full) ⟨Nat.zero_le _, by simp, rfl⟩ (.cons rfl (.cons rfl (.cons rfl (.cons rfl (.nil))))) rfl (fun z hI l0_ih => ?_)
  obtain ⟨i, out, tk0⟩ := z
  dsimp only [stH] at hI l0_ih ⊢
  refine AS.seq ?_
  refine AS.region rfl ?_
  refine AS.bin rfl rfl rfl rfl rfl (BinR.lss rfl) ?_
  refine AS.opsEnd ?_
  refine AS.seq ?_
  refine AS.cond rfl (fun hc1 => ?_) (fun hc1 => ?_)
  · have hi : i < log.length := by simp only [decide_eq_true_eq] at hc1; omega
    obtain ⟨e, he⟩ := getAt hi
    have hol : out.length = i := by rw [hI.2.1, List.length_take]; omega
    have hce := hch e (List.mem_of_getElem? he)
    refine AS.skip ?_
    refine AS.seq ?_
    refine AS.block ?_
    refine AS.seq ?_
    refine AS.region rfl ?_
    refine AS.indexAddr rfl rfl rfl rfl rfl TT16.sl28 (Int.natCast_nonneg _) (map_get _ _ he) rfl ?_
    refine AS.iload (y := encEv e) rfl rfl rfl rfl TT16.ty50 rfl rfl rfl ?_
    refine AS.allocZ rfl rfl rfl TT16.z50 rfl ?_
    intro b5
    refine AS.store rfl rfl rfl rfl rfl rfl TT16.ty50 rfl rfl ?_
    refine AS.opsEnd ?_
    refine AS.region rfl ?_
    refine AS.move rfl rfl rfl rfl ?_
    refine AS.load (y := encEv e) rfl rfl rfl rfl TT16.ty50 rfl rfl rfl ?_
    refine AS.callP rfl rfl rfl rfl TT16.en68 (evown_spec e _ hce.1 hce.2.1 hce.2.2) ?_
    refine AS.buildSlice1 rfl rfl rfl TT16.sl28 rfl rfl rfl ?_
    refine AS.append1 (enc := encEv) (a := e) rfl rfl rfl rfl rfl TT16.sl28 hI.2.2 rfl encEv_sz encEv_flat (by omega) ?_
    intro tk1 h1
    refine AS.assign rfl rfl rfl rfl ?_
    refine AS.opsEnd ?_
    refine AS.dropH (G _ _ _ _) [_] rfl ?_
    refine AS.inBlock ?_
    refine AS.region rfl ?_
    refine AS.bin rfl rfl rfl rfl rfl (BinR.add (w64 (by omega) (by omega))) ?_
    refine AS.move rfl rfl rfl rfl ?_
    refine AS.opsEnd ?_
    exact AS.nextI (l0_ih (i + 1, out ++ [e], tk1) ⟨hi, by dsimp only; rw [hI.2.1, List.take_add_one, he]; rfl, h1⟩ (by dsimp only; omega)) [] (.cons rfl (.cons rfl (.cons rfl (.cons rfl (.nil))))) rfl
  · have hfin : out = log := by rw [hI.2.1, List.take_of_length_le (by simp only [decide_eq_false_iff_not] at hc1; omega)]
    subst hfin
    refine AS.loose 3 rfl ?_
    refine AS.dropF (G _ _ _ _) rfl ?_
    refine AS.exit rfl ?_
    refine AS.seq ?_
    refine AS.region rfl ?_
    refine AS.move rfl rfl rfl rfl ?_
    refine AS.assign rfl rfl rfl rfl ?_
    refine AS.opsEnd ?_
    refine AS.retW Try.func26 rfl (.tmp rfl (.nil)) ?_
    exact RWk.drop [] rfl ⟨rfl, rfl⟩
end Go.Proofs.Ytncecheccihjoaa
/- T17 -/
namespace Go.Proofs.Ytncecheccihjoaa.TT17
open Go Go.Proofs.Fw Go.Shelf
theorem b38 : bldI Go.Proofs.Try.prog 38 = some ([(.str ⟨#[]⟩), (.str ⟨#[]⟩), (.str ⟨#[]⟩), (.int .i64 0), (.str ⟨#[]⟩), (.bool false), (.bool false), (.slice [] .full)], [(0, 3), (3, 1), (4, 1), (5, 1), (6, 1), (7, 1)]) := by kernel_rfl
theorem b50 : bldI Go.Proofs.Try.prog 50 = some ([(.int .i64 0), (.str ⟨#[]⟩), (.str ⟨#[]⟩), (.str ⟨#[]⟩), (.int .i64 0), (.str ⟨#[]⟩), (.bool false), (.bool false), (.slice [] .full), (.int .i64 0), (.slice [] .full)], [(0, 1), (1, 8), (9, 1), (10, 1)]) := by kernel_rfl
theorem en100 : Enters Go.Proofs.Try.prog 100 := enters_of Go.Proofs.Try.func100 (by kernel_rfl) rfl
theorem en101 : Enters Go.Proofs.Try.prog 101 := enters_of Go.Proofs.Try.func101 (by kernel_rfl) rfl
theorem en102 : Enters Go.Proofs.Try.prog 102 := enters_of Go.Proofs.Try.func102 (by kernel_rfl) rfl
theorem en126 : Enters Go.Proofs.Try.prog 126 := enters_of Go.Proofs.Try.func126 (by kernel_rfl) rfl
theorem en133 : Enters Go.Proofs.Try.prog 133 := enters_of Go.Proofs.Try.func133 (by kernel_rfl) rfl
theorem en146 : Enters Go.Proofs.Try.prog 146 := enters_of Go.Proofs.Try.func146 (by kernel_rfl) rfl
theorem en147 : Enters Go.Proofs.Try.prog 147 := enters_of Go.Proofs.Try.func147 (by kernel_rfl) rfl
theorem en166 : Enters Go.Proofs.Try.prog 166 := enters_of Go.Proofs.Try.func166 (by kernel_rfl) rfl
theorem en175 : Enters Go.Proofs.Try.prog 175 := enters_of Go.Proofs.Try.func175 (by kernel_rfl) rfl
theorem en20 : Enters Go.Proofs.Try.prog 20 := enters_of Go.Proofs.Try.func20 (by kernel_rfl) rfl
theorem en21 : Enters Go.Proofs.Try.prog 21 := enters_of Go.Proofs.Try.func21 (by kernel_rfl) rfl
theorem en52 : Enters Go.Proofs.Try.prog 52 := enters_of Go.Proofs.Try.func52 (by kernel_rfl) rfl
theorem en61 : Enters Go.Proofs.Try.prog 61 := enters_of Go.Proofs.Try.func61 (by kernel_rfl) rfl
theorem en66 : Enters Go.Proofs.Try.prog 66 := enters_of Go.Proofs.Try.func66 (by kernel_rfl) rfl
theorem en68 : Enters Go.Proofs.Try.prog 68 := enters_of Go.Proofs.Try.func68 (by kernel_rfl) rfl
theorem en69 : Enters Go.Proofs.Try.prog 69 := enters_of Go.Proofs.Try.func69 (by kernel_rfl) rfl
theorem en70 : Enters Go.Proofs.Try.prog 70 := enters_of Go.Proofs.Try.func70 (by kernel_rfl) rfl
theorem en71 : Enters Go.Proofs.Try.prog 71 := enters_of Go.Proofs.Try.func71 (by kernel_rfl) rfl
theorem fl106_0 : fldI Go.Proofs.Try.prog 106 0 = some 0 := by kernel_rfl
theorem fl106_1 : fldI Go.Proofs.Try.prog 106 1 = some 1 := by kernel_rfl
theorem fl106_2 : fldI Go.Proofs.Try.prog 106 2 = some 2 := by kernel_rfl
theorem fl38_0 : fldI Go.Proofs.Try.prog 38 0 = some 0 := by kernel_rfl
theorem fl38_1 : fldI Go.Proofs.Try.prog 38 1 = some 3 := by kernel_rfl
theorem fl38_5 : fldI Go.Proofs.Try.prog 38 5 = some 7 := by kernel_rfl
theorem fl50_0 : fldI Go.Proofs.Try.prog 50 0 = some 0 := by kernel_rfl
theorem fl50_1 : fldI Go.Proofs.Try.prog 50 1 = some 1 := by kernel_rfl
theorem fl50_2 : fldI Go.Proofs.Try.prog 50 2 = some 9 := by kernel_rfl
theorem fl50_3 : fldI Go.Proofs.Try.prog 50 3 = some 10 := by kernel_rfl
theorem mixed : Go.Proofs.Try.prog.follows .mixedOrders = true := by kernel_rfl
theorem mp104 : mapI Go.Proofs.Try.prog 104 = some (35, 38) := by kernel_rfl
theorem ps35 : plainS Go.Proofs.Try.prog 35 = true := by kernel_rfl
theorem sl28 : sliI Go.Proofs.Try.prog 28 = some (50, 11, 144) := by kernel_rfl
theorem sl36 : sliI Go.Proofs.Try.prog 36 = some (116, 2, 24) := by kernel_rfl
theorem sl48 : sliI Go.Proofs.Try.prog 48 = some (38, 8, 104) := by kernel_rfl
theorem ty104 : tyI Go.Proofs.Try.prog 104 = some (1, false) := by kernel_rfl
theorem ty2 : tyI Go.Proofs.Try.prog 2 = some (1, false) := by kernel_rfl
theorem ty28 : tyI Go.Proofs.Try.prog 28 = some (1, false) := by kernel_rfl
theorem ty35 : tyI Go.Proofs.Try.prog 35 = some (3, true) := by kernel_rfl
theorem ty36 : tyI Go.Proofs.Try.prog 36 = some (1, false) := by kernel_rfl
theorem ty38 : tyI Go.Proofs.Try.prog 38 = some (8, true) := by kernel_rfl
theorem ty47 : tyI Go.Proofs.Try.prog 47 = some (1, false) := by kernel_rfl
theorem ty48 : tyI Go.Proofs.Try.prog 48 = some (1, false) := by kernel_rfl
theorem ty50 : tyI Go.Proofs.Try.prog 50 = some (11, true) := by kernel_rfl
theorem u180 : Go.Proofs.Try.prog.underlying 180 = some (.int .u64) := by kernel_rfl
theorem u25 : Go.Proofs.Try.prog.underlying 25 = some (.pointer 106) := by kernel_rfl
theorem u28 : Go.Proofs.Try.prog.underlying 28 = some (.slice 50) := by kernel_rfl
theorem u3 : Go.Proofs.Try.prog.underlying 3 = some (.int .i64) := by kernel_rfl
theorem u35 : Go.Proofs.Try.prog.underlying 35 = some (.struct #[⟨"Kind", 9, 0, false, "", "", 0⟩, ⟨"Space", 9, 1, false, "", "", 16⟩, ⟨"Name", 9, 2, false, "", "", 32⟩]) := by kernel_rfl
theorem u36 : Go.Proofs.Try.prog.underlying 36 = some (.slice 116) := by kernel_rfl
theorem u48 : Go.Proofs.Try.prog.underlying 48 = some (.slice 38) := by kernel_rfl
theorem u50 : Go.Proofs.Try.prog.underlying 50 = some (.struct #[⟨"Kind", 47, 0, false, "", "", 0⟩, ⟨"Object", 38, 1, false, "", "", 8⟩, ⟨"Version", 2, 9, false, "", "", 112⟩, ⟨"Objects", 48, 10, false, "", "", 120⟩]) := by kernel_rfl
theorem z116 : zI Go.Proofs.Try.prog 116 = some (.agg #[(.string ⟨#[]⟩), (.int .i64 0)]) := by kernel_rfl
theorem z38 : zI Go.Proofs.Try.prog 38 = some (.agg #[(.string ⟨#[]⟩), (.string ⟨#[]⟩), (.string ⟨#[]⟩), (.int .i64 0), (.string ⟨#[]⟩), (.bool false), (.bool false), (.slice none 0 0)]) := by kernel_rfl
theorem z50 : zI Go.Proofs.Try.prog 50 = some (.agg #[(.int .i64 0), (.string ⟨#[]⟩), (.string ⟨#[]⟩), (.string ⟨#[]⟩), (.int .i64 0), (.string ⟨#[]⟩), (.bool false), (.bool false), (.slice none 0 0), (.int .i64 0), (.slice none 0 0)]) := by kernel_rfl
end Go.Proofs.Ytncecheccihjoaa.TT17
namespace Go.Proofs.Ytncecheccihjoaa
open Go Go.Proofs.Fw Go.Proofs
set_option linter.unusedVariables false
set_option linter.unusedSimpArgs false
set_option maxRecDepth 20000
set_option maxHeartbeats 4000000
def valsOf (M : List (Key × Object)) : List Object := M.map (·.2)

theorem snapshot_spec (s m : Nat) (v : Int) (M : List (Key × Object)) (log : List Evt) (tk : Tok) (H : AH) (hl : M.length ≤ 1000000) (hk : ∀ o ∈ valsOf M, keyFits o.key) (ha : Apart (valsOf M)) (hch : ∀ o ∈ valsOf M, o.charge.length ≤ 1000000) : ACalls Try.prog [] 22 [.ptr s 0] (stH s m v M log tk H) (fun x H' => x = encEv (⟨2, noObj, v, sortO (valsOf M)⟩ : Evt) ∧ H' = (stH s m v M log tk H)) := by
  unfold stH
  refine ACalls.enter (n := 29) Try.func22 rfl rfl (Nat.le_of_ble_eq_true rfl) ?_
  refine AS.seq ?_
  refine AS.region rfl ?_
  refine AS.allocZ rfl rfl rfl TT17.z50 rfl ?_
  intro b2
  refine AS.opsEnd ?_
  refine AS.seq ?_
  refine AS.seq ?_
  refine AS.region rfl ?_
  refine AS.move rfl rfl rfl rfl ?_
  refine AS.bin rfl rfl rfl rfl rfl (BinR.pnil TT17.u25) ?_
  refine AS.opsEnd ?_
  refine AS.condF rfl ?_
  refine AS.skip ?_
  refine AS.seq ?_
  refine AS.region rfl ?_
  refine AS.assign rfl rfl rfl rfl ?_
  refine AS.opsEnd ?_
  refine AS.seq ?_
  refine AS.seq ?_
  refine AS.region rfl ?_
  refine AS.move rfl rfl rfl rfl ?_
  refine AS.nilCheck rfl rfl rfl rfl rfl ?_
  refine AS.fieldAddr rfl rfl rfl rfl TT17.fl106_0 ?_
  refine AS.load rfl rfl rfl rfl TT17.ty104 rfl rfl rfl ?_
  refine AS.rangeMap (m := M) (encK := encKey) (encV := encObj) rfl rfl rfl rfl TT17.mp104 (fun sm c => (b2, _) :: (s, .row [.map m, .int .i64 v, .slice (log.map encEv) tk] 106) :: (m, .mapB (mapSt encKey encObj sm) c) :: (G tk (log.map encEv).length 11 50 ++ H)) ?_
  intro it sm c hsm hnd
  refine AS.opsEnd ?_
  refine AS.block ?_
  refine AS.loopI (α := List (Nat × Key × Object) × Tok) (fun z => (z.1 ++ left sm (z.1.map (·.1))).Perm sm ∧ z.2.grows = true) (fun z => (left sm (z.1.map (·.1))).length) (fun z => [(3, .slice ((z.1.map fun e => e.2.2).map encObj) z.2)]) [(0, _), (2, _), (13, _)] (fun z => (it, .miter m c (z.1.map (·.1))) :: (b2, _) :: (s, .row [.map m, .int .i64 v, .slice (log.map encEv) tk] 106) :: (m, .mapB (mapSt encKey encObj sm) c) :: (G z.2 ((z.1.map fun e => e.2.2).map encObj).length 8 38 ++ (G tk (log.map encEv).length 11 50 ++ H))) ([], .full) ⟨left_start sm, rfl⟩ (.cons rfl (.cons rfl (.cons rfl (.cons rfl (.nil))))) rfl (fun z hI l0_ih => ?_)
  obtain ⟨vis, tk0⟩ := z
  dsimp only at hI l0_ih ⊢
  have hvl : vis.length ≤ M.length := by
    have h1 := hI.1.length_eq
    have h2 := congrArg List.length hsm
    simp only [List.length_append, List.length_map] at h1 h2
    omega
  refine AS.seq ?_
  refine AS.region rfl ?_
  refine AS.nextMap rfl rfl rfl rfl (fun sn => (it, .miter m c sn) :: (b2, _) :: (s, .row [.map m, .int .i64 v, .slice (log.map encEv) tk] 106) :: (m, .mapB (mapSt encKey encObj sm) c) :: (G tk0 ((vis.map fun e => e.2.2).map encObj).length 8 38 ++ (G tk (log.map encEv).length 11 50 ++ H))) (fun hov => ?_) (fun e he => ?_)
  · refine AS.extract rfl rfl rfl rfl rfl ?_
    refine AS.opsEnd ?_
    refine AS.seq ?_
    refine AS.condF rfl ?_
    have hpm : (vis.map fun e => e.2.2).Perm (valsOf M) := by
      have h1 := left_nil hI.1 hov
      have h2 := (h1.map (fun e => e.2)).map (fun p => p.2)
      rw [hsm] at h2
      rw [List.map_map] at h2
      exact h2
    have hso : sortO (vis.map fun e => e.2.2) = sortO (valsOf M) := one_order ((sortO_perm _).trans (hpm.trans (sortO_perm _).symm)) (sortO_sorted _) (sortO_sorted _) (fun x hx y hy => ha x (hpm.mem_iff.1 (mem_sortO hx)) y (hpm.mem_iff.1 (mem_sortO hy)))
    refine AS.loose 3 rfl ?_
    refine AS.dropH [_, _, _, _] (G _ _ _ _) rfl ?_
    refine AS.dropF [_] rfl ?_
    dsimp only [List.append_eq, List.cons_append, List.nil_append]
    refine AS.closeMap (b := m) (m := M) (encK := encKey) (encV := encObj) hsm ?_
    refine AS.exit rfl ?_
    refine AS.seq ?_
    refine SA.start1 TT17.mixed rfl ?_
    refine SA.rd 0 [0] rfl (fun env rest next => AS.move rfl rfl rfl rfl next) ?_
    refine SA.rd 1 [22] rfl (fun env rest next => AS.nilCheck rfl rfl rfl rfl rfl next) ?_
    refine SA.rd 2 [23] rfl (fun env rest next => AS.fieldAddr rfl rfl rfl rfl TT17.fl106_1 next) ?_
    refine SA.rd 3 [24] rfl (fun env rest next => AS.load rfl rfl rfl rfl TT17.ty2 rfl rfl rfl next) ?_
    refine SA.rd 4 [3] rfl (fun env rest next => AS.move rfl rfl rfl rfl next) ?_
    refine SA.rd 5 [26] rfl (fun env rest next => AS.callP rfl rfl rfl rfl TT17.en61 (sorted_spec (vis.map fun e => e.2.2) _ (by rw [List.length_map]; omega) (fun o ho => hk o (hpm.mem_iff.1 ho)) (fun x hx y hy => ha x (hpm.mem_iff.1 hx) y (hpm.mem_iff.1 hy)) (fun o ho => hch o (hpm.mem_iff.1 ho))) next) ?_
    refine SA.rd 6 [25, 27] rfl (fun env rest next => AS.build rfl rfl rfl TT17.b50 rfl rfl next) ?_
    refine SA.chg 7 [2, 28] rfl rfl rfl rfl (fun env rest next => AS.store rfl rfl rfl rfl rfl rfl TT17.ty50 rfl rfl next) ⟨trivial, ⟨trivial, ⟨trivial, ⟨trivial, ⟨trivial, ⟨trivial, ⟨trivial, trivial⟩⟩⟩⟩⟩⟩⟩ ?_
    refine SA.done rfl rfl rfl ?_
    refine AS.retW Try.func22 rfl (.cell rfl TT17.ty50 rfl rfl rfl (.nil)) ?_
    rw [← hso]
    refine ⟨_, _, (Wk.le (AVLe.agg (.cons (.refl _) (.cons (.refl _) (.cons (.refl _) (.cons (.refl _) (.cons (.refl _) (.cons (.refl _) (.cons (.refl _) (.cons (.refl _) (.cons (AVLe.tok _ _) (.cons (.refl _) (.cons (.refl _) .nil))))))))))))).trans (Wk.dropL [_]), rfl, rfl⟩
  · refine AS.extract rfl rfl rfl rfl rfl ?_
    refine AS.opsEnd ?_
    refine AS.seq ?_
    refine AS.condT rfl ?_
    refine AS.skip ?_
    refine AS.block ?_
    refine AS.seq ?_
    refine AS.region rfl ?_
    refine AS.entryMap (encK := encKey) (encV := encObj) (sm := sm) (e := e) rfl rfl rfl rfl (List.mem_filter.1 he).1 ?_
    refine AS.extract rfl rfl rfl rfl rfl ?_
    refine AS.allocZ rfl rfl rfl TT17.z38 rfl ?_
    intro b5
    refine AS.store rfl rfl rfl rfl rfl rfl TT17.ty38 rfl rfl ?_
    refine AS.opsEnd ?_
    refine AS.region rfl ?_
    refine AS.move rfl rfl rfl rfl ?_
    refine AS.load (y := encObj e.2.2) rfl rfl rfl rfl TT17.ty38 rfl rfl rfl ?_
    refine AS.buildSlice1 rfl rfl rfl TT17.sl48 rfl rfl rfl ?_
    refine AS.append1 (a := e.2.2) rfl rfl rfl rfl rfl TT17.sl48 hI.2 rfl encObj_sz encObj_flat (by rw [List.length_map]; omega) ?_
    intro tk1 h1
    refine AS.assign rfl rfl rfl rfl ?_
    refine AS.opsEnd ?_
    refine AS.permH [_] (List.perm_append_comm_assoc _ [_, _, _, _, _] _) ?_
    have em1 : (vis.map fun e => e.2.2) ++ [e.2.2] = (vis ++ [e]).map (fun e => e.2.2) := by simp
    have em2 : vis.map (fun x => x.1) ++ [e.1] = (vis ++ [e]).map (fun x => x.1) := by simp
    rw [em1, em2]
    refine AS.inBlock ?_
    exact AS.nextI (l0_ih (vis ++ [e], tk1) ⟨(left_step hnd hI.1 he).1, h1⟩ ((left_step hnd hI.1 he).2)) [] (.cons rfl (.cons rfl (.cons rfl (.cons rfl (.nil))))) rfl
end Go.Proofs.Ytncecheccihjoaa
/- T18 -/
namespace Go.Proofs.Ytncecheccihjoaa.TT18
open Go Go.Proofs.Fw Go.Shelf
theorem b38 : bldI Go.Proofs.Try.prog 38 = some ([(.str ⟨#[]⟩), (.str ⟨#[]⟩), (.str ⟨#[]⟩), (.int .i64 0), (.str ⟨#[]⟩), (.bool false), (.bool false), (.slice [] .full)], [(0, 3), (3, 1), (4, 1), (5, 1), (6, 1), (7, 1)]) := by kernel_rfl
theorem b50 : bldI Go.Proofs.Try.prog 50 = some ([(.int .i64 0), (.str ⟨#[]⟩), (.str ⟨#[]⟩), (.str ⟨#[]⟩), (.int .i64 0), (.str ⟨#[]⟩), (.bool false), (.bool false), (.slice [] .full), (.int .i64 0), (.slice [] .full)], [(0, 1), (1, 8), (9, 1), (10, 1)]) := by kernel_rfl
theorem en100 : Enters Go.Proofs.Try.prog 100 := enters_of Go.Proofs.Try.func100 (by kernel_rfl) rfl
theorem en101 : Enters Go.Proofs.Try.prog 101 := enters_of Go.Proofs.Try.func101 (by kernel_rfl) rfl
theorem en102 : Enters Go.Proofs.Try.prog 102 := enters_of Go.Proofs.Try.func102 (by kernel_rfl) rfl
theorem en103 : Enters Go.Proofs.Try.prog 103 := enters_of Go.Proofs.Try.func103 (by kernel_rfl) rfl
theorem en126 : Enters Go.Proofs.Try.prog 126 := enters_of Go.Proofs.Try.func126 (by kernel_rfl) rfl
theorem en133 : Enters Go.Proofs.Try.prog 133 := enters_of Go.Proofs.Try.func133 (by kernel_rfl) rfl
theorem en146 : Enters Go.Proofs.Try.prog 146 := enters_of Go.Proofs.Try.func146 (by kernel_rfl) rfl
theorem en147 : Enters Go.Proofs.Try.prog 147 := enters_of Go.Proofs.Try.func147 (by kernel_rfl) rfl
theorem en166 : Enters Go.Proofs.Try.prog 166 := enters_of Go.Proofs.Try.func166 (by kernel_rfl) rfl
theorem en175 : Enters Go.Proofs.Try.prog 175 := enters_of Go.Proofs.Try.func175 (by kernel_rfl) rfl
theorem en20 : Enters Go.Proofs.Try.prog 20 := enters_of Go.Proofs.Try.func20 (by kernel_rfl) rfl
theorem en21 : Enters Go.Proofs.Try.prog 21 := enters_of Go.Proofs.Try.func21 (by kernel_rfl) rfl
theorem en52 : Enters Go.Proofs.Try.prog 52 := enters_of Go.Proofs.Try.func52 (by kernel_rfl) rfl
theorem en61 : Enters Go.Proofs.Try.prog 61 := enters_of Go.Proofs.Try.func61 (by kernel_rfl) rfl
theorem en66 : Enters Go.Proofs.Try.prog 66 := enters_of Go.Proofs.Try.func66 (by kernel_rfl) rfl
theorem en68 : Enters Go.Proofs.Try.prog 68 := enters_of Go.Proofs.Try.func68 (by kernel_rfl) rfl
theorem en69 : Enters Go.Proofs.Try.prog 69 := enters_of Go.Proofs.Try.func69 (by kernel_rfl) rfl
theorem en70 : Enters Go.Proofs.Try.prog 70 := enters_of Go.Proofs.Try.func70 (by kernel_rfl) rfl
theorem en71 : Enters Go.Proofs.Try.prog 71 := enters_of Go.Proofs.Try.func71 (by kernel_rfl) rfl
theorem fl106_0 : fldI Go.Proofs.Try.prog 106 0 = some 0 := by kernel_rfl
theorem fl106_1 : fldI Go.Proofs.Try.prog 106 1 = some 1 := by kernel_rfl
theorem fl106_2 : fldI Go.Proofs.Try.prog 106 2 = some 2 := by kernel_rfl
theorem fl30_0 : fldI Go.Proofs.Try.prog 30 0 = some 0 := by kernel_rfl
theorem fl38_0 : fldI Go.Proofs.Try.prog 38 0 = some 0 := by kernel_rfl
theorem fl38_1 : fldI Go.Proofs.Try.prog 38 1 = some 3 := by kernel_rfl
theorem fl38_5 : fldI Go.Proofs.Try.prog 38 5 = some 7 := by kernel_rfl
theorem fl50_0 : fldI Go.Proofs.Try.prog 50 0 = some 0 := by kernel_rfl
theorem fl50_1 : fldI Go.Proofs.Try.prog 50 1 = some 1 := by kernel_rfl
theorem fl50_2 : fldI Go.Proofs.Try.prog 50 2 = some 9 := by kernel_rfl
theorem fl50_3 : fldI Go.Proofs.Try.prog 50 3 = some 10 := by kernel_rfl
theorem mixed : Go.Proofs.Try.prog.follows .mixedOrders = true := by kernel_rfl
theorem mp104 : mapI Go.Proofs.Try.prog 104 = some (35, 38) := by kernel_rfl
theorem ps35 : plainS Go.Proofs.Try.prog 35 = true := by kernel_rfl
theorem sl28 : sliI Go.Proofs.Try.prog 28 = some (50, 11, 144) := by kernel_rfl
theorem sl36 : sliI Go.Proofs.Try.prog 36 = some (116, 2, 24) := by kernel_rfl
theorem sl48 : sliI Go.Proofs.Try.prog 48 = some (38, 8, 104) := by kernel_rfl
theorem ty104 : tyI Go.Proofs.Try.prog 104 = some (1, false) := by kernel_rfl
theorem ty2 : tyI Go.Proofs.Try.prog 2 = some (1, false) := by kernel_rfl
theorem ty28 : tyI Go.Proofs.Try.prog 28 = some (1, false) := by kernel_rfl
theorem ty35 : tyI Go.Proofs.Try.prog 35 = some (3, true) := by kernel_rfl
theorem ty36 : tyI Go.Proofs.Try.prog 36 = some (1, false) := by kernel_rfl
theorem ty38 : tyI Go.Proofs.Try.prog 38 = some (8, true) := by kernel_rfl
theorem ty47 : tyI Go.Proofs.Try.prog 47 = some (1, false) := by kernel_rfl
theorem ty48 : tyI Go.Proofs.Try.prog 48 = some (1, false) := by kernel_rfl
theorem ty50 : tyI Go.Proofs.Try.prog 50 = some (11, true) := by kernel_rfl
theorem u180 : Go.Proofs.Try.prog.underlying 180 = some (.int .u64) := by kernel_rfl
theorem u25 : Go.Proofs.Try.prog.underlying 25 = some (.pointer 106) := by kernel_rfl
theorem u28 : Go.Proofs.Try.prog.underlying 28 = some (.slice 50) := by kernel_rfl
theorem u3 : Go.Proofs.Try.prog.underlying 3 = some (.int .i64) := by kernel_rfl
theorem u35 : Go.Proofs.Try.prog.underlying 35 = some (.struct #[⟨"Kind", 9, 0, false, "", "", 0⟩, ⟨"Space", 9, 1, false, "", "", 16⟩, ⟨"Name", 9, 2, false, "", "", 32⟩]) := by kernel_rfl
theorem u36 : Go.Proofs.Try.prog.underlying 36 = some (.slice 116) := by kernel_rfl
theorem u48 : Go.Proofs.Try.prog.underlying 48 = some (.slice 38) := by kernel_rfl
theorem u50 : Go.Proofs.Try.prog.underlying 50 = some (.struct #[⟨"Kind", 47, 0, false, "", "", 0⟩, ⟨"Object", 38, 1, false, "", "", 8⟩, ⟨"Version", 2, 9, false, "", "", 112⟩, ⟨"Objects", 48, 10, false, "", "", 120⟩]) := by kernel_rfl
theorem z116 : zI Go.Proofs.Try.prog 116 = some (.agg #[(.string ⟨#[]⟩), (.int .i64 0)]) := by kernel_rfl
theorem z38 : zI Go.Proofs.Try.prog 38 = some (.agg #[(.string ⟨#[]⟩), (.string ⟨#[]⟩), (.string ⟨#[]⟩), (.int .i64 0), (.string ⟨#[]⟩), (.bool false), (.bool false), (.slice none 0 0)]) := by kernel_rfl
theorem z50 : zI Go.Proofs.Try.prog 50 = some (.agg #[(.int .i64 0), (.string ⟨#[]⟩), (.string ⟨#[]⟩), (.string ⟨#[]⟩), (.int .i64 0), (.string ⟨#[]⟩), (.bool false), (.bool false), (.slice none 0 0), (.int .i64 0), (.slice none 0 0)]) := by kernel_rfl
end Go.Proofs.Ytncecheccihjoaa.TT18
namespace Go.Proofs.Ytncecheccihjoaa
open Go Go.Proofs.Fw Go.Proofs
set_option linter.unusedVariables false
set_option linter.unusedSimpArgs false
set_option maxRecDepth 20000
set_option maxHeartbeats 4000000
theorem refObjects_spec (r : Nat) (L : List Evt) (tk : Tok) (H : AH) (hl : L.length ≤ 1000000) (hk : ∀ e ∈ L, keyFits e.obj.key) : ACalls Try.prog [] 65 [.ptr r 0] ((r, .row [.slice (L.map encEv) tk] 30) :: H) (fun x H' => x = .slice ((sortO (objsOf L)).map encObj) .any ∧ H' = ((r, .row [.slice (L.map encEv) tk] 30) :: H)) := by
  refine ACalls.enter (n := 74) Try.func65 rfl rfl (Nat.le_of_ble_eq_true rfl) ?_
  refine AS.seq ?_
  refine AS.region rfl ?_
  refine AS.assign rfl rfl rfl rfl ?_
  refine AS.opsEnd ?_
  refine AS.seq ?_
  refine AS.region rfl ?_
  refine AS.assign rfl rfl rfl rfl ?_
  refine AS.opsEnd ?_
  refine AS.seq ?_
  refine AS.seq ?_
  refine AS.region rfl ?_
  refine AS.assign rfl rfl rfl rfl ?_
  refine AS.opsEnd ?_
  refine AS.block ?_
  refine AS.loopI (α := Nat × List Object × Tok) (fun z => z.1 ≤ L.length ∧ z.2.1 ++ objsOf (L.drop z.1) = objsOf L ∧ z.2.2.grows = true) (fun z => L.length - z.1) (fun z => [(3, .slice (z.2.1.map encObj) z.2.2), (4, .int .i64 z.1)]) [(0, _)] (fun z => (r, .row [.slice (L.map encEv) tk] 30) :: (G z.2.2 (z.2.1.map encObj).length 8 38 ++ H)) (0, [], .full) ⟨Nat.zero_le _, rfl, rfl⟩ (.cons rfl (.cons rfl (.cons rfl (.nil)))) rfl (fun z hI l0_ih => ?_)
  obtain ⟨i, out, tk0⟩ := z
  dsimp only at hI l0_ih ⊢
  have hol : out.length ≤ L.length := by
    have h1 := congrArg List.length hI.2.1
    have h2 := objs_len L
    rw [List.length_append] at h1
    omega
  refine AS.seq ?_
  refine AS.seq ?_
  refine AS.region rfl ?_
  refine AS.move rfl rfl rfl rfl ?_
  refine AS.move rfl rfl rfl rfl ?_
  refine AS.nilCheck rfl rfl rfl rfl rfl ?_
  refine AS.fieldAddr rfl rfl rfl rfl TT18.fl30_0 ?_
  refine AS.load rfl rfl rfl rfl TT18.ty28 rfl rfl rfl ?_
  refine AS.len rfl rfl rfl rfl (by first | exact lenT_sl TT18.u28 | exact lenT_ms TT18.u28 | (rw [TT18.u28]; rfl)) rfl (lenMap _ _) ?_
  refine AS.bin rfl rfl rfl rfl rfl (BinR.lss rfl) ?_
  refine AS.opsEnd ?_
  refine AS.cond rfl (fun hc0 => ?_) (fun hc0 => ?_)
  · have hi : i < L.length := by simp only [decide_eq_true_eq] at hc0; omega
    obtain ⟨e, he⟩ := getAt hi
    have hst := objs_step hI.2.1 he
    have hal : (if (L.drop (i + 1)).all (apartE e) && decide (e.kind = 0) then out ++ [e.obj] else out).length ≤ L.length := by
      have h1 := congrArg List.length hst
      have h2 := objs_len L
      rw [List.length_append] at h1
      omega
    refine AS.skip ?_
    refine AS.seq ?_
    refine AS.block ?_
    refine AS.seq ?_
    refine AS.region rfl ?_
    refine AS.assign rfl rfl rfl rfl ?_
    refine AS.opsEnd ?_
    refine AS.seq ?_
    refine AS.seq ?_
    refine AS.region rfl ?_
    refine AS.move rfl rfl rfl rfl ?_
    refine AS.bin rfl rfl rfl rfl rfl (BinR.add (w64 (by omega) (by omega))) ?_
    refine AS.assign rfl rfl rfl rfl ?_
    refine AS.opsEnd ?_
    refine AS.block ?_
    refine AS.loopI (α := Nat × Bool) (fun z => i < z.1 ∧ z.1 ≤ L.length ∧ (z.2 && (L.drop z.1).all (apartE e)) = (L.drop (i + 1)).all (apartE e)) (fun z => L.length - z.1) (fun z => [(5, .bool z.2), (6, .int .i64 z.1)]) [(0, _), (3, _), (4, _)] (fun z => (r, .row [.slice (L.map encEv) tk] 30) :: (G tk0 (out.map encObj).length 8 38 ++ H)) (i + 1, true) ⟨Nat.lt_succ_self _, hi, rfl⟩ (.cons rfl (.cons rfl (.cons rfl (.cons rfl (.cons rfl (.nil)))))) rfl (fun z hJ l1_ih => ?_)
    obtain ⟨k, la⟩ := z
    dsimp only at hJ l1_ih ⊢
    obtain ⟨j1, j2, j3⟩ := hJ
    refine AS.seq ?_
    refine AS.seq ?_
    refine AS.region rfl ?_
    refine AS.move rfl rfl rfl rfl ?_
    refine AS.move rfl rfl rfl rfl ?_
    refine AS.nilCheck rfl rfl rfl rfl rfl ?_
    refine AS.fieldAddr rfl rfl rfl rfl TT18.fl30_0 ?_
    refine AS.load rfl rfl rfl rfl TT18.ty28 rfl rfl rfl ?_
    refine AS.len rfl rfl rfl rfl (by first | exact lenT_sl TT18.u28 | exact lenT_ms TT18.u28 | (rw [TT18.u28]; rfl)) rfl (lenMap _ _) ?_
    refine AS.bin rfl rfl rfl rfl rfl (BinR.lss rfl) ?_
    refine AS.opsEnd ?_
    refine AS.cond rfl (fun hc1 => ?_) (fun hc1 => ?_)
    · have hkl : k < L.length := by simp only [decide_eq_true_eq] at hc1; omega
      obtain ⟨f, hf⟩ := getAt hkl
      refine AS.skip ?_
      refine AS.seq ?_
      refine AS.block ?_
      refine SA.start1 TT18.mixed rfl ?_
      refine SA.rd 0 [5] rfl (fun env rest next => AS.move rfl rfl rfl rfl next) ?_
      refine SA.rd 1 [27] rfl (fun env rest next => AS.move rfl rfl rfl rfl next) ?_
      refine SA.splitT (fun g28 => ?_) (fun g28 => ?_)
      · subst g28
        refine SA.rd 2 [0, 28] rfl (fun env rest next => AS.move rfl rfl rfl rfl next) ?_
        refine SA.rd 3 [28, 29] rfl (fun env rest next => AS.nilCheck rfl rfl rfl rfl rfl next) ?_
        refine SA.rd 4 [28, 30] rfl (fun env rest next => AS.fieldAddr rfl rfl rfl rfl TT18.fl30_0 next) ?_
        refine SA.rd 5 [28, 31] rfl (fun env rest next => AS.load rfl rfl rfl rfl TT18.ty28 rfl rfl rfl next) ?_
        refine SA.rd 6 [6, 28] rfl (fun env rest next => AS.move rfl rfl rfl rfl next) ?_
        refine SA.rd 7 [28, 32, 33] rfl (fun env rest next => AS.indexAddr rfl rfl rfl rfl rfl TT18.sl28 (Int.natCast_nonneg _) (map_get _ _ hf) rfl next) ?_
        refine SA.rd 8 [28, 34] rfl (fun env rest next => AS.ifieldAddr rfl rfl rfl rfl TT18.fl50_1 next) ?_
        refine SA.rd 9 [28, 35] rfl (fun env rest next => AS.ifieldAddr rfl rfl rfl rfl TT18.fl38_0 next) ?_
        refine SA.rd 10 [28, 36] rfl (fun env rest next => AS.iload (y := encKey f.obj.key) rfl rfl rfl rfl TT18.ty35 rfl rfl rfl next) ?_
        refine SA.rd 11 [0, 28] rfl (fun env rest next => AS.move rfl rfl rfl rfl next) ?_
        refine SA.rd 12 [28, 38] rfl (fun env rest next => AS.nilCheck rfl rfl rfl rfl rfl next) ?_
        refine SA.rd 13 [28, 39] rfl (fun env rest next => AS.fieldAddr rfl rfl rfl rfl TT18.fl30_0 next) ?_
        refine SA.rd 14 [28, 40] rfl (fun env rest next => AS.load rfl rfl rfl rfl TT18.ty28 rfl rfl rfl next) ?_
        refine SA.rd 15 [4, 28] rfl (fun env rest next => AS.move rfl rfl rfl rfl next) ?_
        refine SA.rd 16 [28, 41, 42] rfl (fun env rest next => AS.indexAddr rfl rfl rfl rfl rfl TT18.sl28 (Int.natCast_nonneg _) (map_get _ _ he) rfl next) ?_
        refine SA.rd 17 [28, 43] rfl (fun env rest next => AS.ifieldAddr rfl rfl rfl rfl TT18.fl50_1 next) ?_
        refine SA.rd 18 [28, 44] rfl (fun env rest next => AS.ifieldAddr rfl rfl rfl rfl TT18.fl38_0 next) ?_
        refine SA.rd 19 [28, 45] rfl (fun env rest next => AS.iload (y := encKey e.obj.key) rfl rfl rfl rfl TT18.ty35 rfl rfl rfl next) ?_
        refine SA.rd 20 [28, 37, 46] rfl (fun env rest next => AS.bin rfl rfl rfl rfl rfl (BinR.stneq TT18.ps35 (by rw [TT18.u35]; rfl) (congrArg not (keyEq _ _))) next) ?_
        refine SA.rd 21 [28, 47] rfl (fun env rest next => AS.pick rfl rfl rfl rfl rfl next) ?_
        refine SA.rd 22 [48] rfl (fun env rest next => AS.assign rfl rfl rfl rfl next) ?_
        refine SA.done rfl rfl rfl ?_
        refine AS.inBlock ?_
        refine AS.region rfl ?_
        refine AS.move rfl rfl rfl rfl ?_
        refine AS.bin rfl rfl rfl rfl rfl (BinR.add (w64 (by omega) (by omega))) ?_
        refine AS.assign rfl rfl rfl rfl ?_
        refine AS.opsEnd ?_
        exact AS.nextI (l1_ih (k + 1, apartE e f) ⟨by dsimp only; omega, hkl, by dsimp only; rw [← j3, drop_at hf]; simp⟩ (by dsimp only; omega)) [] (.cons rfl (.cons rfl (.cons rfl (.cons rfl (.cons rfl (.nil)))))) rfl
      · subst g28
        refine SA.rd 2 [0, 28] rfl (fun env rest next => AS.pass rfl rfl rfl next) ?_
        refine SA.rd 3 [28, 29] rfl (fun env rest next => AS.pass rfl rfl rfl next) ?_
        refine SA.rd 4 [28, 30] rfl (fun env rest next => AS.pass rfl rfl rfl next) ?_
        refine SA.rd 5 [28, 31] rfl (fun env rest next => AS.pass rfl rfl rfl next) ?_
        refine SA.rd 6 [6, 28] rfl (fun env rest next => AS.pass rfl rfl rfl next) ?_
        refine SA.rd 7 [28, 32, 33] rfl (fun env rest next => AS.pass rfl rfl rfl next) ?_
        refine SA.rd 8 [28, 34] rfl (fun env rest next => AS.pass rfl rfl rfl next) ?_
        refine SA.rd 9 [28, 35] rfl (fun env rest next => AS.pass rfl rfl rfl next) ?_
        refine SA.rd 10 [28, 36] rfl (fun env rest next => AS.pass rfl rfl rfl next) ?_
        refine SA.rd 11 [0, 28] rfl (fun env rest next => AS.pass rfl rfl rfl next) ?_
        refine SA.rd 12 [28, 38] rfl (fun env rest next => AS.pass rfl rfl rfl next) ?_
        refine SA.rd 13 [28, 39] rfl (fun env rest next => AS.pass rfl rfl rfl next) ?_
        refine SA.rd 14 [28, 40] rfl (fun env rest next => AS.pass rfl rfl rfl next) ?_
        refine SA.rd 15 [4, 28] rfl (fun env rest next => AS.pass rfl rfl rfl next) ?_
        refine SA.rd 16 [28, 41, 42] rfl (fun env rest next => AS.pass rfl rfl rfl next) ?_
        refine SA.rd 17 [28, 43] rfl (fun env rest next => AS.pass rfl rfl rfl next) ?_
        refine SA.rd 18 [28, 44] rfl (fun env rest next => AS.pass rfl rfl rfl next) ?_
        refine SA.rd 19 [28, 45] rfl (fun env rest next => AS.pass rfl rfl rfl next) ?_
        refine SA.rd 20 [28, 37, 46] rfl (fun env rest next => AS.pass rfl rfl rfl next) ?_
        refine SA.rd 21 [28, 47] rfl (fun env rest next => AS.pick rfl rfl rfl rfl rfl next) ?_
        refine SA.rd 22 [48] rfl (fun env rest next => AS.assign rfl rfl rfl rfl next) ?_
        refine SA.done rfl rfl rfl ?_
        refine AS.inBlock ?_
        refine AS.region rfl ?_
        refine AS.move rfl rfl rfl rfl ?_
        refine AS.bin rfl rfl rfl rfl rfl (BinR.add (w64 (by omega) (by omega))) ?_
        refine AS.assign rfl rfl rfl rfl ?_
        refine AS.opsEnd ?_
        exact AS.nextI (l1_ih (k + 1, false) ⟨by dsimp only; omega, hkl, by dsimp only; rw [← j3]; simp⟩ (by dsimp only; omega)) [] (.cons rfl (.cons rfl (.cons rfl (.cons rfl (.cons rfl (.nil)))))) rfl
    · have hla : la = (L.drop (i + 1)).all (apartE e) := by rw [← j3, List.drop_eq_nil_of_le (by simp only [decide_eq_false_iff_not] at hc1; omega)]; simp
      rw [← hla] at hst hal
      refine AS.exit rfl ?_
      refine AS.seq ?_
      refine AS.region rfl ?_
      refine AS.move rfl rfl rfl rfl ?_
      refine AS.move rfl rfl rfl rfl ?_
      refine AS.splitT 50 rfl (fun g50 => ?_) (fun g50 => ?_)
      · subst g50
        refine AS.move rfl rfl rfl rfl ?_
        refine AS.nilCheck rfl rfl rfl rfl rfl ?_
        refine AS.fieldAddr rfl rfl rfl rfl TT18.fl30_0 ?_
        refine AS.load rfl rfl rfl rfl TT18.ty28 rfl rfl rfl ?_
        refine AS.move rfl rfl rfl rfl ?_
        refine AS.indexAddr rfl rfl rfl rfl rfl TT18.sl28 (Int.natCast_nonneg _) (map_get _ _ he) rfl ?_
        refine AS.ifieldAddr rfl rfl rfl rfl TT18.fl50_0 ?_
        refine AS.iload rfl rfl rfl rfl TT18.ty47 rfl rfl rfl ?_
        refine AS.bin rfl rfl rfl rfl rfl (BinR.eql rfl) ?_
        refine AS.pick rfl rfl rfl rfl rfl ?_
        refine AS.opsEnd ?_
        refine AS.cond rfl (fun hc2 => ?_) (fun hc2 => ?_)
        · rw [hc2] at hst hal
          refine AS.region rfl ?_
          refine AS.move rfl rfl rfl rfl ?_
          refine AS.move rfl rfl rfl rfl ?_
          refine AS.nilCheck rfl rfl rfl rfl rfl ?_
          refine AS.fieldAddr rfl rfl rfl rfl TT18.fl30_0 ?_
          refine AS.load rfl rfl rfl rfl TT18.ty28 rfl rfl rfl ?_
          refine AS.move rfl rfl rfl rfl ?_
          refine AS.indexAddr rfl rfl rfl rfl rfl TT18.sl28 (Int.natCast_nonneg _) (map_get _ _ he) rfl ?_
          refine AS.ifieldAddr rfl rfl rfl rfl TT18.fl50_1 ?_
          refine AS.iload (y := encObj e.obj) rfl rfl rfl rfl TT18.ty38 rfl rfl rfl ?_
          refine AS.buildSlice1 rfl rfl rfl TT18.sl48 rfl rfl rfl ?_
          refine AS.append1 (a := e.obj) rfl rfl rfl rfl rfl TT18.sl48 hI.2.2 rfl encObj_sz encObj_flat (by simp at hal; omega) ?_
          intro tk1 h1
          refine AS.assign rfl rfl rfl rfl ?_
          refine AS.opsEnd ?_
          refine AS.permH [] (List.perm_append_comm_assoc _ [_] _) ?_
          refine AS.inBlock ?_
          refine AS.region rfl ?_
          refine AS.move rfl rfl rfl rfl ?_
          refine AS.bin rfl rfl rfl rfl rfl (BinR.add (w64 (by omega) (by omega))) ?_
          refine AS.assign rfl rfl rfl rfl ?_
          refine AS.opsEnd ?_
          exact AS.nextI (l0_ih (i + 1, out ++ [e.obj], tk1) ⟨hi, by simpa using hst, h1⟩ (by dsimp only; omega)) [] (.cons rfl (.cons rfl (.cons rfl (.nil)))) rfl
        · refine AS.skip ?_
          refine AS.inBlock ?_
          refine AS.region rfl ?_
          refine AS.move rfl rfl rfl rfl ?_
          refine AS.bin rfl rfl rfl rfl rfl (BinR.add (w64 (by omega) (by omega))) ?_
          refine AS.assign rfl rfl rfl rfl ?_
          refine AS.opsEnd ?_
          rw [hc2] at hst
          exact AS.nextI (l0_ih (i + 1, out, tk0) ⟨hi, by simpa using hst, hI.2.2⟩ (by dsimp only; omega)) [] (.cons rfl (.cons rfl (.cons rfl (.nil)))) rfl
      · subst g50
        refine AS.pass rfl rfl rfl ?_
        refine AS.pass rfl rfl rfl ?_
        refine AS.pass rfl rfl rfl ?_
        refine AS.pass rfl rfl rfl ?_
        refine AS.pass rfl rfl rfl ?_
        refine AS.pass rfl rfl rfl ?_
        refine AS.pass rfl rfl rfl ?_
        refine AS.pass rfl rfl rfl ?_
        refine AS.pass rfl rfl rfl ?_
        refine AS.pick rfl rfl rfl rfl rfl ?_
        refine AS.opsEnd ?_
        refine AS.condF rfl ?_
        refine AS.skip ?_
        refine AS.inBlock ?_
        refine AS.region rfl ?_
        refine AS.move rfl rfl rfl rfl ?_
        refine AS.bin rfl rfl rfl rfl rfl (BinR.add (w64 (by omega) (by omega))) ?_
        refine AS.assign rfl rfl rfl rfl ?_
        refine AS.opsEnd ?_
        exact AS.nextI (l0_ih (i + 1, out, tk0) ⟨hi, by simpa using hst, hI.2.2⟩ (by dsimp only; omega)) [] (.cons rfl (.cons rfl (.cons rfl (.nil)))) rfl
  · have hfin : out = objsOf L := by have h := hI.2.1; rw [List.drop_eq_nil_of_le (by simp only [decide_eq_false_iff_not] at hc0; omega)] at h; simpa [objsOf] using h
    refine AS.loose 3 rfl ?_
    refine AS.dropH [_] (G _ _ _ _) rfl ?_
    dsimp only [List.append_eq, List.cons_append, List.nil_append]
    refine AS.exit rfl ?_
    refine AS.seq ?_
    refine AS.region rfl ?_
    refine AS.move rfl rfl rfl rfl ?_
    refine AS.callP rfl rfl rfl rfl TT18.en103 (ref_sorted out _ (by omega) (fun o ho => by obtain ⟨e, he, e1⟩ := mem_objs (hfin ▸ ho); rw [← e1]; exact hk e he)) ?_
    refine AS.assign rfl rfl rfl rfl ?_
    refine AS.opsEnd ?_
    refine AS.retW Try.func65 rfl (.tmp rfl (.nil)) ?_
    rw [← hfin]
    exact RWk.drop [] rfl ⟨rfl, rfl⟩
end Go.Proofs.Ytncecheccihjoaa
/- T19 -/
namespace Go.Proofs.Ytncecheccihjoaa.TT19
open Go Go.Proofs.Fw Go.Shelf
theorem b38 : bldI Go.Proofs.Try.prog 38 = some ([(.str ⟨#[]⟩), (.str ⟨#[]⟩), (.str ⟨#[]⟩), (.int .i64 0), (.str ⟨#[]⟩), (.bool false), (.bool false), (.slice [] .full)], [(0, 3), (3, 1), (4, 1), (5, 1), (6, 1), (7, 1)]) := by kernel_rfl
theorem b50 : bldI Go.Proofs.Try.prog 50 = some ([(.int .i64 0), (.str ⟨#[]⟩), (.str ⟨#[]⟩), (.str ⟨#[]⟩), (.int .i64 0), (.str ⟨#[]⟩), (.bool false), (.bool false), (.slice [] .full), (.int .i64 0), (.slice [] .full)], [(0, 1), (1, 8), (9, 1), (10, 1)]) := by kernel_rfl
theorem en100 : Enters Go.Proofs.Try.prog 100 := enters_of Go.Proofs.Try.func100 (by kernel_rfl) rfl
theorem en101 : Enters Go.Proofs.Try.prog 101 := enters_of Go.Proofs.Try.func101 (by kernel_rfl) rfl
theorem en102 : Enters Go.Proofs.Try.prog 102 := enters_of Go.Proofs.Try.func102 (by kernel_rfl) rfl
theorem en103 : Enters Go.Proofs.Try.prog 103 := enters_of Go.Proofs.Try.func103 (by kernel_rfl) rfl
theorem en126 : Enters Go.Proofs.Try.prog 126 := enters_of Go.Proofs.Try.func126 (by kernel_rfl) rfl
theorem en133 : Enters Go.Proofs.Try.prog 133 := enters_of Go.Proofs.Try.func133 (by kernel_rfl) rfl
theorem en146 : Enters Go.Proofs.Try.prog 146 := enters_of Go.Proofs.Try.func146 (by kernel_rfl) rfl
theorem en147 : Enters Go.Proofs.Try.prog 147 := enters_of Go.Proofs.Try.func147 (by kernel_rfl) rfl
theorem en166 : Enters Go.Proofs.Try.prog 166 := enters_of Go.Proofs.Try.func166 (by kernel_rfl) rfl
theorem en175 : Enters Go.Proofs.Try.prog 175 := enters_of Go.Proofs.Try.func175 (by kernel_rfl) rfl
theorem en20 : Enters Go.Proofs.Try.prog 20 := enters_of Go.Proofs.Try.func20 (by kernel_rfl) rfl
theorem en21 : Enters Go.Proofs.Try.prog 21 := enters_of Go.Proofs.Try.func21 (by kernel_rfl) rfl
theorem en52 : Enters Go.Proofs.Try.prog 52 := enters_of Go.Proofs.Try.func52 (by kernel_rfl) rfl
theorem en61 : Enters Go.Proofs.Try.prog 61 := enters_of Go.Proofs.Try.func61 (by kernel_rfl) rfl
theorem en65 : Enters Go.Proofs.Try.prog 65 := enters_of Go.Proofs.Try.func65 (by kernel_rfl) rfl
theorem en66 : Enters Go.Proofs.Try.prog 66 := enters_of Go.Proofs.Try.func66 (by kernel_rfl) rfl
theorem en68 : Enters Go.Proofs.Try.prog 68 := enters_of Go.Proofs.Try.func68 (by kernel_rfl) rfl
theorem en69 : Enters Go.Proofs.Try.prog 69 := enters_of Go.Proofs.Try.func69 (by kernel_rfl) rfl
theorem en70 : Enters Go.Proofs.Try.prog 70 := enters_of Go.Proofs.Try.func70 (by kernel_rfl) rfl
theorem en71 : Enters Go.Proofs.Try.prog 71 := enters_of Go.Proofs.Try.func71 (by kernel_rfl) rfl
theorem fl106_0 : fldI Go.Proofs.Try.prog 106 0 = some 0 := by kernel_rfl
theorem fl106_1 : fldI Go.Proofs.Try.prog 106 1 = some 1 := by kernel_rfl
theorem fl106_2 : fldI Go.Proofs.Try.prog 106 2 = some 2 := by kernel_rfl
theorem fl30_0 : fldI Go.Proofs.Try.prog 30 0 = some 0 := by kernel_rfl
theorem fl38_0 : fldI Go.Proofs.Try.prog 38 0 = some 0 := by kernel_rfl
theorem fl38_1 : fldI Go.Proofs.Try.prog 38 1 = some 3 := by kernel_rfl
theorem fl38_5 : fldI Go.Proofs.Try.prog 38 5 = some 7 := by kernel_rfl
theorem fl50_0 : fldI Go.Proofs.Try.prog 50 0 = some 0 := by kernel_rfl
theorem fl50_1 : fldI Go.Proofs.Try.prog 50 1 = some 1 := by kernel_rfl
theorem fl50_2 : fldI Go.Proofs.Try.prog 50 2 = some 9 := by kernel_rfl
theorem fl50_3 : fldI Go.Proofs.Try.prog 50 3 = some 10 := by kernel_rfl
theorem mixed : Go.Proofs.Try.prog.follows .mixedOrders = true := by kernel_rfl
theorem mp104 : mapI Go.Proofs.Try.prog 104 = some (35, 38) := by kernel_rfl
theorem ps35 : plainS Go.Proofs.Try.prog 35 = true := by kernel_rfl
theorem sl28 : sliI Go.Proofs.Try.prog 28 = some (50, 11, 144) := by kernel_rfl
theorem sl36 : sliI Go.Proofs.Try.prog 36 = some (116, 2, 24) := by kernel_rfl
theorem sl48 : sliI Go.Proofs.Try.prog 48 = some (38, 8, 104) := by kernel_rfl
theorem ty104 : tyI Go.Proofs.Try.prog 104 = some (1, false) := by kernel_rfl
theorem ty2 : tyI Go.Proofs.Try.prog 2 = some (1, false) := by kernel_rfl
theorem ty28 : tyI Go.Proofs.Try.prog 28 = some (1, false) := by kernel_rfl
theorem ty35 : tyI Go.Proofs.Try.prog 35 = some (3, true) := by kernel_rfl
theorem ty36 : tyI Go.Proofs.Try.prog 36 = some (1, false) := by kernel_rfl
theorem ty38 : tyI Go.Proofs.Try.prog 38 = some (8, true) := by kernel_rfl
theorem ty47 : tyI Go.Proofs.Try.prog 47 = some (1, false) := by kernel_rfl
theorem ty48 : tyI Go.Proofs.Try.prog 48 = some (1, false) := by kernel_rfl
theorem ty50 : tyI Go.Proofs.Try.prog 50 = some (11, true) := by kernel_rfl
theorem u180 : Go.Proofs.Try.prog.underlying 180 = some (.int .u64) := by kernel_rfl
theorem u25 : Go.Proofs.Try.prog.underlying 25 = some (.pointer 106) := by kernel_rfl
theorem u28 : Go.Proofs.Try.prog.underlying 28 = some (.slice 50) := by kernel_rfl
theorem u3 : Go.Proofs.Try.prog.underlying 3 = some (.int .i64) := by kernel_rfl
theorem u35 : Go.Proofs.Try.prog.underlying 35 = some (.struct #[⟨"Kind", 9, 0, false, "", "", 0⟩, ⟨"Space", 9, 1, false, "", "", 16⟩, ⟨"Name", 9, 2, false, "", "", 32⟩]) := by kernel_rfl
theorem u36 : Go.Proofs.Try.prog.underlying 36 = some (.slice 116) := by kernel_rfl
theorem u48 : Go.Proofs.Try.prog.underlying 48 = some (.slice 38) := by kernel_rfl
theorem u50 : Go.Proofs.Try.prog.underlying 50 = some (.struct #[⟨"Kind", 47, 0, false, "", "", 0⟩, ⟨"Object", 38, 1, false, "", "", 8⟩, ⟨"Version", 2, 9, false, "", "", 112⟩, ⟨"Objects", 48, 10, false, "", "", 120⟩]) := by kernel_rfl
theorem z116 : zI Go.Proofs.Try.prog 116 = some (.agg #[(.string ⟨#[]⟩), (.int .i64 0)]) := by kernel_rfl
theorem z38 : zI Go.Proofs.Try.prog 38 = some (.agg #[(.string ⟨#[]⟩), (.string ⟨#[]⟩), (.string ⟨#[]⟩), (.int .i64 0), (.string ⟨#[]⟩), (.bool false), (.bool false), (.slice none 0 0)]) := by kernel_rfl
theorem z50 : zI Go.Proofs.Try.prog 50 = some (.agg #[(.int .i64 0), (.string ⟨#[]⟩), (.string ⟨#[]⟩), (.string ⟨#[]⟩), (.int .i64 0), (.string ⟨#[]⟩), (.bool false), (.bool false), (.slice none 0 0), (.int .i64 0), (.slice none 0 0)]) := by kernel_rfl
end Go.Proofs.Ytncecheccihjoaa.TT19
namespace Go.Proofs.Ytncecheccihjoaa
open Go Go.Proofs.Fw Go.Proofs
set_option linter.unusedVariables false
set_option linter.unusedSimpArgs false
set_option maxRecDepth 20000
set_option maxHeartbeats 4000000
theorem refGet_spec (r : Nat) (L : List Evt) (tk : Tok) (k : Key) (H : AH) (hl : L.length ≤ 1000000) (hk : ∀ e ∈ L, keyFits e.obj.key) : ACalls Try.prog [] 19 [.ptr r 0, encKey k] ((r, .row [.slice (L.map encEv) tk] 30) :: H) (fun x H' => x = .tup [encObj ((findK (sortO (objsOf L)) k).getD noObj), .bool (findK (sortO (objsOf L)) k).isSome] ∧ H' = ((r, .row [.slice (L.map encEv) tk] 30) :: H)) := by
  refine ACalls.enter (n := 28) Try.func19 rfl rfl (Nat.le_of_ble_eq_true rfl) ?_
  refine AS.seq ?_
  refine AS.region rfl ?_
  refine AS.box rfl rfl rfl rfl rfl ?_
  intro b3
  refine AS.allocZ rfl rfl rfl TT19.z38 rfl ?_
  intro b4
  refine AS.assign rfl rfl rfl rfl ?_
  refine AS.opsEnd ?_
  refine AS.seq ?_
  refine AS.permH [] (List.perm_append_comm_assoc [_, _] [_] H) ?_
  dsimp only [List.append_eq, List.cons_append, List.nil_append]
  refine AS.region rfl ?_
  refine AS.move rfl rfl rfl rfl ?_
  refine AS.call rfl rfl rfl rfl TT19.en65 (refObjects_spec r L tk _ hl hk) ?_
  rintro _ _ ⟨rfl, rfl⟩
  refine AS.assign rfl rfl rfl rfl ?_
  refine AS.opsEnd ?_
  refine AS.seq ?_
  refine AS.seq ?_
  refine AS.region rfl ?_
  refine AS.assign rfl rfl rfl rfl ?_
  refine AS.opsEnd ?_
  refine AS.block ?_
  refine AS.loopI (α := Nat) (fun i => i ≤ (sortO (objsOf L)).length ∧ ∀ j, j < i → ∀ p, (sortO (objsOf L))[j]? = some p → p.key ≠ k) (fun i => (sortO (objsOf L)).length - i) (fun i => [(7, .int .i64 i)]) [(3, _), (4, _), (6, _)] (fun i => _) 0 ⟨Nat.zero_le _, fun j h => by omega⟩ (.cons rfl (.cons rfl (.cons rfl (.cons rfl (.nil))))) rfl (fun i hI l0_ih => ?_)
  refine AS.seq ?_
  refine AS.seq ?_
  refine AS.region rfl ?_
  refine AS.move rfl rfl rfl rfl ?_
  refine AS.move rfl rfl rfl rfl ?_
  refine AS.len rfl rfl rfl rfl (by first | exact lenT_sl TT19.u48 | exact lenT_ms TT19.u48 | (rw [TT19.u48]; rfl)) rfl (lenMap _ _) ?_
  refine AS.bin rfl rfl rfl rfl rfl (BinR.lss rfl) ?_
  refine AS.opsEnd ?_
  refine AS.cond rfl (fun hc0 => ?_) (fun hc0 => ?_)
  · have hi : i < (sortO (objsOf L)).length := by simp only [decide_eq_true_eq] at hc0; omega
    obtain ⟨o, ho⟩ := getAt hi
    refine AS.skip ?_
    refine AS.seq ?_
    refine AS.block ?_
    refine AS.seq ?_
    refine SA.start1 TT19.mixed rfl ?_
    refine SA.rd 0 [6] rfl (fun env rest next => AS.move rfl rfl rfl rfl next) ?_
    refine SA.rd 1 [7] rfl (fun env rest next => AS.move rfl rfl rfl rfl next) ?_
    refine SA.rd 2 [16, 17] rfl (fun env rest next => AS.indexAddr rfl rfl rfl rfl rfl TT19.sl48 (Int.natCast_nonneg _) (map_get _ _ ho) rfl next) ?_
    refine SA.rd 3 [18] rfl (fun env rest next => AS.ifieldAddr rfl rfl rfl rfl TT19.fl38_0 next) ?_
    refine SA.rd 4 [19] rfl (fun env rest next => AS.iload (y := encKey o.key) rfl rfl rfl rfl TT19.ty35 rfl rfl rfl next) ?_
    refine SA.rd 5 [3] rfl (fun env rest next => AS.load (y := encKey k) rfl rfl rfl rfl TT19.ty35 rfl rfl rfl next) ?_
    refine SA.rd 6 [20, 21] rfl (fun env rest next => AS.bin rfl rfl rfl rfl rfl (BinR.steql TT19.ps35 (by rw [TT19.u35]; rfl) (keyEq _ _)) next) ?_
    refine SA.done rfl rfl rfl ?_
    refine AS.cond rfl (fun hc1 => ?_) (fun hc1 => ?_)
    · refine AS.seq ?_
      refine AS.region rfl ?_
      refine AS.move rfl rfl rfl rfl ?_
      refine AS.move rfl rfl rfl rfl ?_
      refine AS.indexAddr rfl rfl rfl rfl rfl TT19.sl48 (Int.natCast_nonneg _) (map_get _ _ ho) rfl ?_
      refine AS.iload (y := encObj o) rfl rfl rfl rfl TT19.ty38 rfl rfl rfl ?_
      refine AS.store rfl rfl rfl rfl rfl rfl TT19.ty38 rfl rfl ?_
      refine AS.assign rfl rfl rfl rfl ?_
      refine AS.opsEnd ?_
      refine AS.retW Try.func19 rfl (.cell rfl TT19.ty38 rfl rfl rfl (.tmp rfl (.nil))) ?_
      have hy := find_here hI.2 ho (of_decide_eq_true hc1)
      exact RWk.drop2 [_] [_, _] rfl ⟨by rw [hy]; rfl, rfl⟩
    · refine AS.skip ?_
      refine AS.inBlock ?_
      refine AS.region rfl ?_
      refine AS.move rfl rfl rfl rfl ?_
      refine AS.bin rfl rfl rfl rfl rfl (BinR.add (w64 (by have := sortO_len (objsOf L); have := objs_len L; omega) (by have := sortO_len (objsOf L); have := objs_len L; omega))) ?_
      refine AS.assign rfl rfl rfl rfl ?_
      refine AS.opsEnd ?_
      have hup : ∀ j, j < i + 1 → ∀ p, (sortO (objsOf L))[j]? = some p → p.key ≠ k := fun j h1 p hp => by
        rcases Nat.lt_or_ge j i with h | h
        · exact hI.2 j h p hp
        · have : j = i := by omega
          subst this; rw [ho] at hp; cases hp; exact of_decide_eq_false hc1
      exact AS.nextI (l0_ih (i + 1) ⟨hi, hup⟩ (by omega)) [] (.cons rfl (.cons rfl (.cons rfl (.cons rfl (.nil))))) rfl
  · have hno := find_none hI.2 (by simp only [decide_eq_false_iff_not] at hc0; omega)
    refine AS.exit rfl ?_
    refine AS.seq ?_
    refine AS.region rfl ?_
    refine AS.build rfl rfl rfl TT19.b38 rfl rfl ?_
    refine AS.store rfl rfl rfl rfl rfl rfl TT19.ty38 rfl rfl ?_
    refine AS.assign rfl rfl rfl rfl ?_
    refine AS.opsEnd ?_
    refine AS.retW Try.func19 rfl (.cell rfl TT19.ty38 rfl rfl rfl (.tmp rfl (.nil))) ?_
    rw [hno]
    refine ⟨_, _, (Wk.le (AVLe.tup (.cons (AVLe.agg (.cons (.refl _) (.cons (.refl _) (.cons (.refl _) (.cons (.refl _) (.cons (.refl _) (.cons (.refl _) (.cons (.refl _) (.cons (AVLe.tok _ _) .nil))))))))) (.cons (.refl _) .nil)))).trans (Wk.mid [_] [_, _]), rfl, rfl⟩
end Go.Proofs.Ytncecheccihjoaa
/- T20 -/
namespace Go.Proofs.Ytncecheccihjoaa.TT20
open Go Go.Proofs.Fw Go.Shelf
theorem b38 : bldI Go.Proofs.Try.prog 38 = some ([(.str ⟨#[]⟩), (.str ⟨#[]⟩), (.str ⟨#[]⟩), (.int .i64 0), (.str ⟨#[]⟩), (.bool false), (.bool false), (.slice [] .full)], [(0, 3), (3, 1), (4, 1), (5, 1), (6, 1), (7, 1)]) := by kernel_rfl
theorem b50 : bldI Go.Proofs.Try.prog 50 = some ([(.int .i64 0), (.str ⟨#[]⟩), (.str ⟨#[]⟩), (.str ⟨#[]⟩), (.int .i64 0), (.str ⟨#[]⟩), (.bool false), (.bool false), (.slice [] .full), (.int .i64 0), (.slice [] .full)], [(0, 1), (1, 8), (9, 1), (10, 1)]) := by kernel_rfl
theorem en100 : Enters Go.Proofs.Try.prog 100 := enters_of Go.Proofs.Try.func100 (by kernel_rfl) rfl
theorem en101 : Enters Go.Proofs.Try.prog 101 := enters_of Go.Proofs.Try.func101 (by kernel_rfl) rfl
theorem en102 : Enters Go.Proofs.Try.prog 102 := enters_of Go.Proofs.Try.func102 (by kernel_rfl) rfl
theorem en103 : Enters Go.Proofs.Try.prog 103 := enters_of Go.Proofs.Try.func103 (by kernel_rfl) rfl
theorem en126 : Enters Go.Proofs.Try.prog 126 := enters_of Go.Proofs.Try.func126 (by kernel_rfl) rfl
theorem en133 : Enters Go.Proofs.Try.prog 133 := enters_of Go.Proofs.Try.func133 (by kernel_rfl) rfl
theorem en146 : Enters Go.Proofs.Try.prog 146 := enters_of Go.Proofs.Try.func146 (by kernel_rfl) rfl
theorem en147 : Enters Go.Proofs.Try.prog 147 := enters_of Go.Proofs.Try.func147 (by kernel_rfl) rfl
theorem en166 : Enters Go.Proofs.Try.prog 166 := enters_of Go.Proofs.Try.func166 (by kernel_rfl) rfl
theorem en175 : Enters Go.Proofs.Try.prog 175 := enters_of Go.Proofs.Try.func175 (by kernel_rfl) rfl
theorem en20 : Enters Go.Proofs.Try.prog 20 := enters_of Go.Proofs.Try.func20 (by kernel_rfl) rfl
theorem en21 : Enters Go.Proofs.Try.prog 21 := enters_of Go.Proofs.Try.func21 (by kernel_rfl) rfl
theorem en52 : Enters Go.Proofs.Try.prog 52 := enters_of Go.Proofs.Try.func52 (by kernel_rfl) rfl
theorem en61 : Enters Go.Proofs.Try.prog 61 := enters_of Go.Proofs.Try.func61 (by kernel_rfl) rfl
theorem en65 : Enters Go.Proofs.Try.prog 65 := enters_of Go.Proofs.Try.func65 (by kernel_rfl) rfl
theorem en66 : Enters Go.Proofs.Try.prog 66 := enters_of Go.Proofs.Try.func66 (by kernel_rfl) rfl
theorem en68 : Enters Go.Proofs.Try.prog 68 := enters_of Go.Proofs.Try.func68 (by kernel_rfl) rfl
theorem en69 : Enters Go.Proofs.Try.prog 69 := enters_of Go.Proofs.Try.func69 (by kernel_rfl) rfl
theorem en70 : Enters Go.Proofs.Try.prog 70 := enters_of Go.Proofs.Try.func70 (by kernel_rfl) rfl
theorem en71 : Enters Go.Proofs.Try.prog 71 := enters_of Go.Proofs.Try.func71 (by kernel_rfl) rfl
theorem fl106_0 : fldI Go.Proofs.Try.prog 106 0 = some 0 := by kernel_rfl
theorem fl106_1 : fldI Go.Proofs.Try.prog 106 1 = some 1 := by kernel_rfl
theorem fl106_2 : fldI Go.Proofs.Try.prog 106 2 = some 2 := by kernel_rfl
theorem fl30_0 : fldI Go.Proofs.Try.prog 30 0 = some 0 := by kernel_rfl
theorem fl38_0 : fldI Go.Proofs.Try.prog 38 0 = some 0 := by kernel_rfl
theorem fl38_1 : fldI Go.Proofs.Try.prog 38 1 = some 3 := by kernel_rfl
theorem fl38_5 : fldI Go.Proofs.Try.prog 38 5 = some 7 := by kernel_rfl
theorem fl50_0 : fldI Go.Proofs.Try.prog 50 0 = some 0 := by kernel_rfl
theorem fl50_1 : fldI Go.Proofs.Try.prog 50 1 = some 1 := by kernel_rfl
theorem fl50_2 : fldI Go.Proofs.Try.prog 50 2 = some 9 := by kernel_rfl
theorem fl50_3 : fldI Go.Proofs.Try.prog 50 3 = some 10 := by kernel_rfl
theorem mixed : Go.Proofs.Try.prog.follows .mixedOrders = true := by kernel_rfl
theorem mp104 : mapI Go.Proofs.Try.prog 104 = some (35, 38) := by kernel_rfl
theorem ps35 : plainS Go.Proofs.Try.prog 35 = true := by kernel_rfl
theorem sl28 : sliI Go.Proofs.Try.prog 28 = some (50, 11, 144) := by kernel_rfl
theorem sl36 : sliI Go.Proofs.Try.prog 36 = some (116, 2, 24) := by kernel_rfl
theorem sl48 : sliI Go.Proofs.Try.prog 48 = some (38, 8, 104) := by kernel_rfl
theorem ty104 : tyI Go.Proofs.Try.prog 104 = some (1, false) := by kernel_rfl
theorem ty2 : tyI Go.Proofs.Try.prog 2 = some (1, false) := by kernel_rfl
theorem ty28 : tyI Go.Proofs.Try.prog 28 = some (1, false) := by kernel_rfl
theorem ty35 : tyI Go.Proofs.Try.prog 35 = some (3, true) := by kernel_rfl
theorem ty36 : tyI Go.Proofs.Try.prog 36 = some (1, false) := by kernel_rfl
theorem ty38 : tyI Go.Proofs.Try.prog 38 = some (8, true) := by kernel_rfl
theorem ty47 : tyI Go.Proofs.Try.prog 47 = some (1, false) := by kernel_rfl
theorem ty48 : tyI Go.Proofs.Try.prog 48 = some (1, false) := by kernel_rfl
theorem ty50 : tyI Go.Proofs.Try.prog 50 = some (11, true) := by kernel_rfl
theorem u180 : Go.Proofs.Try.prog.underlying 180 = some (.int .u64) := by kernel_rfl
theorem u25 : Go.Proofs.Try.prog.underlying 25 = some (.pointer 106) := by kernel_rfl
theorem u28 : Go.Proofs.Try.prog.underlying 28 = some (.slice 50) := by kernel_rfl
theorem u3 : Go.Proofs.Try.prog.underlying 3 = some (.int .i64) := by kernel_rfl
theorem u35 : Go.Proofs.Try.prog.underlying 35 = some (.struct #[⟨"Kind", 9, 0, false, "", "", 0⟩, ⟨"Space", 9, 1, false, "", "", 16⟩, ⟨"Name", 9, 2, false, "", "", 32⟩]) := by kernel_rfl
theorem u36 : Go.Proofs.Try.prog.underlying 36 = some (.slice 116) := by kernel_rfl
theorem u48 : Go.Proofs.Try.prog.underlying 48 = some (.slice 38) := by kernel_rfl
theorem u50 : Go.Proofs.Try.prog.underlying 50 = some (.struct #[⟨"Kind", 47, 0, false, "", "", 0⟩, ⟨"Object", 38, 1, false, "", "", 8⟩, ⟨"Version", 2, 9, false, "", "", 112⟩, ⟨"Objects", 48, 10, false, "", "", 120⟩]) := by kernel_rfl
theorem z116 : zI Go.Proofs.Try.prog 116 = some (.agg #[(.string ⟨#[]⟩), (.int .i64 0)]) := by kernel_rfl
theorem z38 : zI Go.Proofs.Try.prog 38 = some (.agg #[(.string ⟨#[]⟩), (.string ⟨#[]⟩), (.string ⟨#[]⟩), (.int .i64 0), (.string ⟨#[]⟩), (.bool false), (.bool false), (.slice none 0 0)]) := by kernel_rfl
theorem z50 : zI Go.Proofs.Try.prog 50 = some (.agg #[(.int .i64 0), (.string ⟨#[]⟩), (.string ⟨#[]⟩), (.string ⟨#[]⟩), (.int .i64 0), (.string ⟨#[]⟩), (.bool false), (.bool false), (.slice none 0 0), (.int .i64 0), (.slice none 0 0)]) := by kernel_rfl
end Go.Proofs.Ytncecheccihjoaa.TT20
namespace Go.Proofs.Ytncecheccihjoaa
open Go Go.Proofs.Fw Go.Proofs
set_option linter.unusedVariables false
set_option linter.unusedSimpArgs false
set_option maxRecDepth 20000
set_option maxHeartbeats 4000000
theorem refSnapshot_spec (r : Nat) (L : List Evt) (tk : Tok) (H : AH) (hl : L.length ≤ 1000000) (hk : ∀ e ∈ L, keyFits e.obj.key) : ACalls Try.prog [] 23 [.ptr r 0] ((r, .row [.slice (L.map encEv) tk] 30) :: H) (fun x H' => x = encEv (⟨2, noObj, (L.length : Int), sortO (objsOf L)⟩ : Evt) ∧ H' = ((r, .row [.slice (L.map encEv) tk] 30) :: H)) := by
  refine ACalls.enter (n := 11) Try.func23 rfl rfl (Nat.le_of_ble_eq_true rfl) ?_
  refine AS.seq ?_
  refine AS.region rfl ?_
  refine AS.allocZ rfl rfl rfl TT20.z50 rfl ?_
  intro b2
  refine AS.opsEnd ?_
  refine AS.seq ?_
  refine SA.start1 TT20.mixed rfl ?_
  refine SA.rd 0 [0] rfl (fun env rest next => AS.move rfl rfl rfl rfl next) ?_
  refine SA.rd 1 [3] rfl (fun env rest next => AS.nilCheck rfl rfl rfl rfl rfl next) ?_
  refine SA.rd 2 [4] rfl (fun env rest next => AS.fieldAddr rfl rfl rfl rfl TT20.fl30_0 next) ?_
  refine SA.rd 3 [5] rfl (fun env rest next => AS.load rfl rfl rfl rfl TT20.ty28 rfl rfl rfl next) ?_
  refine SA.rd 4 [6] rfl (fun env rest next => AS.len rfl rfl rfl rfl (by first | exact lenT_sl TT20.u28 | exact lenT_ms TT20.u28 | (rw [TT20.u28]; rfl)) rfl (lenMap _ _) next) ?_
  refine SA.rd 5 [0] rfl (fun env rest next => AS.move rfl rfl rfl rfl next) ?_
  refine SA.rd 6 [8] rfl (fun env rest next => AS.callP rfl rfl rfl rfl TT20.en65 (ACalls.permP (refObjects_spec r L tk _ hl hk) (.swap _ _ _)) next) ?_
  refine SA.rd 7 [7, 9] rfl (fun env rest next => AS.build rfl rfl rfl TT20.b50 rfl rfl next) ?_
  refine SA.chg 8 [2, 10] rfl rfl rfl rfl (fun env rest next => AS.store rfl rfl rfl rfl rfl rfl TT20.ty50 rfl rfl next) ⟨trivial, ⟨trivial, ⟨trivial, ⟨trivial, ⟨trivial, ⟨trivial, ⟨trivial, ⟨trivial, trivial⟩⟩⟩⟩⟩⟩⟩⟩ ?_
  refine SA.done rfl rfl rfl ?_
  refine AS.retW Try.func23 rfl (.cell rfl TT20.ty50 rfl rfl rfl (.nil)) ?_
  exact ⟨_, _, (Wk.le (AVLe.agg (.cons (.refl _) (.cons (.refl _) (.cons (.refl _) (.cons (.refl _) (.cons (.refl _) (.cons (.refl _) (.cons (.refl _) (.cons (.refl _) (.cons (AVLe.tok _ _) (.cons (.refl _) (.cons (.refl _) .nil))))))))))))).trans (Wk.dropL [_]), rfl, rfl⟩
end Go.Proofs.Ytncecheccihjoaa
