/- A part of the proof: XT14, XT15, XT16, XT17, XRef, XRef2, XT18, XT19, XT20, XT21, XT22, XT23, XT24, XRef3, XRef4, XT25, XT26. -/
import Derived.Test.YtncecheccihjoaaP2
/- T14 -/
namespace Go.Proofs.Ytncecheccihjoaa.TT14
open Go Go.Proofs.Fw Go.Shelf
theorem b50 : bldI Go.Proofs.Try.prog 50 = some ([(.int .i64 0), (.str ⟨#[]⟩), (.str ⟨#[]⟩), (.str ⟨#[]⟩), (.int .i64 0), (.str ⟨#[]⟩), (.bool false), (.bool false), (.slice [] .full), (.int .i64 0), (.slice [] .full)], [(0, 1), (1, 8), (9, 1), (10, 1)]) := by kernel_rfl
theorem en100 : Enters Go.Proofs.Try.prog 100 := enters_of Go.Proofs.Try.func100 (by kernel_rfl) rfl
theorem en101 : Enters Go.Proofs.Try.prog 101 := enters_of Go.Proofs.Try.func101 (by kernel_rfl) rfl
theorem en102 : Enters Go.Proofs.Try.prog 102 := enters_of Go.Proofs.Try.func102 (by kernel_rfl) rfl
theorem en126 : Enters Go.Proofs.Try.prog 126 := enters_of Go.Proofs.Try.func126 (by kernel_rfl) rfl
theorem en133 : Enters Go.Proofs.Try.prog 133 := enters_of Go.Proofs.Try.func133 (by kernel_rfl) rfl
theorem en146 : Enters Go.Proofs.Try.prog 146 := enters_of Go.Proofs.Try.func146 (by kernel_rfl) rfl
theorem en147 : Enters Go.Proofs.Try.prog 147 := enters_of Go.Proofs.Try.func147 (by kernel_rfl) rfl
theorem en166 : Enters Go.Proofs.Try.prog 166 := enters_of Go.Proofs.Try.func166 (by kernel_rfl) rfl
theorem en175 : Enters Go.Proofs.Try.prog 175 := enters_of Go.Proofs.Try.func175 (by kernel_rfl) rfl
theorem en20 : Enters Go.Proofs.Try.prog 20 := enters_of Go.Proofs.Try.func20 (by kernel_rfl) rfl
theorem en21 : Enters Go.Proofs.Try.prog 21 := enters_of Go.Proofs.Try.func21 (by kernel_rfl) rfl
theorem en52 : Enters Go.Proofs.Try.prog 52 := enters_of Go.Proofs.Try.func52 (by kernel_rfl) rfl
theorem en66 : Enters Go.Proofs.Try.prog 66 := enters_of Go.Proofs.Try.func66 (by kernel_rfl) rfl
theorem en68 : Enters Go.Proofs.Try.prog 68 := enters_of Go.Proofs.Try.func68 (by kernel_rfl) rfl
theorem fl106_0 : fldI Go.Proofs.Try.prog 106 0 = some 0 := by kernel_rfl
theorem fl106_1 : fldI Go.Proofs.Try.prog 106 1 = some 1 := by kernel_rfl
theorem fl106_2 : fldI Go.Proofs.Try.prog 106 2 = some 2 := by kernel_rfl
theorem fl38_0 : fldI Go.Proofs.Try.prog 38 0 = some 0 := by kernel_rfl
theorem fl38_1 : fldI Go.Proofs.Try.prog 38 1 = some 3 := by kernel_rfl
theorem fl38_5 : fldI Go.Proofs.Try.prog 38 5 = some 7 := by kernel_rfl
theorem fl50_0 : fldI Go.Proofs.Try.prog 50 0 = some 0 := by kernel_rfl
theorem fl50_1 : fldI Go.Proofs.Try.prog 50 1 = some 1 := by kernel_rfl
theorem fl50_2 : fldI Go.Proofs.Try.prog 50 2 = some 9 := by kernel_rfl
theorem fl50_3 : fldI Go.Proofs.Try.prog 50 3 = some 10 := by kernel_rfl
theorem mixed : Go.Proofs.Try.prog.follows .mixedOrders = true := by kernel_rfl
theorem mp104 : mapI Go.Proofs.Try.prog 104 = some (35, 38) := by kernel_rfl
theorem ps35 : plainS Go.Proofs.Try.prog 35 = true := by kernel_rfl
theorem sl28 : sliI Go.Proofs.Try.prog 28 = some (50, 11, 144) := by kernel_rfl
theorem sl36 : sliI Go.Proofs.Try.prog 36 = some (116, 2, 24) := by kernel_rfl
theorem sl48 : sliI Go.Proofs.Try.prog 48 = some (38, 8, 104) := by kernel_rfl
theorem ty104 : tyI Go.Proofs.Try.prog 104 = some (1, false) := by kernel_rfl
theorem ty2 : tyI Go.Proofs.Try.prog 2 = some (1, false) := by kernel_rfl
theorem ty28 : tyI Go.Proofs.Try.prog 28 = some (1, false) := by kernel_rfl
theorem ty35 : tyI Go.Proofs.Try.prog 35 = some (3, true) := by kernel_rfl
theorem ty36 : tyI Go.Proofs.Try.prog 36 = some (1, false) := by kernel_rfl
theorem ty38 : tyI Go.Proofs.Try.prog 38 = some (8, true) := by kernel_rfl
theorem ty47 : tyI Go.Proofs.Try.prog 47 = some (1, false) := by kernel_rfl
theorem ty48 : tyI Go.Proofs.Try.prog 48 = some (1, false) := by kernel_rfl
theorem ty50 : tyI Go.Proofs.Try.prog 50 = some (11, true) := by kernel_rfl
theorem u180 : Go.Proofs.Try.prog.underlying 180 = some (.int .u64) := by kernel_rfl
theorem u28 : Go.Proofs.Try.prog.underlying 28 = some (.slice 50) := by kernel_rfl
theorem u3 : Go.Proofs.Try.prog.underlying 3 = some (.int .i64) := by kernel_rfl
theorem u35 : Go.Proofs.Try.prog.underlying 35 = some (.struct #[⟨"Kind", 9, 0, false, "", "", 0⟩, ⟨"Space", 9, 1, false, "", "", 16⟩, ⟨"Name", 9, 2, false, "", "", 32⟩]) := by kernel_rfl
theorem u36 : Go.Proofs.Try.prog.underlying 36 = some (.slice 116) := by kernel_rfl
theorem u48 : Go.Proofs.Try.prog.underlying 48 = some (.slice 38) := by kernel_rfl
theorem u50 : Go.Proofs.Try.prog.underlying 50 = some (.struct #[⟨"Kind", 47, 0, false, "", "", 0⟩, ⟨"Object", 38, 1, false, "", "", 8⟩, ⟨"Version", 2, 9, false, "", "", 112⟩, ⟨"Objects", 48, 10, false, "", "", 120⟩]) := by kernel_rfl
theorem z116 : zI Go.Proofs.Try.prog 116 = some (.agg #[(.string ⟨#[]⟩), (.int .i64 0)]) := by kernel_rfl
theorem z38 : zI Go.Proofs.Try.prog 38 = some (.agg #[(.string ⟨#[]⟩), (.string ⟨#[]⟩), (.string ⟨#[]⟩), (.int .i64 0), (.string ⟨#[]⟩), (.bool false), (.bool false), (.slice none 0 0)]) := by kernel_rfl
theorem z50 : zI Go.Proofs.Try.prog 50 = some (.agg #[(.int .i64 0), (.string ⟨#[]⟩), (.string ⟨#[]⟩), (.string ⟨#[]⟩), (.int .i64 0), (.string ⟨#[]⟩), (.bool false), (.bool false), (.slice none 0 0), (.int .i64 0), (.slice none 0 0)]) := by kernel_rfl
end Go.Proofs.Ytncecheccihjoaa.TT14
namespace Go.Proofs.Ytncecheccihjoaa
open Go Go.Proofs.Fw Go.Proofs
set_option linter.unusedVariables false
set_option linter.unusedSimpArgs false
set_option maxRecDepth 20000
set_option maxHeartbeats 4000000
theorem keyR : KeyR Try.prog 35 encKey := keyR_key TT14.u35 TT14.ps35 rfl (fun _ _ _ _ _ _ => rfl)

def stH (s m : Nat) (v : Int) (M : List (Key × Object)) (log : List Evt) (tk : Tok) (H : AH) : AH := (s, .row [.map m, .int .i64 v, .slice (log.map encEv) tk] 106) :: (m, .map (mapAV encKey encObj M)) :: (G tk (log.map encEv).length 11 50 ++ H)

theorem written_spec (s m : Nat) (v : Int) (M : List (Key × Object)) (log : List Evt) (tk : Tok) (kind : Int) (o : Object) (H : AH) (hv : 0 ≤ v ∧ v ≤ 1000000) (htk : tk.grows = true) (hl : log.length ≤ 1000000) (hc : o.charge.length ≤ 1000000) : ACalls Try.prog [] 70 [.ptr s 0, .int .i64 kind, encObj o] (stH s m v M log tk H) (fun x H' => x = .int .i64 (v + 1) ∧ ∃ tk', tk'.grows = true ∧ H' = stH s m (v + 1) (if decide (kind = 0) then mset M o.key (o.wv (v + 1)) else M) (log ++ [(⟨kind, o.wv (v + 1), 0, []⟩ : Evt)]) tk' H) := by
  unfold stH
  refine ACalls.enter (n := 46) Try.func70 rfl rfl (Nat.le_of_ble_eq_true rfl) ?_
  refine AS.seq ?_
  refine AS.region rfl ?_
  refine AS.box rfl rfl rfl rfl rfl ?_
  intro b5
  refine AS.assign rfl rfl rfl rfl ?_
  refine AS.opsEnd ?_
  refine AS.seq ?_
  refine AS.region rfl ?_
  refine AS.move rfl rfl rfl rfl ?_
  refine AS.nilCheck rfl rfl rfl rfl rfl ?_
  refine AS.fieldAddr rfl rfl rfl rfl TT14.fl106_1 ?_
  refine AS.load rfl rfl rfl rfl TT14.ty2 rfl rfl rfl ?_
  refine AS.bin rfl rfl rfl rfl rfl (BinR.add (w64 (by omega) (by omega))) ?_
  refine AS.nilCheck rfl rfl rfl rfl rfl ?_
  refine AS.fieldAddr rfl rfl rfl rfl TT14.fl106_1 ?_
  refine AS.store rfl rfl rfl rfl rfl rfl TT14.ty2 rfl rfl ?_
  refine AS.opsEnd ?_
  refine AS.seq ?_
  refine AS.region rfl ?_
  refine AS.move rfl rfl rfl rfl ?_
  refine AS.nilCheck rfl rfl rfl rfl rfl ?_
  refine AS.fieldAddr rfl rfl rfl rfl TT14.fl106_1 ?_
  refine AS.load rfl rfl rfl rfl TT14.ty2 rfl rfl rfl ?_
  refine AS.fieldAddr rfl rfl rfl rfl TT14.fl38_1 ?_
  refine AS.store rfl rfl rfl rfl rfl rfl TT14.ty2 rfl rfl ?_
  refine AS.opsEnd ?_
  refine AS.seq ?_
  refine SA.start1 TT14.mixed rfl ?_
  refine SA.rd 0 [0] rfl (fun env rest next => AS.move rfl rfl rfl rfl next) ?_
  refine SA.rd 1 [0] rfl (fun env rest next => AS.move rfl rfl rfl rfl next) ?_
  refine SA.rd 2 [20] rfl (fun env rest next => AS.nilCheck rfl rfl rfl rfl rfl next) ?_
  refine SA.rd 3 [21] rfl (fun env rest next => AS.fieldAddr rfl rfl rfl rfl TT14.fl106_2 next) ?_
  refine SA.rd 4 [22] rfl (fun env rest next => AS.load rfl rfl rfl rfl TT14.ty28 rfl rfl rfl next) ?_
  refine SA.rd 5 [1] rfl (fun env rest next => AS.move rfl rfl rfl rfl next) ?_
  refine SA.rd 6 [5] rfl (fun env rest next => AS.load (y := encObj (o.wv (v + 1))) rfl rfl rfl rfl TT14.ty38 rfl rfl rfl next) ?_
  refine SA.rd 7 [25] rfl (fun env rest next => AS.callP rfl rfl rfl rfl TT14.en66 (own_spec (o.wv (v + 1)) _ hc) next) ?_
  refine SA.rd 8 [24, 26] rfl (fun env rest next => AS.build rfl rfl rfl TT14.b50 rfl rfl (AS.putLe (AVLe.agg (.cons (.refl _) (.cons (.refl _) (.cons (.refl _) (.cons (.refl _) (.cons (.refl _) (.cons (.refl _) (.cons (.refl _) (.cons (.refl _) (.cons (.refl _) (.cons (.refl _) (.cons (AVLe.tok _ _) .nil)))))))))))) next)) ?_
  refine SA.rd 9 [27] rfl (fun env rest next => AS.buildSlice1 rfl rfl rfl TT14.sl28 rfl rfl rfl next) ?_
  refine SA.turn (α := Tok) (val := fun tk' => .slice ((log ++ [(⟨kind, o.wv (v + 1), 0, []⟩ : Evt)]).map encEv) tk') (Hn := fun tk' => (b5, .row (encObj (o.wv (v + 1))).cells 38) :: (s, .row [.map m, .int .i64 (v + 1), .slice (log.map encEv) tk] 106) :: (m, .map (mapAV encKey encObj M)) :: (G tk' ((log ++ [(⟨kind, o.wv (v + 1), 0, []⟩ : Evt)]).map encEv).length 11 50 ++ H)) (Φ := fun tk' => tk'.grows = true) 10 [23, 28] rfl rfl rfl rfl (fun env rest h => AS.append1 (enc := encEv) (a := (⟨kind, o.wv (v + 1), 0, []⟩ : Evt)) rfl rfl rfl rfl rfl TT14.sl28 htk rfl encEv_sz encEv_flat (by omega) (fun tk' q => AS.permH [] (List.perm_append_comm_assoc _ [_, _, _] _) (h tk' q))) (Ros.get (c := 10) ⟨trivial, ⟨trivial, ⟨trivial, ⟨trivial, ⟨trivial, ⟨trivial, ⟨trivial, ⟨trivial, ⟨trivial, ⟨(fun H _ env rest next => AS.move rfl rfl rfl rfl next), trivial⟩⟩⟩⟩⟩⟩⟩⟩⟩⟩) ?_
  intro tk1 h1
  refine SA.rdA 11 [19] rfl (fun H env rest next => AS.nilCheck rfl rfl rfl rfl rfl next) ?_
  refine SA.rdA 12 [30] rfl (fun H env rest next => AS.fieldAddr rfl rfl rfl rfl TT14.fl106_2 next) ?_
  refine SA.chg 13 [29, 31] rfl rfl rfl rfl (fun env rest next => AS.store rfl rfl rfl rfl rfl rfl TT14.ty28 rfl rfl next) ⟨trivial, ⟨trivial, ⟨trivial, ⟨trivial, ⟨trivial, ⟨trivial, ⟨trivial, ⟨trivial, ⟨trivial, ⟨trivial, ⟨trivial, ⟨trivial, ⟨trivial, trivial⟩⟩⟩⟩⟩⟩⟩⟩⟩⟩⟩⟩⟩ ?_
  refine SA.done rfl rfl rfl ?_
  refine AS.seq ?_
  refine AS.seq ?_
  refine AS.region rfl ?_
  refine AS.move rfl rfl rfl rfl ?_
  refine AS.bin rfl rfl rfl rfl rfl (BinR.eql rfl) ?_
  refine AS.opsEnd ?_
  refine AS.cond rfl (fun hc0 => ?_) (fun hc0 => ?_)
  · refine SA.start1 TT14.mixed rfl ?_
    refine SA.rd 0 [0] rfl (fun env rest next => AS.move rfl rfl rfl rfl next) ?_
    refine SA.rd 1 [34] rfl (fun env rest next => AS.nilCheck rfl rfl rfl rfl rfl next) ?_
    refine SA.rd 2 [35] rfl (fun env rest next => AS.fieldAddr rfl rfl rfl rfl TT14.fl106_0 next) ?_
    refine SA.rd 3 [36] rfl (fun env rest next => AS.load rfl rfl rfl rfl TT14.ty104 rfl rfl rfl next) ?_
    refine SA.rd 4 [5] rfl (fun env rest next => AS.fieldAddr rfl rfl rfl rfl TT14.fl38_0 next) ?_
    refine SA.rd 5 [38] rfl (fun env rest next => AS.load (y := encKey o.key) rfl rfl rfl rfl TT14.ty35 rfl rfl rfl next) ?_
    refine SA.rd 6 [5] rfl (fun env rest next => AS.load (y := encObj (o.wv (v + 1))) rfl rfl rfl rfl TT14.ty38 rfl rfl rfl next) ?_
    refine SA.rd 7 [40] rfl (fun env rest next => AS.callP rfl rfl rfl rfl TT14.en66 (own_spec (o.wv (v + 1)) _ hc) next) ?_
    refine SA.chg 8 [37, 39, 41] rfl rfl rfl rfl (fun env rest next => AS.mapUpdate (m := M) (x := o.key) (y := o.wv (v + 1)) (encK := encKey) (encV := encObj) rfl rfl rfl rfl rfl rfl TT14.mp104 keyR next) ⟨trivial, ⟨trivial, ⟨trivial, ⟨trivial, ⟨trivial, ⟨trivial, ⟨trivial, ⟨trivial, trivial⟩⟩⟩⟩⟩⟩⟩⟩ ?_
    refine SA.done rfl rfl rfl ?_
    refine AS.seq ?_
    refine AS.region rfl ?_
    refine AS.move rfl rfl rfl rfl ?_
    refine AS.nilCheck rfl rfl rfl rfl rfl ?_
    refine AS.fieldAddr rfl rfl rfl rfl TT14.fl106_1 ?_
    refine AS.load rfl rfl rfl rfl TT14.ty2 rfl rfl rfl ?_
    refine AS.assign rfl rfl rfl rfl ?_
    refine AS.opsEnd ?_
    refine AS.retW Try.func70 rfl (.tmp rfl (.nil)) ?_
    rw [hc0]
    exact RWk.drop [_] rfl ⟨rfl, tk1, h1, rfl⟩
  · refine AS.skip ?_
    refine AS.seq ?_
    refine AS.region rfl ?_
    refine AS.move rfl rfl rfl rfl ?_
    refine AS.nilCheck rfl rfl rfl rfl rfl ?_
    refine AS.fieldAddr rfl rfl rfl rfl TT14.fl106_1 ?_
    refine AS.load rfl rfl rfl rfl TT14.ty2 rfl rfl rfl ?_
    refine AS.assign rfl rfl rfl rfl ?_
    refine AS.opsEnd ?_
    refine AS.retW Try.func70 rfl (.tmp rfl (.nil)) ?_
    rw [hc0]
    exact RWk.drop [_] rfl ⟨rfl, tk1, h1, rfl⟩
end Go.Proofs.Ytncecheccihjoaa
/- T15 -/
namespace Go.Proofs.Ytncecheccihjoaa.TT15
open Go Go.Proofs.Fw Go.Shelf
theorem b50 : bldI Go.Proofs.Try.prog 50 = some ([(.int .i64 0), (.str ⟨#[]⟩), (.str ⟨#[]⟩), (.str ⟨#[]⟩), (.int .i64 0), (.str ⟨#[]⟩), (.bool false), (.bool false), (.slice [] .full), (.int .i64 0), (.slice [] .full)], [(0, 1), (1, 8), (9, 1), (10, 1)]) := by kernel_rfl
theorem en100 : Enters Go.Proofs.Try.prog 100 := enters_of Go.Proofs.Try.func100 (by kernel_rfl) rfl
theorem en101 : Enters Go.Proofs.Try.prog 101 := enters_of Go.Proofs.Try.func101 (by kernel_rfl) rfl
theorem en102 : Enters Go.Proofs.Try.prog 102 := enters_of Go.Proofs.Try.func102 (by kernel_rfl) rfl
theorem en126 : Enters Go.Proofs.Try.prog 126 := enters_of Go.Proofs.Try.func126 (by kernel_rfl) rfl
theorem en133 : Enters Go.Proofs.Try.prog 133 := enters_of Go.Proofs.Try.func133 (by kernel_rfl) rfl
theorem en146 : Enters Go.Proofs.Try.prog 146 := enters_of Go.Proofs.Try.func146 (by kernel_rfl) rfl
theorem en147 : Enters Go.Proofs.Try.prog 147 := enters_of Go.Proofs.Try.func147 (by kernel_rfl) rfl
theorem en166 : Enters Go.Proofs.Try.prog 166 := enters_of Go.Proofs.Try.func166 (by kernel_rfl) rfl
theorem en175 : Enters Go.Proofs.Try.prog 175 := enters_of Go.Proofs.Try.func175 (by kernel_rfl) rfl
theorem en20 : Enters Go.Proofs.Try.prog 20 := enters_of Go.Proofs.Try.func20 (by kernel_rfl) rfl
theorem en21 : Enters Go.Proofs.Try.prog 21 := enters_of Go.Proofs.Try.func21 (by kernel_rfl) rfl
theorem en52 : Enters Go.Proofs.Try.prog 52 := enters_of Go.Proofs.Try.func52 (by kernel_rfl) rfl
theorem en66 : Enters Go.Proofs.Try.prog 66 := enters_of Go.Proofs.Try.func66 (by kernel_rfl) rfl
theorem en68 : Enters Go.Proofs.Try.prog 68 := enters_of Go.Proofs.Try.func68 (by kernel_rfl) rfl
theorem en69 : Enters Go.Proofs.Try.prog 69 := enters_of Go.Proofs.Try.func69 (by kernel_rfl) rfl
theorem en70 : Enters Go.Proofs.Try.prog 70 := enters_of Go.Proofs.Try.func70 (by kernel_rfl) rfl
theorem fl106_0 : fldI Go.Proofs.Try.prog 106 0 = some 0 := by kernel_rfl
theorem fl106_1 : fldI Go.Proofs.Try.prog 106 1 = some 1 := by kernel_rfl
theorem fl106_2 : fldI Go.Proofs.Try.prog 106 2 = some 2 := by kernel_rfl
theorem fl38_0 : fldI Go.Proofs.Try.prog 38 0 = some 0 := by kernel_rfl
theorem fl38_1 : fldI Go.Proofs.Try.prog 38 1 = some 3 := by kernel_rfl
theorem fl38_5 : fldI Go.Proofs.Try.prog 38 5 = some 7 := by kernel_rfl
theorem fl50_0 : fldI Go.Proofs.Try.prog 50 0 = some 0 := by kernel_rfl
theorem fl50_1 : fldI Go.Proofs.Try.prog 50 1 = some 1 := by kernel_rfl
theorem fl50_2 : fldI Go.Proofs.Try.prog 50 2 = some 9 := by kernel_rfl
theorem fl50_3 : fldI Go.Proofs.Try.prog 50 3 = some 10 := by kernel_rfl
theorem mixed : Go.Proofs.Try.prog.follows .mixedOrders = true := by kernel_rfl
theorem mp104 : mapI Go.Proofs.Try.prog 104 = some (35, 38) := by kernel_rfl
theorem ps35 : plainS Go.Proofs.Try.prog 35 = true := by kernel_rfl
theorem sl28 : sliI Go.Proofs.Try.prog 28 = some (50, 11, 144) := by kernel_rfl
theorem sl36 : sliI Go.Proofs.Try.prog 36 = some (116, 2, 24) := by kernel_rfl
theorem sl48 : sliI Go.Proofs.Try.prog 48 = some (38, 8, 104) := by kernel_rfl
theorem ty104 : tyI Go.Proofs.Try.prog 104 = some (1, false) := by kernel_rfl
theorem ty2 : tyI Go.Proofs.Try.prog 2 = some (1, false) := by kernel_rfl
theorem ty28 : tyI Go.Proofs.Try.prog 28 = some (1, false) := by kernel_rfl
theorem ty35 : tyI Go.Proofs.Try.prog 35 = some (3, true) := by kernel_rfl
theorem ty36 : tyI Go.Proofs.Try.prog 36 = some (1, false) := by kernel_rfl
theorem ty38 : tyI Go.Proofs.Try.prog 38 = some (8, true) := by kernel_rfl
theorem ty47 : tyI Go.Proofs.Try.prog 47 = some (1, false) := by kernel_rfl
theorem ty48 : tyI Go.Proofs.Try.prog 48 = some (1, false) := by kernel_rfl
theorem ty50 : tyI Go.Proofs.Try.prog 50 = some (11, true) := by kernel_rfl
theorem u180 : Go.Proofs.Try.prog.underlying 180 = some (.int .u64) := by kernel_rfl
theorem u25 : Go.Proofs.Try.prog.underlying 25 = some (.pointer 106) := by kernel_rfl
theorem u28 : Go.Proofs.Try.prog.underlying 28 = some (.slice 50) := by kernel_rfl
theorem u3 : Go.Proofs.Try.prog.underlying 3 = some (.int .i64) := by kernel_rfl
theorem u35 : Go.Proofs.Try.prog.underlying 35 = some (.struct #[⟨"Kind", 9, 0, false, "", "", 0⟩, ⟨"Space", 9, 1, false, "", "", 16⟩, ⟨"Name", 9, 2, false, "", "", 32⟩]) := by kernel_rfl
theorem u36 : Go.Proofs.Try.prog.underlying 36 = some (.slice 116) := by kernel_rfl
theorem u48 : Go.Proofs.Try.prog.underlying 48 = some (.slice 38) := by kernel_rfl
theorem u50 : Go.Proofs.Try.prog.underlying 50 = some (.struct #[⟨"Kind", 47, 0, false, "", "", 0⟩, ⟨"Object", 38, 1, false, "", "", 8⟩, ⟨"Version", 2, 9, false, "", "", 112⟩, ⟨"Objects", 48, 10, false, "", "", 120⟩]) := by kernel_rfl
theorem z116 : zI Go.Proofs.Try.prog 116 = some (.agg #[(.string ⟨#[]⟩), (.int .i64 0)]) := by kernel_rfl
theorem z38 : zI Go.Proofs.Try.prog 38 = some (.agg #[(.string ⟨#[]⟩), (.string ⟨#[]⟩), (.string ⟨#[]⟩), (.int .i64 0), (.string ⟨#[]⟩), (.bool false), (.bool false), (.slice none 0 0)]) := by kernel_rfl
theorem z50 : zI Go.Proofs.Try.prog 50 = some (.agg #[(.int .i64 0), (.string ⟨#[]⟩), (.string ⟨#[]⟩), (.string ⟨#[]⟩), (.int .i64 0), (.string ⟨#[]⟩), (.bool false), (.bool false), (.slice none 0 0), (.int .i64 0), (.slice none 0 0)]) := by kernel_rfl
end Go.Proofs.Ytncecheccihjoaa.TT15
namespace Go.Proofs.Ytncecheccihjoaa
open Go Go.Proofs.Fw Go.Proofs
set_option linter.unusedVariables false
set_option linter.unusedSimpArgs false
set_option maxRecDepth 20000
set_option maxHeartbeats 4000000
theorem stPerm (L : AH) (s m : Nat) (v : Int) (M : List (Key × Object)) (log : List Evt) (tk : Tok) (H : AH) : (L ++ stH s m v M log tk H).Perm (stH s m v M log tk (L ++ H)) := by
  unfold stH
  refine (List.perm_append_comm_assoc L [_, _] _).trans ?_
  exact ((List.perm_append_comm_assoc L _ H).cons _).cons _

def gotO (M : List (Key × Object)) (k : Key) : Object := (mget M k).getD noObj

theorem version_spec (s m : Nat) (v : Int) (M : List (Key × Object)) (log : List Evt) (tk : Tok) (H : AH) : ACalls Try.prog [] 24 [.ptr s 0] (stH s m v M log tk H) (fun x H' => x = .int .i64 v ∧ H' = (stH s m v M log tk H)) := by
  unfold stH
  refine ACalls.enter (n := 9) Try.func24 rfl rfl (Nat.le_of_ble_eq_true rfl) ?_
  refine AS.seq ?_
  refine AS.region rfl ?_
  refine AS.assign rfl rfl rfl rfl ?_
  refine AS.opsEnd ?_
  refine AS.seq ?_
  refine AS.seq ?_
  refine AS.region rfl ?_
  refine AS.move rfl rfl rfl rfl ?_
  refine AS.bin rfl rfl rfl rfl rfl (BinR.pnil TT15.u25) ?_
  refine AS.opsEnd ?_
  refine AS.condF rfl ?_
  refine AS.skip ?_
  refine AS.seq ?_
  refine AS.region rfl ?_
  refine AS.move rfl rfl rfl rfl ?_
  refine AS.nilCheck rfl rfl rfl rfl rfl ?_
  refine AS.fieldAddr rfl rfl rfl rfl TT15.fl106_1 ?_
  refine AS.load rfl rfl rfl rfl TT15.ty2 rfl rfl rfl ?_
  refine AS.assign rfl rfl rfl rfl ?_
  refine AS.opsEnd ?_
  refine AS.retW Try.func24 rfl (.tmp rfl (.nil)) ?_
  exact RWk.drop [] rfl ⟨rfl, rfl⟩
theorem get_spec (s m : Nat) (v : Int) (M : List (Key × Object)) (log : List Evt) (tk : Tok) (k : Key) (H : AH) (hM : ∀ o, mget M k = some o → o.charge.length ≤ 1000000) : ACalls Try.prog [] 18 [.ptr s 0, encKey k] (stH s m v M log tk H) (fun x H' => x = .tup [encObj (gotO M k), .bool (mget M k).isSome] ∧ H' = (stH s m v M log tk H)) := by
  unfold stH
  refine ACalls.enter (n := 23) Try.func18 rfl rfl (Nat.le_of_ble_eq_true rfl) ?_
  refine AS.seq ?_
  refine AS.region rfl ?_
  refine AS.box rfl rfl rfl rfl rfl ?_
  intro b3
  refine AS.allocZ rfl rfl rfl TT15.z38 rfl ?_
  intro b4
  refine AS.assign rfl rfl rfl rfl ?_
  refine AS.opsEnd ?_
  refine AS.seq ?_
  refine AS.seq ?_
  refine AS.region rfl ?_
  refine AS.move rfl rfl rfl rfl ?_
  refine AS.bin rfl rfl rfl rfl rfl (BinR.pnil TT15.u25) ?_
  refine AS.opsEnd ?_
  refine AS.condF rfl ?_
  refine AS.skip ?_
  refine AS.seq ?_
  rcases hg : mget M k with _ | q
  · refine SA.startG TT15.mixed rfl ?_
    refine SA.rdG 0 [0] rfl (fun G env rest next => AS.move rfl rfl rfl rfl next) ?_
    refine SA.rdG 1 [12] rfl (fun G env rest next => AS.nilCheck rfl rfl rfl rfl rfl next) ?_
    refine SA.rdG 2 [13] rfl (fun G env rest next => AS.fieldAddr rfl rfl rfl rfl TT15.fl106_0 next) ?_
    refine SA.rdG 3 [14] rfl (fun G env rest next => AS.load rfl rfl rfl rfl TT15.ty104 rfl rfl rfl next) ?_
    refine SA.rdG 4 [3] rfl (fun G env rest next => AS.load (y := encKey k) rfl rfl rfl rfl TT15.ty35 rfl rfl rfl next) ?_
    refine SA.rdG 5 [15, 16] rfl (fun G env rest next => AS.lookupZ (m := M) (x := k) (encK := encKey) (encV := encObj) rfl rfl rfl rfl rfl TT15.mp104 keyR TT15.z38 hg rfl next) ?_
    refine SA.rdG 6 [17] rfl (fun G env rest next => AS.move rfl rfl rfl rfl next) ?_
    refine SA.rdG 7 [11] rfl (fun G env rest next => AS.extract rfl rfl rfl rfl rfl next) ?_
    refine SA.rdG 8 [11] rfl (fun G env rest next => AS.extract rfl rfl rfl rfl rfl next) ?_
    refine SA.new 9 [] rfl rfl rfl rfl (fun env rest next => AS.allocZ rfl rfl rfl TT15.z38 rfl next) ?_ ⟨[], rfl⟩
    intro b6
    refine SA.chg 10 [6, 18] rfl rfl rfl rfl (fun env rest next => AS.store rfl rfl rfl rfl rfl rfl TT15.ty38 rfl rfl next) ⟨trivial, ⟨(fun H _ env rest next => AS.extract rfl rfl rfl rfl rfl next), ⟨trivial, ⟨trivial, ⟨trivial, ⟨trivial, ⟨trivial, ⟨trivial, ⟨trivial, ⟨trivial, trivial⟩⟩⟩⟩⟩⟩⟩⟩⟩⟩ ?_
    refine SA.rdA 11 [19] rfl (fun H env rest next => AS.assign rfl rfl rfl rfl next) ?_
    refine SA.done rfl rfl rfl ?_
    refine AS.seq ?_
    refine AS.region rfl ?_
    refine AS.load rfl rfl rfl rfl TT15.ty38 rfl rfl rfl ?_
    refine AS.weak 20 (encObj noObj) rfl (AVLe.agg (.cons (.refl _) (.cons (.refl _) (.cons (.refl _) (.cons (.refl _) (.cons (.refl _) (.cons (.refl _) (.cons (.refl _) (.cons (AVLe.tok _ _) .nil))))))))) ?_
    refine AS.callP rfl rfl rfl rfl TT15.en66 (own_spec noObj _ (Nat.zero_le _)) ?_
    refine AS.move rfl rfl rfl rfl ?_
    refine AS.store rfl rfl rfl rfl rfl rfl TT15.ty38 rfl rfl ?_
    refine AS.assign rfl rfl rfl rfl ?_
    refine AS.opsEnd ?_
    refine AS.retW Try.func18 rfl (.cell rfl TT15.ty38 rfl rfl rfl (.tmp rfl (.nil))) ?_
    exact RWk.drop [_, _, _] rfl ⟨by simp only [gotO, hg]; rfl, rfl⟩
  · refine SA.startG TT15.mixed rfl ?_
    refine SA.rdG 0 [0] rfl (fun G env rest next => AS.move rfl rfl rfl rfl next) ?_
    refine SA.rdG 1 [12] rfl (fun G env rest next => AS.nilCheck rfl rfl rfl rfl rfl next) ?_
    refine SA.rdG 2 [13] rfl (fun G env rest next => AS.fieldAddr rfl rfl rfl rfl TT15.fl106_0 next) ?_
    refine SA.rdG 3 [14] rfl (fun G env rest next => AS.load rfl rfl rfl rfl TT15.ty104 rfl rfl rfl next) ?_
    refine SA.rdG 4 [3] rfl (fun G env rest next => AS.load (y := encKey k) rfl rfl rfl rfl TT15.ty35 rfl rfl rfl next) ?_
    refine SA.rdG 5 [15, 16] rfl (fun G env rest next => AS.lookupZ (m := M) (x := k) (encK := encKey) (encV := encObj) rfl rfl rfl rfl rfl TT15.mp104 keyR TT15.z38 hg rfl next) ?_
    refine SA.rdG 6 [17] rfl (fun G env rest next => AS.move rfl rfl rfl rfl next) ?_
    refine SA.rdG 7 [11] rfl (fun G env rest next => AS.extract rfl rfl rfl rfl rfl next) ?_
    refine SA.rdG 8 [11] rfl (fun G env rest next => AS.extract rfl rfl rfl rfl rfl next) ?_
    refine SA.new 9 [] rfl rfl rfl rfl (fun env rest next => AS.allocZ rfl rfl rfl TT15.z38 rfl next) ?_ ⟨[], rfl⟩
    intro b6
    refine SA.chg 10 [6, 18] rfl rfl rfl rfl (fun env rest next => AS.store rfl rfl rfl rfl rfl rfl TT15.ty38 rfl rfl next) ⟨trivial, ⟨(fun H _ env rest next => AS.extract rfl rfl rfl rfl rfl next), ⟨trivial, ⟨trivial, ⟨trivial, ⟨trivial, ⟨trivial, ⟨trivial, ⟨trivial, ⟨trivial, trivial⟩⟩⟩⟩⟩⟩⟩⟩⟩⟩ ?_
    refine SA.rdA 11 [19] rfl (fun H env rest next => AS.assign rfl rfl rfl rfl next) ?_
    refine SA.done rfl rfl rfl ?_
    refine AS.seq ?_
    refine AS.region rfl ?_
    refine AS.load (y := encObj q) rfl rfl rfl rfl TT15.ty38 rfl rfl rfl ?_
    refine AS.callP rfl rfl rfl rfl TT15.en66 (own_spec q _ (hM q hg)) ?_
    refine AS.move rfl rfl rfl rfl ?_
    refine AS.store rfl rfl rfl rfl rfl rfl TT15.ty38 rfl rfl ?_
    refine AS.assign rfl rfl rfl rfl ?_
    refine AS.opsEnd ?_
    refine AS.retW Try.func18 rfl (.cell rfl TT15.ty38 rfl rfl rfl (.tmp rfl (.nil))) ?_
    exact RWk.drop [_, _, _] rfl ⟨by simp only [gotO, hg]; rfl, rfl⟩
theorem put_spec (s m : Nat) (v : Int) (M : List (Key × Object)) (log : List Evt) (tk : Tok) (o : Object) (H : AH) (hv : 0 ≤ v ∧ v ≤ 1000000) (htk : tk.grows = true) (hl : log.length ≤ 1000000) (hc : o.charge.length ≤ 1000000) : ACalls Try.prog [] 27 [.ptr s 0, encObj o] (stH s m v M log tk H) (fun x H' => (objRight (o.wv 1) = false ∧ x = .tup [.int .i64 0, .int .i64 1] ∧ H' = (stH s m v M log tk H)) ∨ (objRight (o.wv 1) = true ∧ mget M o.key = none ∧ 1000 ≤ M.length ∧ x = .tup [.int .i64 0, .int .i64 3] ∧ H' = (stH s m v M log tk H)) ∨ (objRight (o.wv 1) = true ∧ (mget M o.key = none → M.length < 1000) ∧ x = .tup [.int .i64 (v + 1), .int .i64 0] ∧ ∃ tk', tk'.grows = true ∧ H' = stH s m (v + 1) (mset M o.key (o.wv (v + 1))) (log ++ [(⟨0, o.wv (v + 1), 0, []⟩ : Evt)]) tk' H)) := by
  have hml : (mapAV encKey encObj M).length = M.length := by rw [mapAV, List.length_map]
  unfold stH
  refine ACalls.enter (n := 39) Try.func27 rfl rfl (Nat.le_of_ble_eq_true rfl) ?_
  refine AS.seq ?_
  refine AS.region rfl ?_
  refine AS.box rfl rfl rfl rfl rfl ?_
  intro b3
  refine AS.assign rfl rfl rfl rfl ?_
  refine AS.assign rfl rfl rfl rfl ?_
  refine AS.opsEnd ?_
  refine AS.seq ?_
  refine AS.region rfl ?_
  refine AS.fieldAddr rfl rfl rfl rfl TT15.fl38_1 ?_
  refine AS.store rfl rfl rfl rfl rfl rfl TT15.ty2 rfl rfl ?_
  refine AS.opsEnd ?_
  refine AS.seq ?_
  refine AS.seq ?_
  refine AS.region rfl ?_
  refine AS.move rfl rfl rfl rfl ?_
  refine AS.bin rfl rfl rfl rfl rfl (BinR.pnil TT15.u25) ?_
  refine AS.move rfl rfl rfl rfl ?_
  refine AS.load (y := encObj (o.wv 1)) rfl rfl rfl rfl TT15.ty38 rfl rfl rfl ?_
  refine AS.callP rfl rfl rfl rfl TT15.en69 (object_right (o.wv 1) _ hc) ?_
  refine AS.not rfl rfl rfl rfl rfl ?_
  refine AS.pick rfl rfl rfl rfl rfl ?_
  refine AS.opsEnd ?_
  refine AS.cond rfl (fun hc0 => ?_) (fun hc0 => ?_)
  · rw [Bool.not_eq_true'] at hc0
    refine AS.seq ?_
    refine AS.region rfl ?_
    refine AS.assign rfl rfl rfl rfl ?_
    refine AS.assign rfl rfl rfl rfl ?_
    refine AS.opsEnd ?_
    refine AS.retW Try.func27 rfl (.tmp rfl (.tmp rfl (.nil))) ?_
    exact RWk.drop [_] rfl (.inl ⟨hc0, rfl, rfl⟩)
  · rw [Bool.not_eq_false'] at hc0
    refine AS.skip ?_
    refine AS.seq ?_
    refine AS.seq ?_
    rcases hg : mget M o.key with _ | q
    · refine SA.startG TT15.mixed rfl ?_
      refine SA.rdG 0 [0] rfl (fun G env rest next => AS.move rfl rfl rfl rfl next) ?_
      refine SA.rdG 1 [17] rfl (fun G env rest next => AS.nilCheck rfl rfl rfl rfl rfl next) ?_
      refine SA.rdG 2 [18] rfl (fun G env rest next => AS.fieldAddr rfl rfl rfl rfl TT15.fl106_0 next) ?_
      refine SA.rdG 3 [19] rfl (fun G env rest next => AS.load rfl rfl rfl rfl TT15.ty104 rfl rfl rfl next) ?_
      refine SA.rdG 4 [3] rfl (fun G env rest next => AS.fieldAddr rfl rfl rfl rfl TT15.fl38_0 next) ?_
      refine SA.rdG 5 [21] rfl (fun G env rest next => AS.load (y := encKey o.key) rfl rfl rfl rfl TT15.ty35 rfl rfl rfl next) ?_
      refine SA.rdG 6 [20, 22] rfl (fun G env rest next => AS.lookupZ (m := M) (x := o.key) (encK := encKey) (encV := encObj) rfl rfl rfl rfl rfl TT15.mp104 keyR TT15.z38 hg rfl next) ?_
      refine SA.rdG 7 [23] rfl (fun G env rest next => AS.move rfl rfl rfl rfl next) ?_
      refine SA.rdG 8 [16] rfl (fun G env rest next => AS.extract rfl rfl rfl rfl rfl next) ?_
      refine SA.rdG 9 [16] rfl (fun G env rest next => AS.extract rfl rfl rfl rfl rfl next) ?_
      refine SA.new 10 [] rfl rfl rfl rfl (fun env rest next => AS.allocZ rfl rfl rfl TT15.z38 rfl next) ?_ ⟨[], rfl⟩
      intro b6
      refine SA.chg 11 [6, 24] rfl rfl rfl rfl (fun env rest next => AS.store rfl rfl rfl rfl rfl rfl TT15.ty38 rfl rfl next) ⟨trivial, ⟨(fun H _ env rest next => AS.extract rfl rfl rfl rfl rfl next), ⟨trivial, ⟨trivial, ⟨trivial, ⟨trivial, ⟨trivial, ⟨trivial, ⟨trivial, ⟨trivial, ⟨trivial, trivial⟩⟩⟩⟩⟩⟩⟩⟩⟩⟩⟩ ?_
      refine SA.rdA 12 [25] rfl (fun H env rest next => AS.assign rfl rfl rfl rfl next) ?_
      refine SA.done rfl rfl rfl ?_
      refine AS.seq ?_
      refine AS.region rfl ?_
      refine AS.move rfl rfl rfl rfl ?_
      refine AS.not rfl rfl rfl rfl rfl ?_
      refine AS.move rfl rfl rfl rfl ?_
      refine AS.move rfl rfl rfl rfl ?_
      refine AS.nilCheck rfl rfl rfl rfl rfl ?_
      refine AS.fieldAddr rfl rfl rfl rfl TT15.fl106_0 ?_
      refine AS.load rfl rfl rfl rfl TT15.ty104 rfl rfl rfl ?_
      refine AS.lenMap rfl rfl rfl rfl TT15.mp104 rfl ?_
      refine AS.bin rfl rfl rfl rfl rfl (BinR.geq rfl) ?_
      refine AS.pick rfl rfl rfl rfl rfl ?_
      refine AS.opsEnd ?_
      refine AS.cond rfl (fun hc1 => ?_) (fun hc1 => ?_)
      · refine AS.seq ?_
        refine AS.region rfl ?_
        refine AS.assign rfl rfl rfl rfl ?_
        refine AS.assign rfl rfl rfl rfl ?_
        refine AS.opsEnd ?_
        refine AS.retW Try.func27 rfl (.tmp rfl (.tmp rfl (.nil))) ?_
        exact RWk.drop [_, _] rfl (.inr (.inl ⟨hc0, rfl, by simp only [decide_eq_true_eq] at hc1; omega, rfl, rfl⟩))
      · refine AS.skip ?_
        refine AS.seq ?_
        refine AS.permH [] (stPerm [_, _] s m v M log tk H) ?_
        dsimp only [stH, List.cons_append, List.nil_append]
        refine AS.region rfl ?_
        refine AS.move rfl rfl rfl rfl ?_
        refine AS.load (y := encObj (o.wv 1)) rfl rfl rfl rfl TT15.ty38 rfl rfl rfl ?_
        refine AS.call rfl rfl rfl rfl TT15.en70 (written_spec s m v M log tk 0 (o.wv 1) _ hv htk hl hc) ?_
        rintro _ _ ⟨rfl, tk', h1, rfl⟩
        refine AS.assign rfl rfl rfl rfl ?_
        refine AS.assign rfl rfl rfl rfl ?_
        refine AS.opsEnd ?_
        refine AS.retW Try.func27 rfl (.tmp rfl (.tmp rfl (.nil))) ?_
        simp only [decide_eq_false_iff_not] at hc1
        exact RWk.permD [_, _] (stPerm [_, _] _ _ _ _ _ _ _).symm (.inr (.inr ⟨hc0, fun _ => by omega, rfl, tk', h1, rfl⟩))
    · refine SA.startG TT15.mixed rfl ?_
      refine SA.rdG 0 [0] rfl (fun G env rest next => AS.move rfl rfl rfl rfl next) ?_
      refine SA.rdG 1 [17] rfl (fun G env rest next => AS.nilCheck rfl rfl rfl rfl rfl next) ?_
      refine SA.rdG 2 [18] rfl (fun G env rest next => AS.fieldAddr rfl rfl rfl rfl TT15.fl106_0 next) ?_
      refine SA.rdG 3 [19] rfl (fun G env rest next => AS.load rfl rfl rfl rfl TT15.ty104 rfl rfl rfl next) ?_
      refine SA.rdG 4 [3] rfl (fun G env rest next => AS.fieldAddr rfl rfl rfl rfl TT15.fl38_0 next) ?_
      refine SA.rdG 5 [21] rfl (fun G env rest next => AS.load (y := encKey o.key) rfl rfl rfl rfl TT15.ty35 rfl rfl rfl next) ?_
      refine SA.rdG 6 [20, 22] rfl (fun G env rest next => AS.lookupZ (m := M) (x := o.key) (encK := encKey) (encV := encObj) rfl rfl rfl rfl rfl TT15.mp104 keyR TT15.z38 hg rfl next) ?_
      refine SA.rdG 7 [23] rfl (fun G env rest next => AS.move rfl rfl rfl rfl next) ?_
      refine SA.rdG 8 [16] rfl (fun G env rest next => AS.extract rfl rfl rfl rfl rfl next) ?_
      refine SA.rdG 9 [16] rfl (fun G env rest next => AS.extract rfl rfl rfl rfl rfl next) ?_
      refine SA.new 10 [] rfl rfl rfl rfl (fun env rest next => AS.allocZ rfl rfl rfl TT15.z38 rfl next) ?_ ⟨[], rfl⟩
      intro b6
      refine SA.chg 11 [6, 24] rfl rfl rfl rfl (fun env rest next => AS.store rfl rfl rfl rfl rfl rfl TT15.ty38 rfl rfl next) ⟨trivial, ⟨(fun H _ env rest next => AS.extract rfl rfl rfl rfl rfl next), ⟨trivial, ⟨trivial, ⟨trivial, ⟨trivial, ⟨trivial, ⟨trivial, ⟨trivial, ⟨trivial, ⟨trivial, trivial⟩⟩⟩⟩⟩⟩⟩⟩⟩⟩⟩ ?_
      refine SA.rdA 12 [25] rfl (fun H env rest next => AS.assign rfl rfl rfl rfl next) ?_
      refine SA.done rfl rfl rfl ?_
      refine AS.seq ?_
      refine AS.region rfl ?_
      refine AS.move rfl rfl rfl rfl ?_
      refine AS.not rfl rfl rfl rfl rfl ?_
      refine AS.move rfl rfl rfl rfl ?_
      refine AS.pass rfl rfl rfl ?_
      refine AS.pass rfl rfl rfl ?_
      refine AS.pass rfl rfl rfl ?_
      refine AS.pass rfl rfl rfl ?_
      refine AS.pass rfl rfl rfl ?_
      refine AS.pass rfl rfl rfl ?_
      refine AS.pick rfl rfl rfl rfl rfl ?_
      refine AS.opsEnd ?_
      refine AS.condF rfl ?_
      refine AS.skip ?_
      refine AS.seq ?_
      refine AS.permH [] (stPerm [_, _] s m v M log tk H) ?_
      dsimp only [stH, List.cons_append, List.nil_append]
      refine AS.region rfl ?_
      refine AS.move rfl rfl rfl rfl ?_
      refine AS.load (y := encObj (o.wv 1)) rfl rfl rfl rfl TT15.ty38 rfl rfl rfl ?_
      refine AS.call rfl rfl rfl rfl TT15.en70 (written_spec s m v M log tk 0 (o.wv 1) _ hv htk hl hc) ?_
      rintro _ _ ⟨rfl, tk', h1, rfl⟩
      refine AS.assign rfl rfl rfl rfl ?_
      refine AS.assign rfl rfl rfl rfl ?_
      refine AS.opsEnd ?_
      refine AS.retW Try.func27 rfl (.tmp rfl (.tmp rfl (.nil))) ?_
      exact RWk.permD [_, _] (stPerm [_, _] _ _ _ _ _ _ _).symm (.inr (.inr ⟨hc0, (fun h => by cases h), rfl, tk', h1, rfl⟩))
end Go.Proofs.Ytncecheccihjoaa
/- T16 -/
namespace Go.Proofs.Ytncecheccihjoaa.TT16
open Go Go.Proofs.Fw Go.Shelf
theorem b38 : bldI Go.Proofs.Try.prog 38 = some ([(.str ⟨#[]⟩), (.str ⟨#[]⟩), (.str ⟨#[]⟩), (.int .i64 0), (.str ⟨#[]⟩), (.bool false), (.bool false), (.slice [] .full)], [(0, 3), (3, 1), (4, 1), (5, 1), (6, 1), (7, 1)]) := by kernel_rfl
theorem b50 : bldI Go.Proofs.Try.prog 50 = some ([(.int .i64 0), (.str ⟨#[]⟩), (.str ⟨#[]⟩), (.str ⟨#[]⟩), (.int .i64 0), (.str ⟨#[]⟩), (.bool false), (.bool false), (.slice [] .full), (.int .i64 0), (.slice [] .full)], [(0, 1), (1, 8), (9, 1), (10, 1)]) := by kernel_rfl
theorem en100 : Enters Go.Proofs.Try.prog 100 := enters_of Go.Proofs.Try.func100 (by kernel_rfl) rfl
theorem en101 : Enters Go.Proofs.Try.prog 101 := enters_of Go.Proofs.Try.func101 (by kernel_rfl) rfl
theorem en102 : Enters Go.Proofs.Try.prog 102 := enters_of Go.Proofs.Try.func102 (by kernel_rfl) rfl
theorem en126 : Enters Go.Proofs.Try.prog 126 := enters_of Go.Proofs.Try.func126 (by kernel_rfl) rfl
theorem en133 : Enters Go.Proofs.Try.prog 133 := enters_of Go.Proofs.Try.func133 (by kernel_rfl) rfl
theorem en146 : Enters Go.Proofs.Try.prog 146 := enters_of Go.Proofs.Try.func146 (by kernel_rfl) rfl
theorem en147 : Enters Go.Proofs.Try.prog 147 := enters_of Go.Proofs.Try.func147 (by kernel_rfl) rfl
theorem en166 : Enters Go.Proofs.Try.prog 166 := enters_of Go.Proofs.Try.func166 (by kernel_rfl) rfl
theorem en175 : Enters Go.Proofs.Try.prog 175 := enters_of Go.Proofs.Try.func175 (by kernel_rfl) rfl
theorem en20 : Enters Go.Proofs.Try.prog 20 := enters_of Go.Proofs.Try.func20 (by kernel_rfl) rfl
theorem en21 : Enters Go.Proofs.Try.prog 21 := enters_of Go.Proofs.Try.func21 (by kernel_rfl) rfl
theorem en52 : Enters Go.Proofs.Try.prog 52 := enters_of Go.Proofs.Try.func52 (by kernel_rfl) rfl
theorem en66 : Enters Go.Proofs.Try.prog 66 := enters_of Go.Proofs.Try.func66 (by kernel_rfl) rfl
theorem en68 : Enters Go.Proofs.Try.prog 68 := enters_of Go.Proofs.Try.func68 (by kernel_rfl) rfl
theorem en69 : Enters Go.Proofs.Try.prog 69 := enters_of Go.Proofs.Try.func69 (by kernel_rfl) rfl
theorem en70 : Enters Go.Proofs.Try.prog 70 := enters_of Go.Proofs.Try.func70 (by kernel_rfl) rfl
theorem en71 : Enters Go.Proofs.Try.prog 71 := enters_of Go.Proofs.Try.func71 (by kernel_rfl) rfl
theorem fl106_0 : fldI Go.Proofs.Try.prog 106 0 = some 0 := by kernel_rfl
theorem fl106_1 : fldI Go.Proofs.Try.prog 106 1 = some 1 := by kernel_rfl
theorem fl106_2 : fldI Go.Proofs.Try.prog 106 2 = some 2 := by kernel_rfl
theorem fl38_0 : fldI Go.Proofs.Try.prog 38 0 = some 0 := by kernel_rfl
theorem fl38_1 : fldI Go.Proofs.Try.prog 38 1 = some 3 := by kernel_rfl
theorem fl38_5 : fldI Go.Proofs.Try.prog 38 5 = some 7 := by kernel_rfl
theorem fl50_0 : fldI Go.Proofs.Try.prog 50 0 = some 0 := by kernel_rfl
theorem fl50_1 : fldI Go.Proofs.Try.prog 50 1 = some 1 := by kernel_rfl
theorem fl50_2 : fldI Go.Proofs.Try.prog 50 2 = some 9 := by kernel_rfl
theorem fl50_3 : fldI Go.Proofs.Try.prog 50 3 = some 10 := by kernel_rfl
theorem mixed : Go.Proofs.Try.prog.follows .mixedOrders = true := by kernel_rfl
theorem mp104 : mapI Go.Proofs.Try.prog 104 = some (35, 38) := by kernel_rfl
theorem ps35 : plainS Go.Proofs.Try.prog 35 = true := by kernel_rfl
theorem sl28 : sliI Go.Proofs.Try.prog 28 = some (50, 11, 144) := by kernel_rfl
theorem sl36 : sliI Go.Proofs.Try.prog 36 = some (116, 2, 24) := by kernel_rfl
theorem sl48 : sliI Go.Proofs.Try.prog 48 = some (38, 8, 104) := by kernel_rfl
theorem ty104 : tyI Go.Proofs.Try.prog 104 = some (1, false) := by kernel_rfl
theorem ty2 : tyI Go.Proofs.Try.prog 2 = some (1, false) := by kernel_rfl
theorem ty28 : tyI Go.Proofs.Try.prog 28 = some (1, false) := by kernel_rfl
theorem ty35 : tyI Go.Proofs.Try.prog 35 = some (3, true) := by kernel_rfl
theorem ty36 : tyI Go.Proofs.Try.prog 36 = some (1, false) := by kernel_rfl
theorem ty38 : tyI Go.Proofs.Try.prog 38 = some (8, true) := by kernel_rfl
theorem ty47 : tyI Go.Proofs.Try.prog 47 = some (1, false) := by kernel_rfl
theorem ty48 : tyI Go.Proofs.Try.prog 48 = some (1, false) := by kernel_rfl
theorem ty50 : tyI Go.Proofs.Try.prog 50 = some (11, true) := by kernel_rfl
theorem u180 : Go.Proofs.Try.prog.underlying 180 = some (.int .u64) := by kernel_rfl
theorem u25 : Go.Proofs.Try.prog.underlying 25 = some (.pointer 106) := by kernel_rfl
theorem u28 : Go.Proofs.Try.prog.underlying 28 = some (.slice 50) := by kernel_rfl
theorem u3 : Go.Proofs.Try.prog.underlying 3 = some (.int .i64) := by kernel_rfl
theorem u35 : Go.Proofs.Try.prog.underlying 35 = some (.struct #[⟨"Kind", 9, 0, false, "", "", 0⟩, ⟨"Space", 9, 1, false, "", "", 16⟩, ⟨"Name", 9, 2, false, "", "", 32⟩]) := by kernel_rfl
theorem u36 : Go.Proofs.Try.prog.underlying 36 = some (.slice 116) := by kernel_rfl
theorem u48 : Go.Proofs.Try.prog.underlying 48 = some (.slice 38) := by kernel_rfl
theorem u50 : Go.Proofs.Try.prog.underlying 50 = some (.struct #[⟨"Kind", 47, 0, false, "", "", 0⟩, ⟨"Object", 38, 1, false, "", "", 8⟩, ⟨"Version", 2, 9, false, "", "", 112⟩, ⟨"Objects", 48, 10, false, "", "", 120⟩]) := by kernel_rfl
theorem z116 : zI Go.Proofs.Try.prog 116 = some (.agg #[(.string ⟨#[]⟩), (.int .i64 0)]) := by kernel_rfl
theorem z38 : zI Go.Proofs.Try.prog 38 = some (.agg #[(.string ⟨#[]⟩), (.string ⟨#[]⟩), (.string ⟨#[]⟩), (.int .i64 0), (.string ⟨#[]⟩), (.bool false), (.bool false), (.slice none 0 0)]) := by kernel_rfl
theorem z50 : zI Go.Proofs.Try.prog 50 = some (.agg #[(.int .i64 0), (.string ⟨#[]⟩), (.string ⟨#[]⟩), (.string ⟨#[]⟩), (.int .i64 0), (.string ⟨#[]⟩), (.bool false), (.bool false), (.slice none 0 0), (.int .i64 0), (.slice none 0 0)]) := by kernel_rfl
end Go.Proofs.Ytncecheccihjoaa.TT16
namespace Go.Proofs.Ytncecheccihjoaa
open Go Go.Proofs.Fw Go.Proofs
set_option linter.unusedVariables false
set_option linter.unusedSimpArgs false
set_option maxRecDepth 20000
set_option maxHeartbeats 4000000
theorem delete_spec (s m : Nat) (v : Int) (M : List (Key × Object)) (log : List Evt) (tk : Tok) (k : Key) (H : AH) (hv : 0 ≤ v ∧ v ≤ 1000000) (htk : tk.grows = true) (hl : log.length ≤ 1000000) : ACalls Try.prog [] 28 [.ptr s 0, encKey k] (stH s m v M log tk H) (fun x H' => (keyRight k = false ∧ x = .tup [.int .i64 0, .int .i64 1] ∧ H' = (stH s m v M log tk H)) ∨ (keyRight k = true ∧ mget M k = none ∧ x = .tup [.int .i64 0, .int .i64 4] ∧ H' = (stH s m v M log tk H)) ∨ (keyRight k = true ∧ (mget M k).isSome = true ∧ x = .tup [.int .i64 (v + 1), .int .i64 0] ∧ ∃ tk', tk'.grows = true ∧ H' = stH s m (v + 1) (mdel M k) (log ++ [(⟨1, (⟨k, 0, ⟨#[]⟩, false, false, []⟩ : Object).wv (v + 1), 0, []⟩ : Evt)]) tk' H)) := by
  unfold stH
  refine ACalls.enter (n := 35) Try.func28 rfl rfl (Nat.le_of_ble_eq_true rfl) ?_
  refine AS.seq ?_
  refine AS.region rfl ?_
  refine AS.box rfl rfl rfl rfl rfl ?_
  intro b3
  refine AS.assign rfl rfl rfl rfl ?_
  refine AS.assign rfl rfl rfl rfl ?_
  refine AS.opsEnd ?_
  refine AS.seq ?_
  refine AS.seq ?_
  refine AS.region rfl ?_
  refine AS.move rfl rfl rfl rfl ?_
  refine AS.bin rfl rfl rfl rfl rfl (BinR.pnil TT16.u25) ?_
  refine AS.move rfl rfl rfl rfl ?_
  refine AS.load (y := encKey k) rfl rfl rfl rfl TT16.ty35 rfl rfl rfl ?_
  refine AS.callP rfl rfl rfl rfl TT16.en71 (label_key _ _) ?_
  refine AS.not rfl rfl rfl rfl rfl ?_
  refine AS.pick rfl rfl rfl rfl rfl ?_
  refine AS.opsEnd ?_
  refine AS.cond rfl (fun hc0 => ?_) (fun hc0 => ?_)
  · rw [Bool.not_eq_true'] at hc0
    refine AS.seq ?_
    refine AS.region rfl ?_
    refine AS.assign rfl rfl rfl rfl ?_
    refine AS.assign rfl rfl rfl rfl ?_
    refine AS.opsEnd ?_
    refine AS.retW Try.func28 rfl (.tmp rfl (.tmp rfl (.nil))) ?_
    exact RWk.drop [_] rfl (.inl ⟨hc0, rfl, rfl⟩)
  · rw [Bool.not_eq_false'] at hc0
    refine AS.skip ?_
    refine AS.seq ?_
    refine AS.seq ?_
    rcases hg : mget M k with _ | q
    · refine SA.startG TT16.mixed rfl ?_
      refine SA.rdG 0 [0] rfl (fun G env rest next => AS.move rfl rfl rfl rfl next) ?_
      refine SA.rdG 1 [16] rfl (fun G env rest next => AS.nilCheck rfl rfl rfl rfl rfl next) ?_
      refine SA.rdG 2 [17] rfl (fun G env rest next => AS.fieldAddr rfl rfl rfl rfl TT16.fl106_0 next) ?_
      refine SA.rdG 3 [18] rfl (fun G env rest next => AS.load rfl rfl rfl rfl TT16.ty104 rfl rfl rfl next) ?_
      refine SA.rdG 4 [3] rfl (fun G env rest next => AS.load (y := encKey k) rfl rfl rfl rfl TT16.ty35 rfl rfl rfl next) ?_
      refine SA.rdG 5 [19, 20] rfl (fun G env rest next => AS.lookupZ (m := M) (x := k) (encK := encKey) (encV := encObj) rfl rfl rfl rfl rfl TT16.mp104 keyR TT16.z38 hg rfl next) ?_
      refine SA.rdG 6 [21] rfl (fun G env rest next => AS.move rfl rfl rfl rfl next) ?_
      refine SA.rdG 7 [15] rfl (fun G env rest next => AS.extract rfl rfl rfl rfl rfl next) ?_
      refine SA.rdG 8 [15] rfl (fun G env rest next => AS.extract rfl rfl rfl rfl rfl next) ?_
      refine SA.new 9 [] rfl rfl rfl rfl (fun env rest next => AS.allocZ rfl rfl rfl TT16.z38 rfl next) ?_ ⟨[], rfl⟩
      intro b6
      refine SA.chg 10 [6, 22] rfl rfl rfl rfl (fun env rest next => AS.store rfl rfl rfl rfl rfl rfl TT16.ty38 rfl rfl next) ⟨trivial, ⟨(fun H _ env rest next => AS.extract rfl rfl rfl rfl rfl next), ⟨trivial, ⟨trivial, ⟨trivial, ⟨trivial, ⟨trivial, ⟨trivial, ⟨trivial, ⟨trivial, trivial⟩⟩⟩⟩⟩⟩⟩⟩⟩⟩ ?_
      refine SA.rdA 11 [23] rfl (fun H env rest next => AS.assign rfl rfl rfl rfl next) ?_
      refine SA.done rfl rfl rfl ?_
      refine AS.seq ?_
      refine AS.region rfl ?_
      refine AS.move rfl rfl rfl rfl ?_
      refine AS.not rfl rfl rfl rfl rfl ?_
      refine AS.opsEnd ?_
      refine AS.condT rfl ?_
      refine AS.seq ?_
      refine AS.region rfl ?_
      refine AS.assign rfl rfl rfl rfl ?_
      refine AS.assign rfl rfl rfl rfl ?_
      refine AS.opsEnd ?_
      refine AS.retW Try.func28 rfl (.tmp rfl (.tmp rfl (.nil))) ?_
      exact RWk.drop [_, _] rfl (.inr (.inl ⟨hc0, rfl, rfl, rfl⟩))
    · refine SA.startG TT16.mixed rfl ?_
      refine SA.rdG 0 [0] rfl (fun G env rest next => AS.move rfl rfl rfl rfl next) ?_
      refine SA.rdG 1 [16] rfl (fun G env rest next => AS.nilCheck rfl rfl rfl rfl rfl next) ?_
      refine SA.rdG 2 [17] rfl (fun G env rest next => AS.fieldAddr rfl rfl rfl rfl TT16.fl106_0 next) ?_
      refine SA.rdG 3 [18] rfl (fun G env rest next => AS.load rfl rfl rfl rfl TT16.ty104 rfl rfl rfl next) ?_
      refine SA.rdG 4 [3] rfl (fun G env rest next => AS.load (y := encKey k) rfl rfl rfl rfl TT16.ty35 rfl rfl rfl next) ?_
      refine SA.rdG 5 [19, 20] rfl (fun G env rest next => AS.lookupZ (m := M) (x := k) (encK := encKey) (encV := encObj) rfl rfl rfl rfl rfl TT16.mp104 keyR TT16.z38 hg rfl next) ?_
      refine SA.rdG 6 [21] rfl (fun G env rest next => AS.move rfl rfl rfl rfl next) ?_
      refine SA.rdG 7 [15] rfl (fun G env rest next => AS.extract rfl rfl rfl rfl rfl next) ?_
      refine SA.rdG 8 [15] rfl (fun G env rest next => AS.extract rfl rfl rfl rfl rfl next) ?_
      refine SA.new 9 [] rfl rfl rfl rfl (fun env rest next => AS.allocZ rfl rfl rfl TT16.z38 rfl next) ?_ ⟨[], rfl⟩
      intro b6
      refine SA.chg 10 [6, 22] rfl rfl rfl rfl (fun env rest next => AS.store rfl rfl rfl rfl rfl rfl TT16.ty38 rfl rfl next) ⟨trivial, ⟨(fun H _ env rest next => AS.extract rfl rfl rfl rfl rfl next), ⟨trivial, ⟨trivial, ⟨trivial, ⟨trivial, ⟨trivial, ⟨trivial, ⟨trivial, ⟨trivial, trivial⟩⟩⟩⟩⟩⟩⟩⟩⟩⟩ ?_
      refine SA.rdA 11 [23] rfl (fun H env rest next => AS.assign rfl rfl rfl rfl next) ?_
      refine SA.done rfl rfl rfl ?_
      refine AS.seq ?_
      refine AS.region rfl ?_
      refine AS.move rfl rfl rfl rfl ?_
      refine AS.not rfl rfl rfl rfl rfl ?_
      refine AS.opsEnd ?_
      refine AS.condF rfl ?_
      refine AS.skip ?_
      refine AS.seq ?_
      refine SA.start1 TT16.mixed rfl ?_
      refine SA.rd 0 [0] rfl (fun env rest next => AS.move rfl rfl rfl rfl next) ?_
      refine SA.rd 1 [26] rfl (fun env rest next => AS.nilCheck rfl rfl rfl rfl rfl next) ?_
      refine SA.rd 2 [27] rfl (fun env rest next => AS.fieldAddr rfl rfl rfl rfl TT16.fl106_0 next) ?_
      refine SA.rd 3 [28] rfl (fun env rest next => AS.load rfl rfl rfl rfl TT16.ty104 rfl rfl rfl next) ?_
      refine SA.rd 4 [3] rfl (fun env rest next => AS.load (y := encKey k) rfl rfl rfl rfl TT16.ty35 rfl rfl rfl next) ?_
      refine SA.chg 5 [29, 30] rfl rfl rfl rfl (fun env rest next => AS.delete (m := M) (x := k) (encK := encKey) (encV := encObj) rfl rfl rfl rfl rfl TT16.mp104 keyR next) ⟨trivial, ⟨trivial, ⟨trivial, ⟨trivial, ⟨trivial, trivial⟩⟩⟩⟩⟩ ?_
      refine SA.done rfl rfl rfl ?_
      refine AS.seq ?_
      refine AS.permH [] (stPerm [_, _] s m v (mdel M k) log tk H) ?_
      dsimp only [stH, List.cons_append, List.nil_append]
      refine AS.region rfl ?_
      refine AS.move rfl rfl rfl rfl ?_
      refine AS.load (y := encKey k) rfl rfl rfl rfl TT16.ty35 rfl rfl rfl ?_
      refine AS.build rfl rfl rfl TT16.b38 rfl rfl ?_
      refine AS.weak 33 (encObj (⟨k, 0, ⟨#[]⟩, false, false, []⟩ : Object)) rfl (AVLe.agg (.cons (.refl _) (.cons (.refl _) (.cons (.refl _) (.cons (.refl _) (.cons (.refl _) (.cons (.refl _) (.cons (.refl _) (.cons (AVLe.tok _ _) .nil))))))))) ?_
      refine AS.call rfl rfl rfl rfl TT16.en70 (written_spec s m v (mdel M k) log tk 1 (⟨k, 0, ⟨#[]⟩, false, false, []⟩ : Object) _ hv htk hl (Nat.zero_le _)) ?_
      rintro _ _ ⟨rfl, tk', h1, rfl⟩
      refine AS.assign rfl rfl rfl rfl ?_
      refine AS.assign rfl rfl rfl rfl ?_
      refine AS.opsEnd ?_
      refine AS.retW Try.func28 rfl (.tmp rfl (.tmp rfl (.nil))) ?_
      exact RWk.permD [_, _] (stPerm [_, _] _ _ _ _ _ _ _).symm (.inr (.inr ⟨hc0, rfl, rfl, tk', h1, rfl⟩))
theorem log_spec (s m : Nat) (v : Int) (M : List (Key × Object)) (log : List Evt) (tk : Tok) (H : AH) (hl : log.length ≤ 1000000) (hch : ∀ e ∈ log, e.objs.length ≤ 1000000 ∧ e.obj.charge.length ≤ 1000000 ∧ ∀ o ∈ e.objs, o.charge.length ≤ 1000000) : ACalls Try.prog [] 26 [.ptr s 0] (stH s m v M log tk H) (fun x H' => x = .slice (log.map encEv) .any ∧ H' = (stH s m v M log tk H)) := by
  unfold stH
  refine ACalls.enter (n := 24) Try.func26 rfl rfl (Nat.le_of_ble_eq_true rfl) ?_
  refine AS.seq ?_
  refine AS.region rfl ?_
  refine AS.assign rfl rfl rfl rfl ?_
  refine AS.opsEnd ?_
  refine AS.seq ?_
  refine AS.seq ?_
  refine AS.region rfl ?_
  refine AS.move rfl rfl rfl rfl ?_
  refine AS.bin rfl rfl rfl rfl rfl (BinR.pnil TT16.u25) ?_
  refine AS.opsEnd ?_
  refine AS.condF rfl ?_
  refine AS.skip ?_
  refine AS.seq ?_
  refine AS.region rfl ?_
  refine AS.assign rfl rfl rfl rfl ?_
  refine AS.opsEnd ?_
  refine AS.seq ?_
  refine AS.seq ?_
  refine AS.region rfl ?_
  refine AS.move rfl rfl rfl rfl ?_
  refine AS.nilCheck rfl rfl rfl rfl rfl ?_
  refine AS.fieldAddr rfl rfl rfl rfl TT16.fl106_2 ?_
  refine AS.load rfl rfl rfl rfl TT16.ty28 rfl rfl rfl ?_
  refine AS.len rfl rfl rfl rfl (by first | exact lenT_sl TT16.u28 | exact lenT_ms TT16.u28 | (rw [TT16.u28]; rfl)) rfl (lenMap _ _) ?_
  refine AS.move rfl rfl rfl rfl ?_
  refine AS.opsEnd ?_
  refine AS.block ?_
  refine AS.loopI (α := Nat × List Evt × Tok) (fun z => z.1 ≤ log.length ∧ z.2.1 = log.take z.1 ∧ z.2.2.grows = true) (fun z => log.length - z.1) (fun z => [(3, .slice (z.2.1.map encEv) z.2.2), (13, .int .i64 z.1)]) [(11, _), (12, _)] (fun z => G z.2.2 (z.2.1.map encEv).length 11 50 ++ (stH s m v M log tk H)) (0, [], .full) ⟨Nat.zero_le _, by simp, rfl⟩ (.cons rfl (.cons rfl (.cons rfl (.cons rfl (.nil))))) rfl (fun z hI l0_ih => ?_)
  obtain ⟨i, out, tk0⟩ := z
  dsimp only [stH] at hI l0_ih ⊢
  refine AS.seq ?_
  refine AS.region rfl ?_
  refine AS.bin rfl rfl rfl rfl rfl (BinR.lss rfl) ?_
  refine AS.opsEnd ?_
  refine AS.seq ?_
  refine AS.cond rfl (fun hc1 => ?_) (fun hc1 => ?_)
  · have hi : i < log.length := by simp only [decide_eq_true_eq] at hc1; omega
    obtain ⟨e, he⟩ := getAt hi
    have hol : out.length = i := by rw [hI.2.1, List.length_take]; omega
    have hce := hch e (List.mem_of_getElem? he)
    refine AS.skip ?_
    refine AS.seq ?_
    refine AS.block ?_
    refine AS.seq ?_
    refine AS.region rfl ?_
    refine AS.indexAddr rfl rfl rfl rfl rfl TT16.sl28 (Int.natCast_nonneg _) (map_get _ _ he) rfl ?_
    refine AS.iload (y := encEv e) rfl rfl rfl rfl TT16.ty50 rfl rfl rfl ?_
    refine AS.allocZ rfl rfl rfl TT16.z50 rfl ?_
    intro b5
    refine AS.store rfl rfl rfl rfl rfl rfl TT16.ty50 rfl rfl ?_
    refine AS.opsEnd ?_
    refine AS.region rfl ?_
    refine AS.move rfl rfl rfl rfl ?_
    refine AS.load (y := encEv e) rfl rfl rfl rfl TT16.ty50 rfl rfl rfl ?_
    refine AS.callP rfl rfl rfl rfl TT16.en68 (evown_spec e _ hce.1 hce.2.1 hce.2.2) ?_
    refine AS.buildSlice1 rfl rfl rfl TT16.sl28 rfl rfl rfl ?_
    refine AS.append1 (enc := encEv) (a := e) rfl rfl rfl rfl rfl TT16.sl28 hI.2.2 rfl encEv_sz encEv_flat (by omega) ?_
    intro tk1 h1
    refine AS.assign rfl rfl rfl rfl ?_
    refine AS.opsEnd ?_
    refine AS.dropH (G _ _ _ _) [_] rfl ?_
    refine AS.inBlock ?_
    refine AS.region rfl ?_
    refine AS.bin rfl rfl rfl rfl rfl (BinR.add (w64 (by omega) (by omega))) ?_
    refine AS.move rfl rfl rfl rfl ?_
    refine AS.opsEnd ?_
    exact AS.nextI (l0_ih (i + 1, out ++ [e], tk1) ⟨hi, by dsimp only; rw [hI.2.1, List.take_add_one, he]; rfl, h1⟩ (by dsimp only; omega)) [] (.cons rfl (.cons rfl (.cons rfl (.cons rfl (.nil))))) rfl
  · have hfin : out = log := by rw [hI.2.1, List.take_of_length_le (by simp only [decide_eq_false_iff_not] at hc1; omega)]
    subst hfin
    refine AS.loose 3 rfl ?_
    refine AS.dropF (G _ _ _ _) rfl ?_
    refine AS.exit rfl ?_
    refine AS.seq ?_
    refine AS.region rfl ?_
    refine AS.move rfl rfl rfl rfl ?_
    refine AS.assign rfl rfl rfl rfl ?_
    refine AS.opsEnd ?_
    refine AS.retW Try.func26 rfl (.tmp rfl (.nil)) ?_
    exact RWk.drop [] rfl ⟨rfl, rfl⟩
end Go.Proofs.Ytncecheccihjoaa
/- T17 -/
namespace Go.Proofs.Ytncecheccihjoaa.TT17
open Go Go.Proofs.Fw Go.Shelf
theorem b38 : bldI Go.Proofs.Try.prog 38 = some ([(.str ⟨#[]⟩), (.str ⟨#[]⟩), (.str ⟨#[]⟩), (.int .i64 0), (.str ⟨#[]⟩), (.bool false), (.bool false), (.slice [] .full)], [(0, 3), (3, 1), (4, 1), (5, 1), (6, 1), (7, 1)]) := by kernel_rfl
theorem b50 : bldI Go.Proofs.Try.prog 50 = some ([(.int .i64 0), (.str ⟨#[]⟩), (.str ⟨#[]⟩), (.str ⟨#[]⟩), (.int .i64 0), (.str ⟨#[]⟩), (.bool false), (.bool false), (.slice [] .full), (.int .i64 0), (.slice [] .full)], [(0, 1), (1, 8), (9, 1), (10, 1)]) := by kernel_rfl
theorem en100 : Enters Go.Proofs.Try.prog 100 := enters_of Go.Proofs.Try.func100 (by kernel_rfl) rfl
theorem en101 : Enters Go.Proofs.Try.prog 101 := enters_of Go.Proofs.Try.func101 (by kernel_rfl) rfl
theorem en102 : Enters Go.Proofs.Try.prog 102 := enters_of Go.Proofs.Try.func102 (by kernel_rfl) rfl
theorem en126 : Enters Go.Proofs.Try.prog 126 := enters_of Go.Proofs.Try.func126 (by kernel_rfl) rfl
theorem en133 : Enters Go.Proofs.Try.prog 133 := enters_of Go.Proofs.Try.func133 (by kernel_rfl) rfl
theorem en146 : Enters Go.Proofs.Try.prog 146 := enters_of Go.Proofs.Try.func146 (by kernel_rfl) rfl
theorem en147 : Enters Go.Proofs.Try.prog 147 := enters_of Go.Proofs.Try.func147 (by kernel_rfl) rfl
theorem en166 : Enters Go.Proofs.Try.prog 166 := enters_of Go.Proofs.Try.func166 (by kernel_rfl) rfl
theorem en175 : Enters Go.Proofs.Try.prog 175 := enters_of Go.Proofs.Try.func175 (by kernel_rfl) rfl
theorem en20 : Enters Go.Proofs.Try.prog 20 := enters_of Go.Proofs.Try.func20 (by kernel_rfl) rfl
theorem en21 : Enters Go.Proofs.Try.prog 21 := enters_of Go.Proofs.Try.func21 (by kernel_rfl) rfl
theorem en52 : Enters Go.Proofs.Try.prog 52 := enters_of Go.Proofs.Try.func52 (by kernel_rfl) rfl
theorem en61 : Enters Go.Proofs.Try.prog 61 := enters_of Go.Proofs.Try.func61 (by kernel_rfl) rfl
theorem en66 : Enters Go.Proofs.Try.prog 66 := enters_of Go.Proofs.Try.func66 (by kernel_rfl) rfl
theorem en68 : Enters Go.Proofs.Try.prog 68 := enters_of Go.Proofs.Try.func68 (by kernel_rfl) rfl
theorem en69 : Enters Go.Proofs.Try.prog 69 := enters_of Go.Proofs.Try.func69 (by kernel_rfl) rfl
theorem en70 : Enters Go.Proofs.Try.prog 70 := enters_of Go.Proofs.Try.func70 (by kernel_rfl) rfl
theorem en71 : Enters Go.Proofs.Try.prog 71 := enters_of Go.Proofs.Try.func71 (by kernel_rfl) rfl
theorem fl106_0 : fldI Go.Proofs.Try.prog 106 0 = some 0 := by kernel_rfl
theorem fl106_1 : fldI Go.Proofs.Try.prog 106 1 = some 1 := by kernel_rfl
theorem fl106_2 : fldI Go.Proofs.Try.prog 106 2 = some 2 := by kernel_rfl
theorem fl38_0 : fldI Go.Proofs.Try.prog 38 0 = some 0 := by kernel_rfl
theorem fl38_1 : fldI Go.Proofs.Try.prog 38 1 = some 3 := by kernel_rfl
theorem fl38_5 : fldI Go.Proofs.Try.prog 38 5 = some 7 := by kernel_rfl
theorem fl50_0 : fldI Go.Proofs.Try.prog 50 0 = some 0 := by kernel_rfl
theorem fl50_1 : fldI Go.Proofs.Try.prog 50 1 = some 1 := by kernel_rfl
theorem fl50_2 : fldI Go.Proofs.Try.prog 50 2 = some 9 := by kernel_rfl
theorem fl50_3 : fldI Go.Proofs.Try.prog 50 3 = some 10 := by kernel_rfl
theorem mixed : Go.Proofs.Try.prog.follows .mixedOrders = true := by kernel_rfl
theorem mp104 : mapI Go.Proofs.Try.prog 104 = some (35, 38) := by kernel_rfl
theorem ps35 : plainS Go.Proofs.Try.prog 35 = true := by kernel_rfl
theorem sl28 : sliI Go.Proofs.Try.prog 28 = some (50, 11, 144) := by kernel_rfl
theorem sl36 : sliI Go.Proofs.Try.prog 36 = some (116, 2, 24) := by kernel_rfl
theorem sl48 : sliI Go.Proofs.Try.prog 48 = some (38, 8, 104) := by kernel_rfl
theorem ty104 : tyI Go.Proofs.Try.prog 104 = some (1, false) := by kernel_rfl
theorem ty2 : tyI Go.Proofs.Try.prog 2 = some (1, false) := by kernel_rfl
theorem ty28 : tyI Go.Proofs.Try.prog 28 = some (1, false) := by kernel_rfl
theorem ty35 : tyI Go.Proofs.Try.prog 35 = some (3, true) := by kernel_rfl
theorem ty36 : tyI Go.Proofs.Try.prog 36 = some (1, false) := by kernel_rfl
theorem ty38 : tyI Go.Proofs.Try.prog 38 = some (8, true) := by kernel_rfl
theorem ty47 : tyI Go.Proofs.Try.prog 47 = some (1, false) := by kernel_rfl
theorem ty48 : tyI Go.Proofs.Try.prog 48 = some (1, false) := by kernel_rfl
theorem ty50 : tyI Go.Proofs.Try.prog 50 = some (11, true) := by kernel_rfl
theorem u180 : Go.Proofs.Try.prog.underlying 180 = some (.int .u64) := by kernel_rfl
theorem u25 : Go.Proofs.Try.prog.underlying 25 = some (.pointer 106) := by kernel_rfl
theorem u28 : Go.Proofs.Try.prog.underlying 28 = some (.slice 50) := by kernel_rfl
theorem u3 : Go.Proofs.Try.prog.underlying 3 = some (.int .i64) := by kernel_rfl
theorem u35 : Go.Proofs.Try.prog.underlying 35 = some (.struct #[⟨"Kind", 9, 0, false, "", "", 0⟩, ⟨"Space", 9, 1, false, "", "", 16⟩, ⟨"Name", 9, 2, false, "", "", 32⟩]) := by kernel_rfl
theorem u36 : Go.Proofs.Try.prog.underlying 36 = some (.slice 116) := by kernel_rfl
theorem u48 : Go.Proofs.Try.prog.underlying 48 = some (.slice 38) := by kernel_rfl
theorem u50 : Go.Proofs.Try.prog.underlying 50 = some (.struct #[⟨"Kind", 47, 0, false, "", "", 0⟩, ⟨"Object", 38, 1, false, "", "", 8⟩, ⟨"Version", 2, 9, false, "", "", 112⟩, ⟨"Objects", 48, 10, false, "", "", 120⟩]) := by kernel_rfl
theorem z116 : zI Go.Proofs.Try.prog 116 = some (.agg #[(.string ⟨#[]⟩), (.int .i64 0)]) := by kernel_rfl
theorem z38 : zI Go.Proofs.Try.prog 38 = some (.agg #[(.string ⟨#[]⟩), (.string ⟨#[]⟩), (.string ⟨#[]⟩), (.int .i64 0), (.string ⟨#[]⟩), (.bool false), (.bool false), (.slice none 0 0)]) := by kernel_rfl
theorem z50 : zI Go.Proofs.Try.prog 50 = some (.agg #[(.int .i64 0), (.string ⟨#[]⟩), (.string ⟨#[]⟩), (.string ⟨#[]⟩), (.int .i64 0), (.string ⟨#[]⟩), (.bool false), (.bool false), (.slice none 0 0), (.int .i64 0), (.slice none 0 0)]) := by kernel_rfl
end Go.Proofs.Ytncecheccihjoaa.TT17
namespace Go.Proofs.Ytncecheccihjoaa
open Go Go.Proofs.Fw Go.Proofs
set_option linter.unusedVariables false
set_option linter.unusedSimpArgs false
set_option maxRecDepth 20000
set_option maxHeartbeats 4000000
def valsOf (M : List (Key × Object)) : List Object := M.map (·.2)

theorem snapshot_spec (s m : Nat) (v : Int) (M : List (Key × Object)) (log : List Evt) (tk : Tok) (H : AH) (hl : M.length ≤ 1000000) (hk : ∀ o ∈ valsOf M, keyFits o.key) (ha : Apart (valsOf M)) (hch : ∀ o ∈ valsOf M, o.charge.length ≤ 1000000) : ACalls Try.prog [] 22 [.ptr s 0] (stH s m v M log tk H) (fun x H' => x = encEv (⟨2, noObj, v, sortO (valsOf M)⟩ : Evt) ∧ H' = (stH s m v M log tk H)) := by
  unfold stH
  refine ACalls.enter (n := 29) Try.func22 rfl rfl (Nat.le_of_ble_eq_true rfl) ?_
  refine AS.seq ?_
  refine AS.region rfl ?_
  refine AS.allocZ rfl rfl rfl TT17.z50 rfl ?_
  intro b2
  refine AS.opsEnd ?_
  refine AS.seq ?_
  refine AS.seq ?_
  refine AS.region rfl ?_
  refine AS.move rfl rfl rfl rfl ?_
  refine AS.bin rfl rfl rfl rfl rfl (BinR.pnil TT17.u25) ?_
  refine AS.opsEnd ?_
  refine AS.condF rfl ?_
  refine AS.skip ?_
  refine AS.seq ?_
  refine AS.region rfl ?_
  refine AS.assign rfl rfl rfl rfl ?_
  refine AS.opsEnd ?_
  refine AS.seq ?_
  refine AS.seq ?_
  refine AS.region rfl ?_
  refine AS.move rfl rfl rfl rfl ?_
  refine AS.nilCheck rfl rfl rfl rfl rfl ?_
  refine AS.fieldAddr rfl rfl rfl rfl TT17.fl106_0 ?_
  refine AS.load rfl rfl rfl rfl TT17.ty104 rfl rfl rfl ?_
  refine AS.rangeMap (m := M) (encK := encKey) (encV := encObj) rfl rfl rfl rfl TT17.mp104 (fun sm c => (b2, _) :: (s, .row [.map m, .int .i64 v, .slice (log.map encEv) tk] 106) :: (m, .mapB (mapSt encKey encObj sm) c) :: (G tk (log.map encEv).length 11 50 ++ H)) ?_
  intro it sm c hsm hnd
  refine AS.opsEnd ?_
  refine AS.block ?_
  refine AS.loopI (α := List (Nat × Key × Object) × Tok) (fun z => (z.1 ++ left sm (z.1.map (·.1))).Perm sm ∧ z.2.grows = true) (fun z => (left sm (z.1.map (·.1))).length) (fun z => [(3, .slice ((z.1.map fun e => e.2.2).map encObj) z.2)]) [(0, _), (2, _), (13, _)] (fun z => (it, .miter m c (z.1.map (·.1))) :: (b2, _) :: (s, .row [.map m, .int .i64 v, .slice (log.map encEv) tk] 106) :: (m, .mapB (mapSt encKey encObj sm) c) :: (G z.2 ((z.1.map fun e => e.2.2).map encObj).length 8 38 ++ (G tk (log.map encEv).length 11 50 ++ H))) ([], .full) ⟨left_start sm, rfl⟩ (.cons rfl (.cons rfl (.cons rfl (.cons rfl (.nil))))) rfl (fun z hI l0_ih => ?_)
  obtain ⟨vis, tk0⟩ := z
  dsimp only at hI l0_ih ⊢
  have hvl : vis.length ≤ M.length := by
    have h1 := hI.1.length_eq
    have h2 := congrArg List.length hsm
    simp only [List.length_append, List.length_map] at h1 h2
    omega
  refine AS.seq ?_
  refine AS.region rfl ?_
  refine AS.nextMap rfl rfl rfl rfl (fun sn => (it, .miter m c sn) :: (b2, _) :: (s, .row [.map m, .int .i64 v, .slice (log.map encEv) tk] 106) :: (m, .mapB (mapSt encKey encObj sm) c) :: (G tk0 ((vis.map fun e => e.2.2).map encObj).length 8 38 ++ (G tk (log.map encEv).length 11 50 ++ H))) (fun hov => ?_) (fun e he => ?_)
  · refine AS.extract rfl rfl rfl rfl rfl ?_
    refine AS.opsEnd ?_
    refine AS.seq ?_
    refine AS.condF rfl ?_
    have hpm : (vis.map fun e => e.2.2).Perm (valsOf M) := by
      have h1 := left_nil hI.1 hov
      have h2 := (h1.map (fun e => e.2)).map (fun p => p.2)
      rw [hsm] at h2
      rw [List.map_map] at h2
      exact h2
    have hso : sortO (vis.map fun e => e.2.2) = sortO (valsOf M) := one_order ((sortO_perm _).trans (hpm.trans (sortO_perm _).symm)) (sortO_sorted _) (sortO_sorted _) (fun x hx y hy => ha x (hpm.mem_iff.1 (mem_sortO hx)) y (hpm.mem_iff.1 (mem_sortO hy)))
    refine AS.loose 3 rfl ?_
    refine AS.dropH [_, _, _, _] (G _ _ _ _) rfl ?_
    refine AS.dropF [_] rfl ?_
    dsimp only [List.append_eq, List.cons_append, List.nil_append]
    refine AS.closeMap (b := m) (m := M) (encK := encKey) (encV := encObj) hsm ?_
    refine AS.exit rfl ?_
    refine AS.seq ?_
    refine SA.start1 TT17.mixed rfl ?_
    refine SA.rd 0 [0] rfl (fun env rest next => AS.move rfl rfl rfl rfl next) ?_
    refine SA.rd 1 [22] rfl (fun env rest next => AS.nilCheck rfl rfl rfl rfl rfl next) ?_
    refine SA.rd 2 [23] rfl (fun env rest next => AS.fieldAddr rfl rfl rfl rfl TT17.fl106_1 next) ?_
    refine SA.rd 3 [24] rfl (fun env rest next => AS.load rfl rfl rfl rfl TT17.ty2 rfl rfl rfl next) ?_
    refine SA.rd 4 [3] rfl (fun env rest next => AS.move rfl rfl rfl rfl next) ?_
    refine SA.rd 5 [26] rfl (fun env rest next => AS.callP rfl rfl rfl rfl TT17.en61 (sorted_spec (vis.map fun e => e.2.2) _ (by rw [List.length_map]; omega) (fun o ho => hk o (hpm.mem_iff.1 ho)) (fun x hx y hy => ha x (hpm.mem_iff.1 hx) y (hpm.mem_iff.1 hy)) (fun o ho => hch o (hpm.mem_iff.1 ho))) next) ?_
    refine SA.rd 6 [25, 27] rfl (fun env rest next => AS.build rfl rfl rfl TT17.b50 rfl rfl next) ?_
    refine SA.chg 7 [2, 28] rfl rfl rfl rfl (fun env rest next => AS.store rfl rfl rfl rfl rfl rfl TT17.ty50 rfl rfl next) ⟨trivial, ⟨trivial, ⟨trivial, ⟨trivial, ⟨trivial, ⟨trivial, ⟨trivial, trivial⟩⟩⟩⟩⟩⟩⟩ ?_
    refine SA.done rfl rfl rfl ?_
    refine AS.retW Try.func22 rfl (.cell rfl TT17.ty50 rfl rfl rfl (.nil)) ?_
    rw [← hso]
    refine ⟨_, _, (Wk.le (AVLe.agg (.cons (.refl _) (.cons (.refl _) (.cons (.refl _) (.cons (.refl _) (.cons (.refl _) (.cons (.refl _) (.cons (.refl _) (.cons (.refl _) (.cons (AVLe.tok _ _) (.cons (.refl _) (.cons (.refl _) .nil))))))))))))).trans (Wk.dropL [_]), rfl, rfl⟩
  · refine AS.extract rfl rfl rfl rfl rfl ?_
    refine AS.opsEnd ?_
    refine AS.seq ?_
    refine AS.condT rfl ?_
    refine AS.skip ?_
    refine AS.block ?_
    refine AS.seq ?_
    refine AS.region rfl ?_
    refine AS.entryMap (encK := encKey) (encV := encObj) (sm := sm) (e := e) rfl rfl rfl rfl (List.mem_filter.1 he).1 ?_
    refine AS.extract rfl rfl rfl rfl rfl ?_
    refine AS.allocZ rfl rfl rfl TT17.z38 rfl ?_
    intro b5
    refine AS.store rfl rfl rfl rfl rfl rfl TT17.ty38 rfl rfl ?_
    refine AS.opsEnd ?_
    refine AS.region rfl ?_
    refine AS.move rfl rfl rfl rfl ?_
    refine AS.load (y := encObj e.2.2) rfl rfl rfl rfl TT17.ty38 rfl rfl rfl ?_
    refine AS.buildSlice1 rfl rfl rfl TT17.sl48 rfl rfl rfl ?_
    refine AS.append1 (a := e.2.2) rfl rfl rfl rfl rfl TT17.sl48 hI.2 rfl encObj_sz encObj_flat (by rw [List.length_map]; omega) ?_
    intro tk1 h1
    refine AS.assign rfl rfl rfl rfl ?_
    refine AS.opsEnd ?_
    refine AS.permH [_] (List.perm_append_comm_assoc _ [_, _, _, _, _] _) ?_
    have em1 : (vis.map fun e => e.2.2) ++ [e.2.2] = (vis ++ [e]).map (fun e => e.2.2) := by simp
    have em2 : vis.map (fun x => x.1) ++ [e.1] = (vis ++ [e]).map (fun x => x.1) := by simp
    rw [em1, em2]
    refine AS.inBlock ?_
    exact AS.nextI (l0_ih (vis ++ [e], tk1) ⟨(left_step hnd hI.1 he).1, h1⟩ ((left_step hnd hI.1 he).2)) [] (.cons rfl (.cons rfl (.cons rfl (.cons rfl (.nil))))) rfl
end Go.Proofs.Ytncecheccihjoaa
/- The reference's store, in plain Lean. -/
namespace Go.Proofs.Fw
open Go
def apartE (e f : Evt) : Bool := !decide (f.obj.key = e.obj.key)
def objsOf : List Evt → List Object
  | [] => []
  | e :: r => if r.all (apartE e) && decide (e.kind = 0) then e.obj :: objsOf r else objsOf r
theorem objs_step {L : List Evt} {out : List Object} {i : Nat} {e : Evt} (h : out ++ objsOf (L.drop i) = objsOf L) (he : L[i]? = some e) :
    (if (L.drop (i + 1)).all (apartE e) && decide (e.kind = 0) then out ++ [e.obj] else out) ++ objsOf (L.drop (i + 1)) = objsOf L := by
  rw [drop_at he] at h
  rw [← h, objsOf]
  split <;> simp
theorem objs_len : ∀ L : List Evt, (objsOf L).length ≤ L.length
  | [] => Nat.le_refl _
  | e :: r => by
    have := objs_len r
    rw [objsOf]; split <;> simp <;> omega
theorem mem_objs {o : Object} : ∀ {L : List Evt}, o ∈ objsOf L → ∃ e ∈ L, e.obj = o
  | [], h => by simp [objsOf] at h
  | e :: r, h => by
    rw [objsOf] at h
    split at h
    · rcases List.mem_cons.1 h with h | h
      · exact ⟨e, List.mem_cons_self, h.symm⟩
      · obtain ⟨f, hf, e1⟩ := mem_objs h; exact ⟨f, List.mem_cons_of_mem _ hf, e1⟩
    · obtain ⟨f, hf, e1⟩ := mem_objs h; exact ⟨f, List.mem_cons_of_mem _ hf, e1⟩
structure Wr where
  gone : Bool
  o : Object
def encWr (w : Wr) : AV := .agg [.bool w.gone, .str w.o.key.kind, .str w.o.key.space, .str w.o.key.name, .int .i64 w.o.ver, .str w.o.cls, .bool w.o.term, .bool w.o.best, .slice (w.o.charge.map encRes) .any]
theorem encWr_sz (w : Wr) : (encWr w).cells.length = 9 := rfl
theorem encWr_flat (w : Wr) : (encWr w).flatB = true := rfl
def wrFits (l : List Wr) (i : Nat) : Bool := match l[i]? with
  | some w => objFitsB w.o
  | none => true
def wrsFit (l : List Wr) : Bool := !decide ((60 : Int) < (l.length : Int)) && (List.range l.length).all (wrFits l)
end Go.Proofs.Fw
/- The store and the reference's store go on together: in plain Lean. -/
namespace Go.Proofs.Fw
open Go
def keyIs (k : Key) (o : Object) : Bool := decide (o.key = k)
theorem objs_append (e : Evt) : ∀ L : List Evt, objsOf (L ++ [e]) = (objsOf L).filter (fun o => !keyIs e.obj.key o) ++ (if e.kind = 0 then [e.obj] else [])
  | [] => by simp [objsOf]
  | f :: r => by
    have ih := objs_append e r
    simp only [List.cons_append, objsOf, List.all_append, List.all_cons, List.all_nil, Bool.and_true, ih]
    by_cases h1 : r.all (apartE f) = true
    · by_cases h2 : f.kind = 0
      · by_cases h3 : e.obj.key = f.obj.key
        · simp [h1, h2, h3, apartE, keyIs]
        · have h3' : ¬ f.obj.key = e.obj.key := fun h => h3 h.symm
          simp [h1, h2, h3, h3', apartE, keyIs]
      · simp [h2]
    · simp [h1]
theorem mset_cons {α : Type} (p : Key × α) (M : List (Key × α)) (k : Key) (o : α) : mset (p :: M) k o = if k = p.1 then (k, o) :: M else p :: mset M k o := by
  unfold mset midx
  rw [List.findIdx?_cons]
  by_cases h : k = p.1
  · simp [h]
  · simp only [h, decide_false, Bool.false_eq_true, if_false]
    cases hm : M.findIdx? (fun q => decide (k = q.1)) with
    | none => simp
    | some i => simp
theorem mget_cons {α : Type} (p : Key × α) (M : List (Key × α)) (k : Key) : mget (p :: M) k = if k = p.1 then some p.2 else mget M k := by
  unfold mget
  rw [List.find?_cons]
  by_cases h : k = p.1
  · simp [h]
  · simp [h]
theorem mdel_cons {α : Type} (p : Key × α) (M : List (Key × α)) (k : Key) : mdel (p :: M) k = if k = p.1 then M else p :: mdel M k := by
  unfold mdel
  rw [List.eraseP_cons]
  by_cases h : k = p.1
  · simp [h]
  · simp [h]
structure SInv (M : List (Key × Object)) (L : List Evt) : Prop where
  keyed : ∀ p ∈ M, p.2.key = p.1
  nodup : (M.map (·.1)).Nodup
  perm : (M.map (·.2)).Perm (objsOf L)
theorem mset_keyed {M : List (Key × Object)} {o : Object} (h : ∀ p ∈ M, p.2.key = p.1) : ∀ p ∈ mset M o.key o, p.2.key = p.1 := by
  induction M with
  | nil => intro p hp; simp [mset, midx] at hp; subst hp; rfl
  | cons q M ih =>
    intro p hp
    rw [mset_cons] at hp
    split at hp
    · rcases List.mem_cons.1 hp with e | hp
      · subst e; rfl
      · exact h p (List.mem_cons_of_mem _ hp)
    · rcases List.mem_cons.1 hp with e | hp
      · subst e; exact h p List.mem_cons_self
      · exact ih (fun p hp => h p (List.mem_cons_of_mem _ hp)) p hp
theorem mset_keys {M : List (Key × Object)} {k k' : Key} {o : Object} (hp : k' ∈ (mset M k o).map (·.1)) : k' = k ∨ k' ∈ M.map (·.1) := by
  induction M with
  | nil => simp [mset, midx] at hp; exact .inl hp
  | cons q M ih =>
    rw [mset_cons] at hp
    split at hp
    · rename_i hk
      rcases List.mem_cons.1 hp with e | hp
      · exact .inl e
      · exact .inr (List.mem_cons_of_mem _ hp)
    · rcases List.mem_cons.1 hp with e | hp
      · exact .inr (by rw [e]; exact List.mem_cons_self)
      · exact (ih hp).imp id (List.mem_cons_of_mem _)
theorem mset_nodup {M : List (Key × Object)} {k : Key} {o : Object} (h : (M.map (·.1)).Nodup) : ((mset M k o).map (·.1)).Nodup := by
  induction M with
  | nil => simp [mset, midx]
  | cons q M ih =>
    simp only [List.map_cons, List.nodup_cons] at h
    rw [mset_cons]
    split
    · rename_i hk
      simp only [List.map_cons, List.nodup_cons]
      exact ⟨by rw [hk]; exact h.1, h.2⟩
    · rename_i hk
      simp only [List.map_cons, List.nodup_cons]
      refine ⟨fun hm => ?_, ih h.2⟩
      rcases mset_keys hm with e | e
      · exact hk e.symm
      · exact h.1 e
theorem filter_all {M : List (Key × Object)} {k : Key} (h : ∀ p ∈ M, p.2.key = p.1) (hn : k ∉ M.map (·.1)) : (M.map (·.2)).filter (fun o => !keyIs k o) = M.map (·.2) := by
  rw [List.filter_eq_self]
  intro o ho
  obtain ⟨p, hp, e⟩ := List.mem_map.1 ho
  subst e
  simp only [keyIs, h p hp, Bool.not_eq_true', decide_eq_false_iff_not]
  exact fun e => hn (by rw [← e]; exact List.mem_map.2 ⟨p, hp, rfl⟩)
theorem mset_vals {M : List (Key × Object)} {o : Object} (h : ∀ p ∈ M, p.2.key = p.1) (hn : (M.map (·.1)).Nodup) : ((mset M o.key o).map (·.2)).Perm ((M.map (·.2)).filter (fun x => !keyIs o.key x) ++ [o]) := by
  induction M with
  | nil => simp [mset, midx]
  | cons q M ih =>
    have hq := h q List.mem_cons_self
    have hM := fun p hp => h p (List.mem_cons_of_mem _ hp)
    simp only [List.map_cons, List.nodup_cons] at hn
    rw [mset_cons]
    split
    · rename_i hk
      have hd : keyIs o.key q.2 = true := by simp [keyIs, hq, hk]
      simp only [List.map_cons, List.filter_cons, hd, Bool.not_true, Bool.false_eq_true, if_false]
      rw [filter_all hM (by rw [hk]; exact hn.1)]
      exact (List.perm_append_singleton o _).symm
    · rename_i hk
      have hd : keyIs o.key q.2 = false := by simp only [keyIs, hq, decide_eq_false_iff_not]; exact fun e => hk e.symm
      simp only [List.map_cons, List.filter_cons, hd, Bool.not_false, if_true, List.cons_append]
      exact (ih hM hn.2).cons _
theorem mdel_vals {M : List (Key × Object)} {k : Key} (h : ∀ p ∈ M, p.2.key = p.1) (hn : (M.map (·.1)).Nodup) : (mdel M k).map (·.2) = (M.map (·.2)).filter (fun x => !keyIs k x) := by
  induction M with
  | nil => rfl
  | cons q M ih =>
    have hq := h q List.mem_cons_self
    have hM := fun p hp => h p (List.mem_cons_of_mem _ hp)
    simp only [List.map_cons, List.nodup_cons] at hn
    rw [mdel_cons]
    split
    · rename_i hk
      have hd : keyIs k q.2 = true := by simp [keyIs, hq, hk]
      simp only [List.map_cons, List.filter_cons, hd, Bool.not_true, Bool.false_eq_true, if_false]
      rw [filter_all hM (by rw [hk]; exact hn.1)]
    · rename_i hk
      have hd : keyIs k q.2 = false := by simp only [keyIs, hq, decide_eq_false_iff_not]; exact fun e => hk e.symm
      simp only [List.map_cons, List.filter_cons, hd, Bool.not_false, if_true]
      rw [ih hM hn.2]
theorem SInv.start : SInv [] [] := ⟨by simp, by simp, by simp [objsOf]⟩
theorem SInv.put {M : List (Key × Object)} {L : List Evt} (h : SInv M L) (o : Object) : SInv (mset M o.key o) (L ++ [⟨0, o, 0, []⟩]) where
  keyed := mset_keyed h.keyed
  nodup := mset_nodup h.nodup
  perm := by
    rw [objs_append]
    exact (mset_vals h.keyed h.nodup).trans ((h.perm.filter _).append_right _)
theorem mdel_sub {M : List (Key × Object)} {k : Key} : (mdel M k).Sublist M := List.eraseP_sublist
theorem SInv.del {M : List (Key × Object)} {L : List Evt} (h : SInv M L) (k : Key) (o : Object) (hk : o.key = k) : SInv (mdel M k) (L ++ [⟨1, o, 0, []⟩]) where
  keyed p hp := h.keyed p (mdel_sub.mem hp)
  nodup := h.nodup.sublist (mdel_sub.map _)
  perm := by
    rw [objs_append, mdel_vals h.keyed h.nodup, ← hk]
    simpa using h.perm.filter (fun x => !keyIs o.key x)
def findK (l : List Object) (k : Key) : Option Object := l.find? fun o => decide (o.key = k)
theorem find_here {l : List Object} {k : Key} {i : Nat} {o : Object} (h : ∀ j, j < i → ∀ p, l[j]? = some p → p.key ≠ k) (ho : l[i]? = some o) (hk : o.key = k) : findK l k = some o := by
  induction l generalizing i with
  | nil => simp at ho
  | cons a l ih =>
    cases i with
    | zero => simp at ho; subst ho; simp [findK, hk]
    | succ i =>
      have h0 := h 0 (by omega) a rfl
      have := ih (i := i) (fun j hj p hp => h (j + 1) (by omega) p (by simpa using hp)) (by simpa using ho)
      simpa [findK, h0] using this
theorem find_none {l : List Object} {k : Key} {i : Nat} (h : ∀ j, j < i → ∀ p, l[j]? = some p → p.key ≠ k) (hi : l.length ≤ i) : findK l k = none := by
  simp only [findK, List.find?_eq_none]
  intro o ho
  obtain ⟨j, hj⟩ := List.getElem?_of_mem ho
  have hl : j < l.length := (List.getElem?_eq_some_iff.1 hj).1
  simpa using h j (by omega) o hj
def KeysApart (l : List Object) : Prop := ∀ x ∈ l, ∀ y ∈ l, x.key = y.key → x = y
theorem findK_iff {l : List Object} (h : KeysApart l) (k : Key) (o : Object) : findK l k = some o ↔ o ∈ l ∧ o.key = k := by
  constructor
  · intro e
    exact ⟨List.mem_of_find?_eq_some e, by simpa using List.find?_some e⟩
  · rintro ⟨h1, h2⟩
    cases hf : findK l k with
    | none =>
      have := List.find?_eq_none.1 hf o h1
      simp [h2] at this
    | some p =>
      have hp := List.mem_of_find?_eq_some hf
      have hk : p.key = k := by simpa using List.find?_some hf
      rw [h p hp o h1 (hk.trans h2.symm)]
theorem mget_iff {M : List (Key × Object)} (h : (M.map (·.1)).Nodup) (k : Key) (o : Object) : mget M k = some o ↔ (k, o) ∈ M := by
  induction M with
  | nil => simp [mget]
  | cons q M ih =>
    simp only [List.map_cons, List.nodup_cons] at h
    rw [mget_cons]
    split
    · rename_i hk
      constructor
      · intro e; cases e; rw [hk]; exact List.mem_cons_self
      · intro e
        rcases List.mem_cons.1 e with e | e
        · rw [← e]
        · exact absurd (List.mem_map.2 ⟨_, e, hk⟩) h.1
    · rename_i hk
      rw [ih h.2]
      constructor
      · exact List.mem_cons_of_mem _
      · intro e
        rcases List.mem_cons.1 e with e | e
        · exact absurd (by rw [← e]) hk
        · exact e
theorem SInv.apart {M : List (Key × Object)} {L : List Evt} (h : SInv M L) : KeysApart (M.map (·.2)) := by
  intro x hx y hy e
  obtain ⟨p, hp, rfl⟩ := List.mem_map.1 hx
  obtain ⟨q, hq, rfl⟩ := List.mem_map.1 hy
  have h1 := h.keyed p hp
  have h2 := h.keyed q hq
  have hk : p.1 = q.1 := by rw [← h1, ← h2, e]
  have a := (mget_iff h.nodup p.1 p.2).2 hp
  have b := (mget_iff h.nodup p.1 q.2).2 (by rw [hk]; exact hq)
  rw [a] at b
  exact Option.some.inj b
theorem SInv.get {M : List (Key × Object)} {L : List Evt} (h : SInv M L) (k : Key) : mget M k = findK (sortO (objsOf L)) k := by
  have hp : (M.map (·.2)).Perm (sortO (objsOf L)) := h.perm.trans (sortO_perm _).symm
  have ha : KeysApart (sortO (objsOf L)) := fun x hx y hy e => h.apart x (hp.mem_iff.2 hx) y (hp.mem_iff.2 hy) e
  apply Option.ext
  intro o
  rw [mget_iff h.nodup, findK_iff ha, ← hp.mem_iff]
  constructor
  · intro hm; exact ⟨List.mem_map.2 ⟨_, hm, rfl⟩, h.keyed _ hm⟩
  · rintro ⟨hm, hk⟩
    obtain ⟨p, hp', rfl⟩ := List.mem_map.1 hm
    rw [← hk, h.keyed p hp']; exact hp'
theorem SInv.len {M : List (Key × Object)} {L : List Evt} (h : SInv M L) : (sortO (objsOf L)).length = M.length := by
  rw [sortO_len, ← h.perm.length_eq, List.length_map]
end Go.Proofs.Fw
/- T18 -/
namespace Go.Proofs.Ytncecheccihjoaa.TT18
open Go Go.Proofs.Fw Go.Shelf
theorem b38 : bldI Go.Proofs.Try.prog 38 = some ([(.str ⟨#[]⟩), (.str ⟨#[]⟩), (.str ⟨#[]⟩), (.int .i64 0), (.str ⟨#[]⟩), (.bool false), (.bool false), (.slice [] .full)], [(0, 3), (3, 1), (4, 1), (5, 1), (6, 1), (7, 1)]) := by kernel_rfl
theorem b50 : bldI Go.Proofs.Try.prog 50 = some ([(.int .i64 0), (.str ⟨#[]⟩), (.str ⟨#[]⟩), (.str ⟨#[]⟩), (.int .i64 0), (.str ⟨#[]⟩), (.bool false), (.bool false), (.slice [] .full), (.int .i64 0), (.slice [] .full)], [(0, 1), (1, 8), (9, 1), (10, 1)]) := by kernel_rfl
theorem en100 : Enters Go.Proofs.Try.prog 100 := enters_of Go.Proofs.Try.func100 (by kernel_rfl) rfl
theorem en101 : Enters Go.Proofs.Try.prog 101 := enters_of Go.Proofs.Try.func101 (by kernel_rfl) rfl
theorem en102 : Enters Go.Proofs.Try.prog 102 := enters_of Go.Proofs.Try.func102 (by kernel_rfl) rfl
theorem en103 : Enters Go.Proofs.Try.prog 103 := enters_of Go.Proofs.Try.func103 (by kernel_rfl) rfl
theorem en126 : Enters Go.Proofs.Try.prog 126 := enters_of Go.Proofs.Try.func126 (by kernel_rfl) rfl
theorem en133 : Enters Go.Proofs.Try.prog 133 := enters_of Go.Proofs.Try.func133 (by kernel_rfl) rfl
theorem en146 : Enters Go.Proofs.Try.prog 146 := enters_of Go.Proofs.Try.func146 (by kernel_rfl) rfl
theorem en147 : Enters Go.Proofs.Try.prog 147 := enters_of Go.Proofs.Try.func147 (by kernel_rfl) rfl
theorem en166 : Enters Go.Proofs.Try.prog 166 := enters_of Go.Proofs.Try.func166 (by kernel_rfl) rfl
theorem en175 : Enters Go.Proofs.Try.prog 175 := enters_of Go.Proofs.Try.func175 (by kernel_rfl) rfl
theorem en20 : Enters Go.Proofs.Try.prog 20 := enters_of Go.Proofs.Try.func20 (by kernel_rfl) rfl
theorem en21 : Enters Go.Proofs.Try.prog 21 := enters_of Go.Proofs.Try.func21 (by kernel_rfl) rfl
theorem en52 : Enters Go.Proofs.Try.prog 52 := enters_of Go.Proofs.Try.func52 (by kernel_rfl) rfl
theorem en61 : Enters Go.Proofs.Try.prog 61 := enters_of Go.Proofs.Try.func61 (by kernel_rfl) rfl
theorem en66 : Enters Go.Proofs.Try.prog 66 := enters_of Go.Proofs.Try.func66 (by kernel_rfl) rfl
theorem en68 : Enters Go.Proofs.Try.prog 68 := enters_of Go.Proofs.Try.func68 (by kernel_rfl) rfl
theorem en69 : Enters Go.Proofs.Try.prog 69 := enters_of Go.Proofs.Try.func69 (by kernel_rfl) rfl
theorem en70 : Enters Go.Proofs.Try.prog 70 := enters_of Go.Proofs.Try.func70 (by kernel_rfl) rfl
theorem en71 : Enters Go.Proofs.Try.prog 71 := enters_of Go.Proofs.Try.func71 (by kernel_rfl) rfl
theorem fl106_0 : fldI Go.Proofs.Try.prog 106 0 = some 0 := by kernel_rfl
theorem fl106_1 : fldI Go.Proofs.Try.prog 106 1 = some 1 := by kernel_rfl
theorem fl106_2 : fldI Go.Proofs.Try.prog 106 2 = some 2 := by kernel_rfl
theorem fl30_0 : fldI Go.Proofs.Try.prog 30 0 = some 0 := by kernel_rfl
theorem fl38_0 : fldI Go.Proofs.Try.prog 38 0 = some 0 := by kernel_rfl
theorem fl38_1 : fldI Go.Proofs.Try.prog 38 1 = some 3 := by kernel_rfl
theorem fl38_5 : fldI Go.Proofs.Try.prog 38 5 = some 7 := by kernel_rfl
theorem fl50_0 : fldI Go.Proofs.Try.prog 50 0 = some 0 := by kernel_rfl
theorem fl50_1 : fldI Go.Proofs.Try.prog 50 1 = some 1 := by kernel_rfl
theorem fl50_2 : fldI Go.Proofs.Try.prog 50 2 = some 9 := by kernel_rfl
theorem fl50_3 : fldI Go.Proofs.Try.prog 50 3 = some 10 := by kernel_rfl
theorem mixed : Go.Proofs.Try.prog.follows .mixedOrders = true := by kernel_rfl
theorem mp104 : mapI Go.Proofs.Try.prog 104 = some (35, 38) := by kernel_rfl
theorem ps35 : plainS Go.Proofs.Try.prog 35 = true := by kernel_rfl
theorem sl28 : sliI Go.Proofs.Try.prog 28 = some (50, 11, 144) := by kernel_rfl
theorem sl36 : sliI Go.Proofs.Try.prog 36 = some (116, 2, 24) := by kernel_rfl
theorem sl48 : sliI Go.Proofs.Try.prog 48 = some (38, 8, 104) := by kernel_rfl
theorem ty104 : tyI Go.Proofs.Try.prog 104 = some (1, false) := by kernel_rfl
theorem ty2 : tyI Go.Proofs.Try.prog 2 = some (1, false) := by kernel_rfl
theorem ty28 : tyI Go.Proofs.Try.prog 28 = some (1, false) := by kernel_rfl
theorem ty35 : tyI Go.Proofs.Try.prog 35 = some (3, true) := by kernel_rfl
theorem ty36 : tyI Go.Proofs.Try.prog 36 = some (1, false) := by kernel_rfl
theorem ty38 : tyI Go.Proofs.Try.prog 38 = some (8, true) := by kernel_rfl
theorem ty47 : tyI Go.Proofs.Try.prog 47 = some (1, false) := by kernel_rfl
theorem ty48 : tyI Go.Proofs.Try.prog 48 = some (1, false) := by kernel_rfl
theorem ty50 : tyI Go.Proofs.Try.prog 50 = some (11, true) := by kernel_rfl
theorem u180 : Go.Proofs.Try.prog.underlying 180 = some (.int .u64) := by kernel_rfl
theorem u25 : Go.Proofs.Try.prog.underlying 25 = some (.pointer 106) := by kernel_rfl
theorem u28 : Go.Proofs.Try.prog.underlying 28 = some (.slice 50) := by kernel_rfl
theorem u3 : Go.Proofs.Try.prog.underlying 3 = some (.int .i64) := by kernel_rfl
theorem u35 : Go.Proofs.Try.prog.underlying 35 = some (.struct #[⟨"Kind", 9, 0, false, "", "", 0⟩, ⟨"Space", 9, 1, false, "", "", 16⟩, ⟨"Name", 9, 2, false, "", "", 32⟩]) := by kernel_rfl
theorem u36 : Go.Proofs.Try.prog.underlying 36 = some (.slice 116) := by kernel_rfl
theorem u48 : Go.Proofs.Try.prog.underlying 48 = some (.slice 38) := by kernel_rfl
theorem u50 : Go.Proofs.Try.prog.underlying 50 = some (.struct #[⟨"Kind", 47, 0, false, "", "", 0⟩, ⟨"Object", 38, 1, false, "", "", 8⟩, ⟨"Version", 2, 9, false, "", "", 112⟩, ⟨"Objects", 48, 10, false, "", "", 120⟩]) := by kernel_rfl
theorem z116 : zI Go.Proofs.Try.prog 116 = some (.agg #[(.string ⟨#[]⟩), (.int .i64 0)]) := by kernel_rfl
theorem z38 : zI Go.Proofs.Try.prog 38 = some (.agg #[(.string ⟨#[]⟩), (.string ⟨#[]⟩), (.string ⟨#[]⟩), (.int .i64 0), (.string ⟨#[]⟩), (.bool false), (.bool false), (.slice none 0 0)]) := by kernel_rfl
theorem z50 : zI Go.Proofs.Try.prog 50 = some (.agg #[(.int .i64 0), (.string ⟨#[]⟩), (.string ⟨#[]⟩), (.string ⟨#[]⟩), (.int .i64 0), (.string ⟨#[]⟩), (.bool false), (.bool false), (.slice none 0 0), (.int .i64 0), (.slice none 0 0)]) := by kernel_rfl
end Go.Proofs.Ytncecheccihjoaa.TT18
namespace Go.Proofs.Ytncecheccihjoaa
open Go Go.Proofs.Fw Go.Proofs
set_option linter.unusedVariables false
set_option linter.unusedSimpArgs false
set_option maxRecDepth 20000
set_option maxHeartbeats 4000000
theorem refObjects_spec (r : Nat) (L : List Evt) (tk : Tok) (H : AH) (hl : L.length ≤ 1000000) (hk : ∀ e ∈ L, keyFits e.obj.key) : ACalls Try.prog [] 65 [.ptr r 0] ((r, .row [.slice (L.map encEv) tk] 30) :: H) (fun x H' => x = .slice ((sortO (objsOf L)).map encObj) .any ∧ H' = ((r, .row [.slice (L.map encEv) tk] 30) :: H)) := by
  refine ACalls.enter (n := 74) Try.func65 rfl rfl (Nat.le_of_ble_eq_true rfl) ?_
  refine AS.seq ?_
  refine AS.region rfl ?_
  refine AS.assign rfl rfl rfl rfl ?_
  refine AS.opsEnd ?_
  refine AS.seq ?_
  refine AS.region rfl ?_
  refine AS.assign rfl rfl rfl rfl ?_
  refine AS.opsEnd ?_
  refine AS.seq ?_
  refine AS.seq ?_
  refine AS.region rfl ?_
  refine AS.assign rfl rfl rfl rfl ?_
  refine AS.opsEnd ?_
  refine AS.block ?_
  refine AS.loopI (α := Nat × List Object × Tok) (fun z => z.1 ≤ L.length ∧ z.2.1 ++ objsOf (L.drop z.1) = objsOf L ∧ z.2.2.grows = true) (fun z => L.length - z.1) (fun z => [(3, .slice (z.2.1.map encObj) z.2.2), (4, .int .i64 z.1)]) [(0, _)] (fun z => (r, .row [.slice (L.map encEv) tk] 30) :: (G z.2.2 (z.2.1.map encObj).length 8 38 ++ H)) (0, [], .full) ⟨Nat.zero_le _, rfl, rfl⟩ (.cons rfl (.cons rfl (.cons rfl (.nil)))) rfl (fun z hI l0_ih => ?_)
  obtain ⟨i, out, tk0⟩ := z
  dsimp only at hI l0_ih ⊢
  have hol : out.length ≤ L.length := by
    have h1 := congrArg List.length hI.2.1
    have h2 := objs_len L
    rw [List.length_append] at h1
    omega
  refine AS.seq ?_
  refine AS.seq ?_
  refine AS.region rfl ?_
  refine AS.move rfl rfl rfl rfl ?_
  refine AS.move rfl rfl rfl rfl ?_
  refine AS.nilCheck rfl rfl rfl rfl rfl ?_
  refine AS.fieldAddr rfl rfl rfl rfl TT18.fl30_0 ?_
  refine AS.load rfl rfl rfl rfl TT18.ty28 rfl rfl rfl ?_
  refine AS.len rfl rfl rfl rfl (by first | exact lenT_sl TT18.u28 | exact lenT_ms TT18.u28 | (rw [TT18.u28]; rfl)) rfl (lenMap _ _) ?_
  refine AS.bin rfl rfl rfl rfl rfl (BinR.lss rfl) ?_
  refine AS.opsEnd ?_
  refine AS.cond rfl (fun hc0 => ?_) (fun hc0 => ?_)
  · have hi : i < L.length := by simp only [decide_eq_true_eq] at hc0; omega
    obtain ⟨e, he⟩ := getAt hi
    have hst := objs_step hI.2.1 he
    have hal : (if (L.drop (i + 1)).all (apartE e) && decide (e.kind = 0) then out ++ [e.obj] else out).length ≤ L.length := by
      have h1 := congrArg List.length hst
      have h2 := objs_len L
      rw [List.length_append] at h1
      omega
    refine AS.skip ?_
    refine AS.seq ?_
    refine AS.block ?_
    refine AS.seq ?_
    refine AS.region rfl ?_
    refine AS.assign rfl rfl rfl rfl ?_
    refine AS.opsEnd ?_
    refine AS.seq ?_
    refine AS.seq ?_
    refine AS.region rfl ?_
    refine AS.move rfl rfl rfl rfl ?_
    refine AS.bin rfl rfl rfl rfl rfl (BinR.add (w64 (by omega) (by omega))) ?_
    refine AS.assign rfl rfl rfl rfl ?_
    refine AS.opsEnd ?_
    refine AS.block ?_
    refine AS.loopI (α := Nat × Bool) (fun z => i < z.1 ∧ z.1 ≤ L.length ∧ (z.2 && (L.drop z.1).all (apartE e)) = (L.drop (i + 1)).all (apartE e)) (fun z => L.length - z.1) (fun z => [(5, .bool z.2), (6, .int .i64 z.1)]) [(0, _), (3, _), (4, _)] (fun z => (r, .row [.slice (L.map encEv) tk] 30) :: (G tk0 (out.map encObj).length 8 38 ++ H)) (i + 1, true) ⟨Nat.lt_succ_self _, hi, rfl⟩ (.cons rfl (.cons rfl (.cons rfl (.cons rfl (.cons rfl (.nil)))))) rfl (fun z hJ l1_ih => ?_)
    obtain ⟨k, la⟩ := z
    dsimp only at hJ l1_ih ⊢
    obtain ⟨j1, j2, j3⟩ := hJ
    refine AS.seq ?_
    refine AS.seq ?_
    refine AS.region rfl ?_
    refine AS.move rfl rfl rfl rfl ?_
    refine AS.move rfl rfl rfl rfl ?_
    refine AS.nilCheck rfl rfl rfl rfl rfl ?_
    refine AS.fieldAddr rfl rfl rfl rfl TT18.fl30_0 ?_
    refine AS.load rfl rfl rfl rfl TT18.ty28 rfl rfl rfl ?_
    refine AS.len rfl rfl rfl rfl (by first | exact lenT_sl TT18.u28 | exact lenT_ms TT18.u28 | (rw [TT18.u28]; rfl)) rfl (lenMap _ _) ?_
    refine AS.bin rfl rfl rfl rfl rfl (BinR.lss rfl) ?_
    refine AS.opsEnd ?_
    refine AS.cond rfl (fun hc1 => ?_) (fun hc1 => ?_)
    · have hkl : k < L.length := by simp only [decide_eq_true_eq] at hc1; omega
      obtain ⟨f, hf⟩ := getAt hkl
      refine AS.skip ?_
      refine AS.seq ?_
      refine AS.block ?_
      refine SA.start1 TT18.mixed rfl ?_
      refine SA.rd 0 [5] rfl (fun env rest next => AS.move rfl rfl rfl rfl next) ?_
      refine SA.rd 1 [27] rfl (fun env rest next => AS.move rfl rfl rfl rfl next) ?_
      refine SA.splitT (fun g28 => ?_) (fun g28 => ?_)
      · subst g28
        refine SA.rd 2 [0, 28] rfl (fun env rest next => AS.move rfl rfl rfl rfl next) ?_
        refine SA.rd 3 [28, 29] rfl (fun env rest next => AS.nilCheck rfl rfl rfl rfl rfl next) ?_
        refine SA.rd 4 [28, 30] rfl (fun env rest next => AS.fieldAddr rfl rfl rfl rfl TT18.fl30_0 next) ?_
        refine SA.rd 5 [28, 31] rfl (fun env rest next => AS.load rfl rfl rfl rfl TT18.ty28 rfl rfl rfl next) ?_
        refine SA.rd 6 [6, 28] rfl (fun env rest next => AS.move rfl rfl rfl rfl next) ?_
        refine SA.rd 7 [28, 32, 33] rfl (fun env rest next => AS.indexAddr rfl rfl rfl rfl rfl TT18.sl28 (Int.natCast_nonneg _) (map_get _ _ hf) rfl next) ?_
        refine SA.rd 8 [28, 34] rfl (fun env rest next => AS.ifieldAddr rfl rfl rfl rfl TT18.fl50_1 next) ?_
        refine SA.rd 9 [28, 35] rfl (fun env rest next => AS.ifieldAddr rfl rfl rfl rfl TT18.fl38_0 next) ?_
        refine SA.rd 10 [28, 36] rfl (fun env rest next => AS.iload (y := encKey f.obj.key) rfl rfl rfl rfl TT18.ty35 rfl rfl rfl next) ?_
        refine SA.rd 11 [0, 28] rfl (fun env rest next => AS.move rfl rfl rfl rfl next) ?_
        refine SA.rd 12 [28, 38] rfl (fun env rest next => AS.nilCheck rfl rfl rfl rfl rfl next) ?_
        refine SA.rd 13 [28, 39] rfl (fun env rest next => AS.fieldAddr rfl rfl rfl rfl TT18.fl30_0 next) ?_
        refine SA.rd 14 [28, 40] rfl (fun env rest next => AS.load rfl rfl rfl rfl TT18.ty28 rfl rfl rfl next) ?_
        refine SA.rd 15 [4, 28] rfl (fun env rest next => AS.move rfl rfl rfl rfl next) ?_
        refine SA.rd 16 [28, 41, 42] rfl (fun env rest next => AS.indexAddr rfl rfl rfl rfl rfl TT18.sl28 (Int.natCast_nonneg _) (map_get _ _ he) rfl next) ?_
        refine SA.rd 17 [28, 43] rfl (fun env rest next => AS.ifieldAddr rfl rfl rfl rfl TT18.fl50_1 next) ?_
        refine SA.rd 18 [28, 44] rfl (fun env rest next => AS.ifieldAddr rfl rfl rfl rfl TT18.fl38_0 next) ?_
        refine SA.rd 19 [28, 45] rfl (fun env rest next => AS.iload (y := encKey e.obj.key) rfl rfl rfl rfl TT18.ty35 rfl rfl rfl next) ?_
        refine SA.rd 20 [28, 37, 46] rfl (fun env rest next => AS.bin rfl rfl rfl rfl rfl (BinR.stneq TT18.ps35 (by rw [TT18.u35]; rfl) (congrArg not (keyEq _ _))) next) ?_
        refine SA.rd 21 [28, 47] rfl (fun env rest next => AS.pick rfl rfl rfl rfl rfl next) ?_
        refine SA.rd 22 [48] rfl (fun env rest next => AS.assign rfl rfl rfl rfl next) ?_
        refine SA.done rfl rfl rfl ?_
        refine AS.inBlock ?_
        refine AS.region rfl ?_
        refine AS.move rfl rfl rfl rfl ?_
        refine AS.bin rfl rfl rfl rfl rfl (BinR.add (w64 (by omega) (by omega))) ?_
        refine AS.assign rfl rfl rfl rfl ?_
        refine AS.opsEnd ?_
        exact AS.nextI (l1_ih (k + 1, apartE e f) ⟨by dsimp only; omega, hkl, by dsimp only; rw [← j3, drop_at hf]; simp⟩ (by dsimp only; omega)) [] (.cons rfl (.cons rfl (.cons rfl (.cons rfl (.cons rfl (.nil)))))) rfl
      · subst g28
        refine SA.rd 2 [0, 28] rfl (fun env rest next => AS.pass rfl rfl rfl next) ?_
        refine SA.rd 3 [28, 29] rfl (fun env rest next => AS.pass rfl rfl rfl next) ?_
        refine SA.rd 4 [28, 30] rfl (fun env rest next => AS.pass rfl rfl rfl next) ?_
        refine SA.rd 5 [28, 31] rfl (fun env rest next => AS.pass rfl rfl rfl next) ?_
        refine SA.rd 6 [6, 28] rfl (fun env rest next => AS.pass rfl rfl rfl next) ?_
        refine SA.rd 7 [28, 32, 33] rfl (fun env rest next => AS.pass rfl rfl rfl next) ?_
        refine SA.rd 8 [28, 34] rfl (fun env rest next => AS.pass rfl rfl rfl next) ?_
        refine SA.rd 9 [28, 35] rfl (fun env rest next => AS.pass rfl rfl rfl next) ?_
        refine SA.rd 10 [28, 36] rfl (fun env rest next => AS.pass rfl rfl rfl next) ?_
        refine SA.rd 11 [0, 28] rfl (fun env rest next => AS.pass rfl rfl rfl next) ?_
        refine SA.rd 12 [28, 38] rfl (fun env rest next => AS.pass rfl rfl rfl next) ?_
        refine SA.rd 13 [28, 39] rfl (fun env rest next => AS.pass rfl rfl rfl next) ?_
        refine SA.rd 14 [28, 40] rfl (fun env rest next => AS.pass rfl rfl rfl next) ?_
        refine SA.rd 15 [4, 28] rfl (fun env rest next => AS.pass rfl rfl rfl next) ?_
        refine SA.rd 16 [28, 41, 42] rfl (fun env rest next => AS.pass rfl rfl rfl next) ?_
        refine SA.rd 17 [28, 43] rfl (fun env rest next => AS.pass rfl rfl rfl next) ?_
        refine SA.rd 18 [28, 44] rfl (fun env rest next => AS.pass rfl rfl rfl next) ?_
        refine SA.rd 19 [28, 45] rfl (fun env rest next => AS.pass rfl rfl rfl next) ?_
        refine SA.rd 20 [28, 37, 46] rfl (fun env rest next => AS.pass rfl rfl rfl next) ?_
        refine SA.rd 21 [28, 47] rfl (fun env rest next => AS.pick rfl rfl rfl rfl rfl next) ?_
        refine SA.rd 22 [48] rfl (fun env rest next => AS.assign rfl rfl rfl rfl next) ?_
        refine SA.done rfl rfl rfl ?_
        refine AS.inBlock ?_
        refine AS.region rfl ?_
        refine AS.move rfl rfl rfl rfl ?_
        refine AS.bin rfl rfl rfl rfl rfl (BinR.add (w64 (by omega) (by omega))) ?_
        refine AS.assign rfl rfl rfl rfl ?_
        refine AS.opsEnd ?_
        exact AS.nextI (l1_ih (k + 1, false) ⟨by dsimp only; omega, hkl, by dsimp only; rw [← j3]; simp⟩ (by dsimp only; omega)) [] (.cons rfl (.cons rfl (.cons rfl (.cons rfl (.cons rfl (.nil)))))) rfl
    · have hla : la = (L.drop (i + 1)).all (apartE e) := by rw [← j3, List.drop_eq_nil_of_le (by simp only [decide_eq_false_iff_not] at hc1; omega)]; simp
      rw [← hla] at hst hal
      refine AS.exit rfl ?_
      refine AS.seq ?_
      refine AS.region rfl ?_
      refine AS.move rfl rfl rfl rfl ?_
      refine AS.move rfl rfl rfl rfl ?_
      refine AS.splitT 50 rfl (fun g50 => ?_) (fun g50 => ?_)
      · subst g50
        refine AS.move rfl rfl rfl rfl ?_
        refine AS.nilCheck rfl rfl rfl rfl rfl ?_
        refine AS.fieldAddr rfl rfl rfl rfl TT18.fl30_0 ?_
        refine AS.load rfl rfl rfl rfl TT18.ty28 rfl rfl rfl ?_
        refine AS.move rfl rfl rfl rfl ?_
        refine AS.indexAddr rfl rfl rfl rfl rfl TT18.sl28 (Int.natCast_nonneg _) (map_get _ _ he) rfl ?_
        refine AS.ifieldAddr rfl rfl rfl rfl TT18.fl50_0 ?_
        refine AS.iload rfl rfl rfl rfl TT18.ty47 rfl rfl rfl ?_
        refine AS.bin rfl rfl rfl rfl rfl (BinR.eql rfl) ?_
        refine AS.pick rfl rfl rfl rfl rfl ?_
        refine AS.opsEnd ?_
        refine AS.cond rfl (fun hc2 => ?_) (fun hc2 => ?_)
        · rw [hc2] at hst hal
          refine AS.region rfl ?_
          refine AS.move rfl rfl rfl rfl ?_
          refine AS.move rfl rfl rfl rfl ?_
          refine AS.nilCheck rfl rfl rfl rfl rfl ?_
          refine AS.fieldAddr rfl rfl rfl rfl TT18.fl30_0 ?_
          refine AS.load rfl rfl rfl rfl TT18.ty28 rfl rfl rfl ?_
          refine AS.move rfl rfl rfl rfl ?_
          refine AS.indexAddr rfl rfl rfl rfl rfl TT18.sl28 (Int.natCast_nonneg _) (map_get _ _ he) rfl ?_
          refine AS.ifieldAddr rfl rfl rfl rfl TT18.fl50_1 ?_
          refine AS.iload (y := encObj e.obj) rfl rfl rfl rfl TT18.ty38 rfl rfl rfl ?_
          refine AS.buildSlice1 rfl rfl rfl TT18.sl48 rfl rfl rfl ?_
          refine AS.append1 (a := e.obj) rfl rfl rfl rfl rfl TT18.sl48 hI.2.2 rfl encObj_sz encObj_flat (by simp at hal; omega) ?_
          intro tk1 h1
          refine AS.assign rfl rfl rfl rfl ?_
          refine AS.opsEnd ?_
          refine AS.permH [] (List.perm_append_comm_assoc _ [_] _) ?_
          refine AS.inBlock ?_
          refine AS.region rfl ?_
          refine AS.move rfl rfl rfl rfl ?_
          refine AS.bin rfl rfl rfl rfl rfl (BinR.add (w64 (by omega) (by omega))) ?_
          refine AS.assign rfl rfl rfl rfl ?_
          refine AS.opsEnd ?_
          exact AS.nextI (l0_ih (i + 1, out ++ [e.obj], tk1) ⟨hi, by simpa using hst, h1⟩ (by dsimp only; omega)) [] (.cons rfl (.cons rfl (.cons rfl (.nil)))) rfl
        · refine AS.skip ?_
          refine AS.inBlock ?_
          refine AS.region rfl ?_
          refine AS.move rfl rfl rfl rfl ?_
          refine AS.bin rfl rfl rfl rfl rfl (BinR.add (w64 (by omega) (by omega))) ?_
          refine AS.assign rfl rfl rfl rfl ?_
          refine AS.opsEnd ?_
          rw [hc2] at hst
          exact AS.nextI (l0_ih (i + 1, out, tk0) ⟨hi, by simpa using hst, hI.2.2⟩ (by dsimp only; omega)) [] (.cons rfl (.cons rfl (.cons rfl (.nil)))) rfl
      · subst g50
        refine AS.pass rfl rfl rfl ?_
        refine AS.pass rfl rfl rfl ?_
        refine AS.pass rfl rfl rfl ?_
        refine AS.pass rfl rfl rfl ?_
        refine AS.pass rfl rfl rfl ?_
        refine AS.pass rfl rfl rfl ?_
        refine AS.pass rfl rfl rfl ?_
        refine AS.pass rfl rfl rfl ?_
        refine AS.pass rfl rfl rfl ?_
        refine AS.pick rfl rfl rfl rfl rfl ?_
        refine AS.opsEnd ?_
        refine AS.condF rfl ?_
        refine AS.skip ?_
        refine AS.inBlock ?_
        refine AS.region rfl ?_
        refine AS.move rfl rfl rfl rfl ?_
        refine AS.bin rfl rfl rfl rfl rfl (BinR.add (w64 (by omega) (by omega))) ?_
        refine AS.assign rfl rfl rfl rfl ?_
        refine AS.opsEnd ?_
        exact AS.nextI (l0_ih (i + 1, out, tk0) ⟨hi, by simpa using hst, hI.2.2⟩ (by dsimp only; omega)) [] (.cons rfl (.cons rfl (.cons rfl (.nil)))) rfl
  · have hfin : out = objsOf L := by have h := hI.2.1; rw [List.drop_eq_nil_of_le (by simp only [decide_eq_false_iff_not] at hc0; omega)] at h; simpa [objsOf] using h
    refine AS.loose 3 rfl ?_
    refine AS.dropH [_] (G _ _ _ _) rfl ?_
    dsimp only [List.append_eq, List.cons_append, List.nil_append]
    refine AS.exit rfl ?_
    refine AS.seq ?_
    refine AS.region rfl ?_
    refine AS.move rfl rfl rfl rfl ?_
    refine AS.callP rfl rfl rfl rfl TT18.en103 (ref_sorted out _ (by omega) (fun o ho => by obtain ⟨e, he, e1⟩ := mem_objs (hfin ▸ ho); rw [← e1]; exact hk e he)) ?_
    refine AS.assign rfl rfl rfl rfl ?_
    refine AS.opsEnd ?_
    refine AS.retW Try.func65 rfl (.tmp rfl (.nil)) ?_
    rw [← hfin]
    exact RWk.drop [] rfl ⟨rfl, rfl⟩
end Go.Proofs.Ytncecheccihjoaa
/- T19 -/
namespace Go.Proofs.Ytncecheccihjoaa.TT19
open Go Go.Proofs.Fw Go.Shelf
theorem b38 : bldI Go.Proofs.Try.prog 38 = some ([(.str ⟨#[]⟩), (.str ⟨#[]⟩), (.str ⟨#[]⟩), (.int .i64 0), (.str ⟨#[]⟩), (.bool false), (.bool false), (.slice [] .full)], [(0, 3), (3, 1), (4, 1), (5, 1), (6, 1), (7, 1)]) := by kernel_rfl
theorem b50 : bldI Go.Proofs.Try.prog 50 = some ([(.int .i64 0), (.str ⟨#[]⟩), (.str ⟨#[]⟩), (.str ⟨#[]⟩), (.int .i64 0), (.str ⟨#[]⟩), (.bool false), (.bool false), (.slice [] .full), (.int .i64 0), (.slice [] .full)], [(0, 1), (1, 8), (9, 1), (10, 1)]) := by kernel_rfl
theorem en100 : Enters Go.Proofs.Try.prog 100 := enters_of Go.Proofs.Try.func100 (by kernel_rfl) rfl
theorem en101 : Enters Go.Proofs.Try.prog 101 := enters_of Go.Proofs.Try.func101 (by kernel_rfl) rfl
theorem en102 : Enters Go.Proofs.Try.prog 102 := enters_of Go.Proofs.Try.func102 (by kernel_rfl) rfl
theorem en103 : Enters Go.Proofs.Try.prog 103 := enters_of Go.Proofs.Try.func103 (by kernel_rfl) rfl
theorem en126 : Enters Go.Proofs.Try.prog 126 := enters_of Go.Proofs.Try.func126 (by kernel_rfl) rfl
theorem en133 : Enters Go.Proofs.Try.prog 133 := enters_of Go.Proofs.Try.func133 (by kernel_rfl) rfl
theorem en146 : Enters Go.Proofs.Try.prog 146 := enters_of Go.Proofs.Try.func146 (by kernel_rfl) rfl
theorem en147 : Enters Go.Proofs.Try.prog 147 := enters_of Go.Proofs.Try.func147 (by kernel_rfl) rfl
theorem en166 : Enters Go.Proofs.Try.prog 166 := enters_of Go.Proofs.Try.func166 (by kernel_rfl) rfl
theorem en175 : Enters Go.Proofs.Try.prog 175 := enters_of Go.Proofs.Try.func175 (by kernel_rfl) rfl
theorem en20 : Enters Go.Proofs.Try.prog 20 := enters_of Go.Proofs.Try.func20 (by kernel_rfl) rfl
theorem en21 : Enters Go.Proofs.Try.prog 21 := enters_of Go.Proofs.Try.func21 (by kernel_rfl) rfl
theorem en52 : Enters Go.Proofs.Try.prog 52 := enters_of Go.Proofs.Try.func52 (by kernel_rfl) rfl
theorem en61 : Enters Go.Proofs.Try.prog 61 := enters_of Go.Proofs.Try.func61 (by kernel_rfl) rfl
theorem en65 : Enters Go.Proofs.Try.prog 65 := enters_of Go.Proofs.Try.func65 (by kernel_rfl) rfl
theorem en66 : Enters Go.Proofs.Try.prog 66 := enters_of Go.Proofs.Try.func66 (by kernel_rfl) rfl
theorem en68 : Enters Go.Proofs.Try.prog 68 := enters_of Go.Proofs.Try.func68 (by kernel_rfl) rfl
theorem en69 : Enters Go.Proofs.Try.prog 69 := enters_of Go.Proofs.Try.func69 (by kernel_rfl) rfl
theorem en70 : Enters Go.Proofs.Try.prog 70 := enters_of Go.Proofs.Try.func70 (by kernel_rfl) rfl
theorem en71 : Enters Go.Proofs.Try.prog 71 := enters_of Go.Proofs.Try.func71 (by kernel_rfl) rfl
theorem fl106_0 : fldI Go.Proofs.Try.prog 106 0 = some 0 := by kernel_rfl
theorem fl106_1 : fldI Go.Proofs.Try.prog 106 1 = some 1 := by kernel_rfl
theorem fl106_2 : fldI Go.Proofs.Try.prog 106 2 = some 2 := by kernel_rfl
theorem fl30_0 : fldI Go.Proofs.Try.prog 30 0 = some 0 := by kernel_rfl
theorem fl38_0 : fldI Go.Proofs.Try.prog 38 0 = some 0 := by kernel_rfl
theorem fl38_1 : fldI Go.Proofs.Try.prog 38 1 = some 3 := by kernel_rfl
theorem fl38_5 : fldI Go.Proofs.Try.prog 38 5 = some 7 := by kernel_rfl
theorem fl50_0 : fldI Go.Proofs.Try.prog 50 0 = some 0 := by kernel_rfl
theorem fl50_1 : fldI Go.Proofs.Try.prog 50 1 = some 1 := by kernel_rfl
theorem fl50_2 : fldI Go.Proofs.Try.prog 50 2 = some 9 := by kernel_rfl
theorem fl50_3 : fldI Go.Proofs.Try.prog 50 3 = some 10 := by kernel_rfl
theorem mixed : Go.Proofs.Try.prog.follows .mixedOrders = true := by kernel_rfl
theorem mp104 : mapI Go.Proofs.Try.prog 104 = some (35, 38) := by kernel_rfl
theorem ps35 : plainS Go.Proofs.Try.prog 35 = true := by kernel_rfl
theorem sl28 : sliI Go.Proofs.Try.prog 28 = some (50, 11, 144) := by kernel_rfl
theorem sl36 : sliI Go.Proofs.Try.prog 36 = some (116, 2, 24) := by kernel_rfl
theorem sl48 : sliI Go.Proofs.Try.prog 48 = some (38, 8, 104) := by kernel_rfl
theorem ty104 : tyI Go.Proofs.Try.prog 104 = some (1, false) := by kernel_rfl
theorem ty2 : tyI Go.Proofs.Try.prog 2 = some (1, false) := by kernel_rfl
theorem ty28 : tyI Go.Proofs.Try.prog 28 = some (1, false) := by kernel_rfl
theorem ty35 : tyI Go.Proofs.Try.prog 35 = some (3, true) := by kernel_rfl
theorem ty36 : tyI Go.Proofs.Try.prog 36 = some (1, false) := by kernel_rfl
theorem ty38 : tyI Go.Proofs.Try.prog 38 = some (8, true) := by kernel_rfl
theorem ty47 : tyI Go.Proofs.Try.prog 47 = some (1, false) := by kernel_rfl
theorem ty48 : tyI Go.Proofs.Try.prog 48 = some (1, false) := by kernel_rfl
theorem ty50 : tyI Go.Proofs.Try.prog 50 = some (11, true) := by kernel_rfl
theorem u180 : Go.Proofs.Try.prog.underlying 180 = some (.int .u64) := by kernel_rfl
theorem u25 : Go.Proofs.Try.prog.underlying 25 = some (.pointer 106) := by kernel_rfl
theorem u28 : Go.Proofs.Try.prog.underlying 28 = some (.slice 50) := by kernel_rfl
theorem u3 : Go.Proofs.Try.prog.underlying 3 = some (.int .i64) := by kernel_rfl
theorem u35 : Go.Proofs.Try.prog.underlying 35 = some (.struct #[⟨"Kind", 9, 0, false, "", "", 0⟩, ⟨"Space", 9, 1, false, "", "", 16⟩, ⟨"Name", 9, 2, false, "", "", 32⟩]) := by kernel_rfl
theorem u36 : Go.Proofs.Try.prog.underlying 36 = some (.slice 116) := by kernel_rfl
theorem u48 : Go.Proofs.Try.prog.underlying 48 = some (.slice 38) := by kernel_rfl
theorem u50 : Go.Proofs.Try.prog.underlying 50 = some (.struct #[⟨"Kind", 47, 0, false, "", "", 0⟩, ⟨"Object", 38, 1, false, "", "", 8⟩, ⟨"Version", 2, 9, false, "", "", 112⟩, ⟨"Objects", 48, 10, false, "", "", 120⟩]) := by kernel_rfl
theorem z116 : zI Go.Proofs.Try.prog 116 = some (.agg #[(.string ⟨#[]⟩), (.int .i64 0)]) := by kernel_rfl
theorem z38 : zI Go.Proofs.Try.prog 38 = some (.agg #[(.string ⟨#[]⟩), (.string ⟨#[]⟩), (.string ⟨#[]⟩), (.int .i64 0), (.string ⟨#[]⟩), (.bool false), (.bool false), (.slice none 0 0)]) := by kernel_rfl
theorem z50 : zI Go.Proofs.Try.prog 50 = some (.agg #[(.int .i64 0), (.string ⟨#[]⟩), (.string ⟨#[]⟩), (.string ⟨#[]⟩), (.int .i64 0), (.string ⟨#[]⟩), (.bool false), (.bool false), (.slice none 0 0), (.int .i64 0), (.slice none 0 0)]) := by kernel_rfl
end Go.Proofs.Ytncecheccihjoaa.TT19
namespace Go.Proofs.Ytncecheccihjoaa
open Go Go.Proofs.Fw Go.Proofs
set_option linter.unusedVariables false
set_option linter.unusedSimpArgs false
set_option maxRecDepth 20000
set_option maxHeartbeats 4000000
theorem refGet_spec (r : Nat) (L : List Evt) (tk : Tok) (k : Key) (H : AH) (hl : L.length ≤ 1000000) (hk : ∀ e ∈ L, keyFits e.obj.key) : ACalls Try.prog [] 19 [.ptr r 0, encKey k] ((r, .row [.slice (L.map encEv) tk] 30) :: H) (fun x H' => x = .tup [encObj ((findK (sortO (objsOf L)) k).getD noObj), .bool (findK (sortO (objsOf L)) k).isSome] ∧ H' = ((r, .row [.slice (L.map encEv) tk] 30) :: H)) := by
  refine ACalls.enter (n := 28) Try.func19 rfl rfl (Nat.le_of_ble_eq_true rfl) ?_
  refine AS.seq ?_
  refine AS.region rfl ?_
  refine AS.box rfl rfl rfl rfl rfl ?_
  intro b3
  refine AS.allocZ rfl rfl rfl TT19.z38 rfl ?_
  intro b4
  refine AS.assign rfl rfl rfl rfl ?_
  refine AS.opsEnd ?_
  refine AS.seq ?_
  refine AS.permH [] (List.perm_append_comm_assoc [_, _] [_] H) ?_
  dsimp only [List.append_eq, List.cons_append, List.nil_append]
  refine AS.region rfl ?_
  refine AS.move rfl rfl rfl rfl ?_
  refine AS.call rfl rfl rfl rfl TT19.en65 (refObjects_spec r L tk _ hl hk) ?_
  rintro _ _ ⟨rfl, rfl⟩
  refine AS.assign rfl rfl rfl rfl ?_
  refine AS.opsEnd ?_
  refine AS.seq ?_
  refine AS.seq ?_
  refine AS.region rfl ?_
  refine AS.assign rfl rfl rfl rfl ?_
  refine AS.opsEnd ?_
  refine AS.block ?_
  refine AS.loopI (α := Nat) (fun i => i ≤ (sortO (objsOf L)).length ∧ ∀ j, j < i → ∀ p, (sortO (objsOf L))[j]? = some p → p.key ≠ k) (fun i => (sortO (objsOf L)).length - i) (fun i => [(7, .int .i64 i)]) [(3, _), (4, _), (6, _)] (fun i => _) 0 ⟨Nat.zero_le _, fun j h => by omega⟩ (.cons rfl (.cons rfl (.cons rfl (.cons rfl (.nil))))) rfl (fun i hI l0_ih => ?_)
  refine AS.seq ?_
  refine AS.seq ?_
  refine AS.region rfl ?_
  refine AS.move rfl rfl rfl rfl ?_
  refine AS.move rfl rfl rfl rfl ?_
  refine AS.len rfl rfl rfl rfl (by first | exact lenT_sl TT19.u48 | exact lenT_ms TT19.u48 | (rw [TT19.u48]; rfl)) rfl (lenMap _ _) ?_
  refine AS.bin rfl rfl rfl rfl rfl (BinR.lss rfl) ?_
  refine AS.opsEnd ?_
  refine AS.cond rfl (fun hc0 => ?_) (fun hc0 => ?_)
  · have hi : i < (sortO (objsOf L)).length := by simp only [decide_eq_true_eq] at hc0; omega
    obtain ⟨o, ho⟩ := getAt hi
    refine AS.skip ?_
    refine AS.seq ?_
    refine AS.block ?_
    refine AS.seq ?_
    refine SA.start1 TT19.mixed rfl ?_
    refine SA.rd 0 [6] rfl (fun env rest next => AS.move rfl rfl rfl rfl next) ?_
    refine SA.rd 1 [7] rfl (fun env rest next => AS.move rfl rfl rfl rfl next) ?_
    refine SA.rd 2 [16, 17] rfl (fun env rest next => AS.indexAddr rfl rfl rfl rfl rfl TT19.sl48 (Int.natCast_nonneg _) (map_get _ _ ho) rfl next) ?_
    refine SA.rd 3 [18] rfl (fun env rest next => AS.ifieldAddr rfl rfl rfl rfl TT19.fl38_0 next) ?_
    refine SA.rd 4 [19] rfl (fun env rest next => AS.iload (y := encKey o.key) rfl rfl rfl rfl TT19.ty35 rfl rfl rfl next) ?_
    refine SA.rd 5 [3] rfl (fun env rest next => AS.load (y := encKey k) rfl rfl rfl rfl TT19.ty35 rfl rfl rfl next) ?_
    refine SA.rd 6 [20, 21] rfl (fun env rest next => AS.bin rfl rfl rfl rfl rfl (BinR.steql TT19.ps35 (by rw [TT19.u35]; rfl) (keyEq _ _)) next) ?_
    refine SA.done rfl rfl rfl ?_
    refine AS.cond rfl (fun hc1 => ?_) (fun hc1 => ?_)
    · refine AS.seq ?_
      refine AS.region rfl ?_
      refine AS.move rfl rfl rfl rfl ?_
      refine AS.move rfl rfl rfl rfl ?_
      refine AS.indexAddr rfl rfl rfl rfl rfl TT19.sl48 (Int.natCast_nonneg _) (map_get _ _ ho) rfl ?_
      refine AS.iload (y := encObj o) rfl rfl rfl rfl TT19.ty38 rfl rfl rfl ?_
      refine AS.store rfl rfl rfl rfl rfl rfl TT19.ty38 rfl rfl ?_
      refine AS.assign rfl rfl rfl rfl ?_
      refine AS.opsEnd ?_
      refine AS.retW Try.func19 rfl (.cell rfl TT19.ty38 rfl rfl rfl (.tmp rfl (.nil))) ?_
      have hy := find_here hI.2 ho (of_decide_eq_true hc1)
      exact RWk.drop2 [_] [_, _] rfl ⟨by rw [hy]; rfl, rfl⟩
    · refine AS.skip ?_
      refine AS.inBlock ?_
      refine AS.region rfl ?_
      refine AS.move rfl rfl rfl rfl ?_
      refine AS.bin rfl rfl rfl rfl rfl (BinR.add (w64 (by have := sortO_len (objsOf L); have := objs_len L; omega) (by have := sortO_len (objsOf L); have := objs_len L; omega))) ?_
      refine AS.assign rfl rfl rfl rfl ?_
      refine AS.opsEnd ?_
      have hup : ∀ j, j < i + 1 → ∀ p, (sortO (objsOf L))[j]? = some p → p.key ≠ k := fun j h1 p hp => by
        rcases Nat.lt_or_ge j i with h | h
        · exact hI.2 j h p hp
        · have : j = i := by omega
          subst this; rw [ho] at hp; cases hp; exact of_decide_eq_false hc1
      exact AS.nextI (l0_ih (i + 1) ⟨hi, hup⟩ (by omega)) [] (.cons rfl (.cons rfl (.cons rfl (.cons rfl (.nil))))) rfl
  · have hno := find_none hI.2 (by simp only [decide_eq_false_iff_not] at hc0; omega)
    refine AS.exit rfl ?_
    refine AS.seq ?_
    refine AS.region rfl ?_
    refine AS.build rfl rfl rfl TT19.b38 rfl rfl ?_
    refine AS.store rfl rfl rfl rfl rfl rfl TT19.ty38 rfl rfl ?_
    refine AS.assign rfl rfl rfl rfl ?_
    refine AS.opsEnd ?_
    refine AS.retW Try.func19 rfl (.cell rfl TT19.ty38 rfl rfl rfl (.tmp rfl (.nil))) ?_
    rw [hno]
    refine ⟨_, _, (Wk.le (AVLe.tup (.cons (AVLe.agg (.cons (.refl _) (.cons (.refl _) (.cons (.refl _) (.cons (.refl _) (.cons (.refl _) (.cons (.refl _) (.cons (.refl _) (.cons (AVLe.tok _ _) .nil))))))))) (.cons (.refl _) .nil)))).trans (Wk.mid [_] [_, _]), rfl, rfl⟩
end Go.Proofs.Ytncecheccihjoaa
/- T20 -/
namespace Go.Proofs.Ytncecheccihjoaa.TT20
open Go Go.Proofs.Fw Go.Shelf
theorem b38 : bldI Go.Proofs.Try.prog 38 = some ([(.str ⟨#[]⟩), (.str ⟨#[]⟩), (.str ⟨#[]⟩), (.int .i64 0), (.str ⟨#[]⟩), (.bool false), (.bool false), (.slice [] .full)], [(0, 3), (3, 1), (4, 1), (5, 1), (6, 1), (7, 1)]) := by kernel_rfl
theorem b50 : bldI Go.Proofs.Try.prog 50 = some ([(.int .i64 0), (.str ⟨#[]⟩), (.str ⟨#[]⟩), (.str ⟨#[]⟩), (.int .i64 0), (.str ⟨#[]⟩), (.bool false), (.bool false), (.slice [] .full), (.int .i64 0), (.slice [] .full)], [(0, 1), (1, 8), (9, 1), (10, 1)]) := by kernel_rfl
theorem en100 : Enters Go.Proofs.Try.prog 100 := enters_of Go.Proofs.Try.func100 (by kernel_rfl) rfl
theorem en101 : Enters Go.Proofs.Try.prog 101 := enters_of Go.Proofs.Try.func101 (by kernel_rfl) rfl
theorem en102 : Enters Go.Proofs.Try.prog 102 := enters_of Go.Proofs.Try.func102 (by kernel_rfl) rfl
theorem en103 : Enters Go.Proofs.Try.prog 103 := enters_of Go.Proofs.Try.func103 (by kernel_rfl) rfl
theorem en126 : Enters Go.Proofs.Try.prog 126 := enters_of Go.Proofs.Try.func126 (by kernel_rfl) rfl
theorem en133 : Enters Go.Proofs.Try.prog 133 := enters_of Go.Proofs.Try.func133 (by kernel_rfl) rfl
theorem en146 : Enters Go.Proofs.Try.prog 146 := enters_of Go.Proofs.Try.func146 (by kernel_rfl) rfl
theorem en147 : Enters Go.Proofs.Try.prog 147 := enters_of Go.Proofs.Try.func147 (by kernel_rfl) rfl
theorem en166 : Enters Go.Proofs.Try.prog 166 := enters_of Go.Proofs.Try.func166 (by kernel_rfl) rfl
theorem en175 : Enters Go.Proofs.Try.prog 175 := enters_of Go.Proofs.Try.func175 (by kernel_rfl) rfl
theorem en20 : Enters Go.Proofs.Try.prog 20 := enters_of Go.Proofs.Try.func20 (by kernel_rfl) rfl
theorem en21 : Enters Go.Proofs.Try.prog 21 := enters_of Go.Proofs.Try.func21 (by kernel_rfl) rfl
theorem en52 : Enters Go.Proofs.Try.prog 52 := enters_of Go.Proofs.Try.func52 (by kernel_rfl) rfl
theorem en61 : Enters Go.Proofs.Try.prog 61 := enters_of Go.Proofs.Try.func61 (by kernel_rfl) rfl
theorem en65 : Enters Go.Proofs.Try.prog 65 := enters_of Go.Proofs.Try.func65 (by kernel_rfl) rfl
theorem en66 : Enters Go.Proofs.Try.prog 66 := enters_of Go.Proofs.Try.func66 (by kernel_rfl) rfl
theorem en68 : Enters Go.Proofs.Try.prog 68 := enters_of Go.Proofs.Try.func68 (by kernel_rfl) rfl
theorem en69 : Enters Go.Proofs.Try.prog 69 := enters_of Go.Proofs.Try.func69 (by kernel_rfl) rfl
theorem en70 : Enters Go.Proofs.Try.prog 70 := enters_of Go.Proofs.Try.func70 (by kernel_rfl) rfl
theorem en71 : Enters Go.Proofs.Try.prog 71 := enters_of Go.Proofs.Try.func71 (by kernel_rfl) rfl
theorem fl106_0 : fldI Go.Proofs.Try.prog 106 0 = some 0 := by kernel_rfl
theorem fl106_1 : fldI Go.Proofs.Try.prog 106 1 = some 1 := by kernel_rfl
theorem fl106_2 : fldI Go.Proofs.Try.prog 106 2 = some 2 := by kernel_rfl
theorem fl30_0 : fldI Go.Proofs.Try.prog 30 0 = some 0 := by kernel_rfl
theorem fl38_0 : fldI Go.Proofs.Try.prog 38 0 = some 0 := by kernel_rfl
theorem fl38_1 : fldI Go.Proofs.Try.prog 38 1 = some 3 := by kernel_rfl
theorem fl38_5 : fldI Go.Proofs.Try.prog 38 5 = some 7 := by kernel_rfl
theorem fl50_0 : fldI Go.Proofs.Try.prog 50 0 = some 0 := by kernel_rfl
theorem fl50_1 : fldI Go.Proofs.Try.prog 50 1 = some 1 := by kernel_rfl
theorem fl50_2 : fldI Go.Proofs.Try.prog 50 2 = some 9 := by kernel_rfl
theorem fl50_3 : fldI Go.Proofs.Try.prog 50 3 = some 10 := by kernel_rfl
theorem mixed : Go.Proofs.Try.prog.follows .mixedOrders = true := by kernel_rfl
theorem mp104 : mapI Go.Proofs.Try.prog 104 = some (35, 38) := by kernel_rfl
theorem ps35 : plainS Go.Proofs.Try.prog 35 = true := by kernel_rfl
theorem sl28 : sliI Go.Proofs.Try.prog 28 = some (50, 11, 144) := by kernel_rfl
theorem sl36 : sliI Go.Proofs.Try.prog 36 = some (116, 2, 24) := by kernel_rfl
theorem sl48 : sliI Go.Proofs.Try.prog 48 = some (38, 8, 104) := by kernel_rfl
theorem ty104 : tyI Go.Proofs.Try.prog 104 = some (1, false) := by kernel_rfl
theorem ty2 : tyI Go.Proofs.Try.prog 2 = some (1, false) := by kernel_rfl
theorem ty28 : tyI Go.Proofs.Try.prog 28 = some (1, false) := by kernel_rfl
theorem ty35 : tyI Go.Proofs.Try.prog 35 = some (3, true) := by kernel_rfl
theorem ty36 : tyI Go.Proofs.Try.prog 36 = some (1, false) := by kernel_rfl
theorem ty38 : tyI Go.Proofs.Try.prog 38 = some (8, true) := by kernel_rfl
theorem ty47 : tyI Go.Proofs.Try.prog 47 = some (1, false) := by kernel_rfl
theorem ty48 : tyI Go.Proofs.Try.prog 48 = some (1, false) := by kernel_rfl
theorem ty50 : tyI Go.Proofs.Try.prog 50 = some (11, true) := by kernel_rfl
theorem u180 : Go.Proofs.Try.prog.underlying 180 = some (.int .u64) := by kernel_rfl
theorem u25 : Go.Proofs.Try.prog.underlying 25 = some (.pointer 106) := by kernel_rfl
theorem u28 : Go.Proofs.Try.prog.underlying 28 = some (.slice 50) := by kernel_rfl
theorem u3 : Go.Proofs.Try.prog.underlying 3 = some (.int .i64) := by kernel_rfl
theorem u35 : Go.Proofs.Try.prog.underlying 35 = some (.struct #[⟨"Kind", 9, 0, false, "", "", 0⟩, ⟨"Space", 9, 1, false, "", "", 16⟩, ⟨"Name", 9, 2, false, "", "", 32⟩]) := by kernel_rfl
theorem u36 : Go.Proofs.Try.prog.underlying 36 = some (.slice 116) := by kernel_rfl
theorem u48 : Go.Proofs.Try.prog.underlying 48 = some (.slice 38) := by kernel_rfl
theorem u50 : Go.Proofs.Try.prog.underlying 50 = some (.struct #[⟨"Kind", 47, 0, false, "", "", 0⟩, ⟨"Object", 38, 1, false, "", "", 8⟩, ⟨"Version", 2, 9, false, "", "", 112⟩, ⟨"Objects", 48, 10, false, "", "", 120⟩]) := by kernel_rfl
theorem z116 : zI Go.Proofs.Try.prog 116 = some (.agg #[(.string ⟨#[]⟩), (.int .i64 0)]) := by kernel_rfl
theorem z38 : zI Go.Proofs.Try.prog 38 = some (.agg #[(.string ⟨#[]⟩), (.string ⟨#[]⟩), (.string ⟨#[]⟩), (.int .i64 0), (.string ⟨#[]⟩), (.bool false), (.bool false), (.slice none 0 0)]) := by kernel_rfl
theorem z50 : zI Go.Proofs.Try.prog 50 = some (.agg #[(.int .i64 0), (.string ⟨#[]⟩), (.string ⟨#[]⟩), (.string ⟨#[]⟩), (.int .i64 0), (.string ⟨#[]⟩), (.bool false), (.bool false), (.slice none 0 0), (.int .i64 0), (.slice none 0 0)]) := by kernel_rfl
end Go.Proofs.Ytncecheccihjoaa.TT20
namespace Go.Proofs.Ytncecheccihjoaa
open Go Go.Proofs.Fw Go.Proofs
set_option linter.unusedVariables false
set_option linter.unusedSimpArgs false
set_option maxRecDepth 20000
set_option maxHeartbeats 4000000
theorem refSnapshot_spec (r : Nat) (L : List Evt) (tk : Tok) (H : AH) (hl : L.length ≤ 1000000) (hk : ∀ e ∈ L, keyFits e.obj.key) : ACalls Try.prog [] 23 [.ptr r 0] ((r, .row [.slice (L.map encEv) tk] 30) :: H) (fun x H' => x = encEv (⟨2, noObj, (L.length : Int), sortO (objsOf L)⟩ : Evt) ∧ H' = ((r, .row [.slice (L.map encEv) tk] 30) :: H)) := by
  refine ACalls.enter (n := 11) Try.func23 rfl rfl (Nat.le_of_ble_eq_true rfl) ?_
  refine AS.seq ?_
  refine AS.region rfl ?_
  refine AS.allocZ rfl rfl rfl TT20.z50 rfl ?_
  intro b2
  refine AS.opsEnd ?_
  refine AS.seq ?_
  refine SA.start1 TT20.mixed rfl ?_
  refine SA.rd 0 [0] rfl (fun env rest next => AS.move rfl rfl rfl rfl next) ?_
  refine SA.rd 1 [3] rfl (fun env rest next => AS.nilCheck rfl rfl rfl rfl rfl next) ?_
  refine SA.rd 2 [4] rfl (fun env rest next => AS.fieldAddr rfl rfl rfl rfl TT20.fl30_0 next) ?_
  refine SA.rd 3 [5] rfl (fun env rest next => AS.load rfl rfl rfl rfl TT20.ty28 rfl rfl rfl next) ?_
  refine SA.rd 4 [6] rfl (fun env rest next => AS.len rfl rfl rfl rfl (by first | exact lenT_sl TT20.u28 | exact lenT_ms TT20.u28 | (rw [TT20.u28]; rfl)) rfl (lenMap _ _) next) ?_
  refine SA.rd 5 [0] rfl (fun env rest next => AS.move rfl rfl rfl rfl next) ?_
  refine SA.rd 6 [8] rfl (fun env rest next => AS.callP rfl rfl rfl rfl TT20.en65 (ACalls.permP (refObjects_spec r L tk _ hl hk) (.swap _ _ _)) next) ?_
  refine SA.rd 7 [7, 9] rfl (fun env rest next => AS.build rfl rfl rfl TT20.b50 rfl rfl next) ?_
  refine SA.chg 8 [2, 10] rfl rfl rfl rfl (fun env rest next => AS.store rfl rfl rfl rfl rfl rfl TT20.ty50 rfl rfl next) ⟨trivial, ⟨trivial, ⟨trivial, ⟨trivial, ⟨trivial, ⟨trivial, ⟨trivial, ⟨trivial, trivial⟩⟩⟩⟩⟩⟩⟩⟩ ?_
  refine SA.done rfl rfl rfl ?_
  refine AS.retW Try.func23 rfl (.cell rfl TT20.ty50 rfl rfl rfl (.nil)) ?_
  exact ⟨_, _, (Wk.le (AVLe.agg (.cons (.refl _) (.cons (.refl _) (.cons (.refl _) (.cons (.refl _) (.cons (.refl _) (.cons (.refl _) (.cons (.refl _) (.cons (.refl _) (.cons (AVLe.tok _ _) (.cons (.refl _) (.cons (.refl _) .nil))))))))))))).trans (Wk.dropL [_]), rfl, rfl⟩
end Go.Proofs.Ytncecheccihjoaa
/- T21 -/
namespace Go.Proofs.Ytncecheccihjoaa.TT21
open Go Go.Proofs.Fw Go.Shelf
theorem b38 : bldI Go.Proofs.Try.prog 38 = some ([(.str ⟨#[]⟩), (.str ⟨#[]⟩), (.str ⟨#[]⟩), (.int .i64 0), (.str ⟨#[]⟩), (.bool false), (.bool false), (.slice [] .full)], [(0, 3), (3, 1), (4, 1), (5, 1), (6, 1), (7, 1)]) := by kernel_rfl
theorem b50 : bldI Go.Proofs.Try.prog 50 = some ([(.int .i64 0), (.str ⟨#[]⟩), (.str ⟨#[]⟩), (.str ⟨#[]⟩), (.int .i64 0), (.str ⟨#[]⟩), (.bool false), (.bool false), (.slice [] .full), (.int .i64 0), (.slice [] .full)], [(0, 1), (1, 8), (9, 1), (10, 1)]) := by kernel_rfl
theorem en100 : Enters Go.Proofs.Try.prog 100 := enters_of Go.Proofs.Try.func100 (by kernel_rfl) rfl
theorem en101 : Enters Go.Proofs.Try.prog 101 := enters_of Go.Proofs.Try.func101 (by kernel_rfl) rfl
theorem en102 : Enters Go.Proofs.Try.prog 102 := enters_of Go.Proofs.Try.func102 (by kernel_rfl) rfl
theorem en103 : Enters Go.Proofs.Try.prog 103 := enters_of Go.Proofs.Try.func103 (by kernel_rfl) rfl
theorem en126 : Enters Go.Proofs.Try.prog 126 := enters_of Go.Proofs.Try.func126 (by kernel_rfl) rfl
theorem en133 : Enters Go.Proofs.Try.prog 133 := enters_of Go.Proofs.Try.func133 (by kernel_rfl) rfl
theorem en146 : Enters Go.Proofs.Try.prog 146 := enters_of Go.Proofs.Try.func146 (by kernel_rfl) rfl
theorem en147 : Enters Go.Proofs.Try.prog 147 := enters_of Go.Proofs.Try.func147 (by kernel_rfl) rfl
theorem en166 : Enters Go.Proofs.Try.prog 166 := enters_of Go.Proofs.Try.func166 (by kernel_rfl) rfl
theorem en175 : Enters Go.Proofs.Try.prog 175 := enters_of Go.Proofs.Try.func175 (by kernel_rfl) rfl
theorem en19 : Enters Go.Proofs.Try.prog 19 := enters_of Go.Proofs.Try.func19 (by kernel_rfl) rfl
theorem en20 : Enters Go.Proofs.Try.prog 20 := enters_of Go.Proofs.Try.func20 (by kernel_rfl) rfl
theorem en21 : Enters Go.Proofs.Try.prog 21 := enters_of Go.Proofs.Try.func21 (by kernel_rfl) rfl
theorem en52 : Enters Go.Proofs.Try.prog 52 := enters_of Go.Proofs.Try.func52 (by kernel_rfl) rfl
theorem en61 : Enters Go.Proofs.Try.prog 61 := enters_of Go.Proofs.Try.func61 (by kernel_rfl) rfl
theorem en64 : Enters Go.Proofs.Try.prog 64 := enters_of Go.Proofs.Try.func64 (by kernel_rfl) rfl
theorem en65 : Enters Go.Proofs.Try.prog 65 := enters_of Go.Proofs.Try.func65 (by kernel_rfl) rfl
theorem en66 : Enters Go.Proofs.Try.prog 66 := enters_of Go.Proofs.Try.func66 (by kernel_rfl) rfl
theorem en68 : Enters Go.Proofs.Try.prog 68 := enters_of Go.Proofs.Try.func68 (by kernel_rfl) rfl
theorem en69 : Enters Go.Proofs.Try.prog 69 := enters_of Go.Proofs.Try.func69 (by kernel_rfl) rfl
theorem en70 : Enters Go.Proofs.Try.prog 70 := enters_of Go.Proofs.Try.func70 (by kernel_rfl) rfl
theorem en71 : Enters Go.Proofs.Try.prog 71 := enters_of Go.Proofs.Try.func71 (by kernel_rfl) rfl
theorem fl106_0 : fldI Go.Proofs.Try.prog 106 0 = some 0 := by kernel_rfl
theorem fl106_1 : fldI Go.Proofs.Try.prog 106 1 = some 1 := by kernel_rfl
theorem fl106_2 : fldI Go.Proofs.Try.prog 106 2 = some 2 := by kernel_rfl
theorem fl30_0 : fldI Go.Proofs.Try.prog 30 0 = some 0 := by kernel_rfl
theorem fl38_0 : fldI Go.Proofs.Try.prog 38 0 = some 0 := by kernel_rfl
theorem fl38_1 : fldI Go.Proofs.Try.prog 38 1 = some 3 := by kernel_rfl
theorem fl38_5 : fldI Go.Proofs.Try.prog 38 5 = some 7 := by kernel_rfl
theorem fl50_0 : fldI Go.Proofs.Try.prog 50 0 = some 0 := by kernel_rfl
theorem fl50_1 : fldI Go.Proofs.Try.prog 50 1 = some 1 := by kernel_rfl
theorem fl50_2 : fldI Go.Proofs.Try.prog 50 2 = some 9 := by kernel_rfl
theorem fl50_3 : fldI Go.Proofs.Try.prog 50 3 = some 10 := by kernel_rfl
theorem mixed : Go.Proofs.Try.prog.follows .mixedOrders = true := by kernel_rfl
theorem mp104 : mapI Go.Proofs.Try.prog 104 = some (35, 38) := by kernel_rfl
theorem ps35 : plainS Go.Proofs.Try.prog 35 = true := by kernel_rfl
theorem sl28 : sliI Go.Proofs.Try.prog 28 = some (50, 11, 144) := by kernel_rfl
theorem sl36 : sliI Go.Proofs.Try.prog 36 = some (116, 2, 24) := by kernel_rfl
theorem sl48 : sliI Go.Proofs.Try.prog 48 = some (38, 8, 104) := by kernel_rfl
theorem ty104 : tyI Go.Proofs.Try.prog 104 = some (1, false) := by kernel_rfl
theorem ty2 : tyI Go.Proofs.Try.prog 2 = some (1, false) := by kernel_rfl
theorem ty28 : tyI Go.Proofs.Try.prog 28 = some (1, false) := by kernel_rfl
theorem ty35 : tyI Go.Proofs.Try.prog 35 = some (3, true) := by kernel_rfl
theorem ty36 : tyI Go.Proofs.Try.prog 36 = some (1, false) := by kernel_rfl
theorem ty38 : tyI Go.Proofs.Try.prog 38 = some (8, true) := by kernel_rfl
theorem ty47 : tyI Go.Proofs.Try.prog 47 = some (1, false) := by kernel_rfl
theorem ty48 : tyI Go.Proofs.Try.prog 48 = some (1, false) := by kernel_rfl
theorem ty50 : tyI Go.Proofs.Try.prog 50 = some (11, true) := by kernel_rfl
theorem u180 : Go.Proofs.Try.prog.underlying 180 = some (.int .u64) := by kernel_rfl
theorem u25 : Go.Proofs.Try.prog.underlying 25 = some (.pointer 106) := by kernel_rfl
theorem u28 : Go.Proofs.Try.prog.underlying 28 = some (.slice 50) := by kernel_rfl
theorem u3 : Go.Proofs.Try.prog.underlying 3 = some (.int .i64) := by kernel_rfl
theorem u35 : Go.Proofs.Try.prog.underlying 35 = some (.struct #[⟨"Kind", 9, 0, false, "", "", 0⟩, ⟨"Space", 9, 1, false, "", "", 16⟩, ⟨"Name", 9, 2, false, "", "", 32⟩]) := by kernel_rfl
theorem u36 : Go.Proofs.Try.prog.underlying 36 = some (.slice 116) := by kernel_rfl
theorem u48 : Go.Proofs.Try.prog.underlying 48 = some (.slice 38) := by kernel_rfl
theorem u50 : Go.Proofs.Try.prog.underlying 50 = some (.struct #[⟨"Kind", 47, 0, false, "", "", 0⟩, ⟨"Object", 38, 1, false, "", "", 8⟩, ⟨"Version", 2, 9, false, "", "", 112⟩, ⟨"Objects", 48, 10, false, "", "", 120⟩]) := by kernel_rfl
theorem z116 : zI Go.Proofs.Try.prog 116 = some (.agg #[(.string ⟨#[]⟩), (.int .i64 0)]) := by kernel_rfl
theorem z38 : zI Go.Proofs.Try.prog 38 = some (.agg #[(.string ⟨#[]⟩), (.string ⟨#[]⟩), (.string ⟨#[]⟩), (.int .i64 0), (.string ⟨#[]⟩), (.bool false), (.bool false), (.slice none 0 0)]) := by kernel_rfl
theorem z50 : zI Go.Proofs.Try.prog 50 = some (.agg #[(.int .i64 0), (.string ⟨#[]⟩), (.string ⟨#[]⟩), (.string ⟨#[]⟩), (.int .i64 0), (.string ⟨#[]⟩), (.bool false), (.bool false), (.slice none 0 0), (.int .i64 0), (.slice none 0 0)]) := by kernel_rfl
end Go.Proofs.Ytncecheccihjoaa.TT21
namespace Go.Proofs.Ytncecheccihjoaa
open Go Go.Proofs.Fw Go.Proofs
set_option linter.unusedVariables false
set_option linter.unusedSimpArgs false
set_option maxRecDepth 20000
set_option maxHeartbeats 4000000
theorem refPut_spec (r : Nat) (L : List Evt) (tk : Tok) (o : Object) (H : AH) (hl : L.length ≤ 1000) (hk : ∀ e ∈ L, keyFits e.obj.key) (ho : objFits o) : ACalls Try.prog [] 17 [.ptr r 0, encObj o] ((r, .row [.slice (L.map encEv) tk] 30) :: H) (fun x H' => (objRight (o.wv 1) = false ∧ x = .tup [.int .i64 0, .int .i64 1] ∧ H' = ((r, .row [.slice (L.map encEv) tk] 30) :: H)) ∨ (objRight (o.wv 1) = true ∧ findK (sortO (objsOf L)) o.key = none ∧ 1000 ≤ (sortO (objsOf L)).length ∧ x = .tup [.int .i64 0, .int .i64 3] ∧ H' = ((r, .row [.slice (L.map encEv) tk] 30) :: H)) ∨ (objRight (o.wv 1) = true ∧ (findK (sortO (objsOf L)) o.key = none → (sortO (objsOf L)).length < 1000) ∧ x = .tup [.int .i64 ((L.length + 1 : Nat) : Int), .int .i64 0] ∧ ∃ tk', H' = (r, .row [.slice ((L ++ [(⟨0, o.wv ((L.length + 1 : Nat) : Int), 0, []⟩ : Evt)]).map encEv) tk'] 30) :: H)) := by
  refine ACalls.enter (n := 53) Try.func17 rfl rfl (Nat.le_of_ble_eq_true rfl) ?_
  refine AS.seq ?_
  refine AS.region rfl ?_
  refine AS.box rfl rfl rfl rfl rfl ?_
  intro b3
  refine AS.assign rfl rfl rfl rfl ?_
  refine AS.assign rfl rfl rfl rfl ?_
  refine AS.opsEnd ?_
  refine AS.seq ?_
  refine AS.region rfl ?_
  refine AS.load (y := encObj o) rfl rfl rfl rfl TT21.ty38 rfl rfl rfl ?_
  refine AS.allocZ rfl rfl rfl TT21.z38 rfl ?_
  intro b6
  refine AS.store rfl rfl rfl rfl rfl rfl TT21.ty38 rfl rfl ?_
  refine AS.opsEnd ?_
  refine AS.seq ?_
  refine AS.region rfl ?_
  refine AS.fieldAddr rfl rfl rfl rfl TT21.fl38_1 ?_
  refine AS.store rfl rfl rfl rfl rfl rfl TT21.ty2 rfl rfl ?_
  refine AS.opsEnd ?_
  refine AS.seq ?_
  refine AS.region rfl ?_
  refine AS.load (y := encObj (o.wv 1)) rfl rfl rfl rfl TT21.ty38 rfl rfl rfl ?_
  refine AS.callP rfl rfl rfl rfl TT21.en64 (ref_object (o.wv 1) _ ho) ?_
  refine AS.assign rfl rfl rfl rfl ?_
  refine AS.opsEnd ?_
  refine AS.seq ?_
  refine AS.seq ?_
  refine AS.region rfl ?_
  refine AS.move rfl rfl rfl rfl ?_
  refine AS.not rfl rfl rfl rfl rfl ?_
  refine AS.opsEnd ?_
  refine AS.cond rfl (fun hc0 => ?_) (fun hc0 => ?_)
  · rw [Bool.not_eq_true'] at hc0
    refine AS.seq ?_
    refine AS.region rfl ?_
    refine AS.assign rfl rfl rfl rfl ?_
    refine AS.assign rfl rfl rfl rfl ?_
    refine AS.opsEnd ?_
    refine AS.retW Try.func17 rfl (.tmp rfl (.tmp rfl (.nil))) ?_
    exact RWk.drop [_, _] rfl (.inl ⟨hc0, rfl, rfl⟩)
  · rw [Bool.not_eq_false'] at hc0
    refine AS.skip ?_
    refine AS.seq ?_
    refine AS.region rfl ?_
    refine AS.move rfl rfl rfl rfl ?_
    refine AS.fieldAddr rfl rfl rfl rfl TT21.fl38_0 ?_
    refine AS.load (y := encKey o.key) rfl rfl rfl rfl TT21.ty35 rfl rfl rfl ?_
    refine AS.callP rfl rfl rfl rfl TT21.en19 (ACalls.permP (refGet_spec r L tk o.key _ (by omega) hk) (List.perm_append_comm_assoc [_, _] [_] H)) ?_
    refine AS.move rfl rfl rfl rfl ?_
    refine AS.extract rfl rfl rfl rfl rfl ?_
    refine AS.extract rfl rfl rfl rfl rfl ?_
    refine AS.allocZ rfl rfl rfl TT21.z38 rfl ?_
    intro b8
    refine AS.store rfl rfl rfl rfl rfl rfl TT21.ty38 rfl rfl ?_
    refine AS.assign rfl rfl rfl rfl ?_
    refine AS.opsEnd ?_
    refine AS.seq ?_
    refine AS.seq ?_
    refine AS.region rfl ?_
    refine AS.move rfl rfl rfl rfl ?_
    refine AS.not rfl rfl rfl rfl rfl ?_
    refine AS.move rfl rfl rfl rfl ?_
    refine AS.splitT 25 rfl (fun g25 => ?_) (fun g25 => ?_)
    · rw [Bool.not_eq_true'] at g25
      refine AS.move rfl rfl rfl rfl ?_
      refine AS.callP rfl rfl rfl rfl TT21.en65 (ACalls.permP (refObjects_spec r L tk _ (by omega) hk) (List.perm_append_comm_assoc [_, _, _] [_] H)) ?_
      refine AS.len rfl rfl rfl rfl (by first | exact lenT_sl TT21.u48 | exact lenT_ms TT21.u48 | (rw [TT21.u48]; rfl)) rfl (lenMap _ _) ?_
      refine AS.bin rfl rfl rfl rfl rfl (BinR.geq rfl) ?_
      refine AS.pick rfl rfl rfl rfl rfl ?_
      refine AS.opsEnd ?_
      refine AS.cond rfl (fun hc1 => ?_) (fun hc1 => ?_)
      · refine AS.seq ?_
        refine AS.region rfl ?_
        refine AS.assign rfl rfl rfl rfl ?_
        refine AS.assign rfl rfl rfl rfl ?_
        refine AS.opsEnd ?_
        refine AS.retW Try.func17 rfl (.tmp rfl (.tmp rfl (.nil))) ?_
        exact RWk.drop [_, _, _] rfl (.inr (.inl ⟨hc0, Option.isSome_eq_false_iff.1 g25 |> Option.isNone_iff_eq_none.1, by simp only [decide_eq_true_eq] at hc1; omega, rfl, rfl⟩))
      · refine AS.skip ?_
        refine AS.seq ?_
        refine AS.region rfl ?_
        refine AS.move rfl rfl rfl rfl ?_
        refine AS.nilCheck rfl rfl rfl rfl rfl ?_
        refine AS.fieldAddr rfl rfl rfl rfl TT21.fl30_0 ?_
        refine AS.load rfl rfl rfl rfl TT21.ty28 rfl rfl rfl ?_
        refine AS.len rfl rfl rfl rfl (by first | exact lenT_sl TT21.u28 | exact lenT_ms TT21.u28 | (rw [TT21.u28]; rfl)) rfl (lenMap _ _) ?_
        refine AS.bin rfl rfl rfl rfl rfl (BinR.add (c := ((L.length + 1 : Nat) : Int)) (by rw [w64 (by omega) (by omega)]; omega)) ?_
        refine AS.fieldAddr rfl rfl rfl rfl TT21.fl38_1 ?_
        refine AS.store rfl rfl rfl rfl rfl rfl TT21.ty2 rfl rfl ?_
        refine AS.opsEnd ?_
        refine AS.seq ?_
        refine SA.startG TT21.mixed rfl ?_
        refine SA.rdG 0 [0] rfl (fun G env rest next => AS.move rfl rfl rfl rfl next) ?_
        refine SA.rdG 1 [] rfl (fun G env rest next => AS.buildSlice0 rfl rfl rfl TT21.sl28 next) ?_
        refine SA.rdG 2 [0] rfl (fun G env rest next => AS.move rfl rfl rfl rfl next) ?_
        refine SA.rdG 3 [40] rfl (fun G env rest next => AS.nilCheck rfl rfl rfl rfl rfl next) ?_
        refine SA.rdG 4 [41] rfl (fun G env rest next => AS.fieldAddr rfl rfl rfl rfl TT21.fl30_0 next) ?_
        refine SA.rdG 5 [42] rfl (fun G env rest next => AS.load rfl rfl rfl rfl TT21.ty28 rfl rfl rfl next) ?_
        refine SA.rdG 7 [6] rfl (fun G env rest next => AS.load (y := encObj (o.wv ((L.length + 1 : Nat) : Int))) rfl rfl rfl rfl TT21.ty38 rfl rfl rfl next) ?_
        refine SA.rdG 8 [45] rfl (fun G env rest next => AS.build rfl rfl rfl TT21.b50 rfl rfl (AS.putLe (AVLe.agg (.cons (.refl _) (.cons (.refl _) (.cons (.refl _) (.cons (.refl _) (.cons (.refl _) (.cons (.refl _) (.cons (.refl _) (.cons (.refl _) (.cons (.refl _) (.cons (.refl _) (.cons (AVLe.tok _ _) .nil)))))))))))) next)) ?_
        refine SA.rdG 9 [46] rfl (fun G env rest next => AS.buildSlice1 rfl rfl rfl TT21.sl28 rfl rfl rfl next) ?_
        refine SA.turnG (α := Tok) (val := fun tk' => .slice (L.map encEv) tk') (Hn := fun tk1 => G tk1 (L.map encEv).length 11 50 ++ _) (Φ := fun tk' => tk'.grows = true) 6 [39, 43] rfl rfl rfl rfl (fun env rest h => AS.append (xs := []) (ys := L.map encEv) rfl rfl rfl rfl rfl TT21.sl28 rfl rfl (by simp) (map_sz encEv_sz _) (map_one encEv_flat _) (by simp only [List.length_nil, List.length_map]; omega) h) (fun x => ⟨_, rfl⟩) ?_
        intro tk1 h1
        refine SA.turnG (α := Tok) (val := fun tk' => .slice ((L ++ [(⟨0, o.wv ((L.length + 1 : Nat) : Int), 0, []⟩ : Evt)]).map encEv) tk') (Hn := fun tk2 => G tk2 ((L ++ [(⟨0, o.wv ((L.length + 1 : Nat) : Int), 0, []⟩ : Evt)]).map encEv).length 11 50 ++ _) (Φ := fun tk' => tk'.grows = true) 10 [44, 47] rfl rfl rfl rfl (fun env rest h => AS.append1 (enc := encEv) (a := (⟨0, o.wv ((L.length + 1 : Nat) : Int), 0, []⟩ : Evt)) rfl rfl rfl rfl rfl TT21.sl28 h1 rfl encEv_sz encEv_flat (by omega) h) (fun x => ⟨_, rfl⟩) ?_
        intro tk2 h2
        refine SA.rdG 11 [38] rfl (fun G env rest next => AS.nilCheck rfl rfl rfl rfl rfl next) ?_
        refine SA.rdG 12 [49] rfl (fun G env rest next => AS.fieldAddr rfl rfl rfl rfl TT21.fl30_0 next) ?_
        refine SA.chg 13 [48, 50] rfl rfl rfl rfl (fun env rest next => AS.store rfl rfl rfl rfl rfl rfl TT21.ty28 rfl rfl next) ⟨trivial, ⟨trivial, ⟨trivial, ⟨trivial, ⟨trivial, ⟨trivial, ⟨trivial, ⟨trivial, ⟨trivial, ⟨trivial, ⟨trivial, ⟨trivial, ⟨trivial, trivial⟩⟩⟩⟩⟩⟩⟩⟩⟩⟩⟩⟩⟩ ?_
        refine SA.done rfl rfl rfl ?_
        refine AS.seq ?_
        refine AS.region rfl ?_
        refine AS.fieldAddr rfl rfl rfl rfl TT21.fl38_1 ?_
        refine AS.load rfl rfl rfl rfl TT21.ty2 rfl rfl rfl ?_
        refine AS.assign rfl rfl rfl rfl ?_
        refine AS.assign rfl rfl rfl rfl ?_
        refine AS.opsEnd ?_
        refine AS.retW Try.func17 rfl (.tmp rfl (.tmp rfl (.nil))) ?_
        exact RWk.permD (G _ _ _ _ ++ [_, _, _]) (.of_eq (List.append_assoc (G _ _ _ _) [_, _, _] _).symm) (.inr (.inr ⟨hc0, (fun _ => by simp only [decide_eq_false_iff_not] at hc1; omega), rfl, tk2, rfl⟩))
    · rw [Bool.not_eq_false'] at g25
      refine AS.pass rfl rfl rfl ?_
      refine AS.pass rfl rfl rfl ?_
      refine AS.pass rfl rfl rfl ?_
      refine AS.pass rfl rfl rfl ?_
      refine AS.pick rfl rfl rfl rfl rfl ?_
      refine AS.opsEnd ?_
      refine AS.condF rfl ?_
      refine AS.skip ?_
      refine AS.seq ?_
      refine AS.region rfl ?_
      refine AS.move rfl rfl rfl rfl ?_
      refine AS.nilCheck rfl rfl rfl rfl rfl ?_
      refine AS.fieldAddr rfl rfl rfl rfl TT21.fl30_0 ?_
      refine AS.load rfl rfl rfl rfl TT21.ty28 rfl rfl rfl ?_
      refine AS.len rfl rfl rfl rfl (by first | exact lenT_sl TT21.u28 | exact lenT_ms TT21.u28 | (rw [TT21.u28]; rfl)) rfl (lenMap _ _) ?_
      refine AS.bin rfl rfl rfl rfl rfl (BinR.add (c := ((L.length + 1 : Nat) : Int)) (by rw [w64 (by omega) (by omega)]; omega)) ?_
      refine AS.fieldAddr rfl rfl rfl rfl TT21.fl38_1 ?_
      refine AS.store rfl rfl rfl rfl rfl rfl TT21.ty2 rfl rfl ?_
      refine AS.opsEnd ?_
      refine AS.seq ?_
      refine SA.startG TT21.mixed rfl ?_
      refine SA.rdG 0 [0] rfl (fun G env rest next => AS.move rfl rfl rfl rfl next) ?_
      refine SA.rdG 1 [] rfl (fun G env rest next => AS.buildSlice0 rfl rfl rfl TT21.sl28 next) ?_
      refine SA.rdG 2 [0] rfl (fun G env rest next => AS.move rfl rfl rfl rfl next) ?_
      refine SA.rdG 3 [40] rfl (fun G env rest next => AS.nilCheck rfl rfl rfl rfl rfl next) ?_
      refine SA.rdG 4 [41] rfl (fun G env rest next => AS.fieldAddr rfl rfl rfl rfl TT21.fl30_0 next) ?_
      refine SA.rdG 5 [42] rfl (fun G env rest next => AS.load rfl rfl rfl rfl TT21.ty28 rfl rfl rfl next) ?_
      refine SA.rdG 7 [6] rfl (fun G env rest next => AS.load (y := encObj (o.wv ((L.length + 1 : Nat) : Int))) rfl rfl rfl rfl TT21.ty38 rfl rfl rfl next) ?_
      refine SA.rdG 8 [45] rfl (fun G env rest next => AS.build rfl rfl rfl TT21.b50 rfl rfl (AS.putLe (AVLe.agg (.cons (.refl _) (.cons (.refl _) (.cons (.refl _) (.cons (.refl _) (.cons (.refl _) (.cons (.refl _) (.cons (.refl _) (.cons (.refl _) (.cons (.refl _) (.cons (.refl _) (.cons (AVLe.tok _ _) .nil)))))))))))) next)) ?_
      refine SA.rdG 9 [46] rfl (fun G env rest next => AS.buildSlice1 rfl rfl rfl TT21.sl28 rfl rfl rfl next) ?_
      refine SA.turnG (α := Tok) (val := fun tk' => .slice (L.map encEv) tk') (Hn := fun tk1 => G tk1 (L.map encEv).length 11 50 ++ _) (Φ := fun tk' => tk'.grows = true) 6 [39, 43] rfl rfl rfl rfl (fun env rest h => AS.append (xs := []) (ys := L.map encEv) rfl rfl rfl rfl rfl TT21.sl28 rfl rfl (by simp) (map_sz encEv_sz _) (map_one encEv_flat _) (by simp only [List.length_nil, List.length_map]; omega) h) (fun x => ⟨_, rfl⟩) ?_
      intro tk1 h1
      refine SA.turnG (α := Tok) (val := fun tk' => .slice ((L ++ [(⟨0, o.wv ((L.length + 1 : Nat) : Int), 0, []⟩ : Evt)]).map encEv) tk') (Hn := fun tk2 => G tk2 ((L ++ [(⟨0, o.wv ((L.length + 1 : Nat) : Int), 0, []⟩ : Evt)]).map encEv).length 11 50 ++ _) (Φ := fun tk' => tk'.grows = true) 10 [44, 47] rfl rfl rfl rfl (fun env rest h => AS.append1 (enc := encEv) (a := (⟨0, o.wv ((L.length + 1 : Nat) : Int), 0, []⟩ : Evt)) rfl rfl rfl rfl rfl TT21.sl28 h1 rfl encEv_sz encEv_flat (by omega) h) (fun x => ⟨_, rfl⟩) ?_
      intro tk2 h2
      refine SA.rdG 11 [38] rfl (fun G env rest next => AS.nilCheck rfl rfl rfl rfl rfl next) ?_
      refine SA.rdG 12 [49] rfl (fun G env rest next => AS.fieldAddr rfl rfl rfl rfl TT21.fl30_0 next) ?_
      refine SA.chg 13 [48, 50] rfl rfl rfl rfl (fun env rest next => AS.store rfl rfl rfl rfl rfl rfl TT21.ty28 rfl rfl next) ⟨trivial, ⟨trivial, ⟨trivial, ⟨trivial, ⟨trivial, ⟨trivial, ⟨trivial, ⟨trivial, ⟨trivial, ⟨trivial, ⟨trivial, ⟨trivial, ⟨trivial, trivial⟩⟩⟩⟩⟩⟩⟩⟩⟩⟩⟩⟩⟩ ?_
      refine SA.done rfl rfl rfl ?_
      refine AS.seq ?_
      refine AS.region rfl ?_
      refine AS.fieldAddr rfl rfl rfl rfl TT21.fl38_1 ?_
      refine AS.load rfl rfl rfl rfl TT21.ty2 rfl rfl rfl ?_
      refine AS.assign rfl rfl rfl rfl ?_
      refine AS.assign rfl rfl rfl rfl ?_
      refine AS.opsEnd ?_
      refine AS.retW Try.func17 rfl (.tmp rfl (.tmp rfl (.nil))) ?_
      exact RWk.permD (G _ _ _ _ ++ [_, _, _]) (.of_eq (List.append_assoc (G _ _ _ _) [_, _, _] _).symm) (.inr (.inr ⟨hc0, (fun hq => by rw [hq] at g25; cases g25), rfl, tk2, rfl⟩))
end Go.Proofs.Ytncecheccihjoaa
/- T22 -/
namespace Go.Proofs.Ytncecheccihjoaa.TT22
open Go Go.Proofs.Fw Go.Shelf
theorem b38 : bldI Go.Proofs.Try.prog 38 = some ([(.str ⟨#[]⟩), (.str ⟨#[]⟩), (.str ⟨#[]⟩), (.int .i64 0), (.str ⟨#[]⟩), (.bool false), (.bool false), (.slice [] .full)], [(0, 3), (3, 1), (4, 1), (5, 1), (6, 1), (7, 1)]) := by kernel_rfl
theorem b50 : bldI Go.Proofs.Try.prog 50 = some ([(.int .i64 0), (.str ⟨#[]⟩), (.str ⟨#[]⟩), (.str ⟨#[]⟩), (.int .i64 0), (.str ⟨#[]⟩), (.bool false), (.bool false), (.slice [] .full), (.int .i64 0), (.slice [] .full)], [(0, 1), (1, 8), (9, 1), (10, 1)]) := by kernel_rfl
theorem en100 : Enters Go.Proofs.Try.prog 100 := enters_of Go.Proofs.Try.func100 (by kernel_rfl) rfl
theorem en101 : Enters Go.Proofs.Try.prog 101 := enters_of Go.Proofs.Try.func101 (by kernel_rfl) rfl
theorem en102 : Enters Go.Proofs.Try.prog 102 := enters_of Go.Proofs.Try.func102 (by kernel_rfl) rfl
theorem en103 : Enters Go.Proofs.Try.prog 103 := enters_of Go.Proofs.Try.func103 (by kernel_rfl) rfl
theorem en126 : Enters Go.Proofs.Try.prog 126 := enters_of Go.Proofs.Try.func126 (by kernel_rfl) rfl
theorem en133 : Enters Go.Proofs.Try.prog 133 := enters_of Go.Proofs.Try.func133 (by kernel_rfl) rfl
theorem en146 : Enters Go.Proofs.Try.prog 146 := enters_of Go.Proofs.Try.func146 (by kernel_rfl) rfl
theorem en147 : Enters Go.Proofs.Try.prog 147 := enters_of Go.Proofs.Try.func147 (by kernel_rfl) rfl
theorem en166 : Enters Go.Proofs.Try.prog 166 := enters_of Go.Proofs.Try.func166 (by kernel_rfl) rfl
theorem en175 : Enters Go.Proofs.Try.prog 175 := enters_of Go.Proofs.Try.func175 (by kernel_rfl) rfl
theorem en19 : Enters Go.Proofs.Try.prog 19 := enters_of Go.Proofs.Try.func19 (by kernel_rfl) rfl
theorem en20 : Enters Go.Proofs.Try.prog 20 := enters_of Go.Proofs.Try.func20 (by kernel_rfl) rfl
theorem en21 : Enters Go.Proofs.Try.prog 21 := enters_of Go.Proofs.Try.func21 (by kernel_rfl) rfl
theorem en52 : Enters Go.Proofs.Try.prog 52 := enters_of Go.Proofs.Try.func52 (by kernel_rfl) rfl
theorem en61 : Enters Go.Proofs.Try.prog 61 := enters_of Go.Proofs.Try.func61 (by kernel_rfl) rfl
theorem en63 : Enters Go.Proofs.Try.prog 63 := enters_of Go.Proofs.Try.func63 (by kernel_rfl) rfl
theorem en64 : Enters Go.Proofs.Try.prog 64 := enters_of Go.Proofs.Try.func64 (by kernel_rfl) rfl
theorem en65 : Enters Go.Proofs.Try.prog 65 := enters_of Go.Proofs.Try.func65 (by kernel_rfl) rfl
theorem en66 : Enters Go.Proofs.Try.prog 66 := enters_of Go.Proofs.Try.func66 (by kernel_rfl) rfl
theorem en68 : Enters Go.Proofs.Try.prog 68 := enters_of Go.Proofs.Try.func68 (by kernel_rfl) rfl
theorem en69 : Enters Go.Proofs.Try.prog 69 := enters_of Go.Proofs.Try.func69 (by kernel_rfl) rfl
theorem en70 : Enters Go.Proofs.Try.prog 70 := enters_of Go.Proofs.Try.func70 (by kernel_rfl) rfl
theorem en71 : Enters Go.Proofs.Try.prog 71 := enters_of Go.Proofs.Try.func71 (by kernel_rfl) rfl
theorem fl106_0 : fldI Go.Proofs.Try.prog 106 0 = some 0 := by kernel_rfl
theorem fl106_1 : fldI Go.Proofs.Try.prog 106 1 = some 1 := by kernel_rfl
theorem fl106_2 : fldI Go.Proofs.Try.prog 106 2 = some 2 := by kernel_rfl
theorem fl30_0 : fldI Go.Proofs.Try.prog 30 0 = some 0 := by kernel_rfl
theorem fl38_0 : fldI Go.Proofs.Try.prog 38 0 = some 0 := by kernel_rfl
theorem fl38_1 : fldI Go.Proofs.Try.prog 38 1 = some 3 := by kernel_rfl
theorem fl38_5 : fldI Go.Proofs.Try.prog 38 5 = some 7 := by kernel_rfl
theorem fl50_0 : fldI Go.Proofs.Try.prog 50 0 = some 0 := by kernel_rfl
theorem fl50_1 : fldI Go.Proofs.Try.prog 50 1 = some 1 := by kernel_rfl
theorem fl50_2 : fldI Go.Proofs.Try.prog 50 2 = some 9 := by kernel_rfl
theorem fl50_3 : fldI Go.Proofs.Try.prog 50 3 = some 10 := by kernel_rfl
theorem mixed : Go.Proofs.Try.prog.follows .mixedOrders = true := by kernel_rfl
theorem mp104 : mapI Go.Proofs.Try.prog 104 = some (35, 38) := by kernel_rfl
theorem ps35 : plainS Go.Proofs.Try.prog 35 = true := by kernel_rfl
theorem sl28 : sliI Go.Proofs.Try.prog 28 = some (50, 11, 144) := by kernel_rfl
theorem sl36 : sliI Go.Proofs.Try.prog 36 = some (116, 2, 24) := by kernel_rfl
theorem sl48 : sliI Go.Proofs.Try.prog 48 = some (38, 8, 104) := by kernel_rfl
theorem ty104 : tyI Go.Proofs.Try.prog 104 = some (1, false) := by kernel_rfl
theorem ty2 : tyI Go.Proofs.Try.prog 2 = some (1, false) := by kernel_rfl
theorem ty28 : tyI Go.Proofs.Try.prog 28 = some (1, false) := by kernel_rfl
theorem ty35 : tyI Go.Proofs.Try.prog 35 = some (3, true) := by kernel_rfl
theorem ty36 : tyI Go.Proofs.Try.prog 36 = some (1, false) := by kernel_rfl
theorem ty38 : tyI Go.Proofs.Try.prog 38 = some (8, true) := by kernel_rfl
theorem ty47 : tyI Go.Proofs.Try.prog 47 = some (1, false) := by kernel_rfl
theorem ty48 : tyI Go.Proofs.Try.prog 48 = some (1, false) := by kernel_rfl
theorem ty50 : tyI Go.Proofs.Try.prog 50 = some (11, true) := by kernel_rfl
theorem u180 : Go.Proofs.Try.prog.underlying 180 = some (.int .u64) := by kernel_rfl
theorem u25 : Go.Proofs.Try.prog.underlying 25 = some (.pointer 106) := by kernel_rfl
theorem u28 : Go.Proofs.Try.prog.underlying 28 = some (.slice 50) := by kernel_rfl
theorem u3 : Go.Proofs.Try.prog.underlying 3 = some (.int .i64) := by kernel_rfl
theorem u35 : Go.Proofs.Try.prog.underlying 35 = some (.struct #[⟨"Kind", 9, 0, false, "", "", 0⟩, ⟨"Space", 9, 1, false, "", "", 16⟩, ⟨"Name", 9, 2, false, "", "", 32⟩]) := by kernel_rfl
theorem u36 : Go.Proofs.Try.prog.underlying 36 = some (.slice 116) := by kernel_rfl
theorem u48 : Go.Proofs.Try.prog.underlying 48 = some (.slice 38) := by kernel_rfl
theorem u50 : Go.Proofs.Try.prog.underlying 50 = some (.struct #[⟨"Kind", 47, 0, false, "", "", 0⟩, ⟨"Object", 38, 1, false, "", "", 8⟩, ⟨"Version", 2, 9, false, "", "", 112⟩, ⟨"Objects", 48, 10, false, "", "", 120⟩]) := by kernel_rfl
theorem z116 : zI Go.Proofs.Try.prog 116 = some (.agg #[(.string ⟨#[]⟩), (.int .i64 0)]) := by kernel_rfl
theorem z38 : zI Go.Proofs.Try.prog 38 = some (.agg #[(.string ⟨#[]⟩), (.string ⟨#[]⟩), (.string ⟨#[]⟩), (.int .i64 0), (.string ⟨#[]⟩), (.bool false), (.bool false), (.slice none 0 0)]) := by kernel_rfl
theorem z50 : zI Go.Proofs.Try.prog 50 = some (.agg #[(.int .i64 0), (.string ⟨#[]⟩), (.string ⟨#[]⟩), (.string ⟨#[]⟩), (.int .i64 0), (.string ⟨#[]⟩), (.bool false), (.bool false), (.slice none 0 0), (.int .i64 0), (.slice none 0 0)]) := by kernel_rfl
end Go.Proofs.Ytncecheccihjoaa.TT22
namespace Go.Proofs.Ytncecheccihjoaa
open Go Go.Proofs.Fw Go.Proofs
set_option linter.unusedVariables false
set_option linter.unusedSimpArgs false
set_option maxRecDepth 20000
set_option maxHeartbeats 4000000
theorem refDelete_spec (r : Nat) (L : List Evt) (tk : Tok) (k : Key) (H : AH) (hl : L.length ≤ 1000) (hk : ∀ e ∈ L, keyFits e.obj.key) : ACalls Try.prog [] 16 [.ptr r 0, encKey k] ((r, .row [.slice (L.map encEv) tk] 30) :: H) (fun x H' => (keyRight k = false ∧ x = .tup [.int .i64 0, .int .i64 1] ∧ H' = ((r, .row [.slice (L.map encEv) tk] 30) :: H)) ∨ (keyRight k = true ∧ findK (sortO (objsOf L)) k = none ∧ x = .tup [.int .i64 0, .int .i64 4] ∧ H' = ((r, .row [.slice (L.map encEv) tk] 30) :: H)) ∨ (keyRight k = true ∧ (findK (sortO (objsOf L)) k).isSome = true ∧ x = .tup [.int .i64 ((L.length + 1 : Nat) : Int), .int .i64 0] ∧ ∃ tk', H' = (r, .row [.slice ((L ++ [(⟨1, ⟨k, ((L.length + 1 : Nat) : Int), ⟨#[]⟩, false, false, []⟩, 0, []⟩ : Evt)]).map encEv) tk'] 30) :: H)) := by
  refine ACalls.enter (n := 44) Try.func16 rfl rfl (Nat.le_of_ble_eq_true rfl) ?_
  refine AS.seq ?_
  refine AS.region rfl ?_
  refine AS.box rfl rfl rfl rfl rfl ?_
  intro b3
  refine AS.assign rfl rfl rfl rfl ?_
  refine AS.assign rfl rfl rfl rfl ?_
  refine AS.opsEnd ?_
  refine AS.seq ?_
  refine AS.region rfl ?_
  refine AS.load (y := encKey k) rfl rfl rfl rfl TT22.ty35 rfl rfl rfl ?_
  refine AS.callP rfl rfl rfl rfl TT22.en63 (ref_key _ _) ?_
  refine AS.assign rfl rfl rfl rfl ?_
  refine AS.opsEnd ?_
  refine AS.seq ?_
  refine AS.seq ?_
  refine AS.region rfl ?_
  refine AS.move rfl rfl rfl rfl ?_
  refine AS.not rfl rfl rfl rfl rfl ?_
  refine AS.opsEnd ?_
  refine AS.cond rfl (fun hc0 => ?_) (fun hc0 => ?_)
  · rw [Bool.not_eq_true'] at hc0
    refine AS.seq ?_
    refine AS.region rfl ?_
    refine AS.assign rfl rfl rfl rfl ?_
    refine AS.assign rfl rfl rfl rfl ?_
    refine AS.opsEnd ?_
    refine AS.retW Try.func16 rfl (.tmp rfl (.tmp rfl (.nil))) ?_
    exact RWk.drop [_] rfl (.inl ⟨hc0, rfl, rfl⟩)
  · rw [Bool.not_eq_false'] at hc0
    refine AS.skip ?_
    refine AS.seq ?_
    refine AS.region rfl ?_
    refine AS.move rfl rfl rfl rfl ?_
    refine AS.load (y := encKey k) rfl rfl rfl rfl TT22.ty35 rfl rfl rfl ?_
    refine AS.callP rfl rfl rfl rfl TT22.en19 (ACalls.permP (refGet_spec r L tk k _ (by omega) hk) (List.perm_append_comm_assoc [_] [_] H)) ?_
    refine AS.move rfl rfl rfl rfl ?_
    refine AS.extract rfl rfl rfl rfl rfl ?_
    refine AS.extract rfl rfl rfl rfl rfl ?_
    refine AS.allocZ rfl rfl rfl TT22.z38 rfl ?_
    intro b7
    refine AS.store rfl rfl rfl rfl rfl rfl TT22.ty38 rfl rfl ?_
    refine AS.assign rfl rfl rfl rfl ?_
    refine AS.opsEnd ?_
    refine AS.seq ?_
    refine AS.seq ?_
    refine AS.region rfl ?_
    refine AS.move rfl rfl rfl rfl ?_
    refine AS.not rfl rfl rfl rfl rfl ?_
    refine AS.opsEnd ?_
    refine AS.cond rfl (fun hc1 => ?_) (fun hc1 => ?_)
    · rw [Bool.not_eq_true'] at hc1
      refine AS.seq ?_
      refine AS.region rfl ?_
      refine AS.assign rfl rfl rfl rfl ?_
      refine AS.assign rfl rfl rfl rfl ?_
      refine AS.opsEnd ?_
      refine AS.retW Try.func16 rfl (.tmp rfl (.tmp rfl (.nil))) ?_
      exact RWk.drop [_, _] rfl (.inr (.inl ⟨hc0, Option.isSome_eq_false_iff.1 hc1 |> Option.isNone_iff_eq_none.1, rfl, rfl⟩))
    · rw [Bool.not_eq_false'] at hc1
      refine AS.skip ?_
      refine AS.seq ?_
      refine AS.region rfl ?_
      refine AS.move rfl rfl rfl rfl ?_
      refine AS.nilCheck rfl rfl rfl rfl rfl ?_
      refine AS.fieldAddr rfl rfl rfl rfl TT22.fl30_0 ?_
      refine AS.load rfl rfl rfl rfl TT22.ty28 rfl rfl rfl ?_
      refine AS.len rfl rfl rfl rfl (by first | exact lenT_sl TT22.u28 | exact lenT_ms TT22.u28 | (rw [TT22.u28]; rfl)) rfl (lenMap _ _) ?_
      refine AS.bin rfl rfl rfl rfl rfl (BinR.add (c := ((L.length + 1 : Nat) : Int)) (by rw [w64 (by omega) (by omega)]; omega)) ?_
      refine AS.assign rfl rfl rfl rfl ?_
      refine AS.opsEnd ?_
      refine AS.seq ?_
      refine SA.startG TT22.mixed rfl ?_
      refine SA.rdG 0 [0] rfl (fun G env rest next => AS.move rfl rfl rfl rfl next) ?_
      refine SA.rdG 1 [] rfl (fun G env rest next => AS.buildSlice0 rfl rfl rfl TT22.sl28 next) ?_
      refine SA.rdG 2 [0] rfl (fun G env rest next => AS.move rfl rfl rfl rfl next) ?_
      refine SA.rdG 3 [30] rfl (fun G env rest next => AS.nilCheck rfl rfl rfl rfl rfl next) ?_
      refine SA.rdG 4 [31] rfl (fun G env rest next => AS.fieldAddr rfl rfl rfl rfl TT22.fl30_0 next) ?_
      refine SA.rdG 5 [32] rfl (fun G env rest next => AS.load rfl rfl rfl rfl TT22.ty28 rfl rfl rfl next) ?_
      refine SA.rdG 7 [3] rfl (fun G env rest next => AS.load (y := encKey k) rfl rfl rfl rfl TT22.ty35 rfl rfl rfl next) ?_
      refine SA.rdG 8 [9] rfl (fun G env rest next => AS.move rfl rfl rfl rfl next) ?_
      refine SA.rdG 9 [35, 36] rfl (fun G env rest next => AS.build rfl rfl rfl TT22.b38 rfl rfl next) ?_
      refine SA.rdG 10 [37] rfl (fun G env rest next => AS.build rfl rfl rfl TT22.b50 rfl rfl (AS.putLe (AVLe.agg (.cons (.refl _) (.cons (.refl _) (.cons (.refl _) (.cons (.refl _) (.cons (.refl _) (.cons (.refl _) (.cons (.refl _) (.cons (.refl _) (.cons (AVLe.tok _ _) (.cons (.refl _) (.cons (AVLe.tok _ _) .nil)))))))))))) next)) ?_
      refine SA.rdG 11 [38] rfl (fun G env rest next => AS.buildSlice1 rfl rfl rfl TT22.sl28 rfl rfl rfl next) ?_
      refine SA.turnG (α := Tok) (val := fun tk' => .slice (L.map encEv) tk') (Hn := fun tk1 => G tk1 (L.map encEv).length 11 50 ++ _) (Φ := fun tk' => tk'.grows = true) 6 [29, 33] rfl rfl rfl rfl (fun env rest h => AS.append (xs := []) (ys := L.map encEv) rfl rfl rfl rfl rfl TT22.sl28 rfl rfl (by simp) (map_sz encEv_sz _) (map_one encEv_flat _) (by simp only [List.length_nil, List.length_map]; omega) h) (fun x => ⟨_, rfl⟩) ?_
      intro tk1 h1
      refine SA.turnG (α := Tok) (val := fun tk' => .slice ((L ++ [(⟨1, ⟨k, ((L.length + 1 : Nat) : Int), ⟨#[]⟩, false, false, []⟩, 0, []⟩ : Evt)]).map encEv) tk') (Hn := fun tk2 => G tk2 ((L ++ [(⟨1, ⟨k, ((L.length + 1 : Nat) : Int), ⟨#[]⟩, false, false, []⟩, 0, []⟩ : Evt)]).map encEv).length 11 50 ++ _) (Φ := fun tk' => tk'.grows = true) 12 [34, 39] rfl rfl rfl rfl (fun env rest h => AS.append1 (enc := encEv) (a := (⟨1, ⟨k, ((L.length + 1 : Nat) : Int), ⟨#[]⟩, false, false, []⟩, 0, []⟩ : Evt)) rfl rfl rfl rfl rfl TT22.sl28 h1 rfl encEv_sz encEv_flat (by omega) h) (fun x => ⟨_, rfl⟩) ?_
      intro tk2 h2
      refine SA.rdG 13 [28] rfl (fun G env rest next => AS.nilCheck rfl rfl rfl rfl rfl next) ?_
      refine SA.rdG 14 [41] rfl (fun G env rest next => AS.fieldAddr rfl rfl rfl rfl TT22.fl30_0 next) ?_
      refine SA.chg 15 [40, 42] rfl rfl rfl rfl (fun env rest next => AS.store rfl rfl rfl rfl rfl rfl TT22.ty28 rfl rfl next) ⟨trivial, ⟨trivial, ⟨trivial, ⟨trivial, ⟨trivial, ⟨trivial, ⟨trivial, ⟨trivial, ⟨trivial, ⟨trivial, ⟨trivial, ⟨trivial, ⟨trivial, ⟨trivial, ⟨trivial, trivial⟩⟩⟩⟩⟩⟩⟩⟩⟩⟩⟩⟩⟩⟩⟩ ?_
      refine SA.done rfl rfl rfl ?_
      refine AS.seq ?_
      refine AS.region rfl ?_
      refine AS.move rfl rfl rfl rfl ?_
      refine AS.assign rfl rfl rfl rfl ?_
      refine AS.assign rfl rfl rfl rfl ?_
      refine AS.opsEnd ?_
      refine AS.retW Try.func16 rfl (.tmp rfl (.tmp rfl (.nil))) ?_
      exact RWk.permD (G _ _ _ _ ++ [_, _]) (.of_eq (List.append_assoc (G _ _ _ _) [_, _] _).symm) (.inr (.inr ⟨hc0, hc1, rfl, tk2, rfl⟩))
end Go.Proofs.Ytncecheccihjoaa
/- T23 -/
namespace Go.Proofs.Ytncecheccihjoaa.TT23
open Go Go.Proofs.Fw Go.Shelf
theorem b106 : bldI Go.Proofs.Try.prog 106 = some ([.nilmap, (.int .i64 0), (.slice [] .full)], [(0, 1), (1, 1), (2, 1)]) := by kernel_rfl
theorem b38 : bldI Go.Proofs.Try.prog 38 = some ([(.str ⟨#[]⟩), (.str ⟨#[]⟩), (.str ⟨#[]⟩), (.int .i64 0), (.str ⟨#[]⟩), (.bool false), (.bool false), (.slice [] .full)], [(0, 3), (3, 1), (4, 1), (5, 1), (6, 1), (7, 1)]) := by kernel_rfl
theorem b50 : bldI Go.Proofs.Try.prog 50 = some ([(.int .i64 0), (.str ⟨#[]⟩), (.str ⟨#[]⟩), (.str ⟨#[]⟩), (.int .i64 0), (.str ⟨#[]⟩), (.bool false), (.bool false), (.slice [] .full), (.int .i64 0), (.slice [] .full)], [(0, 1), (1, 8), (9, 1), (10, 1)]) := by kernel_rfl
theorem en100 : Enters Go.Proofs.Try.prog 100 := enters_of Go.Proofs.Try.func100 (by kernel_rfl) rfl
theorem en101 : Enters Go.Proofs.Try.prog 101 := enters_of Go.Proofs.Try.func101 (by kernel_rfl) rfl
theorem en102 : Enters Go.Proofs.Try.prog 102 := enters_of Go.Proofs.Try.func102 (by kernel_rfl) rfl
theorem en103 : Enters Go.Proofs.Try.prog 103 := enters_of Go.Proofs.Try.func103 (by kernel_rfl) rfl
theorem en126 : Enters Go.Proofs.Try.prog 126 := enters_of Go.Proofs.Try.func126 (by kernel_rfl) rfl
theorem en133 : Enters Go.Proofs.Try.prog 133 := enters_of Go.Proofs.Try.func133 (by kernel_rfl) rfl
theorem en146 : Enters Go.Proofs.Try.prog 146 := enters_of Go.Proofs.Try.func146 (by kernel_rfl) rfl
theorem en147 : Enters Go.Proofs.Try.prog 147 := enters_of Go.Proofs.Try.func147 (by kernel_rfl) rfl
theorem en166 : Enters Go.Proofs.Try.prog 166 := enters_of Go.Proofs.Try.func166 (by kernel_rfl) rfl
theorem en175 : Enters Go.Proofs.Try.prog 175 := enters_of Go.Proofs.Try.func175 (by kernel_rfl) rfl
theorem en19 : Enters Go.Proofs.Try.prog 19 := enters_of Go.Proofs.Try.func19 (by kernel_rfl) rfl
theorem en20 : Enters Go.Proofs.Try.prog 20 := enters_of Go.Proofs.Try.func20 (by kernel_rfl) rfl
theorem en21 : Enters Go.Proofs.Try.prog 21 := enters_of Go.Proofs.Try.func21 (by kernel_rfl) rfl
theorem en52 : Enters Go.Proofs.Try.prog 52 := enters_of Go.Proofs.Try.func52 (by kernel_rfl) rfl
theorem en61 : Enters Go.Proofs.Try.prog 61 := enters_of Go.Proofs.Try.func61 (by kernel_rfl) rfl
theorem en63 : Enters Go.Proofs.Try.prog 63 := enters_of Go.Proofs.Try.func63 (by kernel_rfl) rfl
theorem en64 : Enters Go.Proofs.Try.prog 64 := enters_of Go.Proofs.Try.func64 (by kernel_rfl) rfl
theorem en65 : Enters Go.Proofs.Try.prog 65 := enters_of Go.Proofs.Try.func65 (by kernel_rfl) rfl
theorem en66 : Enters Go.Proofs.Try.prog 66 := enters_of Go.Proofs.Try.func66 (by kernel_rfl) rfl
theorem en68 : Enters Go.Proofs.Try.prog 68 := enters_of Go.Proofs.Try.func68 (by kernel_rfl) rfl
theorem en69 : Enters Go.Proofs.Try.prog 69 := enters_of Go.Proofs.Try.func69 (by kernel_rfl) rfl
theorem en70 : Enters Go.Proofs.Try.prog 70 := enters_of Go.Proofs.Try.func70 (by kernel_rfl) rfl
theorem en71 : Enters Go.Proofs.Try.prog 71 := enters_of Go.Proofs.Try.func71 (by kernel_rfl) rfl
theorem fl106_0 : fldI Go.Proofs.Try.prog 106 0 = some 0 := by kernel_rfl
theorem fl106_1 : fldI Go.Proofs.Try.prog 106 1 = some 1 := by kernel_rfl
theorem fl106_2 : fldI Go.Proofs.Try.prog 106 2 = some 2 := by kernel_rfl
theorem fl30_0 : fldI Go.Proofs.Try.prog 30 0 = some 0 := by kernel_rfl
theorem fl38_0 : fldI Go.Proofs.Try.prog 38 0 = some 0 := by kernel_rfl
theorem fl38_1 : fldI Go.Proofs.Try.prog 38 1 = some 3 := by kernel_rfl
theorem fl38_5 : fldI Go.Proofs.Try.prog 38 5 = some 7 := by kernel_rfl
theorem fl50_0 : fldI Go.Proofs.Try.prog 50 0 = some 0 := by kernel_rfl
theorem fl50_1 : fldI Go.Proofs.Try.prog 50 1 = some 1 := by kernel_rfl
theorem fl50_2 : fldI Go.Proofs.Try.prog 50 2 = some 9 := by kernel_rfl
theorem fl50_3 : fldI Go.Proofs.Try.prog 50 3 = some 10 := by kernel_rfl
theorem mixed : Go.Proofs.Try.prog.follows .mixedOrders = true := by kernel_rfl
theorem mp104 : mapI Go.Proofs.Try.prog 104 = some (35, 38) := by kernel_rfl
theorem ps35 : plainS Go.Proofs.Try.prog 35 = true := by kernel_rfl
theorem sl28 : sliI Go.Proofs.Try.prog 28 = some (50, 11, 144) := by kernel_rfl
theorem sl36 : sliI Go.Proofs.Try.prog 36 = some (116, 2, 24) := by kernel_rfl
theorem sl48 : sliI Go.Proofs.Try.prog 48 = some (38, 8, 104) := by kernel_rfl
theorem ty104 : tyI Go.Proofs.Try.prog 104 = some (1, false) := by kernel_rfl
theorem ty2 : tyI Go.Proofs.Try.prog 2 = some (1, false) := by kernel_rfl
theorem ty28 : tyI Go.Proofs.Try.prog 28 = some (1, false) := by kernel_rfl
theorem ty35 : tyI Go.Proofs.Try.prog 35 = some (3, true) := by kernel_rfl
theorem ty36 : tyI Go.Proofs.Try.prog 36 = some (1, false) := by kernel_rfl
theorem ty38 : tyI Go.Proofs.Try.prog 38 = some (8, true) := by kernel_rfl
theorem ty47 : tyI Go.Proofs.Try.prog 47 = some (1, false) := by kernel_rfl
theorem ty48 : tyI Go.Proofs.Try.prog 48 = some (1, false) := by kernel_rfl
theorem ty50 : tyI Go.Proofs.Try.prog 50 = some (11, true) := by kernel_rfl
theorem u180 : Go.Proofs.Try.prog.underlying 180 = some (.int .u64) := by kernel_rfl
theorem u25 : Go.Proofs.Try.prog.underlying 25 = some (.pointer 106) := by kernel_rfl
theorem u28 : Go.Proofs.Try.prog.underlying 28 = some (.slice 50) := by kernel_rfl
theorem u3 : Go.Proofs.Try.prog.underlying 3 = some (.int .i64) := by kernel_rfl
theorem u35 : Go.Proofs.Try.prog.underlying 35 = some (.struct #[⟨"Kind", 9, 0, false, "", "", 0⟩, ⟨"Space", 9, 1, false, "", "", 16⟩, ⟨"Name", 9, 2, false, "", "", 32⟩]) := by kernel_rfl
theorem u36 : Go.Proofs.Try.prog.underlying 36 = some (.slice 116) := by kernel_rfl
theorem u48 : Go.Proofs.Try.prog.underlying 48 = some (.slice 38) := by kernel_rfl
theorem u50 : Go.Proofs.Try.prog.underlying 50 = some (.struct #[⟨"Kind", 47, 0, false, "", "", 0⟩, ⟨"Object", 38, 1, false, "", "", 8⟩, ⟨"Version", 2, 9, false, "", "", 112⟩, ⟨"Objects", 48, 10, false, "", "", 120⟩]) := by kernel_rfl
theorem z116 : zI Go.Proofs.Try.prog 116 = some (.agg #[(.string ⟨#[]⟩), (.int .i64 0)]) := by kernel_rfl
theorem z38 : zI Go.Proofs.Try.prog 38 = some (.agg #[(.string ⟨#[]⟩), (.string ⟨#[]⟩), (.string ⟨#[]⟩), (.int .i64 0), (.string ⟨#[]⟩), (.bool false), (.bool false), (.slice none 0 0)]) := by kernel_rfl
theorem z50 : zI Go.Proofs.Try.prog 50 = some (.agg #[(.int .i64 0), (.string ⟨#[]⟩), (.string ⟨#[]⟩), (.string ⟨#[]⟩), (.int .i64 0), (.string ⟨#[]⟩), (.bool false), (.bool false), (.slice none 0 0), (.int .i64 0), (.slice none 0 0)]) := by kernel_rfl
end Go.Proofs.Ytncecheccihjoaa.TT23
namespace Go.Proofs.Ytncecheccihjoaa
open Go Go.Proofs.Fw Go.Proofs
set_option linter.unusedVariables false
set_option linter.unusedSimpArgs false
set_option maxRecDepth 20000
set_option maxHeartbeats 4000000
theorem new_spec (H : AH) : ACalls Try.prog [] 14 [] H (fun x H' => ∃ s m, x = .ptr s 0 ∧ H' = stH s m 0 [] [] .full H) := by
  refine ACalls.enter (n := 4) Try.func14 rfl rfl (Nat.le_of_ble_eq_true rfl) ?_
  refine AS.seq ?_
  refine AS.region rfl ?_
  refine AS.assign rfl rfl rfl rfl ?_
  refine AS.opsEnd ?_
  refine AS.seq ?_
  refine AS.region rfl ?_
  refine AS.makeMap rfl rfl rfl ?_
  intro b1
  refine AS.build rfl rfl rfl TT23.b106 rfl rfl ?_
  refine AS.box rfl rfl rfl rfl rfl ?_
  intro b3
  refine AS.assign rfl rfl rfl rfl ?_
  refine AS.opsEnd ?_
  refine AS.retW Try.func14 rfl (.tmp rfl (.nil)) ?_
  exact RWk.drop [] rfl ⟨_, _, rfl, rfl⟩
theorem put_nil (o : Object) (H : AH) : ACalls Try.prog [] 27 [.nilp, encObj o] H (fun x H' => x = .tup [.int .i64 0, .int .i64 1] ∧ H' = H) := by
  refine ACalls.enter (n := 39) Try.func27 rfl rfl (Nat.le_of_ble_eq_true rfl) ?_
  refine AS.seq ?_
  refine AS.region rfl ?_
  refine AS.box rfl rfl rfl rfl rfl ?_
  intro b3
  refine AS.assign rfl rfl rfl rfl ?_
  refine AS.assign rfl rfl rfl rfl ?_
  refine AS.opsEnd ?_
  refine AS.seq ?_
  refine AS.region rfl ?_
  refine AS.fieldAddr rfl rfl rfl rfl TT23.fl38_1 ?_
  refine AS.store rfl rfl rfl rfl rfl rfl TT23.ty2 rfl rfl ?_
  refine AS.opsEnd ?_
  refine AS.seq ?_
  refine AS.seq ?_
  refine AS.region rfl ?_
  refine AS.move rfl rfl rfl rfl ?_
  refine AS.bin rfl rfl rfl rfl rfl (BinR.nilnil TT23.u25) ?_
  refine AS.move rfl rfl rfl rfl ?_
  refine AS.pass rfl rfl rfl ?_
  refine AS.pass rfl rfl rfl ?_
  refine AS.pass rfl rfl rfl ?_
  refine AS.pick rfl rfl rfl rfl rfl ?_
  refine AS.opsEnd ?_
  refine AS.condT rfl ?_
  refine AS.seq ?_
  refine AS.region rfl ?_
  refine AS.assign rfl rfl rfl rfl ?_
  refine AS.assign rfl rfl rfl rfl ?_
  refine AS.opsEnd ?_
  refine AS.retW Try.func27 rfl (.tmp rfl (.tmp rfl (.nil))) ?_
  refine RWk.drop [_] rfl ⟨?_, rfl⟩
  rfl
theorem delete_nil (k : Key) (H : AH) : ACalls Try.prog [] 28 [.nilp, encKey k] H (fun x H' => x = .tup [.int .i64 0, .int .i64 1] ∧ H' = H) := by
  refine ACalls.enter (n := 35) Try.func28 rfl rfl (Nat.le_of_ble_eq_true rfl) ?_
  refine AS.seq ?_
  refine AS.region rfl ?_
  refine AS.box rfl rfl rfl rfl rfl ?_
  intro b3
  refine AS.assign rfl rfl rfl rfl ?_
  refine AS.assign rfl rfl rfl rfl ?_
  refine AS.opsEnd ?_
  refine AS.seq ?_
  refine AS.seq ?_
  refine AS.region rfl ?_
  refine AS.move rfl rfl rfl rfl ?_
  refine AS.bin rfl rfl rfl rfl rfl (BinR.nilnil TT23.u25) ?_
  refine AS.move rfl rfl rfl rfl ?_
  refine AS.pass rfl rfl rfl ?_
  refine AS.pass rfl rfl rfl ?_
  refine AS.pass rfl rfl rfl ?_
  refine AS.pick rfl rfl rfl rfl rfl ?_
  refine AS.opsEnd ?_
  refine AS.condT rfl ?_
  refine AS.seq ?_
  refine AS.region rfl ?_
  refine AS.assign rfl rfl rfl rfl ?_
  refine AS.assign rfl rfl rfl rfl ?_
  refine AS.opsEnd ?_
  refine AS.retW Try.func28 rfl (.tmp rfl (.tmp rfl (.nil))) ?_
  refine RWk.drop [_] rfl ⟨?_, rfl⟩
  rfl
theorem version_nil (H : AH) : ACalls Try.prog [] 24 [.nilp] H (fun x H' => x = .int .i64 0 ∧ H' = H) := by
  refine ACalls.enter (n := 9) Try.func24 rfl rfl (Nat.le_of_ble_eq_true rfl) ?_
  refine AS.seq ?_
  refine AS.region rfl ?_
  refine AS.assign rfl rfl rfl rfl ?_
  refine AS.opsEnd ?_
  refine AS.seq ?_
  refine AS.seq ?_
  refine AS.region rfl ?_
  refine AS.move rfl rfl rfl rfl ?_
  refine AS.bin rfl rfl rfl rfl rfl (BinR.nilnil TT23.u25) ?_
  refine AS.opsEnd ?_
  refine AS.condT rfl ?_
  refine AS.seq ?_
  refine AS.region rfl ?_
  refine AS.assign rfl rfl rfl rfl ?_
  refine AS.opsEnd ?_
  refine AS.retW Try.func24 rfl (.tmp rfl (.nil)) ?_
  refine RWk.drop [] rfl ⟨?_, rfl⟩
  rfl
theorem log_nil (H : AH) : ACalls Try.prog [] 26 [.nilp] H (fun x H' => x = .slice (([] : List Evt).map encEv) .any ∧ H' = H) := by
  refine ACalls.enter (n := 24) Try.func26 rfl rfl (Nat.le_of_ble_eq_true rfl) ?_
  refine AS.seq ?_
  refine AS.region rfl ?_
  refine AS.assign rfl rfl rfl rfl ?_
  refine AS.opsEnd ?_
  refine AS.seq ?_
  refine AS.seq ?_
  refine AS.region rfl ?_
  refine AS.move rfl rfl rfl rfl ?_
  refine AS.bin rfl rfl rfl rfl rfl (BinR.nilnil TT23.u25) ?_
  refine AS.opsEnd ?_
  refine AS.condT rfl ?_
  refine AS.seq ?_
  refine AS.region rfl ?_
  refine AS.assign rfl rfl rfl rfl ?_
  refine AS.opsEnd ?_
  refine AS.retW Try.func26 rfl (.tmp rfl (.nil)) ?_
  exact ⟨_, _, Wk.le (AVLe.tok _ _), rfl, rfl⟩
theorem get_nil (k : Key) (H : AH) : ACalls Try.prog [] 18 [.nilp, encKey k] H (fun x H' => x = .tup [encObj noObj, .bool false] ∧ H' = H) := by
  refine ACalls.enter (n := 23) Try.func18 rfl rfl (Nat.le_of_ble_eq_true rfl) ?_
  refine AS.seq ?_
  refine AS.region rfl ?_
  refine AS.box rfl rfl rfl rfl rfl ?_
  intro b3
  refine AS.allocZ rfl rfl rfl TT23.z38 rfl ?_
  intro b4
  refine AS.assign rfl rfl rfl rfl ?_
  refine AS.opsEnd ?_
  refine AS.seq ?_
  refine AS.seq ?_
  refine AS.region rfl ?_
  refine AS.move rfl rfl rfl rfl ?_
  refine AS.bin rfl rfl rfl rfl rfl (BinR.nilnil TT23.u25) ?_
  refine AS.opsEnd ?_
  refine AS.condT rfl ?_
  refine AS.seq ?_
  refine AS.region rfl ?_
  refine AS.build rfl rfl rfl TT23.b38 rfl rfl ?_
  refine AS.store rfl rfl rfl rfl rfl rfl TT23.ty38 rfl rfl ?_
  refine AS.assign rfl rfl rfl rfl ?_
  refine AS.opsEnd ?_
  refine AS.retW Try.func18 rfl (.cell rfl TT23.ty38 rfl rfl rfl (.tmp rfl (.nil))) ?_
  refine ⟨_, _, (Wk.le (AVLe.tup (.cons (AVLe.agg (.cons (.refl _) (.cons (.refl _) (.cons (.refl _) (.cons (.refl _) (.cons (.refl _) (.cons (.refl _) (.cons (.refl _) (.cons (AVLe.tok _ _) .nil))))))))) (.cons (.refl _) .nil)))).trans (Wk.dropL [_, _]), rfl, rfl⟩
theorem snapshot_nil (H : AH) : ACalls Try.prog [] 22 [.nilp] H (fun x H' => x = encEv (⟨0, noObj, 0, []⟩ : Evt) ∧ H' = H) := by
  refine ACalls.enter (n := 29) Try.func22 rfl rfl (Nat.le_of_ble_eq_true rfl) ?_
  refine AS.seq ?_
  refine AS.region rfl ?_
  refine AS.allocZ rfl rfl rfl TT23.z50 rfl ?_
  intro b2
  refine AS.opsEnd ?_
  refine AS.seq ?_
  refine AS.seq ?_
  refine AS.region rfl ?_
  refine AS.move rfl rfl rfl rfl ?_
  refine AS.bin rfl rfl rfl rfl rfl (BinR.nilnil TT23.u25) ?_
  refine AS.opsEnd ?_
  refine AS.condT rfl ?_
  refine AS.seq ?_
  refine AS.region rfl ?_
  refine AS.build rfl rfl rfl TT23.b50 rfl rfl ?_
  refine AS.store rfl rfl rfl rfl rfl rfl TT23.ty50 rfl rfl ?_
  refine AS.opsEnd ?_
  refine AS.retW Try.func22 rfl (.cell rfl TT23.ty50 rfl rfl rfl (.nil)) ?_
  refine ⟨_, _, (Wk.le (AVLe.agg (.cons (.refl _) (.cons (.refl _) (.cons (.refl _) (.cons (.refl _) (.cons (.refl _) (.cons (.refl _) (.cons (.refl _) (.cons (.refl _) (.cons (AVLe.tok _ _) (.cons (.refl _) (.cons (AVLe.tok _ _) .nil))))))))))))).trans (Wk.dropL [_]), rfl, rfl⟩
end Go.Proofs.Ytncecheccihjoaa
/- T24 -/
namespace Go.Proofs.Ytncecheccihjoaa.TT24
open Go Go.Proofs.Fw Go.Shelf
theorem b106 : bldI Go.Proofs.Try.prog 106 = some ([.nilmap, (.int .i64 0), (.slice [] .full)], [(0, 1), (1, 1), (2, 1)]) := by kernel_rfl
theorem b38 : bldI Go.Proofs.Try.prog 38 = some ([(.str ⟨#[]⟩), (.str ⟨#[]⟩), (.str ⟨#[]⟩), (.int .i64 0), (.str ⟨#[]⟩), (.bool false), (.bool false), (.slice [] .full)], [(0, 3), (3, 1), (4, 1), (5, 1), (6, 1), (7, 1)]) := by kernel_rfl
theorem b50 : bldI Go.Proofs.Try.prog 50 = some ([(.int .i64 0), (.str ⟨#[]⟩), (.str ⟨#[]⟩), (.str ⟨#[]⟩), (.int .i64 0), (.str ⟨#[]⟩), (.bool false), (.bool false), (.slice [] .full), (.int .i64 0), (.slice [] .full)], [(0, 1), (1, 8), (9, 1), (10, 1)]) := by kernel_rfl
theorem en100 : Enters Go.Proofs.Try.prog 100 := enters_of Go.Proofs.Try.func100 (by kernel_rfl) rfl
theorem en101 : Enters Go.Proofs.Try.prog 101 := enters_of Go.Proofs.Try.func101 (by kernel_rfl) rfl
theorem en102 : Enters Go.Proofs.Try.prog 102 := enters_of Go.Proofs.Try.func102 (by kernel_rfl) rfl
theorem en103 : Enters Go.Proofs.Try.prog 103 := enters_of Go.Proofs.Try.func103 (by kernel_rfl) rfl
theorem en126 : Enters Go.Proofs.Try.prog 126 := enters_of Go.Proofs.Try.func126 (by kernel_rfl) rfl
theorem en133 : Enters Go.Proofs.Try.prog 133 := enters_of Go.Proofs.Try.func133 (by kernel_rfl) rfl
theorem en146 : Enters Go.Proofs.Try.prog 146 := enters_of Go.Proofs.Try.func146 (by kernel_rfl) rfl
theorem en147 : Enters Go.Proofs.Try.prog 147 := enters_of Go.Proofs.Try.func147 (by kernel_rfl) rfl
theorem en166 : Enters Go.Proofs.Try.prog 166 := enters_of Go.Proofs.Try.func166 (by kernel_rfl) rfl
theorem en175 : Enters Go.Proofs.Try.prog 175 := enters_of Go.Proofs.Try.func175 (by kernel_rfl) rfl
theorem en19 : Enters Go.Proofs.Try.prog 19 := enters_of Go.Proofs.Try.func19 (by kernel_rfl) rfl
theorem en20 : Enters Go.Proofs.Try.prog 20 := enters_of Go.Proofs.Try.func20 (by kernel_rfl) rfl
theorem en21 : Enters Go.Proofs.Try.prog 21 := enters_of Go.Proofs.Try.func21 (by kernel_rfl) rfl
theorem en52 : Enters Go.Proofs.Try.prog 52 := enters_of Go.Proofs.Try.func52 (by kernel_rfl) rfl
theorem en61 : Enters Go.Proofs.Try.prog 61 := enters_of Go.Proofs.Try.func61 (by kernel_rfl) rfl
theorem en62 : Enters Go.Proofs.Try.prog 62 := enters_of Go.Proofs.Try.func62 (by kernel_rfl) rfl
theorem en63 : Enters Go.Proofs.Try.prog 63 := enters_of Go.Proofs.Try.func63 (by kernel_rfl) rfl
theorem en64 : Enters Go.Proofs.Try.prog 64 := enters_of Go.Proofs.Try.func64 (by kernel_rfl) rfl
theorem en65 : Enters Go.Proofs.Try.prog 65 := enters_of Go.Proofs.Try.func65 (by kernel_rfl) rfl
theorem en66 : Enters Go.Proofs.Try.prog 66 := enters_of Go.Proofs.Try.func66 (by kernel_rfl) rfl
theorem en68 : Enters Go.Proofs.Try.prog 68 := enters_of Go.Proofs.Try.func68 (by kernel_rfl) rfl
theorem en69 : Enters Go.Proofs.Try.prog 69 := enters_of Go.Proofs.Try.func69 (by kernel_rfl) rfl
theorem en70 : Enters Go.Proofs.Try.prog 70 := enters_of Go.Proofs.Try.func70 (by kernel_rfl) rfl
theorem en71 : Enters Go.Proofs.Try.prog 71 := enters_of Go.Proofs.Try.func71 (by kernel_rfl) rfl
theorem fl106_0 : fldI Go.Proofs.Try.prog 106 0 = some 0 := by kernel_rfl
theorem fl106_1 : fldI Go.Proofs.Try.prog 106 1 = some 1 := by kernel_rfl
theorem fl106_2 : fldI Go.Proofs.Try.prog 106 2 = some 2 := by kernel_rfl
theorem fl30_0 : fldI Go.Proofs.Try.prog 30 0 = some 0 := by kernel_rfl
theorem fl38_0 : fldI Go.Proofs.Try.prog 38 0 = some 0 := by kernel_rfl
theorem fl38_1 : fldI Go.Proofs.Try.prog 38 1 = some 3 := by kernel_rfl
theorem fl38_5 : fldI Go.Proofs.Try.prog 38 5 = some 7 := by kernel_rfl
theorem fl40_1 : fldI Go.Proofs.Try.prog 40 1 = some 1 := by kernel_rfl
theorem fl50_0 : fldI Go.Proofs.Try.prog 50 0 = some 0 := by kernel_rfl
theorem fl50_1 : fldI Go.Proofs.Try.prog 50 1 = some 1 := by kernel_rfl
theorem fl50_2 : fldI Go.Proofs.Try.prog 50 2 = some 9 := by kernel_rfl
theorem fl50_3 : fldI Go.Proofs.Try.prog 50 3 = some 10 := by kernel_rfl
theorem mixed : Go.Proofs.Try.prog.follows .mixedOrders = true := by kernel_rfl
theorem mp104 : mapI Go.Proofs.Try.prog 104 = some (35, 38) := by kernel_rfl
theorem ps35 : plainS Go.Proofs.Try.prog 35 = true := by kernel_rfl
theorem sl22 : sliI Go.Proofs.Try.prog 22 = some (40, 9, 112) := by kernel_rfl
theorem sl28 : sliI Go.Proofs.Try.prog 28 = some (50, 11, 144) := by kernel_rfl
theorem sl36 : sliI Go.Proofs.Try.prog 36 = some (116, 2, 24) := by kernel_rfl
theorem sl48 : sliI Go.Proofs.Try.prog 48 = some (38, 8, 104) := by kernel_rfl
theorem ty104 : tyI Go.Proofs.Try.prog 104 = some (1, false) := by kernel_rfl
theorem ty2 : tyI Go.Proofs.Try.prog 2 = some (1, false) := by kernel_rfl
theorem ty28 : tyI Go.Proofs.Try.prog 28 = some (1, false) := by kernel_rfl
theorem ty35 : tyI Go.Proofs.Try.prog 35 = some (3, true) := by kernel_rfl
theorem ty36 : tyI Go.Proofs.Try.prog 36 = some (1, false) := by kernel_rfl
theorem ty38 : tyI Go.Proofs.Try.prog 38 = some (8, true) := by kernel_rfl
theorem ty47 : tyI Go.Proofs.Try.prog 47 = some (1, false) := by kernel_rfl
theorem ty48 : tyI Go.Proofs.Try.prog 48 = some (1, false) := by kernel_rfl
theorem ty50 : tyI Go.Proofs.Try.prog 50 = some (11, true) := by kernel_rfl
theorem u180 : Go.Proofs.Try.prog.underlying 180 = some (.int .u64) := by kernel_rfl
theorem u22 : Go.Proofs.Try.prog.underlying 22 = some (.slice 40) := by kernel_rfl
theorem u25 : Go.Proofs.Try.prog.underlying 25 = some (.pointer 106) := by kernel_rfl
theorem u28 : Go.Proofs.Try.prog.underlying 28 = some (.slice 50) := by kernel_rfl
theorem u3 : Go.Proofs.Try.prog.underlying 3 = some (.int .i64) := by kernel_rfl
theorem u35 : Go.Proofs.Try.prog.underlying 35 = some (.struct #[⟨"Kind", 9, 0, false, "", "", 0⟩, ⟨"Space", 9, 1, false, "", "", 16⟩, ⟨"Name", 9, 2, false, "", "", 32⟩]) := by kernel_rfl
theorem u36 : Go.Proofs.Try.prog.underlying 36 = some (.slice 116) := by kernel_rfl
theorem u48 : Go.Proofs.Try.prog.underlying 48 = some (.slice 38) := by kernel_rfl
theorem u50 : Go.Proofs.Try.prog.underlying 50 = some (.struct #[⟨"Kind", 47, 0, false, "", "", 0⟩, ⟨"Object", 38, 1, false, "", "", 8⟩, ⟨"Version", 2, 9, false, "", "", 112⟩, ⟨"Objects", 48, 10, false, "", "", 120⟩]) := by kernel_rfl
theorem z116 : zI Go.Proofs.Try.prog 116 = some (.agg #[(.string ⟨#[]⟩), (.int .i64 0)]) := by kernel_rfl
theorem z38 : zI Go.Proofs.Try.prog 38 = some (.agg #[(.string ⟨#[]⟩), (.string ⟨#[]⟩), (.string ⟨#[]⟩), (.int .i64 0), (.string ⟨#[]⟩), (.bool false), (.bool false), (.slice none 0 0)]) := by kernel_rfl
theorem z50 : zI Go.Proofs.Try.prog 50 = some (.agg #[(.int .i64 0), (.string ⟨#[]⟩), (.string ⟨#[]⟩), (.string ⟨#[]⟩), (.int .i64 0), (.string ⟨#[]⟩), (.bool false), (.bool false), (.slice none 0 0), (.int .i64 0), (.slice none 0 0)]) := by kernel_rfl
end Go.Proofs.Ytncecheccihjoaa.TT24
namespace Go.Proofs.Ytncecheccihjoaa
open Go Go.Proofs.Fw Go.Proofs
set_option linter.unusedVariables false
set_option linter.unusedSimpArgs false
set_option maxRecDepth 20000
set_option maxHeartbeats 4000000
theorem fits09 (l : List Wr) (H : AH) : ACalls Try.prog [] 12 [.slice (l.map encWr) .any] H (fun x H' => x = .bool (wrsFit l) ∧ H' = H) := by
  refine ACalls.enter (n := 22) Try.func12 rfl rfl (Nat.le_of_ble_eq_true rfl) ?_
  refine AS.seq ?_
  refine AS.region rfl ?_
  refine AS.assign rfl rfl rfl rfl ?_
  refine AS.opsEnd ?_
  refine AS.seq ?_
  refine AS.seq ?_
  refine AS.region rfl ?_
  refine AS.move rfl rfl rfl rfl ?_
  refine AS.len rfl rfl rfl rfl (by first | exact lenT_sl TT24.u22 | exact lenT_ms TT24.u22 | (rw [TT24.u22]; rfl)) rfl (lenMap _ _) ?_
  refine AS.bin rfl rfl rfl rfl rfl (BinR.gtr rfl) ?_
  refine AS.opsEnd ?_
  refine AS.cond rfl (fun hc0 => ?_) (fun hc0 => ?_)
  · refine AS.seq ?_
    refine AS.region rfl ?_
    refine AS.assign rfl rfl rfl rfl ?_
    refine AS.opsEnd ?_
    refine AS.retW Try.func12 rfl (.tmp rfl (.nil)) ?_
    refine RWk.drop [] rfl ⟨?_, rfl⟩
    show AV.bool _ = AV.bool _
    (simp only [wrsFit, hc0]) <;> rfl
  · refine AS.skip ?_
    refine AS.seq ?_
    refine AS.seq ?_
    refine AS.region rfl ?_
    refine AS.assign rfl rfl rfl rfl ?_
    refine AS.opsEnd ?_
    have hl : ¬ (60 : Int) < (l.length : Int) := of_decide_eq_false hc0
    refine AS.block ?_
    refine AS.loopI (α := Nat) (fun i => i ≤ l.length ∧ ∀ j, j < i → j < l.length → wrFits l j = true) (fun i => l.length - i) (fun i => [(3, .int .i64 i)]) [(0, _)] (fun i => _) 0 ⟨Nat.zero_le _, fun i h => by omega⟩ (.cons rfl (.cons rfl (.nil))) rfl (fun i hI l0_ih => ?_)
    refine AS.seq ?_
    refine AS.seq ?_
    refine AS.region rfl ?_
    refine AS.move rfl rfl rfl rfl ?_
    refine AS.move rfl rfl rfl rfl ?_
    refine AS.len rfl rfl rfl rfl (by first | exact lenT_sl TT24.u22 | exact lenT_ms TT24.u22 | (rw [TT24.u22]; rfl)) rfl (lenMap _ _) ?_
    refine AS.bin rfl rfl rfl rfl rfl (BinR.lss rfl) ?_
    refine AS.opsEnd ?_
    refine AS.cond rfl (fun hc1 => ?_) (fun hc1 => ?_)
    · have hi : i < l.length := by simp only [decide_eq_true_eq] at hc1; omega
      obtain ⟨w, hw⟩ := getAt hi
      refine AS.skip ?_
      refine AS.seq ?_
      refine AS.block ?_
      refine AS.seq ?_
      refine AS.region rfl ?_
      refine AS.move rfl rfl rfl rfl ?_
      refine AS.move rfl rfl rfl rfl ?_
      refine AS.indexAddr rfl rfl rfl rfl rfl TT24.sl22 (Int.natCast_nonneg _) (map_get _ _ hw) rfl ?_
      refine AS.ifieldAddr rfl rfl rfl rfl TT24.fl40_1 ?_
      refine AS.iload (y := encObj w.o) rfl rfl rfl rfl TT24.ty38 rfl rfl rfl ?_
      refine AS.callP rfl rfl rfl rfl TT24.en62 (fits05 w.o _) ?_
      refine AS.assign rfl rfl rfl rfl ?_
      refine AS.opsEnd ?_
      refine AS.seq ?_
      refine AS.region rfl ?_
      refine AS.move rfl rfl rfl rfl ?_
      refine AS.not rfl rfl rfl rfl rfl ?_
      refine AS.opsEnd ?_
      refine AS.cond rfl (fun hc2 => ?_) (fun hc2 => ?_)
      · rw [Bool.not_eq_true'] at hc2
        refine AS.seq ?_
        refine AS.region rfl ?_
        refine AS.assign rfl rfl rfl rfl ?_
        refine AS.opsEnd ?_
        refine AS.retW Try.func12 rfl (.tmp rfl (.nil)) ?_
        refine RWk.drop [] rfl ⟨?_, rfl⟩
        have e3 := allR_no hi (p := wrFits l) (by simp only [wrFits, hw, hc2])
        show AV.bool _ = AV.bool _
        (simp only [wrsFit, e3, Bool.and_false]) <;> rfl
      · rw [Bool.not_eq_false'] at hc2
        refine AS.skip ?_
        refine AS.inBlock ?_
        refine AS.region rfl ?_
        refine AS.move rfl rfl rfl rfl ?_
        refine AS.bin rfl rfl rfl rfl rfl (BinR.add (w64 (by omega) (by omega))) ?_
        refine AS.assign rfl rfl rfl rfl ?_
        refine AS.opsEnd ?_
        exact AS.nextI (l0_ih (i + 1) ⟨hi, upToL hI.2 (by simp only [wrFits, hw, hc2])⟩ (by omega)) [] (.cons rfl (.cons rfl (.nil))) rfl
    · have hall := allR_yes hI.2 (by simp only [decide_eq_false_iff_not] at hc1; omega)
      refine AS.exit rfl ?_
      refine AS.seq ?_
      refine AS.region rfl ?_
      refine AS.assign rfl rfl rfl rfl ?_
      refine AS.opsEnd ?_
      refine AS.retW Try.func12 rfl (.tmp rfl (.nil)) ?_
      refine RWk.drop [] rfl ⟨?_, rfl⟩
      show AV.bool _ = AV.bool _
      (simp only [wrsFit, hall, hc0]) <;> rfl
end Go.Proofs.Ytncecheccihjoaa
/- Keys that may be have texts of their own; the run of the two stores: in plain Lean. -/
namespace Go.Proofs.Fw
open Go
theorem cut_inj {c : UInt8} : ∀ {l1 l2 r1 r2 : List UInt8}, c ∉ l1 → c ∉ l2 → l1 ++ c :: r1 = l2 ++ c :: r2 → l1 = l2 ∧ r1 = r2
  | [], [], _, _, _, _, h => ⟨rfl, by simpa using h⟩
  | [], b :: l2, _, _, _, h2, h => by
    simp only [List.nil_append, List.cons_append, List.cons.injEq] at h
    exact absurd (by rw [h.1]; exact List.mem_cons_self) h2
  | a :: l1, [], _, _, h1, _, h => by
    simp only [List.nil_append, List.cons_append, List.cons.injEq] at h
    exact absurd (by rw [← h.1]; exact List.mem_cons_self) h1
  | a :: l1, b :: l2, r1, r2, h1, h2, h => by
    simp only [List.cons_append, List.cons.injEq] at h
    obtain ⟨e1, e2⟩ := cut_inj (fun hm => h1 (List.mem_cons_of_mem _ hm)) (fun hm => h2 (List.mem_cons_of_mem _ hm)) h.2
    exact ⟨by rw [h.1, e1], e2⟩
theorem toList_app (a b : ByteArray) : (a ++ b).toList = a.toList ++ b.toList := by
  simp only [Go.ByteArray.toList_eq]
  rw [ByteArray.data_append, Array.toList_append]
theorem toList_inj {a b : ByteArray} (h : a.toList = b.toList) : a = b := by
  simp only [Go.ByteArray.toList_eq] at h
  exact ByteArray.ext (Array.toList_inj.1 h)
theorem right_noslash {s : ByteArray} (h : right s = true) : (47 : UInt8) ∉ s.toList := by
  intro hm
  obtain ⟨i, hi⟩ := List.getElem?_of_mem hm
  have hl : i < s.size := by rw [← tl_len]; exact (List.getElem?_eq_some_iff.1 hi).1
  rw [tl_get hl] at hi
  have hs : s[i]'hl = 47 := by simpa using hi
  simp only [right, Bool.and_eq_true, List.all_eq_true, List.mem_range] at h
  have := h.1.1.2 i hl
  rw [okAt_eq hl, hs] at this
  exact absurd this (by decide)
theorem slash_list : slash.toList = [47] := by rw [Go.ByteArray.toList_eq]; rfl
theorem textOf_inj {a b : Key} (ha : keyRight a = true) (hb : keyRight b = true) (h : textOf a = textOf b) : a = b := by
  simp only [keyRight, Bool.and_eq_true] at ha hb
  have h' := congrArg ByteArray.toList h
  simp only [textOf, toList_app, slash_list, List.append_assoc, List.cons_append, List.nil_append] at h'
  obtain ⟨e1, h'⟩ := cut_inj (right_noslash ha.1.2) (right_noslash hb.1.2) h'
  obtain ⟨e2, e3⟩ := cut_inj (right_noslash ha.1.1) (right_noslash hb.1.1) h'
  have e1 := toList_inj e1
  have e2 := toList_inj e2
  have e3 := toList_inj e3
  cases a; cases b
  simp only [Key.mk.injEq]
  exact ⟨e2, e1, e3⟩
theorem less_anti {a b : Key} (ha : keyRight a = true) (hb : keyRight b = true) (h1 : keyLess a b = false) (h2 : keyLess b a = false) : a = b :=
  textOf_inj ha hb (toList_inj (bl_anti h2 h1))
theorem apart_of {l : List Object} (h : KeysApart l) (hk : ∀ o ∈ l, keyRight o.key = true) : Apart l :=
  fun x hx y hy h1 h2 => h x hx y hy (less_anti (hk x hx) (hk y hy) h2 h1)
/-- What each event of the log is like. -/
structure EvFit (e : Evt) : Prop where
  key : keyFits e.obj.key
  right : keyRight e.obj.key = true
  charge : e.obj.charge.length ≤ 1000
  objs : e.objs = []
theorem SInv.objMem {M : List (Key × Object)} {L : List Evt} (h : SInv M L) {o : Object} (ho : o ∈ M.map (·.2)) : ∃ e ∈ L, e.obj = o := mem_objs (h.perm.mem_iff.1 ho)
theorem SInv.apartO {M : List (Key × Object)} {L : List Evt} (h : SInv M L) (hf : ∀ e ∈ L, EvFit e) : Apart (M.map (·.2)) :=
  apart_of h.apart fun o ho => by obtain ⟨e, he, rfl⟩ := h.objMem ho; exact (hf e he).right
theorem SInv.one {M : List (Key × Object)} {L : List Evt} (h : SInv M L) (hf : ∀ e ∈ L, EvFit e) : sortO (M.map (·.2)) = sortO (objsOf L) :=
  one_order ((sortO_perm _).trans (h.perm.trans (sortO_perm _).symm)) (sortO_sorted _) (sortO_sorted _) (fun x hx y hy => h.apartO hf x (mem_sortO hx) y (mem_sortO hy))
theorem SInv.size {M : List (Key × Object)} {L : List Evt} (h : SInv M L) : M.length ≤ L.length := by
  rw [← h.len, sortO_len]; exact objs_len L
end Go.Proofs.Fw
/- What a write does, to the store and to the reference's: in plain Lean. -/
namespace Go.Proofs.Fw
open Go
structure WrR where
  v : Int
  e : Int
  M : List (Key × Object)
  L : List Evt
def nko (k : Key) : Object := ⟨k, 0, ⟨#[]⟩, false, false, []⟩
def evPut (o : Object) (n : Nat) : Evt := ⟨0, o.wv ((n : Int) + 1), 0, []⟩
def evDel (k : Key) (n : Nat) : Evt := ⟨1, (nko k).wv ((n : Int) + 1), 0, []⟩
def putR (M : List (Key × Object)) (L : List Evt) (o : Object) : WrR :=
  if objRight (o.wv 1) = false then ⟨0, 1, M, L⟩
  else if mget M o.key = none ∧ 1000 ≤ M.length then ⟨0, 3, M, L⟩
  else ⟨(L.length : Int) + 1, 0, mset M o.key (o.wv ((L.length : Int) + 1)), L ++ [evPut o L.length]⟩
def delR (M : List (Key × Object)) (L : List Evt) (k : Key) : WrR :=
  if keyRight k = false then ⟨0, 1, M, L⟩
  else if mget M k = none then ⟨0, 4, M, L⟩
  else ⟨(L.length : Int) + 1, 0, mdel M k, L ++ [evDel k L.length]⟩
def doR (M : List (Key × Object)) (L : List Evt) (w : Wr) : WrR := if w.gone then delR M L w.o.key else putR M L w.o
structure LogOk (M : List (Key × Object)) (L : List Evt) : Prop where
  inv : SInv M L
  fit : ∀ e ∈ L, EvFit e
theorem LogOk.start : LogOk [] [] := ⟨SInv.start, by simp⟩
theorem putR_len (M : List (Key × Object)) (L : List Evt) (o : Object) : L.length ≤ (putR M L o).L.length ∧ (putR M L o).L.length ≤ L.length + 1 := by
  unfold putR
  repeat' split
  all_goals simp
theorem delR_len (M : List (Key × Object)) (L : List Evt) (k : Key) : L.length ≤ (delR M L k).L.length ∧ (delR M L k).L.length ≤ L.length + 1 := by
  unfold delR
  repeat' split
  all_goals simp
theorem doR_len (M : List (Key × Object)) (L : List Evt) (w : Wr) : L.length ≤ (doR M L w).L.length ∧ (doR M L w).L.length ≤ L.length + 1 := by
  unfold doR
  split
  · exact delR_len ..
  · exact putR_len ..
theorem objRight_key {o : Object} (h : objRight o = true) : keyRight o.key = true := by
  simp only [objRight, Bool.and_eq_true] at h
  exact h.1.1.1.1
theorem LogOk.put {M : List (Key × Object)} {L : List Evt} (h : LogOk M L) {o : Object} (ho : objFits o) : LogOk (putR M L o).M (putR M L o).L := by
  unfold putR
  split
  · exact h
  · split
    · exact h
    · rename_i h1 _
      refine ⟨h.inv.put (o.wv ((L.length : Int) + 1)), fun e he => ?_⟩
      rcases List.mem_append.1 he with he | he
      · exact h.fit e he
      · simp only [List.mem_singleton] at he
        subst he
        have h2 : objRight (o.wv 1) = true := by simpa using h1
        have h3 := objRight_key h2
        exact ⟨ho.1, h3, Nat.le_trans ho.2.2.1 (by decide), rfl⟩
theorem LogOk.del {M : List (Key × Object)} {L : List Evt} (h : LogOk M L) {k : Key} (hk : keyFits k) : LogOk (delR M L k).M (delR M L k).L := by
  unfold delR
  split
  · exact h
  · split
    · exact h
    · rename_i h1 _
      refine ⟨h.inv.del k ((nko k).wv ((L.length : Int) + 1)) rfl, fun e he => ?_⟩
      rcases List.mem_append.1 he with he | he
      · exact h.fit e he
      · simp only [List.mem_singleton] at he
        subst he
        have h3 : keyRight k = true := by simpa using h1
        exact ⟨hk, h3, Nat.zero_le _, rfl⟩
theorem LogOk.step {M : List (Key × Object)} {L : List Evt} (h : LogOk M L) {w : Wr} (hw : objFits w.o) : LogOk (doR M L w).M (doR M L w).L := by
  unfold doR
  split
  · exact h.del hw.1
  · exact h.put hw
/-- What lies in the map is small. -/
theorem LogOk.charge {M : List (Key × Object)} {L : List Evt} (h : LogOk M L) : ∀ o ∈ M.map (·.2), o.charge.length ≤ 1000 ∧ keyFits o.key := by
  intro o ho
  obtain ⟨e, he, rfl⟩ := h.inv.objMem ho
  exact ⟨(h.fit e he).charge, (h.fit e he).key⟩
theorem LogOk.got {M : List (Key × Object)} {L : List Evt} (h : LogOk M L) {k : Key} {o : Object} (hm : mget M k = some o) : o.charge.length ≤ 1000 :=
  (h.charge o (List.mem_map.2 ⟨_, (mget_iff h.inv.nodup k o).1 hm, rfl⟩)).1
theorem fits_get {l : List Wr} (h : wrsFit l = true) : l.length ≤ 60 ∧ ∀ (i : Nat) w, l[i]? = some w → objFits w.o := by
  simp only [wrsFit, Bool.and_eq_true, Bool.not_eq_true', decide_eq_false_iff_not, List.all_eq_true, List.mem_range] at h
  refine ⟨by omega, fun i w hw => ?_⟩
  have := h.2 i (List.getElem?_eq_some_iff.1 hw).1
  simp only [wrFits, hw] at this
  exact objFits_of this
end Go.Proofs.Fw
/- T25 -/
namespace Go.Proofs.Ytncecheccihjoaa.TT25
open Go Go.Proofs.Fw Go.Shelf
theorem b106 : bldI Go.Proofs.Try.prog 106 = some ([.nilmap, (.int .i64 0), (.slice [] .full)], [(0, 1), (1, 1), (2, 1)]) := by kernel_rfl
theorem b38 : bldI Go.Proofs.Try.prog 38 = some ([(.str ⟨#[]⟩), (.str ⟨#[]⟩), (.str ⟨#[]⟩), (.int .i64 0), (.str ⟨#[]⟩), (.bool false), (.bool false), (.slice [] .full)], [(0, 3), (3, 1), (4, 1), (5, 1), (6, 1), (7, 1)]) := by kernel_rfl
theorem b50 : bldI Go.Proofs.Try.prog 50 = some ([(.int .i64 0), (.str ⟨#[]⟩), (.str ⟨#[]⟩), (.str ⟨#[]⟩), (.int .i64 0), (.str ⟨#[]⟩), (.bool false), (.bool false), (.slice [] .full), (.int .i64 0), (.slice [] .full)], [(0, 1), (1, 8), (9, 1), (10, 1)]) := by kernel_rfl
theorem en100 : Enters Go.Proofs.Try.prog 100 := enters_of Go.Proofs.Try.func100 (by kernel_rfl) rfl
theorem en101 : Enters Go.Proofs.Try.prog 101 := enters_of Go.Proofs.Try.func101 (by kernel_rfl) rfl
theorem en102 : Enters Go.Proofs.Try.prog 102 := enters_of Go.Proofs.Try.func102 (by kernel_rfl) rfl
theorem en103 : Enters Go.Proofs.Try.prog 103 := enters_of Go.Proofs.Try.func103 (by kernel_rfl) rfl
theorem en126 : Enters Go.Proofs.Try.prog 126 := enters_of Go.Proofs.Try.func126 (by kernel_rfl) rfl
theorem en133 : Enters Go.Proofs.Try.prog 133 := enters_of Go.Proofs.Try.func133 (by kernel_rfl) rfl
theorem en146 : Enters Go.Proofs.Try.prog 146 := enters_of Go.Proofs.Try.func146 (by kernel_rfl) rfl
theorem en147 : Enters Go.Proofs.Try.prog 147 := enters_of Go.Proofs.Try.func147 (by kernel_rfl) rfl
theorem en166 : Enters Go.Proofs.Try.prog 166 := enters_of Go.Proofs.Try.func166 (by kernel_rfl) rfl
theorem en175 : Enters Go.Proofs.Try.prog 175 := enters_of Go.Proofs.Try.func175 (by kernel_rfl) rfl
theorem en19 : Enters Go.Proofs.Try.prog 19 := enters_of Go.Proofs.Try.func19 (by kernel_rfl) rfl
theorem en20 : Enters Go.Proofs.Try.prog 20 := enters_of Go.Proofs.Try.func20 (by kernel_rfl) rfl
theorem en21 : Enters Go.Proofs.Try.prog 21 := enters_of Go.Proofs.Try.func21 (by kernel_rfl) rfl
theorem en27 : Enters Go.Proofs.Try.prog 27 := enters_of Go.Proofs.Try.func27 (by kernel_rfl) rfl
theorem en28 : Enters Go.Proofs.Try.prog 28 := enters_of Go.Proofs.Try.func28 (by kernel_rfl) rfl
theorem en52 : Enters Go.Proofs.Try.prog 52 := enters_of Go.Proofs.Try.func52 (by kernel_rfl) rfl
theorem en61 : Enters Go.Proofs.Try.prog 61 := enters_of Go.Proofs.Try.func61 (by kernel_rfl) rfl
theorem en62 : Enters Go.Proofs.Try.prog 62 := enters_of Go.Proofs.Try.func62 (by kernel_rfl) rfl
theorem en63 : Enters Go.Proofs.Try.prog 63 := enters_of Go.Proofs.Try.func63 (by kernel_rfl) rfl
theorem en64 : Enters Go.Proofs.Try.prog 64 := enters_of Go.Proofs.Try.func64 (by kernel_rfl) rfl
theorem en65 : Enters Go.Proofs.Try.prog 65 := enters_of Go.Proofs.Try.func65 (by kernel_rfl) rfl
theorem en66 : Enters Go.Proofs.Try.prog 66 := enters_of Go.Proofs.Try.func66 (by kernel_rfl) rfl
theorem en68 : Enters Go.Proofs.Try.prog 68 := enters_of Go.Proofs.Try.func68 (by kernel_rfl) rfl
theorem en69 : Enters Go.Proofs.Try.prog 69 := enters_of Go.Proofs.Try.func69 (by kernel_rfl) rfl
theorem en70 : Enters Go.Proofs.Try.prog 70 := enters_of Go.Proofs.Try.func70 (by kernel_rfl) rfl
theorem en71 : Enters Go.Proofs.Try.prog 71 := enters_of Go.Proofs.Try.func71 (by kernel_rfl) rfl
theorem fl106_0 : fldI Go.Proofs.Try.prog 106 0 = some 0 := by kernel_rfl
theorem fl106_1 : fldI Go.Proofs.Try.prog 106 1 = some 1 := by kernel_rfl
theorem fl106_2 : fldI Go.Proofs.Try.prog 106 2 = some 2 := by kernel_rfl
theorem fl30_0 : fldI Go.Proofs.Try.prog 30 0 = some 0 := by kernel_rfl
theorem fl38_0 : fldI Go.Proofs.Try.prog 38 0 = some 0 := by kernel_rfl
theorem fl38_1 : fldI Go.Proofs.Try.prog 38 1 = some 3 := by kernel_rfl
theorem fl38_5 : fldI Go.Proofs.Try.prog 38 5 = some 7 := by kernel_rfl
theorem fl40_0 : fldI Go.Proofs.Try.prog 40 0 = some 0 := by kernel_rfl
theorem fl40_1 : fldI Go.Proofs.Try.prog 40 1 = some 1 := by kernel_rfl
theorem fl50_0 : fldI Go.Proofs.Try.prog 50 0 = some 0 := by kernel_rfl
theorem fl50_1 : fldI Go.Proofs.Try.prog 50 1 = some 1 := by kernel_rfl
theorem fl50_2 : fldI Go.Proofs.Try.prog 50 2 = some 9 := by kernel_rfl
theorem fl50_3 : fldI Go.Proofs.Try.prog 50 3 = some 10 := by kernel_rfl
theorem mixed : Go.Proofs.Try.prog.follows .mixedOrders = true := by kernel_rfl
theorem mp104 : mapI Go.Proofs.Try.prog 104 = some (35, 38) := by kernel_rfl
theorem ps35 : plainS Go.Proofs.Try.prog 35 = true := by kernel_rfl
theorem sl22 : sliI Go.Proofs.Try.prog 22 = some (40, 9, 112) := by kernel_rfl
theorem sl28 : sliI Go.Proofs.Try.prog 28 = some (50, 11, 144) := by kernel_rfl
theorem sl36 : sliI Go.Proofs.Try.prog 36 = some (116, 2, 24) := by kernel_rfl
theorem sl48 : sliI Go.Proofs.Try.prog 48 = some (38, 8, 104) := by kernel_rfl
theorem ty104 : tyI Go.Proofs.Try.prog 104 = some (1, false) := by kernel_rfl
theorem ty2 : tyI Go.Proofs.Try.prog 2 = some (1, false) := by kernel_rfl
theorem ty28 : tyI Go.Proofs.Try.prog 28 = some (1, false) := by kernel_rfl
theorem ty35 : tyI Go.Proofs.Try.prog 35 = some (3, true) := by kernel_rfl
theorem ty36 : tyI Go.Proofs.Try.prog 36 = some (1, false) := by kernel_rfl
theorem ty38 : tyI Go.Proofs.Try.prog 38 = some (8, true) := by kernel_rfl
theorem ty4 : tyI Go.Proofs.Try.prog 4 = some (1, false) := by kernel_rfl
theorem ty47 : tyI Go.Proofs.Try.prog 47 = some (1, false) := by kernel_rfl
theorem ty48 : tyI Go.Proofs.Try.prog 48 = some (1, false) := by kernel_rfl
theorem ty50 : tyI Go.Proofs.Try.prog 50 = some (11, true) := by kernel_rfl
theorem u180 : Go.Proofs.Try.prog.underlying 180 = some (.int .u64) := by kernel_rfl
theorem u22 : Go.Proofs.Try.prog.underlying 22 = some (.slice 40) := by kernel_rfl
theorem u25 : Go.Proofs.Try.prog.underlying 25 = some (.pointer 106) := by kernel_rfl
theorem u28 : Go.Proofs.Try.prog.underlying 28 = some (.slice 50) := by kernel_rfl
theorem u3 : Go.Proofs.Try.prog.underlying 3 = some (.int .i64) := by kernel_rfl
theorem u35 : Go.Proofs.Try.prog.underlying 35 = some (.struct #[⟨"Kind", 9, 0, false, "", "", 0⟩, ⟨"Space", 9, 1, false, "", "", 16⟩, ⟨"Name", 9, 2, false, "", "", 32⟩]) := by kernel_rfl
theorem u36 : Go.Proofs.Try.prog.underlying 36 = some (.slice 116) := by kernel_rfl
theorem u48 : Go.Proofs.Try.prog.underlying 48 = some (.slice 38) := by kernel_rfl
theorem u50 : Go.Proofs.Try.prog.underlying 50 = some (.struct #[⟨"Kind", 47, 0, false, "", "", 0⟩, ⟨"Object", 38, 1, false, "", "", 8⟩, ⟨"Version", 2, 9, false, "", "", 112⟩, ⟨"Objects", 48, 10, false, "", "", 120⟩]) := by kernel_rfl
theorem z116 : zI Go.Proofs.Try.prog 116 = some (.agg #[(.string ⟨#[]⟩), (.int .i64 0)]) := by kernel_rfl
theorem z38 : zI Go.Proofs.Try.prog 38 = some (.agg #[(.string ⟨#[]⟩), (.string ⟨#[]⟩), (.string ⟨#[]⟩), (.int .i64 0), (.string ⟨#[]⟩), (.bool false), (.bool false), (.slice none 0 0)]) := by kernel_rfl
theorem z50 : zI Go.Proofs.Try.prog 50 = some (.agg #[(.int .i64 0), (.string ⟨#[]⟩), (.string ⟨#[]⟩), (.string ⟨#[]⟩), (.int .i64 0), (.string ⟨#[]⟩), (.bool false), (.bool false), (.slice none 0 0), (.int .i64 0), (.slice none 0 0)]) := by kernel_rfl
end Go.Proofs.Ytncecheccihjoaa.TT25
namespace Go.Proofs.Ytncecheccihjoaa
open Go Go.Proofs.Fw Go.Proofs
set_option linter.unusedVariables false
set_option linter.unusedSimpArgs false
set_option maxRecDepth 20000
set_option maxHeartbeats 4000000
theorem put_spec2 (s m : Nat) (M : List (Key × Object)) (L : List Evt) (tk : Tok) (o : Object) (H : AH) (htk : tk.grows = true) (hl : L.length ≤ 1000) (hc : o.charge.length ≤ 1000000) : ACalls Try.prog [] 27 [.ptr s 0, encObj o] (stH s m (L.length : Int) M L tk H) (fun x H' => x = .tup [.int .i64 (putR M L o).v, .int .i64 (putR M L o).e] ∧ ∃ tk', tk'.grows = true ∧ H' = stH s m ((putR M L o).L.length : Int) (putR M L o).M (putR M L o).L tk' H) := by
  refine (put_spec s m (L.length : Int) M L tk o H (by omega) htk (by omega) hc).mono ?_
  rintro x H' (⟨h1, rfl, rfl⟩ | ⟨h1, h2, h3, rfl, rfl⟩ | ⟨h1, h2, rfl, tk', h3, rfl⟩)
  · have e : putR M L o = ⟨0, 1, M, L⟩ := by unfold putR; rw [if_pos h1]
    rw [e]; exact ⟨rfl, tk, htk, rfl⟩
  · have e : putR M L o = ⟨0, 3, M, L⟩ := by unfold putR; rw [if_neg (by rw [h1]; decide), if_pos ⟨h2, h3⟩]
    rw [e]; exact ⟨rfl, tk, htk, rfl⟩
  · have e : putR M L o = ⟨(L.length : Int) + 1, 0, mset M o.key (o.wv ((L.length : Int) + 1)), L ++ [evPut o L.length]⟩ := by unfold putR; rw [if_neg (by rw [h1]; decide), if_neg (fun h => by have := h2 h.1; omega)]
    rw [e]
    refine ⟨rfl, tk', h3, ?_⟩
    show stH s m ((L.length : Int) + 1) _ _ tk' H = stH s m ((L ++ [evPut o L.length]).length : Int) _ _ tk' H
    rw [List.length_append]; rfl

theorem delete_spec2 (s m : Nat) (M : List (Key × Object)) (L : List Evt) (tk : Tok) (k : Key) (H : AH) (htk : tk.grows = true) (hl : L.length ≤ 1000) : ACalls Try.prog [] 28 [.ptr s 0, encKey k] (stH s m (L.length : Int) M L tk H) (fun x H' => x = .tup [.int .i64 (delR M L k).v, .int .i64 (delR M L k).e] ∧ ∃ tk', tk'.grows = true ∧ H' = stH s m ((delR M L k).L.length : Int) (delR M L k).M (delR M L k).L tk' H) := by
  refine (delete_spec s m (L.length : Int) M L tk k H (by omega) htk (by omega)).mono ?_
  rintro x H' (⟨h1, rfl, rfl⟩ | ⟨h1, h2, rfl, rfl⟩ | ⟨h1, h2, rfl, tk', h3, rfl⟩)
  · have e : delR M L k = ⟨0, 1, M, L⟩ := by unfold delR; rw [if_pos h1]
    rw [e]; exact ⟨rfl, tk, htk, rfl⟩
  · have e : delR M L k = ⟨0, 4, M, L⟩ := by unfold delR; rw [if_neg (by rw [h1]; decide), if_pos h2]
    rw [e]; exact ⟨rfl, tk, htk, rfl⟩
  · have e : delR M L k = ⟨(L.length : Int) + 1, 0, mdel M k, L ++ [evDel k L.length]⟩ := by unfold delR; rw [if_neg (by rw [h1]; decide), if_neg (fun h => by rw [h] at h2; cases h2)]
    rw [e]
    refine ⟨rfl, tk', h3, ?_⟩
    show stH s m ((L.length : Int) + 1) _ _ tk' H = stH s m ((L ++ [evDel k L.length]).length : Int) _ _ tk' H
    rw [List.length_append]; rfl

theorem refPut_spec2 (r : Nat) (M : List (Key × Object)) (L : List Evt) (tk : Tok) (o : Object) (H : AH) (hi : LogOk M L) (hl : L.length ≤ 1000) (ho : objFits o) : ACalls Try.prog [] 17 [.ptr r 0, encObj o] ((r, .row [.slice (L.map encEv) tk] 30) :: H) (fun x H' => x = .tup [.int .i64 (putR M L o).v, .int .i64 (putR M L o).e] ∧ ∃ tk', H' = (r, .row [.slice ((putR M L o).L.map encEv) tk'] 30) :: H) := by
  refine (refPut_spec r L tk o H hl (fun e he => (hi.fit e he).key) ho).mono ?_
  rw [← hi.inv.get o.key, hi.inv.len]
  rintro x H' (⟨h1, rfl, rfl⟩ | ⟨h1, h2, h3, rfl, rfl⟩ | ⟨h1, h2, rfl, tk', rfl⟩)
  · have e : putR M L o = ⟨0, 1, M, L⟩ := by unfold putR; rw [if_pos h1]
    rw [e]; exact ⟨rfl, tk, rfl⟩
  · have e : putR M L o = ⟨0, 3, M, L⟩ := by unfold putR; rw [if_neg (by rw [h1]; decide), if_pos ⟨h2, h3⟩]
    rw [e]; exact ⟨rfl, tk, rfl⟩
  · have e : putR M L o = ⟨(L.length : Int) + 1, 0, mset M o.key (o.wv ((L.length : Int) + 1)), L ++ [evPut o L.length]⟩ := by unfold putR; rw [if_neg (by rw [h1]; decide), if_neg (fun h => by have := h2 h.1; omega)]
    rw [e]
    exact ⟨rfl, tk', rfl⟩

theorem refDelete_spec2 (r : Nat) (M : List (Key × Object)) (L : List Evt) (tk : Tok) (k : Key) (H : AH) (hi : LogOk M L) (hl : L.length ≤ 1000) : ACalls Try.prog [] 16 [.ptr r 0, encKey k] ((r, .row [.slice (L.map encEv) tk] 30) :: H) (fun x H' => x = .tup [.int .i64 (delR M L k).v, .int .i64 (delR M L k).e] ∧ ∃ tk', H' = (r, .row [.slice ((delR M L k).L.map encEv) tk'] 30) :: H) := by
  refine (refDelete_spec r L tk k H hl (fun e he => (hi.fit e he).key)).mono ?_
  rw [← hi.inv.get k]
  rintro x H' (⟨h1, rfl, rfl⟩ | ⟨h1, h2, rfl, rfl⟩ | ⟨h1, h2, rfl, tk', rfl⟩)
  · have e : delR M L k = ⟨0, 1, M, L⟩ := by unfold delR; rw [if_pos h1]
    rw [e]; exact ⟨rfl, tk, rfl⟩
  · have e : delR M L k = ⟨0, 4, M, L⟩ := by unfold delR; rw [if_neg (by rw [h1]; decide), if_pos h2]
    rw [e]; exact ⟨rfl, tk, rfl⟩
  · have e : delR M L k = ⟨(L.length : Int) + 1, 0, mdel M k, L ++ [evDel k L.length]⟩ := by unfold delR; rw [if_neg (by rw [h1]; decide), if_neg (fun h => by rw [h] at h2; cases h2)]
    rw [e]
    exact ⟨rfl, tk', rfl⟩

theorem do_spec (s m : Nat) (M : List (Key × Object)) (L : List Evt) (tk : Tok) (w : Wr) (H : AH) (htk : tk.grows = true) (hl : L.length ≤ 1000) (hc : w.o.charge.length ≤ 1000000) : ACalls Try.prog [] 15 [.ptr s 0, encWr w] (stH s m (L.length : Int) M L tk H) (fun x H' => x = .tup [.int .i64 (doR M L w).v, .int .i64 (doR M L w).e] ∧ ∃ tk', tk'.grows = true ∧ H' = stH s m ((doR M L w).L.length : Int) (doR M L w).M (doR M L w).L tk' H) := by
  refine ACalls.enter (n := 21) Try.func15 rfl rfl (Nat.le_of_ble_eq_true rfl) ?_
  refine AS.seq ?_
  refine AS.region rfl ?_
  refine AS.box rfl rfl rfl rfl rfl ?_
  intro b3
  refine AS.assign rfl rfl rfl rfl ?_
  refine AS.assign rfl rfl rfl rfl ?_
  refine AS.opsEnd ?_
  refine AS.seq ?_
  refine AS.seq ?_
  refine AS.region rfl ?_
  refine AS.fieldAddr rfl rfl rfl rfl TT25.fl40_0 ?_
  refine AS.load rfl rfl rfl rfl TT25.ty4 rfl rfl rfl ?_
  refine AS.opsEnd ?_
  refine AS.cond rfl (fun hc0 => ?_) (fun hc0 => ?_)
  · refine AS.seq ?_
    refine AS.region rfl ?_
    refine AS.move rfl rfl rfl rfl ?_
    refine AS.fieldAddr rfl rfl rfl rfl TT25.fl40_1 ?_
    refine AS.fieldAddr rfl rfl rfl rfl TT25.fl38_0 ?_
    refine AS.load (y := encKey w.o.key) rfl rfl rfl rfl TT25.ty35 rfl rfl rfl ?_
    refine AS.permH [] (stPerm [_] s m _ M L tk H) ?_
    refine AS.call rfl rfl rfl rfl TT25.en28 (delete_spec2 s m M L tk w.o.key _ htk hl) ?_
    rintro _ _ ⟨rfl, tk', h1, rfl⟩
    refine AS.extract rfl rfl rfl rfl rfl ?_
    refine AS.extract rfl rfl rfl rfl rfl ?_
    refine AS.assign rfl rfl rfl rfl ?_
    refine AS.assign rfl rfl rfl rfl ?_
    refine AS.opsEnd ?_
    refine AS.retW Try.func15 rfl (.tmp rfl (.tmp rfl (.nil))) ?_
    have e : doR M L w = delR M L w.o.key := by unfold doR; rw [if_pos hc0]
    rw [e]
    exact RWk.permD [_] (stPerm [_] _ _ _ _ _ _ _).symm ⟨rfl, tk', h1, rfl⟩
  · refine AS.skip ?_
    refine AS.seq ?_
    refine AS.region rfl ?_
    refine AS.move rfl rfl rfl rfl ?_
    refine AS.fieldAddr rfl rfl rfl rfl TT25.fl40_1 ?_
    refine AS.load (y := encObj w.o) rfl rfl rfl rfl TT25.ty38 rfl rfl rfl ?_
    refine AS.permH [] (stPerm [_] s m _ M L tk H) ?_
    refine AS.call rfl rfl rfl rfl TT25.en27 (put_spec2 s m M L tk w.o _ htk hl hc) ?_
    rintro _ _ ⟨rfl, tk', h1, rfl⟩
    refine AS.extract rfl rfl rfl rfl rfl ?_
    refine AS.extract rfl rfl rfl rfl rfl ?_
    refine AS.assign rfl rfl rfl rfl ?_
    refine AS.assign rfl rfl rfl rfl ?_
    refine AS.opsEnd ?_
    refine AS.retW Try.func15 rfl (.tmp rfl (.tmp rfl (.nil))) ?_
    have e : doR M L w = putR M L w.o := by unfold doR; rw [if_neg (by rw [hc0]; decide)]
    rw [e]
    exact RWk.permD [_] (stPerm [_] _ _ _ _ _ _ _).symm ⟨rfl, tk', h1, rfl⟩
end Go.Proofs.Ytncecheccihjoaa
/- T26 -/
namespace Go.Proofs.Ytncecheccihjoaa.TT26
open Go Go.Proofs.Fw Go.Shelf
theorem b106 : bldI Go.Proofs.Try.prog 106 = some ([.nilmap, (.int .i64 0), (.slice [] .full)], [(0, 1), (1, 1), (2, 1)]) := by kernel_rfl
theorem b35 : bldI Go.Proofs.Try.prog 35 = some ([(.str ⟨#[]⟩), (.str ⟨#[]⟩), (.str ⟨#[]⟩)], [(0, 1), (1, 1), (2, 1)]) := by kernel_rfl
theorem b38 : bldI Go.Proofs.Try.prog 38 = some ([(.str ⟨#[]⟩), (.str ⟨#[]⟩), (.str ⟨#[]⟩), (.int .i64 0), (.str ⟨#[]⟩), (.bool false), (.bool false), (.slice [] .full)], [(0, 3), (3, 1), (4, 1), (5, 1), (6, 1), (7, 1)]) := by kernel_rfl
theorem b50 : bldI Go.Proofs.Try.prog 50 = some ([(.int .i64 0), (.str ⟨#[]⟩), (.str ⟨#[]⟩), (.str ⟨#[]⟩), (.int .i64 0), (.str ⟨#[]⟩), (.bool false), (.bool false), (.slice [] .full), (.int .i64 0), (.slice [] .full)], [(0, 1), (1, 8), (9, 1), (10, 1)]) := by kernel_rfl
theorem en100 : Enters Go.Proofs.Try.prog 100 := enters_of Go.Proofs.Try.func100 (by kernel_rfl) rfl
theorem en101 : Enters Go.Proofs.Try.prog 101 := enters_of Go.Proofs.Try.func101 (by kernel_rfl) rfl
theorem en102 : Enters Go.Proofs.Try.prog 102 := enters_of Go.Proofs.Try.func102 (by kernel_rfl) rfl
theorem en103 : Enters Go.Proofs.Try.prog 103 := enters_of Go.Proofs.Try.func103 (by kernel_rfl) rfl
theorem en126 : Enters Go.Proofs.Try.prog 126 := enters_of Go.Proofs.Try.func126 (by kernel_rfl) rfl
theorem en133 : Enters Go.Proofs.Try.prog 133 := enters_of Go.Proofs.Try.func133 (by kernel_rfl) rfl
theorem en14 : Enters Go.Proofs.Try.prog 14 := enters_of Go.Proofs.Try.func14 (by kernel_rfl) rfl
theorem en146 : Enters Go.Proofs.Try.prog 146 := enters_of Go.Proofs.Try.func146 (by kernel_rfl) rfl
theorem en147 : Enters Go.Proofs.Try.prog 147 := enters_of Go.Proofs.Try.func147 (by kernel_rfl) rfl
theorem en166 : Enters Go.Proofs.Try.prog 166 := enters_of Go.Proofs.Try.func166 (by kernel_rfl) rfl
theorem en175 : Enters Go.Proofs.Try.prog 175 := enters_of Go.Proofs.Try.func175 (by kernel_rfl) rfl
theorem en19 : Enters Go.Proofs.Try.prog 19 := enters_of Go.Proofs.Try.func19 (by kernel_rfl) rfl
theorem en20 : Enters Go.Proofs.Try.prog 20 := enters_of Go.Proofs.Try.func20 (by kernel_rfl) rfl
theorem en21 : Enters Go.Proofs.Try.prog 21 := enters_of Go.Proofs.Try.func21 (by kernel_rfl) rfl
theorem en22 : Enters Go.Proofs.Try.prog 22 := enters_of Go.Proofs.Try.func22 (by kernel_rfl) rfl
theorem en24 : Enters Go.Proofs.Try.prog 24 := enters_of Go.Proofs.Try.func24 (by kernel_rfl) rfl
theorem en26 : Enters Go.Proofs.Try.prog 26 := enters_of Go.Proofs.Try.func26 (by kernel_rfl) rfl
theorem en27 : Enters Go.Proofs.Try.prog 27 := enters_of Go.Proofs.Try.func27 (by kernel_rfl) rfl
theorem en28 : Enters Go.Proofs.Try.prog 28 := enters_of Go.Proofs.Try.func28 (by kernel_rfl) rfl
theorem en52 : Enters Go.Proofs.Try.prog 52 := enters_of Go.Proofs.Try.func52 (by kernel_rfl) rfl
theorem en61 : Enters Go.Proofs.Try.prog 61 := enters_of Go.Proofs.Try.func61 (by kernel_rfl) rfl
theorem en62 : Enters Go.Proofs.Try.prog 62 := enters_of Go.Proofs.Try.func62 (by kernel_rfl) rfl
theorem en63 : Enters Go.Proofs.Try.prog 63 := enters_of Go.Proofs.Try.func63 (by kernel_rfl) rfl
theorem en64 : Enters Go.Proofs.Try.prog 64 := enters_of Go.Proofs.Try.func64 (by kernel_rfl) rfl
theorem en65 : Enters Go.Proofs.Try.prog 65 := enters_of Go.Proofs.Try.func65 (by kernel_rfl) rfl
theorem en66 : Enters Go.Proofs.Try.prog 66 := enters_of Go.Proofs.Try.func66 (by kernel_rfl) rfl
theorem en68 : Enters Go.Proofs.Try.prog 68 := enters_of Go.Proofs.Try.func68 (by kernel_rfl) rfl
theorem en69 : Enters Go.Proofs.Try.prog 69 := enters_of Go.Proofs.Try.func69 (by kernel_rfl) rfl
theorem en70 : Enters Go.Proofs.Try.prog 70 := enters_of Go.Proofs.Try.func70 (by kernel_rfl) rfl
theorem en71 : Enters Go.Proofs.Try.prog 71 := enters_of Go.Proofs.Try.func71 (by kernel_rfl) rfl
theorem fl106_0 : fldI Go.Proofs.Try.prog 106 0 = some 0 := by kernel_rfl
theorem fl106_1 : fldI Go.Proofs.Try.prog 106 1 = some 1 := by kernel_rfl
theorem fl106_2 : fldI Go.Proofs.Try.prog 106 2 = some 2 := by kernel_rfl
theorem fl30_0 : fldI Go.Proofs.Try.prog 30 0 = some 0 := by kernel_rfl
theorem fl38_0 : fldI Go.Proofs.Try.prog 38 0 = some 0 := by kernel_rfl
theorem fl38_1 : fldI Go.Proofs.Try.prog 38 1 = some 3 := by kernel_rfl
theorem fl38_2 : fldI Go.Proofs.Try.prog 38 2 = some 4 := by kernel_rfl
theorem fl38_5 : fldI Go.Proofs.Try.prog 38 5 = some 7 := by kernel_rfl
theorem fl40_0 : fldI Go.Proofs.Try.prog 40 0 = some 0 := by kernel_rfl
theorem fl40_1 : fldI Go.Proofs.Try.prog 40 1 = some 1 := by kernel_rfl
theorem fl50_0 : fldI Go.Proofs.Try.prog 50 0 = some 0 := by kernel_rfl
theorem fl50_1 : fldI Go.Proofs.Try.prog 50 1 = some 1 := by kernel_rfl
theorem fl50_2 : fldI Go.Proofs.Try.prog 50 2 = some 9 := by kernel_rfl
theorem fl50_3 : fldI Go.Proofs.Try.prog 50 3 = some 10 := by kernel_rfl
theorem mixed : Go.Proofs.Try.prog.follows .mixedOrders = true := by kernel_rfl
theorem mp104 : mapI Go.Proofs.Try.prog 104 = some (35, 38) := by kernel_rfl
theorem ps35 : plainS Go.Proofs.Try.prog 35 = true := by kernel_rfl
theorem sl22 : sliI Go.Proofs.Try.prog 22 = some (40, 9, 112) := by kernel_rfl
theorem sl28 : sliI Go.Proofs.Try.prog 28 = some (50, 11, 144) := by kernel_rfl
theorem sl36 : sliI Go.Proofs.Try.prog 36 = some (116, 2, 24) := by kernel_rfl
theorem sl48 : sliI Go.Proofs.Try.prog 48 = some (38, 8, 104) := by kernel_rfl
theorem ty104 : tyI Go.Proofs.Try.prog 104 = some (1, false) := by kernel_rfl
theorem ty2 : tyI Go.Proofs.Try.prog 2 = some (1, false) := by kernel_rfl
theorem ty28 : tyI Go.Proofs.Try.prog 28 = some (1, false) := by kernel_rfl
theorem ty35 : tyI Go.Proofs.Try.prog 35 = some (3, true) := by kernel_rfl
theorem ty36 : tyI Go.Proofs.Try.prog 36 = some (1, false) := by kernel_rfl
theorem ty38 : tyI Go.Proofs.Try.prog 38 = some (8, true) := by kernel_rfl
theorem ty4 : tyI Go.Proofs.Try.prog 4 = some (1, false) := by kernel_rfl
theorem ty47 : tyI Go.Proofs.Try.prog 47 = some (1, false) := by kernel_rfl
theorem ty48 : tyI Go.Proofs.Try.prog 48 = some (1, false) := by kernel_rfl
theorem ty50 : tyI Go.Proofs.Try.prog 50 = some (11, true) := by kernel_rfl
theorem ty9 : tyI Go.Proofs.Try.prog 9 = some (1, false) := by kernel_rfl
theorem u180 : Go.Proofs.Try.prog.underlying 180 = some (.int .u64) := by kernel_rfl
theorem u22 : Go.Proofs.Try.prog.underlying 22 = some (.slice 40) := by kernel_rfl
theorem u25 : Go.Proofs.Try.prog.underlying 25 = some (.pointer 106) := by kernel_rfl
theorem u28 : Go.Proofs.Try.prog.underlying 28 = some (.slice 50) := by kernel_rfl
theorem u3 : Go.Proofs.Try.prog.underlying 3 = some (.int .i64) := by kernel_rfl
theorem u35 : Go.Proofs.Try.prog.underlying 35 = some (.struct #[⟨"Kind", 9, 0, false, "", "", 0⟩, ⟨"Space", 9, 1, false, "", "", 16⟩, ⟨"Name", 9, 2, false, "", "", 32⟩]) := by kernel_rfl
theorem u36 : Go.Proofs.Try.prog.underlying 36 = some (.slice 116) := by kernel_rfl
theorem u48 : Go.Proofs.Try.prog.underlying 48 = some (.slice 38) := by kernel_rfl
theorem u50 : Go.Proofs.Try.prog.underlying 50 = some (.struct #[⟨"Kind", 47, 0, false, "", "", 0⟩, ⟨"Object", 38, 1, false, "", "", 8⟩, ⟨"Version", 2, 9, false, "", "", 112⟩, ⟨"Objects", 48, 10, false, "", "", 120⟩]) := by kernel_rfl
theorem z116 : zI Go.Proofs.Try.prog 116 = some (.agg #[(.string ⟨#[]⟩), (.int .i64 0)]) := by kernel_rfl
theorem z38 : zI Go.Proofs.Try.prog 38 = some (.agg #[(.string ⟨#[]⟩), (.string ⟨#[]⟩), (.string ⟨#[]⟩), (.int .i64 0), (.string ⟨#[]⟩), (.bool false), (.bool false), (.slice none 0 0)]) := by kernel_rfl
theorem z50 : zI Go.Proofs.Try.prog 50 = some (.agg #[(.int .i64 0), (.string ⟨#[]⟩), (.string ⟨#[]⟩), (.string ⟨#[]⟩), (.int .i64 0), (.string ⟨#[]⟩), (.bool false), (.bool false), (.slice none 0 0), (.int .i64 0), (.slice none 0 0)]) := by kernel_rfl
end Go.Proofs.Ytncecheccihjoaa.TT26
namespace Go.Proofs.Ytncecheccihjoaa
open Go Go.Proofs.Fw Go.Proofs
set_option linter.unusedVariables false
set_option linter.unusedSimpArgs false
set_option maxRecDepth 20000
set_option maxHeartbeats 4000000
instance At_stH {s m : Nat} {v : Int} {M : List (Key × Object)} {log : List Evt} {tk : Tok} {H : AH} {b : Nat} {o : AO} [h : At H b o] : At (stH s m v M log tk H) b o :=
  ⟨List.mem_cons_of_mem _ (List.mem_cons_of_mem _ (List.mem_append_right _ h.mem))⟩
theorem wk_stH {GV : AH} {x : AV} {s m : Nat} {v : Int} {M : List (Key × Object)} {log : List Evt} {tk : Tok} {H : AH} : Wk GV x (stH s m v M log tk H) x H := by
  unfold stH; exact (Wk.drop _).trans ((Wk.drop _).trans (Wk.dropL _))
def o0 : Object := ⟨⟨⟨#[112, 111, 100]⟩, ⟨#[97]⟩, ⟨#[120]⟩⟩, -7, ⟨#[104, 105, 103, 104]⟩, false, false, []⟩
def l1 : List Evt := [evPut o0 0]
def l2 : List Evt := [evPut o0 0, evPut o0 1]
def l3 : List Evt := [evPut o0 0, evPut o0 1, evDel o0.key 2]
theorem al1 : putR [] [] o0 = ⟨1, 0, [(o0.key, o0.wv 1)], l1⟩ := by kernel_rfl
theorem al2 : putR [(o0.key, o0.wv 1)] l1 o0 = ⟨2, 0, [(o0.key, o0.wv 2)], l2⟩ := by kernel_rfl
theorem al3 : delR [(o0.key, o0.wv 2)] l2 o0.key = ⟨3, 0, [], l3⟩ := by kernel_rfl
theorem al4 : delR [] l3 o0.key = ⟨0, 4, [], l3⟩ := by kernel_rfl
theorem al5 : putR [] l3 noObj = ⟨0, 1, [], l3⟩ := by kernel_rfl
theorem new_spec2 (H : AH) : ACalls Try.prog [] 14 [] H (fun x H' => ∃ s m, x = .ptr s 0 ∧ H' = stH s m (([] : List Evt).length : Int) [] [] .full H) := new_spec H

theorem fit3 : ∀ e ∈ l3, e.objs.length ≤ 1000000 ∧ e.obj.charge.length ≤ 1000000 ∧ ∀ o ∈ e.objs, o.charge.length ≤ 1000000 := by
  intro e he
  simp only [l3, List.mem_cons, List.not_mem_nil, or_false] at he
  rcases he with rfl | rfl | rfl <;> exact ⟨Nat.zero_le _, Nat.zero_le _, fun o ho => by cases ho⟩

theorem alive09 (H : AH) : ACalls Try.prog [] 13 [] H (fun x H' => x = .bool true ∧ H' = H) := by
  refine ACalls.enter (n := 139) Try.func13 rfl rfl (Nat.le_of_ble_eq_true rfl) ?_
  refine AS.seq ?_
  refine AS.region rfl ?_
  refine AS.assign rfl rfl rfl rfl ?_
  refine AS.opsEnd ?_
  refine AS.seq ?_
  refine AS.region rfl ?_
  refine AS.call rfl rfl rfl rfl TT26.en14 (new_spec2 _) ?_
  rintro _ _ ⟨s, m, rfl, rfl⟩
  refine AS.assign rfl rfl rfl rfl ?_
  refine AS.opsEnd ?_
  refine AS.seq ?_
  refine AS.region rfl ?_
  refine AS.build rfl rfl rfl TT26.b35 rfl rfl ?_
  refine AS.build rfl rfl rfl TT26.b38 rfl rfl ?_
  refine AS.weak 17 (encObj o0) rfl (AVLe.agg (.cons (.refl _) (.cons (.refl _) (.cons (.refl _) (.cons (.refl _) (.cons (.refl _) (.cons (.refl _) (.cons (.refl _) (.cons (AVLe.tok _ _) .nil))))))))) ?_
  refine AS.allocZ rfl rfl rfl TT26.z38 rfl ?_
  intro b2
  refine AS.store rfl rfl rfl rfl rfl rfl TT26.ty38 rfl rfl ?_
  refine AS.opsEnd ?_
  refine AS.seq ?_
  refine AS.region rfl ?_
  refine AS.move rfl rfl rfl rfl ?_
  refine AS.load (y := encObj o0) rfl rfl rfl rfl TT26.ty38 rfl rfl rfl ?_
  refine AS.permH [] (stPerm [_] s m _ [] [] _ H) ?_
  dsimp only [List.cons_append, List.nil_append]
  refine AS.call rfl rfl rfl rfl TT26.en27 (put_spec2 s m [] [] .full o0 _ rfl (Nat.zero_le _) (Nat.zero_le _)) ?_
  rintro _ _ ⟨rfl, tk1, h1, rfl⟩
  rw [al1]
  dsimp only
  refine AS.move rfl rfl rfl rfl ?_
  refine AS.extract rfl rfl rfl rfl rfl ?_
  refine AS.extract rfl rfl rfl rfl rfl ?_
  refine AS.assign rfl rfl rfl rfl ?_
  refine AS.assign rfl rfl rfl rfl ?_
  refine AS.opsEnd ?_
  refine AS.seq ?_
  refine AS.region rfl ?_
  refine AS.move rfl rfl rfl rfl ?_
  refine AS.load (y := encObj o0) rfl rfl rfl rfl TT26.ty38 rfl rfl rfl ?_
  refine AS.call rfl rfl rfl rfl TT26.en27 (put_spec2 s m [(o0.key, o0.wv 1)] l1 tk1 o0 _ h1 (by decide) (Nat.zero_le _)) ?_
  rintro _ _ ⟨rfl, tk2, h2, rfl⟩
  rw [al2]
  dsimp only
  refine AS.move rfl rfl rfl rfl ?_
  refine AS.extract rfl rfl rfl rfl rfl ?_
  refine AS.extract rfl rfl rfl rfl rfl ?_
  refine AS.assign rfl rfl rfl rfl ?_
  refine AS.assign rfl rfl rfl rfl ?_
  refine AS.opsEnd ?_
  refine AS.seq ?_
  refine AS.region rfl ?_
  refine AS.move rfl rfl rfl rfl ?_
  refine AS.fieldAddr rfl rfl rfl rfl TT26.fl38_0 ?_
  refine AS.load (y := encKey o0.key) rfl rfl rfl rfl TT26.ty35 rfl rfl rfl ?_
  refine AS.call rfl rfl rfl rfl TT26.en28 (delete_spec2 s m [(o0.key, o0.wv 2)] l2 tk2 o0.key _ h2 (by decide)) ?_
  rintro _ _ ⟨rfl, tk3, h3, rfl⟩
  rw [al3]
  dsimp only
  refine AS.move rfl rfl rfl rfl ?_
  refine AS.extract rfl rfl rfl rfl rfl ?_
  refine AS.extract rfl rfl rfl rfl rfl ?_
  refine AS.assign rfl rfl rfl rfl ?_
  refine AS.assign rfl rfl rfl rfl ?_
  refine AS.opsEnd ?_
  refine AS.seq ?_
  refine AS.region rfl ?_
  refine AS.move rfl rfl rfl rfl ?_
  refine AS.fieldAddr rfl rfl rfl rfl TT26.fl38_0 ?_
  refine AS.load (y := encKey o0.key) rfl rfl rfl rfl TT26.ty35 rfl rfl rfl ?_
  refine AS.call rfl rfl rfl rfl TT26.en28 (delete_spec2 s m [] l3 tk3 o0.key _ h3 (by decide)) ?_
  rintro _ _ ⟨rfl, tk4, h4, rfl⟩
  rw [al4]
  dsimp only
  refine AS.move rfl rfl rfl rfl ?_
  refine AS.extract rfl rfl rfl rfl rfl ?_
  refine AS.extract rfl rfl rfl rfl rfl ?_
  refine AS.assign rfl rfl rfl rfl ?_
  refine AS.assign rfl rfl rfl rfl ?_
  refine AS.opsEnd ?_
  refine AS.seq ?_
  refine AS.region rfl ?_
  refine AS.move rfl rfl rfl rfl ?_
  refine AS.build rfl rfl rfl TT26.b38 rfl rfl ?_
  refine AS.weak 46 (encObj noObj) rfl (AVLe.agg (.cons (.refl _) (.cons (.refl _) (.cons (.refl _) (.cons (.refl _) (.cons (.refl _) (.cons (.refl _) (.cons (.refl _) (.cons (AVLe.tok _ _) .nil))))))))) ?_
  refine AS.call rfl rfl rfl rfl TT26.en27 (put_spec2 s m [] l3 tk4 noObj _ h4 (by decide) (Nat.zero_le _)) ?_
  rintro _ _ ⟨rfl, tk5, h5, rfl⟩
  rw [al5]
  dsimp only
  refine AS.move rfl rfl rfl rfl ?_
  refine AS.extract rfl rfl rfl rfl rfl ?_
  refine AS.extract rfl rfl rfl rfl rfl ?_
  refine AS.assign rfl rfl rfl rfl ?_
  refine AS.assign rfl rfl rfl rfl ?_
  refine AS.opsEnd ?_
  refine AS.seq ?_
  refine AS.region rfl ?_
  refine AS.move rfl rfl rfl rfl ?_
  refine AS.callP rfl rfl rfl rfl TT26.en26 (log_spec s m _ [] l3 tk5 _ (by decide) fit3) ?_
  refine AS.assign rfl rfl rfl rfl ?_
  refine AS.opsEnd ?_
  refine AS.seq ?_
  refine AS.region rfl ?_
  refine AS.move rfl rfl rfl rfl ?_
  refine AS.callP rfl rfl rfl rfl TT26.en22 (snapshot_spec s m _ [] l3 tk5 _ (by decide) (by simp [valsOf]) (by simp [valsOf, Apart]) (by simp [valsOf])) ?_
  refine AS.allocZ rfl rfl rfl TT26.z50 rfl ?_
  intro b14
  refine AS.store rfl rfl rfl rfl rfl rfl TT26.ty50 rfl rfl ?_
  refine AS.opsEnd ?_
  refine AS.seq ?_
  refine AS.seq ?_
  refine AS.region rfl ?_
  refine AS.move rfl rfl rfl rfl ?_
  refine AS.len rfl rfl rfl rfl (by first | exact lenT_sl TT26.u28 | exact lenT_ms TT26.u28 | (rw [TT26.u28]; rfl)) rfl (lenMap _ _) ?_
  refine AS.bin rfl rfl rfl rfl rfl (BinR.neq (c := false) rfl) ?_
  refine AS.opsEnd ?_
  refine AS.condF rfl ?_
  refine AS.skip ?_
  refine AS.seq ?_
  refine AS.region rfl ?_
  refine AS.move rfl rfl rfl rfl ?_
  refine AS.bin rfl rfl rfl rfl rfl (BinR.eql (c := true) rfl) ?_
  refine AS.move rfl rfl rfl rfl ?_
  refine AS.move rfl rfl rfl rfl ?_
  refine AS.bin rfl rfl rfl rfl rfl (BinR.eql (c := true) rfl) ?_
  refine AS.pick rfl rfl rfl rfl rfl ?_
  refine AS.move rfl rfl rfl rfl ?_
  refine AS.move rfl rfl rfl rfl ?_
  refine AS.bin rfl rfl rfl rfl rfl (BinR.eql (c := true) rfl) ?_
  refine AS.pick rfl rfl rfl rfl rfl ?_
  refine AS.move rfl rfl rfl rfl ?_
  refine AS.move rfl rfl rfl rfl ?_
  refine AS.bin rfl rfl rfl rfl rfl (BinR.eql (c := true) rfl) ?_
  refine AS.pick rfl rfl rfl rfl rfl ?_
  refine AS.move rfl rfl rfl rfl ?_
  refine AS.move rfl rfl rfl rfl ?_
  refine AS.bin rfl rfl rfl rfl rfl (BinR.eql (c := true) rfl) ?_
  refine AS.pick rfl rfl rfl rfl rfl ?_
  refine AS.move rfl rfl rfl rfl ?_
  refine AS.move rfl rfl rfl rfl ?_
  refine AS.bin rfl rfl rfl rfl rfl (BinR.eql (c := true) rfl) ?_
  refine AS.pick rfl rfl rfl rfl rfl ?_
  refine AS.move rfl rfl rfl rfl ?_
  refine AS.move rfl rfl rfl rfl ?_
  refine AS.bin rfl rfl rfl rfl rfl (BinR.eql (c := true) rfl) ?_
  refine AS.pick rfl rfl rfl rfl rfl ?_
  refine AS.move rfl rfl rfl rfl ?_
  refine AS.move rfl rfl rfl rfl ?_
  refine AS.bin rfl rfl rfl rfl rfl (BinR.eql (c := true) rfl) ?_
  refine AS.pick rfl rfl rfl rfl rfl ?_
  refine AS.move rfl rfl rfl rfl ?_
  refine AS.move rfl rfl rfl rfl ?_
  refine AS.indexAddr rfl rfl rfl rfl rfl TT26.sl28 (by decide) (map_get encEv l3 (i := 1) (a := evPut o0 1) rfl) rfl ?_
  refine AS.ifieldAddr rfl rfl rfl rfl TT26.fl50_1 ?_
  refine AS.ifieldAddr rfl rfl rfl rfl TT26.fl38_1 ?_
  refine AS.iload rfl rfl rfl rfl TT26.ty2 rfl rfl rfl ?_
  refine AS.bin rfl rfl rfl rfl rfl (BinR.eql (c := true) rfl) ?_
  refine AS.pick rfl rfl rfl rfl rfl ?_
  refine AS.move rfl rfl rfl rfl ?_
  refine AS.move rfl rfl rfl rfl ?_
  refine AS.indexAddr rfl rfl rfl rfl rfl TT26.sl28 (by decide) (map_get encEv l3 (i := 1) (a := evPut o0 1) rfl) rfl ?_
  refine AS.ifieldAddr rfl rfl rfl rfl TT26.fl50_1 ?_
  refine AS.ifieldAddr rfl rfl rfl rfl TT26.fl38_2 ?_
  refine AS.iload rfl rfl rfl rfl TT26.ty9 rfl rfl rfl ?_
  refine AS.bin rfl rfl rfl rfl rfl (BinR.seql (c := true) rfl) ?_
  refine AS.pick rfl rfl rfl rfl rfl ?_
  refine AS.move rfl rfl rfl rfl ?_
  refine AS.move rfl rfl rfl rfl ?_
  refine AS.indexAddr rfl rfl rfl rfl rfl TT26.sl28 (by decide) (map_get encEv l3 (i := 2) (a := evDel o0.key 2) rfl) rfl ?_
  refine AS.ifieldAddr rfl rfl rfl rfl TT26.fl50_0 ?_
  refine AS.iload rfl rfl rfl rfl TT26.ty47 rfl rfl rfl ?_
  refine AS.bin rfl rfl rfl rfl rfl (BinR.eql (c := true) rfl) ?_
  refine AS.pick rfl rfl rfl rfl rfl ?_
  refine AS.move rfl rfl rfl rfl ?_
  refine AS.move rfl rfl rfl rfl ?_
  refine AS.indexAddr rfl rfl rfl rfl rfl TT26.sl28 (by decide) (map_get encEv l3 (i := 2) (a := evDel o0.key 2) rfl) rfl ?_
  refine AS.ifieldAddr rfl rfl rfl rfl TT26.fl50_1 ?_
  refine AS.ifieldAddr rfl rfl rfl rfl TT26.fl38_2 ?_
  refine AS.iload rfl rfl rfl rfl TT26.ty9 rfl rfl rfl ?_
  refine AS.bin rfl rfl rfl rfl rfl (BinR.seql (c := true) rfl) ?_
  refine AS.pick rfl rfl rfl rfl rfl ?_
  refine AS.move rfl rfl rfl rfl ?_
  refine AS.move rfl rfl rfl rfl ?_
  refine AS.callP rfl rfl rfl rfl TT26.en24 (ACalls.permP (version_spec s m _ [] l3 tk5 ([_] ++ _)) (stPerm [_] s m _ [] l3 tk5 _)) ?_
  refine AS.bin rfl rfl rfl rfl rfl (BinR.eql (c := true) rfl) ?_
  refine AS.pick rfl rfl rfl rfl rfl ?_
  refine AS.move rfl rfl rfl rfl ?_
  refine AS.fieldAddr rfl rfl rfl rfl TT26.fl50_0 ?_
  refine AS.load rfl rfl rfl rfl TT26.ty47 rfl rfl rfl ?_
  refine AS.bin rfl rfl rfl rfl rfl (BinR.eql (c := true) rfl) ?_
  refine AS.pick rfl rfl rfl rfl rfl ?_
  refine AS.move rfl rfl rfl rfl ?_
  refine AS.fieldAddr rfl rfl rfl rfl TT26.fl50_2 ?_
  refine AS.load rfl rfl rfl rfl TT26.ty2 rfl rfl rfl ?_
  refine AS.bin rfl rfl rfl rfl rfl (BinR.eql (c := true) rfl) ?_
  refine AS.pick rfl rfl rfl rfl rfl ?_
  refine AS.move rfl rfl rfl rfl ?_
  refine AS.fieldAddr rfl rfl rfl rfl TT26.fl50_3 ?_
  refine AS.load rfl rfl rfl rfl TT26.ty48 rfl rfl rfl ?_
  refine AS.len rfl rfl rfl rfl (by first | exact lenT_sl TT26.u48 | exact lenT_ms TT26.u48 | (rw [TT26.u48]; rfl)) rfl (lenMap _ _) ?_
  refine AS.bin rfl rfl rfl rfl rfl (BinR.eql (c := true) rfl) ?_
  refine AS.pick rfl rfl rfl rfl rfl ?_
  refine AS.assign rfl rfl rfl rfl ?_
  refine AS.opsEnd ?_
  refine AS.retW Try.func13 rfl (.tmp rfl (.nil)) ?_
  exact ⟨_, _, (Wk.drop _).trans (wk_stH.trans (Wk.drop _)), rfl, rfl⟩
-- UNUSED annotation mode r12
end Go.Proofs.Ytncecheccihjoaa
