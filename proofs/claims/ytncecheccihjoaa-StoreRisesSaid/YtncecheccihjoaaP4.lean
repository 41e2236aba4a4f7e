/- A part of the proof: XT21, XT22, XT23, XT24, XT25, XT26, XKey2, XT29, XT30, XRead, XEnd, XT28. -/
import Derived.Test.YtncecheccihjoaaP3
import Derived.Deep.Slices
import Derived.ChangeSame
import Derived.OpenShut
import Derived.WideKeyArgs
import Derived.RowKit3
import Derived.JoinedTies
import Derived.ProofKit
import Derived.ChangeBook
/- T21 -/
namespace Go.Proofs.Ytncecheccihjoaa.TT21
open Go Go.Proofs.Fw Go.Shelf
theorem b38 : bldI Go.Proofs.Try.prog 38 = some ([(.str ⟨#[]⟩), (.str ⟨#[]⟩), (.str ⟨#[]⟩), (.int .i64 0), (.str ⟨#[]⟩), (.bool false), (.bool false), (.slice [] .full)], [(0, 3), (3, 1), (4, 1), (5, 1), (6, 1), (7, 1)]) := by kernel_rfl
theorem b50 : bldI Go.Proofs.Try.prog 50 = some ([(.int .i64 0), (.str ⟨#[]⟩), (.str ⟨#[]⟩), (.str ⟨#[]⟩), (.int .i64 0), (.str ⟨#[]⟩), (.bool false), (.bool false), (.slice [] .full), (.int .i64 0), (.slice [] .full)], [(0, 1), (1, 8), (9, 1), (10, 1)]) := by kernel_rfl
theorem en100 : Enters Go.Proofs.Try.prog 100 := enters_of Go.Proofs.Try.func100 (by kernel_rfl) rfl
theorem en101 : Enters Go.Proofs.Try.prog 101 := enters_of Go.Proofs.Try.func101 (by kernel_rfl) rfl
theorem en102 : Enters Go.Proofs.Try.prog 102 := enters_of Go.Proofs.Try.func102 (by kernel_rfl) rfl
theorem en103 : Enters Go.Proofs.Try.prog 103 := enters_of Go.Proofs.Try.func103 (by kernel_rfl) rfl
theorem en126 : Enters Go.Proofs.Try.prog 126 := enters_of Go.Proofs.Try.func126 (by kernel_rfl) rfl
theorem en133 : Enters Go.Proofs.Try.prog 133 := enters_of Go.Proofs.Try.func133 (by kernel_rfl) rfl
theorem en146 : Enters Go.Proofs.Try.prog 146 := enters_of Go.Proofs.Try.func146 (by kernel_rfl) rfl
theorem en147 : Enters Go.Proofs.Try.prog 147 := enters_of Go.Proofs.Try.func147 (by kernel_rfl) rfl
theorem en166 : Enters Go.Proofs.Try.prog 166 := enters_of Go.Proofs.Try.func166 (by kernel_rfl) rfl
theorem en175 : Enters Go.Proofs.Try.prog 175 := enters_of Go.Proofs.Try.func175 (by kernel_rfl) rfl
theorem en19 : Enters Go.Proofs.Try.prog 19 := enters_of Go.Proofs.Try.func19 (by kernel_rfl) rfl
theorem en20 : Enters Go.Proofs.Try.prog 20 := enters_of Go.Proofs.Try.func20 (by kernel_rfl) rfl
theorem en21 : Enters Go.Proofs.Try.prog 21 := enters_of Go.Proofs.Try.func21 (by kernel_rfl) rfl
theorem en52 : Enters Go.Proofs.Try.prog 52 := enters_of Go.Proofs.Try.func52 (by kernel_rfl) rfl
theorem en61 : Enters Go.Proofs.Try.prog 61 := enters_of Go.Proofs.Try.func61 (by kernel_rfl) rfl
theorem en64 : Enters Go.Proofs.Try.prog 64 := enters_of Go.Proofs.Try.func64 (by kernel_rfl) rfl
theorem en65 : Enters Go.Proofs.Try.prog 65 := enters_of Go.Proofs.Try.func65 (by kernel_rfl) rfl
theorem en66 : Enters Go.Proofs.Try.prog 66 := enters_of Go.Proofs.Try.func66 (by kernel_rfl) rfl
theorem en68 : Enters Go.Proofs.Try.prog 68 := enters_of Go.Proofs.Try.func68 (by kernel_rfl) rfl
theorem en69 : Enters Go.Proofs.Try.prog 69 := enters_of Go.Proofs.Try.func69 (by kernel_rfl) rfl
theorem en70 : Enters Go.Proofs.Try.prog 70 := enters_of Go.Proofs.Try.func70 (by kernel_rfl) rfl
theorem en71 : Enters Go.Proofs.Try.prog 71 := enters_of Go.Proofs.Try.func71 (by kernel_rfl) rfl
theorem fl106_0 : fldI Go.Proofs.Try.prog 106 0 = some 0 := by kernel_rfl
theorem fl106_1 : fldI Go.Proofs.Try.prog 106 1 = some 1 := by kernel_rfl
theorem fl106_2 : fldI Go.Proofs.Try.prog 106 2 = some 2 := by kernel_rfl
theorem fl30_0 : fldI Go.Proofs.Try.prog 30 0 = some 0 := by kernel_rfl
theorem fl38_0 : fldI Go.Proofs.Try.prog 38 0 = some 0 := by kernel_rfl
theorem fl38_1 : fldI Go.Proofs.Try.prog 38 1 = some 3 := by kernel_rfl
theorem fl38_5 : fldI Go.Proofs.Try.prog 38 5 = some 7 := by kernel_rfl
theorem fl50_0 : fldI Go.Proofs.Try.prog 50 0 = some 0 := by kernel_rfl
theorem fl50_1 : fldI Go.Proofs.Try.prog 50 1 = some 1 := by kernel_rfl
theorem fl50_2 : fldI Go.Proofs.Try.prog 50 2 = some 9 := by kernel_rfl
theorem fl50_3 : fldI Go.Proofs.Try.prog 50 3 = some 10 := by kernel_rfl
theorem mixed : Go.Proofs.Try.prog.follows .mixedOrders = true := by kernel_rfl
theorem mp104 : mapI Go.Proofs.Try.prog 104 = some (35, 38) := by kernel_rfl
theorem ps35 : plainS Go.Proofs.Try.prog 35 = true := by kernel_rfl
theorem sl28 : sliI Go.Proofs.Try.prog 28 = some (50, 11, 144) := by kernel_rfl
theorem sl36 : sliI Go.Proofs.Try.prog 36 = some (116, 2, 24) := by kernel_rfl
theorem sl48 : sliI Go.Proofs.Try.prog 48 = some (38, 8, 104) := by kernel_rfl
theorem ty104 : tyI Go.Proofs.Try.prog 104 = some (1, false) := by kernel_rfl
theorem ty2 : tyI Go.Proofs.Try.prog 2 = some (1, false) := by kernel_rfl
theorem ty28 : tyI Go.Proofs.Try.prog 28 = some (1, false) := by kernel_rfl
theorem ty35 : tyI Go.Proofs.Try.prog 35 = some (3, true) := by kernel_rfl
theorem ty36 : tyI Go.Proofs.Try.prog 36 = some (1, false) := by kernel_rfl
theorem ty38 : tyI Go.Proofs.Try.prog 38 = some (8, true) := by kernel_rfl
theorem ty47 : tyI Go.Proofs.Try.prog 47 = some (1, false) := by kernel_rfl
theorem ty48 : tyI Go.Proofs.Try.prog 48 = some (1, false) := by kernel_rfl
theorem ty50 : tyI Go.Proofs.Try.prog 50 = some (11, true) := by kernel_rfl
theorem u180 : Go.Proofs.Try.prog.underlying 180 = some (.int .u64) := by kernel_rfl
theorem u25 : Go.Proofs.Try.prog.underlying 25 = some (.pointer 106) := by kernel_rfl
theorem u28 : Go.Proofs.Try.prog.underlying 28 = some (.slice 50) := by kernel_rfl
theorem u3 : Go.Proofs.Try.prog.underlying 3 = some (.int .i64) := by kernel_rfl
theorem u35 : Go.Proofs.Try.prog.underlying 35 = some (.struct #[⟨"Kind", 9, 0, false, "", "", 0⟩, ⟨"Space", 9, 1, false, "", "", 16⟩, ⟨"Name", 9, 2, false, "", "", 32⟩]) := by kernel_rfl
theorem u36 : Go.Proofs.Try.prog.underlying 36 = some (.slice 116) := by kernel_rfl
theorem u48 : Go.Proofs.Try.prog.underlying 48 = some (.slice 38) := by kernel_rfl
theorem u50 : Go.Proofs.Try.prog.underlying 50 = some (.struct #[⟨"Kind", 47, 0, false, "", "", 0⟩, ⟨"Object", 38, 1, false, "", "", 8⟩, ⟨"Version", 2, 9, false, "", "", 112⟩, ⟨"Objects", 48, 10, false, "", "", 120⟩]) := by kernel_rfl
theorem z116 : zI Go.Proofs.Try.prog 116 = some (.agg #[(.string ⟨#[]⟩), (.int .i64 0)]) := by kernel_rfl
theorem z38 : zI Go.Proofs.Try.prog 38 = some (.agg #[(.string ⟨#[]⟩), (.string ⟨#[]⟩), (.string ⟨#[]⟩), (.int .i64 0), (.string ⟨#[]⟩), (.bool false), (.bool false), (.slice none 0 0)]) := by kernel_rfl
theorem z50 : zI Go.Proofs.Try.prog 50 = some (.agg #[(.int .i64 0), (.string ⟨#[]⟩), (.string ⟨#[]⟩), (.string ⟨#[]⟩), (.int .i64 0), (.string ⟨#[]⟩), (.bool false), (.bool false), (.slice none 0 0), (.int .i64 0), (.slice none 0 0)]) := by kernel_rfl
end Go.Proofs.Ytncecheccihjoaa.TT21
namespace Go.Proofs.Ytncecheccihjoaa
open Go Go.Proofs.Fw Go.Proofs
set_option linter.unusedVariables false
set_option linter.unusedSimpArgs false
set_option maxRecDepth 20000
set_option maxHeartbeats 4000000
theorem refPut_spec (r : Nat) (L : List Evt) (tk : Tok) (o : Object) (H : AH) (hl : L.length ≤ 1000) (hk : ∀ e ∈ L, keyFits e.obj.key) (ho : objFits o) : ACalls Try.prog [] 17 [.ptr r 0, encObj o] ((r, .row [.slice (L.map encEv) tk] 30) :: H) (fun x H' => (objRight (o.wv 1) = false ∧ x = .tup [.int .i64 0, .int .i64 1] ∧ H' = ((r, .row [.slice (L.map encEv) tk] 30) :: H)) ∨ (objRight (o.wv 1) = true ∧ findK (sortO (objsOf L)) o.key = none ∧ 1000 ≤ (sortO (objsOf L)).length ∧ x = .tup [.int .i64 0, .int .i64 3] ∧ H' = ((r, .row [.slice (L.map encEv) tk] 30) :: H)) ∨ (objRight (o.wv 1) = true ∧ (findK (sortO (objsOf L)) o.key = none → (sortO (objsOf L)).length < 1000) ∧ x = .tup [.int .i64 ((L.length + 1 : Nat) : Int), .int .i64 0] ∧ ∃ tk', H' = (r, .row [.slice ((L ++ [(⟨0, o.wv ((L.length + 1 : Nat) : Int), 0, []⟩ : Evt)]).map encEv) tk'] 30) :: H)) := by
  refine ACalls.enter (n := 53) Try.func17 rfl rfl (Nat.le_of_ble_eq_true rfl) ?_
  refine AS.seq ?_
  refine AS.region rfl ?_
  refine AS.box rfl rfl rfl rfl rfl ?_
  intro b3
  refine AS.assign rfl rfl rfl rfl ?_
  refine AS.assign rfl rfl rfl rfl ?_
  refine AS.opsEnd ?_
  refine AS.seq ?_
  refine AS.region rfl ?_
  refine AS.load (y := encObj o) rfl rfl rfl rfl TT21.ty38 rfl rfl rfl ?_
  refine AS.allocZ rfl rfl rfl TT21.z38 rfl ?_
  intro b6
  refine AS.store rfl rfl rfl rfl rfl rfl TT21.ty38 rfl rfl ?_
  refine AS.opsEnd ?_
  refine AS.seq ?_
  refine AS.region rfl ?_
  refine AS.fieldAddr rfl rfl rfl rfl TT21.fl38_1 ?_
  refine AS.store rfl rfl rfl rfl rfl rfl TT21.ty2 rfl rfl ?_
  refine AS.opsEnd ?_
  refine AS.seq ?_
  refine AS.region rfl ?_
  refine AS.load (y := encObj (o.wv 1)) rfl rfl rfl rfl TT21.ty38 rfl rfl rfl ?_
  refine AS.callP rfl rfl rfl rfl TT21.en64 (ref_object (o.wv 1) _ ho) ?_
  refine AS.assign rfl rfl rfl rfl ?_
  refine AS.opsEnd ?_
  refine AS.seq ?_
  refine AS.seq ?_
  refine AS.region rfl ?_
  refine AS.move rfl rfl rfl rfl ?_
  refine AS.not rfl rfl rfl rfl rfl ?_
  refine AS.opsEnd ?_
  refine AS.cond rfl (fun hc0 => ?_) (fun hc0 => ?_)
  · rw [Bool.not_eq_true'] at hc0
    refine AS.seq ?_
    refine AS.region rfl ?_
    refine AS.assign rfl rfl rfl rfl ?_
    refine AS.assign rfl rfl rfl rfl ?_
    refine AS.opsEnd ?_
    refine AS.retW Try.func17 rfl (.tmp rfl (.tmp rfl (.nil))) ?_
    exact RWk.drop [_, _] rfl (.inl ⟨hc0, rfl, rfl⟩)
  · rw [Bool.not_eq_false'] at hc0
    refine AS.skip ?_
    refine AS.seq ?_
    refine AS.region rfl ?_
    refine AS.move rfl rfl rfl rfl ?_
    refine AS.fieldAddr rfl rfl rfl rfl TT21.fl38_0 ?_
    refine AS.load (y := encKey o.key) rfl rfl rfl rfl TT21.ty35 rfl rfl rfl ?_
    refine AS.callP rfl rfl rfl rfl TT21.en19 (ACalls.permP (refGet_spec r L tk o.key _ (by omega) hk) (List.perm_append_comm_assoc [_, _] [_] H)) ?_
    refine AS.move rfl rfl rfl rfl ?_
    refine AS.extract rfl rfl rfl rfl rfl ?_
    refine AS.extract rfl rfl rfl rfl rfl ?_
    refine AS.allocZ rfl rfl rfl TT21.z38 rfl ?_
    intro b8
    refine AS.store rfl rfl rfl rfl rfl rfl TT21.ty38 rfl rfl ?_
    refine AS.assign rfl rfl rfl rfl ?_
    refine AS.opsEnd ?_
    refine AS.seq ?_
    refine AS.seq ?_
    refine AS.region rfl ?_
    refine AS.move rfl rfl rfl rfl ?_
    refine AS.not rfl rfl rfl rfl rfl ?_
    refine AS.move rfl rfl rfl rfl ?_
    refine AS.splitT 25 rfl (fun g25 => ?_) (fun g25 => ?_)
    · rw [Bool.not_eq_true'] at g25
      refine AS.move rfl rfl rfl rfl ?_
      refine AS.callP rfl rfl rfl rfl TT21.en65 (ACalls.permP (refObjects_spec r L tk _ (by omega) hk) (List.perm_append_comm_assoc [_, _, _] [_] H)) ?_
      refine AS.len rfl rfl rfl rfl (by first | exact lenT_sl TT21.u48 | exact lenT_ms TT21.u48 | (rw [TT21.u48]; rfl)) rfl (lenMap _ _) ?_
      refine AS.bin rfl rfl rfl rfl rfl (BinR.geq rfl) ?_
      refine AS.pick rfl rfl rfl rfl rfl ?_
      refine AS.opsEnd ?_
      refine AS.cond rfl (fun hc1 => ?_) (fun hc1 => ?_)
      · refine AS.seq ?_
        refine AS.region rfl ?_
        refine AS.assign rfl rfl rfl rfl ?_
        refine AS.assign rfl rfl rfl rfl ?_
        refine AS.opsEnd ?_
        refine AS.retW Try.func17 rfl (.tmp rfl (.tmp rfl (.nil))) ?_
        exact RWk.drop [_, _, _] rfl (.inr (.inl ⟨hc0, Option.isSome_eq_false_iff.1 g25 |> Option.isNone_iff_eq_none.1, by simp only [decide_eq_true_eq] at hc1; omega, rfl, rfl⟩))
      · refine AS.skip ?_
        refine AS.seq ?_
        refine AS.region rfl ?_
        refine AS.move rfl rfl rfl rfl ?_
        refine AS.nilCheck rfl rfl rfl rfl rfl ?_
        refine AS.fieldAddr rfl rfl rfl rfl TT21.fl30_0 ?_
        refine AS.load rfl rfl rfl rfl TT21.ty28 rfl rfl rfl ?_
        refine AS.len rfl rfl rfl rfl (by first | exact lenT_sl TT21.u28 | exact lenT_ms TT21.u28 | (rw [TT21.u28]; rfl)) rfl (lenMap _ _) ?_
        refine AS.bin rfl rfl rfl rfl rfl (BinR.add (c := ((L.length + 1 : Nat) : Int)) (by rw [w64 (by omega) (by omega)]; omega)) ?_
        refine AS.fieldAddr rfl rfl rfl rfl TT21.fl38_1 ?_
        refine AS.store rfl rfl rfl rfl rfl rfl TT21.ty2 rfl rfl ?_
        refine AS.opsEnd ?_
        refine AS.seq ?_
        refine SA.startG TT21.mixed rfl ?_
        refine SA.rdG 0 [0] rfl (fun G env rest next => AS.move rfl rfl rfl rfl next) ?_
        refine SA.rdG 1 [] rfl (fun G env rest next => AS.buildSlice0 rfl rfl rfl TT21.sl28 next) ?_
        refine SA.rdG 2 [0] rfl (fun G env rest next => AS.move rfl rfl rfl rfl next) ?_
        refine SA.rdG 3 [40] rfl (fun G env rest next => AS.nilCheck rfl rfl rfl rfl rfl next) ?_
        refine SA.rdG 4 [41] rfl (fun G env rest next => AS.fieldAddr rfl rfl rfl rfl TT21.fl30_0 next) ?_
        refine SA.rdG 5 [42] rfl (fun G env rest next => AS.load rfl rfl rfl rfl TT21.ty28 rfl rfl rfl next) ?_
        refine SA.rdG 7 [6] rfl (fun G env rest next => AS.load (y := encObj (o.wv ((L.length + 1 : Nat) : Int))) rfl rfl rfl rfl TT21.ty38 rfl rfl rfl next) ?_
        refine SA.rdG 8 [45] rfl (fun G env rest next => AS.build rfl rfl rfl TT21.b50 rfl rfl (AS.putLe (AVLe.agg (.cons (.refl _) (.cons (.refl _) (.cons (.refl _) (.cons (.refl _) (.cons (.refl _) (.cons (.refl _) (.cons (.refl _) (.cons (.refl _) (.cons (.refl _) (.cons (.refl _) (.cons (AVLe.tok _ _) .nil)))))))))))) next)) ?_
        refine SA.rdG 9 [46] rfl (fun G env rest next => AS.buildSlice1 rfl rfl rfl TT21.sl28 rfl rfl rfl next) ?_
        refine SA.turnG (α := Tok) (val := fun tk' => .slice (L.map encEv) tk') (Hn := fun tk1 => G tk1 (L.map encEv).length 11 50 ++ _) (Φ := fun tk' => tk'.grows = true) 6 [39, 43] rfl rfl rfl rfl (fun env rest h => AS.append (xs := []) (ys := L.map encEv) rfl rfl rfl rfl rfl TT21.sl28 rfl rfl (by simp) (map_sz encEv_sz _) (map_one encEv_flat _) (by simp only [List.length_nil, List.length_map]; omega) h) (fun x => ⟨_, rfl⟩) ?_
        intro tk1 h1
        refine SA.turnG (α := Tok) (val := fun tk' => .slice ((L ++ [(⟨0, o.wv ((L.length + 1 : Nat) : Int), 0, []⟩ : Evt)]).map encEv) tk') (Hn := fun tk2 => G tk2 ((L ++ [(⟨0, o.wv ((L.length + 1 : Nat) : Int), 0, []⟩ : Evt)]).map encEv).length 11 50 ++ _) (Φ := fun tk' => tk'.grows = true) 10 [44, 47] rfl rfl rfl rfl (fun env rest h => AS.append1 (enc := encEv) (a := (⟨0, o.wv ((L.length + 1 : Nat) : Int), 0, []⟩ : Evt)) rfl rfl rfl rfl rfl TT21.sl28 h1 rfl encEv_sz encEv_flat (by omega) h) (fun x => ⟨_, rfl⟩) ?_
        intro tk2 h2
        refine SA.rdG 11 [38] rfl (fun G env rest next => AS.nilCheck rfl rfl rfl rfl rfl next) ?_
        refine SA.rdG 12 [49] rfl (fun G env rest next => AS.fieldAddr rfl rfl rfl rfl TT21.fl30_0 next) ?_
        refine SA.chg 13 [48, 50] rfl rfl rfl rfl (fun env rest next => AS.store rfl rfl rfl rfl rfl rfl TT21.ty28 rfl rfl next) ⟨trivial, ⟨trivial, ⟨trivial, ⟨trivial, ⟨trivial, ⟨trivial, ⟨trivial, ⟨trivial, ⟨trivial, ⟨trivial, ⟨trivial, ⟨trivial, ⟨trivial, trivial⟩⟩⟩⟩⟩⟩⟩⟩⟩⟩⟩⟩⟩ ?_
        refine SA.done rfl rfl rfl ?_
        refine AS.seq ?_
        refine AS.region rfl ?_
        refine AS.fieldAddr rfl rfl rfl rfl TT21.fl38_1 ?_
        refine AS.load rfl rfl rfl rfl TT21.ty2 rfl rfl rfl ?_
        refine AS.assign rfl rfl rfl rfl ?_
        refine AS.assign rfl rfl rfl rfl ?_
        refine AS.opsEnd ?_
        refine AS.retW Try.func17 rfl (.tmp rfl (.tmp rfl (.nil))) ?_
        exact RWk.permD (G _ _ _ _ ++ [_, _, _]) (.of_eq (List.append_assoc (G _ _ _ _) [_, _, _] _).symm) (.inr (.inr ⟨hc0, (fun _ => by simp only [decide_eq_false_iff_not] at hc1; omega), rfl, tk2, rfl⟩))
    · rw [Bool.not_eq_false'] at g25
      refine AS.pass rfl rfl rfl ?_
      refine AS.pass rfl rfl rfl ?_
      refine AS.pass rfl rfl rfl ?_
      refine AS.pass rfl rfl rfl ?_
      refine AS.pick rfl rfl rfl rfl rfl ?_
      refine AS.opsEnd ?_
      refine AS.condF rfl ?_
      refine AS.skip ?_
      refine AS.seq ?_
      refine AS.region rfl ?_
      refine AS.move rfl rfl rfl rfl ?_
      refine AS.nilCheck rfl rfl rfl rfl rfl ?_
      refine AS.fieldAddr rfl rfl rfl rfl TT21.fl30_0 ?_
      refine AS.load rfl rfl rfl rfl TT21.ty28 rfl rfl rfl ?_
      refine AS.len rfl rfl rfl rfl (by first | exact lenT_sl TT21.u28 | exact lenT_ms TT21.u28 | (rw [TT21.u28]; rfl)) rfl (lenMap _ _) ?_
      refine AS.bin rfl rfl rfl rfl rfl (BinR.add (c := ((L.length + 1 : Nat) : Int)) (by rw [w64 (by omega) (by omega)]; omega)) ?_
      refine AS.fieldAddr rfl rfl rfl rfl TT21.fl38_1 ?_
      refine AS.store rfl rfl rfl rfl rfl rfl TT21.ty2 rfl rfl ?_
      refine AS.opsEnd ?_
      refine AS.seq ?_
      refine SA.startG TT21.mixed rfl ?_
      refine SA.rdG 0 [0] rfl (fun G env rest next => AS.move rfl rfl rfl rfl next) ?_
      refine SA.rdG 1 [] rfl (fun G env rest next => AS.buildSlice0 rfl rfl rfl TT21.sl28 next) ?_
      refine SA.rdG 2 [0] rfl (fun G env rest next => AS.move rfl rfl rfl rfl next) ?_
      refine SA.rdG 3 [40] rfl (fun G env rest next => AS.nilCheck rfl rfl rfl rfl rfl next) ?_
      refine SA.rdG 4 [41] rfl (fun G env rest next => AS.fieldAddr rfl rfl rfl rfl TT21.fl30_0 next) ?_
      refine SA.rdG 5 [42] rfl (fun G env rest next => AS.load rfl rfl rfl rfl TT21.ty28 rfl rfl rfl next) ?_
      refine SA.rdG 7 [6] rfl (fun G env rest next => AS.load (y := encObj (o.wv ((L.length + 1 : Nat) : Int))) rfl rfl rfl rfl TT21.ty38 rfl rfl rfl next) ?_
      refine SA.rdG 8 [45] rfl (fun G env rest next => AS.build rfl rfl rfl TT21.b50 rfl rfl (AS.putLe (AVLe.agg (.cons (.refl _) (.cons (.refl _) (.cons (.refl _) (.cons (.refl _) (.cons (.refl _) (.cons (.refl _) (.cons (.refl _) (.cons (.refl _) (.cons (.refl _) (.cons (.refl _) (.cons (AVLe.tok _ _) .nil)))))))))))) next)) ?_
      refine SA.rdG 9 [46] rfl (fun G env rest next => AS.buildSlice1 rfl rfl rfl TT21.sl28 rfl rfl rfl next) ?_
      refine SA.turnG (α := Tok) (val := fun tk' => .slice (L.map encEv) tk') (Hn := fun tk1 => G tk1 (L.map encEv).length 11 50 ++ _) (Φ := fun tk' => tk'.grows = true) 6 [39, 43] rfl rfl rfl rfl (fun env rest h => AS.append (xs := []) (ys := L.map encEv) rfl rfl rfl rfl rfl TT21.sl28 rfl rfl (by simp) (map_sz encEv_sz _) (map_one encEv_flat _) (by simp only [List.length_nil, List.length_map]; omega) h) (fun x => ⟨_, rfl⟩) ?_
      intro tk1 h1
      refine SA.turnG (α := Tok) (val := fun tk' => .slice ((L ++ [(⟨0, o.wv ((L.length + 1 : Nat) : Int), 0, []⟩ : Evt)]).map encEv) tk') (Hn := fun tk2 => G tk2 ((L ++ [(⟨0, o.wv ((L.length + 1 : Nat) : Int), 0, []⟩ : Evt)]).map encEv).length 11 50 ++ _) (Φ := fun tk' => tk'.grows = true) 10 [44, 47] rfl rfl rfl rfl (fun env rest h => AS.append1 (enc := encEv) (a := (⟨0, o.wv ((L.length + 1 : Nat) : Int), 0, []⟩ : Evt)) rfl rfl rfl rfl rfl TT21.sl28 h1 rfl encEv_sz encEv_flat (by omega) h) (fun x => ⟨_, rfl⟩) ?_
      intro tk2 h2
      refine SA.rdG 11 [38] rfl (fun G env rest next => AS.nilCheck rfl rfl rfl rfl rfl next) ?_
      refine SA.rdG 12 [49] rfl (fun G env rest next => AS.fieldAddr rfl rfl rfl rfl TT21.fl30_0 next) ?_
      refine SA.chg 13 [48, 50] rfl rfl rfl rfl (fun env rest next => AS.store rfl rfl rfl rfl rfl rfl TT21.ty28 rfl rfl next) ⟨trivial, ⟨trivial, ⟨trivial, ⟨trivial, ⟨trivial, ⟨trivial, ⟨trivial, ⟨trivial, ⟨trivial, ⟨trivial, ⟨trivial, ⟨trivial, ⟨trivial, trivial⟩⟩⟩⟩⟩⟩⟩⟩⟩⟩⟩⟩⟩ ?_
      refine SA.done rfl rfl rfl ?_
      refine AS.seq ?_
      refine AS.region rfl ?_
      refine AS.fieldAddr rfl rfl rfl rfl TT21.fl38_1 ?_
      refine AS.load rfl rfl rfl rfl TT21.ty2 rfl rfl rfl ?_
      refine AS.assign rfl rfl rfl rfl ?_
      refine AS.assign rfl rfl rfl rfl ?_
      refine AS.opsEnd ?_
      refine AS.retW Try.func17 rfl (.tmp rfl (.tmp rfl (.nil))) ?_
      exact RWk.permD (G _ _ _ _ ++ [_, _, _]) (.of_eq (List.append_assoc (G _ _ _ _) [_, _, _] _).symm) (.inr (.inr ⟨hc0, (fun hq => by rw [hq] at g25; cases g25), rfl, tk2, rfl⟩))
end Go.Proofs.Ytncecheccihjoaa
/- T22 -/
namespace Go.Proofs.Ytncecheccihjoaa.TT22
open Go Go.Proofs.Fw Go.Shelf
theorem b38 : bldI Go.Proofs.Try.prog 38 = some ([(.str ⟨#[]⟩), (.str ⟨#[]⟩), (.str ⟨#[]⟩), (.int .i64 0), (.str ⟨#[]⟩), (.bool false), (.bool false), (.slice [] .full)], [(0, 3), (3, 1), (4, 1), (5, 1), (6, 1), (7, 1)]) := by kernel_rfl
theorem b50 : bldI Go.Proofs.Try.prog 50 = some ([(.int .i64 0), (.str ⟨#[]⟩), (.str ⟨#[]⟩), (.str ⟨#[]⟩), (.int .i64 0), (.str ⟨#[]⟩), (.bool false), (.bool false), (.slice [] .full), (.int .i64 0), (.slice [] .full)], [(0, 1), (1, 8), (9, 1), (10, 1)]) := by kernel_rfl
theorem en100 : Enters Go.Proofs.Try.prog 100 := enters_of Go.Proofs.Try.func100 (by kernel_rfl) rfl
theorem en101 : Enters Go.Proofs.Try.prog 101 := enters_of Go.Proofs.Try.func101 (by kernel_rfl) rfl
theorem en102 : Enters Go.Proofs.Try.prog 102 := enters_of Go.Proofs.Try.func102 (by kernel_rfl) rfl
theorem en103 : Enters Go.Proofs.Try.prog 103 := enters_of Go.Proofs.Try.func103 (by kernel_rfl) rfl
theorem en126 : Enters Go.Proofs.Try.prog 126 := enters_of Go.Proofs.Try.func126 (by kernel_rfl) rfl
theorem en133 : Enters Go.Proofs.Try.prog 133 := enters_of Go.Proofs.Try.func133 (by kernel_rfl) rfl
theorem en146 : Enters Go.Proofs.Try.prog 146 := enters_of Go.Proofs.Try.func146 (by kernel_rfl) rfl
theorem en147 : Enters Go.Proofs.Try.prog 147 := enters_of Go.Proofs.Try.func147 (by kernel_rfl) rfl
theorem en166 : Enters Go.Proofs.Try.prog 166 := enters_of Go.Proofs.Try.func166 (by kernel_rfl) rfl
theorem en175 : Enters Go.Proofs.Try.prog 175 := enters_of Go.Proofs.Try.func175 (by kernel_rfl) rfl
theorem en19 : Enters Go.Proofs.Try.prog 19 := enters_of Go.Proofs.Try.func19 (by kernel_rfl) rfl
theorem en20 : Enters Go.Proofs.Try.prog 20 := enters_of Go.Proofs.Try.func20 (by kernel_rfl) rfl
theorem en21 : Enters Go.Proofs.Try.prog 21 := enters_of Go.Proofs.Try.func21 (by kernel_rfl) rfl
theorem en52 : Enters Go.Proofs.Try.prog 52 := enters_of Go.Proofs.Try.func52 (by kernel_rfl) rfl
theorem en61 : Enters Go.Proofs.Try.prog 61 := enters_of Go.Proofs.Try.func61 (by kernel_rfl) rfl
theorem en63 : Enters Go.Proofs.Try.prog 63 := enters_of Go.Proofs.Try.func63 (by kernel_rfl) rfl
theorem en64 : Enters Go.Proofs.Try.prog 64 := enters_of Go.Proofs.Try.func64 (by kernel_rfl) rfl
theorem en65 : Enters Go.Proofs.Try.prog 65 := enters_of Go.Proofs.Try.func65 (by kernel_rfl) rfl
theorem en66 : Enters Go.Proofs.Try.prog 66 := enters_of Go.Proofs.Try.func66 (by kernel_rfl) rfl
theorem en68 : Enters Go.Proofs.Try.prog 68 := enters_of Go.Proofs.Try.func68 (by kernel_rfl) rfl
theorem en69 : Enters Go.Proofs.Try.prog 69 := enters_of Go.Proofs.Try.func69 (by kernel_rfl) rfl
theorem en70 : Enters Go.Proofs.Try.prog 70 := enters_of Go.Proofs.Try.func70 (by kernel_rfl) rfl
theorem en71 : Enters Go.Proofs.Try.prog 71 := enters_of Go.Proofs.Try.func71 (by kernel_rfl) rfl
theorem fl106_0 : fldI Go.Proofs.Try.prog 106 0 = some 0 := by kernel_rfl
theorem fl106_1 : fldI Go.Proofs.Try.prog 106 1 = some 1 := by kernel_rfl
theorem fl106_2 : fldI Go.Proofs.Try.prog 106 2 = some 2 := by kernel_rfl
theorem fl30_0 : fldI Go.Proofs.Try.prog 30 0 = some 0 := by kernel_rfl
theorem fl38_0 : fldI Go.Proofs.Try.prog 38 0 = some 0 := by kernel_rfl
theorem fl38_1 : fldI Go.Proofs.Try.prog 38 1 = some 3 := by kernel_rfl
theorem fl38_5 : fldI Go.Proofs.Try.prog 38 5 = some 7 := by kernel_rfl
theorem fl50_0 : fldI Go.Proofs.Try.prog 50 0 = some 0 := by kernel_rfl
theorem fl50_1 : fldI Go.Proofs.Try.prog 50 1 = some 1 := by kernel_rfl
theorem fl50_2 : fldI Go.Proofs.Try.prog 50 2 = some 9 := by kernel_rfl
theorem fl50_3 : fldI Go.Proofs.Try.prog 50 3 = some 10 := by kernel_rfl
theorem mixed : Go.Proofs.Try.prog.follows .mixedOrders = true := by kernel_rfl
theorem mp104 : mapI Go.Proofs.Try.prog 104 = some (35, 38) := by kernel_rfl
theorem ps35 : plainS Go.Proofs.Try.prog 35 = true := by kernel_rfl
theorem sl28 : sliI Go.Proofs.Try.prog 28 = some (50, 11, 144) := by kernel_rfl
theorem sl36 : sliI Go.Proofs.Try.prog 36 = some (116, 2, 24) := by kernel_rfl
theorem sl48 : sliI Go.Proofs.Try.prog 48 = some (38, 8, 104) := by kernel_rfl
theorem ty104 : tyI Go.Proofs.Try.prog 104 = some (1, false) := by kernel_rfl
theorem ty2 : tyI Go.Proofs.Try.prog 2 = some (1, false) := by kernel_rfl
theorem ty28 : tyI Go.Proofs.Try.prog 28 = some (1, false) := by kernel_rfl
theorem ty35 : tyI Go.Proofs.Try.prog 35 = some (3, true) := by kernel_rfl
theorem ty36 : tyI Go.Proofs.Try.prog 36 = some (1, false) := by kernel_rfl
theorem ty38 : tyI Go.Proofs.Try.prog 38 = some (8, true) := by kernel_rfl
theorem ty47 : tyI Go.Proofs.Try.prog 47 = some (1, false) := by kernel_rfl
theorem ty48 : tyI Go.Proofs.Try.prog 48 = some (1, false) := by kernel_rfl
theorem ty50 : tyI Go.Proofs.Try.prog 50 = some (11, true) := by kernel_rfl
theorem u180 : Go.Proofs.Try.prog.underlying 180 = some (.int .u64) := by kernel_rfl
theorem u25 : Go.Proofs.Try.prog.underlying 25 = some (.pointer 106) := by kernel_rfl
theorem u28 : Go.Proofs.Try.prog.underlying 28 = some (.slice 50) := by kernel_rfl
theorem u3 : Go.Proofs.Try.prog.underlying 3 = some (.int .i64) := by kernel_rfl
theorem u35 : Go.Proofs.Try.prog.underlying 35 = some (.struct #[⟨"Kind", 9, 0, false, "", "", 0⟩, ⟨"Space", 9, 1, false, "", "", 16⟩, ⟨"Name", 9, 2, false, "", "", 32⟩]) := by kernel_rfl
theorem u36 : Go.Proofs.Try.prog.underlying 36 = some (.slice 116) := by kernel_rfl
theorem u48 : Go.Proofs.Try.prog.underlying 48 = some (.slice 38) := by kernel_rfl
theorem u50 : Go.Proofs.Try.prog.underlying 50 = some (.struct #[⟨"Kind", 47, 0, false, "", "", 0⟩, ⟨"Object", 38, 1, false, "", "", 8⟩, ⟨"Version", 2, 9, false, "", "", 112⟩, ⟨"Objects", 48, 10, false, "", "", 120⟩]) := by kernel_rfl
theorem z116 : zI Go.Proofs.Try.prog 116 = some (.agg #[(.string ⟨#[]⟩), (.int .i64 0)]) := by kernel_rfl
theorem z38 : zI Go.Proofs.Try.prog 38 = some (.agg #[(.string ⟨#[]⟩), (.string ⟨#[]⟩), (.string ⟨#[]⟩), (.int .i64 0), (.string ⟨#[]⟩), (.bool false), (.bool false), (.slice none 0 0)]) := by kernel_rfl
theorem z50 : zI Go.Proofs.Try.prog 50 = some (.agg #[(.int .i64 0), (.string ⟨#[]⟩), (.string ⟨#[]⟩), (.string ⟨#[]⟩), (.int .i64 0), (.string ⟨#[]⟩), (.bool false), (.bool false), (.slice none 0 0), (.int .i64 0), (.slice none 0 0)]) := by kernel_rfl
end Go.Proofs.Ytncecheccihjoaa.TT22
namespace Go.Proofs.Ytncecheccihjoaa
open Go Go.Proofs.Fw Go.Proofs
set_option linter.unusedVariables false
set_option linter.unusedSimpArgs false
set_option maxRecDepth 20000
set_option maxHeartbeats 4000000
theorem refDelete_spec (r : Nat) (L : List Evt) (tk : Tok) (k : Key) (H : AH) (hl : L.length ≤ 1000) (hk : ∀ e ∈ L, keyFits e.obj.key) : ACalls Try.prog [] 16 [.ptr r 0, encKey k] ((r, .row [.slice (L.map encEv) tk] 30) :: H) (fun x H' => (keyRight k = false ∧ x = .tup [.int .i64 0, .int .i64 1] ∧ H' = ((r, .row [.slice (L.map encEv) tk] 30) :: H)) ∨ (keyRight k = true ∧ findK (sortO (objsOf L)) k = none ∧ x = .tup [.int .i64 0, .int .i64 4] ∧ H' = ((r, .row [.slice (L.map encEv) tk] 30) :: H)) ∨ (keyRight k = true ∧ (findK (sortO (objsOf L)) k).isSome = true ∧ x = .tup [.int .i64 ((L.length + 1 : Nat) : Int), .int .i64 0] ∧ ∃ tk', H' = (r, .row [.slice ((L ++ [(⟨1, ⟨k, ((L.length + 1 : Nat) : Int), ⟨#[]⟩, false, false, []⟩, 0, []⟩ : Evt)]).map encEv) tk'] 30) :: H)) := by
  refine ACalls.enter (n := 44) Try.func16 rfl rfl (Nat.le_of_ble_eq_true rfl) ?_
  refine AS.seq ?_
  refine AS.region rfl ?_
  refine AS.box rfl rfl rfl rfl rfl ?_
  intro b3
  refine AS.assign rfl rfl rfl rfl ?_
  refine AS.assign rfl rfl rfl rfl ?_
  refine AS.opsEnd ?_
  refine AS.seq ?_
  refine AS.region rfl ?_
  refine AS.load (y := encKey k) rfl rfl rfl rfl TT22.ty35 rfl rfl rfl ?_
  refine AS.callP rfl rfl rfl rfl TT22.en63 (ref_key _ _) ?_
  refine AS.assign rfl rfl rfl rfl ?_
  refine AS.opsEnd ?_
  refine AS.seq ?_
  refine AS.seq ?_
  refine AS.region rfl ?_
  refine AS.move rfl rfl rfl rfl ?_
  refine AS.not rfl rfl rfl rfl rfl ?_
  refine AS.opsEnd ?_
  refine AS.cond rfl (fun hc0 => ?_) (fun hc0 => ?_)
  · rw [Bool.not_eq_true'] at hc0
    refine AS.seq ?_
    refine AS.region rfl ?_
    refine AS.assign rfl rfl rfl rfl ?_
    refine AS.assign rfl rfl rfl rfl ?_
    refine AS.opsEnd ?_
    refine AS.retW Try.func16 rfl (.tmp rfl (.tmp rfl (.nil))) ?_
    exact RWk.drop [_] rfl (.inl ⟨hc0, rfl, rfl⟩)
  · rw [Bool.not_eq_false'] at hc0
    refine AS.skip ?_
    refine AS.seq ?_
    refine AS.region rfl ?_
    refine AS.move rfl rfl rfl rfl ?_
    refine AS.load (y := encKey k) rfl rfl rfl rfl TT22.ty35 rfl rfl rfl ?_
    refine AS.callP rfl rfl rfl rfl TT22.en19 (ACalls.permP (refGet_spec r L tk k _ (by omega) hk) (List.perm_append_comm_assoc [_] [_] H)) ?_
    refine AS.move rfl rfl rfl rfl ?_
    refine AS.extract rfl rfl rfl rfl rfl ?_
    refine AS.extract rfl rfl rfl rfl rfl ?_
    refine AS.allocZ rfl rfl rfl TT22.z38 rfl ?_
    intro b7
    refine AS.store rfl rfl rfl rfl rfl rfl TT22.ty38 rfl rfl ?_
    refine AS.assign rfl rfl rfl rfl ?_
    refine AS.opsEnd ?_
    refine AS.seq ?_
    refine AS.seq ?_
    refine AS.region rfl ?_
    refine AS.move rfl rfl rfl rfl ?_
    refine AS.not rfl rfl rfl rfl rfl ?_
    refine AS.opsEnd ?_
    refine AS.cond rfl (fun hc1 => ?_) (fun hc1 => ?_)
    · rw [Bool.not_eq_true'] at hc1
      refine AS.seq ?_
      refine AS.region rfl ?_
      refine AS.assign rfl rfl rfl rfl ?_
      refine AS.assign rfl rfl rfl rfl ?_
      refine AS.opsEnd ?_
      refine AS.retW Try.func16 rfl (.tmp rfl (.tmp rfl (.nil))) ?_
      exact RWk.drop [_, _] rfl (.inr (.inl ⟨hc0, Option.isSome_eq_false_iff.1 hc1 |> Option.isNone_iff_eq_none.1, rfl, rfl⟩))
    · rw [Bool.not_eq_false'] at hc1
      refine AS.skip ?_
      refine AS.seq ?_
      refine AS.region rfl ?_
      refine AS.move rfl rfl rfl rfl ?_
      refine AS.nilCheck rfl rfl rfl rfl rfl ?_
      refine AS.fieldAddr rfl rfl rfl rfl TT22.fl30_0 ?_
      refine AS.load rfl rfl rfl rfl TT22.ty28 rfl rfl rfl ?_
      refine AS.len rfl rfl rfl rfl (by first | exact lenT_sl TT22.u28 | exact lenT_ms TT22.u28 | (rw [TT22.u28]; rfl)) rfl (lenMap _ _) ?_
      refine AS.bin rfl rfl rfl rfl rfl (BinR.add (c := ((L.length + 1 : Nat) : Int)) (by rw [w64 (by omega) (by omega)]; omega)) ?_
      refine AS.assign rfl rfl rfl rfl ?_
      refine AS.opsEnd ?_
      refine AS.seq ?_
      refine SA.startG TT22.mixed rfl ?_
      refine SA.rdG 0 [0] rfl (fun G env rest next => AS.move rfl rfl rfl rfl next) ?_
      refine SA.rdG 1 [] rfl (fun G env rest next => AS.buildSlice0 rfl rfl rfl TT22.sl28 next) ?_
      refine SA.rdG 2 [0] rfl (fun G env rest next => AS.move rfl rfl rfl rfl next) ?_
      refine SA.rdG 3 [30] rfl (fun G env rest next => AS.nilCheck rfl rfl rfl rfl rfl next) ?_
      refine SA.rdG 4 [31] rfl (fun G env rest next => AS.fieldAddr rfl rfl rfl rfl TT22.fl30_0 next) ?_
      refine SA.rdG 5 [32] rfl (fun G env rest next => AS.load rfl rfl rfl rfl TT22.ty28 rfl rfl rfl next) ?_
      refine SA.rdG 7 [3] rfl (fun G env rest next => AS.load (y := encKey k) rfl rfl rfl rfl TT22.ty35 rfl rfl rfl next) ?_
      refine SA.rdG 8 [9] rfl (fun G env rest next => AS.move rfl rfl rfl rfl next) ?_
      refine SA.rdG 9 [35, 36] rfl (fun G env rest next => AS.build rfl rfl rfl TT22.b38 rfl rfl next) ?_
      refine SA.rdG 10 [37] rfl (fun G env rest next => AS.build rfl rfl rfl TT22.b50 rfl rfl (AS.putLe (AVLe.agg (.cons (.refl _) (.cons (.refl _) (.cons (.refl _) (.cons (.refl _) (.cons (.refl _) (.cons (.refl _) (.cons (.refl _) (.cons (.refl _) (.cons (AVLe.tok _ _) (.cons (.refl _) (.cons (AVLe.tok _ _) .nil)))))))))))) next)) ?_
      refine SA.rdG 11 [38] rfl (fun G env rest next => AS.buildSlice1 rfl rfl rfl TT22.sl28 rfl rfl rfl next) ?_
      refine SA.turnG (α := Tok) (val := fun tk' => .slice (L.map encEv) tk') (Hn := fun tk1 => G tk1 (L.map encEv).length 11 50 ++ _) (Φ := fun tk' => tk'.grows = true) 6 [29, 33] rfl rfl rfl rfl (fun env rest h => AS.append (xs := []) (ys := L.map encEv) rfl rfl rfl rfl rfl TT22.sl28 rfl rfl (by simp) (map_sz encEv_sz _) (map_one encEv_flat _) (by simp only [List.length_nil, List.length_map]; omega) h) (fun x => ⟨_, rfl⟩) ?_
      intro tk1 h1
      refine SA.turnG (α := Tok) (val := fun tk' => .slice ((L ++ [(⟨1, ⟨k, ((L.length + 1 : Nat) : Int), ⟨#[]⟩, false, false, []⟩, 0, []⟩ : Evt)]).map encEv) tk') (Hn := fun tk2 => G tk2 ((L ++ [(⟨1, ⟨k, ((L.length + 1 : Nat) : Int), ⟨#[]⟩, false, false, []⟩, 0, []⟩ : Evt)]).map encEv).length 11 50 ++ _) (Φ := fun tk' => tk'.grows = true) 12 [34, 39] rfl rfl rfl rfl (fun env rest h => AS.append1 (enc := encEv) (a := (⟨1, ⟨k, ((L.length + 1 : Nat) : Int), ⟨#[]⟩, false, false, []⟩, 0, []⟩ : Evt)) rfl rfl rfl rfl rfl TT22.sl28 h1 rfl encEv_sz encEv_flat (by omega) h) (fun x => ⟨_, rfl⟩) ?_
      intro tk2 h2
      refine SA.rdG 13 [28] rfl (fun G env rest next => AS.nilCheck rfl rfl rfl rfl rfl next) ?_
      refine SA.rdG 14 [41] rfl (fun G env rest next => AS.fieldAddr rfl rfl rfl rfl TT22.fl30_0 next) ?_
      refine SA.chg 15 [40, 42] rfl rfl rfl rfl (fun env rest next => AS.store rfl rfl rfl rfl rfl rfl TT22.ty28 rfl rfl next) ⟨trivial, ⟨trivial, ⟨trivial, ⟨trivial, ⟨trivial, ⟨trivial, ⟨trivial, ⟨trivial, ⟨trivial, ⟨trivial, ⟨trivial, ⟨trivial, ⟨trivial, ⟨trivial, ⟨trivial, trivial⟩⟩⟩⟩⟩⟩⟩⟩⟩⟩⟩⟩⟩⟩⟩ ?_
      refine SA.done rfl rfl rfl ?_
      refine AS.seq ?_
      refine AS.region rfl ?_
      refine AS.move rfl rfl rfl rfl ?_
      refine AS.assign rfl rfl rfl rfl ?_
      refine AS.assign rfl rfl rfl rfl ?_
      refine AS.opsEnd ?_
      refine AS.retW Try.func16 rfl (.tmp rfl (.tmp rfl (.nil))) ?_
      exact RWk.permD (G _ _ _ _ ++ [_, _]) (.of_eq (List.append_assoc (G _ _ _ _) [_, _] _).symm) (.inr (.inr ⟨hc0, hc1, rfl, tk2, rfl⟩))
end Go.Proofs.Ytncecheccihjoaa
/- T23 -/
namespace Go.Proofs.Ytncecheccihjoaa.TT23
open Go Go.Proofs.Fw Go.Shelf
theorem b106 : bldI Go.Proofs.Try.prog 106 = some ([.nilmap, (.int .i64 0), (.slice [] .full)], [(0, 1), (1, 1), (2, 1)]) := by kernel_rfl
theorem b38 : bldI Go.Proofs.Try.prog 38 = some ([(.str ⟨#[]⟩), (.str ⟨#[]⟩), (.str ⟨#[]⟩), (.int .i64 0), (.str ⟨#[]⟩), (.bool false), (.bool false), (.slice [] .full)], [(0, 3), (3, 1), (4, 1), (5, 1), (6, 1), (7, 1)]) := by kernel_rfl
theorem b50 : bldI Go.Proofs.Try.prog 50 = some ([(.int .i64 0), (.str ⟨#[]⟩), (.str ⟨#[]⟩), (.str ⟨#[]⟩), (.int .i64 0), (.str ⟨#[]⟩), (.bool false), (.bool false), (.slice [] .full), (.int .i64 0), (.slice [] .full)], [(0, 1), (1, 8), (9, 1), (10, 1)]) := by kernel_rfl
theorem en100 : Enters Go.Proofs.Try.prog 100 := enters_of Go.Proofs.Try.func100 (by kernel_rfl) rfl
theorem en101 : Enters Go.Proofs.Try.prog 101 := enters_of Go.Proofs.Try.func101 (by kernel_rfl) rfl
theorem en102 : Enters Go.Proofs.Try.prog 102 := enters_of Go.Proofs.Try.func102 (by kernel_rfl) rfl
theorem en103 : Enters Go.Proofs.Try.prog 103 := enters_of Go.Proofs.Try.func103 (by kernel_rfl) rfl
theorem en126 : Enters Go.Proofs.Try.prog 126 := enters_of Go.Proofs.Try.func126 (by kernel_rfl) rfl
theorem en133 : Enters Go.Proofs.Try.prog 133 := enters_of Go.Proofs.Try.func133 (by kernel_rfl) rfl
theorem en146 : Enters Go.Proofs.Try.prog 146 := enters_of Go.Proofs.Try.func146 (by kernel_rfl) rfl
theorem en147 : Enters Go.Proofs.Try.prog 147 := enters_of Go.Proofs.Try.func147 (by kernel_rfl) rfl
theorem en166 : Enters Go.Proofs.Try.prog 166 := enters_of Go.Proofs.Try.func166 (by kernel_rfl) rfl
theorem en175 : Enters Go.Proofs.Try.prog 175 := enters_of Go.Proofs.Try.func175 (by kernel_rfl) rfl
theorem en19 : Enters Go.Proofs.Try.prog 19 := enters_of Go.Proofs.Try.func19 (by kernel_rfl) rfl
theorem en20 : Enters Go.Proofs.Try.prog 20 := enters_of Go.Proofs.Try.func20 (by kernel_rfl) rfl
theorem en21 : Enters Go.Proofs.Try.prog 21 := enters_of Go.Proofs.Try.func21 (by kernel_rfl) rfl
theorem en52 : Enters Go.Proofs.Try.prog 52 := enters_of Go.Proofs.Try.func52 (by kernel_rfl) rfl
theorem en61 : Enters Go.Proofs.Try.prog 61 := enters_of Go.Proofs.Try.func61 (by kernel_rfl) rfl
theorem en63 : Enters Go.Proofs.Try.prog 63 := enters_of Go.Proofs.Try.func63 (by kernel_rfl) rfl
theorem en64 : Enters Go.Proofs.Try.prog 64 := enters_of Go.Proofs.Try.func64 (by kernel_rfl) rfl
theorem en65 : Enters Go.Proofs.Try.prog 65 := enters_of Go.Proofs.Try.func65 (by kernel_rfl) rfl
theorem en66 : Enters Go.Proofs.Try.prog 66 := enters_of Go.Proofs.Try.func66 (by kernel_rfl) rfl
theorem en68 : Enters Go.Proofs.Try.prog 68 := enters_of Go.Proofs.Try.func68 (by kernel_rfl) rfl
theorem en69 : Enters Go.Proofs.Try.prog 69 := enters_of Go.Proofs.Try.func69 (by kernel_rfl) rfl
theorem en70 : Enters Go.Proofs.Try.prog 70 := enters_of Go.Proofs.Try.func70 (by kernel_rfl) rfl
theorem en71 : Enters Go.Proofs.Try.prog 71 := enters_of Go.Proofs.Try.func71 (by kernel_rfl) rfl
theorem fl106_0 : fldI Go.Proofs.Try.prog 106 0 = some 0 := by kernel_rfl
theorem fl106_1 : fldI Go.Proofs.Try.prog 106 1 = some 1 := by kernel_rfl
theorem fl106_2 : fldI Go.Proofs.Try.prog 106 2 = some 2 := by kernel_rfl
theorem fl30_0 : fldI Go.Proofs.Try.prog 30 0 = some 0 := by kernel_rfl
theorem fl38_0 : fldI Go.Proofs.Try.prog 38 0 = some 0 := by kernel_rfl
theorem fl38_1 : fldI Go.Proofs.Try.prog 38 1 = some 3 := by kernel_rfl
theorem fl38_5 : fldI Go.Proofs.Try.prog 38 5 = some 7 := by kernel_rfl
theorem fl50_0 : fldI Go.Proofs.Try.prog 50 0 = some 0 := by kernel_rfl
theorem fl50_1 : fldI Go.Proofs.Try.prog 50 1 = some 1 := by kernel_rfl
theorem fl50_2 : fldI Go.Proofs.Try.prog 50 2 = some 9 := by kernel_rfl
theorem fl50_3 : fldI Go.Proofs.Try.prog 50 3 = some 10 := by kernel_rfl
theorem mixed : Go.Proofs.Try.prog.follows .mixedOrders = true := by kernel_rfl
theorem mp104 : mapI Go.Proofs.Try.prog 104 = some (35, 38) := by kernel_rfl
theorem ps35 : plainS Go.Proofs.Try.prog 35 = true := by kernel_rfl
theorem sl28 : sliI Go.Proofs.Try.prog 28 = some (50, 11, 144) := by kernel_rfl
theorem sl36 : sliI Go.Proofs.Try.prog 36 = some (116, 2, 24) := by kernel_rfl
theorem sl48 : sliI Go.Proofs.Try.prog 48 = some (38, 8, 104) := by kernel_rfl
theorem ty104 : tyI Go.Proofs.Try.prog 104 = some (1, false) := by kernel_rfl
theorem ty2 : tyI Go.Proofs.Try.prog 2 = some (1, false) := by kernel_rfl
theorem ty28 : tyI Go.Proofs.Try.prog 28 = some (1, false) := by kernel_rfl
theorem ty35 : tyI Go.Proofs.Try.prog 35 = some (3, true) := by kernel_rfl
theorem ty36 : tyI Go.Proofs.Try.prog 36 = some (1, false) := by kernel_rfl
theorem ty38 : tyI Go.Proofs.Try.prog 38 = some (8, true) := by kernel_rfl
theorem ty47 : tyI Go.Proofs.Try.prog 47 = some (1, false) := by kernel_rfl
theorem ty48 : tyI Go.Proofs.Try.prog 48 = some (1, false) := by kernel_rfl
theorem ty50 : tyI Go.Proofs.Try.prog 50 = some (11, true) := by kernel_rfl
theorem u180 : Go.Proofs.Try.prog.underlying 180 = some (.int .u64) := by kernel_rfl
theorem u25 : Go.Proofs.Try.prog.underlying 25 = some (.pointer 106) := by kernel_rfl
theorem u28 : Go.Proofs.Try.prog.underlying 28 = some (.slice 50) := by kernel_rfl
theorem u3 : Go.Proofs.Try.prog.underlying 3 = some (.int .i64) := by kernel_rfl
theorem u35 : Go.Proofs.Try.prog.underlying 35 = some (.struct #[⟨"Kind", 9, 0, false, "", "", 0⟩, ⟨"Space", 9, 1, false, "", "", 16⟩, ⟨"Name", 9, 2, false, "", "", 32⟩]) := by kernel_rfl
theorem u36 : Go.Proofs.Try.prog.underlying 36 = some (.slice 116) := by kernel_rfl
theorem u48 : Go.Proofs.Try.prog.underlying 48 = some (.slice 38) := by kernel_rfl
theorem u50 : Go.Proofs.Try.prog.underlying 50 = some (.struct #[⟨"Kind", 47, 0, false, "", "", 0⟩, ⟨"Object", 38, 1, false, "", "", 8⟩, ⟨"Version", 2, 9, false, "", "", 112⟩, ⟨"Objects", 48, 10, false, "", "", 120⟩]) := by kernel_rfl
theorem z116 : zI Go.Proofs.Try.prog 116 = some (.agg #[(.string ⟨#[]⟩), (.int .i64 0)]) := by kernel_rfl
theorem z38 : zI Go.Proofs.Try.prog 38 = some (.agg #[(.string ⟨#[]⟩), (.string ⟨#[]⟩), (.string ⟨#[]⟩), (.int .i64 0), (.string ⟨#[]⟩), (.bool false), (.bool false), (.slice none 0 0)]) := by kernel_rfl
theorem z50 : zI Go.Proofs.Try.prog 50 = some (.agg #[(.int .i64 0), (.string ⟨#[]⟩), (.string ⟨#[]⟩), (.string ⟨#[]⟩), (.int .i64 0), (.string ⟨#[]⟩), (.bool false), (.bool false), (.slice none 0 0), (.int .i64 0), (.slice none 0 0)]) := by kernel_rfl
end Go.Proofs.Ytncecheccihjoaa.TT23
namespace Go.Proofs.Ytncecheccihjoaa
open Go Go.Proofs.Fw Go.Proofs
set_option linter.unusedVariables false
set_option linter.unusedSimpArgs false
set_option maxRecDepth 20000
set_option maxHeartbeats 4000000
theorem new_spec (H : AH) : ACalls Try.prog [] 14 [] H (fun x H' => ∃ s m, x = .ptr s 0 ∧ H' = stH s m 0 [] [] .full H) := by
  refine ACalls.enter (n := 4) Try.func14 rfl rfl (Nat.le_of_ble_eq_true rfl) ?_
  refine AS.seq ?_
  refine AS.region rfl ?_
  refine AS.assign rfl rfl rfl rfl ?_
  refine AS.opsEnd ?_
  refine AS.seq ?_
  refine AS.region rfl ?_
  refine AS.makeMap rfl rfl rfl ?_
  intro b1
  refine AS.build rfl rfl rfl TT23.b106 rfl rfl ?_
  refine AS.box rfl rfl rfl rfl rfl ?_
  intro b3
  refine AS.assign rfl rfl rfl rfl ?_
  refine AS.opsEnd ?_
  refine AS.retW Try.func14 rfl (.tmp rfl (.nil)) ?_
  exact RWk.drop [] rfl ⟨_, _, rfl, rfl⟩
theorem put_nil (o : Object) (H : AH) : ACalls Try.prog [] 27 [.nilp, encObj o] H (fun x H' => x = .tup [.int .i64 0, .int .i64 1] ∧ H' = H) := by
  refine ACalls.enter (n := 39) Try.func27 rfl rfl (Nat.le_of_ble_eq_true rfl) ?_
  refine AS.seq ?_
  refine AS.region rfl ?_
  refine AS.box rfl rfl rfl rfl rfl ?_
  intro b3
  refine AS.assign rfl rfl rfl rfl ?_
  refine AS.assign rfl rfl rfl rfl ?_
  refine AS.opsEnd ?_
  refine AS.seq ?_
  refine AS.region rfl ?_
  refine AS.fieldAddr rfl rfl rfl rfl TT23.fl38_1 ?_
  refine AS.store rfl rfl rfl rfl rfl rfl TT23.ty2 rfl rfl ?_
  refine AS.opsEnd ?_
  refine AS.seq ?_
  refine AS.seq ?_
  refine AS.region rfl ?_
  refine AS.move rfl rfl rfl rfl ?_
  refine AS.bin rfl rfl rfl rfl rfl (BinR.nilnil TT23.u25) ?_
  refine AS.move rfl rfl rfl rfl ?_
  refine AS.pass rfl rfl rfl ?_
  refine AS.pass rfl rfl rfl ?_
  refine AS.pass rfl rfl rfl ?_
  refine AS.pick rfl rfl rfl rfl rfl ?_
  refine AS.opsEnd ?_
  refine AS.condT rfl ?_
  refine AS.seq ?_
  refine AS.region rfl ?_
  refine AS.assign rfl rfl rfl rfl ?_
  refine AS.assign rfl rfl rfl rfl ?_
  refine AS.opsEnd ?_
  refine AS.retW Try.func27 rfl (.tmp rfl (.tmp rfl (.nil))) ?_
  refine RWk.drop [_] rfl ⟨?_, rfl⟩
  rfl
theorem delete_nil (k : Key) (H : AH) : ACalls Try.prog [] 28 [.nilp, encKey k] H (fun x H' => x = .tup [.int .i64 0, .int .i64 1] ∧ H' = H) := by
  refine ACalls.enter (n := 35) Try.func28 rfl rfl (Nat.le_of_ble_eq_true rfl) ?_
  refine AS.seq ?_
  refine AS.region rfl ?_
  refine AS.box rfl rfl rfl rfl rfl ?_
  intro b3
  refine AS.assign rfl rfl rfl rfl ?_
  refine AS.assign rfl rfl rfl rfl ?_
  refine AS.opsEnd ?_
  refine AS.seq ?_
  refine AS.seq ?_
  refine AS.region rfl ?_
  refine AS.move rfl rfl rfl rfl ?_
  refine AS.bin rfl rfl rfl rfl rfl (BinR.nilnil TT23.u25) ?_
  refine AS.move rfl rfl rfl rfl ?_
  refine AS.pass rfl rfl rfl ?_
  refine AS.pass rfl rfl rfl ?_
  refine AS.pass rfl rfl rfl ?_
  refine AS.pick rfl rfl rfl rfl rfl ?_
  refine AS.opsEnd ?_
  refine AS.condT rfl ?_
  refine AS.seq ?_
  refine AS.region rfl ?_
  refine AS.assign rfl rfl rfl rfl ?_
  refine AS.assign rfl rfl rfl rfl ?_
  refine AS.opsEnd ?_
  refine AS.retW Try.func28 rfl (.tmp rfl (.tmp rfl (.nil))) ?_
  refine RWk.drop [_] rfl ⟨?_, rfl⟩
  rfl
theorem version_nil (H : AH) : ACalls Try.prog [] 24 [.nilp] H (fun x H' => x = .int .i64 0 ∧ H' = H) := by
  refine ACalls.enter (n := 9) Try.func24 rfl rfl (Nat.le_of_ble_eq_true rfl) ?_
  refine AS.seq ?_
  refine AS.region rfl ?_
  refine AS.assign rfl rfl rfl rfl ?_
  refine AS.opsEnd ?_
  refine AS.seq ?_
  refine AS.seq ?_
  refine AS.region rfl ?_
  refine AS.move rfl rfl rfl rfl ?_
  refine AS.bin rfl rfl rfl rfl rfl (BinR.nilnil TT23.u25) ?_
  refine AS.opsEnd ?_
  refine AS.condT rfl ?_
  refine AS.seq ?_
  refine AS.region rfl ?_
  refine AS.assign rfl rfl rfl rfl ?_
  refine AS.opsEnd ?_
  refine AS.retW Try.func24 rfl (.tmp rfl (.nil)) ?_
  refine RWk.drop [] rfl ⟨?_, rfl⟩
  rfl
theorem log_nil (H : AH) : ACalls Try.prog [] 26 [.nilp] H (fun x H' => x = .slice (([] : List Evt).map encEv) .any ∧ H' = H) := by
  refine ACalls.enter (n := 24) Try.func26 rfl rfl (Nat.le_of_ble_eq_true rfl) ?_
  refine AS.seq ?_
  refine AS.region rfl ?_
  refine AS.assign rfl rfl rfl rfl ?_
  refine AS.opsEnd ?_
  refine AS.seq ?_
  refine AS.seq ?_
  refine AS.region rfl ?_
  refine AS.move rfl rfl rfl rfl ?_
  refine AS.bin rfl rfl rfl rfl rfl (BinR.nilnil TT23.u25) ?_
  refine AS.opsEnd ?_
  refine AS.condT rfl ?_
  refine AS.seq ?_
  refine AS.region rfl ?_
  refine AS.assign rfl rfl rfl rfl ?_
  refine AS.opsEnd ?_
  refine AS.retW Try.func26 rfl (.tmp rfl (.nil)) ?_
  exact ⟨_, _, Wk.le (AVLe.tok _ _), rfl, rfl⟩
theorem get_nil (k : Key) (H : AH) : ACalls Try.prog [] 18 [.nilp, encKey k] H (fun x H' => x = .tup [encObj noObj, .bool false] ∧ H' = H) := by
  refine ACalls.enter (n := 23) Try.func18 rfl rfl (Nat.le_of_ble_eq_true rfl) ?_
  refine AS.seq ?_
  refine AS.region rfl ?_
  refine AS.box rfl rfl rfl rfl rfl ?_
  intro b3
  refine AS.allocZ rfl rfl rfl TT23.z38 rfl ?_
  intro b4
  refine AS.assign rfl rfl rfl rfl ?_
  refine AS.opsEnd ?_
  refine AS.seq ?_
  refine AS.seq ?_
  refine AS.region rfl ?_
  refine AS.move rfl rfl rfl rfl ?_
  refine AS.bin rfl rfl rfl rfl rfl (BinR.nilnil TT23.u25) ?_
  refine AS.opsEnd ?_
  refine AS.condT rfl ?_
  refine AS.seq ?_
  refine AS.region rfl ?_
  refine AS.build rfl rfl rfl TT23.b38 rfl rfl ?_
  refine AS.store rfl rfl rfl rfl rfl rfl TT23.ty38 rfl rfl ?_
  refine AS.assign rfl rfl rfl rfl ?_
  refine AS.opsEnd ?_
  refine AS.retW Try.func18 rfl (.cell rfl TT23.ty38 rfl rfl rfl (.tmp rfl (.nil))) ?_
  refine ⟨_, _, (Wk.le (AVLe.tup (.cons (AVLe.agg (.cons (.refl _) (.cons (.refl _) (.cons (.refl _) (.cons (.refl _) (.cons (.refl _) (.cons (.refl _) (.cons (.refl _) (.cons (AVLe.tok _ _) .nil))))))))) (.cons (.refl _) .nil)))).trans (Wk.dropL [_, _]), rfl, rfl⟩
theorem snapshot_nil (H : AH) : ACalls Try.prog [] 22 [.nilp] H (fun x H' => x = encEv (⟨0, noObj, 0, []⟩ : Evt) ∧ H' = H) := by
  refine ACalls.enter (n := 29) Try.func22 rfl rfl (Nat.le_of_ble_eq_true rfl) ?_
  refine AS.seq ?_
  refine AS.region rfl ?_
  refine AS.allocZ rfl rfl rfl TT23.z50 rfl ?_
  intro b2
  refine AS.opsEnd ?_
  refine AS.seq ?_
  refine AS.seq ?_
  refine AS.region rfl ?_
  refine AS.move rfl rfl rfl rfl ?_
  refine AS.bin rfl rfl rfl rfl rfl (BinR.nilnil TT23.u25) ?_
  refine AS.opsEnd ?_
  refine AS.condT rfl ?_
  refine AS.seq ?_
  refine AS.region rfl ?_
  refine AS.build rfl rfl rfl TT23.b50 rfl rfl ?_
  refine AS.store rfl rfl rfl rfl rfl rfl TT23.ty50 rfl rfl ?_
  refine AS.opsEnd ?_
  refine AS.retW Try.func22 rfl (.cell rfl TT23.ty50 rfl rfl rfl (.nil)) ?_
  refine ⟨_, _, (Wk.le (AVLe.agg (.cons (.refl _) (.cons (.refl _) (.cons (.refl _) (.cons (.refl _) (.cons (.refl _) (.cons (.refl _) (.cons (.refl _) (.cons (.refl _) (.cons (AVLe.tok _ _) (.cons (.refl _) (.cons (AVLe.tok _ _) .nil))))))))))))).trans (Wk.dropL [_]), rfl, rfl⟩
end Go.Proofs.Ytncecheccihjoaa
/- T24 -/
namespace Go.Proofs.Ytncecheccihjoaa.TT24
open Go Go.Proofs.Fw Go.Shelf
theorem b106 : bldI Go.Proofs.Try.prog 106 = some ([.nilmap, (.int .i64 0), (.slice [] .full)], [(0, 1), (1, 1), (2, 1)]) := by kernel_rfl
theorem b38 : bldI Go.Proofs.Try.prog 38 = some ([(.str ⟨#[]⟩), (.str ⟨#[]⟩), (.str ⟨#[]⟩), (.int .i64 0), (.str ⟨#[]⟩), (.bool false), (.bool false), (.slice [] .full)], [(0, 3), (3, 1), (4, 1), (5, 1), (6, 1), (7, 1)]) := by kernel_rfl
theorem b50 : bldI Go.Proofs.Try.prog 50 = some ([(.int .i64 0), (.str ⟨#[]⟩), (.str ⟨#[]⟩), (.str ⟨#[]⟩), (.int .i64 0), (.str ⟨#[]⟩), (.bool false), (.bool false), (.slice [] .full), (.int .i64 0), (.slice [] .full)], [(0, 1), (1, 8), (9, 1), (10, 1)]) := by kernel_rfl
theorem en100 : Enters Go.Proofs.Try.prog 100 := enters_of Go.Proofs.Try.func100 (by kernel_rfl) rfl
theorem en101 : Enters Go.Proofs.Try.prog 101 := enters_of Go.Proofs.Try.func101 (by kernel_rfl) rfl
theorem en102 : Enters Go.Proofs.Try.prog 102 := enters_of Go.Proofs.Try.func102 (by kernel_rfl) rfl
theorem en103 : Enters Go.Proofs.Try.prog 103 := enters_of Go.Proofs.Try.func103 (by kernel_rfl) rfl
theorem en126 : Enters Go.Proofs.Try.prog 126 := enters_of Go.Proofs.Try.func126 (by kernel_rfl) rfl
theorem en133 : Enters Go.Proofs.Try.prog 133 := enters_of Go.Proofs.Try.func133 (by kernel_rfl) rfl
theorem en146 : Enters Go.Proofs.Try.prog 146 := enters_of Go.Proofs.Try.func146 (by kernel_rfl) rfl
theorem en147 : Enters Go.Proofs.Try.prog 147 := enters_of Go.Proofs.Try.func147 (by kernel_rfl) rfl
theorem en166 : Enters Go.Proofs.Try.prog 166 := enters_of Go.Proofs.Try.func166 (by kernel_rfl) rfl
theorem en175 : Enters Go.Proofs.Try.prog 175 := enters_of Go.Proofs.Try.func175 (by kernel_rfl) rfl
theorem en19 : Enters Go.Proofs.Try.prog 19 := enters_of Go.Proofs.Try.func19 (by kernel_rfl) rfl
theorem en20 : Enters Go.Proofs.Try.prog 20 := enters_of Go.Proofs.Try.func20 (by kernel_rfl) rfl
theorem en21 : Enters Go.Proofs.Try.prog 21 := enters_of Go.Proofs.Try.func21 (by kernel_rfl) rfl
theorem en52 : Enters Go.Proofs.Try.prog 52 := enters_of Go.Proofs.Try.func52 (by kernel_rfl) rfl
theorem en61 : Enters Go.Proofs.Try.prog 61 := enters_of Go.Proofs.Try.func61 (by kernel_rfl) rfl
theorem en62 : Enters Go.Proofs.Try.prog 62 := enters_of Go.Proofs.Try.func62 (by kernel_rfl) rfl
theorem en63 : Enters Go.Proofs.Try.prog 63 := enters_of Go.Proofs.Try.func63 (by kernel_rfl) rfl
theorem en64 : Enters Go.Proofs.Try.prog 64 := enters_of Go.Proofs.Try.func64 (by kernel_rfl) rfl
theorem en65 : Enters Go.Proofs.Try.prog 65 := enters_of Go.Proofs.Try.func65 (by kernel_rfl) rfl
theorem en66 : Enters Go.Proofs.Try.prog 66 := enters_of Go.Proofs.Try.func66 (by kernel_rfl) rfl
theorem en68 : Enters Go.Proofs.Try.prog 68 := enters_of Go.Proofs.Try.func68 (by kernel_rfl) rfl
theorem en69 : Enters Go.Proofs.Try.prog 69 := enters_of Go.Proofs.Try.func69 (by kernel_rfl) rfl
theorem en70 : Enters Go.Proofs.Try.prog 70 := enters_of Go.Proofs.Try.func70 (by kernel_rfl) rfl
theorem en71 : Enters Go.Proofs.Try.prog 71 := enters_of Go.Proofs.Try.func71 (by kernel_rfl) rfl
theorem fl106_0 : fldI Go.Proofs.Try.prog 106 0 = some 0 := by kernel_rfl
theorem fl106_1 : fldI Go.Proofs.Try.prog 106 1 = some 1 := by kernel_rfl
theorem fl106_2 : fldI Go.Proofs.Try.prog 106 2 = some 2 := by kernel_rfl
theorem fl30_0 : fldI Go.Proofs.Try.prog 30 0 = some 0 := by kernel_rfl
theorem fl38_0 : fldI Go.Proofs.Try.prog 38 0 = some 0 := by kernel_rfl
theorem fl38_1 : fldI Go.Proofs.Try.prog 38 1 = some 3 := by kernel_rfl
theorem fl38_5 : fldI Go.Proofs.Try.prog 38 5 = some 7 := by kernel_rfl
theorem fl40_1 : fldI Go.Proofs.Try.prog 40 1 = some 1 := by kernel_rfl
theorem fl50_0 : fldI Go.Proofs.Try.prog 50 0 = some 0 := by kernel_rfl
theorem fl50_1 : fldI Go.Proofs.Try.prog 50 1 = some 1 := by kernel_rfl
theorem fl50_2 : fldI Go.Proofs.Try.prog 50 2 = some 9 := by kernel_rfl
theorem fl50_3 : fldI Go.Proofs.Try.prog 50 3 = some 10 := by kernel_rfl
theorem mixed : Go.Proofs.Try.prog.follows .mixedOrders = true := by kernel_rfl
theorem mp104 : mapI Go.Proofs.Try.prog 104 = some (35, 38) := by kernel_rfl
theorem ps35 : plainS Go.Proofs.Try.prog 35 = true := by kernel_rfl
theorem sl22 : sliI Go.Proofs.Try.prog 22 = some (40, 9, 112) := by kernel_rfl
theorem sl28 : sliI Go.Proofs.Try.prog 28 = some (50, 11, 144) := by kernel_rfl
theorem sl36 : sliI Go.Proofs.Try.prog 36 = some (116, 2, 24) := by kernel_rfl
theorem sl48 : sliI Go.Proofs.Try.prog 48 = some (38, 8, 104) := by kernel_rfl
theorem ty104 : tyI Go.Proofs.Try.prog 104 = some (1, false) := by kernel_rfl
theorem ty2 : tyI Go.Proofs.Try.prog 2 = some (1, false) := by kernel_rfl
theorem ty28 : tyI Go.Proofs.Try.prog 28 = some (1, false) := by kernel_rfl
theorem ty35 : tyI Go.Proofs.Try.prog 35 = some (3, true) := by kernel_rfl
theorem ty36 : tyI Go.Proofs.Try.prog 36 = some (1, false) := by kernel_rfl
theorem ty38 : tyI Go.Proofs.Try.prog 38 = some (8, true) := by kernel_rfl
theorem ty47 : tyI Go.Proofs.Try.prog 47 = some (1, false) := by kernel_rfl
theorem ty48 : tyI Go.Proofs.Try.prog 48 = some (1, false) := by kernel_rfl
theorem ty50 : tyI Go.Proofs.Try.prog 50 = some (11, true) := by kernel_rfl
theorem u180 : Go.Proofs.Try.prog.underlying 180 = some (.int .u64) := by kernel_rfl
theorem u22 : Go.Proofs.Try.prog.underlying 22 = some (.slice 40) := by kernel_rfl
theorem u25 : Go.Proofs.Try.prog.underlying 25 = some (.pointer 106) := by kernel_rfl
theorem u28 : Go.Proofs.Try.prog.underlying 28 = some (.slice 50) := by kernel_rfl
theorem u3 : Go.Proofs.Try.prog.underlying 3 = some (.int .i64) := by kernel_rfl
theorem u35 : Go.Proofs.Try.prog.underlying 35 = some (.struct #[⟨"Kind", 9, 0, false, "", "", 0⟩, ⟨"Space", 9, 1, false, "", "", 16⟩, ⟨"Name", 9, 2, false, "", "", 32⟩]) := by kernel_rfl
theorem u36 : Go.Proofs.Try.prog.underlying 36 = some (.slice 116) := by kernel_rfl
theorem u48 : Go.Proofs.Try.prog.underlying 48 = some (.slice 38) := by kernel_rfl
theorem u50 : Go.Proofs.Try.prog.underlying 50 = some (.struct #[⟨"Kind", 47, 0, false, "", "", 0⟩, ⟨"Object", 38, 1, false, "", "", 8⟩, ⟨"Version", 2, 9, false, "", "", 112⟩, ⟨"Objects", 48, 10, false, "", "", 120⟩]) := by kernel_rfl
theorem z116 : zI Go.Proofs.Try.prog 116 = some (.agg #[(.string ⟨#[]⟩), (.int .i64 0)]) := by kernel_rfl
theorem z38 : zI Go.Proofs.Try.prog 38 = some (.agg #[(.string ⟨#[]⟩), (.string ⟨#[]⟩), (.string ⟨#[]⟩), (.int .i64 0), (.string ⟨#[]⟩), (.bool false), (.bool false), (.slice none 0 0)]) := by kernel_rfl
theorem z50 : zI Go.Proofs.Try.prog 50 = some (.agg #[(.int .i64 0), (.string ⟨#[]⟩), (.string ⟨#[]⟩), (.string ⟨#[]⟩), (.int .i64 0), (.string ⟨#[]⟩), (.bool false), (.bool false), (.slice none 0 0), (.int .i64 0), (.slice none 0 0)]) := by kernel_rfl
end Go.Proofs.Ytncecheccihjoaa.TT24
namespace Go.Proofs.Ytncecheccihjoaa
open Go Go.Proofs.Fw Go.Proofs
set_option linter.unusedVariables false
set_option linter.unusedSimpArgs false
set_option maxRecDepth 20000
set_option maxHeartbeats 4000000
theorem fits09 (l : List Wr) (H : AH) : ACalls Try.prog [] 12 [.slice (l.map encWr) .any] H (fun x H' => x = .bool (wrsFit l) ∧ H' = H) := by
  refine ACalls.enter (n := 22) Try.func12 rfl rfl (Nat.le_of_ble_eq_true rfl) ?_
  refine AS.seq ?_
  refine AS.region rfl ?_
  refine AS.assign rfl rfl rfl rfl ?_
  refine AS.opsEnd ?_
  refine AS.seq ?_
  refine AS.seq ?_
  refine AS.region rfl ?_
  refine AS.move rfl rfl rfl rfl ?_
  refine AS.len rfl rfl rfl rfl (by first | exact lenT_sl TT24.u22 | exact lenT_ms TT24.u22 | (rw [TT24.u22]; rfl)) rfl (lenMap _ _) ?_
  refine AS.bin rfl rfl rfl rfl rfl (BinR.gtr rfl) ?_
  refine AS.opsEnd ?_
  refine AS.cond rfl (fun hc0 => ?_) (fun hc0 => ?_)
  · refine AS.seq ?_
    refine AS.region rfl ?_
    refine AS.assign rfl rfl rfl rfl ?_
    refine AS.opsEnd ?_
    refine AS.retW Try.func12 rfl (.tmp rfl (.nil)) ?_
    refine RWk.drop [] rfl ⟨?_, rfl⟩
    show AV.bool _ = AV.bool _
    (simp only [wrsFit, hc0]) <;> rfl
  · refine AS.skip ?_
    refine AS.seq ?_
    refine AS.seq ?_
    refine AS.region rfl ?_
    refine AS.assign rfl rfl rfl rfl ?_
    refine AS.opsEnd ?_
    have hl : ¬ (60 : Int) < (l.length : Int) := of_decide_eq_false hc0
    refine AS.block ?_
    refine AS.loopI (α := Nat) (fun i => i ≤ l.length ∧ ∀ j, j < i → j < l.length → wrFits l j = true) (fun i => l.length - i) (fun i => [(3, .int .i64 i)]) [(0, _)] (fun i => _) 0 ⟨Nat.zero_le _, fun i h => by omega⟩ (.cons rfl (.cons rfl (.nil))) rfl (fun i hI l0_ih => ?_)
    refine AS.seq ?_
    refine AS.seq ?_
    refine AS.region rfl ?_
    refine AS.move rfl rfl rfl rfl ?_
    refine AS.move rfl rfl rfl rfl ?_
    refine AS.len rfl rfl rfl rfl (by first | exact lenT_sl TT24.u22 | exact lenT_ms TT24.u22 | (rw [TT24.u22]; rfl)) rfl (lenMap _ _) ?_
    refine AS.bin rfl rfl rfl rfl rfl (BinR.lss rfl) ?_
    refine AS.opsEnd ?_
    refine AS.cond rfl (fun hc1 => ?_) (fun hc1 => ?_)
    · have hi : i < l.length := by simp only [decide_eq_true_eq] at hc1; omega
      obtain ⟨w, hw⟩ := getAt hi
      refine AS.skip ?_
      refine AS.seq ?_
      refine AS.block ?_
      refine AS.seq ?_
      refine AS.region rfl ?_
      refine AS.move rfl rfl rfl rfl ?_
      refine AS.move rfl rfl rfl rfl ?_
      refine AS.indexAddr rfl rfl rfl rfl rfl TT24.sl22 (Int.natCast_nonneg _) (map_get _ _ hw) rfl ?_
      refine AS.ifieldAddr rfl rfl rfl rfl TT24.fl40_1 ?_
      refine AS.iload (y := encObj w.o) rfl rfl rfl rfl TT24.ty38 rfl rfl rfl ?_
      refine AS.callP rfl rfl rfl rfl TT24.en62 (fits05 w.o _) ?_
      refine AS.assign rfl rfl rfl rfl ?_
      refine AS.opsEnd ?_
      refine AS.seq ?_
      refine AS.region rfl ?_
      refine AS.move rfl rfl rfl rfl ?_
      refine AS.not rfl rfl rfl rfl rfl ?_
      refine AS.opsEnd ?_
      refine AS.cond rfl (fun hc2 => ?_) (fun hc2 => ?_)
      · rw [Bool.not_eq_true'] at hc2
        refine AS.seq ?_
        refine AS.region rfl ?_
        refine AS.assign rfl rfl rfl rfl ?_
        refine AS.opsEnd ?_
        refine AS.retW Try.func12 rfl (.tmp rfl (.nil)) ?_
        refine RWk.drop [] rfl ⟨?_, rfl⟩
        have e3 := allR_no hi (p := wrFits l) (by simp only [wrFits, hw, hc2])
        show AV.bool _ = AV.bool _
        (simp only [wrsFit, e3, Bool.and_false]) <;> rfl
      · rw [Bool.not_eq_false'] at hc2
        refine AS.skip ?_
        refine AS.inBlock ?_
        refine AS.region rfl ?_
        refine AS.move rfl rfl rfl rfl ?_
        refine AS.bin rfl rfl rfl rfl rfl (BinR.add (w64 (by omega) (by omega))) ?_
        refine AS.assign rfl rfl rfl rfl ?_
        refine AS.opsEnd ?_
        exact AS.nextI (l0_ih (i + 1) ⟨hi, upToL hI.2 (by simp only [wrFits, hw, hc2])⟩ (by omega)) [] (.cons rfl (.cons rfl (.nil))) rfl
    · have hall := allR_yes hI.2 (by simp only [decide_eq_false_iff_not] at hc1; omega)
      refine AS.exit rfl ?_
      refine AS.seq ?_
      refine AS.region rfl ?_
      refine AS.assign rfl rfl rfl rfl ?_
      refine AS.opsEnd ?_
      refine AS.retW Try.func12 rfl (.tmp rfl (.nil)) ?_
      refine RWk.drop [] rfl ⟨?_, rfl⟩
      show AV.bool _ = AV.bool _
      (simp only [wrsFit, hall, hc0]) <;> rfl
end Go.Proofs.Ytncecheccihjoaa
/- T25 -/
namespace Go.Proofs.Ytncecheccihjoaa.TT25
open Go Go.Proofs.Fw Go.Shelf
theorem b106 : bldI Go.Proofs.Try.prog 106 = some ([.nilmap, (.int .i64 0), (.slice [] .full)], [(0, 1), (1, 1), (2, 1)]) := by kernel_rfl
theorem b38 : bldI Go.Proofs.Try.prog 38 = some ([(.str ⟨#[]⟩), (.str ⟨#[]⟩), (.str ⟨#[]⟩), (.int .i64 0), (.str ⟨#[]⟩), (.bool false), (.bool false), (.slice [] .full)], [(0, 3), (3, 1), (4, 1), (5, 1), (6, 1), (7, 1)]) := by kernel_rfl
theorem b50 : bldI Go.Proofs.Try.prog 50 = some ([(.int .i64 0), (.str ⟨#[]⟩), (.str ⟨#[]⟩), (.str ⟨#[]⟩), (.int .i64 0), (.str ⟨#[]⟩), (.bool false), (.bool false), (.slice [] .full), (.int .i64 0), (.slice [] .full)], [(0, 1), (1, 8), (9, 1), (10, 1)]) := by kernel_rfl
theorem en100 : Enters Go.Proofs.Try.prog 100 := enters_of Go.Proofs.Try.func100 (by kernel_rfl) rfl
theorem en101 : Enters Go.Proofs.Try.prog 101 := enters_of Go.Proofs.Try.func101 (by kernel_rfl) rfl
theorem en102 : Enters Go.Proofs.Try.prog 102 := enters_of Go.Proofs.Try.func102 (by kernel_rfl) rfl
theorem en103 : Enters Go.Proofs.Try.prog 103 := enters_of Go.Proofs.Try.func103 (by kernel_rfl) rfl
theorem en126 : Enters Go.Proofs.Try.prog 126 := enters_of Go.Proofs.Try.func126 (by kernel_rfl) rfl
theorem en133 : Enters Go.Proofs.Try.prog 133 := enters_of Go.Proofs.Try.func133 (by kernel_rfl) rfl
theorem en146 : Enters Go.Proofs.Try.prog 146 := enters_of Go.Proofs.Try.func146 (by kernel_rfl) rfl
theorem en147 : Enters Go.Proofs.Try.prog 147 := enters_of Go.Proofs.Try.func147 (by kernel_rfl) rfl
theorem en166 : Enters Go.Proofs.Try.prog 166 := enters_of Go.Proofs.Try.func166 (by kernel_rfl) rfl
theorem en175 : Enters Go.Proofs.Try.prog 175 := enters_of Go.Proofs.Try.func175 (by kernel_rfl) rfl
theorem en19 : Enters Go.Proofs.Try.prog 19 := enters_of Go.Proofs.Try.func19 (by kernel_rfl) rfl
theorem en20 : Enters Go.Proofs.Try.prog 20 := enters_of Go.Proofs.Try.func20 (by kernel_rfl) rfl
theorem en21 : Enters Go.Proofs.Try.prog 21 := enters_of Go.Proofs.Try.func21 (by kernel_rfl) rfl
theorem en27 : Enters Go.Proofs.Try.prog 27 := enters_of Go.Proofs.Try.func27 (by kernel_rfl) rfl
theorem en28 : Enters Go.Proofs.Try.prog 28 := enters_of Go.Proofs.Try.func28 (by kernel_rfl) rfl
theorem en52 : Enters Go.Proofs.Try.prog 52 := enters_of Go.Proofs.Try.func52 (by kernel_rfl) rfl
theorem en61 : Enters Go.Proofs.Try.prog 61 := enters_of Go.Proofs.Try.func61 (by kernel_rfl) rfl
theorem en62 : Enters Go.Proofs.Try.prog 62 := enters_of Go.Proofs.Try.func62 (by kernel_rfl) rfl
theorem en63 : Enters Go.Proofs.Try.prog 63 := enters_of Go.Proofs.Try.func63 (by kernel_rfl) rfl
theorem en64 : Enters Go.Proofs.Try.prog 64 := enters_of Go.Proofs.Try.func64 (by kernel_rfl) rfl
theorem en65 : Enters Go.Proofs.Try.prog 65 := enters_of Go.Proofs.Try.func65 (by kernel_rfl) rfl
theorem en66 : Enters Go.Proofs.Try.prog 66 := enters_of Go.Proofs.Try.func66 (by kernel_rfl) rfl
theorem en68 : Enters Go.Proofs.Try.prog 68 := enters_of Go.Proofs.Try.func68 (by kernel_rfl) rfl
theorem en69 : Enters Go.Proofs.Try.prog 69 := enters_of Go.Proofs.Try.func69 (by kernel_rfl) rfl
theorem en70 : Enters Go.Proofs.Try.prog 70 := enters_of Go.Proofs.Try.func70 (by kernel_rfl) rfl
theorem en71 : Enters Go.Proofs.Try.prog 71 := enters_of Go.Proofs.Try.func71 (by kernel_rfl) rfl
theorem fl106_0 : fldI Go.Proofs.Try.prog 106 0 = some 0 := by kernel_rfl
theorem fl106_1 : fldI Go.Proofs.Try.prog 106 1 = some 1 := by kernel_rfl
theorem fl106_2 : fldI Go.Proofs.Try.prog 106 2 = some 2 := by kernel_rfl
theorem fl30_0 : fldI Go.Proofs.Try.prog 30 0 = some 0 := by kernel_rfl
theorem fl38_0 : fldI Go.Proofs.Try.prog 38 0 = some 0 := by kernel_rfl
theorem fl38_1 : fldI Go.Proofs.Try.prog 38 1 = some 3 := by kernel_rfl
theorem fl38_5 : fldI Go.Proofs.Try.prog 38 5 = some 7 := by kernel_rfl
theorem fl40_0 : fldI Go.Proofs.Try.prog 40 0 = some 0 := by kernel_rfl
theorem fl40_1 : fldI Go.Proofs.Try.prog 40 1 = some 1 := by kernel_rfl
theorem fl50_0 : fldI Go.Proofs.Try.prog 50 0 = some 0 := by kernel_rfl
theorem fl50_1 : fldI Go.Proofs.Try.prog 50 1 = some 1 := by kernel_rfl
theorem fl50_2 : fldI Go.Proofs.Try.prog 50 2 = some 9 := by kernel_rfl
theorem fl50_3 : fldI Go.Proofs.Try.prog 50 3 = some 10 := by kernel_rfl
theorem mixed : Go.Proofs.Try.prog.follows .mixedOrders = true := by kernel_rfl
theorem mp104 : mapI Go.Proofs.Try.prog 104 = some (35, 38) := by kernel_rfl
theorem ps35 : plainS Go.Proofs.Try.prog 35 = true := by kernel_rfl
theorem sl22 : sliI Go.Proofs.Try.prog 22 = some (40, 9, 112) := by kernel_rfl
theorem sl28 : sliI Go.Proofs.Try.prog 28 = some (50, 11, 144) := by kernel_rfl
theorem sl36 : sliI Go.Proofs.Try.prog 36 = some (116, 2, 24) := by kernel_rfl
theorem sl48 : sliI Go.Proofs.Try.prog 48 = some (38, 8, 104) := by kernel_rfl
theorem ty104 : tyI Go.Proofs.Try.prog 104 = some (1, false) := by kernel_rfl
theorem ty2 : tyI Go.Proofs.Try.prog 2 = some (1, false) := by kernel_rfl
theorem ty28 : tyI Go.Proofs.Try.prog 28 = some (1, false) := by kernel_rfl
theorem ty35 : tyI Go.Proofs.Try.prog 35 = some (3, true) := by kernel_rfl
theorem ty36 : tyI Go.Proofs.Try.prog 36 = some (1, false) := by kernel_rfl
theorem ty38 : tyI Go.Proofs.Try.prog 38 = some (8, true) := by kernel_rfl
theorem ty4 : tyI Go.Proofs.Try.prog 4 = some (1, false) := by kernel_rfl
theorem ty47 : tyI Go.Proofs.Try.prog 47 = some (1, false) := by kernel_rfl
theorem ty48 : tyI Go.Proofs.Try.prog 48 = some (1, false) := by kernel_rfl
theorem ty50 : tyI Go.Proofs.Try.prog 50 = some (11, true) := by kernel_rfl
theorem u180 : Go.Proofs.Try.prog.underlying 180 = some (.int .u64) := by kernel_rfl
theorem u22 : Go.Proofs.Try.prog.underlying 22 = some (.slice 40) := by kernel_rfl
theorem u25 : Go.Proofs.Try.prog.underlying 25 = some (.pointer 106) := by kernel_rfl
theorem u28 : Go.Proofs.Try.prog.underlying 28 = some (.slice 50) := by kernel_rfl
theorem u3 : Go.Proofs.Try.prog.underlying 3 = some (.int .i64) := by kernel_rfl
theorem u35 : Go.Proofs.Try.prog.underlying 35 = some (.struct #[⟨"Kind", 9, 0, false, "", "", 0⟩, ⟨"Space", 9, 1, false, "", "", 16⟩, ⟨"Name", 9, 2, false, "", "", 32⟩]) := by kernel_rfl
theorem u36 : Go.Proofs.Try.prog.underlying 36 = some (.slice 116) := by kernel_rfl
theorem u48 : Go.Proofs.Try.prog.underlying 48 = some (.slice 38) := by kernel_rfl
theorem u50 : Go.Proofs.Try.prog.underlying 50 = some (.struct #[⟨"Kind", 47, 0, false, "", "", 0⟩, ⟨"Object", 38, 1, false, "", "", 8⟩, ⟨"Version", 2, 9, false, "", "", 112⟩, ⟨"Objects", 48, 10, false, "", "", 120⟩]) := by kernel_rfl
theorem z116 : zI Go.Proofs.Try.prog 116 = some (.agg #[(.string ⟨#[]⟩), (.int .i64 0)]) := by kernel_rfl
theorem z38 : zI Go.Proofs.Try.prog 38 = some (.agg #[(.string ⟨#[]⟩), (.string ⟨#[]⟩), (.string ⟨#[]⟩), (.int .i64 0), (.string ⟨#[]⟩), (.bool false), (.bool false), (.slice none 0 0)]) := by kernel_rfl
theorem z50 : zI Go.Proofs.Try.prog 50 = some (.agg #[(.int .i64 0), (.string ⟨#[]⟩), (.string ⟨#[]⟩), (.string ⟨#[]⟩), (.int .i64 0), (.string ⟨#[]⟩), (.bool false), (.bool false), (.slice none 0 0), (.int .i64 0), (.slice none 0 0)]) := by kernel_rfl
end Go.Proofs.Ytncecheccihjoaa.TT25
namespace Go.Proofs.Ytncecheccihjoaa
open Go Go.Proofs.Fw Go.Proofs
set_option linter.unusedVariables false
set_option linter.unusedSimpArgs false
set_option maxRecDepth 20000
set_option maxHeartbeats 4000000
theorem put_spec2 (s m : Nat) (M : List (Key × Object)) (L : List Evt) (tk : Tok) (o : Object) (H : AH) (htk : tk.grows = true) (hl : L.length ≤ 1000) (hc : o.charge.length ≤ 1000000) : ACalls Try.prog [] 27 [.ptr s 0, encObj o] (stH s m (L.length : Int) M L tk H) (fun x H' => x = .tup [.int .i64 (putR M L o).v, .int .i64 (putR M L o).e] ∧ ∃ tk', tk'.grows = true ∧ H' = stH s m ((putR M L o).L.length : Int) (putR M L o).M (putR M L o).L tk' H) := by
  refine (put_spec s m (L.length : Int) M L tk o H (by omega) htk (by omega) hc).mono ?_
  rintro x H' (⟨h1, rfl, rfl⟩ | ⟨h1, h2, h3, rfl, rfl⟩ | ⟨h1, h2, rfl, tk', h3, rfl⟩)
  · have e : putR M L o = ⟨0, 1, M, L⟩ := by unfold putR; rw [if_pos h1]
    rw [e]; exact ⟨rfl, tk, htk, rfl⟩
  · have e : putR M L o = ⟨0, 3, M, L⟩ := by unfold putR; rw [if_neg (by rw [h1]; decide), if_pos ⟨h2, h3⟩]
    rw [e]; exact ⟨rfl, tk, htk, rfl⟩
  · have e : putR M L o = ⟨(L.length : Int) + 1, 0, mset M o.key (o.wv ((L.length : Int) + 1)), L ++ [evPut o L.length]⟩ := by unfold putR; rw [if_neg (by rw [h1]; decide), if_neg (fun h => by have := h2 h.1; omega)]
    rw [e]
    refine ⟨rfl, tk', h3, ?_⟩
    show stH s m ((L.length : Int) + 1) _ _ tk' H = stH s m ((L ++ [evPut o L.length]).length : Int) _ _ tk' H
    rw [List.length_append]; rfl

theorem delete_spec2 (s m : Nat) (M : List (Key × Object)) (L : List Evt) (tk : Tok) (k : Key) (H : AH) (htk : tk.grows = true) (hl : L.length ≤ 1000) : ACalls Try.prog [] 28 [.ptr s 0, encKey k] (stH s m (L.length : Int) M L tk H) (fun x H' => x = .tup [.int .i64 (delR M L k).v, .int .i64 (delR M L k).e] ∧ ∃ tk', tk'.grows = true ∧ H' = stH s m ((delR M L k).L.length : Int) (delR M L k).M (delR M L k).L tk' H) := by
  refine (delete_spec s m (L.length : Int) M L tk k H (by omega) htk (by omega)).mono ?_
  rintro x H' (⟨h1, rfl, rfl⟩ | ⟨h1, h2, rfl, rfl⟩ | ⟨h1, h2, rfl, tk', h3, rfl⟩)
  · have e : delR M L k = ⟨0, 1, M, L⟩ := by unfold delR; rw [if_pos h1]
    rw [e]; exact ⟨rfl, tk, htk, rfl⟩
  · have e : delR M L k = ⟨0, 4, M, L⟩ := by unfold delR; rw [if_neg (by rw [h1]; decide), if_pos h2]
    rw [e]; exact ⟨rfl, tk, htk, rfl⟩
  · have e : delR M L k = ⟨(L.length : Int) + 1, 0, mdel M k, L ++ [evDel k L.length]⟩ := by unfold delR; rw [if_neg (by rw [h1]; decide), if_neg (fun h => by rw [h] at h2; cases h2)]
    rw [e]
    refine ⟨rfl, tk', h3, ?_⟩
    show stH s m ((L.length : Int) + 1) _ _ tk' H = stH s m ((L ++ [evDel k L.length]).length : Int) _ _ tk' H
    rw [List.length_append]; rfl

theorem refPut_spec2 (r : Nat) (M : List (Key × Object)) (L : List Evt) (tk : Tok) (o : Object) (H : AH) (hi : LogOk M L) (hl : L.length ≤ 1000) (ho : objFits o) : ACalls Try.prog [] 17 [.ptr r 0, encObj o] ((r, .row [.slice (L.map encEv) tk] 30) :: H) (fun x H' => x = .tup [.int .i64 (putR M L o).v, .int .i64 (putR M L o).e] ∧ ∃ tk', H' = (r, .row [.slice ((putR M L o).L.map encEv) tk'] 30) :: H) := by
  refine (refPut_spec r L tk o H hl (fun e he => (hi.fit e he).key) ho).mono ?_
  rw [← hi.inv.get o.key, hi.inv.len]
  rintro x H' (⟨h1, rfl, rfl⟩ | ⟨h1, h2, h3, rfl, rfl⟩ | ⟨h1, h2, rfl, tk', rfl⟩)
  · have e : putR M L o = ⟨0, 1, M, L⟩ := by unfold putR; rw [if_pos h1]
    rw [e]; exact ⟨rfl, tk, rfl⟩
  · have e : putR M L o = ⟨0, 3, M, L⟩ := by unfold putR; rw [if_neg (by rw [h1]; decide), if_pos ⟨h2, h3⟩]
    rw [e]; exact ⟨rfl, tk, rfl⟩
  · have e : putR M L o = ⟨(L.length : Int) + 1, 0, mset M o.key (o.wv ((L.length : Int) + 1)), L ++ [evPut o L.length]⟩ := by unfold putR; rw [if_neg (by rw [h1]; decide), if_neg (fun h => by have := h2 h.1; omega)]
    rw [e]
    exact ⟨rfl, tk', rfl⟩

theorem refDelete_spec2 (r : Nat) (M : List (Key × Object)) (L : List Evt) (tk : Tok) (k : Key) (H : AH) (hi : LogOk M L) (hl : L.length ≤ 1000) : ACalls Try.prog [] 16 [.ptr r 0, encKey k] ((r, .row [.slice (L.map encEv) tk] 30) :: H) (fun x H' => x = .tup [.int .i64 (delR M L k).v, .int .i64 (delR M L k).e] ∧ ∃ tk', H' = (r, .row [.slice ((delR M L k).L.map encEv) tk'] 30) :: H) := by
  refine (refDelete_spec r L tk k H hl (fun e he => (hi.fit e he).key)).mono ?_
  rw [← hi.inv.get k]
  rintro x H' (⟨h1, rfl, rfl⟩ | ⟨h1, h2, rfl, rfl⟩ | ⟨h1, h2, rfl, tk', rfl⟩)
  · have e : delR M L k = ⟨0, 1, M, L⟩ := by unfold delR; rw [if_pos h1]
    rw [e]; exact ⟨rfl, tk, rfl⟩
  · have e : delR M L k = ⟨0, 4, M, L⟩ := by unfold delR; rw [if_neg (by rw [h1]; decide), if_pos h2]
    rw [e]; exact ⟨rfl, tk, rfl⟩
  · have e : delR M L k = ⟨(L.length : Int) + 1, 0, mdel M k, L ++ [evDel k L.length]⟩ := by unfold delR; rw [if_neg (by rw [h1]; decide), if_neg (fun h => by rw [h] at h2; cases h2)]
    rw [e]
    exact ⟨rfl, tk', rfl⟩

theorem do_spec (s m : Nat) (M : List (Key × Object)) (L : List Evt) (tk : Tok) (w : Wr) (H : AH) (htk : tk.grows = true) (hl : L.length ≤ 1000) (hc : w.o.charge.length ≤ 1000000) : ACalls Try.prog [] 15 [.ptr s 0, encWr w] (stH s m (L.length : Int) M L tk H) (fun x H' => x = .tup [.int .i64 (doR M L w).v, .int .i64 (doR M L w).e] ∧ ∃ tk', tk'.grows = true ∧ H' = stH s m ((doR M L w).L.length : Int) (doR M L w).M (doR M L w).L tk' H) := by
  refine ACalls.enter (n := 21) Try.func15 rfl rfl (Nat.le_of_ble_eq_true rfl) ?_
  refine AS.seq ?_
  refine AS.region rfl ?_
  refine AS.box rfl rfl rfl rfl rfl ?_
  intro b3
  refine AS.assign rfl rfl rfl rfl ?_
  refine AS.assign rfl rfl rfl rfl ?_
  refine AS.opsEnd ?_
  refine AS.seq ?_
  refine AS.seq ?_
  refine AS.region rfl ?_
  refine AS.fieldAddr rfl rfl rfl rfl TT25.fl40_0 ?_
  refine AS.load rfl rfl rfl rfl TT25.ty4 rfl rfl rfl ?_
  refine AS.opsEnd ?_
  refine AS.cond rfl (fun hc0 => ?_) (fun hc0 => ?_)
  · refine AS.seq ?_
    refine AS.region rfl ?_
    refine AS.move rfl rfl rfl rfl ?_
    refine AS.fieldAddr rfl rfl rfl rfl TT25.fl40_1 ?_
    refine AS.fieldAddr rfl rfl rfl rfl TT25.fl38_0 ?_
    refine AS.load (y := encKey w.o.key) rfl rfl rfl rfl TT25.ty35 rfl rfl rfl ?_
    refine AS.permH [] (stPerm [_] s m _ M L tk H) ?_
    refine AS.call rfl rfl rfl rfl TT25.en28 (delete_spec2 s m M L tk w.o.key _ htk hl) ?_
    rintro _ _ ⟨rfl, tk', h1, rfl⟩
    refine AS.extract rfl rfl rfl rfl rfl ?_
    refine AS.extract rfl rfl rfl rfl rfl ?_
    refine AS.assign rfl rfl rfl rfl ?_
    refine AS.assign rfl rfl rfl rfl ?_
    refine AS.opsEnd ?_
    refine AS.retW Try.func15 rfl (.tmp rfl (.tmp rfl (.nil))) ?_
    have e : doR M L w = delR M L w.o.key := by unfold doR; rw [if_pos hc0]
    rw [e]
    exact RWk.permD [_] (stPerm [_] _ _ _ _ _ _ _).symm ⟨rfl, tk', h1, rfl⟩
  · refine AS.skip ?_
    refine AS.seq ?_
    refine AS.region rfl ?_
    refine AS.move rfl rfl rfl rfl ?_
    refine AS.fieldAddr rfl rfl rfl rfl TT25.fl40_1 ?_
    refine AS.load (y := encObj w.o) rfl rfl rfl rfl TT25.ty38 rfl rfl rfl ?_
    refine AS.permH [] (stPerm [_] s m _ M L tk H) ?_
    refine AS.call rfl rfl rfl rfl TT25.en27 (put_spec2 s m M L tk w.o _ htk hl hc) ?_
    rintro _ _ ⟨rfl, tk', h1, rfl⟩
    refine AS.extract rfl rfl rfl rfl rfl ?_
    refine AS.extract rfl rfl rfl rfl rfl ?_
    refine AS.assign rfl rfl rfl rfl ?_
    refine AS.assign rfl rfl rfl rfl ?_
    refine AS.opsEnd ?_
    refine AS.retW Try.func15 rfl (.tmp rfl (.tmp rfl (.nil))) ?_
    have e : doR M L w = putR M L w.o := by unfold doR; rw [if_neg (by rw [hc0]; decide)]
    rw [e]
    exact RWk.permD [_] (stPerm [_] _ _ _ _ _ _ _).symm ⟨rfl, tk', h1, rfl⟩
end Go.Proofs.Ytncecheccihjoaa
/- T26 -/
namespace Go.Proofs.Ytncecheccihjoaa.TT26
open Go Go.Proofs.Fw Go.Shelf
theorem b106 : bldI Go.Proofs.Try.prog 106 = some ([.nilmap, (.int .i64 0), (.slice [] .full)], [(0, 1), (1, 1), (2, 1)]) := by kernel_rfl
theorem b35 : bldI Go.Proofs.Try.prog 35 = some ([(.str ⟨#[]⟩), (.str ⟨#[]⟩), (.str ⟨#[]⟩)], [(0, 1), (1, 1), (2, 1)]) := by kernel_rfl
theorem b38 : bldI Go.Proofs.Try.prog 38 = some ([(.str ⟨#[]⟩), (.str ⟨#[]⟩), (.str ⟨#[]⟩), (.int .i64 0), (.str ⟨#[]⟩), (.bool false), (.bool false), (.slice [] .full)], [(0, 3), (3, 1), (4, 1), (5, 1), (6, 1), (7, 1)]) := by kernel_rfl
theorem b50 : bldI Go.Proofs.Try.prog 50 = some ([(.int .i64 0), (.str ⟨#[]⟩), (.str ⟨#[]⟩), (.str ⟨#[]⟩), (.int .i64 0), (.str ⟨#[]⟩), (.bool false), (.bool false), (.slice [] .full), (.int .i64 0), (.slice [] .full)], [(0, 1), (1, 8), (9, 1), (10, 1)]) := by kernel_rfl
theorem en100 : Enters Go.Proofs.Try.prog 100 := enters_of Go.Proofs.Try.func100 (by kernel_rfl) rfl
theorem en101 : Enters Go.Proofs.Try.prog 101 := enters_of Go.Proofs.Try.func101 (by kernel_rfl) rfl
theorem en102 : Enters Go.Proofs.Try.prog 102 := enters_of Go.Proofs.Try.func102 (by kernel_rfl) rfl
theorem en103 : Enters Go.Proofs.Try.prog 103 := enters_of Go.Proofs.Try.func103 (by kernel_rfl) rfl
theorem en126 : Enters Go.Proofs.Try.prog 126 := enters_of Go.Proofs.Try.func126 (by kernel_rfl) rfl
theorem en133 : Enters Go.Proofs.Try.prog 133 := enters_of Go.Proofs.Try.func133 (by kernel_rfl) rfl
theorem en14 : Enters Go.Proofs.Try.prog 14 := enters_of Go.Proofs.Try.func14 (by kernel_rfl) rfl
theorem en146 : Enters Go.Proofs.Try.prog 146 := enters_of Go.Proofs.Try.func146 (by kernel_rfl) rfl
theorem en147 : Enters Go.Proofs.Try.prog 147 := enters_of Go.Proofs.Try.func147 (by kernel_rfl) rfl
theorem en166 : Enters Go.Proofs.Try.prog 166 := enters_of Go.Proofs.Try.func166 (by kernel_rfl) rfl
theorem en175 : Enters Go.Proofs.Try.prog 175 := enters_of Go.Proofs.Try.func175 (by kernel_rfl) rfl
theorem en19 : Enters Go.Proofs.Try.prog 19 := enters_of Go.Proofs.Try.func19 (by kernel_rfl) rfl
theorem en20 : Enters Go.Proofs.Try.prog 20 := enters_of Go.Proofs.Try.func20 (by kernel_rfl) rfl
theorem en21 : Enters Go.Proofs.Try.prog 21 := enters_of Go.Proofs.Try.func21 (by kernel_rfl) rfl
theorem en22 : Enters Go.Proofs.Try.prog 22 := enters_of Go.Proofs.Try.func22 (by kernel_rfl) rfl
theorem en24 : Enters Go.Proofs.Try.prog 24 := enters_of Go.Proofs.Try.func24 (by kernel_rfl) rfl
theorem en26 : Enters Go.Proofs.Try.prog 26 := enters_of Go.Proofs.Try.func26 (by kernel_rfl) rfl
theorem en27 : Enters Go.Proofs.Try.prog 27 := enters_of Go.Proofs.Try.func27 (by kernel_rfl) rfl
theorem en28 : Enters Go.Proofs.Try.prog 28 := enters_of Go.Proofs.Try.func28 (by kernel_rfl) rfl
theorem en52 : Enters Go.Proofs.Try.prog 52 := enters_of Go.Proofs.Try.func52 (by kernel_rfl) rfl
theorem en61 : Enters Go.Proofs.Try.prog 61 := enters_of Go.Proofs.Try.func61 (by kernel_rfl) rfl
theorem en62 : Enters Go.Proofs.Try.prog 62 := enters_of Go.Proofs.Try.func62 (by kernel_rfl) rfl
theorem en63 : Enters Go.Proofs.Try.prog 63 := enters_of Go.Proofs.Try.func63 (by kernel_rfl) rfl
theorem en64 : Enters Go.Proofs.Try.prog 64 := enters_of Go.Proofs.Try.func64 (by kernel_rfl) rfl
theorem en65 : Enters Go.Proofs.Try.prog 65 := enters_of Go.Proofs.Try.func65 (by kernel_rfl) rfl
theorem en66 : Enters Go.Proofs.Try.prog 66 := enters_of Go.Proofs.Try.func66 (by kernel_rfl) rfl
theorem en68 : Enters Go.Proofs.Try.prog 68 := enters_of Go.Proofs.Try.func68 (by kernel_rfl) rfl
theorem en69 : Enters Go.Proofs.Try.prog 69 := enters_of Go.Proofs.Try.func69 (by kernel_rfl) rfl
theorem en70 : Enters Go.Proofs.Try.prog 70 := enters_of Go.Proofs.Try.func70 (by kernel_rfl) rfl
theorem en71 : Enters Go.Proofs.Try.prog 71 := enters_of Go.Proofs.Try.func71 (by kernel_rfl) rfl
theorem fl106_0 : fldI Go.Proofs.Try.prog 106 0 = some 0 := by kernel_rfl
theorem fl106_1 : fldI Go.Proofs.Try.prog 106 1 = some 1 := by kernel_rfl
theorem fl106_2 : fldI Go.Proofs.Try.prog 106 2 = some 2 := by kernel_rfl
theorem fl30_0 : fldI Go.Proofs.Try.prog 30 0 = some 0 := by kernel_rfl
theorem fl38_0 : fldI Go.Proofs.Try.prog 38 0 = some 0 := by kernel_rfl
theorem fl38_1 : fldI Go.Proofs.Try.prog 38 1 = some 3 := by kernel_rfl
theorem fl38_2 : fldI Go.Proofs.Try.prog 38 2 = some 4 := by kernel_rfl
theorem fl38_5 : fldI Go.Proofs.Try.prog 38 5 = some 7 := by kernel_rfl
theorem fl40_0 : fldI Go.Proofs.Try.prog 40 0 = some 0 := by kernel_rfl
theorem fl40_1 : fldI Go.Proofs.Try.prog 40 1 = some 1 := by kernel_rfl
theorem fl50_0 : fldI Go.Proofs.Try.prog 50 0 = some 0 := by kernel_rfl
theorem fl50_1 : fldI Go.Proofs.Try.prog 50 1 = some 1 := by kernel_rfl
theorem fl50_2 : fldI Go.Proofs.Try.prog 50 2 = some 9 := by kernel_rfl
theorem fl50_3 : fldI Go.Proofs.Try.prog 50 3 = some 10 := by kernel_rfl
theorem mixed : Go.Proofs.Try.prog.follows .mixedOrders = true := by kernel_rfl
theorem mp104 : mapI Go.Proofs.Try.prog 104 = some (35, 38) := by kernel_rfl
theorem ps35 : plainS Go.Proofs.Try.prog 35 = true := by kernel_rfl
theorem sl22 : sliI Go.Proofs.Try.prog 22 = some (40, 9, 112) := by kernel_rfl
theorem sl28 : sliI Go.Proofs.Try.prog 28 = some (50, 11, 144) := by kernel_rfl
theorem sl36 : sliI Go.Proofs.Try.prog 36 = some (116, 2, 24) := by kernel_rfl
theorem sl48 : sliI Go.Proofs.Try.prog 48 = some (38, 8, 104) := by kernel_rfl
theorem ty104 : tyI Go.Proofs.Try.prog 104 = some (1, false) := by kernel_rfl
theorem ty2 : tyI Go.Proofs.Try.prog 2 = some (1, false) := by kernel_rfl
theorem ty28 : tyI Go.Proofs.Try.prog 28 = some (1, false) := by kernel_rfl
theorem ty35 : tyI Go.Proofs.Try.prog 35 = some (3, true) := by kernel_rfl
theorem ty36 : tyI Go.Proofs.Try.prog 36 = some (1, false) := by kernel_rfl
theorem ty38 : tyI Go.Proofs.Try.prog 38 = some (8, true) := by kernel_rfl
theorem ty4 : tyI Go.Proofs.Try.prog 4 = some (1, false) := by kernel_rfl
theorem ty47 : tyI Go.Proofs.Try.prog 47 = some (1, false) := by kernel_rfl
theorem ty48 : tyI Go.Proofs.Try.prog 48 = some (1, false) := by kernel_rfl
theorem ty50 : tyI Go.Proofs.Try.prog 50 = some (11, true) := by kernel_rfl
theorem ty9 : tyI Go.Proofs.Try.prog 9 = some (1, false) := by kernel_rfl
theorem u180 : Go.Proofs.Try.prog.underlying 180 = some (.int .u64) := by kernel_rfl
theorem u22 : Go.Proofs.Try.prog.underlying 22 = some (.slice 40) := by kernel_rfl
theorem u25 : Go.Proofs.Try.prog.underlying 25 = some (.pointer 106) := by kernel_rfl
theorem u28 : Go.Proofs.Try.prog.underlying 28 = some (.slice 50) := by kernel_rfl
theorem u3 : Go.Proofs.Try.prog.underlying 3 = some (.int .i64) := by kernel_rfl
theorem u35 : Go.Proofs.Try.prog.underlying 35 = some (.struct #[⟨"Kind", 9, 0, false, "", "", 0⟩, ⟨"Space", 9, 1, false, "", "", 16⟩, ⟨"Name", 9, 2, false, "", "", 32⟩]) := by kernel_rfl
theorem u36 : Go.Proofs.Try.prog.underlying 36 = some (.slice 116) := by kernel_rfl
theorem u48 : Go.Proofs.Try.prog.underlying 48 = some (.slice 38) := by kernel_rfl
theorem u50 : Go.Proofs.Try.prog.underlying 50 = some (.struct #[⟨"Kind", 47, 0, false, "", "", 0⟩, ⟨"Object", 38, 1, false, "", "", 8⟩, ⟨"Version", 2, 9, false, "", "", 112⟩, ⟨"Objects", 48, 10, false, "", "", 120⟩]) := by kernel_rfl
theorem z116 : zI Go.Proofs.Try.prog 116 = some (.agg #[(.string ⟨#[]⟩), (.int .i64 0)]) := by kernel_rfl
theorem z38 : zI Go.Proofs.Try.prog 38 = some (.agg #[(.string ⟨#[]⟩), (.string ⟨#[]⟩), (.string ⟨#[]⟩), (.int .i64 0), (.string ⟨#[]⟩), (.bool false), (.bool false), (.slice none 0 0)]) := by kernel_rfl
theorem z50 : zI Go.Proofs.Try.prog 50 = some (.agg #[(.int .i64 0), (.string ⟨#[]⟩), (.string ⟨#[]⟩), (.string ⟨#[]⟩), (.int .i64 0), (.string ⟨#[]⟩), (.bool false), (.bool false), (.slice none 0 0), (.int .i64 0), (.slice none 0 0)]) := by kernel_rfl
end Go.Proofs.Ytncecheccihjoaa.TT26
namespace Go.Proofs.Ytncecheccihjoaa
open Go Go.Proofs.Fw Go.Proofs
set_option linter.unusedVariables false
set_option linter.unusedSimpArgs false
set_option maxRecDepth 20000
set_option maxHeartbeats 4000000
instance At_stH {s m : Nat} {v : Int} {M : List (Key × Object)} {log : List Evt} {tk : Tok} {H : AH} {b : Nat} {o : AO} [h : At H b o] : At (stH s m v M log tk H) b o :=
  ⟨List.mem_cons_of_mem _ (List.mem_cons_of_mem _ (List.mem_append_right _ h.mem))⟩
theorem wk_stH {GV : AH} {x : AV} {s m : Nat} {v : Int} {M : List (Key × Object)} {log : List Evt} {tk : Tok} {H : AH} : Wk GV x (stH s m v M log tk H) x H := by
  unfold stH; exact (Wk.drop _).trans ((Wk.drop _).trans (Wk.dropL _))
def o0 : Object := ⟨⟨⟨#[112, 111, 100]⟩, ⟨#[97]⟩, ⟨#[120]⟩⟩, -7, ⟨#[104, 105, 103, 104]⟩, false, false, []⟩
def l1 : List Evt := [evPut o0 0]
def l2 : List Evt := [evPut o0 0, evPut o0 1]
def l3 : List Evt := [evPut o0 0, evPut o0 1, evDel o0.key 2]
theorem al1 : putR [] [] o0 = ⟨1, 0, [(o0.key, o0.wv 1)], l1⟩ := by kernel_rfl
theorem al2 : putR [(o0.key, o0.wv 1)] l1 o0 = ⟨2, 0, [(o0.key, o0.wv 2)], l2⟩ := by kernel_rfl
theorem al3 : delR [(o0.key, o0.wv 2)] l2 o0.key = ⟨3, 0, [], l3⟩ := by kernel_rfl
theorem al4 : delR [] l3 o0.key = ⟨0, 4, [], l3⟩ := by kernel_rfl
theorem al5 : putR [] l3 noObj = ⟨0, 1, [], l3⟩ := by kernel_rfl
theorem new_spec2 (H : AH) : ACalls Try.prog [] 14 [] H (fun x H' => ∃ s m, x = .ptr s 0 ∧ H' = stH s m (([] : List Evt).length : Int) [] [] .full H) := new_spec H

theorem fit3 : ∀ e ∈ l3, e.objs.length ≤ 1000000 ∧ e.obj.charge.length ≤ 1000000 ∧ ∀ o ∈ e.objs, o.charge.length ≤ 1000000 := by
  intro e he
  simp only [l3, List.mem_cons, List.not_mem_nil, or_false] at he
  rcases he with rfl | rfl | rfl <;> exact ⟨Nat.zero_le _, Nat.zero_le _, fun o ho => by cases ho⟩

theorem alive09 (H : AH) : ACalls Try.prog [] 13 [] H (fun x H' => x = .bool true ∧ H' = H) := by
  refine ACalls.enter (n := 139) Try.func13 rfl rfl (Nat.le_of_ble_eq_true rfl) ?_
  refine AS.seq ?_
  refine AS.region rfl ?_
  refine AS.assign rfl rfl rfl rfl ?_
  refine AS.opsEnd ?_
  refine AS.seq ?_
  refine AS.region rfl ?_
  refine AS.call rfl rfl rfl rfl TT26.en14 (new_spec2 _) ?_
  rintro _ _ ⟨s, m, rfl, rfl⟩
  refine AS.assign rfl rfl rfl rfl ?_
  refine AS.opsEnd ?_
  refine AS.seq ?_
  refine AS.region rfl ?_
  refine AS.build rfl rfl rfl TT26.b35 rfl rfl ?_
  refine AS.build rfl rfl rfl TT26.b38 rfl rfl ?_
  refine AS.weak 17 (encObj o0) rfl (AVLe.agg (.cons (.refl _) (.cons (.refl _) (.cons (.refl _) (.cons (.refl _) (.cons (.refl _) (.cons (.refl _) (.cons (.refl _) (.cons (AVLe.tok _ _) .nil))))))))) ?_
  refine AS.allocZ rfl rfl rfl TT26.z38 rfl ?_
  intro b2
  refine AS.store rfl rfl rfl rfl rfl rfl TT26.ty38 rfl rfl ?_
  refine AS.opsEnd ?_
  refine AS.seq ?_
  refine AS.region rfl ?_
  refine AS.move rfl rfl rfl rfl ?_
  refine AS.load (y := encObj o0) rfl rfl rfl rfl TT26.ty38 rfl rfl rfl ?_
  refine AS.permH [] (stPerm [_] s m _ [] [] _ H) ?_
  dsimp only [List.cons_append, List.nil_append]
  refine AS.call rfl rfl rfl rfl TT26.en27 (put_spec2 s m [] [] .full o0 _ rfl (Nat.zero_le _) (Nat.zero_le _)) ?_
  rintro _ _ ⟨rfl, tk1, h1, rfl⟩
  rw [al1]
  dsimp only
  refine AS.move rfl rfl rfl rfl ?_
  refine AS.extract rfl rfl rfl rfl rfl ?_
  refine AS.extract rfl rfl rfl rfl rfl ?_
  refine AS.assign rfl rfl rfl rfl ?_
  refine AS.assign rfl rfl rfl rfl ?_
  refine AS.opsEnd ?_
  refine AS.seq ?_
  refine AS.region rfl ?_
  refine AS.move rfl rfl rfl rfl ?_
  refine AS.load (y := encObj o0) rfl rfl rfl rfl TT26.ty38 rfl rfl rfl ?_
  refine AS.call rfl rfl rfl rfl TT26.en27 (put_spec2 s m [(o0.key, o0.wv 1)] l1 tk1 o0 _ h1 (by decide) (Nat.zero_le _)) ?_
  rintro _ _ ⟨rfl, tk2, h2, rfl⟩
  rw [al2]
  dsimp only
  refine AS.move rfl rfl rfl rfl ?_
  refine AS.extract rfl rfl rfl rfl rfl ?_
  refine AS.extract rfl rfl rfl rfl rfl ?_
  refine AS.assign rfl rfl rfl rfl ?_
  refine AS.assign rfl rfl rfl rfl ?_
  refine AS.opsEnd ?_
  refine AS.seq ?_
  refine AS.region rfl ?_
  refine AS.move rfl rfl rfl rfl ?_
  refine AS.fieldAddr rfl rfl rfl rfl TT26.fl38_0 ?_
  refine AS.load (y := encKey o0.key) rfl rfl rfl rfl TT26.ty35 rfl rfl rfl ?_
  refine AS.call rfl rfl rfl rfl TT26.en28 (delete_spec2 s m [(o0.key, o0.wv 2)] l2 tk2 o0.key _ h2 (by decide)) ?_
  rintro _ _ ⟨rfl, tk3, h3, rfl⟩
  rw [al3]
  dsimp only
  refine AS.move rfl rfl rfl rfl ?_
  refine AS.extract rfl rfl rfl rfl rfl ?_
  refine AS.extract rfl rfl rfl rfl rfl ?_
  refine AS.assign rfl rfl rfl rfl ?_
  refine AS.assign rfl rfl rfl rfl ?_
  refine AS.opsEnd ?_
  refine AS.seq ?_
  refine AS.region rfl ?_
  refine AS.move rfl rfl rfl rfl ?_
  refine AS.fieldAddr rfl rfl rfl rfl TT26.fl38_0 ?_
  refine AS.load (y := encKey o0.key) rfl rfl rfl rfl TT26.ty35 rfl rfl rfl ?_
  refine AS.call rfl rfl rfl rfl TT26.en28 (delete_spec2 s m [] l3 tk3 o0.key _ h3 (by decide)) ?_
  rintro _ _ ⟨rfl, tk4, h4, rfl⟩
  rw [al4]
  dsimp only
  refine AS.move rfl rfl rfl rfl ?_
  refine AS.extract rfl rfl rfl rfl rfl ?_
  refine AS.extract rfl rfl rfl rfl rfl ?_
  refine AS.assign rfl rfl rfl rfl ?_
  refine AS.assign rfl rfl rfl rfl ?_
  refine AS.opsEnd ?_
  refine AS.seq ?_
  refine AS.region rfl ?_
  refine AS.move rfl rfl rfl rfl ?_
  refine AS.build rfl rfl rfl TT26.b38 rfl rfl ?_
  refine AS.weak 46 (encObj noObj) rfl (AVLe.agg (.cons (.refl _) (.cons (.refl _) (.cons (.refl _) (.cons (.refl _) (.cons (.refl _) (.cons (.refl _) (.cons (.refl _) (.cons (AVLe.tok _ _) .nil))))))))) ?_
  refine AS.call rfl rfl rfl rfl TT26.en27 (put_spec2 s m [] l3 tk4 noObj _ h4 (by decide) (Nat.zero_le _)) ?_
  rintro _ _ ⟨rfl, tk5, h5, rfl⟩
  rw [al5]
  dsimp only
  refine AS.move rfl rfl rfl rfl ?_
  refine AS.extract rfl rfl rfl rfl rfl ?_
  refine AS.extract rfl rfl rfl rfl rfl ?_
  refine AS.assign rfl rfl rfl rfl ?_
  refine AS.assign rfl rfl rfl rfl ?_
  refine AS.opsEnd ?_
  refine AS.seq ?_
  refine AS.region rfl ?_
  refine AS.move rfl rfl rfl rfl ?_
  refine AS.callP rfl rfl rfl rfl TT26.en26 (log_spec s m _ [] l3 tk5 _ (by decide) fit3) ?_
  refine AS.assign rfl rfl rfl rfl ?_
  refine AS.opsEnd ?_
  refine AS.seq ?_
  refine AS.region rfl ?_
  refine AS.move rfl rfl rfl rfl ?_
  refine AS.callP rfl rfl rfl rfl TT26.en22 (snapshot_spec s m _ [] l3 tk5 _ (by decide) (by simp [valsOf]) (by simp [valsOf, Apart]) (by simp [valsOf])) ?_
  refine AS.allocZ rfl rfl rfl TT26.z50 rfl ?_
  intro b14
  refine AS.store rfl rfl rfl rfl rfl rfl TT26.ty50 rfl rfl ?_
  refine AS.opsEnd ?_
  refine AS.seq ?_
  refine AS.seq ?_
  refine AS.region rfl ?_
  refine AS.move rfl rfl rfl rfl ?_
  refine AS.len rfl rfl rfl rfl (by first | exact lenT_sl TT26.u28 | exact lenT_ms TT26.u28 | (rw [TT26.u28]; rfl)) rfl (lenMap _ _) ?_
  refine AS.bin rfl rfl rfl rfl rfl (BinR.neq (c := false) rfl) ?_
  refine AS.opsEnd ?_
  refine AS.condF rfl ?_
  refine AS.skip ?_
  refine AS.seq ?_
  refine AS.region rfl ?_
  refine AS.move rfl rfl rfl rfl ?_
  refine AS.bin rfl rfl rfl rfl rfl (BinR.eql (c := true) rfl) ?_
  refine AS.move rfl rfl rfl rfl ?_
  refine AS.move rfl rfl rfl rfl ?_
  refine AS.bin rfl rfl rfl rfl rfl (BinR.eql (c := true) rfl) ?_
  refine AS.pick rfl rfl rfl rfl rfl ?_
  refine AS.move rfl rfl rfl rfl ?_
  refine AS.move rfl rfl rfl rfl ?_
  refine AS.bin rfl rfl rfl rfl rfl (BinR.eql (c := true) rfl) ?_
  refine AS.pick rfl rfl rfl rfl rfl ?_
  refine AS.move rfl rfl rfl rfl ?_
  refine AS.move rfl rfl rfl rfl ?_
  refine AS.bin rfl rfl rfl rfl rfl (BinR.eql (c := true) rfl) ?_
  refine AS.pick rfl rfl rfl rfl rfl ?_
  refine AS.move rfl rfl rfl rfl ?_
  refine AS.move rfl rfl rfl rfl ?_
  refine AS.bin rfl rfl rfl rfl rfl (BinR.eql (c := true) rfl) ?_
  refine AS.pick rfl rfl rfl rfl rfl ?_
  refine AS.move rfl rfl rfl rfl ?_
  refine AS.move rfl rfl rfl rfl ?_
  refine AS.bin rfl rfl rfl rfl rfl (BinR.eql (c := true) rfl) ?_
  refine AS.pick rfl rfl rfl rfl rfl ?_
  refine AS.move rfl rfl rfl rfl ?_
  refine AS.move rfl rfl rfl rfl ?_
  refine AS.bin rfl rfl rfl rfl rfl (BinR.eql (c := true) rfl) ?_
  refine AS.pick rfl rfl rfl rfl rfl ?_
  refine AS.move rfl rfl rfl rfl ?_
  refine AS.move rfl rfl rfl rfl ?_
  refine AS.bin rfl rfl rfl rfl rfl (BinR.eql (c := true) rfl) ?_
  refine AS.pick rfl rfl rfl rfl rfl ?_
  refine AS.move rfl rfl rfl rfl ?_
  refine AS.move rfl rfl rfl rfl ?_
  refine AS.indexAddr rfl rfl rfl rfl rfl TT26.sl28 (by decide) (map_get encEv l3 (i := 1) (a := evPut o0 1) rfl) rfl ?_
  refine AS.ifieldAddr rfl rfl rfl rfl TT26.fl50_1 ?_
  refine AS.ifieldAddr rfl rfl rfl rfl TT26.fl38_1 ?_
  refine AS.iload rfl rfl rfl rfl TT26.ty2 rfl rfl rfl ?_
  refine AS.bin rfl rfl rfl rfl rfl (BinR.eql (c := true) rfl) ?_
  refine AS.pick rfl rfl rfl rfl rfl ?_
  refine AS.move rfl rfl rfl rfl ?_
  refine AS.move rfl rfl rfl rfl ?_
  refine AS.indexAddr rfl rfl rfl rfl rfl TT26.sl28 (by decide) (map_get encEv l3 (i := 1) (a := evPut o0 1) rfl) rfl ?_
  refine AS.ifieldAddr rfl rfl rfl rfl TT26.fl50_1 ?_
  refine AS.ifieldAddr rfl rfl rfl rfl TT26.fl38_2 ?_
  refine AS.iload rfl rfl rfl rfl TT26.ty9 rfl rfl rfl ?_
  refine AS.bin rfl rfl rfl rfl rfl (BinR.seql (c := true) rfl) ?_
  refine AS.pick rfl rfl rfl rfl rfl ?_
  refine AS.move rfl rfl rfl rfl ?_
  refine AS.move rfl rfl rfl rfl ?_
  refine AS.indexAddr rfl rfl rfl rfl rfl TT26.sl28 (by decide) (map_get encEv l3 (i := 2) (a := evDel o0.key 2) rfl) rfl ?_
  refine AS.ifieldAddr rfl rfl rfl rfl TT26.fl50_0 ?_
  refine AS.iload rfl rfl rfl rfl TT26.ty47 rfl rfl rfl ?_
  refine AS.bin rfl rfl rfl rfl rfl (BinR.eql (c := true) rfl) ?_
  refine AS.pick rfl rfl rfl rfl rfl ?_
  refine AS.move rfl rfl rfl rfl ?_
  refine AS.move rfl rfl rfl rfl ?_
  refine AS.indexAddr rfl rfl rfl rfl rfl TT26.sl28 (by decide) (map_get encEv l3 (i := 2) (a := evDel o0.key 2) rfl) rfl ?_
  refine AS.ifieldAddr rfl rfl rfl rfl TT26.fl50_1 ?_
  refine AS.ifieldAddr rfl rfl rfl rfl TT26.fl38_2 ?_
  refine AS.iload rfl rfl rfl rfl TT26.ty9 rfl rfl rfl ?_
  refine AS.bin rfl rfl rfl rfl rfl (BinR.seql (c := true) rfl) ?_
  refine AS.pick rfl rfl rfl rfl rfl ?_
  refine AS.move rfl rfl rfl rfl ?_
  refine AS.move rfl rfl rfl rfl ?_
  refine AS.callP rfl rfl rfl rfl TT26.en24 (ACalls.permP (version_spec s m _ [] l3 tk5 ([_] ++ _)) (stPerm [_] s m _ [] l3 tk5 _)) ?_
  refine AS.bin rfl rfl rfl rfl rfl (BinR.eql (c := true) rfl) ?_
  refine AS.pick rfl rfl rfl rfl rfl ?_
  refine AS.move rfl rfl rfl rfl ?_
  refine AS.fieldAddr rfl rfl rfl rfl TT26.fl50_0 ?_
  refine AS.load rfl rfl rfl rfl TT26.ty47 rfl rfl rfl ?_
  refine AS.bin rfl rfl rfl rfl rfl (BinR.eql (c := true) rfl) ?_
  refine AS.pick rfl rfl rfl rfl rfl ?_
  refine AS.move rfl rfl rfl rfl ?_
  refine AS.fieldAddr rfl rfl rfl rfl TT26.fl50_2 ?_
  refine AS.load rfl rfl rfl rfl TT26.ty2 rfl rfl rfl ?_
  refine AS.bin rfl rfl rfl rfl rfl (BinR.eql (c := true) rfl) ?_
  refine AS.pick rfl rfl rfl rfl rfl ?_
  refine AS.move rfl rfl rfl rfl ?_
  refine AS.fieldAddr rfl rfl rfl rfl TT26.fl50_3 ?_
  refine AS.load rfl rfl rfl rfl TT26.ty48 rfl rfl rfl ?_
  refine AS.len rfl rfl rfl rfl (by first | exact lenT_sl TT26.u48 | exact lenT_ms TT26.u48 | (rw [TT26.u48]; rfl)) rfl (lenMap _ _) ?_
  refine AS.bin rfl rfl rfl rfl rfl (BinR.eql (c := true) rfl) ?_
  refine AS.pick rfl rfl rfl rfl rfl ?_
  refine AS.assign rfl rfl rfl rfl ?_
  refine AS.opsEnd ?_
  refine AS.retW Try.func13 rfl (.tmp rfl (.nil)) ?_
  exact ⟨_, _, (Wk.drop _).trans (wk_stH.trans (Wk.drop _)), rfl, rfl⟩
-- UNUSED annotation mode r12
end Go.Proofs.Ytncecheccihjoaa
/- Keys of a map that are numbers, or strings. -/
namespace Go.Proofs.Fw
open Go Go.Shelf Go.RowKit
set_option linter.unusedVariables false
set_option linter.unusedSimpArgs false
theorem keyR_int {P : Program} {t : TypeId} {k : IntKind} (hu : P.underlying t = some (.int k)) : KeyR P t (AV.int k) where
  check V w v x e hv := checkKey_plain (d := 9999) (by rw [hu]; rfl)
  eq V w v u x y hv hu' := by
    have h := equalIn_plain (P := P) (d := 9999) (t := t) (w := w) (by rw [hu]; simp [likeD]) hv hu'
    unfold Op.equal Op.maxDepth
    rw [h]; rfl
  now := ⟨_, hu, .inl fun V v u x y hv hu' => by cases hv; cases hu'; simp only [Instr.sameNow, if_true]; congr 1⟩
  same V v u x hv hu' := by cases hv; cases hu'; simp [Instr.sameBits]
theorem keyR_str {P : Program} {t : TypeId} (hu : P.underlying t = some .string) : KeyR P t AV.str where
  check V w v x e hv := checkKey_plain (d := 9999) (by rw [hu]; rfl)
  eq V w v u x y hv hu' := by
    have h := equalIn_plain (P := P) (d := 9999) (t := t) (w := w) (by rw [hu]; rfl) hv hu'
    unfold Op.equal Op.maxDepth
    rw [h]; rfl
  now := ⟨_, hu, .inl fun V v u x y hv hu' => by cases hv; cases hu'; simp only [Instr.sameNow, bytes_eq]⟩
  same V v u x hv hu' := by cases hv; cases hu'; simp [Instr.sameBits, bytes_eq]
end Go.Proofs.Fw
/- T29 -/
namespace Go.Proofs.Ytncecheccihjoaa.TT29
open Go Go.Proofs.Fw Go.Shelf
theorem en102 : Enters Go.Proofs.Try.prog 102 := enters_of Go.Proofs.Try.func102 (by kernel_rfl) rfl
theorem en104 : Enters Go.Proofs.Try.prog 104 := enters_of Go.Proofs.Try.func104 (by kernel_rfl) rfl
theorem en105 : Enters Go.Proofs.Try.prog 105 := enters_of Go.Proofs.Try.func105 (by kernel_rfl) rfl
theorem en106 : Enters Go.Proofs.Try.prog 106 := enters_of Go.Proofs.Try.func106 (by kernel_rfl) rfl
theorem en107 : Enters Go.Proofs.Try.prog 107 := enters_of Go.Proofs.Try.func107 (by kernel_rfl) rfl
theorem en126 : Enters Go.Proofs.Try.prog 126 := enters_of Go.Proofs.Try.func126 (by kernel_rfl) rfl
theorem en20 : Enters Go.Proofs.Try.prog 20 := enters_of Go.Proofs.Try.func20 (by kernel_rfl) rfl
theorem en21 : Enters Go.Proofs.Try.prog 21 := enters_of Go.Proofs.Try.func21 (by kernel_rfl) rfl
theorem en52 : Enters Go.Proofs.Try.prog 52 := enters_of Go.Proofs.Try.func52 (by kernel_rfl) rfl
theorem en66 : Enters Go.Proofs.Try.prog 66 := enters_of Go.Proofs.Try.func66 (by kernel_rfl) rfl
theorem en69 : Enters Go.Proofs.Try.prog 69 := enters_of Go.Proofs.Try.func69 (by kernel_rfl) rfl
theorem en71 : Enters Go.Proofs.Try.prog 71 := enters_of Go.Proofs.Try.func71 (by kernel_rfl) rfl
theorem en72 : Enters Go.Proofs.Try.prog 72 := enters_of Go.Proofs.Try.func72 (by kernel_rfl) rfl
theorem fl38_0 : fldI Go.Proofs.Try.prog 38 0 = some 0 := by kernel_rfl
theorem fl38_1 : fldI Go.Proofs.Try.prog 38 1 = some 3 := by kernel_rfl
theorem fl38_5 : fldI Go.Proofs.Try.prog 38 5 = some 7 := by kernel_rfl
theorem fl50_0 : fldI Go.Proofs.Try.prog 50 0 = some 0 := by kernel_rfl
theorem fl50_1 : fldI Go.Proofs.Try.prog 50 1 = some 1 := by kernel_rfl
theorem fl50_2 : fldI Go.Proofs.Try.prog 50 2 = some 9 := by kernel_rfl
theorem fl50_3 : fldI Go.Proofs.Try.prog 50 3 = some 10 := by kernel_rfl
theorem mixed : Go.Proofs.Try.prog.follows .mixedOrders = true := by kernel_rfl
theorem mp112 : mapI Go.Proofs.Try.prog 112 = some (47, 55) := by kernel_rfl
theorem sl28 : sliI Go.Proofs.Try.prog 28 = some (50, 11, 144) := by kernel_rfl
theorem sl36 : sliI Go.Proofs.Try.prog 36 = some (116, 2, 24) := by kernel_rfl
theorem sl48 : sliI Go.Proofs.Try.prog 48 = some (38, 8, 104) := by kernel_rfl
theorem ty2 : tyI Go.Proofs.Try.prog 2 = some (1, false) := by kernel_rfl
theorem ty35 : tyI Go.Proofs.Try.prog 35 = some (3, true) := by kernel_rfl
theorem ty36 : tyI Go.Proofs.Try.prog 36 = some (1, false) := by kernel_rfl
theorem ty38 : tyI Go.Proofs.Try.prog 38 = some (8, true) := by kernel_rfl
theorem ty47 : tyI Go.Proofs.Try.prog 47 = some (1, false) := by kernel_rfl
theorem ty48 : tyI Go.Proofs.Try.prog 48 = some (1, false) := by kernel_rfl
theorem ty50 : tyI Go.Proofs.Try.prog 50 = some (11, true) := by kernel_rfl
theorem u28 : Go.Proofs.Try.prog.underlying 28 = some (.slice 50) := by kernel_rfl
theorem u36 : Go.Proofs.Try.prog.underlying 36 = some (.slice 116) := by kernel_rfl
theorem u47 : Go.Proofs.Try.prog.underlying 47 = some (.int .i64) := by kernel_rfl
theorem u48 : Go.Proofs.Try.prog.underlying 48 = some (.slice 38) := by kernel_rfl
theorem z116 : zI Go.Proofs.Try.prog 116 = some (.agg #[(.string ⟨#[]⟩), (.int .i64 0)]) := by kernel_rfl
theorem z38 : zI Go.Proofs.Try.prog 38 = some (.agg #[(.string ⟨#[]⟩), (.string ⟨#[]⟩), (.string ⟨#[]⟩), (.int .i64 0), (.string ⟨#[]⟩), (.bool false), (.bool false), (.slice none 0 0)]) := by kernel_rfl
theorem z50 : zI Go.Proofs.Try.prog 50 = some (.agg #[(.int .i64 0), (.string ⟨#[]⟩), (.string ⟨#[]⟩), (.string ⟨#[]⟩), (.int .i64 0), (.string ⟨#[]⟩), (.bool false), (.bool false), (.slice none 0 0), (.int .i64 0), (.slice none 0 0)]) := by kernel_rfl
theorem z55 : zI Go.Proofs.Try.prog 55 = some .nilFunc := by kernel_rfl
end Go.Proofs.Ytncecheccihjoaa.TT29
namespace Go.Proofs.Ytncecheccihjoaa
open Go Go.Proofs.Fw Go.Proofs
set_option linter.unusedVariables false
set_option linter.unusedSimpArgs false
set_option maxRecDepth 20000
set_option maxHeartbeats 4000000
def encF (g : Nat) : AV := .func (.func g) [] []
theorem keyR_kind : KeyR Try.prog 47 (AV.int .i64) := keyR_int TT29.u47
def rightsM : List (Int × Nat) := [(0, 104), (1, 105), (2, 106), (3, 107)]

theorem rights_spec (H : AH) : ACalls Try.prog [] 72 [] H (fun x H' => ∃ b, x = .map b ∧ H' = (b, .map (mapAV (AV.int .i64) encF rightsM)) :: H) := by
  refine ACalls.enter (n := 3) Try.func72 rfl rfl (Nat.le_of_ble_eq_true rfl) ?_
  refine AS.seq ?_
  refine AS.region rfl ?_
  refine AS.assign rfl rfl rfl rfl ?_
  refine AS.opsEnd ?_
  refine AS.seq ?_
  refine AS.region rfl ?_
  refine AS.makeMap rfl rfl rfl ?_
  intro b1
  refine AS.nomap (encK := AV.int .i64) (encV := encF) ?_
  refine AS.insert (x := 0) (y := 104) (encK := AV.int .i64) (encV := encF) rfl rfl rfl rfl rfl rfl TT29.mp112 keyR_kind ?_
  refine AS.insert (x := 1) (y := 105) (encK := AV.int .i64) (encV := encF) rfl rfl rfl rfl rfl rfl TT29.mp112 keyR_kind ?_
  refine AS.insert (x := 2) (y := 106) (encK := AV.int .i64) (encV := encF) rfl rfl rfl rfl rfl rfl TT29.mp112 keyR_kind ?_
  refine AS.insert (x := 3) (y := 107) (encK := AV.int .i64) (encV := encF) rfl rfl rfl rfl rfl rfl TT29.mp112 keyR_kind ?_
  refine AS.move rfl rfl rfl rfl ?_
  refine AS.assign rfl rfl rfl rfl ?_
  refine AS.opsEnd ?_
  refine AS.retW Try.func72 rfl (.tmp rfl (.nil)) ?_
  exact RWk.drop [] rfl ⟨_, rfl, rfl⟩
theorem rights1_spec (e : Evt) (H : AH) (hs : EvSmall e) : ACalls Try.prog [] 104 [encEv e] H (fun x H' => x = .bool (objRight e.obj) ∧ H' = H) := by
  refine ACalls.enter (n := 6) Try.func104 rfl rfl (Nat.le_of_ble_eq_true rfl) ?_
  refine AS.seq ?_
  refine AS.region rfl ?_
  refine AS.box rfl rfl rfl rfl rfl ?_
  intro b1
  refine AS.assign rfl rfl rfl rfl ?_
  refine AS.opsEnd ?_
  refine AS.seq ?_
  refine AS.region rfl ?_
  refine AS.fieldAddr rfl rfl rfl rfl TT29.fl50_1 ?_
  refine AS.load (y := encObj e.obj) rfl rfl rfl rfl TT29.ty38 rfl rfl rfl ?_
  refine AS.callP rfl rfl rfl rfl TT29.en69 (object_right e.obj _ hs.charge) ?_
  refine AS.assign rfl rfl rfl rfl ?_
  refine AS.opsEnd ?_
  refine AS.retW Try.func104 rfl (.tmp rfl (.nil)) ?_
  refine RWk.drop [_] rfl ⟨?_, rfl⟩
  rfl
theorem rights2_spec (e : Evt) (H : AH) : ACalls Try.prog [] 105 [encEv e] H (fun x H' => x = .bool (keyRight e.obj.key && decide (1 ≤ e.obj.ver)) ∧ H' = H) := by
  refine ACalls.enter (n := 13) Try.func105 rfl rfl (Nat.le_of_ble_eq_true rfl) ?_
  refine AS.seq ?_
  refine AS.region rfl ?_
  refine AS.box rfl rfl rfl rfl rfl ?_
  intro b1
  refine AS.assign rfl rfl rfl rfl ?_
  refine AS.opsEnd ?_
  refine AS.seq ?_
  refine AS.region rfl ?_
  refine AS.fieldAddr rfl rfl rfl rfl TT29.fl50_1 ?_
  refine AS.fieldAddr rfl rfl rfl rfl TT29.fl38_0 ?_
  refine AS.load (y := encKey e.obj.key) rfl rfl rfl rfl TT29.ty35 rfl rfl rfl ?_
  refine AS.callP rfl rfl rfl rfl TT29.en71 (label_key e.obj.key _) ?_
  refine AS.move rfl rfl rfl rfl ?_
  refine AS.splitT 7 rfl (fun g7 => ?_) (fun g7 => ?_)
  · refine AS.fieldAddr rfl rfl rfl rfl TT29.fl50_1 ?_
    refine AS.fieldAddr rfl rfl rfl rfl TT29.fl38_1 ?_
    refine AS.load rfl rfl rfl rfl TT29.ty2 rfl rfl rfl ?_
    refine AS.bin rfl rfl rfl rfl rfl (BinR.geq rfl) ?_
    refine AS.pick rfl rfl rfl rfl rfl ?_
    refine AS.assign rfl rfl rfl rfl ?_
    refine AS.opsEnd ?_
    refine AS.retW Try.func105 rfl (.tmp rfl (.nil)) ?_
    refine RWk.drop [_] rfl ⟨?_, rfl⟩
    show AV.bool _ = AV.bool _
    (simp only [Bool.and_true, Bool.true_and, Bool.and_false, Bool.false_and, g7]) <;> rfl
  · refine AS.pass rfl rfl rfl ?_
    refine AS.pass rfl rfl rfl ?_
    refine AS.pass rfl rfl rfl ?_
    refine AS.pass rfl rfl rfl ?_
    refine AS.pick rfl rfl rfl rfl rfl ?_
    refine AS.assign rfl rfl rfl rfl ?_
    refine AS.opsEnd ?_
    refine AS.retW Try.func105 rfl (.tmp rfl (.nil)) ?_
    refine RWk.drop [_] rfl ⟨?_, rfl⟩
    show AV.bool _ = AV.bool _
    (simp only [Bool.and_true, Bool.true_and, Bool.and_false, Bool.false_and, g7]) <;> rfl
theorem rights3_spec (e : Evt) (H : AH) : ACalls Try.prog [] 107 [encEv e] H (fun x H' => x = .bool (decide (0 ≤ e.ver)) ∧ H' = H) := by
  refine ACalls.enter (n := 6) Try.func107 rfl rfl (Nat.le_of_ble_eq_true rfl) ?_
  refine AS.seq ?_
  refine AS.region rfl ?_
  refine AS.box rfl rfl rfl rfl rfl ?_
  intro b1
  refine AS.assign rfl rfl rfl rfl ?_
  refine AS.opsEnd ?_
  refine AS.seq ?_
  refine AS.region rfl ?_
  refine AS.fieldAddr rfl rfl rfl rfl TT29.fl50_2 ?_
  refine AS.load rfl rfl rfl rfl TT29.ty2 rfl rfl rfl ?_
  refine AS.bin rfl rfl rfl rfl rfl (BinR.geq rfl) ?_
  refine AS.assign rfl rfl rfl rfl ?_
  refine AS.opsEnd ?_
  refine AS.retW Try.func107 rfl (.tmp rfl (.nil)) ?_
  refine RWk.drop [_] rfl ⟨?_, rfl⟩
  rfl
theorem relist_spec (e : Evt) (H : AH) (hs : EvSmall e) : ACalls Try.prog [] 106 [encEv e] H (fun x H' => x = .bool (relistOk e) ∧ H' = H) := by
  have hol := hs.objs
  refine ACalls.enter (n := 50) Try.func106 rfl rfl (Nat.le_of_ble_eq_true rfl) ?_
  refine AS.seq ?_
  refine AS.region rfl ?_
  refine AS.box rfl rfl rfl rfl rfl ?_
  intro b1
  refine AS.assign rfl rfl rfl rfl ?_
  refine AS.opsEnd ?_
  refine AS.seq ?_
  refine AS.seq ?_
  refine AS.region rfl ?_
  refine AS.fieldAddr rfl rfl rfl rfl TT29.fl50_3 ?_
  refine AS.load rfl rfl rfl rfl TT29.ty48 rfl rfl rfl ?_
  refine AS.len rfl rfl rfl rfl (by first | exact lenT_sl TT29.u48 | exact lenT_ms TT29.u48 | (rw [TT29.u48]; rfl)) rfl (lenMap _ _) ?_
  refine AS.move rfl rfl rfl rfl ?_
  refine AS.opsEnd ?_
  refine AS.block ?_
  refine AS.loopI (α := Nat) (fun i => i ≤ e.objs.length ∧ ∀ j, j < i → j < e.objs.length → relAt e.ver e.objs j = true) (fun i => e.objs.length - i) (fun i => [(8, .int .i64 i)]) [(1, _), (6, _), (7, _)] (fun i => _) 0 ⟨Nat.zero_le _, fun i h => by omega⟩ (.cons rfl (.cons rfl (.cons rfl (.cons rfl (.nil))))) rfl (fun i hI l0_ih => ?_)
  refine AS.seq ?_
  refine AS.region rfl ?_
  refine AS.bin rfl rfl rfl rfl rfl (BinR.lss rfl) ?_
  refine AS.opsEnd ?_
  refine AS.seq ?_
  refine AS.cond rfl (fun hc0 => ?_) (fun hc0 => ?_)
  · have hi : i < e.objs.length := by simp only [decide_eq_true_eq] at hc0; omega
    obtain ⟨o, ho⟩ := getAt hi
    obtain ⟨q, hq⟩ := getAt (l := e.objs) (i := i - 1) (by omega)
    have hso := hs.each o (List.mem_of_getElem? ho)
    have hsq := hs.each q (List.mem_of_getElem? hq)
    refine AS.skip ?_
    refine AS.seq ?_
    refine AS.block ?_
    refine AS.seq ?_
    refine AS.region rfl ?_
    refine AS.move rfl rfl rfl rfl ?_
    refine AS.indexAddr rfl rfl rfl rfl rfl TT29.sl48 (Int.natCast_nonneg _) (map_get _ _ ho) rfl ?_
    refine AS.iload (y := encObj o) rfl rfl rfl rfl TT29.ty38 rfl rfl rfl ?_
    refine AS.allocZ rfl rfl rfl TT29.z38 rfl ?_
    intro b4
    refine AS.assign rfl rfl rfl rfl ?_
    refine AS.store rfl rfl rfl rfl rfl rfl TT29.ty38 rfl rfl ?_
    refine AS.opsEnd ?_
    refine AS.seq ?_
    refine SA.start1 TT29.mixed rfl ?_
    refine SA.rd 0 [4] rfl (fun env rest next => AS.load (y := encObj o) rfl rfl rfl rfl TT29.ty38 rfl rfl rfl next) ?_
    refine SA.rd 1 [13] rfl (fun env rest next => AS.callP rfl rfl rfl rfl TT29.en69 (object_right o _ hso.1) next) ?_
    refine SA.rd 2 [14] rfl (fun env rest next => AS.not rfl rfl rfl rfl rfl next) ?_
    refine SA.rd 3 [15] rfl (fun env rest next => AS.move rfl rfl rfl rfl next) ?_
    refine SA.splitT (fun g16 => ?_) (fun g16 => ?_)
    · rw [Bool.not_eq_true'] at g16
      refine SA.rd 4 [4, 16] rfl (fun env rest next => AS.pass rfl rfl rfl next) ?_
      refine SA.rd 5 [16, 17] rfl (fun env rest next => AS.pass rfl rfl rfl next) ?_
      refine SA.rd 6 [1, 16] rfl (fun env rest next => AS.pass rfl rfl rfl next) ?_
      refine SA.rd 7 [16, 19] rfl (fun env rest next => AS.pass rfl rfl rfl next) ?_
      refine SA.rd 8 [16, 18, 20] rfl (fun env rest next => AS.pass rfl rfl rfl next) ?_
      refine SA.rd 9 [16, 21] rfl (fun env rest next => AS.pick rfl rfl rfl rfl rfl next) ?_
      refine SA.rd 10 [22] rfl (fun env rest next => AS.move rfl rfl rfl rfl next) ?_
      refine SA.rd 11 [3, 23] rfl (fun env rest next => AS.pass rfl rfl rfl next) ?_
      refine SA.rd 12 [23, 24] rfl (fun env rest next => AS.pass rfl rfl rfl next) ?_
      refine SA.rd 13 [23, 25] rfl (fun env rest next => AS.pass rfl rfl rfl next) ?_
      refine SA.rd 14 [1, 26] rfl (fun env rest next => AS.pass rfl rfl rfl next) ?_
      refine SA.rd 15 [26, 27] rfl (fun env rest next => AS.pass rfl rfl rfl next) ?_
      refine SA.rd 16 [3, 26] rfl (fun env rest next => AS.pass rfl rfl rfl next) ?_
      refine SA.rd 17 [26, 29] rfl (fun env rest next => AS.pass rfl rfl rfl next) ?_
      refine SA.rd 18 [26, 28, 30] rfl (fun env rest next => AS.pass rfl rfl rfl next) ?_
      refine SA.rd 19 [26, 31] rfl (fun env rest next => AS.pass rfl rfl rfl next) ?_
      refine SA.rd 20 [26, 32] rfl (fun env rest next => AS.pass rfl rfl rfl next) ?_
      refine SA.rd 21 [4, 26] rfl (fun env rest next => AS.pass rfl rfl rfl next) ?_
      refine SA.rd 22 [26, 34] rfl (fun env rest next => AS.pass rfl rfl rfl next) ?_
      refine SA.rd 23 [26, 33, 35] rfl (fun env rest next => AS.pass rfl rfl rfl next) ?_
      refine SA.rd 24 [26, 36] rfl (fun env rest next => AS.pass rfl rfl rfl next) ?_
      refine SA.rd 25 [23, 26, 37] rfl (fun env rest next => AS.pass rfl rfl rfl next) ?_
      refine SA.rd 26 [23, 38] rfl (fun env rest next => AS.pick rfl rfl rfl rfl rfl next) ?_
      refine SA.done rfl rfl rfl ?_
      refine AS.condT rfl ?_
      refine AS.seq ?_
      have e3 : relAt e.ver e.objs i = false := by rw [relAt_eq ho hq]; (simp only [Bool.and_true, Bool.true_and, Bool.and_false, Bool.false_and, Bool.true_or, Bool.false_or, Bool.not_true, Bool.not_false, hc0, g16]) <;> rfl
      refine AS.region rfl ?_
      refine AS.assign rfl rfl rfl rfl ?_
      refine AS.opsEnd ?_
      refine AS.retW Try.func106 rfl (.tmp rfl (.nil)) ?_
      refine RWk.drop [_, _] rfl ⟨?_, rfl⟩
      rw [relistOk, relOk_no hi e3]; rfl
    · rw [Bool.not_eq_false'] at g16
      refine SA.rd 4 [4, 16] rfl (fun env rest next => AS.fieldAddr rfl rfl rfl rfl TT29.fl38_1 next) ?_
      refine SA.rd 5 [16, 17] rfl (fun env rest next => AS.load rfl rfl rfl rfl TT29.ty2 rfl rfl rfl next) ?_
      refine SA.rd 6 [1, 16] rfl (fun env rest next => AS.fieldAddr rfl rfl rfl rfl TT29.fl50_2 next) ?_
      refine SA.rd 7 [16, 19] rfl (fun env rest next => AS.load rfl rfl rfl rfl TT29.ty2 rfl rfl rfl next) ?_
      refine SA.rd 8 [16, 18, 20] rfl (fun env rest next => AS.bin rfl rfl rfl rfl rfl (BinR.gtr rfl) next) ?_
      refine SA.rd 9 [16, 21] rfl (fun env rest next => AS.pick rfl rfl rfl rfl rfl next) ?_
      refine SA.rd 10 [22] rfl (fun env rest next => AS.move rfl rfl rfl rfl next) ?_
      refine SA.splitT (fun g23 => ?_) (fun g23 => ?_)
      · refine SA.rd 11 [3, 23] rfl (fun env rest next => AS.pass rfl rfl rfl next) ?_
        refine SA.rd 12 [23, 24] rfl (fun env rest next => AS.pass rfl rfl rfl next) ?_
        refine SA.rd 13 [23, 25] rfl (fun env rest next => AS.pass rfl rfl rfl next) ?_
        refine SA.rd 14 [1, 26] rfl (fun env rest next => AS.pass rfl rfl rfl next) ?_
        refine SA.rd 15 [26, 27] rfl (fun env rest next => AS.pass rfl rfl rfl next) ?_
        refine SA.rd 16 [3, 26] rfl (fun env rest next => AS.pass rfl rfl rfl next) ?_
        refine SA.rd 17 [26, 29] rfl (fun env rest next => AS.pass rfl rfl rfl next) ?_
        refine SA.rd 18 [26, 28, 30] rfl (fun env rest next => AS.pass rfl rfl rfl next) ?_
        refine SA.rd 19 [26, 31] rfl (fun env rest next => AS.pass rfl rfl rfl next) ?_
        refine SA.rd 20 [26, 32] rfl (fun env rest next => AS.pass rfl rfl rfl next) ?_
        refine SA.rd 21 [4, 26] rfl (fun env rest next => AS.pass rfl rfl rfl next) ?_
        refine SA.rd 22 [26, 34] rfl (fun env rest next => AS.pass rfl rfl rfl next) ?_
        refine SA.rd 23 [26, 33, 35] rfl (fun env rest next => AS.pass rfl rfl rfl next) ?_
        refine SA.rd 24 [26, 36] rfl (fun env rest next => AS.pass rfl rfl rfl next) ?_
        refine SA.rd 25 [23, 26, 37] rfl (fun env rest next => AS.pass rfl rfl rfl next) ?_
        refine SA.rd 26 [23, 38] rfl (fun env rest next => AS.pick rfl rfl rfl rfl rfl next) ?_
        refine SA.done rfl rfl rfl ?_
        refine AS.condT rfl ?_
        refine AS.seq ?_
        have e3 : relAt e.ver e.objs i = false := by rw [relAt_eq ho hq]; (simp only [Bool.and_true, Bool.true_and, Bool.and_false, Bool.false_and, Bool.true_or, Bool.false_or, Bool.not_true, Bool.not_false, hc0, g16, g23]) <;> rfl
        refine AS.region rfl ?_
        refine AS.assign rfl rfl rfl rfl ?_
        refine AS.opsEnd ?_
        refine AS.retW Try.func106 rfl (.tmp rfl (.nil)) ?_
        refine RWk.drop [_, _] rfl ⟨?_, rfl⟩
        rw [relistOk, relOk_no hi e3]; rfl
      · refine SA.rd 11 [3, 23] rfl (fun env rest next => AS.move rfl rfl rfl rfl next) ?_
        refine SA.rd 12 [23, 24] rfl (fun env rest next => AS.bin rfl rfl rfl rfl rfl (BinR.gtr rfl) next) ?_
        refine SA.rd 13 [23, 25] rfl (fun env rest next => AS.move rfl rfl rfl rfl next) ?_
        refine SA.splitT (fun g26 => ?_) (fun g26 => ?_)
        · have hi0 : 0 < i := by simp only [decide_eq_true_eq] at g26; omega
          have hm1 : IntKind.i64.wrap ((i : Int) - 1) = ((i - 1 : Nat) : Int) := by rw [w64 (by omega) (by omega)]; omega
          refine SA.rd 14 [1, 26] rfl (fun env rest next => AS.fieldAddr rfl rfl rfl rfl TT29.fl50_3 next) ?_
          refine SA.rd 15 [26, 27] rfl (fun env rest next => AS.load rfl rfl rfl rfl TT29.ty48 rfl rfl rfl next) ?_
          refine SA.rd 16 [3, 26] rfl (fun env rest next => AS.move rfl rfl rfl rfl next) ?_
          refine SA.rd 17 [26, 29] rfl (fun env rest next => AS.bin rfl rfl rfl rfl rfl (BinR.sub (c := ((i - 1 : Nat) : Int)) hm1) next) ?_
          refine SA.rd 18 [26, 28, 30] rfl (fun env rest next => AS.indexAddr rfl rfl rfl rfl rfl TT29.sl48 (Int.natCast_nonneg _) (map_get _ _ hq) rfl next) ?_
          refine SA.rd 19 [26, 31] rfl (fun env rest next => AS.ifieldAddr rfl rfl rfl rfl TT29.fl38_0 next) ?_
          refine SA.rd 20 [26, 32] rfl (fun env rest next => AS.iload (y := encKey q.key) rfl rfl rfl rfl TT29.ty35 rfl rfl rfl next) ?_
          refine SA.rd 21 [4, 26] rfl (fun env rest next => AS.fieldAddr rfl rfl rfl rfl TT29.fl38_0 next) ?_
          refine SA.rd 22 [26, 34] rfl (fun env rest next => AS.load (y := encKey o.key) rfl rfl rfl rfl TT29.ty35 rfl rfl rfl next) ?_
          refine SA.rd 23 [26, 33, 35] rfl (fun env rest next => AS.callP rfl rfl rfl rfl TT29.en102 (label_less q.key o.key _ hsq.2 hso.2) next) ?_
          refine SA.rd 24 [26, 36] rfl (fun env rest next => AS.not rfl rfl rfl rfl rfl next) ?_
          refine SA.rd 25 [23, 26, 37] rfl (fun env rest next => AS.pick rfl rfl rfl rfl rfl next) ?_
          refine SA.rd 26 [23, 38] rfl (fun env rest next => AS.pick rfl rfl rfl rfl rfl next) ?_
          refine SA.done rfl rfl rfl ?_
          refine AS.cond rfl (fun hc1 => ?_) (fun hc1 => ?_)
          · rw [Bool.not_eq_true'] at hc1
            refine AS.seq ?_
            have e3 : relAt e.ver e.objs i = false := by rw [relAt_eq ho hq]; (simp only [Bool.and_true, Bool.true_and, Bool.and_false, Bool.false_and, Bool.true_or, Bool.false_or, Bool.not_true, Bool.not_false, hc0, g16, g23, g26, hc1]) <;> rfl
            refine AS.region rfl ?_
            refine AS.assign rfl rfl rfl rfl ?_
            refine AS.opsEnd ?_
            refine AS.retW Try.func106 rfl (.tmp rfl (.nil)) ?_
            refine RWk.drop [_, _] rfl ⟨?_, rfl⟩
            rw [relistOk, relOk_no hi e3]; rfl
          · rw [Bool.not_eq_false'] at hc1
            refine AS.skip ?_
            refine AS.inBlock ?_
            have e3 : relAt e.ver e.objs i = true := by rw [relAt_eq ho hq]; (simp only [Bool.and_true, Bool.true_and, Bool.and_false, Bool.false_and, Bool.true_or, Bool.false_or, Bool.not_true, Bool.not_false, hc0, g16, g23, g26, hc1]) <;> rfl
            refine AS.region rfl ?_
            refine AS.bin rfl rfl rfl rfl rfl (BinR.add (w64 (by omega) (by omega))) ?_
            refine AS.move rfl rfl rfl rfl ?_
            refine AS.opsEnd ?_
            exact AS.nextI (l0_ih (i + 1) ⟨hi, upToL hI.2 e3⟩ (by omega)) [_] (.cons rfl (.cons rfl (.cons rfl (.cons rfl (.nil))))) rfl
        · refine SA.rd 14 [1, 26] rfl (fun env rest next => AS.pass rfl rfl rfl next) ?_
          refine SA.rd 15 [26, 27] rfl (fun env rest next => AS.pass rfl rfl rfl next) ?_
          refine SA.rd 16 [3, 26] rfl (fun env rest next => AS.pass rfl rfl rfl next) ?_
          refine SA.rd 17 [26, 29] rfl (fun env rest next => AS.pass rfl rfl rfl next) ?_
          refine SA.rd 18 [26, 28, 30] rfl (fun env rest next => AS.pass rfl rfl rfl next) ?_
          refine SA.rd 19 [26, 31] rfl (fun env rest next => AS.pass rfl rfl rfl next) ?_
          refine SA.rd 20 [26, 32] rfl (fun env rest next => AS.pass rfl rfl rfl next) ?_
          refine SA.rd 21 [4, 26] rfl (fun env rest next => AS.pass rfl rfl rfl next) ?_
          refine SA.rd 22 [26, 34] rfl (fun env rest next => AS.pass rfl rfl rfl next) ?_
          refine SA.rd 23 [26, 33, 35] rfl (fun env rest next => AS.pass rfl rfl rfl next) ?_
          refine SA.rd 24 [26, 36] rfl (fun env rest next => AS.pass rfl rfl rfl next) ?_
          refine SA.rd 25 [23, 26, 37] rfl (fun env rest next => AS.pick rfl rfl rfl rfl rfl next) ?_
          refine SA.rd 26 [23, 38] rfl (fun env rest next => AS.pick rfl rfl rfl rfl rfl next) ?_
          refine SA.done rfl rfl rfl ?_
          refine AS.condF rfl ?_
          refine AS.skip ?_
          refine AS.inBlock ?_
          have e3 : relAt e.ver e.objs i = true := by rw [relAt_eq ho hq]; (simp only [Bool.and_true, Bool.true_and, Bool.and_false, Bool.false_and, Bool.true_or, Bool.false_or, Bool.not_true, Bool.not_false, hc0, g16, g23, g26]) <;> rfl
          refine AS.region rfl ?_
          refine AS.bin rfl rfl rfl rfl rfl (BinR.add (w64 (by omega) (by omega))) ?_
          refine AS.move rfl rfl rfl rfl ?_
          refine AS.opsEnd ?_
          exact AS.nextI (l0_ih (i + 1) ⟨hi, upToL hI.2 e3⟩ (by omega)) [_] (.cons rfl (.cons rfl (.cons rfl (.cons rfl (.nil))))) rfl
  · have hall : relOk e.ver e.objs = true := allR_yes hI.2 (by simp only [decide_eq_false_iff_not] at hc0; omega)
    refine AS.exit rfl ?_
    refine AS.seq ?_
    refine AS.region rfl ?_
    refine AS.fieldAddr rfl rfl rfl rfl TT29.fl50_2 ?_
    refine AS.load rfl rfl rfl rfl TT29.ty2 rfl rfl rfl ?_
    refine AS.bin rfl rfl rfl rfl rfl (BinR.geq rfl) ?_
    refine AS.move rfl rfl rfl rfl ?_
    refine AS.splitT 44 rfl (fun g44 => ?_) (fun g44 => ?_)
    · refine AS.fieldAddr rfl rfl rfl rfl TT29.fl50_3 ?_
      refine AS.load rfl rfl rfl rfl TT29.ty48 rfl rfl rfl ?_
      refine AS.len rfl rfl rfl rfl (by first | exact lenT_sl TT29.u48 | exact lenT_ms TT29.u48 | (rw [TT29.u48]; rfl)) rfl (lenMap _ _) ?_
      refine AS.bin rfl rfl rfl rfl rfl (BinR.leq rfl) ?_
      refine AS.pick rfl rfl rfl rfl rfl ?_
      refine AS.assign rfl rfl rfl rfl ?_
      refine AS.opsEnd ?_
      refine AS.retW Try.func106 rfl (.tmp rfl (.nil)) ?_
      refine RWk.drop [_] rfl ⟨?_, rfl⟩
      show AV.bool _ = AV.bool _
      (simp only [relistOk, hall, Bool.and_true, Bool.true_and, Bool.and_false, Bool.false_and, hc0, g44]) <;> rfl
    · refine AS.pass rfl rfl rfl ?_
      refine AS.pass rfl rfl rfl ?_
      refine AS.pass rfl rfl rfl ?_
      refine AS.pass rfl rfl rfl ?_
      refine AS.pick rfl rfl rfl rfl rfl ?_
      refine AS.assign rfl rfl rfl rfl ?_
      refine AS.opsEnd ?_
      refine AS.retW Try.func106 rfl (.tmp rfl (.nil)) ?_
      refine RWk.drop [_] rfl ⟨?_, rfl⟩
      show AV.bool _ = AV.bool _
      (simp only [relistOk, hall, Bool.and_true, Bool.true_and, Bool.and_false, Bool.false_and, hc0, g44]) <;> rfl
theorem evright_spec (e : Evt) (H : AH) (hs : EvSmall e) : ACalls Try.prog [] 29 [encEv e] H (fun x H' => x = .bool (evRight e) ∧ H' = H) := by
  refine ACalls.enter (n := 18) Try.func29 rfl rfl (Nat.le_of_ble_eq_true rfl) ?_
  refine AS.seq ?_
  refine AS.region rfl ?_
  refine AS.box rfl rfl rfl rfl rfl ?_
  intro b1
  refine AS.assign rfl rfl rfl rfl ?_
  refine AS.opsEnd ?_
  refine AS.seq ?_
  rcases kindCases e.kind with hk | hk | hk | hk | hk
  · refine SA.startG TT29.mixed rfl ?_
    refine SA.rdG 1 [1] rfl (fun G env rest next => AS.fieldAddr rfl rfl rfl rfl TT29.fl50_0 next) ?_
    refine SA.rdG 2 [7] rfl (fun G env rest next => AS.load rfl rfl rfl rfl TT29.ty47 rfl rfl rfl next) ?_
    refine SA.new 0 [] rfl rfl rfl rfl (fun env rest next => AS.callN rfl rfl rfl rfl TT29.en72 (rights_spec _) next) ?_ ⟨[], rfl⟩
    intro b6
    refine SA.rdG 3 [6, 8] rfl (fun G env rest next => AS.lookupZ (m := rightsM) (x := e.kind) (encK := AV.int .i64) (encV := encF) rfl rfl rfl rfl rfl TT29.mp112 keyR_kind TT29.z55 (r := some 104) (by rw [hk]; rfl) rfl next) ?_
    refine SA.rdG 4 [9] rfl (fun G env rest next => AS.move rfl rfl rfl rfl next) ?_
    refine SA.rdG 5 [5] rfl (fun G env rest next => AS.extract rfl rfl rfl rfl rfl next) ?_
    refine SA.rdG 6 [5] rfl (fun G env rest next => AS.extract rfl rfl rfl rfl rfl next) ?_
    refine SA.rdG 7 [10] rfl (fun G env rest next => AS.assign rfl rfl rfl rfl next) ?_
    refine SA.rdG 8 [11] rfl (fun G env rest next => AS.assign rfl rfl rfl rfl next) ?_
    refine SA.done rfl rfl rfl ?_
    refine AS.seq ?_
    refine AS.region rfl ?_
    refine AS.move rfl rfl rfl rfl ?_
    refine AS.move rfl rfl rfl rfl ?_
    refine AS.move rfl rfl rfl rfl ?_
    refine AS.load (y := encEv e) rfl rfl rfl rfl TT29.ty50 rfl rfl rfl ?_
    refine AS.callVP rfl rfl rfl rfl rfl TT29.en104 (rights1_spec e _ hs) ?_
    refine AS.pick rfl rfl rfl rfl rfl ?_
    refine AS.assign rfl rfl rfl rfl ?_
    refine AS.opsEnd ?_
    refine AS.retW Try.func29 rfl (.tmp rfl (.nil)) ?_
    refine RWk.drop [_, _] rfl ⟨?_, rfl⟩
    simp only [evRight, hk]; rfl
  · refine SA.startG TT29.mixed rfl ?_
    refine SA.rdG 1 [1] rfl (fun G env rest next => AS.fieldAddr rfl rfl rfl rfl TT29.fl50_0 next) ?_
    refine SA.rdG 2 [7] rfl (fun G env rest next => AS.load rfl rfl rfl rfl TT29.ty47 rfl rfl rfl next) ?_
    refine SA.new 0 [] rfl rfl rfl rfl (fun env rest next => AS.callN rfl rfl rfl rfl TT29.en72 (rights_spec _) next) ?_ ⟨[], rfl⟩
    intro b6
    refine SA.rdG 3 [6, 8] rfl (fun G env rest next => AS.lookupZ (m := rightsM) (x := e.kind) (encK := AV.int .i64) (encV := encF) rfl rfl rfl rfl rfl TT29.mp112 keyR_kind TT29.z55 (r := some 105) (by rw [hk]; rfl) rfl next) ?_
    refine SA.rdG 4 [9] rfl (fun G env rest next => AS.move rfl rfl rfl rfl next) ?_
    refine SA.rdG 5 [5] rfl (fun G env rest next => AS.extract rfl rfl rfl rfl rfl next) ?_
    refine SA.rdG 6 [5] rfl (fun G env rest next => AS.extract rfl rfl rfl rfl rfl next) ?_
    refine SA.rdG 7 [10] rfl (fun G env rest next => AS.assign rfl rfl rfl rfl next) ?_
    refine SA.rdG 8 [11] rfl (fun G env rest next => AS.assign rfl rfl rfl rfl next) ?_
    refine SA.done rfl rfl rfl ?_
    refine AS.seq ?_
    refine AS.region rfl ?_
    refine AS.move rfl rfl rfl rfl ?_
    refine AS.move rfl rfl rfl rfl ?_
    refine AS.move rfl rfl rfl rfl ?_
    refine AS.load (y := encEv e) rfl rfl rfl rfl TT29.ty50 rfl rfl rfl ?_
    refine AS.callVP rfl rfl rfl rfl rfl TT29.en105 (rights2_spec e _) ?_
    refine AS.pick rfl rfl rfl rfl rfl ?_
    refine AS.assign rfl rfl rfl rfl ?_
    refine AS.opsEnd ?_
    refine AS.retW Try.func29 rfl (.tmp rfl (.nil)) ?_
    refine RWk.drop [_, _] rfl ⟨?_, rfl⟩
    simp only [evRight, hk]; rfl
  · refine SA.startG TT29.mixed rfl ?_
    refine SA.rdG 1 [1] rfl (fun G env rest next => AS.fieldAddr rfl rfl rfl rfl TT29.fl50_0 next) ?_
    refine SA.rdG 2 [7] rfl (fun G env rest next => AS.load rfl rfl rfl rfl TT29.ty47 rfl rfl rfl next) ?_
    refine SA.new 0 [] rfl rfl rfl rfl (fun env rest next => AS.callN rfl rfl rfl rfl TT29.en72 (rights_spec _) next) ?_ ⟨[], rfl⟩
    intro b6
    refine SA.rdG 3 [6, 8] rfl (fun G env rest next => AS.lookupZ (m := rightsM) (x := e.kind) (encK := AV.int .i64) (encV := encF) rfl rfl rfl rfl rfl TT29.mp112 keyR_kind TT29.z55 (r := some 106) (by rw [hk]; rfl) rfl next) ?_
    refine SA.rdG 4 [9] rfl (fun G env rest next => AS.move rfl rfl rfl rfl next) ?_
    refine SA.rdG 5 [5] rfl (fun G env rest next => AS.extract rfl rfl rfl rfl rfl next) ?_
    refine SA.rdG 6 [5] rfl (fun G env rest next => AS.extract rfl rfl rfl rfl rfl next) ?_
    refine SA.rdG 7 [10] rfl (fun G env rest next => AS.assign rfl rfl rfl rfl next) ?_
    refine SA.rdG 8 [11] rfl (fun G env rest next => AS.assign rfl rfl rfl rfl next) ?_
    refine SA.done rfl rfl rfl ?_
    refine AS.seq ?_
    refine AS.region rfl ?_
    refine AS.move rfl rfl rfl rfl ?_
    refine AS.move rfl rfl rfl rfl ?_
    refine AS.move rfl rfl rfl rfl ?_
    refine AS.load (y := encEv e) rfl rfl rfl rfl TT29.ty50 rfl rfl rfl ?_
    refine AS.callVP rfl rfl rfl rfl rfl TT29.en106 (relist_spec e _ hs) ?_
    refine AS.pick rfl rfl rfl rfl rfl ?_
    refine AS.assign rfl rfl rfl rfl ?_
    refine AS.opsEnd ?_
    refine AS.retW Try.func29 rfl (.tmp rfl (.nil)) ?_
    refine RWk.drop [_, _] rfl ⟨?_, rfl⟩
    simp only [evRight, hk]; rfl
  · refine SA.startG TT29.mixed rfl ?_
    refine SA.rdG 1 [1] rfl (fun G env rest next => AS.fieldAddr rfl rfl rfl rfl TT29.fl50_0 next) ?_
    refine SA.rdG 2 [7] rfl (fun G env rest next => AS.load rfl rfl rfl rfl TT29.ty47 rfl rfl rfl next) ?_
    refine SA.new 0 [] rfl rfl rfl rfl (fun env rest next => AS.callN rfl rfl rfl rfl TT29.en72 (rights_spec _) next) ?_ ⟨[], rfl⟩
    intro b6
    refine SA.rdG 3 [6, 8] rfl (fun G env rest next => AS.lookupZ (m := rightsM) (x := e.kind) (encK := AV.int .i64) (encV := encF) rfl rfl rfl rfl rfl TT29.mp112 keyR_kind TT29.z55 (r := some 107) (by rw [hk]; rfl) rfl next) ?_
    refine SA.rdG 4 [9] rfl (fun G env rest next => AS.move rfl rfl rfl rfl next) ?_
    refine SA.rdG 5 [5] rfl (fun G env rest next => AS.extract rfl rfl rfl rfl rfl next) ?_
    refine SA.rdG 6 [5] rfl (fun G env rest next => AS.extract rfl rfl rfl rfl rfl next) ?_
    refine SA.rdG 7 [10] rfl (fun G env rest next => AS.assign rfl rfl rfl rfl next) ?_
    refine SA.rdG 8 [11] rfl (fun G env rest next => AS.assign rfl rfl rfl rfl next) ?_
    refine SA.done rfl rfl rfl ?_
    refine AS.seq ?_
    refine AS.region rfl ?_
    refine AS.move rfl rfl rfl rfl ?_
    refine AS.move rfl rfl rfl rfl ?_
    refine AS.move rfl rfl rfl rfl ?_
    refine AS.load (y := encEv e) rfl rfl rfl rfl TT29.ty50 rfl rfl rfl ?_
    refine AS.callVP rfl rfl rfl rfl rfl TT29.en107 (rights3_spec e _) ?_
    refine AS.pick rfl rfl rfl rfl rfl ?_
    refine AS.assign rfl rfl rfl rfl ?_
    refine AS.opsEnd ?_
    refine AS.retW Try.func29 rfl (.tmp rfl (.nil)) ?_
    refine RWk.drop [_, _] rfl ⟨?_, rfl⟩
    simp only [evRight, hk]; rfl
  · refine SA.startG TT29.mixed rfl ?_
    refine SA.rdG 1 [1] rfl (fun G env rest next => AS.fieldAddr rfl rfl rfl rfl TT29.fl50_0 next) ?_
    refine SA.rdG 2 [7] rfl (fun G env rest next => AS.load rfl rfl rfl rfl TT29.ty47 rfl rfl rfl next) ?_
    refine SA.new 0 [] rfl rfl rfl rfl (fun env rest next => AS.callN rfl rfl rfl rfl TT29.en72 (rights_spec _) next) ?_ ⟨[], rfl⟩
    intro b6
    refine SA.rdG 3 [6, 8] rfl (fun G env rest next => AS.lookupZ (m := rightsM) (x := e.kind) (encK := AV.int .i64) (encV := encF) rfl rfl rfl rfl rfl TT29.mp112 keyR_kind TT29.z55 (r := none) (by simp [mget, rightsM, hk]) rfl next) ?_
    refine SA.rdG 4 [9] rfl (fun G env rest next => AS.move rfl rfl rfl rfl next) ?_
    refine SA.rdG 5 [5] rfl (fun G env rest next => AS.extract rfl rfl rfl rfl rfl next) ?_
    refine SA.rdG 6 [5] rfl (fun G env rest next => AS.extract rfl rfl rfl rfl rfl next) ?_
    refine SA.rdG 7 [10] rfl (fun G env rest next => AS.assign rfl rfl rfl rfl next) ?_
    refine SA.rdG 8 [11] rfl (fun G env rest next => AS.assign rfl rfl rfl rfl next) ?_
    refine SA.done rfl rfl rfl ?_
    refine AS.seq ?_
    refine AS.region rfl ?_
    refine AS.move rfl rfl rfl rfl ?_
    refine AS.move rfl rfl rfl rfl ?_
    refine AS.pass rfl rfl rfl ?_
    refine AS.pass rfl rfl rfl ?_
    refine AS.pass rfl rfl rfl ?_
    refine AS.pick rfl rfl rfl rfl rfl ?_
    refine AS.assign rfl rfl rfl rfl ?_
    refine AS.opsEnd ?_
    refine AS.retW Try.func29 rfl (.tmp rfl (.nil)) ?_
    refine RWk.drop [_, _] rfl ⟨?_, rfl⟩
    simp only [evRight, hk.1, hk.2.1, hk.2.2.1, hk.2.2.2, if_false]; rfl
end Go.Proofs.Ytncecheccihjoaa
/- T30 -/
namespace Go.Proofs.Ytncecheccihjoaa.TT30
open Go Go.Proofs.Fw Go.Shelf
theorem b106 : bldI Go.Proofs.Try.prog 106 = some ([.nilmap, (.int .i64 0), (.slice [] .full)], [(0, 1), (1, 1), (2, 1)]) := by kernel_rfl
theorem b35 : bldI Go.Proofs.Try.prog 35 = some ([(.str ⟨#[]⟩), (.str ⟨#[]⟩), (.str ⟨#[]⟩)], [(0, 1), (1, 1), (2, 1)]) := by kernel_rfl
theorem b38 : bldI Go.Proofs.Try.prog 38 = some ([(.str ⟨#[]⟩), (.str ⟨#[]⟩), (.str ⟨#[]⟩), (.int .i64 0), (.str ⟨#[]⟩), (.bool false), (.bool false), (.slice [] .full)], [(0, 3), (3, 1), (4, 1), (5, 1), (6, 1), (7, 1)]) := by kernel_rfl
theorem b50 : bldI Go.Proofs.Try.prog 50 = some ([(.int .i64 0), (.str ⟨#[]⟩), (.str ⟨#[]⟩), (.str ⟨#[]⟩), (.int .i64 0), (.str ⟨#[]⟩), (.bool false), (.bool false), (.slice [] .full), (.int .i64 0), (.slice [] .full)], [(0, 1), (1, 8), (9, 1), (10, 1)]) := by kernel_rfl
theorem en100 : Enters Go.Proofs.Try.prog 100 := enters_of Go.Proofs.Try.func100 (by kernel_rfl) rfl
theorem en101 : Enters Go.Proofs.Try.prog 101 := enters_of Go.Proofs.Try.func101 (by kernel_rfl) rfl
theorem en102 : Enters Go.Proofs.Try.prog 102 := enters_of Go.Proofs.Try.func102 (by kernel_rfl) rfl
theorem en103 : Enters Go.Proofs.Try.prog 103 := enters_of Go.Proofs.Try.func103 (by kernel_rfl) rfl
theorem en104 : Enters Go.Proofs.Try.prog 104 := enters_of Go.Proofs.Try.func104 (by kernel_rfl) rfl
theorem en105 : Enters Go.Proofs.Try.prog 105 := enters_of Go.Proofs.Try.func105 (by kernel_rfl) rfl
theorem en106 : Enters Go.Proofs.Try.prog 106 := enters_of Go.Proofs.Try.func106 (by kernel_rfl) rfl
theorem en107 : Enters Go.Proofs.Try.prog 107 := enters_of Go.Proofs.Try.func107 (by kernel_rfl) rfl
theorem en12 : Enters Go.Proofs.Try.prog 12 := enters_of Go.Proofs.Try.func12 (by kernel_rfl) rfl
theorem en126 : Enters Go.Proofs.Try.prog 126 := enters_of Go.Proofs.Try.func126 (by kernel_rfl) rfl
theorem en13 : Enters Go.Proofs.Try.prog 13 := enters_of Go.Proofs.Try.func13 (by kernel_rfl) rfl
theorem en133 : Enters Go.Proofs.Try.prog 133 := enters_of Go.Proofs.Try.func133 (by kernel_rfl) rfl
theorem en14 : Enters Go.Proofs.Try.prog 14 := enters_of Go.Proofs.Try.func14 (by kernel_rfl) rfl
theorem en146 : Enters Go.Proofs.Try.prog 146 := enters_of Go.Proofs.Try.func146 (by kernel_rfl) rfl
theorem en147 : Enters Go.Proofs.Try.prog 147 := enters_of Go.Proofs.Try.func147 (by kernel_rfl) rfl
theorem en15 : Enters Go.Proofs.Try.prog 15 := enters_of Go.Proofs.Try.func15 (by kernel_rfl) rfl
theorem en166 : Enters Go.Proofs.Try.prog 166 := enters_of Go.Proofs.Try.func166 (by kernel_rfl) rfl
theorem en175 : Enters Go.Proofs.Try.prog 175 := enters_of Go.Proofs.Try.func175 (by kernel_rfl) rfl
theorem en18 : Enters Go.Proofs.Try.prog 18 := enters_of Go.Proofs.Try.func18 (by kernel_rfl) rfl
theorem en19 : Enters Go.Proofs.Try.prog 19 := enters_of Go.Proofs.Try.func19 (by kernel_rfl) rfl
theorem en20 : Enters Go.Proofs.Try.prog 20 := enters_of Go.Proofs.Try.func20 (by kernel_rfl) rfl
theorem en21 : Enters Go.Proofs.Try.prog 21 := enters_of Go.Proofs.Try.func21 (by kernel_rfl) rfl
theorem en22 : Enters Go.Proofs.Try.prog 22 := enters_of Go.Proofs.Try.func22 (by kernel_rfl) rfl
theorem en24 : Enters Go.Proofs.Try.prog 24 := enters_of Go.Proofs.Try.func24 (by kernel_rfl) rfl
theorem en26 : Enters Go.Proofs.Try.prog 26 := enters_of Go.Proofs.Try.func26 (by kernel_rfl) rfl
theorem en27 : Enters Go.Proofs.Try.prog 27 := enters_of Go.Proofs.Try.func27 (by kernel_rfl) rfl
theorem en28 : Enters Go.Proofs.Try.prog 28 := enters_of Go.Proofs.Try.func28 (by kernel_rfl) rfl
theorem en29 : Enters Go.Proofs.Try.prog 29 := enters_of Go.Proofs.Try.func29 (by kernel_rfl) rfl
theorem en52 : Enters Go.Proofs.Try.prog 52 := enters_of Go.Proofs.Try.func52 (by kernel_rfl) rfl
theorem en61 : Enters Go.Proofs.Try.prog 61 := enters_of Go.Proofs.Try.func61 (by kernel_rfl) rfl
theorem en62 : Enters Go.Proofs.Try.prog 62 := enters_of Go.Proofs.Try.func62 (by kernel_rfl) rfl
theorem en63 : Enters Go.Proofs.Try.prog 63 := enters_of Go.Proofs.Try.func63 (by kernel_rfl) rfl
theorem en64 : Enters Go.Proofs.Try.prog 64 := enters_of Go.Proofs.Try.func64 (by kernel_rfl) rfl
theorem en65 : Enters Go.Proofs.Try.prog 65 := enters_of Go.Proofs.Try.func65 (by kernel_rfl) rfl
theorem en66 : Enters Go.Proofs.Try.prog 66 := enters_of Go.Proofs.Try.func66 (by kernel_rfl) rfl
theorem en68 : Enters Go.Proofs.Try.prog 68 := enters_of Go.Proofs.Try.func68 (by kernel_rfl) rfl
theorem en69 : Enters Go.Proofs.Try.prog 69 := enters_of Go.Proofs.Try.func69 (by kernel_rfl) rfl
theorem en70 : Enters Go.Proofs.Try.prog 70 := enters_of Go.Proofs.Try.func70 (by kernel_rfl) rfl
theorem en71 : Enters Go.Proofs.Try.prog 71 := enters_of Go.Proofs.Try.func71 (by kernel_rfl) rfl
theorem en72 : Enters Go.Proofs.Try.prog 72 := enters_of Go.Proofs.Try.func72 (by kernel_rfl) rfl
theorem fl106_0 : fldI Go.Proofs.Try.prog 106 0 = some 0 := by kernel_rfl
theorem fl106_1 : fldI Go.Proofs.Try.prog 106 1 = some 1 := by kernel_rfl
theorem fl106_2 : fldI Go.Proofs.Try.prog 106 2 = some 2 := by kernel_rfl
theorem fl30_0 : fldI Go.Proofs.Try.prog 30 0 = some 0 := by kernel_rfl
theorem fl38_0 : fldI Go.Proofs.Try.prog 38 0 = some 0 := by kernel_rfl
theorem fl38_1 : fldI Go.Proofs.Try.prog 38 1 = some 3 := by kernel_rfl
theorem fl38_2 : fldI Go.Proofs.Try.prog 38 2 = some 4 := by kernel_rfl
theorem fl38_5 : fldI Go.Proofs.Try.prog 38 5 = some 7 := by kernel_rfl
theorem fl40_0 : fldI Go.Proofs.Try.prog 40 0 = some 0 := by kernel_rfl
theorem fl40_1 : fldI Go.Proofs.Try.prog 40 1 = some 1 := by kernel_rfl
theorem fl50_0 : fldI Go.Proofs.Try.prog 50 0 = some 0 := by kernel_rfl
theorem fl50_1 : fldI Go.Proofs.Try.prog 50 1 = some 1 := by kernel_rfl
theorem fl50_2 : fldI Go.Proofs.Try.prog 50 2 = some 9 := by kernel_rfl
theorem fl50_3 : fldI Go.Proofs.Try.prog 50 3 = some 10 := by kernel_rfl
theorem mixed : Go.Proofs.Try.prog.follows .mixedOrders = true := by kernel_rfl
theorem mp104 : mapI Go.Proofs.Try.prog 104 = some (35, 38) := by kernel_rfl
theorem mp112 : mapI Go.Proofs.Try.prog 112 = some (47, 55) := by kernel_rfl
theorem ps35 : plainS Go.Proofs.Try.prog 35 = true := by kernel_rfl
theorem sl22 : sliI Go.Proofs.Try.prog 22 = some (40, 9, 112) := by kernel_rfl
theorem sl28 : sliI Go.Proofs.Try.prog 28 = some (50, 11, 144) := by kernel_rfl
theorem sl36 : sliI Go.Proofs.Try.prog 36 = some (116, 2, 24) := by kernel_rfl
theorem sl48 : sliI Go.Proofs.Try.prog 48 = some (38, 8, 104) := by kernel_rfl
theorem ty104 : tyI Go.Proofs.Try.prog 104 = some (1, false) := by kernel_rfl
theorem ty2 : tyI Go.Proofs.Try.prog 2 = some (1, false) := by kernel_rfl
theorem ty28 : tyI Go.Proofs.Try.prog 28 = some (1, false) := by kernel_rfl
theorem ty35 : tyI Go.Proofs.Try.prog 35 = some (3, true) := by kernel_rfl
theorem ty36 : tyI Go.Proofs.Try.prog 36 = some (1, false) := by kernel_rfl
theorem ty38 : tyI Go.Proofs.Try.prog 38 = some (8, true) := by kernel_rfl
theorem ty4 : tyI Go.Proofs.Try.prog 4 = some (1, false) := by kernel_rfl
theorem ty40 : tyI Go.Proofs.Try.prog 40 = some (9, true) := by kernel_rfl
theorem ty47 : tyI Go.Proofs.Try.prog 47 = some (1, false) := by kernel_rfl
theorem ty48 : tyI Go.Proofs.Try.prog 48 = some (1, false) := by kernel_rfl
theorem ty50 : tyI Go.Proofs.Try.prog 50 = some (11, true) := by kernel_rfl
theorem ty9 : tyI Go.Proofs.Try.prog 9 = some (1, false) := by kernel_rfl
theorem u180 : Go.Proofs.Try.prog.underlying 180 = some (.int .u64) := by kernel_rfl
theorem u22 : Go.Proofs.Try.prog.underlying 22 = some (.slice 40) := by kernel_rfl
theorem u25 : Go.Proofs.Try.prog.underlying 25 = some (.pointer 106) := by kernel_rfl
theorem u28 : Go.Proofs.Try.prog.underlying 28 = some (.slice 50) := by kernel_rfl
theorem u3 : Go.Proofs.Try.prog.underlying 3 = some (.int .i64) := by kernel_rfl
theorem u35 : Go.Proofs.Try.prog.underlying 35 = some (.struct #[⟨"Kind", 9, 0, false, "", "", 0⟩, ⟨"Space", 9, 1, false, "", "", 16⟩, ⟨"Name", 9, 2, false, "", "", 32⟩]) := by kernel_rfl
theorem u36 : Go.Proofs.Try.prog.underlying 36 = some (.slice 116) := by kernel_rfl
theorem u4 : Go.Proofs.Try.prog.underlying 4 = some (.bool) := by kernel_rfl
theorem u47 : Go.Proofs.Try.prog.underlying 47 = some (.int .i64) := by kernel_rfl
theorem u48 : Go.Proofs.Try.prog.underlying 48 = some (.slice 38) := by kernel_rfl
theorem u50 : Go.Proofs.Try.prog.underlying 50 = some (.struct #[⟨"Kind", 47, 0, false, "", "", 0⟩, ⟨"Object", 38, 1, false, "", "", 8⟩, ⟨"Version", 2, 9, false, "", "", 112⟩, ⟨"Objects", 48, 10, false, "", "", 120⟩]) := by kernel_rfl
theorem z116 : zI Go.Proofs.Try.prog 116 = some (.agg #[(.string ⟨#[]⟩), (.int .i64 0)]) := by kernel_rfl
theorem z38 : zI Go.Proofs.Try.prog 38 = some (.agg #[(.string ⟨#[]⟩), (.string ⟨#[]⟩), (.string ⟨#[]⟩), (.int .i64 0), (.string ⟨#[]⟩), (.bool false), (.bool false), (.slice none 0 0)]) := by kernel_rfl
theorem z50 : zI Go.Proofs.Try.prog 50 = some (.agg #[(.int .i64 0), (.string ⟨#[]⟩), (.string ⟨#[]⟩), (.string ⟨#[]⟩), (.int .i64 0), (.string ⟨#[]⟩), (.bool false), (.bool false), (.slice none 0 0), (.int .i64 0), (.slice none 0 0)]) := by kernel_rfl
theorem z55 : zI Go.Proofs.Try.prog 55 = some .nilFunc := by kernel_rfl
end Go.Proofs.Ytncecheccihjoaa.TT30
namespace Go.Proofs.Ytncecheccihjoaa
open Go Go.Proofs.Fw Go.Proofs
set_option linter.unusedVariables false
set_option linter.unusedSimpArgs false
set_option maxRecDepth 20000
set_option maxHeartbeats 4000000
theorem valsLen2 {M : List (Key × Object)} {L : List Evt} (hi : LogOk M L) : (sortO (valsOf M)).length ≤ L.length := by rw [sortO_len, valsOf, List.length_map]; exact hi.inv.size

theorem rises09 (l : List Wr) (H : AH) : ACalls Try.prog [] 4 [.slice (l.map encWr) .any] H (fun x _ => x = .bool true) := by
  refine ACalls.enter (n := 143) Try.func4 rfl rfl (Nat.le_of_ble_eq_true rfl) ?_
  refine AS.seq ?_
  refine AS.region rfl ?_
  refine AS.assign rfl rfl rfl rfl ?_
  refine AS.opsEnd ?_
  refine AS.seq ?_
  refine AS.region rfl ?_
  refine AS.move rfl rfl rfl rfl ?_
  refine AS.callP rfl rfl rfl rfl TT30.en12 (fits09 _ _) ?_
  refine AS.assign rfl rfl rfl rfl ?_
  refine AS.opsEnd ?_
  refine AS.seq ?_
  refine AS.seq ?_
  refine AS.region rfl ?_
  refine AS.move rfl rfl rfl rfl ?_
  refine AS.not rfl rfl rfl rfl rfl ?_
  refine AS.opsEnd ?_
  refine AS.cond rfl (fun hc0 => ?_) (fun hc0 => ?_)
  · rw [Bool.not_eq_true'] at hc0
    refine AS.seq ?_
    refine AS.region rfl ?_
    refine AS.callP rfl rfl rfl rfl TT30.en13 (alive09 _) ?_
    refine AS.assign rfl rfl rfl rfl ?_
    refine AS.opsEnd ?_
    refine AS.retW Try.func4 rfl (.tmp rfl (.nil)) ?_
    exact RWk.drop [] rfl rfl
  · rw [Bool.not_eq_false'] at hc0
    refine AS.skip ?_
    refine AS.seq ?_
    refine AS.region rfl ?_
    refine AS.call rfl rfl rfl rfl TT30.en14 (new_spec2 _) ?_
    rintro _ _ ⟨s, m, rfl, rfl⟩
    refine AS.assign rfl rfl rfl rfl ?_
    refine AS.opsEnd ?_
    obtain ⟨hl60, hfit⟩ := fits_get hc0
    refine AS.seq ?_
    refine AS.region rfl ?_
    refine AS.assign rfl rfl rfl rfl ?_
    refine AS.opsEnd ?_
    refine AS.seq ?_
    refine AS.seq ?_
    refine AS.region rfl ?_
    refine AS.assign rfl rfl rfl rfl ?_
    refine AS.opsEnd ?_
    refine AS.block ?_
    refine AS.loopI (α := Nat × Nat × List (Key × Object) × List Evt × Tok) (fun z => z.1 ≤ l.length ∧ LogOk z.2.2.1 z.2.2.2.1 ∧ z.2.2.2.1.length ≤ z.1 ∧ z.2.2.2.2.grows = true ∧ PutOk z.2.2.2.1 ∧ z.2.1 = z.2.2.2.1.length) (fun z => l.length - z.1) (fun z => [(5, .int .i64 z.2.1), (6, .int .i64 z.1)]) [(0, _), (4, _)] (fun z => stH s m (z.2.2.2.1.length : Int) z.2.2.1 z.2.2.2.1 z.2.2.2.2 H) (0, 0, [], [], .full) ⟨Nat.zero_le _, LogOk.start, Nat.le_refl _, rfl, (fun e he => by cases he), rfl⟩ (.cons rfl (.cons rfl (.cons rfl (.cons rfl (.nil))))) rfl (fun z hI l0_ih => ?_)
    obtain ⟨i, n, M, L, tk⟩ := z
    dsimp only at hI l0_ih ⊢
    obtain ⟨hi0, hok, hLi, htk, hpo, rfl⟩ := hI
    refine AS.seq ?_
    refine AS.seq ?_
    refine AS.region rfl ?_
    refine AS.move rfl rfl rfl rfl ?_
    refine AS.move rfl rfl rfl rfl ?_
    refine AS.len rfl rfl rfl rfl (by first | exact lenT_sl TT30.u22 | exact lenT_ms TT30.u22 | (rw [TT30.u22]; rfl)) rfl (lenMap _ _) ?_
    refine AS.bin rfl rfl rfl rfl rfl (BinR.lss rfl) ?_
    refine AS.opsEnd ?_
    refine AS.cond rfl (fun hc1 => ?_) (fun hc1 => ?_)
    · have hi : i < l.length := by simp only [decide_eq_true_eq] at hc1; omega
      obtain ⟨w, hw⟩ := getAt hi
      have hwf := hfit i w hw
      have hch : w.o.charge.length ≤ 1000000 := Nat.le_trans hwf.2.2.1 (by decide)
      have hst := hok.step hwf
      have hps := hpo.step w hok.inv.nodup
      have hlen := doR_len M L w
      have hcs := doR_cases M L w hok.inv.nodup
      refine AS.skip ?_
      refine AS.seq ?_
      refine AS.block ?_
      refine AS.seq ?_
      refine AS.region rfl ?_
      refine AS.move rfl rfl rfl rfl ?_
      refine AS.move rfl rfl rfl rfl ?_
      refine AS.move rfl rfl rfl rfl ?_
      refine AS.indexAddr rfl rfl rfl rfl rfl TT30.sl22 (Int.natCast_nonneg _) (map_get _ _ hw) rfl ?_
      refine AS.iload (y := encWr w) rfl rfl rfl rfl TT30.ty40 rfl rfl rfl ?_
      refine AS.call rfl rfl rfl rfl TT30.en15 (do_spec s m M L tk w _ htk (by omega) hch) ?_
      rintro _ _ ⟨rfl, tk1, htk1, rfl⟩
      obtain ⟨R, hR⟩ : ∃ R, R = doR M L w := ⟨_, rfl⟩
      rw [← hR] at hst hps hlen hcs ⊢
      have hlog : ∀ e ∈ R.L, e.objs.length ≤ 1000000 ∧ e.obj.charge.length ≤ 1000000 ∧ ∀ o ∈ e.objs, o.charge.length ≤ 1000000 := fun e he => by
        have h1 := hst.fit e he
        rw [h1.objs]
        exact ⟨Nat.zero_le _, Nat.le_trans h1.charge (by decide), fun o ho => by cases ho⟩
      refine AS.move rfl rfl rfl rfl ?_
      refine AS.extract rfl rfl rfl rfl rfl ?_
      refine AS.extract rfl rfl rfl rfl rfl ?_
      refine AS.assign rfl rfl rfl rfl ?_
      refine AS.assign rfl rfl rfl rfl ?_
      refine AS.opsEnd ?_
      refine AS.seq ?_
      refine AS.seq ?_
      rcases hcs with ⟨hg, he, hv, hL, hm, hkr⟩ | ⟨hg, he, hv, hL, hm, hkr⟩ | ⟨he, hv, hL⟩
      · refine AS.region rfl ?_
        refine AS.move rfl rfl rfl rfl ?_
        refine AS.bin rfl rfl rfl rfl rfl (BinR.eql (c := true) (by simp [he])) ?_
        refine AS.opsEnd ?_
        refine AS.condT rfl ?_
        refine AS.region rfl ?_
        refine AS.move rfl rfl rfl rfl ?_
        refine AS.bin rfl rfl rfl rfl rfl (BinR.add (c := ((L.length + 1 : Nat) : Int)) (w64 (by omega) (by omega))) ?_
        refine AS.assign rfl rfl rfl rfl ?_
        refine AS.opsEnd ?_
        refine AS.seq ?_
        refine AS.region rfl ?_
        refine AS.move rfl rfl rfl rfl ?_
        have hle : R.L.length = L.length + 1 := by rw [hL]; simp
        refine AS.callP rfl rfl rfl rfl TT30.en26 (log_spec s m _ R.M R.L tk1 _ (by omega) hlog) ?_
        refine AS.assign rfl rfl rfl rfl ?_
        refine AS.opsEnd ?_
        refine AS.seq ?_
        refine AS.seq ?_
        refine AS.region rfl ?_
        refine AS.move rfl rfl rfl rfl ?_
        refine AS.bin rfl rfl rfl rfl rfl (BinR.eql (c := true) (by simp [he])) ?_
        refine AS.move rfl rfl rfl rfl ?_
        refine AS.move rfl rfl rfl rfl ?_
        refine AS.move rfl rfl rfl rfl ?_
        refine AS.bin rfl rfl rfl rfl rfl (BinR.neq (c := false) (by simp [hv])) ?_
        refine AS.pick rfl rfl rfl rfl rfl ?_
        refine AS.move rfl rfl rfl rfl ?_
        refine AS.move rfl rfl rfl rfl ?_
        refine AS.bin rfl rfl rfl rfl rfl (BinR.neq (c := false) (by simp [he])) ?_
        refine AS.move rfl rfl rfl rfl ?_
        refine AS.pass rfl rfl rfl ?_
        refine AS.pass rfl rfl rfl ?_
        refine AS.pick rfl rfl rfl rfl rfl ?_
        refine AS.pick rfl rfl rfl rfl rfl ?_
        refine AS.move rfl rfl rfl rfl ?_
        refine AS.move rfl rfl rfl rfl ?_
        refine AS.callP rfl rfl rfl rfl TT30.en24 (version_spec s m _ R.M R.L tk1 _) ?_
        refine AS.move rfl rfl rfl rfl ?_
        refine AS.bin rfl rfl rfl rfl rfl (BinR.neq (c := false) (by simp [hle])) ?_
        refine AS.pick rfl rfl rfl rfl rfl ?_
        refine AS.move rfl rfl rfl rfl ?_
        refine AS.move rfl rfl rfl rfl ?_
        refine AS.len rfl rfl rfl rfl (by first | exact lenT_sl TT30.u28 | exact lenT_ms TT30.u28 | (rw [TT30.u28]; rfl)) rfl (lenMap _ _) ?_
        refine AS.move rfl rfl rfl rfl ?_
        refine AS.bin rfl rfl rfl rfl rfl (BinR.neq (c := false) (by simp [hle])) ?_
        refine AS.pick rfl rfl rfl rfl rfl ?_
        refine AS.opsEnd ?_
        refine AS.condF rfl ?_
        refine AS.skip ?_
        refine AS.seq ?_
        refine AS.seq ?_
        refine AS.region rfl ?_
        refine AS.move rfl rfl rfl rfl ?_
        refine AS.bin rfl rfl rfl rfl rfl (BinR.neq (c := false) (by simp [he])) ?_
        refine AS.opsEnd ?_
        refine AS.condF rfl ?_
        refine AS.skip ?_
        refine AS.seq ?_
        refine AS.region rfl ?_
        refine AS.move rfl rfl rfl rfl ?_
        refine AS.move rfl rfl rfl rfl ?_
        refine AS.len rfl rfl rfl rfl (by first | exact lenT_sl TT30.u28 | exact lenT_ms TT30.u28 | (rw [TT30.u28]; rfl)) rfl (lenMap _ _) ?_
        refine AS.bin rfl rfl rfl rfl rfl (BinR.sub (w64 (by omega) (by omega))) ?_
        have hev : R.L[((R.L.length : Int) - 1).toNat]? = some (evDel w.o.key L.length) := by
          have e1 : ((R.L.length : Int) - 1).toNat = L.length := by omega
          rw [e1, hL]; simp
        refine AS.indexAddr rfl rfl rfl rfl rfl TT30.sl28 (by omega) (map_get _ _ hev) rfl ?_
        refine AS.iload (y := encEv (evDel w.o.key L.length)) rfl rfl rfl rfl TT30.ty50 rfl rfl rfl ?_
        refine AS.allocZ rfl rfl rfl TT30.z50 rfl ?_
        intro b10
        refine AS.store rfl rfl rfl rfl rfl rfl TT30.ty50 rfl rfl ?_
        refine AS.opsEnd ?_
        refine AS.seq ?_
        refine AS.region rfl ?_
        refine AS.move rfl rfl rfl rfl ?_
        refine AS.move rfl rfl rfl rfl ?_
        refine AS.move rfl rfl rfl rfl ?_
        refine AS.indexAddr rfl rfl rfl rfl rfl TT30.sl22 (Int.natCast_nonneg _) (map_get _ _ hw) rfl ?_
        refine AS.ifieldAddr rfl rfl rfl rfl TT30.fl40_1 ?_
        refine AS.ifieldAddr rfl rfl rfl rfl TT30.fl38_0 ?_
        refine AS.iload (y := encKey w.o.key) rfl rfl rfl rfl TT30.ty35 rfl rfl rfl ?_
        refine AS.callP (v := .tup [encObj (gotO R.M w.o.key), .bool false]) rfl rfl rfl rfl TT30.en18 (ACalls.permP (H1 := stH s m _ R.M R.L tk1 ([_] ++ _)) (by have h := get_spec s m (R.L.length : Int) R.M R.L tk1 w.o.key; rw [hm] at h; exact h _ (fun o ho => by cases ho)) (stPerm [_] s m _ R.M R.L tk1 _)) ?_
        refine AS.move rfl rfl rfl rfl ?_
        refine AS.extract rfl rfl rfl rfl rfl ?_
        refine AS.extract rfl rfl rfl rfl rfl ?_
        refine AS.allocZ rfl rfl rfl TT30.z38 rfl ?_
        intro b11
        refine AS.store rfl rfl rfl rfl rfl rfl TT30.ty38 rfl rfl ?_
        refine AS.assign rfl rfl rfl rfl ?_
        refine AS.opsEnd ?_
        refine AS.seq ?_
        refine SA.start1 TT30.mixed rfl ?_
        refine SA.rd 0 [10] rfl (fun env rest next => AS.fieldAddr rfl rfl rfl rfl TT30.fl50_1 next) ?_
        refine SA.rd 1 [86] rfl (fun env rest next => AS.fieldAddr rfl rfl rfl rfl TT30.fl38_1 next) ?_
        refine SA.rd 2 [87] rfl (fun env rest next => AS.load rfl rfl rfl rfl TT30.ty2 rfl rfl rfl next) ?_
        refine SA.rd 3 [5] rfl (fun env rest next => AS.move rfl rfl rfl rfl next) ?_
        refine SA.rd 4 [88, 89] rfl (fun env rest next => AS.bin rfl rfl rfl rfl rfl (BinR.neq (c := false) (by simp [evDel, evPut, Object.wv])) next) ?_
        refine SA.rd 5 [90] rfl (fun env rest next => AS.move rfl rfl rfl rfl next) ?_
        refine SA.rd 6 [10, 91] rfl (fun env rest next => AS.load (y := encEv (evDel w.o.key L.length)) rfl rfl rfl rfl TT30.ty50 rfl rfl rfl next) ?_
        refine SA.rd 7 [91, 92] rfl (fun env rest next => AS.callP rfl rfl rfl rfl TT30.en29 (ACalls.eqB (evright_spec (evDel w.o.key L.length) _ ⟨Nat.zero_le _, Nat.zero_le _, fun o ho => by cases ho⟩) (evDel_right hkr)) next) ?_
        refine SA.rd 8 [91, 93] rfl (fun env rest next => AS.not rfl rfl rfl rfl rfl next) ?_
        refine SA.rd 9 [91, 94] rfl (fun env rest next => AS.pick rfl rfl rfl rfl rfl next) ?_
        refine SA.rd 10 [95] rfl (fun env rest next => AS.move rfl rfl rfl rfl next) ?_
        refine SA.rd 11 [10, 96] rfl (fun env rest next => AS.fieldAddr rfl rfl rfl rfl TT30.fl50_1 next) ?_
        refine SA.rd 12 [96, 97] rfl (fun env rest next => AS.fieldAddr rfl rfl rfl rfl TT30.fl38_0 next) ?_
        refine SA.rd 13 [96, 98] rfl (fun env rest next => AS.load (y := encKey w.o.key) rfl rfl rfl rfl TT30.ty35 rfl rfl rfl next) ?_
        refine SA.rd 14 [0, 96] rfl (fun env rest next => AS.move rfl rfl rfl rfl next) ?_
        refine SA.rd 15 [6, 96] rfl (fun env rest next => AS.move rfl rfl rfl rfl next) ?_
        refine SA.rd 16 [96, 100, 101] rfl (fun env rest next => AS.indexAddr rfl rfl rfl rfl rfl TT30.sl22 (Int.natCast_nonneg _) (map_get _ _ hw) rfl next) ?_
        refine SA.rd 17 [96, 102] rfl (fun env rest next => AS.ifieldAddr rfl rfl rfl rfl TT30.fl40_1 next) ?_
        refine SA.rd 18 [96, 103] rfl (fun env rest next => AS.ifieldAddr rfl rfl rfl rfl TT30.fl38_0 next) ?_
        refine SA.rd 19 [96, 104] rfl (fun env rest next => AS.iload (y := encKey w.o.key) rfl rfl rfl rfl TT30.ty35 rfl rfl rfl next) ?_
        refine SA.rd 20 [96, 99, 105] rfl (fun env rest next => AS.bin rfl rfl rfl rfl rfl (BinR.stneq TT30.ps35 (by rw [TT30.u35]; rfl) (c := false) ((congrArg not (keyEq w.o.key w.o.key)).trans (by simp))) next) ?_
        refine SA.rd 21 [96, 106] rfl (fun env rest next => AS.pick rfl rfl rfl rfl rfl next) ?_
        refine SA.rd 22 [107] rfl (fun env rest next => AS.move rfl rfl rfl rfl next) ?_
        refine SA.rd 23 [10, 108] rfl (fun env rest next => AS.fieldAddr rfl rfl rfl rfl TT30.fl50_0 next) ?_
        refine SA.rd 24 [108, 109] rfl (fun env rest next => AS.load rfl rfl rfl rfl TT30.ty47 rfl rfl rfl next) ?_
        refine SA.rd 25 [108, 110] rfl (fun env rest next => AS.bin rfl rfl rfl rfl rfl (BinR.eql (c := true) rfl) next) ?_
        refine SA.rd 26 [0, 108] rfl (fun env rest next => AS.move rfl rfl rfl rfl next) ?_
        refine SA.rd 27 [6, 108] rfl (fun env rest next => AS.move rfl rfl rfl rfl next) ?_
        refine SA.rd 28 [108, 112, 113] rfl (fun env rest next => AS.indexAddr rfl rfl rfl rfl rfl TT30.sl22 (Int.natCast_nonneg _) (map_get _ _ hw) rfl next) ?_
        refine SA.rd 29 [108, 114] rfl (fun env rest next => AS.ifieldAddr rfl rfl rfl rfl TT30.fl40_0 next) ?_
        refine SA.rd 30 [108, 115] rfl (fun env rest next => AS.iload rfl rfl rfl rfl TT30.ty4 rfl rfl rfl next) ?_
        refine SA.rd 31 [108, 111, 116] rfl (fun env rest next => AS.bin rfl rfl rfl rfl rfl (BinR.bneq TT30.u4 (c := false) (by simp [hg])) next) ?_
        refine SA.rd 32 [108, 117] rfl (fun env rest next => AS.pick rfl rfl rfl rfl rfl next) ?_
        refine SA.rd 33 [118] rfl (fun env rest next => AS.move rfl rfl rfl rfl next) ?_
        refine SA.rd 34 [12, 119] rfl (fun env rest next => AS.move rfl rfl rfl rfl next) ?_
        refine SA.rd 35 [0, 119] rfl (fun env rest next => AS.move rfl rfl rfl rfl next) ?_
        refine SA.rd 36 [6, 119] rfl (fun env rest next => AS.move rfl rfl rfl rfl next) ?_
        refine SA.rd 37 [119, 121, 122] rfl (fun env rest next => AS.indexAddr rfl rfl rfl rfl rfl TT30.sl22 (Int.natCast_nonneg _) (map_get _ _ hw) rfl next) ?_
        refine SA.rd 38 [119, 123] rfl (fun env rest next => AS.ifieldAddr rfl rfl rfl rfl TT30.fl40_0 next) ?_
        refine SA.rd 39 [119, 124] rfl (fun env rest next => AS.iload rfl rfl rfl rfl TT30.ty4 rfl rfl rfl next) ?_
        refine SA.rd 40 [119, 120, 125] rfl (fun env rest next => AS.bin rfl rfl rfl rfl rfl (BinR.beql TT30.u4 (c := false) (by simp [hg])) next) ?_
        refine SA.rd 41 [119, 126] rfl (fun env rest next => AS.pick rfl rfl rfl rfl rfl next) ?_
        refine SA.rd 42 [127] rfl (fun env rest next => AS.move rfl rfl rfl rfl next) ?_
        refine SA.rd 43 [12, 128] rfl (fun env rest next => AS.move rfl rfl rfl rfl next) ?_
        refine SA.rd 44 [128, 129] rfl (fun env rest next => AS.move rfl rfl rfl rfl next) ?_
        refine SA.rd 45 [11, 130] rfl (fun env rest next => AS.pass rfl rfl rfl next) ?_
        refine SA.rd 46 [130, 131] rfl (fun env rest next => AS.pass rfl rfl rfl next) ?_
        refine SA.rd 47 [5, 130] rfl (fun env rest next => AS.pass rfl rfl rfl next) ?_
        refine SA.rd 48 [130, 132, 133] rfl (fun env rest next => AS.pass rfl rfl rfl next) ?_
        refine SA.rd 49 [128, 130, 134] rfl (fun env rest next => AS.pick rfl rfl rfl rfl rfl next) ?_
        refine SA.rd 50 [128, 135] rfl (fun env rest next => AS.pick rfl rfl rfl rfl rfl next) ?_
        refine SA.done rfl rfl rfl ?_
        refine AS.condF rfl ?_
        refine AS.skip ?_
        refine AS.inBlock ?_
        refine AS.region rfl ?_
        refine AS.move rfl rfl rfl rfl ?_
        refine AS.bin rfl rfl rfl rfl rfl (BinR.add (w64 (by omega) (by omega))) ?_
        refine AS.assign rfl rfl rfl rfl ?_
        refine AS.opsEnd ?_
        exact AS.nextI (l0_ih (i + 1, L.length + 1, R.M, R.L, tk1) ⟨hi, hst, by dsimp only; omega, htk1, hps, hle.symm⟩ (by dsimp only; omega)) [_, _] (.cons rfl (.cons rfl (.cons rfl (.cons rfl (.nil))))) rfl
      · refine AS.region rfl ?_
        refine AS.move rfl rfl rfl rfl ?_
        refine AS.bin rfl rfl rfl rfl rfl (BinR.eql (c := true) (by simp [he])) ?_
        refine AS.opsEnd ?_
        refine AS.condT rfl ?_
        refine AS.region rfl ?_
        refine AS.move rfl rfl rfl rfl ?_
        refine AS.bin rfl rfl rfl rfl rfl (BinR.add (c := ((L.length + 1 : Nat) : Int)) (w64 (by omega) (by omega))) ?_
        refine AS.assign rfl rfl rfl rfl ?_
        refine AS.opsEnd ?_
        refine AS.seq ?_
        refine AS.region rfl ?_
        refine AS.move rfl rfl rfl rfl ?_
        have hle : R.L.length = L.length + 1 := by rw [hL]; simp
        refine AS.callP rfl rfl rfl rfl TT30.en26 (log_spec s m _ R.M R.L tk1 _ (by omega) hlog) ?_
        refine AS.assign rfl rfl rfl rfl ?_
        refine AS.opsEnd ?_
        refine AS.seq ?_
        refine AS.seq ?_
        refine AS.region rfl ?_
        refine AS.move rfl rfl rfl rfl ?_
        refine AS.bin rfl rfl rfl rfl rfl (BinR.eql (c := true) (by simp [he])) ?_
        refine AS.move rfl rfl rfl rfl ?_
        refine AS.move rfl rfl rfl rfl ?_
        refine AS.move rfl rfl rfl rfl ?_
        refine AS.bin rfl rfl rfl rfl rfl (BinR.neq (c := false) (by simp [hv])) ?_
        refine AS.pick rfl rfl rfl rfl rfl ?_
        refine AS.move rfl rfl rfl rfl ?_
        refine AS.move rfl rfl rfl rfl ?_
        refine AS.bin rfl rfl rfl rfl rfl (BinR.neq (c := false) (by simp [he])) ?_
        refine AS.move rfl rfl rfl rfl ?_
        refine AS.pass rfl rfl rfl ?_
        refine AS.pass rfl rfl rfl ?_
        refine AS.pick rfl rfl rfl rfl rfl ?_
        refine AS.pick rfl rfl rfl rfl rfl ?_
        refine AS.move rfl rfl rfl rfl ?_
        refine AS.move rfl rfl rfl rfl ?_
        refine AS.callP rfl rfl rfl rfl TT30.en24 (version_spec s m _ R.M R.L tk1 _) ?_
        refine AS.move rfl rfl rfl rfl ?_
        refine AS.bin rfl rfl rfl rfl rfl (BinR.neq (c := false) (by simp [hle])) ?_
        refine AS.pick rfl rfl rfl rfl rfl ?_
        refine AS.move rfl rfl rfl rfl ?_
        refine AS.move rfl rfl rfl rfl ?_
        refine AS.len rfl rfl rfl rfl (by first | exact lenT_sl TT30.u28 | exact lenT_ms TT30.u28 | (rw [TT30.u28]; rfl)) rfl (lenMap _ _) ?_
        refine AS.move rfl rfl rfl rfl ?_
        refine AS.bin rfl rfl rfl rfl rfl (BinR.neq (c := false) (by simp [hle])) ?_
        refine AS.pick rfl rfl rfl rfl rfl ?_
        refine AS.opsEnd ?_
        refine AS.condF rfl ?_
        refine AS.skip ?_
        refine AS.seq ?_
        refine AS.seq ?_
        refine AS.region rfl ?_
        refine AS.move rfl rfl rfl rfl ?_
        refine AS.bin rfl rfl rfl rfl rfl (BinR.neq (c := false) (by simp [he])) ?_
        refine AS.opsEnd ?_
        refine AS.condF rfl ?_
        refine AS.skip ?_
        refine AS.seq ?_
        refine AS.region rfl ?_
        refine AS.move rfl rfl rfl rfl ?_
        refine AS.move rfl rfl rfl rfl ?_
        refine AS.len rfl rfl rfl rfl (by first | exact lenT_sl TT30.u28 | exact lenT_ms TT30.u28 | (rw [TT30.u28]; rfl)) rfl (lenMap _ _) ?_
        refine AS.bin rfl rfl rfl rfl rfl (BinR.sub (w64 (by omega) (by omega))) ?_
        have hev : R.L[((R.L.length : Int) - 1).toNat]? = some (evPut w.o L.length) := by
          have e1 : ((R.L.length : Int) - 1).toNat = L.length := by omega
          rw [e1, hL]; simp
        refine AS.indexAddr rfl rfl rfl rfl rfl TT30.sl28 (by omega) (map_get _ _ hev) rfl ?_
        refine AS.iload (y := encEv (evPut w.o L.length)) rfl rfl rfl rfl TT30.ty50 rfl rfl rfl ?_
        refine AS.allocZ rfl rfl rfl TT30.z50 rfl ?_
        intro b10
        refine AS.store rfl rfl rfl rfl rfl rfl TT30.ty50 rfl rfl ?_
        refine AS.opsEnd ?_
        refine AS.seq ?_
        refine AS.region rfl ?_
        refine AS.move rfl rfl rfl rfl ?_
        refine AS.move rfl rfl rfl rfl ?_
        refine AS.move rfl rfl rfl rfl ?_
        refine AS.indexAddr rfl rfl rfl rfl rfl TT30.sl22 (Int.natCast_nonneg _) (map_get _ _ hw) rfl ?_
        refine AS.ifieldAddr rfl rfl rfl rfl TT30.fl40_1 ?_
        refine AS.ifieldAddr rfl rfl rfl rfl TT30.fl38_0 ?_
        refine AS.iload (y := encKey w.o.key) rfl rfl rfl rfl TT30.ty35 rfl rfl rfl ?_
        refine AS.callP (v := .tup [encObj (w.o.wv ((L.length : Int) + 1)), .bool true]) rfl rfl rfl rfl TT30.en18 (ACalls.permP (H1 := stH s m _ R.M R.L tk1 ([_] ++ _)) (by have h := get_spec s m (R.L.length : Int) R.M R.L tk1 w.o.key; simp only [gotO] at h; rw [hm] at h; exact h _ (fun o ho => by cases ho; exact hch)) (stPerm [_] s m _ R.M R.L tk1 _)) ?_
        refine AS.move rfl rfl rfl rfl ?_
        refine AS.extract rfl rfl rfl rfl rfl ?_
        refine AS.extract rfl rfl rfl rfl rfl ?_
        refine AS.allocZ rfl rfl rfl TT30.z38 rfl ?_
        intro b11
        refine AS.store rfl rfl rfl rfl rfl rfl TT30.ty38 rfl rfl ?_
        refine AS.assign rfl rfl rfl rfl ?_
        refine AS.opsEnd ?_
        refine AS.seq ?_
        refine SA.start1 TT30.mixed rfl ?_
        refine SA.rd 0 [10] rfl (fun env rest next => AS.fieldAddr rfl rfl rfl rfl TT30.fl50_1 next) ?_
        refine SA.rd 1 [86] rfl (fun env rest next => AS.fieldAddr rfl rfl rfl rfl TT30.fl38_1 next) ?_
        refine SA.rd 2 [87] rfl (fun env rest next => AS.load rfl rfl rfl rfl TT30.ty2 rfl rfl rfl next) ?_
        refine SA.rd 3 [5] rfl (fun env rest next => AS.move rfl rfl rfl rfl next) ?_
        refine SA.rd 4 [88, 89] rfl (fun env rest next => AS.bin rfl rfl rfl rfl rfl (BinR.neq (c := false) (by simp [evDel, evPut, Object.wv])) next) ?_
        refine SA.rd 5 [90] rfl (fun env rest next => AS.move rfl rfl rfl rfl next) ?_
        refine SA.rd 6 [10, 91] rfl (fun env rest next => AS.load (y := encEv (evPut w.o L.length)) rfl rfl rfl rfl TT30.ty50 rfl rfl rfl next) ?_
        refine SA.rd 7 [91, 92] rfl (fun env rest next => AS.callP rfl rfl rfl rfl TT30.en29 (ACalls.eqB (evright_spec (evPut w.o L.length) _ ⟨hch, Nat.zero_le _, fun o ho => by cases ho⟩) (evPut_right hkr)) next) ?_
        refine SA.rd 8 [91, 93] rfl (fun env rest next => AS.not rfl rfl rfl rfl rfl next) ?_
        refine SA.rd 9 [91, 94] rfl (fun env rest next => AS.pick rfl rfl rfl rfl rfl next) ?_
        refine SA.rd 10 [95] rfl (fun env rest next => AS.move rfl rfl rfl rfl next) ?_
        refine SA.rd 11 [10, 96] rfl (fun env rest next => AS.fieldAddr rfl rfl rfl rfl TT30.fl50_1 next) ?_
        refine SA.rd 12 [96, 97] rfl (fun env rest next => AS.fieldAddr rfl rfl rfl rfl TT30.fl38_0 next) ?_
        refine SA.rd 13 [96, 98] rfl (fun env rest next => AS.load (y := encKey w.o.key) rfl rfl rfl rfl TT30.ty35 rfl rfl rfl next) ?_
        refine SA.rd 14 [0, 96] rfl (fun env rest next => AS.move rfl rfl rfl rfl next) ?_
        refine SA.rd 15 [6, 96] rfl (fun env rest next => AS.move rfl rfl rfl rfl next) ?_
        refine SA.rd 16 [96, 100, 101] rfl (fun env rest next => AS.indexAddr rfl rfl rfl rfl rfl TT30.sl22 (Int.natCast_nonneg _) (map_get _ _ hw) rfl next) ?_
        refine SA.rd 17 [96, 102] rfl (fun env rest next => AS.ifieldAddr rfl rfl rfl rfl TT30.fl40_1 next) ?_
        refine SA.rd 18 [96, 103] rfl (fun env rest next => AS.ifieldAddr rfl rfl rfl rfl TT30.fl38_0 next) ?_
        refine SA.rd 19 [96, 104] rfl (fun env rest next => AS.iload (y := encKey w.o.key) rfl rfl rfl rfl TT30.ty35 rfl rfl rfl next) ?_
        refine SA.rd 20 [96, 99, 105] rfl (fun env rest next => AS.bin rfl rfl rfl rfl rfl (BinR.stneq TT30.ps35 (by rw [TT30.u35]; rfl) (c := false) ((congrArg not (keyEq w.o.key w.o.key)).trans (by simp))) next) ?_
        refine SA.rd 21 [96, 106] rfl (fun env rest next => AS.pick rfl rfl rfl rfl rfl next) ?_
        refine SA.rd 22 [107] rfl (fun env rest next => AS.move rfl rfl rfl rfl next) ?_
        refine SA.rd 23 [10, 108] rfl (fun env rest next => AS.fieldAddr rfl rfl rfl rfl TT30.fl50_0 next) ?_
        refine SA.rd 24 [108, 109] rfl (fun env rest next => AS.load rfl rfl rfl rfl TT30.ty47 rfl rfl rfl next) ?_
        refine SA.rd 25 [108, 110] rfl (fun env rest next => AS.bin rfl rfl rfl rfl rfl (BinR.eql (c := false) rfl) next) ?_
        refine SA.rd 26 [0, 108] rfl (fun env rest next => AS.move rfl rfl rfl rfl next) ?_
        refine SA.rd 27 [6, 108] rfl (fun env rest next => AS.move rfl rfl rfl rfl next) ?_
        refine SA.rd 28 [108, 112, 113] rfl (fun env rest next => AS.indexAddr rfl rfl rfl rfl rfl TT30.sl22 (Int.natCast_nonneg _) (map_get _ _ hw) rfl next) ?_
        refine SA.rd 29 [108, 114] rfl (fun env rest next => AS.ifieldAddr rfl rfl rfl rfl TT30.fl40_0 next) ?_
        refine SA.rd 30 [108, 115] rfl (fun env rest next => AS.iload rfl rfl rfl rfl TT30.ty4 rfl rfl rfl next) ?_
        refine SA.rd 31 [108, 111, 116] rfl (fun env rest next => AS.bin rfl rfl rfl rfl rfl (BinR.bneq TT30.u4 (c := false) (by simp [hg])) next) ?_
        refine SA.rd 32 [108, 117] rfl (fun env rest next => AS.pick rfl rfl rfl rfl rfl next) ?_
        refine SA.rd 33 [118] rfl (fun env rest next => AS.move rfl rfl rfl rfl next) ?_
        refine SA.rd 34 [12, 119] rfl (fun env rest next => AS.move rfl rfl rfl rfl next) ?_
        refine SA.rd 35 [0, 119] rfl (fun env rest next => AS.move rfl rfl rfl rfl next) ?_
        refine SA.rd 36 [6, 119] rfl (fun env rest next => AS.move rfl rfl rfl rfl next) ?_
        refine SA.rd 37 [119, 121, 122] rfl (fun env rest next => AS.indexAddr rfl rfl rfl rfl rfl TT30.sl22 (Int.natCast_nonneg _) (map_get _ _ hw) rfl next) ?_
        refine SA.rd 38 [119, 123] rfl (fun env rest next => AS.ifieldAddr rfl rfl rfl rfl TT30.fl40_0 next) ?_
        refine SA.rd 39 [119, 124] rfl (fun env rest next => AS.iload rfl rfl rfl rfl TT30.ty4 rfl rfl rfl next) ?_
        refine SA.rd 40 [119, 120, 125] rfl (fun env rest next => AS.bin rfl rfl rfl rfl rfl (BinR.beql TT30.u4 (c := false) (by simp [hg])) next) ?_
        refine SA.rd 41 [119, 126] rfl (fun env rest next => AS.pick rfl rfl rfl rfl rfl next) ?_
        refine SA.rd 42 [127] rfl (fun env rest next => AS.move rfl rfl rfl rfl next) ?_
        refine SA.rd 43 [12, 128] rfl (fun env rest next => AS.move rfl rfl rfl rfl next) ?_
        refine SA.rd 44 [128, 129] rfl (fun env rest next => AS.move rfl rfl rfl rfl next) ?_
        refine SA.rd 45 [11, 130] rfl (fun env rest next => AS.fieldAddr rfl rfl rfl rfl TT30.fl38_1 next) ?_
        refine SA.rd 46 [130, 131] rfl (fun env rest next => AS.load rfl rfl rfl rfl TT30.ty2 rfl rfl rfl next) ?_
        refine SA.rd 47 [5, 130] rfl (fun env rest next => AS.move rfl rfl rfl rfl next) ?_
        refine SA.rd 48 [130, 132, 133] rfl (fun env rest next => AS.bin rfl rfl rfl rfl rfl (BinR.neq (c := false) (by simp [Object.wv])) next) ?_
        refine SA.rd 49 [128, 130, 134] rfl (fun env rest next => AS.pick rfl rfl rfl rfl rfl next) ?_
        refine SA.rd 50 [128, 135] rfl (fun env rest next => AS.pick rfl rfl rfl rfl rfl next) ?_
        refine SA.done rfl rfl rfl ?_
        refine AS.condF rfl ?_
        refine AS.skip ?_
        refine AS.inBlock ?_
        refine AS.region rfl ?_
        refine AS.move rfl rfl rfl rfl ?_
        refine AS.bin rfl rfl rfl rfl rfl (BinR.add (w64 (by omega) (by omega))) ?_
        refine AS.assign rfl rfl rfl rfl ?_
        refine AS.opsEnd ?_
        exact AS.nextI (l0_ih (i + 1, L.length + 1, R.M, R.L, tk1) ⟨hi, hst, by dsimp only; omega, htk1, hps, hle.symm⟩ (by dsimp only; omega)) [_, _] (.cons rfl (.cons rfl (.cons rfl (.cons rfl (.nil))))) rfl
      · refine AS.region rfl ?_
        refine AS.move rfl rfl rfl rfl ?_
        refine AS.bin rfl rfl rfl rfl rfl (BinR.eql (c := false) (by simp [he])) ?_
        refine AS.opsEnd ?_
        refine AS.condF rfl ?_
        refine AS.skip ?_
        refine AS.seq ?_
        refine AS.region rfl ?_
        refine AS.move rfl rfl rfl rfl ?_
        have hle : R.L.length = L.length := by rw [hL]
        refine AS.callP rfl rfl rfl rfl TT30.en26 (log_spec s m _ R.M R.L tk1 _ (by omega) hlog) ?_
        refine AS.assign rfl rfl rfl rfl ?_
        refine AS.opsEnd ?_
        refine AS.seq ?_
        refine AS.seq ?_
        refine AS.region rfl ?_
        refine AS.move rfl rfl rfl rfl ?_
        refine AS.bin rfl rfl rfl rfl rfl (BinR.eql (c := false) (by simp [he])) ?_
        refine AS.move rfl rfl rfl rfl ?_
        refine AS.pass rfl rfl rfl ?_
        refine AS.pass rfl rfl rfl ?_
        refine AS.pass rfl rfl rfl ?_
        refine AS.pick rfl rfl rfl rfl rfl ?_
        refine AS.move rfl rfl rfl rfl ?_
        refine AS.move rfl rfl rfl rfl ?_
        refine AS.bin rfl rfl rfl rfl rfl (BinR.neq (c := true) (by simp [he])) ?_
        refine AS.move rfl rfl rfl rfl ?_
        refine AS.move rfl rfl rfl rfl ?_
        refine AS.bin rfl rfl rfl rfl rfl (BinR.neq (c := false) (by simp [hv])) ?_
        refine AS.pick rfl rfl rfl rfl rfl ?_
        refine AS.pick rfl rfl rfl rfl rfl ?_
        refine AS.move rfl rfl rfl rfl ?_
        refine AS.move rfl rfl rfl rfl ?_
        refine AS.callP rfl rfl rfl rfl TT30.en24 (version_spec s m _ R.M R.L tk1 _) ?_
        refine AS.move rfl rfl rfl rfl ?_
        refine AS.bin rfl rfl rfl rfl rfl (BinR.neq (c := false) (by simp [hle])) ?_
        refine AS.pick rfl rfl rfl rfl rfl ?_
        refine AS.move rfl rfl rfl rfl ?_
        refine AS.move rfl rfl rfl rfl ?_
        refine AS.len rfl rfl rfl rfl (by first | exact lenT_sl TT30.u28 | exact lenT_ms TT30.u28 | (rw [TT30.u28]; rfl)) rfl (lenMap _ _) ?_
        refine AS.move rfl rfl rfl rfl ?_
        refine AS.bin rfl rfl rfl rfl rfl (BinR.neq (c := false) (by simp [hle])) ?_
        refine AS.pick rfl rfl rfl rfl rfl ?_
        refine AS.opsEnd ?_
        refine AS.condF rfl ?_
        refine AS.skip ?_
        refine AS.seq ?_
        refine AS.seq ?_
        refine AS.region rfl ?_
        refine AS.move rfl rfl rfl rfl ?_
        refine AS.bin rfl rfl rfl rfl rfl (BinR.neq (c := true) (by simp [he])) ?_
        refine AS.opsEnd ?_
        refine AS.condT rfl ?_
        refine AS.exit rfl ?_
        refine AS.region rfl ?_
        refine AS.move rfl rfl rfl rfl ?_
        refine AS.bin rfl rfl rfl rfl rfl (BinR.add (w64 (by omega) (by omega))) ?_
        refine AS.assign rfl rfl rfl rfl ?_
        refine AS.opsEnd ?_
        exact AS.nextI (l0_ih (i + 1, L.length, R.M, R.L, tk1) ⟨hi, hst, by dsimp only; omega, htk1, hps, hle.symm⟩ (by dsimp only; omega)) [] (.cons rfl (.cons rfl (.cons rfl (.cons rfl (.nil))))) rfl
    · refine AS.exit rfl ?_
      refine AS.seq ?_
      refine AS.region rfl ?_
      refine AS.callP rfl rfl rfl rfl TT30.en13 (alive09 _) ?_
      refine AS.move rfl rfl rfl rfl ?_
      refine AS.move rfl rfl rfl rfl ?_
      refine AS.callP rfl rfl rfl rfl TT30.en22 (snapshot_spec s m _ M L tk _ (by have := hok.inv.size; omega) (fun o ho => (hok.charge o ho).2) (hok.inv.apartO hok.fit) (fun o ho => Nat.le_trans (hok.charge o ho).1 (by decide))) ?_
      refine AS.callP rfl rfl rfl rfl TT30.en29 (ACalls.eqB (evright_spec _ _ ⟨Nat.zero_le _, by have := valsLen2 hok; dsimp only; omega, fun o ho => ⟨Nat.le_trans (hok.charge o (mem_sortO ho)).1 (by decide), (hok.charge o (mem_sortO ho)).2⟩⟩) (snap_right hok hpo (by omega))) ?_
      refine AS.pick rfl rfl rfl rfl rfl ?_
      refine AS.assign rfl rfl rfl rfl ?_
      refine AS.opsEnd ?_
      refine AS.retW Try.func4 rfl (.tmp rfl (.nil)) ?_
      exact RWk.drop [] rfl rfl
end Go.Proofs.Ytncecheccihjoaa
/- What came in reads as data: it is what an abstract value stands for; what is behind the call reads as it did. -/
namespace Go.Proofs.Fw
open Go Go.Shelf Go.RowKit Go.ChangeShapes Go.WideShapes Go.Deep
set_option linter.unusedVariables false
/-- All that lies there is claimed. -/
def viewOf (w : World) : View := fun b i => w.cell? ⟨b, i, none⟩
theorem rel_view (w : World) : Rel [] w (viewOf w) [] :=
  ⟨by simp [keys], fun _ _ h => (by cases h), fun _ _ _ h => h, fun _ _ _ h => (by cases h)⟩

/-- The cells stand for what is in the list. -/
def Stand (w : World) (ys : List AV) (cs : List Value) : Prop := cs.length = ys.length ∧ ∀ (i : Nat) (y : AV) (v : Value), ys[i]? = some y → cs[i]? = some v → VR (viewOf w) y v

/-- Whatever reads as of this type stands for one of α. -/
def Rds (P : Program) (t : TypeId) {α : Type} (enc : α → AV) (Q : α → Prop) : Prop :=
  ∀ (H : Type) (e : TypeId × Value → H) (w : World) (base : Nat) (spare : Nat → Bool) (held : Bool) (fuel : Nat) (cs : List Value) (x : DataW H × List MemPlace),
    DataW.trod e P w base spare held fuel t cs = some x → ∃ a : α, Q a ∧ Stand w (enc a).cells cs

section
variable {P : Program} {t : TypeId}
theorem stand_one {w : World} {y : AV} {v : Value} (hy : y.cells = [y]) (h : VR (viewOf w) y v) : Stand w y.cells [v] := by
  rw [hy]
  refine ⟨rfl, fun i z u hz hu => ?_⟩
  cases i with
  | zero => simp only [List.getElem?_cons_zero, Option.some.injEq] at hz hu; subst hz hu; exact h
  | succ i => simp at hz
theorem Rds.string (ht : P.underlying t = some .string) : Rds P t AV.str (fun s => s.size ≤ maxLen) := by
  intro H e w base spare held fuel cs x h
  obtain ⟨s, rfl, _, hs⟩ := DataW.trod_string ht h
  exact ⟨s, hs, stand_one rfl (.str s)⟩
theorem Rds.bool (ht : P.underlying t = some .bool) : Rds P t AV.bool (fun _ => True) := by
  intro H e w base spare held fuel cs x h
  obtain ⟨b, rfl, _⟩ := DataW.trod_bool ht h
  exact ⟨b, trivial, stand_one rfl (.bool b)⟩
theorem Rds.int {k : IntKind} (ht : P.underlying t = some (.int k)) : Rds P t (AV.int k) (fun n => k.min ≤ n ∧ n ≤ k.max) := by
  intro H e w base spare held fuel cs x h
  obtain ⟨n, rfl, _, hw⟩ := DataW.trod_int ht h
  exact ⟨n, by simpa [Lit.wf] using hw, stand_one rfl (.int k n)⟩
theorem Rds.mono {α : Type} {enc : α → AV} {Q Q' : α → Prop} (h : Rds P t enc Q) (hq : ∀ a, Q a → Q' a) : Rds P t enc Q' :=
  fun H e w base spare held fuel cs x hx => let ⟨a, h1, h2⟩ := h H e w base spare held fuel cs x hx; ⟨a, hq a h1, h2⟩

theorem addr_none {w : World} {base : Nat} {a : Addr} {n : Nat} {cs : List Value} (h : w.cells? base a n = some cs) (hn : 0 < n) : a.spot = none := by
  obtain ⟨_, hl, hc⟩ := World.cells?_some h
  have h0 := hc 0 hn
  have hv : cs[0]? = some (cs[0]'(by omega)) := List.getElem?_eq_getElem (by omega)
  rw [hv] at h0
  unfold World.cell? at h0
  split at h0
  · split at h0
    · cases h0
    · rename_i hs
      cases hb : a.spot with
      | none => rfl
      | some k => simp [Addr.add, hb] at hs
  · cases h0

theorem list_of {α : Type} {R : Nat → α → Prop} : ∀ (n : Nat), (∀ i, i < n → ∃ a, R i a) → ∃ l : List α, l.length = n ∧ ∀ i a, l[i]? = some a → R i a
  | 0, _ => ⟨[], rfl, fun i a h => by simp at h⟩
  | n + 1, h => by
    obtain ⟨l, hl, hr⟩ := list_of n (fun i hi => h i (by omega))
    obtain ⟨a, ha⟩ := h n (by omega)
    refine ⟨l ++ [a], by simp [hl], fun i b hb => ?_⟩
    rcases Nat.lt_or_ge i l.length with h1 | h1
    · rw [List.getElem?_append_left h1] at hb; exact hr i b hb
    · rw [List.getElem?_append_right h1] at hb
      have : i = n := by
        rcases Nat.lt_or_ge (i - l.length) 1 with h2 | h2
        · omega
        · rw [List.getElem?_eq_none (by simpa using h2)] at hb; cases hb
      subst this
      simp [hl] at hb
      subst hb
      exact ha

/-- Elements one behind the other. -/
theorem flat_pick {α : Type} {enc : α → AV} {sz : Nat} (hs : ∀ a, (enc a).cells.length = sz) : ∀ {l : List α} {i : Nat} {y : AV}, (flat (l.map enc))[i]? = some y → ∃ a, l[i / sz]? = some a ∧ (enc a).cells[i % sz]? = some y
  | [], i, y, h => by simp [flat] at h
  | a :: l, i, y, h => by
    simp only [List.map_cons, flat, List.flatMap_cons] at h
    rcases Nat.lt_or_ge i sz with h1 | h1
    · rw [List.getElem?_append_left (by rw [hs]; exact h1)] at h
      exact ⟨a, by rw [Nat.div_eq_of_lt h1]; rfl, by rw [Nat.mod_eq_of_lt h1]; exact h⟩
    · rw [List.getElem?_append_right (by rw [hs]; exact h1), hs] at h
      obtain ⟨b, h2, h3⟩ := flat_pick hs (l := l) (i := i - sz) h
      have hsz : 0 < sz := by
        rcases Nat.eq_zero_or_pos sz with h0 | h0
        · subst h0
          have : (enc b).cells = [] := List.length_eq_zero_iff.1 (hs b)
          rw [this] at h3; simp at h3
        · exact h0
      obtain ⟨j, rfl⟩ : ∃ j, i = sz + j := ⟨i - sz, by omega⟩
      have e : sz + j - sz = j := by omega
      rw [e] at h2 h3
      refine ⟨b, ?_, ?_⟩
      · rw [Nat.add_comm, Nat.add_div_right _ hsz]; simpa using h2
      · rw [Nat.add_mod_left]; exact h3

theorem Rds.slice {α : Type} {enc : α → AV} {Q : α → Prop} {e : TypeId} {sz : Nat} (ht : P.underlying t = some (.slice e)) (hsz : P.cellsOf e = sz) (h0 : 0 < sz) (hs : ∀ a, (enc a).cells.length = sz) (h : Rds P e enc Q) :
    Rds P t (fun l : List α => AV.slice (l.map enc) .any) (fun l => ∀ a ∈ l, Q a) := by
  intro H en w base spare held fuel cs x hx
  rcases open_slice ht hx with ⟨rfl, _⟩ | ⟨a, len, cap, m, n, D, Pl, rfl, hb, hl, hm, hmm, _, hi⟩
  · exact ⟨[], by simp, stand_one rfl (.slice [] .any none 0 0 0 0 0 (fun _ => .bool true) rfl (Nat.le_refl _) (by simp) (by simp) (by simp [flat]) (by simp [flat]) trivial)⟩
  · rw [hsz] at hi
    have hml : len ≤ m := by rw [hmm]; split <;> omega
    obtain ⟨l, hll, hlr⟩ := list_of (R := fun i b => Q b ∧ ∃ cs', w.cells? base (a.add (i * sz)) sz = some cs' ∧ Stand w (enc b).cells cs') len (fun i hi' => by
      obtain ⟨cs', hc, htr⟩ := hi i (by omega)
      obtain ⟨b, hq, hst⟩ := h H en w base spare held n cs' _ htr
      exact ⟨b, hq, cs', hc, hst⟩)
    refine ⟨l, fun b hb' => ?_, stand_one rfl ?_⟩
    · obtain ⟨i, hi'⟩ := List.getElem?_of_mem hb'
      exact (hlr i b hi').1
    · have hspot : 0 < len → a.spot = none := fun hp => by
        have h1 : l[0]? = some (l[0]'(by omega)) := List.getElem?_eq_getElem (by omega)
        obtain ⟨_, cs', hc, _⟩ := hlr 0 _ h1
        have := addr_none hc h0
        simpa [Addr.add] using this
      have cellAt : ∀ i, i < (flat (l.map enc)).length → ∃ v, viewOf w a.block (a.off + i) = some v ∧ ∀ y, (flat (l.map enc))[i]? = some y → VR (viewOf w) y v := fun i hi' => by
        obtain ⟨y, hy⟩ : ∃ y, (flat (l.map enc))[i]? = some y := ⟨_, List.getElem?_eq_getElem hi'⟩
        obtain ⟨b, h1, h2⟩ := flat_pick hs hy
        obtain ⟨_, cs', hc, hcl, hst⟩ := hlr _ b h1
        obtain ⟨_, hl2, hcc⟩ := World.cells?_some hc
        have hlt : i % sz < sz := Nat.mod_lt _ h0
        have hcell := hcc (i % sz) hlt
        have hv : cs'[i % sz]? = some (cs'[i % sz]'(by omega)) := List.getElem?_eq_getElem (by omega)
        have hpos : 0 < len := by
          have h9 := (List.getElem?_eq_some_iff.1 h1).1
          rw [hll] at h9
          exact Nat.lt_of_le_of_lt (Nat.zero_le _) h9
        have ha := hspot hpos
        have e1 : ((a.add (i / sz * sz)).add (i % sz)) = ⟨a.block, a.off + i, none⟩ := by
          have e2 : i / sz * sz + i % sz = i := by rw [Nat.mul_comm]; exact Nat.div_add_mod i sz
          obtain ⟨ab, ao, asp⟩ := a
          simp only at ha
          subst ha
          rw [Fw.Addr.add_eq, Fw.Addr.add_eq, Nat.add_assoc, e2]
        rw [e1, hv] at hcell
        exact ⟨_, hcell, fun z hz => by rw [hy] at hz; cases hz; exact hst _ _ _ h2 hv⟩
      refine .slice (l.map enc) .any (some a) len cap sz a.block a.off (fun i => (viewOf w a.block (a.off + i)).getD (.bool true)) (by simp [hll]) hl (map_sz hs l) (fun hp => ?_) (fun i hi' => ?_) (fun i y hy => ?_) trivial
      · have ha := hspot hp
        cases a
        simp only at ha
        subst ha
        rfl
      · obtain ⟨v, hv, _⟩ := cellAt i hi'
        simp [hv]
      · obtain ⟨v, hv, hr⟩ := cellAt i (List.getElem?_eq_some_iff.1 hy).1
        simp only [hv, Option.getD_some]
        exact hr y hy

/-- Fields, one behind the other. -/
def RdF (P : Program) (fs : List Field) (off : Nat) {α : Type} (encs : α → List AV) (Q : α → Prop) : Prop :=
  ∀ (H : Type) (e : TypeId × Value → H) (w : World) (base : Nat) (spare : Nat → Bool) (held : Bool) (n : Nat) (cs : List Value) (xs : List (DataW H × List MemPlace)), xs.length = fs.length →
    (∀ (i : Nat) (f : Field), fs[i]? = some f → DataW.trod e P w base spare held n f.type ((cs.drop f.offset).take (P.cellsOf f.type)) = xs[i]?) →
    ∃ a : α, Q a ∧ ∀ (i : Nat) (y : AV) (v : Value), (encs a)[i]? = some y → cs[off + i]? = some v → VR (viewOf w) y v
theorem RdF.nil {off : Nat} : RdF P [] off (fun _ : Unit => []) (fun _ => True) :=
  fun H e w base spare held n cs xs hl h => ⟨(), trivial, fun i y v hy => by simp at hy⟩
theorem RdF.cons {f : Field} {fs : List Field} {off sz : Nat} {α β : Type} {enc : α → AV} {encs : β → List AV} {Q : α → Prop} {Q' : β → Prop} (ho : f.offset = off) (hsz : P.cellsOf f.type = sz)
    (hs : ∀ a, (enc a).cells.length = sz) (h : Rds P f.type enc Q) (r : RdF P fs (off + sz) encs Q') : RdF P (f :: fs) off (fun p : α × β => (enc p.1).cells ++ encs p.2) (fun p => Q p.1 ∧ Q' p.2) := by
  intro H e w base spare held n cs xs hl hx
  cases xs with
  | nil => simp at hl
  | cons x xs =>
    have h1 := hx 0 f rfl
    rw [ho, hsz] at h1
    obtain ⟨a, hq, hlen, hst⟩ := h H e w base spare held n _ _ h1
    obtain ⟨b, hq', hst'⟩ := r H e w base spare held n cs xs (by simpa using hl) (fun i g hg => hx (i + 1) g hg)
    refine ⟨(a, b), ⟨hq, hq'⟩, fun i y v hy hv => ?_⟩
    rcases Nat.lt_or_ge i sz with hi | hi
    · rw [List.getElem?_append_left (by rw [hs]; exact hi)] at hy
      refine hst i y v hy ?_
      rw [List.getElem?_take, if_pos hi, List.getElem?_drop]; exact hv
    · rw [List.getElem?_append_right (by rw [hs]; exact hi), hs] at hy
      refine hst' (i - sz) y v hy ?_
      rw [show off + sz + (i - sz) = off + i by omega]; exact hv
/-- A struct: from its fields. -/
theorem Rds.struct {fs : Array Field} {α β : Type} {encs : β → List AV} {Q : β → Prop} {enc : α → AV} {Q' : α → Prop} (ht : P.underlying t = some (.struct fs)) (g : β → α) (h : RdF P fs.toList 0 encs Q) (hg : ∀ b, (enc (g b)).cells = encs b)
    (hsz : ∀ a, (enc a).cells.length = P.cellsOf t) (hq : ∀ b, Q b → Q' (g b)) : Rds P t enc Q' := by
  intro H e w base spare held fuel cs x hx
  obtain ⟨xs, n, _, _, hlen, hxl, hf⟩ := DataW.trod_struct ht hx
  obtain ⟨b, hqb, hst⟩ := h H e w base spare held n cs xs (by simpa using hxl) (fun i f hi => hf i f (by simpa using hi))
  refine ⟨g b, hq b hqb, by rw [hlen, hsz], fun i y v hy hv => ?_⟩
  rw [hg] at hy
  exact hst i y v hy (by simpa using hv)
/-- An array: its elements. -/
theorem Rds.array {α : Type} {enc : α → AV} {Q : α → Prop} {n sz : Nat} {e : TypeId} (ht : P.underlying t = some (.array n e)) (hsz : P.cellsOf e = sz) (h0 : 0 < sz) (hc : P.cellsOf t = n * sz) (hs : ∀ a, (enc a).cells.length = sz) (h : Rds P e enc Q) :
    Rds P t (fun l : List α => AV.agg (flat (l.map enc))) (fun l => l.length = n ∧ ∀ a ∈ l, Q a) := by
  intro H en w base spare held fuel cs x hx
  obtain ⟨xs, m, _, _, hlen, hxl, hf⟩ := DataW.trod_array ht hx
  obtain ⟨l, hll, hlr⟩ := list_of (R := fun i b => Q b ∧ Stand w (enc b).cells ((cs.drop (i * sz)).take sz)) n (fun i hi => by
    have := hf i hi
    rw [hsz, List.getElem?_eq_getElem (by omega)] at this
    obtain ⟨b, hq, hst⟩ := h H en w base spare held m _ _ this
    exact ⟨b, hq, hst⟩)
  refine ⟨l, ⟨hll, fun b hb => ?_⟩, ?_, fun i y v hy hv => ?_⟩
  · obtain ⟨i, hi⟩ := List.getElem?_of_mem hb
    exact (hlr i b hi).1
  · show cs.length = (flat (l.map enc)).length
    rw [flat_length (map_sz hs l), List.length_map, hll, hlen, hc]
  · obtain ⟨b, h1, h2⟩ := flat_pick hs (show (flat (l.map enc))[i]? = some y from hy)
    refine (hlr _ b h1).2.2 (i % sz) y v h2 ?_
    have hlt : i % sz < sz := Nat.mod_lt _ h0
    rw [List.getElem?_take, if_pos hlt, List.getElem?_drop]
    have e2 : i / sz * sz + i % sz = i := by rw [Nat.mul_comm]; exact Nat.div_add_mod i sz
    rw [e2]; exact hv

/-! ### What is handed over -/
theorem stand_agg {w : World} {ys : List AV} {arr : Array Value} (h : Stand w ys arr.toList) : VR (viewOf w) (.agg ys) (.agg arr) :=
  .agg ys arr (by simpa using h.1) (fun i x v hx hv => h.2 i x v hx (by simpa using hv))
theorem stand_vr {w : World} {y : AV} {v : Value} (hy : y.cells = [y]) (h : Stand w y.cells [v]) : VR (viewOf w) y v := by
  rw [hy] at h; exact h.2 0 y v rfl rfl
variable {H : Type} {en : TypeId × Value → H} {w : World} {base b0 : Nat} {spare : Nat → Bool} {held : Bool} {r : Reach} {v : Value} {d : DataW H} {p : List MemPlace}
theorem Rds.one {α : Type} {enc : α → AV} {Q : α → Prop} (h : Rds P t enc Q) (hv : v.cells = #[v]) (hone : ∀ a, (enc a).cells = [enc a]) (ht : DataW.Trod en P w base spare held t v d p) : ∃ a, Q a ∧ VR (viewOf w) (enc a) v := by
  obtain ⟨fuel, hf⟩ := ht
  obtain ⟨a, hq, hst⟩ := h H en w base spare held fuel _ _ hf
  rw [hv] at hst
  exact ⟨a, hq, stand_vr (hone a) hst⟩
theorem Rds.agg {α : Type} {enc : α → AV} {Q : α → Prop} (h : Rds P t enc Q) {arr : Array Value} (hone : ∀ a, enc a = .agg (enc a).cells) (ht : DataW.Trod en P w base spare held t (.agg arr) d p) : ∃ a, Q a ∧ VR (viewOf w) (enc a) (.agg arr) := by
  obtain ⟨fuel, hf⟩ := ht
  obtain ⟨a, hq, hst⟩ := h H en w base spare held fuel _ _ hf
  exact ⟨a, hq, by rw [hone a]; exact stand_agg hst⟩
theorem Rds.sliceV {α : Type} {enc : List α → AV} {Q : List α → Prop} (h : Rds P t enc Q) {e : TypeId} (hu : P.underlying t = some (.slice e)) (hone : ∀ a, (enc a).cells = [enc a]) (hok : Value.okWide P w r b0 t v) (ht : DataW.Trod en P w base spare held t v d p) : ∃ a, Q a ∧ VR (viewOf w) (enc a) v := by
  obtain ⟨a, n, c, rfl⟩ := okWide_slice hu hok
  exact h.one rfl hone ht
theorem Rds.stringV (hu : P.underlying t = some .string) (hok : Value.okWide P w r b0 t v) (ht : DataW.Trod en P w base spare held t v d p) : ∃ s : ByteArray, s.size ≤ maxLen ∧ VR (viewOf w) (.str s) v := by
  obtain ⟨s, rfl⟩ := okWide_string hu hok
  exact (Rds.string hu).one rfl (fun _ => rfl) ht
theorem Rds.intV {k : IntKind} (hu : P.underlying t = some (.int k)) (hok : Value.okWide P w r b0 t v) (ht : DataW.Trod en P w base spare held t v d p) : ∃ n : Int, (k.min ≤ n ∧ n ≤ k.max) ∧ VR (viewOf w) (.int k n) v := by
  obtain ⟨n, rfl⟩ := okWide_int hu hok
  exact (Rds.int hu).one rfl (fun _ => rfl) ht
theorem Rds.structV {α : Type} {enc : α → AV} {Q : α → Prop} (h : Rds P t enc Q) {fs : Array Field} (hu : P.underlying t = some (.struct fs)) (hone : ∀ a, enc a = .agg (enc a).cells) (hok : Value.okWide P w r b0 t v) (ht : DataW.Trod en P w base spare held t v d p) : ∃ a, Q a ∧ VR (viewOf w) (enc a) v := by
  obtain ⟨cs, rfl, _⟩ := okWide_struct hu hok
  exact h.agg hone ht
end
end Go.Proofs.Fw
/- The end: a call that answers true, and leaves memory as it was, is a law's. -/
namespace Go.Proofs.Fw
open Go Go.Shelf Go.RowKit Go.ChangeShapes Go.WideShapes
set_option linter.unusedVariables false
section
variable {H : Type} {enc : TypeId × Value → H} {P : Program} {base : Nat} {W W' : World}

theorem sameAt_old (hheap : ∀ b, b < W.heap.size → W'.heap[b]? = W.heap[b]?) {p : MemPlace} (hp : p.block < W.heap.size) : W.sameAt W' p := by
  cases p with
  | cell b off =>
    have h := hheap b hp
    simp only [World.sameAt, World.cell?]
    rw [h]
  | map b =>
    have h := hheap b hp
    simp only [World.sameAt]
    rw [h]

theorem trodAll_stays (hl : laidOutB P = true) {sp' : Nat → Bool} : ∀ {ts : List TypeId} {vs : List Value} {ds : List (DataW H)} {ps : List MemPlace}, (∀ t ∈ ts, P.readableRec t = true ∧ t < P.types.size) →
    DataW.TrodAll enc P W base (fun _ => true) true ts vs ds ps → (∀ p ∈ ps, W.sameAt W' p) → (∀ p ∈ ps, sp' p.block = true) → DataW.TrodAll enc P W' base sp' true ts vs ds ps
  | [], [], [], ps, _, h, _, _ => h
  | t :: ts, v :: vs, d :: ds, ps, hr, h, hs, hp => by
    obtain ⟨p, q, h1, h2, rfl⟩ := h
    have ht := hr t List.mem_cons_self
    exact ⟨p, q, WideElems.Trod_stays hl ht.1 ht.2 h1 (fun x hx => hs x (List.mem_append_left _ hx)) (fun x hx => hp x (List.mem_append_left _ hx)),
      trodAll_stays hl (fun t' ht' => hr t' (List.mem_cons_of_mem _ ht')) h2 (fun x hx => hs x (List.mem_append_right _ hx)) (fun x hx => hp x (List.mem_append_right _ hx)), rfl⟩
  | [], _ :: _, _, _, _, h, _, _ => by simp [DataW.TrodAll] at h
  | [], [], _ :: _, _, _, h, _, _ => by simp [DataW.TrodAll] at h
  | _ :: _, [], _, _, _, h, _, _ => by simp [DataW.TrodAll] at h
  | _ :: _, _ :: _, [], _, _, h, _, _ => by simp [DataW.TrodAll] at h

theorem post_same2 {f : Func} {s : ChangeSpec} {apart fresh handsOn again : Bool} {args : Array Value} {v : Value} {ds gs : List (DataW H)} {before pa pv : List MemPlace}
    (hW : DataW.Whole enc P f.params.toList s.vars apart W args.toList ds gs before)
    (hres : ∀ (b : Nat) (sp : Nat → Bool) (hd : Bool), DataW.TrodAll enc P W' b sp hd f.resultTypes.toList (v.resultList f.resultTypes.size) (s.fn H (ds ++ gs)).results [])
    (hargs : ∀ sp : Nat → Bool, (∀ p ∈ before, sp p.block = true) → DataW.TrodAll enc P W' 0 sp true f.params.toList args.toList (s.fn H (ds ++ gs)).args pa)
    (hvars : ∀ sp : Nat → Bool, (∀ p ∈ before, sp p.block = true) → DataW.TrodVars enc P W' sp s.vars (s.fn H (ds ++ gs)).vars pv)
    (hps : before = pa ++ pv) (hk : W.keptBut W' (· ∈ before)) (hfz : ∀ b off, MemPlace.cell b off ∈ before → W'.frozen? ⟨b, off, none⟩ = W.frozen? ⟨b, off, none⟩)
    (hok : ∀ (j : Nat) (t : TypeId) (r : Value), f.resultTypes[j]? = some t → (v.resultList f.resultTypes.size)[j]? = some r → Value.okWide P W' .any 0 t r) :
    s.post enc P f apart fresh handsOn again W args v W' := by
  have hold : ∀ p ∈ before, (fun b => decide (b < W.heap.size)) p.block = true := fun p hp => by simpa using hW.lt p hp
  refine ⟨ds, gs, before, [], pa, pv, hW, hres _ _ _, hargs _ hold, hvars _ hold, World.keptBut_mono (fun p hp => ⟨hp, ?_⟩) hk, fun _ => ?_⟩
  · rw [hps, List.mem_append] at hp
    exact Or.inr hp
  · obtain ⟨_, _, _, _, _, hz, hn⟩ := hW
    refine ⟨hok, _, _, ([] ++ pa) ++ pv, ⟨[] ++ pa, pv, trodAll_append (hargs _ (fun _ _ => rfl)) (hres _ _ _), hvars _ (fun _ _ => rfl), rfl, ?_, ?_⟩, ?_⟩
    · intro b off hp
      have hb : MemPlace.cell b off ∈ before := by rw [hps]; simpa using hp
      rw [hfz b off hb]
      exact hz b off hb
    · intro ha
      have := hn ha
      rw [hps] at this
      simpa using this
    · intro p hp _
      rw [hps]
      simpa using hp

theorem kept_old {may : MemPlace → Prop} (hos : W'.os = W.os) (hout : W'.output = W.output) (hheap : ∀ b, b < W.heap.size → W'.heap[b]? = W.heap[b]?) : W.keptBut W' may := by
  refine ⟨hos, hout, fun i hi => ?_⟩
  rw [hheap i hi]
  generalize W.heap[i]? = o
  cases o with
  | none => trivial
  | some o => cases o <;> simp

/-- What a law's call owes. -/
theorem post_law {f : Func} {s : ChangeSpec} {apart fresh handsOn again : Bool} {args : Array Value} {ds gs : List (DataW H)} {before : List MemPlace} {tb : TypeId} (hv : s.vars = [])
    (hW : DataW.Whole enc P f.params.toList s.vars apart W args.toList ds gs before) (hres : f.resultTypes = #[tb]) (htb : P.underlying tb = some .bool)
    (hfn : s.fn H ds = ⟨[.lit (.bool true)], ds, []⟩) (hl : laidOutB P = true) (hr : ∀ t ∈ f.params.toList, P.readableRec t = true ∧ t < P.types.size)
    (hos : W'.os = W.os) (hout : W'.output = W.output) (hheap : ∀ b, b < W.heap.size → W'.heap[b]? = W.heap[b]?) :
    s.post enc P f apart fresh handsOn again W args (.bool true) W' := by
  have hlt : ∀ p ∈ before, p.block < W.heap.size := fun p hp => by simpa using hW.lt p hp
  have hW' := hW
  obtain ⟨p, q, hA, hV, rfl, hfz, hnd⟩ := hW
  rw [hv] at hV
  cases gs with
  | cons g gs => simp [DataW.TrodVars] at hV
  | nil =>
  simp only [DataW.TrodVars] at hV
  subst hV
  simp only [List.append_nil] at *
  refine post_same2 (pa := p) (pv := []) (by simpa using hW') ?_ ?_ ?_ (by simp) (kept_old hos hout hheap) ?_ ?_
  · intro b sp hd
    rw [List.append_nil, hfn, hres]
    exact trodAll_cons_mk (shut_bool htb _) trodAll_mk0
  · intro sp hsp
    rw [List.append_nil, hfn]
    exact trodAll_stays hl hr hA (fun x hx => sameAt_old hheap (hlt x (by simpa using hx))) (fun x hx => hsp x (by simpa using hx))
  · intro sp hsp
    rw [List.append_nil, hfn, hv]
    rfl
  · intro b off hb
    have hb2 : b < W.heap.size := hlt (.cell b off) (by simpa using hb)
    have h := hheap b hb2
    simp only [World.frozen?]
    rw [h]
  · exact ok_one hres rfl (okWide_bool_mk htb _)

theorem cells0 {V : View} : Cells V [] #[] := ⟨rfl, by simp⟩
theorem cellsC {V : View} {x : AV} {v : Value} {xs : List AV} {vs : List Value} (h : VR V x v) (r : Cells V xs ⟨vs⟩) : Cells V (x :: xs) ⟨v :: vs⟩ := by
  refine ⟨by have := r.1; simpa using this, fun i y u hy hu => ?_⟩
  cases i with
  | zero => simp at hy hu; subst hy hu; exact h
  | succ i => exact r.2 i y u (by simpa using hy) (by simpa using hu)
/-- From a contract on abstract values to a law's. -/
theorem law_of {f : FuncId} {fn : Func} {s : ChangeSpec} {apart fresh handsOn again : Bool} {args : Array Value} {ds gs : List (DataW H)} {before : List MemPlace} {tb : TypeId} {avs : List AV} (hv : s.vars = [])
    (hW : DataW.Whole enc P fn.params.toList s.vars apart W args.toList ds gs before) (hres : fn.resultTypes = #[tb]) (htb : P.underlying tb = some .bool)
    (hfn : s.fn H ds = ⟨[.lit (.bool true)], ds, []⟩) (hl : laidOutB P = true) (hr : ∀ t ∈ fn.params.toList, P.readableRec t = true ∧ t < P.types.size)
    (hc : Cells (viewOf W) avs args) (h : ACalls P [] f avs [] (fun x _ => x = .bool true)) :
    Calls P f args W fun e W' => ∃ v, e = .returned v ∧ s.post enc P fn apart fresh handsOn again W args v W' := by
  refine (h (viewOf W) W args hc (rel_view W)).mono ?_
  rintro e W' ⟨v, rfl, V', x, H', hx, hrel, hext, rfl⟩
  cases hx
  exact ⟨_, rfl, post_law hv hW hres htb hfn hl hr hext.os hext.output (fun b hb => hext.heap b hb (by simp [keys]))⟩
end
end Go.Proofs.Fw
/- T28 -/
namespace Go.Proofs.Ytncecheccihjoaa.TT28
open Go Go.Proofs.Fw Go.Shelf
theorem u116 : Go.Proofs.Try.prog.underlying 116 = some (.struct #[⟨"Name", 9, 0, false, "", "", 0⟩, ⟨"N", 2, 1, false, "", "", 16⟩]) := by kernel_rfl
theorem u2 : Go.Proofs.Try.prog.underlying 2 = some (.int .i64) := by kernel_rfl
theorem u35 : Go.Proofs.Try.prog.underlying 35 = some (.struct #[⟨"Kind", 9, 0, false, "", "", 0⟩, ⟨"Space", 9, 1, false, "", "", 16⟩, ⟨"Name", 9, 2, false, "", "", 32⟩]) := by kernel_rfl
theorem u36 : Go.Proofs.Try.prog.underlying 36 = some (.slice 116) := by kernel_rfl
theorem u38 : Go.Proofs.Try.prog.underlying 38 = some (.struct #[⟨"Key", 35, 0, false, "", "", 0⟩, ⟨"Version", 2, 3, false, "", "", 48⟩, ⟨"Class", 9, 4, false, "", "", 56⟩, ⟨"Terminating", 4, 5, false, "", "", 72⟩, ⟨"Best", 4, 6, false, "", "", 73⟩, ⟨"Charge", 36, 7, false, "", "", 80⟩]) := by kernel_rfl
theorem u4 : Go.Proofs.Try.prog.underlying 4 = some (.bool) := by kernel_rfl
theorem u40 : Go.Proofs.Try.prog.underlying 40 = some (.struct #[⟨"Gone", 4, 0, false, "", "", 0⟩, ⟨"O", 38, 1, false, "", "", 8⟩]) := by kernel_rfl
theorem u47 : Go.Proofs.Try.prog.underlying 47 = some (.int .i64) := by kernel_rfl
theorem u48 : Go.Proofs.Try.prog.underlying 48 = some (.slice 38) := by kernel_rfl
theorem u50 : Go.Proofs.Try.prog.underlying 50 = some (.struct #[⟨"Kind", 47, 0, false, "", "", 0⟩, ⟨"Object", 38, 1, false, "", "", 8⟩, ⟨"Version", 2, 9, false, "", "", 112⟩, ⟨"Objects", 48, 10, false, "", "", 120⟩]) := by kernel_rfl
theorem u9 : Go.Proofs.Try.prog.underlying 9 = some (.string) := by kernel_rfl
end Go.Proofs.Ytncecheccihjoaa.TT28
namespace Go.Proofs.Ytncecheccihjoaa
open Go Go.Proofs.Fw Go.Proofs
set_option linter.unusedVariables false
set_option linter.unusedSimpArgs false
set_option maxRecDepth 20000
set_option maxHeartbeats 4000000
theorem ce_9 : Try.prog.cellsOf 9 = 1 := by kernel_rfl
theorem ce_35 : Try.prog.cellsOf 35 = 3 := by kernel_rfl
theorem rd_key : Rds Try.prog 35 encKey (fun _ => True) :=
  Rds.struct TT28.u35 (fun b => (⟨b.1, b.2.1, b.2.2.1⟩ : Key)) (.cons rfl ce_9 (fun _ => rfl) (Rds.string TT28.u9) (.cons rfl ce_9 (fun _ => rfl) (Rds.string TT28.u9) (.cons rfl ce_9 (fun _ => rfl) (Rds.string TT28.u9) (.nil)))) (fun _ => rfl) (fun _ => by rw [ce_35]; rfl) (fun _ _ => trivial)
theorem ce_2 : Try.prog.cellsOf 2 = 1 := by kernel_rfl
theorem ce_116 : Try.prog.cellsOf 116 = 2 := by kernel_rfl
theorem rd_res : Rds Try.prog 116 encRes (fun _ => True) :=
  Rds.struct TT28.u116 (fun b => (⟨b.1, b.2.1⟩ : Res)) (.cons rfl ce_9 (fun _ => rfl) (Rds.string TT28.u9) (.cons rfl ce_2 (fun _ => rfl) (Rds.int TT28.u2) (.nil))) (fun _ => rfl) (fun _ => by rw [ce_116]; rfl) (fun _ _ => trivial)
theorem ce_36 : Try.prog.cellsOf 36 = 1 := by kernel_rfl
theorem ce_4 : Try.prog.cellsOf 4 = 1 := by kernel_rfl
theorem ce_38 : Try.prog.cellsOf 38 = 8 := by kernel_rfl
theorem rd_obj : Rds Try.prog 38 encObj (fun _ => True) :=
  Rds.struct TT28.u38 (fun b => (⟨b.1, b.2.1, b.2.2.1, b.2.2.2.1, b.2.2.2.2.1, b.2.2.2.2.2.1⟩ : Object)) (.cons rfl ce_35 (fun _ => rfl) rd_key (.cons rfl ce_2 (fun _ => rfl) (Rds.int TT28.u2) (.cons rfl ce_9 (fun _ => rfl) (Rds.string TT28.u9) (.cons rfl ce_4 (fun _ => rfl) (Rds.bool TT28.u4) (.cons rfl ce_4 (fun _ => rfl) (Rds.bool TT28.u4) (.cons rfl ce_36 (fun _ => rfl) (Rds.slice TT28.u36 ce_116 (by decide) (fun _ => rfl) rd_res) (.nil))))))) (fun _ => rfl) (fun _ => by rw [ce_38]; rfl) (fun _ _ => trivial)
theorem ce_40 : Try.prog.cellsOf 40 = 9 := by kernel_rfl
theorem rd_wr : Rds Try.prog 40 encWr (fun _ => True) :=
  Rds.struct TT28.u40 (fun b => (⟨b.1, b.2.1⟩ : Wr)) (.cons rfl ce_4 (fun _ => rfl) (Rds.bool TT28.u4) (.cons rfl ce_38 (fun _ => rfl) rd_obj (.nil))) (fun _ => rfl) (fun _ => by rw [ce_40]; rfl) (fun _ _ => trivial)
theorem ce_48 : Try.prog.cellsOf 48 = 1 := by kernel_rfl
theorem ce_47 : Try.prog.cellsOf 47 = 1 := by kernel_rfl
theorem ce_50 : Try.prog.cellsOf 50 = 11 := by kernel_rfl
theorem rd_ev : Rds Try.prog 50 encEv (fun _ => True) :=
  Rds.struct TT28.u50 (fun b => (⟨b.1, b.2.1, b.2.2.1, b.2.2.2.1⟩ : Evt)) (.cons rfl ce_47 (fun _ => rfl) (Rds.int TT28.u47) (.cons rfl ce_38 (fun _ => rfl) rd_obj (.cons rfl ce_2 (fun _ => rfl) (Rds.int TT28.u2) (.cons rfl ce_48 (fun _ => rfl) (Rds.slice TT28.u48 ce_38 (by decide) (fun _ => rfl) rd_obj) (.nil))))) (fun _ => rfl) (fun _ => by rw [ce_50]; rfl) (fun _ _ => trivial)
theorem laidOut : laidOutB Try.prog = true := by kernel_rfl
end Go.Proofs.Ytncecheccihjoaa
