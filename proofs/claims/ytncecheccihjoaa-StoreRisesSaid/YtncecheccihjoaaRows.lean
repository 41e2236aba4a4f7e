/-
  No cell of these rows narrows 'for every input' (looked for: loops, veiled, ifaces, maps, wideKeys, modest, calm, conditions, laid).
  DERIVED. THE GIVEN ROWS OF THIS SEAT. 9 by the template 'for every input the law returns true; each argument reads behind the call as it read before'; 0 by the template 'total and deterministic' (their statements: YtncecheccihjoaaTotals.lean).
  GIVEN WITH THE SEED: the statements are not yours to turn. If you find one false, say at which input.
  Laid BY PROGRAM, IN A SANDBOX (cutbox-rows.mjs): the forced cells as the released guide's own fill.sh prints them over the translation c1eb273b49b368d3… (all of the seat's roots in one cut). By AI agents, Wed Nov 11 2026. No macro, syntax, notation, axiom, sorry.
-/
import Derived.Test.YtncecheccihjoaaChecked
import GoSem.Claim
import GoSem.ClaimJoined
import GoSem.ClaimMapViews
import Derived.JoinedTies
import Derived.KernelRfl
namespace Go.Proofs.Ytncecheccihjoaa
/- THE CELL 'sum', in the pinned program and in every row, IS THE sha256 OF THE DUMP (.gsa) THAT YtncecheccihjoaaProg.lean LOADS. Nothing in Lean hashes anything: it is a label: what it is worth is what the hold of that sum in a sandbox is worth. -/
noncomputable def Try.pinned : Pinned := { name := "ytncecheccihjoaa", sum := "c1eb273b49b368d3d82062d30fae1cb17b2086c265f960f46392b49158488950", checked := Try.checked }
namespace Rows
def none {H : Type} : Left H := { results := [], args := [] }

/-- 'scutagelaw09.StorePlays': WHATEVER THE INPUT: true; the input reads as it did. -/
def storePlaysSpec : ChangeSpec := { name := "storePlays", fn := fun _ => fun
  | [d] => { results := [.lit (.bool true)], args := [d] }
  | _ => none }
def storePlaysRow : OpenClaim := { program := "ytncecheccihjoaa", sum := "c1eb273b49b368d3d82062d30fae1cb17b2086c265f960f46392b49158488950", func := "scutage/scutagelaw09.StorePlays", spec := "storePlays", unfollowed := true, recurses := true, plainKeys := false, apart := false }
def StorePlaysSaid : Prop := storePlaysRow.holds Try.pinned (OpenSpec.ofChange storePlaysSpec)

/-- ITS FALSE NEIGHBOUR: 'it returns false'. Refute it at one input. -/
def storePlaysWrong : ChangeSpec := { name := "storePlays", fn := fun _ => fun
  | [d] => { results := [.lit (.bool false)], args := [d] }
  | _ => none }
def StorePlaysWrongFalsely : Prop := storePlaysRow.holds Try.pinned (OpenSpec.ofChange storePlaysWrong)

/-- 'scutagelaw09.StoreRises': WHATEVER THE INPUT: true; the input reads as it did. -/
def storeRisesSpec : ChangeSpec := { name := "storeRises", fn := fun _ => fun
  | [d] => { results := [.lit (.bool true)], args := [d] }
  | _ => none }
def storeRisesRow : OpenClaim := { program := "ytncecheccihjoaa", sum := "c1eb273b49b368d3d82062d30fae1cb17b2086c265f960f46392b49158488950", func := "scutage/scutagelaw09.StoreRises", spec := "storeRises", unfollowed := true, recurses := true, plainKeys := false, apart := false }
def StoreRisesSaid : Prop := storeRisesRow.holds Try.pinned (OpenSpec.ofChange storeRisesSpec)

/-- ITS FALSE NEIGHBOUR: 'it returns false'. Refute it at one input. -/
def storeRisesWrong : ChangeSpec := { name := "storeRises", fn := fun _ => fun
  | [d] => { results := [.lit (.bool false)], args := [d] }
  | _ => none }
def StoreRisesWrongFalsely : Prop := storeRisesRow.holds Try.pinned (OpenSpec.ofChange storeRisesWrong)

/-- 'scutagelaw16.QuotaPlays': WHATEVER THE INPUT: true; the input reads as it did. -/
def quotaPlaysSpec : ChangeSpec := { name := "quotaPlays", fn := fun _ => fun
  | [d1, d2] => { results := [.lit (.bool true)], args := [d1, d2] }
  | _ => none }
def quotaPlaysRow : OpenClaim := { program := "ytncecheccihjoaa", sum := "c1eb273b49b368d3d82062d30fae1cb17b2086c265f960f46392b49158488950", func := "scutage/scutagelaw16.QuotaPlays", spec := "quotaPlays", unfollowed := true, recurses := true, plainKeys := false, apart := false }
def QuotaPlaysSaid : Prop := quotaPlaysRow.holds Try.pinned (OpenSpec.ofChange quotaPlaysSpec)

/-- ITS FALSE NEIGHBOUR: 'it returns false'. Refute it at one input. -/
def quotaPlaysWrong : ChangeSpec := { name := "quotaPlays", fn := fun _ => fun
  | [d1, d2] => { results := [.lit (.bool false)], args := [d1, d2] }
  | _ => none }
def QuotaPlaysWrongFalsely : Prop := quotaPlaysRow.holds Try.pinned (OpenSpec.ofChange quotaPlaysWrong)

/-- 'scutagelaw16.QuotaPut': WHATEVER THE INPUT: true; the input reads as it did. -/
def quotaPutSpec : ChangeSpec := { name := "quotaPut", fn := fun _ => fun
  | [d1, d2] => { results := [.lit (.bool true)], args := [d1, d2] }
  | _ => none }
def quotaPutRow : OpenClaim := { program := "ytncecheccihjoaa", sum := "c1eb273b49b368d3d82062d30fae1cb17b2086c265f960f46392b49158488950", func := "scutage/scutagelaw16.QuotaPut", spec := "quotaPut", unfollowed := true, recurses := true, plainKeys := false, apart := false }
def QuotaPutSaid : Prop := quotaPutRow.holds Try.pinned (OpenSpec.ofChange quotaPutSpec)

/-- ITS FALSE NEIGHBOUR: 'it returns false'. Refute it at one input. -/
def quotaPutWrong : ChangeSpec := { name := "quotaPut", fn := fun _ => fun
  | [d1, d2] => { results := [.lit (.bool false)], args := [d1, d2] }
  | _ => none }
def QuotaPutWrongFalsely : Prop := quotaPutRow.holds Try.pinned (OpenSpec.ofChange quotaPutWrong)

/-- 'scutagelaw08.CachePlays': WHATEVER THE INPUT: true; the input reads as it did. -/
def cachePlaysSpec : ChangeSpec := { name := "cachePlays", fn := fun _ => fun
  | [d] => { results := [.lit (.bool true)], args := [d] }
  | _ => none }
def cachePlaysRow : OpenClaim := { program := "ytncecheccihjoaa", sum := "c1eb273b49b368d3d82062d30fae1cb17b2086c265f960f46392b49158488950", func := "scutage/scutagelaw08.CachePlays", spec := "cachePlays", inPlace := ["maps.clone"], unfollowed := true, recurses := true, plainKeys := false, apart := false }
def CachePlaysSaid : Prop := cachePlaysRow.holds Try.pinned (OpenSpec.ofChange cachePlaysSpec)

/-- ITS FALSE NEIGHBOUR: 'it returns false'. Refute it at one input. -/
def cachePlaysWrong : ChangeSpec := { name := "cachePlays", fn := fun _ => fun
  | [d] => { results := [.lit (.bool false)], args := [d] }
  | _ => none }
def CachePlaysWrongFalsely : Prop := cachePlaysRow.holds Try.pinned (OpenSpec.ofChange cachePlaysWrong)

/-- 'scutagelaw08.CacheBack': WHATEVER THE INPUT: true; the input reads as it did. -/
def cacheBackSpec : ChangeSpec := { name := "cacheBack", fn := fun _ => fun
  | [d1, d2] => { results := [.lit (.bool true)], args := [d1, d2] }
  | _ => none }
def cacheBackRow : OpenClaim := { program := "ytncecheccihjoaa", sum := "c1eb273b49b368d3d82062d30fae1cb17b2086c265f960f46392b49158488950", func := "scutage/scutagelaw08.CacheBack", spec := "cacheBack", inPlace := ["maps.clone"], unfollowed := true, recurses := true, plainKeys := false, apart := false }
def CacheBackSaid : Prop := cacheBackRow.holds Try.pinned (OpenSpec.ofChange cacheBackSpec)

/-- ITS FALSE NEIGHBOUR: 'it returns false'. Refute it at one input. -/
def cacheBackWrong : ChangeSpec := { name := "cacheBack", fn := fun _ => fun
  | [d1, d2] => { results := [.lit (.bool false)], args := [d1, d2] }
  | _ => none }
def CacheBackWrongFalsely : Prop := cacheBackRow.holds Try.pinned (OpenSpec.ofChange cacheBackWrong)

/-- 'scutagelaw08.CacheLast': WHATEVER THE INPUT: true; the input reads as it did. -/
def cacheLastSpec : ChangeSpec := { name := "cacheLast", fn := fun _ => fun
  | [d] => { results := [.lit (.bool true)], args := [d] }
  | _ => none }
def cacheLastRow : OpenClaim := { program := "ytncecheccihjoaa", sum := "c1eb273b49b368d3d82062d30fae1cb17b2086c265f960f46392b49158488950", func := "scutage/scutagelaw08.CacheLast", spec := "cacheLast", inPlace := ["maps.clone"], unfollowed := true, recurses := true, plainKeys := false, apart := false }
def CacheLastSaid : Prop := cacheLastRow.holds Try.pinned (OpenSpec.ofChange cacheLastSpec)

/-- ITS FALSE NEIGHBOUR: 'it returns false'. Refute it at one input. -/
def cacheLastWrong : ChangeSpec := { name := "cacheLast", fn := fun _ => fun
  | [d] => { results := [.lit (.bool false)], args := [d] }
  | _ => none }
def CacheLastWrongFalsely : Prop := cacheLastRow.holds Try.pinned (OpenSpec.ofChange cacheLastWrong)

/-- 'scutagelaw08.CacheNet': WHATEVER THE INPUT: true; the input reads as it did. -/
def cacheNetSpec : ChangeSpec := { name := "cacheNet", fn := fun _ => fun
  | [d] => { results := [.lit (.bool true)], args := [d] }
  | _ => none }
def cacheNetRow : OpenClaim := { program := "ytncecheccihjoaa", sum := "c1eb273b49b368d3d82062d30fae1cb17b2086c265f960f46392b49158488950", func := "scutage/scutagelaw08.CacheNet", spec := "cacheNet", inPlace := ["maps.clone"], unfollowed := true, recurses := true, plainKeys := false, apart := false }
def CacheNetSaid : Prop := cacheNetRow.holds Try.pinned (OpenSpec.ofChange cacheNetSpec)

/-- ITS FALSE NEIGHBOUR: 'it returns false'. Refute it at one input. -/
def cacheNetWrong : ChangeSpec := { name := "cacheNet", fn := fun _ => fun
  | [d] => { results := [.lit (.bool false)], args := [d] }
  | _ => none }
def CacheNetWrongFalsely : Prop := cacheNetRow.holds Try.pinned (OpenSpec.ofChange cacheNetWrong)

/-- 'scutagelaw09.StoreTold': WHATEVER THE INPUT: true; the input reads as it did. -/
def storeToldSpec : ChangeSpec := { name := "storeTold", fn := fun _ => fun
  | [d1, d2] => { results := [.lit (.bool true)], args := [d1, d2] }
  | _ => none }
def storeToldRow : OpenClaim := { program := "ytncecheccihjoaa", sum := "c1eb273b49b368d3d82062d30fae1cb17b2086c265f960f46392b49158488950", func := "scutage/scutagelaw09.StoreTold", spec := "storeTold", inPlace := ["maps.clone"], unfollowed := true, recurses := true, plainKeys := false, apart := false }
def StoreToldSaid : Prop := storeToldRow.holds Try.pinned (OpenSpec.ofChange storeToldSpec)

/-- ITS FALSE NEIGHBOUR: 'it returns false'. Refute it at one input. -/
def storeToldWrong : ChangeSpec := { name := "storeTold", fn := fun _ => fun
  | [d1, d2] => { results := [.lit (.bool false)], args := [d1, d2] }
  | _ => none }
def StoreToldWrongFalsely : Prop := storeToldRow.holds Try.pinned (OpenSpec.ofChange storeToldWrong)

/- THE SECOND FORM. 'bulk': how many values and letters a reading holds, each counted each time it is reached (what is shared counts as often as it is met; a slice's spare places count too). A statement '..UptoSaid' is the law's where the arguments, and the package variables that the reading takes, are together of bulk at most 1048576: NARROWER than '..Said'. Prove '..Said' where nothing that the law and all that it calls make is longer than what came in: it says more and counts as full. Else prove '..UptoSaid'. A law counts once. -/
mutual
def uptoBulk {H : Type} : DataW H → Nat
  | .lit (.string bytes) => bytes.length + 1
  | .lit _ => 1
  | .nil => 1
  | .ptr d => uptoBulk d + 1
  | .slice elems spare => uptoBulkAll elems + uptoBulkAll spare + 1
  | .agg parts => uptoBulkAll parts + 1
  | .iface _ d => uptoBulk d + 1
  | .map entries => uptoBulkEntries entries + 1
  | .held _ => 1
def uptoBulkAll {H : Type} : List (DataW H) → Nat
  | [] => 0
  | d :: r => uptoBulk d + uptoBulkAll r
def uptoBulkEntries {H : Type} : List (Lit × DataW H) → Nat
  | [] => 0
  | x :: r => uptoBulkEntry x + uptoBulkEntries r
def uptoBulkEntry {H : Type} : Lit × DataW H → Nat
  | (.string bytes, d) => bytes.length + uptoBulk d + 1
  | (_, d) => uptoBulk d + 1
 end
def uptoSmall : (H : Type) → List (DataW H) → Bool := fun _ ds => decide (uptoBulkAll ds ≤ 1048576)
def OpenSpec.upto (s : _root_.Go.ChangeSpec) : _root_.Go.OpenSpec := { _root_.Go.OpenSpec.ofChange s with cond := some uptoSmall }

/-- 'scutagelaw09.StorePlays', WHERE WHAT IT READS IS OF BULK AT MOST 1048576: true; the input reads as it did. -/
def storePlaysUptoRow : OpenClaim := { program := "ytncecheccihjoaa", sum := "c1eb273b49b368d3d82062d30fae1cb17b2086c265f960f46392b49158488950", func := "scutage/scutagelaw09.StorePlays", spec := "storePlays", unfollowed := true, recurses := true, plainKeys := false, apart := false, narrowed := true }
def StorePlaysUptoSaid : Prop := storePlaysUptoRow.holds Try.pinned (OpenSpec.upto storePlaysSpec)

/-- 'scutagelaw09.StoreRises', WHERE WHAT IT READS IS OF BULK AT MOST 1048576: true; the input reads as it did. -/
def storeRisesUptoRow : OpenClaim := { program := "ytncecheccihjoaa", sum := "c1eb273b49b368d3d82062d30fae1cb17b2086c265f960f46392b49158488950", func := "scutage/scutagelaw09.StoreRises", spec := "storeRises", unfollowed := true, recurses := true, plainKeys := false, apart := false, narrowed := true }
def StoreRisesUptoSaid : Prop := storeRisesUptoRow.holds Try.pinned (OpenSpec.upto storeRisesSpec)

/-- 'scutagelaw16.QuotaPlays', WHERE WHAT IT READS IS OF BULK AT MOST 1048576: true; the input reads as it did. -/
def quotaPlaysUptoRow : OpenClaim := { program := "ytncecheccihjoaa", sum := "c1eb273b49b368d3d82062d30fae1cb17b2086c265f960f46392b49158488950", func := "scutage/scutagelaw16.QuotaPlays", spec := "quotaPlays", unfollowed := true, recurses := true, plainKeys := false, apart := false, narrowed := true }
def QuotaPlaysUptoSaid : Prop := quotaPlaysUptoRow.holds Try.pinned (OpenSpec.upto quotaPlaysSpec)

/-- 'scutagelaw16.QuotaPut', WHERE WHAT IT READS IS OF BULK AT MOST 1048576: true; the input reads as it did. -/
def quotaPutUptoRow : OpenClaim := { program := "ytncecheccihjoaa", sum := "c1eb273b49b368d3d82062d30fae1cb17b2086c265f960f46392b49158488950", func := "scutage/scutagelaw16.QuotaPut", spec := "quotaPut", unfollowed := true, recurses := true, plainKeys := false, apart := false, narrowed := true }
def QuotaPutUptoSaid : Prop := quotaPutUptoRow.holds Try.pinned (OpenSpec.upto quotaPutSpec)

/-- 'scutagelaw08.CachePlays', WHERE WHAT IT READS IS OF BULK AT MOST 1048576: true; the input reads as it did. -/
def cachePlaysUptoRow : OpenClaim := { program := "ytncecheccihjoaa", sum := "c1eb273b49b368d3d82062d30fae1cb17b2086c265f960f46392b49158488950", func := "scutage/scutagelaw08.CachePlays", spec := "cachePlays", inPlace := ["maps.clone"], unfollowed := true, recurses := true, plainKeys := false, apart := false, narrowed := true }
def CachePlaysUptoSaid : Prop := cachePlaysUptoRow.holds Try.pinned (OpenSpec.upto cachePlaysSpec)

/-- 'scutagelaw08.CacheBack', WHERE WHAT IT READS IS OF BULK AT MOST 1048576: true; the input reads as it did. -/
def cacheBackUptoRow : OpenClaim := { program := "ytncecheccihjoaa", sum := "c1eb273b49b368d3d82062d30fae1cb17b2086c265f960f46392b49158488950", func := "scutage/scutagelaw08.CacheBack", spec := "cacheBack", inPlace := ["maps.clone"], unfollowed := true, recurses := true, plainKeys := false, apart := false, narrowed := true }
def CacheBackUptoSaid : Prop := cacheBackUptoRow.holds Try.pinned (OpenSpec.upto cacheBackSpec)

/-- 'scutagelaw08.CacheLast', WHERE WHAT IT READS IS OF BULK AT MOST 1048576: true; the input reads as it did. -/
def cacheLastUptoRow : OpenClaim := { program := "ytncecheccihjoaa", sum := "c1eb273b49b368d3d82062d30fae1cb17b2086c265f960f46392b49158488950", func := "scutage/scutagelaw08.CacheLast", spec := "cacheLast", inPlace := ["maps.clone"], unfollowed := true, recurses := true, plainKeys := false, apart := false, narrowed := true }
def CacheLastUptoSaid : Prop := cacheLastUptoRow.holds Try.pinned (OpenSpec.upto cacheLastSpec)

/-- 'scutagelaw08.CacheNet', WHERE WHAT IT READS IS OF BULK AT MOST 1048576: true; the input reads as it did. -/
def cacheNetUptoRow : OpenClaim := { program := "ytncecheccihjoaa", sum := "c1eb273b49b368d3d82062d30fae1cb17b2086c265f960f46392b49158488950", func := "scutage/scutagelaw08.CacheNet", spec := "cacheNet", inPlace := ["maps.clone"], unfollowed := true, recurses := true, plainKeys := false, apart := false, narrowed := true }
def CacheNetUptoSaid : Prop := cacheNetUptoRow.holds Try.pinned (OpenSpec.upto cacheNetSpec)

/-- 'scutagelaw09.StoreTold', WHERE WHAT IT READS IS OF BULK AT MOST 1048576: true; the input reads as it did. -/
def storeToldUptoRow : OpenClaim := { program := "ytncecheccihjoaa", sum := "c1eb273b49b368d3d82062d30fae1cb17b2086c265f960f46392b49158488950", func := "scutage/scutagelaw09.StoreTold", spec := "storeTold", inPlace := ["maps.clone"], unfollowed := true, recurses := true, plainKeys := false, apart := false, narrowed := true }
def StoreToldUptoSaid : Prop := storeToldUptoRow.holds Try.pinned (OpenSpec.upto storeToldSpec)

end Rows
end Go.Proofs.Ytncecheccihjoaa
