/-
  No cell of these rows narrows 'for every input' (looked for: loops, veiled, ifaces, maps, wideKeys, modest, calm, conditions, laid).
  DERIVED. THE GIVEN ROWS OF THIS SEAT. 11 by the template 'for every input the law returns true; each argument reads behind the call as it read before'; 0 by the template 'total and deterministic' (their statements: YtdfhfgepbigljaaGreatTotals.lean).
  GIVEN WITH THE SEED: the statements are not yours to turn. If you find one false, say at which input.
  Laid BY PROGRAM, IN A SANDBOX (cutbox-rows.mjs): the forced cells as the released guide's own fill.sh prints them over the translation 1da55100a3487b1e… (all of the seat's roots in one cut). By AI agents, Wed Nov 11 2026. No macro, syntax, notation, axiom, sorry.
-/
import Derived.Test.YtdfhfgepbigljaaGreatChecked
import GoSem.Claim
import GoSem.ClaimJoined
import GoSem.ClaimMapViews
import Derived.JoinedTies
import Derived.KernelRfl
namespace Go.Proofs.YtdfhfgepbigljaaGreat
/- THE CELL 'sum', in the pinned program and in every row, IS THE sha256 OF THE DUMP (.gsa) THAT YtdfhfgepbigljaaGreatProg.lean LOADS. Nothing in Lean hashes anything: it is a label: what it is worth is what the hold of that sum in a sandbox is worth. -/
noncomputable def Tryz.pinned : Pinned := { name := "ytdfhfgepbigljaagreat", sum := "1da55100a3487b1e91f9bc00ec06db23c7c82b2f2990184a527898887d07e57b", checked := Tryz.checked }
namespace Rows
def none {H : Type} : Left H := { results := [], args := [] }

/-- 'lanternlaw6.LinkWhole': WHATEVER THE INPUT: true; the input reads as it did. -/
def linkWholeSpec : ChangeSpec := { name := "linkWhole", fn := fun _ => fun
  | [d1, d2, d3] => { results := [.lit (.bool true)], args := [d1, d2, d3] }
  | _ => none }
def linkWholeRow : OpenClaim := { program := "ytdfhfgepbigljaagreat", sum := "1da55100a3487b1e91f9bc00ec06db23c7c82b2f2990184a527898887d07e57b", func := "lantern/lanternlaw6.LinkWhole", spec := "linkWhole", inPlace := ["internal/bytealg.IndexByteString"], unfollowed := true, recurses := true, apart := false }
def LinkWholeSaid : Prop := linkWholeRow.holds Tryz.pinned (OpenSpec.ofChange linkWholeSpec)

/-- ITS FALSE NEIGHBOUR: 'it returns false'. Refute it at one input. -/
def linkWholeWrong : ChangeSpec := { name := "linkWhole", fn := fun _ => fun
  | [d1, d2, d3] => { results := [.lit (.bool false)], args := [d1, d2, d3] }
  | _ => none }
def LinkWholeWrongFalsely : Prop := linkWholeRow.holds Tryz.pinned (OpenSpec.ofChange linkWholeWrong)

/-- 'lanternlaw6.LinkRings': WHATEVER THE INPUT: true; the input reads as it did. -/
def linkRingsSpec : ChangeSpec := { name := "linkRings", fn := fun _ => fun
  | [d1, d2] => { results := [.lit (.bool true)], args := [d1, d2] }
  | _ => none }
def linkRingsRow : OpenClaim := { program := "ytdfhfgepbigljaagreat", sum := "1da55100a3487b1e91f9bc00ec06db23c7c82b2f2990184a527898887d07e57b", func := "lantern/lanternlaw6.LinkRings", spec := "linkRings", inPlace := ["internal/bytealg.IndexByteString"], unfollowed := true, recurses := true, apart := false }
def LinkRingsSaid : Prop := linkRingsRow.holds Tryz.pinned (OpenSpec.ofChange linkRingsSpec)

/-- ITS FALSE NEIGHBOUR: 'it returns false'. Refute it at one input. -/
def linkRingsWrong : ChangeSpec := { name := "linkRings", fn := fun _ => fun
  | [d1, d2] => { results := [.lit (.bool false)], args := [d1, d2] }
  | _ => none }
def LinkRingsWrongFalsely : Prop := linkRingsRow.holds Tryz.pinned (OpenSpec.ofChange linkRingsWrong)

/-- 'lanternlaw6.LinkMany': WHATEVER THE INPUT: true; the input reads as it did. -/
def linkManySpec : ChangeSpec := { name := "linkMany", fn := fun _ => fun
  | [d] => { results := [.lit (.bool true)], args := [d] }
  | _ => none }
def linkManyRow : OpenClaim := { program := "ytdfhfgepbigljaagreat", sum := "1da55100a3487b1e91f9bc00ec06db23c7c82b2f2990184a527898887d07e57b", func := "lantern/lanternlaw6.LinkMany", spec := "linkMany", inPlace := ["internal/bytealg.IndexByteString"], unfollowed := true, recurses := true, apart := false }
def LinkManySaid : Prop := linkManyRow.holds Tryz.pinned (OpenSpec.ofChange linkManySpec)

/-- ITS FALSE NEIGHBOUR: 'it returns false'. Refute it at one input. -/
def linkManyWrong : ChangeSpec := { name := "linkMany", fn := fun _ => fun
  | [d] => { results := [.lit (.bool false)], args := [d] }
  | _ => none }
def LinkManyWrongFalsely : Prop := linkManyRow.holds Tryz.pinned (OpenSpec.ofChange linkManyWrong)

/-- 'lanternlaw6.LinkAsks': WHATEVER THE INPUT: true; the input reads as it did. -/
def linkAsksSpec : ChangeSpec := { name := "linkAsks", fn := fun _ => fun
  | [d1, d2] => { results := [.lit (.bool true)], args := [d1, d2] }
  | _ => none }
def linkAsksRow : OpenClaim := { program := "ytdfhfgepbigljaagreat", sum := "1da55100a3487b1e91f9bc00ec06db23c7c82b2f2990184a527898887d07e57b", func := "lantern/lanternlaw6.LinkAsks", spec := "linkAsks", inPlace := ["internal/bytealg.IndexByteString"], unfollowed := true, recurses := true, apart := false }
def LinkAsksSaid : Prop := linkAsksRow.holds Tryz.pinned (OpenSpec.ofChange linkAsksSpec)

/-- ITS FALSE NEIGHBOUR: 'it returns false'. Refute it at one input. -/
def linkAsksWrong : ChangeSpec := { name := "linkAsks", fn := fun _ => fun
  | [d1, d2] => { results := [.lit (.bool false)], args := [d1, d2] }
  | _ => none }
def LinkAsksWrongFalsely : Prop := linkAsksRow.holds Tryz.pinned (OpenSpec.ofChange linkAsksWrong)

/-- 'lanternlaw6.LinkOrder': WHATEVER THE INPUT: true; the input reads as it did. -/
def linkOrderSpec : ChangeSpec := { name := "linkOrder", fn := fun _ => fun
  | [d1, d2] => { results := [.lit (.bool true)], args := [d1, d2] }
  | _ => none }
def linkOrderRow : OpenClaim := { program := "ytdfhfgepbigljaagreat", sum := "1da55100a3487b1e91f9bc00ec06db23c7c82b2f2990184a527898887d07e57b", func := "lantern/lanternlaw6.LinkOrder", spec := "linkOrder", inPlace := ["internal/bytealg.IndexByteString"], unfollowed := true, recurses := true, apart := false }
def LinkOrderSaid : Prop := linkOrderRow.holds Tryz.pinned (OpenSpec.ofChange linkOrderSpec)

/-- ITS FALSE NEIGHBOUR: 'it returns false'. Refute it at one input. -/
def linkOrderWrong : ChangeSpec := { name := "linkOrder", fn := fun _ => fun
  | [d1, d2] => { results := [.lit (.bool false)], args := [d1, d2] }
  | _ => none }
def LinkOrderWrongFalsely : Prop := linkOrderRow.holds Tryz.pinned (OpenSpec.ofChange linkOrderWrong)

/-- 'lanternlaw6.LinkKin': WHATEVER THE INPUT: true; the input reads as it did. -/
def linkKinSpec : ChangeSpec := { name := "linkKin", fn := fun _ => fun
  | [d] => { results := [.lit (.bool true)], args := [d] }
  | _ => none }
def linkKinRow : OpenClaim := { program := "ytdfhfgepbigljaagreat", sum := "1da55100a3487b1e91f9bc00ec06db23c7c82b2f2990184a527898887d07e57b", func := "lantern/lanternlaw6.LinkKin", spec := "linkKin", inPlace := ["internal/bytealg.IndexByteString"], unfollowed := true, recurses := true, apart := false }
def LinkKinSaid : Prop := linkKinRow.holds Tryz.pinned (OpenSpec.ofChange linkKinSpec)

/-- ITS FALSE NEIGHBOUR: 'it returns false'. Refute it at one input. -/
def linkKinWrong : ChangeSpec := { name := "linkKin", fn := fun _ => fun
  | [d] => { results := [.lit (.bool false)], args := [d] }
  | _ => none }
def LinkKinWrongFalsely : Prop := linkKinRow.holds Tryz.pinned (OpenSpec.ofChange linkKinWrong)

/-- 'lanternlaw6.LinkGiven': WHATEVER THE INPUT: true; the input reads as it did. -/
def linkGivenSpec : ChangeSpec := { name := "linkGiven", fn := fun _ => fun
  | [d] => { results := [.lit (.bool true)], args := [d] }
  | _ => none }
def linkGivenRow : OpenClaim := { program := "ytdfhfgepbigljaagreat", sum := "1da55100a3487b1e91f9bc00ec06db23c7c82b2f2990184a527898887d07e57b", func := "lantern/lanternlaw6.LinkGiven", spec := "linkGiven", inPlace := ["internal/bytealg.IndexByteString"], unfollowed := true, recurses := true, apart := false }
def LinkGivenSaid : Prop := linkGivenRow.holds Tryz.pinned (OpenSpec.ofChange linkGivenSpec)

/-- ITS FALSE NEIGHBOUR: 'it returns false'. Refute it at one input. -/
def linkGivenWrong : ChangeSpec := { name := "linkGiven", fn := fun _ => fun
  | [d] => { results := [.lit (.bool false)], args := [d] }
  | _ => none }
def LinkGivenWrongFalsely : Prop := linkGivenRow.holds Tryz.pinned (OpenSpec.ofChange linkGivenWrong)

/-- 'lanternlaw8.ResolveDispatch': WHATEVER THE INPUT: true; the input reads as it did. -/
def resolveDispatchSpec : ChangeSpec := { name := "resolveDispatch", fn := fun _ => fun
  | [d] => { results := [.lit (.bool true)], args := [d] }
  | _ => none }
def resolveDispatchRow : OpenClaim := { program := "ytdfhfgepbigljaagreat", sum := "1da55100a3487b1e91f9bc00ec06db23c7c82b2f2990184a527898887d07e57b", func := "lantern/lanternlaw8.ResolveDispatch", spec := "resolveDispatch", inPlace := ["internal/bytealg.IndexByteString"], unfollowed := true, recurses := true, apart := false }
def ResolveDispatchSaid : Prop := resolveDispatchRow.holds Tryz.pinned (OpenSpec.ofChange resolveDispatchSpec)

/-- ITS FALSE NEIGHBOUR: 'it returns false'. Refute it at one input. -/
def resolveDispatchWrong : ChangeSpec := { name := "resolveDispatch", fn := fun _ => fun
  | [d] => { results := [.lit (.bool false)], args := [d] }
  | _ => none }
def ResolveDispatchWrongFalsely : Prop := resolveDispatchRow.holds Tryz.pinned (OpenSpec.ofChange resolveDispatchWrong)

/-- 'lanternlaw8.ResolveNear': WHATEVER THE INPUT: true; the input reads as it did. -/
def resolveNearSpec : ChangeSpec := { name := "resolveNear", fn := fun _ => fun
  | [d1, d2, d3] => { results := [.lit (.bool true)], args := [d1, d2, d3] }
  | _ => none }
def resolveNearRow : OpenClaim := { program := "ytdfhfgepbigljaagreat", sum := "1da55100a3487b1e91f9bc00ec06db23c7c82b2f2990184a527898887d07e57b", func := "lantern/lanternlaw8.ResolveNear", spec := "resolveNear", inPlace := ["internal/bytealg.IndexByteString"], unfollowed := true, recurses := true, apart := false }
def ResolveNearSaid : Prop := resolveNearRow.holds Tryz.pinned (OpenSpec.ofChange resolveNearSpec)

/-- ITS FALSE NEIGHBOUR: 'it returns false'. Refute it at one input. -/
def resolveNearWrong : ChangeSpec := { name := "resolveNear", fn := fun _ => fun
  | [d1, d2, d3] => { results := [.lit (.bool false)], args := [d1, d2, d3] }
  | _ => none }
def ResolveNearWrongFalsely : Prop := resolveNearRow.holds Tryz.pinned (OpenSpec.ofChange resolveNearWrong)

/-- 'lanternlaw8.ResolveCalls': WHATEVER THE INPUT: true; the input reads as it did. -/
def resolveCallsSpec : ChangeSpec := { name := "resolveCalls", fn := fun _ => fun
  | [d1, d2] => { results := [.lit (.bool true)], args := [d1, d2] }
  | _ => none }
def resolveCallsRow : OpenClaim := { program := "ytdfhfgepbigljaagreat", sum := "1da55100a3487b1e91f9bc00ec06db23c7c82b2f2990184a527898887d07e57b", func := "lantern/lanternlaw8.ResolveCalls", spec := "resolveCalls", inPlace := ["internal/bytealg.IndexByteString"], unfollowed := true, recurses := true, apart := false }
def ResolveCallsSaid : Prop := resolveCallsRow.holds Tryz.pinned (OpenSpec.ofChange resolveCallsSpec)

/-- ITS FALSE NEIGHBOUR: 'it returns false'. Refute it at one input. -/
def resolveCallsWrong : ChangeSpec := { name := "resolveCalls", fn := fun _ => fun
  | [d1, d2] => { results := [.lit (.bool false)], args := [d1, d2] }
  | _ => none }
def ResolveCallsWrongFalsely : Prop := resolveCallsRow.holds Tryz.pinned (OpenSpec.ofChange resolveCallsWrong)

/-- 'lanternlaw8.ResolveAsks': WHATEVER THE INPUT: true; the input reads as it did. -/
def resolveAsksSpec : ChangeSpec := { name := "resolveAsks", fn := fun _ => fun
  | [d1, d2, d3, d4, d5, d6] => { results := [.lit (.bool true)], args := [d1, d2, d3, d4, d5, d6] }
  | _ => none }
def resolveAsksRow : OpenClaim := { program := "ytdfhfgepbigljaagreat", sum := "1da55100a3487b1e91f9bc00ec06db23c7c82b2f2990184a527898887d07e57b", func := "lantern/lanternlaw8.ResolveAsks", spec := "resolveAsks", inPlace := ["internal/bytealg.IndexByteString"], unfollowed := true, recurses := true, apart := false }
def ResolveAsksSaid : Prop := resolveAsksRow.holds Tryz.pinned (OpenSpec.ofChange resolveAsksSpec)

/-- ITS FALSE NEIGHBOUR: 'it returns false'. Refute it at one input. -/
def resolveAsksWrong : ChangeSpec := { name := "resolveAsks", fn := fun _ => fun
  | [d1, d2, d3, d4, d5, d6] => { results := [.lit (.bool false)], args := [d1, d2, d3, d4, d5, d6] }
  | _ => none }
def ResolveAsksWrongFalsely : Prop := resolveAsksRow.holds Tryz.pinned (OpenSpec.ofChange resolveAsksWrong)

/- THE SECOND FORM. 'bulk': how many values and letters a reading holds, each counted each time it is reached (what is shared counts as often as it is met; a slice's spare places count too). A statement '..UptoSaid' is the law's where the arguments, and the package variables that the reading takes, are together of bulk at most 1048576: NARROWER than '..Said'. Prove '..Said' where nothing that the law and all that it calls make is longer than what came in: it says more and counts as full. Else prove '..UptoSaid'. A law counts once. -/
mutual
def uptoBulk {H : Type} : DataW H → Nat
  | .lit (.string bytes) => bytes.length + 1
  | .lit _ => 1
  | .nil => 1
  | .ptr d => uptoBulk d + 1
  | .slice elems spare => uptoBulkAll elems + uptoBulkAll spare + 1
  | .agg parts => uptoBulkAll parts + 1
  | .iface _ d => uptoBulk d + 1
  | .map entries => uptoBulkEntries entries + 1
  | .held _ => 1
def uptoBulkAll {H : Type} : List (DataW H) → Nat
  | [] => 0
  | d :: r => uptoBulk d + uptoBulkAll r
def uptoBulkEntries {H : Type} : List (Lit × DataW H) → Nat
  | [] => 0
  | x :: r => uptoBulkEntry x + uptoBulkEntries r
def uptoBulkEntry {H : Type} : Lit × DataW H → Nat
  | (.string bytes, d) => bytes.length + uptoBulk d + 1
  | (_, d) => uptoBulk d + 1
 end
def uptoSmall : (H : Type) → List (DataW H) → Bool := fun _ ds => decide (uptoBulkAll ds ≤ 1048576)
def OpenSpec.upto (s : _root_.Go.ChangeSpec) : _root_.Go.OpenSpec := { _root_.Go.OpenSpec.ofChange s with cond := some uptoSmall }

/-- 'lanternlaw6.LinkWhole', WHERE WHAT IT READS IS OF BULK AT MOST 1048576: true; the input reads as it did. -/
def linkWholeUptoRow : OpenClaim := { program := "ytdfhfgepbigljaagreat", sum := "1da55100a3487b1e91f9bc00ec06db23c7c82b2f2990184a527898887d07e57b", func := "lantern/lanternlaw6.LinkWhole", spec := "linkWhole", inPlace := ["internal/bytealg.IndexByteString"], unfollowed := true, recurses := true, apart := false, narrowed := true }
def LinkWholeUptoSaid : Prop := linkWholeUptoRow.holds Tryz.pinned (OpenSpec.upto linkWholeSpec)

/-- 'lanternlaw6.LinkRings', WHERE WHAT IT READS IS OF BULK AT MOST 1048576: true; the input reads as it did. -/
def linkRingsUptoRow : OpenClaim := { program := "ytdfhfgepbigljaagreat", sum := "1da55100a3487b1e91f9bc00ec06db23c7c82b2f2990184a527898887d07e57b", func := "lantern/lanternlaw6.LinkRings", spec := "linkRings", inPlace := ["internal/bytealg.IndexByteString"], unfollowed := true, recurses := true, apart := false, narrowed := true }
def LinkRingsUptoSaid : Prop := linkRingsUptoRow.holds Tryz.pinned (OpenSpec.upto linkRingsSpec)

/-- 'lanternlaw6.LinkMany', WHERE WHAT IT READS IS OF BULK AT MOST 1048576: true; the input reads as it did. -/
def linkManyUptoRow : OpenClaim := { program := "ytdfhfgepbigljaagreat", sum := "1da55100a3487b1e91f9bc00ec06db23c7c82b2f2990184a527898887d07e57b", func := "lantern/lanternlaw6.LinkMany", spec := "linkMany", inPlace := ["internal/bytealg.IndexByteString"], unfollowed := true, recurses := true, apart := false, narrowed := true }
def LinkManyUptoSaid : Prop := linkManyUptoRow.holds Tryz.pinned (OpenSpec.upto linkManySpec)

/-- 'lanternlaw6.LinkAsks', WHERE WHAT IT READS IS OF BULK AT MOST 1048576: true; the input reads as it did. -/
def linkAsksUptoRow : OpenClaim := { program := "ytdfhfgepbigljaagreat", sum := "1da55100a3487b1e91f9bc00ec06db23c7c82b2f2990184a527898887d07e57b", func := "lantern/lanternlaw6.LinkAsks", spec := "linkAsks", inPlace := ["internal/bytealg.IndexByteString"], unfollowed := true, recurses := true, apart := false, narrowed := true }
def LinkAsksUptoSaid : Prop := linkAsksUptoRow.holds Tryz.pinned (OpenSpec.upto linkAsksSpec)

/-- 'lanternlaw6.LinkOrder', WHERE WHAT IT READS IS OF BULK AT MOST 1048576: true; the input reads as it did. -/
def linkOrderUptoRow : OpenClaim := { program := "ytdfhfgepbigljaagreat", sum := "1da55100a3487b1e91f9bc00ec06db23c7c82b2f2990184a527898887d07e57b", func := "lantern/lanternlaw6.LinkOrder", spec := "linkOrder", inPlace := ["internal/bytealg.IndexByteString"], unfollowed := true, recurses := true, apart := false, narrowed := true }
def LinkOrderUptoSaid : Prop := linkOrderUptoRow.holds Tryz.pinned (OpenSpec.upto linkOrderSpec)

/-- 'lanternlaw6.LinkKin', WHERE WHAT IT READS IS OF BULK AT MOST 1048576: true; the input reads as it did. -/
def linkKinUptoRow : OpenClaim := { program := "ytdfhfgepbigljaagreat", sum := "1da55100a3487b1e91f9bc00ec06db23c7c82b2f2990184a527898887d07e57b", func := "lantern/lanternlaw6.LinkKin", spec := "linkKin", inPlace := ["internal/bytealg.IndexByteString"], unfollowed := true, recurses := true, apart := false, narrowed := true }
def LinkKinUptoSaid : Prop := linkKinUptoRow.holds Tryz.pinned (OpenSpec.upto linkKinSpec)

/-- 'lanternlaw6.LinkGiven', WHERE WHAT IT READS IS OF BULK AT MOST 1048576: true; the input reads as it did. -/
def linkGivenUptoRow : OpenClaim := { program := "ytdfhfgepbigljaagreat", sum := "1da55100a3487b1e91f9bc00ec06db23c7c82b2f2990184a527898887d07e57b", func := "lantern/lanternlaw6.LinkGiven", spec := "linkGiven", inPlace := ["internal/bytealg.IndexByteString"], unfollowed := true, recurses := true, apart := false, narrowed := true }
def LinkGivenUptoSaid : Prop := linkGivenUptoRow.holds Tryz.pinned (OpenSpec.upto linkGivenSpec)

/-- 'lanternlaw8.ResolveDispatch', WHERE WHAT IT READS IS OF BULK AT MOST 1048576: true; the input reads as it did. -/
def resolveDispatchUptoRow : OpenClaim := { program := "ytdfhfgepbigljaagreat", sum := "1da55100a3487b1e91f9bc00ec06db23c7c82b2f2990184a527898887d07e57b", func := "lantern/lanternlaw8.ResolveDispatch", spec := "resolveDispatch", inPlace := ["internal/bytealg.IndexByteString"], unfollowed := true, recurses := true, apart := false, narrowed := true }
def ResolveDispatchUptoSaid : Prop := resolveDispatchUptoRow.holds Tryz.pinned (OpenSpec.upto resolveDispatchSpec)

/-- 'lanternlaw8.ResolveNear', WHERE WHAT IT READS IS OF BULK AT MOST 1048576: true; the input reads as it did. -/
def resolveNearUptoRow : OpenClaim := { program := "ytdfhfgepbigljaagreat", sum := "1da55100a3487b1e91f9bc00ec06db23c7c82b2f2990184a527898887d07e57b", func := "lantern/lanternlaw8.ResolveNear", spec := "resolveNear", inPlace := ["internal/bytealg.IndexByteString"], unfollowed := true, recurses := true, apart := false, narrowed := true }
def ResolveNearUptoSaid : Prop := resolveNearUptoRow.holds Tryz.pinned (OpenSpec.upto resolveNearSpec)

/-- 'lanternlaw8.ResolveCalls', WHERE WHAT IT READS IS OF BULK AT MOST 1048576: true; the input reads as it did. -/
def resolveCallsUptoRow : OpenClaim := { program := "ytdfhfgepbigljaagreat", sum := "1da55100a3487b1e91f9bc00ec06db23c7c82b2f2990184a527898887d07e57b", func := "lantern/lanternlaw8.ResolveCalls", spec := "resolveCalls", inPlace := ["internal/bytealg.IndexByteString"], unfollowed := true, recurses := true, apart := false, narrowed := true }
def ResolveCallsUptoSaid : Prop := resolveCallsUptoRow.holds Tryz.pinned (OpenSpec.upto resolveCallsSpec)

/-- 'lanternlaw8.ResolveAsks', WHERE WHAT IT READS IS OF BULK AT MOST 1048576: true; the input reads as it did. -/
def resolveAsksUptoRow : OpenClaim := { program := "ytdfhfgepbigljaagreat", sum := "1da55100a3487b1e91f9bc00ec06db23c7c82b2f2990184a527898887d07e57b", func := "lantern/lanternlaw8.ResolveAsks", spec := "resolveAsks", inPlace := ["internal/bytealg.IndexByteString"], unfollowed := true, recurses := true, apart := false, narrowed := true }
def ResolveAsksUptoSaid : Prop := resolveAsksUptoRow.holds Tryz.pinned (OpenSpec.upto resolveAsksSpec)

end Rows
end Go.Proofs.YtdfhfgepbigljaaGreat
