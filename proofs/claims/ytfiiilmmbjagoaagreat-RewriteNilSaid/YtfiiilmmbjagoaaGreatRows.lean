/-
  NARROWER THAN 'FOR EVERY INPUT', by the rows' own cells (each row's printed sentence says how): RewriteAll: loops · RewriteSound: loops · RewriteLess: loops · InferSound: loops · InferNames: loops · InferSmall: loops · RewriteNil: loops.
  DERIVED. THE GIVEN ROWS OF THIS SEAT. 7 by the template 'for every input the law returns true; each argument reads behind the call as it read before'; 0 by the template 'total and deterministic' (their statements: YtfiiilmmbjagoaaGreatTotals.lean).
  GIVEN WITH THE SEED: the statements are not yours to turn. If you find one false, say at which input.
  Laid BY PROGRAM, IN A SANDBOX (cutbox-rows.mjs): the forced cells as the released guide's own fill.sh prints them over the translation d5e47167bbc42f22… (all of the seat's roots in one cut). By AI agents, Wed Nov 11 2026. No macro, syntax, notation, axiom, sorry.
-/
import Derived.Test.YtfiiilmmbjagoaaGreatChecked
import GoSem.Claim
import GoSem.ClaimJoined
import GoSem.ClaimMapViews
import Derived.JoinedTies
import Derived.KernelRfl
namespace Go.Proofs.YtfiiilmmbjagoaaGreat
/- THE CELL 'sum', in the pinned program and in every row, IS THE sha256 OF THE DUMP (.gsa) THAT YtfiiilmmbjagoaaGreatProg.lean LOADS. Nothing in Lean hashes anything: it is a label: what it is worth is what the hold of that sum in a sandbox is worth. -/
noncomputable def Tryz.pinned : Pinned := { name := "ytfiiilmmbjagoaagreat", sum := "d5e47167bbc42f2253227c9c086bea52c94d549441d73ab29a038a03571eacca", checked := Tryz.checked }
namespace Rows
def none {H : Type} : Left H := { results := [], args := [] }

/-- 'syllogismlaw23.RewriteAll': WHATEVER THE INPUT: true; the input reads as it did. -/
def rewriteAllSpec : ChangeSpec := { name := "rewriteAll", fn := fun _ => fun
  | [d1, d2, d3, d4] => { results := [.lit (.bool true)], args := [d1, d2, d3, d4] }
  | _ => none }
def rewriteAllRow : OpenClaim := { program := "ytfiiilmmbjagoaagreat", sum := "d5e47167bbc42f2253227c9c086bea52c94d549441d73ab29a038a03571eacca", func := "syllogism/syllogismlaw23.RewriteAll", spec := "rewriteAll", unfollowed := true, recurses := true, loops := true, plainKeys := false, apart := false }
def RewriteAllSaid : Prop := rewriteAllRow.holds Tryz.pinned (OpenSpec.ofChange rewriteAllSpec)

/-- ITS FALSE NEIGHBOUR: 'it returns false'. Refute it at one input. -/
def rewriteAllWrong : ChangeSpec := { name := "rewriteAll", fn := fun _ => fun
  | [d1, d2, d3, d4] => { results := [.lit (.bool false)], args := [d1, d2, d3, d4] }
  | _ => none }
def RewriteAllWrongFalsely : Prop := rewriteAllRow.holds Tryz.pinned (OpenSpec.ofChange rewriteAllWrong)

/-- 'syllogismlaw23.RewriteSound': WHATEVER THE INPUT: true; the input reads as it did. -/
def rewriteSoundSpec : ChangeSpec := { name := "rewriteSound", fn := fun _ => fun
  | [d1, d2, d3, d4, d5] => { results := [.lit (.bool true)], args := [d1, d2, d3, d4, d5] }
  | _ => none }
def rewriteSoundRow : OpenClaim := { program := "ytfiiilmmbjagoaagreat", sum := "d5e47167bbc42f2253227c9c086bea52c94d549441d73ab29a038a03571eacca", func := "syllogism/syllogismlaw23.RewriteSound", spec := "rewriteSound", unfollowed := true, recurses := true, loops := true, plainKeys := false, apart := false }
def RewriteSoundSaid : Prop := rewriteSoundRow.holds Tryz.pinned (OpenSpec.ofChange rewriteSoundSpec)

/-- ITS FALSE NEIGHBOUR: 'it returns false'. Refute it at one input. -/
def rewriteSoundWrong : ChangeSpec := { name := "rewriteSound", fn := fun _ => fun
  | [d1, d2, d3, d4, d5] => { results := [.lit (.bool false)], args := [d1, d2, d3, d4, d5] }
  | _ => none }
def RewriteSoundWrongFalsely : Prop := rewriteSoundRow.holds Tryz.pinned (OpenSpec.ofChange rewriteSoundWrong)

/-- 'syllogismlaw23.RewriteLess': WHATEVER THE INPUT: true; the input reads as it did. -/
def rewriteLessSpec : ChangeSpec := { name := "rewriteLess", fn := fun _ => fun
  | [d1, d2, d3, d4] => { results := [.lit (.bool true)], args := [d1, d2, d3, d4] }
  | _ => none }
def rewriteLessRow : OpenClaim := { program := "ytfiiilmmbjagoaagreat", sum := "d5e47167bbc42f2253227c9c086bea52c94d549441d73ab29a038a03571eacca", func := "syllogism/syllogismlaw23.RewriteLess", spec := "rewriteLess", unfollowed := true, recurses := true, loops := true, plainKeys := false, apart := false }
def RewriteLessSaid : Prop := rewriteLessRow.holds Tryz.pinned (OpenSpec.ofChange rewriteLessSpec)

/-- ITS FALSE NEIGHBOUR: 'it returns false'. Refute it at one input. -/
def rewriteLessWrong : ChangeSpec := { name := "rewriteLess", fn := fun _ => fun
  | [d1, d2, d3, d4] => { results := [.lit (.bool false)], args := [d1, d2, d3, d4] }
  | _ => none }
def RewriteLessWrongFalsely : Prop := rewriteLessRow.holds Tryz.pinned (OpenSpec.ofChange rewriteLessWrong)

/-- 'syllogismlaw21.InferSound': WHATEVER THE INPUT: true; the input reads as it did. -/
def inferSoundSpec : ChangeSpec := { name := "inferSound", fn := fun _ => fun
  | [d1, d2, d3, d4, d5, d6, d7] => { results := [.lit (.bool true)], args := [d1, d2, d3, d4, d5, d6, d7] }
  | _ => none }
def inferSoundRow : OpenClaim := { program := "ytfiiilmmbjagoaagreat", sum := "d5e47167bbc42f2253227c9c086bea52c94d549441d73ab29a038a03571eacca", func := "syllogism/syllogismlaw21.InferSound", spec := "inferSound", unfollowed := true, recurses := true, loops := true, plainKeys := false, apart := false }
def InferSoundSaid : Prop := inferSoundRow.holds Tryz.pinned (OpenSpec.ofChange inferSoundSpec)

/-- ITS FALSE NEIGHBOUR: 'it returns false'. Refute it at one input. -/
def inferSoundWrong : ChangeSpec := { name := "inferSound", fn := fun _ => fun
  | [d1, d2, d3, d4, d5, d6, d7] => { results := [.lit (.bool false)], args := [d1, d2, d3, d4, d5, d6, d7] }
  | _ => none }
def InferSoundWrongFalsely : Prop := inferSoundRow.holds Tryz.pinned (OpenSpec.ofChange inferSoundWrong)

/-- 'syllogismlaw21.InferNames': WHATEVER THE INPUT: true; the input reads as it did. -/
def inferNamesSpec : ChangeSpec := { name := "inferNames", fn := fun _ => fun
  | [d1, d2, d3, d4, d5] => { results := [.lit (.bool true)], args := [d1, d2, d3, d4, d5] }
  | _ => none }
def inferNamesRow : OpenClaim := { program := "ytfiiilmmbjagoaagreat", sum := "d5e47167bbc42f2253227c9c086bea52c94d549441d73ab29a038a03571eacca", func := "syllogism/syllogismlaw21.InferNames", spec := "inferNames", unfollowed := true, recurses := true, loops := true, plainKeys := false, apart := false }
def InferNamesSaid : Prop := inferNamesRow.holds Tryz.pinned (OpenSpec.ofChange inferNamesSpec)

/-- ITS FALSE NEIGHBOUR: 'it returns false'. Refute it at one input. -/
def inferNamesWrong : ChangeSpec := { name := "inferNames", fn := fun _ => fun
  | [d1, d2, d3, d4, d5] => { results := [.lit (.bool false)], args := [d1, d2, d3, d4, d5] }
  | _ => none }
def InferNamesWrongFalsely : Prop := inferNamesRow.holds Tryz.pinned (OpenSpec.ofChange inferNamesWrong)

/-- 'syllogismlaw21.InferSmall': WHATEVER THE INPUT: true; the input reads as it did. -/
def inferSmallSpec : ChangeSpec := { name := "inferSmall", fn := fun _ => fun
  | [d1, d2, d3, d4, d5] => { results := [.lit (.bool true)], args := [d1, d2, d3, d4, d5] }
  | _ => none }
def inferSmallRow : OpenClaim := { program := "ytfiiilmmbjagoaagreat", sum := "d5e47167bbc42f2253227c9c086bea52c94d549441d73ab29a038a03571eacca", func := "syllogism/syllogismlaw21.InferSmall", spec := "inferSmall", unfollowed := true, recurses := true, loops := true, plainKeys := false, apart := false }
def InferSmallSaid : Prop := inferSmallRow.holds Tryz.pinned (OpenSpec.ofChange inferSmallSpec)

/-- ITS FALSE NEIGHBOUR: 'it returns false'. Refute it at one input. -/
def inferSmallWrong : ChangeSpec := { name := "inferSmall", fn := fun _ => fun
  | [d1, d2, d3, d4, d5] => { results := [.lit (.bool false)], args := [d1, d2, d3, d4, d5] }
  | _ => none }
def InferSmallWrongFalsely : Prop := inferSmallRow.holds Tryz.pinned (OpenSpec.ofChange inferSmallWrong)

/-- 'syllogismlaw23.RewriteNil': WHATEVER THE INPUT: true; the input reads as it did. -/
def rewriteNilSpec : ChangeSpec := { name := "rewriteNil", fn := fun _ => fun
  | [d1, d2] => { results := [.lit (.bool true)], args := [d1, d2] }
  | _ => none }
def rewriteNilRow : OpenClaim := { program := "ytfiiilmmbjagoaagreat", sum := "d5e47167bbc42f2253227c9c086bea52c94d549441d73ab29a038a03571eacca", func := "syllogism/syllogismlaw23.RewriteNil", spec := "rewriteNil", unfollowed := true, recurses := true, loops := true, plainKeys := false, apart := false }
def RewriteNilSaid : Prop := rewriteNilRow.holds Tryz.pinned (OpenSpec.ofChange rewriteNilSpec)

/-- ITS FALSE NEIGHBOUR: 'it returns false'. Refute it at one input. -/
def rewriteNilWrong : ChangeSpec := { name := "rewriteNil", fn := fun _ => fun
  | [d1, d2] => { results := [.lit (.bool false)], args := [d1, d2] }
  | _ => none }
def RewriteNilWrongFalsely : Prop := rewriteNilRow.holds Tryz.pinned (OpenSpec.ofChange rewriteNilWrong)

/- THE SECOND FORM. 'bulk': how many values and letters a reading holds, each counted each time it is reached (what is shared counts as often as it is met; a slice's spare places count too). A statement '..UptoSaid' is the law's where the arguments, and the package variables that the reading takes, are together of bulk at most 1048576: NARROWER than '..Said'. Prove '..Said' where nothing that the law and all that it calls make is longer than what came in: it says more and counts as full. Else prove '..UptoSaid'. A law counts once. -/
mutual
def uptoBulk {H : Type} : DataW H → Nat
  | .lit (.string bytes) => bytes.length + 1
  | .lit _ => 1
  | .nil => 1
  | .ptr d => uptoBulk d + 1
  | .slice elems spare => uptoBulkAll elems + uptoBulkAll spare + 1
  | .agg parts => uptoBulkAll parts + 1
  | .iface _ d => uptoBulk d + 1
  | .map entries => uptoBulkEntries entries + 1
  | .held _ => 1
def uptoBulkAll {H : Type} : List (DataW H) → Nat
  | [] => 0
  | d :: r => uptoBulk d + uptoBulkAll r
def uptoBulkEntries {H : Type} : List (Lit × DataW H) → Nat
  | [] => 0
  | x :: r => uptoBulkEntry x + uptoBulkEntries r
def uptoBulkEntry {H : Type} : Lit × DataW H → Nat
  | (.string bytes, d) => bytes.length + uptoBulk d + 1
  | (_, d) => uptoBulk d + 1
 end
def uptoSmall : (H : Type) → List (DataW H) → Bool := fun _ ds => decide (uptoBulkAll ds ≤ 1048576)
def OpenSpec.upto (s : _root_.Go.ChangeSpec) : _root_.Go.OpenSpec := { _root_.Go.OpenSpec.ofChange s with cond := some uptoSmall }

/-- 'syllogismlaw23.RewriteAll', WHERE WHAT IT READS IS OF BULK AT MOST 1048576: true; the input reads as it did. -/
def rewriteAllUptoRow : OpenClaim := { program := "ytfiiilmmbjagoaagreat", sum := "d5e47167bbc42f2253227c9c086bea52c94d549441d73ab29a038a03571eacca", func := "syllogism/syllogismlaw23.RewriteAll", spec := "rewriteAll", unfollowed := true, recurses := true, loops := true, plainKeys := false, apart := false, narrowed := true }
def RewriteAllUptoSaid : Prop := rewriteAllUptoRow.holds Tryz.pinned (OpenSpec.upto rewriteAllSpec)

/-- 'syllogismlaw23.RewriteSound', WHERE WHAT IT READS IS OF BULK AT MOST 1048576: true; the input reads as it did. -/
def rewriteSoundUptoRow : OpenClaim := { program := "ytfiiilmmbjagoaagreat", sum := "d5e47167bbc42f2253227c9c086bea52c94d549441d73ab29a038a03571eacca", func := "syllogism/syllogismlaw23.RewriteSound", spec := "rewriteSound", unfollowed := true, recurses := true, loops := true, plainKeys := false, apart := false, narrowed := true }
def RewriteSoundUptoSaid : Prop := rewriteSoundUptoRow.holds Tryz.pinned (OpenSpec.upto rewriteSoundSpec)

/-- 'syllogismlaw23.RewriteLess', WHERE WHAT IT READS IS OF BULK AT MOST 1048576: true; the input reads as it did. -/
def rewriteLessUptoRow : OpenClaim := { program := "ytfiiilmmbjagoaagreat", sum := "d5e47167bbc42f2253227c9c086bea52c94d549441d73ab29a038a03571eacca", func := "syllogism/syllogismlaw23.RewriteLess", spec := "rewriteLess", unfollowed := true, recurses := true, loops := true, plainKeys := false, apart := false, narrowed := true }
def RewriteLessUptoSaid : Prop := rewriteLessUptoRow.holds Tryz.pinned (OpenSpec.upto rewriteLessSpec)

/-- 'syllogismlaw21.InferSound', WHERE WHAT IT READS IS OF BULK AT MOST 1048576: true; the input reads as it did. -/
def inferSoundUptoRow : OpenClaim := { program := "ytfiiilmmbjagoaagreat", sum := "d5e47167bbc42f2253227c9c086bea52c94d549441d73ab29a038a03571eacca", func := "syllogism/syllogismlaw21.InferSound", spec := "inferSound", unfollowed := true, recurses := true, loops := true, plainKeys := false, apart := false, narrowed := true }
def InferSoundUptoSaid : Prop := inferSoundUptoRow.holds Tryz.pinned (OpenSpec.upto inferSoundSpec)

/-- 'syllogismlaw21.InferNames', WHERE WHAT IT READS IS OF BULK AT MOST 1048576: true; the input reads as it did. -/
def inferNamesUptoRow : OpenClaim := { program := "ytfiiilmmbjagoaagreat", sum := "d5e47167bbc42f2253227c9c086bea52c94d549441d73ab29a038a03571eacca", func := "syllogism/syllogismlaw21.InferNames", spec := "inferNames", unfollowed := true, recurses := true, loops := true, plainKeys := false, apart := false, narrowed := true }
def InferNamesUptoSaid : Prop := inferNamesUptoRow.holds Tryz.pinned (OpenSpec.upto inferNamesSpec)

/-- 'syllogismlaw21.InferSmall', WHERE WHAT IT READS IS OF BULK AT MOST 1048576: true; the input reads as it did. -/
def inferSmallUptoRow : OpenClaim := { program := "ytfiiilmmbjagoaagreat", sum := "d5e47167bbc42f2253227c9c086bea52c94d549441d73ab29a038a03571eacca", func := "syllogism/syllogismlaw21.InferSmall", spec := "inferSmall", unfollowed := true, recurses := true, loops := true, plainKeys := false, apart := false, narrowed := true }
def InferSmallUptoSaid : Prop := inferSmallUptoRow.holds Tryz.pinned (OpenSpec.upto inferSmallSpec)

/-- 'syllogismlaw23.RewriteNil', WHERE WHAT IT READS IS OF BULK AT MOST 1048576: true; the input reads as it did. -/
def rewriteNilUptoRow : OpenClaim := { program := "ytfiiilmmbjagoaagreat", sum := "d5e47167bbc42f2253227c9c086bea52c94d549441d73ab29a038a03571eacca", func := "syllogism/syllogismlaw23.RewriteNil", spec := "rewriteNil", unfollowed := true, recurses := true, loops := true, plainKeys := false, apart := false, narrowed := true }
def RewriteNilUptoSaid : Prop := rewriteNilUptoRow.holds Tryz.pinned (OpenSpec.upto rewriteNilSpec)

end Rows
end Go.Proofs.YtfiiilmmbjagoaaGreat
