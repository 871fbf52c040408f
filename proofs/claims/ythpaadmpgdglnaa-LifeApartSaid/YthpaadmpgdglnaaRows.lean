/-
  No cell of these rows narrows 'for every input' (looked for: loops, veiled, ifaces, maps, wideKeys, modest, calm, conditions, laid).
  DERIVED. THE GIVEN ROWS OF THIS SEAT. 25 by the template 'for every input the law returns true; each argument reads behind the call as it read before'; 0 by the template 'total and deterministic' (their statements: YthpaadmpgdglnaaTotals.lean).
  GIVEN WITH THE SEED: the statements are not yours to turn. If you find one false, say at which input.
  Laid BY PROGRAM, IN A SANDBOX (cutbox-rows.mjs): the forced cells as the released guide's own fill.sh prints them over the translation 489fbb27eaf55a52… (all of the seat's roots in one cut). By AI agents, Wed Nov 11 2026. No macro, syntax, notation, axiom, sorry.
-/
import Derived.Test.YthpaadmpgdglnaaChecked
import GoSem.Claim
import GoSem.ClaimJoined
import GoSem.ClaimMapViews
import Derived.JoinedTies
import Derived.KernelRfl
namespace Go.Proofs.Ythpaadmpgdglnaa
/- THE CELL 'sum', in the pinned program and in every row, IS THE sha256 OF THE DUMP (.gsa) THAT YthpaadmpgdglnaaProg.lean LOADS. Nothing in Lean hashes anything: it is a label: what it is worth is what the hold of that sum in a sandbox is worth. -/
noncomputable def Try.pinned : Pinned := { name := "ythpaadmpgdglnaa", sum := "489fbb27eaf55a524ec37cbef6f4f1aaa1af5baf24637259180a7fd21914a293", checked := Try.checked }
namespace Rows
def none {H : Type} : Left H := { results := [], args := [] }

/-- 'gosperlaw21.ShopSame': WHATEVER THE INPUT: true; the input reads as it did. -/
def shopSameSpec : ChangeSpec := { name := "shopSame", fn := fun _ => fun
  | [d1, d2, d3, d4, d5, d6, d7] => { results := [.lit (.bool true)], args := [d1, d2, d3, d4, d5, d6, d7] }
  | _ => none }
def shopSameRow : OpenClaim := { program := "ythpaadmpgdglnaa", sum := "489fbb27eaf55a524ec37cbef6f4f1aaa1af5baf24637259180a7fd21914a293", func := "gosper/gosperlaw21.ShopSame", spec := "shopSame", unfollowed := true, recurses := true, plainKeys := false, apart := false }
def ShopSameSaid : Prop := shopSameRow.holds Try.pinned (OpenSpec.ofChange shopSameSpec)

/-- ITS FALSE NEIGHBOUR: 'it returns false'. Refute it at one input. -/
def shopSameWrong : ChangeSpec := { name := "shopSame", fn := fun _ => fun
  | [d1, d2, d3, d4, d5, d6, d7] => { results := [.lit (.bool false)], args := [d1, d2, d3, d4, d5, d6, d7] }
  | _ => none }
def ShopSameWrongFalsely : Prop := shopSameRow.holds Try.pinned (OpenSpec.ofChange shopSameWrong)

/-- 'gosperlaw21.ShopPicks': WHATEVER THE INPUT: true; the input reads as it did. -/
def shopPicksSpec : ChangeSpec := { name := "shopPicks", fn := fun _ => fun
  | [d1, d2, d3, d4, d5, d6, d7, d8] => { results := [.lit (.bool true)], args := [d1, d2, d3, d4, d5, d6, d7, d8] }
  | _ => none }
def shopPicksRow : OpenClaim := { program := "ythpaadmpgdglnaa", sum := "489fbb27eaf55a524ec37cbef6f4f1aaa1af5baf24637259180a7fd21914a293", func := "gosper/gosperlaw21.ShopPicks", spec := "shopPicks", unfollowed := true, recurses := true, plainKeys := false, apart := false }
def ShopPicksSaid : Prop := shopPicksRow.holds Try.pinned (OpenSpec.ofChange shopPicksSpec)

/-- ITS FALSE NEIGHBOUR: 'it returns false'. Refute it at one input. -/
def shopPicksWrong : ChangeSpec := { name := "shopPicks", fn := fun _ => fun
  | [d1, d2, d3, d4, d5, d6, d7, d8] => { results := [.lit (.bool false)], args := [d1, d2, d3, d4, d5, d6, d7, d8] }
  | _ => none }
def ShopPicksWrongFalsely : Prop := shopPicksRow.holds Try.pinned (OpenSpec.ofChange shopPicksWrong)

/-- 'gosperlaw21.ShopLife': WHATEVER THE INPUT: true; the input reads as it did. -/
def shopLifeSpec : ChangeSpec := { name := "shopLife", fn := fun _ => fun
  | [d1, d2, d3, d4, d5] => { results := [.lit (.bool true)], args := [d1, d2, d3, d4, d5] }
  | _ => none }
def shopLifeRow : OpenClaim := { program := "ythpaadmpgdglnaa", sum := "489fbb27eaf55a524ec37cbef6f4f1aaa1af5baf24637259180a7fd21914a293", func := "gosper/gosperlaw21.ShopLife", spec := "shopLife", unfollowed := true, recurses := true, plainKeys := false, apart := false }
def ShopLifeSaid : Prop := shopLifeRow.holds Try.pinned (OpenSpec.ofChange shopLifeSpec)

/-- ITS FALSE NEIGHBOUR: 'it returns false'. Refute it at one input. -/
def shopLifeWrong : ChangeSpec := { name := "shopLife", fn := fun _ => fun
  | [d1, d2, d3, d4, d5] => { results := [.lit (.bool false)], args := [d1, d2, d3, d4, d5] }
  | _ => none }
def ShopLifeWrongFalsely : Prop := shopLifeRow.holds Try.pinned (OpenSpec.ofChange shopLifeWrong)

/-- 'gosperlaw21.ShopTasks': WHATEVER THE INPUT: true; the input reads as it did. -/
def shopTasksSpec : ChangeSpec := { name := "shopTasks", fn := fun _ => fun
  | [d1, d2, d3, d4, d5] => { results := [.lit (.bool true)], args := [d1, d2, d3, d4, d5] }
  | _ => none }
def shopTasksRow : OpenClaim := { program := "ythpaadmpgdglnaa", sum := "489fbb27eaf55a524ec37cbef6f4f1aaa1af5baf24637259180a7fd21914a293", func := "gosper/gosperlaw21.ShopTasks", spec := "shopTasks", unfollowed := true, recurses := true, plainKeys := false, apart := false }
def ShopTasksSaid : Prop := shopTasksRow.holds Try.pinned (OpenSpec.ofChange shopTasksSpec)

/-- ITS FALSE NEIGHBOUR: 'it returns false'. Refute it at one input. -/
def shopTasksWrong : ChangeSpec := { name := "shopTasks", fn := fun _ => fun
  | [d1, d2, d3, d4, d5] => { results := [.lit (.bool false)], args := [d1, d2, d3, d4, d5] }
  | _ => none }
def ShopTasksWrongFalsely : Prop := shopTasksRow.holds Try.pinned (OpenSpec.ofChange shopTasksWrong)

/-- 'gosperlaw21.ShopLevels': WHATEVER THE INPUT: true; the input reads as it did. -/
def shopLevelsSpec : ChangeSpec := { name := "shopLevels", fn := fun _ => fun
  | [d1, d2, d3, d4, d5] => { results := [.lit (.bool true)], args := [d1, d2, d3, d4, d5] }
  | _ => none }
def shopLevelsRow : OpenClaim := { program := "ythpaadmpgdglnaa", sum := "489fbb27eaf55a524ec37cbef6f4f1aaa1af5baf24637259180a7fd21914a293", func := "gosper/gosperlaw21.ShopLevels", spec := "shopLevels", unfollowed := true, recurses := true, plainKeys := false, apart := false }
def ShopLevelsSaid : Prop := shopLevelsRow.holds Try.pinned (OpenSpec.ofChange shopLevelsSpec)

/-- ITS FALSE NEIGHBOUR: 'it returns false'. Refute it at one input. -/
def shopLevelsWrong : ChangeSpec := { name := "shopLevels", fn := fun _ => fun
  | [d1, d2, d3, d4, d5] => { results := [.lit (.bool false)], args := [d1, d2, d3, d4, d5] }
  | _ => none }
def ShopLevelsWrongFalsely : Prop := shopLevelsRow.holds Try.pinned (OpenSpec.ofChange shopLevelsWrong)

/-- 'gosperlaw02.LifeTells': WHATEVER THE INPUT: true; the input reads as it did. -/
def lifeTellsSpec : ChangeSpec := { name := "lifeTells", fn := fun _ => fun
  | [d1, d2, d3, d4] => { results := [.lit (.bool true)], args := [d1, d2, d3, d4] }
  | _ => none }
def lifeTellsRow : OpenClaim := { program := "ythpaadmpgdglnaa", sum := "489fbb27eaf55a524ec37cbef6f4f1aaa1af5baf24637259180a7fd21914a293", func := "gosper/gosperlaw02.LifeTells", spec := "lifeTells", unfollowed := true, recurses := true, plainKeys := false, apart := false }
def LifeTellsSaid : Prop := lifeTellsRow.holds Try.pinned (OpenSpec.ofChange lifeTellsSpec)

/-- ITS FALSE NEIGHBOUR: 'it returns false'. Refute it at one input. -/
def lifeTellsWrong : ChangeSpec := { name := "lifeTells", fn := fun _ => fun
  | [d1, d2, d3, d4] => { results := [.lit (.bool false)], args := [d1, d2, d3, d4] }
  | _ => none }
def LifeTellsWrongFalsely : Prop := lifeTellsRow.holds Try.pinned (OpenSpec.ofChange lifeTellsWrong)

/-- 'gosperlaw02.LifeMoves': WHATEVER THE INPUT: true; the input reads as it did. -/
def lifeMovesSpec : ChangeSpec := { name := "lifeMoves", fn := fun _ => fun
  | [d1, d2, d3, d4, d5] => { results := [.lit (.bool true)], args := [d1, d2, d3, d4, d5] }
  | _ => none }
def lifeMovesRow : OpenClaim := { program := "ythpaadmpgdglnaa", sum := "489fbb27eaf55a524ec37cbef6f4f1aaa1af5baf24637259180a7fd21914a293", func := "gosper/gosperlaw02.LifeMoves", spec := "lifeMoves", unfollowed := true, recurses := true, plainKeys := false, apart := false }
def LifeMovesSaid : Prop := lifeMovesRow.holds Try.pinned (OpenSpec.ofChange lifeMovesSpec)

/-- ITS FALSE NEIGHBOUR: 'it returns false'. Refute it at one input. -/
def lifeMovesWrong : ChangeSpec := { name := "lifeMoves", fn := fun _ => fun
  | [d1, d2, d3, d4, d5] => { results := [.lit (.bool false)], args := [d1, d2, d3, d4, d5] }
  | _ => none }
def LifeMovesWrongFalsely : Prop := lifeMovesRow.holds Try.pinned (OpenSpec.ofChange lifeMovesWrong)

/-- 'gosperlaw02.LifeApart': WHATEVER THE INPUT: true; the input reads as it did. -/
def lifeApartSpec : ChangeSpec := { name := "lifeApart", fn := fun _ => fun
  | [d1, d2, d3] => { results := [.lit (.bool true)], args := [d1, d2, d3] }
  | _ => none }
def lifeApartRow : OpenClaim := { program := "ythpaadmpgdglnaa", sum := "489fbb27eaf55a524ec37cbef6f4f1aaa1af5baf24637259180a7fd21914a293", func := "gosper/gosperlaw02.LifeApart", spec := "lifeApart", unfollowed := true, recurses := true, plainKeys := false, apart := false }
def LifeApartSaid : Prop := lifeApartRow.holds Try.pinned (OpenSpec.ofChange lifeApartSpec)

/-- ITS FALSE NEIGHBOUR: 'it returns false'. Refute it at one input. -/
def lifeApartWrong : ChangeSpec := { name := "lifeApart", fn := fun _ => fun
  | [d1, d2, d3] => { results := [.lit (.bool false)], args := [d1, d2, d3] }
  | _ => none }
def LifeApartWrongFalsely : Prop := lifeApartRow.holds Try.pinned (OpenSpec.ofChange lifeApartWrong)

/-- 'gosperlaw02.LifeSteps': WHATEVER THE INPUT: true; the input reads as it did. -/
def lifeStepsSpec : ChangeSpec := { name := "lifeSteps", fn := fun _ => fun
  | [d1, d2, d3] => { results := [.lit (.bool true)], args := [d1, d2, d3] }
  | _ => none }
def lifeStepsRow : OpenClaim := { program := "ythpaadmpgdglnaa", sum := "489fbb27eaf55a524ec37cbef6f4f1aaa1af5baf24637259180a7fd21914a293", func := "gosper/gosperlaw02.LifeSteps", spec := "lifeSteps", unfollowed := true, recurses := true, plainKeys := false, apart := false }
def LifeStepsSaid : Prop := lifeStepsRow.holds Try.pinned (OpenSpec.ofChange lifeStepsSpec)

/-- ITS FALSE NEIGHBOUR: 'it returns false'. Refute it at one input. -/
def lifeStepsWrong : ChangeSpec := { name := "lifeSteps", fn := fun _ => fun
  | [d1, d2, d3] => { results := [.lit (.bool false)], args := [d1, d2, d3] }
  | _ => none }
def LifeStepsWrongFalsely : Prop := lifeStepsRow.holds Try.pinned (OpenSpec.ofChange lifeStepsWrong)

/-- 'gosperlaw02.LifeDead': WHATEVER THE INPUT: true; the input reads as it did. -/
def lifeDeadSpec : ChangeSpec := { name := "lifeDead", fn := fun _ => fun
  | [d1, d2] => { results := [.lit (.bool true)], args := [d1, d2] }
  | _ => none }
def lifeDeadRow : OpenClaim := { program := "ythpaadmpgdglnaa", sum := "489fbb27eaf55a524ec37cbef6f4f1aaa1af5baf24637259180a7fd21914a293", func := "gosper/gosperlaw02.LifeDead", spec := "lifeDead", unfollowed := true, recurses := true, plainKeys := false, apart := false }
def LifeDeadSaid : Prop := lifeDeadRow.holds Try.pinned (OpenSpec.ofChange lifeDeadSpec)

/-- ITS FALSE NEIGHBOUR: 'it returns false'. Refute it at one input. -/
def lifeDeadWrong : ChangeSpec := { name := "lifeDead", fn := fun _ => fun
  | [d1, d2] => { results := [.lit (.bool false)], args := [d1, d2] }
  | _ => none }
def LifeDeadWrongFalsely : Prop := lifeDeadRow.holds Try.pinned (OpenSpec.ofChange lifeDeadWrong)

/-- 'gosperlaw02.LifeStill': WHATEVER THE INPUT: true; the input reads as it did. -/
def lifeStillSpec : ChangeSpec := { name := "lifeStill", fn := fun _ => fun
  | [d1, d2, d3, d4] => { results := [.lit (.bool true)], args := [d1, d2, d3, d4] }
  | _ => none }
def lifeStillRow : OpenClaim := { program := "ythpaadmpgdglnaa", sum := "489fbb27eaf55a524ec37cbef6f4f1aaa1af5baf24637259180a7fd21914a293", func := "gosper/gosperlaw02.LifeStill", spec := "lifeStill", unfollowed := true, recurses := true, plainKeys := false, apart := false }
def LifeStillSaid : Prop := lifeStillRow.holds Try.pinned (OpenSpec.ofChange lifeStillSpec)

/-- ITS FALSE NEIGHBOUR: 'it returns false'. Refute it at one input. -/
def lifeStillWrong : ChangeSpec := { name := "lifeStill", fn := fun _ => fun
  | [d1, d2, d3, d4] => { results := [.lit (.bool false)], args := [d1, d2, d3, d4] }
  | _ => none }
def LifeStillWrongFalsely : Prop := lifeStillRow.holds Try.pinned (OpenSpec.ofChange lifeStillWrong)

/-- 'gosperlaw02.LifeAll': WHATEVER THE INPUT: true; the input reads as it did. -/
def lifeAllSpec : ChangeSpec := { name := "lifeAll", fn := fun _ => fun
  | [d] => { results := [.lit (.bool true)], args := [d] }
  | _ => none }
def lifeAllRow : OpenClaim := { program := "ythpaadmpgdglnaa", sum := "489fbb27eaf55a524ec37cbef6f4f1aaa1af5baf24637259180a7fd21914a293", func := "gosper/gosperlaw02.LifeAll", spec := "lifeAll", unfollowed := true, recurses := true, plainKeys := false, apart := false }
def LifeAllSaid : Prop := lifeAllRow.holds Try.pinned (OpenSpec.ofChange lifeAllSpec)

/-- ITS FALSE NEIGHBOUR: 'it returns false'. Refute it at one input. -/
def lifeAllWrong : ChangeSpec := { name := "lifeAll", fn := fun _ => fun
  | [d] => { results := [.lit (.bool false)], args := [d] }
  | _ => none }
def LifeAllWrongFalsely : Prop := lifeAllRow.holds Try.pinned (OpenSpec.ofChange lifeAllWrong)

/-- 'gosperlaw01.CellsTells': WHATEVER THE INPUT: true; the input reads as it did. -/
def cellsTellsSpec : ChangeSpec := { name := "cellsTells", fn := fun _ => fun
  | [d1, d2, d3, d4, d5] => { results := [.lit (.bool true)], args := [d1, d2, d3, d4, d5] }
  | _ => none }
def cellsTellsRow : OpenClaim := { program := "ythpaadmpgdglnaa", sum := "489fbb27eaf55a524ec37cbef6f4f1aaa1af5baf24637259180a7fd21914a293", func := "gosper/gosperlaw01.CellsTells", spec := "cellsTells", inPlace := ["slices.overlaps[gosper/api.Cell]"], unfollowed := true, recurses := true, plainKeys := false, apart := false }
def CellsTellsSaid : Prop := cellsTellsRow.holds Try.pinned (OpenSpec.ofChange cellsTellsSpec)

/-- ITS FALSE NEIGHBOUR: 'it returns false'. Refute it at one input. -/
def cellsTellsWrong : ChangeSpec := { name := "cellsTells", fn := fun _ => fun
  | [d1, d2, d3, d4, d5] => { results := [.lit (.bool false)], args := [d1, d2, d3, d4, d5] }
  | _ => none }
def CellsTellsWrongFalsely : Prop := cellsTellsRow.holds Try.pinned (OpenSpec.ofChange cellsTellsWrong)

/-- 'gosperlaw01.CellsSets': WHATEVER THE INPUT: true; the input reads as it did. -/
def cellsSetsSpec : ChangeSpec := { name := "cellsSets", fn := fun _ => fun
  | [d1, d2, d3, d4] => { results := [.lit (.bool true)], args := [d1, d2, d3, d4] }
  | _ => none }
def cellsSetsRow : OpenClaim := { program := "ythpaadmpgdglnaa", sum := "489fbb27eaf55a524ec37cbef6f4f1aaa1af5baf24637259180a7fd21914a293", func := "gosper/gosperlaw01.CellsSets", spec := "cellsSets", inPlace := ["slices.overlaps[gosper/api.Cell]"], unfollowed := true, recurses := true, plainKeys := false, apart := false }
def CellsSetsSaid : Prop := cellsSetsRow.holds Try.pinned (OpenSpec.ofChange cellsSetsSpec)

/-- ITS FALSE NEIGHBOUR: 'it returns false'. Refute it at one input. -/
def cellsSetsWrong : ChangeSpec := { name := "cellsSets", fn := fun _ => fun
  | [d1, d2, d3, d4] => { results := [.lit (.bool false)], args := [d1, d2, d3, d4] }
  | _ => none }
def CellsSetsWrongFalsely : Prop := cellsSetsRow.holds Try.pinned (OpenSpec.ofChange cellsSetsWrong)

/-- 'gosperlaw01.CellsShifts': WHATEVER THE INPUT: true; the input reads as it did. -/
def cellsShiftsSpec : ChangeSpec := { name := "cellsShifts", fn := fun _ => fun
  | [d1, d2, d3, d4, d5] => { results := [.lit (.bool true)], args := [d1, d2, d3, d4, d5] }
  | _ => none }
def cellsShiftsRow : OpenClaim := { program := "ythpaadmpgdglnaa", sum := "489fbb27eaf55a524ec37cbef6f4f1aaa1af5baf24637259180a7fd21914a293", func := "gosper/gosperlaw01.CellsShifts", spec := "cellsShifts", inPlace := ["slices.overlaps[gosper/api.Cell]"], unfollowed := true, recurses := true, plainKeys := false, apart := false }
def CellsShiftsSaid : Prop := cellsShiftsRow.holds Try.pinned (OpenSpec.ofChange cellsShiftsSpec)

/-- ITS FALSE NEIGHBOUR: 'it returns false'. Refute it at one input. -/
def cellsShiftsWrong : ChangeSpec := { name := "cellsShifts", fn := fun _ => fun
  | [d1, d2, d3, d4, d5] => { results := [.lit (.bool false)], args := [d1, d2, d3, d4, d5] }
  | _ => none }
def CellsShiftsWrongFalsely : Prop := cellsShiftsRow.holds Try.pinned (OpenSpec.ofChange cellsShiftsWrong)

/-- 'gosperlaw01.CellsBox': WHATEVER THE INPUT: true; the input reads as it did. -/
def cellsBoxSpec : ChangeSpec := { name := "cellsBox", fn := fun _ => fun
  | [d] => { results := [.lit (.bool true)], args := [d] }
  | _ => none }
def cellsBoxRow : OpenClaim := { program := "ythpaadmpgdglnaa", sum := "489fbb27eaf55a524ec37cbef6f4f1aaa1af5baf24637259180a7fd21914a293", func := "gosper/gosperlaw01.CellsBox", spec := "cellsBox", inPlace := ["slices.overlaps[gosper/api.Cell]"], unfollowed := true, recurses := true, plainKeys := false, apart := false }
def CellsBoxSaid : Prop := cellsBoxRow.holds Try.pinned (OpenSpec.ofChange cellsBoxSpec)

/-- ITS FALSE NEIGHBOUR: 'it returns false'. Refute it at one input. -/
def cellsBoxWrong : ChangeSpec := { name := "cellsBox", fn := fun _ => fun
  | [d] => { results := [.lit (.bool false)], args := [d] }
  | _ => none }
def CellsBoxWrongFalsely : Prop := cellsBoxRow.holds Try.pinned (OpenSpec.ofChange cellsBoxWrong)

/-- 'gosperlaw01.CellsOr': WHATEVER THE INPUT: true; the input reads as it did. -/
def cellsOrSpec : ChangeSpec := { name := "cellsOr", fn := fun _ => fun
  | [d1, d2] => { results := [.lit (.bool true)], args := [d1, d2] }
  | _ => none }
def cellsOrRow : OpenClaim := { program := "ythpaadmpgdglnaa", sum := "489fbb27eaf55a524ec37cbef6f4f1aaa1af5baf24637259180a7fd21914a293", func := "gosper/gosperlaw01.CellsOr", spec := "cellsOr", inPlace := ["slices.overlaps[gosper/api.Cell]"], unfollowed := true, recurses := true, plainKeys := false, apart := false }
def CellsOrSaid : Prop := cellsOrRow.holds Try.pinned (OpenSpec.ofChange cellsOrSpec)

/-- ITS FALSE NEIGHBOUR: 'it returns false'. Refute it at one input. -/
def cellsOrWrong : ChangeSpec := { name := "cellsOr", fn := fun _ => fun
  | [d1, d2] => { results := [.lit (.bool false)], args := [d1, d2] }
  | _ => none }
def CellsOrWrongFalsely : Prop := cellsOrRow.holds Try.pinned (OpenSpec.ofChange cellsOrWrong)

/-- 'gosperlaw01.CellsBounds': WHATEVER THE INPUT: true; the input reads as it did. -/
def cellsBoundsSpec : ChangeSpec := { name := "cellsBounds", fn := fun _ => fun
  | [d1, d2, d3] => { results := [.lit (.bool true)], args := [d1, d2, d3] }
  | _ => none }
def cellsBoundsRow : OpenClaim := { program := "ythpaadmpgdglnaa", sum := "489fbb27eaf55a524ec37cbef6f4f1aaa1af5baf24637259180a7fd21914a293", func := "gosper/gosperlaw01.CellsBounds", spec := "cellsBounds", inPlace := ["slices.overlaps[gosper/api.Cell]"], unfollowed := true, recurses := true, plainKeys := false, apart := false }
def CellsBoundsSaid : Prop := cellsBoundsRow.holds Try.pinned (OpenSpec.ofChange cellsBoundsSpec)

/-- ITS FALSE NEIGHBOUR: 'it returns false'. Refute it at one input. -/
def cellsBoundsWrong : ChangeSpec := { name := "cellsBounds", fn := fun _ => fun
  | [d1, d2, d3] => { results := [.lit (.bool false)], args := [d1, d2, d3] }
  | _ => none }
def CellsBoundsWrongFalsely : Prop := cellsBoundsRow.holds Try.pinned (OpenSpec.ofChange cellsBoundsWrong)

/-- 'gosperlaw07.SquareTells': WHATEVER THE INPUT: true; the input reads as it did. -/
def squareTellsSpec : ChangeSpec := { name := "squareTells", fn := fun _ => fun
  | [d1, d2, d3, d4, d5, d6, d7, d8] => { results := [.lit (.bool true)], args := [d1, d2, d3, d4, d5, d6, d7, d8] }
  | _ => none }
def squareTellsRow : OpenClaim := { program := "ythpaadmpgdglnaa", sum := "489fbb27eaf55a524ec37cbef6f4f1aaa1af5baf24637259180a7fd21914a293", func := "gosper/gosperlaw07.SquareTells", spec := "squareTells", unfollowed := true, recurses := true, plainKeys := false, apart := false }
def SquareTellsSaid : Prop := squareTellsRow.holds Try.pinned (OpenSpec.ofChange squareTellsSpec)

/-- ITS FALSE NEIGHBOUR: 'it returns false'. Refute it at one input. -/
def squareTellsWrong : ChangeSpec := { name := "squareTells", fn := fun _ => fun
  | [d1, d2, d3, d4, d5, d6, d7, d8] => { results := [.lit (.bool false)], args := [d1, d2, d3, d4, d5, d6, d7, d8] }
  | _ => none }
def SquareTellsWrongFalsely : Prop := squareTellsRow.holds Try.pinned (OpenSpec.ofChange squareTellsWrong)

/-- 'gosperlaw07.SquareBack': WHATEVER THE INPUT: true; the input reads as it did. -/
def squareBackSpec : ChangeSpec := { name := "squareBack", fn := fun _ => fun
  | [d1, d2, d3, d4, d5] => { results := [.lit (.bool true)], args := [d1, d2, d3, d4, d5] }
  | _ => none }
def squareBackRow : OpenClaim := { program := "ythpaadmpgdglnaa", sum := "489fbb27eaf55a524ec37cbef6f4f1aaa1af5baf24637259180a7fd21914a293", func := "gosper/gosperlaw07.SquareBack", spec := "squareBack", unfollowed := true, recurses := true, plainKeys := false, apart := false }
def SquareBackSaid : Prop := squareBackRow.holds Try.pinned (OpenSpec.ofChange squareBackSpec)

/-- ITS FALSE NEIGHBOUR: 'it returns false'. Refute it at one input. -/
def squareBackWrong : ChangeSpec := { name := "squareBack", fn := fun _ => fun
  | [d1, d2, d3, d4, d5] => { results := [.lit (.bool false)], args := [d1, d2, d3, d4, d5] }
  | _ => none }
def SquareBackWrongFalsely : Prop := squareBackRow.holds Try.pinned (OpenSpec.ofChange squareBackWrong)

/-- 'gosperlaw07.SquareSets': WHATEVER THE INPUT: true; the input reads as it did. -/
def squareSetsSpec : ChangeSpec := { name := "squareSets", fn := fun _ => fun
  | [d1, d2, d3, d4, d5, d6, d7] => { results := [.lit (.bool true)], args := [d1, d2, d3, d4, d5, d6, d7] }
  | _ => none }
def squareSetsRow : OpenClaim := { program := "ythpaadmpgdglnaa", sum := "489fbb27eaf55a524ec37cbef6f4f1aaa1af5baf24637259180a7fd21914a293", func := "gosper/gosperlaw07.SquareSets", spec := "squareSets", unfollowed := true, recurses := true, plainKeys := false, apart := false }
def SquareSetsSaid : Prop := squareSetsRow.holds Try.pinned (OpenSpec.ofChange squareSetsSpec)

/-- ITS FALSE NEIGHBOUR: 'it returns false'. Refute it at one input. -/
def squareSetsWrong : ChangeSpec := { name := "squareSets", fn := fun _ => fun
  | [d1, d2, d3, d4, d5, d6, d7] => { results := [.lit (.bool false)], args := [d1, d2, d3, d4, d5, d6, d7] }
  | _ => none }
def SquareSetsWrongFalsely : Prop := squareSetsRow.holds Try.pinned (OpenSpec.ofChange squareSetsWrong)

/-- 'gosperlaw07.SquareGrows': WHATEVER THE INPUT: true; the input reads as it did. -/
def squareGrowsSpec : ChangeSpec := { name := "squareGrows", fn := fun _ => fun
  | [d1, d2, d3, d4, d5] => { results := [.lit (.bool true)], args := [d1, d2, d3, d4, d5] }
  | _ => none }
def squareGrowsRow : OpenClaim := { program := "ythpaadmpgdglnaa", sum := "489fbb27eaf55a524ec37cbef6f4f1aaa1af5baf24637259180a7fd21914a293", func := "gosper/gosperlaw07.SquareGrows", spec := "squareGrows", unfollowed := true, recurses := true, plainKeys := false, apart := false }
def SquareGrowsSaid : Prop := squareGrowsRow.holds Try.pinned (OpenSpec.ofChange squareGrowsSpec)

/-- ITS FALSE NEIGHBOUR: 'it returns false'. Refute it at one input. -/
def squareGrowsWrong : ChangeSpec := { name := "squareGrows", fn := fun _ => fun
  | [d1, d2, d3, d4, d5] => { results := [.lit (.bool false)], args := [d1, d2, d3, d4, d5] }
  | _ => none }
def SquareGrowsWrongFalsely : Prop := squareGrowsRow.holds Try.pinned (OpenSpec.ofChange squareGrowsWrong)

/-- 'gosperlaw07.SquareShifts': WHATEVER THE INPUT: true; the input reads as it did. -/
def squareShiftsSpec : ChangeSpec := { name := "squareShifts", fn := fun _ => fun
  | [d1, d2, d3, d4] => { results := [.lit (.bool true)], args := [d1, d2, d3, d4] }
  | _ => none }
def squareShiftsRow : OpenClaim := { program := "ythpaadmpgdglnaa", sum := "489fbb27eaf55a524ec37cbef6f4f1aaa1af5baf24637259180a7fd21914a293", func := "gosper/gosperlaw07.SquareShifts", spec := "squareShifts", unfollowed := true, recurses := true, plainKeys := false, apart := false }
def SquareShiftsSaid : Prop := squareShiftsRow.holds Try.pinned (OpenSpec.ofChange squareShiftsSpec)

/-- ITS FALSE NEIGHBOUR: 'it returns false'. Refute it at one input. -/
def squareShiftsWrong : ChangeSpec := { name := "squareShifts", fn := fun _ => fun
  | [d1, d2, d3, d4] => { results := [.lit (.bool false)], args := [d1, d2, d3, d4] }
  | _ => none }
def SquareShiftsWrongFalsely : Prop := squareShiftsRow.holds Try.pinned (OpenSpec.ofChange squareShiftsWrong)

/-- 'gosperlaw07.SquareOut': WHATEVER THE INPUT: true; the input reads as it did. -/
def squareOutSpec : ChangeSpec := { name := "squareOut", fn := fun _ => fun
  | [d1, d2, d3, d4, d5, d6] => { results := [.lit (.bool true)], args := [d1, d2, d3, d4, d5, d6] }
  | _ => none }
def squareOutRow : OpenClaim := { program := "ythpaadmpgdglnaa", sum := "489fbb27eaf55a524ec37cbef6f4f1aaa1af5baf24637259180a7fd21914a293", func := "gosper/gosperlaw07.SquareOut", spec := "squareOut", unfollowed := true, recurses := true, plainKeys := false, apart := false }
def SquareOutSaid : Prop := squareOutRow.holds Try.pinned (OpenSpec.ofChange squareOutSpec)

/-- ITS FALSE NEIGHBOUR: 'it returns false'. Refute it at one input. -/
def squareOutWrong : ChangeSpec := { name := "squareOut", fn := fun _ => fun
  | [d1, d2, d3, d4, d5, d6] => { results := [.lit (.bool false)], args := [d1, d2, d3, d4, d5, d6] }
  | _ => none }
def SquareOutWrongFalsely : Prop := squareOutRow.holds Try.pinned (OpenSpec.ofChange squareOutWrong)

/-- 'gosperlaw07.SquarePops': WHATEVER THE INPUT: true; the input reads as it did. -/
def squarePopsSpec : ChangeSpec := { name := "squarePops", fn := fun _ => fun
  | [d1, d2, d3, d4] => { results := [.lit (.bool true)], args := [d1, d2, d3, d4] }
  | _ => none }
def squarePopsRow : OpenClaim := { program := "ythpaadmpgdglnaa", sum := "489fbb27eaf55a524ec37cbef6f4f1aaa1af5baf24637259180a7fd21914a293", func := "gosper/gosperlaw07.SquarePops", spec := "squarePops", unfollowed := true, recurses := true, plainKeys := false, apart := false }
def SquarePopsSaid : Prop := squarePopsRow.holds Try.pinned (OpenSpec.ofChange squarePopsSpec)

/-- ITS FALSE NEIGHBOUR: 'it returns false'. Refute it at one input. -/
def squarePopsWrong : ChangeSpec := { name := "squarePops", fn := fun _ => fun
  | [d1, d2, d3, d4] => { results := [.lit (.bool false)], args := [d1, d2, d3, d4] }
  | _ => none }
def SquarePopsWrongFalsely : Prop := squarePopsRow.holds Try.pinned (OpenSpec.ofChange squarePopsWrong)

/- THE SECOND FORM. 'bulk': how many values and letters a reading holds, each counted each time it is reached (what is shared counts as often as it is met; a slice's spare places count too). A statement '..UptoSaid' is the law's where the arguments, and the package variables that the reading takes, are together of bulk at most 1048576: NARROWER than '..Said'. Prove '..Said' where nothing that the law and all that it calls make is longer than what came in: it says more and counts as full. Else prove '..UptoSaid'. A law counts once. -/
mutual
def uptoBulk {H : Type} : DataW H → Nat
  | .lit (.string bytes) => bytes.length + 1
  | .lit _ => 1
  | .nil => 1
  | .ptr d => uptoBulk d + 1
  | .slice elems spare => uptoBulkAll elems + uptoBulkAll spare + 1
  | .agg parts => uptoBulkAll parts + 1
  | .iface _ d => uptoBulk d + 1
  | .map entries => uptoBulkEntries entries + 1
  | .held _ => 1
def uptoBulkAll {H : Type} : List (DataW H) → Nat
  | [] => 0
  | d :: r => uptoBulk d + uptoBulkAll r
def uptoBulkEntries {H : Type} : List (Lit × DataW H) → Nat
  | [] => 0
  | x :: r => uptoBulkEntry x + uptoBulkEntries r
def uptoBulkEntry {H : Type} : Lit × DataW H → Nat
  | (.string bytes, d) => bytes.length + uptoBulk d + 1
  | (_, d) => uptoBulk d + 1
 end
def uptoSmall : (H : Type) → List (DataW H) → Bool := fun _ ds => decide (uptoBulkAll ds ≤ 1048576)
def OpenSpec.upto (s : _root_.Go.ChangeSpec) : _root_.Go.OpenSpec := { _root_.Go.OpenSpec.ofChange s with cond := some uptoSmall }

/-- 'gosperlaw21.ShopSame', WHERE WHAT IT READS IS OF BULK AT MOST 1048576: true; the input reads as it did. -/
def shopSameUptoRow : OpenClaim := { program := "ythpaadmpgdglnaa", sum := "489fbb27eaf55a524ec37cbef6f4f1aaa1af5baf24637259180a7fd21914a293", func := "gosper/gosperlaw21.ShopSame", spec := "shopSame", unfollowed := true, recurses := true, plainKeys := false, apart := false, narrowed := true }
def ShopSameUptoSaid : Prop := shopSameUptoRow.holds Try.pinned (OpenSpec.upto shopSameSpec)

/-- 'gosperlaw21.ShopPicks', WHERE WHAT IT READS IS OF BULK AT MOST 1048576: true; the input reads as it did. -/
def shopPicksUptoRow : OpenClaim := { program := "ythpaadmpgdglnaa", sum := "489fbb27eaf55a524ec37cbef6f4f1aaa1af5baf24637259180a7fd21914a293", func := "gosper/gosperlaw21.ShopPicks", spec := "shopPicks", unfollowed := true, recurses := true, plainKeys := false, apart := false, narrowed := true }
def ShopPicksUptoSaid : Prop := shopPicksUptoRow.holds Try.pinned (OpenSpec.upto shopPicksSpec)

/-- 'gosperlaw21.ShopLife', WHERE WHAT IT READS IS OF BULK AT MOST 1048576: true; the input reads as it did. -/
def shopLifeUptoRow : OpenClaim := { program := "ythpaadmpgdglnaa", sum := "489fbb27eaf55a524ec37cbef6f4f1aaa1af5baf24637259180a7fd21914a293", func := "gosper/gosperlaw21.ShopLife", spec := "shopLife", unfollowed := true, recurses := true, plainKeys := false, apart := false, narrowed := true }
def ShopLifeUptoSaid : Prop := shopLifeUptoRow.holds Try.pinned (OpenSpec.upto shopLifeSpec)

/-- 'gosperlaw21.ShopTasks', WHERE WHAT IT READS IS OF BULK AT MOST 1048576: true; the input reads as it did. -/
def shopTasksUptoRow : OpenClaim := { program := "ythpaadmpgdglnaa", sum := "489fbb27eaf55a524ec37cbef6f4f1aaa1af5baf24637259180a7fd21914a293", func := "gosper/gosperlaw21.ShopTasks", spec := "shopTasks", unfollowed := true, recurses := true, plainKeys := false, apart := false, narrowed := true }
def ShopTasksUptoSaid : Prop := shopTasksUptoRow.holds Try.pinned (OpenSpec.upto shopTasksSpec)

/-- 'gosperlaw21.ShopLevels', WHERE WHAT IT READS IS OF BULK AT MOST 1048576: true; the input reads as it did. -/
def shopLevelsUptoRow : OpenClaim := { program := "ythpaadmpgdglnaa", sum := "489fbb27eaf55a524ec37cbef6f4f1aaa1af5baf24637259180a7fd21914a293", func := "gosper/gosperlaw21.ShopLevels", spec := "shopLevels", unfollowed := true, recurses := true, plainKeys := false, apart := false, narrowed := true }
def ShopLevelsUptoSaid : Prop := shopLevelsUptoRow.holds Try.pinned (OpenSpec.upto shopLevelsSpec)

/-- 'gosperlaw02.LifeTells', WHERE WHAT IT READS IS OF BULK AT MOST 1048576: true; the input reads as it did. -/
def lifeTellsUptoRow : OpenClaim := { program := "ythpaadmpgdglnaa", sum := "489fbb27eaf55a524ec37cbef6f4f1aaa1af5baf24637259180a7fd21914a293", func := "gosper/gosperlaw02.LifeTells", spec := "lifeTells", unfollowed := true, recurses := true, plainKeys := false, apart := false, narrowed := true }
def LifeTellsUptoSaid : Prop := lifeTellsUptoRow.holds Try.pinned (OpenSpec.upto lifeTellsSpec)

/-- 'gosperlaw02.LifeMoves', WHERE WHAT IT READS IS OF BULK AT MOST 1048576: true; the input reads as it did. -/
def lifeMovesUptoRow : OpenClaim := { program := "ythpaadmpgdglnaa", sum := "489fbb27eaf55a524ec37cbef6f4f1aaa1af5baf24637259180a7fd21914a293", func := "gosper/gosperlaw02.LifeMoves", spec := "lifeMoves", unfollowed := true, recurses := true, plainKeys := false, apart := false, narrowed := true }
def LifeMovesUptoSaid : Prop := lifeMovesUptoRow.holds Try.pinned (OpenSpec.upto lifeMovesSpec)

/-- 'gosperlaw02.LifeApart', WHERE WHAT IT READS IS OF BULK AT MOST 1048576: true; the input reads as it did. -/
def lifeApartUptoRow : OpenClaim := { program := "ythpaadmpgdglnaa", sum := "489fbb27eaf55a524ec37cbef6f4f1aaa1af5baf24637259180a7fd21914a293", func := "gosper/gosperlaw02.LifeApart", spec := "lifeApart", unfollowed := true, recurses := true, plainKeys := false, apart := false, narrowed := true }
def LifeApartUptoSaid : Prop := lifeApartUptoRow.holds Try.pinned (OpenSpec.upto lifeApartSpec)

/-- 'gosperlaw02.LifeSteps', WHERE WHAT IT READS IS OF BULK AT MOST 1048576: true; the input reads as it did. -/
def lifeStepsUptoRow : OpenClaim := { program := "ythpaadmpgdglnaa", sum := "489fbb27eaf55a524ec37cbef6f4f1aaa1af5baf24637259180a7fd21914a293", func := "gosper/gosperlaw02.LifeSteps", spec := "lifeSteps", unfollowed := true, recurses := true, plainKeys := false, apart := false, narrowed := true }
def LifeStepsUptoSaid : Prop := lifeStepsUptoRow.holds Try.pinned (OpenSpec.upto lifeStepsSpec)

/-- 'gosperlaw02.LifeDead', WHERE WHAT IT READS IS OF BULK AT MOST 1048576: true; the input reads as it did. -/
def lifeDeadUptoRow : OpenClaim := { program := "ythpaadmpgdglnaa", sum := "489fbb27eaf55a524ec37cbef6f4f1aaa1af5baf24637259180a7fd21914a293", func := "gosper/gosperlaw02.LifeDead", spec := "lifeDead", unfollowed := true, recurses := true, plainKeys := false, apart := false, narrowed := true }
def LifeDeadUptoSaid : Prop := lifeDeadUptoRow.holds Try.pinned (OpenSpec.upto lifeDeadSpec)

/-- 'gosperlaw02.LifeStill', WHERE WHAT IT READS IS OF BULK AT MOST 1048576: true; the input reads as it did. -/
def lifeStillUptoRow : OpenClaim := { program := "ythpaadmpgdglnaa", sum := "489fbb27eaf55a524ec37cbef6f4f1aaa1af5baf24637259180a7fd21914a293", func := "gosper/gosperlaw02.LifeStill", spec := "lifeStill", unfollowed := true, recurses := true, plainKeys := false, apart := false, narrowed := true }
def LifeStillUptoSaid : Prop := lifeStillUptoRow.holds Try.pinned (OpenSpec.upto lifeStillSpec)

/-- 'gosperlaw02.LifeAll', WHERE WHAT IT READS IS OF BULK AT MOST 1048576: true; the input reads as it did. -/
def lifeAllUptoRow : OpenClaim := { program := "ythpaadmpgdglnaa", sum := "489fbb27eaf55a524ec37cbef6f4f1aaa1af5baf24637259180a7fd21914a293", func := "gosper/gosperlaw02.LifeAll", spec := "lifeAll", unfollowed := true, recurses := true, plainKeys := false, apart := false, narrowed := true }
def LifeAllUptoSaid : Prop := lifeAllUptoRow.holds Try.pinned (OpenSpec.upto lifeAllSpec)

/-- 'gosperlaw01.CellsTells', WHERE WHAT IT READS IS OF BULK AT MOST 1048576: true; the input reads as it did. -/
def cellsTellsUptoRow : OpenClaim := { program := "ythpaadmpgdglnaa", sum := "489fbb27eaf55a524ec37cbef6f4f1aaa1af5baf24637259180a7fd21914a293", func := "gosper/gosperlaw01.CellsTells", spec := "cellsTells", inPlace := ["slices.overlaps[gosper/api.Cell]"], unfollowed := true, recurses := true, plainKeys := false, apart := false, narrowed := true }
def CellsTellsUptoSaid : Prop := cellsTellsUptoRow.holds Try.pinned (OpenSpec.upto cellsTellsSpec)

/-- 'gosperlaw01.CellsSets', WHERE WHAT IT READS IS OF BULK AT MOST 1048576: true; the input reads as it did. -/
def cellsSetsUptoRow : OpenClaim := { program := "ythpaadmpgdglnaa", sum := "489fbb27eaf55a524ec37cbef6f4f1aaa1af5baf24637259180a7fd21914a293", func := "gosper/gosperlaw01.CellsSets", spec := "cellsSets", inPlace := ["slices.overlaps[gosper/api.Cell]"], unfollowed := true, recurses := true, plainKeys := false, apart := false, narrowed := true }
def CellsSetsUptoSaid : Prop := cellsSetsUptoRow.holds Try.pinned (OpenSpec.upto cellsSetsSpec)

/-- 'gosperlaw01.CellsShifts', WHERE WHAT IT READS IS OF BULK AT MOST 1048576: true; the input reads as it did. -/
def cellsShiftsUptoRow : OpenClaim := { program := "ythpaadmpgdglnaa", sum := "489fbb27eaf55a524ec37cbef6f4f1aaa1af5baf24637259180a7fd21914a293", func := "gosper/gosperlaw01.CellsShifts", spec := "cellsShifts", inPlace := ["slices.overlaps[gosper/api.Cell]"], unfollowed := true, recurses := true, plainKeys := false, apart := false, narrowed := true }
def CellsShiftsUptoSaid : Prop := cellsShiftsUptoRow.holds Try.pinned (OpenSpec.upto cellsShiftsSpec)

/-- 'gosperlaw01.CellsBox', WHERE WHAT IT READS IS OF BULK AT MOST 1048576: true; the input reads as it did. -/
def cellsBoxUptoRow : OpenClaim := { program := "ythpaadmpgdglnaa", sum := "489fbb27eaf55a524ec37cbef6f4f1aaa1af5baf24637259180a7fd21914a293", func := "gosper/gosperlaw01.CellsBox", spec := "cellsBox", inPlace := ["slices.overlaps[gosper/api.Cell]"], unfollowed := true, recurses := true, plainKeys := false, apart := false, narrowed := true }
def CellsBoxUptoSaid : Prop := cellsBoxUptoRow.holds Try.pinned (OpenSpec.upto cellsBoxSpec)

/-- 'gosperlaw01.CellsOr', WHERE WHAT IT READS IS OF BULK AT MOST 1048576: true; the input reads as it did. -/
def cellsOrUptoRow : OpenClaim := { program := "ythpaadmpgdglnaa", sum := "489fbb27eaf55a524ec37cbef6f4f1aaa1af5baf24637259180a7fd21914a293", func := "gosper/gosperlaw01.CellsOr", spec := "cellsOr", inPlace := ["slices.overlaps[gosper/api.Cell]"], unfollowed := true, recurses := true, plainKeys := false, apart := false, narrowed := true }
def CellsOrUptoSaid : Prop := cellsOrUptoRow.holds Try.pinned (OpenSpec.upto cellsOrSpec)

/-- 'gosperlaw01.CellsBounds', WHERE WHAT IT READS IS OF BULK AT MOST 1048576: true; the input reads as it did. -/
def cellsBoundsUptoRow : OpenClaim := { program := "ythpaadmpgdglnaa", sum := "489fbb27eaf55a524ec37cbef6f4f1aaa1af5baf24637259180a7fd21914a293", func := "gosper/gosperlaw01.CellsBounds", spec := "cellsBounds", inPlace := ["slices.overlaps[gosper/api.Cell]"], unfollowed := true, recurses := true, plainKeys := false, apart := false, narrowed := true }
def CellsBoundsUptoSaid : Prop := cellsBoundsUptoRow.holds Try.pinned (OpenSpec.upto cellsBoundsSpec)

/-- 'gosperlaw07.SquareTells', WHERE WHAT IT READS IS OF BULK AT MOST 1048576: true; the input reads as it did. -/
def squareTellsUptoRow : OpenClaim := { program := "ythpaadmpgdglnaa", sum := "489fbb27eaf55a524ec37cbef6f4f1aaa1af5baf24637259180a7fd21914a293", func := "gosper/gosperlaw07.SquareTells", spec := "squareTells", unfollowed := true, recurses := true, plainKeys := false, apart := false, narrowed := true }
def SquareTellsUptoSaid : Prop := squareTellsUptoRow.holds Try.pinned (OpenSpec.upto squareTellsSpec)

/-- 'gosperlaw07.SquareBack', WHERE WHAT IT READS IS OF BULK AT MOST 1048576: true; the input reads as it did. -/
def squareBackUptoRow : OpenClaim := { program := "ythpaadmpgdglnaa", sum := "489fbb27eaf55a524ec37cbef6f4f1aaa1af5baf24637259180a7fd21914a293", func := "gosper/gosperlaw07.SquareBack", spec := "squareBack", unfollowed := true, recurses := true, plainKeys := false, apart := false, narrowed := true }
def SquareBackUptoSaid : Prop := squareBackUptoRow.holds Try.pinned (OpenSpec.upto squareBackSpec)

/-- 'gosperlaw07.SquareSets', WHERE WHAT IT READS IS OF BULK AT MOST 1048576: true; the input reads as it did. -/
def squareSetsUptoRow : OpenClaim := { program := "ythpaadmpgdglnaa", sum := "489fbb27eaf55a524ec37cbef6f4f1aaa1af5baf24637259180a7fd21914a293", func := "gosper/gosperlaw07.SquareSets", spec := "squareSets", unfollowed := true, recurses := true, plainKeys := false, apart := false, narrowed := true }
def SquareSetsUptoSaid : Prop := squareSetsUptoRow.holds Try.pinned (OpenSpec.upto squareSetsSpec)

/-- 'gosperlaw07.SquareGrows', WHERE WHAT IT READS IS OF BULK AT MOST 1048576: true; the input reads as it did. -/
def squareGrowsUptoRow : OpenClaim := { program := "ythpaadmpgdglnaa", sum := "489fbb27eaf55a524ec37cbef6f4f1aaa1af5baf24637259180a7fd21914a293", func := "gosper/gosperlaw07.SquareGrows", spec := "squareGrows", unfollowed := true, recurses := true, plainKeys := false, apart := false, narrowed := true }
def SquareGrowsUptoSaid : Prop := squareGrowsUptoRow.holds Try.pinned (OpenSpec.upto squareGrowsSpec)

/-- 'gosperlaw07.SquareShifts', WHERE WHAT IT READS IS OF BULK AT MOST 1048576: true; the input reads as it did. -/
def squareShiftsUptoRow : OpenClaim := { program := "ythpaadmpgdglnaa", sum := "489fbb27eaf55a524ec37cbef6f4f1aaa1af5baf24637259180a7fd21914a293", func := "gosper/gosperlaw07.SquareShifts", spec := "squareShifts", unfollowed := true, recurses := true, plainKeys := false, apart := false, narrowed := true }
def SquareShiftsUptoSaid : Prop := squareShiftsUptoRow.holds Try.pinned (OpenSpec.upto squareShiftsSpec)

/-- 'gosperlaw07.SquareOut', WHERE WHAT IT READS IS OF BULK AT MOST 1048576: true; the input reads as it did. -/
def squareOutUptoRow : OpenClaim := { program := "ythpaadmpgdglnaa", sum := "489fbb27eaf55a524ec37cbef6f4f1aaa1af5baf24637259180a7fd21914a293", func := "gosper/gosperlaw07.SquareOut", spec := "squareOut", unfollowed := true, recurses := true, plainKeys := false, apart := false, narrowed := true }
def SquareOutUptoSaid : Prop := squareOutUptoRow.holds Try.pinned (OpenSpec.upto squareOutSpec)

/-- 'gosperlaw07.SquarePops', WHERE WHAT IT READS IS OF BULK AT MOST 1048576: true; the input reads as it did. -/
def squarePopsUptoRow : OpenClaim := { program := "ythpaadmpgdglnaa", sum := "489fbb27eaf55a524ec37cbef6f4f1aaa1af5baf24637259180a7fd21914a293", func := "gosper/gosperlaw07.SquarePops", spec := "squarePops", unfollowed := true, recurses := true, plainKeys := false, apart := false, narrowed := true }
def SquarePopsUptoSaid : Prop := squarePopsUptoRow.holds Try.pinned (OpenSpec.upto squarePopsSpec)

end Rows
end Go.Proofs.Ythpaadmpgdglnaa
