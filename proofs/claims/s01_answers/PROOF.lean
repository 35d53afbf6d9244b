import PyProof.Rows.All
import HandS.Conv
import KE.OsRun
import PySem.Challenge.RW_chutes_s01_answers
import Wide.All
import OpenK.AllK
import Wide.FinOn
import Open.SpecLaws
import KE.OsGo
import HandS.ForSpec
import HandS.ForMost
import HandS.Walk
import HandS.Style
import HandS.Deep
import HandS.SortRule
import PyXb02
set_option Elab.async false
section
set_option Elab.async false
set_option linter.all false
set_option maxRecDepth 100000
set_option maxHeartbeats 0
namespace Tp
open PySem PySem.W PySem.Calls PyProof.Rows
/-- what the walk sees of the top -/
def qv : Program := { PySem.Challenge.pw_chutes_s01_answers with main := { PySem.Challenge.pw_chutes_s01_answers.main with body := (PySem.Challenge.pw_chutes_s01_answers.main.body.drop 148).take 1, scope := { PySem.Challenge.pw_chutes_s01_answers.main.scope with names := [] } } }
def looseN : List PySem.Str := (["__name__", "WALL", "AIR", "SLOPE_RIGHT", "SLOPE_LEFT", "BELT_RIGHT", "BELT_LEFT", "LIFT", "FLIP_RIGHT", "FLIP_LEFT", "BIN", "BELL"] : List PySem.Str) ++ (["DRUM", "FIRST_PLATE", "FIRST_GATE", "MANY_LETTERS", "FIRST_COUNTER", "LAST_COUNTER", "ZERO", "SIMPLE_SIGNS", "MIRRORED_SIGNS", "is_plate", "is_gate", "is_counter"] : List PySem.Str) ++ (["is_flip", "is_cell_sign", "cell_of", "mirrored", "with_more_groups", "link_of", "NOBODY", "WAITING", "GONE", "Run", "sign_at", "permits_at"] : List PySem.Str) ++ (["add_permits", "side_of_flip", "side_of_counter", "shift_from", "destination_from", "is_reachable", "is_free", "is_held_back", "moving_places", "has_drums", "pushed_drums", "leave"] : List PySem.Str) ++ (["enter", "move_from", "let_in", "do_tick", "is_over", "ringing_of", "path_of", "changed_board", "all_changes", "ringing_with", "repairs_of", "noticeable_changes"] : List PySem.Str) ++ (["idle_places", "MOST_SETS", "Part", "Draft", "part_named", "mirrored_cells", "is_inside", "copy_places", "is_overlapping", "copy_into", "SPACE", "LINE_END"] : List PySem.Str) ++ (["MINUS", "FIRST_DIGIT", "LAST_DIGIT", "FIRST_LETTER", "LAST_LETTER", "MOST_DIGITS", "MOST_LETTERS", "bytes_of", "pieces", "lines_of", "words_of", "is_digit"] : List PySem.Str) ++ (["is_number", "number_of", "is_number_within", "is_signed", "signed_of", "is_letter", "is_name", "COLON", "SEMICOLON", "MOST_SIZE", "MOST_PARTS", "MOST_COPIES"] : List PySem.Str) ++ (["MOST_MARBLES_texts", "GREATEST", "read_part", "read_row", "is_times", "is_put", "behind_mirror", "read_put", "read_end", "is_every", "is_drop", "read_drop"] : List PySem.Str) ++ (["read_line", "read_text", "NOT_LOADED", "OUT_OF_RANGE", "NO_REPAIR", "TOO_MUCH", "MOST_BYTES", "MOST_CELLS", "MOST_SIGNS", "MOST_TICKS", "MOST_MARBLES_mending", "Bench"] : List PySem.Str) ++ (["is_text_byte", "load", "are_different", "set_palette", "set_horizon", "want_ring", "clear_target", "own_ringing", "ringing", "meets_target", "own_repairs", "position"] : List PySem.Str) ++ (["positions", "repairs", "idle_cells", "count_changes", "apply_repair", "tell_board", "path", "split_calls", "set_or_tell", "answered"] : List PySem.Str)
abbrev R : OpenSpec := PySem.Challenge.rw_chutes_s01_answers
def dA : DefRec := HeadRun.topDef PySem.Challenge.pw_chutes_s01_answers 148
theorem r_look : looksOpen PySem.Challenge.pw_chutes_s01_answers = true := by
  rw [PySem.W.Fast.te12908688711261696721]
  kernel_rfl
theorem r_rest : (R.prog.boundNames.contains R.name && !startupNames.contains R.name && specDef R.prog R.name R.args.length && R.args.all Codec.fits && R.ret.ok) = true := by kernel_rfl
theorem r_said : R.wellSaid = true := by
  have h := r_rest
  unfold OpenSpec.wellSaid
  simp only [Bool.and_eq_true] at h ⊢
  exact ⟨⟨⟨⟨⟨r_look, h.1.1.1.1⟩, h.1.1.1.2⟩, h.1.1.2⟩, h.1.2⟩, h.2⟩
theorem r_whole : R.prog.tablesWhole = true := by kernel_rfl
theorem r_open : opening R.prog = plainProg R.prog.main.scope.names := by kernel_rfl
theorem r_fence (s : Shared) : fenceModules? R.prog s = some s := by kernel_rfl
theorem r_def : defOf qv R.name = some (dA, []) := by kernel_rfl
theorem r_the : R.prog.theDef R.name = some (dA.params, dA.body, dA.scope) := by kernel_rfl
theorem r_kw : kwWritten? dA.params.kwonlyargs dA.params.kw_defaults = some [] := by kernel_rfl
theorem r_dfl : dA.params.defaults = [] := by kernel_rfl
theorem r_name : dA.name = ("answers" : PySem.Str) := by kernel_rfl
theorem r_chains : (chainsOk qv && opensWell R.prog) = true := by kernel_rfl
theorem r_bare : R.prog.bare := ⟨rfl, rfl, rfl, rfl, rfl, r_whole⟩
theorem r_some : ∃ args, R.pre args = true ∧ WData.layableAll args = true := ⟨[.list [.int 5, .int 0, .int 0]], by decide +kernel, by decide +kernel⟩
theorem no (H : Hook) (h : False) : R.Holds := h.elim
end Tp
section
open PySem PySem.W PySem.Calls PyProof.Rows
local macro_rules | `(tactic| o_headR $H) => `(tactic| exact Tp.no $H (by assumption))
/-- says nothing; its making writes out what stands behind the top (heap_1) -/
theorem Tp.hd (hF : False) : PySem.Challenge.rw_chutes_s01_answers.Holds := by
  k_headR
end
end
section
set_option Elab.async false
set_option linter.all false
set_option maxRecDepth 100000
set_option maxHeartbeats 0
namespace Tp
open PySem PySem.W PySem.Calls PyProof.Rows
/-- where the objects stand that the walk reads -/
def as : List Addr := [2, 3, 15, 16, 17, 19, 20, 22, 23, 24, 26, 27, 29, 30, 31, 33, 34, 36, 37, 38, 40, 41, 43, 44, 45, 47, 48, 50, 51, 52, 54, 55, 57, 58, 59, 61, 62, 64, 65, 66, 68, 69, 71, 72, 73, 75, 76, 78, 79, 87, 89, 90, 92, 93, 94, 95, 96, 97, 98, 101, 103, 104, 106, 107, 108, 110, 111, 113, 114, 115, 117, 118, 120, 121, 122, 124, 125, 127, 128, 129, 131, 132, 134, 135, 136, 138, 139, 141, 142, 143, 145, 146, 148, 149, 150, 152, 153, 155, 156, 157, 159, 160, 162, 163, 164, 166, 167, 169, 170, 171, 174, 175, 176, 179, 180, 181, 183, 184, 186, 187, 188, 190, 191, 193, 194, 195, 197, 198, 200, 201, 202, 204, 205, 207, 208, 209, 211, 212, 214, 215, 216, 218, 219, 221, 222, 223, 226, 227, 228, 230, 231, 233, 234, 235, 237, 238, 240, 241, 242, 244, 245, 247, 248, 249, 252, 253, 254, 256, 257, 259, 260, 261, 264, 265, 266, 269, 270, 271, 274, 275, 283, 285, 286, 288, 289, 290, 292, 293, 295, 296, 297, 299, 300, 302, 303, 304, 306, 307, 309, 310, 311, 313, 314, 316, 317, 318, 319, 320, 321, 322, 332, 334, 335, 337, 338, 339, 341, 342, 344, 345, 346, 348, 349, 351, 352, 353, 355, 356, 358, 359, 360, 361, 362, 363, 364, 367, 370, 371, 372, 375, 376, 377, 379, 380, 382, 383, 384, 386, 387, 389, 390, 391, 393, 394, 396, 397, 398, 400, 401, 403, 404, 405, 408, 409, 410, 412, 413, 415, 416, 417, 419, 420, 422, 423, 424, 427, 428, 429, 431, 432, 434, 435, 436, 439, 440, 441, 443, 444, 446, 447, 448, 450, 451, 453, 454, 455, 457, 458, 460, 461, 462, 464, 465, 467, 468, 469, 471, 472, 474, 475, 476, 479, 480, 481, 483, 484, 486, 487, 488, 491, 492, 493, 495, 496, 498, 499, 500, 502, 503, 505, 506, 507, 509, 510, 512, 513, 514, 516, 517, 519, 520, 521, 523, 524, 526, 527, 528, 530, 531, 533, 534, 535, 537, 538, 540, 541, 542, 544, 545, 547, 548, 549, 551, 552, 554, 555, 556, 558, 559, 561, 562, 570, 572, 573, 575, 576, 577, 579, 580, 582, 583, 584, 585, 586, 587, 588, 591, 593, 594, 596, 597, 598, 601, 602, 603, 606, 607, 608, 611, 612, 613, 615, 616, 618, 619, 620, 622, 623, 625, 626, 627, 629, 630, 632, 633, 634, 636, 637, 639, 640, 641, 643, 644, 646, 647, 648, 650, 651, 653, 654, 655, 657, 658, 660, 661, 662, 664, 665, 667, 668, 669, 671, 672, 674, 675, 676, 678, 679, 681, 682, 683, 685, 686, 688, 689, 690, 692, 693, 695, 696, 697, 699, 700, 702, 703, 704, 707, 708, 709, 711, 712, 714, 715, 716, 718, 719, 721, 722, 723, 725, 726, 728, 729, 730, 732, 733, 735, 736, 737, 739, 740, 742, 743]
theorem as_eq (P : Params) : as = (Tp.hd.heap_1 P).map (·.1) := by kernel_rfl
noncomputable abbrev hk : Hook := kHook Tp.hd.heap_1 as as_eq
/-- the top's run, at one world -/
def Run (w : World) : Prop := ∀ os : OsState, (HeadRun.endF (HeadRun.stepQ (HeadRun.denQ HeadRun.tabQ) R.prog w) 9000 R.prog w os).map (fun s => (HeadRun.looksF R.prog (boot_heap w.params) s.abs, HeadRun.seenQ qv looseN (importedModules R.prog.main.body) (fun s => xlAt qv [] s && recOk [] s) s.abs, as.map (HeadRun.getT s))) = some (true, openGood qv looseN, (Tp.hd.heap_1 w.params).map fun x => some x.2)
theorem run_f (w : World) : Run (w.withFollow "special-get-raises" false) := fun os => by kernel_rfl
theorem run_t (w : World) : Run (w.withFollow "special-get-raises" true) := fun os => by kernel_rfl
theorem left : LeftO R.prog qv looseN (fun s => xlAt qv [] s && recOk [] s) (Hook.obs hk) (Hook.val hk) 9200 true :=
  HeadRun.left_oneK (M := 9000) r_open (by rfl) r_fence (by rfl) fun w => byRow2 "special-get-raises" (P := Run) run_f run_t w
end Tp
end
section
/-! Mir: the program's defs as plain functions over whole numbers and lists -/
namespace Mir
abbrev Bytes := List Int
/-- sign, turned, letter set -/
abbrev Cell := Int × Int × Int
/-- width, height, cells -/
abbrev Board := Int × Int × List Cell
abbrev Pair := Int × Int
def itm {α : Type} (d : α) (xs : List α) (i : Int) : α := xs.getD i.toNat d
def airC : Cell := (46, 0, 0)
/-- lo, lo + 1, .. below hi -/
def rng (lo hi : Int) : List Int := (List.range (hi - lo).toNat).map fun (i : Nat) => lo + (i : Int)

/-! ### words -/
def pieces1 (b : Int) (acc : List Bytes × Bytes) (x : Int) : List Bytes × Bytes := if x = b then (acc.1 ++ [acc.2], []) else (acc.1, acc.2 ++ [x])
def pieces (xs : Bytes) (b : Int) : List Bytes :=
  let z := xs.foldl (pieces1 b) ([], [])
  z.1 ++ [z.2]
def linesOf (t : Bytes) : List Bytes := pieces t 10
def wordsOf (l : Bytes) : List Bytes := (pieces l 32).filter fun w => !decide (w.length = 0)
def isDigit (b : Int) : Bool := decide (48 ≤ b) && decide (b ≤ 57)
def isNumber (w : Bytes) : Bool :=
  if decide ((w.length : Int) < 1) || (decide (3 < (w.length : Int)) || !(w.map isDigit).all id) then false
  else decide ((w.length : Int) = 1) || !decide (itm 0 w 0 = 48)
def numberOf (w : Bytes) : Int := w.foldl (fun n b => 10 * n + b - 48) 0
def isNumberWithin (w : Bytes) (lo hi : Int) : Bool := isNumber w && (decide (lo ≤ numberOf w) && decide (numberOf w ≤ hi))
def isSigned (w : Bytes) : Bool := isNumber w || (decide (1 < (w.length : Int)) && (decide (itm 0 w 0 = 45) && isNumber (w.drop 1)))
def signedOf (w : Bytes) : Int := if decide (itm 0 w 0 = 45) then -numberOf (w.drop 1) else numberOf w
def isLetter (b : Int) : Bool := decide (97 ≤ b) && decide (b ≤ 122)
def isName (w : Bytes) : Bool := decide (1 ≤ (w.length : Int)) && (decide ((w.length : Int) ≤ 8) && (w.map isLetter).all id)
def bPart : Bytes := [112, 97, 114, 116]
def bPut : Bytes := [112, 117, 116]
def bMirror : Bytes := [109, 105, 114, 114, 111, 114]
def bTimes : Bytes := [116, 105, 109, 101, 115]
def bEnd : Bytes := [101, 110, 100]
def bDrop : Bytes := [100, 114, 111, 112]
def bEvery : Bytes := [101, 118, 101, 114, 121]

/-! ### cells -/
def isPlate (s : Int) : Bool := decide (97 ≤ s) && decide (s < 97 + 6)
def isGate (s : Int) : Bool := decide (65 ≤ s) && decide (s < 65 + 6)
def isCounter (s : Int) : Bool := decide (50 ≤ s) && decide (s ≤ 57)
def isFlip (s : Int) : Bool := decide (s = 89) || decide (s = 121)
def inSimple (s : Int) : Bool := ([35, 46, 94, 85, 33, 79] : List Int).contains s
def mirTab : List (Int × Int) := [(92, 47), (47, 92), (62, 60), (60, 62), (89, 121), (121, 89)]
def inMirrored (s : Int) : Bool := (mirTab.lookup s).isSome
def isCellSign (s : Int) : Bool := if isPlate s || (isGate s || isCounter s) then true else inSimple s || inMirrored s
def cellOf (s : Int) : Cell := (s, 0, 0)
def mirSign (s : Int) : Int := (mirTab.lookup s).getD s
def mirrored (c : Cell) : Cell := if isCounter c.1 then (c.1, 1 - c.2.1, c.2.2) else (mirSign c.1, c.2.1, c.2.2)
def withMore (c : Cell) (m : Int) : Cell := if isPlate c.1 || isGate c.1 then (c.1, c.2.1, c.2.2 + m) else c
def linkOf (c : Cell) : Pair := (c.2.2, if isPlate c.1 then c.1 - 97 else c.1 - 65)

/-! ### runs -/
structure RunS where
  board : Board
  marbles : List Pair
  tick : Int
  places : List Int
  held : List Int
  counts : List Int
  permits : Pair → Int
  rings : List Pair
  /-- how often permits were written -/
  puts : Nat
def newRun (b : Board) (ms : List Pair) : RunS := ⟨b, ms, 0, List.replicate ms.length (-1), List.replicate b.2.2.length (-1), List.replicate b.2.2.length 0, fun _ => 0, [], 0⟩
def RunS.w (r : RunS) : Int := r.board.1
def RunS.h (r : RunS) : Int := r.board.2.1
def RunS.cells (r : RunS) : List Cell := r.board.2.2
def cellAt (r : RunS) (p : Int) : Cell := itm airC r.board.2.2 p
def signAt (r : RunS) (p : Int) : Int := (cellAt r p).1
def permitsAt (r : RunS) (p : Int) : Int := r.permits (linkOf (cellAt r p))
def addPermits (r : RunS) (p n : Int) : RunS := { r with permits := fun k => if k = linkOf (cellAt r p) then permitsAt r p + n else r.permits k, puts := r.puts + 1 }
def sideFlip (r : RunS) (p : Int) : Int := if decide (decide (itm 0 r.counts p % 2 = 0) = decide (signAt r p = 89)) then 1 else -1
def sideCounter (r : RunS) (p : Int) : Int :=
  if !decide ((itm 0 r.counts p + 1) % ((cellAt r p).1 - 48) = 0) then 0 else if decide ((cellAt r p).2.1 = 1) then -1 else 1
def shiftFrom (r : RunS) (p : Int) : Pair :=
  if ([92, 47] : List Int).contains (signAt r p) then (if decide (signAt r p = 92) then 1 else -1, 1)
  else if ([62, 60] : List Int).contains (signAt r p) then (if decide (signAt r p = 62) then 1 else -1, 0)
  else if decide (signAt r p = 94) then (0, -1)
  else if isFlip (signAt r p) then (sideFlip r p, 1)
  else if isCounter (signAt r p) then (sideCounter r p, 1)
  else (0, 1)
def destFrom (r : RunS) (p : Int) : Pair := (p % r.board.1 + (shiftFrom r p).1, p / r.board.1 + (shiftFrom r p).2)
def reachable (r : RunS) (c row : Int) : Bool := decide (0 ≤ c) && (decide (c < r.board.1) && decide (0 ≤ row))
def isFree (r : RunS) (p : Int) : Bool := if decide (signAt r p = 85) then true else !decide (signAt r p = 35) && decide (itm 0 r.held p = -1)
def heldBack (r : RunS) (p : Int) : Bool := isGate (signAt r p) && decide (permitsAt r p = 0)
def rowPlaces (r : RunS) (row : Int) : List Int := (rng (row * r.board.1) ((row + 1) * r.board.1)).filter fun p => !decide (itm 0 r.held p = -1)
def movingPlaces (r : RunS) : List Int := (rng 0 r.board.2.1).foldl (fun acc t => acc ++ rowPlaces r (r.board.2.1 - 1 - t)) []
def hasDrums (r : RunS) : Bool := (r.board.2.2.map fun c => decide (c.1 = 79)).any id
def pushes (r : RunS) (p : Int) : Bool := !heldBack r p && (reachable r (destFrom r p).1 (destFrom r p).2 && decide ((destFrom r p).2 < r.board.2.1))
def placeOf (r : RunS) (c row : Int) : Int := row * r.board.1 + c
def pushed1 (r : RunS) (f : Int → Bool) (p : Int) : Int → Bool :=
  if pushes r p then (if decide (signAt r (placeOf r (destFrom r p).1 (destFrom r p).2) = 79) then fun i => decide (i = placeOf r (destFrom r p).1 (destFrom r p).2) || f i else f) else f
def pushed (r : RunS) (ps : List Int) : Int → Bool := if !hasDrums r then fun _ => false else ps.foldl (pushed1 r) fun _ => false
def leave (r : RunS) (p : Int) : RunS :=
  let r1 := { r with held := r.held.set p.toNat (-1), places := r.places.set (itm 0 r.held p).toNat (-2) }
  let r2 := if isFlip (signAt r p) || (isCounter (signAt r p) || isGate (signAt r p)) then { r1 with counts := r1.counts.set p.toNat (itm 0 r1.counts p + 1) } else r1
  if isGate (signAt r p) then addPermits r2 p (-1) else r2
def enter (r : RunS) (p m : Int) : RunS :=
  if decide (signAt r p = 85) then { r with places := r.places.set m.toNat (-2) }
  else
    let r1 := { r with held := r.held.set p.toNat m, places := r.places.set m.toNat p }
    let r2 := if decide (signAt r p = 33) then { r1 with rings := r1.rings ++ [(r.tick, m)] } else r1
    if isPlate (signAt r p) then addPermits r2 p 1 else r2
def moveFrom (r : RunS) (p : Int) (drums : Int → Bool) : RunS :=
  if heldBack r p || (decide (signAt r p = 79) && !drums p) then r
  else if !reachable r (destFrom r p).1 (destFrom r p).2 then r
  else if decide (r.board.2.1 ≤ (destFrom r p).2) then leave r p
  else if isFree r (placeOf r (destFrom r p).1 (destFrom r p).2) then enter (leave r p) (placeOf r (destFrom r p).1 (destFrom r p).2) (itm 0 r.held p)
  else r
def letIn1 (r : RunS) (m : Nat) (d : Pair) : RunS :=
  if decide (itm 0 r.places m = -1) && (decide (d.2 ≤ r.tick) && isFree r d.1) then enter r d.1 m else r
def letInFrom (r : RunS) : Nat → List Pair → RunS
  | _, [] => r
  | i, d :: ds => letInFrom (letIn1 r i d) (i + 1) ds
def letIn (r : RunS) : RunS := letInFrom r 0 r.marbles
def doTick (r0 : RunS) : RunS :=
  let r := { r0 with tick := r0.tick + 1 }
  let ps := movingPlaces r
  let ds := pushed r ps
  letIn (ps.foldl (fun q p => moveFrom q p ds) r)
def isOver (r : RunS) : Bool := (r.places.map fun p => decide (p = -2)).all id
def tickOn (r : RunS) : RunS := if !isOver r then doTick r else r
def iter {α : Type} (f : α → α) : Nat → α → α
  | 0, x => x
  | n + 1, x => iter f n (f x)
def lessP (a b : Pair) : Bool := decide (a.1 < b.1) || (decide (a.1 = b.1) && decide (a.2 < b.2))
def insP (x : Pair) : List Pair → List Pair
  | [] => [x]
  | y :: l => if lessP x y then x :: y :: l else y :: insP x l
def sortP (l : List Pair) : List Pair := l.foldl (fun m x => insP x m) []
def ringingOf (b : Board) (ms : List Pair) (hz : Int) : List Pair := sortP (iter tickOn hz.toNat (newRun b ms)).rings
def path1 (m : Int) (s : RunS × List Int) : RunS × List Int :=
  let r := doTick s.1
  (r, if decide (0 ≤ itm 0 r.places m) then s.2 ++ [itm 0 r.places m] else s.2)
def pathOf (b : Board) (ms : List Pair) (hz m : Int) : List Int := (iter (path1 m) hz.toNat (newRun b ms, [])).2

/-! ### changes -/
def changedBoard (b : Board) (p s : Int) : Board := (b.1, b.2.1, (b.2.2.take p.toNat ++ [cellOf s]) ++ b.2.2.drop (p + 1).toNat)
def changesAt (pal : List Int) (i : Nat) (c : Cell) : List Pair := (pal.filter fun s => !decide (s = c.1)).map fun s => ((i : Int), s)
def allChangesFrom (pal : List Int) : Nat → List Cell → List Pair
  | _, [] => []
  | i, c :: cs => changesAt pal i c ++ allChangesFrom pal (i + 1) cs
def allChanges (b : Board) (pal : List Int) : List Pair := allChangesFrom pal 0 b.2.2
def ringingWith (b : Board) (ms : List Pair) (hz : Int) (c : Pair) : List Pair := ringingOf (changedBoard b c.1 c.2) ms hz
def repairsOf (b : Board) (ms : List Pair) (hz : Int) (pal : List Int) (tg : List Pair) : List Pair := (allChanges b pal).filter fun c => decide (ringingWith b ms hz c = sortP tg)
def noticeable (b : Board) (ms : List Pair) (hz : Int) (pal : List Int) : List Pair := (allChanges b pal).filter fun c => !decide (ringingWith b ms hz c = ringingOf b ms hz)
def notAirFrom : Nat → List Cell → List Int
  | _, [] => []
  | i, c :: cs => if !decide (c.1 = 46) then (i : Int) :: notAirFrom (i + 1) cs else notAirFrom (i + 1) cs
def idlePlaces (b : Board) (ms : List Pair) (hz : Int) : List Int := (notAirFrom 0 b.2.2).filter fun p => decide (ringingWith b ms hz (p, 46) = ringingOf b ms hz)

/-! ### parts -/
structure PartD where
  name : Bytes
  w : Int
  h : Int
  cells : List Cell
  sets : Int
def isFull (p : PartD) : Bool := decide ((p.cells.length : Int) = p.w * p.h)
def partNamed (ps : List PartD) (n : Bytes) : List PartD := ps.filter fun p => decide (p.name = n)
def rowOf (p : PartD) (y : Int) : List Cell := (p.cells.drop (y * p.w).toNat).take (((y + 1) * p.w).toNat - (y * p.w).toNat)
def mirroredCells (p : PartD) : List Cell := (rng 0 p.h).foldl (fun acc y => acc ++ (rowOf p y).reverse.map mirrored) []
def isInside (p q : PartD) (x y : Int) : Bool := if decide (x < 0) || decide (y < 0) then false else decide (x + q.w ≤ p.w) && decide (y + q.h ≤ p.h)
def copyPlaces (p q : PartD) (x y : Int) : List Int := (rng 0 q.h).foldl (fun acc row => (rng 0 q.w).foldl (fun a col => a ++ [(y + row) * p.w + x + col]) acc) []
def overlap1 (p : PartD) (c : Cell) (a : Int) : Bool := !decide (c.1 = 46) && !decide ((itm airC p.cells a).1 = 46)
def overlapping (p : PartD) : List Cell → List Int → Bool
  | c :: cs, a :: as => if overlap1 p c a then true else overlapping p cs as
  | _, _ => false
def placeC (p : PartD) (a : Int) (c : Cell) : PartD := { p with cells := (p.cells.take a.toNat ++ [c]) ++ p.cells.drop (a + 1).toNat }
def placeAll (p : PartD) : List Cell → List Int → PartD
  | c :: cs, a :: as => placeAll (if !decide (c.1 = 46) then placeC p a (withMore c p.sets) else p) cs as
  | _, _ => p
def copyInto (p q : PartD) (cells : List Cell) (x y : Int) : PartD × Int :=
  if !isInside p q x y then (p, 3)
  else if overlapping p cells (copyPlaces p q x y) then (p, 4)
  else if decide (64 < p.sets + q.sets) then (p, 5)
  else
    let r := placeAll p cells (copyPlaces p q x y)
    ({ r with sets := r.sets + q.sets }, 0)

/-! ### texts -/
structure DraftS where
  parts : List PartD
  begun : List PartD
  marbles : List Pair
def airP : PartD := ⟨[], 0, 0, [], 0⟩
def readPart (d : DraftS) (ws : List Bytes) : DraftS × Int :=
  if !decide ((ws.length : Int) = 4) || (!isName (itm [] ws 1) || (!decide (d.begun.length = 0) || !decide (d.marbles.length = 0))) then (d, 1)
  else if !isNumberWithin (itm [] ws 2) 1 24 || !isNumberWithin (itm [] ws 3) 1 24 then (d, 1)
  else if !decide ((partNamed d.parts (itm [] ws 1)).length = 0) then (d, 2)
  else if decide (12 ≤ (d.parts.length : Int)) then (d, 5)
  else ({ d with begun := [⟨itm [] ws 1, numberOf (itm [] ws 2), numberOf (itm [] ws 3), [], 1⟩] }, 0)
def readRow (d : DraftS) (l : Bytes) : DraftS × Int :=
  match d.begun with
  | [] => (d, 1)
  | p :: _ =>
    if isFull p || (!decide (((l.drop 1).length : Int) = p.w) || !((l.drop 1).map isCellSign).all id) then (d, 1)
    else ({ d with begun := [{ p with cells := p.cells ++ (l.drop 1).map cellOf }] }, 0)
def isTimes (ws : List Bytes) : Bool :=
  if !decide ((ws.length : Int) = 4) || (!decide (itm [] ws 0 = bTimes) || !isNumberWithin (itm [] ws 1) 1 12) then false
  else isSigned (itm [] ws 2) && isSigned (itm [] ws 3)
def behindMirror (ws : List Bytes) : List Bytes := if decide (ws.take 1 = [bMirror]) then ws.drop 1 else ws
def isPut (ws : List Bytes) : Bool :=
  if decide ((ws.length : Int) < 4) || (!isName (itm [] ws 1) || (!isSigned (itm [] ws 2) || !isSigned (itm [] ws 3))) then false
  else decide ((behindMirror (ws.drop 4)).length = 0) || isTimes (behindMirror (ws.drop 4))
def copies (q : PartD) (cells : List Cell) (x y across down : Int) : Nat → Nat → PartD → PartD × Int
  | 0, _, p => (p, 0)
  | n + 1, k, p =>
    let z := copyInto p q cells (x + (k : Int) * across) (y + (k : Int) * down)
    if !decide (z.2 = 0) then z else copies q cells x y across down n (k + 1) z.1
def readPut (d : DraftS) (ws : List Bytes) : DraftS × Int :=
  match d.begun with
  | [] => (d, 1)
  | p :: _ =>
    if !isFull p || !isPut ws then (d, 1)
    else match partNamed d.parts (itm [] ws 1) with
      | [] => (d, 2)
      | q :: _ =>
        let more := behindMirror (ws.drop 4)
        let cells := if decide ((more.length : Int) = (ws.length : Int) - 4) then q.cells else mirroredCells q
        let how : Int × Int × Int := if !decide (more.length = 0) then (numberOf (itm [] more 1), signedOf (itm [] more 2), signedOf (itm [] more 3)) else (1, 0, 0)
        let z := copies q cells (signedOf (itm [] ws 2)) (signedOf (itm [] ws 3)) how.2.1 how.2.2 how.1.toNat 0 p
        ({ d with begun := [z.1] }, z.2)
def readEnd (d : DraftS) (ws : List Bytes) : DraftS × Int :=
  match d.begun with
  | [] => (d, 1)
  | p :: _ => if !decide ((ws.length : Int) = 1) || !isFull p then (d, 1) else ({ d with parts := d.parts ++ [p], begun := [] }, 0)
def isEvery (ws : List Bytes) : Bool :=
  if !decide ((ws.length : Int) = 4) || (!decide (itm [] ws 0 = bEvery) || !decide (itm [] ws 2 = bTimes)) then false
  else isNumberWithin (itm [] ws 1) 1 999 && isNumberWithin (itm [] ws 3) 1 999
def isDrop (ws : List Bytes) : Bool :=
  if decide ((ws.length : Int) < 3) || (!isNumber (itm [] ws 1) || !isNumber (itm [] ws 2)) then false
  else decide ((ws.length : Int) = 3) || isEvery (ws.drop 3)
def dropsOf (c t later : Int) (n : Int) : List Pair := (rng 0 n).map fun k => (c, t + k * later)
def readDrop (d : DraftS) (ws : List Bytes) : DraftS × Int :=
  if !decide (d.begun.length = 0) || !isDrop ws then (d, 1)
  else if decide (d.parts.length = 0) then (d, 6)
  else if decide ((itm airP d.parts ((d.parts.length : Int) - 1)).w ≤ numberOf (itm [] ws 1)) then (d, 3)
  else
    let how : Int × Int := if decide (3 < (ws.length : Int)) then (numberOf (itm [] ws 4), numberOf (itm [] ws 6)) else (0, 1)
    if decide (40 < (d.marbles.length : Int) + how.2) then (d, 5)
    else ({ d with marbles := d.marbles ++ dropsOf (numberOf (itm [] ws 1)) (numberOf (itm [] ws 2)) how.1 how.2 }, 0)
def readLine (d : DraftS) (l : Bytes) : DraftS × Int :=
  let ws := wordsOf l
  if decide (ws.length = 0) || decide (itm 0 l 0 = 59) then (d, 0)
  else if decide (itm 0 l 0 = 58) then readRow d l
  else if decide (itm [] ws 0 = bPart) then readPart d ws
  else if decide (itm [] ws 0 = bPut) then readPut d ws
  else if decide (itm [] ws 0 = bEnd) then readEnd d ws
  else if decide (itm [] ws 0 = bDrop) then readDrop d ws else (d, 1)
def readLines : Nat → DraftS → List Bytes → DraftS × Int × Int
  | _, d, [] => (d, 0, 0)
  | k, d, l :: ls =>
    let z := readLine d l
    if !decide (z.2 = 0) then (z.1, (k : Int) + 1, z.2) else readLines (k + 1) z.1 ls
def readText (d : DraftS) (t : Bytes) : DraftS × Int × Int :=
  let z := readLines 0 d (linesOf t)
  if !decide (z.2.2 = 0) then z
  else if !decide (z.1.begun.length = 0) || decide (z.1.parts.length = 0) then (z.1, ((linesOf t).length : Int) + 1, 6)
  else (z.1, 0, 0)

/-! ### mending -/
structure BenchS where
  loaded : Bool
  board : Board
  marbles : List Pair
  horizon : Int
  target : List Pair
  palette : List Int
def newBench : BenchS := ⟨false, (0, 0, []), [], 40, [], [46, 92, 47]⟩
def isTextByte (b : Int) : Bool := decide (b = 10) || (decide (32 ≤ b) && decide (b ≤ 126))
def load (b : BenchS) (t : Bytes) : BenchS × List Int :=
  if decide (4000 < (t.length : Int)) || !(t.map isTextByte).all id then (b, [-2])
  else
    let z := readText ⟨[], [], []⟩ t
    if !decide (z.2.2 = 0) then (b, [-(100 * z.2.1 + z.2.2 + 10)])
    else
      let p := itm airP z.1.parts ((z.1.parts.length : Int) - 1)
      if decide (36 < p.w * p.h) then (b, [-4])
      else (⟨true, (p.w, p.h, p.cells), z.1.marbles, 40, [], [46, 92, 47]⟩, [p.w, p.h, (z.1.marbles.length : Int)])
def firsts : List Int → List Int → List Int
  | acc, [] => acc
  | acc, x :: r => firsts (if acc.contains x then acc else acc ++ [x]) r
def areDifferent (ss : List Int) : Bool := decide (((firsts [] ss).length : Int) = (ss.length : Int))
def setPalette (b : BenchS) (ss : List Int) : BenchS × List Int :=
  if decide ((ss.length : Int) < 1) || (decide (12 < (ss.length : Int)) || !areDifferent ss) then (b, [-2])
  else if !(ss.map isCellSign).all id then (b, [-2])
  else ({ b with palette := ss }, [(ss.length : Int)])
def setHorizon (b : BenchS) (t : Int) : BenchS × List Int := if decide (t < 1) || decide (40 < t) then (b, [-2]) else ({ b with horizon := t }, [0])
def wantRing (b : BenchS) (t m : Int) : BenchS × List Int :=
  if decide (t < 1) || (decide (40 < t) || (decide (m < 0) || decide (40 ≤ m))) then (b, [-2])
  else if b.target.any (fun z => decide (z = (t, m))) then (b, [-4])
  else ({ b with target := b.target ++ [(t, m)] }, [((b.target ++ [(t, m)]).length : Int)])
def clearTarget (b : BenchS) : BenchS × List Int := ({ b with target := [] }, [(b.target.length : Int)])
def ownRinging (b : BenchS) : List Pair := ringingOf b.board b.marbles b.horizon
def pairsOut (l : List Pair) : List Int := l.foldl (fun acc p => acc ++ [p.1, p.2]) [(l.length : Int)]
def ringing (b : BenchS) : List Int := pairsOut (ownRinging b)
def meetsTarget (b : BenchS) : List Int := if decide (ownRinging b = sortP b.target) then [1] else [0]
def ownRepairs (b : BenchS) : List Pair := repairsOf b.board b.marbles b.horizon b.palette b.target
def position (b : BenchS) (p : Int) : List Int := [p % b.board.1, p / b.board.1]
def positions (b : BenchS) (ps : List Int) : List Int := ps.foldl (fun acc p => acc ++ position b p) [(ps.length : Int)]
def repairs (b : BenchS) : List Int := (ownRepairs b).foldl (fun acc c => acc ++ (position b c.1 ++ [c.2])) [((ownRepairs b).length : Int)]
def idleCells (b : BenchS) : List Int := positions b (idlePlaces b.board b.marbles b.horizon)
def countChanges (b : BenchS) : List Int := [((noticeable b.board b.marbles b.horizon b.palette).length : Int), ((allChanges b.board b.palette).length : Int)]
def applyRepair (b : BenchS) (i : Int) : BenchS × List Int :=
  if decide (i < 0) || decide (((ownRepairs b).length : Int) ≤ i) then (b, [-3])
  else
    let c := itm (0, 0) (ownRepairs b) i
    ({ b with board := changedBoard b.board c.1 c.2 }, [c.2] ++ position b c.1)
def tellBoard (b : BenchS) : List Int := [b.board.1, b.board.2.1] ++ b.board.2.2.map fun c => c.1
def path (b : BenchS) (m : Int) : List Int := if decide (m < 0) || decide ((b.marbles.length : Int) ≤ m) then [-2] else positions b (pathOf b.board b.marbles b.horizon m)
def setOrTell (b : BenchS) (n : Int) (ns : List Int) : BenchS × List Int :=
  if decide (n = 2) then setPalette b ns
  else if decide (n = 3) then setHorizon b (itm 0 ns 0)
  else if decide (n = 4) then wantRing b (itm 0 ns 0) (itm 0 ns 1)
  else if decide (n = 5) then clearTarget b
  else (b, if decide (n = 6) then ringing b else meetsTarget b)
def answered (b : BenchS) (n : Int) (ns : List Int) : BenchS × List Int :=
  if decide (n = 1) then load b ns
  else if !b.loaded then (b, [-7])
  else if decide (n < 8) then setOrTell b n ns
  else if decide (n = 8) then (b, repairs b)
  else if decide (n = 9) then (b, idleCells b)
  else if decide (n = 10) then (b, countChanges b)
  else if decide (n = 11) then applyRepair b (itm 0 ns 0)
  else (b, if decide (n = 12) then tellBoard b else path b (itm 0 ns 0))
def answers1 (s : BenchS × List Int) (c : Int × List Int) : BenchS × List Int :=
  let z := answered s.1 c.1 c.2
  (z.1, (s.2 ++ [(z.2.length : Int)]) ++ z.2)
def splitCalls : Nat → List Int → Int → List (Int × List Int) → List (Int × List Int)
  | 0, _, _, acc => acc
  | f + 1, cs, a, acc => if decide (a < (cs.length : Int)) then
      splitCalls f cs (a + itm 0 cs (a + 1) + 3) (acc ++ [(itm 0 cs a, (cs.drop (a + 2).toNat).take ((a + 2 + itm 0 cs (a + 1)).toNat - (a + 2).toNat))])
    else acc
def answers (cs : List Int) : List Int := ((splitCalls cs.length cs 0 []).foldl answers1 (newBench, [])).2
end Mir
end
section
set_option linter.all false
namespace Mir
/-- a board that can be run -/
structure Wb (b : Board) : Prop where
  w : 1 ≤ b.1
  h : 1 ≤ b.2.1
  s : b.1 * b.2.1 ≤ 36
  n : (b.2.2.length : Int) = b.1 * b.2.1
structure Wm (b : Board) (ms : List Pair) : Prop where
  l : ms.length ≤ 40
  c : ∀ d ∈ ms, 0 ≤ d.1 ∧ d.1 < b.1
structure Wf (r : RunS) : Prop where
  b : Wb r.board
  m : Wm r.board r.marbles
  hl : r.held.length = r.board.2.2.length
  cl : r.counts.length = r.board.2.2.length
  pl : r.places.length = r.marbles.length
  hm : ∀ m ∈ r.held, -1 ≤ m ∧ m < (r.marbles.length : Int)
/-- within the board -/
abbrev InB (r : RunS) (p : Int) : Prop := 0 ≤ p ∧ p < (r.board.2.2.length : Int)
/-- how much was written -/
def Sz (r : RunS) : Nat := r.rings.length + r.puts
theorem mul_le_of {a b : Int} (ha : 1 ≤ a) (hb : 1 ≤ b) : a ≤ a * b ∧ b ≤ a * b := by
  have h1 : a * 1 ≤ a * b := Int.mul_le_mul_of_nonneg_left hb (by omega)
  have h2 : 1 * b ≤ a * b := Int.mul_le_mul_of_nonneg_right ha (by omega)
  omega
theorem Wb.le {b : Board} (h : Wb b) : b.1 ≤ 36 ∧ b.2.1 ≤ 36 ∧ (b.2.2.length : Int) ≤ 36 ∧ 1 ≤ (b.2.2.length : Int) := by
  have := mul_le_of h.w h.h
  have := h.n
  have := h.s
  have := h.w
  omega
theorem at_in {w h c row : Int} (h0 : 0 ≤ c) (h1 : c < w) (h2 : 0 ≤ row) (h3 : row < h) : 0 ≤ row * w + c ∧ row * w + c < w * h := by
  have a : 0 ≤ row * w := Int.mul_nonneg h2 (by omega)
  have b : (row + 1) * w ≤ h * w := Int.mul_le_mul_of_nonneg_right (by omega) (by omega)
  rw [Int.add_mul, Int.one_mul] at b
  rw [Int.mul_comm w h]
  omega
theorem itm_mem {α : Type} {d : α} {xs : List α} {i : Int} (h0 : 0 ≤ i) (h1 : i < xs.length) : itm d xs i ∈ xs := by
  unfold itm
  rw [List.getD_eq_getElem?_getD, List.getElem?_eq_getElem (by omega)]
  exact List.getElem_mem _
theorem itm_set {α : Type} {d v : α} {xs : List α} {i j : Int} (h0 : 0 ≤ i) (hj : 0 ≤ j) (h1 : i < xs.length) : itm d (xs.set i.toNat v) j = if j = i then v else itm d xs j := by
  unfold itm
  rw [List.getD_eq_getElem?_getD, List.getD_eq_getElem?_getD, List.getElem?_set]
  by_cases e : j = i
  · subst e
    rw [if_pos rfl, if_pos rfl, if_pos (by omega)]
    rfl
  · rw [if_neg (by omega), if_neg e]
theorem leave_board (r : RunS) (p : Int) : (leave r p).board = r.board := by unfold leave addPermits; dsimp only; split <;> split <;> rfl
theorem leave_marbles (r : RunS) (p : Int) : (leave r p).marbles = r.marbles := by unfold leave addPermits; dsimp only; split <;> split <;> rfl
theorem leave_tick (r : RunS) (p : Int) : (leave r p).tick = r.tick := by unfold leave addPermits; dsimp only; split <;> split <;> rfl
theorem leave_rings (r : RunS) (p : Int) : (leave r p).rings = r.rings := by unfold leave addPermits; dsimp only; split <;> split <;> rfl
theorem leave_held (r : RunS) (p : Int) : (leave r p).held = r.held.set p.toNat (-1) := by unfold leave addPermits; dsimp only; split <;> split <;> rfl
theorem leave_places (r : RunS) (p : Int) : (leave r p).places = r.places.set (itm 0 r.held p).toNat (-2) := by unfold leave addPermits; dsimp only; split <;> split <;> rfl
theorem leave_counts (r : RunS) (p : Int) : (leave r p).counts = if isFlip (signAt r p) || (isCounter (signAt r p) || isGate (signAt r p)) then r.counts.set p.toNat (itm 0 r.counts p + 1) else r.counts := by unfold leave addPermits; dsimp only; split <;> split <;> rfl
theorem enter_board (r : RunS) (p m : Int) : (enter r p m).board = r.board := by unfold enter addPermits; dsimp only; split <;> first | rfl | (split <;> split <;> rfl)
theorem enter_marbles (r : RunS) (p m : Int) : (enter r p m).marbles = r.marbles := by unfold enter addPermits; dsimp only; split <;> first | rfl | (split <;> split <;> rfl)
theorem enter_tick (r : RunS) (p m : Int) : (enter r p m).tick = r.tick := by unfold enter addPermits; dsimp only; split <;> first | rfl | (split <;> split <;> rfl)
theorem enter_counts (r : RunS) (p m : Int) : (enter r p m).counts = r.counts := by unfold enter addPermits; dsimp only; split <;> first | rfl | (split <;> split <;> rfl)
theorem enter_held (r : RunS) (p m : Int) : (enter r p m).held = if decide (signAt r p = 85) then r.held else r.held.set p.toNat m := by
  unfold enter addPermits; dsimp only; split <;> first | rfl | (split <;> split <;> rfl)
theorem enter_places (r : RunS) (p m : Int) : (enter r p m).places = r.places.set m.toNat (if decide (signAt r p = 85) then -2 else p) := by
  unfold enter addPermits; dsimp only; split <;> first | rfl | (split <;> split <;> rfl)
theorem leave_wf {r : RunS} {p : Int} (h : Wf r) : Wf (leave r p) := by
  refine ⟨by rw [leave_board]; exact h.b, by rw [leave_board, leave_marbles]; exact h.m, by rw [leave_held, leave_board, List.length_set]; exact h.hl, ?_, by rw [leave_places, leave_marbles, List.length_set]; exact h.pl, ?_⟩
  · rw [leave_counts, leave_board]
    split
    · rw [List.length_set]; exact h.cl
    · exact h.cl
  · rw [leave_held, leave_marbles]
    intro m hm
    rcases List.mem_or_eq_of_mem_set hm with q | q
    · exact h.hm m q
    · omega
theorem enter_wf {r : RunS} {p m : Int} (h : Wf r) (h0 : 0 ≤ m) (h1 : m < (r.marbles.length : Int)) : Wf (enter r p m) := by
  refine ⟨by rw [enter_board]; exact h.b, by rw [enter_board, enter_marbles]; exact h.m, ?_, by rw [enter_counts, enter_board]; exact h.cl, by rw [enter_places, enter_marbles, List.length_set]; exact h.pl, ?_⟩
  · rw [enter_held, enter_board]
    split
    · exact h.hl
    · rw [List.length_set]; exact h.hl
  · rw [enter_held, enter_marbles]
    intro x hx
    split at hx
    · exact h.hm x hx
    · rcases List.mem_or_eq_of_mem_set hx with q | q
      · exact h.hm x q
      · omega
theorem leave_sz (r : RunS) (p : Int) : Sz (leave r p) ≤ Sz r + 1 := by
  unfold Sz
  rw [leave_rings]
  have : (leave r p).puts ≤ r.puts + 1 := by unfold leave addPermits; dsimp only; split <;> split <;> simp
  omega
theorem enter_sz (r : RunS) (p m : Int) : Sz (enter r p m) ≤ Sz r + 2 := by
  unfold Sz enter addPermits
  dsimp only
  split
  · dsimp only; omega
  · split <;> split <;> simp <;> omega
/-- a destination on the board -/
theorem dest_in {r : RunS} {c row : Int} (h : Wf r) (h1 : reachable r c row = true) (h2 : row < r.board.2.1) : InB r (placeOf r c row) := by
  unfold reachable at h1
  simp only [Bool.and_eq_true, decide_eq_true_eq] at h1
  unfold InB placeOf
  rw [h.b.n]
  exact at_in h1.1 h1.2.1 h1.2.2 h2
theorem held_ok {r : RunS} {p : Int} (h : Wf r) (hp : InB r p) (hn : itm 0 r.held p ≠ -1) : 0 ≤ itm 0 r.held p ∧ itm 0 r.held p < (r.marbles.length : Int) := by
  have := h.hm _ (itm_mem (d := (0 : Int)) hp.1 (by rw [h.hl]; exact hp.2))
  omega
theorem moveFrom_wf {r : RunS} {p : Int} {ds : Int → Bool} (h : Wf r) (hp : InB r p) (hn : itm 0 r.held p ≠ -1) : Wf (moveFrom r p ds) := by
  unfold moveFrom
  split
  · exact h
  split
  · exact h
  split
  · exact leave_wf h
  split
  · have := held_ok h hp hn
    exact enter_wf (leave_wf h) this.1 (by rw [leave_marbles]; exact this.2)
  · exact h
theorem moveFrom_same {r : RunS} {p : Int} {ds : Int → Bool} : (moveFrom r p ds).board = r.board ∧ (moveFrom r p ds).marbles = r.marbles ∧ (moveFrom r p ds).tick = r.tick := by
  unfold moveFrom
  split
  · exact ⟨rfl, rfl, rfl⟩
  split
  · exact ⟨rfl, rfl, rfl⟩
  split
  · exact ⟨leave_board _ _, leave_marbles _ _, leave_tick _ _⟩
  split
  · exact ⟨(enter_board _ _ _).trans (leave_board _ _), (enter_marbles _ _ _).trans (leave_marbles _ _), (enter_tick _ _ _).trans (leave_tick _ _)⟩
  · exact ⟨rfl, rfl, rfl⟩
theorem moveFrom_sz (r : RunS) (p : Int) (ds : Int → Bool) : Sz (moveFrom r p ds) ≤ Sz r + 3 := by
  unfold moveFrom
  split
  · omega
  split
  · omega
  split
  · have := leave_sz r p; omega
  split
  · have := leave_sz r p
    have := enter_sz (leave r p) (placeOf r (destFrom r p).1 (destFrom r p).2) (itm 0 r.held p)
    omega
  · omega
/-- the move of one marble leaves the others where they are -/
theorem moveFrom_held {r : RunS} {p q : Int} {ds : Int → Bool} (h : Wf r) (hp : InB r p) (hq : InB r q) (hne : q ≠ p) (hn : itm 0 r.held q ≠ -1) : itm 0 (moveFrom r p ds).held q = itm 0 r.held q := by
  unfold moveFrom
  have l1 : itm 0 (leave r p).held q = itm 0 r.held q := by
    rw [leave_held, itm_set hp.1 hq.1 (by rw [h.hl]; exact hp.2), if_neg hne]
  split
  · rfl
  split
  · rfl
  rename_i hr
  split
  · exact l1
  rename_i hrow
  have hin : InB r (placeOf r (destFrom r p).1 (destFrom r p).2) := dest_in h (by simpa using hr) (by simp at hrow; omega)
  split
  · rename_i hfree
    rw [enter_held]
    split
    · exact l1
    · rename_i hbin
      rw [itm_set hin.1 hq.1 (by rw [leave_held, List.length_set, h.hl]; exact hin.2), l1]
      split
      · rename_i e
        exfalso
        unfold isFree at hfree
        have e85 : ¬ signAt r (placeOf r (destFrom r p).1 (destFrom r p).2) = 85 := by
          intro z
          refine hbin ?_
          unfold signAt cellAt at z ⊢
          rw [leave_board]
          exact decide_eq_true z
        rw [decide_eq_false e85] at hfree
        simp only [Bool.false_eq_true, if_false, Bool.and_eq_true, decide_eq_true_eq] at hfree
        rw [← e] at hfree
        exact hn hfree.2
      · rfl
  · rfl
/-- places with marbles that will move in turn -/
def Okp (r : RunS) (ps : List Int) : Prop := ∀ p ∈ ps, InB r p ∧ itm 0 r.held p ≠ -1
theorem inB_same {r s : RunS} (h : s.board = r.board) {p : Int} (hp : InB r p) : InB s p := by unfold InB; rw [h]; exact hp
theorem moves_ok {ds : Int → Bool} : ∀ (ps : List Int) (r : RunS), Wf r → Okp r ps → ps.Nodup → ∀ i, i ≤ ps.length → Wf ((ps.take i).foldl (fun q p => moveFrom q p ds) r) ∧ Okp ((ps.take i).foldl (fun q p => moveFrom q p ds) r) (ps.drop i) ∧
    Sz ((ps.take i).foldl (fun q p => moveFrom q p ds) r) ≤ Sz r + 3 * i ∧ ((ps.take i).foldl (fun q p => moveFrom q p ds) r).board = r.board ∧ ((ps.take i).foldl (fun q p => moveFrom q p ds) r).marbles = r.marbles ∧ ((ps.take i).foldl (fun q p => moveFrom q p ds) r).tick = r.tick
  | ps, r, h, ho, hd, 0, _ => ⟨h, ho, by simp, rfl, rfl, rfl⟩
  | [], r, h, ho, hd, i + 1, hi => by simp at hi
  | p :: ps, r, h, ho, hd, i + 1, hi => by
    have hp := ho p List.mem_cons_self
    obtain ⟨s1, s2, s3⟩ := moveFrom_same (r := r) (p := p) (ds := ds)
    have ih := moves_ok (ds := ds) ps (moveFrom r p ds) (moveFrom_wf h hp.1 hp.2) (fun q hq => by
      have := ho q (List.mem_cons_of_mem _ hq)
      refine ⟨inB_same s1 this.1, ?_⟩
      rw [moveFrom_held h hp.1 this.1 (fun e => (List.nodup_cons.mp hd).1 (e ▸ hq)) this.2]
      exact this.2) (List.nodup_cons.mp hd).2 i (by simpa using hi)
    rw [s1, s2, s3] at ih
    have := moveFrom_sz r p ds
    rw [List.take_succ_cons, List.foldl_cons, List.drop_succ_cons]
    exact ⟨ih.1, ih.2.1, by omega, ih.2.2.2⟩
theorem mem_rng {lo hi x : Int} : x ∈ rng lo hi ↔ lo ≤ x ∧ x < hi := by
  unfold rng
  rw [List.mem_map]
  constructor
  · rintro ⟨i, hi, rfl⟩
    rw [List.mem_range] at hi
    omega
  · intro h
    exact ⟨(x - lo).toNat, by rw [List.mem_range]; omega, by omega⟩
theorem rng_nodup (lo hi : Int) : (rng lo hi).Nodup := by
  unfold rng
  refine List.Pairwise.map _ (fun a b h => ?_) List.nodup_range
  intro e
  exact h (by omega)
theorem rowPlaces_mem {r : RunS} {row p : Int} : p ∈ rowPlaces r row ↔ (row * r.board.1 ≤ p ∧ p < (row + 1) * r.board.1) ∧ itm 0 r.held p ≠ -1 := by
  unfold rowPlaces
  rw [List.mem_filter, mem_rng]
  simp
theorem mul_lt_of {a b w : Int} (hw : 1 ≤ w) (h : a * w < b * w) : a < b := Int.lt_of_mul_lt_mul_right h (by omega)
theorem moving_fold (r : RunS) (hw : 1 ≤ r.board.1) : ∀ (n : Nat) (k : Nat), (∀ p ∈ (((List.range n).map fun (i : Nat) => (0 : Int) + (i : Int)).foldl (fun acc t => acc ++ rowPlaces r (r.board.2.1 - 1 - t)) []), (r.board.2.1 - n) * r.board.1 ≤ p ∧ p < r.board.2.1 * r.board.1 ∧ itm 0 r.held p ≠ -1) ∧
    (((List.range n).map fun (i : Nat) => (0 : Int) + (i : Int)).foldl (fun acc t => acc ++ rowPlaces r (r.board.2.1 - 1 - t)) []).Nodup := by
  intro n k
  induction n with
  | zero => exact ⟨fun p hp => by simp at hp, by simp⟩
  | succ n ih =>
    rw [List.range_succ, List.map_append, List.foldl_append]
    simp only [List.map_cons, List.map_nil, List.foldl_cons, List.foldl_nil]
    have e1 : (r.board.2.1 - 1 - ((0 : Int) + (n : Int)) + 1) = r.board.2.1 - n := by omega
    have e2 : r.board.2.1 - 1 - ((0 : Int) + (n : Int)) = r.board.2.1 - (n + 1 : Nat) := by omega
    constructor
    · intro p hp
      rcases List.mem_append.mp hp with h | h
      · have := ih.1 p h
        refine ⟨Int.le_trans (Int.mul_le_mul_of_nonneg_right (by omega) (by omega)) this.1, this.2⟩
      · rw [rowPlaces_mem, e1, e2] at h
        refine ⟨h.1.1, Int.lt_of_lt_of_le h.1.2 (Int.mul_le_mul_of_nonneg_right (by omega) (by omega)), h.2⟩
    · rw [List.nodup_append]
      refine ⟨ih.2, ?_, ?_⟩
      · unfold rowPlaces
        exact (rng_nodup _ _).filter _
      · intro a ha b hb e
        subst e
        have h1 := (ih.1 a ha).1
        rw [rowPlaces_mem, e1] at hb
        omega
theorem moving_ok {r : RunS} (h : Wf r) : Okp r (movingPlaces r) ∧ (movingPlaces r).Nodup := by
  have z := moving_fold r h.b.w (r.board.2.1 - 0).toNat 0
  refine ⟨fun p hp => ?_, z.2⟩
  have y := z.1 p hp
  have hh := h.b.h
  have e : (r.board.2.1 - ((r.board.2.1 - 0).toNat : Int)) = 0 := by omega
  rw [e, Int.zero_mul] at y
  refine ⟨⟨y.1, ?_⟩, y.2.2⟩
  rw [h.b.n, Int.mul_comm]
  exact y.2.1
theorem nodup_le {n : Nat} : ∀ {l : List Int}, l.Nodup → (∀ x ∈ l, 0 ≤ x ∧ x < (n : Int)) → l.length ≤ n := by
  intro l hd hx
  have : (l.map Int.toNat).Nodup := by
    rw [List.Nodup, List.pairwise_map]
    refine List.Pairwise.imp_of_mem (fun {a b} ha hb hab e => ?_) hd
    have := hx a ha
    have := hx b hb
    omega
  have sub : ∀ x ∈ l.map Int.toNat, x ∈ List.range n := fun x h => by
    obtain ⟨y, hy, rfl⟩ := List.mem_map.mp h
    have := hx y hy
    rw [List.mem_range]
    omega
  have q := List.Nodup.length_le_of_subset this sub
  rw [List.length_map, List.length_range] at q
  exact q
theorem moving_le {r : RunS} (h : Wf r) : (movingPlaces r).length ≤ 36 := by
  obtain ⟨a, b⟩ := moving_ok h
  have := nodup_le (n := r.board.2.2.length) b fun x hx => (a x hx).1
  have := h.b.le
  omega
theorem isFree_same {r s : RunS} (h : s.board = r.board) (p : Int) : signAt s p = signAt r p := by unfold signAt cellAt; rw [h]
theorem letIn1_ok {r : RunS} {i : Nat} {d : Pair} (h : Wf r) (hi : i < r.marbles.length) : Wf (letIn1 r i d) ∧ Sz (letIn1 r i d) ≤ Sz r + 2 ∧ (letIn1 r i d).board = r.board ∧ (letIn1 r i d).marbles = r.marbles ∧ (letIn1 r i d).tick = r.tick := by
  unfold letIn1
  split
  · exact ⟨enter_wf h (by omega) (by omega), enter_sz _ _ _, enter_board _ _ _, enter_marbles _ _ _, enter_tick _ _ _⟩
  · exact ⟨h, by omega, rfl, rfl, rfl⟩
/-- the state after the first marbles were let in -/
def letsIn (r : RunS) (ms : List Pair) (i : Nat) : RunS := letInFrom r 0 (ms.take i)
theorem letInFrom_snoc (d : Pair) : ∀ (ms : List Pair) (r : RunS) (k : Nat), letInFrom r k (ms ++ [d]) = letIn1 (letInFrom r k ms) (k + ms.length) d
  | [], r, k => rfl
  | x :: ms, r, k => by
    show letInFrom (letIn1 r k x) (k + 1) (ms ++ [d]) = _
    rw [letInFrom_snoc d ms _ (k + 1)]
    show _ = letIn1 (letInFrom (letIn1 r k x) (k + 1) ms) _ d
    congr 1
    rw [List.length_cons]
    omega
theorem letIn_ok {r : RunS} (h : Wf r) : ∀ i, i ≤ r.marbles.length → Wf (letInFrom r 0 (r.marbles.take i)) ∧ Sz (letInFrom r 0 (r.marbles.take i)) ≤ Sz r + 2 * i ∧ (letInFrom r 0 (r.marbles.take i)).board = r.board ∧ (letInFrom r 0 (r.marbles.take i)).marbles = r.marbles ∧ (letInFrom r 0 (r.marbles.take i)).tick = r.tick
  | 0, _ => ⟨h, by simp [letInFrom], rfl, rfl, rfl⟩
  | i + 1, hi => by
    have ih := letIn_ok h i (by omega)
    have hx : r.marbles[i]? = some r.marbles[i] := List.getElem?_eq_getElem (by omega)
    have e : r.marbles.take (i + 1) = r.marbles.take i ++ [r.marbles[i]] := by rw [List.take_succ, hx]; rfl
    rw [e, letInFrom_snoc]
    have l : 0 + (r.marbles.take i).length = i := by rw [List.length_take]; omega
    rw [l]
    have z := letIn1_ok (i := i) (d := r.marbles[i]) ih.1 (by rw [ih.2.2.2.1]; omega)
    refine ⟨z.1, by omega, z.2.2.1.trans ih.2.2.1, z.2.2.2.1.trans ih.2.2.2.1, z.2.2.2.2.trans ih.2.2.2.2⟩
theorem doTick_ok {r : RunS} (h : Wf r) : Wf (doTick r) ∧ Sz (doTick r) ≤ Sz r + 200 ∧ (doTick r).board = r.board ∧ (doTick r).marbles = r.marbles ∧ (doTick r).tick = r.tick + 1 := by
  have h1 : Wf { r with tick := r.tick + 1 } := ⟨h.b, h.m, h.hl, h.cl, h.pl, h.hm⟩
  have mo := moving_ok h1
  have ml := moving_le h1
  have a := moves_ok (ds := pushed { r with tick := r.tick + 1 } (movingPlaces { r with tick := r.tick + 1 })) (movingPlaces { r with tick := r.tick + 1 }) { r with tick := r.tick + 1 } h1 mo.1 mo.2 _ (Nat.le_refl _)
  rw [List.take_length] at a
  have b := letIn_ok a.1 _ (Nat.le_refl _)
  rw [List.take_length] at b
  have mk := h.m.l
  have e : Sz { r with tick := r.tick + 1 } = Sz r := rfl
  have l1 : ((movingPlaces { r with tick := r.tick + 1 }).foldl (fun q p => moveFrom q p (pushed { r with tick := r.tick + 1 } (movingPlaces { r with tick := r.tick + 1 }))) { r with tick := r.tick + 1 }).marbles.length ≤ 40 := by rw [a.2.2.2.2.1]; exact mk
  refine ⟨b.1, ?_, b.2.2.1.trans a.2.2.2.1, b.2.2.2.1.trans a.2.2.2.2.1, b.2.2.2.2.trans a.2.2.2.2.2⟩
  show Sz (letInFrom _ 0 _) ≤ _
  have q1 := b.2.1
  have q2 := a.2.2.1
  rw [e] at q2
  omega
theorem newRun_wf {b : Board} {ms : List Pair} (hb : Wb b) (hm : Wm b ms) : Wf (newRun b ms) := ⟨hb, hm, List.length_replicate, List.length_replicate, List.length_replicate, fun m h => by
  have := List.eq_of_mem_replicate h
  omega⟩
end Mir
namespace Mir
theorem Wf.with {r : RunS} (h : Wf r) {pl hl cl : List Int} {t : Int} {f : Pair → Int} {rs : List Pair} {n : Nat} (h1 : pl.length = r.places.length) (h2 : hl.length = r.held.length) (h3 : cl.length = r.counts.length) (h4 : ∀ m ∈ hl, -1 ≤ m ∧ m < (r.marbles.length : Int)) : Wf ⟨r.board, r.marbles, t, pl, hl, cl, f, rs, n⟩ :=
  ⟨h.b, h.m, h2.trans h.hl, h3.trans h.cl, h1.trans h.pl, h4⟩
theorem held_set {r : RunS} (h : Wf r) {n : Nat} {v : Int} (h1 : -1 ≤ v) (h2 : v < (r.marbles.length : Int)) : ∀ m ∈ r.held.set n v, -1 ≤ m ∧ m < (r.marbles.length : Int) := fun m hm => by
  rcases List.mem_or_eq_of_mem_set hm with q | q
  · exact h.hm m q
  · omega
end Mir
end
section
set_option linter.all false
namespace Mir
abbrev leP (a b : Pair) : Prop := lessP b a = false
theorem lessP_iff {a b : Pair} : lessP a b = true ↔ a.1 < b.1 ∨ (a.1 = b.1 ∧ a.2 < b.2) := by
  unfold lessP
  simp only [Bool.or_eq_true, Bool.and_eq_true, decide_eq_true_eq]
theorem leP_iff {a b : Pair} : leP a b ↔ ¬ (b.1 < a.1 ∨ (b.1 = a.1 ∧ b.2 < a.2)) := by
  unfold leP
  rw [← lessP_iff]
  cases lessP b a <;> simp
theorem insP_perm (x : Pair) : ∀ l, (insP x l).Perm (x :: l)
  | [] => .refl _
  | y :: l => by
    unfold insP
    split
    · exact .refl _
    · exact ((insP_perm x l).cons y).trans (.swap x y l)
theorem insP_sorted (x : Pair) : ∀ {l : List Pair}, l.Pairwise leP → (insP x l).Pairwise leP
  | [], _ => by simp [insP]
  | y :: l, h => by
    rw [List.pairwise_cons] at h
    unfold insP
    split
    · rename_i hxy
      rw [lessP_iff] at hxy
      rw [List.pairwise_cons, List.pairwise_cons]
      refine ⟨fun z hz => ?_, h⟩
      rcases List.mem_cons.mp hz with e | e
      · subst e
        rw [leP_iff]
        omega
      · have := h.1 z e
        rw [leP_iff] at this ⊢
        omega
    · rename_i hxy
      rw [lessP_iff] at hxy
      rw [List.pairwise_cons]
      refine ⟨fun z hz => ?_, insP_sorted x h.2⟩
      rcases List.mem_cons.mp ((insP_perm x l).mem_iff.mp hz) with e | e
      · subst e
        rw [leP_iff]
        omega
      · exact h.1 z e
theorem foldIns_perm : ∀ (l m : List Pair), (l.foldl (fun m x => insP x m) m).Perm (l ++ m)
  | [], m => .refl _
  | x :: l, m => by
    rw [List.foldl_cons]
    exact (foldIns_perm l (insP x m)).trans (((insP_perm x m).append_left l).trans (List.perm_middle))
theorem sortP_perm (l : List Pair) : (sortP l).Perm l := by
  have := foldIns_perm l []
  rw [List.append_nil] at this
  exact this
theorem foldIns_sorted : ∀ (l m : List Pair), m.Pairwise leP → (l.foldl (fun m x => insP x m) m).Pairwise leP
  | [], m, h => h
  | x :: l, m, h => foldIns_sorted l _ (insP_sorted x h)
theorem sortP_sorted (l : List Pair) : (sortP l).Pairwise leP := foldIns_sorted l [] .nil
theorem sortP_uniq {l m : List Pair} (hp : l.Perm m) (hs : l.Pairwise leP) : l = sortP m := by
  refine List.Perm.eq_of_pairwise (le := leP) (fun a b _ _ h1 h2 => ?_) hs (sortP_sorted m) (hp.trans (sortP_perm m).symm)
  rw [leP_iff] at h1 h2
  exact Prod.ext (by omega) (by omega)
theorem sortP_len (l : List Pair) : (sortP l).length = l.length := (sortP_perm l).length_eq
theorem iter_succ {α : Type} (f : α → α) : ∀ (n : Nat) (x : α), iter f (n + 1) x = f (iter f n x)
  | 0, _ => rfl
  | n + 1, x => iter_succ f n (f x)
theorem tickOn_ok {r : RunS} (h : Wf r) : Wf (tickOn r) ∧ Sz (tickOn r) ≤ Sz r + 200 ∧ (tickOn r).board = r.board ∧ (tickOn r).marbles = r.marbles := by
  unfold tickOn
  split
  · obtain ⟨a, b, c, d, _⟩ := doTick_ok h
    exact ⟨a, b, c, d⟩
  · exact ⟨h, by omega, rfl, rfl⟩
theorem iterOn_ok {r : RunS} (h : Wf r) : ∀ n, Wf (iter tickOn n r) ∧ Sz (iter tickOn n r) ≤ Sz r + 200 * n ∧ (iter tickOn n r).board = r.board ∧ (iter tickOn n r).marbles = r.marbles
  | 0 => ⟨h, by simp [iter], rfl, rfl⟩
  | n + 1 => by
    obtain ⟨a, b, c, d⟩ := iterOn_ok h n
    rw [iter_succ]
    obtain ⟨a', b', c', d'⟩ := tickOn_ok a
    exact ⟨a', by omega, c'.trans c, d'.trans d⟩
theorem path1_fst (m : Int) (n : Nat) (s : RunS × List Int) : (iter (path1 m) n s).1 = iter doTick n s.1 := by
  induction n with
  | zero => rfl
  | succ n ih =>
    rw [iter_succ, iter_succ, ← ih]
    rfl
theorem iterDo_ok {r : RunS} (h : Wf r) : ∀ n, Wf (iter doTick n r) ∧ Sz (iter doTick n r) ≤ Sz r + 200 * n ∧ (iter doTick n r).board = r.board ∧ (iter doTick n r).marbles = r.marbles
  | 0 => ⟨h, by simp [iter], rfl, rfl⟩
  | n + 1 => by
    obtain ⟨a, b, c, d⟩ := iterDo_ok h n
    rw [iter_succ]
    obtain ⟨a', b', c', d', _⟩ := doTick_ok a
    exact ⟨a', by omega, c'.trans c, d'.trans d⟩
theorem path_len (m : Int) (n : Nat) (s : RunS × List Int) : (iter (path1 m) n s).2.length ≤ s.2.length + n := by
  induction n with
  | zero => simp [iter]
  | succ n ih =>
    rw [iter_succ]
    generalize iter (path1 m) n s = z at *
    unfold path1
    dsimp only
    split
    · rw [List.length_append]
      simp
      omega
    · omega
end Mir
namespace Mir
theorem wb_changed {b : Board} {p s : Int} (h : Wb b) (h0 : 0 ≤ p) (h1 : p < (b.2.2.length : Int)) : Wb (changedBoard b p s) := by
  refine ⟨h.w, h.h, h.s, ?_⟩
  show ((b.2.2.take p.toNat ++ [cellOf s] ++ b.2.2.drop (p + 1).toNat).length : Int) = b.1 * b.2.1
  rw [← h.n]
  simp only [List.length_append, List.length_take, List.length_drop, List.length_singleton]
  omega
theorem wm_changed {b : Board} {ms : List Pair} {p s : Int} (h : Wm b ms) : Wm (changedBoard b p s) ms := ⟨h.l, h.c⟩
theorem allChanges_snoc (pal : List Int) (c : Cell) : ∀ (cs : List Cell) (k : Nat), allChangesFrom pal k (cs ++ [c]) = allChangesFrom pal k cs ++ changesAt pal (k + cs.length) c
  | [], k => by simp [allChangesFrom]
  | x :: cs, k => by
    show changesAt pal k x ++ allChangesFrom pal (k + 1) (cs ++ [c]) = changesAt pal k x ++ allChangesFrom pal (k + 1) cs ++ _
    rw [allChanges_snoc pal c cs (k + 1), List.append_assoc, List.length_cons]
    congr 3
    omega
theorem changesAt_len (pal : List Int) (i : Nat) (c : Cell) : (changesAt pal i c).length ≤ pal.length := by
  unfold changesAt
  rw [List.length_map]
  exact List.length_filter_le _ _
theorem allChanges_len (pal : List Int) : ∀ (cs : List Cell) (k : Nat), (allChangesFrom pal k cs).length ≤ cs.length * pal.length
  | [], k => by simp [allChangesFrom]
  | x :: cs, k => by
    have := allChanges_len pal cs (k + 1)
    have := changesAt_len pal k x
    show (changesAt pal k x ++ allChangesFrom pal (k + 1) cs).length ≤ _
    rw [List.length_append, List.length_cons, Nat.add_mul, Nat.one_mul]
    omega
theorem allChanges_mem (pal : List Int) {z : Pair} : ∀ (cs : List Cell) (k : Nat), z ∈ allChangesFrom pal k cs → (k : Int) ≤ z.1 ∧ z.1 < (k : Int) + (cs.length : Int) ∧ z.2 ∈ pal
  | [], k, h => by simp [allChangesFrom] at h
  | x :: cs, k, h => by
    rcases List.mem_append.mp (show z ∈ changesAt pal k x ++ allChangesFrom pal (k + 1) cs from h) with h | h
    · unfold changesAt at h
      obtain ⟨s, hs, rfl⟩ := List.mem_map.mp h
      have := (List.mem_filter.mp hs).1
      rw [List.length_cons]
      exact ⟨by simp, by simp; omega, this⟩
    · have := allChanges_mem pal cs (k + 1) h
      rw [List.length_cons]
      exact ⟨by omega, by omega, this.2.2⟩
/-- with their numbers -/
def enumL {α : Type} : Nat → List α → List (Int × α)
  | _, [] => []
  | k, x :: r => ((k : Int), x) :: enumL (k + 1) r
theorem enumL_len {α : Type} : ∀ (xs : List α) (k : Nat), (enumL k xs).length = xs.length
  | [], _ => rfl
  | x :: r, k => by show (enumL (k + 1) r).length + 1 = _; rw [enumL_len r]; rfl
theorem enumL_get {α : Type} : ∀ (xs : List α) (k i : Nat) (z : Int × α), (enumL k xs)[i]? = some z → z.1 = ((k + i : Nat) : Int) ∧ xs[i]? = some z.2
  | [], k, i, z, h => by simp [enumL] at h
  | x :: r, k, 0, z, h => by
    simp [enumL] at h
    subst h
    exact ⟨by simp, rfl⟩
  | x :: r, k, i + 1, z, h => by
    have := enumL_get r (k + 1) i z (by simpa [enumL] using h)
    exact ⟨by rw [this.1]; omega, by simpa using this.2⟩
theorem notAir_enum : ∀ (cs : List Cell) (k : Nat), notAirFrom k cs = ((enumL k cs).filter fun z => !decide (z.2.1 = 46)).map fun z => z.1
  | [], _ => rfl
  | c :: cs, k => by
    show (if !decide (c.1 = 46) then (k : Int) :: notAirFrom (k + 1) cs else notAirFrom (k + 1) cs) = _
    rw [enumL, List.filter_cons, notAir_enum cs (k + 1)]
    split <;> rename_i h <;> simp_all
theorem notAir_mem {p : Int} (cs : List Cell) (h : p ∈ notAirFrom 0 cs) : 0 ≤ p ∧ p < (cs.length : Int) := by
  rw [notAir_enum] at h
  obtain ⟨z, hz, rfl⟩ := List.mem_map.mp h
  obtain ⟨i, hi⟩ := List.mem_iff_getElem?.mp (List.mem_filter.mp hz).1
  have := enumL_get cs 0 i z hi
  have l := (List.getElem?_eq_some_iff.mp this.2).1
  omega
end Mir
end
section
set_option linter.all false
namespace Mir
structure Wp (p : PartD) : Prop where
  w : 1 ≤ p.w ∧ p.w ≤ 24
  h : 1 ≤ p.h ∧ p.h ≤ 24
  k : ∃ k : Nat, (p.cells.length : Int) = (k : Int) * p.w ∧ (k : Int) ≤ p.h
  s : 1 ≤ p.sets ∧ p.sets ≤ 64
theorem Wp.n {p : PartD} (h : Wp p) : (p.cells.length : Int) ≤ p.w * p.h := by
  obtain ⟨k, e, hk⟩ := h.k
  have := h.w
  have a : (k : Int) * p.w ≤ p.h * p.w := Int.mul_le_mul_of_nonneg_right hk (by omega)
  rw [e, Int.mul_comm p.w]
  exact a
/-- a part that is full -/
structure Wq (z : PartD) : Prop where
  p : Wp z
  f : (z.cells.length : Int) = z.w * z.h
theorem wh_le {w h : Int} (h1 : 1 ≤ w ∧ w ≤ 24) (h2 : 1 ≤ h ∧ h ≤ 24) : 1 ≤ w * h ∧ w * h ≤ 576 := by
  have a : w * h ≤ 24 * h := Int.mul_le_mul_of_nonneg_right h1.2 (by omega)
  have b := mul_le_of h1.1 h2.1
  omega
theorem Wp.le {p : PartD} (h : Wp p) : 1 ≤ p.w * p.h ∧ p.w * p.h ≤ 576 ∧ (p.cells.length : Int) ≤ 576 := by
  have := wh_le h.w h.h
  have := h.n
  omega
theorem full_wq {p : PartD} (h : Wp p) (hf : isFull p = true) : Wq p := ⟨h, of_decide_eq_true hf⟩
/-! copies -/
theorem foldl_one {α : Type} (f : Int → α) : ∀ (l : List Int) (acc : List α), l.foldl (fun a c => a ++ [f c]) acc = acc ++ l.map f
  | [], acc => by simp
  | x :: l, acc => by
    rw [List.foldl_cons, foldl_one f l, List.map_cons, List.append_assoc]
    rfl
theorem foldl_app {α β : Type} (f : α → List β) : ∀ (l : List α) (acc : List β), l.foldl (fun a c => a ++ f c) acc = acc ++ l.flatMap f
  | [], acc => by simp
  | x :: l, acc => by
    rw [List.foldl_cons, foldl_app f l, List.flatMap_cons, List.append_assoc]
theorem copyPlaces_eq (p q : PartD) (x y : Int) : copyPlaces p q x y = (rng 0 q.h).flatMap fun row => (rng 0 q.w).map fun col => (y + row) * p.w + x + col := by
  unfold copyPlaces
  have : (fun (acc : List Int) row => (rng 0 q.w).foldl (fun a col => a ++ [(y + row) * p.w + x + col]) acc) = fun acc row => acc ++ (rng 0 q.w).map fun col => (y + row) * p.w + x + col := by
    funext acc row
    exact foldl_one _ _ _
  rw [this, foldl_app]
  rfl
theorem inside_iff {p q : PartD} {x y : Int} : isInside p q x y = true ↔ 0 ≤ x ∧ 0 ≤ y ∧ x + q.w ≤ p.w ∧ y + q.h ≤ p.h := by
  unfold isInside
  by_cases h : x < 0 ∨ y < 0
  · rw [if_pos (by simpa using h)]
    constructor
    · intro z; cases z
    · omega
  · rw [if_neg (by simpa using h)]
    simp only [Bool.and_eq_true, decide_eq_true_eq]
    omega
theorem places_in {p q : PartD} {x y a : Int} (h : isInside p q x y = true) (ha : a ∈ copyPlaces p q x y) : 0 ≤ a ∧ a < p.w * p.h := by
  rw [inside_iff] at h
  rw [copyPlaces_eq] at ha
  obtain ⟨row, hr, ha⟩ := List.mem_flatMap.mp ha
  obtain ⟨col, hc, rfl⟩ := List.mem_map.mp ha
  rw [mem_rng] at hr hc
  have := at_in (w := p.w) (h := p.h) (c := x + col) (row := y + row) (by omega) (by omega) (by omega) (by omega)
  omega
theorem places_len (p q : PartD) (x y : Int) : (copyPlaces p q x y).length = q.h.toNat * q.w.toNat := by
  rw [copyPlaces_eq, List.length_flatMap]
  have : (rng 0 q.h).map (fun row => ((rng 0 q.w).map fun col => (y + row) * p.w + x + col).length) = (rng 0 q.h).map fun _ => q.w.toNat := by
    refine List.map_congr_left fun r _ => ?_
    rw [List.length_map]
    unfold rng
    rw [List.length_map, List.length_range, Int.sub_zero]
  rw [this, List.map_const', List.sum_replicate_nat]
  unfold rng
  rw [List.length_map, List.length_range, Int.sub_zero]
/-- one cell of a copy -/
def put1 (p : PartD) (z : Cell × Int) : PartD := if !decide (z.1.1 = 46) then placeC p z.2 (withMore z.1 p.sets) else p
theorem placeAll_zip : ∀ (cs : List Cell) (as : List Int) (p : PartD), placeAll p cs as = (cs.zip as).foldl put1 p
  | [], as, p => by cases as <;> rfl
  | c :: cs, [], p => rfl
  | c :: cs, a :: as, p => by
    show placeAll (if !decide (c.1 = 46) then placeC p a (withMore c p.sets) else p) cs as = _
    rw [placeAll_zip cs as, List.zip_cons_cons, List.foldl_cons]
    rfl
theorem placeC_len {p : PartD} {a : Int} {c : Cell} (h0 : 0 ≤ a) (h1 : a < (p.cells.length : Int)) : (placeC p a c).cells.length = p.cells.length := by
  show ((p.cells.take a.toNat ++ [c]) ++ p.cells.drop (a + 1).toNat).length = _
  simp only [List.length_append, List.length_take, List.length_drop, List.length_singleton]
  omega
theorem put1_same {p : PartD} {z : Cell × Int} (h0 : 0 ≤ z.2) (h1 : z.2 < (p.cells.length : Int)) : (put1 p z).name = p.name ∧ (put1 p z).w = p.w ∧ (put1 p z).h = p.h ∧ (put1 p z).sets = p.sets ∧ (put1 p z).cells.length = p.cells.length := by
  unfold put1
  split
  · exact ⟨rfl, rfl, rfl, rfl, placeC_len h0 h1⟩
  · exact ⟨rfl, rfl, rfl, rfl, rfl⟩
theorem puts_same : ∀ (zs : List (Cell × Int)) (p : PartD), (∀ z ∈ zs, 0 ≤ z.2 ∧ z.2 < (p.cells.length : Int)) → (zs.foldl put1 p).name = p.name ∧ (zs.foldl put1 p).w = p.w ∧ (zs.foldl put1 p).h = p.h ∧ (zs.foldl put1 p).sets = p.sets ∧ (zs.foldl put1 p).cells.length = p.cells.length
  | [], p, _ => ⟨rfl, rfl, rfl, rfl, rfl⟩
  | z :: zs, p, h => by
    have h1 := h z List.mem_cons_self
    obtain ⟨a, b, c, d, e⟩ := put1_same h1.1 h1.2
    obtain ⟨a', b', c', d', e'⟩ := puts_same zs (put1 p z) fun y hy => by rw [e]; exact h y (List.mem_cons_of_mem _ hy)
    exact ⟨a'.trans a, b'.trans b, c'.trans c, d'.trans d, e'.trans e⟩
theorem zip_in {p q : PartD} {x y : Int} {cs : List Cell} (hp : Wq p) (h : isInside p q x y = true) : ∀ z ∈ cs.zip (copyPlaces p q x y), 0 ≤ z.2 ∧ z.2 < (p.cells.length : Int) := fun z hz => by
  have := places_in h (List.of_mem_zip hz).2
  rw [hp.f]
  exact this
theorem copyInto_ok {p q : PartD} {cs : List Cell} {x y : Int} (hp : Wq p) (hq : Wp q) : Wq (copyInto p q cs x y).1 ∧ (copyInto p q cs x y).1.w = p.w ∧ (copyInto p q cs x y).1.h = p.h := by
  unfold copyInto
  split
  · exact ⟨hp, rfl, rfl⟩
  rename_i h1
  split
  · exact ⟨hp, rfl, rfl⟩
  split
  · exact ⟨hp, rfl, rfl⟩
  rename_i h3
  have hin : isInside p q x y = true := by simpa using h1
  dsimp only
  rw [placeAll_zip]
  obtain ⟨a, b, c, d, e⟩ := puts_same (cs.zip (copyPlaces p q x y)) p (zip_in hp hin)
  have hs := hp.p.s
  have hs2 := hq.s
  have h3 : p.sets + q.sets ≤ 64 := by simp at h3; omega
  refine ⟨⟨⟨?_, ?_, ?_, ?_⟩, ?_⟩, b, c⟩
  · dsimp only; rw [b]; exact hp.p.w
  · dsimp only; rw [c]; exact hp.p.h
  · dsimp only; rw [b, c, e]; exact hp.p.k
  · dsimp only; rw [d]; omega
  · dsimp only; rw [b, c, e]; exact hp.f
theorem copies_ok {q : PartD} {cs : List Cell} {x y ax dn : Int} (hq : Wp q) : ∀ (n k : Nat) (p : PartD), Wq p → Wq (copies q cs x y ax dn n k p).1
  | 0, _, p, hp => hp
  | n + 1, k, p, hp => by
    have z := copyInto_ok (cs := cs) (x := x + (k : Int) * ax) (y := y + (k : Int) * dn) hp hq
    show Wq (if !decide ((copyInto p q cs (x + (k : Int) * ax) (y + (k : Int) * dn)).2 = 0) then copyInto p q cs (x + (k : Int) * ax) (y + (k : Int) * dn) else copies q cs x y ax dn n (k + 1) (copyInto p q cs (x + (k : Int) * ax) (y + (k : Int) * dn)).1).1
    split
    · exact z.1
    · exact copies_ok hq n (k + 1) _ z.1
/-! drafts -/
def lastW (d : DraftS) : Int := (itm airP d.parts ((d.parts.length : Int) - 1)).w
structure Wd (d : DraftS) : Prop where
  ps : ∀ p ∈ d.parts, Wq p
  pl : d.parts.length ≤ 12
  pb : d.begun ≠ [] → d.parts.length < 12
  bg : ∀ p ∈ d.begun, Wp p
  bl : d.begun.length ≤ 1
  ml : d.marbles.length ≤ 40
  mb : d.marbles ≠ [] → d.begun = []
  mc : ∀ m ∈ d.marbles, 0 ≤ m.1 ∧ m.1 < lastW d
theorem number_nonneg_aux : ∀ (w : Bytes) (n : Int), 0 ≤ n → (∀ b ∈ w, 48 ≤ b) → 0 ≤ w.foldl (fun n b => 10 * n + b - 48) n
  | [], n, h, _ => h
  | b :: w, n, h, hb => number_nonneg_aux w _ (by have := hb b List.mem_cons_self; show 0 ≤ 10 * n + b - 48; omega) fun c hc => hb c (List.mem_cons_of_mem _ hc)
theorem isNumber_digits {w : Bytes} (h : isNumber w = true) : w.length ≤ 3 ∧ 1 ≤ w.length ∧ ∀ b ∈ w, 48 ≤ b ∧ b ≤ 57 := by
  unfold isNumber at h
  split at h
  · cases h
  rename_i hc
  simp only [Bool.or_eq_true, Bool.not_eq_true', decide_eq_true_eq, not_or, Bool.not_eq_false, List.all_eq_true, List.mem_map, id] at hc
  refine ⟨by omega, by omega, fun b hb => ?_⟩
  have := hc.2.2 (isDigit b) ⟨b, hb, rfl⟩
  unfold isDigit at this
  simpa using this
theorem number_nonneg {w : Bytes} (h : isNumber w = true) : 0 ≤ numberOf w := number_nonneg_aux w 0 (by omega) fun b hb => ((isNumber_digits h).2.2 b hb).1
theorem within_iff {w : Bytes} {lo hi : Int} : isNumberWithin w lo hi = true ↔ isNumber w = true ∧ lo ≤ numberOf w ∧ numberOf w ≤ hi := by
  unfold isNumberWithin
  simp only [Bool.and_eq_true, decide_eq_true_eq]
theorem readPart_ok {d : DraftS} {ws : List Bytes} (h : Wd d) : Wd (readPart d ws).1 := by
  unfold readPart
  split
  · exact h
  rename_i h1
  split
  · exact h
  rename_i h2
  split
  · exact h
  split
  · exact h
  rename_i h5
  simp only [Bool.or_eq_true, Bool.not_eq_true', not_or, Bool.not_eq_false, decide_eq_false_iff_not, Decidable.not_not, decide_eq_true_eq] at h1 h2 h5
  obtain ⟨-, -, hb, hm⟩ := h1
  have hm : d.marbles = [] := List.eq_nil_of_length_eq_zero hm
  rw [within_iff, within_iff] at h2
  refine ⟨h.ps, h.pl, fun _ => by show d.parts.length < 12; omega, fun p hp => ?_, by simp, h.ml, fun hn => absurd hm hn, fun m hmm => ?_⟩
  · rw [List.mem_singleton] at hp
    subst hp
    have := wh_le (w := numberOf (itm [] ws 2)) (h := numberOf (itm [] ws 3)) ⟨h2.1.2.1, h2.1.2.2⟩ ⟨h2.2.2.1, h2.2.2.2⟩
    exact ⟨⟨h2.1.2.1, h2.1.2.2⟩, ⟨h2.2.2.1, h2.2.2.2⟩, ⟨0, by simp, by show (0 : Int) ≤ numberOf _; omega⟩, by simp⟩
  · dsimp only at hmm
    rw [hm] at hmm
    cases hmm
theorem begun_one {d : DraftS} (h : Wd d) {p : PartD} {r : List PartD} (e : d.begun = p :: r) : r = [] := by
  have := h.bl
  rw [e, List.length_cons] at this
  exact List.eq_nil_of_length_eq_zero (by omega)
theorem noMarbles {d : DraftS} (h : Wd d) {p : PartD} {r : List PartD} (e : d.begun = p :: r) : d.marbles = [] := by
  cases q : d.marbles with
  | nil => rfl
  | cons a b =>
    have := h.mb (by rw [q]; simp)
    rw [e] at this
    cases this
theorem readRow_ok {d : DraftS} {l : Bytes} (h : Wd d) : Wd (readRow d l).1 := by
  unfold readRow
  split
  · exact h
  rename_i p r e
  have hr := begun_one h e
  have hm := noMarbles h e
  have hp := h.bg p (by rw [e]; exact List.mem_cons_self)
  split
  · exact h
  rename_i h1
  simp only [Bool.or_eq_true, Bool.not_eq_true', not_or, Bool.not_eq_false, decide_eq_false_iff_not, Decidable.not_not] at h1
  obtain ⟨hf, hl, -⟩ := h1
  refine ⟨h.ps, h.pl, fun _ => h.pb (by rw [e]; simp), fun q hq => ?_, by simp, h.ml, fun hn => absurd hm hn, fun m hmm => by dsimp only at hmm; rw [hm] at hmm; cases hmm⟩
  rw [List.mem_singleton] at hq
  subst hq
  obtain ⟨k, e1, hk⟩ := hp.k
  have hw := hp.w
  have hk2 : (k : Int) ≠ p.h := fun z => by
    unfold isFull at hf
    rw [e1, z, Int.mul_comm] at hf
    simp at hf
  refine ⟨hp.w, hp.h, ⟨k + 1, ?_, ?_⟩, hp.s⟩
  · dsimp only
    rw [List.length_append, List.length_map]
    have : ((k + 1 : Nat) : Int) * p.w = (k : Int) * p.w + p.w := by rw [Int.natCast_add, Int.add_mul]; simp
    omega
  · dsimp only
    omega
theorem found_mem {ps : List PartD} {n : Bytes} {q : PartD} {r : List PartD} (h : partNamed ps n = q :: r) : q ∈ ps := by
  have : q ∈ partNamed ps n := by rw [h]; exact List.mem_cons_self
  unfold partNamed at this
  exact (List.mem_filter.mp this).1
theorem readPut_ok {d : DraftS} {ws : List Bytes} (h : Wd d) : Wd (readPut d ws).1 := by
  unfold readPut
  split
  · exact h
  rename_i p r e
  have hm := noMarbles h e
  have hp := h.bg p (by rw [e]; exact List.mem_cons_self)
  split
  · exact h
  rename_i h1
  simp only [Bool.or_eq_true, Bool.not_eq_true', not_or, Bool.not_eq_false] at h1
  split
  · exact h
  rename_i q r2 e2
  have hq := h.ps q (found_mem e2)
  dsimp only
  refine ⟨h.ps, h.pl, fun _ => h.pb (by rw [e]; simp), fun z hz => ?_, by simp, h.ml, fun hn => absurd hm hn, fun m hmm => by dsimp only at hmm; rw [hm] at hmm; cases hmm⟩
  rw [List.mem_singleton] at hz
  subst hz
  exact (copies_ok hq.p _ _ _ (full_wq hp h1.1)).p
theorem readEnd_ok {d : DraftS} {ws : List Bytes} (h : Wd d) : Wd (readEnd d ws).1 := by
  unfold readEnd
  split
  · exact h
  rename_i p r e
  have hm := noMarbles h e
  have hp := h.bg p (by rw [e]; exact List.mem_cons_self)
  split
  · exact h
  rename_i h1
  simp only [Bool.or_eq_true, Bool.not_eq_true', not_or, Bool.not_eq_false] at h1
  have hl := h.pb (by rw [e]; simp)
  refine ⟨fun q hq => ?_, by rw [List.length_append]; simp; omega, fun z => absurd rfl z, fun q hq => (by cases hq), by simp, h.ml, fun hn => absurd hm hn, fun m hmm => by dsimp only at hmm; rw [hm] at hmm; cases hmm⟩
  rcases List.mem_append.mp hq with q1 | q1
  · exact h.ps q q1
  · rw [List.mem_singleton] at q1
    subst q1
    exact full_wq hp h1.2
theorem dropsOf_len (c t l n : Int) : (dropsOf c t l n).length = n.toNat := by
  unfold dropsOf rng
  rw [List.length_map, List.length_map, List.length_range, Int.sub_zero]
theorem readDrop_ok {d : DraftS} {ws : List Bytes} (h : Wd d) : Wd (readDrop d ws).1 := by
  unfold readDrop
  split
  · exact h
  rename_i h1
  split
  · exact h
  split
  · exact h
  rename_i h3
  dsimp only
  generalize (if decide (3 < (ws.length : Int)) = true then (numberOf (itm [] ws 4), numberOf (itm [] ws 6)) else ((0, 1) : Int × Int)) = how
  split
  · exact h
  rename_i h4
  simp only [Bool.or_eq_true, Bool.not_eq_true', not_or, Bool.not_eq_false, decide_eq_false_iff_not, Decidable.not_not, decide_eq_true_eq] at h1 h3 h4
  have hb : d.begun = [] := List.eq_nil_of_length_eq_zero h1.1
  have hn : isNumber (itm [] ws 1) = true := by
    have := h1.2
    unfold isDrop at this
    split at this
    · cases this
    · rename_i z
      simp only [Bool.or_eq_true, Bool.not_eq_true', not_or, Bool.not_eq_false] at z
      exact z.2.1
  refine ⟨h.ps, h.pl, h.pb, by dsimp only; rw [hb]; simp, by dsimp only; rw [hb]; simp, ?_, fun _ => hb, fun m hm => ?_⟩
  · dsimp only
    rw [List.length_append, dropsOf_len]
    have := h.ml
    omega
  · rcases List.mem_append.mp hm with q | q
    · exact h.mc m q
    · unfold dropsOf at q
      obtain ⟨k, _, rfl⟩ := List.mem_map.mp q
      have := number_nonneg hn
      exact ⟨this, by show numberOf _ < lastW d; unfold lastW; omega⟩
theorem readLine_ok {d : DraftS} {l : Bytes} (h : Wd d) : Wd (readLine d l).1 := by
  unfold readLine
  dsimp only
  split
  · exact h
  split
  · exact readRow_ok h
  split
  · exact readPart_ok h
  split
  · exact readPut_ok h
  split
  · exact readEnd_ok h
  split
  · exact readDrop_ok h
  · exact h
theorem new_ok : Wd ⟨[], [], []⟩ := ⟨fun p h => (by cases h), by simp, fun h => absurd rfl h, fun p h => (by cases h), by simp, by simp, fun h => absurd rfl h, fun m h => (by cases h)⟩
theorem readLines_ok : ∀ (ls : List Bytes) (k : Nat) (d : DraftS), Wd d → Wd (readLines k d ls).1
  | [], k, d, h => h
  | l :: ls, k, d, h => by
    show Wd (if !decide ((readLine d l).2 = 0) then ((readLine d l).1, (k : Int) + 1, (readLine d l).2) else readLines (k + 1) (readLine d l).1 ls).1
    split
    · exact readLine_ok h
    · exact readLines_ok ls (k + 1) _ (readLine_ok h)
theorem readText_ok {d : DraftS} {t : Bytes} (h : Wd d) : Wd (readText d t).1 := by
  unfold readText
  dsimp only
  split
  · exact readLines_ok _ _ _ h
  split
  · exact readLines_ok _ _ _ h
  · exact readLines_ok _ _ _ h
end Mir
namespace Mir
theorem signed_len {w : Bytes} (h : isSigned w = true) : 1 ≤ w.length := by
  unfold isSigned at h
  simp only [Bool.or_eq_true, Bool.and_eq_true, decide_eq_true_eq] at h
  rcases h with h | h
  · exact (isNumber_digits h).2.1
  · omega
theorem isPut_facts {ws : List Bytes} (h : isPut ws = true) : 4 ≤ ws.length ∧ isSigned (itm [] ws 2) = true ∧ isSigned (itm [] ws 3) = true ∧ ((behindMirror (ws.drop 4)).length = 0 ∨ isTimes (behindMirror (ws.drop 4)) = true) := by
  unfold isPut at h
  split at h
  · cases h
  rename_i z
  simp only [Bool.or_eq_true, Bool.not_eq_true', not_or, Bool.not_eq_false, decide_eq_true_eq] at z h
  exact ⟨by omega, z.2.2.1, z.2.2.2, h⟩
theorem isTimes_facts {ws : List Bytes} (h : isTimes ws = true) : ws.length = 4 ∧ 1 ≤ numberOf (itm [] ws 1) ∧ numberOf (itm [] ws 1) ≤ 12 ∧ isSigned (itm [] ws 2) = true ∧ isSigned (itm [] ws 3) = true := by
  unfold isTimes at h
  split at h
  · cases h
  rename_i z
  simp only [Bool.or_eq_true, Bool.not_eq_true', not_or, Bool.not_eq_false, decide_eq_false_iff_not, Decidable.not_not, Bool.and_eq_true] at z h
  have := within_iff.mp z.2.2
  exact ⟨by omega, this.2.1, this.2.2, h.1, h.2⟩
theorem isDrop_facts {ws : List Bytes} (h : isDrop ws = true) : 3 ≤ ws.length ∧ isNumber (itm [] ws 1) = true ∧ isNumber (itm [] ws 2) = true ∧ (ws.length = 3 ∨ (ws.length = 7 ∧ isEvery (ws.drop 3) = true)) := by
  unfold isDrop at h
  split at h
  · cases h
  rename_i z
  simp only [Bool.or_eq_true, Bool.not_eq_true', not_or, Bool.not_eq_false, decide_eq_true_eq] at z h
  refine ⟨by omega, z.2.1, z.2.2, ?_⟩
  rcases h with h | h
  · exact .inl (by omega)
  · refine .inr ⟨?_, h⟩
    unfold isEvery at h
    split at h
    · cases h
    · rename_i y
      simp only [Bool.or_eq_true, Bool.not_eq_true', not_or, Bool.not_eq_false, decide_eq_false_iff_not, Decidable.not_not, List.length_drop] at y
      omega
theorem itm_drop {α : Type} {d : α} (xs : List α) (n : Nat) (i : Int) (h : 0 ≤ i) : itm d (xs.drop n) i = itm d xs (i + n) := by
  unfold itm
  rw [List.getD_eq_getElem?_getD, List.getD_eq_getElem?_getD, List.getElem?_drop]
  congr 2
  omega
theorem every_pos {ws : List Bytes} (h : isEvery (ws.drop 3) = true) : 1 ≤ numberOf (itm [] ws 4) ∧ numberOf (itm [] ws 4) ≤ 999 ∧ 1 ≤ numberOf (itm [] ws 6) ∧ numberOf (itm [] ws 6) ≤ 999 := by
  unfold isEvery at h
  split at h
  · cases h
  · simp only [Bool.and_eq_true] at h
    have a := within_iff.mp h.1
    have b := within_iff.mp h.2
    rw [itm_drop _ _ _ (by omega)] at a b
    exact ⟨a.2.1, a.2.2, b.2.1, b.2.2⟩
end Mir
namespace Mir
/-- lengths of pieces so far -/
def PcOk (n : Nat) (z : List Bytes × Bytes) : Prop := z.1.length ≤ n ∧ (∀ w ∈ z.1, w.length ≤ n) ∧ z.2.length ≤ n
theorem pcOk_fold (b : Int) : ∀ (xs : Bytes) (n : Nat) (z : List Bytes × Bytes), PcOk n z → PcOk (n + xs.length) (xs.foldl (pieces1 b) z)
  | [], n, z, h => h
  | x :: xs, n, z, h => by
    have := pcOk_fold b xs (n + 1) (pieces1 b z x) (by
      obtain ⟨h1, h2, h3⟩ := h
      unfold pieces1
      split
      · refine ⟨by rw [List.length_append]; simp; omega, fun w hw => ?_, by simp⟩
        rcases List.mem_append.mp hw with q | q
        · have := h2 w q
          omega
        · rw [List.mem_singleton] at q
          subst q
          omega
      · exact ⟨by dsimp only; omega, fun w hw => by have := h2 w hw; omega, by rw [List.length_append]; simp; omega⟩)
    rw [List.foldl_cons, List.length_cons]
    have e : n + (xs.length + 1) = n + 1 + xs.length := by omega
    rw [e]
    exact this
theorem pieces_ok (xs : Bytes) (b : Int) : (pieces xs b).length ≤ xs.length + 1 ∧ ∀ w ∈ pieces xs b, w.length ≤ xs.length := by
  have := pcOk_fold b xs 0 ([], []) ⟨by simp, fun w hw => by simp at hw, by simp⟩
  rw [Nat.zero_add] at this
  obtain ⟨h1, h2, h3⟩ := this
  unfold pieces
  dsimp only
  refine ⟨by rw [List.length_append]; simp; omega, fun w hw => ?_⟩
  rcases List.mem_append.mp hw with q | q
  · exact h2 w q
  · rw [List.mem_singleton] at q
    subst q
    exact h3
theorem words_ok (l : Bytes) : (wordsOf l).length ≤ l.length + 1 ∧ ∀ w ∈ wordsOf l, w.length ≤ l.length := by
  have h := pieces_ok l 32
  unfold wordsOf
  exact ⟨Nat.le_trans (List.length_filter_le _ _) h.1, fun w hw => h.2 w (List.mem_filter.mp hw).1⟩
theorem words_nil (l : Bytes) : (wordsOf l).length = 0 ∨ 1 ≤ l.length := by
  cases l with
  | nil => exact .inl rfl
  | cons x r => exact .inr (by simp)
end Mir
end
section
set_option linter.all false
namespace Mir
structure Wbn (n : Nat) (b : BenchS) : Prop where
  h : 1 ≤ b.horizon ∧ b.horizon ≤ 40
  p : b.palette.length ≤ 12
  t : b.target.length ≤ n
  l : b.loaded = true → Wb b.board ∧ Wm b.board b.marbles
theorem Wbn.up {n : Nat} {b : BenchS} (h : Wbn n b) : Wbn (n + 1) b := ⟨h.h, h.p, by have := h.t; omega, h.l⟩
theorem newBench_ok : Wbn 0 newBench := ⟨by decide, by decide, by decide, fun h => by cases h⟩
theorem rings_len {b : Board} {ms : List Pair} {hz : Int} (hb : Wb b) (hm : Wm b ms) (h : hz ≤ 40) : (ringingOf b ms hz).length ≤ 8000 := by
  unfold ringingOf
  rw [sortP_len]
  have := (iterOn_ok (newRun_wf hb hm) hz.toNat).2.1
  have e : Sz (newRun b ms) = 0 := rfl
  unfold Sz at this
  unfold Sz at e
  omega
theorem pairsOut_len (l : List Pair) : (pairsOut l).length = 1 + 2 * l.length := by
  unfold pairsOut
  rw [foldl_app (fun p : Pair => [p.1, p.2]), List.length_append]
  have : ∀ l : List Pair, (l.flatMap fun p => [p.1, p.2]).length = 2 * l.length := fun l => by
    induction l with
    | nil => rfl
    | cons x l ih => rw [List.flatMap_cons, List.length_append, ih, List.length_cons]; simp; omega
  rw [this]
  rfl
theorem positions_len (b : BenchS) (l : List Int) : (positions b l).length = 1 + 2 * l.length := by
  unfold positions
  rw [foldl_app (position b), List.length_append]
  have : ∀ l : List Int, (l.flatMap (position b)).length = 2 * l.length := fun l => by
    induction l with
    | nil => rfl
    | cons x l ih => rw [List.flatMap_cons, List.length_append, ih, List.length_cons]; unfold position; simp; omega
  rw [this]
  rfl
theorem repairs_len (b : BenchS) : (repairs b).length = 1 + 3 * (ownRepairs b).length := by
  unfold repairs
  rw [foldl_app (fun c : Pair => position b c.1 ++ [c.2]), List.length_append]
  have : ∀ l : List Pair, (l.flatMap fun c : Pair => position b c.1 ++ [c.2]).length = 3 * l.length := fun l => by
    induction l with
    | nil => rfl
    | cons x l ih => rw [List.flatMap_cons, List.length_append, ih, List.length_cons]; unfold position; simp; omega
  rw [this]
  rfl
theorem changes_le {b : Board} {pal : List Int} (h : Wb b) (hp : pal.length ≤ 12) : (allChanges b pal).length ≤ 432 := by
  have a := allChanges_len pal b.2.2 0
  have c := h.le
  have d : b.2.2.length * pal.length ≤ 36 * 12 := Nat.mul_le_mul (by omega) hp
  unfold allChanges
  omega
theorem ownRepairs_len {n : Nat} {b : BenchS} (h : Wbn n b) (hl : b.loaded = true) : (ownRepairs b).length ≤ 432 := by
  unfold ownRepairs repairsOf
  exact Nat.le_trans (List.length_filter_le _ _) (changes_le (h.l hl).1 h.p)
theorem ownRepairs_mem {n : Nat} {b : BenchS} (h : Wbn n b) (hl : b.loaded = true) {c : Pair} (hc : c ∈ ownRepairs b) : 0 ≤ c.1 ∧ c.1 < (b.board.2.2.length : Int) := by
  unfold ownRepairs repairsOf at hc
  have := allChanges_mem b.palette b.board.2.2 0 (List.mem_filter.mp hc).1
  exact ⟨this.1, by simpa using this.2.1⟩
theorem idle_len {b : Board} {ms : List Pair} {hz : Int} (h : Wb b) : (idlePlaces b ms hz).length ≤ 36 := by
  unfold idlePlaces
  refine Nat.le_trans (List.length_filter_le _ _) ?_
  rw [notAir_enum, List.length_map]
  refine Nat.le_trans (List.length_filter_le _ _) ?_
  rw [enumL_len]
  have := h.le
  omega
theorem pathOf_len {b : Board} {ms : List Pair} {hz m : Int} (h : hz ≤ 40) : (pathOf b ms hz m).length ≤ 40 := by
  have := path_len m hz.toNat (newRun b ms, [])
  unfold pathOf
  simp at this
  omega
theorem last_mem {d : DraftS} (h : ¬ d.parts.length = 0) : itm airP d.parts ((d.parts.length : Int) - 1) ∈ d.parts := itm_mem (by omega) (by omega)
theorem text_parts {t : Bytes} (h : (readText ⟨[], [], []⟩ t).2.2 = 0) : ¬ (readText ⟨[], [], []⟩ t).1.parts.length = 0 := by
  unfold readText at h ⊢
  dsimp only at h ⊢
  split at h
  · rename_i q
    rw [h] at q
    cases q
  · rename_i q
    rw [if_neg q]
    split at h
    · cases h
    · rename_i q2
      rw [if_neg q2]
      simp only [Bool.or_eq_true, Bool.not_eq_true', decide_eq_true_eq, not_or] at q2
      exact q2.2
theorem load_ok {n : Nat} {b : BenchS} {t : Bytes} (h : Wbn n b) : Wbn n (load b t).1 ∧ (load b t).2.length ≤ 20000 := by
  unfold load
  split
  · exact ⟨h, by simp⟩
  dsimp only
  split
  · exact ⟨h, by simp⟩
  rename_i h1
  split
  · exact ⟨h, by simp⟩
  rename_i h2
  have hz : (readText ⟨[], [], []⟩ t).2.2 = 0 := by simpa using h1
  have hw := readText_ok (t := t) new_ok
  have hpn := text_parts hz
  have hq := hw.ps _ (last_mem hpn)
  have hwb := hq.p.w
  have hhb := hq.p.h
  have hf := hq.f
  refine ⟨⟨by show (1 : Int) ≤ 40 ∧ (40 : Int) ≤ 40; decide, by show 3 ≤ 12; decide, by simp, fun _ => ⟨⟨hwb.1, hhb.1, by simp at h2; omega, hf⟩, ⟨hw.ml, fun m hm => hw.mc m hm⟩⟩⟩, by simp⟩
theorem wantRing_ok {n : Nat} {b : BenchS} {t m : Int} (h : Wbn n b) : Wbn (n + 1) (wantRing b t m).1 ∧ (wantRing b t m).2.length ≤ 20000 := by
  unfold wantRing
  split
  · exact ⟨h.up, by simp⟩
  split
  · exact ⟨h.up, by simp⟩
  · exact ⟨⟨h.h, h.p, by dsimp only; rw [List.length_append]; have := h.t; simp; omega, h.l⟩, by simp⟩
theorem setPalette_ok {n : Nat} {b : BenchS} {ss : List Int} (h : Wbn n b) : Wbn n (setPalette b ss).1 ∧ (setPalette b ss).2.length ≤ 20000 := by
  unfold setPalette
  split
  · exact ⟨h, by simp⟩
  rename_i h1
  split
  · exact ⟨h, by simp⟩
  · simp only [Bool.or_eq_true, decide_eq_true_eq, not_or] at h1
    exact ⟨⟨h.h, by dsimp only; omega, h.t, h.l⟩, by simp⟩
theorem setHorizon_ok {n : Nat} {b : BenchS} {t : Int} (h : Wbn n b) : Wbn n (setHorizon b t).1 ∧ (setHorizon b t).2.length ≤ 20000 := by
  unfold setHorizon
  split
  · exact ⟨h, by simp⟩
  · rename_i h1
    simp only [Bool.or_eq_true, decide_eq_true_eq, not_or] at h1
    exact ⟨⟨⟨by dsimp only; omega, by dsimp only; omega⟩, h.p, h.t, h.l⟩, by simp⟩
theorem clearTarget_ok {n : Nat} {b : BenchS} (h : Wbn n b) : Wbn n (clearTarget b).1 ∧ (clearTarget b).2.length ≤ 20000 := ⟨⟨h.h, h.p, by simp [clearTarget], h.l⟩, by simp [clearTarget]⟩
theorem applyRepair_ok {n : Nat} {b : BenchS} {i : Int} (h : Wbn n b) (hl : b.loaded = true) : Wbn n (applyRepair b i).1 ∧ (applyRepair b i).2.length ≤ 20000 := by
  unfold applyRepair
  split
  · exact ⟨h, by simp⟩
  · rename_i h1
    simp only [Bool.or_eq_true, decide_eq_true_eq, not_or] at h1
    have hm := ownRepairs_mem h hl (itm_mem (d := ((0, 0) : Pair)) (xs := ownRepairs b) (i := i) (by omega) (by omega))
    exact ⟨⟨h.h, h.p, h.t, fun _ => ⟨wb_changed (h.l hl).1 hm.1 hm.2, wm_changed (h.l hl).2⟩⟩, by simp [position]⟩
theorem setOrTell_ok {n : Nat} {b : BenchS} {k : Int} {ns : List Int} (h : Wbn n b) (hl : b.loaded = true) : Wbn (n + 1) (setOrTell b k ns).1 ∧ (setOrTell b k ns).2.length ≤ 20000 := by
  unfold setOrTell
  split
  · exact ⟨(setPalette_ok h).1.up, (setPalette_ok h).2⟩
  split
  · exact ⟨(setHorizon_ok h).1.up, (setHorizon_ok h).2⟩
  split
  · exact wantRing_ok h
  split
  · exact ⟨(clearTarget_ok h).1.up, (clearTarget_ok h).2⟩
  · refine ⟨h.up, ?_⟩
    dsimp only
    split
    · unfold ringing
      rw [pairsOut_len]
      have : (ownRinging b).length ≤ 8000 := rings_len (h.l hl).1 (h.l hl).2 h.h.2
      omega
    · unfold meetsTarget
      split <;> simp
theorem answered_ok {n : Nat} {b : BenchS} {k : Int} {ns : List Int} (h : Wbn n b) : Wbn (n + 1) (answered b k ns).1 ∧ (answered b k ns).2.length ≤ 20000 := by
  unfold answered
  split
  · exact ⟨(load_ok h).1.up, (load_ok h).2⟩
  split
  · exact ⟨h.up, by simp⟩
  rename_i hl
  have hl : b.loaded = true := by simpa using hl
  split
  · exact setOrTell_ok h hl
  split
  · refine ⟨h.up, ?_⟩
    dsimp only
    rw [repairs_len]
    have := ownRepairs_len h hl
    omega
  split
  · refine ⟨h.up, ?_⟩
    dsimp only
    unfold idleCells
    rw [positions_len]
    have := idle_len (ms := b.marbles) (hz := b.horizon) (h.l hl).1
    omega
  split
  · exact ⟨h.up, by simp [countChanges]⟩
  split
  · exact ⟨(applyRepair_ok h hl).1.up, (applyRepair_ok h hl).2⟩
  · refine ⟨h.up, ?_⟩
    dsimp only
    split
    · unfold tellBoard
      have := (h.l hl).1.le
      simp
      omega
    · unfold path
      split
      · simp
      · rw [positions_len]
        have := pathOf_len (b := b.board) (ms := b.marbles) (m := itm 0 ns 0) h.h.2
        omega
/-- the keys of a dict of signs -/
def addNew (acc : List Int) (x : Int) : List Int := if acc.contains x then acc else acc ++ [x]
theorem firsts_fold : ∀ (xs acc : List Int), firsts acc xs = xs.foldl addNew acc
  | [], _ => rfl
  | x :: xs, acc => firsts_fold xs _
end Mir
namespace Mir
/-- how many numbers a call needs -/
def Ar (n : Int) (ns : List Int) : Prop := (n = 3 → 1 ≤ ns.length) ∧ (n = 4 → 2 ≤ ns.length) ∧ (n = 11 → 1 ≤ ns.length) ∧ (12 < n → 1 ≤ ns.length)
/-- the calls' list can be walked -/
def segs : Nat → List Int → Int → Bool
  | 0, cs, a => !decide (a < (cs.length : Int))
  | f + 1, cs, a => if decide (a < (cs.length : Int)) then (decide (a + 1 < (cs.length : Int)) && decide (0 ≤ itm 0 cs (a + 1))) && segs f cs (a + itm 0 cs (a + 1) + 3) else true
structure Asked (cs : List Int) : Prop where
  l : cs.length ≤ 20000
  s : segs cs.length cs 0 = true
  n : (splitCalls cs.length cs 0 []).length ≤ 20
  a : ∀ c ∈ splitCalls cs.length cs 0 [], Ar c.1 c.2 ∧ c.2.length ≤ 20000
theorem fold_answers : ∀ (l : List (Int × List Int)) (n : Nat) (s : BenchS × List Int), Wbn n s.1 → Wbn (n + l.length) (l.foldl answers1 s).1 ∧ (l.foldl answers1 s).2.length ≤ s.2.length + 20001 * l.length
  | [], n, s, h => ⟨h, by simp⟩
  | c :: l, n, s, h => by
    have z := answered_ok (k := c.1) (ns := c.2) h
    have y := fold_answers l (n + 1) (answers1 s c) z.1
    rw [List.foldl_cons, List.length_cons]
    have e : n + (l.length + 1) = n + 1 + l.length := by omega
    rw [e]
    refine ⟨y.1, Nat.le_trans y.2 ?_⟩
    unfold answers1
    dsimp only
    rw [List.length_append, List.length_append, List.length_singleton]
    omega
end Mir
end
section
set_option Elab.async false
set_option linter.all false
set_option maxRecDepth 100000
set_option maxHeartbeats 4000000
/-! Ck1: a small calculus over the hand layer: weakest readings (WE, WT, WA, WS, WSs), worlds (a still part G of the tracked heap H), represented values (SR), judgements (JR, JT, JA), contracts (Ct). -/
namespace Ck
open PySem PySem.Spec PyProof.Rows L2

/-! ### worlds: G is the part of the tracked heap H that never changes -/
structure Gw (G H G' H' : Hp) : Prop where
  g : Same G G'
  h : Same H H'
  s : Same G' H'
  f : ∀ a o, G' a = some o → G a = some o ∨ H a = none
section
variable {G H G' H' G2 H2 : Hp} {p : Addr} {o : HO}
theorem Gw.refl (s : Same G H) : Gw G H G H := ⟨Same.refl _, Same.refl _, s, fun _ _ e => .inl e⟩
theorem Gw.t (a : Gw G H G' H') (b : Gw G' H' G2 H2) : Gw G H G2 H2 :=
  ⟨a.g.trans b.g, a.h.trans b.h, b.s, fun x o e => by
    rcases b.f x o e with e | e
    · exact a.f x o e
    · exact .inr (a.h.free e)⟩
theorem Gw.s0 (a : Gw G H G' H') : Same G H' := a.g.trans a.s
/-- the new still things forgotten -/
theorem Gw.keep (a : Gw G H G' H') : Gw G H G H' := ⟨Same.refl _, a.h, a.s0, fun _ _ e => .inl e⟩
theorem Same.new (h : H p = none) : Same H (upd H p o) := fun a u e => by
  rw [upd_ne (ne_of_none e h)]
  exact e
theorem Gw.new (s : Same G H) (h : H p = none) : Gw G H (upd G p o) (upd H p o) := by
  have hg : G p = none := s.free h
  refine ⟨Same.new hg, Same.new h, fun a u e => ?_, fun a u e => ?_⟩
  · by_cases q : a = p
    · subst q
      rw [upd_same] at e ⊢
      exact e
    · rw [upd_ne q] at e ⊢
      exact s a u e
  · by_cases q : a = p
    · subst q
      exact .inr h
    · rw [upd_ne q] at e
      exact .inl e
theorem Gw.mut (s : Same G H) (h : H p = none) : Gw G H G (upd H p o) :=
  ⟨Same.refl _, Same.new h, s.trans (Same.new h), fun _ _ e => .inl e⟩
/-- what is tracked but not still stays not still -/
theorem Gw.out (a : Gw G H G' H') (hg : G p = none) (hh : H p = some o) : G' p = none := by
  cases q : G' p with
  | none => rfl
  | some u =>
    rcases a.f p u q with e | e
    · rw [hg] at e
      cases e
    · rw [hh] at e
      cases e
end

/-! ### represented values -/
structure SR (α : Type) where
  r : Hp → V → α → Prop
  m : ∀ {G G' : Hp} {v : V} {x : α}, Same G G' → r G v x → r G' v x
theorem pm {α β : Type} {F F' : α → β → Prop} (h : ∀ a b, F a b → F' a b) : ∀ {l : List α} {l' : List β}, Paired F l l' → Paired F' l l'
  | _, _, .nil => .nil
  | _, _, .cons a b => .cons (h _ _ a) (pm h b)
def rInt : SR Int := ⟨fun _ v i => v = .int i, fun _ h => h⟩
def rBool : SR Bool := ⟨fun _ v i => v = .bl i, fun _ h => h⟩
def rNon : SR Unit := ⟨fun _ v _ => v = .non, fun _ h => h⟩
def rStr : SR Str := ⟨fun _ v i => v = .str i, fun _ h => h⟩
/-- a value as it is -/
def rV : SR V := ⟨fun _ v w => v = w, fun _ h => h⟩
def rL {α : Type} (R : SR α) : SR (List α) := ⟨fun G v xs => ∃ a vs, v = .ref a ∧ G a = some (.lst vs) ∧ Paired (R.r G) vs xs,
  fun e ⟨a, vs, h1, h2, h3⟩ => ⟨a, vs, h1, e _ _ h2, pm (fun _ _ z => R.m e z) h3⟩⟩
/-- a list to be read, wherever it stands -/
def rQ {α : Type} (K : PySem.W.Frag) (R : SR α) : SR (List α) := ⟨fun G v xs => ∃ a vs, v = .ref a ∧ SqL K G a vs ∧ Paired (R.r G) vs xs,
  fun e ⟨a, vs, h1, h2, h3⟩ => ⟨a, vs, h1, e.seq h2, pm (fun _ _ z => R.m e z) h3⟩⟩
def rT2 {α β : Type} (R : SR α) (S : SR β) : SR (α × β) := ⟨fun G v x => ∃ a u w, v = .ref a ∧ G a = some (.tup [u, w]) ∧ R.r G u x.1 ∧ S.r G w x.2,
  fun e ⟨a, u, w, h1, h2, h3, h4⟩ => ⟨a, u, w, h1, e _ _ h2, R.m e h3, S.m e h4⟩⟩
def rT3 {α β γ : Type} (R : SR α) (S : SR β) (T : SR γ) : SR (α × β × γ) := ⟨fun G v x => ∃ a u w z, v = .ref a ∧ G a = some (.tup [u, w, z]) ∧ R.r G u x.1 ∧ S.r G w x.2.1 ∧ T.r G z x.2.2,
  fun e ⟨a, u, w, z, h1, h2, h3, h4, h5⟩ => ⟨a, u, w, z, h1, e _ _ h2, R.m e h3, S.m e h4, T.m e h5⟩⟩
theorem rL.q {α : Type} {R : SR α} {K : PySem.W.Frag} {G : Hp} {v : V} {xs : List α} (h : (rL R).r G v xs) : (rQ K R).r G v xs :=
  let ⟨a, vs, h1, h2, h3⟩ := h
  ⟨a, vs, h1, SqL.of h2, h3⟩
theorem Paired.len {α β : Type} {F : α → β → Prop} : ∀ {l : List α} {l' : List β}, Paired F l l' → l.length = l'.length
  | _, _, .nil => rfl
  | _, _, .cons _ b => by rw [List.length_cons, List.length_cons, Paired.len b]
theorem Paired.get {α β : Type} {F : α → β → Prop} : ∀ {l : List α} {l' : List β} {i : Nat} {y : β}, Paired F l l' → l'[i]? = some y → ∃ x, l[i]? = some x ∧ F x y
  | _, _, _, _, .nil, e => by simp at e
  | _, _, 0, _, .cons r _, e => by simp at e; subst e; exact ⟨_, rfl, r⟩
  | _, _, i + 1, y, .cons _ t, e => by
    obtain ⟨u, h1, h2⟩ := Paired.get (i := i) (y := y) t (by simpa using e)
    exact ⟨u, by simpa using h1, h2⟩
theorem Paired.get' {α β : Type} {F : α → β → Prop} : ∀ {l : List α} {l' : List β} {i : Nat} {x : α}, Paired F l l' → l[i]? = some x → ∃ y, l'[i]? = some y ∧ F x y
  | _, _, _, _, .nil, e => by simp at e
  | _, _, 0, _, .cons r _, e => by simp at e; subst e; exact ⟨_, rfl, r⟩
  | _, _, i + 1, y, .cons _ t, e => by
    obtain ⟨u, h1, h2⟩ := Paired.get' (i := i) (x := y) t (by simpa using e)
    exact ⟨u, by simpa using h1, h2⟩
theorem Paired.app {α β : Type} {F : α → β → Prop} : ∀ {l m : List α} {l' m' : List β}, Paired F l l' → Paired F m m' → Paired F (l ++ m) (l' ++ m')
  | _, _, _, _, .nil, s => s
  | _, _, _, _, .cons r t, s => .cons r (Paired.app t s)
theorem Paired.takeP {α β : Type} {F : α → β → Prop} : ∀ {l : List α} {l' : List β} (n : Nat), Paired F l l' → Paired F (l.take n) (l'.take n)
  | _, _, 0, _ => .nil
  | _, _, _ + 1, .nil => .nil
  | _, _, n + 1, .cons r t => .cons r (Paired.takeP n t)
theorem Paired.dropP {α β : Type} {F : α → β → Prop} : ∀ {l : List α} {l' : List β} (n : Nat), Paired F l l' → Paired F (l.drop n) (l'.drop n)
  | _, _, 0, r => r
  | _, _, _ + 1, .nil => .nil
  | _, _, n + 1, .cons _ t => Paired.dropP n t
theorem Paired.rev {α β : Type} {F : α → β → Prop} : ∀ {l : List α} {l' : List β}, Paired F l l' → Paired F l.reverse l'.reverse
  | _, _, .nil => .nil
  | _, _, .cons r t => by
    rw [List.reverse_cons, List.reverse_cons]
    exact Paired.app (Paired.rev t) (.cons r .nil)
theorem Paired.setP {α β : Type} {F : α → β → Prop} {x : α} {y : β} (h : F x y) : ∀ {l : List α} {l' : List β} (n : Nat), Paired F l l' → Paired F (l.set n x) (l'.set n y)
  | _, _, _, .nil => .nil
  | _, _, 0, .cons _ t => .cons h t
  | _, _, n + 1, .cons r t => .cons r (Paired.setP h n t)
theorem paired_ints {G : Hp} : ∀ {vs : List V} {xs : List Int}, Paired (rInt.r G) vs xs → vs = xs.map V.int
  | _, _, .nil => rfl
  | _, _, .cons r t => by
    cases r
    rw [paired_ints t]
    rfl
theorem ints_paired {G : Hp} : ∀ (xs : List Int), Paired (rInt.r G) (xs.map V.int) xs
  | [] => .nil
  | x :: r => .cons rfl (ints_paired r)
theorem paired_bools {G : Hp} : ∀ {vs : List V} {xs : List Bool}, Paired (rBool.r G) vs xs → vs = xs.map V.bl
  | _, _, .nil => rfl
  | _, _, .cons r t => by
    cases r
    rw [paired_bools t]
    rfl

/-! ### argument lists -/
structure AR (α : Type) where
  r : Hp → List V → α → Prop
  m : ∀ {G G' : Hp} {v : List V} {x : α}, Same G G' → r G v x → r G' v x
  n : Nat
  len : ∀ {G : Hp} {v : List V} {x : α}, r G v x → v.length = n
def aNil : AR Unit := ⟨fun _ vs _ => vs = [], fun _ h => h, 0, fun h => by rw [h]; rfl⟩
def aCons {α β : Type} (R : SR α) (A : AR β) : AR (α × β) := ⟨fun G vs x => ∃ v ws, vs = v :: ws ∧ R.r G v x.1 ∧ A.r G ws x.2,
  fun e ⟨v, ws, h1, h2, h3⟩ => ⟨v, ws, h1, R.m e h2, A.m e h3⟩, A.n + 1, fun ⟨v, ws, h1, h2, h3⟩ => by rw [h1, List.length_cons, A.len h3]⟩
abbrev a1 {α : Type} (R : SR α) : AR (α × Unit) := aCons R aNil
abbrev a2 {α β : Type} (R : SR α) (S : SR β) : AR (α × β × Unit) := aCons R (aCons S aNil)
abbrev a3 {α β γ : Type} (R : SR α) (S : SR β) (T : SR γ) : AR (α × β × γ × Unit) := aCons R (aCons S (aCons T aNil))
abbrev a4 {α β γ δ : Type} (R : SR α) (S : SR β) (T : SR γ) (U : SR δ) : AR (α × β × γ × δ × Unit) := aCons R (aCons S (aCons T (aCons U aNil)))
abbrev a5 {α β γ δ ε : Type} (R : SR α) (S : SR β) (T : SR γ) (U : SR δ) (W : SR ε) : AR (α × β × γ × δ × ε × Unit) := aCons R (aCons S (aCons T (aCons U (aCons W aNil))))

/-! ### weakest readings -/
def WE (X : Cx) (e : Expr) : TE := fun σ H Q => ∀ (pins : List (Addr × Obj)) (s : Shared), Inv X pins σ H s → wpAny (model X.prog X.w) X.A (eval e X.env) (EP X pins σ Q) X.xe s
def WT (X : Cx) (e : Expr) : TT := fun σ H Q => ∀ (pins : List (Addr × Obj)) (s : Shared), Inv X pins σ H s → wpAny (model X.prog X.w) X.A (isTrue e X.env (eval e X.env)) (TP X pins σ Q) X.xe s
def WW (X : Cx) (e : Expr) : TT := fun σ H Q => ∀ (whole : Sem Value) (pins : List (Addr × Obj)) (s : Shared), Inv X pins σ H s → wpAny (model X.prog X.w) X.A (isTrue e X.env whole) (TP X pins σ Q) X.xe s
def WA (X : Cx) (es : List Expr) : TA := fun σ H Q => ∀ (pos : Pos) (pins : List (Addr × Obj)) (s : Shared), Inv X pins σ H s → wpAny (model X.prog X.w) X.A (spliced (backTo pos (starEach es X.env))) (AP X pins σ Q) X.xe s
def WS (X : Cx) (st : Stmt) : TS := fun D σ H => ∀ (pins : List (Addr × Obj)) (s : Shared), Inv X pins σ H s → wpAny (model X.prog X.w) X.A (exec st X.env) (SP X pins D) X.xe s
def WSs (X : Cx) (st : List Stmt) : TS := fun D σ H => ∀ (pins : List (Addr × Obj)) (s : Shared), Inv X pins σ H s → wpAny (model X.prog X.w) X.A (execs st X.env) (SP X pins D) X.xe s
section
variable {X : Cx} {e : Expr} {es : List Expr} {st : Stmt} {sts rest : List Stmt} {σ : L2.St} {H : Hp} {D : Ends}
theorem pe_w : PE X e (WE X e) := ⟨fun pins s _ _ _ I h => h pins s I⟩
theorem pt_w : PT X e (WT X e) := ⟨fun pins s _ _ _ I h => h pins s I⟩
theorem pw_w : PW X e (WW X e) := ⟨fun wh pins s _ _ _ I h => h wh pins s I⟩
theorem pa_w : PA X es (WA X es) := ⟨fun pos pins s _ _ _ I h => h pos pins s I⟩
theorem ps_w : PS X st (WS X st) := ⟨fun pins s _ _ _ I h => h pins s I⟩
theorem pss_w : PSs X sts (WSs X sts) := ⟨fun pins s _ _ _ I h => h pins s I⟩
theorem WE.of {t : TE} {Q : VK} (p : PE X e t) (h : t σ H Q) : WE X e σ H Q := fun pins s I => p.run pins s σ H Q I h
theorem WT.of {t : TT} {Q : Bool → Hp → Prop} (p : PT X e t) (h : t σ H Q) : WT X e σ H Q := fun pins s I => p.run pins s σ H Q I h
theorem WW.of {t : TT} {Q : Bool → Hp → Prop} (p : PW X e t) (h : t σ H Q) : WW X e σ H Q := fun wh pins s I => p.run wh pins s σ H Q I h
theorem WA.of {t : TA} {Q : List V → Hp → Prop} (p : PA X es t) (h : t σ H Q) : WA X es σ H Q := fun pos pins s I => p.run pos pins s σ H Q I h
theorem WS.of {t : TS} (p : PS X st t) (h : t D σ H) : WS X st D σ H := fun pins s I => p.run pins s σ H D I h
theorem WSs.of {t : TS} (p : PSs X sts t) (h : t D σ H) : WSs X sts D σ H := fun pins s I => p.run pins s σ H D I h
/-- a statement, then the rest -/
theorem WSs.cons {t : TS} (p : PS X st t) (h : t { D with nx := fun σ' H' => WSs X rest D σ' H' } σ H) : WSs X (st :: rest) D σ H := WSs.of (pss_cons p pss_w) h
theorem WSs.nil (h : D.nx σ H) : WSs X [] D σ H := WSs.of pss_nil h
end

/-! ### judgements -/
def JR {α : Type} (X : Cx) (σ : L2.St) (G H : Hp) (e : Expr) (R : SR α) (x : α) : Prop :=
  ∀ G0 H0, Gw G H G0 H0 → ∀ Q : VK, (∀ v G' H', Gw G0 H0 G' H' → R.r G' v x → Q v H') → WE X e σ H0 Q
def JT (X : Cx) (σ : L2.St) (G H : Hp) (e : Expr) (b : Bool) : Prop :=
  ∀ G0 H0, Gw G H G0 H0 → ∀ Q : Bool → Hp → Prop, (∀ H', Gw G0 H0 G0 H' → Q b H') → WT X e σ H0 Q
def JW (X : Cx) (σ : L2.St) (G H : Hp) (e : Expr) (b : Bool) : Prop :=
  ∀ G0 H0, Gw G H G0 H0 → ∀ Q : Bool → Hp → Prop, (∀ H', Gw G0 H0 G0 H' → Q b H') → WW X e σ H0 Q
def JA {α : Type} (X : Cx) (σ : L2.St) (G H : Hp) (es : List Expr) (A : AR α) (x : α) : Prop :=
  ∀ G0 H0, Gw G H G0 H0 → ∀ Q : List V → Hp → Prop, (∀ vs G' H', Gw G0 H0 G' H' → A.r G' vs x → Q vs H') → WA X es σ H0 Q
section
variable {X : Cx} {σ : L2.St} {G H G1 H1 : Hp} {e a b c : Expr} {es : List Expr} {pos : Pos} {α β γ : Type} {R : SR α} {S : SR β} {T : SR γ} {x : α} {y : β} {z : γ}
theorem JR.mono (j : JR X σ G H e R x) (w : Gw G H G1 H1) : JR X σ G1 H1 e R x := fun G0 H0 w0 => j G0 H0 (w.t w0)
theorem JT.mono {b : Bool} (j : JT X σ G H e b) (w : Gw G H G1 H1) : JT X σ G1 H1 e b := fun G0 H0 w0 => j G0 H0 (w.t w0)
theorem JA.mono {A : AR α} (j : JA X σ G H es A x) (w : Gw G H G1 H1) : JA X σ G1 H1 es A x := fun G0 H0 w0 => j G0 H0 (w.t w0)
theorem JR.eq {x' : α} (j : JR X σ G H e R x) (h : x = x') : JR X σ G H e R x' := h ▸ j
theorem JT.eq {b b' : Bool} (j : JT X σ G H e b) (h : b = b') : JT X σ G H e b' := h ▸ j
theorem JR.to {S : SR β} (j : JR X σ G H e R x) (h : ∀ G' v, Same G G' → R.r G' v x → S.r G' v y) : JR X σ G H e S y := fun G0 H0 w0 Q k =>
  j G0 H0 w0 Q fun v G' H' w hv => k v G' H' w (h G' v (w0.g.trans w.g) hv)
theorem JR.q {xs : List α} {K : PySem.W.Frag} (j : JR X σ G H e (rL R) xs) : JR X σ G H e (rQ K R) xs := j.to fun _ _ _ h => rL.q h

/-- an operator or a comparison on two values -/
theorem je_op2 {r : R2} (p : ∀ {ta tb : TE}, PE X a ta → PE X b tb → PE X e (tOp r ta tb)) (ha : JR X σ G H a R x) (hb : JR X σ G H b S y)
    (hr : ∀ v w G' H', Gw G H G' H' → R.r G' v x → S.r G' w y → ∀ Q : VK, (∀ u G2 H2, Gw G' H' G2 H2 → T.r G2 u z → Q u H2) → r v w H' Q) : JR X σ G H e T z := fun G0 H0 w0 Q k => by
  refine WE.of (p pe_w pe_w) ?_
  refine ha G0 H0 w0 _ fun v G1 H1 w1 hv => ?_
  refine hb G1 H1 (w0.t w1) _ fun w G2 H2 w2 hw => ?_
  exact hr v w G2 H2 ((w0.t w1).t w2) (R.m w2.g hv) hw Q fun u G3 H3 w3 hu => k u G3 H3 ((w1.t w2).t w3) hu
/-! names, constants -/
theorem je_v (i : Nat) {n : Str} {v : V} (hs : σ[i]? = some (some v)) (h : R.r G v x) (hN : X.N[i]? = some n := by rfl)
    (hv : Vis X.env.scope n := by first | exact Or.inl rfl | exact Or.inr (Or.inl rfl) | exact Or.inr (Or.inr rfl)) (hd : (n == ("__debug__" : Str)) = false := by decide)
    (hcd : (n == ("__classdict__" : Str)) = false := by decide) : JR X σ G H (.Name n pos) R x := fun G0 H0 w0 Q k =>
  WE.of (pe_var hN hv hd hcd) ⟨v, hs, k v G0 H0 (Gw.refl w0.s) (R.m w0.g h)⟩
theorem je_vI (i : Nat) {n : Str} {z : Int} (hs : σ[i]? = some (some (.int z))) (hN : X.N[i]? = some n := by rfl)
    (hv : Vis X.env.scope n := by first | exact Or.inl rfl | exact Or.inr (Or.inl rfl) | exact Or.inr (Or.inr rfl)) (hd : (n == ("__debug__" : Str)) = false := by decide)
    (hcd : (n == ("__classdict__" : Str)) = false := by decide) : JR X σ G H (.Name n pos) rInt z := je_v (R := rInt) i hs rfl hN hv hd hcd
theorem je_vB (i : Nat) {n : Str} {z : Bool} (hs : σ[i]? = some (some (.bl z))) (hN : X.N[i]? = some n := by rfl)
    (hv : Vis X.env.scope n := by first | exact Or.inl rfl | exact Or.inr (Or.inl rfl) | exact Or.inr (Or.inr rfl)) (hd : (n == ("__debug__" : Str)) = false := by decide)
    (hcd : (n == ("__classdict__" : Str)) = false := by decide) : JR X σ G H (.Name n pos) rBool z := je_v (R := rBool) i hs rfl hN hv hd hcd
theorem je_vS (i : Nat) {n : Str} {z : Str} (hs : σ[i]? = some (some (.str z))) (hN : X.N[i]? = some n := by rfl)
    (hv : Vis X.env.scope n := by first | exact Or.inl rfl | exact Or.inr (Or.inl rfl) | exact Or.inr (Or.inr rfl)) (hd : (n == ("__debug__" : Str)) = false := by decide)
    (hcd : (n == ("__classdict__" : Str)) = false := by decide) : JR X σ G H (.Name n pos) rStr z := je_v (R := rStr) i hs rfl hN hv hd hcd
/-- an object, by its place -/
theorem je_vO (i : Nat) {n : Str} {z : V} (hs : σ[i]? = some (some z)) (hN : X.N[i]? = some n := by rfl)
    (hv : Vis X.env.scope n := by first | exact Or.inl rfl | exact Or.inr (Or.inl rfl) | exact Or.inr (Or.inr rfl)) (hd : (n == ("__debug__" : Str)) = false := by decide)
    (hcd : (n == ("__classdict__" : Str)) = false := by decide) : JR X σ G H (.Name n pos) rV z := je_v (R := rV) i hs rfl hN hv hd hcd
theorem je_int {i : Int} {j : Nat} : JR X σ G H (.Constant (.int i) j pos) rInt i := fun G0 H0 w0 Q k => WE.of pe_int (k _ G0 H0 (Gw.refl w0.s) rfl)
theorem je_bl {i : Bool} {j : Nat} : JR X σ G H (.Constant (.bool i) j pos) rBool i := fun G0 H0 w0 Q k => WE.of pe_bl (k _ G0 H0 (Gw.refl w0.s) rfl)
theorem je_non {j : Nat} : JR X σ G H (.Constant .none j pos) rNon () := fun G0 H0 w0 Q k => WE.of pe_non (k _ G0 H0 (Gw.refl w0.s) rfl)
theorem je_str {i : Str} {j : Nat} : JR X σ G H (.Constant (.str i) j pos) rStr i := fun G0 H0 w0 Q k => WE.of pe_str (k _ G0 H0 (Gw.refl w0.s) rfl)
theorem je_gi {n : Str} {i : Int} (hm : ∃ t, X.mg n = some (.int i t)) (hg : Gl X n := by rfl) (hd : (n == ("__debug__" : Str)) = false := by decide) : JR X σ G H (.Name n pos) rInt i := fun G0 H0 w0 Q k =>
  let ⟨t, h⟩ := hm
  WE.of (pe_glob hg h (v := .int i) ⟨t, rfl⟩ hd) (k _ G0 H0 (Gw.refl w0.s) rfl)
/-! ints -/
theorem je_bI {op : Operator} {f : Int → Int → Int} (ho : OpR X (binaryOp op) (rI0 fun i j => .int (f i j))) {i j : Int} (ha : JR X σ G H a rInt i) (hb : JR X σ G H b rInt j) : JR X σ G H (.BinOp a op b pos) rInt (f i j) :=
  je_op2 (fun h1 h2 => pe_op ho h1 h2) ha hb (by rintro v w G' H' w' rfl rfl Q k; exact ⟨_, _, rfl, rfl, k _ G' H' (Gw.refl w'.s) rfl⟩)
theorem je_bIC {op : Operator} {C : Int → Int → Prop} {f : Int → Int → Int} (ho : OpR X (binaryOp op) (rI C fun i j => .int (f i j))) {i j : Int} (ha : JR X σ G H a rInt i) (hb : JR X σ G H b rInt j) (hc : C i j) : JR X σ G H (.BinOp a op b pos) rInt (f i j) :=
  je_op2 (fun h1 h2 => pe_op ho h1 h2) ha hb (by rintro v w G' H' w' rfl rfl Q k; exact ⟨_, _, rfl, rfl, hc, k _ G' H' (Gw.refl w'.s) rfl⟩)
theorem je_add {i j : Int} (ha : JR X σ G H a rInt i) (hb : JR X σ G H b rInt j) : JR X σ G H (.BinOp a .Add b pos) rInt (i + j) := je_bI op_add ha hb
theorem je_sub {i j : Int} (ha : JR X σ G H a rInt i) (hb : JR X σ G H b rInt j) : JR X σ G H (.BinOp a .Sub b pos) rInt (i - j) := je_bI op_sub ha hb
theorem je_mul {i j : Int} (ha : JR X σ G H a rInt i) (hb : JR X σ G H b rInt j) (hc : (-1000000000000000000 < i ∧ i < 1000000000000000000) ∨ (-1000000000000000000 < j ∧ j < 1000000000000000000)) : JR X σ G H (.BinOp a .Mult b pos) rInt (i * j) := je_bIC op_mul ha hb (by unfold CMul; omega)
theorem je_mod {i j : Int} (ha : JR X σ G H a rInt i) (hb : JR X σ G H b rInt j) (hc : 0 < j) : JR X σ G H (.BinOp a .Mod b pos) rInt (i % j) := je_bIC (C := fun _ j => 0 < j) op_mod ha hb hc
theorem je_div {i j : Int} (ha : JR X σ G H a rInt i) (hb : JR X σ G H b rInt j) (hc : 0 < j ∧ j < 1073741824) : JR X σ G H (.BinOp a .FloorDiv b pos) rInt (i / j) := je_bIC op_fdiv ha hb hc
theorem je_neg {i : Int} (ha : JR X σ G H a rInt i) : JR X σ G H (.UnaryOp .USub a pos) rInt (-i) := fun G0 H0 w0 Q k => by
  refine WE.of (pe_un un_neg pe_w) ?_
  refine ha G0 H0 w0 _ fun v G1 H1 w1 hv => ?_
  exact ⟨_, hv, k _ G1 H1 w1 rfl⟩
/-! comparisons -/
/-- a comparison, as its parts run -/
structure JC (X : Cx) (σ : L2.St) (G H : Hp) (op : CmpOp) (a b : Expr) (z : Bool) : Prop where
  hm : behindInMarks op b = false
  run : ∀ G0 H0, Gw G H G0 H0 → ∀ Q : Bool → Hp → Prop, (∀ H', Gw G0 H0 G0 H' → Q z H') → ∀ (pins : List (Addr × Obj)) (s : Shared), Inv X pins σ H0 s →
    wpAny (model X.prog X.w) X.A (eval a X.env) (fun v s₁ => wpAny (model X.prog X.w) X.A (eval b X.env) (fun u s₂ => wpAny (model X.prog X.w) X.A (compareOp op v u) (EP X pins σ fun x H1 => ∃ k, x = .bl k ∧ Q k H1) X.xe s₂) X.xe s₁) X.xe s
def WC (X : Cx) (op : CmpOp) (a b : Expr) : TE := fun σ H Q => ∀ (pins : List (Addr × Obj)) (s : Shared), Inv X pins σ H s →
    wpAny (model X.prog X.w) X.A (eval a X.env) (fun v s₁ => wpAny (model X.prog X.w) X.A (eval b X.env) (fun u s₂ => wpAny (model X.prog X.w) X.A (compareOp op v u) (EP X pins σ Q) X.xe s₂) X.xe s₁) X.xe s
theorem pc_w {op : CmpOp} : PC X op a b (WC X op a b) := ⟨fun pins s _ _ _ I h => h pins s I⟩
theorem JC.eq {op : CmpOp} {z z' : Bool} (j : JC X σ G H op a b z) (h : z = z') : JC X σ G H op a b z' := h ▸ j
theorem je_c {op : CmpOp} {z : Bool} (j : JC X σ G H op a b z) : JR X σ G H (.Compare a [op] [b] pos) rBool z := fun G0 H0 w0 Q k =>
  WE.of (pe_cmp pc_w j.hm) (show WC X op a b σ H0 Q from fun pins s I => thn (j.run G0 H0 w0 (fun z H' => Q (.bl z) H') (fun H' w => k _ G0 H' w rfl) pins s I) fun v s1 h1 => thn h1 fun u s2 h2 => thn h2 fun c s3 ⟨x, H1, I1, r1, q, e, hq⟩ => ⟨x, H1, I1, r1, by rw [e]; exact hq⟩)
theorem jt_c {op : CmpOp} {z : Bool} (j : JC X σ G H op a b z) : JT X σ G H (.Compare a [op] [b] pos) z := fun G0 H0 w0 Q k =>
  WT.of (pt_cmp pc_w j.hm) (show WC X op a b σ H0 _ from j.run G0 H0 w0 Q k)
/-- from a rule on two values -/
theorem jc_op2 {op : CmpOp} {r : R2} {z : Bool} (ho : OpR X (compareOp op) r) (hm : behindInMarks op b = false) (ha : JR X σ G H a R x) (hb : JR X σ G H b S y)
    (hr : ∀ v w G' H', Gw G H G' H' → R.r G' v x → S.r G' w y → ∀ Q : VK, (∀ H2, Gw G' H' G' H2 → Q (.bl z) H2) → r v w H' Q) : JC X σ G H op a b z := ⟨hm, fun G0 H0 w0 Q k pins s I => by
  refine binT (ta := WE X a) (tb := WE X b) (R := fun v w H2 => r v w H2 fun x H1 => ∃ k, x = .bl k ∧ Q k H1) pe_w pe_w I ?_ fun v u s2 x y H2 I2 rx ry q => ho pins s2 σ H2 x y v u _ I2 rx ry q
  refine ha G0 H0 w0 _ fun v G1 H1 w1 hv => ?_
  refine hb G1 H1 (w0.t w1) _ fun w G2 H2 w2 hw => ?_
  exact hr v w G2 H2 ((w0.t w1).t w2) (R.m w2.g hv) hw _ fun H3 w3 => ⟨z, rfl, k H3 (((w1.t w2).t w3).keep)⟩⟩
theorem jc_I {op : CmpOp} {f : Int → Int → Bool} (ho : OpR X (compareOp op) (rI0 fun i j => .bl (f i j))) (hm : behindInMarks op b = false) {i j : Int} (ha : JR X σ G H a rInt i) (hb : JR X σ G H b rInt j) : JC X σ G H op a b (f i j) :=
  jc_op2 ho hm ha hb (by rintro v w G' H' w' rfl rfl Q k; exact ⟨_, _, rfl, rfl, k H' (Gw.refl w'.s)⟩)
theorem jc_lt {i j : Int} (ha : JR X σ G H a rInt i) (hb : JR X σ G H b rInt j) : JC X σ G H .Lt a b (decide (i < j)) := jc_I op_lt (nomark _) ha hb
theorem jc_le {i j : Int} (ha : JR X σ G H a rInt i) (hb : JR X σ G H b rInt j) : JC X σ G H .LtE a b (decide (i ≤ j)) := jc_I op_le (nomark _) ha hb
theorem jc_gt {i j : Int} (ha : JR X σ G H a rInt i) (hb : JR X σ G H b rInt j) : JC X σ G H .Gt a b (decide (j < i)) := jc_I op_gt (nomark _) ha hb
theorem jc_ge {i j : Int} (ha : JR X σ G H a rInt i) (hb : JR X σ G H b rInt j) : JC X σ G H .GtE a b (decide (j ≤ i)) := jc_I op_ge (nomark _) ha hb
theorem dec_i {i j : Int} : decide (V.int i = V.int j) = decide (i = j) := by
  by_cases h : i = j
  · subst h; simp
  · rw [decide_eq_false h, decide_eq_false fun q => h (V.int.inj q)]
theorem dec_b {i j : Bool} : decide (V.bl i = V.bl j) = decide (i = j) := by
  by_cases h : i = j
  · subst h; simp
  · rw [decide_eq_false h, decide_eq_false fun q => h (V.bl.inj q)]
theorem jc_eqI {i j : Int} (ha : JR X σ G H a rInt i) (hb : JR X σ G H b rInt j) : JC X σ G H .Eq a b (decide (i = j)) :=
  jc_op2 op_eq (nomark _) ha hb (by rintro v w G' H' w' rfl rfl Q k; exact ⟨rfl, by rw [dec_i]; exact k H' (Gw.refl w'.s)⟩)
theorem jc_neI {i j : Int} (ha : JR X σ G H a rInt i) (hb : JR X σ G H b rInt j) : JC X σ G H .NotEq a b (!decide (i = j)) :=
  jc_op2 op_ne (nomark _) ha hb (by rintro v w G' H' w' rfl rfl Q k; exact ⟨rfl, by rw [dec_i]; exact k H' (Gw.refl w'.s)⟩)
theorem jc_eqB {i j : Bool} (ha : JR X σ G H a rBool i) (hb : JR X σ G H b rBool j) : JC X σ G H .Eq a b (decide (i = j)) :=
  jc_op2 op_eq (nomark _) ha hb (by rintro v w G' H' w' rfl rfl Q k; exact ⟨rfl, by rw [dec_b]; exact k H' (Gw.refl w'.s)⟩)
/-! and, or, not as values -/
theorem je_one {op : BoolOp} {i : Bool} (ha : JR X σ G H a rBool i) : JR X σ G H (.BoolOp op [a] pos) rBool i := fun G0 H0 w0 Q k => WE.of (pe_one pe_w) (ha G0 H0 w0 Q k)
theorem je_and {i j : Bool} {more : List Expr} (ha : JR X σ G H a rBool i) (hb : i = true → JR X σ G H (.BoolOp .And (b :: more) pos) rBool j) : JR X σ G H (.BoolOp .And (a :: b :: more) pos) rBool (i && j) := fun G0 H0 w0 Q k => by
  refine WE.of (pe_and pe_w pe_w) ?_
  refine ha G0 H0 w0 _ fun v G1 H1 w1 hv => ⟨i, hv, ?_⟩
  cases i with
  | true =>
    rw [if_pos rfl]
    exact hb rfl G1 H1 (w0.t w1) Q fun v G2 H2 w2 hv => k v G2 H2 (w1.t w2) hv
  | false =>
    rw [if_neg Bool.false_ne_true]
    exact k _ G1 H1 w1 rfl
theorem je_or {i j : Bool} {more : List Expr} (ha : JR X σ G H a rBool i) (hb : i = false → JR X σ G H (.BoolOp .Or (b :: more) pos) rBool j) : JR X σ G H (.BoolOp .Or (a :: b :: more) pos) rBool (i || j) := fun G0 H0 w0 Q k => by
  refine WE.of (pe_or pe_w pe_w) ?_
  refine ha G0 H0 w0 _ fun v G1 H1 w1 hv => ⟨i, hv, ?_⟩
  cases i with
  | false =>
    rw [if_neg Bool.false_ne_true]
    exact hb rfl G1 H1 (w0.t w1) Q fun v G2 H2 w2 hv => k v G2 H2 (w1.t w2) hv
  | true =>
    rw [if_pos rfl]
    exact k _ G1 H1 w1 rfl
theorem je_not {i : Bool} (ha : JR X σ G H a rBool i) : JR X σ G H (.UnaryOp .Not a pos) rBool (!i) := fun G0 H0 w0 Q k => by
  refine WE.of (pe_not pe_w) ?_
  exact ha G0 H0 w0 _ fun v G1 H1 w1 hv => ⟨i, hv, k _ G1 H1 w1 rfl⟩
/-! tests -/
theorem jt_v {i : Bool} (ha : JR X σ G H a rBool i) (he : ∀ whole, isTrue a X.env whole = (do let v ← whole; standAt a.pos; holding [v] (truthy v)) := by intro _; rfl) : JT X σ G H a i := fun G0 H0 w0 Q k => by
  refine WT.of (pt_val pe_w he) ?_
  exact ha G0 H0 w0 _ fun v G1 H1 w1 hv => ⟨i, hv, k _ w1.keep⟩
theorem jt_w {i : Bool} (ha : JW X σ G H a i) : JT X σ G H a i := fun G0 H0 w0 Q k pins s I => ha G0 H0 w0 Q k _ pins s I
theorem jw_and1 {i : Bool} (ha : JT X σ G H a i) : JW X σ G H (.BoolOp .And [a] pos) i := fun G0 H0 w0 Q k => WW.of (pw_and1 pt_w) (ha G0 H0 w0 Q k)
theorem jw_or1 {i : Bool} (ha : JT X σ G H a i) : JW X σ G H (.BoolOp .Or [a] pos) i := fun G0 H0 w0 Q k => WW.of (pw_or1 pt_w) (ha G0 H0 w0 Q k)
theorem jw_and {i j : Bool} {more : List Expr} (ha : JT X σ G H a i) (hb : i = true → JW X σ G H (.BoolOp .And (b :: more) pos) j) : JW X σ G H (.BoolOp .And (a :: b :: more) pos) (i && j) := fun G0 H0 w0 Q k => by
  refine WW.of (pw_and pt_w pw_w) ?_
  refine ha G0 H0 w0 _ fun H1 w1 => ?_
  cases i with
  | true =>
    rw [if_pos rfl]
    exact hb rfl G0 H1 (w0.t w1) Q fun H2 w2 => k H2 (w1.t w2)
  | false =>
    rw [if_neg Bool.false_ne_true]
    exact k H1 w1
theorem jw_or {i j : Bool} {more : List Expr} (ha : JT X σ G H a i) (hb : i = false → JW X σ G H (.BoolOp .Or (b :: more) pos) j) : JW X σ G H (.BoolOp .Or (a :: b :: more) pos) (i || j) := fun G0 H0 w0 Q k => by
  refine WW.of (pw_or pt_w pw_w) ?_
  refine ha G0 H0 w0 _ fun H1 w1 => ?_
  cases i with
  | false =>
    rw [if_neg Bool.false_ne_true]
    exact hb rfl G0 H1 (w0.t w1) Q fun H2 w2 => k H2 (w1.t w2)
  | true =>
    rw [if_pos rfl]
    exact k H1 w1
theorem jt_not {i : Bool} (ha : JT X σ G H a i) : JT X σ G H (.UnaryOp .Not a pos) (!i) := fun G0 H0 w0 Q k => WT.of (pt_not pt_w) (ha G0 H0 w0 _ k)
theorem je_if {i : Bool} {x y : α} (hc : JT X σ G H c i) (ha : i = true → JR X σ G H a R x) (hb : i = false → JR X σ G H b R y) : JR X σ G H (.IfExp c a b pos) R (if i then x else y) := fun G0 H0 w0 Q k => by
  refine WE.of (pe_ifExp pt_w pe_w pe_w) ?_
  refine hc G0 H0 w0 _ fun H1 w1 => ?_
  cases i with
  | true => exact ha rfl G0 H1 (w0.t w1) Q fun v G2 H2 w2 hv => k v G2 H2 (w1.t w2) hv
  | false => exact hb rfl G0 H1 (w0.t w1) Q fun v G2 H2 w2 hv => k v G2 H2 (w1.t w2) hv
/-! argument lists -/
theorem ja_nil : JA X σ G H [] aNil () := fun G0 H0 w0 Q k => WA.of pa_nil (k [] G0 H0 (Gw.refl w0.s) rfl)
theorem ja_cons {A : AR β} (ha : JR X σ G H a R x) (hb : JA X σ G H es A y) (hs : starEach (a :: es) X.env = (false, eval a X.env) :: starEach es X.env := by rfl) : JA X σ G H (a :: es) (aCons R A) (x, y) := fun G0 H0 w0 Q k => by
  refine WA.of (pa_cons pe_w pa_w hs) ?_
  refine ha G0 H0 w0 _ fun v G1 H1 w1 hv => ?_
  refine hb G1 H1 (w0.t w1) _ fun vs G2 H2 w2 hvs => ?_
  exact k _ G2 H2 (w1.t w2) ⟨v, vs, rfl, R.m w2.g hv, hvs⟩
end
end Ck
end
section
set_option Elab.async false
set_option linter.all false
set_option maxRecDepth 100000
set_option maxHeartbeats 4000000
namespace Ck
open PySem PySem.Spec PyProof.Rows L2
open Mir (itm)
section
variable {X : Cx} {σ : L2.St} {G H G1 H1 : Hp} {e a b c d : Expr} {es : List Expr} {pos : Pos} {α β γ : Type} {R : SR α} {S : SR β} {T : SR γ} {x : α} {y : β} {z : γ}
theorem szl {n : Nat} (h : n ≤ 1000000) : n ≤ sizeLine := Nat.le_trans h (by decide)
theorem szlt {n : Nat} (h : n < 1000000) : n < sizeLine := Nat.lt_of_lt_of_le h (by decide)
/-! displays -/
theorem je_t2 {k : Nat} (ha : JR X σ G H a R x) (hb : JR X σ G H b S y) (h1 : starEach (a :: [b]) X.env = (false, eval a X.env) :: starEach [b] X.env := by rfl) (h2 : starEach [b] X.env = (false, eval b X.env) :: starEach [] X.env := by rfl) : JR X σ G H (.Tuple [a, b] k pos) (rT2 R S) (x, y) := fun G0 H0 w0 Q k => by
  refine WE.of (pe_tup pa_w) ?_
  refine ja_cons ha (ja_cons hb ja_nil h2) h1 G0 H0 w0 _ fun vs G1 H1 w1 hvs => ⟨?_, fun p hp => ?_⟩
  · obtain ⟨v, ws, rfl, _, w, us, rfl, _, rfl⟩ := hvs
    exact szl (by show 2 ≤ 1000000; decide)
  · obtain ⟨v, ws, rfl, hv, w, us, rfl, hw, rfl⟩ := hvs
    have n := Gw.new (o := .tup [v, w]) w1.s hp
    exact k _ _ _ (w1.t n) ⟨p, v, w, rfl, upd_same, R.m n.g hv, S.m n.g hw⟩
theorem je_t3 {k : Nat} (ha : JR X σ G H a R x) (hb : JR X σ G H b S y) (hc : JR X σ G H c T z) (h1 : starEach (a :: [b, c]) X.env = (false, eval a X.env) :: starEach [b, c] X.env := by rfl) (h2 : starEach (b :: [c]) X.env = (false, eval b X.env) :: starEach [c] X.env := by rfl)
    (h3 : starEach [c] X.env = (false, eval c X.env) :: starEach [] X.env := by rfl) : JR X σ G H (.Tuple [a, b, c] k pos) (rT3 R S T) (x, y, z) := fun G0 H0 w0 Q k => by
  refine WE.of (pe_tup pa_w) ?_
  refine ja_cons ha (ja_cons hb (ja_cons hc ja_nil h3) h2) h1 G0 H0 w0 _ fun vs G1 H1 w1 hvs => ⟨?_, fun p hp => ?_⟩
  · obtain ⟨v, ws, rfl, _, w, us, rfl, _, u, rs, rfl, _, rfl⟩ := hvs
    exact szl (by show 3 ≤ 1000000; decide)
  · obtain ⟨v, ws, rfl, hv, w, us, rfl, hw, u, rs, rfl, hu, rfl⟩ := hvs
    have n := Gw.new (o := .tup [v, w, u]) w1.s hp
    exact k _ _ _ (w1.t n) ⟨p, v, w, u, rfl, upd_same, R.m n.g hv, S.m n.g hw, T.m n.g hu⟩
/-- a written list: its items of one kind -/
structure JL (X : Cx) (σ : L2.St) (G H : Hp) (es : List Expr) (R : SR α) (xs : List α) : Prop where
  run : ∀ G0 H0, Gw G H G0 H0 → ∀ Q : List V → Hp → Prop, (∀ vs G' H', Gw G0 H0 G' H' → Paired (R.r G') vs xs → Q vs H') → WA X es σ H0 Q
theorem jl_nil : JL X σ G H [] R [] := ⟨fun G0 H0 w0 Q k => WA.of pa_nil (k [] G0 H0 (Gw.refl w0.s) .nil)⟩
theorem jl_cons {xs : List α} (ha : JR X σ G H a R x) (hb : JL X σ G H es R xs) (hs : starEach (a :: es) X.env = (false, eval a X.env) :: starEach es X.env := by rfl) : JL X σ G H (a :: es) R (x :: xs) := ⟨fun G0 H0 w0 Q k => by
  refine WA.of (pa_cons pe_w pa_w hs) ?_
  refine ha G0 H0 w0 _ fun v G1 H1 w1 hv => ?_
  refine hb.run G1 H1 (w0.t w1) _ fun vs G2 H2 w2 hvs => ?_
  exact k _ G2 H2 (w1.t w2) (.cons (R.m w2.g hv) hvs)⟩
theorem je_lst {xs : List α} (h : JL X σ G H es R xs) (hl : xs.length ≤ 1000000 := by simp) : JR X σ G H (.List es pos) (rL R) xs := fun G0 H0 w0 Q k => by
  refine WE.of (pe_lst pa_w) ?_
  refine h.run G0 H0 w0 _ fun vs G1 H1 w1 hvs => ⟨szl (by rw [Paired.len hvs]; exact hl), fun p hp => ?_⟩
  have n := Gw.new (o := .lst vs) w1.s hp
  exact k _ _ _ (w1.t n) ⟨p, vs, rfl, upd_same, pm (fun _ _ q => R.m n.g q) hvs⟩
/-! items -/
theorem itm_at {α : Type} {d : α} {xs : List α} {i : Int} (h0 : 0 ≤ i) (h1 : i < xs.length) : xs[i.toNat]? = some (itm d xs i) := by
  unfold itm
  rw [List.getD_eq_getElem?_getD, List.getElem?_eq_getElem (by omega)]
  rfl
theorem je_ix {d : α} {xs : List α} {i : Int} (ha : JR X σ G H a (rQ X.K R) xs) (hb : JR X σ G H b rInt i) (h0 : 0 ≤ i) (h1 : i < xs.length) (hs : PlainIx b := by intro _ _; rfl) : JR X σ G H (.Subscript a b pos) R (itm d xs i) :=
  je_op2 (fun p q => pe_ix ix_list p q hs) ha hb (by
    rintro v w G' H' w' ⟨p, vs, rfl, hp, hv⟩ rfl Q k
    obtain ⟨u, hu, ru⟩ := Paired.get hv (itm_at (d := d) h0 h1)
    refine ⟨p, vs, i, u, rfl, rfl, w'.s.seq hp, ?_, k u G' H' (Gw.refl w'.s) ru⟩
    have e : ((i.toNat : Nat) : Int) = i := by omega
    have z := atI_nat hu
    rw [e] at z
    exact z)
theorem je_p20 {x : α × β} {j : Nat} {p : Pos} (ha : JR X σ G H a (rT2 R S) x) : JR X σ G H (.Subscript a (.Constant (.int 0) j p) pos) R x.1 :=
  je_op2 (fun p q => pe_ix ix_tup p q (fun _ _ => rfl)) ha je_int (by
    rintro v w G' H' w' ⟨q, u, z, rfl, hq, h1, h2⟩ rfl Q k
    exact ⟨q, [u, z], 0, u, rfl, rfl, SqT.of (w'.s _ _ hq), rfl, k u G' H' (Gw.refl w'.s) h1⟩)
theorem je_p21 {x : α × β} {j : Nat} {p : Pos} (ha : JR X σ G H a (rT2 R S) x) : JR X σ G H (.Subscript a (.Constant (.int 1) j p) pos) S x.2 :=
  je_op2 (fun p q => pe_ix ix_tup p q (fun _ _ => rfl)) ha je_int (by
    rintro v w G' H' w' ⟨q, u, z, rfl, hq, h1, h2⟩ rfl Q k
    exact ⟨q, [u, z], 1, z, rfl, rfl, SqT.of (w'.s _ _ hq), rfl, k z G' H' (Gw.refl w'.s) h2⟩)
theorem je_p30 {x : α × β × γ} {j : Nat} {p : Pos} (ha : JR X σ G H a (rT3 R S T) x) : JR X σ G H (.Subscript a (.Constant (.int 0) j p) pos) R x.1 :=
  je_op2 (fun p q => pe_ix ix_tup p q (fun _ _ => rfl)) ha je_int (by
    rintro v w G' H' w' ⟨q, u, z, t, rfl, hq, h1, h2, h3⟩ rfl Q k
    exact ⟨q, [u, z, t], 0, u, rfl, rfl, SqT.of (w'.s _ _ hq), rfl, k u G' H' (Gw.refl w'.s) h1⟩)
theorem je_p31 {x : α × β × γ} {j : Nat} {p : Pos} (ha : JR X σ G H a (rT3 R S T) x) : JR X σ G H (.Subscript a (.Constant (.int 1) j p) pos) S x.2.1 :=
  je_op2 (fun p q => pe_ix ix_tup p q (fun _ _ => rfl)) ha je_int (by
    rintro v w G' H' w' ⟨q, u, z, t, rfl, hq, h1, h2, h3⟩ rfl Q k
    exact ⟨q, [u, z, t], 1, z, rfl, rfl, SqT.of (w'.s _ _ hq), rfl, k z G' H' (Gw.refl w'.s) h2⟩)
theorem je_p32 {x : α × β × γ} {j : Nat} {p : Pos} (ha : JR X σ G H a (rT3 R S T) x) : JR X σ G H (.Subscript a (.Constant (.int 2) j p) pos) T x.2.2 :=
  je_op2 (fun p q => pe_ix ix_tup p q (fun _ _ => rfl)) ha je_int (by
    rintro v w G' H' w' ⟨q, u, z, t, rfl, hq, h1, h2, h3⟩ rfl Q k
    exact ⟨q, [u, z, t], 2, t, rfl, rfl, SqT.of (w'.s _ _ hq), rfl, k t G' H' (Gw.refl w'.s) h3⟩)
/-! fields of an object that is tracked -/
theorem je_fld {f : Str} {p C dx : Addr} {fs : List (Str × V)} {u : V} (ha : JR X σ G H e rV (.ref p)) (ho : H p = some (.ins C dx fs)) (hc : Cls X.K C) (hn : NoAttr X.K C f) (hl : fs.lookup f = some u) (hr : R.r G u x)
    (hb : attributeBase e f X.env (eval e X.env) = eval e X.env := by rfl) : JR X σ G H (.Attribute e f pos) R x := fun G0 H0 w0 Q k => by
  refine WE.of (pe_fld pe_w hb) ?_
  refine ha G0 H0 w0 _ fun v G1 H1 w1 hv => ?_
  exact ⟨p, C, dx, fs, u, hv, (w0.t w1).h _ _ ho, hc, hn, hl, k u G1 H1 w1 (R.m (w0.t w1).g hr)⟩
/-! lists -/
theorem paired_sql {K : PySem.W.Frag} {xs : List α} {v : V} (h : (rQ K R).r G v xs) : ∃ p vs, v = .ref p ∧ SqL K G p vs ∧ Paired (R.r G) vs xs ∧ vs.length = xs.length :=
  let ⟨p, vs, h1, h2, h3⟩ := h
  ⟨p, vs, h1, h2, h3, Paired.len h3⟩
theorem je_len {n : Str} {p : Pos} {xs : List α} (hn : n = "len") (hm : X.mg "len" = none) (ha : JR X σ G H a (rQ X.K R) xs) (hg : Gl X n := by rfl) (hs : starEach [a] X.env = (false, eval a X.env) :: starEach [] X.env := by rfl) : JR X σ G H (.Call (.Name n p) [a] [] pos) rInt (xs.length : Int) := fun G0 H0 w0 Q k => by
  subst hn
  refine WE.of (pe_callB call_len_seq hg hm PySem.boot_len (pa_cons pe_w pa_nil hs) (he := hs)) ?_
  refine ha G0 H0 w0 _ fun v G1 H1 w1 hv => ?_
  obtain ⟨p, vs, rfl, h2, h3⟩ := hv
  exact ⟨p, vs, rfl, .inl (w1.s.seq h2), k _ G1 H1 w1 (by rw [Paired.len h3]; rfl)⟩
theorem je_cat {xs ys : List α} (ha : JR X σ G H a (rL R) xs) (hb : JR X σ G H b (rL R) ys) (hl : xs.length + ys.length ≤ 1000000) : JR X σ G H (.BinOp a .Add b pos) (rL R) (xs ++ ys) :=
  je_op2 (fun p q => pe_op op_cat p q) ha hb (by
    rintro v w G' H' w' ⟨p, vs, rfl, hp, hv⟩ ⟨q, us, rfl, hq, hu⟩ Q k
    refine ⟨p, q, vs, us, rfl, rfl, w'.s _ _ hp, w'.s _ _ hq, szl (by rw [Paired.len hv, Paired.len hu]; exact hl), fun r hr => ?_⟩
    have n := Gw.new (o := .lst (vs ++ us)) w'.s hr
    exact k _ _ _ n ⟨r, _, rfl, upd_same, pm (fun _ _ q => R.m n.g q) (Paired.app hv hu)⟩)
theorem je_rep {xs : List α} {i : Int} (ha : JR X σ G H a (rL R) xs) (hb : JR X σ G H b rInt i) (h0 : 0 ≤ i) (h1 : i ≤ 1000000) (hl : xs.length * i.toNat ≤ 1000000) : JR X σ G H (.BinOp a .Mult b pos) (rL R) (List.replicate i.toNat xs).flatten :=
  je_op2 (fun p q => pe_op op_rep p q) ha hb (by
    rintro v w G' H' w' ⟨p, vs, rfl, hp, hv⟩ rfl Q k
    refine ⟨p, i, vs, rfl, rfl, w'.s _ _ hp, by omega, by omega, szl (by rw [Paired.len hv]; exact hl), fun r hr => ?_⟩
    have n := Gw.new (o := .lst (List.replicate i.toNat vs).flatten) w'.s hr
    refine k _ _ _ n ⟨r, _, rfl, upd_same, pm (fun _ _ q => R.m n.g q) ?_⟩
    have z : ∀ m : Nat, Paired (R.r G') (List.replicate m vs).flatten (List.replicate m xs).flatten := fun m => by
      induction m with
      | zero => exact .nil
      | succ m ih =>
        rw [List.replicate_succ, List.replicate_succ, List.flatten_cons, List.flatten_cons]
        exact Paired.app hv ih
    exact z _)
/-- what a slice takes -/
def cut {α : Type} (xs : List α) (lo hi : Option Int) : List α := (xs.drop (HT.sIx xs.length 0 lo)).take (HT.sIx xs.length xs.length hi - HT.sIx xs.length 0 lo)
theorem cut_ge {α : Type} {xs : List α} {i : Nat} : cut xs (some (i : Int)) none = xs.drop i := by
  unfold cut
  rw [HT.sIx_nat, HT.sIx_none]
  by_cases h : i ≤ xs.length
  · rw [Nat.min_eq_left h, List.take_of_length_le (by rw [List.length_drop]; omega)]
  · rw [Nat.min_eq_right (by omega), Nat.sub_self, List.take_zero, List.drop_of_length_le (by omega)]
theorem cut_lt {α : Type} {xs : List α} {i : Nat} : cut xs none (some (i : Int)) = xs.take i := by
  unfold cut
  rw [HT.sIx_nat, HT.sIx_none, List.drop_zero, Nat.sub_zero]
  by_cases h : i ≤ xs.length
  · rw [Nat.min_eq_left h]
  · rw [Nat.min_eq_right (by omega), List.take_of_length_le (Nat.le_refl _), List.take_of_length_le (by omega)]
theorem cut_mid {α : Type} {xs : List α} {i j : Nat} : cut xs (some (i : Int)) (some (j : Int)) = (xs.drop i).take (j - i) := by
  unfold cut
  rw [HT.sIx_nat, HT.sIx_nat]
  by_cases h : i ≤ xs.length
  · have e1 : min i xs.length = i := Nat.min_eq_left h
    rw [e1]
    by_cases h2 : j ≤ xs.length
    · have e2 : min j xs.length = j := Nat.min_eq_left h2
      rw [e2]
    · have e2 : min j xs.length = xs.length := Nat.min_eq_right (by omega)
      rw [e2, List.take_of_length_le (l := xs.drop i) (i := xs.length - i) (by rw [List.length_drop]; omega), List.take_of_length_le (by rw [List.length_drop]; omega)]
  · have e1 : min i xs.length = xs.length := Nat.min_eq_right (by omega)
    rw [e1, List.drop_of_length_le (Nat.le_refl _), List.drop_of_length_le (by omega), List.take_nil, List.take_nil]
theorem paired_cut {F : V → α → Prop} {vs : List V} {xs : List α} (h : Paired F vs xs) (lo hi : Option Int) : Paired F (cutV vs lo hi) (cut xs lo hi) := by
  unfold cutV cut
  rw [Paired.len h]
  exact Paired.takeP _ (Paired.dropP _ h)
theorem je_slT {xs : List α} {i : Int} {p2 : Pos} (ha : JR X σ G H a (rQ X.K R) xs) (hb : JR X σ G H b rInt i) : JR X σ G H (.Subscript a (.Slice none (some b) none p2) pos) (rL R) (cut xs none (some i)) := fun G0 H0 w0 Q k => by
  refine WE.of (pe_slice sl_list pe_w po_none (po_some pe_w)) ?_
  refine ha G0 H0 w0 _ fun v G1 H1 w1 hv => ?_
  refine hb G1 H1 (w0.t w1) _ fun u G2 H2 w2 hu => ?_
  obtain ⟨p, vs, rfl, hp, hvs⟩ := (rQ X.K R).m w2.g hv
  refine ⟨i, hu, p, vs, rfl, w2.s.seq hp, fun q hq => ?_⟩
  have n := Gw.new (o := .lst (cutV vs none (some i))) w2.s hq
  exact k _ _ _ ((w1.t w2).t n) ⟨q, _, rfl, upd_same, pm (fun _ _ q => R.m n.g q) (paired_cut hvs _ _)⟩
theorem je_slD {xs : List α} {i : Int} {p2 : Pos} (ha : JR X σ G H a (rQ X.K R) xs) (hb : JR X σ G H b rInt i) : JR X σ G H (.Subscript a (.Slice (some b) none none p2) pos) (rL R) (cut xs (some i) none) := fun G0 H0 w0 Q k => by
  refine WE.of (pe_slice sl_list pe_w (po_some pe_w) po_none) ?_
  refine ha G0 H0 w0 _ fun v G1 H1 w1 hv => ?_
  refine hb G1 H1 (w0.t w1) _ fun u G2 H2 w2 hu => ?_
  obtain ⟨p, vs, rfl, hp, hvs⟩ := (rQ X.K R).m w2.g hv
  refine ⟨i, hu, p, vs, rfl, w2.s.seq hp, fun q hq => ?_⟩
  have n := Gw.new (o := .lst (cutV vs (some i) none)) w2.s hq
  exact k _ _ _ ((w1.t w2).t n) ⟨q, _, rfl, upd_same, pm (fun _ _ q => R.m n.g q) (paired_cut hvs _ _)⟩
theorem je_slM {xs : List α} {i j : Int} {p2 : Pos} (ha : JR X σ G H a (rQ X.K R) xs) (hb : JR X σ G H b rInt i) (hc : JR X σ G H c rInt j) : JR X σ G H (.Subscript a (.Slice (some b) (some c) none p2) pos) (rL R) (cut xs (some i) (some j)) := fun G0 H0 w0 Q k => by
  refine WE.of (pe_slice sl_list pe_w (po_some pe_w) (po_some pe_w)) ?_
  refine ha G0 H0 w0 _ fun v G1 H1 w1 hv => ?_
  refine hb G1 H1 (w0.t w1) _ fun u G2 H2 w2 hu => ?_
  refine ⟨i, hu, ?_⟩
  refine hc G2 H2 ((w0.t w1).t w2) _ fun u' G3 H3 w3 hu' => ?_
  obtain ⟨p, vs, rfl, hp, hvs⟩ := (rQ X.K R).m (w2.t w3).g hv
  refine ⟨j, hu', p, vs, rfl, w3.s.seq hp, fun q hq => ?_⟩
  have n := Gw.new (o := .lst (cutV vs (some i) (some j))) w3.s hq
  exact k _ _ _ (((w1.t w2).t w3).t n) ⟨q, _, rfl, upd_same, pm (fun _ _ q => R.m n.g q) (paired_cut hvs _ _)⟩
theorem je_sT {xs : List α} {i : Int} {p2 : Pos} (ha : JR X σ G H a (rQ X.K R) xs) (hb : JR X σ G H b rInt i) (h : 0 ≤ i) : JR X σ G H (.Subscript a (.Slice none (some b) none p2) pos) (rL R) (xs.take i.toNat) :=
  (je_slT ha hb).eq (by rw [← cut_lt, Int.toNat_of_nonneg h])
theorem je_sD {xs : List α} {i : Int} {p2 : Pos} (ha : JR X σ G H a (rQ X.K R) xs) (hb : JR X σ G H b rInt i) (h : 0 ≤ i) : JR X σ G H (.Subscript a (.Slice (some b) none none p2) pos) (rL R) (xs.drop i.toNat) :=
  (je_slD ha hb).eq (by rw [← cut_ge, Int.toNat_of_nonneg h])
theorem je_sM {xs : List α} {i j : Int} {p2 : Pos} (ha : JR X σ G H a (rQ X.K R) xs) (hb : JR X σ G H b rInt i) (hc : JR X σ G H c rInt j) (h : 0 ≤ i) (h2 : 0 ≤ j) : JR X σ G H (.Subscript a (.Slice (some b) (some c) none p2) pos) (rL R) ((xs.drop i.toNat).take (j.toNat - i.toNat)) :=
  (je_slM ha hb hc).eq (by rw [← cut_mid, Int.toNat_of_nonneg h, Int.toNat_of_nonneg h2])
theorem je_rev {xs : List α} {k : Nat} {p1 p2 p3 : Pos} (ha : JR X σ G H a (rQ X.K R) xs) : JR X σ G H (.Subscript a (.Slice none none (some (.UnaryOp .USub (.Constant (.int 1) k p1) p2)) p3) pos) (rL R) xs.reverse := fun G0 H0 w0 Q k => by
  refine WE.of (pe_revL pe_w) ?_
  refine ha G0 H0 w0 _ fun v G1 H1 w1 hv => ?_
  obtain ⟨p, vs, rfl, hp, hvs⟩ := hv
  refine ⟨p, vs, rfl, w1.s.seq hp, fun q hq => ?_⟩
  have n := Gw.new (o := .lst vs.reverse) w1.s hq
  exact k _ _ _ (w1.t n) ⟨q, _, rfl, upd_same, pm (fun _ _ q => R.m n.g q) (Paired.rev hvs)⟩
theorem je_all {n : Str} {p : Pos} {bs : List Bool} (hn : n = "all") (hm : X.mg "all" = none) (hc : X.calm = true) (ha : JR X σ G H a (rQ X.K rBool) bs) (hg : Gl X n := by rfl) (hs : starEach [a] X.env = (false, eval a X.env) :: starEach [] X.env := by rfl) : JR X σ G H (.Call (.Name n p) [a] [] pos) rBool (bs.all id) := fun G0 H0 w0 Q k => by
  subst hn
  refine WE.of (pe_callB (cr_all hc) hg hm (by decide +kernel) (pa_cons pe_w pa_nil hs) (he := hs)) ?_
  refine ha G0 H0 w0 _ fun v G1 H1 w1 hv => ?_
  obtain ⟨p, vs, rfl, h2, h3⟩ := hv
  have e := paired_bools h3
  subst e
  exact ⟨p, bs, rfl, w1.s.seq h2, k _ G1 H1 w1 rfl⟩
theorem je_any {n : Str} {p : Pos} {bs : List Bool} (hn : n = "any") (hm : X.mg "any" = none) (hc : X.calm = true) (ha : JR X σ G H a (rQ X.K rBool) bs) (hg : Gl X n := by rfl) (hs : starEach [a] X.env = (false, eval a X.env) :: starEach [] X.env := by rfl) : JR X σ G H (.Call (.Name n p) [a] [] pos) rBool (bs.any id) := fun G0 H0 w0 Q k => by
  subst hn
  refine WE.of (pe_callB (cr_any hc) hg hm (by decide +kernel) (pa_cons pe_w pa_nil hs) (he := hs)) ?_
  refine ha G0 H0 w0 _ fun v G1 H1 w1 hv => ?_
  obtain ⟨p, vs, rfl, h2, h3⟩ := hv
  have e := paired_bools h3
  subst e
  exact ⟨p, bs, rfl, w1.s.seq h2, k _ G1 H1 w1 rfl⟩
/-! calls by contract -/
end
/-- a contract of a def that changes nothing still or tracked -/
def Ct {α β : Type} (A : AR α) (pre : Hp → Hp → α → Prop) (R : SR β) (g : α → β) : Sp := fun vs H Q _ => ∃ G x, Same G H ∧ A.r G vs x ∧ pre G H x ∧ ∀ v G' H', Gw G H G' H' → R.r G' v (g x) → Q v H'
abbrev noPre {α : Type} : Hp → Hp → α → Prop := fun _ _ _ => True
abbrev onPre {α : Type} (p : α → Prop) : Hp → Hp → α → Prop := fun _ _ x => p x
/-- a def of the top that keeps a promise -/
def Cal (P : Program) (w : World) (K : PySem.W.Frag) (mg : Str → Option Value) (base : Heap) (name : Str) (k : Nat) (sp : Sp) : Prop :=
  ∃ f fd ps, FnOk P w K mg base CX0 k f fd ps sp ∧ mg name = some (.ref f) ∧ PySem.W.keepIn K (.ref f) = true ∧ Binds K fd ps []
section
variable {X : Cx} {σ : L2.St} {G H G1 H1 : Hp} {e a b c : Expr} {es : List Expr} {pos : Pos} {α β γ : Type} {R : SR α} {S : SR β} {T : SR γ} {x : α} {y : β} {z : γ}
theorem we_call {name : Str} {k : Nat} {sp : Sp} {p : Pos} {Q : VK} (F : Cal X.prog X.w X.K X.mg X.base name k sp) (hr : Room k X.A) (h : WA X (e :: es) σ H fun vs H1 => sp vs H1 Q E0) (hg : Gl X name := by rfl) (hdb : (name == ("__debug__" : Str)) = false := by decide)
    (he : starEach (e :: es) X.env = (false, eval e X.env) :: starEach es X.env := by rfl) (hpl : (backTo pos (starEach es X.env)).any (·.1) = false := by rfl) : WE X (.Call (.Name name p) (e :: es) [] pos) σ H Q := by
  obtain ⟨f, fd, ps, F, hm, hk, hb⟩ := F
  refine WE.of (pe_call F hr hg hm hk hb .nil pass0 pa_w hdb he hpl) ?_
  show WA X (e :: es) σ H fun vs H1 => sp (vs ++ []) H1 Q E0
  have z : (fun (vs : List V) (H1 : Hp) => sp (vs ++ []) H1 Q E0) = fun vs H1 => sp vs H1 Q E0 := by
    funext vs H1
    rw [List.append_nil]
  rw [z]
  exact h
theorem je_call {A : AR α} {pre : Hp → Hp → α → Prop} {g : α → β} {name : Str} {k : Nat} {p : Pos} (F : Cal X.prog X.w X.K X.mg X.base name k (Ct A pre S g)) (hr : Room k X.A) (ja : JA X σ G H (e :: es) A x) (hp : ∀ G' H', Gw G H G' H' → pre G' H' x) (hg : Gl X name := by rfl)
    (hdb : (name == ("__debug__" : Str)) = false := by decide) (he : starEach (e :: es) X.env = (false, eval e X.env) :: starEach es X.env := by rfl) (hpl : (backTo pos (starEach es X.env)).any (·.1) = false := by rfl) : JR X σ G H (.Call (.Name name p) (e :: es) [] pos) S (g x) := fun G0 H0 w0 Q k => by
  refine we_call F hr ?_ hg hdb he hpl
  refine ja G0 H0 w0 _ fun vs G1 H1 w1 hv => ?_
  exact ⟨G1, x, w1.s, hv, hp _ _ (w0.t w1), fun v G2 H2 w2 hv2 => k v G2 H2 (w1.t w2) hv2⟩
end

/-! ### defs -/
structure Def (K : PySem.W.Frag) (mg : Str → Option Value) (name : Str) (st : Stmt) (ps : List Str) : Prop where
  ex : ∃ f fd, Fun K name name st f fd ∧ mg name = some (.ref f) ∧ Binds K fd ps []
/-- a def keeps a promise: its body's reading -/
theorem Def.ok {P : Program} {w : World} {K : PySem.W.Frag} {mg : Str → Option Value} {base : Heap} {name : Str} {st : Stmt} {N ps : List Str} {k : Nat} {sp : Sp} (D : Def K mg name st ps) (S : FnScope N ps (defScope st)) (len : ∀ vs H Q E, sp vs H Q E → vs.length = ps.length)
    (hbody : ∀ (f : Addr) (cdv : Value) (A : Around) (outer : List Env) (s : Shared) (H : Hp) (vs : List V) (Q : VK) (E : XK), Room k (A.deeper (envOfC name (defScope st) s.heap.objs.size f cdv)) → sp vs H Q E →
      WSs (cxOf CX0 P w K mg base N name (defScope st) f cdv A outer s H E).nox (defBody st) { nx := fun _ H' => Q .non H', rt := Q } (start N vs) H) : Cal P w K mg base name (k + 1) sp := by
  obtain ⟨f, fd, F, hm, hb⟩ := D.ex
  exact ⟨f, fd, ps, F.ok S len fun cdv A outer s H vs Q E hr h => ⟨_, pss_w, hbody f cdv A outer s H vs Q E hr h⟩, hm, F.kp, hb⟩
/-- .. a contract -/
theorem Def.ct {P : Program} {w : World} {K : PySem.W.Frag} {mg : Str → Option Value} {base : Heap} {name : Str} {st : Stmt} {N ps : List Str} {k : Nat} {α β : Type} {A : AR α} {pre : Hp → Hp → α → Prop} {R : SR β} {g : α → β} (D : Def K mg name st ps) (S : FnScope N ps (defScope st)) (len : A.n = ps.length)
    (hbody : ∀ (f : Addr) (cdv : Value) (Ar : Around) (outer : List Env) (s : Shared) (G H : Hp) (vs : List V) (x : α) (Q : VK) (E : XK), Room k (Ar.deeper (envOfC name (defScope st) s.heap.objs.size f cdv)) → Same G H → A.r G vs x → pre G H x → (∀ v G' H', Gw G H G' H' → R.r G' v (g x) → Q v H') →
      WSs (cxOf CX0 P w K mg base N name (defScope st) f cdv Ar outer s H E).nox (defBody st) { nx := fun _ H' => Q .non H', rt := Q } (start N vs) H) : Cal P w K mg base name (k + 1) (Ct A pre R g) :=
  D.ok S (fun vs H Q E ⟨G, x, _, h, _⟩ => (A.len h).trans len) fun f cdv Ar outer s H vs Q E hr ⟨G, x, hs, ha, hp, hk⟩ => hbody f cdv Ar outer s G H vs x Q E hr hs ha hp hk

/-! ### statements -/
section
variable {X : Cx} {σ : L2.St} {G H G1 H1 : Hp} {e a b c : Expr} {es : List Expr} {rest : List Stmt} {pos : Pos} {α β γ : Type} {R : SR α} {S : SR β} {T : SR γ} {x : α} {y : β} {z : γ} {D : Ends}
/-- the end of a def without a return -/
theorem ws_nil (h : D.nx σ H) : WSs X [] D σ H := WSs.nil h
theorem ws_ret (s : Same G H) (j : JR X σ G H e R x) (k : ∀ v G' H', Gw G H G' H' → R.r G' v x → D.rt v H') : WSs X (.Return (some e) pos :: rest) D σ H :=
  WSs.cons (ps_ret pe_w) (j G H (Gw.refl s) _ fun v G' H' w hv => k v G' H' w hv)
theorem ws_retN (h : D.rt .non H) : WSs X (.Return none pos :: rest) D σ H := WSs.cons ps_retN h
theorem ws_retE {x' : α} (s : Same G H) (j : JR X σ G H e R x') (h : x' = x) (k : ∀ v G' H', Gw G H G' H' → R.r G' v x → D.rt v H') : WSs X (.Return (some e) pos :: rest) D σ H := ws_ret s (j.eq h) k
theorem ws_set (i : Nat) {n : Str} {pos' : Pos} (s : Same G H) (j : JR X σ G H e R x) (k : ∀ v G' H', Gw G H G' H' → R.r G' v x → WSs X rest D (σ.set i (some v)) H') (hN : X.N.Nodup) (hi : X.N[i]? = some n := by rfl)
    (hx : Loc X.env.scope n := by first | exact Or.inl rfl | exact Or.inr rfl) (hs : swapsWith e (some (.Name n pos')) pos.line X.env = pure false := by rfl) (hf : X.fn n = true ∨ X.env.scope.names.lookup n = some .local := by first | exact .inl rfl | exact .inr rfl) :
    WSs X (.Assign [.Name n pos'] e pos :: rest) D σ H :=
  WSs.cons (ps_set hN hi hx pe_w hs hf) (j G H (Gw.refl s) _ fun v G' H' w hv => k v G' H' w hv)
theorem ws_setI (i : Nat) {n : Str} {pos' : Pos} {z : Int} (s : Same G H) (j : JR X σ G H e rInt z) (k : ∀ H', Gw G H G H' → WSs X rest D (σ.set i (some (.int z))) H') (hN : X.N.Nodup) (hi : X.N[i]? = some n := by rfl)
    (hx : Loc X.env.scope n := by first | exact Or.inl rfl | exact Or.inr rfl) (hs : swapsWith e (some (.Name n pos')) pos.line X.env = pure false := by rfl) (hf : X.fn n = true ∨ X.env.scope.names.lookup n = some .local := by first | exact .inl rfl | exact .inr rfl) :
    WSs X (.Assign [.Name n pos'] e pos :: rest) D σ H :=
  ws_set i s j (by rintro v G' H' w rfl; exact k H' w.keep) hN hi hx hs hf
theorem ws_setB (i : Nat) {n : Str} {pos' : Pos} {z : Bool} (s : Same G H) (j : JR X σ G H e rBool z) (k : ∀ H', Gw G H G H' → WSs X rest D (σ.set i (some (.bl z))) H') (hN : X.N.Nodup) (hi : X.N[i]? = some n := by rfl)
    (hx : Loc X.env.scope n := by first | exact Or.inl rfl | exact Or.inr rfl) (hs : swapsWith e (some (.Name n pos')) pos.line X.env = pure false := by rfl) (hf : X.fn n = true ∨ X.env.scope.names.lookup n = some .local := by first | exact .inl rfl | exact .inr rfl) :
    WSs X (.Assign [.Name n pos'] e pos :: rest) D σ H :=
  ws_set i s j (by rintro v G' H' w rfl; exact k H' w.keep) hN hi hx hs hf
theorem ws_if {i : Bool} {A B : List Stmt} (s : Same G H) (j : JT X σ G H c i) (k1 : i = true → ∀ H', Gw G H G H' → WSs X A { D with nx := fun σ' H' => WSs X rest D σ' H' } σ H') (k2 : i = false → ∀ H', Gw G H G H' → WSs X B { D with nx := fun σ' H' => WSs X rest D σ' H' } σ H') :
    WSs X (.If c A B pos :: rest) D σ H :=
  WSs.cons (ps_if pt_w pss_w pss_w) (j G H (Gw.refl s) _ fun H' w => by
    cases i with
    | true => exact k1 rfl H' w
    | false => exact k2 rfl H' w)
/-- an if without an else -/
theorem ws_when {i : Bool} {A : List Stmt} (s : Same G H) (j : JT X σ G H c i) (k1 : i = true → ∀ H', Gw G H G H' → WSs X A { D with nx := fun σ' H' => WSs X rest D σ' H' } σ H') (k2 : i = false → ∀ H', Gw G H G H' → WSs X rest D σ H') :
    WSs X (.If c A [] pos :: rest) D σ H := ws_if s j k1 fun h H' w => ws_nil (k2 h H' w)
/-- a, b = e, a pair -/
theorem ws_un2 (i1 i2 : Nat) {n1 n2 : Str} {p1 p2 pt : Pos} {kt : Nat} {q : α × β} (s : Same G H) (j : JR X σ G H e (rT2 R S) q) (hc : X.calm = true) (hN : X.N.Nodup)
    (k : ∀ v w G' H', Gw G H G' H' → R.r G' v q.1 → S.r G' w q.2 → WSs X rest D ((σ.set i1 (some v)).set i2 (some w)) H')
    (h1 : X.N[i1]? = some n1 := by rfl) (h2 : X.N[i2]? = some n2 := by rfl) (hx1 : Loc X.env.scope n1 := by first | exact Or.inl rfl | exact Or.inr rfl) (hx2 : Loc X.env.scope n2 := by first | exact Or.inl rfl | exact Or.inr rfl)
    (hs : swapsWithSole [.Tuple [.Name n1 p1, .Name n2 p2] kt pt] e pos.line X.env = pure false := by rfl) (hw : swappedStores [.Tuple [.Name n1 p1, .Name n2 p2] kt pt] e X.env = pure none := by rfl)
    (h0 : (assignEach [.Tuple [.Name n1 p1, .Name n2 p2] kt pt] X.env).map (·.2) = [assign (.Tuple [.Name n1 p1, .Name n2 p2] kt pt) X.env] := by rfl)
    (hn : (assignEach [.Name n1 p1, .Name n2 p2] X.env).length = 2 := by rfl) (hst : (assignEach [.Name n1 p1, .Name n2 p2] X.env).findIdx? (·.1) = none := by rfl)
    (hc1 : (assignEach (.Name n1 p1 :: [.Name n2 p2]) X.env).map (·.2) = assign (.Name n1 p1) X.env :: (assignEach [.Name n2 p2] X.env).map (·.2) := by rfl) (hc2 : (assignEach (.Name n2 p2 :: []) X.env).map (·.2) = assign (.Name n2 p2) X.env :: (assignEach [] X.env).map (·.2) := by rfl)
    (hf1 : X.fn n1 = true ∨ X.env.scope.names.lookup n1 = some .local := by first | exact .inl rfl | exact .inr rfl) (hf2 : X.fn n2 = true ∨ X.env.scope.names.lookup n2 = some .local := by first | exact .inl rfl | exact .inr rfl) :
    WSs X (.Assign [.Tuple [.Name n1 p1, .Name n2 p2] kt pt] e pos :: rest) D σ H :=
  WSs.cons (ps_asg pe_w (pg_tup hc (pgs_cons (pg_name hN h1 hx1 hf1) (pgs_cons (pg_name hN h2 hx2 hf2) pgs_nil hc2) hc1) hn hst) hs hw h0) (j G H (Gw.refl s) _ fun v G' H' w hv => by
    obtain ⟨p, u, t, rfl, hp, hu, ht⟩ := hv
    exact ⟨p, [u, t], rfl, SqT.of (w.s _ _ hp), rfl, _, _, rfl, _, _, rfl, rfl, k u t G' H' w hu ht⟩)
/-- a, b, c = e, a triple -/
theorem ws_un3 (i1 i2 i3 : Nat) {n1 n2 n3 : Str} {p1 p2 p3 pt : Pos} {kt : Nat} {q : α × β × γ} (s : Same G H) (j : JR X σ G H e (rT3 R S T) q) (hc : X.calm = true) (hN : X.N.Nodup)
    (k : ∀ v w u G' H', Gw G H G' H' → R.r G' v q.1 → S.r G' w q.2.1 → T.r G' u q.2.2 → WSs X rest D (((σ.set i1 (some v)).set i2 (some w)).set i3 (some u)) H')
    (h1 : X.N[i1]? = some n1 := by rfl) (h2 : X.N[i2]? = some n2 := by rfl) (h3 : X.N[i3]? = some n3 := by rfl) (hx1 : Loc X.env.scope n1 := by first | exact Or.inl rfl | exact Or.inr rfl) (hx2 : Loc X.env.scope n2 := by first | exact Or.inl rfl | exact Or.inr rfl)
    (hx3 : Loc X.env.scope n3 := by first | exact Or.inl rfl | exact Or.inr rfl)
    (hs : swapsWithSole [.Tuple [.Name n1 p1, .Name n2 p2, .Name n3 p3] kt pt] e pos.line X.env = pure false := by rfl) (hw : swappedStores [.Tuple [.Name n1 p1, .Name n2 p2, .Name n3 p3] kt pt] e X.env = pure none := by rfl)
    (h0 : (assignEach [.Tuple [.Name n1 p1, .Name n2 p2, .Name n3 p3] kt pt] X.env).map (·.2) = [assign (.Tuple [.Name n1 p1, .Name n2 p2, .Name n3 p3] kt pt) X.env] := by rfl)
    (hn : (assignEach [.Name n1 p1, .Name n2 p2, .Name n3 p3] X.env).length = 3 := by rfl) (hst : (assignEach [.Name n1 p1, .Name n2 p2, .Name n3 p3] X.env).findIdx? (·.1) = none := by rfl)
    (hc1 : (assignEach (.Name n1 p1 :: [.Name n2 p2, .Name n3 p3]) X.env).map (·.2) = assign (.Name n1 p1) X.env :: (assignEach [.Name n2 p2, .Name n3 p3] X.env).map (·.2) := by rfl)
    (hc2 : (assignEach (.Name n2 p2 :: [.Name n3 p3]) X.env).map (·.2) = assign (.Name n2 p2) X.env :: (assignEach [.Name n3 p3] X.env).map (·.2) := by rfl)
    (hc3 : (assignEach (.Name n3 p3 :: []) X.env).map (·.2) = assign (.Name n3 p3) X.env :: (assignEach [] X.env).map (·.2) := by rfl)
    (hf1 : X.fn n1 = true ∨ X.env.scope.names.lookup n1 = some .local := by first | exact .inl rfl | exact .inr rfl) (hf2 : X.fn n2 = true ∨ X.env.scope.names.lookup n2 = some .local := by first | exact .inl rfl | exact .inr rfl)
    (hf3 : X.fn n3 = true ∨ X.env.scope.names.lookup n3 = some .local := by first | exact .inl rfl | exact .inr rfl) :
    WSs X (.Assign [.Tuple [.Name n1 p1, .Name n2 p2, .Name n3 p3] kt pt] e pos :: rest) D σ H :=
  WSs.cons (ps_asg pe_w (pg_tup hc (pgs_cons (pg_name hN h1 hx1 hf1) (pgs_cons (pg_name hN h2 hx2 hf2) (pgs_cons (pg_name hN h3 hx3 hf3) pgs_nil hc3) hc2) hc1) hn hst) hs hw h0) (j G H (Gw.refl s) _ fun v G' H' w hv => by
    obtain ⟨p, u, t, r, rfl, hp, hu, ht, hr⟩ := hv
    exact ⟨p, [u, t, r], rfl, SqT.of (w.s _ _ hp), rfl, _, _, rfl, _, _, rfl, _, _, rfl, rfl, k u t r G' H' w hu ht hr⟩)
end
end Ck
end
section
set_option Elab.async false
set_option linter.all false
set_option maxRecDepth 100000
set_option maxHeartbeats 4000000
namespace Ck
open PySem PySem.Spec PyProof.Rows L2
open Mir (itm)
section
variable {X : Cx} {σ : L2.St} {G H G1 H1 : Hp} {e a b c elt it : Expr} {es ifs : List Expr} {body rest : List Stmt} {pos : Pos} {α β γ δ : Type} {R : SR α} {S : SR β} {T : SR γ} {x : α} {y : β} {z : γ} {D : Ends}
/-! ### comprehensions -/
/-- any of a comprehension's blocks -/
abbrev Blk (X : Cx) (scope : Scope) (p : Cx → Prop) : Prop := ∀ (s : Shared) (H : Hp) (C : Addr) (cl : List (Str × Addr)) (fp : List Addr), p (X.blk s H scope (compEnvC scope cl C X.env) fp)
def tIfs (X : Cx) (scope : Scope) (ifs : List Expr) : TT := match ifs with
  | [c] => fun σ H Q => Blk X scope fun B => WT B c σ H Q
  | _ => tYes
/-- a comprehension, by what its items are: Iw tells of the turn, the slots then -/
theorem lc_genT {own : List (Str × Nat)} {scope : Scope} {wi : TI} {g : TG} {ι : Type} {xs : List ι} {p : ι → Bool} {f : ι → β}
    (hif : (ifs = [] ∧ ∀ x, p x = true) ∨ ∃ c, ifs = [c]) (hl : xs.length ≤ 1000000)
    (hw : ∀ G0 H0, Gw G H G0 H0 → ∀ R : It → Hp → Prop, (∀ J G1 H1, Gw G0 H0 G1 H1 → (∃ (Gd : Hp → Prop) (Y : Nat → Hp → V → Hp → Prop), Walk J xs.length Gd Y ∧ (∀ H', Same G1 H' → Gd H') ∧
      ∀ i x v H' H2 G', xs[i]? = some x → Gw G1 H1 G' H' → Y i H' v H2 → ∃ G2, Gw G' H' G2 H2 ∧ ∀ QQ : L2.St → Hp → Prop,
        (∀ σ2, wipe σ2 (own.map (·.2)) = wipe σ (own.map (·.2)) → (∀ G3 H3, Gw G2 H2 G3 H3 → Blk X scope fun B => (∀ c, ifs = [c] → JT B σ2 G3 H3 c (p x)) ∧ (p x = true → JR B σ2 G3 H3 elt S (f x))) → QQ σ2 H2) → g v (wipe σ (own.map (·.2))) H2 QQ) → R J H1) → wi σ H0 R) :
    ∀ G0 H0, Gw G H G0 H0 → ∀ Q : VK, (∀ v G' H', Gw G0 H0 G' H' → (rL S).r G' v ((xs.filter p).map f) → Q v H') → tLc wi g (tIfs X scope ifs) (fun σ H Q => Blk X scope fun B => WE B elt σ H Q) (own.map (·.2)) σ H0 Q := fun G0 H0 w0 Q k => by
  refine hw G0 H0 w0 _ fun J G1 H1 w1 hJ => ?_
  obtain ⟨Gd, Y, W, hG, hY⟩ := hJ
  intro Dl hD
  have hD0 : H0 Dl = none := w1.h.free hD
  refine lc_it (g := g) (tt := tIfs X scope ifs) (te := fun σ H Q => Blk X scope fun B => WE B elt σ H Q) (vs := own.map (·.2)) (σ := σ) (Qd := fun H' => Q (.ref Dl) H') W (fun i H' => ∃ G' ys, Gw G1 H1 G' H' ∧ G' Dl = none ∧ H' Dl = some (.lst ys) ∧ Paired (S.r G') ys (((xs.take i).filter p).map f)) ⟨G1, [], Gw.mut w1.s hD, w1.s.free hD, upd_same, .nil⟩ ?_ ?_ ?_
  · rintro i H' hi ⟨G', ys, w', _, _, _⟩
    exact hG H' w'.s0
  · rintro i v H' H2 hlt ⟨G', ys, w', hg', hd', hp'⟩ y
    have hx : xs[i]? = some xs[i] := List.getElem?_eq_getElem hlt
    obtain ⟨G2, w2, hgv⟩ := hY i xs[i] v H' H2 G' hx w' y
    refine hgv _ fun σ2 hσ hb => ⟨hσ, ?_⟩
    have hlen : ys.length < 1000000 := by
      have q := Paired.len hp'
      have q2 : (((xs.take i).filter p).map f).length ≤ i := by
        rw [List.length_map]
        exact Nat.le_trans (List.length_filter_le _ _) (by rw [List.length_take]; omega)
      omega
    have tk : xs.take (i + 1) = xs.take i ++ [xs[i]] := by rw [List.take_succ, hx]; rfl
    have yes : p xs[i] = true → ∀ H3, Gw G2 H2 G2 H3 → (Blk X scope fun B => WE B elt σ2 H3 fun y H4 => ∃ acc, H4 Dl = some (.lst acc) ∧ acc.length < sizeLine ∧ ∃ G' ys, Gw G1 H1 G' (upd H4 Dl (.lst (acc ++ [y]))) ∧ G' Dl = none ∧ upd H4 Dl (.lst (acc ++ [y])) Dl = some (.lst ys) ∧ Paired (S.r G') ys (((xs.take (i + 1)).filter p).map f)) := fun hp H3 w3 s Hb C cl fp => by
      refine (hb G2 H3 w3 s Hb C cl fp).2 hp G2 H3 (Gw.refl w3.s) _ fun y G4 H4 w4 hy => ?_
      have w24 := (w2.t w3).t w4
      have hd4 : H4 Dl = some (.lst ys) := w24.h _ _ hd'
      have hg4 : G4 Dl = none := w24.out hg' hd'
      refine ⟨ys, hd4, szlt hlen, G4, ys ++ [y], ⟨w'.g.trans w24.g, fun a o e => ?_, fun a o e => ?_, fun a o e => ?_⟩, hg4, upd_same, ?_⟩
      · rw [upd_ne (ne_of_none e hD)]
        exact w24.h _ _ (w'.h _ _ e)
      · rw [upd_ne (ne_of_none e hg4)]
        exact w4.s _ _ e
      · exact (w'.t w24).f a o e
      · rw [tk, List.filter_append, List.map_append]
        refine Paired.app (pm (fun _ _ q => S.m w24.g q) hp') ?_
        rw [List.filter_cons, if_pos hp]
        exact .cons hy .nil
    have no : p xs[i] = false → ∀ H3, Gw G2 H2 G2 H3 → ∃ G' ys, Gw G1 H1 G' H3 ∧ G' Dl = none ∧ H3 Dl = some (.lst ys) ∧ Paired (S.r G') ys (((xs.take (i + 1)).filter p).map f) := fun hp H3 w3 => by
      have w23 := w2.t w3
      refine ⟨G2, ys, w'.t w23, w23.out hg' hd', w23.h _ _ hd', ?_⟩
      rw [tk, List.filter_append, List.map_append, List.filter_cons, if_neg (by rw [hp]; exact Bool.false_ne_true)]
      show Paired _ _ (((xs.take i).filter p).map f ++ [])
      rw [List.append_nil]
      exact pm (fun _ _ q => S.m w23.g q) hp'
    rcases hif with ⟨rfl, hall⟩ | ⟨c, rfl⟩
    · have hpx : p xs[i] = true := hall _
      show (fun (b : Bool) (H3 : Hp) => _) true H2
      exact yes hpx H2 (Gw.refl w2.s)
    · intro s Hb C cl fp
      refine (hb G2 H2 (Gw.refl w2.s) s Hb C cl fp).1 c rfl G2 H2 (Gw.refl w2.s) _ fun H3 w3 => ?_
      cases hp : p xs[i] with
      | true => exact yes hp H3 w3
      | false => exact no hp H3 w3
  · rintro H' ⟨G', ys, w', hg', hd', hp'⟩
    have nn : Same G' (upd G' Dl (.lst ys)) := Same.new hg'
    refine k (.ref Dl) (upd G' Dl (.lst ys)) H' ⟨(w1.g.trans w'.g).trans nn, w1.h.trans w'.h, fun a o e => ?_, fun a o e => ?_⟩ ⟨Dl, ys, rfl, upd_same, ?_⟩
    · by_cases q : a = Dl
      · subst q
        rw [upd_same] at e
        cases e
        exact hd'
      · rw [upd_ne q] at e
        exact w'.s _ _ e
    · by_cases q : a = Dl
      · subst q
        exact .inr hD0
      · rw [upd_ne q] at e
        exact (w1.t w').f a o e
    · rw [List.take_length] at hp'
      exact pm (fun _ _ q => S.m nn q) hp'

theorem lc_gen {own : List (Str × Nat)} {scope : Scope} {tg : Expr} {wi : TI} {g : TG} {ι : Type} {xs : List ι} {p : ι → Bool} {f : ι → β} (hc : X.calm = true) (hN : X.N.Nodup) (hi : PI X tg it wi) (ok : BlkOk X.N X.env.scope scope own)
    (hg : Blk X scope fun B => PG B tg g) (hif : (ifs = [] ∧ ∀ x, p x = true) ∨ ∃ c, ifs = [c]) (hfs : ∀ x, foldedSetIterable it X.env x = pure x) (hl : xs.length ≤ 1000000)
    (hw : ∀ G0 H0, Gw G H G0 H0 → ∀ R : It → Hp → Prop, (∀ J G1 H1, Gw G0 H0 G1 H1 → (∃ (Gd : Hp → Prop) (Y : Nat → Hp → V → Hp → Prop), Walk J xs.length Gd Y ∧ (∀ H', Same G1 H' → Gd H') ∧
      ∀ i x v H' H2 G', xs[i]? = some x → Gw G1 H1 G' H' → Y i H' v H2 → ∃ G2, Gw G' H' G2 H2 ∧ ∀ QQ : L2.St → Hp → Prop,
        (∀ σ2, wipe σ2 (own.map (·.2)) = wipe σ (own.map (·.2)) → (∀ G3 H3, Gw G2 H2 G3 H3 → Blk X scope fun B => (∀ c, ifs = [c] → JT B σ2 G3 H3 c (p x)) ∧ (p x = true → JR B σ2 G3 H3 elt S (f x))) → QQ σ2 H2) → g v (wipe σ (own.map (·.2))) H2 QQ) → R J H1) → wi σ H0 R) :
    JR X σ G H (.ListComp elt [⟨tg, it, ifs, 0⟩] scope pos) (rL S) ((xs.filter p).map f) := fun G0 H0 w0 Q k => by
  refine WE.of (pe_lc (tt := tIfs X scope ifs) (te := fun σ H Q => Blk X scope fun B => WE B elt σ H Q) hc hN hi ok hg (fun s H C cl fp => ?_) (fun s H C cl fp => ⟨fun pins s' σ H' Q I h => h s H C cl fp pins s' I⟩) hfs) ?_
  · rcases hif with ⟨rfl, hall⟩ | ⟨c, rfl⟩
    · exact pts_nil
    · exact pts_one ⟨fun pins s' σ H' Q I h => h s H C cl fp pins s' I⟩
  exact lc_genT hif hl hw G0 H0 w0 Q k
abbrev Lcb (X : Cx) (σ : L2.St) (G H : Hp) (scope : Scope) (elt : Expr) (ifs : List Expr) (S : SR β) (pv : Bool) (fv : β) : Prop :=
  Blk X scope fun B => (∀ c, ifs = [c] → JT B σ G H c pv) ∧ (pv = true → JR B σ G H elt S fv)
/-- over a list, the target a name -/
theorem je_lcL {n : Str} (j : Nat) {pn : Pos} {scope : Scope} {xs : List α} {p : α → Bool} {f : α → β} (hc : X.calm = true) (hN : X.N.Nodup) (hi : JR X σ G H it (rQ X.K R) xs) (ok : BlkOk X.N X.env.scope scope [(n, j)])
    (hif : (ifs = [] ∧ ∀ x, p x = true) ∨ ∃ c, ifs = [c]) (hl : xs.length ≤ 1000000)
    (hb : ∀ (i : Nat) (x : α) (v : V) G3 H3, xs[i]? = some x → Gw G H G3 H3 → R.r G3 v x → Lcb X ((wipe σ [j]).set j (some v)) G3 H3 scope elt ifs S (p x) (f x))
    (hg : Blk X scope fun B => PG B (.Name n pn) (gName j) := by exact fun _ _ _ _ _ => pg_name (by assumption) rfl (Or.inl rfl)) (hwp : ∀ v, wipe ((wipe σ [j]).set j (some v)) [j] = wipe σ [j] := by intro _; rfl)
    (hfs : ∀ x, foldedSetIterable it X.env x = pure x := by intro _; rfl) : JR X σ G H (.ListComp elt [⟨.Name n pn, it, ifs, 0⟩] scope pos) (rL S) ((xs.filter p).map f) :=
  lc_gen (g := gName j) (wi := iList X.K (WE X it)) hc hN (pi_list pe_w) ok hg hif hfs hl fun G0 H0 w0 Rr hR => hi G0 H0 w0 _ fun v G1 H1 w1 hv => by
    obtain ⟨q, vs, rfl, hq, hp⟩ := hv
    refine ⟨q, rfl, ⟨vs, w1.s.seq hq⟩, hR _ G1 H1 w1 ⟨_, _, by rw [← Paired.len hp]; exact walk_list, fun H' s => s.seq hq, ?_⟩⟩
    rintro i x u H' H2 G' hx w' ⟨rfl, hu⟩
    obtain ⟨u', hu', ru⟩ := Paired.get hp hx
    rw [hu] at hu'
    cases hu'
    exact ⟨G', Gw.refl w'.s, fun QQ hk => hk _ (hwp u) fun G3 H3 w3 => hb i x u G3 H3 hx (((w0.t w1).t w').t w3) (R.m (w'.g.trans w3.g) ru)⟩
/-- over range(a, b) -/
theorem je_lcR {n : Str} (j : Nat) {pn ps : Pos} {fp : Pos} {scope : Scope} {lo hi : Int} {p : Int → Bool} {f : Int → β} (hc : X.calm = true) (hN : X.N.Nodup) (hm : X.mg "range" = none) (h1 : JR X σ G H a rInt lo) (h2 : JR X σ G H b rInt hi)
    (hlo : -1000000 ≤ lo ∧ lo ≤ 1000000) (hhi : -1000000 ≤ hi ∧ hi ≤ 1000000) (hd : hi - lo ≤ 1000000) (ok : BlkOk X.N X.env.scope scope [(n, j)]) (hif : (ifs = [] ∧ ∀ x, p x = true) ∨ ∃ c, ifs = [c])
    (hb : ∀ x G3 H3, lo ≤ x → x < hi → Gw G H G3 H3 → Lcb X ((wipe σ [j]).set j (some (.int x))) G3 H3 scope elt ifs S (p x) (f x))
    (hgl : Gl X "range" := by rfl) (hs1 : starEach [a, b] X.env = (false, eval a X.env) :: starEach [b] X.env := by rfl) (hs2 : starEach [b] X.env = (false, eval b X.env) :: starEach [] X.env := by rfl)
    (hs3 : starEach [a, b] X.env = [(false, eval a X.env), (false, eval b X.env)] := by rfl) (hs4 : starEach [b] X.env = [(false, eval b X.env)] := by rfl)
    (hg : Blk X scope fun B => PG B (.Name n pn) (gName j) := by exact fun _ _ _ _ _ => pg_name (by assumption) rfl (Or.inl rfl)) (hwp : ∀ v, wipe ((wipe σ [j]).set j (some v)) [j] = wipe σ [j] := by intro _; rfl)
    (hfs : ∀ x, foldedSetIterable (.Call (.Name "range" ps) [a, b] [] fp) X.env x = pure x := by intro _; rfl) : JR X σ G H (.ListComp elt [⟨.Name n pn, .Call (.Name "range" ps) [a, b] [] fp, ifs, 0⟩] scope pos) (rL S) (((Mir.rng lo hi).filter p).map f) :=
  lc_gen (g := gName j) (wi := iRng2 (WA X [a, b])) hc hN (pi_range2 hgl hm pa_w hs3 hs4) ok hg hif hfs (by unfold Mir.rng; rw [List.length_map, List.length_range]; omega) fun G0 H0 w0 Rr hR => ja_cons h1 (ja_cons h2 ja_nil hs2) hs1 G0 H0 w0 _ fun vs G1 H1 w1 hv => by
    obtain ⟨_, _, rfl, rfl, _, _, rfl, rfl, rfl⟩ := hv
    refine ⟨lo, hi, rfl, ⟨by omega, by omega, by omega, by omega⟩, hR _ G1 H1 w1 ⟨fun _ => True, _, by rw [show (Mir.rng lo hi).length = (hi - lo).toNat by unfold Mir.rng; rw [List.length_map, List.length_range]]; exact walk_range, fun _ _ => trivial, ?_⟩⟩
    rintro i x u H' H2 G' hx w' ⟨rfl, hu⟩
    have hx2 : x = lo + (i : Int) ∧ i < (hi - lo).toNat := by
      unfold Mir.rng at hx
      rw [List.getElem?_map, Option.map_eq_some_iff] at hx
      obtain ⟨z, hz, e⟩ := hx
      obtain ⟨q1, q2⟩ := List.getElem?_eq_some_iff.mp hz
      rw [List.length_range] at q1
      rw [List.getElem_range] at q2
      subst q2
      exact ⟨e.symm, q1⟩
    obtain ⟨rfl, hi2⟩ := hx2
    subst hu
    exact ⟨G', Gw.refl w'.s, fun QQ hk => hk _ (hwp _) fun G3 H3 w3 => hb _ G3 H3 (by omega) (by omega) (((w0.t w1).t w').t w3)⟩
/-! ### for -/
/-- what a turn is to reach: the invariant at some greater still part -/
abbrev Nxt (Iv : Nat → L2.St → Hp → Hp → Prop) (G : Hp) (i : Nat) : L2.St → Hp → Prop := fun σ2 H2 => ∃ G2, Same G G2 ∧ Same G2 H2 ∧ Iv (i + 1) σ2 G2 H2
theorem Nxt.mk {Iv : Nat → L2.St → Hp → Hp → Prop} {i : Nat} {G2 H2 : Hp} {σ2 : L2.St} (w : Gw G H G2 H2) (h : Iv (i + 1) σ2 G2 H2) : Nxt Iv G i σ2 H2 := ⟨G2, w.g, w.s, h⟩
abbrev Dt (D : Ends) (Iv : Nat → L2.St → Hp → Hp → Prop) (G : Hp) (i : Nat) (rest : L2.St → Hp → Prop) : Ends := { D with nx := Nxt Iv G i, ct := Nxt Iv G i, bk := rest }
theorem for_gen {tg : Expr} {wi : TI} {g : TG} {ι : Type} {xs : List ι} (hs : Same G H) (hp : PassesOwn (model X.prog X.w) X.A X.env X.xe) (hc : X.calm = true) (hi : PI X tg it wi) (hg : PG X tg g) (hfs : ∀ x, foldedSetIterable it X.env x = pure x)
    (Iv : Nat → L2.St → Hp → Hp → Prop) (h0 : ∀ G1 H1, Gw G H G1 H1 → Iv 0 σ G1 H1)
    (hw : ∀ R : It → Hp → Prop, (∀ J G1 H1, Gw G H G1 H1 → (∃ (Gd : Hp → Prop) (Y : Nat → Hp → V → Hp → Prop), Walk J xs.length Gd Y ∧ (∀ H', Same G1 H' → Gd H') ∧
      ∀ i x v σ' H' H2 G', xs[i]? = some x → Same G1 G' → Same G' H' → Iv i σ' G' H' → Y i H' v H2 →
        ∀ QQ : L2.St → Hp → Prop, (∀ σ2 H3, WSs X body (Dt D Iv G' i fun σ3 H3 => WSs X rest D σ3 H3) σ2 H3 → QQ σ2 H3) → g v σ' H2 QQ) → R J H1) → wi σ H R)
    (hd : ∀ σ' G' H', Same G G' → Same G' H' → Iv xs.length σ' G' H' → WSs X rest D σ' H') : WSs X (.For tg it body [] pos :: rest) D σ H := by
  refine WSs.cons (ps_for hp hc hi hg pss_w hfs) ?_
  refine hw _ fun J G1 H1 w1 hJ => ?_
  obtain ⟨Gd, Y, W, hG, hY⟩ := hJ
  refine for_it (g := g) (tb := WSs X body) (σ := σ) W (fun i σ' H' => ∃ G', Same G1 G' ∧ Same G' H' ∧ Iv i σ' G' H') ⟨G1, Same.refl _, w1.s, h0 G1 H1 w1⟩ ?_ ?_ ?_
  · rintro i σ' H' hi ⟨G', s1, s2, _⟩
    exact hG H' (s1.trans s2)
  · rintro i v σ' H' H2 hlt ⟨G', s1, s2, hv⟩ y
    have hx : xs[i]? = some xs[i] := List.getElem?_eq_getElem hlt
    have z := hY i xs[i] v σ' H' H2 G' hx s1 s2 hv y
    have mono : ∀ σ2 H3, WSs X body (Dt D Iv G' i fun σ3 H3 => WSs X rest D σ3 H3) σ2 H3 → WSs X body { D with nx := fun σ' H' => ∃ G', Same G1 G' ∧ Same G' H' ∧ Iv (i + 1) σ' G' H', ct := fun σ' H' => ∃ G', Same G1 G' ∧ Same G' H' ∧ Iv (i + 1) σ' G' H', bk := fun σ3 H3 => WSs X rest D σ3 H3 } σ2 H3 := fun σ2 H3 q pins s I =>
      thn (q pins s I) fun fl s' e => by
        cases fl with
        | next =>
          obtain ⟨σ4, H4, I4, G4, a1, a2, a3⟩ := e
          exact ⟨σ4, H4, I4, G4, s1.trans a1, a2, a3⟩
        | cont =>
          obtain ⟨σ4, H4, I4, G4, a1, a2, a3⟩ := e
          exact ⟨σ4, H4, I4, G4, s1.trans a1, a2, a3⟩
        | brk => exact e
        | ret v => exact e
    exact z _ mono
  · rintro σ' H' ⟨G', s1, s2, hv⟩
    exact hd σ' G' H' (w1.g.trans s1) s2 hv
/-- for n in a list -/
theorem ws_forL {n : Str} (j : Nat) {pn : Pos} {xs : List α} (hs : Same G H) (hi : JR X σ G H it (rQ X.K R) xs) (Iv : Nat → L2.St → Hp → Hp → Prop) (h0 : ∀ G1 H1, Gw G H G1 H1 → Iv 0 σ G1 H1)
    (hb : ∀ (i : Nat) (x : α) (v : V) σ' G' H', xs[i]? = some x → Same G G' → Same G' H' → Iv i σ' G' H' → R.r G' v x → WSs X body (Dt D Iv G' i fun σ3 H3 => WSs X rest D σ3 H3) (σ'.set j (some v)) H')
    (hd : ∀ σ' G' H', Same G G' → Same G' H' → Iv xs.length σ' G' H' → WSs X rest D σ' H') (hc : X.calm = true) (hN : X.N.Nodup)
    (hp : PassesOwn (model X.prog X.w) X.A X.env X.xe := by exact PassesOwn.never) (hg : PG X (.Name n pn) (gName j) := by exact pg_name (by assumption) rfl (by first | exact Or.inl rfl | exact Or.inr rfl)) (hfs : ∀ x, foldedSetIterable it X.env x = pure x := by intro _; rfl) :
    WSs X (.For (.Name n pn) it body [] pos :: rest) D σ H :=
  for_gen (xs := xs) (g := gName j) (wi := iList X.K (WE X it)) hs hp hc (pi_list pe_w) hg hfs Iv h0 (fun Rr hR => hi G H (Gw.refl hs) _ fun v G1 H1 w1 hv => by
    obtain ⟨q, vs, rfl, hq, hpr⟩ := hv
    refine ⟨q, rfl, ⟨vs, w1.s.seq hq⟩, hR _ G1 H1 w1 ⟨_, _, by rw [← Paired.len hpr]; exact walk_list, fun H' s => s.seq hq, ?_⟩⟩
    rintro i x u σ' H' H2 G' hx s1 s2 iv ⟨rfl, hu⟩ QQ hQ
    obtain ⟨u', hu', ru⟩ := Paired.get hpr hx
    rw [hu] at hu'
    cases hu'
    exact hQ _ _ (hb i x u σ' G' H2 hx (w1.g.trans s1) s2 iv (R.m s1 ru))) hd
theorem rng_at {lo hi : Int} {i : Nat} {x : Int} (h : (Mir.rng lo hi)[i]? = some x) : x = lo + (i : Int) ∧ i < (hi - lo).toNat := by
  unfold Mir.rng at h
  rw [List.getElem?_map, Option.map_eq_some_iff] at h
  obtain ⟨z, hz, e⟩ := h
  obtain ⟨q1, q2⟩ := List.getElem?_eq_some_iff.mp hz
  rw [List.length_range] at q1
  rw [List.getElem_range] at q2
  subst q2
  exact ⟨e.symm, q1⟩
theorem rng_len {lo hi : Int} : (Mir.rng lo hi).length = (hi - lo).toNat := by unfold Mir.rng; rw [List.length_map, List.length_range]
/-- for n in range(a) -/
theorem ws_forR {n : Str} (j : Nat) {pn ps fp : Pos} {hi : Int} (hs : Same G H) (hm : X.mg "range" = none) (h1 : JR X σ G H a rInt hi) (hhi : -1000000 ≤ hi ∧ hi ≤ 1000000) (Iv : Nat → L2.St → Hp → Hp → Prop) (h0 : ∀ G1 H1, Gw G H G1 H1 → Iv 0 σ G1 H1)
    (hb : ∀ (i : Nat) σ' G' H', (i : Int) < hi → Same G G' → Same G' H' → Iv i σ' G' H' → WSs X body (Dt D Iv G' i fun σ3 H3 => WSs X rest D σ3 H3) (σ'.set j (some (.int (i : Int)))) H')
    (hd : ∀ σ' G' H', Same G G' → Same G' H' → Iv hi.toNat σ' G' H' → WSs X rest D σ' H') (hc : X.calm = true) (hN : X.N.Nodup)
    (hgl : Gl X "range" := by rfl) (hs1 : starEach [a] X.env = (false, eval a X.env) :: starEach [] X.env := by rfl) (hs2 : starEach [a] X.env = [(false, eval a X.env)] := by rfl)
    (hp : PassesOwn (model X.prog X.w) X.A X.env X.xe := by exact PassesOwn.never) (hg : PG X (.Name n pn) (gName j) := by exact pg_name (by assumption) rfl (by first | exact Or.inl rfl | exact Or.inr rfl)) (hfs : ∀ x, foldedSetIterable (.Call (.Name "range" ps) [a] [] fp) X.env x = pure x := by intro _; rfl) :
    WSs X (.For (.Name n pn) (.Call (.Name "range" ps) [a] [] fp) body [] pos :: rest) D σ H :=
  for_gen (xs := Mir.rng 0 hi) (g := gName j) (wi := iRng1 (WA X [a])) hs hp hc (pi_range1 hgl hm pa_w hs2) hg hfs Iv h0 (fun Rr hR => ja_cons h1 ja_nil hs1 G H (Gw.refl hs) _ fun vs G1 H1 w1 hv => by
    obtain ⟨_, _, rfl, rfl, rfl⟩ := hv
    refine ⟨hi, rfl, by omega, by omega, hR _ G1 H1 w1 ⟨fun _ => True, _, by rw [rng_len, Int.sub_zero]; exact walk_range, fun _ _ => trivial, ?_⟩⟩
    rintro i x u σ' H' H2 G' hx s1 s2 iv ⟨rfl, hu⟩ QQ hQ
    obtain ⟨hx1, hi2⟩ := rng_at hx
    subst hu
    show gName j (V.int (0 + (i : Int))) σ' _ QQ
    rw [show (0 : Int) + (i : Int) = (i : Int) by omega]
    exact hQ _ _ (hb i σ' G' _ (by omega) (w1.g.trans s1) s2 iv)) (fun σ' G' H' s1 s2 iv => hd σ' G' H' s1 s2 (by rw [rng_len, Int.sub_zero] at iv; exact iv))
/-- for k, x in enumerate(list) -/
theorem ws_forE {tgx : Expr} {n : Str} (j : Nat) {gx : TG} {pn ps fp pt : Pos} {kk : Nat} {xs : List α} (hs : Same G H) (hm : X.mg "enumerate" = none) (hi : JR X σ G H a (rQ X.K R) xs) (hc : X.calm = true) (hN : X.N.Nodup) (hgx : PG X tgx gx) (Iv : Nat → L2.St → Hp → Hp → Prop) (h0 : ∀ G1 H1, Gw G H G1 H1 → Iv 0 σ G1 H1)
    (hb : ∀ (i : Nat) (x : α) (v : V) σ' G' H', xs[i]? = some x → Same G G' → Same G' H' → Iv i σ' G' H' → R.r G' v x → ∀ QQ : L2.St → Hp → Prop, (∀ σ2 H3, WSs X body (Dt D Iv G' i fun σ3 H3 => WSs X rest D σ3 H3) σ2 H3 → QQ σ2 H3) → gx v (σ'.set j (some (.int (i : Int)))) H' QQ)
    (hst : ∀ (i : Nat) σ' G' H' H2, Iv i σ' G' H' → Gw G' H' G' H2 → Iv i σ' G' H2)
    (hd : ∀ σ' G' H', Same G G' → Same G' H' → Iv xs.length σ' G' H' → WSs X rest D σ' H')
    (hgl : Gl X "enumerate" := by rfl) (hs1 : starEach [a] X.env = (false, eval a X.env) :: starEach [] X.env := by rfl) (hs2 : starEach [a] X.env = [(false, eval a X.env)] := by rfl)
    (hp : PassesOwn (model X.prog X.w) X.A X.env X.xe := by exact PassesOwn.never) (hg : PG X (.Name n pn) (gName j) := by exact pg_name (by assumption) rfl (by first | exact Or.inl rfl | exact Or.inr rfl))
    (hn : (assignEach [.Name n pn, tgx] X.env).length = 2 := by rfl) (hsi : (assignEach [.Name n pn, tgx] X.env).findIdx? (·.1) = none := by rfl)
    (hc1 : (assignEach (.Name n pn :: [tgx]) X.env).map (·.2) = assign (.Name n pn) X.env :: (assignEach [tgx] X.env).map (·.2) := by rfl) (hc2 : (assignEach (tgx :: []) X.env).map (·.2) = assign tgx X.env :: (assignEach [] X.env).map (·.2) := by rfl)
    (hfs : ∀ x, foldedSetIterable (.Call (.Name "enumerate" ps) [a] [] fp) X.env x = pure x := by intro _; rfl) :
    WSs X (.For (.Tuple [.Name n pn, tgx] kk pt) (.Call (.Name "enumerate" ps) [a] [] fp) body [] pos :: rest) D σ H :=
  for_gen (xs := xs) (g := gTup X.K 2 (gCons (gName j) (gCons gx gNil))) (wi := iEnum X.K (WA X [a])) hs hp hc (pi_enum hgl hm pa_w hs2) (pg_tup hc (pgs_cons hg (pgs_cons hgx pgs_nil hc2) hc1) hn hsi) hfs Iv h0 (fun Rr hR => ja_cons hi ja_nil hs1 G H (Gw.refl hs) _ fun vs G1 H1 w1 hv => by
    obtain ⟨_, _, rfl, hv, rfl⟩ := hv
    obtain ⟨q, vs, rfl, hq, hpr⟩ := hv
    refine ⟨q, vs, rfl, w1.s.seq hq, hR _ G1 H1 w1 ⟨_, _, by rw [← Paired.len hpr]; exact walk_enum, fun H' s => s.seq hq, ?_⟩⟩
    rintro i x u σ' H' H2 G' hx s1 s2 iv ⟨T, y, u', rfl, hT, rfl, e1, e2⟩ QQ hQ
    cases e1
    obtain ⟨u2, hu2, ru⟩ := Paired.get hpr hx
    have e2 : vs[i]? = some u' := e2
    rw [hu2] at e2
    cases e2
    have w2 := Gw.mut (o := .tup [.int (i : Int), u']) s2 hT
    refine ⟨T, [.int (i : Int), u'], rfl, SqT.of upd_same, rfl, _, _, rfl, _, _, rfl, ?_⟩
    exact hb i x u' σ' G' _ hx (w1.g.trans s1) w2.s (hst i σ' G' H' _ iv w2) (R.m s1 ru) _ fun σ2 H3 hq => ⟨rfl, hQ _ _ hq⟩) hd
/-- for a, b in zip(xs, ys), lists of one length -/
theorem ws_forZ {n1 n2 : Str} (j1 j2 : Nat) {p1 p2 ps fp pt : Pos} {kk : Nat} {xs : List α} {ys : List β} (hs : Same G H) (hm : X.mg "zip" = none) (hi1 : JR X σ G H a (rQ X.K R) xs) (hi2 : JR X σ G H b (rQ X.K S) ys) (hc : X.calm = true) (hN : X.N.Nodup) (Iv : Nat → L2.St → Hp → Hp → Prop) (h0 : ∀ G1 H1, Gw G H G1 H1 → Iv 0 σ G1 H1)
    (hb : ∀ (i : Nat) (x : α) (y : β) (v u : V) σ' G' H', (xs.zip ys)[i]? = some (x, y) → Same G G' → Same G' H' → Iv i σ' G' H' → R.r G' v x → S.r G' u y → WSs X body (Dt D Iv G' i fun σ3 H3 => WSs X rest D σ3 H3) ((σ'.set j1 (some v)).set j2 (some u)) H')
    (hst : ∀ (i : Nat) σ' G' H' H2, Iv i σ' G' H' → Gw G' H' G' H2 → Iv i σ' G' H2)
    (hd : ∀ σ' G' H', Same G G' → Same G' H' → Iv (xs.zip ys).length σ' G' H' → WSs X rest D σ' H')
    (hgl : Gl X "zip" := by rfl) (hs1 : starEach [a, b] X.env = (false, eval a X.env) :: starEach [b] X.env := by rfl) (hs2 : starEach [b] X.env = (false, eval b X.env) :: starEach [] X.env := by rfl) (hpl : (backTo fp (starEach [b] X.env)).any (·.1) = false := by rfl)
    (hp : PassesOwn (model X.prog X.w) X.A X.env X.xe := by exact PassesOwn.never) (hg1 : PG X (.Name n1 p1) (gName j1) := by exact pg_name (by assumption) rfl (by first | exact Or.inl rfl | exact Or.inr rfl)) (hg2 : PG X (.Name n2 p2) (gName j2) := by exact pg_name (by assumption) rfl (by first | exact Or.inl rfl | exact Or.inr rfl))
    (hn : (assignEach [.Name n1 p1, .Name n2 p2] X.env).length = 2 := by rfl) (hsi : (assignEach [.Name n1 p1, .Name n2 p2] X.env).findIdx? (·.1) = none := by rfl)
    (hc1 : (assignEach (.Name n1 p1 :: [.Name n2 p2]) X.env).map (·.2) = assign (.Name n1 p1) X.env :: (assignEach [.Name n2 p2] X.env).map (·.2) := by rfl) (hc2 : (assignEach (.Name n2 p2 :: []) X.env).map (·.2) = assign (.Name n2 p2) X.env :: (assignEach [] X.env).map (·.2) := by rfl)
    (hfs : ∀ x, foldedSetIterable (.Call (.Name "zip" ps) [a, b] [] fp) X.env x = pure x := by intro _; rfl) :
    WSs X (.For (.Tuple [.Name n1 p1, .Name n2 p2] kk pt) (.Call (.Name "zip" ps) [a, b] [] fp) body [] pos :: rest) D σ H :=
  for_gen (xs := xs.zip ys) (g := gTup X.K 2 (gCons (gName j1) (gCons (gName j2) gNil))) (wi := iZip X.K (WA X [a, b])) hs hp hc (pi_zip hgl hm pa_w hs1 hpl) (pg_tup hc (pgs_cons hg1 (pgs_cons hg2 pgs_nil hc2) hc1) hn hsi) hfs Iv h0 (fun Rr hR => ja_cons hi1 (ja_cons hi2 ja_nil hs2) hs1 G H (Gw.refl hs) _ fun vs G1 H1 w1 hv => by
    obtain ⟨_, _, rfl, hv, _, _, rfl, hu, rfl⟩ := hv
    obtain ⟨q, vs, rfl, hq, hpr⟩ := hv
    obtain ⟨r, us, rfl, hr, hpu⟩ := hu
    refine ⟨q, r, vs, us, rfl, w1.s.seq hq, w1.s.seq hr, hR _ G1 H1 w1 ⟨_, _, walk_zip (by rw [List.length_zip, Paired.len hpr, Paired.len hpu]), fun H' s => ⟨s.seq hq, s.seq hr⟩, ?_⟩⟩
    rintro i ⟨x, y⟩ u σ' H' H2 G' hx s1 s2 iv ⟨T, u1, u2, rfl, hT, rfl, e1, e2⟩ QQ hQ
    have hxy := List.getElem?_zip_eq_some.mp hx
    obtain ⟨v1, hv1, r1⟩ := Paired.get hpr hxy.1
    obtain ⟨v2, hv2, r2⟩ := Paired.get hpu hxy.2
    have e1 : vs[i]? = some u1 := e1
    have e2 : us[i]? = some u2 := e2
    rw [hv1] at e1
    rw [hv2] at e2
    cases e1
    cases e2
    have w2 := Gw.mut (o := .tup [u1, u2]) s2 hT
    refine ⟨T, [u1, u2], rfl, SqT.of upd_same, rfl, _, _, rfl, _, _, rfl, rfl, ?_⟩
    exact hQ _ _ (hb i x y u1 u2 σ' G' _ hx (w1.g.trans s1) w2.s (hst i σ' G' H' _ iv w2) (R.m s1 r1) (S.m s1 r2))) hd
end
end Ck
end
section
set_option Elab.async false
set_option linter.all false
set_option maxRecDepth 100000
set_option maxHeartbeats 4000000
namespace Ck
open PySem PySem.Spec PyProof.Rows L2
open Mir (itm)
section
variable {G H G' H' G2 H2 : Hp} {p : Addr} {o : HO}
/-- a new thing of ours is changed -/
theorem Gw.set (w : Gw G H G' H') (h0 : H p = none) (hg : G' p = none) : Gw G H G' (upd H' p o) :=
  ⟨w.g, fun a u e => by rw [upd_ne (ne_of_none e h0)]; exact w.h _ _ e, fun a u e => by rw [upd_ne (ne_of_none e hg)]; exact w.s _ _ e, w.f⟩
/-- .. is to change no more -/
theorem Gw.frz (w : Gw G H G' H') (h0 : H p = none) (hg : G' p = none) (hp : H' p = some o) : Gw G H (upd G' p o) H' := by
  refine ⟨w.g.trans (Same.new hg), w.h, fun a u e => ?_, fun a u e => ?_⟩
  · by_cases q : a = p
    · subst q
      rw [upd_same] at e
      rw [← e]
      exact hp
    · rw [upd_ne q] at e
      exact w.s _ _ e
  · by_cases q : a = p
    · subst q
      exact .inr h0
    · rw [upd_ne q] at e
      exact w.f a u e
/-- what is new behind a step was not there ahead of it -/
theorem Gw.free (w : Gw G H G' H') (h : H' p = none) : H p = none := w.h.free h
end
section
variable {X : Cx} {σ : L2.St} {G H G1 H1 : Hp} {e a b c l : Expr} {es : List Expr} {body rest : List Stmt} {pos : Pos} {α β γ δ : Type} {R : SR α} {S : SR β} {T : SR γ} {x : α} {y : β} {z : γ} {D : Ends}
/-- name = [] of a list that will grow -/
theorem ws_newL (i : Nat) {n : Str} {pos' p2 : Pos} (k : ∀ p, H p = none → WSs X rest D (σ.set i (some (.ref p))) (upd H p (.lst []))) (hN : X.N.Nodup) (hi : X.N[i]? = some n := by rfl)
    (hx : Loc X.env.scope n := by first | exact Or.inl rfl | exact Or.inr rfl) (hs : swapsWith (.List [] p2) (some (.Name n pos')) pos.line X.env = pure false := by rfl) (hf : X.fn n = true ∨ X.env.scope.names.lookup n = some .local := by first | exact .inl rfl | exact .inr rfl) :
    WSs X (.Assign [.Name n pos'] (.List [] p2) pos :: rest) D σ H :=
  WSs.cons (ps_set hN hi hx (pe_lst pa_nil) hs hf) ⟨Nat.zero_le _, fun p hp => k p hp⟩
/-- name = {} of a dict with whole-number keys -/
theorem ws_newD (i : Nat) {n : Str} {pos' p2 : Pos} (k : ∀ p, H p = none → WSs X rest D (σ.set i (some (.ref p))) (upd H p (.dK []))) (hN : X.N.Nodup) (hi : X.N[i]? = some n := by rfl)
    (hx : Loc X.env.scope n := by first | exact Or.inl rfl | exact Or.inr rfl) (hs : swapsWith (.Dict [] [] p2) (some (.Name n pos')) pos.line X.env = pure false := by rfl) (hf : X.fn n = true ∨ X.env.scope.names.lookup n = some .local := by first | exact .inl rfl | exact .inr rfl) :
    WSs X (.Assign [.Name n pos'] (.Dict [] [] p2) pos :: rest) D σ H :=
  WSs.cons (ps_set hN hi hx pe_dnewK hs hf) (fun p hp => k p hp)
theorem ws_app {p : Addr} {vs : List V} {apos cpos : Pos} (hs : Same G H) (hl : JR X σ G H l rV (.ref p)) (hp : H p = some (.lst vs)) (j : JR X σ G H e R x) (hz : vs.length < 1000000) (k : ∀ v G1 H1, Gw G H G1 H1 → R.r G1 v x → WSs X rest D σ (upd H1 p (.lst (vs ++ [v]))))
    (hst : starEach (e :: []) X.env = (false, eval e X.env) :: starEach [] X.env := by rfl) (hsw : swapsWith (.Call (.Attribute l "append" apos) [e] [] cpos) none pos.line X.env = pure false := by rfl)
    (hpe : PE X (.Call (.Attribute l "append" apos) [e] [] cpos) (tBM X.K "list" rAppend (WE X l) (WA X [e])) := by exact pe_bm PySem.F.plainAttrs_list PySem.F.slot_list_append PySem.F.type_list_append mt_append pe_w pa_w) :
    WSs X (.Expr (.Call (.Attribute l "append" apos) [e] [] cpos) pos :: rest) D σ H := by
  refine WSs.cons (ps_expr hpe hsw) ?_
  refine hl G H (Gw.refl hs) _ fun v0 G0 H0 w0 hv0 => ?_
  have e0 : v0 = .ref p := hv0
  subst e0
  refine ⟨.inl ⟨rfl, _, SqL.of (w0.h _ _ hp)⟩, ?_⟩
  refine ja_cons j ja_nil hst G H0 w0.keep _ fun vs1 G1 H1 w1 hv => ?_
  obtain ⟨v, _, rfl, hv, rfl⟩ := hv
  exact ⟨p, vs, v, rfl, rfl, w1.h _ _ (w0.h _ _ hp), szlt hz, k v G1 H1 (w0.keep.t w1) hv⟩
theorem ws_ext {p : Addr} {vs : List V} {ys : List α} {apos cpos : Pos} (hs : Same G H) (hl : JR X σ G H l rV (.ref p)) (hp : H p = some (.lst vs)) (j : JR X σ G H e (rL R) ys) (hz : vs.length + ys.length ≤ 1000000) (k : ∀ us G1 H1, Gw G H G1 H1 → Paired (R.r G1) us ys → WSs X rest D σ (upd H1 p (.lst (vs ++ us))))
    (hst : starEach (e :: []) X.env = (false, eval e X.env) :: starEach [] X.env := by rfl) (hsw : swapsWith (.Call (.Attribute l "extend" apos) [e] [] cpos) none pos.line X.env = pure false := by rfl)
    (hpe : PE X (.Call (.Attribute l "extend" apos) [e] [] cpos) (tBM X.K "list" rExtend (WE X l) (WA X [e])) := by exact pe_bm PySem.F.plainAttrs_list PySem.F.slot_list_extend PySem.F.type_list_extend mt_extend pe_w pa_w) :
    WSs X (.Expr (.Call (.Attribute l "extend" apos) [e] [] cpos) pos :: rest) D σ H := by
  refine WSs.cons (ps_expr hpe hsw) ?_
  refine hl G H (Gw.refl hs) _ fun v0 G0 H0 w0 hv0 => ?_
  have e0 : v0 = .ref p := hv0
  subst e0
  refine ⟨.inl ⟨rfl, _, SqL.of (w0.h _ _ hp)⟩, ?_⟩
  refine ja_cons j ja_nil hst G H0 w0.keep _ fun vs1 G1 H1 w1 hv => ?_
  obtain ⟨v, _, rfl, hv, rfl⟩ := hv
  obtain ⟨q, us, rfl, hq, hu⟩ := hv
  exact ⟨p, q, vs, us, rfl, rfl, w1.h _ _ (w0.h _ _ hp), w1.s _ _ hq, szl (by rw [Paired.len hu]; exact hz), k us G1 H1 (w0.keep.t w1) hu⟩
/-- return of a list that grew here -/
theorem ws_retL {n : Str} {p2 : Pos} {p : Addr} {vs : List V} {xs : List α} {G0 H0 : Hp} (hj : JR X σ G H (.Name n p2) rV (.ref p)) (w : Gw G0 H0 G H) (h0 : H0 p = none) (hg : G p = none) (hp : H p = some (.lst vs)) (hv : Paired (R.r G) vs xs)
    (k : ∀ v G' H', Gw G0 H0 G' H' → (rL R).r G' v xs → D.rt v H') : WSs X (.Return (some (.Name n p2)) pos :: rest) D σ H :=
  ws_ret w.s hj fun v G1 H1 w1 hv1 => by
    have e0 : v = .ref p := hv1
    subst e0
    have w2 := w.t w1.keep
    have w3 := w2.frz h0 hg (w1.h _ _ hp)
    exact k _ _ _ w3 ⟨p, vs, rfl, upd_same, pm (fun _ _ q => R.m (Same.new hg) q) hv⟩
/-- a sign of a text -/
def rSgn : SR Nat := ⟨fun _ v c => v = .str ⟨#[c]⟩, fun _ h => h⟩
/-- [elt for n in a text] -/
theorem je_lcS {n : Str} (j : Nat) {pn : Pos} {scope : Scope} {zs : Str} {f : Nat → β} {it elt : Expr} (hc : X.calm = true) (hN : X.N.Nodup) (hi : JR X σ G H it rStr zs) (ok : BlkOk X.N X.env.scope scope [(n, j)])
    (hl : zs.cps.toList.length ≤ 1000000)
    (hb : ∀ (i : Nat) (x : Nat) (v : V) G3 H3, zs.cps.toList[i]? = some x → Gw G H G3 H3 → rSgn.r G3 v x → Lcb X ((wipe σ [j]).set j (some v)) G3 H3 scope elt [] S true (f x))
    (hg : Blk X scope fun B => PG B (.Name n pn) (gName j) := by exact fun _ _ _ _ _ => pg_name (by assumption) rfl (Or.inl rfl)) (hwp : ∀ v, wipe ((wipe σ [j]).set j (some v)) [j] = wipe σ [j] := by intro _; rfl)
    (hfs : ∀ x, foldedSetIterable it X.env x = pure x := by intro _; rfl) : JR X σ G H (.ListComp elt [⟨.Name n pn, it, [], 0⟩] scope pos) (rL S) (zs.cps.toList.map f) := by
  have z := lc_gen (β := β) (X := X) (σ := σ) (G := G) (H := H) (S := S) (elt := elt) (it := it) (ifs := []) (pos := pos) (scope := scope) (tg := .Name n pn) (own := [(n, j)]) (xs := zs.cps.toList) (p := fun _ => true) (f := f) (g := gName j) (wi := iStr (WE X it)) hc hN (pi_str pe_w) ok hg (.inl ⟨rfl, fun _ => rfl⟩) hfs hl fun G0 H0 w0 Rr hR => hi G0 H0 w0 _ fun v G1 H1 w1 hv => by
    refine ⟨zs, hv, hR _ G1 H1 w1 ⟨fun _ => True, _, by rw [Array.length_toList]; exact walk_str, fun H' s => trivial, ?_⟩⟩
    rintro i x u H' H2 G' hx w' ⟨rfl, d, hd, rfl⟩
    have hd2 : zs.cps.toList[i]? = some d := by rw [Array.getElem?_toList]; exact hd
    rw [hx] at hd2
    cases hd2
    exact ⟨G', Gw.refl w'.s, fun QQ hk => hk _ (hwp _) fun G3 H3 w3 => hb i x _ G3 H3 hx (((w0.t w1).t w').t w3) rfl⟩
  rw [List.filter_eq_self.mpr (fun _ _ => rfl)] at z
  exact z
theorem je_ord {n : Str} {p : Pos} {c : Nat} (hn : n = "ord") (hm : X.mg "ord" = none) (ha : JR X σ G H a rSgn c) (hg : Gl X n := by rfl) (hs : starEach [a] X.env = (false, eval a X.env) :: starEach [] X.env := by rfl) : JR X σ G H (.Call (.Name n p) [a] [] pos) rInt (c : Int) := fun G0 H0 w0 Q k => by
  subst hn
  refine WE.of (pe_callB call_ord hg hm (by decide +kernel) (pa_cons pe_w pa_nil hs) (he := hs)) ?_
  refine ha G0 H0 w0 _ fun v G1 H1 w1 hv => ?_
  have e : v = .str ⟨#[c]⟩ := hv
  subst e
  exact ⟨_, rfl, rfl, k _ G1 H1 w1 rfl⟩

/-- [elt for n in xs] -/
theorem je_lcM {n : Str} (j : Nat) {pn : Pos} {scope : Scope} {it elt : Expr} {xs : List α} {f : α → β} (hc : X.calm = true) (hN : X.N.Nodup) (hi : JR X σ G H it (rQ X.K R) xs) (ok : BlkOk X.N X.env.scope scope [(n, j)]) (hl : xs.length ≤ 1000000)
    (hb : ∀ (i : Nat) (x : α) (v : V) G3 H3, xs[i]? = some x → Gw G H G3 H3 → R.r G3 v x → Blk X scope fun B => JR B ((wipe σ [j]).set j (some v)) G3 H3 elt S (f x))
    (hg : Blk X scope fun B => PG B (.Name n pn) (gName j) := by exact fun _ _ _ _ _ => pg_name (by assumption) rfl (Or.inl rfl)) (hwp : ∀ v, wipe ((wipe σ [j]).set j (some v)) [j] = wipe σ [j] := by intro _; rfl)
    (hfs : ∀ x, foldedSetIterable it X.env x = pure x := by intro _; rfl) : JR X σ G H (.ListComp elt [⟨.Name n pn, it, [], 0⟩] scope pos) (rL S) (xs.map f) := by
  have z := je_lcL (elt := elt) (pos := pos) (S := S) (ifs := []) (p := fun _ => true) (f := f) j hc hN hi ok (.inl ⟨rfl, fun _ => rfl⟩) hl (fun i x v G3 H3 h1 h2 h3 s Hb C cl fp => ⟨fun c hc => (nomatch hc), fun _ => hb i x v G3 H3 h1 h2 h3 s Hb C cl fp⟩) hg hwp hfs
  rw [List.filter_eq_self.mpr (fun _ _ => rfl)] at z
  exact z
/-- [elt for n in xs if c] -/
theorem je_lcF {n : Str} (j : Nat) {pn : Pos} {scope : Scope} {it elt : Expr} {xs : List α} {p : α → Bool} {f : α → β} (hc : X.calm = true) (hN : X.N.Nodup) (hi : JR X σ G H it (rQ X.K R) xs) (ok : BlkOk X.N X.env.scope scope [(n, j)]) (hl : xs.length ≤ 1000000)
    (ht : ∀ (i : Nat) (x : α) (v : V) G3 H3, xs[i]? = some x → Gw G H G3 H3 → R.r G3 v x → Blk X scope fun B => JT B ((wipe σ [j]).set j (some v)) G3 H3 c (p x))
    (hb : ∀ (i : Nat) (x : α) (v : V) G3 H3, xs[i]? = some x → p x = true → Gw G H G3 H3 → R.r G3 v x → Blk X scope fun B => JR B ((wipe σ [j]).set j (some v)) G3 H3 elt S (f x))
    (hg : Blk X scope fun B => PG B (.Name n pn) (gName j) := by exact fun _ _ _ _ _ => pg_name (by assumption) rfl (Or.inl rfl)) (hwp : ∀ v, wipe ((wipe σ [j]).set j (some v)) [j] = wipe σ [j] := by intro _; rfl)
    (hfs : ∀ x, foldedSetIterable it X.env x = pure x := by intro _; rfl) : JR X σ G H (.ListComp elt [⟨.Name n pn, it, [c], 0⟩] scope pos) (rL S) ((xs.filter p).map f) :=
  je_lcL (elt := elt) (pos := pos) (S := S) (ifs := [c]) (p := p) (f := f) j hc hN hi ok (.inr ⟨c, rfl⟩) hl (fun i x v G3 H3 h1 h2 h3 s Hb C cl fp => ⟨fun c' hc => by cases hc; exact ht i x v G3 H3 h1 h2 h3 s Hb C cl fp, fun hp => hb i x v G3 H3 h1 hp h2 h3 s Hb C cl fp⟩) hg hwp hfs
/-- [n for n in xs if c] -/
theorem je_lcP {n : Str} (j : Nat) {pn pe : Pos} {scope : Scope} {it : Expr} {xs : List α} {p : α → Bool} (hc : X.calm = true) (hN : X.N.Nodup) (hi : JR X σ G H it (rQ X.K R) xs) (ok : BlkOk X.N X.env.scope scope [(n, j)]) (hl : xs.length ≤ 1000000)
    (ht : ∀ (i : Nat) (x : α) (v : V) G3 H3, xs[i]? = some x → Gw G H G3 H3 → R.r G3 v x → Blk X scope fun B => JT B ((wipe σ [j]).set j (some v)) G3 H3 c (p x))
    (hb : ∀ (i : Nat) (x : α) (v : V) G3 H3, xs[i]? = some x → p x = true → Gw G H G3 H3 → R.r G3 v x → Blk X scope fun B => JR B ((wipe σ [j]).set j (some v)) G3 H3 (.Name n pe) R x)
    (hg : Blk X scope fun B => PG B (.Name n pn) (gName j) := by exact fun _ _ _ _ _ => pg_name (by assumption) rfl (Or.inl rfl)) (hwp : ∀ v, wipe ((wipe σ [j]).set j (some v)) [j] = wipe σ [j] := by intro _; rfl)
    (hfs : ∀ x, foldedSetIterable it X.env x = pure x := by intro _; rfl) : JR X σ G H (.ListComp (.Name n pe) [⟨.Name n pn, it, [c], 0⟩] scope pos) (rL R) (xs.filter p) := by
  have z := je_lcF (elt := .Name n pe) (pos := pos) (S := R) (p := p) (f := id) j hc hN hi ok hl ht hb hg hwp hfs
  rw [List.map_id] at z
  exact z

/-! ### data compared -/
/-- a represented kind that is plain data -/
class Dat {α : Type} (R : SR α) where
  d : α → PyData
  dp : ∀ {K : PySem.W.Frag} {G : Hp} {v : V} {x : α}, R.r G v x → Dp K G v (d x)
  lay : ∀ x, (d x).canLay0 = true
  dep : Nat
  depth : ∀ x, (d x).depth ≤ dep
  eqv : ∀ x y, PyData.eqv (d x) (d y) = true ↔ x = y
instance : Dat rInt where
  d := .int
  dp := fun h => by cases h; exact .int _
  lay := fun x => by simp [PyData.canLay0]
  dep := 1
  depth := fun x => by simp [PyData.depth]
  eqv := fun x y => by simp [PyData.eqv]
theorem Dp.mono {K : PySem.W.Frag} {G G' : Hp} (e : Same G G') : ∀ {d : PyData} {v : V}, Dp K G v d → Dp K G' v d := by
  intro d v h
  refine Dp.rec (K := K) (H := G) (motive_1 := fun v d _ => Dp K G' v d) (motive_2 := fun vs ds _ => DpAll K G' vs ds) ?_ ?_ ?_ ?_ ?_ ?_ ?_ ?_ h
  · exact .non
  · intro b; exact .bl b
  · intro b; exact .int b
  · intro b; exact .str b
  · intro a xs ds h1 _ h2; exact .lst (e.seq h1) h2
  · intro a xs ds h1 _ h2
    refine .tup ?_ h2
    rcases h1 with (h | ⟨o, h⟩) | h
    · exact .inl (.inl (e _ _ h))
    · exact .inl (.inr ⟨o, e _ _ h⟩)
    · exact .inr h
  · exact .nil
  · intro v vs d ds _ _ h1 h2; exact .cons h1 h2
end
end Ck
end
section
set_option Elab.async false
set_option linter.all false
set_option maxRecDepth 100000
set_option maxHeartbeats 4000000
namespace Ck
open PySem PySem.Spec PyProof.Rows L2
open Mir (itm)
theorem dpAll {α : Type} {R : SR α} [D : Dat R] {K : PySem.W.Frag} {G : Hp} : ∀ {vs : List V} {xs : List α}, Paired (R.r G) vs xs → DpAll K G vs (xs.map D.d)
  | _, _, .nil => .nil
  | _, _, .cons a b => .cons (D.dp a) (dpAll b)
theorem layAll {α : Type} {R : SR α} [D : Dat R] : ∀ xs : List α, PyData.canLayAll0 (xs.map D.d) = true
  | [] => by simp [PyData.canLayAll0]
  | x :: r => by
    rw [List.map_cons, PyData.canLayAll0, D.lay x, layAll r]
    rfl
theorem depAll {α : Type} {R : SR α} [D : Dat R] : ∀ xs : List α, PyData.depthAll (xs.map D.d) ≤ D.dep
  | [] => by simp [PyData.depthAll]
  | x :: r => by
    have a := D.depth x
    have b := depAll (R := R) r
    rw [List.map_cons, PyData.depthAll]
    omega
theorem eqvAll {α : Type} {R : SR α} [D : Dat R] : ∀ xs ys : List α, PyData.eqvAll (xs.map D.d) (ys.map D.d) = true ↔ xs = ys
  | [], [] => by simp [PyData.eqvAll]
  | [], y :: s => by simp [PyData.eqvAll]
  | x :: r, [] => by simp [PyData.eqvAll]
  | x :: r, y :: s => by
    rw [List.map_cons, List.map_cons, PyData.eqvAll, Bool.and_eq_true, D.eqv x y, eqvAll r s, List.cons.injEq]
instance datL {α : Type} (R : SR α) [D : Dat R] : Dat (rL R) where
  d := fun xs => .list (xs.map D.d)
  dp := fun h => by
    obtain ⟨a, vs, rfl, h2, h3⟩ := h
    exact .lst (SqL.of h2) (dpAll h3)
  lay := fun x => by
    show PyData.canLay0 (.list _) = true
    rw [PyData.canLay0]
    exact layAll x
  dep := D.dep + 1
  depth := fun x => by
    have := depAll (R := R) x
    show PyData.depth (.list _) ≤ _
    rw [PyData.depth]
    omega
  eqv := fun x y => by
    show PyData.eqv (.list _) (.list _) = true ↔ _
    rw [PyData.eqv]
    exact eqvAll x y
instance datT2 {α β : Type} (R : SR α) (S : SR β) [D : Dat R] [E : Dat S] : Dat (rT2 R S) where
  d := fun x => .tuple [D.d x.1, E.d x.2]
  dp := fun h => by
    obtain ⟨a, u, w, rfl, h2, h3, h4⟩ := h
    exact .tup (SqT.of h2) (.cons (D.dp h3) (.cons (E.dp h4) .nil))
  lay := fun x => by
    show PyData.canLay0 (.tuple _) = true
    simp [PyData.canLay0, PyData.canLayAll0, D.lay, E.lay]
  dep := max D.dep E.dep + 1
  depth := fun x => by
    have a := D.depth x.1
    have b := E.depth x.2
    show PyData.depth (.tuple _) ≤ _
    simp only [PyData.depth, PyData.depthAll]
    omega
  eqv := fun x y => by
    show PyData.eqv (.tuple _) (.tuple _) = true ↔ _
    simp only [PyData.eqv, PyData.eqvAll, Bool.and_true, Bool.and_eq_true, D.eqv, E.eqv]
    constructor
    · rintro ⟨h1, h2⟩
      exact Prod.ext h1 h2
    · rintro rfl
      exact ⟨rfl, rfl⟩
theorem shaped_of {α : Type} {R : SR α} [D : Dat R] (h : D.dep ≤ 64) (x : α) : SeqAt.shaped (D.d x) = true := by
  unfold SeqAt.shaped
  rw [D.lay x, decide_eq_true (Nat.le_trans (D.depth x) h)]
  rfl
theorem eqv_dec {α : Type} {R : SR α} [D : Dat R] [DecidableEq α] (x y : α) : PyData.eqv (D.d x) (D.d y) = decide (x = y) := by
  by_cases h : x = y
  · rw [decide_eq_true h]
    exact (D.eqv x y).mpr h
  · rw [decide_eq_false h]
    cases q : PyData.eqv (D.d x) (D.d y) with
    | false => rfl
    | true => exact absurd ((D.eqv x y).mp q) h
section
variable {X : Cx} {σ : L2.St} {G H G1 H1 : Hp} {e a b c l : Expr} {es : List Expr} {body rest : List Stmt} {pos : Pos} {α β γ δ : Type} {R : SR α} {S : SR β} {T : SR γ} {D : Ends}
theorem jc_eqD [Q : Dat R] [DecidableEq α] {x y : α} (ha : JR X σ G H a R x) (hb : JR X σ G H b R y) (hu : X.A.units + 64 < cLine) (hd : Q.dep ≤ 64 := by decide) : JC X σ G H .Eq a b (decide (x = y)) :=
  jc_op2 (op_eqD hu) (nomark _) ha hb (by
    intro v w G' H' w' hv hw Qq k
    refine ⟨Q.d x, Q.d y, Dp.mono w'.s (Q.dp hv), Dp.mono w'.s (Q.dp hw), shaped_of hd x, shaped_of hd y, ?_⟩
    rw [eqv_dec]
    exact k H' (Gw.refl w'.s))
theorem jc_neD [Q : Dat R] [DecidableEq α] {x y : α} (ha : JR X σ G H a R x) (hb : JR X σ G H b R y) (hu : X.A.units + 64 < cLine) (hd : Q.dep ≤ 64 := by decide) : JC X σ G H .NotEq a b (!decide (x = y)) :=
  jc_op2 (op_neD hu) (nomark _) ha hb (by
    intro v w G' H' w' hv hw Qq k
    refine ⟨Q.d x, Q.d y, Dp.mono w'.s (Q.dp hv), Dp.mono w'.s (Q.dp hw), shaped_of hd x, shaped_of hd y, ?_⟩
    rw [eqv_dec]
    exact k H' (Gw.refl w'.s))
/-- x in a list of data -/
theorem jc_inD [Q : Dat R] [DecidableEq α] {x : α} {xs : List α} (ha : JR X σ G H a R x) (hb : JR X σ G H b (rL R) xs) (hu : X.A.units + 65 < cLine) (hm : behindInMarks .In b = false := by rfl) (hd : Q.dep ≤ 62 := by decide) : JC X σ G H .In a b (xs.any fun z => decide (z = x)) :=
  jc_op2 (op_inD hu) hm ha hb (by
    intro v w G' H' w' hv hw Qq k
    obtain ⟨p, vs, rfl, hp, hvs⟩ := hw
    refine ⟨Q.d x, xs.map Q.d, Dp.mono w'.s (Q.dp hv), Dp.mono w'.s (.lst (SqL.of hp) (dpAll hvs)), shaped_of (by omega) x, shaped_of (R := rL R) (show Q.dep + 1 ≤ 64 by omega) xs, ?_⟩
    rw [List.any_map]
    have z : ((fun z => PyData.eqv z (Q.d x)) ∘ Q.d) = fun z => decide (z = x) := by
      funext z
      exact eqv_dec z x
    rw [z]
    exact k H' (Gw.refl w'.s))
/-- a list of anything against a written empty one -/
def rEqNil (K : PySem.W.Frag) (f : Bool → Bool) : R2 := fun x y H Q => ∃ p q xs, x = .ref p ∧ y = .ref q ∧ SqL K H p xs ∧ SqL K H q [] ∧ Q (.bl (f (decide (xs.length = 0)))) H
theorem op_eqNil (hu : X.A.units + 64 < cLine) : OpR X (compareOp .Eq) (rEqNil X.K id) := by
  intro pins s σ H x y v u Q I rx ry h
  obtain ⟨p, q, xs, rfl, rfl, hp, hq, k⟩ := h
  cases rx
  cases ry
  obtain ⟨its, rv, pl, _⟩ := I.list hp
  obtain ⟨its2, rv2, pl2, _⟩ := I.list hq
  have e2 : its2 = [] := by
    cases rv2
    rfl
  subst e2
  have hlen := rv.length
  by_cases hz : its = []
  · subst hz
    have : xs.length = 0 := by rw [hlen]; rfl
    rw [show id (decide (xs.length = 0)) = true by rw [decide_eq_true this]; rfl] at k
    exact SeqAt.eq_listAt (e := fun _ => true) pl.isList pl2.isList rfl (by omega) (fun j h1 => absurd h1 (by simp)) ⟨.bl true, H, I, rfl, k⟩
  · have hn : ¬ xs.length = 0 := by
      rw [hlen]
      intro z
      exact hz (List.eq_nil_of_length_eq_zero z)
    rw [show id (decide (xs.length = 0)) = false by rw [decide_eq_false hn]; rfl] at k
    exact SeqAt.eq_list_lengthsAt pl.isList pl2.isList (by simpa using hz) (by omega) ⟨.bl false, H, I, rfl, k⟩
theorem op_neNil (hu : X.A.units + 64 < cLine) : OpR X (compareOp .NotEq) (rEqNil X.K not) := by
  intro pins s σ H x y v u Q I rx ry h
  obtain ⟨p, q, xs, rfl, rfl, hp, hq, k⟩ := h
  cases rx
  cases ry
  obtain ⟨its, rv, pl, _⟩ := I.list hp
  obtain ⟨its2, rv2, pl2, _⟩ := I.list hq
  have e2 : its2 = [] := by
    cases rv2
    rfl
  subst e2
  have hlen := rv.length
  by_cases hz : its = []
  · subst hz
    have : xs.length = 0 := by rw [hlen]; rfl
    rw [show not (decide (xs.length = 0)) = false by rw [decide_eq_true this]; rfl] at k
    exact SeqAt.RcNeAt.lists (e := fun _ => true) pl.isList pl2.isList rfl (by omega) (fun j h1 => absurd h1 (by simp)) _ _ _ _ ⟨.bl false, H, I, rfl, k⟩
  · have hn : ¬ xs.length = 0 := by
      rw [hlen]
      intro z
      exact hz (List.eq_nil_of_length_eq_zero z)
    rw [show not (decide (xs.length = 0)) = true by rw [decide_eq_false hn]; rfl] at k
    exact SeqAt.RcNeAt.lists_lengths pl.isList pl2.isList (by simpa using hz) (by omega) _ _ _ _ ⟨.bl true, H, I, rfl, k⟩
theorem jc_eqN {xs : List α} {p2 : Pos} (ha : JR X σ G H a (rQ X.K R) xs) (hu : X.A.units + 64 < cLine) : JC X σ G H .Eq a (.List [] p2) (decide (xs.length = 0)) :=
  jc_op2 (op_eqNil hu) (nomark _) ha (je_lst (R := rInt) jl_nil) (by
    rintro v w G' H' w' ⟨p, vs, rfl, hp, hvs⟩ ⟨q, us, rfl, hq, hus⟩ Qq k
    cases hus
    exact ⟨p, q, vs, rfl, rfl, w'.s.seq hp, SqL.of (w'.s _ _ hq), by rw [Paired.len hvs]; exact k H' (Gw.refl w'.s)⟩)
theorem jc_neN {xs : List α} {p2 : Pos} (ha : JR X σ G H a (rQ X.K R) xs) (hu : X.A.units + 64 < cLine) : JC X σ G H .NotEq a (.List [] p2) (!decide (xs.length = 0)) :=
  jc_op2 (op_neNil hu) (nomark _) ha (je_lst (R := rInt) jl_nil) (by
    rintro v w G' H' w' ⟨p, vs, rfl, hp, hvs⟩ ⟨q, us, rfl, hq, hus⟩ Qq k
    cases hus
    exact ⟨p, q, vs, rfl, rfl, w'.s.seq hp, SqL.of (w'.s _ _ hq), by rw [Paired.len hvs]; exact k H' (Gw.refl w'.s)⟩)
/-- x in (a, b, ..) of whole numbers, the tuple written -/
theorem inV_ints (i : Int) : ∀ ns : List Int, inV (.int i) (ns.map V.int) = ns.contains i
  | [] => rfl
  | n :: r => by
    show (eqV (.int n) (.int i) || inV (.int i) (r.map V.int)) = (n :: r).contains i
    rw [inV_ints i r, List.contains_cons]
    congr 1
    show (n == i) = (i == n)
    exact Bool.beq_comm
theorem jc_in2 {i x y : Int} {kk : Nat} {p2 : Pos} (ha : JR X σ G H a rInt i) (hb : JR X σ G H b rInt x) (hc : JR X σ G H c rInt y) (hm : behindInMarks .In (.Tuple [b, c] kk p2) = false := by rfl)
    (h1 : starEach (b :: [c]) X.env = (false, eval b X.env) :: starEach [c] X.env := by rfl) (h2 : starEach [c] X.env = (false, eval c X.env) :: starEach [] X.env := by rfl) : JC X σ G H .In a (.Tuple [b, c] kk p2) (([x, y] : List Int).contains i) :=
  jc_op2 op_in_seq hm ha (je_t2 hb hc h1 h2) (by
    rintro v w G' H' w' rfl ⟨q, u, z, rfl, hq, rfl, rfl⟩ Qq k
    refine ⟨q, [.int x, .int y], rfl, .inr (SqT.of (w'.s _ _ hq)), rfl, rfl, ?_⟩
    show Qq (.bl (inV (.int i) ([x, y].map V.int))) H'
    rw [inV_ints]
    exact k H' (Gw.refl w'.s))
/-- x in a written tuple of whole numbers of the top -/
theorem jc_inK {i : Int} {n : Str} {q : Addr} {ns : List Int} {p2 : Pos} (ha : JR X σ G H a rInt i) (hm : X.mg n = some (.ref q)) (hq : SqT X.K (fun _ => none) q (ns.map V.int)) (hg : Gl X n := by rfl) (hd : (n == ("__debug__" : Str)) = false := by decide) (hmk : behindInMarks .In (.Name n p2) = false := by rfl) : JC X σ G H .In a (.Name n p2) (ns.contains i) :=
  jc_op2 (S := rV) (y := .ref q) op_in_seq hmk ha (fun G0 H0 w0 Q k => WE.of (pe_glob hg hm (v := .ref q) rfl hd) (k _ G0 H0 (Gw.refl w0.s) rfl)) (by
    rintro v w G' H' w' rfl rfl Qq k
    have hf : (ns.map V.int).all flatV = true := by
      rw [List.all_map]
      exact List.all_eq_true.mpr fun _ _ => rfl
    have hq2 : SqT X.K H' q (ns.map V.int) := by
      rcases hq with (h | ⟨o, h⟩) | h
      · cases h
      · cases h
      · exact .inr h
    refine ⟨q, _, rfl, .inr hq2, rfl, hf, ?_⟩
    show Qq (.bl (inV (.int i) (ns.map V.int))) H'
    rw [inV_ints]
    exact k H' (Gw.refl w'.s))
end
end Ck
end
section
set_option Elab.async false
set_option linter.all false
set_option maxRecDepth 100000
set_option maxHeartbeats 4000000
namespace Ck
open PySem PySem.Spec PyProof.Rows L2
open Mir (itm)
/-! ### a dict of whole numbers of the top, as it is written -/
def KD (K : PySem.W.Frag) (d : Addr) (tab : List (Int × Int)) : Prop := (d == sysModules) = false ∧ ∃ vs : List (Int × Value), Paired (fun p q => p.1 = q.1 ∧ ∃ t, q.2 = Value.int p.2 t) tab vs ∧
  ∀ (P : Program) (w : World) (h : Heap), K.In h → h.DictOf (intKind P w) d vs
theorem kd_val (i : Int) : ∀ {tab : List (Int × Int)} {vs : List (Int × Value)}, Paired (fun p q => p.1 = q.1 ∧ ∃ t, q.2 = Value.int p.2 t) tab vs → RelO ((tab.lookup i).map V.int) (valueAt vs i)
  | _, _, .nil => trivial
  | (k, z) :: r, (k', u) :: r', .cons ⟨e1, t, e2⟩ q => by
    have e1 : k = k' := e1
    have e2 : u = Value.int z t := e2
    subst e1 e2
    have ih := kd_val i q
    by_cases h : i = k
    · subst h
      simp [List.lookup, valueAt, RelO]
      exact ⟨t, rfl⟩
    · have h1 : (i == k) = false := beq_eq_false_iff_ne.mpr h
      have h2 : ¬ k = i := fun e => h e.symm
      simp only [List.lookup, h1, valueAt, List.find?_cons, decide_eq_false h2]
      exact ih
section
variable {X : Cx} {σ : L2.St} {G H G1 H1 : Hp} {e a b c l : Expr} {pos : Pos}
theorem jc_inM {i : Int} {n : Str} {d : Addr} {tab : List (Int × Int)} {p2 : Pos} (ha : JR X σ G H a rInt i) (hm : X.mg n = some (.ref d)) (hd : KD X.K d tab) (hg : Gl X n := by rfl) (hdb : (n == ("__debug__" : Str)) = false := by decide) (hmk : behindInMarks .In (.Name n p2) = false := by rfl) : JC X σ G H .In a (.Name n p2) ((tab.lookup i).isSome) :=
  jc_op2 (S := rV) (y := .ref d) (r := fun x y H Q => ∃ j, x = .int j ∧ y = .ref d ∧ Q (.bl (tab.lookup j).isSome) H) (by
    intro pins s σ H x y v u Q I rx ry h
    obtain ⟨j, rfl, rfl, q⟩ := h
    obtain ⟨t, rfl⟩ := rx
    cases ry
    obtain ⟨h1, vs, hp, hK⟩ := hd
    refine wpAny_in_of (knd := intKind X.prog X.w) (k := j) (by simp [intKind, Value.isInt]) h1 (hK X.prog X.w s.heap I.kIn).mapOf ?_
    have z := (kd_val j hp).isSome_eq
    rw [Option.isSome_map] at z
    rw [← z]
    exact ⟨.bl _, H, I.tok _, rfl, q⟩) hmk ha (fun G0 H0 w0 Q k => WE.of (pe_glob hg hm (v := .ref d) rfl hdb) (k _ G0 H0 (Gw.refl w0.s) rfl)) (by
    rintro v w G' H' w' rfl rfl Qq k
    exact ⟨i, rfl, rfl, k H' (Gw.refl w'.s)⟩)
theorem je_getM {i j : Int} {n : Str} {d : Addr} {tab : List (Int × Int)} {p2 apos cpos : Pos} (hm : X.mg n = some (.ref d)) (hd : KD X.K d tab) (ha : JR X σ G H a rInt i) (hb : JR X σ G H b rInt j) (m : M2 X (.Name n p2) "get" apos a b cpos := by exact ⟨rfl, rfl, rfl, rfl⟩) (hg : Gl X n := by rfl) (hdb : (n == ("__debug__" : Str)) = false := by decide) :
    JR X σ G H (.Call (.Attribute (.Name n p2) "get" apos) [a, b] [] cpos) rInt ((tab.lookup i).getD j) := fun G0 H0 w0 Q k => by
  intro pins s I
  obtain ⟨h1, vs, hp, hK⟩ := hd
  have dd := hK X.prog X.w s.heap I.kIn
  refine wpAny_Call_method m.base m.few m.line PySem.F.plainAttrs_dict PySem.F.slot_dict_get PySem.F.type_dict_get (ld_glob I hg hm ?_ hdb)
  refine ⟨dd.typeIs, fun b q => ?_, ?_⟩
  · cases q
    obtain ⟨ob, _, _, h1, h2, _⟩ := dd
    exact ⟨ob, h1, h2.2.1⟩
  rw [m.trees]
  have qa : WE X a σ H0 (fun v H2 => ∃ G2, Gw G0 H0 G2 H2 ∧ v = .int i) := ha G0 H0 w0 _ fun v G1 H1 w1 hv => ⟨G1, w1, hv⟩
  refine Calls.callWith_builtin rfl (Calls.evalArgs_plain (Calls.spliced_cons (thn (pe_w.run pins s σ H0 _ I qa) fun iv s2 hq2 => ?_)))
  · obtain ⟨y, H2, I2, ry, G2, w2, rfl⟩ := hq2
    have qb : WE X b σ H2 (fun v H3 => ∃ G3, Gw G0 H0 G3 H3 ∧ v = .int j) := hb G2 H2 (w0.t w2) _ fun v G3 H3 w3 hv => ⟨G3, w2.t w3, hv⟩
    refine Calls.spliced_cons (thn (pe_w.run pins s2 σ H2 _ I2 qb) fun fv s3 hq3 => Calls.spliced_nil ?_)
    · obtain ⟨z, H3, I3, rz, q3⟩ := hq3
      obtain ⟨G3, w3, rfl⟩ := q3
      have dd3 := hK X.prog X.w s3.heap I3.kIn
      obtain ⟨t, rfl⟩ := ry
      have rz' := rz
      obtain ⟨t2, rfl⟩ := rz
      refine call_meetsIn PySem.F.slot_dict_get dd3.typeIs PySem.F.entry_dict_get (PySem.F.args_dict_get_3 _ _ _) (meets_dict_get_default (intKind X.prog X.w) d (k := i) (by simp [intKind, Value.isInt]) h1 (.int j t2)) ⟨_, dd3.mapOf, ?_⟩
      have rr := (kd_val i hp).getD rz'
      refine ⟨.int ((tab.lookup i).getD j), H3, I3.tok _, ?_, k _ G3 H3 w3 rfl⟩
      cases q : tab.lookup i with
      | none =>
        rw [q] at rr
        exact rr
      | some z =>
        rw [q] at rr
        exact rr
end
end Ck
end
section
set_option Elab.async false
set_option linter.all false
set_option maxRecDepth 100000
set_option maxHeartbeats 4000000
namespace Ck
open PySem PySem.Spec PyProof.Rows L2
def top (i : Nat) : Stmt := PySem.Challenge.pw_chutes_s01_answers.main.body.getD i (.Pass ⟨0, 0, 0, 0⟩)
abbrev s_is_plate : Stmt := top 21
abbrev s_is_gate : Stmt := top 22
abbrev s_is_counter : Stmt := top 23
abbrev s_is_flip : Stmt := top 24
abbrev s_is_cell_sign : Stmt := top 25
abbrev s_cell_of : Stmt := top 26
abbrev s_mirrored : Stmt := top 27
abbrev s_with_more_groups : Stmt := top 28
abbrev s_link_of : Stmt := top 29
abbrev s_sign_at : Stmt := top 35
abbrev s_permits_at : Stmt := top 36
abbrev s_add_permits : Stmt := top 37
abbrev s_side_of_flip : Stmt := top 38
abbrev s_side_of_counter : Stmt := top 39
abbrev s_shift_from : Stmt := top 40
abbrev s_destination_from : Stmt := top 41
abbrev s_is_reachable : Stmt := top 42
abbrev s_is_free : Stmt := top 43
abbrev s_is_held_back : Stmt := top 44
abbrev s_moving_places : Stmt := top 45
abbrev s_has_drums : Stmt := top 46
abbrev s_pushed_drums : Stmt := top 47
abbrev s_leave : Stmt := top 48
abbrev s_enter : Stmt := top 49
abbrev s_move_from : Stmt := top 50
abbrev s_let_in : Stmt := top 51
abbrev s_do_tick : Stmt := top 52
abbrev s_is_over : Stmt := top 53
abbrev s_ringing_of : Stmt := top 54
abbrev s_path_of : Stmt := top 55
abbrev s_changed_board : Stmt := top 57
abbrev s_all_changes : Stmt := top 58
abbrev s_ringing_with : Stmt := top 59
abbrev s_repairs_of : Stmt := top 60
abbrev s_noticeable_changes : Stmt := top 61
abbrev s_idle_places : Stmt := top 62
abbrev s_part_named : Stmt := top 67
abbrev s_mirrored_cells : Stmt := top 68
abbrev s_is_inside : Stmt := top 69
abbrev s_copy_places : Stmt := top 70
abbrev s_is_overlapping : Stmt := top 71
abbrev s_copy_into : Stmt := top 72
abbrev s_bytes_of : Stmt := top 83
abbrev s_pieces : Stmt := top 84
abbrev s_lines_of : Stmt := top 85
abbrev s_words_of : Stmt := top 86
abbrev s_is_digit : Stmt := top 87
abbrev s_is_number : Stmt := top 88
abbrev s_number_of : Stmt := top 89
abbrev s_is_number_within : Stmt := top 90
abbrev s_is_signed : Stmt := top 91
abbrev s_signed_of : Stmt := top 92
abbrev s_is_letter : Stmt := top 93
abbrev s_is_name : Stmt := top 94
abbrev s_read_part : Stmt := top 103
abbrev s_read_row : Stmt := top 104
abbrev s_is_times : Stmt := top 105
abbrev s_is_put : Stmt := top 106
abbrev s_behind_mirror : Stmt := top 107
abbrev s_read_put : Stmt := top 108
abbrev s_read_end : Stmt := top 109
abbrev s_is_every : Stmt := top 110
abbrev s_is_drop : Stmt := top 111
abbrev s_read_drop : Stmt := top 112
abbrev s_read_line : Stmt := top 113
abbrev s_read_text : Stmt := top 114
abbrev s_is_text_byte : Stmt := top 126
abbrev s_load : Stmt := top 127
abbrev s_are_different : Stmt := top 128
abbrev s_set_palette : Stmt := top 129
abbrev s_set_horizon : Stmt := top 130
abbrev s_want_ring : Stmt := top 131
abbrev s_clear_target : Stmt := top 132
abbrev s_own_ringing : Stmt := top 133
abbrev s_ringing : Stmt := top 134
abbrev s_meets_target : Stmt := top 135
abbrev s_own_repairs : Stmt := top 136
abbrev s_position : Stmt := top 137
abbrev s_positions : Stmt := top 138
abbrev s_repairs : Stmt := top 139
abbrev s_idle_cells : Stmt := top 140
abbrev s_count_changes : Stmt := top 141
abbrev s_apply_repair : Stmt := top 142
abbrev s_tell_board : Stmt := top 143
abbrev s_path : Stmt := top 144
abbrev s_split_calls : Stmt := top 145
abbrev s_set_or_tell : Stmt := top 146
abbrev s_answered : Stmt := top 147
abbrev s_answers : Stmt := top 148
abbrev s_Run___init__ : Stmt := inClass (top 34) 0
abbrev s_Part___init__ : Stmt := inClass (top 65) 0
abbrev s_Part_is_full : Stmt := inClass (top 65) 1
abbrev s_Part_add_row : Stmt := inClass (top 65) 2
abbrev s_Part_place : Stmt := inClass (top 65) 3
abbrev s_Part_add_sets : Stmt := inClass (top 65) 4
abbrev s_Draft___init__ : Stmt := inClass (top 66) 0
abbrev s_Draft_begin : Stmt := inClass (top 66) 1
abbrev s_Draft_end : Stmt := inClass (top 66) 2
abbrev s_Draft_add_marble : Stmt := inClass (top 66) 3
abbrev s_Bench___init__ : Stmt := inClass (top 125) 0
abbrev s_Bench_load : Stmt := inClass (top 125) 1
abbrev n_is_plate : List Str := ["sign"]
theorem sc_is_plate : FnScope n_is_plate ["sign"] (defScope s_is_plate) := ⟨rfl, rfl, rfl, by decide +kernel, rfl, by decide +kernel, by decide +kernel⟩
abbrev n_is_gate : List Str := ["sign"]
theorem sc_is_gate : FnScope n_is_gate ["sign"] (defScope s_is_gate) := ⟨rfl, rfl, rfl, by decide +kernel, rfl, by decide +kernel, by decide +kernel⟩
abbrev n_is_counter : List Str := ["sign"]
theorem sc_is_counter : FnScope n_is_counter ["sign"] (defScope s_is_counter) := ⟨rfl, rfl, rfl, by decide +kernel, rfl, by decide +kernel, by decide +kernel⟩
abbrev n_is_flip : List Str := ["sign"]
theorem sc_is_flip : FnScope n_is_flip ["sign"] (defScope s_is_flip) := ⟨rfl, rfl, rfl, by decide +kernel, rfl, by decide +kernel, by decide +kernel⟩
abbrev n_is_cell_sign : List Str := ["sign"]
theorem sc_is_cell_sign : FnScope n_is_cell_sign ["sign"] (defScope s_is_cell_sign) := ⟨rfl, rfl, rfl, by decide +kernel, rfl, by decide +kernel, by decide +kernel⟩
abbrev n_cell_of : List Str := ["sign"]
theorem sc_cell_of : FnScope n_cell_of ["sign"] (defScope s_cell_of) := ⟨rfl, rfl, rfl, by decide +kernel, rfl, by decide +kernel, by decide +kernel⟩
abbrev n_mirrored : List Str := ["cell", "sign", "turned", "group"]
theorem sc_mirrored : FnScope n_mirrored ["cell"] (defScope s_mirrored) := ⟨rfl, rfl, rfl, by decide +kernel, rfl, by decide +kernel, by decide +kernel⟩
abbrev n_with_more_groups : List Str := ["cell", "many", "sign", "turned", "group"]
theorem sc_with_more_groups : FnScope n_with_more_groups ["cell", "many"] (defScope s_with_more_groups) := ⟨rfl, rfl, rfl, by decide +kernel, rfl, by decide +kernel, by decide +kernel⟩
abbrev n_link_of : List Str := ["cell", "sign", "turned", "group"]
theorem sc_link_of : FnScope n_link_of ["cell"] (defScope s_link_of) := ⟨rfl, rfl, rfl, by decide +kernel, rfl, by decide +kernel, by decide +kernel⟩
abbrev n_sign_at : List Str := ["run", "place"]
theorem sc_sign_at : FnScope n_sign_at ["run", "place"] (defScope s_sign_at) := ⟨rfl, rfl, rfl, by decide +kernel, rfl, by decide +kernel, by decide +kernel⟩
abbrev n_permits_at : List Str := ["run", "place"]
theorem sc_permits_at : FnScope n_permits_at ["run", "place"] (defScope s_permits_at) := ⟨rfl, rfl, rfl, by decide +kernel, rfl, by decide +kernel, by decide +kernel⟩
abbrev n_add_permits : List Str := ["run", "place", "many"]
theorem sc_add_permits : FnScope n_add_permits ["run", "place", "many"] (defScope s_add_permits) := ⟨rfl, rfl, rfl, by decide +kernel, rfl, by decide +kernel, by decide +kernel⟩
abbrev n_side_of_flip : List Str := ["run", "place", "is_first"]
theorem sc_side_of_flip : FnScope n_side_of_flip ["run", "place"] (defScope s_side_of_flip) := ⟨rfl, rfl, rfl, by decide +kernel, rfl, by decide +kernel, by decide +kernel⟩
abbrev n_side_of_counter : List Str := ["run", "place", "sign", "turned", "group"]
theorem sc_side_of_counter : FnScope n_side_of_counter ["run", "place"] (defScope s_side_of_counter) := ⟨rfl, rfl, rfl, by decide +kernel, rfl, by decide +kernel, by decide +kernel⟩
abbrev n_shift_from : List Str := ["run", "place", "sign"]
theorem sc_shift_from : FnScope n_shift_from ["run", "place"] (defScope s_shift_from) := ⟨rfl, rfl, rfl, by decide +kernel, rfl, by decide +kernel, by decide +kernel⟩
abbrev n_destination_from : List Str := ["run", "place", "width", "across", "down"]
theorem sc_destination_from : FnScope n_destination_from ["run", "place"] (defScope s_destination_from) := ⟨rfl, rfl, rfl, by decide +kernel, rfl, by decide +kernel, by decide +kernel⟩
abbrev n_is_reachable : List Str := ["run", "column", "row"]
theorem sc_is_reachable : FnScope n_is_reachable ["run", "column", "row"] (defScope s_is_reachable) := ⟨rfl, rfl, rfl, by decide +kernel, rfl, by decide +kernel, by decide +kernel⟩
abbrev n_is_free : List Str := ["run", "place", "sign"]
theorem sc_is_free : FnScope n_is_free ["run", "place"] (defScope s_is_free) := ⟨rfl, rfl, rfl, by decide +kernel, rfl, by decide +kernel, by decide +kernel⟩
abbrev n_is_held_back : List Str := ["run", "place"]
theorem sc_is_held_back : FnScope n_is_held_back ["run", "place"] (defScope s_is_held_back) := ⟨rfl, rfl, rfl, by decide +kernel, rfl, by decide +kernel, by decide +kernel⟩
abbrev n_moving_places : List Str := ["run", "width", "height", "cells", "found", "turn", "row", "place"]
theorem sc_moving_places : FnScope n_moving_places ["run"] (defScope s_moving_places) := ⟨rfl, rfl, rfl, by decide +kernel, rfl, by decide +kernel, by decide +kernel⟩
abbrev n_has_drums : List Str := ["run", "cell"]
theorem sc_has_drums : FnScope n_has_drums ["run"] (defScope s_has_drums) := ⟨rfl, rfl, rfl, by decide +kernel, rfl, by decide +kernel, by decide +kernel⟩
abbrev n_pushed_drums : List Str := ["run", "places", "found", "place", "column", "row", "other"]
theorem sc_pushed_drums : FnScope n_pushed_drums ["run", "places"] (defScope s_pushed_drums) := ⟨rfl, rfl, rfl, by decide +kernel, rfl, by decide +kernel, by decide +kernel⟩
abbrev n_leave : List Str := ["run", "place", "sign", "marble"]
theorem sc_leave : FnScope n_leave ["run", "place"] (defScope s_leave) := ⟨rfl, rfl, rfl, by decide +kernel, rfl, by decide +kernel, by decide +kernel⟩
abbrev n_enter : List Str := ["run", "place", "marble", "sign"]
theorem sc_enter : FnScope n_enter ["run", "place", "marble"] (defScope s_enter) := ⟨rfl, rfl, rfl, by decide +kernel, rfl, by decide +kernel, by decide +kernel⟩
abbrev n_move_from : List Str := ["run", "place", "drums", "column", "row"]
theorem sc_move_from : FnScope n_move_from ["run", "place", "drums"] (defScope s_move_from) := ⟨rfl, rfl, rfl, by decide +kernel, rfl, by decide +kernel, by decide +kernel⟩
abbrev n_let_in : List Str := ["run", "marble", "column", "tick"]
theorem sc_let_in : FnScope n_let_in ["run"] (defScope s_let_in) := ⟨rfl, rfl, rfl, by decide +kernel, rfl, by decide +kernel, by decide +kernel⟩
abbrev n_do_tick : List Str := ["run", "places", "drums", "place"]
theorem sc_do_tick : FnScope n_do_tick ["run"] (defScope s_do_tick) := ⟨rfl, rfl, rfl, by decide +kernel, rfl, by decide +kernel, by decide +kernel⟩
abbrev n_is_over : List Str := ["run", "place"]
theorem sc_is_over : FnScope n_is_over ["run"] (defScope s_is_over) := ⟨rfl, rfl, rfl, by decide +kernel, rfl, by decide +kernel, by decide +kernel⟩
abbrev n_ringing_of : List Str := ["board", "marbles", "horizon", "run", "turn"]
theorem sc_ringing_of : FnScope n_ringing_of ["board", "marbles", "horizon"] (defScope s_ringing_of) := ⟨rfl, rfl, rfl, by decide +kernel, rfl, by decide +kernel, by decide +kernel⟩
abbrev n_path_of : List Str := ["board", "marbles", "horizon", "marble", "run", "found", "turn"]
theorem sc_path_of : FnScope n_path_of ["board", "marbles", "horizon", "marble"] (defScope s_path_of) := ⟨rfl, rfl, rfl, by decide +kernel, rfl, by decide +kernel, by decide +kernel⟩
abbrev n_changed_board : List Str := ["board", "place", "sign", "width", "height", "cells"]
theorem sc_changed_board : FnScope n_changed_board ["board", "place", "sign"] (defScope s_changed_board) := ⟨rfl, rfl, rfl, by decide +kernel, rfl, by decide +kernel, by decide +kernel⟩
abbrev n_all_changes : List Str := ["board", "palette", "found", "place", "cell", "sign"]
theorem sc_all_changes : FnScope n_all_changes ["board", "palette"] (defScope s_all_changes) := ⟨rfl, rfl, rfl, by decide +kernel, rfl, by decide +kernel, by decide +kernel⟩
abbrev n_ringing_with : List Str := ["board", "marbles", "horizon", "change"]
theorem sc_ringing_with : FnScope n_ringing_with ["board", "marbles", "horizon", "change"] (defScope s_ringing_with) := ⟨rfl, rfl, rfl, by decide +kernel, rfl, by decide +kernel, by decide +kernel⟩
abbrev n_repairs_of : List Str := ["board", "marbles", "horizon", "palette", "target", "due", "changes", "change"]
theorem sc_repairs_of : FnScope n_repairs_of ["board", "marbles", "horizon", "palette", "target"] (defScope s_repairs_of) := ⟨rfl, rfl, rfl, by decide +kernel, rfl, by decide +kernel, by decide +kernel⟩
abbrev n_noticeable_changes : List Str := ["board", "marbles", "horizon", "palette", "due", "changes", "change"]
theorem sc_noticeable_changes : FnScope n_noticeable_changes ["board", "marbles", "horizon", "palette"] (defScope s_noticeable_changes) := ⟨rfl, rfl, rfl, by decide +kernel, rfl, by decide +kernel, by decide +kernel⟩
abbrev n_idle_places : List Str := ["board", "marbles", "horizon", "due", "places", "place", "cell"]
theorem sc_idle_places : FnScope n_idle_places ["board", "marbles", "horizon"] (defScope s_idle_places) := ⟨rfl, rfl, rfl, by decide +kernel, rfl, by decide +kernel, by decide +kernel⟩
abbrev n_part_named : List Str := ["parts", "name", "part"]
theorem sc_part_named : FnScope n_part_named ["parts", "name"] (defScope s_part_named) := ⟨rfl, rfl, rfl, by decide +kernel, rfl, by decide +kernel, by decide +kernel⟩
abbrev n_mirrored_cells : List Str := ["part", "found", "y", "row", "cell"]
theorem sc_mirrored_cells : FnScope n_mirrored_cells ["part"] (defScope s_mirrored_cells) := ⟨rfl, rfl, rfl, by decide +kernel, rfl, by decide +kernel, by decide +kernel⟩
abbrev n_is_inside : List Str := ["part", "copied", "x", "y"]
theorem sc_is_inside : FnScope n_is_inside ["part", "copied", "x", "y"] (defScope s_is_inside) := ⟨rfl, rfl, rfl, by decide +kernel, rfl, by decide +kernel, by decide +kernel⟩
abbrev n_copy_places : List Str := ["part", "copied", "x", "y", "found", "row", "column"]
theorem sc_copy_places : FnScope n_copy_places ["part", "copied", "x", "y"] (defScope s_copy_places) := ⟨rfl, rfl, rfl, by decide +kernel, rfl, by decide +kernel, by decide +kernel⟩
abbrev n_is_overlapping : List Str := ["part", "cells", "places", "cell", "at"]
theorem sc_is_overlapping : FnScope n_is_overlapping ["part", "cells", "places"] (defScope s_is_overlapping) := ⟨rfl, rfl, rfl, by decide +kernel, rfl, by decide +kernel, by decide +kernel⟩
abbrev n_copy_into : List Str := ["part", "copied", "cells", "x", "y", "places", "cell", "at"]
theorem sc_copy_into : FnScope n_copy_into ["part", "copied", "cells", "x", "y"] (defScope s_copy_into) := ⟨rfl, rfl, rfl, by decide +kernel, rfl, by decide +kernel, by decide +kernel⟩
abbrev n_bytes_of : List Str := ["word", "sign"]
theorem sc_bytes_of : FnScope n_bytes_of ["word"] (defScope s_bytes_of) := ⟨rfl, rfl, rfl, by decide +kernel, rfl, by decide +kernel, by decide +kernel⟩
abbrev n_pieces : List Str := ["given", "between", "found", "latest", "byte"]
theorem sc_pieces : FnScope n_pieces ["given", "between"] (defScope s_pieces) := ⟨rfl, rfl, rfl, by decide +kernel, rfl, by decide +kernel, by decide +kernel⟩
abbrev n_lines_of : List Str := ["text"]
theorem sc_lines_of : FnScope n_lines_of ["text"] (defScope s_lines_of) := ⟨rfl, rfl, rfl, by decide +kernel, rfl, by decide +kernel, by decide +kernel⟩
abbrev n_words_of : List Str := ["line", "word"]
theorem sc_words_of : FnScope n_words_of ["line"] (defScope s_words_of) := ⟨rfl, rfl, rfl, by decide +kernel, rfl, by decide +kernel, by decide +kernel⟩
abbrev n_is_digit : List Str := ["byte"]
theorem sc_is_digit : FnScope n_is_digit ["byte"] (defScope s_is_digit) := ⟨rfl, rfl, rfl, by decide +kernel, rfl, by decide +kernel, by decide +kernel⟩
abbrev n_is_number : List Str := ["word", "byte"]
theorem sc_is_number : FnScope n_is_number ["word"] (defScope s_is_number) := ⟨rfl, rfl, rfl, by decide +kernel, rfl, by decide +kernel, by decide +kernel⟩
abbrev n_number_of : List Str := ["word", "found", "byte"]
theorem sc_number_of : FnScope n_number_of ["word"] (defScope s_number_of) := ⟨rfl, rfl, rfl, by decide +kernel, rfl, by decide +kernel, by decide +kernel⟩
abbrev n_is_number_within : List Str := ["word", "least", "most"]
theorem sc_is_number_within : FnScope n_is_number_within ["word", "least", "most"] (defScope s_is_number_within) := ⟨rfl, rfl, rfl, by decide +kernel, rfl, by decide +kernel, by decide +kernel⟩
abbrev n_is_signed : List Str := ["word"]
theorem sc_is_signed : FnScope n_is_signed ["word"] (defScope s_is_signed) := ⟨rfl, rfl, rfl, by decide +kernel, rfl, by decide +kernel, by decide +kernel⟩
abbrev n_signed_of : List Str := ["word"]
theorem sc_signed_of : FnScope n_signed_of ["word"] (defScope s_signed_of) := ⟨rfl, rfl, rfl, by decide +kernel, rfl, by decide +kernel, by decide +kernel⟩
abbrev n_is_letter : List Str := ["byte"]
theorem sc_is_letter : FnScope n_is_letter ["byte"] (defScope s_is_letter) := ⟨rfl, rfl, rfl, by decide +kernel, rfl, by decide +kernel, by decide +kernel⟩
abbrev n_is_name : List Str := ["word", "byte"]
theorem sc_is_name : FnScope n_is_name ["word"] (defScope s_is_name) := ⟨rfl, rfl, rfl, by decide +kernel, rfl, by decide +kernel, by decide +kernel⟩
abbrev n_read_part : List Str := ["draft", "words"]
theorem sc_read_part : FnScope n_read_part ["draft", "words"] (defScope s_read_part) := ⟨rfl, rfl, rfl, by decide +kernel, rfl, by decide +kernel, by decide +kernel⟩
abbrev n_read_row : List Str := ["draft", "line", "part", "signs", "sign"]
theorem sc_read_row : FnScope n_read_row ["draft", "line"] (defScope s_read_row) := ⟨rfl, rfl, rfl, by decide +kernel, rfl, by decide +kernel, by decide +kernel⟩
abbrev n_is_times : List Str := ["words"]
theorem sc_is_times : FnScope n_is_times ["words"] (defScope s_is_times) := ⟨rfl, rfl, rfl, by decide +kernel, rfl, by decide +kernel, by decide +kernel⟩
abbrev n_is_put : List Str := ["words", "more"]
theorem sc_is_put : FnScope n_is_put ["words"] (defScope s_is_put) := ⟨rfl, rfl, rfl, by decide +kernel, rfl, by decide +kernel, by decide +kernel⟩
abbrev n_behind_mirror : List Str := ["words"]
theorem sc_behind_mirror : FnScope n_behind_mirror ["words"] (defScope s_behind_mirror) := ⟨rfl, rfl, rfl, by decide +kernel, rfl, by decide +kernel, by decide +kernel⟩
abbrev n_read_put : List Str := ["draft", "words", "found", "more", "cells", "many", "across", "down", "x", "y", "k", "code"]
theorem sc_read_put : FnScope n_read_put ["draft", "words"] (defScope s_read_put) := ⟨rfl, rfl, rfl, by decide +kernel, rfl, by decide +kernel, by decide +kernel⟩
abbrev n_read_end : List Str := ["draft", "words"]
theorem sc_read_end : FnScope n_read_end ["draft", "words"] (defScope s_read_end) := ⟨rfl, rfl, rfl, by decide +kernel, rfl, by decide +kernel, by decide +kernel⟩
abbrev n_is_every : List Str := ["words"]
theorem sc_is_every : FnScope n_is_every ["words"] (defScope s_is_every) := ⟨rfl, rfl, rfl, by decide +kernel, rfl, by decide +kernel, by decide +kernel⟩
abbrev n_is_drop : List Str := ["words"]
theorem sc_is_drop : FnScope n_is_drop ["words"] (defScope s_is_drop) := ⟨rfl, rfl, rfl, by decide +kernel, rfl, by decide +kernel, by decide +kernel⟩
abbrev n_read_drop : List Str := ["draft", "words", "column", "tick", "later", "many", "k"]
theorem sc_read_drop : FnScope n_read_drop ["draft", "words"] (defScope s_read_drop) := ⟨rfl, rfl, rfl, by decide +kernel, rfl, by decide +kernel, by decide +kernel⟩
abbrev n_read_line : List Str := ["draft", "line", "words"]
theorem sc_read_line : FnScope n_read_line ["draft", "line"] (defScope s_read_line) := ⟨rfl, rfl, rfl, by decide +kernel, rfl, by decide +kernel, by decide +kernel⟩
abbrev n_read_text : List Str := ["draft", "text", "lines", "k", "line", "code"]
theorem sc_read_text : FnScope n_read_text ["draft", "text"] (defScope s_read_text) := ⟨rfl, rfl, rfl, by decide +kernel, rfl, by decide +kernel, by decide +kernel⟩
abbrev n_is_text_byte : List Str := ["byte"]
theorem sc_is_text_byte : FnScope n_is_text_byte ["byte"] (defScope s_is_text_byte) := ⟨rfl, rfl, rfl, by decide +kernel, rfl, by decide +kernel, by decide +kernel⟩
abbrev n_load : List Str := ["bench", "text", "draft", "line", "code", "part", "byte"]
theorem sc_load : FnScope n_load ["bench", "text"] (defScope s_load) := ⟨rfl, rfl, rfl, by decide +kernel, rfl, by decide +kernel, by decide +kernel⟩
abbrev n_are_different : List Str := ["signs", "sign"]
theorem sc_are_different : FnScope n_are_different ["signs"] (defScope s_are_different) := ⟨rfl, rfl, rfl, by decide +kernel, rfl, by decide +kernel, by decide +kernel⟩
abbrev n_set_palette : List Str := ["bench", "signs", "sign"]
theorem sc_set_palette : FnScope n_set_palette ["bench", "signs"] (defScope s_set_palette) := ⟨rfl, rfl, rfl, by decide +kernel, rfl, by decide +kernel, by decide +kernel⟩
abbrev n_set_horizon : List Str := ["bench", "ticks"]
theorem sc_set_horizon : FnScope n_set_horizon ["bench", "ticks"] (defScope s_set_horizon) := ⟨rfl, rfl, rfl, by decide +kernel, rfl, by decide +kernel, by decide +kernel⟩
abbrev n_want_ring : List Str := ["bench", "tick", "marble"]
theorem sc_want_ring : FnScope n_want_ring ["bench", "tick", "marble"] (defScope s_want_ring) := ⟨rfl, rfl, rfl, by decide +kernel, rfl, by decide +kernel, by decide +kernel⟩
abbrev n_clear_target : List Str := ["bench", "many"]
theorem sc_clear_target : FnScope n_clear_target ["bench"] (defScope s_clear_target) := ⟨rfl, rfl, rfl, by decide +kernel, rfl, by decide +kernel, by decide +kernel⟩
abbrev n_own_ringing : List Str := ["bench"]
theorem sc_own_ringing : FnScope n_own_ringing ["bench"] (defScope s_own_ringing) := ⟨rfl, rfl, rfl, by decide +kernel, rfl, by decide +kernel, by decide +kernel⟩
abbrev n_ringing : List Str := ["bench", "rings", "found", "tick", "marble"]
theorem sc_ringing : FnScope n_ringing ["bench"] (defScope s_ringing) := ⟨rfl, rfl, rfl, by decide +kernel, rfl, by decide +kernel, by decide +kernel⟩
abbrev n_meets_target : List Str := ["bench"]
theorem sc_meets_target : FnScope n_meets_target ["bench"] (defScope s_meets_target) := ⟨rfl, rfl, rfl, by decide +kernel, rfl, by decide +kernel, by decide +kernel⟩
abbrev n_own_repairs : List Str := ["bench"]
theorem sc_own_repairs : FnScope n_own_repairs ["bench"] (defScope s_own_repairs) := ⟨rfl, rfl, rfl, by decide +kernel, rfl, by decide +kernel, by decide +kernel⟩
abbrev n_position : List Str := ["bench", "place"]
theorem sc_position : FnScope n_position ["bench", "place"] (defScope s_position) := ⟨rfl, rfl, rfl, by decide +kernel, rfl, by decide +kernel, by decide +kernel⟩
abbrev n_positions : List Str := ["bench", "places", "found", "place"]
theorem sc_positions : FnScope n_positions ["bench", "places"] (defScope s_positions) := ⟨rfl, rfl, rfl, by decide +kernel, rfl, by decide +kernel, by decide +kernel⟩
abbrev n_repairs : List Str := ["bench", "changes", "found", "place", "sign"]
theorem sc_repairs : FnScope n_repairs ["bench"] (defScope s_repairs) := ⟨rfl, rfl, rfl, by decide +kernel, rfl, by decide +kernel, by decide +kernel⟩
abbrev n_idle_cells : List Str := ["bench"]
theorem sc_idle_cells : FnScope n_idle_cells ["bench"] (defScope s_idle_cells) := ⟨rfl, rfl, rfl, by decide +kernel, rfl, by decide +kernel, by decide +kernel⟩
abbrev n_count_changes : List Str := ["bench", "noticed"]
theorem sc_count_changes : FnScope n_count_changes ["bench"] (defScope s_count_changes) := ⟨rfl, rfl, rfl, by decide +kernel, rfl, by decide +kernel, by decide +kernel⟩
abbrev n_apply_repair : List Str := ["bench", "index", "changes", "place", "sign"]
theorem sc_apply_repair : FnScope n_apply_repair ["bench", "index"] (defScope s_apply_repair) := ⟨rfl, rfl, rfl, by decide +kernel, rfl, by decide +kernel, by decide +kernel⟩
abbrev n_tell_board : List Str := ["bench", "width", "height", "cells", "cell"]
theorem sc_tell_board : FnScope n_tell_board ["bench"] (defScope s_tell_board) := ⟨rfl, rfl, rfl, by decide +kernel, rfl, by decide +kernel, by decide +kernel⟩
abbrev n_path : List Str := ["bench", "marble"]
theorem sc_path : FnScope n_path ["bench", "marble"] (defScope s_path) := ⟨rfl, rfl, rfl, by decide +kernel, rfl, by decide +kernel, by decide +kernel⟩
abbrev n_split_calls : List Str := ["calls", "found", "at", "many"]
theorem sc_split_calls : FnScope n_split_calls ["calls"] (defScope s_split_calls) := ⟨rfl, rfl, rfl, by decide +kernel, rfl, by decide +kernel, by decide +kernel⟩
abbrev n_set_or_tell : List Str := ["bench", "number", "numbers"]
theorem sc_set_or_tell : FnScope n_set_or_tell ["bench", "number", "numbers"] (defScope s_set_or_tell) := ⟨rfl, rfl, rfl, by decide +kernel, rfl, by decide +kernel, by decide +kernel⟩
abbrev n_answered : List Str := ["bench", "number", "numbers"]
theorem sc_answered : FnScope n_answered ["bench", "number", "numbers"] (defScope s_answered) := ⟨rfl, rfl, rfl, by decide +kernel, rfl, by decide +kernel, by decide +kernel⟩
abbrev n_answers : List Str := ["calls", "bench", "found", "number", "numbers", "told"]
theorem sc_answers : FnScope n_answers ["calls"] (defScope s_answers) := ⟨rfl, rfl, rfl, by decide +kernel, rfl, by decide +kernel, by decide +kernel⟩
abbrev n_Run___init__ : List Str := ["self", "board", "marbles"]
theorem sc_Run___init__ : FnScope n_Run___init__ ["self", "board", "marbles"] (defScope s_Run___init__) := ⟨rfl, rfl, rfl, by decide +kernel, rfl, by decide +kernel, by decide +kernel⟩
abbrev n_Part___init__ : List Str := ["self", "name", "width", "height"]
theorem sc_Part___init__ : FnScope n_Part___init__ ["self", "name", "width", "height"] (defScope s_Part___init__) := ⟨rfl, rfl, rfl, by decide +kernel, rfl, by decide +kernel, by decide +kernel⟩
abbrev n_Part_is_full : List Str := ["self"]
theorem sc_Part_is_full : FnScope n_Part_is_full ["self"] (defScope s_Part_is_full) := ⟨rfl, rfl, rfl, by decide +kernel, rfl, by decide +kernel, by decide +kernel⟩
abbrev n_Part_add_row : List Str := ["self", "cells"]
theorem sc_Part_add_row : FnScope n_Part_add_row ["self", "cells"] (defScope s_Part_add_row) := ⟨rfl, rfl, rfl, by decide +kernel, rfl, by decide +kernel, by decide +kernel⟩
abbrev n_Part_place : List Str := ["self", "at", "cell"]
theorem sc_Part_place : FnScope n_Part_place ["self", "at", "cell"] (defScope s_Part_place) := ⟨rfl, rfl, rfl, by decide +kernel, rfl, by decide +kernel, by decide +kernel⟩
abbrev n_Part_add_sets : List Str := ["self", "many"]
theorem sc_Part_add_sets : FnScope n_Part_add_sets ["self", "many"] (defScope s_Part_add_sets) := ⟨rfl, rfl, rfl, by decide +kernel, rfl, by decide +kernel, by decide +kernel⟩
abbrev n_Draft___init__ : List Str := ["self"]
theorem sc_Draft___init__ : FnScope n_Draft___init__ ["self"] (defScope s_Draft___init__) := ⟨rfl, rfl, rfl, by decide +kernel, rfl, by decide +kernel, by decide +kernel⟩
abbrev n_Draft_begin : List Str := ["self", "part"]
theorem sc_Draft_begin : FnScope n_Draft_begin ["self", "part"] (defScope s_Draft_begin) := ⟨rfl, rfl, rfl, by decide +kernel, rfl, by decide +kernel, by decide +kernel⟩
abbrev n_Draft_end : List Str := ["self"]
theorem sc_Draft_end : FnScope n_Draft_end ["self"] (defScope s_Draft_end) := ⟨rfl, rfl, rfl, by decide +kernel, rfl, by decide +kernel, by decide +kernel⟩
abbrev n_Draft_add_marble : List Str := ["self", "column", "tick"]
theorem sc_Draft_add_marble : FnScope n_Draft_add_marble ["self", "column", "tick"] (defScope s_Draft_add_marble) := ⟨rfl, rfl, rfl, by decide +kernel, rfl, by decide +kernel, by decide +kernel⟩
abbrev n_Bench___init__ : List Str := ["self"]
theorem sc_Bench___init__ : FnScope n_Bench___init__ ["self"] (defScope s_Bench___init__) := ⟨rfl, rfl, rfl, by decide +kernel, rfl, by decide +kernel, by decide +kernel⟩
abbrev n_Bench_load : List Str := ["self", "board", "marbles"]
theorem sc_Bench_load : FnScope n_Bench_load ["self", "board", "marbles"] (defScope s_Bench_load) := ⟨rfl, rfl, rfl, by decide +kernel, rfl, by decide +kernel, by decide +kernel⟩
/-- a method, an __init__ -/
def DefM (K : PySem.W.Frag) (C : Addr) (name qual : Str) (st : Stmt) (ps : List Str) : Prop := ∃ f fd, Fun K name qual st f fd ∧ Meth K C name f ∧ Binds K fd ps []
def DefI (K : PySem.W.Frag) (C : Addr) (qual : Str) (st : Stmt) (ps : List Str) : Prop := ∃ f fd, Fun K "__init__" qual st f fd ∧ Mk K C f ∧ Binds K fd ps []
/-- what the top has written, as far as the proof asks -/
structure Top (K : PySem.W.Frag) (mg : Str → Option Value) (cPart cDraft cRun cBench : Addr) : Prop where
  c_WALL : ∃ t, mg "WALL" = some (.int 35 t)
  c_AIR : ∃ t, mg "AIR" = some (.int 46 t)
  c_SLOPE_RIGHT : ∃ t, mg "SLOPE_RIGHT" = some (.int 92 t)
  c_SLOPE_LEFT : ∃ t, mg "SLOPE_LEFT" = some (.int 47 t)
  c_BELT_RIGHT : ∃ t, mg "BELT_RIGHT" = some (.int 62 t)
  c_BELT_LEFT : ∃ t, mg "BELT_LEFT" = some (.int 60 t)
  c_LIFT : ∃ t, mg "LIFT" = some (.int 94 t)
  c_FLIP_RIGHT : ∃ t, mg "FLIP_RIGHT" = some (.int 89 t)
  c_FLIP_LEFT : ∃ t, mg "FLIP_LEFT" = some (.int 121 t)
  c_BIN : ∃ t, mg "BIN" = some (.int 85 t)
  c_BELL : ∃ t, mg "BELL" = some (.int 33 t)
  c_DRUM : ∃ t, mg "DRUM" = some (.int 79 t)
  c_FIRST_PLATE : ∃ t, mg "FIRST_PLATE" = some (.int 97 t)
  c_FIRST_GATE : ∃ t, mg "FIRST_GATE" = some (.int 65 t)
  c_MANY_LETTERS : ∃ t, mg "MANY_LETTERS" = some (.int 6 t)
  c_FIRST_COUNTER : ∃ t, mg "FIRST_COUNTER" = some (.int 50 t)
  c_LAST_COUNTER : ∃ t, mg "LAST_COUNTER" = some (.int 57 t)
  c_ZERO : ∃ t, mg "ZERO" = some (.int 48 t)
  c_NOBODY : ∃ t, mg "NOBODY" = some (.int (-1) t)
  c_WAITING : ∃ t, mg "WAITING" = some (.int (-1) t)
  c_GONE : ∃ t, mg "GONE" = some (.int (-2) t)
  c_MOST_SETS : ∃ t, mg "MOST_SETS" = some (.int 64 t)
  c_SPACE : ∃ t, mg "SPACE" = some (.int 32 t)
  c_LINE_END : ∃ t, mg "LINE_END" = some (.int 10 t)
  c_MINUS : ∃ t, mg "MINUS" = some (.int 45 t)
  c_FIRST_DIGIT : ∃ t, mg "FIRST_DIGIT" = some (.int 48 t)
  c_LAST_DIGIT : ∃ t, mg "LAST_DIGIT" = some (.int 57 t)
  c_FIRST_LETTER : ∃ t, mg "FIRST_LETTER" = some (.int 97 t)
  c_LAST_LETTER : ∃ t, mg "LAST_LETTER" = some (.int 122 t)
  c_MOST_DIGITS : ∃ t, mg "MOST_DIGITS" = some (.int 3 t)
  c_MOST_LETTERS : ∃ t, mg "MOST_LETTERS" = some (.int 8 t)
  c_COLON : ∃ t, mg "COLON" = some (.int 58 t)
  c_SEMICOLON : ∃ t, mg "SEMICOLON" = some (.int 59 t)
  c_MOST_SIZE : ∃ t, mg "MOST_SIZE" = some (.int 24 t)
  c_MOST_PARTS : ∃ t, mg "MOST_PARTS" = some (.int 12 t)
  c_MOST_COPIES : ∃ t, mg "MOST_COPIES" = some (.int 12 t)
  c_MOST_MARBLES_texts : ∃ t, mg "MOST_MARBLES_texts" = some (.int 40 t)
  c_GREATEST : ∃ t, mg "GREATEST" = some (.int 999 t)
  c_NOT_LOADED : ∃ t, mg "NOT_LOADED" = some (.int (-7) t)
  c_OUT_OF_RANGE : ∃ t, mg "OUT_OF_RANGE" = some (.int (-2) t)
  c_NO_REPAIR : ∃ t, mg "NO_REPAIR" = some (.int (-3) t)
  c_TOO_MUCH : ∃ t, mg "TOO_MUCH" = some (.int (-4) t)
  c_MOST_BYTES : ∃ t, mg "MOST_BYTES" = some (.int 4000 t)
  c_MOST_CELLS : ∃ t, mg "MOST_CELLS" = some (.int 36 t)
  c_MOST_SIGNS : ∃ t, mg "MOST_SIGNS" = some (.int 12 t)
  c_MOST_TICKS : ∃ t, mg "MOST_TICKS" = some (.int 40 t)
  c_MOST_MARBLES_mending : ∃ t, mg "MOST_MARBLES_mending" = some (.int 40 t)
  b_len : mg "len" = none
  b_range : mg "range" = none
  b_enumerate : mg "enumerate" = none
  b_zip : mg "zip" = none
  b_sorted : mg "sorted" = none
  b_any : mg "any" = none
  b_all : mg "all" = none
  b_ord : mg "ord" = none
  b_list : mg "list" = none
  b_dict : mg "dict" = none
  d_is_plate : Def K mg "is_plate" s_is_plate ["sign"]
  d_is_gate : Def K mg "is_gate" s_is_gate ["sign"]
  d_is_counter : Def K mg "is_counter" s_is_counter ["sign"]
  d_is_flip : Def K mg "is_flip" s_is_flip ["sign"]
  d_is_cell_sign : Def K mg "is_cell_sign" s_is_cell_sign ["sign"]
  d_cell_of : Def K mg "cell_of" s_cell_of ["sign"]
  d_mirrored : Def K mg "mirrored" s_mirrored ["cell"]
  d_with_more_groups : Def K mg "with_more_groups" s_with_more_groups ["cell", "many"]
  d_link_of : Def K mg "link_of" s_link_of ["cell"]
  d_sign_at : Def K mg "sign_at" s_sign_at ["run", "place"]
  d_permits_at : Def K mg "permits_at" s_permits_at ["run", "place"]
  d_add_permits : Def K mg "add_permits" s_add_permits ["run", "place", "many"]
  d_side_of_flip : Def K mg "side_of_flip" s_side_of_flip ["run", "place"]
  d_side_of_counter : Def K mg "side_of_counter" s_side_of_counter ["run", "place"]
  d_shift_from : Def K mg "shift_from" s_shift_from ["run", "place"]
  d_destination_from : Def K mg "destination_from" s_destination_from ["run", "place"]
  d_is_reachable : Def K mg "is_reachable" s_is_reachable ["run", "column", "row"]
  d_is_free : Def K mg "is_free" s_is_free ["run", "place"]
  d_is_held_back : Def K mg "is_held_back" s_is_held_back ["run", "place"]
  d_moving_places : Def K mg "moving_places" s_moving_places ["run"]
  d_has_drums : Def K mg "has_drums" s_has_drums ["run"]
  d_pushed_drums : Def K mg "pushed_drums" s_pushed_drums ["run", "places"]
  d_leave : Def K mg "leave" s_leave ["run", "place"]
  d_enter : Def K mg "enter" s_enter ["run", "place", "marble"]
  d_move_from : Def K mg "move_from" s_move_from ["run", "place", "drums"]
  d_let_in : Def K mg "let_in" s_let_in ["run"]
  d_do_tick : Def K mg "do_tick" s_do_tick ["run"]
  d_is_over : Def K mg "is_over" s_is_over ["run"]
  d_ringing_of : Def K mg "ringing_of" s_ringing_of ["board", "marbles", "horizon"]
  d_path_of : Def K mg "path_of" s_path_of ["board", "marbles", "horizon", "marble"]
  d_changed_board : Def K mg "changed_board" s_changed_board ["board", "place", "sign"]
  d_all_changes : Def K mg "all_changes" s_all_changes ["board", "palette"]
  d_ringing_with : Def K mg "ringing_with" s_ringing_with ["board", "marbles", "horizon", "change"]
  d_repairs_of : Def K mg "repairs_of" s_repairs_of ["board", "marbles", "horizon", "palette", "target"]
  d_noticeable_changes : Def K mg "noticeable_changes" s_noticeable_changes ["board", "marbles", "horizon", "palette"]
  d_idle_places : Def K mg "idle_places" s_idle_places ["board", "marbles", "horizon"]
  d_part_named : Def K mg "part_named" s_part_named ["parts", "name"]
  d_mirrored_cells : Def K mg "mirrored_cells" s_mirrored_cells ["part"]
  d_is_inside : Def K mg "is_inside" s_is_inside ["part", "copied", "x", "y"]
  d_copy_places : Def K mg "copy_places" s_copy_places ["part", "copied", "x", "y"]
  d_is_overlapping : Def K mg "is_overlapping" s_is_overlapping ["part", "cells", "places"]
  d_copy_into : Def K mg "copy_into" s_copy_into ["part", "copied", "cells", "x", "y"]
  d_bytes_of : Def K mg "bytes_of" s_bytes_of ["word"]
  d_pieces : Def K mg "pieces" s_pieces ["given", "between"]
  d_lines_of : Def K mg "lines_of" s_lines_of ["text"]
  d_words_of : Def K mg "words_of" s_words_of ["line"]
  d_is_digit : Def K mg "is_digit" s_is_digit ["byte"]
  d_is_number : Def K mg "is_number" s_is_number ["word"]
  d_number_of : Def K mg "number_of" s_number_of ["word"]
  d_is_number_within : Def K mg "is_number_within" s_is_number_within ["word", "least", "most"]
  d_is_signed : Def K mg "is_signed" s_is_signed ["word"]
  d_signed_of : Def K mg "signed_of" s_signed_of ["word"]
  d_is_letter : Def K mg "is_letter" s_is_letter ["byte"]
  d_is_name : Def K mg "is_name" s_is_name ["word"]
  d_read_part : Def K mg "read_part" s_read_part ["draft", "words"]
  d_read_row : Def K mg "read_row" s_read_row ["draft", "line"]
  d_is_times : Def K mg "is_times" s_is_times ["words"]
  d_is_put : Def K mg "is_put" s_is_put ["words"]
  d_behind_mirror : Def K mg "behind_mirror" s_behind_mirror ["words"]
  d_read_put : Def K mg "read_put" s_read_put ["draft", "words"]
  d_read_end : Def K mg "read_end" s_read_end ["draft", "words"]
  d_is_every : Def K mg "is_every" s_is_every ["words"]
  d_is_drop : Def K mg "is_drop" s_is_drop ["words"]
  d_read_drop : Def K mg "read_drop" s_read_drop ["draft", "words"]
  d_read_line : Def K mg "read_line" s_read_line ["draft", "line"]
  d_read_text : Def K mg "read_text" s_read_text ["draft", "text"]
  d_is_text_byte : Def K mg "is_text_byte" s_is_text_byte ["byte"]
  d_load : Def K mg "load" s_load ["bench", "text"]
  d_are_different : Def K mg "are_different" s_are_different ["signs"]
  d_set_palette : Def K mg "set_palette" s_set_palette ["bench", "signs"]
  d_set_horizon : Def K mg "set_horizon" s_set_horizon ["bench", "ticks"]
  d_want_ring : Def K mg "want_ring" s_want_ring ["bench", "tick", "marble"]
  d_clear_target : Def K mg "clear_target" s_clear_target ["bench"]
  d_own_ringing : Def K mg "own_ringing" s_own_ringing ["bench"]
  d_ringing : Def K mg "ringing" s_ringing ["bench"]
  d_meets_target : Def K mg "meets_target" s_meets_target ["bench"]
  d_own_repairs : Def K mg "own_repairs" s_own_repairs ["bench"]
  d_position : Def K mg "position" s_position ["bench", "place"]
  d_positions : Def K mg "positions" s_positions ["bench", "places"]
  d_repairs : Def K mg "repairs" s_repairs ["bench"]
  d_idle_cells : Def K mg "idle_cells" s_idle_cells ["bench"]
  d_count_changes : Def K mg "count_changes" s_count_changes ["bench"]
  d_apply_repair : Def K mg "apply_repair" s_apply_repair ["bench", "index"]
  d_tell_board : Def K mg "tell_board" s_tell_board ["bench"]
  d_path : Def K mg "path" s_path ["bench", "marble"]
  d_split_calls : Def K mg "split_calls" s_split_calls ["calls"]
  d_set_or_tell : Def K mg "set_or_tell" s_set_or_tell ["bench", "number", "numbers"]
  d_answered : Def K mg "answered" s_answered ["bench", "number", "numbers"]
  d_answers : Def K mg "answers" s_answers ["calls"]
  mir : ∃ d, mg "MIRRORED_SIGNS" = some (.ref d) ∧ KD K d Mir.mirTab
  sm : ∃ q, mg "SIMPLE_SIGNS" = some (.ref q) ∧ SqT K (fun _ => none) q (([35, 46, 94, 85, 33, 79] : List Int).map V.int)
  g_Run : mg "Run" = some (.ref cRun)
  k_Run : Cls K cRun
  f_Run_board : NoAttr K cRun "board"
  f_Run_marbles : NoAttr K cRun "marbles"
  f_Run_tick : NoAttr K cRun "tick"
  f_Run_places : NoAttr K cRun "places"
  f_Run_held : NoAttr K cRun "held"
  f_Run_counts : NoAttr K cRun "counts"
  f_Run_permits : NoAttr K cRun "permits"
  f_Run_rings : NoAttr K cRun "rings"
  i_Run : DefI K cRun "Run.__init__" s_Run___init__ ["self", "board", "marbles"]
  g_Part : mg "Part" = some (.ref cPart)
  k_Part : Cls K cPart
  f_Part_name : NoAttr K cPart "name"
  f_Part_width : NoAttr K cPart "width"
  f_Part_height : NoAttr K cPart "height"
  f_Part_cells : NoAttr K cPart "cells"
  f_Part_many_sets : NoAttr K cPart "many_sets"
  i_Part : DefI K cPart "Part.__init__" s_Part___init__ ["self", "name", "width", "height"]
  m_Part_is_full : DefM K cPart "is_full" "Part.is_full" s_Part_is_full ["self"]
  m_Part_add_row : DefM K cPart "add_row" "Part.add_row" s_Part_add_row ["self", "cells"]
  m_Part_place : DefM K cPart "place" "Part.place" s_Part_place ["self", "at", "cell"]
  m_Part_add_sets : DefM K cPart "add_sets" "Part.add_sets" s_Part_add_sets ["self", "many"]
  g_Draft : mg "Draft" = some (.ref cDraft)
  k_Draft : Cls K cDraft
  f_Draft_parts : NoAttr K cDraft "parts"
  f_Draft_begun : NoAttr K cDraft "begun"
  f_Draft_marbles : NoAttr K cDraft "marbles"
  i_Draft : DefI K cDraft "Draft.__init__" s_Draft___init__ ["self"]
  m_Draft_begin : DefM K cDraft "begin" "Draft.begin" s_Draft_begin ["self", "part"]
  m_Draft_end : DefM K cDraft "end" "Draft.end" s_Draft_end ["self"]
  m_Draft_add_marble : DefM K cDraft "add_marble" "Draft.add_marble" s_Draft_add_marble ["self", "column", "tick"]
  g_Bench : mg "Bench" = some (.ref cBench)
  k_Bench : Cls K cBench
  f_Bench_is_loaded : NoAttr K cBench "is_loaded"
  f_Bench_board : NoAttr K cBench "board"
  f_Bench_marbles : NoAttr K cBench "marbles"
  f_Bench_horizon : NoAttr K cBench "horizon"
  f_Bench_target : NoAttr K cBench "target"
  f_Bench_palette : NoAttr K cBench "palette"
  i_Bench : DefI K cBench "Bench.__init__" s_Bench___init__ ["self"]
  m_Bench_load : DefM K cBench "load" "Bench.load" s_Bench_load ["self", "board", "marbles"]
end Ck
end
section
set_option Elab.async false
set_option linter.all false
set_option maxRecDepth 100000
set_option maxHeartbeats 4000000
namespace Ck
open PySem PySem.Spec PyProof.Rows L2
section
variable {K : PySem.W.Frag} {h : Heap} {mg : Str → Option Value}
theorem mk_def {f : Addr} {od an : Option Addr} {sl : Array (Option Value)} {oc kV dc pm cd ct : Value} {name : Str} {st : Stmt} {ps : List Str} (X : K.In h) (G : h.Ns mainGlobals mg) (a : PySem.W.nsIn K mainGlobals name = some (some (.ref f)))
    (l : K.lookup f = some ⟨oc, od, .func (PySem.W.fnOf name name (defArgs st) (defBody st) (defScope st) .none kV dc pm an cd ct), sl⟩) (c : PySem.W.codeIn K cd name = true) (k : PySem.W.keepIn K (.ref f) = true)
    (hb : ∀ {fd : FuncData}, Fun K name name st f fd → Binds K fd ps []) : Def K mg name st ps :=
  ⟨⟨f, _, fun_mk (st := st) l c k, PySem.W.mg_of X G a, hb (fun_mk (st := st) l c k)⟩⟩
theorem mk_meth {C f : Addr} {od an : Option Addr} {sl : Array (Option Value)} {oc kV dc pm cd ct : Value} {name qual : Str} {st : Stmt} {ps : List Str} (a : PySem.W.findIn K (.ref C) name = some (some (.ref f))) (i : PySem.W.isFn K (.ref f) = true)
    (l : K.lookup f = some ⟨oc, od, .func (PySem.W.fnOf name qual (defArgs st) (defBody st) (defScope st) .none kV dc pm an cd ct), sl⟩) (c : PySem.W.codeIn K cd qual = true) (k : PySem.W.keepIn K (.ref f) = true)
    (hb : ∀ {fd : FuncData}, Fun K name qual st f fd → Binds K fd ps []) : DefM K C name qual st ps :=
  ⟨f, _, fun_mk (st := st) l c k, ⟨a, i, k⟩, hb (fun_mk (st := st) l c k)⟩
theorem mk_init {C f : Addr} {od an : Option Addr} {sl : Array (Option Value)} {oc kV dc pm cd ct : Value} {qual : Str} {st : Stmt} {ps : List Str} (a : PySem.W.findIn K (.ref C) "__init__" = some (some (.ref f))) (i : PySem.W.isFn K (.ref f) = true)
    (l : K.lookup f = some ⟨oc, od, .func (PySem.W.fnOf "__init__" qual (defArgs st) (defBody st) (defScope st) .none kV dc pm an cd ct), sl⟩) (c : PySem.W.codeIn K cd qual = true) (k : PySem.W.keepIn K (.ref f) = true) (mk : PySem.W.makesIn K C = true) (kc : PySem.W.keepIn K (.ref C) = true)
    (hb : ∀ {fd : FuncData}, Fun K "__init__" qual st f fd → Binds K fd ps []) : DefI K C qual st ps :=
  ⟨f, _, fun_mk (st := st) l c k, ⟨mk, a, i, kc⟩, hb (fun_mk (st := st) l c k)⟩
theorem mk_int {name : Str} {i : Int} {t : Tok} (X : K.In h) (G : h.Ns mainGlobals mg) (a : PySem.W.nsIn K mainGlobals name = some (some (.int i t))) : ∃ t, mg name = some (.int i t) := ⟨t, PySem.W.mg_of X G a⟩
theorem mk_mir {d : Addr} {ep : Nat} {t1 t2 t3 t4 t5 t6 u1 u2 u3 u4 u5 u6 : Tok} (X : K.In h) (G : h.Ns mainGlobals mg) (a : PySem.W.nsIn K mainGlobals "MIRRORED_SIGNS" = some (some (.ref d)))
    (l : K.lookup d = some ⟨.type "dict", none, .dict #[⟨92, .int 92 t1, .int 47 u1⟩, ⟨47, .int 47 t2, .int 92 u2⟩, ⟨62, .int 62 t3, .int 60 u3⟩, ⟨60, .int 60 t4, .int 62 u4⟩, ⟨89, .int 89 t5, .int 121 u5⟩, ⟨121, .int 121 t6, .int 89 u6⟩] ep, #[]⟩) (n : (d == sysModules) = false) :
    ∃ d, mg "MIRRORED_SIGNS" = some (.ref d) ∧ KD K d Mir.mirTab := by
  refine ⟨d, PySem.W.mg_of X G a, n, [(92, .int 47 u1), (47, .int 92 u2), (62, .int 60 u3), (60, .int 62 u4), (89, .int 121 u5), (121, .int 89 u6)], ?_, fun P w h' X' => ⟨_, _, _, X' _ _ l, ⟨rfl, rfl, rfl⟩, rfl, ?_, ?_, by show ([92, 47, 62, 60, 89, 121] : List Int).Nodup; decide⟩⟩
  · exact .cons ⟨rfl, _, rfl⟩ (.cons ⟨rfl, _, rfl⟩ (.cons ⟨rfl, _, rfl⟩ (.cons ⟨rfl, _, rfl⟩ (.cons ⟨rfl, _, rfl⟩ (.cons ⟨rfl, _, rfl⟩ .nil)))))
  · intro e he
    simp only [Array.mem_def, List.mem_cons, List.not_mem_nil, or_false] at he
    rcases he with e | e | e | e | e | e <;> subst e
    · exact ⟨92, rfl, by show (92 : Int) = hashInt 92; decide⟩
    · exact ⟨47, rfl, by show (47 : Int) = hashInt 47; decide⟩
    · exact ⟨62, rfl, by show (62 : Int) = hashInt 62; decide⟩
    · exact ⟨60, rfl, by show (60 : Int) = hashInt 60; decide⟩
    · exact ⟨89, rfl, by show (89 : Int) = hashInt 89; decide⟩
    · exact ⟨121, rfl, by show (121 : Int) = hashInt 121; decide⟩
  · exact .cons rfl rfl (.cons rfl rfl (.cons rfl rfl (.cons rfl rfl (.cons rfl rfl (.cons rfl rfl .nil)))))
theorem mk_sm {q : Addr} {od : Option Addr} {n : Nat} {sl : Array (Option Value)} {t1 t2 t3 t4 t5 t6 : Tok} (X : K.In h) (G : h.Ns mainGlobals mg) (a : PySem.W.nsIn K mainGlobals "SIMPLE_SIGNS" = some (some (.ref q)))
    (l : K.lookup q = some ⟨.type "tuple", od, .seq #[.int 35 t1, .int 46 t2, .int 94 t3, .int 85 t4, .int 33 t5, .int 79 t6] n, sl⟩) :
    ∃ q, mg "SIMPLE_SIGNS" = some (.ref q) ∧ SqT K (fun _ => none) q (([35, 46, 94, 85, 33, 79] : List Int).map V.int) :=
  ⟨q, PySem.W.mg_of X G a, .inr ⟨_, _, _, l, rfl, rfl, by show 6 ≤ sizeLine; decide, .cons ⟨_, rfl⟩ (.cons ⟨_, rfl⟩ (.cons ⟨_, rfl⟩ (.cons ⟨_, rfl⟩ (.cons ⟨_, rfl⟩ (.cons ⟨_, rfl⟩ .nil)))))⟩⟩
end
/-- the promise of the asked def -/
def spA (K : PySem.W.Frag) : Sp := Ct (a1 (rQ K rInt)) (onPre fun x => Mir.Asked x.1) (rL rInt) fun x => Mir.answers x.1
theorem end_S {K : PySem.W.Frag} {H : Hp} {l m : List Int} {a : Addr} {Q : VK} {E : XK} (hs : SqL K H a (l.map V.int)) (h1 : Mir.Asked l) (h2 : Mir.answers l = m) (hQ : ∀ (H' : Hp) (p : Addr), H' p = some (.lst (m.map .int)) → Q (.ref p) H') : spA K [.ref a] H Q E := by
  refine ⟨H, (l, ()), fun _ _ z => z, ⟨_, [], rfl, ⟨_, _, rfl, hs, ints_paired _⟩, rfl⟩, h1, fun v G' H' w hv => ?_⟩
  obtain ⟨p, vs, rfl, hp, hvs⟩ := hv
  have ev := paired_ints hvs
  subst ev
  have hp2 : G' p = some (.lst ((Mir.answers l).map .int)) := hp
  rw [h2] at hp2
  exact hQ _ _ (w.s _ _ hp2)
end Ck
end
section
set_option Elab.async false
set_option linter.all false
set_option maxRecDepth 100000
set_option maxHeartbeats 0
namespace Ck
open PySem PySem.W PySem.Calls PyProof.Rows
theorem top_of {w : World} {mg : Str → Option Value} {h : Heap} (KX : (Tp.hd.heap_1 w.params).In h) (G : h.Ns mainGlobals mg) : ∃ CPart CDraft CRun CBench, Ck.Top (Tp.hd.heap_1 w.params) mg CPart CDraft CRun CBench := by
  have c_WALL : ∃ t, mg "WALL" = some (.int 35 t) := ⟨_, PySem.W.mg_of KX G (by k_is)⟩
  have c_AIR : ∃ t, mg "AIR" = some (.int 46 t) := ⟨_, PySem.W.mg_of KX G (by k_is)⟩
  have c_SLOPE_RIGHT : ∃ t, mg "SLOPE_RIGHT" = some (.int 92 t) := ⟨_, PySem.W.mg_of KX G (by k_is)⟩
  have c_SLOPE_LEFT : ∃ t, mg "SLOPE_LEFT" = some (.int 47 t) := ⟨_, PySem.W.mg_of KX G (by k_is)⟩
  have c_BELT_RIGHT : ∃ t, mg "BELT_RIGHT" = some (.int 62 t) := ⟨_, PySem.W.mg_of KX G (by k_is)⟩
  have c_BELT_LEFT : ∃ t, mg "BELT_LEFT" = some (.int 60 t) := ⟨_, PySem.W.mg_of KX G (by k_is)⟩
  have c_LIFT : ∃ t, mg "LIFT" = some (.int 94 t) := ⟨_, PySem.W.mg_of KX G (by k_is)⟩
  have c_FLIP_RIGHT : ∃ t, mg "FLIP_RIGHT" = some (.int 89 t) := ⟨_, PySem.W.mg_of KX G (by k_is)⟩
  have c_FLIP_LEFT : ∃ t, mg "FLIP_LEFT" = some (.int 121 t) := ⟨_, PySem.W.mg_of KX G (by k_is)⟩
  have c_BIN : ∃ t, mg "BIN" = some (.int 85 t) := ⟨_, PySem.W.mg_of KX G (by k_is)⟩
  have c_BELL : ∃ t, mg "BELL" = some (.int 33 t) := ⟨_, PySem.W.mg_of KX G (by k_is)⟩
  have c_DRUM : ∃ t, mg "DRUM" = some (.int 79 t) := ⟨_, PySem.W.mg_of KX G (by k_is)⟩
  have c_FIRST_PLATE : ∃ t, mg "FIRST_PLATE" = some (.int 97 t) := ⟨_, PySem.W.mg_of KX G (by k_is)⟩
  have c_FIRST_GATE : ∃ t, mg "FIRST_GATE" = some (.int 65 t) := ⟨_, PySem.W.mg_of KX G (by k_is)⟩
  have c_MANY_LETTERS : ∃ t, mg "MANY_LETTERS" = some (.int 6 t) := ⟨_, PySem.W.mg_of KX G (by k_is)⟩
  have c_FIRST_COUNTER : ∃ t, mg "FIRST_COUNTER" = some (.int 50 t) := ⟨_, PySem.W.mg_of KX G (by k_is)⟩
  have c_LAST_COUNTER : ∃ t, mg "LAST_COUNTER" = some (.int 57 t) := ⟨_, PySem.W.mg_of KX G (by k_is)⟩
  have c_ZERO : ∃ t, mg "ZERO" = some (.int 48 t) := ⟨_, PySem.W.mg_of KX G (by k_is)⟩
  have c_NOBODY : ∃ t, mg "NOBODY" = some (.int (-1) t) := ⟨_, PySem.W.mg_of KX G (by k_is)⟩
  have c_WAITING : ∃ t, mg "WAITING" = some (.int (-1) t) := ⟨_, PySem.W.mg_of KX G (by k_is)⟩
  have c_GONE : ∃ t, mg "GONE" = some (.int (-2) t) := ⟨_, PySem.W.mg_of KX G (by k_is)⟩
  have c_MOST_SETS : ∃ t, mg "MOST_SETS" = some (.int 64 t) := ⟨_, PySem.W.mg_of KX G (by k_is)⟩
  have c_SPACE : ∃ t, mg "SPACE" = some (.int 32 t) := ⟨_, PySem.W.mg_of KX G (by k_is)⟩
  have c_LINE_END : ∃ t, mg "LINE_END" = some (.int 10 t) := ⟨_, PySem.W.mg_of KX G (by k_is)⟩
  have c_MINUS : ∃ t, mg "MINUS" = some (.int 45 t) := ⟨_, PySem.W.mg_of KX G (by k_is)⟩
  have c_FIRST_DIGIT : ∃ t, mg "FIRST_DIGIT" = some (.int 48 t) := ⟨_, PySem.W.mg_of KX G (by k_is)⟩
  have c_LAST_DIGIT : ∃ t, mg "LAST_DIGIT" = some (.int 57 t) := ⟨_, PySem.W.mg_of KX G (by k_is)⟩
  have c_FIRST_LETTER : ∃ t, mg "FIRST_LETTER" = some (.int 97 t) := ⟨_, PySem.W.mg_of KX G (by k_is)⟩
  have c_LAST_LETTER : ∃ t, mg "LAST_LETTER" = some (.int 122 t) := ⟨_, PySem.W.mg_of KX G (by k_is)⟩
  have c_MOST_DIGITS : ∃ t, mg "MOST_DIGITS" = some (.int 3 t) := ⟨_, PySem.W.mg_of KX G (by k_is)⟩
  have c_MOST_LETTERS : ∃ t, mg "MOST_LETTERS" = some (.int 8 t) := ⟨_, PySem.W.mg_of KX G (by k_is)⟩
  have c_COLON : ∃ t, mg "COLON" = some (.int 58 t) := ⟨_, PySem.W.mg_of KX G (by k_is)⟩
  have c_SEMICOLON : ∃ t, mg "SEMICOLON" = some (.int 59 t) := ⟨_, PySem.W.mg_of KX G (by k_is)⟩
  have c_MOST_SIZE : ∃ t, mg "MOST_SIZE" = some (.int 24 t) := ⟨_, PySem.W.mg_of KX G (by k_is)⟩
  have c_MOST_PARTS : ∃ t, mg "MOST_PARTS" = some (.int 12 t) := ⟨_, PySem.W.mg_of KX G (by k_is)⟩
  have c_MOST_COPIES : ∃ t, mg "MOST_COPIES" = some (.int 12 t) := ⟨_, PySem.W.mg_of KX G (by k_is)⟩
  have c_MOST_MARBLES_texts : ∃ t, mg "MOST_MARBLES_texts" = some (.int 40 t) := ⟨_, PySem.W.mg_of KX G (by k_is)⟩
  have c_GREATEST : ∃ t, mg "GREATEST" = some (.int 999 t) := ⟨_, PySem.W.mg_of KX G (by k_is)⟩
  have c_NOT_LOADED : ∃ t, mg "NOT_LOADED" = some (.int (-7) t) := ⟨_, PySem.W.mg_of KX G (by k_is)⟩
  have c_OUT_OF_RANGE : ∃ t, mg "OUT_OF_RANGE" = some (.int (-2) t) := ⟨_, PySem.W.mg_of KX G (by k_is)⟩
  have c_NO_REPAIR : ∃ t, mg "NO_REPAIR" = some (.int (-3) t) := ⟨_, PySem.W.mg_of KX G (by k_is)⟩
  have c_TOO_MUCH : ∃ t, mg "TOO_MUCH" = some (.int (-4) t) := ⟨_, PySem.W.mg_of KX G (by k_is)⟩
  have c_MOST_BYTES : ∃ t, mg "MOST_BYTES" = some (.int 4000 t) := ⟨_, PySem.W.mg_of KX G (by k_is)⟩
  have c_MOST_CELLS : ∃ t, mg "MOST_CELLS" = some (.int 36 t) := ⟨_, PySem.W.mg_of KX G (by k_is)⟩
  have c_MOST_SIGNS : ∃ t, mg "MOST_SIGNS" = some (.int 12 t) := ⟨_, PySem.W.mg_of KX G (by k_is)⟩
  have c_MOST_TICKS : ∃ t, mg "MOST_TICKS" = some (.int 40 t) := ⟨_, PySem.W.mg_of KX G (by k_is)⟩
  have c_MOST_MARBLES_mending : ∃ t, mg "MOST_MARBLES_mending" = some (.int 40 t) := ⟨_, PySem.W.mg_of KX G (by k_is)⟩
  have b_len : mg "len" = none := PySem.W.mg_none_of KX G (by k_is)
  have b_range : mg "range" = none := PySem.W.mg_none_of KX G (by k_is)
  have b_enumerate : mg "enumerate" = none := PySem.W.mg_none_of KX G (by k_is)
  have b_zip : mg "zip" = none := PySem.W.mg_none_of KX G (by k_is)
  have b_sorted : mg "sorted" = none := PySem.W.mg_none_of KX G (by k_is)
  have b_any : mg "any" = none := PySem.W.mg_none_of KX G (by k_is)
  have b_all : mg "all" = none := PySem.W.mg_none_of KX G (by k_is)
  have b_ord : mg "ord" = none := PySem.W.mg_none_of KX G (by k_is)
  have b_list : mg "list" = none := PySem.W.mg_none_of KX G (by k_is)
  have b_dict : mg "dict" = none := PySem.W.mg_none_of KX G (by k_is)
  have d_is_plate : Ck.Def (Tp.hd.heap_1 w.params) mg "is_plate" Ck.s_is_plate ["sign"] := by
    refine' Ck.mk_def KX G ?a ?l ?c ?k (fun F => F.binds fun _ _ _ _ _ _ us hl => match us, hl with | [_], _ => rfl)
    (case a => k_is); (case l => k_is); (case c => k_is); (case k => k_is)
  have d_is_gate : Ck.Def (Tp.hd.heap_1 w.params) mg "is_gate" Ck.s_is_gate ["sign"] := by
    refine' Ck.mk_def KX G ?a ?l ?c ?k (fun F => F.binds fun _ _ _ _ _ _ us hl => match us, hl with | [_], _ => rfl)
    (case a => k_is); (case l => k_is); (case c => k_is); (case k => k_is)
  have d_is_counter : Ck.Def (Tp.hd.heap_1 w.params) mg "is_counter" Ck.s_is_counter ["sign"] := by
    refine' Ck.mk_def KX G ?a ?l ?c ?k (fun F => F.binds fun _ _ _ _ _ _ us hl => match us, hl with | [_], _ => rfl)
    (case a => k_is); (case l => k_is); (case c => k_is); (case k => k_is)
  have d_is_flip : Ck.Def (Tp.hd.heap_1 w.params) mg "is_flip" Ck.s_is_flip ["sign"] := by
    refine' Ck.mk_def KX G ?a ?l ?c ?k (fun F => F.binds fun _ _ _ _ _ _ us hl => match us, hl with | [_], _ => rfl)
    (case a => k_is); (case l => k_is); (case c => k_is); (case k => k_is)
  have d_is_cell_sign : Ck.Def (Tp.hd.heap_1 w.params) mg "is_cell_sign" Ck.s_is_cell_sign ["sign"] := by
    refine' Ck.mk_def KX G ?a ?l ?c ?k (fun F => F.binds fun _ _ _ _ _ _ us hl => match us, hl with | [_], _ => rfl)
    (case a => k_is); (case l => k_is); (case c => k_is); (case k => k_is)
  have d_cell_of : Ck.Def (Tp.hd.heap_1 w.params) mg "cell_of" Ck.s_cell_of ["sign"] := by
    refine' Ck.mk_def KX G ?a ?l ?c ?k (fun F => F.binds fun _ _ _ _ _ _ us hl => match us, hl with | [_], _ => rfl)
    (case a => k_is); (case l => k_is); (case c => k_is); (case k => k_is)
  have d_mirrored : Ck.Def (Tp.hd.heap_1 w.params) mg "mirrored" Ck.s_mirrored ["cell"] := by
    refine' Ck.mk_def KX G ?a ?l ?c ?k (fun F => F.binds fun _ _ _ _ _ _ us hl => match us, hl with | [_], _ => rfl)
    (case a => k_is); (case l => k_is); (case c => k_is); (case k => k_is)
  have d_with_more_groups : Ck.Def (Tp.hd.heap_1 w.params) mg "with_more_groups" Ck.s_with_more_groups ["cell", "many"] := by
    refine' Ck.mk_def KX G ?a ?l ?c ?k (fun F => F.binds fun _ _ _ _ _ _ us hl => match us, hl with | [_, _], _ => rfl)
    (case a => k_is); (case l => k_is); (case c => k_is); (case k => k_is)
  have d_link_of : Ck.Def (Tp.hd.heap_1 w.params) mg "link_of" Ck.s_link_of ["cell"] := by
    refine' Ck.mk_def KX G ?a ?l ?c ?k (fun F => F.binds fun _ _ _ _ _ _ us hl => match us, hl with | [_], _ => rfl)
    (case a => k_is); (case l => k_is); (case c => k_is); (case k => k_is)
  have d_sign_at : Ck.Def (Tp.hd.heap_1 w.params) mg "sign_at" Ck.s_sign_at ["run", "place"] := by
    refine' Ck.mk_def KX G ?a ?l ?c ?k (fun F => F.binds fun _ _ _ _ _ _ us hl => match us, hl with | [_, _], _ => rfl)
    (case a => k_is); (case l => k_is); (case c => k_is); (case k => k_is)
  have d_permits_at : Ck.Def (Tp.hd.heap_1 w.params) mg "permits_at" Ck.s_permits_at ["run", "place"] := by
    refine' Ck.mk_def KX G ?a ?l ?c ?k (fun F => F.binds fun _ _ _ _ _ _ us hl => match us, hl with | [_, _], _ => rfl)
    (case a => k_is); (case l => k_is); (case c => k_is); (case k => k_is)
  have d_add_permits : Ck.Def (Tp.hd.heap_1 w.params) mg "add_permits" Ck.s_add_permits ["run", "place", "many"] := by
    refine' Ck.mk_def KX G ?a ?l ?c ?k (fun F => F.binds fun _ _ _ _ _ _ us hl => match us, hl with | [_, _, _], _ => rfl)
    (case a => k_is); (case l => k_is); (case c => k_is); (case k => k_is)
  have d_side_of_flip : Ck.Def (Tp.hd.heap_1 w.params) mg "side_of_flip" Ck.s_side_of_flip ["run", "place"] := by
    refine' Ck.mk_def KX G ?a ?l ?c ?k (fun F => F.binds fun _ _ _ _ _ _ us hl => match us, hl with | [_, _], _ => rfl)
    (case a => k_is); (case l => k_is); (case c => k_is); (case k => k_is)
  have d_side_of_counter : Ck.Def (Tp.hd.heap_1 w.params) mg "side_of_counter" Ck.s_side_of_counter ["run", "place"] := by
    refine' Ck.mk_def KX G ?a ?l ?c ?k (fun F => F.binds fun _ _ _ _ _ _ us hl => match us, hl with | [_, _], _ => rfl)
    (case a => k_is); (case l => k_is); (case c => k_is); (case k => k_is)
  have d_shift_from : Ck.Def (Tp.hd.heap_1 w.params) mg "shift_from" Ck.s_shift_from ["run", "place"] := by
    refine' Ck.mk_def KX G ?a ?l ?c ?k (fun F => F.binds fun _ _ _ _ _ _ us hl => match us, hl with | [_, _], _ => rfl)
    (case a => k_is); (case l => k_is); (case c => k_is); (case k => k_is)
  have d_destination_from : Ck.Def (Tp.hd.heap_1 w.params) mg "destination_from" Ck.s_destination_from ["run", "place"] := by
    refine' Ck.mk_def KX G ?a ?l ?c ?k (fun F => F.binds fun _ _ _ _ _ _ us hl => match us, hl with | [_, _], _ => rfl)
    (case a => k_is); (case l => k_is); (case c => k_is); (case k => k_is)
  have d_is_reachable : Ck.Def (Tp.hd.heap_1 w.params) mg "is_reachable" Ck.s_is_reachable ["run", "column", "row"] := by
    refine' Ck.mk_def KX G ?a ?l ?c ?k (fun F => F.binds fun _ _ _ _ _ _ us hl => match us, hl with | [_, _, _], _ => rfl)
    (case a => k_is); (case l => k_is); (case c => k_is); (case k => k_is)
  have d_is_free : Ck.Def (Tp.hd.heap_1 w.params) mg "is_free" Ck.s_is_free ["run", "place"] := by
    refine' Ck.mk_def KX G ?a ?l ?c ?k (fun F => F.binds fun _ _ _ _ _ _ us hl => match us, hl with | [_, _], _ => rfl)
    (case a => k_is); (case l => k_is); (case c => k_is); (case k => k_is)
  have d_is_held_back : Ck.Def (Tp.hd.heap_1 w.params) mg "is_held_back" Ck.s_is_held_back ["run", "place"] := by
    refine' Ck.mk_def KX G ?a ?l ?c ?k (fun F => F.binds fun _ _ _ _ _ _ us hl => match us, hl with | [_, _], _ => rfl)
    (case a => k_is); (case l => k_is); (case c => k_is); (case k => k_is)
  have d_moving_places : Ck.Def (Tp.hd.heap_1 w.params) mg "moving_places" Ck.s_moving_places ["run"] := by
    refine' Ck.mk_def KX G ?a ?l ?c ?k (fun F => F.binds fun _ _ _ _ _ _ us hl => match us, hl with | [_], _ => rfl)
    (case a => k_is); (case l => k_is); (case c => k_is); (case k => k_is)
  have d_has_drums : Ck.Def (Tp.hd.heap_1 w.params) mg "has_drums" Ck.s_has_drums ["run"] := by
    refine' Ck.mk_def KX G ?a ?l ?c ?k (fun F => F.binds fun _ _ _ _ _ _ us hl => match us, hl with | [_], _ => rfl)
    (case a => k_is); (case l => k_is); (case c => k_is); (case k => k_is)
  have d_pushed_drums : Ck.Def (Tp.hd.heap_1 w.params) mg "pushed_drums" Ck.s_pushed_drums ["run", "places"] := by
    refine' Ck.mk_def KX G ?a ?l ?c ?k (fun F => F.binds fun _ _ _ _ _ _ us hl => match us, hl with | [_, _], _ => rfl)
    (case a => k_is); (case l => k_is); (case c => k_is); (case k => k_is)
  have d_leave : Ck.Def (Tp.hd.heap_1 w.params) mg "leave" Ck.s_leave ["run", "place"] := by
    refine' Ck.mk_def KX G ?a ?l ?c ?k (fun F => F.binds fun _ _ _ _ _ _ us hl => match us, hl with | [_, _], _ => rfl)
    (case a => k_is); (case l => k_is); (case c => k_is); (case k => k_is)
  have d_enter : Ck.Def (Tp.hd.heap_1 w.params) mg "enter" Ck.s_enter ["run", "place", "marble"] := by
    refine' Ck.mk_def KX G ?a ?l ?c ?k (fun F => F.binds fun _ _ _ _ _ _ us hl => match us, hl with | [_, _, _], _ => rfl)
    (case a => k_is); (case l => k_is); (case c => k_is); (case k => k_is)
  have d_move_from : Ck.Def (Tp.hd.heap_1 w.params) mg "move_from" Ck.s_move_from ["run", "place", "drums"] := by
    refine' Ck.mk_def KX G ?a ?l ?c ?k (fun F => F.binds fun _ _ _ _ _ _ us hl => match us, hl with | [_, _, _], _ => rfl)
    (case a => k_is); (case l => k_is); (case c => k_is); (case k => k_is)
  have d_let_in : Ck.Def (Tp.hd.heap_1 w.params) mg "let_in" Ck.s_let_in ["run"] := by
    refine' Ck.mk_def KX G ?a ?l ?c ?k (fun F => F.binds fun _ _ _ _ _ _ us hl => match us, hl with | [_], _ => rfl)
    (case a => k_is); (case l => k_is); (case c => k_is); (case k => k_is)
  have d_do_tick : Ck.Def (Tp.hd.heap_1 w.params) mg "do_tick" Ck.s_do_tick ["run"] := by
    refine' Ck.mk_def KX G ?a ?l ?c ?k (fun F => F.binds fun _ _ _ _ _ _ us hl => match us, hl with | [_], _ => rfl)
    (case a => k_is); (case l => k_is); (case c => k_is); (case k => k_is)
  have d_is_over : Ck.Def (Tp.hd.heap_1 w.params) mg "is_over" Ck.s_is_over ["run"] := by
    refine' Ck.mk_def KX G ?a ?l ?c ?k (fun F => F.binds fun _ _ _ _ _ _ us hl => match us, hl with | [_], _ => rfl)
    (case a => k_is); (case l => k_is); (case c => k_is); (case k => k_is)
  have d_ringing_of : Ck.Def (Tp.hd.heap_1 w.params) mg "ringing_of" Ck.s_ringing_of ["board", "marbles", "horizon"] := by
    refine' Ck.mk_def KX G ?a ?l ?c ?k (fun F => F.binds fun _ _ _ _ _ _ us hl => match us, hl with | [_, _, _], _ => rfl)
    (case a => k_is); (case l => k_is); (case c => k_is); (case k => k_is)
  have d_path_of : Ck.Def (Tp.hd.heap_1 w.params) mg "path_of" Ck.s_path_of ["board", "marbles", "horizon", "marble"] := by
    refine' Ck.mk_def KX G ?a ?l ?c ?k (fun F => F.binds fun _ _ _ _ _ _ us hl => match us, hl with | [_, _, _, _], _ => rfl)
    (case a => k_is); (case l => k_is); (case c => k_is); (case k => k_is)
  have d_changed_board : Ck.Def (Tp.hd.heap_1 w.params) mg "changed_board" Ck.s_changed_board ["board", "place", "sign"] := by
    refine' Ck.mk_def KX G ?a ?l ?c ?k (fun F => F.binds fun _ _ _ _ _ _ us hl => match us, hl with | [_, _, _], _ => rfl)
    (case a => k_is); (case l => k_is); (case c => k_is); (case k => k_is)
  have d_all_changes : Ck.Def (Tp.hd.heap_1 w.params) mg "all_changes" Ck.s_all_changes ["board", "palette"] := by
    refine' Ck.mk_def KX G ?a ?l ?c ?k (fun F => F.binds fun _ _ _ _ _ _ us hl => match us, hl with | [_, _], _ => rfl)
    (case a => k_is); (case l => k_is); (case c => k_is); (case k => k_is)
  have d_ringing_with : Ck.Def (Tp.hd.heap_1 w.params) mg "ringing_with" Ck.s_ringing_with ["board", "marbles", "horizon", "change"] := by
    refine' Ck.mk_def KX G ?a ?l ?c ?k (fun F => F.binds fun _ _ _ _ _ _ us hl => match us, hl with | [_, _, _, _], _ => rfl)
    (case a => k_is); (case l => k_is); (case c => k_is); (case k => k_is)
  have d_repairs_of : Ck.Def (Tp.hd.heap_1 w.params) mg "repairs_of" Ck.s_repairs_of ["board", "marbles", "horizon", "palette", "target"] := by
    refine' Ck.mk_def KX G ?a ?l ?c ?k (fun F => F.binds fun _ _ _ _ _ _ us hl => match us, hl with | [_, _, _, _, _], _ => rfl)
    (case a => k_is); (case l => k_is); (case c => k_is); (case k => k_is)
  have d_noticeable_changes : Ck.Def (Tp.hd.heap_1 w.params) mg "noticeable_changes" Ck.s_noticeable_changes ["board", "marbles", "horizon", "palette"] := by
    refine' Ck.mk_def KX G ?a ?l ?c ?k (fun F => F.binds fun _ _ _ _ _ _ us hl => match us, hl with | [_, _, _, _], _ => rfl)
    (case a => k_is); (case l => k_is); (case c => k_is); (case k => k_is)
  have d_idle_places : Ck.Def (Tp.hd.heap_1 w.params) mg "idle_places" Ck.s_idle_places ["board", "marbles", "horizon"] := by
    refine' Ck.mk_def KX G ?a ?l ?c ?k (fun F => F.binds fun _ _ _ _ _ _ us hl => match us, hl with | [_, _, _], _ => rfl)
    (case a => k_is); (case l => k_is); (case c => k_is); (case k => k_is)
  have d_part_named : Ck.Def (Tp.hd.heap_1 w.params) mg "part_named" Ck.s_part_named ["parts", "name"] := by
    refine' Ck.mk_def KX G ?a ?l ?c ?k (fun F => F.binds fun _ _ _ _ _ _ us hl => match us, hl with | [_, _], _ => rfl)
    (case a => k_is); (case l => k_is); (case c => k_is); (case k => k_is)
  have d_mirrored_cells : Ck.Def (Tp.hd.heap_1 w.params) mg "mirrored_cells" Ck.s_mirrored_cells ["part"] := by
    refine' Ck.mk_def KX G ?a ?l ?c ?k (fun F => F.binds fun _ _ _ _ _ _ us hl => match us, hl with | [_], _ => rfl)
    (case a => k_is); (case l => k_is); (case c => k_is); (case k => k_is)
  have d_is_inside : Ck.Def (Tp.hd.heap_1 w.params) mg "is_inside" Ck.s_is_inside ["part", "copied", "x", "y"] := by
    refine' Ck.mk_def KX G ?a ?l ?c ?k (fun F => F.binds fun _ _ _ _ _ _ us hl => match us, hl with | [_, _, _, _], _ => rfl)
    (case a => k_is); (case l => k_is); (case c => k_is); (case k => k_is)
  have d_copy_places : Ck.Def (Tp.hd.heap_1 w.params) mg "copy_places" Ck.s_copy_places ["part", "copied", "x", "y"] := by
    refine' Ck.mk_def KX G ?a ?l ?c ?k (fun F => F.binds fun _ _ _ _ _ _ us hl => match us, hl with | [_, _, _, _], _ => rfl)
    (case a => k_is); (case l => k_is); (case c => k_is); (case k => k_is)
  have d_is_overlapping : Ck.Def (Tp.hd.heap_1 w.params) mg "is_overlapping" Ck.s_is_overlapping ["part", "cells", "places"] := by
    refine' Ck.mk_def KX G ?a ?l ?c ?k (fun F => F.binds fun _ _ _ _ _ _ us hl => match us, hl with | [_, _, _], _ => rfl)
    (case a => k_is); (case l => k_is); (case c => k_is); (case k => k_is)
  have d_copy_into : Ck.Def (Tp.hd.heap_1 w.params) mg "copy_into" Ck.s_copy_into ["part", "copied", "cells", "x", "y"] := by
    refine' Ck.mk_def KX G ?a ?l ?c ?k (fun F => F.binds fun _ _ _ _ _ _ us hl => match us, hl with | [_, _, _, _, _], _ => rfl)
    (case a => k_is); (case l => k_is); (case c => k_is); (case k => k_is)
  have d_bytes_of : Ck.Def (Tp.hd.heap_1 w.params) mg "bytes_of" Ck.s_bytes_of ["word"] := by
    refine' Ck.mk_def KX G ?a ?l ?c ?k (fun F => F.binds fun _ _ _ _ _ _ us hl => match us, hl with | [_], _ => rfl)
    (case a => k_is); (case l => k_is); (case c => k_is); (case k => k_is)
  have d_pieces : Ck.Def (Tp.hd.heap_1 w.params) mg "pieces" Ck.s_pieces ["given", "between"] := by
    refine' Ck.mk_def KX G ?a ?l ?c ?k (fun F => F.binds fun _ _ _ _ _ _ us hl => match us, hl with | [_, _], _ => rfl)
    (case a => k_is); (case l => k_is); (case c => k_is); (case k => k_is)
  have d_lines_of : Ck.Def (Tp.hd.heap_1 w.params) mg "lines_of" Ck.s_lines_of ["text"] := by
    refine' Ck.mk_def KX G ?a ?l ?c ?k (fun F => F.binds fun _ _ _ _ _ _ us hl => match us, hl with | [_], _ => rfl)
    (case a => k_is); (case l => k_is); (case c => k_is); (case k => k_is)
  have d_words_of : Ck.Def (Tp.hd.heap_1 w.params) mg "words_of" Ck.s_words_of ["line"] := by
    refine' Ck.mk_def KX G ?a ?l ?c ?k (fun F => F.binds fun _ _ _ _ _ _ us hl => match us, hl with | [_], _ => rfl)
    (case a => k_is); (case l => k_is); (case c => k_is); (case k => k_is)
  have d_is_digit : Ck.Def (Tp.hd.heap_1 w.params) mg "is_digit" Ck.s_is_digit ["byte"] := by
    refine' Ck.mk_def KX G ?a ?l ?c ?k (fun F => F.binds fun _ _ _ _ _ _ us hl => match us, hl with | [_], _ => rfl)
    (case a => k_is); (case l => k_is); (case c => k_is); (case k => k_is)
  have d_is_number : Ck.Def (Tp.hd.heap_1 w.params) mg "is_number" Ck.s_is_number ["word"] := by
    refine' Ck.mk_def KX G ?a ?l ?c ?k (fun F => F.binds fun _ _ _ _ _ _ us hl => match us, hl with | [_], _ => rfl)
    (case a => k_is); (case l => k_is); (case c => k_is); (case k => k_is)
  have d_number_of : Ck.Def (Tp.hd.heap_1 w.params) mg "number_of" Ck.s_number_of ["word"] := by
    refine' Ck.mk_def KX G ?a ?l ?c ?k (fun F => F.binds fun _ _ _ _ _ _ us hl => match us, hl with | [_], _ => rfl)
    (case a => k_is); (case l => k_is); (case c => k_is); (case k => k_is)
  have d_is_number_within : Ck.Def (Tp.hd.heap_1 w.params) mg "is_number_within" Ck.s_is_number_within ["word", "least", "most"] := by
    refine' Ck.mk_def KX G ?a ?l ?c ?k (fun F => F.binds fun _ _ _ _ _ _ us hl => match us, hl with | [_, _, _], _ => rfl)
    (case a => k_is); (case l => k_is); (case c => k_is); (case k => k_is)
  have d_is_signed : Ck.Def (Tp.hd.heap_1 w.params) mg "is_signed" Ck.s_is_signed ["word"] := by
    refine' Ck.mk_def KX G ?a ?l ?c ?k (fun F => F.binds fun _ _ _ _ _ _ us hl => match us, hl with | [_], _ => rfl)
    (case a => k_is); (case l => k_is); (case c => k_is); (case k => k_is)
  have d_signed_of : Ck.Def (Tp.hd.heap_1 w.params) mg "signed_of" Ck.s_signed_of ["word"] := by
    refine' Ck.mk_def KX G ?a ?l ?c ?k (fun F => F.binds fun _ _ _ _ _ _ us hl => match us, hl with | [_], _ => rfl)
    (case a => k_is); (case l => k_is); (case c => k_is); (case k => k_is)
  have d_is_letter : Ck.Def (Tp.hd.heap_1 w.params) mg "is_letter" Ck.s_is_letter ["byte"] := by
    refine' Ck.mk_def KX G ?a ?l ?c ?k (fun F => F.binds fun _ _ _ _ _ _ us hl => match us, hl with | [_], _ => rfl)
    (case a => k_is); (case l => k_is); (case c => k_is); (case k => k_is)
  have d_is_name : Ck.Def (Tp.hd.heap_1 w.params) mg "is_name" Ck.s_is_name ["word"] := by
    refine' Ck.mk_def KX G ?a ?l ?c ?k (fun F => F.binds fun _ _ _ _ _ _ us hl => match us, hl with | [_], _ => rfl)
    (case a => k_is); (case l => k_is); (case c => k_is); (case k => k_is)
  have d_read_part : Ck.Def (Tp.hd.heap_1 w.params) mg "read_part" Ck.s_read_part ["draft", "words"] := by
    refine' Ck.mk_def KX G ?a ?l ?c ?k (fun F => F.binds fun _ _ _ _ _ _ us hl => match us, hl with | [_, _], _ => rfl)
    (case a => k_is); (case l => k_is); (case c => k_is); (case k => k_is)
  have d_read_row : Ck.Def (Tp.hd.heap_1 w.params) mg "read_row" Ck.s_read_row ["draft", "line"] := by
    refine' Ck.mk_def KX G ?a ?l ?c ?k (fun F => F.binds fun _ _ _ _ _ _ us hl => match us, hl with | [_, _], _ => rfl)
    (case a => k_is); (case l => k_is); (case c => k_is); (case k => k_is)
  have d_is_times : Ck.Def (Tp.hd.heap_1 w.params) mg "is_times" Ck.s_is_times ["words"] := by
    refine' Ck.mk_def KX G ?a ?l ?c ?k (fun F => F.binds fun _ _ _ _ _ _ us hl => match us, hl with | [_], _ => rfl)
    (case a => k_is); (case l => k_is); (case c => k_is); (case k => k_is)
  have d_is_put : Ck.Def (Tp.hd.heap_1 w.params) mg "is_put" Ck.s_is_put ["words"] := by
    refine' Ck.mk_def KX G ?a ?l ?c ?k (fun F => F.binds fun _ _ _ _ _ _ us hl => match us, hl with | [_], _ => rfl)
    (case a => k_is); (case l => k_is); (case c => k_is); (case k => k_is)
  have d_behind_mirror : Ck.Def (Tp.hd.heap_1 w.params) mg "behind_mirror" Ck.s_behind_mirror ["words"] := by
    refine' Ck.mk_def KX G ?a ?l ?c ?k (fun F => F.binds fun _ _ _ _ _ _ us hl => match us, hl with | [_], _ => rfl)
    (case a => k_is); (case l => k_is); (case c => k_is); (case k => k_is)
  have d_read_put : Ck.Def (Tp.hd.heap_1 w.params) mg "read_put" Ck.s_read_put ["draft", "words"] := by
    refine' Ck.mk_def KX G ?a ?l ?c ?k (fun F => F.binds fun _ _ _ _ _ _ us hl => match us, hl with | [_, _], _ => rfl)
    (case a => k_is); (case l => k_is); (case c => k_is); (case k => k_is)
  have d_read_end : Ck.Def (Tp.hd.heap_1 w.params) mg "read_end" Ck.s_read_end ["draft", "words"] := by
    refine' Ck.mk_def KX G ?a ?l ?c ?k (fun F => F.binds fun _ _ _ _ _ _ us hl => match us, hl with | [_, _], _ => rfl)
    (case a => k_is); (case l => k_is); (case c => k_is); (case k => k_is)
  have d_is_every : Ck.Def (Tp.hd.heap_1 w.params) mg "is_every" Ck.s_is_every ["words"] := by
    refine' Ck.mk_def KX G ?a ?l ?c ?k (fun F => F.binds fun _ _ _ _ _ _ us hl => match us, hl with | [_], _ => rfl)
    (case a => k_is); (case l => k_is); (case c => k_is); (case k => k_is)
  have d_is_drop : Ck.Def (Tp.hd.heap_1 w.params) mg "is_drop" Ck.s_is_drop ["words"] := by
    refine' Ck.mk_def KX G ?a ?l ?c ?k (fun F => F.binds fun _ _ _ _ _ _ us hl => match us, hl with | [_], _ => rfl)
    (case a => k_is); (case l => k_is); (case c => k_is); (case k => k_is)
  have d_read_drop : Ck.Def (Tp.hd.heap_1 w.params) mg "read_drop" Ck.s_read_drop ["draft", "words"] := by
    refine' Ck.mk_def KX G ?a ?l ?c ?k (fun F => F.binds fun _ _ _ _ _ _ us hl => match us, hl with | [_, _], _ => rfl)
    (case a => k_is); (case l => k_is); (case c => k_is); (case k => k_is)
  have d_read_line : Ck.Def (Tp.hd.heap_1 w.params) mg "read_line" Ck.s_read_line ["draft", "line"] := by
    refine' Ck.mk_def KX G ?a ?l ?c ?k (fun F => F.binds fun _ _ _ _ _ _ us hl => match us, hl with | [_, _], _ => rfl)
    (case a => k_is); (case l => k_is); (case c => k_is); (case k => k_is)
  have d_read_text : Ck.Def (Tp.hd.heap_1 w.params) mg "read_text" Ck.s_read_text ["draft", "text"] := by
    refine' Ck.mk_def KX G ?a ?l ?c ?k (fun F => F.binds fun _ _ _ _ _ _ us hl => match us, hl with | [_, _], _ => rfl)
    (case a => k_is); (case l => k_is); (case c => k_is); (case k => k_is)
  have d_is_text_byte : Ck.Def (Tp.hd.heap_1 w.params) mg "is_text_byte" Ck.s_is_text_byte ["byte"] := by
    refine' Ck.mk_def KX G ?a ?l ?c ?k (fun F => F.binds fun _ _ _ _ _ _ us hl => match us, hl with | [_], _ => rfl)
    (case a => k_is); (case l => k_is); (case c => k_is); (case k => k_is)
  have d_load : Ck.Def (Tp.hd.heap_1 w.params) mg "load" Ck.s_load ["bench", "text"] := by
    refine' Ck.mk_def KX G ?a ?l ?c ?k (fun F => F.binds fun _ _ _ _ _ _ us hl => match us, hl with | [_, _], _ => rfl)
    (case a => k_is); (case l => k_is); (case c => k_is); (case k => k_is)
  have d_are_different : Ck.Def (Tp.hd.heap_1 w.params) mg "are_different" Ck.s_are_different ["signs"] := by
    refine' Ck.mk_def KX G ?a ?l ?c ?k (fun F => F.binds fun _ _ _ _ _ _ us hl => match us, hl with | [_], _ => rfl)
    (case a => k_is); (case l => k_is); (case c => k_is); (case k => k_is)
  have d_set_palette : Ck.Def (Tp.hd.heap_1 w.params) mg "set_palette" Ck.s_set_palette ["bench", "signs"] := by
    refine' Ck.mk_def KX G ?a ?l ?c ?k (fun F => F.binds fun _ _ _ _ _ _ us hl => match us, hl with | [_, _], _ => rfl)
    (case a => k_is); (case l => k_is); (case c => k_is); (case k => k_is)
  have d_set_horizon : Ck.Def (Tp.hd.heap_1 w.params) mg "set_horizon" Ck.s_set_horizon ["bench", "ticks"] := by
    refine' Ck.mk_def KX G ?a ?l ?c ?k (fun F => F.binds fun _ _ _ _ _ _ us hl => match us, hl with | [_, _], _ => rfl)
    (case a => k_is); (case l => k_is); (case c => k_is); (case k => k_is)
  have d_want_ring : Ck.Def (Tp.hd.heap_1 w.params) mg "want_ring" Ck.s_want_ring ["bench", "tick", "marble"] := by
    refine' Ck.mk_def KX G ?a ?l ?c ?k (fun F => F.binds fun _ _ _ _ _ _ us hl => match us, hl with | [_, _, _], _ => rfl)
    (case a => k_is); (case l => k_is); (case c => k_is); (case k => k_is)
  have d_clear_target : Ck.Def (Tp.hd.heap_1 w.params) mg "clear_target" Ck.s_clear_target ["bench"] := by
    refine' Ck.mk_def KX G ?a ?l ?c ?k (fun F => F.binds fun _ _ _ _ _ _ us hl => match us, hl with | [_], _ => rfl)
    (case a => k_is); (case l => k_is); (case c => k_is); (case k => k_is)
  have d_own_ringing : Ck.Def (Tp.hd.heap_1 w.params) mg "own_ringing" Ck.s_own_ringing ["bench"] := by
    refine' Ck.mk_def KX G ?a ?l ?c ?k (fun F => F.binds fun _ _ _ _ _ _ us hl => match us, hl with | [_], _ => rfl)
    (case a => k_is); (case l => k_is); (case c => k_is); (case k => k_is)
  have d_ringing : Ck.Def (Tp.hd.heap_1 w.params) mg "ringing" Ck.s_ringing ["bench"] := by
    refine' Ck.mk_def KX G ?a ?l ?c ?k (fun F => F.binds fun _ _ _ _ _ _ us hl => match us, hl with | [_], _ => rfl)
    (case a => k_is); (case l => k_is); (case c => k_is); (case k => k_is)
  have d_meets_target : Ck.Def (Tp.hd.heap_1 w.params) mg "meets_target" Ck.s_meets_target ["bench"] := by
    refine' Ck.mk_def KX G ?a ?l ?c ?k (fun F => F.binds fun _ _ _ _ _ _ us hl => match us, hl with | [_], _ => rfl)
    (case a => k_is); (case l => k_is); (case c => k_is); (case k => k_is)
  have d_own_repairs : Ck.Def (Tp.hd.heap_1 w.params) mg "own_repairs" Ck.s_own_repairs ["bench"] := by
    refine' Ck.mk_def KX G ?a ?l ?c ?k (fun F => F.binds fun _ _ _ _ _ _ us hl => match us, hl with | [_], _ => rfl)
    (case a => k_is); (case l => k_is); (case c => k_is); (case k => k_is)
  have d_position : Ck.Def (Tp.hd.heap_1 w.params) mg "position" Ck.s_position ["bench", "place"] := by
    refine' Ck.mk_def KX G ?a ?l ?c ?k (fun F => F.binds fun _ _ _ _ _ _ us hl => match us, hl with | [_, _], _ => rfl)
    (case a => k_is); (case l => k_is); (case c => k_is); (case k => k_is)
  have d_positions : Ck.Def (Tp.hd.heap_1 w.params) mg "positions" Ck.s_positions ["bench", "places"] := by
    refine' Ck.mk_def KX G ?a ?l ?c ?k (fun F => F.binds fun _ _ _ _ _ _ us hl => match us, hl with | [_, _], _ => rfl)
    (case a => k_is); (case l => k_is); (case c => k_is); (case k => k_is)
  have d_repairs : Ck.Def (Tp.hd.heap_1 w.params) mg "repairs" Ck.s_repairs ["bench"] := by
    refine' Ck.mk_def KX G ?a ?l ?c ?k (fun F => F.binds fun _ _ _ _ _ _ us hl => match us, hl with | [_], _ => rfl)
    (case a => k_is); (case l => k_is); (case c => k_is); (case k => k_is)
  have d_idle_cells : Ck.Def (Tp.hd.heap_1 w.params) mg "idle_cells" Ck.s_idle_cells ["bench"] := by
    refine' Ck.mk_def KX G ?a ?l ?c ?k (fun F => F.binds fun _ _ _ _ _ _ us hl => match us, hl with | [_], _ => rfl)
    (case a => k_is); (case l => k_is); (case c => k_is); (case k => k_is)
  have d_count_changes : Ck.Def (Tp.hd.heap_1 w.params) mg "count_changes" Ck.s_count_changes ["bench"] := by
    refine' Ck.mk_def KX G ?a ?l ?c ?k (fun F => F.binds fun _ _ _ _ _ _ us hl => match us, hl with | [_], _ => rfl)
    (case a => k_is); (case l => k_is); (case c => k_is); (case k => k_is)
  have d_apply_repair : Ck.Def (Tp.hd.heap_1 w.params) mg "apply_repair" Ck.s_apply_repair ["bench", "index"] := by
    refine' Ck.mk_def KX G ?a ?l ?c ?k (fun F => F.binds fun _ _ _ _ _ _ us hl => match us, hl with | [_, _], _ => rfl)
    (case a => k_is); (case l => k_is); (case c => k_is); (case k => k_is)
  have d_tell_board : Ck.Def (Tp.hd.heap_1 w.params) mg "tell_board" Ck.s_tell_board ["bench"] := by
    refine' Ck.mk_def KX G ?a ?l ?c ?k (fun F => F.binds fun _ _ _ _ _ _ us hl => match us, hl with | [_], _ => rfl)
    (case a => k_is); (case l => k_is); (case c => k_is); (case k => k_is)
  have d_path : Ck.Def (Tp.hd.heap_1 w.params) mg "path" Ck.s_path ["bench", "marble"] := by
    refine' Ck.mk_def KX G ?a ?l ?c ?k (fun F => F.binds fun _ _ _ _ _ _ us hl => match us, hl with | [_, _], _ => rfl)
    (case a => k_is); (case l => k_is); (case c => k_is); (case k => k_is)
  have d_split_calls : Ck.Def (Tp.hd.heap_1 w.params) mg "split_calls" Ck.s_split_calls ["calls"] := by
    refine' Ck.mk_def KX G ?a ?l ?c ?k (fun F => F.binds fun _ _ _ _ _ _ us hl => match us, hl with | [_], _ => rfl)
    (case a => k_is); (case l => k_is); (case c => k_is); (case k => k_is)
  have d_set_or_tell : Ck.Def (Tp.hd.heap_1 w.params) mg "set_or_tell" Ck.s_set_or_tell ["bench", "number", "numbers"] := by
    refine' Ck.mk_def KX G ?a ?l ?c ?k (fun F => F.binds fun _ _ _ _ _ _ us hl => match us, hl with | [_, _, _], _ => rfl)
    (case a => k_is); (case l => k_is); (case c => k_is); (case k => k_is)
  have d_answered : Ck.Def (Tp.hd.heap_1 w.params) mg "answered" Ck.s_answered ["bench", "number", "numbers"] := by
    refine' Ck.mk_def KX G ?a ?l ?c ?k (fun F => F.binds fun _ _ _ _ _ _ us hl => match us, hl with | [_, _, _], _ => rfl)
    (case a => k_is); (case l => k_is); (case c => k_is); (case k => k_is)
  have d_answers : Ck.Def (Tp.hd.heap_1 w.params) mg "answers" Ck.s_answers ["calls"] := by
    refine' Ck.mk_def KX G ?a ?l ?c ?k (fun F => F.binds fun _ _ _ _ _ _ us hl => match us, hl with | [_], _ => rfl)
    (case a => k_is); (case l => k_is); (case c => k_is); (case k => k_is)
  have mir : ∃ d, mg "MIRRORED_SIGNS" = some (.ref d) ∧ Ck.KD (Tp.hd.heap_1 w.params) d Mir.mirTab := by
    refine' Ck.mk_mir KX G ?a ?l ?n
    (case a => k_is); (case l => k_is); (case n => rfl)
  have sm : ∃ q, mg "SIMPLE_SIGNS" = some (.ref q) ∧ L2.SqT (Tp.hd.heap_1 w.params) (fun _ => none) q (([35, 46, 94, 85, 33, 79] : List Int).map L2.V.int) := by
    refine' Ck.mk_sm KX G ?a ?l
    (case a => k_is); (case l => k_is)
  obtain ⟨CRun, g_Run, k_Run, f_Run_board, f_Run_marbles, f_Run_tick, f_Run_places, f_Run_held, f_Run_counts, f_Run_permits, f_Run_rings, i_Run⟩ : ∃ C, mg "Run" = some (.ref C) ∧ L2.Cls (Tp.hd.heap_1 w.params) C ∧ L2.NoAttr (Tp.hd.heap_1 w.params) C "board" ∧ L2.NoAttr (Tp.hd.heap_1 w.params) C "marbles" ∧ L2.NoAttr (Tp.hd.heap_1 w.params) C "tick" ∧ L2.NoAttr (Tp.hd.heap_1 w.params) C "places" ∧ L2.NoAttr (Tp.hd.heap_1 w.params) C "held" ∧ L2.NoAttr (Tp.hd.heap_1 w.params) C "counts" ∧ L2.NoAttr (Tp.hd.heap_1 w.params) C "permits" ∧ L2.NoAttr (Tp.hd.heap_1 w.params) C "rings" ∧ Ck.DefI (Tp.hd.heap_1 w.params) C "Run.__init__" Ck.s_Run___init__ ["self", "board", "marbles"] := by
    refine' ⟨_, PySem.W.mg_of KX G ?a, ⟨?pg, ?hd, ?po, ?sa⟩, ?n_board, ?n_marbles, ?n_tick, ?n_places, ?n_held, ?n_counts, ?n_permits, ?n_rings, Ck.mk_init ?a_init ?i_init ?l_init ?c_init ?k_init ?mk_init ?kc_init (fun F => F.binds fun _ _ _ _ _ _ us hl => match us, hl with | [_, _, _], _ => rfl)⟩
    (case a => k_is); (case pg => k_is); (case hd => k_is); (case po => k_is); (case sa => k_is); (case n_board => (unfold L2.NoAttr; k_is)); (case n_marbles => (unfold L2.NoAttr; k_is)); (case n_tick => (unfold L2.NoAttr; k_is)); (case n_places => (unfold L2.NoAttr; k_is)); (case n_held => (unfold L2.NoAttr; k_is)); (case n_counts => (unfold L2.NoAttr; k_is)); (case n_permits => (unfold L2.NoAttr; k_is)); (case n_rings => (unfold L2.NoAttr; k_is)); (case a_init => k_is); (case i_init => k_is); (case l_init => k_is); (case c_init => k_is); (case k_init => k_is); (case mk_init => k_is); (case kc_init => k_is)
  obtain ⟨CPart, g_Part, k_Part, f_Part_name, f_Part_width, f_Part_height, f_Part_cells, f_Part_many_sets, i_Part, m_Part_is_full, m_Part_add_row, m_Part_place, m_Part_add_sets⟩ : ∃ C, mg "Part" = some (.ref C) ∧ L2.Cls (Tp.hd.heap_1 w.params) C ∧ L2.NoAttr (Tp.hd.heap_1 w.params) C "name" ∧ L2.NoAttr (Tp.hd.heap_1 w.params) C "width" ∧ L2.NoAttr (Tp.hd.heap_1 w.params) C "height" ∧ L2.NoAttr (Tp.hd.heap_1 w.params) C "cells" ∧ L2.NoAttr (Tp.hd.heap_1 w.params) C "many_sets" ∧ Ck.DefI (Tp.hd.heap_1 w.params) C "Part.__init__" Ck.s_Part___init__ ["self", "name", "width", "height"] ∧ Ck.DefM (Tp.hd.heap_1 w.params) C "is_full" "Part.is_full" Ck.s_Part_is_full ["self"] ∧ Ck.DefM (Tp.hd.heap_1 w.params) C "add_row" "Part.add_row" Ck.s_Part_add_row ["self", "cells"] ∧ Ck.DefM (Tp.hd.heap_1 w.params) C "place" "Part.place" Ck.s_Part_place ["self", "at", "cell"] ∧ Ck.DefM (Tp.hd.heap_1 w.params) C "add_sets" "Part.add_sets" Ck.s_Part_add_sets ["self", "many"] := by
    refine' ⟨_, PySem.W.mg_of KX G ?a, ⟨?pg, ?hd, ?po, ?sa⟩, ?n_name, ?n_width, ?n_height, ?n_cells, ?n_many_sets, Ck.mk_init ?a_init ?i_init ?l_init ?c_init ?k_init ?mk_init ?kc_init (fun F => F.binds fun _ _ _ _ _ _ us hl => match us, hl with | [_, _, _, _], _ => rfl), Ck.mk_meth ?a_is_full ?i_is_full ?l_is_full ?c_is_full ?k_is_full (fun F => F.binds fun _ _ _ _ _ _ us hl => match us, hl with | [_], _ => rfl), Ck.mk_meth ?a_add_row ?i_add_row ?l_add_row ?c_add_row ?k_add_row (fun F => F.binds fun _ _ _ _ _ _ us hl => match us, hl with | [_, _], _ => rfl), Ck.mk_meth ?a_place ?i_place ?l_place ?c_place ?k_place (fun F => F.binds fun _ _ _ _ _ _ us hl => match us, hl with | [_, _, _], _ => rfl), Ck.mk_meth ?a_add_sets ?i_add_sets ?l_add_sets ?c_add_sets ?k_add_sets (fun F => F.binds fun _ _ _ _ _ _ us hl => match us, hl with | [_, _], _ => rfl)⟩
    (case a => k_is); (case pg => k_is); (case hd => k_is); (case po => k_is); (case sa => k_is); (case n_name => (unfold L2.NoAttr; k_is)); (case n_width => (unfold L2.NoAttr; k_is)); (case n_height => (unfold L2.NoAttr; k_is)); (case n_cells => (unfold L2.NoAttr; k_is)); (case n_many_sets => (unfold L2.NoAttr; k_is)); (case a_init => k_is); (case i_init => k_is); (case l_init => k_is); (case c_init => k_is); (case k_init => k_is); (case mk_init => k_is); (case kc_init => k_is); (case a_is_full => k_is); (case i_is_full => k_is); (case l_is_full => k_is); (case c_is_full => k_is); (case k_is_full => k_is); (case a_add_row => k_is); (case i_add_row => k_is); (case l_add_row => k_is); (case c_add_row => k_is); (case k_add_row => k_is); (case a_place => k_is); (case i_place => k_is); (case l_place => k_is); (case c_place => k_is); (case k_place => k_is); (case a_add_sets => k_is); (case i_add_sets => k_is); (case l_add_sets => k_is); (case c_add_sets => k_is); (case k_add_sets => k_is)
  obtain ⟨CDraft, g_Draft, k_Draft, f_Draft_parts, f_Draft_begun, f_Draft_marbles, i_Draft, m_Draft_begin, m_Draft_end, m_Draft_add_marble⟩ : ∃ C, mg "Draft" = some (.ref C) ∧ L2.Cls (Tp.hd.heap_1 w.params) C ∧ L2.NoAttr (Tp.hd.heap_1 w.params) C "parts" ∧ L2.NoAttr (Tp.hd.heap_1 w.params) C "begun" ∧ L2.NoAttr (Tp.hd.heap_1 w.params) C "marbles" ∧ Ck.DefI (Tp.hd.heap_1 w.params) C "Draft.__init__" Ck.s_Draft___init__ ["self"] ∧ Ck.DefM (Tp.hd.heap_1 w.params) C "begin" "Draft.begin" Ck.s_Draft_begin ["self", "part"] ∧ Ck.DefM (Tp.hd.heap_1 w.params) C "end" "Draft.end" Ck.s_Draft_end ["self"] ∧ Ck.DefM (Tp.hd.heap_1 w.params) C "add_marble" "Draft.add_marble" Ck.s_Draft_add_marble ["self", "column", "tick"] := by
    refine' ⟨_, PySem.W.mg_of KX G ?a, ⟨?pg, ?hd, ?po, ?sa⟩, ?n_parts, ?n_begun, ?n_marbles, Ck.mk_init ?a_init ?i_init ?l_init ?c_init ?k_init ?mk_init ?kc_init (fun F => F.binds fun _ _ _ _ _ _ us hl => match us, hl with | [_], _ => rfl), Ck.mk_meth ?a_begin ?i_begin ?l_begin ?c_begin ?k_begin (fun F => F.binds fun _ _ _ _ _ _ us hl => match us, hl with | [_, _], _ => rfl), Ck.mk_meth ?a_end ?i_end ?l_end ?c_end ?k_end (fun F => F.binds fun _ _ _ _ _ _ us hl => match us, hl with | [_], _ => rfl), Ck.mk_meth ?a_add_marble ?i_add_marble ?l_add_marble ?c_add_marble ?k_add_marble (fun F => F.binds fun _ _ _ _ _ _ us hl => match us, hl with | [_, _, _], _ => rfl)⟩
    (case a => k_is); (case pg => k_is); (case hd => k_is); (case po => k_is); (case sa => k_is); (case n_parts => (unfold L2.NoAttr; k_is)); (case n_begun => (unfold L2.NoAttr; k_is)); (case n_marbles => (unfold L2.NoAttr; k_is)); (case a_init => k_is); (case i_init => k_is); (case l_init => k_is); (case c_init => k_is); (case k_init => k_is); (case mk_init => k_is); (case kc_init => k_is); (case a_begin => k_is); (case i_begin => k_is); (case l_begin => k_is); (case c_begin => k_is); (case k_begin => k_is); (case a_end => k_is); (case i_end => k_is); (case l_end => k_is); (case c_end => k_is); (case k_end => k_is); (case a_add_marble => k_is); (case i_add_marble => k_is); (case l_add_marble => k_is); (case c_add_marble => k_is); (case k_add_marble => k_is)
  obtain ⟨CBench, g_Bench, k_Bench, f_Bench_is_loaded, f_Bench_board, f_Bench_marbles, f_Bench_horizon, f_Bench_target, f_Bench_palette, i_Bench, m_Bench_load⟩ : ∃ C, mg "Bench" = some (.ref C) ∧ L2.Cls (Tp.hd.heap_1 w.params) C ∧ L2.NoAttr (Tp.hd.heap_1 w.params) C "is_loaded" ∧ L2.NoAttr (Tp.hd.heap_1 w.params) C "board" ∧ L2.NoAttr (Tp.hd.heap_1 w.params) C "marbles" ∧ L2.NoAttr (Tp.hd.heap_1 w.params) C "horizon" ∧ L2.NoAttr (Tp.hd.heap_1 w.params) C "target" ∧ L2.NoAttr (Tp.hd.heap_1 w.params) C "palette" ∧ Ck.DefI (Tp.hd.heap_1 w.params) C "Bench.__init__" Ck.s_Bench___init__ ["self"] ∧ Ck.DefM (Tp.hd.heap_1 w.params) C "load" "Bench.load" Ck.s_Bench_load ["self", "board", "marbles"] := by
    refine' ⟨_, PySem.W.mg_of KX G ?a, ⟨?pg, ?hd, ?po, ?sa⟩, ?n_is_loaded, ?n_board, ?n_marbles, ?n_horizon, ?n_target, ?n_palette, Ck.mk_init ?a_init ?i_init ?l_init ?c_init ?k_init ?mk_init ?kc_init (fun F => F.binds fun _ _ _ _ _ _ us hl => match us, hl with | [_], _ => rfl), Ck.mk_meth ?a_load ?i_load ?l_load ?c_load ?k_load (fun F => F.binds fun _ _ _ _ _ _ us hl => match us, hl with | [_, _, _], _ => rfl)⟩
    (case a => k_is); (case pg => k_is); (case hd => k_is); (case po => k_is); (case sa => k_is); (case n_is_loaded => (unfold L2.NoAttr; k_is)); (case n_board => (unfold L2.NoAttr; k_is)); (case n_marbles => (unfold L2.NoAttr; k_is)); (case n_horizon => (unfold L2.NoAttr; k_is)); (case n_target => (unfold L2.NoAttr; k_is)); (case n_palette => (unfold L2.NoAttr; k_is)); (case a_init => k_is); (case i_init => k_is); (case l_init => k_is); (case c_init => k_is); (case k_init => k_is); (case mk_init => k_is); (case kc_init => k_is); (case a_load => k_is); (case i_load => k_is); (case l_load => k_is); (case c_load => k_is); (case k_load => k_is)
  have T : Ck.Top (Tp.hd.heap_1 w.params) mg CPart CDraft CRun CBench := { c_WALL := c_WALL, c_AIR := c_AIR, c_SLOPE_RIGHT := c_SLOPE_RIGHT, c_SLOPE_LEFT := c_SLOPE_LEFT, c_BELT_RIGHT := c_BELT_RIGHT, c_BELT_LEFT := c_BELT_LEFT, c_LIFT := c_LIFT, c_FLIP_RIGHT := c_FLIP_RIGHT, c_FLIP_LEFT := c_FLIP_LEFT, c_BIN := c_BIN, c_BELL := c_BELL, c_DRUM := c_DRUM, c_FIRST_PLATE := c_FIRST_PLATE, c_FIRST_GATE := c_FIRST_GATE, c_MANY_LETTERS := c_MANY_LETTERS, c_FIRST_COUNTER := c_FIRST_COUNTER, c_LAST_COUNTER := c_LAST_COUNTER, c_ZERO := c_ZERO, c_NOBODY := c_NOBODY, c_WAITING := c_WAITING, c_GONE := c_GONE, c_MOST_SETS := c_MOST_SETS, c_SPACE := c_SPACE, c_LINE_END := c_LINE_END, c_MINUS := c_MINUS, c_FIRST_DIGIT := c_FIRST_DIGIT, c_LAST_DIGIT := c_LAST_DIGIT, c_FIRST_LETTER := c_FIRST_LETTER, c_LAST_LETTER := c_LAST_LETTER, c_MOST_DIGITS := c_MOST_DIGITS, c_MOST_LETTERS := c_MOST_LETTERS, c_COLON := c_COLON, c_SEMICOLON := c_SEMICOLON, c_MOST_SIZE := c_MOST_SIZE, c_MOST_PARTS := c_MOST_PARTS, c_MOST_COPIES := c_MOST_COPIES, c_MOST_MARBLES_texts := c_MOST_MARBLES_texts, c_GREATEST := c_GREATEST, c_NOT_LOADED := c_NOT_LOADED, c_OUT_OF_RANGE := c_OUT_OF_RANGE, c_NO_REPAIR := c_NO_REPAIR, c_TOO_MUCH := c_TOO_MUCH, c_MOST_BYTES := c_MOST_BYTES, c_MOST_CELLS := c_MOST_CELLS, c_MOST_SIGNS := c_MOST_SIGNS, c_MOST_TICKS := c_MOST_TICKS, c_MOST_MARBLES_mending := c_MOST_MARBLES_mending, b_len := b_len, b_range := b_range, b_enumerate := b_enumerate, b_zip := b_zip, b_sorted := b_sorted, b_any := b_any, b_all := b_all, b_ord := b_ord, b_list := b_list, b_dict := b_dict, d_is_plate := d_is_plate, d_is_gate := d_is_gate, d_is_counter := d_is_counter, d_is_flip := d_is_flip, d_is_cell_sign := d_is_cell_sign, d_cell_of := d_cell_of, d_mirrored := d_mirrored, d_with_more_groups := d_with_more_groups, d_link_of := d_link_of, d_sign_at := d_sign_at, d_permits_at := d_permits_at, d_add_permits := d_add_permits, d_side_of_flip := d_side_of_flip, d_side_of_counter := d_side_of_counter, d_shift_from := d_shift_from, d_destination_from := d_destination_from, d_is_reachable := d_is_reachable, d_is_free := d_is_free, d_is_held_back := d_is_held_back, d_moving_places := d_moving_places, d_has_drums := d_has_drums, d_pushed_drums := d_pushed_drums, d_leave := d_leave, d_enter := d_enter, d_move_from := d_move_from, d_let_in := d_let_in, d_do_tick := d_do_tick, d_is_over := d_is_over, d_ringing_of := d_ringing_of, d_path_of := d_path_of, d_changed_board := d_changed_board, d_all_changes := d_all_changes, d_ringing_with := d_ringing_with, d_repairs_of := d_repairs_of, d_noticeable_changes := d_noticeable_changes, d_idle_places := d_idle_places, d_part_named := d_part_named, d_mirrored_cells := d_mirrored_cells, d_is_inside := d_is_inside, d_copy_places := d_copy_places, d_is_overlapping := d_is_overlapping, d_copy_into := d_copy_into, d_bytes_of := d_bytes_of, d_pieces := d_pieces, d_lines_of := d_lines_of, d_words_of := d_words_of, d_is_digit := d_is_digit, d_is_number := d_is_number, d_number_of := d_number_of, d_is_number_within := d_is_number_within, d_is_signed := d_is_signed, d_signed_of := d_signed_of, d_is_letter := d_is_letter, d_is_name := d_is_name, d_read_part := d_read_part, d_read_row := d_read_row, d_is_times := d_is_times, d_is_put := d_is_put, d_behind_mirror := d_behind_mirror, d_read_put := d_read_put, d_read_end := d_read_end, d_is_every := d_is_every, d_is_drop := d_is_drop, d_read_drop := d_read_drop, d_read_line := d_read_line, d_read_text := d_read_text, d_is_text_byte := d_is_text_byte, d_load := d_load, d_are_different := d_are_different, d_set_palette := d_set_palette, d_set_horizon := d_set_horizon, d_want_ring := d_want_ring, d_clear_target := d_clear_target, d_own_ringing := d_own_ringing, d_ringing := d_ringing, d_meets_target := d_meets_target, d_own_repairs := d_own_repairs, d_position := d_position, d_positions := d_positions, d_repairs := d_repairs, d_idle_cells := d_idle_cells, d_count_changes := d_count_changes, d_apply_repair := d_apply_repair, d_tell_board := d_tell_board, d_path := d_path, d_split_calls := d_split_calls, d_set_or_tell := d_set_or_tell, d_answered := d_answered, d_answers := d_answers, mir := mir, sm := sm, g_Run := g_Run, k_Run := k_Run, f_Run_board := f_Run_board, f_Run_marbles := f_Run_marbles, f_Run_tick := f_Run_tick, f_Run_places := f_Run_places, f_Run_held := f_Run_held, f_Run_counts := f_Run_counts, f_Run_permits := f_Run_permits, f_Run_rings := f_Run_rings, i_Run := i_Run, g_Part := g_Part, k_Part := k_Part, f_Part_name := f_Part_name, f_Part_width := f_Part_width, f_Part_height := f_Part_height, f_Part_cells := f_Part_cells, f_Part_many_sets := f_Part_many_sets, i_Part := i_Part, m_Part_is_full := m_Part_is_full, m_Part_add_row := m_Part_add_row, m_Part_place := m_Part_place, m_Part_add_sets := m_Part_add_sets, g_Draft := g_Draft, k_Draft := k_Draft, f_Draft_parts := f_Draft_parts, f_Draft_begun := f_Draft_begun, f_Draft_marbles := f_Draft_marbles, i_Draft := i_Draft, m_Draft_begin := m_Draft_begin, m_Draft_end := m_Draft_end, m_Draft_add_marble := m_Draft_add_marble, g_Bench := g_Bench, k_Bench := k_Bench, f_Bench_is_loaded := f_Bench_is_loaded, f_Bench_board := f_Bench_board, f_Bench_marbles := f_Bench_marbles, f_Bench_horizon := f_Bench_horizon, f_Bench_target := f_Bench_target, f_Bench_palette := f_Bench_palette, i_Bench := i_Bench, m_Bench_load := m_Bench_load }
  exact ⟨_, _, _, _, T⟩
end Ck
end
section
set_option Elab.async false
set_option linter.all false
set_option maxRecDepth 100000
set_option maxHeartbeats 4000000
namespace Ck
open PySem PySem.Spec PyProof.Rows L2
open Mir (itm)
local macro_rules | `(tactic| walk_at "s") => `(tactic| first | assumption | omega | (simp only [onPre, List.length_map, List.length_drop, List.length_take, List.length_append, List.length_cons, List.length_nil, decide_eq_true_eq, decide_eq_false_iff_not] at *; omega))
section
variable {P : Program} {w : World} {K : PySem.W.Frag} {mg : Str → Option Value} {base : Heap} {cPart cDraft cRun cBench : Addr}
theorem ok_is_plate (T : Top K mg cPart cDraft cRun cBench) : Cal P w K mg base "is_plate" 1 (Ct (a1 rInt) noPre rBool fun x => Mir.isPlate x.1) := by
  refine T.d_is_plate.ct sc_is_plate rfl fun f cdv A outer s G H vs x Q E hr hs ha hp hk => ?_
  obtain ⟨sign, _⟩ := x
  obtain ⟨_, _, rfl, rfl, rfl⟩ := ha
  exact ws_ret hs (je_and (je_c (jc_le (je_gi T.c_FIRST_PLATE) (je_vI 0 rfl))) fun hsc => (je_one (je_c (jc_lt (je_vI 0 rfl) (je_add (je_gi T.c_FIRST_PLATE) (je_gi T.c_MANY_LETTERS)))))) hk
theorem ok_is_gate (T : Top K mg cPart cDraft cRun cBench) : Cal P w K mg base "is_gate" 1 (Ct (a1 rInt) noPre rBool fun x => Mir.isGate x.1) := by
  refine T.d_is_gate.ct sc_is_gate rfl fun f cdv A outer s G H vs x Q E hr hs ha hp hk => ?_
  obtain ⟨sign, _⟩ := x
  obtain ⟨_, _, rfl, rfl, rfl⟩ := ha
  exact ws_ret hs (je_and (je_c (jc_le (je_gi T.c_FIRST_GATE) (je_vI 0 rfl))) fun hsc => (je_one (je_c (jc_lt (je_vI 0 rfl) (je_add (je_gi T.c_FIRST_GATE) (je_gi T.c_MANY_LETTERS)))))) hk
theorem ok_is_counter (T : Top K mg cPart cDraft cRun cBench) : Cal P w K mg base "is_counter" 1 (Ct (a1 rInt) noPre rBool fun x => Mir.isCounter x.1) := by
  refine T.d_is_counter.ct sc_is_counter rfl fun f cdv A outer s G H vs x Q E hr hs ha hp hk => ?_
  obtain ⟨sign, _⟩ := x
  obtain ⟨_, _, rfl, rfl, rfl⟩ := ha
  exact ws_ret hs (je_and (je_c (jc_le (je_gi T.c_FIRST_COUNTER) (je_vI 0 rfl))) fun hsc => (je_one (je_c (jc_le (je_vI 0 rfl) (je_gi T.c_LAST_COUNTER))))) hk
theorem ok_is_flip (T : Top K mg cPart cDraft cRun cBench) : Cal P w K mg base "is_flip" 1 (Ct (a1 rInt) noPre rBool fun x => Mir.isFlip x.1) := by
  refine T.d_is_flip.ct sc_is_flip rfl fun f cdv A outer s G H vs x Q E hr hs ha hp hk => ?_
  obtain ⟨sign, _⟩ := x
  obtain ⟨_, _, rfl, rfl, rfl⟩ := ha
  exact ws_ret hs (je_or (je_c (jc_eqI (je_vI 0 rfl) (je_gi T.c_FLIP_RIGHT))) fun hsc => (je_one (je_c (jc_eqI (je_vI 0 rfl) (je_gi T.c_FLIP_LEFT))))) hk
theorem ok_cell_of (T : Top K mg cPart cDraft cRun cBench) : Cal P w K mg base "cell_of" 1 (Ct (a1 rInt) noPre (rT3 rInt rInt rInt) fun x => Mir.cellOf x.1) := by
  refine T.d_cell_of.ct sc_cell_of rfl fun f cdv A outer s G H vs x Q E hr hs ha hp hk => ?_
  obtain ⟨sign, _⟩ := x
  obtain ⟨_, _, rfl, rfl, rfl⟩ := ha
  exact ws_ret hs (je_t3 (je_vI 0 rfl) je_int je_int) hk
theorem ok_with_more_groups (T : Top K mg cPart cDraft cRun cBench) : Cal P w K mg base "with_more_groups" 2 (Ct (a2 (rT3 rInt rInt rInt) rInt) noPre (rT3 rInt rInt rInt) fun x => Mir.withMore x.1 x.2.1) := by
  refine T.d_with_more_groups.ct sc_with_more_groups rfl fun f cdv A outer s G H vs x Q E hr hs ha hp hk => ?_
  obtain ⟨c, many, _⟩ := x
  obtain ⟨v, _, rfl, h_cell, _, _, rfl, rfl, rfl⟩ := ha
  refine ws_un3 2 3 4 hs (je_v 0 rfl h_cell) rfl sc_with_more_groups.nd ?_
  rintro _ _ _ G1 H1 w1 rfl rfl rfl
  replace h_cell := (rT3 rInt rInt rInt).m w1.g h_cell
  refine ws_when w1.s (jt_w (jw_or (jt_v (je_call (ok_is_plate T) (hr.mono (by decide)) (ja_cons (je_vI 2 rfl) ja_nil) (fun _ _ _ => trivial))) fun hsc => (jw_or1 (jt_v (je_call (ok_is_gate T) (hr.mono (by decide)) (ja_cons (je_vI 2 rfl) ja_nil) (fun _ _ _ => trivial)))))) (fun hb H2 w2 => ?_) (fun hb H2 w2 => ?_)
  · exact ws_retE w2.s (je_t3 (je_vI 2 rfl) (je_vI 3 rfl) (je_add (je_vI 4 rfl) (je_vI 1 rfl))) (by simp only [Mir.withMore, hb, if_true]) fun v G' H' w' h => hk v G' H' ((w1.t w2).t w') h
  · exact ws_retE w2.s (je_v 0 rfl h_cell) (by simp only [Mir.withMore, hb]; rfl) fun v G' H' w' h => hk v G' H' ((w1.t w2).t w') h
theorem ok_link_of (T : Top K mg cPart cDraft cRun cBench) : Cal P w K mg base "link_of" 2 (Ct (a1 (rT3 rInt rInt rInt)) noPre (rT2 rInt rInt) fun x => Mir.linkOf x.1) := by
  refine T.d_link_of.ct sc_link_of rfl fun f cdv A outer s G H vs x Q E hr hs ha hp hk => ?_
  obtain ⟨c, _⟩ := x
  obtain ⟨v, _, rfl, h_cell, rfl⟩ := ha
  refine ws_un3 1 2 3 hs (je_v 0 rfl h_cell) rfl sc_link_of.nd ?_
  rintro _ _ _ G1 H1 w1 rfl rfl rfl
  exact ws_ret w1.s (je_t2 (je_vI 3 rfl) (je_if (jt_v (je_call (ok_is_plate T) (hr.mono (by decide)) (ja_cons (je_vI 1 rfl) ja_nil) (fun _ _ _ => trivial))) (fun hsc => (je_sub (je_vI 1 rfl) (je_gi T.c_FIRST_PLATE))) (fun hsc => (je_sub (je_vI 1 rfl) (je_gi T.c_FIRST_GATE))))) fun v G' H' w' h => hk v G' H' (w1.t w') h
theorem ok_is_cell_sign (T : Top K mg cPart cDraft cRun cBench) : Cal P w K mg base "is_cell_sign" 2 (Ct (a1 rInt) noPre rBool fun x => Mir.isCellSign x.1) := by
  refine T.d_is_cell_sign.ct sc_is_cell_sign rfl fun f cdv A outer s G H vs x Q E hr hs ha hp hk => ?_
  obtain ⟨sign, _⟩ := x
  obtain ⟨_, _, rfl, rfl, rfl⟩ := ha
  obtain ⟨d, hMm, hMd⟩ := T.mir
  obtain ⟨q, hSm, hSq⟩ := T.sm
  refine ws_when hs (jt_w (jw_or (jt_v (je_call (ok_is_plate T) (hr.mono (by decide)) (ja_cons (je_vI 0 rfl) ja_nil) (fun _ _ _ => trivial))) fun hsc => (jw_or (jt_v (je_call (ok_is_gate T) (hr.mono (by decide)) (ja_cons (je_vI 0 rfl) ja_nil) (fun _ _ _ => trivial))) fun hsc => (jw_or1 (jt_v (je_call (ok_is_counter T) (hr.mono (by decide)) (ja_cons (je_vI 0 rfl) ja_nil) (fun _ _ _ => trivial))))))) (fun hb H2 w2 => ?_) (fun hb H2 w2 => ?_)
  · exact ws_retE w2.s je_bl (by show _ = Mir.isCellSign sign; unfold Mir.isCellSign; rw [if_pos hb]) fun v G' H' w' h => hk v G' H' (w2.t w') h
  · exact ws_retE w2.s (je_or (je_c (jc_inK (je_vI 0 rfl) hSm hSq)) fun hsc => (je_one (je_c (jc_inM (je_vI 0 rfl) hMm hMd)))) (by show _ = Mir.isCellSign sign; unfold Mir.isCellSign; rw [if_neg (by rw [hb]; decide)]; rfl) fun v G' H' w' h => hk v G' H' (w2.t w') h
theorem ok_mirrored (T : Top K mg cPart cDraft cRun cBench) : Cal P w K mg base "mirrored" 2 (Ct (a1 (rT3 rInt rInt rInt)) noPre (rT3 rInt rInt rInt) fun x => Mir.mirrored x.1) := by
  refine T.d_mirrored.ct sc_mirrored rfl fun f cdv A outer s G H vs x Q E hr hs ha hp hk => ?_
  obtain ⟨c, _⟩ := x
  obtain ⟨v, _, rfl, h_cell, rfl⟩ := ha
  obtain ⟨d, hMm, hMd⟩ := T.mir
  refine ws_un3 1 2 3 hs (je_v 0 rfl h_cell) rfl sc_mirrored.nd ?_
  rintro _ _ _ G1 H1 w1 rfl rfl rfl
  refine ws_when w1.s (jt_v (je_call (ok_is_counter T) (hr.mono (by decide)) (ja_cons (je_vI 1 rfl) ja_nil) (fun _ _ _ => trivial))) (fun hb H2 w2 => ?_) (fun hb H2 w2 => ?_)
  · exact ws_retE w2.s (je_t3 (je_vI 1 rfl) (je_sub je_int (je_vI 2 rfl)) (je_vI 3 rfl)) (by show _ = Mir.mirrored c; unfold Mir.mirrored; rw [if_pos hb]) fun v G' H' w' h => hk v G' H' ((w1.t w2).t w') h
  · exact ws_retE w2.s (je_t3 (je_getM hMm hMd (je_vI 1 rfl) (je_vI 1 rfl)) (je_vI 2 rfl) (je_vI 3 rfl)) (by show _ = Mir.mirrored c; unfold Mir.mirrored; rw [if_neg (by rw [hb]; decide)]; rfl) fun v G' H' w' h => hk v G' H' ((w1.t w2).t w') h
/-! words -/
theorem ok_bytes_of (T : Top K mg cPart cDraft cRun cBench) : Cal P w K mg base "bytes_of" 1 (Ct (a1 rStr) (onPre fun x => x.1.cps.toList.length ≤ 1000) (rL rInt) fun x => x.1.cps.toList.map fun (c : Nat) => (c : Int)) := by
  refine T.d_bytes_of.ct sc_bytes_of rfl fun f cdv A outer s G H vs x Q E hr hs ha hp hk => ?_
  obtain ⟨z, _⟩ := x
  obtain ⟨_, _, rfl, rfl, rfl⟩ := ha
  have nd := sc_bytes_of.nd
  have hp : z.cps.toList.length ≤ 1000 := hp
  refine ws_ret hs (je_lcS 1 rfl nd (je_vS 0 rfl) (blkOk_by (N := n_bytes_of) (sc := defScope s_bytes_of) (by decide +kernel)) (by omega) fun i x v G3 H3 hx w3 hv s Hb C cl fp => ⟨fun c hc => (nomatch hc), fun _ => je_ord rfl T.b_ord (je_v 1 rfl hv)⟩) hk
theorem ok_is_digit (T : Top K mg cPart cDraft cRun cBench) : Cal P w K mg base "is_digit" 1 (Ct (a1 rInt) noPre rBool fun x => Mir.isDigit x.1) := by
  refine T.d_is_digit.ct sc_is_digit rfl fun f cdv A outer s G H vs x Q E hr hs ha hp hk => ?_
  obtain ⟨sign, _⟩ := x
  obtain ⟨_, _, rfl, rfl, rfl⟩ := ha
  exact ws_ret hs (je_and (je_c (jc_le (je_gi T.c_FIRST_DIGIT) (je_vI 0 rfl))) fun hsc => (je_one (je_c (jc_le (je_vI 0 rfl) (je_gi T.c_LAST_DIGIT))))) hk
theorem ok_is_letter (T : Top K mg cPart cDraft cRun cBench) : Cal P w K mg base "is_letter" 1 (Ct (a1 rInt) noPre rBool fun x => Mir.isLetter x.1) := by
  refine T.d_is_letter.ct sc_is_letter rfl fun f cdv A outer s G H vs x Q E hr hs ha hp hk => ?_
  obtain ⟨sign, _⟩ := x
  obtain ⟨_, _, rfl, rfl, rfl⟩ := ha
  exact ws_ret hs (je_and (je_c (jc_le (je_gi T.c_FIRST_LETTER) (je_vI 0 rfl))) fun hsc => (je_one (je_c (jc_le (je_vI 0 rfl) (je_gi T.c_LAST_LETTER))))) hk
theorem ok_is_text_byte (T : Top K mg cPart cDraft cRun cBench) : Cal P w K mg base "is_text_byte" 1 (Ct (a1 rInt) noPre rBool fun x => Mir.isTextByte x.1) := by
  refine T.d_is_text_byte.ct sc_is_text_byte rfl fun f cdv A outer s G H vs x Q E hr hs ha hp hk => ?_
  obtain ⟨sign, _⟩ := x
  obtain ⟨_, _, rfl, rfl, rfl⟩ := ha
  exact ws_ret hs (je_or (je_c (jc_eqI (je_vI 0 rfl) je_int)) fun hsc => (je_one (je_and (je_c (jc_le je_int (je_vI 0 rfl))) fun hsc => (je_one (je_c (jc_le (je_vI 0 rfl) je_int)))))) hk
end
end Ck
end
section
set_option Elab.async false
set_option linter.all false
set_option maxRecDepth 100000
set_option maxHeartbeats 4000000
namespace Ck
open PySem PySem.Spec PyProof.Rows L2
open Mir (itm)
local macro_rules | `(tactic| walk_at "s") => `(tactic| first | assumption | omega | (simp only [onPre, List.length_map, List.length_drop, List.length_take, List.length_append, List.length_cons, List.length_nil, decide_eq_true_eq, decide_eq_false_iff_not] at *; omega))
theorem take_snoc {α : Type} {xs : List α} {i : Nat} {x : α} (h : xs[i]? = some x) : xs.take (i + 1) = xs.take i ++ [x] := by
  rw [List.take_succ, h]
  rfl
theorem fold_snoc {α β : Type} {f : β → α → β} {b : β} {xs : List α} {i : Nat} {x : α} (h : xs[i]? = some x) : (xs.take (i + 1)).foldl f b = f ((xs.take i).foldl f b) x := by
  rw [take_snoc h, List.foldl_append]
  rfl
section
variable {P : Program} {w : World} {K : PySem.W.Frag} {mg : Str → Option Value} {base : Heap} {cPart cDraft cRun cBench : Addr}
theorem pieces_len (b : Int) : ∀ (xs : List Int) (st : List Mir.Bytes × Mir.Bytes), (xs.foldl (Mir.pieces1 b) st).1.length + (xs.foldl (Mir.pieces1 b) st).2.length ≤ st.1.length + st.2.length + xs.length
  | [], st => by simp
  | x :: r, st => by
    have ih := pieces_len b r (Mir.pieces1 b st x)
    have h1 : (Mir.pieces1 b st x).1.length + (Mir.pieces1 b st x).2.length ≤ st.1.length + st.2.length + 1 := by
      unfold Mir.pieces1
      split
      · simp only [List.length_append, List.length_cons, List.length_nil]; omega
      · simp only [List.length_append, List.length_cons, List.length_nil]; omega
    rw [List.foldl_cons, List.length_cons]
    omega
theorem ok_pieces (T : Top K mg cPart cDraft cRun cBench) : Cal P w K mg base "pieces" 1 (Ct (a2 (rL rInt) rInt) (onPre fun x => x.1.length ≤ 20000) (rL (rL rInt)) fun x => Mir.pieces x.1 x.2.1) := by
  refine T.d_pieces.ct sc_pieces rfl fun f cdv A outer s G H vs x Q E hr hs ha hp hk => ?_
  obtain ⟨xs, b, _⟩ := x
  obtain ⟨g, _, rfl, h_given, _, _, rfl, rfl, rfl⟩ := ha
  have nd := sc_pieces.nd
  have hp : xs.length ≤ 20000 := hp
  refine ws_newL 2 (fun pf hf => ?_) nd
  refine ws_newL 3 (fun pl hl => ?_) nd
  have hlf : pl ≠ pf := fun e => by rw [e, upd_same] at hl; cases hl
  have hl0 : H pl = none := by rw [upd_ne hlf] at hl; exact hl
  have w1 := Gw.mut (o := .lst []) hs hf
  have w2 := w1.t (Gw.mut (o := .lst []) w1.s hl)
  refine ws_forL 4 w2.s (JR.q (je_v 0 rfl h_given)) (fun i σ' G' H' => ∃ pl vs vb, σ' = [some g, some (.int b), some (.ref pf), some (.ref pl), vb] ∧ Gw G H G' H' ∧ G' pf = none ∧ H' pf = some (.lst vs) ∧ Paired ((rL rInt).r G') vs ((xs.take i).foldl (Mir.pieces1 b) ([], [])).1 ∧
    H pl = none ∧ G' pl = none ∧ H' pl = some (.lst (((xs.take i).foldl (Mir.pieces1 b) ([], [])).2.map V.int)) ∧ pl ≠ pf) ?_ ?_ ?_ rfl nd
  · intro G1 H1 w3
    refine ⟨pl, [], none, rfl, w2.t w3, w3.out (hs.free hf) (by rw [upd_ne hlf.symm, upd_same]), w3.h _ _ (by rw [upd_ne hlf.symm, upd_same]), .nil, hl0, w3.out (hs.free hl0) upd_same, w3.h _ _ upd_same, hlf⟩
  · rintro i x v σ' G' H' hx s1 s2 ⟨pl, vs, vb, rfl, w', gf, hvf, pv, l0, gl, hvl, ne⟩ rfl
    have len := pieces_len b (xs.take i) ([], [])
    rw [List.length_take] at len
    simp only [List.length_nil] at len
    have e1 := fold_snoc (f := Mir.pieces1 b) (b := ([], [])) hx
    refine ws_if s2 (jt_c (jc_eqI (je_vI 4 rfl) (je_vI 1 rfl))) (fun hb H2 w2 => ?_) (fun hb H2 w2 => ?_)
    · have hb : x = b := of_decide_eq_true hb
      have wf := (w'.t w2).frz l0 gl (w2.h _ _ hvl)
      have hlat : (rL rInt).r (upd G' pl (.lst (((xs.take i).foldl (Mir.pieces1 b) ([], [])).2.map V.int))) (.ref pl) ((xs.take i).foldl (Mir.pieces1 b) ([], [])).2 := ⟨pl, _, rfl, upd_same, ints_paired _⟩
      refine ws_app wf.s (je_vO 2 rfl) (w2.h _ _ hvf) (je_v 3 rfl hlat) (by rw [Paired.len pv]; omega) fun v G1 H1 w3 hv => ?_
      have hgf1 : G1 pf = none := w3.out (by rw [upd_ne ne.symm]; exact gf) (w2.h _ _ hvf)
      have w4 := (wf.t w3).set (o := .lst (vs ++ [v])) hf hgf1
      refine ws_newL 3 (fun p2 h2 => ?_) nd
      have n2 : p2 ≠ pf := fun e => by rw [e, upd_same] at h2; cases h2
      have w5 := w4.t (Gw.mut (o := .lst []) w4.s h2)
      refine ws_nil (ws_nil ⟨G1, (Same.new gl).trans w3.g, w5.s, p2, vs ++ [v], some (.int x), rfl, w5, hgf1, by rw [upd_ne n2.symm, upd_same], ?_, w4.free h2, w4.s.free h2, ?_, n2⟩)
      · rw [e1]
        unfold Mir.pieces1
        rw [if_pos hb]
        exact Paired.app (pm (fun _ _ q => (rL rInt).m ((Same.new gl).trans w3.g) q) pv) (.cons hv .nil)
      · rw [e1, upd_same]
        unfold Mir.pieces1
        rw [if_pos hb]
        rfl
    · have hb : ¬ x = b := of_decide_eq_false hb
      refine ws_app w2.s (je_vO 3 rfl) (w2.h _ _ hvl) (je_vI 4 rfl) (by rw [List.length_map]; omega) fun v G1 H1 w3 hv => ?_
      cases (show v = .int x from hv)
      have w4 := w2.t w3
      have hgl : G1 pl = none := w4.out gl hvl
      have w5 := (w'.t w4).set (o := .lst (((xs.take i).foldl (Mir.pieces1 b) ([], [])).2.map V.int ++ [.int x])) l0 hgl
      refine ws_nil (ws_nil ⟨G1, w3.g, w5.s, pl, vs, some (.int x), rfl, w5, w4.out gf hvf, by rw [upd_ne ne.symm]; exact w4.h _ _ hvf, ?_, l0, hgl, ?_, ne⟩)
      · rw [e1]
        unfold Mir.pieces1
        rw [if_neg hb]
        exact pm (fun _ _ q => (rL rInt).m w3.g q) pv
      · rw [e1, upd_same]
        unfold Mir.pieces1
        rw [if_neg hb]
        show _ = some (HO.lst ((_ ++ [x]).map V.int))
        rw [List.map_append]
        rfl
  · rintro σ' G' H' s1 s2 ⟨pl, vs, vb, rfl, w', gf, hvf, pv, l0, gl, hvl, ne⟩
    rw [List.take_length] at pv hvl
    have len := pieces_len b xs ([], [])
    simp only [List.length_nil] at len
    have wa := (w'.frz l0 gl hvl).frz (p := pf) hf (by rw [upd_ne ne.symm]; exact gf) hvf
    have s3 : Same G' (upd (upd G' pl (.lst ((xs.foldl (Mir.pieces1 b) ([], [])).2.map V.int))) pf (.lst vs)) := (Same.new gl).trans (Same.new (by rw [upd_ne ne.symm]; exact gf))
    have h_found : (rL (rL rInt)).r (upd (upd G' pl (.lst ((xs.foldl (Mir.pieces1 b) ([], [])).2.map V.int))) pf (.lst vs)) (.ref pf) (xs.foldl (Mir.pieces1 b) ([], [])).1 := ⟨pf, vs, rfl, upd_same, pm (fun _ _ q => (rL rInt).m s3 q) pv⟩
    have h_latest : (rL rInt).r (upd (upd G' pl (.lst ((xs.foldl (Mir.pieces1 b) ([], [])).2.map V.int))) pf (.lst vs)) (.ref pl) (xs.foldl (Mir.pieces1 b) ([], [])).2 := ⟨pl, _, rfl, by rw [upd_ne ne, upd_same], ints_paired _⟩
    exact ws_ret wa.s (je_cat (je_v 2 rfl h_found) (je_lst (jl_cons (je_v 3 rfl h_latest) jl_nil)) (by simp only [List.length_cons, List.length_nil]; omega)) fun v G1 H1 w1 hv => hk v G1 H1 (wa.t w1) hv
theorem ok_lines_of (T : Top K mg cPart cDraft cRun cBench) : Cal P w K mg base "lines_of" 2 (Ct (a1 (rL rInt)) (onPre fun x => x.1.length ≤ 20000) (rL (rL rInt)) fun x => Mir.linesOf x.1) := by
  refine T.d_lines_of.ct sc_lines_of rfl fun f cdv A outer s G H vs x Q E hr hs ha hp hk => ?_
  obtain ⟨xs, _⟩ := x
  obtain ⟨_, _, rfl, h_text, rfl⟩ := ha
  dsimp only at h_text
  have hp : xs.length ≤ 20000 := hp
  exact ws_ret hs (je_call (ok_pieces T) (hr.mono (by decide)) (ja_cons (je_v 0 rfl h_text) (ja_cons (je_gi T.c_LINE_END) ja_nil)) (fun _ _ _ => by walk_at "s")) hk
theorem pieces_len2 (b : Int) (xs : List Int) : (Mir.pieces xs b).length ≤ xs.length + 1 := by
  have len := pieces_len b xs ([], [])
  unfold Mir.pieces
  simp only [List.length_append, List.length_cons, List.length_nil] at *
  omega
theorem ok_words_of (T : Top K mg cPart cDraft cRun cBench) : Cal P w K mg base "words_of" 2 (Ct (a1 (rL rInt)) (onPre fun x => x.1.length ≤ 20000) (rL (rL rInt)) fun x => Mir.wordsOf x.1) := by
  refine T.d_words_of.ct sc_words_of rfl fun f cdv A outer s G H vs x Q E hr hs ha hp hk => ?_
  obtain ⟨xs, _⟩ := x
  obtain ⟨_, _, rfl, h_line, rfl⟩ := ha
  dsimp only at h_line
  have hp : xs.length ≤ 20000 := hp
  have nd := sc_words_of.nd
  have len := pieces_len2 32 xs
  exact ws_ret hs (je_lcP 1 rfl nd (JR.q (je_call (ok_pieces T) (hr.mono (by decide)) (ja_cons (je_v 0 rfl h_line) (ja_cons (je_gi T.c_SPACE) ja_nil)) (fun _ _ _ => by walk_at "s"))) (blkOk_by (N := n_words_of) (sc := defScope s_words_of) (by decide +kernel)) (show (Mir.pieces xs 32).length ≤ 1000000 by omega) (fun i x v G3 H3 hx w3 h_word s Hb C cl fp => (jt_c (jc_neN (JR.q (je_v 1 rfl h_word)) hr.units))) (fun i x v G3 H3 hx hp w3 h_word s Hb C cl fp => (je_v 1 rfl h_word))) hk
theorem ok_is_number (T : Top K mg cPart cDraft cRun cBench) : Cal P w K mg base "is_number" 2 (Ct (a1 (rL rInt)) (onPre fun x => x.1.length ≤ 20000) rBool fun x => Mir.isNumber x.1) := by
  refine T.d_is_number.ct sc_is_number rfl fun f cdv A outer s G H vs x Q E hr hs ha hp hk => ?_
  obtain ⟨xs, _⟩ := x
  obtain ⟨_, _, rfl, h_word, rfl⟩ := ha
  dsimp only at h_word
  have hp : xs.length ≤ 20000 := hp
  have nd := sc_is_number.nd
  refine ws_when hs (jt_w (jw_or (jt_c (jc_lt (je_len rfl T.b_len (JR.q (je_v 0 rfl h_word))) je_int)) fun _ => jw_or (jt_c (jc_gt (je_len rfl T.b_len (JR.q (je_v 0 rfl h_word))) (je_gi T.c_MOST_DIGITS))) fun _ => jw_or1 (jt_not (jt_v (je_all rfl T.b_all rfl (JR.q (je_lcM 1 (f := Mir.isDigit) rfl nd (JR.q (je_v 0 rfl h_word)) (blkOk_by (N := n_is_number) (sc := defScope s_is_number) (by decide +kernel)) (by omega) ?_))))))) (fun hb H2 w2 => ?_) (fun hb H2 w2 => ?_)
  · intro i x v G3 H3 hx w3 hv s Hb C cl fp
    cases hv
    exact JR.eq (je_call (ok_is_digit T) (hr.mono (by decide)) (ja_cons (je_vI 1 rfl) ja_nil) (fun _ _ _ => trivial)) rfl
  · exact ws_retE w2.s je_bl (by show _ = Mir.isNumber xs; unfold Mir.isNumber; rw [if_pos hb]) fun v G' H' w' h => hk v G' H' (w2.t w') h
  · have hl : ¬ (xs.length : Int) < 1 := by
      intro h
      rw [decide_eq_true h] at hb
      cases hb
    exact ws_retE w2.s (je_or (je_c (jc_eqI (je_len rfl T.b_len (JR.q (je_v 0 rfl h_word))) je_int)) fun hsc => (je_one (je_c (jc_neI (je_ix (d := 0) (JR.q (je_v 0 rfl h_word)) je_int (by walk_at "s") (by walk_at "s")) (je_gi T.c_FIRST_DIGIT))))) (by show _ = Mir.isNumber xs; unfold Mir.isNumber; rw [if_neg (by rw [hb]; decide)]) fun v G' H' w' h => hk v G' H' (w2.t w') h
theorem ok_number_of (T : Top K mg cPart cDraft cRun cBench) : Cal P w K mg base "number_of" 1 (Ct (a1 (rL rInt)) noPre rInt fun x => Mir.numberOf x.1) := by
  refine T.d_number_of.ct sc_number_of rfl fun f cdv A outer s G H vs x Q E hr hs ha hp hk => ?_
  obtain ⟨xs, _⟩ := x
  obtain ⟨g, _, rfl, h_word, rfl⟩ := ha
  dsimp only at h_word
  have nd := sc_number_of.nd
  refine ws_setI 1 hs je_int (fun H1 w1 => ?_) nd
  refine ws_forL 2 w1.s (JR.q (je_v 0 rfl h_word)) (fun i σ' G' H' => ∃ vb, σ' = [some g, some (.int ((xs.take i).foldl (fun n b => 10 * n + b - 48) 0)), vb] ∧ Gw G H G' H') (fun G2 H2 w2 => ⟨none, rfl, w1.t w2⟩) ?_ ?_ rfl nd
  · rintro i x v σ' G' H' hx s1 s2 ⟨vb, rfl, w'⟩ rfl
    refine ws_setI 1 s2 (je_sub (je_add (je_mul je_int (je_vI 1 rfl) (by walk_at "s")) (je_vI 2 rfl)) (je_gi T.c_FIRST_DIGIT)) (fun H2 w2 => ?_) nd
    refine ws_nil ⟨G', Same.refl _, w2.s, some (.int x), ?_, w'.t w2⟩
    rw [fold_snoc hx]
    rfl
  · rintro σ' G' H' s1 s2 ⟨vb, rfl, w'⟩
    rw [List.take_length]
    exact ws_ret s2 (je_vI 1 rfl) fun v G1 H1 w1 hv => hk v G1 H1 (w'.t w1) hv
theorem ok_is_number_within (T : Top K mg cPart cDraft cRun cBench) : Cal P w K mg base "is_number_within" 3 (Ct (a3 (rL rInt) rInt rInt) (onPre fun x => x.1.length ≤ 20000) rBool fun x => Mir.isNumberWithin x.1 x.2.1 x.2.2.1) := by
  refine T.d_is_number_within.ct sc_is_number_within rfl fun f cdv A outer s G H vs x Q E hr hs ha hp hk => ?_
  obtain ⟨xs, lo, hi, _⟩ := x
  obtain ⟨g, _, rfl, h_word, _, _, rfl, rfl, _, _, rfl, rfl, rfl⟩ := ha
  dsimp only at h_word
  have hp : xs.length ≤ 20000 := hp
  exact ws_ret hs (je_and (je_call (ok_is_number T) (hr.mono (by decide)) (ja_cons (je_v 0 rfl h_word) ja_nil) (fun _ _ _ => by walk_at "s")) fun hsc => (je_and (je_c (jc_le (je_vI 1 rfl) (je_call (ok_number_of T) (hr.mono (by decide)) (ja_cons (je_v 0 rfl h_word) ja_nil) (fun _ _ _ => trivial)))) fun hsc => (je_one (je_c (jc_le (je_call (ok_number_of T) (hr.mono (by decide)) (ja_cons (je_v 0 rfl h_word) ja_nil) (fun _ _ _ => trivial)) (je_vI 2 rfl)))))) hk
theorem ok_is_signed (T : Top K mg cPart cDraft cRun cBench) : Cal P w K mg base "is_signed" 3 (Ct (a1 (rL rInt)) (onPre fun x => x.1.length ≤ 20000) rBool fun x => Mir.isSigned x.1) := by
  refine T.d_is_signed.ct sc_is_signed rfl fun f cdv A outer s G H vs x Q E hr hs ha hp hk => ?_
  obtain ⟨xs, _⟩ := x
  obtain ⟨g, _, rfl, h_word, rfl⟩ := ha
  dsimp only at h_word
  have hp : xs.length ≤ 20000 := hp
  exact ws_ret hs (je_or (je_call (ok_is_number T) (hr.mono (by decide)) (ja_cons (je_v 0 rfl h_word) ja_nil) (fun _ _ _ => by walk_at "s")) fun hsc => (je_one (je_and (je_c (jc_gt (je_len rfl T.b_len (JR.q (je_v 0 rfl h_word))) je_int)) fun hsc => (je_and (je_c (jc_eqI (je_ix (d := 0) (JR.q (je_v 0 rfl h_word)) je_int (by walk_at "s") (by walk_at "s")) (je_gi T.c_MINUS))) fun hsc => (je_one (je_call (ok_is_number T) (hr.mono (by decide)) (ja_cons (je_sD (JR.q (je_v 0 rfl h_word)) je_int (by walk_at "s")) ja_nil) (fun _ _ _ => by walk_at "s"))))))) hk
theorem ok_signed_of (T : Top K mg cPart cDraft cRun cBench) : Cal P w K mg base "signed_of" 2 (Ct (a1 (rL rInt)) (onPre fun x => 1 ≤ x.1.length ∧ x.1.length ≤ 20000) rInt fun x => Mir.signedOf x.1) := by
  refine T.d_signed_of.ct sc_signed_of rfl fun f cdv A outer s G H vs x Q E hr hs ha hp hk => ?_
  obtain ⟨xs, _⟩ := x
  obtain ⟨g, _, rfl, h_word, rfl⟩ := ha
  dsimp only at h_word
  obtain ⟨hp1, hp2⟩ : 1 ≤ xs.length ∧ xs.length ≤ 20000 := hp
  exact ws_ret hs (je_if (jt_c (jc_eqI (je_ix (d := 0) (JR.q (je_v 0 rfl h_word)) je_int (by walk_at "s") (by walk_at "s")) (je_gi T.c_MINUS))) (fun hsc => (je_neg (je_call (ok_number_of T) (hr.mono (by decide)) (ja_cons (je_sD (JR.q (je_v 0 rfl h_word)) je_int (by walk_at "s")) ja_nil) (fun _ _ _ => trivial)))) (fun hsc => (je_call (ok_number_of T) (hr.mono (by decide)) (ja_cons (je_v 0 rfl h_word) ja_nil) (fun _ _ _ => trivial)))) hk
theorem ok_is_name (T : Top K mg cPart cDraft cRun cBench) : Cal P w K mg base "is_name" 2 (Ct (a1 (rL rInt)) (onPre fun x => x.1.length ≤ 20000) rBool fun x => Mir.isName x.1) := by
  refine T.d_is_name.ct sc_is_name rfl fun f cdv A outer s G H vs x Q E hr hs ha hp hk => ?_
  obtain ⟨xs, _⟩ := x
  obtain ⟨g, _, rfl, h_word, rfl⟩ := ha
  dsimp only at h_word
  have hp : xs.length ≤ 20000 := hp
  have nd := sc_is_name.nd
  refine ws_ret hs (je_and (je_c (jc_le je_int (je_len rfl T.b_len (JR.q (je_v 0 rfl h_word))))) fun _ => je_and (je_c (jc_le (je_len rfl T.b_len (JR.q (je_v 0 rfl h_word))) (je_gi T.c_MOST_LETTERS))) fun _ => je_one (je_all rfl T.b_all rfl (JR.q (je_lcM 1 (f := Mir.isLetter) rfl nd (JR.q (je_v 0 rfl h_word)) (blkOk_by (N := n_is_name) (sc := defScope s_is_name) (by decide +kernel)) (by omega) ?_)))) hk
  intro i x v G3 H3 hx w3 hv s Hb C cl fp
  cases hv
  exact JR.eq (je_call (ok_is_letter T) (hr.mono (by decide)) (ja_cons (je_vI 1 rfl) ja_nil) (fun _ _ _ => trivial)) rfl
end
end Ck
end
section
set_option Elab.async false
set_option linter.all false
set_option maxRecDepth 100000
set_option maxHeartbeats 4000000
namespace Ck
open PySem PySem.Spec PyProof.Rows L2
open Mir (itm)
abbrev rCell : SR Mir.Cell := rT3 rInt rInt rInt
abbrev rPair : SR Mir.Pair := rT2 rInt rInt
/-- an object at a, with what is known of it besides -/
def rO (α : Type) : SR (Addr × α) := ⟨fun _ v x => v = .ref x.1, fun _ h => h⟩
def pF (vn : V) (w h : Int) (vc : V) (s : Int) : List (Str × V) := [("name", vn), ("width", .int w), ("height", .int h), ("cells", vc), ("many_sets", .int s)]
theorem pF_name {vn vc : V} {w h s : Int} : (pF vn w h vc s).lookup ("name" : Str) = some vn := by rfl
theorem pF_width {vn vc : V} {w h s : Int} : (pF vn w h vc s).lookup ("width" : Str) = some (.int w) := by rfl
theorem pF_height {vn vc : V} {w h s : Int} : (pF vn w h vc s).lookup ("height" : Str) = some (.int h) := by rfl
theorem pF_cells {vn vc : V} {w h s : Int} : (pF vn w h vc s).lookup ("cells" : Str) = some vc := by rfl
theorem pF_sets {vn vc : V} {w h s : Int} : (pF vn w h vc s).lookup ("many_sets" : Str) = some (.int s) := by rfl
theorem pF_putc {vn vc u : V} {w h s : Int} : putF "cells" u (pF vn w h vc s) = pF vn w h u s := by rfl
theorem pF_puts {vn vc : V} {w h s z : Int} : putF "many_sets" (.int z) (pF vn w h vc s) = pF vn w h vc z := by rfl
/-- a part's object as it stands in H, its lists still in G -/
def PartIn (C : Addr) (G H : Hp) (a : Addr) (p : Mir.PartD) : Prop := ∃ dx vn vc, H a = some (.ins C dx (pF vn p.w p.h vc p.sets)) ∧ (rL rInt).r G vn p.name ∧ (rL rCell).r G vc p.cells
theorem PartIn.mono {C a : Addr} {G H G' H' : Hp} {p : Mir.PartD} (h : PartIn C G H a p) (g : Same G G') (s : Same H H') : PartIn C G' H' a p :=
  let ⟨dx, vn, vc, h1, h2, h3⟩ := h
  ⟨dx, vn, vc, s _ _ h1, (rL rInt).m g h2, (rL rCell).m g h3⟩
theorem PartIn.gw {C a : Addr} {G H G' H' : Hp} {p : Mir.PartD} (h : PartIn C G H a p) (w : Gw G H G' H') : PartIn C G' H' a p := h.mono w.g w.h
/-- a part that is ended -/
def rPart (C : Addr) : SR Mir.PartD := ⟨fun G v p => ∃ a, v = .ref a ∧ PartIn C G G a p, fun e ⟨a, h1, h2⟩ => ⟨a, h1, h2.mono e e⟩⟩
section
variable {X : Cx} {σ : L2.St} {G H : Hp} {e : Expr} {pos : Pos} {cPart cDraft cRun cBench a : Addr} {p : Mir.PartD}
theorem je_part_name (T : Top X.K X.mg cPart cDraft cRun cBench) (hp : PartIn cPart G H a p) (j : JR X σ G H e rV (.ref a)) (hb : attributeBase e "name" X.env (eval e X.env) = eval e X.env := by rfl) : JR X σ G H (.Attribute e "name" pos) (rL rInt) p.name :=
  let ⟨_, _, _, h1, h2, _⟩ := hp
  je_fld j h1 T.k_Part T.f_Part_name pF_name h2 hb
theorem je_part_width (T : Top X.K X.mg cPart cDraft cRun cBench) (hp : PartIn cPart G H a p) (j : JR X σ G H e rV (.ref a)) (hb : attributeBase e "width" X.env (eval e X.env) = eval e X.env := by rfl) : JR X σ G H (.Attribute e "width" pos) rInt p.w :=
  let ⟨_, _, _, h1, h2, _⟩ := hp
  je_fld j h1 T.k_Part T.f_Part_width pF_width rfl hb
theorem je_part_height (T : Top X.K X.mg cPart cDraft cRun cBench) (hp : PartIn cPart G H a p) (j : JR X σ G H e rV (.ref a)) (hb : attributeBase e "height" X.env (eval e X.env) = eval e X.env := by rfl) : JR X σ G H (.Attribute e "height" pos) rInt p.h :=
  let ⟨_, _, _, h1, h2, _⟩ := hp
  je_fld j h1 T.k_Part T.f_Part_height pF_height rfl hb
theorem je_part_cells (T : Top X.K X.mg cPart cDraft cRun cBench) (hp : PartIn cPart G H a p) (j : JR X σ G H e rV (.ref a)) (hb : attributeBase e "cells" X.env (eval e X.env) = eval e X.env := by rfl) : JR X σ G H (.Attribute e "cells" pos) (rL rCell) p.cells :=
  let ⟨_, _, _, h1, _, h3⟩ := hp
  je_fld j h1 T.k_Part T.f_Part_cells pF_cells h3 hb
theorem je_part_many_sets (T : Top X.K X.mg cPart cDraft cRun cBench) (hp : PartIn cPart G H a p) (j : JR X σ G H e rV (.ref a)) (hb : attributeBase e "many_sets" X.env (eval e X.env) = eval e X.env := by rfl) : JR X σ G H (.Attribute e "many_sets" pos) rInt p.sets :=
  let ⟨_, _, _, h1, _, _⟩ := hp
  je_fld j h1 T.k_Part T.f_Part_many_sets pF_sets rfl hb
theorem je_vP (i : Nat) {n : Str} (hs : σ[i]? = some (some (.ref a))) {C : Addr} (h : PartIn C G H a p) (hN : X.N[i]? = some n := by rfl)
    (hv : Vis X.env.scope n := by first | exact Or.inl rfl | exact Or.inr (Or.inl rfl) | exact Or.inr (Or.inr rfl)) (hd : (n == ("__debug__" : Str)) = false := by decide)
    (hcd : (n == ("__classdict__" : Str)) = false := by decide) : JR X σ G H (.Name n pos) (rO Mir.PartD) (a, p) := je_v (R := rO Mir.PartD) i hs rfl hN hv hd hcd
end
/-! ### methods -/
section
variable {P : Program} {w : World} {K : PySem.W.Frag} {mg : Str → Option Value} {base : Heap} {C : Addr}
/-- a method of the top that keeps a promise -/
def CalM (P : Program) (w : World) (K : PySem.W.Frag) (mg : Str → Option Value) (base : Heap) (C : Addr) (name : Str) (k : Nat) (sp : Sp) : Prop :=
  ∃ f fd ps, FnOk P w K mg base CX0 k f fd ps sp ∧ Meth K C name f ∧ Binds K fd ps []
def CalI (P : Program) (w : World) (K : PySem.W.Frag) (mg : Str → Option Value) (base : Heap) (C : Addr) (k : Nat) (sp : Sp) : Prop :=
  ∃ f fd ps, FnOk P w K mg base CX0 k f fd ps sp ∧ Mk K C f ∧ Binds K fd ps []
theorem DefM.ok {name qual : Str} {st : Stmt} {N ps : List Str} {k : Nat} {sp : Sp} (D : DefM K C name qual st ps) (S : FnScope N ps (defScope st)) (len : ∀ vs H Q E, sp vs H Q E → vs.length = ps.length)
    (hbody : ∀ (f : Addr) (cdv : Value) (A : Around) (outer : List Env) (s : Shared) (H : Hp) (vs : List V) (Q : VK) (E : XK), Room k (A.deeper (envOfC qual (defScope st) s.heap.objs.size f cdv)) → sp vs H Q E →
      WSs (cxOf CX0 P w K mg base N qual (defScope st) f cdv A outer s H E).nox (defBody st) { nx := fun _ H' => Q .non H', rt := Q } (start N vs) H) : CalM P w K mg base C name (k + 1) sp := by
  obtain ⟨f, fd, F, hm, hb⟩ := D
  exact ⟨f, fd, ps, F.ok S len fun cdv A outer s H vs Q E hr h => ⟨_, pss_w, hbody f cdv A outer s H vs Q E hr h⟩, hm, hb⟩
theorem DefI.ok {qual : Str} {st : Stmt} {N ps : List Str} {k : Nat} {sp : Sp} (D : DefI K C qual st ps) (S : FnScope N ps (defScope st)) (len : ∀ vs H Q E, sp vs H Q E → vs.length = ps.length)
    (hbody : ∀ (f : Addr) (cdv : Value) (A : Around) (outer : List Env) (s : Shared) (H : Hp) (vs : List V) (Q : VK) (E : XK), Room k (A.deeper (envOfC qual (defScope st) s.heap.objs.size f cdv)) → sp vs H Q E →
      WSs (cxOf CX0 P w K mg base N qual (defScope st) f cdv A outer s H E).nox (defBody st) { nx := fun _ H' => Q .non H', rt := Q } (start N vs) H) : CalI P w K mg base C (k + 1) sp := by
  obtain ⟨f, fd, F, hm, hb⟩ := D
  exact ⟨f, fd, ps, F.ok S len fun cdv A outer s H vs Q E hr h => ⟨_, pss_w, hbody f cdv A outer s H vs Q E hr h⟩, hm, hb⟩
end
section
variable {X : Cx} {σ : L2.St} {G H G1 H1 : Hp} {e a b c o : Expr} {es : List Expr} {rest : List Stmt} {pos apos : Pos} {α β γ : Type} {R : SR α} {S : SR β} {T : SR γ} {x : α} {y : β} {z : γ} {D : Ends}
theorem we_meth {name : Str} {C p dx : Addr} {fs : List (Str × V)} {k : Nat} {sp : Sp} {Q : VK} {pl : Sem Bool} (F : CalM X.prog X.w X.K X.mg X.base C name k sp) (hr : Room k X.A) (hc : Cls X.K C) (hs : Same G H) (ho : JR X σ G H o rV (.ref p)) (hp : H p = some (.ins C dx fs)) (hl : fs.lookup name = none)
    (h : ∀ H1, Gw G H G H1 → WA X (e :: es) σ H1 fun vs H2 => sp (.ref p :: vs) H2 Q E0)
    (hst : starEach (e :: es) X.env = (false, eval e X.env) :: starEach es X.env := by rfl) (hpl : (backTo pos (starEach es X.env)).any (·.1) = false := by rfl)
    (ht : eval (.Call (.Attribute o name apos) (e :: es) [] pos) X.env = (do
      let ov ← eval o X.env
      standAt apos.atName
      let (f, first) ← holding [ov] (getMethod ov name pl)
      callWith pos f first (backTo pos (starEach (e :: es) X.env)) (backToKw pos (keywordEach [] X.env))) := by rfl) : WE X (.Call (.Attribute o name apos) (e :: es) [] pos) σ H Q := by
  obtain ⟨f, fd, ps, F, hm, hb⟩ := F
  refine WE.of (pe_meth pe_w hc hm F hr hb .nil pass0 pa_w hst hpl ht) ?_
  refine ho G H (Gw.refl hs) _ fun v G1 H1 w1 hv => ⟨p, dx, fs, hv, w1.h _ _ hp, hl, ?_⟩
  cases (show v = .ref p from hv)
  have z : (fun (vs : List V) (H2 : Hp) => sp (.ref p :: (vs ++ [])) H2 Q E0) = fun vs H2 => sp (.ref p :: vs) H2 Q E0 := by
    funext vs H1
    rw [List.append_nil]
  rw [z]
  exact h H1 w1.keep
theorem we_meth0 {name : Str} {C p dx : Addr} {fs : List (Str × V)} {k : Nat} {sp : Sp} {Q : VK} {pl : Sem Bool} (F : CalM X.prog X.w X.K X.mg X.base C name k sp) (hr : Room k X.A) (hc : Cls X.K C) (hs : Same G H) (ho : JR X σ G H o rV (.ref p)) (hp : H p = some (.ins C dx fs)) (hl : fs.lookup name = none)
    (h : ∀ H1, Gw G H G H1 → sp [.ref p] H1 Q E0)
    (ht : eval (.Call (.Attribute o name apos) [] [] pos) X.env = (do
      let ov ← eval o X.env
      standAt apos.atName
      let (f, first) ← holding [ov] (getMethod ov name pl)
      callWith pos f first (backTo pos (starEach [] X.env)) (backToKw pos (keywordEach [] X.env))) := by rfl) : WE X (.Call (.Attribute o name apos) [] [] pos) σ H Q := by
  obtain ⟨f, fd, ps, F, hm, hb⟩ := F
  refine WE.of (pe_meth0 pe_w hc hm F hr hb .nil pass0 ht) ?_
  refine ho G H (Gw.refl hs) _ fun v G1 H1 w1 hv => ⟨p, dx, fs, hv, w1.h _ _ hp, hl, ?_⟩
  cases (show v = .ref p from hv)
  exact h H1 w1.keep
/-- a method that only tells -/
theorem je_meth0 {name : Str} {C : Addr} {q : Mir.PartD} {p : Addr} {k : Nat} {pre : Hp → Hp → (Addr × Mir.PartD) × Unit → Prop} {g : (Addr × Mir.PartD) × Unit → β} {pl : Sem Bool} (F : CalM X.prog X.w X.K X.mg X.base C name k (Ct (a1 (rO Mir.PartD)) pre S g)) (hr : Room k X.A) (hc : Cls X.K C) (hp : PartIn C G H p q)
    (hpre : ∀ G' H', Gw G H G' H' → pre G' H' ((p, q), ())) (ho : JR X σ G H o rV (.ref p)) (hl : ∀ vn w h vc s, (pF vn w h vc s).lookup name = none := by intro _ _ _ _ _; rfl)
    (ht : eval (.Call (.Attribute o name apos) [] [] pos) X.env = (do
      let ov ← eval o X.env
      standAt apos.atName
      let (f, first) ← holding [ov] (getMethod ov name pl)
      callWith pos f first (backTo pos (starEach [] X.env)) (backToKw pos (keywordEach [] X.env))) := by rfl) : JR X σ G H (.Call (.Attribute o name apos) [] [] pos) S (g ((p, q), ())) := fun G0 H0 w0 Q k => by
  obtain ⟨dx, vn, vc, h1, h2, h3⟩ := hp
  refine we_meth0 F hr hc w0.s (ho.mono w0) (w0.h _ _ h1) (hl _ _ _ _ _) (fun H1 w1 => ?_) ht
  exact ⟨G0, ((p, q), ()), w1.s, ⟨_, [], rfl, rfl, rfl⟩, hpre _ _ (w0.t w1), fun v G2 H2 w2 hv => k v G2 H2 (w1.t w2) hv⟩
/-- o.f = e -/
theorem ws_fld {f : Str} {p C dx : Addr} {fs : List (Str × V)} {opos : Pos} (hs : Same G H) (j : JR X σ G H e R x) (ho : ∀ H1, Gw G H G H1 → JR X σ G H1 o rV (.ref p)) (hp : H p = some (.ins C dx fs)) (hc : Cls X.K C) (hn : NoAttr X.K C f) (hl : fs.length < 1000)
    (k : ∀ v G1 H1, Gw G H G1 H1 → R.r G1 v x → WSs X rest D σ (upd H1 p (.ins C dx (putF f v fs)))) (hsw : swapsWith e (some (.Attribute o f opos)) pos.line X.env = pure false := by rfl) : WSs X (.Assign [.Attribute o f opos] e pos :: rest) D σ H := by
  refine WSs.cons (ps_fld pe_w pe_w hsw) ?_
  refine j G H (Gw.refl hs) _ fun v G1 H1 w1 hv => ?_
  refine ho H1 w1.keep G H1 (Gw.refl w1.s0) _ fun v0 G2 H2 w2 hv0 => ?_
  have w12 : Gw G H G1 H2 := ⟨w1.g, w1.h.trans w2.h, w1.s.trans w2.h, w1.f⟩
  exact ⟨p, C, dx, fs, hv0, w12.h _ _ hp, hc, hn, hl, k v G1 H2 w12 hv⟩
/-- an expression for its deeds -/
theorem ws_do (h : WE X e σ H fun _ H1 => WSs X rest D σ H1) (hsw : swapsWith e none pos.line X.env = pure false := by rfl) : WSs X (.Expr e pos :: rest) D σ H := WSs.cons (ps_expr pe_w hsw) h
end
end Ck
end
section
set_option Elab.async false
set_option linter.all false
set_option maxRecDepth 100000
set_option maxHeartbeats 4000000
namespace Ck
open PySem PySem.Spec PyProof.Rows L2
open Mir (itm)
local macro_rules | `(tactic| walk_at "s") => `(tactic| first | assumption | omega | (simp only [onPre, List.length_map, List.length_drop, List.length_take, List.length_append, List.length_cons, List.length_nil, decide_eq_true_eq, decide_eq_false_iff_not] at *; omega))
/-- a part's bounds -/
def Pw (p : Mir.PartD) : Prop := 1 ≤ p.w ∧ p.w ≤ 24 ∧ 1 ≤ p.h ∧ p.h ≤ 24 ∧ (p.cells.length : Int) ≤ 576 ∧ 1 ≤ p.sets ∧ p.sets ≤ 64
theorem rng_get {n : Int} {i : Nat} (h : (i : Int) < n) : (Mir.rng 0 n)[i]? = some (i : Int) := by
  unfold Mir.rng
  rw [List.getElem?_map, List.getElem?_range (by omega)]
  show some ((0 : Int) + (i : Int)) = some (i : Int)
  rw [Int.zero_add]
theorem rng_all {n : Int} : (Mir.rng 0 n).take n.toNat = Mir.rng 0 n := List.take_of_length_le (by rw [rng_len]; omega)
section
variable {P : Program} {w : World} {K : PySem.W.Frag} {mg : Str → Option Value} {base : Heap} {cPart cDraft cRun cBench : Addr}
theorem ok_is_full (T : Top K mg cPart cDraft cRun cBench) : CalM P w K mg base cPart "is_full" 1 (Ct (a1 (rO Mir.PartD)) (fun G H x => PartIn cPart G H x.1.1 x.1.2 ∧ Pw x.1.2) rBool fun x => Mir.isFull x.1.2) := by
  refine T.m_Part_is_full.ok sc_Part_is_full (fun vs H Q E ⟨G, x, _, h, _⟩ => (AR.len _ h)) fun f cdv A outer s H vs Q E hr ⟨G, x, hs, ha, ⟨h_self, hw⟩, hk⟩ => ?_
  obtain ⟨⟨a, p⟩, _⟩ := x
  obtain ⟨_, _, rfl, rfl, rfl⟩ := ha
  unfold Pw at hw
  dsimp only at h_self hw
  exact ws_ret hs (je_c (jc_eqI (je_len rfl T.b_len (JR.q (je_part_cells T h_self (je_vO 0 rfl)))) (je_mul (je_part_width T h_self (je_vO 0 rfl)) (je_part_height T h_self (je_vO 0 rfl)) (by walk_at "s")))) hk
theorem ok_mirrored_cells (T : Top K mg cPart cDraft cRun cBench) : Cal P w K mg base "mirrored_cells" 3 (Ct (a1 (rO Mir.PartD)) (fun G H x => PartIn cPart G H x.1.1 x.1.2 ∧ Pw x.1.2) (rL rCell) fun x => Mir.mirroredCells x.1.2) := by
  refine T.d_mirrored_cells.ct sc_mirrored_cells rfl fun f cdv A outer s G H vs x Q E hr hs ha hp hk => ?_
  obtain ⟨⟨a, p⟩, _⟩ := x
  obtain ⟨_, _, rfl, rfl, rfl⟩ := ha
  obtain ⟨h_part, hw⟩ := hp
  dsimp only at h_part hw
  unfold Pw at hw
  have nd := sc_mirrored_cells.nd
  refine ws_newL 1 (fun pf hf => ?_) nd
  have w1 := Gw.mut (o := .lst []) hs hf
  have h_part := h_part.gw w1
  refine ws_forR 2 w1.s T.b_range (je_part_height T h_part (je_vO 0 rfl)) (by omega) (fun i σ' G' H' => ∃ vs v1 v2, σ' = [some (.ref a), some (.ref pf), v1, v2, none] ∧ Gw G H G' H' ∧ PartIn cPart G' H' a p ∧ G' pf = none ∧ H' pf = some (.lst vs) ∧ vs.length ≤ 24 * i ∧
    Paired (rCell.r G') vs (((Mir.rng 0 p.h).take i).foldl (fun acc y => acc ++ (Mir.rowOf p y).reverse.map Mir.mirrored) [])) ?_ ?_ ?_ rfl nd
  · intro G1 H1 w3
    exact ⟨[], none, none, rfl, w1.t w3, h_part.gw w3, w3.out (hs.free hf) upd_same, w3.h _ _ upd_same, Nat.zero_le _, .nil⟩
  · rintro i σ' G' H' hi s1 s2 ⟨vs, v1, v2, rfl, w', h_part, gf, hvf, hl, pv⟩
    have m1 : 0 ≤ (i : Int) * p.w := Int.mul_nonneg (by omega) (by omega)
    have m2 : 0 ≤ ((i : Int) + 1) * p.w := Int.mul_nonneg (by omega) (by omega)
    have m3 : ((i : Int) + 1) * p.w = (i : Int) * p.w + p.w := by rw [Int.add_mul, Int.one_mul]
    refine ws_set 3 s2 (je_sM (JR.q (je_part_cells T h_part (je_vO 0 rfl))) (je_mul (je_vI 2 rfl) (je_part_width T h_part (je_vO 0 rfl)) (by walk_at "s")) (je_mul (je_add (je_vI 2 rfl) je_int) (je_part_width T h_part (je_vO 0 rfl)) (by walk_at "s")) (by walk_at "s") (by walk_at "s")) (fun v G1 H1 w1 h_row => ?_) nd
    have h_row : (rL rCell).r G1 v (Mir.rowOf p i) := h_row
    have rl : (Mir.rowOf p i).length ≤ 24 := by
      unfold Mir.rowOf
      rw [List.length_take]
      omega
    have h_part := h_part.gw w1
    refine ws_ext (R := rCell) w1.s (je_vO 1 rfl) (w1.h _ _ hvf) (je_lcM 4 (f := Mir.mirrored) rfl nd (JR.q (je_rev (JR.q (je_v 3 rfl h_row)))) (blkOk_by (N := n_mirrored_cells) (sc := defScope s_mirrored_cells) (by decide +kernel)) (by rw [List.length_reverse]; omega) ?_) (by rw [List.length_map, List.length_reverse]; omega) fun us G2 H2 w2 hu => ?_
    · intro i x v G3 H3 hx w3 h_cell s Hb C cl fp
      exact JR.eq (je_call (ok_mirrored T) (hr.mono (by decide)) (ja_cons (je_v 4 rfl h_cell) ja_nil) (fun _ _ _ => trivial)) rfl
    · have w12 := w1.t w2
      have hg := w12.out gf hvf
      refine ws_nil ⟨G2, w12.g, ((w'.t w12).set hf hg).s, vs ++ us, some (.int i), some v, rfl, (w'.t w12).set hf hg, ?_, hg, upd_same, ?_, ?_⟩
      · obtain ⟨dx, vn, vc, q1, q2, q3⟩ := h_part.gw w2
        refine ⟨dx, vn, vc, ?_, q2, q3⟩
        rw [upd_ne (ne_of q1 (w12.h _ _ hvf) (by intro q; cases q))]
        exact q1
      · have := Paired.len hu
        rw [List.length_append, this, List.length_map, List.length_reverse]
        omega
      · rw [fold_snoc (rng_get hi)]
        exact Paired.app (pm (fun _ _ q => rCell.m w12.g q) pv) hu
  · rintro σ' G' H' s1 s2 ⟨vs, v1, v2, rfl, w', h_part, gf, hvf, hl, pv⟩
    rw [rng_all] at pv
    exact ws_retL (je_vO 1 rfl) w' hf gf hvf pv hk
theorem ok_is_inside (T : Top K mg cPart cDraft cRun cBench) : Cal P w K mg base "is_inside" 1 (Ct (a4 (rO Mir.PartD) (rO Mir.PartD) rInt rInt) (fun G H x => PartIn cPart G H x.1.1 x.1.2 ∧ PartIn cPart G H x.2.1.1 x.2.1.2) rBool fun x => Mir.isInside x.1.2 x.2.1.2 x.2.2.1 x.2.2.2.1) := by
  refine T.d_is_inside.ct sc_is_inside rfl fun f cdv A outer s G H vs x Q E hr hs ha hp hk => ?_
  obtain ⟨⟨a, p⟩, ⟨b, q⟩, xx, yy, _⟩ := x
  obtain ⟨_, _, rfl, rfl, _, _, rfl, rfl, _, _, rfl, rfl, _, _, rfl, rfl, rfl⟩ := ha
  obtain ⟨h_part, h_copied⟩ := hp
  dsimp only at h_part h_copied
  refine ws_when hs (jt_w (jw_or (jt_c (jc_lt (je_vI 2 rfl) je_int)) fun hsc => (jw_or1 (jt_c (jc_lt (je_vI 3 rfl) je_int))))) (fun hb H2 w2 => ?_) (fun hb H2 w2 => ?_)
  · exact ws_retE w2.s je_bl (by show _ = Mir.isInside p q xx yy; unfold Mir.isInside; rw [if_pos hb]) fun v G' H' w' h => hk v G' H' (w2.t w') h
  · have h_part := h_part.gw w2
    have h_copied := h_copied.gw w2
    exact ws_retE w2.s (je_and (je_c (jc_le (je_add (je_vI 2 rfl) (je_part_width T h_copied (je_vO 1 rfl))) (je_part_width T h_part (je_vO 0 rfl)))) fun hsc => (je_one (je_c (jc_le (je_add (je_vI 3 rfl) (je_part_height T h_copied (je_vO 1 rfl))) (je_part_height T h_part (je_vO 0 rfl)))))) (by show _ = Mir.isInside p q xx yy; unfold Mir.isInside; rw [if_neg (by rw [hb]; decide)]) fun v G' H' w' h => hk v G' H' (w2.t w') h
theorem ok_copy_places (T : Top K mg cPart cDraft cRun cBench) : Cal P w K mg base "copy_places" 1 (Ct (a4 (rO Mir.PartD) (rO Mir.PartD) rInt rInt) (fun G H x => PartIn cPart G H x.1.1 x.1.2 ∧ PartIn cPart G H x.2.1.1 x.2.1.2 ∧ Pw x.1.2 ∧ Pw x.2.1.2) (rL rInt) fun x => Mir.copyPlaces x.1.2 x.2.1.2 x.2.2.1 x.2.2.2.1) := by
  refine T.d_copy_places.ct sc_copy_places rfl fun f cdv A outer s G H vs x Q E hr hs ha hp hk => ?_
  obtain ⟨⟨a, p⟩, ⟨b, q⟩, xx, yy, _⟩ := x
  obtain ⟨_, _, rfl, rfl, _, _, rfl, rfl, _, _, rfl, rfl, _, _, rfl, rfl, rfl⟩ := ha
  obtain ⟨h_part, h_copied, hw1, hw2⟩ := hp
  dsimp only at h_part h_copied hw1 hw2
  unfold Pw at hw1 hw2
  have nd := sc_copy_places.nd
  refine ws_newL 4 (fun pf hf => ?_) nd
  have w1 := Gw.mut (o := .lst []) hs hf
  have h_part := h_part.gw w1
  have h_copied := h_copied.gw w1
  refine ws_forR 5 w1.s T.b_range (je_part_height T h_copied (je_vO 1 rfl)) (by omega) (fun i σ' G' H' => ∃ ns v1 v2, σ' = [some (.ref a), some (.ref b), some (.int xx), some (.int yy), some (.ref pf), v1, v2] ∧ Gw G H G' H' ∧ PartIn cPart G' H' a p ∧ PartIn cPart G' H' b q ∧ G' pf = none ∧ H' pf = some (.lst (ns.map V.int)) ∧ ns.length ≤ 24 * i ∧
    ns = (((Mir.rng 0 q.h).take i).foldl (fun acc row => (Mir.rng 0 q.w).foldl (fun a col => a ++ [(yy + row) * p.w + xx + col]) acc) [])) ?_ ?_ ?_ rfl nd
  · intro G1 H1 w3
    exact ⟨[], none, none, rfl, w1.t w3, h_part.gw w3, h_copied.gw w3, w3.out (hs.free hf) upd_same, w3.h _ _ upd_same, Nat.zero_le _, rfl⟩
  · rintro i σ' G' H' hi s1 s2 ⟨ns, v1, v2, rfl, w', h_part, h_copied, gf, hvf, hl, en⟩
    refine ws_forR 6 s2 T.b_range (je_part_width T h_copied (je_vO 1 rfl)) (by omega) (fun j σ'' G'' H'' => ∃ ms v2, σ'' = [some (.ref a), some (.ref b), some (.int xx), some (.int yy), some (.ref pf), some (.int i), v2] ∧ Gw G H G'' H'' ∧ PartIn cPart G'' H'' a p ∧ PartIn cPart G'' H'' b q ∧ G'' pf = none ∧ H'' pf = some (.lst (ms.map V.int)) ∧ ms.length = ns.length + j ∧
      ms = ((Mir.rng 0 q.w).take j).foldl (fun a col => a ++ [(yy + (i : Int)) * p.w + xx + col]) ns) ?_ ?_ ?_ rfl nd
    · intro G1 H1 w3
      exact ⟨ns, v2, rfl, w'.t w3, h_part.gw w3, h_copied.gw w3, w3.out gf hvf, w3.h _ _ hvf, rfl, rfl⟩
    · rintro j σ'' G'' H'' hj t1 t2 ⟨ms, v2, rfl, w'', h_part, h_copied, gf, hvf, hl2, em⟩
      refine ws_app t2 (je_vO 4 rfl) hvf (je_add (je_add (je_mul (je_add (je_vI 3 rfl) (je_vI 5 rfl)) (je_part_width T h_part (je_vO 0 rfl)) (by walk_at "s")) (je_vI 2 rfl)) (je_vI 6 rfl)) (by rw [List.length_map]; omega) fun v G1 H1 w3 hv => ?_
      cases (show v = .int _ from hv)
      have hg := w3.out gf hvf
      have pp : ∀ {c : Addr} {r : Mir.PartD}, PartIn cPart G1 H1 c r → PartIn cPart G1 (upd H1 pf (.lst (ms.map V.int ++ [.int ((yy + (i : Int)) * p.w + xx + (j : Int))]))) c r := fun {c r} ⟨dx, vn, vc, q1, q2, q3⟩ => by
        refine ⟨dx, vn, vc, ?_, q2, q3⟩
        rw [upd_ne (ne_of q1 (w3.h _ _ hvf) (by intro q; cases q))]
        exact q1
      refine ws_nil ⟨G1, w3.g, ((w''.t w3).set hf hg).s, ms ++ [(yy + (i : Int)) * p.w + xx + (j : Int)], some (.int j), rfl, (w''.t w3).set hf hg, pp (h_part.gw w3), pp (h_copied.gw w3), hg, ?_, ?_, ?_⟩
      · rw [upd_same, List.map_append]
        rfl
      · rw [List.length_append, hl2]
        rfl
      · rw [fold_snoc (rng_get hj), ← em]
    · rintro σ'' G'' H'' t1 t2 ⟨ms, v2, rfl, w'', h_part, h_copied, gf, hvf, hl2, em⟩
      rw [rng_all] at em
      refine ws_nil ⟨G'', t1, t2, ms, some (.int i), v2, rfl, w'', h_part, h_copied, gf, hvf, by omega, ?_⟩
      rw [fold_snoc (rng_get hi), ← en, ← em]
  · rintro σ' G' H' s1 s2 ⟨ns, v1, v2, rfl, w', h_part, h_copied, gf, hvf, hl, en⟩
    rw [rng_all] at en
    subst en
    exact ws_retL (R := rInt) (je_vO 4 rfl) w' hf gf hvf (ints_paired _) hk
theorem ok_is_overlapping (T : Top K mg cPart cDraft cRun cBench) : Cal P w K mg base "is_overlapping" 1 (Ct (a3 (rO Mir.PartD) (rL rCell) (rL rInt)) (fun G H x => PartIn cPart G H x.1.1 x.1.2 ∧ ∀ a ∈ x.2.2.1, 0 ≤ a ∧ a < (x.1.2.cells.length : Int)) rBool fun x => Mir.overlapping x.1.2 x.2.1 x.2.2.1) := by
  refine T.d_is_overlapping.ct sc_is_overlapping rfl fun f cdv A outer s G H vs x Q E hr hs ha hp hk => ?_
  obtain ⟨⟨a, p⟩, cs, as, _⟩ := x
  obtain ⟨_, _, rfl, rfl, vc, _, rfl, h_cells, va, _, rfl, h_places, rfl⟩ := ha
  obtain ⟨h_part, hin⟩ := hp
  dsimp only at h_part hin h_cells h_places
  have nd := sc_is_overlapping.nd
  have ov : ∀ (cs : List Mir.Cell) (as : List Int), Mir.overlapping p cs as = (cs.zip as).any fun z => Mir.overlap1 p z.1 z.2 := by
    intro cs
    induction cs with
    | nil => intro as; cases as <;> rfl
    | cons c cs ih =>
      intro as
      cases as with
      | nil => rfl
      | cons a as =>
        show (if Mir.overlap1 p c a then true else Mir.overlapping p cs as) = _
        rw [ih, List.zip_cons_cons, List.any_cons]
        cases Mir.overlap1 p c a <;> rfl
  refine ws_forZ 3 4 hs T.b_zip (JR.q (je_v 1 rfl h_cells)) (JR.q (je_v 2 rfl h_places)) rfl nd (fun i σ' G' H' => ∃ v1 v2, σ' = [some (.ref a), some vc, some va, v1, v2] ∧ Gw G H G' H' ∧ ((cs.zip as).take i).any (fun z => Mir.overlap1 p z.1 z.2) = false) (fun G1 H1 w1 => ⟨none, none, rfl, w1, rfl⟩) ?_ (fun i σ' G' H' H2 ⟨v1, v2, e, w', h⟩ w2 => ⟨v1, v2, e, w'.t w2, h⟩) ?_
  · rintro i c at_ v u σ' G' H' hx s1 s2 ⟨v1, v2, rfl, w', hno⟩ h_cell rfl
    have hxy := List.getElem?_zip_eq_some.mp hx
    have hat := hin at_ (List.mem_of_getElem? hxy.2)
    have h_part := h_part.gw w'
    refine ws_when s2 (jt_w (jw_and (jt_c (jc_neI (je_p30 (je_v 3 rfl h_cell)) (je_gi T.c_AIR))) fun hsc => (jw_and1 (jt_c (jc_neI (je_p30 (je_ix (d := Mir.airC) (JR.q (je_part_cells T h_part (je_vO 0 rfl))) (je_vI 4 rfl) (by walk_at "s") (by walk_at "s"))) (je_gi T.c_AIR)))))) (fun hb H2 w2 => ?_) (fun hb H2 w2 => ?_)
    · refine ws_retE w2.s je_bl ?_ fun v G' H' w3 h => hk v G' H' ((w'.t w2).t w3) h
      show true = Mir.overlapping p cs as
      rw [ov]
      exact (List.any_eq_true.mpr ⟨(c, at_), List.mem_of_getElem? hx, hb⟩).symm
    · refine ws_nil ⟨G', Same.refl _, w2.s, some v, some (.int at_), rfl, w'.t w2, ?_⟩
      rw [take_snoc hx, List.any_append, hno]
      show (Mir.overlap1 p c at_ || false) = false
      rw [Bool.or_false]
      exact hb
  · rintro σ' G' H' s1 s2 ⟨v1, v2, rfl, w', hno⟩
    rw [List.take_length] at hno
    refine ws_retE s2 je_bl ?_ fun v G1 H1 w3 h => hk v G1 H1 (w'.t w3) h
    show false = Mir.overlapping p cs as
    rw [ov, hno]
theorem ok_part_named (T : Top K mg cPart cDraft cRun cBench) : Cal P w K mg base "part_named" 1 (Ct (a2 (rL (rPart cPart)) (rL rInt)) (onPre fun x => x.1.length ≤ 1000) (rL (rPart cPart)) fun x => Mir.partNamed x.1 x.2.1) := by
  refine T.d_part_named.ct sc_part_named rfl fun f cdv A outer s G H vs x Q E hr hs ha hp hk => ?_
  obtain ⟨ps, n, _⟩ := x
  obtain ⟨_, _, rfl, h_parts, _, _, rfl, h_name, rfl⟩ := ha
  dsimp only at h_parts h_name
  have hp : ps.length ≤ 1000 := hp
  have nd := sc_part_named.nd
  refine ws_retE hs (je_lcP 2 (p := fun (q : Mir.PartD) => decide (q.name = n)) rfl nd (JR.q (je_v 0 rfl h_parts)) (blkOk_by (N := n_part_named) (sc := defScope s_part_named) (by decide +kernel)) (by omega) ?_ ?_) rfl hk
  · intro i x v G3 H3 hx w3 hv s Hb C cl fp
    obtain ⟨b, rfl, hb⟩ := hv
    have h_part := hb.mono (Same.refl _) w3.s
    have h_name := (rL rInt).m w3.g h_name
    exact (jt_c (jc_eqD (R := (rL rInt)) (je_part_name T h_part (je_vO 2 rfl)) (je_v 1 rfl h_name) hr.units))
  · intro i x v G3 H3 hx hp w3 hv s Hb C cl fp
    exact je_v 2 rfl hv
end
end Ck
end
section
set_option Elab.async false
set_option linter.all false
set_option maxRecDepth 100000
set_option maxHeartbeats 4000000
namespace Ck
open PySem PySem.Spec PyProof.Rows L2
open Mir (itm)
/-! ### changes of an object that is known by its addresses -/
structure Mv (F : Addr → Prop) (G H G' H' : Hp) : Prop where
  g : Same G G'
  h : ∀ a o, ¬ F a → H a = some o → H' a = some o
  s : Same G' H'
  f : ∀ a o, G' a = some o → F a ∨ G a = some o ∨ H a = none
  d : ∀ a, H' a = none → H a = none
section
variable {F : Addr → Prop} {G H G1 H1 G2 H2 : Hp} {p : Addr} {o : HO}
theorem Mv.of (w : Gw G H G1 H1) : Mv F G H G1 H1 := ⟨w.g, fun a o _ e => w.h _ _ e, w.s, fun a o e => .inr (w.f a o e), fun a e => w.h.free e⟩
theorem Mv.t (a : Mv F G H G1 H1) (b : Mv F G1 H1 G2 H2) : Mv F G H G2 H2 := ⟨a.g.trans b.g, fun x o n e => b.h _ _ n (a.h _ _ n e), b.s, fun x o e => by
  rcases b.f x o e with e | e | e
  · exact .inl e
  · exact a.f x o e
  · exact .inr (.inr (a.d _ e)), fun x e => a.d _ (b.d _ e)⟩
theorem Mv.upd {u : HO} (s : Same G H) (hF : F p) (hg : G p = none) (hp : H p = some u) : Mv F G H G (upd H p o) := ⟨Same.refl _, fun a x n e => by
  rw [upd_ne (fun (q : a = p) => n (q.symm ▸ hF))]
  exact e, fun a x e => by
  rw [upd_ne (ne_of_none e hg)]
  exact s _ _ e, fun a x e => .inr (.inl e), fun a e => by
  by_cases q : a = p
  · subst q
    rw [upd_same] at e
    cases e
  · rw [upd_ne q] at e
    exact e⟩
/-- seen from before its addresses were there -/
theorem Gw.mv (w : Gw G H G1 H1) (m : Mv F G1 H1 G2 H2) (hF : ∀ a, F a → H a = none) : Gw G H G2 H2 := ⟨w.g.trans m.g, fun a o e => m.h _ _ (fun n => by rw [hF a n] at e; cases e) (w.h _ _ e), m.s, fun a o e => by
  rcases m.f a o e with e | e | e
  · exact .inr (hF a e)
  · exact w.f a o e
  · exact .inr (w.h.free e)⟩
theorem Mv.out (m : Mv F G H G1 H1) (hn : ¬ F p) (hg : G p = none) (hp : H p = some o) : G1 p = none := by
  cases q : G1 p with
  | none => rfl
  | some u =>
    rcases m.f p u q with e | e | e
    · exact absurd e hn
    · rw [hg] at e
      cases e
    · rw [hp] at e
      cases e
/-- a thing of its own is to change no more -/
theorem Mv.frz (m : Mv F G H G1 H1) (hF : F p) (hg : G1 p = none) (hp : H1 p = some o) : Mv F G H (L2.upd G1 p o) H1 := by
  refine ⟨m.g.trans (Same.new hg), m.h, fun a u e => ?_, fun a u e => ?_, m.d⟩
  · by_cases q : a = p
    · subst q
      rw [upd_same] at e
      rw [← e]
      exact hp
    · rw [upd_ne q] at e
      exact m.s _ _ e
  · by_cases q : a = p
    · subst q
      exact .inl hF
    · rw [upd_ne q] at e
      exact m.f a u e
theorem Mv.wk {F' : Addr → Prop} (m : Mv F G H G1 H1) (h : ∀ a, F a → F' a) : Mv F' G H G1 H1 := ⟨m.g, fun a o n e => m.h a o (fun q => n (h a q)) e, m.s, fun a o e => by
  rcases m.f a o e with e | e | e
  · exact .inl (h a e)
  · exact .inr (.inl e)
  · exact .inr (.inr e), m.d⟩
end
/-! ### runs -/
structure RAdr where
  p : Addr
  dx : Addr
  pl : Addr
  hl : Addr
  cl : Addr
  pd : Addr
  rl : Addr
  vb : V
  vm : V
abbrev RAdr.own (A : RAdr) : List Addr := [A.p, A.pl, A.hl, A.cl, A.pd, A.rl]
abbrev RAdr.F (A : RAdr) : Addr → Prop := fun a => a ∈ A.own
def rF (A : RAdr) (t : Int) : List (Str × V) := [("board", A.vb), ("marbles", A.vm), ("tick", .int t), ("places", .ref A.pl), ("held", .ref A.hl), ("counts", .ref A.cl), ("permits", .ref A.pd), ("rings", .ref A.rl)]
section
variable {A : RAdr} {t : Int}
theorem rF_board : (rF A t).lookup ("board" : Str) = some A.vb := by rfl
theorem rF_marbles : (rF A t).lookup ("marbles" : Str) = some A.vm := by rfl
theorem rF_tick : (rF A t).lookup ("tick" : Str) = some (.int t) := by rfl
theorem rF_places : (rF A t).lookup ("places" : Str) = some (.ref A.pl) := by rfl
theorem rF_held : (rF A t).lookup ("held" : Str) = some (.ref A.hl) := by rfl
theorem rF_counts : (rF A t).lookup ("counts" : Str) = some (.ref A.cl) := by rfl
theorem rF_permits : (rF A t).lookup ("permits" : Str) = some (.ref A.pd) := by rfl
theorem rF_rings : (rF A t).lookup ("rings" : Str) = some (.ref A.rl) := by rfl
theorem rF_putt {z : Int} : putF "tick" (.int z) (rF A t) = rF A z := by rfl
end
abbrev rBoard : SR Mir.Board := rT3 rInt rInt (rL rCell)
/-- the permits' dict -/
def PdOk (kvs : List (List Key × V)) (st : Mir.RunS) : Prop := kvs.length ≤ st.puts ∧ ∀ g n : Int, (valV kvs [.inl g, .inl n]).getD (.int 0) = .int (st.permits (g, n))
structure RunAt (C : Addr) (G H : Hp) (A : RAdr) (st : Mir.RunS) : Prop where
  o : H A.p = some (.ins C A.dx (rF A st.tick))
  b : rBoard.r G A.vb st.board
  m : (rL rPair).r G A.vm st.marbles
  pl : H A.pl = some (.lst (st.places.map .int))
  hl : H A.hl = some (.lst (st.held.map .int))
  cl : H A.cl = some (.lst (st.counts.map .int))
  pd : ∃ kvs, H A.pd = some (.dT kvs) ∧ PdOk kvs st
  rl : ∃ vs, H A.rl = some (.lst vs) ∧ Paired (rPair.r G) vs st.rings
  nd : A.own.Nodup
  gn : ∀ a ∈ A.own, G a = none
theorem RunAt.there {C : Addr} {G H : Hp} {A : RAdr} {st : Mir.RunS} (h : RunAt C G H A st) : ∀ a ∈ A.own, ∃ o, H a = some o := by
  intro a ha
  obtain ⟨k1, q1, _⟩ := h.pd
  obtain ⟨k2, q2, _⟩ := h.rl
  simp only [RAdr.own, List.mem_cons, List.not_mem_nil, or_false] at ha
  rcases ha with e | e | e | e | e | e <;> subst e
  · exact ⟨_, h.o⟩
  · exact ⟨_, h.pl⟩
  · exact ⟨_, h.hl⟩
  · exact ⟨_, h.cl⟩
  · exact ⟨_, q1⟩
  · exact ⟨_, q2⟩
theorem RunAt.gw {C : Addr} {G H G' H' : Hp} {A : RAdr} {st : Mir.RunS} (h : RunAt C G H A st) (w : Gw G H G' H') : RunAt C G' H' A st := by
  obtain ⟨k1, q1, q2⟩ := h.pd
  obtain ⟨k2, q3, q4⟩ := h.rl
  exact ⟨w.h _ _ h.o, rBoard.m w.g h.b, (rL rPair).m w.g h.m, w.h _ _ h.pl, w.h _ _ h.hl, w.h _ _ h.cl, ⟨k1, w.h _ _ q1, q2⟩, ⟨k2, w.h _ _ q3, pm (fun _ _ z => rPair.m w.g z) q4⟩, h.nd, fun a ha => let ⟨o, e⟩ := h.there a ha
    w.out (h.gn a ha) e⟩
section
variable {C : Addr} {G H : Hp} {A : RAdr} {st : Mir.RunS}
theorem RunAt.setTick (h : RunAt C G H A st) (hs : Same G H) (t : Int) : RunAt C G (upd H A.p (.ins C A.dx (rF A t))) A { st with tick := t } ∧ Mv A.F G H G (upd H A.p (.ins C A.dx (rF A t))) := by
  have hnd := h.nd
  obtain ⟨k1, q1, q2⟩ := h.pd
  obtain ⟨k2, q3, q4⟩ := h.rl
  refine ⟨⟨upd_same, h.b, h.m, ?_, ?_, ?_, ⟨k1, ?_, q2⟩, ⟨k2, ?_, q4⟩, h.nd, h.gn⟩, Mv.upd hs (by simp) (h.gn _ (by simp)) h.o⟩
  · rw [upd_ne (fun e => by simp [RAdr.own, e] at hnd)]; exact h.pl
  · rw [upd_ne (fun e => by simp [RAdr.own, e] at hnd)]; exact h.hl
  · rw [upd_ne (fun e => by simp [RAdr.own, e] at hnd)]; exact h.cl
  · rw [upd_ne (fun e => by simp [RAdr.own, e] at hnd)]; exact q1
  · rw [upd_ne (fun e => by simp [RAdr.own, e] at hnd)]; exact q3
theorem RunAt.setPl (h : RunAt C G H A st) (hs : Same G H) (xs : List Int) : RunAt C G (upd H A.pl (.lst (xs.map .int))) A { st with places := xs } ∧ Mv A.F G H G (upd H A.pl (.lst (xs.map .int))) := by
  have hnd := h.nd
  obtain ⟨k1, q1, q2⟩ := h.pd
  obtain ⟨k2, q3, q4⟩ := h.rl
  refine ⟨⟨?_, h.b, h.m, upd_same, ?_, ?_, ⟨k1, ?_, q2⟩, ⟨k2, ?_, q4⟩, h.nd, h.gn⟩, Mv.upd hs (by simp) (h.gn _ (by simp)) h.pl⟩
  · rw [upd_ne (fun e => by simp [RAdr.own, e] at hnd)]; exact h.o
  · rw [upd_ne (fun e => by simp [RAdr.own, e] at hnd)]; exact h.hl
  · rw [upd_ne (fun e => by simp [RAdr.own, e] at hnd)]; exact h.cl
  · rw [upd_ne (fun e => by simp [RAdr.own, e] at hnd)]; exact q1
  · rw [upd_ne (fun e => by simp [RAdr.own, e] at hnd)]; exact q3
theorem RunAt.setHl (h : RunAt C G H A st) (hs : Same G H) (xs : List Int) : RunAt C G (upd H A.hl (.lst (xs.map .int))) A { st with held := xs } ∧ Mv A.F G H G (upd H A.hl (.lst (xs.map .int))) := by
  have hnd := h.nd
  obtain ⟨k1, q1, q2⟩ := h.pd
  obtain ⟨k2, q3, q4⟩ := h.rl
  refine ⟨⟨?_, h.b, h.m, ?_, upd_same, ?_, ⟨k1, ?_, q2⟩, ⟨k2, ?_, q4⟩, h.nd, h.gn⟩, Mv.upd hs (by simp) (h.gn _ (by simp)) h.hl⟩
  · rw [upd_ne (fun e => by simp [RAdr.own, e] at hnd)]; exact h.o
  · rw [upd_ne (fun e => by simp [RAdr.own, e] at hnd)]; exact h.pl
  · rw [upd_ne (fun e => by simp [RAdr.own, e] at hnd)]; exact h.cl
  · rw [upd_ne (fun e => by simp [RAdr.own, e] at hnd)]; exact q1
  · rw [upd_ne (fun e => by simp [RAdr.own, e] at hnd)]; exact q3
theorem RunAt.setCl (h : RunAt C G H A st) (hs : Same G H) (xs : List Int) : RunAt C G (upd H A.cl (.lst (xs.map .int))) A { st with counts := xs } ∧ Mv A.F G H G (upd H A.cl (.lst (xs.map .int))) := by
  have hnd := h.nd
  obtain ⟨k1, q1, q2⟩ := h.pd
  obtain ⟨k2, q3, q4⟩ := h.rl
  refine ⟨⟨?_, h.b, h.m, ?_, ?_, upd_same, ⟨k1, ?_, q2⟩, ⟨k2, ?_, q4⟩, h.nd, h.gn⟩, Mv.upd hs (by simp) (h.gn _ (by simp)) h.cl⟩
  · rw [upd_ne (fun e => by simp [RAdr.own, e] at hnd)]; exact h.o
  · rw [upd_ne (fun e => by simp [RAdr.own, e] at hnd)]; exact h.pl
  · rw [upd_ne (fun e => by simp [RAdr.own, e] at hnd)]; exact h.hl
  · rw [upd_ne (fun e => by simp [RAdr.own, e] at hnd)]; exact q1
  · rw [upd_ne (fun e => by simp [RAdr.own, e] at hnd)]; exact q3
theorem RunAt.setPd {f : Mir.Pair → Int} {n : Nat} {kvs : List (List Key × V)} (h : RunAt C G H A st) (hs : Same G H) (hk : PdOk kvs { st with permits := f, puts := n }) : RunAt C G (upd H A.pd (.dT kvs)) A { st with permits := f, puts := n } ∧ Mv A.F G H G (upd H A.pd (.dT kvs)) := by
  have hnd := h.nd
  obtain ⟨k1, q1, q2⟩ := h.pd
  obtain ⟨k2, q3, q4⟩ := h.rl
  refine ⟨⟨?_, h.b, h.m, ?_, ?_, ?_, ⟨kvs, upd_same, hk⟩, ⟨k2, ?_, q4⟩, h.nd, h.gn⟩, Mv.upd hs (by simp) (h.gn _ (by simp)) q1⟩
  · rw [upd_ne (fun e => by simp [RAdr.own, e] at hnd)]; exact h.o
  · rw [upd_ne (fun e => by simp [RAdr.own, e] at hnd)]; exact h.pl
  · rw [upd_ne (fun e => by simp [RAdr.own, e] at hnd)]; exact h.hl
  · rw [upd_ne (fun e => by simp [RAdr.own, e] at hnd)]; exact h.cl
  · rw [upd_ne (fun e => by simp [RAdr.own, e] at hnd)]; exact q3
theorem RunAt.setRl {vs : List V} {rs : List Mir.Pair} (h : RunAt C G H A st) (hs : Same G H) (hv : Paired (rPair.r G) vs rs) : RunAt C G (upd H A.rl (.lst vs)) A { st with rings := rs } ∧ Mv A.F G H G (upd H A.rl (.lst vs)) := by
  have hnd := h.nd
  obtain ⟨k1, q1, q2⟩ := h.pd
  obtain ⟨k2, q3, q4⟩ := h.rl
  refine ⟨⟨?_, h.b, h.m, ?_, ?_, ?_, ⟨k1, ?_, q2⟩, ⟨vs, upd_same, hv⟩, h.nd, h.gn⟩, Mv.upd hs (by simp) (h.gn _ (by simp)) q3⟩
  · rw [upd_ne (fun e => by simp [RAdr.own, e] at hnd)]; exact h.o
  · rw [upd_ne (fun e => by simp [RAdr.own, e] at hnd)]; exact h.pl
  · rw [upd_ne (fun e => by simp [RAdr.own, e] at hnd)]; exact h.hl
  · rw [upd_ne (fun e => by simp [RAdr.own, e] at hnd)]; exact h.cl
  · rw [upd_ne (fun e => by simp [RAdr.own, e] at hnd)]; exact q1
end
/-- a run, by its addresses -/
def rR : SR (RAdr × Mir.RunS) := ⟨fun _ v x => v = .ref x.1.p, fun _ h => h⟩
section
variable {X : Cx} {σ : L2.St} {G H : Hp} {e a b c : Expr} {es : List Expr} {rest : List Stmt} {pos p2 : Pos} {cPart cDraft cRun cBench : Addr} {A : RAdr} {st : Mir.RunS} {D : Ends}
theorem je_run_board (T : Top X.K X.mg cPart cDraft cRun cBench) (hr : RunAt cRun G H A st) (j : JR X σ G H e rV (.ref A.p)) (hb : attributeBase e "board" X.env (eval e X.env) = eval e X.env := by rfl) : JR X σ G H (.Attribute e "board" pos) rBoard st.board :=
  je_fld j hr.o T.k_Run T.f_Run_board rF_board hr.b hb
theorem je_run_marbles (T : Top X.K X.mg cPart cDraft cRun cBench) (hr : RunAt cRun G H A st) (j : JR X σ G H e rV (.ref A.p)) (hb : attributeBase e "marbles" X.env (eval e X.env) = eval e X.env := by rfl) : JR X σ G H (.Attribute e "marbles" pos) (rL rPair) st.marbles :=
  je_fld j hr.o T.k_Run T.f_Run_marbles rF_marbles hr.m hb
theorem je_run_tick (T : Top X.K X.mg cPart cDraft cRun cBench) (hr : RunAt cRun G H A st) (j : JR X σ G H e rV (.ref A.p)) (hb : attributeBase e "tick" X.env (eval e X.env) = eval e X.env := by rfl) : JR X σ G H (.Attribute e "tick" pos) rInt st.tick :=
  je_fld j hr.o T.k_Run T.f_Run_tick rF_tick rfl hb
theorem je_run_oplaces (T : Top X.K X.mg cPart cDraft cRun cBench) (hr : RunAt cRun G H A st) (j : JR X σ G H e rV (.ref A.p)) (hb : attributeBase e "places" X.env (eval e X.env) = eval e X.env := by rfl) : JR X σ G H (.Attribute e "places" pos) rV (.ref A.pl) :=
  je_fld j hr.o T.k_Run T.f_Run_places rF_places rfl hb
theorem je_run_oheld (T : Top X.K X.mg cPart cDraft cRun cBench) (hr : RunAt cRun G H A st) (j : JR X σ G H e rV (.ref A.p)) (hb : attributeBase e "held" X.env (eval e X.env) = eval e X.env := by rfl) : JR X σ G H (.Attribute e "held" pos) rV (.ref A.hl) :=
  je_fld j hr.o T.k_Run T.f_Run_held rF_held rfl hb
theorem je_run_ocounts (T : Top X.K X.mg cPart cDraft cRun cBench) (hr : RunAt cRun G H A st) (j : JR X σ G H e rV (.ref A.p)) (hb : attributeBase e "counts" X.env (eval e X.env) = eval e X.env := by rfl) : JR X σ G H (.Attribute e "counts" pos) rV (.ref A.cl) :=
  je_fld j hr.o T.k_Run T.f_Run_counts rF_counts rfl hb
theorem je_run_opermits (T : Top X.K X.mg cPart cDraft cRun cBench) (hr : RunAt cRun G H A st) (j : JR X σ G H e rV (.ref A.p)) (hb : attributeBase e "permits" X.env (eval e X.env) = eval e X.env := by rfl) : JR X σ G H (.Attribute e "permits" pos) rV (.ref A.pd) :=
  je_fld j hr.o T.k_Run T.f_Run_permits rF_permits rfl hb
theorem je_run_orings (T : Top X.K X.mg cPart cDraft cRun cBench) (hr : RunAt cRun G H A st) (j : JR X σ G H e rV (.ref A.p)) (hb : attributeBase e "rings" X.env (eval e X.env) = eval e X.env := by rfl) : JR X σ G H (.Attribute e "rings" pos) rV (.ref A.rl) :=
  je_fld j hr.o T.k_Run T.f_Run_rings rF_rings rfl hb
theorem je_vR (i : Nat) {n : Str} (hs : σ[i]? = some (some (.ref A.p))) {C : Addr} (h : RunAt C G H A st) (hN : X.N[i]? = some n := by rfl)
    (hv : Vis X.env.scope n := by first | exact Or.inl rfl | exact Or.inr (Or.inl rfl) | exact Or.inr (Or.inr rfl)) (hd : (n == ("__debug__" : Str)) = false := by decide)
    (hcd : (n == ("__classdict__" : Str)) = false := by decide) : JR X σ G H (.Name n pos) rR (A, st) := je_v (R := rR) i hs rfl hN hv hd hcd
/-- an item of a list of whole numbers that is tracked -/
theorem je_ixO {p : Addr} {xs : List Int} {i : Int} (hp : H p = some (.lst (xs.map .int))) (ha : JR X σ G H a rV (.ref p)) (hb : JR X σ G H b rInt i) (h0 : 0 ≤ i) (h1 : i < xs.length) (hs : PlainIx b := by intro _ _; rfl) : JR X σ G H (.Subscript a b pos) rInt (itm 0 xs i) :=
  je_op2 (fun p q => pe_ix ix_list p q hs) ha hb (by
    rintro v w G' H' w' rfl rfl Q k
    have hu : (xs.map V.int)[i.toNat]? = some (.int (itm 0 xs i)) := by rw [List.getElem?_map, itm_at (d := (0 : Int)) h0 h1]; rfl
    refine ⟨p, xs.map .int, i, _, rfl, rfl, SqL.of (w'.h _ _ hp), ?_, k (.int (itm 0 xs i)) G' H' (Gw.refl w'.s) rfl⟩
    have e : ((i.toNat : Nat) : Int) = i := by omega
    have z := atI_nat hu
    rw [e] at z
    exact z)
theorem je_run_places (T : Top X.K X.mg cPart cDraft cRun cBench) (hr : RunAt cRun G H A st) {i : Int} (j : JR X σ G H e rV (.ref A.p)) (hi : JR X σ G H b rInt i) (h0 : 0 ≤ i) (h1 : i < st.places.length) (hs : PlainIx b := by intro _ _; rfl) (hb : attributeBase e "places" X.env (eval e X.env) = eval e X.env := by rfl) : JR X σ G H (.Subscript (.Attribute e "places" p2) b pos) rInt (itm 0 st.places i) :=
  je_ixO hr.pl (je_run_oplaces T hr j hb) hi h0 h1 hs
theorem je_run_held (T : Top X.K X.mg cPart cDraft cRun cBench) (hr : RunAt cRun G H A st) {i : Int} (j : JR X σ G H e rV (.ref A.p)) (hi : JR X σ G H b rInt i) (h0 : 0 ≤ i) (h1 : i < st.held.length) (hs : PlainIx b := by intro _ _; rfl) (hb : attributeBase e "held" X.env (eval e X.env) = eval e X.env := by rfl) : JR X σ G H (.Subscript (.Attribute e "held" p2) b pos) rInt (itm 0 st.held i) :=
  je_ixO hr.hl (je_run_oheld T hr j hb) hi h0 h1 hs
theorem je_run_counts (T : Top X.K X.mg cPart cDraft cRun cBench) (hr : RunAt cRun G H A st) {i : Int} (j : JR X σ G H e rV (.ref A.p)) (hi : JR X σ G H b rInt i) (h0 : 0 ≤ i) (h1 : i < st.counts.length) (hs : PlainIx b := by intro _ _; rfl) (hb : attributeBase e "counts" X.env (eval e X.env) = eval e X.env := by rfl) : JR X σ G H (.Subscript (.Attribute e "counts" p2) b pos) rInt (itm 0 st.counts i) :=
  je_ixO hr.cl (je_run_ocounts T hr j hb) hi h0 h1 hs
/-- l[i] = e, a list of whole numbers -/
theorem ws_item {p : Addr} {xs : List Int} {i z : Int} {o ix : Expr} (hs : Same G H) (hp : H p = some (.lst (xs.map .int))) (je : JR X σ G H e rInt z) (jo : JR X σ G H o rV (.ref p)) (ji : JR X σ G H ix rInt i) (h0 : 0 ≤ i) (h1 : i < xs.length)
    (k : ∀ H1, Gw G H G H1 → WSs X rest D σ (upd H1 p (.lst ((xs.set i.toNat z).map .int))))
    (ha : ∀ v, assign (.Subscript o ix p2) X.env v = (do
      let ov ← holding [v] (eval o X.env)
      let iv ← holding [v, ov] (eval ix X.env)
      standAt p2
      holding [v, ov, iv] (setItem ov iv v)
      release [v, ov, iv] []) := by intro _; rfl)
    (hsw : swapsWithSole [.Subscript o ix p2] e pos.line X.env = pure false := by rfl) (hw : swappedStores [.Subscript o ix p2] e X.env = pure none := by rfl)
    (h2 : (assignEach [.Subscript o ix p2] X.env).map (·.2) = [assign (.Subscript o ix p2) X.env] := by rfl) : WSs X (.Assign [.Subscript o ix p2] e pos :: rest) D σ H := by
  refine WSs.cons (ps_asg pe_w (pg_sub pe_w pe_w set_list ha) hsw hw h2) ?_
  refine je G H (Gw.refl hs) _ fun v G1 H1 w1 hv => ?_
  refine jo G1 H1 w1 _ fun u G2 H2 w2 hu => ?_
  refine ji G2 H2 (w1.t w2) _ fun t G3 H3 w3 ht => ?_
  have w := (w1.t w2).t w3
  have hj : ixN (xs.map V.int).length i = some i.toNat := by
    unfold ixN
    rw [List.length_map]
    rw [if_pos (by omega), if_pos (by omega)]
  refine ⟨p, xs.map .int, i, i.toNat, hu, ht, w.h _ _ hp, hj, ?_⟩
  cases (show v = .int z from hv)
  rw [← List.map_set]
  exact k H3 w.keep
end
/-- a promise of a def that changes a run -/
def CtR {α β : Type} (C : Addr) (B : AR α) (adr : α → RAdr) (pre : Hp → Hp → α → Prop) (R : SR β) (g : α → Mir.RunS × β) : Sp := fun vs H Q _ => ∃ G x, Same G H ∧ B.r G vs x ∧ pre G H x ∧
  ∀ v G' H', Mv (adr x).F G H G' H' → RunAt C G' H' (adr x) (g x).1 → R.r G' v (g x).2 → Q v H'
theorem Def.ctR {P : Program} {w : World} {K : PySem.W.Frag} {mg : Str → Option Value} {base : Heap} {name : Str} {st : Stmt} {N ps : List Str} {k : Nat} {α β : Type} {A : AR α} {C : Addr} {adr : α → RAdr} {pre : Hp → Hp → α → Prop} {R : SR β} {g : α → Mir.RunS × β} (D : Def K mg name st ps) (S : FnScope N ps (defScope st)) (len : A.n = ps.length)
    (hbody : ∀ (f : Addr) (cdv : Value) (Ar : Around) (outer : List Env) (s : Shared) (G H : Hp) (vs : List V) (x : α) (Q : VK) (E : XK), Room k (Ar.deeper (envOfC name (defScope st) s.heap.objs.size f cdv)) → Same G H → A.r G vs x → pre G H x → (∀ v G' H', Mv (adr x).F G H G' H' → RunAt C G' H' (adr x) (g x).1 → R.r G' v (g x).2 → Q v H') →
      WSs (cxOf CX0 P w K mg base N name (defScope st) f cdv Ar outer s H E).nox (defBody st) { nx := fun _ H' => Q .non H', rt := Q } (start N vs) H) : Cal P w K mg base name (k + 1) (CtR C A adr pre R g) :=
  D.ok S (fun vs H Q E ⟨G, x, _, h, _⟩ => (A.len h).trans len) fun f cdv Ar outer s H vs Q E hr ⟨G, x, hs, ha, hp, hk⟩ => hbody f cdv Ar outer s G H vs x Q E hr hs ha hp hk
section
variable {X : Cx} {σ : L2.St} {G H : Hp} {e : Expr} {es : List Expr} {pos : Pos} {α β : Type} {S : SR β}
theorem we_callR {B : AR α} {C : Addr} {adr : α → RAdr} {pre : Hp → Hp → α → Prop} {g : α → Mir.RunS × β} {name : Str} {k : Nat} {p : Pos} {Q : VK} {x : α} (F : Cal X.prog X.w X.K X.mg X.base name k (CtR C B adr pre S g)) (hr : Room k X.A) (hs : Same G H) (ja : JA X σ G H (e :: es) B x) (hp : ∀ G' H', Gw G H G' H' → pre G' H' x)
    (kk : ∀ v G' H', Mv (adr x).F G H G' H' → RunAt C G' H' (adr x) (g x).1 → S.r G' v (g x).2 → Q v H') (hg : Gl X name := by rfl)
    (hdb : (name == ("__debug__" : Str)) = false := by decide) (he : starEach (e :: es) X.env = (false, eval e X.env) :: starEach es X.env := by rfl) (hpl : (backTo pos (starEach es X.env)).any (·.1) = false := by rfl) : WE X (.Call (.Name name p) (e :: es) [] pos) σ H Q := by
  refine we_call F hr ?_ hg hdb he hpl
  refine ja G H (Gw.refl hs) _ fun vs G1 H1 w1 hv => ?_
  exact ⟨G1, x, w1.s, hv, hp _ _ w1, fun v G2 H2 w2 h1 h2 => kk v G2 H2 ((Mv.of w1).t w2) h1 h2⟩
end
end Ck
namespace Ck
open PySem PySem.Spec PyProof.Rows L2
/-- another thing of ours is changed -/
theorem RunAt.other {C : Addr} {G H : Hp} {A : RAdr} {st : Mir.RunS} {p : Addr} {o : HO} (h : RunAt C G H A st) (n : p ∉ A.own) : RunAt C G (upd H p o) A st := by
  obtain ⟨k1, q1, q2⟩ := h.pd
  obtain ⟨k2, q3, q4⟩ := h.rl
  have ne : ∀ a ∈ A.own, a ≠ p := fun a ha e => n (e ▸ ha)
  exact ⟨by rw [upd_ne (ne _ (by simp))]; exact h.o, h.b, h.m, by rw [upd_ne (ne _ (by simp))]; exact h.pl, by rw [upd_ne (ne _ (by simp))]; exact h.hl, by rw [upd_ne (ne _ (by simp))]; exact h.cl, ⟨k1, by rw [upd_ne (ne _ (by simp))]; exact q1, q2⟩, ⟨k2, by rw [upd_ne (ne _ (by simp))]; exact q3, q4⟩, h.nd, h.gn⟩
theorem RunAt.notIn {C : Addr} {G H : Hp} {A : RAdr} {st : Mir.RunS} {p : Addr} (h : RunAt C G H A st) (n : H p = none) : p ∉ A.own := fun e => by
  obtain ⟨o, ho⟩ := h.there p e
  rw [n] at ho
  cases ho
end Ck
end
section
set_option Elab.async false
set_option linter.all false
set_option maxRecDepth 100000
set_option maxHeartbeats 4000000
namespace Ck
open PySem PySem.Spec PyProof.Rows L2
open Mir (itm)
local macro_rules | `(tactic| walk_at "s") => `(tactic| first | assumption | omega | (simp only [onPre, List.length_map, List.length_drop, List.length_take, List.length_append, List.length_cons, List.length_nil, decide_eq_true_eq, decide_eq_false_iff_not] at *; omega))
local macro_rules | `(tactic| walk_at "b") => `(tactic| first | assumption | exact ⟨by assumption, by assumption⟩ | exact ⟨by omega, by omega⟩)
local macro_rules | `(tactic| walk_at "g") => `(tactic| first | assumption | omega)
/-- a run and a place on its board -/
abbrev RunP {β : Type} (C : Addr) : Hp → Hp → (RAdr × Mir.RunS) × Int × β → Prop := fun G H x => RunAt C G H x.1.1 x.1.2 ∧ Mir.Wf x.1.2 ∧ Mir.InB x.1.2 x.2.1
theorem units1 {k : Nat} {A : Around} (hr : Room k A) : A.units + 1 < cLine := Nat.lt_of_le_of_lt (Nat.add_le_add_left (show 1 ≤ 64 by decide) _) hr.units
theorem bno {b : Bool} (h : b = false) : ¬ b = true := by rw [h]; decide
abbrev RunO {β : Type} (C : Addr) : Hp → Hp → (RAdr × Mir.RunS) × β → Prop := fun G H x => RunAt C G H x.1.1 x.1.2 ∧ Mir.Wf x.1.2
section
variable {X : Cx} {σ : L2.St} {G H : Hp} {e ix value : Expr} {rest : List Stmt} {pos p2 p3 apos cpos : Pos} {cPart cDraft cRun cBench : Addr} {A : RAdr} {st : Mir.RunS} {D : Ends}
theorem je_permits (T : Top X.K X.mg cPart cDraft cRun cBench) (hr : RunAt cRun G H A st) {q : Mir.Pair} {jj : Nat} {pz : Pos} (hu : X.A.units + 1 < cLine) (j : JR X σ G H e rV (.ref A.p)) (ji : JR X σ G H ix rPair q)
    (hb : attributeBase e "permits" X.env (eval e X.env) = eval e X.env := by rfl)
    (m : M2 X (.Attribute e "permits" p2) "get" apos ix (.Constant (.int 0) jj pz) cpos := by exact ⟨rfl, rfl, rfl, rfl⟩) :
    JR X σ G H (.Call (.Attribute (.Attribute e "permits" p2) "get" apos) [ix, .Constant (.int 0) jj pz] [] cpos) rInt (st.permits q) := fun G0 H0 w0 Q k => by
  obtain ⟨kvs, h1, h2, h3⟩ := hr.pd
  refine WE.of (pe_dget2 hu pe_w pe_w pe_w m) ?_
  refine je_run_opermits (pos := p2) T hr j hb G0 H0 w0 _ fun v G1 H1 w1 hv => ?_
  refine ⟨A.pd, hv, .inr ⟨kvs, .inl ((w0.t w1).h _ _ h1)⟩, ?_⟩
  refine ji G1 H1 (w0.t w1) _ fun u G2 H2 w2 hu => ?_
  refine je_int (G := G2) (H := H2) (i := 0) G2 H2 (Gw.refl w2.s) _ fun z G3 H3 w3 hz => ?_
  obtain ⟨b, u1, u2, rfl, hb2, r1, r2⟩ := hu
  cases (show u1 = .int q.1 from r1)
  cases (show u2 = .int q.2 from r2)
  cases (show z = .int 0 from hz)
  refine ⟨_, DGet.t (k := [.inl q.1, .inl q.2]) (w3.h _ _ (w2.h _ _ ((w0.t w1).h _ _ h1))) (w3.h _ _ (w2.s _ _ hb2)), ?_⟩
  refine k _ G3 H3 ((w1.t w2).t w3) ?_
  exact h3 q.1 q.2
theorem ws_permit (T : Top X.K X.mg cPart cDraft cRun cBench) (hr : RunAt cRun G H A st) {q : Mir.Pair} {z : Int} (hs : Same G H) (hu : X.A.units + 1 < cLine) (je : JR X σ G H value rInt z) (j : JR X σ G H e rV (.ref A.p)) (ji : JR X σ G H ix rPair q) (hl : st.puts < 1000000)
    (k : ∀ H1 kvs, Gw G H G H1 → PdOk kvs { st with permits := fun p => if p = q then z else st.permits p, puts := st.puts + 1 } → WSs X rest D σ (upd H1 A.pd (.dT kvs)))
    (hb : attributeBase e "permits" X.env (eval e X.env) = eval e X.env := by rfl)
    (hsw : swapsWith value (some (.Subscript (.Attribute e "permits" p2) ix p3)) pos.line X.env = pure false := by rfl) :
    WSs X (.Assign [.Subscript (.Attribute e "permits" p2) ix p3] value pos :: rest) D σ H := by
  obtain ⟨kvs, h1, h2, h3⟩ := hr.pd
  refine WSs.cons (ps_dput hu pe_w pe_w pe_w hsw) ?_
  refine je G H (Gw.refl hs) _ fun v G1 H1 w1 hv => ?_
  refine je_run_opermits (pos := p2) T hr j hb G1 H1 w1 _ fun u G2 H2 w2 hu2 => ?_
  refine ji G2 H2 (w1.t w2) _ fun y G3 H3 w3 hy => ?_
  have w := (w1.t w2).t w3
  obtain ⟨b, u1, u2, rfl, hb2, r1, r2⟩ := hy
  cases (show u1 = .int q.1 from r1)
  cases (show u2 = .int q.2 from r2)
  cases (show v = .int z from hv)
  refine ⟨A.pd, _, hu2, DPut.t (k := [.inl q.1, .inl q.2]) (w.h _ _ h1) (w3.s _ _ hb2) (szlt (Nat.lt_of_le_of_lt h2 hl)), ?_⟩
  refine k H3 _ w.keep ⟨Nat.le_trans (length_putK _ _ _) (Nat.succ_le_succ h2), fun g n => ?_⟩
  rw [valV_put]
  show _ = V.int (if (g, n) = q then z else st.permits (g, n))
  by_cases e : (g, n) = q
  · subst e
    rw [if_pos rfl, if_pos rfl]
    rfl
  · rw [if_neg e, if_neg (fun z => by
      injection z with z1 z2
      injection z1 with z1
      injection z2 with z2
      injection z2 with z2
      exact e (Prod.ext z1 z2))]
    exact h3 g n
end
section
variable {P : Program} {w : World} {K : PySem.W.Frag} {mg : Str → Option Value} {base : Heap} {cPart cDraft cRun cBench : Addr}
theorem ok_sign_at (T : Top K mg cPart cDraft cRun cBench) : Cal P w K mg base "sign_at" 1 (Ct (a2 rR rInt) (RunP cRun) rInt fun x => Mir.signAt x.1.2 x.2.1) := by
  refine T.d_sign_at.ct sc_sign_at rfl fun f cdv A outer s G H vs x Q E hr hs ha hp hk => ?_
  obtain ⟨⟨a, r⟩, p, _⟩ := x
  obtain ⟨_, _, rfl, rfl, _, _, rfl, rfl, rfl⟩ := ha
  obtain ⟨h_run, h_wf, hp0, hp1⟩ := hp
  dsimp only at h_run h_wf hp0 hp1
  exact ws_ret hs (je_p30 (je_ix (d := Mir.airC) (JR.q (je_p32 (je_run_board T h_run (je_vO 0 rfl)))) (je_vI 1 rfl) (by walk_at "s") (by walk_at "s"))) hk
theorem ok_permits_at (T : Top K mg cPart cDraft cRun cBench) : Cal P w K mg base "permits_at" 3 (Ct (a2 rR rInt) (RunP cRun) rInt fun x => Mir.permitsAt x.1.2 x.2.1) := by
  refine T.d_permits_at.ct sc_permits_at rfl fun f cdv A outer s G H vs x Q E hr hs ha hp hk => ?_
  obtain ⟨⟨a, r⟩, p, _⟩ := x
  obtain ⟨_, _, rfl, rfl, _, _, rfl, rfl, rfl⟩ := ha
  obtain ⟨h_run, h_wf, hp0, hp1⟩ := hp
  dsimp only at h_run h_wf hp0 hp1
  exact ws_ret hs (je_permits T h_run (units1 hr) (je_vO 0 rfl) (je_call (ok_link_of T) (hr.mono (by decide)) (ja_cons (je_ix (d := Mir.airC) (JR.q (je_p32 (je_run_board T h_run (je_vO 0 rfl)))) (je_vI 1 rfl) (by walk_at "s") (by walk_at "s")) ja_nil) (fun _ _ _ => trivial))) hk
theorem ok_add_permits (T : Top K mg cPart cDraft cRun cBench) : Cal P w K mg base "add_permits" 4 (CtR cRun (a3 rR rInt rInt) (fun x => x.1.1) (fun G H x => RunP cRun G H x ∧ Mir.Sz x.1.2 < 900000) rNon fun x => (Mir.addPermits x.1.2 x.2.1 x.2.2.1, ())) := by
  refine T.d_add_permits.ctR sc_add_permits rfl fun f cdv A outer s G H vs x Q E hr hs ha hp hk => ?_
  obtain ⟨⟨a, r⟩, p, n, _⟩ := x
  obtain ⟨_, _, rfl, rfl, _, _, rfl, rfl, _, _, rfl, rfl, rfl⟩ := ha
  obtain ⟨⟨h_run, h_wf, hp0, hp1⟩, hz⟩ := hp
  dsimp only at h_run h_wf hp0 hp1 hz
  unfold Mir.Sz at hz
  refine ws_permit T h_run hs (units1 hr) (je_add (je_call (ok_permits_at T) (hr.mono (by decide)) (ja_cons (je_vR 0 rfl h_run) (ja_cons (je_vI 1 rfl) ja_nil)) (fun _ _ wq => ⟨h_run.gw wq, h_wf, by walk_at "b"⟩)) (je_vI 2 rfl)) (je_vO 0 rfl) (je_call (ok_link_of T) (hr.mono (by decide)) (ja_cons (je_ix (d := Mir.airC) (JR.q (je_p32 (je_run_board T h_run (je_vO 0 rfl)))) (je_vI 1 rfl) (by walk_at "s") (by walk_at "s")) ja_nil) (fun _ _ _ => trivial)) (by omega) fun H1 kvs w1 hk1 => ws_nil ?_
  have z := (h_run.gw w1).setPd w1.s hk1
  exact hk .non G _ ((Mv.of w1).t z.2) z.1 rfl
theorem ok_side_of_flip (T : Top K mg cPart cDraft cRun cBench) : Cal P w K mg base "side_of_flip" 2 (Ct (a2 rR rInt) (RunP cRun) rInt fun x => Mir.sideFlip x.1.2 x.2.1) := by
  refine T.d_side_of_flip.ct sc_side_of_flip rfl fun f cdv A outer s G H vs x Q E hr hs ha hp hk => ?_
  obtain ⟨⟨a, r⟩, p, _⟩ := x
  obtain ⟨_, _, rfl, rfl, _, _, rfl, rfl, rfl⟩ := ha
  obtain ⟨h_run, h_wf, hp0, hp1⟩ := hp
  dsimp only at h_run h_wf hp0 hp1
  have cl := h_wf.cl
  have nd := sc_side_of_flip.nd
  refine ws_setB 2 hs (je_c (jc_eqI (je_mod (je_run_counts T h_run (je_vO 0 rfl) (je_vI 1 rfl) (by walk_at "s") (by walk_at "s")) je_int (by walk_at "s")) je_int)) (fun H1 w1 => ?_) nd
  have h_run := h_run.gw w1
  exact ws_ret w1.s (je_if (jt_c (jc_eqB (je_vB 2 rfl) (je_c (jc_eqI (je_call (ok_sign_at T) (hr.mono (by decide)) (ja_cons (je_vR 0 rfl h_run) (ja_cons (je_vI 1 rfl) ja_nil)) (fun _ _ wq => ⟨h_run.gw wq, h_wf, by walk_at "b"⟩)) (je_gi T.c_FLIP_RIGHT))))) (fun hsc => je_int) (fun hsc => (je_neg je_int))) fun v G' H' w2 h => hk v G' H' (w1.t w2) h
theorem ok_side_of_counter (T : Top K mg cPart cDraft cRun cBench) : Cal P w K mg base "side_of_counter" 1 (Ct (a2 rR rInt) (fun G H x => RunAt cRun G H x.1.1 x.1.2 ∧ Mir.Wf x.1.2 ∧ Mir.InB x.1.2 x.2.1 ∧ 50 ≤ Mir.signAt x.1.2 x.2.1) rInt fun x => Mir.sideCounter x.1.2 x.2.1) := by
  refine T.d_side_of_counter.ct sc_side_of_counter rfl fun f cdv A outer s G H vs x Q E hr hs ha hp hk => ?_
  obtain ⟨⟨a, r⟩, p, _⟩ := x
  obtain ⟨_, _, rfl, rfl, _, _, rfl, rfl, rfl⟩ := ha
  obtain ⟨h_run, h_wf, ⟨hp0, hp1⟩, h50⟩ := hp
  dsimp only at h_run h_wf hp0 hp1 h50
  have cl := h_wf.cl
  have nd := sc_side_of_counter.nd
  refine ws_un3 2 3 4 hs (je_ix (d := Mir.airC) (JR.q (je_p32 (je_run_board T h_run (je_vO 0 rfl)))) (je_vI 1 rfl) (by walk_at "s") (by walk_at "s")) rfl nd (fun v1 v2 v3 G1 H1 w1 e1 e2 e3 => ?_)
  cases (show v1 = .int _ from e1)
  cases (show v2 = .int _ from e2)
  cases (show v3 = .int _ from e3)
  have h_run := h_run.gw w1
  have h50 : 50 ≤ (itm Mir.airC r.board.2.2 p).1 := h50
  refine ws_when w1.s (jt_c (jc_neI (je_mod (je_add (je_run_counts T h_run (je_vO 0 rfl) (je_vI 1 rfl) (by walk_at "s") (by walk_at "s")) je_int) (je_sub (je_vI 2 rfl) (je_gi T.c_ZERO)) (by walk_at "s")) je_int)) (fun hb H2 w2 => ?_) (fun hb H2 w2 => ?_)
  · exact ws_retE w2.s je_int (by show _ = Mir.sideCounter r p; unfold Mir.sideCounter Mir.cellAt; rw [if_pos hb]) fun v G' H' w3 h => hk v G' H' ((w1.t w2).t w3) h
  · have h_run := h_run.gw w2
    exact ws_retE w2.s (je_if (jt_c (jc_eqI (je_vI 3 rfl) je_int)) (fun hsc => (je_neg je_int)) (fun hsc => je_int)) (by show _ = Mir.sideCounter r p; unfold Mir.sideCounter Mir.cellAt; rw [if_neg (bno hb)]) fun v G' H' w3 h => hk v G' H' ((w1.t w2).t w3) h

theorem counter50 {s : Int} (h : Mir.isCounter s = true) : 50 ≤ s := by
  unfold Mir.isCounter at h
  simp only [Bool.and_eq_true, decide_eq_true_eq] at h
  exact h.1
theorem ok_shift_from (T : Top K mg cPart cDraft cRun cBench) : Cal P w K mg base "shift_from" 3 (Ct (a2 rR rInt) (RunP cRun) rPair fun x => Mir.shiftFrom x.1.2 x.2.1) := by
  refine T.d_shift_from.ct sc_shift_from rfl fun f cdv A outer s G H vs x Q E hr hs ha hp hk => ?_
  obtain ⟨⟨a, r⟩, p, _⟩ := x
  obtain ⟨_, _, rfl, rfl, _, _, rfl, rfl, rfl⟩ := ha
  obtain ⟨h_run, h_wf, hp0, hp1⟩ := hp
  dsimp only at h_run h_wf hp0 hp1
  have nd := sc_shift_from.nd
  refine ws_setI 2 hs (je_call (ok_sign_at T) (hr.mono (by decide)) (ja_cons (je_vR 0 rfl h_run) (ja_cons (je_vI 1 rfl) ja_nil)) (fun _ _ wq => ⟨h_run.gw wq, h_wf, by walk_at "b"⟩)) (fun H1 w1 => ?_) nd
  have h_run := h_run.gw w1
  refine ws_when w1.s (jt_c (jc_in2 (je_vI 2 rfl) (je_gi T.c_SLOPE_RIGHT) (je_gi T.c_SLOPE_LEFT))) (fun b1 H2 w2 => ?_) (fun b1 H2 w2 => ?_)
  · exact ws_retE w2.s (je_t2 (je_if (jt_c (jc_eqI (je_vI 2 rfl) (je_gi T.c_SLOPE_RIGHT))) (fun hsc => je_int) (fun hsc => (je_neg je_int))) je_int) (by show _ = Mir.shiftFrom r p; unfold Mir.shiftFrom; rw [if_pos b1]) fun v G' H' w3 h => hk v G' H' ((w1.t w2).t w3) h
  have h_run := h_run.gw w2
  have w1 := w1.t w2
  refine ws_when w1.s (jt_c (jc_in2 (je_vI 2 rfl) (je_gi T.c_BELT_RIGHT) (je_gi T.c_BELT_LEFT))) (fun b2 H2 w2 => ?_) (fun b2 H2 w2 => ?_)
  · exact ws_retE w2.s (je_t2 (je_if (jt_c (jc_eqI (je_vI 2 rfl) (je_gi T.c_BELT_RIGHT))) (fun hsc => je_int) (fun hsc => (je_neg je_int))) je_int) (by show _ = Mir.shiftFrom r p; unfold Mir.shiftFrom; rw [if_neg (bno b1), if_pos b2]) fun v G' H' w3 h => hk v G' H' ((w1.t w2).t w3) h
  have h_run := h_run.gw w2
  have w1 := w1.t w2
  refine ws_when w1.s (jt_c (jc_eqI (je_vI 2 rfl) (je_gi T.c_LIFT))) (fun b3 H2 w2 => ?_) (fun b3 H2 w2 => ?_)
  · exact ws_retE w2.s (je_t2 je_int (je_neg je_int)) (by show _ = Mir.shiftFrom r p; unfold Mir.shiftFrom; rw [if_neg (bno b1), if_neg (bno b2), if_pos b3]) fun v G' H' w3 h => hk v G' H' ((w1.t w2).t w3) h
  have h_run := h_run.gw w2
  have w1 := w1.t w2
  refine ws_when w1.s (jt_v (je_call (ok_is_flip T) (hr.mono (by decide)) (ja_cons (je_vI 2 rfl) ja_nil) (fun _ _ _ => trivial))) (fun b4 H2 w2 => ?_) (fun b4 H2 w2 => ?_)
  · have h_run := h_run.gw w2
    exact ws_retE w2.s (je_t2 (je_call (ok_side_of_flip T) (hr.mono (by decide)) (ja_cons (je_vR 0 rfl h_run) (ja_cons (je_vI 1 rfl) ja_nil)) (fun _ _ wq => ⟨h_run.gw wq, h_wf, by walk_at "b"⟩)) je_int) (by show _ = Mir.shiftFrom r p; unfold Mir.shiftFrom; rw [if_neg (bno b1), if_neg (bno b2), if_neg (bno b3), if_pos b4]) fun v G' H' w3 h => hk v G' H' ((w1.t w2).t w3) h
  have h_run := h_run.gw w2
  have w1 := w1.t w2
  refine ws_when w1.s (jt_v (je_call (ok_is_counter T) (hr.mono (by decide)) (ja_cons (je_vI 2 rfl) ja_nil) (fun _ _ _ => trivial))) (fun b5 H2 w2 => ?_) (fun b5 H2 w2 => ?_)
  · have h_run := h_run.gw w2
    have h50 := counter50 b5
    exact ws_retE w2.s (je_t2 (je_call (ok_side_of_counter T) (hr.mono (by decide)) (ja_cons (je_vR 0 rfl h_run) (ja_cons (je_vI 1 rfl) ja_nil)) (fun _ _ wq => ⟨h_run.gw wq, h_wf, by walk_at "b", by walk_at "g"⟩)) je_int) (by show _ = Mir.shiftFrom r p; unfold Mir.shiftFrom; rw [if_neg (bno b1), if_neg (bno b2), if_neg (bno b3), if_neg (bno b4), if_pos b5]) fun v G' H' w3 h => hk v G' H' ((w1.t w2).t w3) h
  have h_run := h_run.gw w2
  have w1 := w1.t w2
  exact ws_retE w1.s (je_t2 je_int je_int) (by show _ = Mir.shiftFrom r p; unfold Mir.shiftFrom; rw [if_neg (bno b1), if_neg (bno b2), if_neg (bno b3), if_neg (bno b4), if_neg (bno b5)]) fun v G' H' w3 h => hk v G' H' (w1.t w3) h
end
end Ck
end
section
set_option Elab.async false
set_option linter.all false
set_option maxRecDepth 100000
set_option maxHeartbeats 4000000
namespace Ck
open PySem PySem.Spec PyProof.Rows L2
open Mir (itm)
local macro_rules | `(tactic| walk_at "s") => `(tactic| first | assumption | omega | (simp only [onPre, List.length_map, List.length_drop, List.length_take, List.length_append, List.length_cons, List.length_nil, decide_eq_true_eq, decide_eq_false_iff_not] at *; omega))
local macro_rules | `(tactic| walk_at "b") => `(tactic| first | assumption | exact ⟨by assumption, by assumption⟩ | exact ⟨by omega, by omega⟩)
local macro_rules | `(tactic| walk_at "g") => `(tactic| first | assumption | omega)
/-- the drums that are pushed -/
def rDr : SR (Int → Bool) := ⟨fun G v f => ∃ p kvs, v = .ref p ∧ G p = some (.dK kvs) ∧ ∀ i : Int, (valV kvs (.inl i)).isSome = f i, fun e ⟨p, kvs, h1, h2, h3⟩ => ⟨p, kvs, h1, e _ _ h2, h3⟩⟩
section
variable {X : Cx} {σ : L2.St} {G H : Hp} {a b : Expr} {pos : Pos}
theorem jc_ninD {i : Int} {f : Int → Bool} (ha : JR X σ G H a rInt i) (hb : JR X σ G H b rDr f) (hu : X.A.units + 1 < cLine) (hm : behindInMarks .NotIn b = false := by rfl) : JC X σ G H .NotIn a b (!f i) := ⟨hm, fun G0 H0 w0 Q k pins s I => by
  have p : PC X .NotIn a b (tDNotIn (WE X a) (WE X b)) := pc_dnotin hu pe_w pe_w
  refine p.run pins s σ H0 (fun x H1 => ∃ k, x = .bl k ∧ Q k H1) I ?_
  refine ha G0 H0 w0 _ fun v G1 H1 w1 hv => ?_
  refine hb G1 H1 (w0.t w1) _ fun u G2 H2 w2 hu => ?_
  obtain ⟨q, kvs, rfl, hq, hf⟩ := hu
  cases (show v = .int i from hv)
  refine ⟨q, _, rfl, DGet.k (k := .inl i) (w2.s _ _ hq), _, rfl, ?_⟩
  rw [hf i]
  exact k H2 (w1.t w2).keep⟩
end
section
variable {P : Program} {w : World} {K : PySem.W.Frag} {mg : Str → Option Value} {base : Heap} {cPart cDraft cRun cBench : Addr}
theorem ok_destination_from (T : Top K mg cPart cDraft cRun cBench) : Cal P w K mg base "destination_from" 4 (Ct (a2 rR rInt) (RunP cRun) rPair fun x => Mir.destFrom x.1.2 x.2.1) := by
  refine T.d_destination_from.ct sc_destination_from rfl fun f cdv A outer s G H vs x Q E hr hs ha hp hk => ?_
  obtain ⟨⟨a, r⟩, p, _⟩ := x
  obtain ⟨_, _, rfl, rfl, _, _, rfl, rfl, rfl⟩ := ha
  obtain ⟨h_run, h_wf, hp0, hp1⟩ := hp
  dsimp only at h_run h_wf hp0 hp1
  have bl := h_wf.b.le
  have bw := h_wf.b.w
  have nd := sc_destination_from.nd
  refine ws_setI 2 hs (je_p30 (je_run_board T h_run (je_vO 0 rfl))) (fun H1 w1 => ?_) nd
  have h_run := h_run.gw w1
  refine ws_un2 3 4 w1.s (je_call (ok_shift_from T) (hr.mono (by decide)) (ja_cons (je_vR 0 rfl h_run) (ja_cons (je_vI 1 rfl) ja_nil)) (fun _ _ wq => ⟨h_run.gw wq, h_wf, by walk_at "b"⟩)) rfl nd (fun v1 v2 G2 H2 w2 e1 e2 => ?_)
  cases (show v1 = .int _ from e1)
  cases (show v2 = .int _ from e2)
  exact ws_ret w2.s (je_t2 (je_add (je_mod (je_vI 1 rfl) (je_vI 2 rfl) (by walk_at "s")) (je_vI 3 rfl)) (je_add (je_div (je_vI 1 rfl) (je_vI 2 rfl) (by walk_at "s")) (je_vI 4 rfl))) fun v G' H' w3 h => hk v G' H' ((w1.t w2).t w3) h
theorem ok_is_reachable (T : Top K mg cPart cDraft cRun cBench) : Cal P w K mg base "is_reachable" 1 (Ct (a3 rR rInt rInt) (RunO cRun) rBool fun x => Mir.reachable x.1.2 x.2.1 x.2.2.1) := by
  refine T.d_is_reachable.ct sc_is_reachable rfl fun f cdv A outer s G H vs x Q E hr hs ha hp hk => ?_
  obtain ⟨⟨a, r⟩, p, n, _⟩ := x
  obtain ⟨_, _, rfl, rfl, _, _, rfl, rfl, _, _, rfl, rfl, rfl⟩ := ha
  obtain ⟨h_run, h_wf⟩ := hp
  dsimp only at h_run h_wf
  exact ws_ret hs (je_and (je_c (jc_le je_int (je_vI 1 rfl))) fun hsc => (je_and (je_c (jc_lt (je_vI 1 rfl) (je_p30 (je_run_board T h_run (je_vO 0 rfl))))) fun hsc => (je_one (je_c (jc_le je_int (je_vI 2 rfl)))))) hk
theorem ok_is_free (T : Top K mg cPart cDraft cRun cBench) : Cal P w K mg base "is_free" 2 (Ct (a2 rR rInt) (RunP cRun) rBool fun x => Mir.isFree x.1.2 x.2.1) := by
  refine T.d_is_free.ct sc_is_free rfl fun f cdv A outer s G H vs x Q E hr hs ha hp hk => ?_
  obtain ⟨⟨a, r⟩, p, _⟩ := x
  obtain ⟨_, _, rfl, rfl, _, _, rfl, rfl, rfl⟩ := ha
  obtain ⟨h_run, h_wf, hp0, hp1⟩ := hp
  dsimp only at h_run h_wf hp0 hp1
  have hl := h_wf.hl
  have nd := sc_is_free.nd
  refine ws_setI 2 hs (je_call (ok_sign_at T) (hr.mono (by decide)) (ja_cons (je_vR 0 rfl h_run) (ja_cons (je_vI 1 rfl) ja_nil)) (fun _ _ wq => ⟨h_run.gw wq, h_wf, by walk_at "b"⟩)) (fun H1 w1 => ?_) nd
  have h_run := h_run.gw w1
  refine ws_when w1.s (jt_c (jc_eqI (je_vI 2 rfl) (je_gi T.c_BIN))) (fun hb H2 w2 => ?_) (fun hb H2 w2 => ?_)
  · exact ws_retE w2.s je_bl (by show _ = Mir.isFree r p; unfold Mir.isFree; exact (if_pos hb).symm) fun v G' H' w3 h => hk v G' H' ((w1.t w2).t w3) h
  · have h_run := h_run.gw w2
    exact ws_retE w2.s (je_and (je_c (jc_neI (je_vI 2 rfl) (je_gi T.c_WALL))) fun hsc => (je_one (je_c (jc_eqI (je_run_held T h_run (je_vO 0 rfl) (je_vI 1 rfl) (by walk_at "s") (by walk_at "s")) (je_gi T.c_NOBODY))))) (by show _ = Mir.isFree r p; unfold Mir.isFree; exact (if_neg (bno hb)).symm) fun v G' H' w3 h => hk v G' H' ((w1.t w2).t w3) h
theorem ok_is_held_back (T : Top K mg cPart cDraft cRun cBench) : Cal P w K mg base "is_held_back" 4 (Ct (a2 rR rInt) (RunP cRun) rBool fun x => Mir.heldBack x.1.2 x.2.1) := by
  refine T.d_is_held_back.ct sc_is_held_back rfl fun f cdv A outer s G H vs x Q E hr hs ha hp hk => ?_
  obtain ⟨⟨a, r⟩, p, _⟩ := x
  obtain ⟨_, _, rfl, rfl, _, _, rfl, rfl, rfl⟩ := ha
  obtain ⟨h_run, h_wf, hp0, hp1⟩ := hp
  dsimp only at h_run h_wf hp0 hp1
  exact ws_ret hs (je_and (je_call (ok_is_gate T) (hr.mono (by decide)) (ja_cons (je_call (ok_sign_at T) (hr.mono (by decide)) (ja_cons (je_vR 0 rfl h_run) (ja_cons (je_vI 1 rfl) ja_nil)) (fun _ _ wq => ⟨h_run.gw wq, h_wf, by walk_at "b"⟩)) ja_nil) (fun _ _ _ => trivial)) fun hsc => (je_one (je_c (jc_eqI (je_call (ok_permits_at T) (hr.mono (by decide)) (ja_cons (je_vR 0 rfl h_run) (ja_cons (je_vI 1 rfl) ja_nil)) (fun _ _ wq => ⟨h_run.gw wq, h_wf, by walk_at "b"⟩)) je_int)))) hk
theorem row_le {r : Mir.RunS} (h : Mir.Wf r) (t : Int) : (Mir.rowPlaces r t).length ≤ 36 := by
  have := h.b.le
  have e : (t + 1) * r.board.1 - t * r.board.1 = r.board.1 := by rw [Int.add_mul, Int.one_mul]; omega
  have := List.length_filter_le (fun p => !decide (itm 0 r.held p = -1)) (Mir.rng (t * r.board.1) ((t + 1) * r.board.1))
  rw [rng_len, e] at this
  unfold Mir.rowPlaces
  omega
theorem ok_moving_places (T : Top K mg cPart cDraft cRun cBench) : Cal P w K mg base "moving_places" 1 (Ct (a1 rR) (RunO cRun) (rL rInt) fun x => Mir.movingPlaces x.1.2) := by
  refine T.d_moving_places.ct sc_moving_places rfl fun f cdv A outer s G H vs x Q E hr hs ha hp hk => ?_
  obtain ⟨⟨a, r⟩, _⟩ := x
  obtain ⟨_, _, rfl, rfl, rfl⟩ := ha
  obtain ⟨h_run, h_wf⟩ := hp
  dsimp only at h_run h_wf
  have bl := h_wf.b.le
  have bw := h_wf.b.w
  have bh := h_wf.b.h
  have bn := h_wf.b.n
  have hl := h_wf.hl
  have nd := sc_moving_places.nd
  refine ws_un3 1 2 3 hs (je_run_board T h_run (je_vO 0 rfl)) rfl nd (fun v1 v2 v3 G1 H1 w1 e1 e2 e3 => ?_)
  cases (show v1 = .int _ from e1)
  cases (show v2 = .int _ from e2)
  have h_run := h_run.gw w1
  refine ws_newL 4 (fun pf hf => ?_) nd
  have w2 := w1.t (Gw.mut (o := .lst []) w1.s hf)
  have hf0 := w1.free hf
  have nin := h_run.notIn hf
  have g1 : G1 pf = none := w1.s.free hf
  have h_run := h_run.gw (Gw.mut (o := .lst []) w1.s hf)
  refine ws_forR 5 w2.s T.b_range (je_vI 2 rfl) (by show _ ≤ r.board.2.1 ∧ r.board.2.1 ≤ _; omega) (fun i σ' G' H' => ∃ ns u1 u2 u3, σ' = [some (.ref a.p), some (.int r.board.1), some (.int r.board.2.1), some v3, some (.ref pf), u1, u2, u3] ∧ Gw G H G' H' ∧ RunAt cRun G' H' a r ∧ G' pf = none ∧ H' pf = some (.lst (ns.map V.int)) ∧ ns.length ≤ 36 * i ∧
    ns = (((Mir.rng 0 r.board.2.1).take i).foldl (fun acc t => acc ++ Mir.rowPlaces r (r.board.2.1 - 1 - t)) [])) ?_ ?_ ?_ rfl nd
  · intro G3 H3 w3
    exact ⟨[], none, none, none, rfl, w2.t w3, h_run.gw w3, w3.out g1 upd_same, w3.h _ _ upd_same, Nat.zero_le _, rfl⟩
  · rintro i σ' G' H' hi s1 s2 ⟨ns, u1, u2, u3, rfl, w', h_run, gf, hvf, hl2, en⟩
    have hi : (i : Int) < r.board.2.1 := hi
    refine ws_setI 6 s2 (je_sub (je_sub (je_vI 2 rfl) je_int) (je_vI 5 rfl)) (fun H4 w4 => ?_) nd
    have h_run := h_run.gw w4
    have k1 : 0 ≤ (r.board.2.1 - 1 - (i : Int)) * r.board.1 := Int.mul_nonneg (by omega) (by omega)
    have k2 : (r.board.2.1 - 1 - (i : Int) + 1) * r.board.1 ≤ r.board.2.1 * r.board.1 := Int.mul_le_mul_of_nonneg_right (by omega) (by omega)
    have k3 : (r.board.2.1 - 1 - (i : Int) + 1) * r.board.1 = (r.board.2.1 - 1 - (i : Int)) * r.board.1 + r.board.1 := by rw [Int.add_mul, Int.one_mul]
    have k4 : r.board.2.1 * r.board.1 = r.board.1 * r.board.2.1 := Int.mul_comm _ _
    have rl := row_le h_wf (r.board.2.1 - 1 - (i : Int))
    have le : (List.map (fun (x : Int) => x) ((Mir.rng ((r.board.2.1 - 1 - (i : Int)) * r.board.1) ((r.board.2.1 - 1 - (i : Int) + 1) * r.board.1)).filter fun p => !decide (itm 0 r.held p = -1))) = Mir.rowPlaces r (r.board.2.1 - 1 - (i : Int)) := List.map_id' _
    refine ws_ext (R := rInt) w4.s (je_vO 4 rfl) (w4.h _ _ hvf) (JR.eq (je_lcR 7 (S := rInt) (f := fun (x : Int) => x) (p := fun p => !decide (itm 0 r.held p = -1)) rfl nd T.b_range (je_mul (je_vI 6 rfl) (je_vI 1 rfl) (by walk_at "s")) (je_mul (je_add (je_vI 6 rfl) je_int) (je_vI 1 rfl) (by walk_at "s")) (by omega) (by omega) (by omega) (blkOk_by (N := n_moving_places) (sc := defScope s_moving_places) (by decide +kernel)) (.inr ⟨_, rfl⟩) ?_) le) (by rw [List.length_map]; omega) fun us G5 H5 w5 hu => ?_
    · intro x G3 H3 hx1 hx2 w3 s Hb C cl fp
      have h_run := h_run.gw w3
      refine ⟨fun c hc => ?_, fun _ => je_vI 7 rfl⟩
      cases hc
      exact (jt_c (jc_neI (je_run_held T h_run (je_vO 0 rfl) (je_vI 7 rfl) (by walk_at "s") (by walk_at "s")) (je_gi T.c_NOBODY)))
    · have w6 := w4.t w5
      have hg := w6.out gf hvf
      have e5 := paired_ints hu
      subst e5
      have h_run := h_run.gw w5
      refine ws_nil ⟨G5, w6.g, ((w'.t w6).set hf0 hg).s, ns ++ Mir.rowPlaces r (r.board.2.1 - 1 - (i : Int)), some (.int i), _, _, rfl, (w'.t w6).set hf0 hg, ?_, hg, ?_, ?_, ?_⟩
      · exact h_run.other nin
      · rw [upd_same, List.map_append]
      · rw [List.length_append]
        omega
      · rw [fold_snoc (rng_get hi), en]
  · rintro σ' G' H' s1 s2 ⟨ns, u1, u2, u3, rfl, w', h_run, gf, hvf, hl2, en⟩
    rw [rng_all] at en
    subst en
    exact ws_retL (R := rInt) (je_vO 4 rfl) w' hf0 gf hvf (ints_paired _) hk
theorem ok_has_drums (T : Top K mg cPart cDraft cRun cBench) : Cal P w K mg base "has_drums" 1 (Ct (a1 rR) (RunO cRun) rBool fun x => Mir.hasDrums x.1.2) := by
  refine T.d_has_drums.ct sc_has_drums rfl fun f cdv A outer s G H vs x Q E hr hs ha hp hk => ?_
  obtain ⟨⟨a, r⟩, _⟩ := x
  obtain ⟨_, _, rfl, rfl, rfl⟩ := ha
  obtain ⟨h_run, h_wf⟩ := hp
  dsimp only at h_run h_wf
  have bl := h_wf.b.le
  have nd := sc_has_drums.nd
  refine ws_ret hs (je_any rfl T.b_any rfl (JR.q (je_lcM 1 (f := fun (c : Mir.Cell) => decide (c.1 = 79)) rfl nd (JR.q (je_p32 (je_run_board T h_run (je_vO 0 rfl)))) (blkOk_by (N := n_has_drums) (sc := defScope s_has_drums) (by decide +kernel)) (by show r.board.2.2.length ≤ _; omega) ?_))) hk
  intro i c v G3 H3 hx w3 h_cell s Hb C cl fp
  exact (je_c (jc_eqI (je_p30 (je_v 1 rfl h_cell)) (je_gi T.c_DRUM)))
theorem ok_is_over (T : Top K mg cPart cDraft cRun cBench) : Cal P w K mg base "is_over" 1 (Ct (a1 rR) (RunO cRun) rBool fun x => Mir.isOver x.1.2) := by
  refine T.d_is_over.ct sc_is_over rfl fun f cdv A outer s G H vs x Q E hr hs ha hp hk => ?_
  obtain ⟨⟨a, r⟩, _⟩ := x
  obtain ⟨_, _, rfl, rfl, rfl⟩ := ha
  obtain ⟨h_run, h_wf⟩ := hp
  dsimp only at h_run h_wf
  have ml := h_wf.m.l
  have pl := h_wf.pl
  have nd := sc_is_over.nd
  have hs2 : Same (upd G a.pl (.lst (r.places.map .int))) H := fun b o e => by
    by_cases q : b = a.pl
    · subst q
      rw [upd_same] at e
      rw [← e]
      exact h_run.pl
    · rw [upd_ne q] at e
      exact hs _ _ e
  have it : ∀ {X : Cx} {σ : L2.St} {e : Expr} {pos : Pos}, JR X σ (upd G a.pl (.lst (r.places.map .int))) H (.Attribute e "places" pos) rV (.ref a.pl) → JR X σ (upd G a.pl (.lst (r.places.map .int))) H (.Attribute e "places" pos) (rL rInt) r.places := fun j => j.to fun G' v s h => ⟨a.pl, _, h, s _ _ upd_same, ints_paired _⟩
  refine ws_ret hs2 (je_all rfl T.b_all rfl (JR.q (je_lcM 1 (f := fun p => decide (p = -2)) rfl nd (JR.q (it (je_fld (je_vO 0 rfl) h_run.o T.k_Run T.f_Run_places rF_places rfl))) (blkOk_by (N := n_is_over) (sc := defScope s_is_over) (by decide +kernel)) (by omega) ?_))) (fun v G' H' w h => hk v G H' ⟨Same.refl _, w.h, hs.trans w.h, fun _ _ e => .inl e⟩ h)
  intro i c v G3 H3 hx w3 hv s Hb C cl fp
  cases (show v = .int c from hv)
  exact (je_c (jc_eqI (je_vI 1 rfl) (je_gi T.c_GONE)))
end
end Ck
end
section
set_option Elab.async false
set_option linter.all false
set_option maxRecDepth 100000
set_option maxHeartbeats 4000000
namespace Ck
open PySem PySem.Spec PyProof.Rows L2
open Mir (itm)
local macro_rules | `(tactic| walk_at "s") => `(tactic| first | assumption | omega | (simp only [onPre, List.length_map, List.length_drop, List.length_take, List.length_append, List.length_cons, List.length_nil, decide_eq_true_eq, decide_eq_false_iff_not] at *; omega))
local macro_rules | `(tactic| walk_at "b") => `(tactic| first | assumption | exact ⟨by assumption, by assumption⟩ | exact ⟨by omega, by omega⟩)
local macro_rules | `(tactic| walk_at "g") => `(tactic| first | assumption | omega)
section
variable {X : Cx} {σ : L2.St} {G H : Hp} {e o ix value : Expr} {rest : List Stmt} {pos p3 : Pos} {D : Ends}
theorem ws_retD {n : Str} {p2 : Pos} {p : Addr} {kvs : List (Key × V)} {f : Int → Bool} {G0 H0 : Hp} (hj : JR X σ G H (.Name n p2) rV (.ref p)) (w : Gw G0 H0 G H) (h0 : H0 p = none) (hg : G p = none) (hp : H p = some (.dK kvs)) (hf : ∀ i : Int, (valV kvs (.inl i)).isSome = f i)
    (k : ∀ v G' H', Gw G0 H0 G' H' → rDr.r G' v f → D.rt v H') : WSs X (.Return (some (.Name n p2)) pos :: rest) D σ H :=
  ws_ret w.s hj fun v G1 H1 w1 hv1 => by
    have e0 : v = .ref p := hv1
    subst e0
    have w2 := w.t w1.keep
    have w3 := w2.frz h0 hg (w1.h _ _ hp)
    exact k _ _ _ w3 ⟨p, kvs, rfl, upd_same, hf⟩
theorem ws_mark {p : Addr} {kvs : List (Key × V)} {i : Int} (hs : Same G H) (hp : H p = some (.dK kvs)) (hu : X.A.units + 1 < cLine) (je : JR X σ G H value rBool true) (jo : JR X σ G H o rV (.ref p)) (ji : JR X σ G H ix rInt i) (hl : kvs.length < 1000000)
    (k : ∀ H1, Gw G H G H1 → WSs X rest D σ (upd H1 p (.dK (putK kvs (.inl i) (.bl true)))))
    (hsw : swapsWith value (some (.Subscript o ix p3)) pos.line X.env = pure false := by rfl) : WSs X (.Assign [.Subscript o ix p3] value pos :: rest) D σ H := by
  refine WSs.cons (ps_dput hu pe_w pe_w pe_w hsw) ?_
  refine je G H (Gw.refl hs) _ fun v G1 H1 w1 hv => ?_
  refine jo G1 H1 w1 _ fun u G2 H2 w2 hu2 => ?_
  refine ji G2 H2 (w1.t w2) _ fun y G3 H3 w3 hy => ?_
  have w := (w1.t w2).t w3
  cases (show v = .bl true from hv)
  cases (show y = .int i from hy)
  exact ⟨p, _, hu2, DPut.k (k := .inl i) (w.h _ _ hp) (szlt hl), k H3 w.keep⟩
end
section
variable {P : Program} {w : World} {K : PySem.W.Frag} {mg : Str → Option Value} {base : Heap} {cPart cDraft cRun cBench : Addr}
theorem ok_pushed_drums (T : Top K mg cPart cDraft cRun cBench) : Cal P w K mg base "pushed_drums" 5 (Ct (a2 rR (rL rInt)) (fun G H x => RunAt cRun G H x.1.1 x.1.2 ∧ Mir.Wf x.1.2 ∧ Mir.Okp x.1.2 x.2.1 ∧ x.2.1.length ≤ 36) rDr fun x => Mir.pushed x.1.2 x.2.1) := by
  refine T.d_pushed_drums.ct sc_pushed_drums rfl fun f cdv A outer s G H vs x Q E hr hs ha hp hk => ?_
  obtain ⟨⟨a, r⟩, ps, _⟩ := x
  obtain ⟨_, _, rfl, rfl, vp, _, rfl, h_places, rfl⟩ := ha
  obtain ⟨h_run, h_wf, h_ok, hpl⟩ := hp
  dsimp only at h_run h_wf h_ok hpl h_places
  have bl := h_wf.b.le
  have bw := h_wf.b.w
  have nd := sc_pushed_drums.nd
  refine ws_newD 2 (fun pf hf => ?_) nd
  have nin := h_run.notIn hf
  have w1 := Gw.mut (o := .dK []) hs hf
  have gf0 : G pf = none := hs.free hf
  have h_run := h_run.gw w1
  refine ws_when w1.s (jt_not (jt_v (je_call (ok_has_drums T) (hr.mono (by decide)) (ja_cons (je_vR 0 rfl h_run) ja_nil) (fun _ _ wq => ⟨h_run.gw wq, h_wf⟩)))) (fun hb H2 w2 => ?_) (fun hb H2 w2 => ?_)
  · refine ws_retD (f := Mir.pushed r ps) (je_vO 2 rfl) (w1.t w2) hf gf0 (w2.h _ _ upd_same) (fun i => ?_) hk
    unfold Mir.pushed
    rw [if_pos hb]
    rfl
  · have h_run := h_run.gw w2
    have w1 := w1.t w2
    have hpf := w2.h _ _ (upd_same (H := H) (o := .dK []))
    refine ws_forL 3 w1.s (JR.q ((je_v 1 rfl h_places))) (fun i σ' G' H' => ∃ kvs u1 u2 u3 u4, σ' = [some (.ref a.p), some vp, some (.ref pf), u1, u2, u3, u4] ∧ Gw G H G' H' ∧ RunAt cRun G' H' a r ∧ G' pf = none ∧ H' pf = some (.dK kvs) ∧ kvs.length ≤ i ∧
      ∀ j : Int, (valV kvs (.inl j)).isSome = ((ps.take i).foldl (Mir.pushed1 r) fun _ => false) j) ?_ ?_ ?_ rfl nd
    · intro G3 H3 w3
      exact ⟨[], none, none, none, none, rfl, w1.t w3, h_run.gw w3, w3.out gf0 hpf, w3.h _ _ hpf, Nat.zero_le _, fun _ => rfl⟩
    · rintro i p v σ' G' H' hx s1 s2 ⟨kvs, u1, u2, u3, u4, rfl, w', h_run, gf, hvf, hl2, hkv⟩ hv
      cases (show v = .int p from hv)
      have hmem := List.mem_of_getElem? hx
      obtain ⟨hp0, hp1⟩ := (h_ok p hmem).1
      have hi : i < ps.length := (List.getElem?_eq_some_iff.mp hx).1
      have tk : (ps.take (i + 1)).foldl (Mir.pushed1 r) (fun _ => false) = Mir.pushed1 r ((ps.take i).foldl (Mir.pushed1 r) fun _ => false) p := by
        rw [take_snoc hx, List.foldl_append]
        rfl
      refine ws_un2 4 5 s2 (je_call (ok_destination_from T) (hr.mono (by decide)) (ja_cons (je_vR 0 rfl h_run) (ja_cons (je_vI 3 rfl) ja_nil)) (fun _ _ wq => ⟨h_run.gw wq, h_wf, by walk_at "b"⟩)) rfl nd (fun v1 v2 G4 H4 w4 e1 e2 => ?_)
      cases (show v1 = .int _ from e1)
      cases (show v2 = .int _ from e2)
      have h_run := h_run.gw w4
      have stay : ∀ H6, Gw G4 H4 G4 H6 → Mir.pushed1 r ((ps.take i).foldl (Mir.pushed1 r) fun _ => false) p = ((ps.take i).foldl (Mir.pushed1 r) fun _ => false) → ∀ u4', ∃ G2, Same G' G2 ∧ Same G2 H6 ∧ ∃ kvs u1 u2 u3 u4, [some (.ref a.p), some vp, some (.ref pf), some (.int p), some (.int (Mir.destFrom r p).1), some (.int (Mir.destFrom r p).2), u4'] = [some (V.ref a.p), some vp, some (.ref pf), u1, u2, u3, u4] ∧ Gw G H G2 H6 ∧ RunAt cRun G2 H6 a r ∧ G2 pf = none ∧ H6 pf = some (.dK kvs) ∧ kvs.length ≤ i + 1 ∧
          ∀ j : Int, (valV kvs (.inl j)).isSome = ((ps.take (i + 1)).foldl (Mir.pushed1 r) fun _ => false) j := fun H6 w6 he u4' => by
        have w46 := w4.t w6
        refine ⟨G4, w46.g, w46.s, kvs, _, _, _, _, rfl, w'.t w46, h_run.gw w6, w46.out gf hvf, w46.h _ _ hvf, by omega, fun j => ?_⟩
        rw [tk, he]
        exact hkv j
      refine ws_when w4.s (jt_w (jw_and (jt_not (jt_v (je_call (ok_is_held_back T) (hr.mono (by decide)) (ja_cons (je_vR 0 rfl h_run) (ja_cons (je_vI 3 rfl) ja_nil)) (fun _ _ wq => ⟨h_run.gw wq, h_wf, by walk_at "b"⟩)))) fun hsc => (jw_and (jt_v (je_call (ok_is_reachable T) (hr.mono (by decide)) (ja_cons (je_vR 0 rfl h_run) (ja_cons (je_vI 4 rfl) (ja_cons (je_vI 5 rfl) ja_nil))) (fun _ _ wq => ⟨h_run.gw wq, h_wf⟩))) fun hsc => (jw_and1 (jt_c (jc_lt (je_vI 5 rfl) (je_p31 (je_run_board T h_run (je_vO 0 rfl))))))))) (fun hb5 H5 w5 => ?_) (fun hb5 H5 w5 => ?_)
      · have h_run := h_run.gw w5
        have hpu : Mir.pushes r p = true := hb5
        have hd : Mir.reachable r (Mir.destFrom r p).1 (Mir.destFrom r p).2 = true ∧ (Mir.destFrom r p).2 < r.board.2.1 := by
          unfold Mir.pushes at hpu
          simp only [Bool.and_eq_true, decide_eq_true_eq] at hpu
          exact ⟨hpu.2.1, hpu.2.2⟩
        obtain ⟨ho0, ho1⟩ := Mir.dest_in h_wf hd.1 hd.2
        unfold Mir.placeOf at ho0 ho1
        refine ws_setI 6 w5.s (je_add (je_mul (je_vI 5 rfl) (je_p30 (je_run_board T h_run (je_vO 0 rfl))) (by walk_at "s")) (je_vI 4 rfl)) (fun H6 w6 => ?_) nd
        have h_run := h_run.gw w6
        refine ws_when w6.s (jt_c (jc_eqI (je_call (ok_sign_at T) (hr.mono (by decide)) (ja_cons (je_vR 0 rfl h_run) (ja_cons (je_vI 6 rfl) ja_nil)) (fun _ _ wq => ⟨h_run.gw wq, h_wf, by walk_at "b"⟩)) (je_gi T.c_DRUM))) (fun hb7 H7 w7 => ?_) (fun hb7 H7 w7 => ?_)
        · have w47 := ((w4.t w5).t w6).t w7
          have hg := w47.out gf hvf
          refine ws_mark w7.s (w47.h _ _ hvf) (units1 hr) je_bl (je_vO 2 rfl) (je_vI 6 rfl) (by omega) fun H8 w8 => ?_
          have w48 := w47.t w8
          refine ws_nil (ws_nil (ws_nil ⟨G4, w48.g, ((w'.t w48).set hf hg).s, _, _, _, _, _, rfl, (w'.t w48).set hf hg, ((h_run.gw w7).gw w8).other nin, hg, upd_same, Nat.le_trans (length_putK _ _ _) (by omega), fun j => ?_⟩))
          rw [tk, valV_put]
          unfold Mir.pushed1
          have hb7 : decide (Mir.signAt r (Mir.placeOf r (Mir.destFrom r p).1 (Mir.destFrom r p).2) = 79) = true := hb7
          rw [if_pos hpu, if_pos hb7]
          by_cases ej : (Sum.inl j : Key) = .inl ((Mir.destFrom r p).2 * r.board.1 + (Mir.destFrom r p).1)
          · rw [if_pos ej]
            injection ej with ej
            subst ej
            exact (Bool.or_eq_true_iff.mpr (.inl (decide_eq_true rfl))).symm
          · rw [if_neg ej]
            have : ¬ j = Mir.placeOf r (Mir.destFrom r p).1 (Mir.destFrom r p).2 := fun z => ej (by rw [z]; rfl)
            show _ = (decide _ || _)
            rw [decide_eq_false this, Bool.false_or]
            exact hkv j
        · refine ws_nil (ws_nil (stay H7 ((w5.t w6).t w7) ?_ _))
          have hb7 : decide (Mir.signAt r (Mir.placeOf r (Mir.destFrom r p).1 (Mir.destFrom r p).2) = 79) = false := hb7
          unfold Mir.pushed1
          rw [if_pos hpu, if_neg (bno hb7)]
      · refine ws_nil (stay H5 w5 ?_ _)
        have hpu : Mir.pushes r p = false := hb5
        unfold Mir.pushed1
        rw [if_neg (bno hpu)]
    · rintro σ' G' H' s1 s2 ⟨kvs, u1, u2, u3, u4, rfl, w', h_run, gf, hvf, hl2, hkv⟩
      rw [List.take_length] at hkv
      refine ws_retD (f := Mir.pushed r ps) (je_vO 2 rfl) w' hf gf hvf (fun i => ?_) hk
      rw [hkv]
      unfold Mir.pushed
      rw [if_neg (bno hb)]
theorem ok_leave (T : Top K mg cPart cDraft cRun cBench) : Cal P w K mg base "leave" 5 (CtR cRun (a2 rR rInt) (fun x => x.1.1) (fun G H x => RunP cRun G H x ∧ itm 0 x.1.2.held x.2.1 ≠ -1 ∧ Mir.Sz x.1.2 < 800000) rInt fun x => (Mir.leave x.1.2 x.2.1, itm 0 x.1.2.held x.2.1)) := by
  refine T.d_leave.ctR sc_leave rfl fun f cdv A outer s G H vs x Q E hr hs ha hp hk => ?_
  obtain ⟨⟨a, r⟩, p, _⟩ := x
  obtain ⟨_, _, rfl, rfl, _, _, rfl, rfl, rfl⟩ := ha
  obtain ⟨⟨h_run, h_wf, hp0, hp1⟩, hne, hz⟩ := hp
  dsimp only at h_run h_wf hp0 hp1 hne hz
  have hl := h_wf.hl
  have cl := h_wf.cl
  have pl := h_wf.pl
  obtain ⟨hm0, hm1⟩ := Mir.held_ok h_wf ⟨hp0, hp1⟩ hne
  have nd := sc_leave.nd
  refine ws_setI 2 hs (je_call (ok_sign_at T) (hr.mono (by decide)) (ja_cons (je_vR 0 rfl h_run) (ja_cons (je_vI 1 rfl) ja_nil)) (fun _ _ wq => ⟨h_run.gw wq, h_wf, by walk_at "b"⟩)) (fun H1 w1 => ?_) nd
  have h_run := h_run.gw w1
  refine ws_setI 3 w1.s (je_run_held T h_run (je_vO 0 rfl) (je_vI 1 rfl) (by walk_at "s") (by walk_at "s")) (fun H2 w2 => ?_) nd
  have h_run := h_run.gw w2
  have w2 := w1.t w2
  refine ws_item w2.s h_run.hl (je_gi T.c_NOBODY) (je_run_oheld T h_run (je_vO 0 rfl)) (je_vI 1 rfl) hp0 (by show p < (r.held.length : Int); omega) fun H3 w3 => ?_
  obtain ⟨h_run, m3⟩ := (h_run.gw w3).setHl w3.s (r.held.set p.toNat (-1))
  have m3 := (Mv.of (w2.t w3)).t m3
  refine ws_item m3.s h_run.pl (je_gi T.c_GONE) (je_run_oplaces T h_run (je_vO 0 rfl)) (je_vI 3 rfl) hm0 (by show itm 0 r.held p < (r.places.length : Int); omega) fun H4 w4 => ?_
  obtain ⟨h_run, m4⟩ := (h_run.gw w4).setPl w4.s (r.places.set (itm 0 r.held p).toNat (-2))
  have m4 := (m3.t (Mv.of w4)).t m4
  have wf1 : Mir.Wf { r with held := r.held.set p.toNat (-1), places := r.places.set (itm 0 r.held p).toNat (-2) } := h_wf.with (List.length_set) (List.length_set) rfl (Mir.held_set h_wf (by omega) (by omega))
  let r2 : Mir.RunS := if Mir.isFlip (Mir.signAt r p) || (Mir.isCounter (Mir.signAt r p) || Mir.isGate (Mir.signAt r p)) then { r with held := r.held.set p.toNat (-1), places := r.places.set (itm 0 r.held p).toNat (-2), counts := r.counts.set p.toNat (itm 0 r.counts p + 1) } else { r with held := r.held.set p.toNat (-1), places := r.places.set (itm 0 r.held p).toNat (-2) }
  have e2 : Mir.leave r p = if Mir.isGate (Mir.signAt r p) then Mir.addPermits r2 p (-1) else r2 := rfl
  have fin : ∀ H5, Mv a.F G H G H5 → RunAt cRun G H5 a r2 → Mir.Wf r2 → r2.board = r.board → Mir.Sz r2 < 900000 → WSs (cxOf CX0 P w K mg base n_leave "leave" (defScope s_leave) f cdv A outer s H E).nox ((defBody s_leave).drop 5) { nx := fun _ H' => Q .non H', rt := Q } [some (.ref a.p), some (.int p), some (.int (Mir.signAt r p)), some (.int (itm 0 r.held p))] H5 := fun H5 m5 h_run h_wf2 hbd hz2 => by
    refine ws_when m5.s (jt_v (je_call (ok_is_gate T) (hr.mono (by decide)) (ja_cons (je_vI 2 rfl) ja_nil) (fun _ _ _ => trivial))) (fun hb H6 w6 => ?_) (fun hb H6 w6 => ?_)
    · have h_run := h_run.gw w6
      refine ws_do (we_callR (ok_add_permits T) (hr.mono (by decide)) w6.s (ja_cons (je_vR 0 rfl h_run) (ja_cons (je_vI 1 rfl) (ja_cons (je_neg je_int) ja_nil))) (fun _ _ wq => ⟨⟨h_run.gw wq, h_wf2, ⟨hp0, by rw [hbd]; exact hp1⟩⟩, hz2⟩) fun v G7 H7 m7 hrun7 hv7 => ws_nil ?_)
      refine ws_ret m7.s (je_vI 3 rfl) fun v G' H' w8 hv => ?_
      refine hk v G' H' (((m5.t (Mv.of w6)).t m7).t (Mv.of w8)) ?_ hv
      show RunAt cRun G' H' a (Mir.leave r p)
      rw [e2, if_pos hb]
      exact hrun7.gw w8
    · refine ws_ret w6.s (je_vI 3 rfl) fun v G' H' w8 hv => ?_
      refine hk v G' H' ((m5.t (Mv.of w6)).t (Mv.of w8)) ?_ hv
      show RunAt cRun G' H' a (Mir.leave r p)
      rw [e2, if_neg (bno hb)]
      exact (h_run.gw w6).gw w8
  refine ws_when m4.s (jt_w (jw_or (jt_v (je_call (ok_is_flip T) (hr.mono (by decide)) (ja_cons (je_vI 2 rfl) ja_nil) (fun _ _ _ => trivial))) fun hsc => (jw_or (jt_v (je_call (ok_is_counter T) (hr.mono (by decide)) (ja_cons (je_vI 2 rfl) ja_nil) (fun _ _ _ => trivial))) fun hsc => (jw_or1 (jt_v (je_call (ok_is_gate T) (hr.mono (by decide)) (ja_cons (je_vI 2 rfl) ja_nil) (fun _ _ _ => trivial))))))) (fun hb H5 w5 => ?_) (fun hb H5 w5 => ?_)
  · have h_run := h_run.gw w5
    refine ws_item w5.s h_run.cl (je_add (je_run_counts T h_run (je_vO 0 rfl) (je_vI 1 rfl) (by walk_at "s") (by walk_at "s")) je_int) (je_run_ocounts T h_run (je_vO 0 rfl)) (je_vI 1 rfl) hp0 (by show p < (r.counts.length : Int); omega) fun H6 w6 => ws_nil ?_
    obtain ⟨h_run, m6⟩ := (h_run.gw w6).setCl w6.s (r.counts.set p.toNat (itm 0 r.counts p + 1))
    have er : r2 = { r with held := r.held.set p.toNat (-1), places := r.places.set (itm 0 r.held p).toNat (-2), counts := r.counts.set p.toNat (itm 0 r.counts p + 1) } := if_pos hb
    refine fin _ ((m4.t (Mv.of (w5.t w6))).t m6) (by rw [er]; exact h_run) (by rw [er]; exact h_wf.with (List.length_set) (List.length_set) (List.length_set) (Mir.held_set h_wf (by omega) (by omega))) (by rw [er]) (by rw [er]; show Mir.Sz r < _; omega)
  · have er : r2 = { r with held := r.held.set p.toNat (-1), places := r.places.set (itm 0 r.held p).toNat (-2) } := if_neg (bno hb)
    exact fin _ (m4.t (Mv.of w5)) (by rw [er]; exact h_run.gw w5) (by rw [er]; exact wf1) (by rw [er]) (by rw [er]; show Mir.Sz r < _; omega)
end
end Ck
end
section
set_option Elab.async false
set_option linter.all false
set_option maxRecDepth 100000
set_option maxHeartbeats 4000000
namespace Ck
open PySem PySem.Spec PyProof.Rows L2
open Mir (itm)
local macro_rules | `(tactic| walk_at "s") => `(tactic| first | assumption | omega | (simp only [onPre, List.length_map, List.length_drop, List.length_take, List.length_append, List.length_cons, List.length_nil, decide_eq_true_eq, decide_eq_false_iff_not] at *; omega))
local macro_rules | `(tactic| walk_at "b") => `(tactic| first | assumption | exact ⟨by assumption, by assumption⟩ | exact ⟨by omega, by omega⟩)
local macro_rules | `(tactic| walk_at "g") => `(tactic| first | assumption | omega)
section
variable {P : Program} {w : World} {K : PySem.W.Frag} {mg : Str → Option Value} {base : Heap} {cPart cDraft cRun cBench : Addr}
theorem ok_enter (T : Top K mg cPart cDraft cRun cBench) : Cal P w K mg base "enter" 5 (CtR cRun (a3 rR rInt rInt) (fun x => x.1.1) (fun G H x => RunP cRun G H x ∧ (0 ≤ x.2.2.1 ∧ x.2.2.1 < (x.1.2.marbles.length : Int)) ∧ Mir.Sz x.1.2 < 800000) rNon fun x => (Mir.enter x.1.2 x.2.1 x.2.2.1, ())) := by
  refine T.d_enter.ctR sc_enter rfl fun f cdv A outer s G H vs x Q E hr hs ha hp hk => ?_
  obtain ⟨⟨a, r⟩, p, m, _⟩ := x
  obtain ⟨_, _, rfl, rfl, _, _, rfl, rfl, _, _, rfl, rfl, rfl⟩ := ha
  obtain ⟨⟨h_run, h_wf, hp0, hp1⟩, ⟨hm0, hm1⟩, hz⟩ := hp
  dsimp only at h_run h_wf hp0 hp1 hm0 hm1 hz
  have hl := h_wf.hl
  have cl := h_wf.cl
  have pl := h_wf.pl
  have nd := sc_enter.nd
  refine ws_setI 3 hs (je_call (ok_sign_at T) (hr.mono (by decide)) (ja_cons (je_vR 0 rfl h_run) (ja_cons (je_vI 1 rfl) ja_nil)) (fun _ _ wq => ⟨h_run.gw wq, h_wf, by walk_at "b"⟩)) (fun H1 w1 => ?_) nd
  have h_run := h_run.gw w1
  refine ws_when w1.s (jt_c (jc_eqI (je_vI 3 rfl) (je_gi T.c_BIN))) (fun hb H2 w2 => ?_) (fun hb H2 w2 => ?_)
  · have h_run := h_run.gw w2
    refine ws_item w2.s h_run.pl (je_gi T.c_GONE) (je_run_oplaces T h_run (je_vO 0 rfl)) (je_vI 2 rfl) hm0 (by show m < (r.places.length : Int); omega) fun H3 w3 => ?_
    obtain ⟨h_run, m3⟩ := (h_run.gw w3).setPl w3.s (r.places.set m.toNat (-2))
    have m3 := (Mv.of ((w1.t w2).t w3)).t m3
    refine ws_ret m3.s je_non fun v G' H' w8 hv => ?_
    refine hk v G' H' (m3.t (Mv.of w8)) ?_ hv
    have e : Mir.enter r p m = { r with places := r.places.set m.toNat (-2) } := by unfold Mir.enter; exact if_pos hb
    show RunAt cRun G' H' a (Mir.enter r p m)
    rw [e]
    exact h_run.gw w8
  · have h_run := h_run.gw w2
    have w2 := w1.t w2
    refine ws_item w2.s h_run.hl (je_vI 2 rfl) (je_run_oheld T h_run (je_vO 0 rfl)) (je_vI 1 rfl) hp0 (by show p < (r.held.length : Int); omega) fun H3 w3 => ?_
    obtain ⟨h_run, m3⟩ := (h_run.gw w3).setHl w3.s (r.held.set p.toNat m)
    have m3 := (Mv.of (w2.t w3)).t m3
    refine ws_item m3.s h_run.pl (je_vI 1 rfl) (je_run_oplaces T h_run (je_vO 0 rfl)) (je_vI 2 rfl) hm0 (by show m < (r.places.length : Int); omega) fun H4 w4 => ?_
    obtain ⟨h_run, m4⟩ := (h_run.gw w4).setPl w4.s (r.places.set m.toNat p)
    have m4 := (m3.t (Mv.of w4)).t m4
    let r2 : Mir.RunS := if decide (Mir.signAt r p = 33) then { r with held := r.held.set p.toNat m, places := r.places.set m.toNat p, rings := r.rings ++ [(r.tick, m)] } else { r with held := r.held.set p.toNat m, places := r.places.set m.toNat p }
    have e2 : Mir.enter r p m = if Mir.isPlate (Mir.signAt r p) then Mir.addPermits r2 p 1 else r2 := by unfold Mir.enter; exact if_neg (bno hb)
    have fin : ∀ G5 H5, Mv a.F G H G5 H5 → RunAt cRun G5 H5 a r2 → Mir.Wf r2 → r2.board = r.board → Mir.Sz r2 < 900000 → WSs (cxOf CX0 P w K mg base n_enter "enter" (defScope s_enter) f cdv A outer s H E).nox ((defBody s_enter).drop 5) { nx := fun _ H' => Q .non H', rt := Q } [some (.ref a.p), some (.int p), some (.int m), some (.int (Mir.signAt r p))] H5 := fun G5 H5 m5 h_run h_wf2 hbd hz2 => by
      have hin : Mir.InB r2 p := ⟨hp0, by rw [hbd]; exact hp1⟩
      refine ws_when m5.s (jt_v (je_call (ok_is_plate T) (hr.mono (by decide)) (ja_cons (je_vI 3 rfl) ja_nil) (fun _ _ _ => trivial))) (fun hb H6 w6 => ?_) (fun hb H6 w6 => ?_)
      · have h_run := h_run.gw w6
        refine ws_do (we_callR (ok_add_permits T) (hr.mono (by decide)) w6.s (ja_cons (je_vR 0 rfl h_run) (ja_cons (je_vI 1 rfl) (ja_cons je_int ja_nil))) (fun _ _ wq => ⟨⟨h_run.gw wq, h_wf2, hin⟩, hz2⟩) fun v G7 H7 m7 hrun7 hv7 => ws_nil ?_)
        refine ws_ret m7.s je_non fun v G' H' w8 hv => ?_
        refine hk v G' H' (((m5.t (Mv.of w6)).t m7).t (Mv.of w8)) ?_ hv
        show RunAt cRun G' H' a (Mir.enter r p m)
        rw [e2, if_pos hb]
        exact hrun7.gw w8
      · refine ws_ret w6.s je_non fun v G' H' w8 hv => ?_
        refine hk v G' H' ((m5.t (Mv.of w6)).t (Mv.of w8)) ?_ hv
        show RunAt cRun G' H' a (Mir.enter r p m)
        rw [e2, if_neg (bno hb)]
        exact (h_run.gw w6).gw w8
    refine ws_when m4.s (jt_c (jc_eqI (je_vI 3 rfl) (je_gi T.c_BELL))) (fun hb H5 w5 => ?_) (fun hb H5 w5 => ?_)
    · have h_run := h_run.gw w5
      obtain ⟨us, hus, hpv⟩ := h_run.rl
      have hul := Paired.len hpv
      have hul : us.length = r.rings.length := hul
      unfold Mir.Sz at hz
      refine ws_app w5.s (je_run_orings T h_run (je_vO 0 rfl)) hus (je_t2 (je_run_tick T h_run (je_vO 0 rfl)) (je_vI 2 rfl)) (by omega) fun v G6 H6 w6 hv => ws_nil ?_
      obtain ⟨h_run, m6⟩ := (h_run.gw w6).setRl (vs := us ++ [v]) (rs := r.rings ++ [(r.tick, m)]) w6.s (Paired.app (pm (fun _ _ z => rPair.m w6.g z) hpv) (.cons hv .nil))
      have er : r2 = { r with held := r.held.set p.toNat m, places := r.places.set m.toNat p, rings := r.rings ++ [(r.tick, m)] } := if_pos hb
      refine fin _ _ ((m4.t (Mv.of (w5.t w6))).t m6) (by rw [er]; exact h_run) (by rw [er]; exact h_wf.with (List.length_set) (List.length_set) rfl (Mir.held_set h_wf (by omega) (by omega))) (by rw [er]) (by rw [er]; unfold Mir.Sz; show (r.rings ++ [(r.tick, m)]).length + r.puts < _; rw [List.length_append]; show r.rings.length + 1 + r.puts < _; omega)
    · have er : r2 = { r with held := r.held.set p.toNat m, places := r.places.set m.toNat p } := if_neg (bno hb)
      exact fin _ _ (m4.t (Mv.of w5)) (by rw [er]; exact h_run.gw w5) (by rw [er]; exact h_wf.with (List.length_set) (List.length_set) rfl (Mir.held_set h_wf (by omega) (by omega))) (by rw [er]) (by rw [er]; show Mir.Sz r < _; omega)
theorem ok_move_from (T : Top K mg cPart cDraft cRun cBench) : Cal P w K mg base "move_from" 6 (CtR cRun (a3 rR rInt rDr) (fun x => x.1.1) (fun G H x => RunP cRun G H x ∧ itm 0 x.1.2.held x.2.1 ≠ -1 ∧ Mir.Sz x.1.2 < 700000) rNon fun x => (Mir.moveFrom x.1.2 x.2.1 x.2.2.1, ())) := by
  refine T.d_move_from.ctR sc_move_from rfl fun f cdv A outer s G H vs x Q E hr hs ha hp hk => ?_
  obtain ⟨⟨a, r⟩, p, ds, _⟩ := x
  obtain ⟨_, _, rfl, rfl, _, _, rfl, rfl, vd, _, rfl, h_drums, rfl⟩ := ha
  obtain ⟨⟨h_run, h_wf, hp0, hp1⟩, hne, hz⟩ := hp
  dsimp only at h_run h_wf hp0 hp1 hne hz h_drums
  have bl := h_wf.b.le
  have bw := h_wf.b.w
  have nd := sc_move_from.nd
  refine ws_when hs (jt_w (jw_or (jt_v (je_call (ok_is_held_back T) (hr.mono (by decide)) (ja_cons (je_vR 0 rfl h_run) (ja_cons (je_vI 1 rfl) ja_nil)) (fun _ _ wq => ⟨h_run.gw wq, h_wf, by walk_at "b"⟩))) fun hsc => (jw_or1 (jt_w (jw_and (jt_c (jc_eqI (je_call (ok_sign_at T) (hr.mono (by decide)) (ja_cons (je_vR 0 rfl h_run) (ja_cons (je_vI 1 rfl) ja_nil)) (fun _ _ wq => ⟨h_run.gw wq, h_wf, by walk_at "b"⟩)) (je_gi T.c_DRUM))) fun hsc => (jw_and1 (jt_c (jc_ninD (je_vI 1 rfl) (je_v 2 rfl h_drums) (units1 hr))))))))) (fun hb H1 w1 => ?_) (fun hb H1 w1 => ?_)
  · refine ws_ret w1.s je_non fun v G' H' w8 hv => ?_
    refine hk v G' H' (Mv.of (w1.t w8)) ?_ hv
    show RunAt cRun G' H' a (Mir.moveFrom r p ds)
    rw [show Mir.moveFrom r p ds = r by unfold Mir.moveFrom; exact if_pos hb]
    exact (h_run.gw w1).gw w8
  have h_run := h_run.gw w1
  have hb : (Mir.heldBack r p || (decide (Mir.signAt r p = 79) && !ds p)) = false := hb
  refine ws_un2 3 4 w1.s (je_call (ok_destination_from T) (hr.mono (by decide)) (ja_cons (je_vR 0 rfl h_run) (ja_cons (je_vI 1 rfl) ja_nil)) (fun _ _ wq => ⟨h_run.gw wq, h_wf, by walk_at "b"⟩)) rfl nd (fun v1 v2 G2 H2 w2 e1 e2 => ?_)
  cases (show v1 = .int (Mir.destFrom r p).1 from e1)
  cases (show v2 = .int (Mir.destFrom r p).2 from e2)
  have h_run := h_run.gw w2
  have w2 := w1.t w2
  refine ws_when w2.s (jt_not (jt_v (je_call (ok_is_reachable T) (hr.mono (by decide)) (ja_cons (je_vR 0 rfl h_run) (ja_cons (je_vI 3 rfl) (ja_cons (je_vI 4 rfl) ja_nil))) (fun _ _ wq => ⟨h_run.gw wq, h_wf⟩)))) (fun hb3 H3 w3 => ?_) (fun hb3 H3 w3 => ?_)
  · refine ws_ret w3.s je_non fun v G' H' w8 hv => ?_
    refine hk v G' H' (Mv.of ((w2.t w3).t w8)) ?_ hv
    show RunAt cRun G' H' a (Mir.moveFrom r p ds)
    have hb3 : (!Mir.reachable r (Mir.destFrom r p).1 (Mir.destFrom r p).2) = true := hb3
    rw [show Mir.moveFrom r p ds = r by unfold Mir.moveFrom; rw [if_neg (bno hb)]; exact if_pos hb3]
    exact (h_run.gw w3).gw w8
  have h_run := h_run.gw w3
  have w3 := w2.t w3
  have hb3 : (!Mir.reachable r (Mir.destFrom r p).1 (Mir.destFrom r p).2) = false := hb3
  have hre : Mir.reachable r (Mir.destFrom r p).1 (Mir.destFrom r p).2 = true := by
    cases q : Mir.reachable r (Mir.destFrom r p).1 (Mir.destFrom r p).2 with
    | true => rfl
    | false => rw [q] at hb3; cases hb3
  refine ws_if w3.s (jt_c (jc_ge (je_vI 4 rfl) (je_p31 (je_run_board T h_run (je_vO 0 rfl))))) (fun hb5 H4 w4 => ?_) (fun hb5 H4 w4 => ?_)
  · have h_run := h_run.gw w4
    have hb5 : decide (r.board.2.1 ≤ (Mir.destFrom r p).2) = true := hb5
    refine ws_do (we_callR (ok_leave T) (hr.mono (by decide)) w4.s (ja_cons (je_vR 0 rfl h_run) (ja_cons (je_vI 1 rfl) ja_nil)) (fun _ _ wq => ⟨⟨h_run.gw wq, h_wf, hp0, hp1⟩, hne, by show Mir.Sz r < _; omega⟩) fun v G5 H5 m5 hrun5 hv5 => ws_nil ?_)
    refine ws_ret m5.s je_non fun v G' H' w8 hv => ?_
    refine hk v G' H' (((Mv.of (w3.t w4)).t m5).t (Mv.of w8)) ?_ hv
    show RunAt cRun G' H' a (Mir.moveFrom r p ds)
    rw [show Mir.moveFrom r p ds = Mir.leave r p by unfold Mir.moveFrom; rw [if_neg (bno hb), if_neg (bno hb3)]; exact if_pos hb5]
    exact hrun5.gw w8
  · have h_run := h_run.gw w4
    have hb5 : decide (r.board.2.1 ≤ (Mir.destFrom r p).2) = false := hb5
    obtain ⟨ho0, ho1⟩ := Mir.dest_in h_wf hre (by have := of_decide_eq_false hb5; omega)
    have hpo : Mir.placeOf r (Mir.destFrom r p).1 (Mir.destFrom r p).2 = (Mir.destFrom r p).2 * r.board.1 + (Mir.destFrom r p).1 := rfl
    rw [hpo] at ho0 ho1
    refine ws_when w4.s (jt_v (je_call (ok_is_free T) (hr.mono (by decide)) (ja_cons (je_vR 0 rfl h_run) (ja_cons (je_add (je_mul (je_vI 4 rfl) (je_p30 (je_run_board T h_run (je_vO 0 rfl))) (by walk_at "s")) (je_vI 3 rfl)) ja_nil)) (fun _ _ wq => ⟨h_run.gw wq, h_wf, by walk_at "b"⟩))) (fun hb7 H5 w5 => ?_) (fun hb7 H5 w5 => ?_)
    · have h_run := h_run.gw w5
      have hb7 : Mir.isFree r ((Mir.destFrom r p).2 * r.board.1 + (Mir.destFrom r p).1) = true := hb7
      have w5 := (w3.t w4).t w5
      refine ws_do (we_call (ok_enter T) (hr.mono (by decide)) ?_)
      refine WA.of (pa_cons pe_w pa_w rfl) ?_
      refine (je_vO (z := .ref a.p) 0 rfl) G2 H5 (Gw.refl w5.s) _ fun v1 G6 H6 w6 hv1 => ?_
      refine WA.of (pa_cons pe_w pa_w rfl) ?_
      refine JR.mono (je_add (je_mul (je_vI 4 rfl) (je_p30 (je_run_board T h_run (je_vO 0 rfl))) (by walk_at "s")) (je_vI 3 rfl)) w6 G6 H6 (Gw.refl w6.s) _ fun v2 G7 H7 w7 hv2 => ?_
      refine WA.of (pa_cons pe_w pa_nil rfl) ?_
      have h_run := (h_run.gw w6).gw w7
      refine we_callR (ok_leave T) (hr.mono (by decide)) w7.s (ja_cons (je_vR 0 rfl h_run) (ja_cons (je_vI 1 rfl) ja_nil)) (fun _ _ wq => ⟨⟨h_run.gw wq, h_wf, hp0, hp1⟩, hne, by show Mir.Sz r < _; omega⟩) fun v3 G8 H8 m8 hrun8 hv3 => ?_
      have hsz := Mir.leave_sz r p
      obtain ⟨hm0, hm1⟩ := Mir.held_ok h_wf ⟨hp0, hp1⟩ hne
      refine ⟨G8, ((a, Mir.leave r p), (Mir.destFrom r p).2 * r.board.1 + (Mir.destFrom r p).1, itm 0 r.held p, ()), m8.s, ⟨_, _, rfl, hv1, _, _, rfl, hv2, _, _, rfl, hv3, rfl⟩, ⟨⟨hrun8, Mir.leave_wf h_wf, ho0, ?_⟩, ⟨hm0, ?_⟩, ?_⟩, fun v G9 H9 m9 hrun9 hv9 => ws_nil ?_⟩
      · show _ < ((Mir.leave r p).board.2.2.length : Int)
        rw [Mir.leave_board]
        exact ho1
      · show _ < ((Mir.leave r p).marbles.length : Int)
        rw [Mir.leave_marbles]
        exact hm1
      · show Mir.Sz (Mir.leave r p) < _
        omega
      · refine ws_nil ?_
        refine ws_ret m9.s je_non fun v G' H' w10 hv => ?_
        refine hk v G' H' (((Mv.of ((w5.t w6).t w7)).t m8).t (m9.t (Mv.of w10))) ?_ hv
        show RunAt cRun G' H' a (Mir.moveFrom r p ds)
        rw [show Mir.moveFrom r p ds = Mir.enter (Mir.leave r p) ((Mir.destFrom r p).2 * r.board.1 + (Mir.destFrom r p).1) (itm 0 r.held p) by unfold Mir.moveFrom; rw [if_neg (bno hb), if_neg (bno hb3), if_neg (bno hb5)]; exact if_pos hb7]
        exact hrun9.gw w10
    · have hb7 : Mir.isFree r ((Mir.destFrom r p).2 * r.board.1 + (Mir.destFrom r p).1) = false := hb7
      refine ws_nil (ws_ret w5.s je_non fun v G' H' w8 hv => ?_)
      refine hk v G' H' (Mv.of (((w3.t w4).t w5).t w8)) ?_ hv
      show RunAt cRun G' H' a (Mir.moveFrom r p ds)
      rw [show Mir.moveFrom r p ds = r by unfold Mir.moveFrom; rw [if_neg (bno hb), if_neg (bno hb3), if_neg (bno hb5)]; exact if_neg (bno hb7)]
      exact (h_run.gw w5).gw w8
theorem ok_let_in (T : Top K mg cPart cDraft cRun cBench) : Cal P w K mg base "let_in" 6 (CtR cRun (a1 rR) (fun x => x.1.1) (fun G H x => RunO cRun G H x ∧ Mir.Sz x.1.2 < 600000) rNon fun x => (Mir.letIn x.1.2, ())) := by
  refine T.d_let_in.ctR sc_let_in rfl fun f cdv A outer s G H vs x Q E hr hs ha hp hk => ?_
  obtain ⟨⟨a, r⟩, _⟩ := x
  obtain ⟨_, _, rfl, rfl, rfl⟩ := ha
  obtain ⟨⟨h_run, h_wf⟩, hz⟩ := hp
  dsimp only at h_run h_wf hz
  have ml := h_wf.m.l
  have bh := h_wf.b.h
  have bw := h_wf.b.w
  have bn := h_wf.b.n
  have mw := Mir.mul_le_of bw bh
  have nd := sc_let_in.nd
  refine ws_forE (gx := gTup K 2 (gCons (gName 2) (gCons (gName 3) gNil))) 1 hs T.b_enumerate (JR.q (je_run_marbles T h_run (je_vO 0 rfl))) rfl nd (pg_tup rfl (pgs_cons (pg_name nd rfl (by first | exact Or.inl rfl | exact Or.inr rfl)) (pgs_cons (pg_name nd rfl (by first | exact Or.inl rfl | exact Or.inr rfl)) pgs_nil)) rfl rfl) (fun i σ' G' H' => ∃ u1 u2 u3, σ' = [some (.ref a.p), u1, u2, u3] ∧ Mv a.F G H G' H' ∧ RunAt cRun G' H' a (Mir.letInFrom r 0 (r.marbles.take i)))
    (fun G1 H1 w1 => ⟨none, none, none, rfl, Mv.of w1, h_run.gw w1⟩) ?_ (fun i σ' G' H' H2 ⟨u1, u2, u3, e, m', h⟩ w2 => ⟨u1, u2, u3, e, m'.t (Mv.of w2), h.gw w2⟩) ?_
  · rintro i d v σ' G' H' hx s1 s2 ⟨u1, u2, u3, rfl, m', h_run⟩ hv QQ hQ
    obtain ⟨q, t1, t2, rfl, hq, e1, e2⟩ := hv
    cases (show t1 = .int d.1 from e1)
    cases (show t2 = .int d.2 from e2)
    have hi : i < r.marbles.length := (List.getElem?_eq_some_iff.mp hx).1
    obtain ⟨h_wf2, hz2, hb2, hm2, ht2⟩ := Mir.letIn_ok h_wf i (by omega)
    have hd := h_wf.m.c d (List.mem_of_getElem? hx)
    refine ⟨q, _, rfl, SqT.of (s2 _ _ hq), rfl, _, _, rfl, _, _, rfl, rfl, hQ _ _ ?_⟩
    have tk : Mir.letInFrom r 0 (r.marbles.take (i + 1)) = Mir.letIn1 (Mir.letInFrom r 0 (r.marbles.take i)) i d := by
      rw [take_snoc hx, Mir.letInFrom_snoc, List.length_take, Nat.zero_add, Nat.min_eq_left (by omega)]
    generalize hr2 : Mir.letInFrom r 0 (r.marbles.take i) = r2 at *
    have pl2 := h_wf2.pl
    have hc0 : 0 ≤ d.1 := hd.1
    have hc1 : d.1 < (r2.board.2.2.length : Int) := by rw [hb2]; omega
    have hi2 : (i : Int) < (r2.places.length : Int) := by rw [pl2, hm2]; omega
    have h_wf := h_wf2
    refine ws_when s2 (jt_w (jw_and (jt_c (jc_eqI (je_run_places T h_run (je_vO 0 rfl) (je_vI 1 rfl) (by walk_at "s") (by walk_at "s")) (je_gi T.c_WAITING))) fun hsc => (jw_and (jt_c (jc_le (je_vI 3 rfl) (je_run_tick T h_run (je_vO 0 rfl)))) fun hsc => (jw_and1 (jt_v (je_call (ok_is_free T) (hr.mono (by decide)) (ja_cons (je_vR 0 rfl h_run) (ja_cons (je_vI 2 rfl) ja_nil)) (fun _ _ wq => ⟨h_run.gw wq, h_wf, by walk_at "b"⟩))))))) (fun hb H3 w3 => ?_) (fun hb H3 w3 => ?_)
    · have h_run := h_run.gw w3
      refine ws_do (we_callR (ok_enter T) (hr.mono (by decide)) w3.s (ja_cons (je_vR 0 rfl h_run) (ja_cons (je_vI 2 rfl) (ja_cons (je_vI 1 rfl) ja_nil))) (fun _ _ wq => ⟨⟨h_run.gw wq, h_wf2, hc0, hc1⟩, ⟨by show (0 : Int) ≤ (i : Int); omega, by show (i : Int) < (r2.marbles.length : Int); rw [hm2]; omega⟩, by show Mir.Sz r2 < _; omega⟩) fun v G5 H5 m5 hrun5 hv5 => ws_nil (ws_nil ⟨G5, w3.g.trans m5.g, m5.s, _, _, _, rfl, (m'.t (Mv.of w3)).t m5, ?_⟩))
      rw [tk, show Mir.letIn1 r2 i d = Mir.enter r2 d.1 i by unfold Mir.letIn1; exact if_pos hb]
      exact hrun5
    · refine ws_nil ⟨G', w3.g, w3.s, _, _, _, rfl, m'.t (Mv.of w3), ?_⟩
      rw [tk, show Mir.letIn1 r2 i d = r2 by unfold Mir.letIn1; exact if_neg (bno hb)]
      exact h_run.gw w3
  · rintro σ' G' H' s1 s2 ⟨u1, u2, u3, rfl, m', h_run⟩
    rw [List.take_length] at h_run
    exact ws_nil (hk .non G' H' m' h_run rfl)
theorem ok_do_tick (T : Top K mg cPart cDraft cRun cBench) : Cal P w K mg base "do_tick" 7 (CtR cRun (a1 rR) (fun x => x.1.1) (fun G H x => RunO cRun G H x ∧ Mir.Sz x.1.2 < 500000) rNon fun x => (Mir.doTick x.1.2, ())) := by
  refine T.d_do_tick.ctR sc_do_tick rfl fun f cdv A outer s G H vs x Q E hr hs ha hp hk => ?_
  obtain ⟨⟨a, r⟩, _⟩ := x
  obtain ⟨_, _, rfl, rfl, rfl⟩ := ha
  obtain ⟨⟨h_run, h_wf⟩, hz⟩ := hp
  dsimp only at h_run h_wf hz
  have nd := sc_do_tick.nd
  refine ws_fld hs (je_add (je_run_tick T h_run (je_vO 0 rfl)) je_int) (fun H1 w1 => je_vO 0 rfl) h_run.o T.k_Run T.f_Run_tick (by show 8 < 1000; decide) (fun v G1 H1 w1 hv => ?_)
  cases (show v = .int _ from hv)
  rw [rF_putt]
  have hrun1 := (h_run.gw w1).setTick w1.s (r.tick + 1)
  obtain ⟨h_run, m1⟩ := hrun1
  have m1 := (Mv.of w1).t m1
  have h_wf1 : Mir.Wf { r with tick := r.tick + 1 } := h_wf.with rfl rfl rfl h_wf.hm
  have hz : Mir.Sz { r with tick := r.tick + 1 } < 500000 := hz
  have hdef : Mir.doTick r = Mir.letIn ((Mir.movingPlaces { r with tick := r.tick + 1 }).foldl (fun q p => Mir.moveFrom q p (Mir.pushed { r with tick := r.tick + 1 } (Mir.movingPlaces { r with tick := r.tick + 1 }))) { r with tick := r.tick + 1 }) := rfl
  generalize hr1 : ({ r with tick := r.tick + 1 } : Mir.RunS) = r1 at *
  have h_wf := h_wf1
  have mo := Mir.moving_ok h_wf
  have mle := Mir.moving_le h_wf
  refine ws_set 1 m1.s (je_call (ok_moving_places T) (hr.mono (by decide)) (ja_cons (je_vR 0 rfl h_run) ja_nil) (fun _ _ wq => ⟨h_run.gw wq, h_wf⟩)) (fun vp G2 H2 w2 h_places => ?_) nd
  have h_run := h_run.gw w2
  have m2 := m1.t (Mv.of w2)
  have h_places : (rL rInt).r G2 vp (Mir.movingPlaces r1) := h_places
  generalize hps : Mir.movingPlaces r1 = ps at *
  refine ws_set 2 w2.s (je_call (ok_pushed_drums T) (hr.mono (by decide)) (ja_cons (je_vR 0 rfl h_run) (ja_cons (je_v 1 rfl h_places) ja_nil)) (fun _ _ wq => ⟨h_run.gw wq, h_wf, mo.1, mle⟩)) (fun vd G3 H3 w3 h_drums => ?_) nd
  have h_run := h_run.gw w3
  have m3 := m2.t (Mv.of w3)
  have h_drums : rDr.r G3 vd (Mir.pushed r1 ps) := h_drums
  have h_places := (rL rInt).m w3.g h_places
  generalize hds : Mir.pushed r1 ps = ds at *
  refine ws_forL 3 w3.s (JR.q (je_v 1 rfl h_places)) (fun i σ' G' H' => ∃ u1, σ' = [some (.ref a.p), some vp, some vd, u1] ∧ Mv a.F G H G' H' ∧ RunAt cRun G' H' a ((ps.take i).foldl (fun q p => Mir.moveFrom q p ds) r1)) (fun G4 H4 w4 => ⟨none, rfl, m3.t (Mv.of w4), h_run.gw w4⟩) ?_ ?_ rfl nd
  · rintro i p v σ' G' H' hx s1 s2 ⟨u1, rfl, m', h_run⟩ hv
    cases (show v = .int p from hv)
    have hi : i < ps.length := (List.getElem?_eq_some_iff.mp hx).1
    obtain ⟨h_wf2, hok2, hz2, hb2, hm2, ht2⟩ := Mir.moves_ok (ds := ds) ps r1 h_wf mo.1 mo.2 i (by omega)
    have hpd : p ∈ ps.drop i := by
      rw [List.mem_iff_getElem?]
      exact ⟨0, by rw [List.getElem?_drop, Nat.add_zero]; exact hx⟩
    obtain ⟨⟨hp0, hp1⟩, hne⟩ := hok2 p hpd
    have tk : (ps.take (i + 1)).foldl (fun q p => Mir.moveFrom q p ds) r1 = Mir.moveFrom ((ps.take i).foldl (fun q p => Mir.moveFrom q p ds) r1) p ds := by
      rw [take_snoc hx, List.foldl_append]
      rfl
    generalize hr2 : (ps.take i).foldl (fun q p => Mir.moveFrom q p ds) r1 = r2 at *
    have h_drums := rDr.m s1 h_drums
    refine ws_do (we_callR (ok_move_from T) (hr.mono (by decide)) s2 (ja_cons (je_vR 0 rfl h_run) (ja_cons (je_vI 3 rfl) (ja_cons (je_v 2 rfl h_drums) ja_nil))) (fun _ _ wq => ⟨⟨h_run.gw wq, h_wf2, hp0, hp1⟩, hne, by show Mir.Sz r2 < _; omega⟩) fun v G5 H5 m5 hrun5 hv5 => ws_nil ⟨G5, m5.g, m5.s, _, rfl, m'.t m5, ?_⟩)
    rw [tk]
    exact hrun5
  · rintro σ' G' H' s1 s2 ⟨u1, rfl, m', h_run⟩
    obtain ⟨h_wf2, hok2, hz2, hb2, hm2, ht2⟩ := Mir.moves_ok (ds := ds) ps r1 h_wf mo.1 mo.2 _ (Nat.le_refl _)
    rw [List.take_length] at h_run h_wf2 hz2
    refine ws_do (we_callR (ok_let_in T) (hr.mono (by decide)) s2 (ja_cons (je_vR 0 rfl h_run) ja_nil) (fun _ _ wq => ⟨⟨h_run.gw wq, h_wf2⟩, by show Mir.Sz (List.foldl _ _ _) < _; omega⟩) fun v G5 H5 m5 hrun5 hv5 => ws_nil (hk .non G5 H5 (m'.t m5) ?_ rfl))
    show RunAt cRun G5 H5 a (Mir.doTick r)
    rw [hdef]
    exact hrun5
end
end Ck
end
section
set_option Elab.async false
set_option linter.all false
set_option maxRecDepth 100000
set_option maxHeartbeats 4000000
namespace Ck
open PySem PySem.Spec PyProof.Rows L2
open Mir (itm)
local macro_rules | `(tactic| walk_at "s") => `(tactic| first | assumption | omega | (simp only [onPre, List.length_map, List.length_drop, List.length_take, List.length_append, List.length_cons, List.length_nil, decide_eq_true_eq, decide_eq_false_iff_not] at *; omega))
local macro_rules | `(tactic| walk_at "b") => `(tactic| first | assumption | exact ⟨by assumption, by assumption⟩ | exact ⟨by omega, by omega⟩)
local macro_rules | `(tactic| walk_at "g") => `(tactic| first | assumption | omega)
section
variable {X : Cx} {σ : L2.St} {G H : Hp} {e a b o value : Expr} {es : List Expr} {rest : List Stmt} {pos p2 : Pos} {D : Ends}
/-- name = e, e with deeds -/
theorem ws_setW (i : Nat) {n : Str} {pos' : Pos} (h : WE X e σ H fun v H1 => WSs X rest D (σ.set i (some v)) H1) (hN : X.N.Nodup) (hi : X.N[i]? = some n := by rfl)
    (hx : Loc X.env.scope n := by first | exact Or.inl rfl | exact Or.inr rfl) (hs : swapsWith e (some (.Name n pos')) pos.line X.env = pure false := by rfl) (hf : X.fn n = true ∨ X.env.scope.names.lookup n = some .local := by first | exact .inl rfl | exact .inr rfl) :
    WSs X (.Assign [.Name n pos'] e pos :: rest) D σ H :=
  WSs.cons (ps_set hN hi hx pe_w hs hf) h
/-- name.f = e, e with deeds -/
theorem ws_fldN (i : Nat) {f n : Str} {p C : Addr} {fpos : Pos} (hs0 : σ[i]? = some (some (.ref p))) (hc : Cls X.K C) (hn : NoAttr X.K C f) (hw : WE X e σ H fun v H1 => ∃ dx fs, H1 p = some (.ins C dx fs) ∧ fs.length < 1000 ∧ WSs X rest D σ (upd H1 p (.ins C dx (putF f v fs))))
    (hN : X.N[i]? = some n := by rfl)
    (hv : Vis X.env.scope n := by first | exact Or.inl rfl | exact Or.inr (Or.inl rfl) | exact Or.inr (Or.inr rfl)) (hd : (n == ("__debug__" : Str)) = false := by decide)
    (hcd : (n == ("__classdict__" : Str)) = false := by decide) (hsw : swapsWith e (some (.Attribute (.Name n p2) f fpos)) pos.line X.env = pure false := by rfl) : WSs X (.Assign [.Attribute (.Name n p2) f fpos] e pos :: rest) D σ H := by
  refine WSs.cons (ps_fld (pe_var hN hv hd hcd) pe_w hsw) ?_
  show WE X e σ H _
  have z : (fun (v : V) (H1 : Hp) => ∃ dx fs, H1 p = some (.ins C dx fs) ∧ fs.length < 1000 ∧ WSs X rest D σ (upd H1 p (.ins C dx (putF f v fs)))) = fun v H1 => ∃ dx fs, H1 p = some (.ins C dx fs) ∧ fs.length < 1000 ∧ WSs X rest D σ (upd H1 p (.ins C dx (putF f v fs))) := rfl
  intro pins s I
  exact thn (hw pins s I) fun u s' ⟨v, H1, I1, rv, dx, fs, q1, q2, q3⟩ => ⟨v, H1, I1, rv, _, hs0, p, C, dx, fs, rfl, q1, hc, hn, q2, q3⟩
/-- [c] * n -/
theorem we_rep {xs : List Int} {i : Int} {Q : VK} (hs : Same G H) (ha : JR X σ G H a (rL rInt) xs) (hb : JR X σ G H b rInt i) (h0 : 0 ≤ i) (h1 : i ≤ 1000000) (hl : xs.length * i.toNat ≤ 1000000)
    (k : ∀ q H1, Gw G H G H1 → H1 q = none → Q (.ref q) (upd H1 q (.lst ((List.replicate i.toNat xs).flatten.map .int)))) : WE X (.BinOp a .Mult b pos) σ H Q := by
  refine WE.of (pe_op op_rep pe_w pe_w) ?_
  refine ha G H (Gw.refl hs) _ fun v G1 H1 w1 hv => ?_
  refine hb G1 H1 w1 _ fun u G2 H2 w2 hu => ?_
  obtain ⟨p, vs, rfl, hp, hvs⟩ := (rL rInt).m w2.g hv
  cases (show u = .int i from hu)
  have e := paired_ints hvs
  subst e
  refine ⟨p, i, xs.map .int, rfl, rfl, w2.s _ _ hp, by omega, by omega, szl (by rw [List.length_map]; exact hl), fun r hr => ?_⟩
  have z := k r H2 (w1.t w2).keep hr
  rw [List.map_flatten, List.map_replicate] at z
  exact z
theorem rep_one {n : Nat} {c : Int} : (List.replicate n [c]).flatten = List.replicate n c := by
  induction n with
  | zero => rfl
  | succ n ih => rw [List.replicate_succ, List.flatten_cons, ih]; rfl
theorem we_make {name : Str} {C : Addr} {k : Nat} {sp : Sp} {p : Pos} {Q : VK} (F : CalI X.prog X.w X.K X.mg X.base C k sp) (hr : Room (k + 1) X.A) (hm : X.mg name = some (.ref C)) (h : WA X (e :: es) σ H fun vs H1 => ∀ x dx, H1 x = none → H1 dx = none → dx ≠ x →
      sp (.ref x :: vs) (upd (upd H1 dx (.own x)) x (.ins C dx [])) (fun v H2 => v = .non ∧ Q (.ref x) H2) E0) (hg : Gl X name := by rfl) (hdb : (name == ("__debug__" : Str)) = false := by decide)
    (he : starEach (e :: es) X.env = (false, eval e X.env) :: starEach es X.env := by rfl) (hpl : (backTo pos (starEach es X.env)).any (·.1) = false := by rfl) : WE X (.Call (.Name name p) (e :: es) [] pos) σ H Q := by
  obtain ⟨f, fd, ps, F, hmk, hb⟩ := F
  refine WE.of (pe_make hmk F hr hg hm hb .nil pass0 pa_w hdb he hpl) ?_
  show WA X (e :: es) σ H fun vs H1 => ∀ x dx, H1 x = none → H1 dx = none → dx ≠ x → sp (.ref x :: (vs ++ [])) (upd (upd H1 dx (.own x)) x (.ins C dx [])) (fun v H2 => v = .non ∧ Q (.ref x) H2) E0
  have z : (fun (vs : List V) (H1 : Hp) => ∀ x dx, H1 x = none → H1 dx = none → dx ≠ x → sp (.ref x :: (vs ++ [])) (upd (upd H1 dx (.own x)) x (.ins C dx [])) (fun v H2 => v = .non ∧ Q (.ref x) H2) E0) = fun vs H1 => ∀ x dx, H1 x = none → H1 dx = none → dx ≠ x → sp (.ref x :: vs) (upd (upd H1 dx (.own x)) x (.ins C dx [])) (fun v H2 => v = .non ∧ Q (.ref x) H2) E0 := by
    funext vs H1
    rw [List.append_nil]
  rw [z]
  exact h
/-- what two numbers stand in a pair -/
def pairAt (G : Hp) : V → Int × Int
  | .ref t => match G t with
    | some (.tup [.int a, .int b]) => (a, b)
    | _ => (0, 0)
  | _ => (0, 0)
theorem pairAt_of {G : Hp} {v : V} {x : Mir.Pair} (h : rPair.r G v x) : ∃ t, v = .ref t ∧ G t = some (.tup [.int x.1, .int x.2]) ∧ pairAt G v = x := by
  obtain ⟨t, u, w, rfl, ht, h1, h2⟩ := h
  cases (show u = .int x.1 from h1)
  cases (show w = .int x.2 from h2)
  refine ⟨t, rfl, ht, ?_⟩
  unfold pairAt
  dsimp only
  rw [ht]
theorem pairs_at {G : Hp} : ∀ {vs : List V} {xs : List Mir.Pair}, Paired (rPair.r G) vs xs → vs.map (pairAt G) = xs
  | _, _, .nil => rfl
  | _, _, .cons r t => by
    rw [List.map_cons, pairs_at t]
    obtain ⟨_, _, _, e⟩ := pairAt_of r
    rw [e]
theorem pairs_back {G : Hp} : ∀ {ys : List V}, (∀ y ∈ ys, rPair.r G y (pairAt G y)) → Paired (rPair.r G) ys (ys.map (pairAt G))
  | [], _ => .nil
  | y :: ys, h => .cons (h y List.mem_cons_self) (pairs_back fun z hz => h z (List.mem_cons_of_mem _ hz))
theorem je_sorted {n : Str} {p : Pos} {xs : List Mir.Pair} (hn : n = "sorted") (hm : X.mg "sorted" = none) (ha : JR X σ G H a (rQ X.K rPair) xs) (hg : Gl X n := by rfl) (hs : starEach [a] X.env = (false, eval a X.env) :: starEach [] X.env := by rfl) : JR X σ G H (.Call (.Name n p) [a] [] pos) (rL rPair) (Mir.sortP xs) := fun G0 H0 w0 Q k => by
  subst hn
  refine WE.of (pe_callB cr_sortedPO hg hm (by decide +kernel) (pa_cons pe_w pa_nil hs) (he := hs)) ?_
  refine ha G0 H0 w0 _ fun v G1 H1 w1 hv => ?_
  obtain ⟨q, vs, rfl, h2, h3⟩ := hv
  have mem : ∀ y ∈ vs, ∃ x, rPair.r G1 y x := fun y hy => by
    obtain ⟨i, hi⟩ := List.mem_iff_getElem?.mp hy
    obtain ⟨x, _, r⟩ := Paired.get' h3 hi
    exact ⟨x, r⟩
  refine ⟨q, vs, pairAt G1, rfl, w1.s.seq h2, fun y hy => ?_, fun ys r hsd hst hr => ?_⟩
  · obtain ⟨x, hx⟩ := mem y hy
    obtain ⟨t, e1, e2, e3⟩ := pairAt_of hx
    rw [e3]
    exact ⟨t, e1, w1.s _ _ e2⟩
  · have n := Gw.new (o := .lst ys) w1.s hr
    refine k _ _ _ (w1.t n) ⟨r, ys, rfl, upd_same, ?_⟩
    have back : Paired (rPair.r G1) ys (ys.map (pairAt G1)) := pairs_back fun y hy => by
      obtain ⟨x, hx⟩ := mem y (hst.perm.mem_iff.mp hy)
      obtain ⟨_, _, _, e⟩ := pairAt_of hx
      rw [e]
      exact hx
    have e : ys.map (pairAt G1) = Mir.sortP xs := by
      refine Mir.sortP_uniq ?_ ?_
      · rw [← pairs_at h3]
        exact hst.perm.map _
      · rw [List.pairwise_map]
        refine List.Pairwise.imp (fun {a b} h => ?_) hsd
        rw [Mir.leP_iff]
        first
          | exact SrtO.lexB_no.mp h
          | exact SrtO.lexB_no.mp (show SrtO.lexB (pairAt G1 b) (pairAt G1 a) = false from h)
    rw [e] at back
    exact pm (fun _ _ z => rPair.m n.g z) back
end
/-- a new run -/
def RunI (C : Addr) : Sp := fun vs H Q _ => ∃ G x dx b ms vb vm, vs = [.ref x, vb, vm] ∧ Same G H ∧ H x = some (.ins C dx []) ∧ G x = none ∧ rBoard.r G vb b ∧ (rL rPair).r G vm ms ∧ Mir.Wb b ∧ Mir.Wm b ms ∧
  ∀ A H', A.p = x → Mv (fun a => a = x) G H G H' → RunAt C G H' A (Mir.newRun b ms) → (∀ a ∈ A.own, a ≠ x → H a = none) → Q .non H'
section
variable {P : Program} {w : World} {K : PySem.W.Frag} {mg : Str → Option Value} {base : Heap} {cPart cDraft cRun cBench : Addr}
theorem ok_Run (T : Top K mg cPart cDraft cRun cBench) : CalI P w K mg base cRun 1 (RunI cRun) := by
  refine T.i_Run.ok sc_Run___init__ (fun vs H Q E ⟨G, x, dx, b, ms, vb, vm, e, _⟩ => by rw [e]; rfl) fun f cdv Ar outer s H vs Q E hr ⟨G, x, dx, b, ms, vb, vm, e, hs, hx, hg, h_board, h_marbles, hwb, hwm, hk⟩ => ?_
  subst e
  have bl := hwb.le
  have ml := hwm.l
  have nx0 : ∀ {Hk G1 H1 : Hp} {o2 : HO} {a : Addr} {u : HO}, Gw G Hk G1 H1 → Hk a = some u → a ≠ x → upd H1 x o2 a = some u := fun w ha n => by
    rw [upd_ne n]
    exact w.h _ _ ha
  have nx1 : ∀ {Hk H1 : Hp} {q : Addr} {o o2 : HO} {a : Addr} {u : HO}, Gw G Hk G H1 → H1 q = none → Hk a = some u → a ≠ x → upd (upd H1 q o) x o2 a = some u := fun w hq ha n => by
    rw [upd_ne n, upd_ne (ne_of_none (w.h _ _ ha) hq)]
    exact w.h _ _ ha
  have mv0 : ∀ {Hk G1 H1 : Hp} {o1 o2 : HO}, Mv (fun a => a = x) G H G Hk → Gw G Hk G1 H1 → Hk x = some o1 → Mv (fun a => a = x) G H G (upd H1 x o2) := fun m w h => (m.t (Mv.of w.keep)).t (Mv.upd w.keep.s rfl hg (w.h _ _ h))
  have mv1 : ∀ {Hk H1 : Hp} {q : Addr} {o o1 o2 : HO}, Mv (fun a => a = x) G H G Hk → Gw G Hk G H1 → H1 q = none → Hk x = some o1 → Mv (fun a => a = x) G H G (upd (upd H1 q o) x o2) := fun {Hk H1 q o o1 o2} m w hq h => by
    have m2 := (Gw.mut (o := o) w.s hq)
    exact ((m.t (Mv.of w)).t (Mv.of m2)).t (Mv.upd m2.s rfl hg (m2.h _ _ (w.h _ _ h)))
  have atx : ∀ {Hk H1 : Hp} {q : Addr} {o o1 : HO}, Gw G Hk G H1 → H1 q = none → Hk x = some o1 → upd H1 q o x = some o1 := fun w hq h => by
    rw [upd_ne (ne_of_none (w.h _ _ h) hq)]
    exact w.h _ _ h
  have nq : ∀ {Hk H1 : Hp} {q a : Addr} {u : HO}, Gw G Hk G H1 → H1 q = none → Hk a = some u → a ≠ q := fun w hq h => ne_of_none (w.h _ _ h) hq
  have m0 : Mv (fun a => a = x) G H G H := Mv.of (Gw.refl hs)
  refine ws_fldN 0 rfl T.k_Run T.f_Run_board ((je_vO (z := vb) 1 rfl) G H (Gw.refl m0.s) _ fun v G1 H1 w1 hv => ?_)
  cases (show v = vb from hv)
  refine ⟨dx, _, w1.h _ _ hx, by decide, ?_⟩
  have m1 := mv0 (o2 := .ins cRun dx (putF "board" vb [])) m0 w1 hx
  refine ws_fldN 0 rfl T.k_Run T.f_Run_marbles ((je_vO (z := vm) 2 rfl) G _ (Gw.refl m1.s) _ fun v G2 H2 w2 hv => ?_)
  cases (show v = vm from hv)
  refine ⟨dx, _, w2.h _ _ upd_same, of_decide_eq_true rfl, ?_⟩
  have m2 := mv0 (o2 := .ins cRun dx (putF "marbles" vm (putF "board" vb []))) m1 w2 upd_same
  refine ws_fldN 0 rfl T.k_Run T.f_Run_tick ((je_int (i := 0)) G _ (Gw.refl m2.s) _ fun v G3 H3 w3 hv => ?_)
  cases (show v = .int 0 from hv)
  refine ⟨dx, _, w3.h _ _ upd_same, of_decide_eq_true rfl, ?_⟩
  have m3 := mv0 (o2 := .ins cRun dx (putF "tick" (.int 0) (putF "marbles" vm (putF "board" vb [])))) m2 w3 upd_same
  have h_board3 := rBoard.m m3.g h_board
  have h_marbles3 := (rL rPair).m m3.g h_marbles
  refine ws_fldN 0 rfl T.k_Run T.f_Run_places (we_rep (xs := [-1]) (i := (ms.length : Int)) m3.s (je_lst (jl_cons (je_gi T.c_WAITING) jl_nil)) (by have h_marbles := h_marbles3; exact (je_len rfl T.b_len (JR.q (je_v 2 rfl h_marbles)))) (by omega) (by omega) (by rw [List.length_singleton]; omega) fun q1 H4 w4 f4 => ?_)
  refine ⟨dx, _, atx w4 f4 upd_same, of_decide_eq_true rfl, ?_⟩
  have m4 := mv1 (o := .lst ((List.replicate (ms.length : Int).toNat [(-1 : Int)]).flatten.map .int)) (o2 := .ins cRun dx (putF "places" (.ref q1) (putF "tick" (.int 0) (putF "marbles" vm (putF "board" vb []))))) m3 w4 f4 upd_same
  have n1 : q1 ≠ x := (nq w4 f4 upd_same).symm
  have a1 : ∀ {o2 : HO}, upd (upd H4 q1 (.lst ((List.replicate (ms.length : Int).toNat [(-1 : Int)]).flatten.map .int))) x o2 q1 = some (.lst ((List.replicate (ms.length : Int).toNat [(-1 : Int)]).flatten.map .int)) := by
    intro o2
    rw [upd_ne n1]
    exact upd_same
  have e4 : H q1 = none := m3.d _ (w4.h.free f4)
  refine ws_fldN 0 rfl T.k_Run T.f_Run_held (we_rep (xs := [-1]) (i := (b.2.2.length : Int)) m4.s (je_lst (jl_cons (je_gi T.c_NOBODY) jl_nil)) (by have h_board := h_board3; exact (je_len rfl T.b_len (JR.q (je_p32 (je_v 1 rfl h_board))))) (by omega) (by omega) (by rw [List.length_singleton]; omega) fun q2 H5 w5 f5 => ?_)
  refine ⟨dx, _, atx w5 f5 upd_same, of_decide_eq_true rfl, ?_⟩
  have m5 := mv1 (o := .lst ((List.replicate (b.2.2.length : Int).toNat [(-1 : Int)]).flatten.map .int)) (o2 := .ins cRun dx (putF "held" (.ref q2) (putF "places" (.ref q1) (putF "tick" (.int 0) (putF "marbles" vm (putF "board" vb [])))))) m4 w5 f5 upd_same
  have n2 : q2 ≠ x := (nq w5 f5 upd_same).symm
  have n21 : q1 ≠ q2 := nq w5 f5 a1
  have e5 : H q2 = none := m4.d _ (w5.h.free f5)
  refine ws_fldN 0 rfl T.k_Run T.f_Run_counts (we_rep (xs := [0]) (i := (b.2.2.length : Int)) m5.s (je_lst (jl_cons je_int jl_nil)) (by have h_board := h_board3; exact (je_len rfl T.b_len (JR.q (je_p32 (je_v 1 rfl h_board))))) (by omega) (by omega) (by rw [List.length_singleton]; omega) fun q3 H6 w6 f6 => ?_)
  refine ⟨dx, _, atx w6 f6 upd_same, of_decide_eq_true rfl, ?_⟩
  have m6 := mv1 (o := .lst ((List.replicate (b.2.2.length : Int).toNat [(0 : Int)]).flatten.map .int)) (o2 := .ins cRun dx (putF "counts" (.ref q3) (putF "held" (.ref q2) (putF "places" (.ref q1) (putF "tick" (.int 0) (putF "marbles" vm (putF "board" vb []))))))) m5 w6 f6 upd_same
  have n3 : q3 ≠ x := (nq w6 f6 upd_same).symm
  have a25 : ∀ {o2 : HO}, upd (upd H5 q2 (.lst ((List.replicate (b.2.2.length : Int).toNat [(-1 : Int)]).flatten.map .int))) x o2 q2 = some (.lst ((List.replicate (b.2.2.length : Int).toNat [(-1 : Int)]).flatten.map .int)) := by
    intro o2
    rw [upd_ne n2]
    exact upd_same
  have a15 : ∀ {o2 : HO}, _ := fun {o2} => nx1 (o := .lst ((List.replicate (b.2.2.length : Int).toNat [(-1 : Int)]).flatten.map .int)) (o2 := o2) w5 f5 a1 n1
  have n31 : q1 ≠ q3 := nq w6 f6 a15
  have n32 : q2 ≠ q3 := nq w6 f6 a25
  have e6 : H q3 = none := m5.d _ (w6.h.free f6)
  refine ws_fldN 0 rfl T.k_Run T.f_Run_permits (WE.of pe_dnewT fun q4 f7 => ?_)
  have w7 := Gw.refl m6.s
  refine ⟨dx, _, atx w7 f7 upd_same, of_decide_eq_true rfl, ?_⟩
  have m7 := mv1 (o := .dT []) (o2 := .ins cRun dx (putF "permits" (.ref q4) (putF "counts" (.ref q3) (putF "held" (.ref q2) (putF "places" (.ref q1) (putF "tick" (.int 0) (putF "marbles" vm (putF "board" vb [])))))))) m6 w7 f7 upd_same
  have n4 : q4 ≠ x := (nq w7 f7 upd_same).symm
  have a36 : ∀ {o2 : HO}, upd (upd H6 q3 (.lst ((List.replicate (b.2.2.length : Int).toNat [(0 : Int)]).flatten.map .int))) x o2 q3 = some (.lst ((List.replicate (b.2.2.length : Int).toNat [(0 : Int)]).flatten.map .int)) := by
    intro o2
    rw [upd_ne n3]
    exact upd_same
  have a26 : ∀ {o2 : HO}, _ := fun {o2} => nx1 (o := .lst ((List.replicate (b.2.2.length : Int).toNat [(0 : Int)]).flatten.map .int)) (o2 := o2) w6 f6 a25 n2
  have a16 : ∀ {o2 : HO}, _ := fun {o2} => nx1 (o := .lst ((List.replicate (b.2.2.length : Int).toNat [(0 : Int)]).flatten.map .int)) (o2 := o2) w6 f6 a15 n1
  have n41 : q1 ≠ q4 := nq w7 f7 a16
  have n42 : q2 ≠ q4 := nq w7 f7 a26
  have n43 : q3 ≠ q4 := nq w7 f7 a36
  have e7 : H q4 = none := m6.d _ f7
  refine ws_fldN 0 rfl T.k_Run T.f_Run_rings (WE.of (pe_lst pa_nil) ⟨Nat.zero_le _, fun q5 f8 => ?_⟩)
  have w8 := Gw.refl m7.s
  refine ⟨dx, _, atx w8 f8 upd_same, of_decide_eq_true rfl, ?_⟩
  have m8 := mv1 (o := .lst []) (o2 := .ins cRun dx (rF ⟨x, dx, q1, q2, q3, q4, q5, vb, vm⟩ 0)) m7 w8 f8 upd_same
  have n5 : q5 ≠ x := (nq w8 f8 upd_same).symm
  have a47 : ∀ {H : Hp} {o2 : HO}, upd (upd H q4 (.dT [])) x o2 q4 = some (.dT []) := by
    intro H o2
    rw [upd_ne n4]
    exact upd_same
  have a37 : ∀ {o2 : HO}, _ := fun {o2} => nx1 (o := .dT []) (o2 := o2) w7 f7 a36 n3
  have a27 : ∀ {o2 : HO}, _ := fun {o2} => nx1 (o := .dT []) (o2 := o2) w7 f7 a26 n2
  have a17 : ∀ {o2 : HO}, _ := fun {o2} => nx1 (o := .dT []) (o2 := o2) w7 f7 a16 n1
  have n51 : q1 ≠ q5 := nq w8 f8 a17
  have n52 : q2 ≠ q5 := nq w8 f8 a27
  have n53 : q3 ≠ q5 := nq w8 f8 a37
  have n54 : q4 ≠ q5 := nq w8 f8 a47
  have e8 : H q5 = none := m7.d _ f8
  refine ws_nil (hk ⟨x, dx, q1, q2, q3, q4, q5, vb, vm⟩ _ rfl m8 ⟨upd_same, h_board, h_marbles, ?_, ?_, ?_, ⟨[], ?_, Nat.le_refl _, fun _ _ => rfl⟩, ⟨[], ?_, .nil⟩, ?_, ?_⟩ ?_)
  · refine (nx1 w8 f8 a17 n1).trans ?_
    rw [rep_one, Int.toNat_natCast]
    rfl
  · refine (nx1 w8 f8 a27 n2).trans ?_
    rw [rep_one, Int.toNat_natCast]
    rfl
  · refine (nx1 w8 f8 a37 n3).trans ?_
    rw [rep_one, Int.toNat_natCast]
    rfl
  · exact nx1 w8 f8 a47 n4
  · show upd (upd _ q5 (.lst [])) x _ q5 = _
    rw [upd_ne n5]
    exact upd_same
  · simp [RAdr.own, n1.symm, n2.symm, n3.symm, n4.symm, n5.symm, n21, n31, n32, n41, n42, n43, n51, n52, n53, n54]
  · intro a ha
    simp only [RAdr.own, List.mem_cons, List.not_mem_nil, or_false] at ha
    rcases ha with e | e | e | e | e | e <;> subst e
    · exact hg
    all_goals exact hs.free (by assumption)
  · intro a ha hne
    simp only [RAdr.own, List.mem_cons, List.not_mem_nil, or_false] at ha
    rcases ha with e | e | e | e | e | e <;> subst e
    · exact absurd rfl hne
    all_goals assumption
end
end Ck
end
section
set_option Elab.async false
set_option linter.all false
set_option maxRecDepth 100000
set_option maxHeartbeats 4000000
namespace Ck
open PySem PySem.Spec PyProof.Rows L2
open Mir (itm)
local macro_rules | `(tactic| walk_at "s") => `(tactic| first | assumption | omega | (simp only [onPre, List.length_map, List.length_drop, List.length_take, List.length_append, List.length_cons, List.length_nil, decide_eq_true_eq, decide_eq_false_iff_not] at *; omega))
local macro_rules | `(tactic| walk_at "b") => `(tactic| first | assumption | exact ⟨by assumption, by assumption⟩ | exact ⟨by omega, by omega⟩)
local macro_rules | `(tactic| walk_at "g") => `(tactic| first | assumption | omega)
section
variable {X : Cx} {σ : L2.St} {G H : Hp} {a b : Expr} {rest : List Stmt} {pos p2 pos' : Pos} {D : Ends} {cPart cDraft cRun cBench : Addr}
/-- run = Run(board, marbles) -/
theorem ws_newRun (T : Top X.K X.mg cPart cDraft cRun cBench) (F : CalI X.prog X.w X.K X.mg X.base cRun 1 (RunI cRun)) (i : Nat) {n : Str} {B : Mir.Board} {ms : List Mir.Pair} (hr : Room 2 X.A) (hs : Same G H) (ja : JA X σ G H [a, b] (a2 rBoard (rL rPair)) (B, ms, ())) (hb : Mir.Wb B) (hm : Mir.Wm B ms)
    (k : ∀ A G1 H1, Gw G H G1 H1 → RunAt cRun G1 H1 A (Mir.newRun B ms) → (∀ a ∈ A.own, H a = none) → WSs X rest D (σ.set i (some (.ref A.p))) H1) (hN : X.N.Nodup) (hi : X.N[i]? = some n := by rfl)
    (hx : Loc X.env.scope n := by first | exact Or.inl rfl | exact Or.inr rfl) (hsw : swapsWith (.Call (.Name "Run" p2) [a, b] [] pos') (some (.Name n pos)) pos.line X.env = pure false := by rfl) (hf : X.fn n = true ∨ X.env.scope.names.lookup n = some .local := by first | exact .inl rfl | exact .inr rfl) (hg : Gl X "Run" := by rfl)
    (he : starEach (a :: [b]) X.env = (false, eval a X.env) :: starEach [b] X.env := by rfl) (hpl : (backTo pos' (starEach [b] X.env)).any (·.1) = false := by rfl) {posS : Pos} (hsw : swapsWith (.Call (.Name "Run" p2) [a, b] [] pos') (some (.Name n pos)) posS.line X.env = pure false := by rfl) :
    WSs X (.Assign [.Name n pos] (.Call (.Name "Run" p2) [a, b] [] pos') posS :: rest) D σ H := by
  refine ws_setW i (we_make F hr T.g_Run ?_ hg (by decide) he hpl) hN hi hx hsw hf
  refine ja G H (Gw.refl hs) _ fun vs G1 H1 w1 hv => ?_
  obtain ⟨vb, _, rfl, hvb, vm, _, rfl, hvm, rfl⟩ := hv
  intro x dx fx fd hne
  have w2 := Gw.mut (o := .own x) w1.s fd
  have fx2 : upd H1 dx (.own x) x = none := by
    rw [upd_ne hne.symm]
    exact fx
  have w3 := Gw.mut (o := .ins cRun dx []) w2.s fx2
  have w := (w1.t w2).t w3
  refine ⟨G1, x, dx, B, ms, vb, vm, rfl, w3.s, upd_same, w1.s.free fx, hvb, hvm, hb, hm, fun A H' ea m hra hfr => ⟨rfl, ?_⟩⟩
  have fxH : H x = none := w1.free fx
  subst ea
  refine k A G1 H' (w.mv m (fun a e => by
    have e : a = A.p := e
    rw [e]
    exact fxH)) hra fun a ha => ?_
  by_cases e : a = A.p
  · rw [e]
    exact fxH
  · exact w.free (hfr a ha e)
end
section
variable {P : Program} {w : World} {K : PySem.W.Frag} {mg : Str → Option Value} {base : Heap} {cPart cDraft cRun cBench : Addr}
abbrev RunArg {β : Type} : Mir.Board × List Mir.Pair × Int × β → Prop := fun x => Mir.Wb x.1 ∧ Mir.Wm x.1 x.2.1 ∧ 0 ≤ x.2.2.1 ∧ x.2.2.1 ≤ 40
theorem ok_ringing_of (T : Top K mg cPart cDraft cRun cBench) : Cal P w K mg base "ringing_of" 8 (Ct (a3 rBoard (rL rPair) rInt) (onPre RunArg) (rL rPair) fun x => Mir.ringingOf x.1 x.2.1 x.2.2.1) := by
  refine T.d_ringing_of.ct sc_ringing_of rfl fun f cdv Ar outer s G H vs x Q E hr hs ha hp hk => ?_
  obtain ⟨b, ms, hz, _⟩ := x
  obtain ⟨vb, _, rfl, h_board, vm, _, rfl, h_marbles, _, _, rfl, rfl, rfl⟩ := ha
  obtain ⟨hwb, hwm, h0, h40⟩ := hp
  dsimp only at h_board h_marbles hwb hwm h0 h40
  have nd := sc_ringing_of.nd
  refine ws_newRun T (ok_Run T) 3 (hr.mono (by decide)) hs (ja_cons (je_v 0 rfl h_board) (ja_cons (je_v 1 rfl h_marbles) ja_nil)) hwb hwm (fun A G1 H1 w1 h_run hfr => ?_) nd
  have wf0 := Mir.newRun_wf hwb hwm
  have sz0 : Mir.Sz (Mir.newRun b ms) = 0 := rfl
  refine ws_forR 4 w1.s T.b_range (je_vI 2 rfl) (by show _ ≤ hz ∧ hz ≤ _; omega) (fun i σ' G' H' => ∃ u, σ' = [some vb, some vm, some (.int hz), some (.ref A.p), u] ∧ Gw G H G' H' ∧ RunAt cRun G' H' A (Mir.iter Mir.tickOn i (Mir.newRun b ms))) (fun G2 H2 w2 => ⟨none, rfl, w1.t w2, h_run.gw w2⟩) ?_ ?_ rfl nd
  · rintro i σ' G' H' hi s1 s2 ⟨u, rfl, w', h_run⟩
    have hi : (i : Int) < hz := hi
    obtain ⟨h_wf, hsz, _, _⟩ := Mir.iterOn_ok wf0 i
    have tk : Mir.iter Mir.tickOn (i + 1) (Mir.newRun b ms) = Mir.tickOn (Mir.iter Mir.tickOn i (Mir.newRun b ms)) := Mir.iter_succ _ _ _
    generalize hri : Mir.iter Mir.tickOn i (Mir.newRun b ms) = r at *
    refine ws_when s2 (jt_not (jt_v (je_call (ok_is_over T) (hr.mono (by decide)) (ja_cons (je_vR 3 rfl h_run) ja_nil) (fun _ _ wq => ⟨h_run.gw wq, h_wf⟩)))) (fun hb H2 w2 => ?_) (fun hb H2 w2 => ?_)
    · have h_run := h_run.gw w2
      refine ws_do (we_callR (ok_do_tick T) (hr.mono (by decide)) w2.s (ja_cons (je_vR 3 rfl h_run) ja_nil) (fun _ _ wq => ⟨⟨h_run.gw wq, h_wf⟩, by show Mir.Sz r < _; omega⟩) fun v G3 H3 m3 hrun3 hv3 => ws_nil (ws_nil ⟨G3, w2.g.trans m3.g, m3.s, _, rfl, (w'.t w2).mv m3 hfr, ?_⟩))
      rw [tk, show Mir.tickOn r = Mir.doTick r by unfold Mir.tickOn; exact if_pos hb]
      exact hrun3
    · refine ws_nil ⟨G', w2.g, w2.s, _, rfl, w'.t w2, ?_⟩
      rw [tk, show Mir.tickOn r = r by unfold Mir.tickOn; exact if_neg (bno hb)]
      exact h_run.gw w2
  · rintro σ' G' H' s1 s2 ⟨u, rfl, w', h_run⟩
    obtain ⟨us, hus, hpv⟩ := h_run.rl
    have g0 := h_run.gn A.rl (by simp)
    have w2 := w'.frz (hfr A.rl (by simp)) g0 hus
    have sg := Same.new (o := .lst us) g0
    refine ws_ret w2.s (je_sorted (xs := (Mir.iter Mir.tickOn hz.toNat (Mir.newRun b ms)).rings) rfl T.b_sorted (JR.q (JR.to (je_fld (R := rV) (x := .ref A.rl) (je_vO 3 rfl) h_run.o T.k_Run T.f_Run_rings rF_rings rfl) fun G3 v s3 h => ⟨A.rl, us, h, s3 _ _ upd_same, pm (fun _ _ z => rPair.m (sg.trans s3) z) hpv⟩))) (fun v G3 H3 w3 h => hk v G3 H3 (w2.t w3) h)
theorem ok_path_of (T : Top K mg cPart cDraft cRun cBench) : Cal P w K mg base "path_of" 8 (Ct (a4 rBoard (rL rPair) rInt rInt) (onPre fun x => RunArg x ∧ 0 ≤ x.2.2.2.1 ∧ x.2.2.2.1 < (x.2.1.length : Int)) (rL rInt) fun x => Mir.pathOf x.1 x.2.1 x.2.2.1 x.2.2.2.1) := by
  refine T.d_path_of.ct sc_path_of rfl fun f cdv Ar outer s G H vs x Q E hr hs ha hp hk => ?_
  obtain ⟨b, ms, hz, m, _⟩ := x
  obtain ⟨vb, _, rfl, h_board, vm, _, rfl, h_marbles, _, _, rfl, rfl, _, _, rfl, rfl, rfl⟩ := ha
  obtain ⟨⟨hwb, hwm, h0, h40⟩, hm0, hm1⟩ := hp
  dsimp only at h_board h_marbles hwb hwm h0 h40 hm0 hm1
  have nd := sc_path_of.nd
  refine ws_newRun T (ok_Run T) 4 (hr.mono (by decide)) hs (ja_cons (je_v 0 rfl h_board) (ja_cons (je_v 1 rfl h_marbles) ja_nil)) hwb hwm (fun A G1 H1 w1 h_run hfr => ?_) nd
  have wf0 := Mir.newRun_wf hwb hwm
  have sz0 : Mir.Sz (Mir.newRun b ms) = 0 := rfl
  refine ws_newL 5 (fun pf hf => ?_) nd
  have nin := h_run.notIn hf
  have hf0 := w1.free hf
  have g1 : G1 pf = none := w1.s.free hf
  have h_run := h_run.gw (Gw.mut (o := .lst []) w1.s hf)
  have w1 := w1.t (Gw.mut (o := .lst []) w1.s hf)
  refine ws_forR 6 w1.s T.b_range (je_vI 2 rfl) (by show _ ≤ hz ∧ hz ≤ _; omega) (fun i σ' G' H' => ∃ u, σ' = [some vb, some vm, some (.int hz), some (.int m), some (.ref A.p), some (.ref pf), u] ∧ Gw G H G' H' ∧ RunAt cRun G' H' A (Mir.iter (Mir.path1 m) i (Mir.newRun b ms, [])).1 ∧ G' pf = none ∧ H' pf = some (.lst ((Mir.iter (Mir.path1 m) i (Mir.newRun b ms, [])).2.map .int))) (fun G2 H2 w2 => ⟨none, rfl, w1.t w2, h_run.gw w2, w2.out g1 upd_same, w2.h _ _ upd_same⟩) ?_ ?_ rfl nd
  · rintro i σ' G' H' hi s1 s2 ⟨u, rfl, w', h_run, gf, hvf⟩
    have hi : (i : Int) < hz := hi
    obtain ⟨h_wf, hsz, hbd, hms⟩ := Mir.iterDo_ok wf0 i
    rw [← Mir.path1_fst m i (Mir.newRun b ms, [])] at h_wf hsz hbd hms
    have hlen := Mir.path_len m i (Mir.newRun b ms, [])
    have tk : Mir.iter (Mir.path1 m) (i + 1) (Mir.newRun b ms, []) = Mir.path1 m (Mir.iter (Mir.path1 m) i (Mir.newRun b ms, [])) := Mir.iter_succ _ _ _
    generalize hri : Mir.iter (Mir.path1 m) i (Mir.newRun b ms, []) = z at *
    obtain ⟨r, ns⟩ := z
    dsimp only at *
    have hms : r.marbles = ms := hms
    have hlen : ns.length ≤ i := by simpa using hlen
    refine ws_do (we_callR (ok_do_tick T) (hr.mono (by decide)) s2 (ja_cons (je_vR 4 rfl h_run) ja_nil) (fun _ _ wq => ⟨⟨h_run.gw wq, h_wf⟩, by show Mir.Sz r < _; omega⟩) fun v G3 H3 m3 hrun3 hv3 => ?_)
    obtain ⟨h_wf3, _, _, hms3, _⟩ := Mir.doTick_ok h_wf
    have pl := h_wf3.pl
    have h_run : RunAt cRun G3 H3 A (Mir.doTick r) := hrun3
    have w3 := w'.mv m3 hfr
    have gf3 := m3.out nin gf hvf
    have hvf3 := m3.h _ _ nin hvf
    have hpl : m < ((Mir.doTick r).places.length : Int) := by rw [pl, hms3, hms]; exact hm1
    generalize hq : Mir.doTick r = q at *
    have e1 : Mir.path1 m (r, ns) = (q, if decide (0 ≤ itm 0 q.places m) then ns ++ [itm 0 q.places m] else ns) := by unfold Mir.path1; dsimp only; rw [hq]
    refine ws_when w3.s (jt_c (jc_ge (je_run_places T h_run (je_vO 4 rfl) (je_vI 3 rfl) (by walk_at "s") (by walk_at "s")) je_int)) (fun hb H4 w4 => ?_) (fun hb H4 w4 => ?_)
    · have h_run := h_run.gw w4
      refine ws_app w4.s (je_vO 5 rfl) (w4.h _ _ hvf3) (je_run_places T h_run (je_vO 4 rfl) (je_vI 3 rfl) (by walk_at "s") (by walk_at "s")) (by rw [List.length_map]; omega) fun v G5 H5 w5 hv => ?_
      cases (show v = .int (itm 0 q.places m) from hv)
      have w45 := w4.t w5
      have g5 := w45.out gf3 hvf3
      refine ws_nil (ws_nil ⟨G5, m3.g.trans w45.g, ((w3.t w45).set hf0 g5).s, _, rfl, (w3.t w45).set hf0 g5, ?_, g5, ?_⟩)
      · rw [tk, e1]
        exact (h_run.gw w5).other nin
      · have hb : decide (0 ≤ itm 0 q.places m) = true := hb
        rw [tk, e1, if_pos hb, upd_same, List.map_append]
        rfl
    · have hb : decide (0 ≤ itm 0 q.places m) = false := hb
      refine ws_nil ⟨G3, m3.g, w4.s, _, rfl, w3.t w4, ?_, gf3, ?_⟩
      · rw [tk, e1]
        exact h_run.gw w4
      · rw [tk, e1, if_neg (bno hb)]
        exact w4.h _ _ hvf3
  · rintro σ' G' H' s1 s2 ⟨u, rfl, w', h_run, gf, hvf⟩
    exact ws_retL (R := rInt) (je_vO 5 rfl) w' hf0 gf hvf (ints_paired _) hk
end
end Ck
end
section
set_option Elab.async false
set_option linter.all false
set_option maxRecDepth 100000
set_option maxHeartbeats 4000000
namespace Ck
open PySem PySem.Spec PyProof.Rows L2
open Mir (itm)
local macro_rules | `(tactic| walk_at "s") => `(tactic| first | assumption | omega | (simp only [onPre, List.length_map, List.length_drop, List.length_take, List.length_append, List.length_cons, List.length_nil, decide_eq_true_eq, decide_eq_false_iff_not] at *; omega))
local macro_rules | `(tactic| walk_at "b") => `(tactic| first | assumption | exact ⟨by assumption, by assumption⟩ | exact ⟨by omega, by omega⟩)
section
variable {X : Cx} {σ : L2.St} {G H : Hp} {a elt it : Expr} {ifs : List Expr} {pos : Pos} {α β : Type} {R : SR α} {S : SR β}
/-- name = [elt for k, x in enumerate(xs) if c] -/
theorem ws_setLcE (i : Nat) {n0 n1 n2 : Str} (j1 j2 : Nat) {p0 p1 p2 ps fp pt posS : Pos} {kk : Nat} {scope : Scope} {c : Expr} {rest : List Stmt} {D : Ends} {xs : List α} {p : Int × α → Bool} {f : Int × α → β} (hs : Same G H) (hc : X.calm = true) (hN : X.N.Nodup) (hm : X.mg "enumerate" = none) (hi : JR X σ G H a (rQ X.K R) xs) (ok : BlkOk X.N X.env.scope scope [(n1, j1), (n2, j2)])
    (hl : xs.length ≤ 1000000)
    (hb : ∀ (i : Nat) (x : α) (v : V) G3 H3, xs[i]? = some x → Gw G H G3 H3 → R.r G3 v x → Lcb X (((wipe σ [j1, j2]).set j1 (some (.int (i : Int)))).set j2 (some v)) G3 H3 scope elt [c] S (p ((i : Int), x)) (f ((i : Int), x)))
    (k : ∀ v G1 H1, Gw G H G1 H1 → (rL S).r G1 v (((Mir.enumL 0 xs).filter p).map f) → WSs X rest D (σ.set i (some v)) H1)
    (hi0 : X.N[i]? = some n0 := by rfl) (hyl : X.env.scope.names.lookup n0 = some .local := by rfl)
    (hsw : swapsWith (.ListComp elt [⟨.Tuple [.Name n1 p1, .Name n2 p2] kk pt, .Call (.Name "enumerate" ps) [a] [] fp, [c], 0⟩] scope pos) (some (.Name n0 p0)) posS.line X.env = pure true := by rfl)
    (hg1 : Blk X scope fun B => PG B (.Name n1 p1) (gName j1) := by exact fun _ _ _ _ _ => pg_name (by assumption) rfl (Or.inl rfl)) (hg2 : Blk X scope fun B => PG B (.Name n2 p2) (gName j2) := by exact fun _ _ _ _ _ => pg_name (by assumption) rfl (Or.inl rfl))
    (hwp : ∀ v w, wipe (((wipe σ [j1, j2]).set j1 (some v)).set j2 (some w)) [j1, j2] = wipe σ [j1, j2] := by intro _ _; rfl)
    (hgl : Gl X "enumerate" := by rfl) (hs1 : starEach [a] X.env = (false, eval a X.env) :: starEach [] X.env := by rfl) (hs2 : starEach [a] X.env = [(false, eval a X.env)] := by rfl)
    (hn : Blk X scope fun B => (assignEach [.Name n1 p1, .Name n2 p2] B.env).length = 2 := by exact fun _ _ _ _ _ => rfl) (hsi : Blk X scope fun B => (assignEach [.Name n1 p1, .Name n2 p2] B.env).findIdx? (·.1) = none := by exact fun _ _ _ _ _ => rfl)
    (hc1 : Blk X scope fun B => (assignEach (.Name n1 p1 :: [.Name n2 p2]) B.env).map (·.2) = assign (.Name n1 p1) B.env :: (assignEach [.Name n2 p2] B.env).map (·.2) := by exact fun _ _ _ _ _ => rfl) (hc2 : Blk X scope fun B => (assignEach (.Name n2 p2 :: []) B.env).map (·.2) = assign (.Name n2 p2) B.env :: (assignEach [] B.env).map (·.2) := by exact fun _ _ _ _ _ => rfl)
    (hfs : ∀ x, foldedSetIterable (.Call (.Name "enumerate" ps) [a] [] fp) X.env x = pure x := by intro _; rfl) :
    WSs X (.Assign [.Name n0 p0] (.ListComp elt [⟨.Tuple [.Name n1 p1, .Name n2 p2] kk pt, .Call (.Name "enumerate" ps) [a] [] fp, [c], 0⟩] scope pos) posS :: rest) D σ H := by
  refine WSs.cons (ps_setLc (tt := tIfs X scope [c]) (te := fun σ H Q => Blk X scope fun B => WE B elt σ H Q) (g := gTup X.K 2 (gCons (gName j1) (gCons (gName j2) gNil))) (wi := iEnum X.K (WA X [a])) hc hN hi0 hyl hsw (pi_enum hgl hm pa_w hs2) ok
    (fun s H C cl fp => pg_tup hc (pgs_cons (hg1 s H C cl fp) (pgs_cons (hg2 s H C cl fp) pgs_nil (hc2 s H C cl fp)) (hc1 s H C cl fp)) (hn s H C cl fp) (hsi s H C cl fp)) (fun s H C cl fp => pts_one ⟨fun pins s' σ H' Q I h => h s H C cl fp pins s' I⟩) (fun s H C cl fp => ⟨fun pins s' σ H' Q I h => h s H C cl fp pins s' I⟩) hfs) ?_
  refine lc_genT (S := S) (p := p) (f := f) (G := G) (H := H) (xs := Mir.enumL 0 xs) (own := [(n1, j1), (n2, j2)]) (ifs := [c]) (.inr ⟨c, rfl⟩) (by rw [Mir.enumL_len]; exact hl) (fun G0 H0 w0 Rr hR => ja_cons hi ja_nil hs1 G0 H0 w0 _ fun vs G1 H1 w1 hv => ?_) G H (Gw.refl hs) _ (fun v G1 H1 w hv => k v G1 H1 w hv)
  obtain ⟨_, _, rfl, hv, rfl⟩ := hv
  obtain ⟨q, vs, rfl, hq, hpr⟩ := hv
  refine ⟨q, vs, rfl, w1.s.seq hq, hR _ G1 H1 w1 ⟨_, _, by rw [Mir.enumL_len, ← Paired.len hpr]; exact walk_enum, fun H' s => s.seq hq, ?_⟩⟩
  rintro i z u H' H2 G' hx w' ⟨T, y, u', rfl, hT, rfl, e1, e2⟩
  cases e1
  obtain ⟨z1, hz2⟩ := Mir.enumL_get xs 0 i z hx
  obtain ⟨u2, hu2, ru⟩ := Paired.get hpr hz2
  have e2 : vs[i]? = some u' := e2
  rw [hu2] at e2
  cases e2
  have w2 := Gw.mut (o := .tup [.int (i : Int), u']) w'.s hT
  refine ⟨G', w2, fun QQ hk => ⟨T, [.int (i : Int), u'], rfl, SqT.of upd_same, rfl, _, _, rfl, _, _, rfl, rfl, hk _ (hwp _ _) fun G3 H3 w3 => ?_⟩⟩
  have ez : z = ((i : Int), z.2) := Prod.ext (by rw [z1, Nat.zero_add]) rfl
  rw [ez]
  exact hb i z.2 u' G3 H3 hz2 (((w0.t w1).t (w'.t w2)).t w3) (R.m ((w'.t w2).t w3).g ru)
end
section
variable {P : Program} {w : World} {K : PySem.W.Frag} {mg : Str → Option Value} {base : Heap} {cPart cDraft cRun cBench : Addr}
theorem ok_changed_board (T : Top K mg cPart cDraft cRun cBench) : Cal P w K mg base "changed_board" 2 (Ct (a3 rBoard rInt rInt) (onPre fun x => Mir.Wb x.1 ∧ 0 ≤ x.2.1 ∧ x.2.1 < (x.1.2.2.length : Int)) rBoard fun x => Mir.changedBoard x.1 x.2.1 x.2.2.1) := by
  refine T.d_changed_board.ct sc_changed_board rfl fun f cdv Ar outer s G H vs x Q E hr hs ha hp hk => ?_
  obtain ⟨b, p, n, _⟩ := x
  obtain ⟨vb, _, rfl, h_board, _, _, rfl, rfl, _, _, rfl, rfl, rfl⟩ := ha
  obtain ⟨h_wb, hp0, hp1⟩ := hp
  dsimp only at h_board h_wb hp0 hp1
  have bl := h_wb.le
  have nd := sc_changed_board.nd
  refine ws_un3 3 4 5 hs (je_v 0 rfl h_board) rfl nd (fun v1 v2 v3 G1 H1 w1 e1 e2 h_cells => ?_)
  cases (show v1 = .int b.1 from e1)
  cases (show v2 = .int b.2.1 from e2)
  have h_cells : (rL rCell).r G1 v3 b.2.2 := h_cells
  exact ws_ret w1.s (je_t3 (je_vI 3 rfl) (je_vI 4 rfl) (je_cat (je_cat (je_sT (JR.q (je_v 5 rfl h_cells)) (je_vI 1 rfl) (by walk_at "s")) (je_lst (jl_cons (je_call (ok_cell_of T) (hr.mono (by decide)) (ja_cons (je_vI 2 rfl) ja_nil) (fun _ _ _ => trivial)) jl_nil)) (by walk_at "s")) (je_sD (JR.q (je_v 5 rfl h_cells)) (je_add (je_vI 1 rfl) je_int) (by walk_at "s")) (by walk_at "s"))) fun v G' H' w2 h => hk v G' H' (w1.t w2) h
theorem ok_all_changes (T : Top K mg cPart cDraft cRun cBench) : Cal P w K mg base "all_changes" 1 (Ct (a2 rBoard (rL rInt)) (onPre fun x => Mir.Wb x.1 ∧ x.2.1.length ≤ 12) (rL rPair) fun x => Mir.allChanges x.1 x.2.1) := by
  refine T.d_all_changes.ct sc_all_changes rfl fun f cdv Ar outer s G H vs x Q E hr hs ha hp hk => ?_
  obtain ⟨b, pal, _⟩ := x
  obtain ⟨vb, _, rfl, h_board, vp, _, rfl, h_palette, rfl⟩ := ha
  obtain ⟨h_wb, h_pal⟩ := hp
  dsimp only at h_board h_wb h_pal h_palette
  have bl := h_wb.le
  have nd := sc_all_changes.nd
  refine ws_newL 2 (fun pf hf => ?_) nd
  have g0 := hs.free hf
  have w1 := Gw.mut (o := .lst []) hs hf
  refine ws_forE (gx := gName 4) 3 w1.s T.b_enumerate (JR.q (je_p32 (je_v 0 rfl h_board))) rfl nd (pg_name nd rfl (by first | exact Or.inl rfl | exact Or.inr rfl)) (fun i σ' G' H' => ∃ us u1 u2 u3, σ' = [some vb, some vp, some (.ref pf), u1, u2, u3] ∧ Gw G H G' H' ∧ G' pf = none ∧ H' pf = some (.lst us) ∧ Paired (rPair.r G') us (Mir.allChangesFrom pal 0 (b.2.2.take i)))
    (fun G1 H1 w2 => ⟨[], none, none, none, rfl, w1.t w2, w2.out g0 upd_same, w2.h _ _ upd_same, .nil⟩) ?_ (fun i σ' G' H' H2 ⟨us, u1, u2, u3, e, w', gf, hvf, hp⟩ w2 => ⟨us, u1, u2, u3, e, w'.t w2, w2.out gf hvf, w2.h _ _ hvf, hp⟩) ?_
  · rintro i c v σ' G' H' hx s1 s2 ⟨us, u1, u2, u3, rfl, w', gf, hvf, hp⟩ h_cell QQ hQ
    have hi : i < b.2.2.length := (List.getElem?_eq_some_iff.mp hx).1
    have h_palette := (rL rInt).m s1 (show (rL rInt).r G vp pal from h_palette)
    have tk : Mir.allChangesFrom pal 0 (b.2.2.take (i + 1)) = Mir.allChangesFrom pal 0 (b.2.2.take i) ++ Mir.changesAt pal i c := by
      rw [take_snoc hx, Mir.allChanges_snoc, List.length_take, Nat.zero_add, Nat.min_eq_left (by omega)]
    have l1 := Mir.allChanges_len pal (b.2.2.take i) 0
    have l2 := Mir.changesAt_len pal i c
    have l3 := Paired.len hp
    have l4 : (b.2.2.take i).length * pal.length ≤ 36 * 12 := Nat.mul_le_mul (by rw [List.length_take]; omega) h_pal
    refine hQ _ _ ?_
    have el : ((pal.filter fun s => !decide (s = c.1)).map fun s => ((i : Int), s)) = Mir.changesAt pal i c := rfl
    refine ws_ext (R := rPair) s2 (je_vO 2 rfl) hvf (JR.eq (je_lcF 5 (S := rPair) (p := fun s => !decide (s = c.1)) (f := fun s => ((i : Int), s)) rfl nd (JR.q (je_v 1 rfl h_palette)) (blkOk_by (N := n_all_changes) (sc := defScope s_all_changes) (by decide +kernel)) (by omega) ?_ ?_) el) (by omega) fun ws G5 H5 w5 hu => ?_
    · intro k s v G3 H3 hx w3 hv s0 Hb C cl fp
      cases (show v = .int s from hv)
      have h_cell := rCell.m w3.g h_cell
      exact (jt_c (jc_neI (je_vI 5 rfl) (je_p30 (je_v 4 rfl h_cell))))
    · intro k s v G3 H3 hx hp w3 hv s0 Hb C cl fp
      cases (show v = .int s from hv)
      exact (je_t2 (je_vI 3 rfl) (je_vI 5 rfl))
    have g5 := w5.out gf hvf
    refine ws_nil ⟨G5, w5.g, ((w'.t w5).set hf g5).s, us ++ ws, _, _, _, rfl, (w'.t w5).set hf g5, g5, upd_same, ?_⟩
    rw [tk]
    exact Paired.app (pm (fun _ _ z => rPair.m w5.g z) hp) hu
  · rintro σ' G' H' s1 s2 ⟨us, u1, u2, u3, rfl, w', gf, hvf, hp⟩
    rw [List.take_length] at hp
    exact ws_retL (R := rPair) (je_vO 2 rfl) w' hf gf hvf hp hk
theorem ok_ringing_with (T : Top K mg cPart cDraft cRun cBench) : Cal P w K mg base "ringing_with" 9 (Ct (a4 rBoard (rL rPair) rInt rPair) (onPre fun x => RunArg x ∧ 0 ≤ x.2.2.2.1.1 ∧ x.2.2.2.1.1 < (x.1.2.2.length : Int)) (rL rPair) fun x => Mir.ringingWith x.1 x.2.1 x.2.2.1 x.2.2.2.1) := by
  refine T.d_ringing_with.ct sc_ringing_with rfl fun f cdv Ar outer s G H vs x Q E hr hs ha hp hk => ?_
  obtain ⟨b, ms, hz, c, _⟩ := x
  obtain ⟨vb, _, rfl, h_board, vm, _, rfl, h_marbles, _, _, rfl, rfl, vc, _, rfl, h_change, rfl⟩ := ha
  obtain ⟨⟨h_wb, hwm, h0, h40⟩, hp0, hp1⟩ := hp
  dsimp only at h_board h_marbles h_change h_wb hwm h0 h40 hp0 hp1
  have h_arg : RunArg (Mir.changedBoard b c.1 c.2, ms, hz, ()) := ⟨Mir.wb_changed h_wb hp0 hp1, Mir.wm_changed hwm, h0, h40⟩
  exact ws_ret hs (je_call (ok_ringing_of T) (hr.mono (by decide)) (ja_cons (je_call (ok_changed_board T) (hr.mono (by decide)) (ja_cons (je_v 0 rfl h_board) (ja_cons (je_p20 (je_v 3 rfl h_change)) (ja_cons (je_p21 (je_v 3 rfl h_change)) ja_nil))) (fun _ _ _ => ⟨h_wb, by walk_at "b"⟩)) (ja_cons (je_v 1 rfl h_marbles) (ja_cons (je_vI 2 rfl) ja_nil))) (fun _ _ _ => h_arg)) hk
theorem ok_repairs_of (T : Top K mg cPart cDraft cRun cBench) : Cal P w K mg base "repairs_of" 10 (Ct (a5 rBoard (rL rPair) rInt (rL rInt) (rL rPair)) (onPre fun x => RunArg x ∧ x.2.2.2.1.length ≤ 12) (rL rPair) fun x => Mir.repairsOf x.1 x.2.1 x.2.2.1 x.2.2.2.1 x.2.2.2.2.1) := by
  refine T.d_repairs_of.ct sc_repairs_of rfl fun f cdv Ar outer s G H vs x Q E hr hs ha hp hk => ?_
  obtain ⟨b, ms, hz, pal, tg, _⟩ := x
  obtain ⟨vb, _, rfl, h_board, vm, _, rfl, h_marbles, _, _, rfl, rfl, vp, _, rfl, h_palette, vt, _, rfl, h_target, rfl⟩ := ha
  obtain ⟨h_arg, h_pal⟩ := hp
  dsimp only at h_board h_marbles h_palette h_target h_arg h_pal
  have h_wb : Mir.Wb b := h_arg.1
  have bl := h_wb.le
  have nd := sc_repairs_of.nd
  refine ws_set 5 hs (je_sorted rfl T.b_sorted (JR.q (je_v 4 rfl h_target))) (fun v1 G1 H1 w1 h_due => ?_) nd
  have h_board := rBoard.m w1.g h_board
  have h_marbles := (rL rPair).m w1.g h_marbles
  have h_palette := (rL rInt).m w1.g h_palette
  refine ws_set 6 w1.s (je_call (ok_all_changes T) (hr.mono (by decide)) (ja_cons (je_v 0 rfl h_board) (ja_cons (je_v 3 rfl h_palette) ja_nil)) (fun _ _ _ => ⟨h_wb, h_pal⟩)) (fun v2 G2 H2 w2 h_changes => ?_) nd
  have h_changes : (rL rPair).r G2 v2 (Mir.allChanges b pal) := h_changes
  have l1 := Mir.allChanges_len pal b.2.2 0
  have l2 : b.2.2.length * pal.length ≤ 36 * 12 := Nat.mul_le_mul (by omega) h_pal
  have w12 := w1.t w2
  refine ws_retE w12.s (je_lcP 7 (p := fun c => decide (Mir.ringingWith b ms hz c = Mir.sortP tg)) rfl nd (JR.q (je_v 6 rfl h_changes)) (blkOk_by (N := n_repairs_of) (sc := defScope s_repairs_of) (by decide +kernel)) (by show (Mir.allChangesFrom pal 0 b.2.2).length ≤ _; omega) ?_ ?_) rfl (fun v G' H' w3 h => hk v G' H' (w12.t w3) h)
  · intro i x v G3 H3 hx w3 h_change s Hb C cl fp
    have h_due := (rL rPair).m (w2.t w3).g (show (rL rPair).r G1 v1 (Mir.sortP tg) from h_due)
    have h_board := rBoard.m (w2.t w3).g h_board
    have h_marbles := (rL rPair).m (w2.t w3).g h_marbles
    obtain ⟨hp0, hp1, _⟩ := Mir.allChanges_mem pal b.2.2 0 (List.mem_of_getElem? hx)
    have hp0 : 0 ≤ x.1 := hp0
    have hp1 : x.1 < (b.2.2.length : Int) := by simpa using hp1
    refine jt_c (jc_eqD (R := rL rPair) (x := Mir.ringingWith b ms hz x) (y := Mir.sortP tg) ?_ ?_ hr.units)
    · exact JR.eq (je_call (ok_ringing_with T) (hr.mono (by decide)) (ja_cons (je_v 0 rfl h_board) (ja_cons (je_v 1 rfl h_marbles) (ja_cons (je_vI 2 rfl) (ja_cons (je_v 7 rfl h_change) ja_nil)))) (fun _ _ _ => ⟨h_arg, by walk_at "b"⟩)) rfl
    · exact (je_v 5 rfl h_due)
  · intro i x v G3 H3 hx hp w3 hv s Hb C cl fp
    exact je_v 7 rfl hv
theorem ok_noticeable_changes (T : Top K mg cPart cDraft cRun cBench) : Cal P w K mg base "noticeable_changes" 10 (Ct (a4 rBoard (rL rPair) rInt (rL rInt)) (onPre fun x => RunArg x ∧ x.2.2.2.1.length ≤ 12) (rL rPair) fun x => Mir.noticeable x.1 x.2.1 x.2.2.1 x.2.2.2.1) := by
  refine T.d_noticeable_changes.ct sc_noticeable_changes rfl fun f cdv Ar outer s G H vs x Q E hr hs ha hp hk => ?_
  obtain ⟨b, ms, hz, pal, _⟩ := x
  obtain ⟨vb, _, rfl, h_board, vm, _, rfl, h_marbles, _, _, rfl, rfl, vp, _, rfl, h_palette, rfl⟩ := ha
  obtain ⟨h_arg, h_pal⟩ := hp
  dsimp only at h_board h_marbles h_palette h_arg h_pal
  have h_wb : Mir.Wb b := h_arg.1
  have bl := h_wb.le
  have nd := sc_noticeable_changes.nd
  refine ws_set 4 hs (je_call (ok_ringing_of T) (hr.mono (by decide)) (ja_cons (je_v 0 rfl h_board) (ja_cons (je_v 1 rfl h_marbles) (ja_cons (je_vI 2 rfl) ja_nil))) (fun _ _ _ => h_arg)) (fun v1 G1 H1 w1 h_due => ?_) nd
  have h_board := rBoard.m w1.g h_board
  have h_marbles := (rL rPair).m w1.g h_marbles
  have h_palette := (rL rInt).m w1.g h_palette
  refine ws_set 5 w1.s (je_call (ok_all_changes T) (hr.mono (by decide)) (ja_cons (je_v 0 rfl h_board) (ja_cons (je_v 3 rfl h_palette) ja_nil)) (fun _ _ _ => ⟨h_wb, h_pal⟩)) (fun v2 G2 H2 w2 h_changes => ?_) nd
  have h_changes : (rL rPair).r G2 v2 (Mir.allChanges b pal) := h_changes
  have l1 := Mir.allChanges_len pal b.2.2 0
  have l2 : b.2.2.length * pal.length ≤ 36 * 12 := Nat.mul_le_mul (by omega) h_pal
  have w12 := w1.t w2
  refine ws_retE w12.s (je_lcP 6 (p := fun c => !decide (Mir.ringingWith b ms hz c = Mir.ringingOf b ms hz)) rfl nd (JR.q (je_v 5 rfl h_changes)) (blkOk_by (N := n_noticeable_changes) (sc := defScope s_noticeable_changes) (by decide +kernel)) (by show (Mir.allChangesFrom pal 0 b.2.2).length ≤ _; omega) ?_ ?_) rfl (fun v G' H' w3 h => hk v G' H' (w12.t w3) h)
  · intro i x v G3 H3 hx w3 h_change s Hb C cl fp
    have h_due := (rL rPair).m (w2.t w3).g (show (rL rPair).r G1 v1 (Mir.ringingOf b ms hz) from h_due)
    have h_board := rBoard.m (w2.t w3).g h_board
    have h_marbles := (rL rPair).m (w2.t w3).g h_marbles
    obtain ⟨hp0, hp1, _⟩ := Mir.allChanges_mem pal b.2.2 0 (List.mem_of_getElem? hx)
    have hp0 : 0 ≤ x.1 := hp0
    have hp1 : x.1 < (b.2.2.length : Int) := by simpa using hp1
    refine jt_c (jc_neD (R := rL rPair) (x := Mir.ringingWith b ms hz x) (y := Mir.ringingOf b ms hz) ?_ ?_ hr.units)
    · exact JR.eq (je_call (ok_ringing_with T) (hr.mono (by decide)) (ja_cons (je_v 0 rfl h_board) (ja_cons (je_v 1 rfl h_marbles) (ja_cons (je_vI 2 rfl) (ja_cons (je_v 6 rfl h_change) ja_nil)))) (fun _ _ _ => ⟨h_arg, by walk_at "b"⟩)) rfl
    · exact (je_v 4 rfl h_due)
  · intro i x v G3 H3 hx hp w3 hv s Hb C cl fp
    exact je_v 6 rfl hv
theorem ok_idle_places (T : Top K mg cPart cDraft cRun cBench) : Cal P w K mg base "idle_places" 10 (Ct (a3 rBoard (rL rPair) rInt) (onPre RunArg) (rL rInt) fun x => Mir.idlePlaces x.1 x.2.1 x.2.2.1) := by
  refine T.d_idle_places.ct sc_idle_places rfl fun f cdv Ar outer s G H vs x Q E hr hs ha hp hk => ?_
  obtain ⟨b, ms, hz, _⟩ := x
  obtain ⟨vb, _, rfl, h_board, vm, _, rfl, h_marbles, _, _, rfl, rfl, rfl⟩ := ha
  have h_arg : RunArg (b, ms, hz, ()) := hp
  dsimp only at h_board h_marbles
  have h_wb : Mir.Wb b := h_arg.1
  have bl := h_wb.le
  have nd := sc_idle_places.nd
  refine ws_set 3 hs (je_call (ok_ringing_of T) (hr.mono (by decide)) (ja_cons (je_v 0 rfl h_board) (ja_cons (je_v 1 rfl h_marbles) (ja_cons (je_vI 2 rfl) ja_nil))) (fun _ _ _ => h_arg)) (fun v1 G1 H1 w1 h_due => ?_) nd
  have h_board := rBoard.m w1.g h_board
  have h_marbles := (rL rPair).m w1.g h_marbles
  refine ws_setLcE 4 5 6 (S := rInt) (p := fun z => !decide (z.2.1 = 46)) (f := fun z => z.1) w1.s rfl nd T.b_enumerate (JR.q (je_p32 (je_v 0 rfl h_board))) (blkOk_by (N := n_idle_places) (sc := defScope s_idle_places) (by decide +kernel)) (by show b.2.2.length ≤ _; omega) ?_ (fun v2 G2 H2 w2 h_places => ?_)
  · intro i x v G3 H3 hx w3 h_cell s Hb C cl fp
    refine ⟨fun c hc => ?_, fun _ => je_vI 5 rfl⟩
    cases hc
    exact (jt_c (jc_neI (je_p30 (je_v 6 rfl h_cell)) (je_gi T.c_AIR)))
  have h_places : (rL rInt).r G2 v2 (Mir.notAirFrom 0 b.2.2) := by rw [Mir.notAir_enum]; exact h_places
  have l1 : (Mir.notAirFrom 0 b.2.2).length ≤ 36 := by
    rw [Mir.notAir_enum, List.length_map]
    have := List.length_filter_le (fun z : Int × Mir.Cell => !decide (z.2.1 = 46)) (Mir.enumL 0 b.2.2)
    rw [Mir.enumL_len] at this
    omega
  have w12 := w1.t w2
  refine ws_retE w12.s (je_lcP 5 (p := fun p => decide (Mir.ringingWith b ms hz (p, 46) = Mir.ringingOf b ms hz)) rfl nd (JR.q (je_v 4 rfl h_places)) (blkOk_by (N := n_idle_places) (sc := defScope s_idle_places) (by decide +kernel)) (by omega) ?_ ?_) rfl (fun v G' H' w3 h => hk v G' H' (w12.t w3) h)
  · intro i x v G3 H3 hx w3 hv s Hb C cl fp
    cases (show v = .int x from hv)
    have h_due := (rL rPair).m (w2.t w3).g (show (rL rPair).r G1 v1 (Mir.ringingOf b ms hz) from h_due)
    have h_board := rBoard.m (w2.t w3).g h_board
    have h_marbles := (rL rPair).m (w2.t w3).g h_marbles
    obtain ⟨hp0, hp1⟩ := Mir.notAir_mem b.2.2 (List.mem_of_getElem? hx)
    refine jt_c (jc_eqD (R := rL rPair) (x := Mir.ringingWith b ms hz (x, 46)) (y := Mir.ringingOf b ms hz) ?_ ?_ hr.units)
    · exact JR.eq (je_call (ok_ringing_with T) (hr.mono (by decide)) (ja_cons (je_v 0 rfl h_board) (ja_cons (je_v 1 rfl h_marbles) (ja_cons (je_vI 2 rfl) (ja_cons (je_t2 (je_vI 5 rfl) (je_gi T.c_AIR)) ja_nil)))) (fun _ _ _ => ⟨h_arg, by walk_at "b"⟩)) rfl
    · exact (je_v 3 rfl h_due)
  · intro i x v G3 H3 hx hp w3 hv s Hb C cl fp
    exact je_v 5 rfl hv
end
end Ck
end
section
set_option Elab.async false
set_option linter.all false
set_option maxRecDepth 100000
set_option maxHeartbeats 4000000
namespace Ck
open PySem PySem.Spec PyProof.Rows L2
open Mir (itm)
local macro_rules | `(tactic| walk_at "s") => `(tactic| first | assumption | omega | (simp only [onPre, List.length_map, List.length_drop, List.length_take, List.length_append, List.length_cons, List.length_nil, decide_eq_true_eq, decide_eq_false_iff_not] at *; omega))
local macro_rules | `(tactic| walk_at "b") => `(tactic| first | assumption | exact ⟨by assumption, by assumption⟩ | exact ⟨by omega, by omega⟩)
theorem pw_of {p : Mir.PartD} (h : Mir.Wp p) : Pw p := by
  have := h.le
  exact ⟨h.w.1, h.w.2, h.h.1, h.h.2, this.2.2, h.s.1, h.s.2⟩
/-- a promise of a def that changes a part -/
def CtP {α β : Type} (C : Addr) (B : AR α) (ad : α → Addr) (pre : Hp → Hp → α → Prop) (R : SR β) (g : α → Mir.PartD × β) : Sp := fun vs H Q _ => ∃ G x, Same G H ∧ B.r G vs x ∧ pre G H x ∧ G (ad x) = none ∧
  ∀ v G' H', Mv (fun a => a = ad x) G H G' H' → PartIn C G' H' (ad x) (g x).1 → G' (ad x) = none → R.r G' v (g x).2 → Q v H'
section
variable {X : Cx} {σ : L2.St} {G H : Hp} {e o : Expr} {es : List Expr} {pos apos : Pos} {α β : Type} {S : SR β}
theorem we_methP {B : AR α} {C : Addr} {name : Str} {k : Nat} {a : Addr} {p : Mir.PartD} {y : α} {Q : VK} {pl : Sem Bool} {pre : Hp → Hp → (Addr × Mir.PartD) × α → Prop} {g : (Addr × Mir.PartD) × α → Mir.PartD × β} (F : CalM X.prog X.w X.K X.mg X.base C name k (CtP C (aCons (rO Mir.PartD) B) (fun x => x.1.1) pre S g)) (hr : Room k X.A) (hc : Cls X.K C) (hs : Same G H) (ho : JR X σ G H o rV (.ref a)) (hp : PartIn C G H a p) (hg : G a = none)
    (ja : JA X σ G H (e :: es) B y) (hpre : ∀ G' H', Gw G H G' H' → pre G' H' ((a, p), y)) (kk : ∀ v G' H', Mv (fun x => x = a) G H G' H' → PartIn C G' H' a (g ((a, p), y)).1 → G' a = none → S.r G' v (g ((a, p), y)).2 → Q v H')
    (hl : ∀ vn w h vc s, (pF vn w h vc s).lookup name = none := by intro _ _ _ _ _; rfl)
    (hst : starEach (e :: es) X.env = (false, eval e X.env) :: starEach es X.env := by rfl) (hpl : (backTo pos (starEach es X.env)).any (·.1) = false := by rfl)
    (ht : eval (.Call (.Attribute o name apos) (e :: es) [] pos) X.env = (do
      let ov ← eval o X.env
      standAt apos.atName
      let (f, first) ← holding [ov] (getMethod ov name pl)
      callWith pos f first (backTo pos (starEach (e :: es) X.env)) (backToKw pos (keywordEach [] X.env))) := by rfl) : WE X (.Call (.Attribute o name apos) (e :: es) [] pos) σ H Q := by
  obtain ⟨dx, vn, vc, h1, h2, h3⟩ := hp
  refine we_meth F hr hc hs ho h1 (hl _ _ _ _ _) (fun H1 w1 => ?_) hst hpl ht
  refine JA.mono ja w1 G H1 (Gw.refl w1.s) _ fun vs G2 H2 w2 hv => ?_
  have w := w1.t w2
  have hp : PartIn C G H a p := ⟨dx, vn, vc, h1, h2, h3⟩
  exact ⟨G2, ((a, p), y), w2.s, ⟨_, vs, rfl, rfl, hv⟩, hpre _ _ w, w.out hg h1, fun v G' H' m hp' hg' hv' => kk v G' H' ((Mv.of w).t m) hp' hg' hv'⟩
end
/-- a new part -/
def PartI (C : Addr) : Sp := fun vs H Q _ => ∃ G x dx vn n w h, vs = [.ref x, vn, .int w, .int h] ∧ Same G H ∧ H x = some (.ins C dx []) ∧ G x = none ∧ (rL rInt).r G vn n ∧
  ∀ G' H', Mv (fun a => a = x) G H G' H' → PartIn C G' H' x ⟨n, w, h, [], 1⟩ → G' x = none → Q .non H'
section
variable {P : Program} {w : World} {K : PySem.W.Frag} {mg : Str → Option Value} {base : Heap} {cPart cDraft cRun cBench : Addr}
theorem ok_Part (T : Top K mg cPart cDraft cRun cBench) : CalI P w K mg base cPart 1 (PartI cPart) := by
  refine T.i_Part.ok sc_Part___init__ (fun vs H Q E ⟨G, x, dx, vn, n, w, h, e, _⟩ => by rw [e]; rfl) fun f cdv Ar outer s H vs Q E hr ⟨G, x, dx, vn, n, w, h, e, hs, hx, hg, h_name, hk⟩ => ?_
  subst e
  have m0 : Mv (fun a => a = x) G H G H := Mv.of (Gw.refl hs)
  refine ws_fld hs (je_vO (z := vn) 1 rfl) (fun H1 w1 => je_vO 0 rfl) hx T.k_Part T.f_Part_name (of_decide_eq_true rfl) (fun v G1 H1 w1 hv => ?_)
  cases (show v = vn from hv)
  have m1 := (m0.t (Mv.of w1.keep)).t (Mv.upd (o := .ins cPart dx (putF "name" vn [])) w1.keep.s rfl hg (w1.h _ _ hx))
  refine ws_fld m1.s (je_vI 2 rfl) (fun H1 w1 => je_vO 0 rfl) upd_same T.k_Part T.f_Part_width (of_decide_eq_true rfl) (fun v G2 H2 w2 hv => ?_)
  cases (show v = .int w from hv)
  have m2 := (m1.t (Mv.of w2.keep)).t (Mv.upd (o := .ins cPart dx (putF "width" (.int w) (putF "name" vn []))) w2.keep.s rfl hg (w2.h _ _ upd_same))
  refine ws_fld m2.s (je_vI 3 rfl) (fun H1 w1 => je_vO 0 rfl) upd_same T.k_Part T.f_Part_height (of_decide_eq_true rfl) (fun v G3 H3 w3 hv => ?_)
  cases (show v = .int h from hv)
  have m3 := (m2.t (Mv.of w3.keep)).t (Mv.upd (o := .ins cPart dx (putF "height" (.int h) (putF "width" (.int w) (putF "name" vn [])))) w3.keep.s rfl hg (w3.h _ _ upd_same))
  refine ws_fld m3.s (je_lst (R := rCell) jl_nil) (fun H1 w1 => je_vO 0 rfl) upd_same T.k_Part T.f_Part_cells (of_decide_eq_true rfl) (fun v G4 H4 w4 hv => ?_)
  have g4 := w4.out hg upd_same
  have m4 := (m3.t (Mv.of w4)).t (Mv.upd (o := .ins cPart dx (putF "cells" v (putF "height" (.int h) (putF "width" (.int w) (putF "name" vn []))))) w4.s rfl g4 (w4.h _ _ upd_same))
  refine ws_fld m4.s (je_int (i := 1)) (fun H1 w1 => je_vO 0 rfl) upd_same T.k_Part T.f_Part_many_sets (of_decide_eq_true rfl) (fun u G5 H5 w5 hu => ?_)
  cases (show u = .int 1 from hu)
  have m5 := (m4.t (Mv.of w5.keep)).t (Mv.upd (o := .ins cPart dx (pF vn w h v 1)) w5.keep.s rfl g4 (w5.h _ _ upd_same))
  exact ws_nil (hk G4 _ m5 ⟨dx, vn, v, upd_same, (rL rInt).m w4.g h_name, hv⟩ g4)
theorem ok_place (T : Top K mg cPart cDraft cRun cBench) : CalM P w K mg base cPart "place" 1 (CtP cPart (a3 (rO Mir.PartD) rInt rCell) (fun x => x.1.1) (fun G H x => PartIn cPart G H x.1.1 x.1.2 ∧ 0 ≤ x.2.1 ∧ (x.1.2.cells.length : Int) ≤ 576) rNon fun x => (Mir.placeC x.1.2 x.2.1 x.2.2.1, ())) := by
  refine T.m_Part_place.ok sc_Part_place (fun vs H Q E ⟨G, x, _, h, _⟩ => (AR.len _ h)) fun f cdv A outer s H vs Q E hr ⟨G, x, hs, ha, hp, hg, hk⟩ => ?_
  obtain ⟨⟨a, p⟩, at_, c, _⟩ := x
  obtain ⟨_, _, rfl, rfl, _, _, rfl, rfl, vc, _, rfl, h_cell, rfl⟩ := ha
  obtain ⟨h_self, h0, h1⟩ := hp
  dsimp only at h_self h0 h1 hg h_cell
  have hq := h_self
  obtain ⟨dx, vn, vl, q1, q2, q3⟩ := hq
  refine ws_fld hs (je_cat (je_cat (je_sT (JR.q (je_part_cells T h_self (je_vO 0 rfl))) (je_vI 1 rfl) (by walk_at "s")) (je_lst (jl_cons (je_v 2 rfl h_cell) jl_nil)) (by walk_at "s")) (je_sD (JR.q (je_part_cells T h_self (je_vO 0 rfl))) (je_add (je_vI 1 rfl) je_int) (by walk_at "s")) (by walk_at "s")) (fun H1 w1 => je_vO 0 rfl) q1 T.k_Part T.f_Part_cells (of_decide_eq_true rfl) (fun v G1 H1 w1 hv => ?_)
  have g1 := w1.out hg q1
  rw [pF_putc]
  exact ws_nil (hk .non G1 _ ((Mv.of w1).t (Mv.upd w1.s rfl g1 (w1.h _ _ q1))) ⟨dx, vn, v, upd_same, (rL rInt).m w1.g q2, hv⟩ g1 rfl)
theorem ok_add_row (T : Top K mg cPart cDraft cRun cBench) : CalM P w K mg base cPart "add_row" 1 (CtP cPart (a2 (rO Mir.PartD) (rL rCell)) (fun x => x.1.1) (fun G H x => PartIn cPart G H x.1.1 x.1.2 ∧ (x.1.2.cells.length : Int) ≤ 576 ∧ x.2.1.length ≤ 4000) rNon fun x => ({ x.1.2 with cells := x.1.2.cells ++ x.2.1 }, ())) := by
  refine T.m_Part_add_row.ok sc_Part_add_row (fun vs H Q E ⟨G, x, _, h, _⟩ => (AR.len _ h)) fun f cdv A outer s H vs Q E hr ⟨G, x, hs, ha, hp, hg, hk⟩ => ?_
  obtain ⟨⟨a, p⟩, cs, _⟩ := x
  obtain ⟨_, _, rfl, rfl, vc, _, rfl, h_cells, rfl⟩ := ha
  obtain ⟨h_self, h0, h1⟩ := hp
  dsimp only at h_self h0 h1 hg h_cells
  have hq := h_self
  obtain ⟨dx, vn, vl, q1, q2, q3⟩ := hq
  refine ws_fld hs (je_cat (je_part_cells T h_self (je_vO 0 rfl)) (je_v 1 rfl h_cells) (by walk_at "s")) (fun H1 w1 => je_vO 0 rfl) q1 T.k_Part T.f_Part_cells (of_decide_eq_true rfl) (fun v G1 H1 w1 hv => ?_)
  have g1 := w1.out hg q1
  rw [pF_putc]
  exact ws_nil (hk .non G1 _ ((Mv.of w1).t (Mv.upd w1.s rfl g1 (w1.h _ _ q1))) ⟨dx, vn, v, upd_same, (rL rInt).m w1.g q2, hv⟩ g1 rfl)
theorem ok_add_sets (T : Top K mg cPart cDraft cRun cBench) : CalM P w K mg base cPart "add_sets" 1 (CtP cPart (a2 (rO Mir.PartD) rInt) (fun x => x.1.1) (fun G H x => PartIn cPart G H x.1.1 x.1.2) rNon fun x => ({ x.1.2 with sets := x.1.2.sets + x.2.1 }, ())) := by
  refine T.m_Part_add_sets.ok sc_Part_add_sets (fun vs H Q E ⟨G, x, _, h, _⟩ => (AR.len _ h)) fun f cdv A outer s H vs Q E hr ⟨G, x, hs, ha, hp, hg, hk⟩ => ?_
  obtain ⟨⟨a, p⟩, n, _⟩ := x
  obtain ⟨_, _, rfl, rfl, _, _, rfl, rfl, rfl⟩ := ha
  have h_self : PartIn cPart G H a p := hp
  dsimp only at hg
  have hq := h_self
  obtain ⟨dx, vn, vl, q1, q2, q3⟩ := hq
  refine ws_fld hs (je_add (je_part_many_sets T h_self (je_vO 0 rfl)) (je_vI 1 rfl)) (fun H1 w1 => je_vO 0 rfl) q1 T.k_Part T.f_Part_many_sets (of_decide_eq_true rfl) (fun v G1 H1 w1 hv => ?_)
  cases (show v = .int (p.sets + n) from hv)
  have g1 := w1.out hg q1
  rw [pF_puts]
  exact ws_nil (hk .non G1 _ ((Mv.of w1).t (Mv.upd w1.s rfl g1 (w1.h _ _ q1))) ⟨dx, vn, vl, upd_same, (rL rInt).m w1.g q2, (rL rCell).m w1.g q3⟩ g1 rfl)
theorem ok_copy_into (T : Top K mg cPart cDraft cRun cBench) : Cal P w K mg base "copy_into" 4 (CtP cPart (a5 (rO Mir.PartD) (rO Mir.PartD) (rL rCell) rInt rInt) (fun x => x.1.1) (fun G H x => PartIn cPart G H x.1.1 x.1.2 ∧ PartIn cPart G G x.2.1.1 x.2.1.2 ∧ Mir.Wq x.1.2 ∧ Mir.Wq x.2.1.2) rInt fun x => Mir.copyInto x.1.2 x.2.1.2 x.2.2.1 x.2.2.2.1 x.2.2.2.2.1) := by
  refine T.d_copy_into.ok sc_copy_into (fun vs H Q E ⟨G, x, _, h, _⟩ => (AR.len _ h)) fun f cdv A outer s H vs Q E hr ⟨G, x, hs, ha, hp, hg, hk⟩ => ?_
  obtain ⟨⟨a, p⟩, ⟨b, q⟩, cs, xx, yy, _⟩ := x
  obtain ⟨_, _, rfl, rfl, _, _, rfl, rfl, vc, _, rfl, h_cells, _, _, rfl, rfl, _, _, rfl, rfl, rfl⟩ := ha
  obtain ⟨h_part, h_cpd, h_wq, h_wq2⟩ := hp
  dsimp only at h_part h_cpd h_wq h_wq2 h_cells hg
  have h_pw : Pw p := pw_of h_wq.p
  have h_qw : Pw q := pw_of h_wq2.p
  have h_copied : PartIn cPart G H b q := h_cpd.mono (Same.refl _) hs
  have nd := sc_copy_into.nd
  have part_there : ∀ {G' H'}, PartIn cPart G' H' a p → ∃ o, H' a = some o := fun ⟨_, _, _, h, _⟩ => ⟨_, h⟩
  have ret : ∀ (G1 H1 : Hp) (v : V) (n : Int), Gw G H G1 H1 → Mir.copyInto p q cs xx yy = (p, n) → rInt.r G1 v n → Q v H1 := fun G1 H1 v n w1 e hv => by
    obtain ⟨o, ho⟩ := part_there h_part
    refine hk v G1 H1 (Mv.of w1) ?_ (w1.out hg ho) ?_
    · show PartIn cPart G1 H1 a (Mir.copyInto p q cs xx yy).1
      rw [e]
      exact h_part.gw w1
    · show rInt.r G1 v (Mir.copyInto p q cs xx yy).2
      rw [e]
      exact hv
  refine ws_when hs (jt_not (jt_v (je_call (ok_is_inside T) (hr.mono (by decide)) (ja_cons (je_vP 0 rfl h_part) (ja_cons (je_vP 1 rfl h_copied) (ja_cons (je_vI 3 rfl) (ja_cons (je_vI 4 rfl) ja_nil)))) (fun _ _ wq => ⟨h_part.gw wq, h_copied.gw wq⟩)))) (fun hb H1 w1 => ?_) (fun hb H1 w1 => ?_)
  · have hb : (!Mir.isInside p q xx yy) = true := hb
    exact ws_ret w1.s je_int fun v G' H' w8 hv => ret G' H' v 3 (w1.t w8) (by unfold Mir.copyInto; exact if_pos hb) hv
  have hb : (!Mir.isInside p q xx yy) = false := hb
  have hins : Mir.isInside p q xx yy = true := by
    cases z : Mir.isInside p q xx yy with
    | true => rfl
    | false => rw [z] at hb; cases hb
  have h_part := h_part.gw w1
  have h_copied := h_copied.gw w1
  refine ws_set 5 w1.s (je_call (ok_copy_places T) (hr.mono (by decide)) (ja_cons (je_vP 0 rfl h_part) (ja_cons (je_vP 1 rfl h_copied) (ja_cons (je_vI 3 rfl) (ja_cons (je_vI 4 rfl) ja_nil)))) (fun _ _ wq => ⟨h_part.gw wq, h_copied.gw wq, h_pw, h_qw⟩)) (fun v2 G2 H2 w2 h_places => ?_) nd
  have h_places : (rL rInt).r G2 v2 (Mir.copyPlaces p q xx yy) := h_places
  have h_part := h_part.gw w2
  have h_copied := h_copied.gw w2
  have h_cells := (rL rCell).m w2.g h_cells
  have w2 := w1.t w2
  have h_in : ∀ z ∈ Mir.copyPlaces p q xx yy, 0 ≤ z ∧ z < (p.cells.length : Int) := fun z hz => by
    rw [h_wq.f]
    exact Mir.places_in hins hz
  generalize hpl : Mir.copyPlaces p q xx yy = pls at *
  refine ws_when w2.s (jt_v (je_call (ok_is_overlapping T) (hr.mono (by decide)) (ja_cons (je_vP 0 rfl h_part) (ja_cons (je_v 2 rfl h_cells) (ja_cons (je_v 5 rfl h_places) ja_nil))) (fun _ _ wq => ⟨h_part.gw wq, h_in⟩))) (fun hb3 H3 w3 => ?_) (fun hb3 H3 w3 => ?_)
  · have hb3 : Mir.overlapping p cs pls = true := hb3
    exact ws_ret w3.s je_int fun v G' H' w8 hv => ret G' H' v 4 ((w2.t w3).t w8) (by unfold Mir.copyInto; rw [if_neg (bno hb), hpl]; exact if_pos hb3) hv
  have hb3 : Mir.overlapping p cs pls = false := hb3
  have h_part := h_part.gw w3
  have h_copied := h_copied.gw w3
  have w3 := w2.t w3
  refine ws_when w3.s (jt_c (jc_gt (je_add (je_part_many_sets T h_part (je_vO 0 rfl)) (je_part_many_sets T h_copied (je_vO 1 rfl))) (je_gi T.c_MOST_SETS))) (fun hb5 H4 w4 => ?_) (fun hb5 H4 w4 => ?_)
  · have hb5 : decide (64 < p.sets + q.sets) = true := hb5
    exact ws_ret w4.s je_int fun v G' H' w8 hv => ret G' H' v 5 ((w3.t w4).t w8) (by unfold Mir.copyInto; rw [if_neg (bno hb), hpl, if_neg (bno hb3)]; exact if_pos hb5) hv
  have hb5 : decide (64 < p.sets + q.sets) = false := hb5
  have ecopy : Mir.copyInto p q cs xx yy = ({ (cs.zip pls).foldl Mir.put1 p with sets := ((cs.zip pls).foldl Mir.put1 p).sets + q.sets }, 0) := by
    unfold Mir.copyInto
    rw [if_neg (bno hb), hpl, if_neg (bno hb3), if_neg (bno hb5), Mir.placeAll_zip]
  have h_part := h_part.gw w4
  have h_copied := h_copied.gw w4
  have w4 := w3.t w4
  obtain ⟨o0, ho0⟩ := part_there h_part
  have g4 : G2 a = none := by
    have := w4.out hg (part_there (by assumption : PartIn cPart G H a p)).choose_spec
    exact this
  have zin : ∀ z ∈ cs.zip pls, 0 ≤ z.2 ∧ z.2 < (p.cells.length : Int) := fun z hz => h_in z.2 (List.of_mem_zip hz).2
  have h_cpd2 : PartIn cPart G2 G2 b q := h_cpd.mono w4.g w4.g
  refine ws_forZ 6 7 w4.s T.b_zip (JR.q (je_v 2 rfl h_cells)) (JR.q (je_v 5 rfl h_places)) rfl nd (fun i σ' G' H' => ∃ u1 u2, σ' = [some (.ref a), some (.ref b), some vc, some (.int xx), some (.int yy), some v2, u1, u2] ∧ Mv (fun x => x = a) G H G' H' ∧ PartIn cPart G' H' a (((cs.zip pls).take i).foldl Mir.put1 p) ∧ G' a = none)
    (fun G5 H5 w5 => ⟨none, none, rfl, Mv.of (w4.t w5), h_part.gw w5, w5.out g4 ho0⟩) ?_ (fun i σ' G' H' H6 ⟨u1, u2, e, m, hp, hg⟩ w6 => ⟨u1, u2, e, m.t (Mv.of w6), hp.gw w6, hg⟩) ?_
  · rintro i c at_ v u σ' G' H' hx s1 s2 ⟨u1, u2, rfl, m, h_part, g'⟩ h_cell hat
    cases (show u = .int at_ from hat)
    have hz := zin (c, at_) (List.mem_of_getElem? hx)
    have hi : i < (cs.zip pls).length := (List.getElem?_eq_some_iff.mp hx).1
    have hsame := Mir.puts_same ((cs.zip pls).take i) p fun z hz => zin z (List.mem_of_mem_take hz)
    have tk : ((cs.zip pls).take (i + 1)).foldl Mir.put1 p = Mir.put1 (((cs.zip pls).take i).foldl Mir.put1 p) (c, at_) := by
      rw [take_snoc hx, List.foldl_append]
      rfl
    generalize hpi : ((cs.zip pls).take i).foldl Mir.put1 p = pi at *
    have hle := h_wq.p.le
    refine ws_when s2 (jt_c (jc_neI (je_p30 (je_v 6 rfl h_cell)) (je_gi T.c_AIR))) (fun hb8 H8 w8 => ?_) (fun hb8 H8 w8 => ?_)
    · have h_part := h_part.gw w8
      refine ws_do (we_methP (ok_place T) (hr.mono (by decide)) T.k_Part w8.s (je_vO 0 rfl) h_part g' (ja_cons (je_vI 7 rfl) (ja_cons (je_call (ok_with_more_groups T) (hr.mono (by decide)) (ja_cons (je_v 6 rfl h_cell) (ja_cons (je_part_many_sets T h_part (je_vO 0 rfl)) ja_nil)) (fun _ _ _ => trivial)) ja_nil)) (fun _ _ wq => ⟨h_part.gw wq, hz.1, by show (pi.cells.length : Int) ≤ 576; omega⟩) fun v9 G9 H9 m9 hp9 hg9 hv9 => ws_nil (ws_nil ⟨G9, w8.g.trans m9.g, m9.s, _, _, rfl, (m.t (Mv.of w8)).t m9, ?_, hg9⟩))
      rw [tk, show Mir.put1 pi (c, at_) = Mir.placeC pi at_ (Mir.withMore c pi.sets) by unfold Mir.put1; exact if_pos hb8]
      exact hp9
    · refine ws_nil ⟨G', w8.g, w8.s, _, _, rfl, m.t (Mv.of w8), ?_, g'⟩
      rw [tk, show Mir.put1 pi (c, at_) = pi by unfold Mir.put1; exact if_neg (bno hb8)]
      exact h_part.gw w8
  · rintro σ' G' H' s1 s2 ⟨u1, u2, rfl, m, h_part, g'⟩
    rw [List.take_length] at h_part
    have h_copied : PartIn cPart G' H' b q := h_cpd2.mono s1 (s1.trans s2)
    refine ws_do (we_methP (ok_add_sets T) (hr.mono (by decide)) T.k_Part s2 (je_vO 0 rfl) h_part g' (ja_cons (je_part_many_sets T h_copied (je_vO 1 rfl)) ja_nil) (fun _ _ wq => h_part.gw wq) fun v9 G9 H9 m9 hp9 hg9 hv9 => ?_)
    refine ws_ret m9.s je_int fun v G8 H8 w8 hv => ?_
    have hp9 : PartIn cPart G9 H9 a { (cs.zip pls).foldl Mir.put1 p with sets := ((cs.zip pls).foldl Mir.put1 p).sets + q.sets } := hp9
    have there : ∃ o, H9 a = some o := let ⟨_, _, _, h, _⟩ := hp9; ⟨_, h⟩
    refine hk v G8 H8 ((m.t m9).t (Mv.of w8)) ?_ (w8.out hg9 there.choose_spec) ?_
    · show PartIn cPart G8 H8 a (Mir.copyInto p q cs xx yy).1
      rw [ecopy]
      exact hp9.gw w8
    · show rInt.r G8 v (Mir.copyInto p q cs xx yy).2
      rw [ecopy]
      exact hv
end
end Ck
end
section
set_option Elab.async false
set_option linter.all false
set_option maxRecDepth 100000
set_option maxHeartbeats 4000000
namespace Ck
open PySem PySem.Spec PyProof.Rows L2
open Mir (itm)
local macro_rules | `(tactic| walk_at "s") => `(tactic| first | assumption | omega | (simp only [onPre, List.length_map, List.length_drop, List.length_take, List.length_append, List.length_cons, List.length_nil, decide_eq_true_eq, decide_eq_false_iff_not, Bool.not_eq_false', Bool.not_eq_true', Bool.or_eq_false_iff] at *; omega))
/-- words of a text -/
abbrev WsOk (ws : List (List Int)) : Prop := ws.length ≤ 4001 ∧ ∀ w ∈ ws, w.length ≤ 4000
theorem wsOk_drop {ws : List (List Int)} (h : WsOk ws) (n : Nat) : WsOk (ws.drop n) := ⟨by rw [List.length_drop]; have := h.1; omega, fun w hw => h.2 w (List.mem_of_mem_drop hw)⟩
local macro_rules | `(tactic| walk_at "w") => `(tactic| first | assumption | exact wsOk_drop (by assumption) _)
theorem itm_len {ws : List (List Int)} (h : WsOk ws) (i : Int) : (itm [] ws i).length ≤ 4000 := by
  unfold itm
  rw [List.getD_eq_getElem?_getD]
  cases q : ws[i.toNat]? with
  | none => simp
  | some w => exact h.2 w (List.mem_of_getElem? q)
theorem by_mirror : ((("mirror" : Str).cps.toList).map fun (c : Nat) => (c : Int)) = Mir.bMirror := by decide +kernel
theorem by_times : ((("times" : Str).cps.toList).map fun (c : Nat) => (c : Int)) = Mir.bTimes := by decide +kernel
theorem by_every : ((("every" : Str).cps.toList).map fun (c : Nat) => (c : Int)) = Mir.bEvery := by decide +kernel
theorem by_part : ((("part" : Str).cps.toList).map fun (c : Nat) => (c : Int)) = Mir.bPart := by decide +kernel
theorem by_put : ((("put" : Str).cps.toList).map fun (c : Nat) => (c : Int)) = Mir.bPut := by decide +kernel
theorem by_end : ((("end" : Str).cps.toList).map fun (c : Nat) => (c : Int)) = Mir.bEnd := by decide +kernel
theorem by_drop : ((("drop" : Str).cps.toList).map fun (c : Nat) => (c : Int)) = Mir.bDrop := by decide +kernel
section
variable {P : Program} {w : World} {K : PySem.W.Frag} {mg : Str → Option Value} {base : Heap} {cPart cDraft cRun cBench : Addr}
theorem ok_is_times (T : Top K mg cPart cDraft cRun cBench) : Cal P w K mg base "is_times" 4 (Ct (a1 (rL (rL rInt))) (onPre fun x => WsOk x.1) rBool fun x => Mir.isTimes x.1) := by
  refine T.d_is_times.ct sc_is_times rfl fun f cdv A outer s G H vs x Q E hr hs ha hp hk => ?_
  obtain ⟨ws, _⟩ := x
  obtain ⟨vw, _, rfl, h_words, rfl⟩ := ha
  have h_ok : WsOk ws := hp
  dsimp only at h_words
  have l1 := itm_len h_ok 1
  have l2 := itm_len h_ok 2
  have l3 := itm_len h_ok 3
  refine ws_when hs (JT.eq (b' := !decide ((ws.length : Int) = 4) || (!decide (itm [] ws 0 = Mir.bTimes) || !Mir.isNumberWithin (itm [] ws 1) 1 12)) (jt_w (jw_or (jt_c (jc_neI (je_len rfl T.b_len (JR.q (je_v 0 rfl h_words))) je_int)) fun hsc => (jw_or (jt_c (jc_neD (R := (rL rInt)) (je_ix (d := []) (JR.q (je_v 0 rfl h_words)) je_int (by walk_at "s") (by walk_at "s")) (je_call (ok_bytes_of T) (hr.mono (by decide)) (ja_cons je_str ja_nil) (fun _ _ _ => by show _ ≤ _; decide)) hr.units)) fun hsc => (jw_or1 (jt_not (jt_v (je_call (ok_is_number_within T) (hr.mono (by decide)) (ja_cons (je_ix (d := []) (JR.q (je_v 0 rfl h_words)) je_int (by walk_at "s") (by walk_at "s")) (ja_cons je_int (ja_cons (je_gi T.c_MOST_COPIES) ja_nil))) (fun _ _ _ => by walk_at "s")))))))) (by rw [← by_times])) (fun hb H2 w2 => ?_) (fun hb H2 w2 => ?_)
  · exact ws_retE w2.s je_bl (by show _ = Mir.isTimes ws; unfold Mir.isTimes; exact (if_pos hb).symm) fun v G' H' w3 h => hk v G' H' (w2.t w3) h
  · have hb4 : (ws.length : Int) = 4 := by simp only [Bool.or_eq_false_iff, Bool.not_eq_false', decide_eq_true_eq] at hb; exact hb.1
    exact ws_retE w2.s (je_and (je_call (ok_is_signed T) (hr.mono (by decide)) (ja_cons (je_ix (d := []) (JR.q (je_v 0 rfl h_words)) je_int (by walk_at "s") (by walk_at "s")) ja_nil) (fun _ _ _ => by walk_at "s")) fun hsc => (je_one (je_call (ok_is_signed T) (hr.mono (by decide)) (ja_cons (je_ix (d := []) (JR.q (je_v 0 rfl h_words)) je_int (by walk_at "s") (by walk_at "s")) ja_nil) (fun _ _ _ => by walk_at "s")))) (by show _ = Mir.isTimes ws; unfold Mir.isTimes; exact (if_neg (bno hb)).symm) fun v G' H' w3 h => hk v G' H' (w2.t w3) h
theorem ok_is_every (T : Top K mg cPart cDraft cRun cBench) : Cal P w K mg base "is_every" 4 (Ct (a1 (rL (rL rInt))) (onPre fun x => WsOk x.1) rBool fun x => Mir.isEvery x.1) := by
  refine T.d_is_every.ct sc_is_every rfl fun f cdv A outer s G H vs x Q E hr hs ha hp hk => ?_
  obtain ⟨ws, _⟩ := x
  obtain ⟨vw, _, rfl, h_words, rfl⟩ := ha
  have h_ok : WsOk ws := hp
  dsimp only at h_words
  have l1 := itm_len h_ok 1
  have l3 := itm_len h_ok 3
  refine ws_when hs (JT.eq (b' := !decide ((ws.length : Int) = 4) || (!decide (itm [] ws 0 = Mir.bEvery) || !decide (itm [] ws 2 = Mir.bTimes))) (jt_w (jw_or (jt_c (jc_neI (je_len rfl T.b_len (JR.q (je_v 0 rfl h_words))) je_int)) fun hsc => (jw_or (jt_c (jc_neD (R := (rL rInt)) (je_ix (d := []) (JR.q (je_v 0 rfl h_words)) je_int (by walk_at "s") (by walk_at "s")) (je_call (ok_bytes_of T) (hr.mono (by decide)) (ja_cons je_str ja_nil) (fun _ _ _ => by show _ ≤ _; decide)) hr.units)) fun hsc => (jw_or1 (jt_c (jc_neD (R := (rL rInt)) (je_ix (d := []) (JR.q (je_v 0 rfl h_words)) je_int (by walk_at "s") (by walk_at "s")) (je_call (ok_bytes_of T) (hr.mono (by decide)) (ja_cons je_str ja_nil) (fun _ _ _ => by show _ ≤ _; decide)) hr.units)))))) (by rw [← by_times, ← by_every])) (fun hb H2 w2 => ?_) (fun hb H2 w2 => ?_)
  · exact ws_retE w2.s je_bl (by show _ = Mir.isEvery ws; unfold Mir.isEvery; exact (if_pos hb).symm) fun v G' H' w3 h => hk v G' H' (w2.t w3) h
  · have hb4 : (ws.length : Int) = 4 := by simp only [Bool.or_eq_false_iff, Bool.not_eq_false', decide_eq_true_eq] at hb; exact hb.1
    exact ws_retE w2.s (je_and (je_call (ok_is_number_within T) (hr.mono (by decide)) (ja_cons (je_ix (d := []) (JR.q (je_v 0 rfl h_words)) je_int (by walk_at "s") (by walk_at "s")) (ja_cons je_int (ja_cons (je_gi T.c_GREATEST) ja_nil))) (fun _ _ _ => by walk_at "s")) fun hsc => (je_one (je_call (ok_is_number_within T) (hr.mono (by decide)) (ja_cons (je_ix (d := []) (JR.q (je_v 0 rfl h_words)) je_int (by walk_at "s") (by walk_at "s")) (ja_cons je_int (ja_cons (je_gi T.c_GREATEST) ja_nil))) (fun _ _ _ => by walk_at "s")))) (by show _ = Mir.isEvery ws; unfold Mir.isEvery; exact (if_neg (bno hb)).symm) fun v G' H' w3 h => hk v G' H' (w2.t w3) h
theorem ok_behind_mirror (T : Top K mg cPart cDraft cRun cBench) : Cal P w K mg base "behind_mirror" 2 (Ct (a1 (rL (rL rInt))) (onPre fun x => WsOk x.1) (rL (rL rInt)) fun x => Mir.behindMirror x.1) := by
  refine T.d_behind_mirror.ct sc_behind_mirror rfl fun f cdv A outer s G H vs x Q E hr hs ha hp hk => ?_
  obtain ⟨ws, _⟩ := x
  obtain ⟨vw, _, rfl, h_words, rfl⟩ := ha
  have h_ok : WsOk ws := hp
  dsimp only at h_words
  exact ws_retE hs (je_if (jt_c (jc_eqD (R := (rL (rL rInt))) (je_sT (JR.q (je_v 0 rfl h_words)) je_int (by walk_at "s")) (je_lst (jl_cons (je_call (ok_bytes_of T) (hr.mono (by decide)) (ja_cons je_str ja_nil) (fun _ _ _ => by show _ ≤ _; decide)) jl_nil)) hr.units)) (fun hsc => (je_sD (JR.q (je_v 0 rfl h_words)) je_int (by walk_at "s"))) (fun hsc => (je_v 0 rfl h_words))) (by show _ = Mir.behindMirror ws; unfold Mir.behindMirror; rw [← by_mirror]; rfl) hk
theorem bm_ok {ws : List (List Int)} (h : WsOk ws) : WsOk (Mir.behindMirror ws) := by
  unfold Mir.behindMirror
  split
  · exact wsOk_drop h 1
  · exact h
theorem ok_is_put (T : Top K mg cPart cDraft cRun cBench) : Cal P w K mg base "is_put" 5 (Ct (a1 (rL (rL rInt))) (onPre fun x => WsOk x.1) rBool fun x => Mir.isPut x.1) := by
  refine T.d_is_put.ct sc_is_put rfl fun f cdv A outer s G H vs x Q E hr hs ha hp hk => ?_
  obtain ⟨ws, _⟩ := x
  obtain ⟨vw, _, rfl, h_words, rfl⟩ := ha
  have h_ok : WsOk ws := hp
  dsimp only at h_words
  have nd := sc_is_put.nd
  have l1 := itm_len h_ok 1
  have l2 := itm_len h_ok 2
  have l3 := itm_len h_ok 3
  refine ws_when hs (jt_w (jw_or (jt_c (jc_lt (je_len rfl T.b_len (JR.q (je_v 0 rfl h_words))) je_int)) fun hsc => (jw_or (jt_not (jt_v (je_call (ok_is_name T) (hr.mono (by decide)) (ja_cons (je_ix (d := []) (JR.q (je_v 0 rfl h_words)) je_int (by walk_at "s") (by walk_at "s")) ja_nil) (fun _ _ _ => by walk_at "s")))) fun hsc => (jw_or (jt_not (jt_v (je_call (ok_is_signed T) (hr.mono (by decide)) (ja_cons (je_ix (d := []) (JR.q (je_v 0 rfl h_words)) je_int (by walk_at "s") (by walk_at "s")) ja_nil) (fun _ _ _ => by walk_at "s")))) fun hsc => (jw_or1 (jt_not (jt_v (je_call (ok_is_signed T) (hr.mono (by decide)) (ja_cons (je_ix (d := []) (JR.q (je_v 0 rfl h_words)) je_int (by walk_at "s") (by walk_at "s")) ja_nil) (fun _ _ _ => by walk_at "s"))))))))) (fun hb H2 w2 => ?_) (fun hb H2 w2 => ?_)
  · have hb : (decide ((ws.length : Int) < 4) || (!Mir.isName (itm [] ws 1) || (!Mir.isSigned (itm [] ws 2) || !Mir.isSigned (itm [] ws 3)))) = true := hb
    exact ws_retE w2.s je_bl (by show _ = Mir.isPut ws; unfold Mir.isPut; exact (if_pos hb).symm) fun v G' H' w3 h => hk v G' H' (w2.t w3) h
  · have hb : (decide ((ws.length : Int) < 4) || (!Mir.isName (itm [] ws 1) || (!Mir.isSigned (itm [] ws 2) || !Mir.isSigned (itm [] ws 3)))) = false := hb
    refine ws_set 1 w2.s (je_call (ok_behind_mirror T) (hr.mono (by decide)) (ja_cons (je_sD (JR.q (je_v 0 rfl h_words)) je_int (by walk_at "s")) ja_nil) (fun _ _ _ => by walk_at "w")) (fun v1 G1 H1 w1 h_more => ?_) nd
    have h_more : (rL (rL rInt)).r G1 v1 (Mir.behindMirror (ws.drop 4)) := h_more
    have h_ok2 := bm_ok (wsOk_drop h_ok 4)
    exact ws_retE w1.s (je_or (je_c (jc_eqN (JR.q (je_v 1 rfl h_more)) hr.units)) fun hsc => (je_one (je_call (ok_is_times T) (hr.mono (by decide)) (ja_cons (je_v 1 rfl h_more) ja_nil) (fun _ _ _ => by walk_at "w")))) (by show _ = Mir.isPut ws; unfold Mir.isPut; exact (if_neg (bno hb)).symm) fun v G' H' w3 h => hk v G' H' ((w2.t w1).t w3) h
theorem ok_is_drop (T : Top K mg cPart cDraft cRun cBench) : Cal P w K mg base "is_drop" 5 (Ct (a1 (rL (rL rInt))) (onPre fun x => WsOk x.1) rBool fun x => Mir.isDrop x.1) := by
  refine T.d_is_drop.ct sc_is_drop rfl fun f cdv A outer s G H vs x Q E hr hs ha hp hk => ?_
  obtain ⟨ws, _⟩ := x
  obtain ⟨vw, _, rfl, h_words, rfl⟩ := ha
  have h_ok : WsOk ws := hp
  dsimp only at h_words
  have l1 := itm_len h_ok 1
  have l2 := itm_len h_ok 2
  refine ws_when hs (jt_w (jw_or (jt_c (jc_lt (je_len rfl T.b_len (JR.q (je_v 0 rfl h_words))) je_int)) fun hsc => (jw_or (jt_not (jt_v (je_call (ok_is_number T) (hr.mono (by decide)) (ja_cons (je_ix (d := []) (JR.q (je_v 0 rfl h_words)) je_int (by walk_at "s") (by walk_at "s")) ja_nil) (fun _ _ _ => by walk_at "s")))) fun hsc => (jw_or1 (jt_not (jt_v (je_call (ok_is_number T) (hr.mono (by decide)) (ja_cons (je_ix (d := []) (JR.q (je_v 0 rfl h_words)) je_int (by walk_at "s") (by walk_at "s")) ja_nil) (fun _ _ _ => by walk_at "s")))))))) (fun hb H2 w2 => ?_) (fun hb H2 w2 => ?_)
  · have hb : (decide ((ws.length : Int) < 3) || (!Mir.isNumber (itm [] ws 1) || !Mir.isNumber (itm [] ws 2))) = true := hb
    exact ws_retE w2.s je_bl (by show _ = Mir.isDrop ws; unfold Mir.isDrop; exact (if_pos hb).symm) fun v G' H' w3 h => hk v G' H' (w2.t w3) h
  · have hb : (decide ((ws.length : Int) < 3) || (!Mir.isNumber (itm [] ws 1) || !Mir.isNumber (itm [] ws 2))) = false := hb
    exact ws_retE w2.s (je_or (je_c (jc_eqI (je_len rfl T.b_len (JR.q (je_v 0 rfl h_words))) je_int)) fun hsc => (je_one (je_call (ok_is_every T) (hr.mono (by decide)) (ja_cons (je_sD (JR.q (je_v 0 rfl h_words)) je_int (by walk_at "s")) ja_nil) (fun _ _ _ => by walk_at "w")))) (by show _ = Mir.isDrop ws; unfold Mir.isDrop; exact (if_neg (bno hb)).symm) fun v G' H' w3 h => hk v G' H' (w2.t w3) h
end
end Ck
end
section
set_option Elab.async false
set_option linter.all false
set_option maxRecDepth 100000
set_option maxHeartbeats 4000000
namespace Ck
open PySem PySem.Spec PyProof.Rows L2
open Mir (itm)
local macro_rules | `(tactic| walk_at "s") => `(tactic| first | assumption | omega | (simp only [onPre, List.length_map, List.length_drop, List.length_take, List.length_append, List.length_cons, List.length_nil, decide_eq_true_eq, decide_eq_false_iff_not, Bool.not_eq_false', Bool.not_eq_true', Bool.or_eq_false_iff] at *; omega))
local macro_rules | `(tactic| walk_at "w") => `(tactic| first | assumption | exact wsOk_drop (by assumption) _)
/-! ### drafts -/
structure DAdr where
  d : Addr
  dx : Addr
  bg : List Addr
  q : Addr
  vp : V
  vm : V
abbrev DAdr.F (A : DAdr) : Addr → Prop := fun x => x = A.d ∨ x ∈ A.bg
def dF (vp : V) (q : Addr) (vm : V) : List (Str × V) := [("parts", vp), ("begun", .ref q), ("marbles", vm)]
section
variable {vp vm u : V} {q p : Addr}
theorem dF_parts : (dF vp q vm).lookup ("parts" : Str) = some vp := by rfl
theorem dF_begun : (dF vp q vm).lookup ("begun" : Str) = some (.ref q) := by rfl
theorem dF_marbles : (dF vp q vm).lookup ("marbles" : Str) = some vm := by rfl
theorem dF_putp : putF "parts" u (dF vp q vm) = dF u q vm := by rfl
theorem dF_putb : putF "begun" (.ref p) (dF vp q vm) = dF vp p vm := by rfl
theorem dF_putm : putF "marbles" u (dF vp q vm) = dF vp q u := by rfl
end
structure DraftAt (cP C : Addr) (G H : Hp) (A : DAdr) (st : Mir.DraftS) : Prop where
  o : H A.d = some (.ins C A.dx (dF A.vp A.q A.vm))
  p : (rL (rPart cP)).r G A.vp st.parts
  b : G A.q = some (.lst (A.bg.map .ref))
  bs : Paired (fun a p => PartIn cP G H a p) A.bg st.begun
  m : (rL rPair).r G A.vm st.marbles
  gn : ∀ a, A.F a → G a = none
  ne : A.d ∉ A.bg
theorem DraftAt.there {cP C : Addr} {G H : Hp} {A : DAdr} {st : Mir.DraftS} (h : DraftAt cP C G H A st) : ∀ a, A.F a → ∃ o, H a = some o := fun a ha => by
  rcases ha with e | e
  · subst e
    exact ⟨_, h.o⟩
  · obtain ⟨i, hi⟩ := List.mem_iff_getElem?.mp e
    obtain ⟨p, _, dx, vn, vc, h1, _⟩ := Paired.get' h.bs hi
    exact ⟨_, h1⟩
theorem DraftAt.gw {cP C : Addr} {G H G' H' : Hp} {A : DAdr} {st : Mir.DraftS} (h : DraftAt cP C G H A st) (w : Gw G H G' H') : DraftAt cP C G' H' A st :=
  ⟨w.h _ _ h.o, (rL (rPart cP)).m w.g h.p, w.g _ _ h.b, pm (fun _ _ z => z.gw w) h.bs, (rL rPair).m w.g h.m, fun a ha => let ⟨_, e⟩ := h.there a ha
    w.out (h.gn a ha) e, h.ne⟩
/-- a draft, by its addresses -/
def rD : SR (DAdr × Mir.DraftS) := ⟨fun _ v x => v = .ref x.1.d, fun _ h => h⟩
/-- any thing -/
def rAny (α : Type) : SR α := ⟨fun _ _ _ => True, fun _ h => h⟩
theorem any_paired {α : Type} {G : Hp} : ∀ {vs : List V} {xs : List α}, vs.length = xs.length → Paired ((rAny α).r G) vs xs
  | [], [], _ => .nil
  | v :: vs, x :: xs, h => .cons trivial (any_paired (by simpa using h))
section
variable {X : Cx} {σ : L2.St} {G H : Hp} {e a b o value : Expr} {es : List Expr} {rest : List Stmt} {pos p2 apos : Pos} {cPart cDraft cRun cBench : Addr} {A : DAdr} {st : Mir.DraftS} {D : Ends} {q : Mir.PartD} {α β : Type} {S : SR β}
theorem je_draft_parts (T : Top X.K X.mg cPart cDraft cRun cBench) (hd : DraftAt cPart cDraft G H A st) (j : JR X σ G H e rV (.ref A.d)) (hb : attributeBase e "parts" X.env (eval e X.env) = eval e X.env := by rfl) : JR X σ G H (.Attribute e "parts" pos) (rL (rPart cPart)) st.parts :=
  je_fld j hd.o T.k_Draft T.f_Draft_parts dF_parts hd.p hb
theorem je_draft_marbles (T : Top X.K X.mg cPart cDraft cRun cBench) (hd : DraftAt cPart cDraft G H A st) (j : JR X σ G H e rV (.ref A.d)) (hb : attributeBase e "marbles" X.env (eval e X.env) = eval e X.env := by rfl) : JR X σ G H (.Attribute e "marbles" pos) (rL rPair) st.marbles :=
  je_fld j hd.o T.k_Draft T.f_Draft_marbles dF_marbles hd.m hb
theorem je_draft_bg (T : Top X.K X.mg cPart cDraft cRun cBench) (hd : DraftAt cPart cDraft G H A st) (j : JR X σ G H e rV (.ref A.d)) (hb : attributeBase e "begun" X.env (eval e X.env) = eval e X.env := by rfl) : JR X σ G H (.Attribute e "begun" pos) (rL rV) (A.bg.map .ref) :=
  je_fld (R := rL rV) j hd.o T.k_Draft T.f_Draft_begun dF_begun ⟨A.q, _, rfl, hd.b, by
    generalize A.bg.map V.ref = l
    induction l with
    | nil => exact .nil
    | cons x l ih => exact .cons rfl ih⟩ hb
theorem je_draft_begun (T : Top X.K X.mg cPart cDraft cRun cBench) (hd : DraftAt cPart cDraft G H A st) (j : JR X σ G H e rV (.ref A.d)) (hb : attributeBase e "begun" X.env (eval e X.env) = eval e X.env := by rfl) : JR X σ G H (.Attribute e "begun" pos) (rL (rAny Mir.PartD)) st.begun :=
  je_fld (R := rL (rAny Mir.PartD)) j hd.o T.k_Draft T.f_Draft_begun dF_begun ⟨A.q, _, rfl, hd.b, any_paired (by rw [List.length_map]; exact Paired.len hd.bs)⟩ hb
/-- the first of a list -/
theorem je_fst {u : V} {us : List V} {j : Nat} {p : Pos} (ha : JR X σ G H a (rL rV) (u :: us)) : JR X σ G H (.Subscript a (.Constant (.int 0) j p) pos) rV u :=
  (je_ix (d := V.non) (JR.q ha) je_int (by decide) (by simp)).eq rfl
theorem je_O {x : Addr} {p : Mir.PartD} (j : JR X σ G H e rV (.ref x)) : JR X σ G H e (rO Mir.PartD) (x, p) := j.to fun _ _ _ h => h
theorem je_vD (i : Nat) {n : Str} (hs : σ[i]? = some (some (.ref A.d))) {cP C : Addr} (h : DraftAt cP C G H A st) (hN : X.N[i]? = some n := by rfl)
    (hv : Vis X.env.scope n := by first | exact Or.inl rfl | exact Or.inr (Or.inl rfl) | exact Or.inr (Or.inr rfl)) (hd : (n == ("__debug__" : Str)) = false := by decide)
    (hcd : (n == ("__classdict__" : Str)) = false := by decide) : JR X σ G H (.Name n pos) rD (A, st) := je_v (R := rD) i hs rfl hN hv hd hcd
theorem je_rp_width (T : Top X.K X.mg cPart cDraft cRun cBench) (j : JR X σ G H e (rPart cPart) q) (hb : attributeBase e "width" X.env (eval e X.env) = eval e X.env := by rfl) : JR X σ G H (.Attribute e "width" pos) rInt q.w := fun G0 H0 w0 Q k => by
  refine WE.of (pe_fld pe_w hb) ?_
  refine j G0 H0 w0 _ fun v G1 H1 w1 hv => ?_
  obtain ⟨a, rfl, dx, vn, vc, h1, h2, h3⟩ := hv
  exact ⟨a, cPart, dx, _, .int q.w, rfl, w1.s _ _ h1, T.k_Part, T.f_Part_width, pF_width, k _ G1 H1 w1 rfl⟩
theorem ws_retW (h : WE X e σ H D.rt) : WSs X (.Return (some e) pos :: rest) D σ H := WSs.cons (ps_ret pe_w) h
/-- x, y = e, f of whole numbers -/
theorem ws_par2 (i j : Nat) {x y : Str} {px py pt : Pos} {kt k2 : Nat} {pt2 : Pos} {m n : Int} (hs : Same G H) (hc : X.calm = true) (hN : X.N.Nodup) (ja : JR X σ G H a rInt m) (jb : JR X σ G H b rInt n) (k : ∀ H1, Gw G H G H1 → WSs X rest D ((σ.set i (some (.int m))).set j (some (.int n))) H1)
    (hi : X.N[i]? = some x := by rfl) (hj : X.N[j]? = some y := by rfl) (hij : i ≠ j := by decide) (hx : X.env.scope.names.lookup x = some .local := by rfl) (hy : X.env.scope.names.lookup y = some .local := by rfl)
    (hw : swappedStores [.Tuple [.Name x px, .Name y py] kt pt] (.Tuple [a, b] k2 pt2) X.env = pure (some [x, y]) := by rfl) (hsw : swapsWithSole [.Tuple [.Name x px, .Name y py] kt pt] (.Tuple [a, b] k2 pt2) pos.line X.env = pure false := by rfl)
    (h1 : starEach (a :: [b]) X.env = (false, eval a X.env) :: starEach [b] X.env := by rfl) (h2 : starEach [b] X.env = (false, eval b X.env) :: starEach [] X.env := by rfl) :
    WSs X (.Assign [.Tuple [.Name x px, .Name y py] kt pt] (.Tuple [a, b] k2 pt2) pos :: rest) D σ H := by
  refine WSs.cons (ps_par hc hN hi hj hij hx hy pa_w hw hsw) ?_
  refine ja_cons ja (ja_cons jb ja_nil h2) h1 G H (Gw.refl hs) _ fun vs G1 H1 w1 hv => ?_
  obtain ⟨_, _, rfl, rfl, _, _, rfl, rfl, rfl⟩ := hv
  exact ⟨_, _, rfl, k H1 w1.keep⟩
theorem ws_par3 (i j l : Nat) {x y z : Str} {px py pz pt : Pos} {kt k2 : Nat} {pt2 : Pos} {m n r : Int} {c : Expr} (hs : Same G H) (hc : X.calm = true) (hN : X.N.Nodup) (ja : JR X σ G H a rInt m) (jb : JR X σ G H b rInt n) (jc : JR X σ G H c rInt r) (k : ∀ H1, Gw G H G H1 → WSs X rest D (((σ.set i (some (.int m))).set j (some (.int n))).set l (some (.int r))) H1)
    (hi : X.N[i]? = some x := by rfl) (hj : X.N[j]? = some y := by rfl) (hl : X.N[l]? = some z := by rfl) (hij : i ≠ j := by decide) (hil : i ≠ l := by decide) (hjl : j ≠ l := by decide) (hx : X.env.scope.names.lookup x = some .local := by rfl) (hy : X.env.scope.names.lookup y = some .local := by rfl) (hz : X.env.scope.names.lookup z = some .local := by rfl)
    (hw : swappedStores [.Tuple [.Name x px, .Name y py, .Name z pz] kt pt] (.Tuple [a, b, c] k2 pt2) X.env = pure (some [x, y, z]) := by rfl) (hsw : swapsWithSole [.Tuple [.Name x px, .Name y py, .Name z pz] kt pt] (.Tuple [a, b, c] k2 pt2) pos.line X.env = pure false := by rfl)
    (h1 : starEach (a :: [b, c]) X.env = (false, eval a X.env) :: starEach [b, c] X.env := by rfl) (h2 : starEach (b :: [c]) X.env = (false, eval b X.env) :: starEach [c] X.env := by rfl) (h3 : starEach [c] X.env = (false, eval c X.env) :: starEach [] X.env := by rfl) :
    WSs X (.Assign [.Tuple [.Name x px, .Name y py, .Name z pz] kt pt] (.Tuple [a, b, c] k2 pt2) pos :: rest) D σ H := by
  refine WSs.cons (ps_par3 hc hN hi hj hl hij hil hjl hx hy hz pa_w hw hsw) ?_
  refine ja_cons ja (ja_cons jb (ja_cons jc ja_nil h3) h2) h1 G H (Gw.refl hs) _ fun vs G1 H1 w1 hv => ?_
  obtain ⟨_, _, rfl, rfl, _, _, rfl, rfl, _, _, rfl, rfl, rfl⟩ := hv
  exact ⟨_, _, _, rfl, k H1 w1.keep⟩
end
/-- a promise of a def that changes a draft -/
def CtD {α β : Type} (cP C : Addr) (B : AR α) (adr : α → DAdr) (pre : Hp → Hp → α → Prop) (R : SR β) (g : α → Mir.DraftS × β) : Sp := fun vs H Q _ => ∃ G x, Same G H ∧ B.r G vs x ∧ pre G H x ∧
  ∀ v G' H' A', A'.d = (adr x).d → (∀ y ∈ A'.bg, y ∈ (adr x).bg ∨ H y = none) → Mv (adr x).F G H G' H' → DraftAt cP C G' H' A' (g x).1 → R.r G' v (g x).2 → Q v H'
section
variable {X : Cx} {σ : L2.St} {G H : Hp} {e o : Expr} {es : List Expr} {pos apos : Pos} {α β : Type} {S : SR β}
theorem we_callD {B : AR α} {cP C : Addr} {adr : α → DAdr} {pre : Hp → Hp → α → Prop} {g : α → Mir.DraftS × β} {name : Str} {k : Nat} {p : Pos} {Q : VK} {x : α} (F : Cal X.prog X.w X.K X.mg X.base name k (CtD cP C B adr pre S g)) (hr : Room k X.A) (hs : Same G H) (ja : JA X σ G H (e :: es) B x) (hp : ∀ G' H', Gw G H G' H' → pre G' H' x)
    (kk : ∀ v G' H' A', A'.d = (adr x).d → (∀ y ∈ A'.bg, y ∈ (adr x).bg ∨ H y = none) → Mv (adr x).F G H G' H' → DraftAt cP C G' H' A' (g x).1 → S.r G' v (g x).2 → Q v H') (hg : Gl X name := by rfl)
    (hdb : (name == ("__debug__" : Str)) = false := by decide) (he : starEach (e :: es) X.env = (false, eval e X.env) :: starEach es X.env := by rfl) (hpl : (backTo pos (starEach es X.env)).any (·.1) = false := by rfl) : WE X (.Call (.Name name p) (e :: es) [] pos) σ H Q := by
  refine we_call F hr ?_ hg hdb he hpl
  refine ja G H (Gw.refl hs) _ fun vs G1 H1 w1 hv => ?_
  exact ⟨G1, x, w1.s, hv, hp _ _ w1, fun v G2 H2 A' e1 e2 m h1 h2 => kk v G2 H2 A' e1 (fun y hy => (e2 y hy).imp id fun z => w1.free z) ((Mv.of w1).t m) h1 h2⟩
theorem we_callP {B : AR α} {C : Addr} {ad : α → Addr} {pre : Hp → Hp → α → Prop} {g : α → Mir.PartD × β} {name : Str} {k : Nat} {p : Pos} {Q : VK} {x : α} (F : Cal X.prog X.w X.K X.mg X.base name k (CtP C B ad pre S g)) (hr : Room k X.A) (hs : Same G H) (ja : JA X σ G H (e :: es) B x) (hp : ∀ G' H', Gw G H G' H' → pre G' H' x ∧ G' (ad x) = none)
    (kk : ∀ v G' H', Mv (fun y => y = ad x) G H G' H' → PartIn C G' H' (ad x) (g x).1 → G' (ad x) = none → S.r G' v (g x).2 → Q v H') (hg : Gl X name := by rfl)
    (hdb : (name == ("__debug__" : Str)) = false := by decide) (he : starEach (e :: es) X.env = (false, eval e X.env) :: starEach es X.env := by rfl) (hpl : (backTo pos (starEach es X.env)).any (·.1) = false := by rfl) : WE X (.Call (.Name name p) (e :: es) [] pos) σ H Q := by
  refine we_call F hr ?_ hg hdb he hpl
  refine ja G H (Gw.refl hs) _ fun vs G1 H1 w1 hv => ?_
  exact ⟨G1, x, w1.s, hv, (hp _ _ w1).1, (hp _ _ w1).2, fun v G2 H2 m h1 h2 h3 => kk v G2 H2 ((Mv.of w1).t m) h1 h2 h3⟩
end
/-- a part of a draft was changed -/
theorem DraftAt.part {cP C : Addr} {G H G' H' : Hp} {A : DAdr} {st : Mir.DraftS} {a : Addr} {p p' : Mir.PartD} (h : DraftAt cP C G H A st) (eb : st.begun = [p]) (ea : A.bg = [a]) (m : Mv (fun x => x = a) G H G' H') (hp : PartIn cP G' H' a p') (hg : G' a = none) : DraftAt cP C G' H' A { st with begun := [p'] } := by
  have nd : A.d ≠ a := fun e => h.ne (by rw [ea, e]; exact List.mem_singleton.mpr rfl)
  refine ⟨m.h _ _ nd h.o, (rL (rPart cP)).m m.g h.p, m.g _ _ h.b, ?_, (rL rPair).m m.g h.m, ?_, h.ne⟩
  · rw [ea]
    exact .cons hp .nil
  · rintro x (e | e)
    · subst e
      exact m.out nd (h.gn _ (.inl rfl)) h.o
    · rw [ea, List.mem_singleton] at e
      subst e
      exact hg
/-- a new draft -/
def DraftI (cP C : Addr) : Sp := fun vs H Q _ => ∃ G x dx, vs = [.ref x] ∧ Same G H ∧ H x = some (.ins C dx []) ∧ G x = none ∧
  ∀ G' H' A, A.d = x → A.bg = [] → Mv (fun a => a = x) G H G' H' → DraftAt cP C G' H' A ⟨[], [], []⟩ → Q .non H'
def DraftB (cP C : Addr) : Sp := fun vs H Q _ => ∃ G A st a p, vs = [.ref A.d, .ref a] ∧ Same G H ∧ DraftAt cP C G H A st ∧ PartIn cP G H a p ∧ G a = none ∧ a ≠ A.d ∧
  ∀ G' H' A', A'.d = A.d → A'.bg = [a] → Mv (fun x => x = A.d) G H G' H' → DraftAt cP C G' H' A' { st with begun := [p] } → Q .non H'
def DraftE (cP C : Addr) : Sp := fun vs H Q _ => ∃ G A st a p, vs = [.ref A.d] ∧ Same G H ∧ DraftAt cP C G H A st ∧ st.begun = [p] ∧ A.bg = [a] ∧ st.parts.length ≤ 12 ∧
  ∀ G' H' A', A'.d = A.d → A'.bg = [] → Mv A.F G H G' H' → DraftAt cP C G' H' A' { st with parts := st.parts ++ [p], begun := [] } → Q .non H'
def DraftM (cP C : Addr) : Sp := fun vs H Q _ => ∃ G A st c t, vs = [.ref A.d, .int c, .int t] ∧ Same G H ∧ DraftAt cP C G H A st ∧ st.marbles.length ≤ 100 ∧
  ∀ G' H' A', A'.d = A.d → A'.bg = A.bg → Mv (fun x => x = A.d) G H G' H' → DraftAt cP C G' H' A' { st with marbles := st.marbles ++ [(c, t)] } → Q .non H'
section
variable {P : Program} {w : World} {K : PySem.W.Frag} {mg : Str → Option Value} {base : Heap} {cPart cDraft cRun cBench : Addr}
theorem ok_Draft (T : Top K mg cPart cDraft cRun cBench) : CalI P w K mg base cDraft 1 (DraftI cPart cDraft) := by
  refine T.i_Draft.ok sc_Draft___init__ (fun vs H Q E ⟨G, x, dx, e, _⟩ => by rw [e]; rfl) fun f cdv Ar outer s H vs Q E hr ⟨G, x, dx, e, hs, hx, hg, hk⟩ => ?_
  subst e
  have m0 : Mv (fun a => a = x) G H G H := Mv.of (Gw.refl hs)
  refine ws_fld hs (je_lst (R := rPart cPart) jl_nil) (fun H1 w1 => je_vO 0 rfl) hx T.k_Draft T.f_Draft_parts (of_decide_eq_true rfl) (fun v1 G1 H1 w1 hv1 => ?_)
  have g1 := w1.out hg hx
  have m1 := (m0.t (Mv.of w1)).t (Mv.upd (o := .ins cDraft dx (putF "parts" v1 [])) w1.s rfl g1 (w1.h _ _ hx))
  refine ws_fld m1.s (je_lst (R := rV) jl_nil) (fun H1 w1 => je_vO 0 rfl) upd_same T.k_Draft T.f_Draft_begun (of_decide_eq_true rfl) (fun v2 G2 H2 w2 hv2 => ?_)
  have g2 := w2.out g1 upd_same
  have m2 := (m1.t (Mv.of w2)).t (Mv.upd (o := .ins cDraft dx (putF "begun" v2 (putF "parts" v1 []))) w2.s rfl g2 (w2.h _ _ upd_same))
  refine ws_fld m2.s (je_lst (R := rPair) jl_nil) (fun H1 w1 => je_vO 0 rfl) upd_same T.k_Draft T.f_Draft_marbles (of_decide_eq_true rfl) (fun v3 G3 H3 w3 hv3 => ?_)
  have g3 := w3.out g2 upd_same
  obtain ⟨q, us, rfl, hq, hus⟩ := hv2
  cases hus
  have m3 := (m2.t (Mv.of w3)).t (Mv.upd (o := .ins cDraft dx (dF v1 q v3)) w3.s rfl g3 (w3.h _ _ upd_same))
  exact ws_nil (hk G3 _ ⟨x, dx, [], q, v1, v3⟩ rfl rfl m3 ⟨upd_same, (rL (rPart cPart)).m (w2.g.trans w3.g) hv1, w3.g _ _ hq, .nil, hv3, (fun a ha => by
    rcases ha with e | e
    · rw [e]; exact g3
    · cases e), (by simp)⟩)
theorem ok_begin (T : Top K mg cPart cDraft cRun cBench) : CalM P w K mg base cDraft "begin" 1 (DraftB cPart cDraft) := by
  refine T.m_Draft_begin.ok sc_Draft_begin (fun vs H Q E ⟨G, A, st, a, p, e, _⟩ => by rw [e]; rfl) fun f cdv Ar outer s H vs Q E hr ⟨G, A, st, a, p, e, hs, h_self, hp, hg, hne, hk⟩ => ?_
  subst e
  refine ws_fld hs (je_lst (R := rV) (jl_cons (je_vO (z := .ref a) 1 rfl) jl_nil)) (fun H1 w1 => je_vO 0 rfl) h_self.o T.k_Draft T.f_Draft_begun (of_decide_eq_true rfl) (fun v1 G1 H1 w1 hv1 => ?_)
  have h_self := h_self.gw w1
  have hp1 : PartIn cPart G1 H1 a p := hp.gw w1
  obtain ⟨dx', vn', vc', hpa, _⟩ := hp
  have gp := w1.out hg hpa
  obtain ⟨q, us, rfl, hq, hus⟩ := hv1
  have eus : us = [V.ref a] := by
    cases hus with
    | cons h t =>
      cases t
      rw [show _ = V.ref a from h]
  subst eus
  rw [dF_putb]
  have gd := h_self.gn A.d (.inl rfl)
  refine ws_nil (hk G1 _ ⟨A.d, A.dx, [a], q, A.vp, A.vm⟩ rfl rfl ((Mv.of w1).t (Mv.upd w1.s rfl gd h_self.o)) ⟨upd_same, h_self.p, hq, .cons ?_ .nil, h_self.m, ?_, ?_⟩)
  · obtain ⟨dx, vn, vc, q1, q2, q3⟩ := hp1
    exact ⟨dx, vn, vc, by rw [upd_ne hne]; exact q1, q2, q3⟩
  · rintro y (e | e)
    · rw [e]; exact gd
    · rw [List.mem_singleton] at e
      rw [e]; exact gp
  · rw [List.mem_singleton]
    exact hne.symm
theorem ok_end (T : Top K mg cPart cDraft cRun cBench) : CalM P w K mg base cDraft "end" 1 (DraftE cPart cDraft) := by
  refine T.m_Draft_end.ok sc_Draft_end (fun vs H Q E ⟨G, A, st, a, p, e, _⟩ => by rw [e]; rfl) fun f cdv Ar outer s H vs Q E hr ⟨G, A, st, a, p, e, hs, h_self, eb, ea, hl, hk⟩ => ?_
  subst e
  have hpp := h_self.bs
  rw [eb, ea] at hpp
  cases hpp with
  | cons hpa _ =>
  have ga := h_self.gn a (.inr (by rw [ea]; exact List.mem_singleton.mpr rfl))
  have hpa2 := hpa
  obtain ⟨dxa, vna, vca, qa, qb, qc⟩ := hpa2
  have mf := (Mv.of (F := A.F) (Gw.refl hs)).frz (.inr (by rw [ea]; exact List.mem_singleton.mpr rfl)) ga qa
  have sg : Same G (upd G a _) := mf.g
  have gd0 := h_self.gn A.d (.inl rfl)
  have nda : A.d ≠ a := fun e => h_self.ne (by rw [ea, e]; exact List.mem_singleton.mpr rfl)
  have gd1 : (upd G a (.ins cPart dxa (pF vna p.w p.h vca p.sets))) A.d = none := by rw [upd_ne nda]; exact gd0
  have rp : (rPart cPart).r (upd G a (.ins cPart dxa (pF vna p.w p.h vca p.sets))) (.ref a) p := ⟨a, rfl, dxa, vna, vca, upd_same, (rL rInt).m sg qb, (rL rCell).m sg qc⟩
  refine ws_fld mf.s (je_cat (je_fld (R := rL (rPart cPart)) (je_vO 0 rfl) h_self.o T.k_Draft T.f_Draft_parts dF_parts ((rL (rPart cPart)).m sg h_self.p)) (je_fld (R := rL (rPart cPart)) (x := [p]) (je_vO 0 rfl) h_self.o T.k_Draft T.f_Draft_begun dF_begun ⟨A.q, [.ref a], rfl, by rw [sg _ _ h_self.b, ea]; rfl, .cons rp .nil⟩) (by simp; omega)) (fun H1 w1 => je_vO 0 rfl) h_self.o T.k_Draft T.f_Draft_parts (of_decide_eq_true rfl) (fun v1 G1 H1 w1 hv1 => ?_)
  rw [dF_putp]
  have gd2 := w1.out gd1 h_self.o
  have m1 := ((mf.t (Mv.of w1))).t (Mv.upd (F := A.F) (o := .ins cDraft A.dx (dF v1 A.q A.vm)) w1.s (.inl rfl) gd2 (w1.h _ _ h_self.o))
  refine ws_fld m1.s (je_lst (R := rV) jl_nil) (fun H1 w1 => je_vO 0 rfl) upd_same T.k_Draft T.f_Draft_begun (of_decide_eq_true rfl) (fun v2 G2 H2 w2 hv2 => ?_)
  obtain ⟨q, us, rfl, hq, hus⟩ := hv2
  cases hus
  rw [dF_putb]
  have gd3 := w2.out gd2 upd_same
  refine ws_nil (hk G2 _ ⟨A.d, A.dx, [], q, v1, A.vm⟩ rfl rfl ((m1.t (Mv.of w2)).t (Mv.upd w2.s (.inl rfl) gd3 (w2.h _ _ upd_same))) ⟨upd_same, (rL (rPart cPart)).m w2.g hv1, hq, .nil, (rL rPair).m ((sg.trans w1.g).trans w2.g) h_self.m, ?_, by simp⟩)
  rintro y (e | e)
  · rw [e]; exact gd3
  · cases e
theorem ok_add_marble (T : Top K mg cPart cDraft cRun cBench) : CalM P w K mg base cDraft "add_marble" 1 (DraftM cPart cDraft) := by
  refine T.m_Draft_add_marble.ok sc_Draft_add_marble (fun vs H Q E ⟨G, A, st, c, t, e, _⟩ => by rw [e]; rfl) fun f cdv Ar outer s H vs Q E hr ⟨G, A, st, c, t, e, hs, h_self, hl, hk⟩ => ?_
  subst e
  refine ws_fld hs (je_cat (je_draft_marbles T h_self (je_vO 0 rfl)) (je_lst (jl_cons (je_t2 (je_vI 1 rfl) (je_vI 2 rfl)) jl_nil)) (by walk_at "s")) (fun H1 w1 => je_vO 0 rfl) h_self.o T.k_Draft T.f_Draft_marbles (of_decide_eq_true rfl) (fun v1 G1 H1 w1 hv1 => ?_)
  rw [dF_putm]
  have h_self := h_self.gw w1
  have gd := h_self.gn A.d (.inl rfl)
  refine ws_nil (hk G1 _ ⟨A.d, A.dx, A.bg, A.q, A.vp, v1⟩ rfl rfl ((Mv.of w1).t (Mv.upd w1.s rfl gd h_self.o)) ⟨upd_same, h_self.p, h_self.b, pm (fun x p ⟨dx, vn, vc, q1, q2, q3⟩ => ⟨dx, vn, vc, ?_, q2, q3⟩) h_self.bs, hv1, h_self.gn, h_self.ne⟩)
  rw [upd_ne (ne_of q1 h_self.o (by
    intro e
    injection e with e1 e2 e3
    exact absurd (congrArg List.length e3) (show ¬ (5 = 3) by decide)))]
  exact q1
end
end Ck
end
section
set_option Elab.async false
set_option linter.all false
set_option maxRecDepth 100000
set_option maxHeartbeats 4000000
namespace Ck
open PySem PySem.Spec PyProof.Rows L2
open Mir (itm)
local macro_rules | `(tactic| walk_at "s") => `(tactic| first | assumption | omega | (simp only [onPre, List.length_map, List.length_drop, List.length_take, List.length_append, List.length_cons, List.length_nil, decide_eq_true_eq, decide_eq_false_iff_not, Bool.not_eq_false', Bool.not_eq_true', Bool.or_eq_false_iff] at *; omega))
local macro_rules | `(tactic| walk_at "w") => `(tactic| first | assumption | exact wsOk_drop (by assumption) _)
theorem DraftAt.mv {cP C : Addr} {G H G' H' : Hp} {A : DAdr} {st : Mir.DraftS} {F : Addr → Prop} (h : DraftAt cP C G H A st) (m : Mv F G H G' H') (n : ∀ a, A.F a → ¬ F a) : DraftAt cP C G' H' A st :=
  ⟨m.h _ _ (n _ (.inl rfl)) h.o, (rL (rPart cP)).m m.g h.p, m.g _ _ h.b, by
    have n2 : ∀ a ∈ A.bg, ¬ F a := fun a ha => n a (.inr ha)
    have z := h.bs
    revert n2 z
    generalize A.bg = l
    generalize st.begun = l2
    intro n2 z
    induction z with
    | nil => exact .nil
    | cons h t ih =>
      obtain ⟨dx, vn, vc, q1, q2, q3⟩ := h
      exact .cons ⟨dx, vn, vc, m.h _ _ (n2 _ List.mem_cons_self) q1, (rL rInt).m m.g q2, (rL rCell).m m.g q3⟩ (ih fun a ha => n2 a (List.mem_cons_of_mem _ ha)), (rL rPair).m m.g h.m, fun a ha => let ⟨_, e⟩ := h.there a ha
    m.out (n a ha) (h.gn a ha) e, h.ne⟩
abbrev DrP {β : Type} (cP C : Addr) : Hp → Hp → (DAdr × Mir.DraftS) × List (List Int) × β → Prop := fun G H x => DraftAt cP C G H x.1.1 x.1.2 ∧ Mir.Wd x.1.2 ∧ WsOk x.2.1
section
variable {P : Program} {w : World} {K : PySem.W.Frag} {mg : Str → Option Value} {base : Heap} {cPart cDraft cRun cBench : Addr}
theorem ok_read_part (T : Top K mg cPart cDraft cRun cBench) : Cal P w K mg base "read_part" 4 (CtD cPart cDraft (a2 rD (rL (rL rInt))) (fun x => x.1.1) (DrP cPart cDraft) rInt fun x => Mir.readPart x.1.2 x.2.1) := by
  refine T.d_read_part.ok sc_read_part (fun vs H Q E ⟨G, x, _, h, _⟩ => (AR.len _ h)) fun f cdv Ar outer s H vs Q E hr ⟨G, x, hs, ha, hp, hk⟩ => ?_
  obtain ⟨⟨A, d⟩, ws, _⟩ := x
  obtain ⟨_, _, rfl, rfl, vw, _, rfl, h_words, rfl⟩ := ha
  obtain ⟨h_draft, h_wd, h_wok⟩ := hp
  dsimp only at h_draft h_wd h_wok h_words
  have l1 := itm_len h_wok 1
  have l2 := itm_len h_wok 2
  have l3 := itm_len h_wok 3
  have hpl := h_wd.pl
  have ret : ∀ (G1 H1 : Hp) (v : V) (n : Int), Gw G H G1 H1 → Mir.readPart d ws = (d, n) → rInt.r G1 v n → Q v H1 := fun G1 H1 v n w1 e hv => by
    refine hk v G1 H1 A rfl (fun y hy => .inl hy) (Mv.of w1) ?_ ?_
    · show DraftAt cPart cDraft G1 H1 A (Mir.readPart d ws).1
      rw [e]
      exact h_draft.gw w1
    · show rInt.r G1 v (Mir.readPart d ws).2
      rw [e]
      exact hv
  refine ws_when hs (jt_w (jw_or (jt_c (jc_neI (je_len rfl T.b_len (JR.q (je_v 1 rfl h_words))) je_int)) fun hsc => (jw_or (jt_not (jt_v (je_call (ok_is_name T) (hr.mono (by decide)) (ja_cons (je_ix (d := []) (JR.q (je_v 1 rfl h_words)) je_int (by walk_at "s") (by walk_at "s")) ja_nil) (fun _ _ _ => by walk_at "s")))) fun hsc => (jw_or (jt_c (jc_neN (JR.q (je_draft_begun T h_draft (je_vO 0 rfl))) hr.units)) fun hsc => (jw_or1 (jt_c (jc_neN (JR.q (je_draft_marbles T h_draft (je_vO 0 rfl))) hr.units))))))) (fun hb H1 w1 => ?_) (fun hb H1 w1 => ?_)
  · have hb : (!decide ((ws.length : Int) = 4) || (!Mir.isName (itm [] ws 1) || (!decide (d.begun.length = 0) || !decide (d.marbles.length = 0)))) = true := hb
    exact ws_ret w1.s je_int fun v G' H' w8 hv => ret G' H' v 1 (w1.t w8) (by unfold Mir.readPart; exact if_pos hb) hv
  have hb : (!decide ((ws.length : Int) = 4) || (!Mir.isName (itm [] ws 1) || (!decide (d.begun.length = 0) || !decide (d.marbles.length = 0)))) = false := hb
  have hb4 : (ws.length : Int) = 4 ∧ d.begun.length = 0 := by
    simp only [Bool.or_eq_false_iff, Bool.not_eq_false', decide_eq_true_eq] at hb
    exact ⟨hb.1, hb.2.2.1⟩
  have hb4l := hb4.1
  have h_draft := h_draft.gw w1
  refine ws_when w1.s (jt_w (jw_or (jt_not (jt_v (je_call (ok_is_number_within T) (hr.mono (by decide)) (ja_cons (je_ix (d := []) (JR.q (je_v 1 rfl h_words)) je_int (by walk_at "s") (by walk_at "s")) (ja_cons je_int (ja_cons (je_gi T.c_MOST_SIZE) ja_nil))) (fun _ _ _ => by walk_at "s")))) fun hsc => (jw_or1 (jt_not (jt_v (je_call (ok_is_number_within T) (hr.mono (by decide)) (ja_cons (je_ix (d := []) (JR.q (je_v 1 rfl h_words)) je_int (by walk_at "s") (by walk_at "s")) (ja_cons je_int (ja_cons (je_gi T.c_MOST_SIZE) ja_nil))) (fun _ _ _ => by walk_at "s"))))))) (fun hb2 H2 w2 => ?_) (fun hb2 H2 w2 => ?_)
  · have hb2 : (!Mir.isNumberWithin (itm [] ws 2) 1 24 || !Mir.isNumberWithin (itm [] ws 3) 1 24) = true := hb2
    exact ws_ret w2.s je_int fun v G' H' w8 hv => ret G' H' v 1 ((w1.t w2).t w8) (by unfold Mir.readPart; rw [if_neg (bno hb)]; exact if_pos hb2) hv
  have hb2 : (!Mir.isNumberWithin (itm [] ws 2) 1 24 || !Mir.isNumberWithin (itm [] ws 3) 1 24) = false := hb2
  have h_draft := h_draft.gw w2
  have w2 := w1.t w2
  refine ws_when w2.s (jt_c (jc_neN (JR.q (je_call (ok_part_named T) (hr.mono (by decide)) (ja_cons (je_draft_parts T h_draft (je_vO 0 rfl)) (ja_cons (je_ix (d := []) (JR.q (je_v 1 rfl h_words)) je_int (by walk_at "s") (by walk_at "s")) ja_nil)) (fun _ _ _ => by walk_at "s"))) hr.units)) (fun hb3 H3 w3 => ?_) (fun hb3 H3 w3 => ?_)
  · have hb3 : (!decide ((Mir.partNamed d.parts (itm [] ws 1)).length = 0)) = true := hb3
    exact ws_ret w3.s je_int fun v G' H' w8 hv => ret G' H' v 2 ((w2.t w3).t w8) (by unfold Mir.readPart; rw [if_neg (bno hb), if_neg (bno hb2)]; exact if_pos hb3) hv
  have hb3 : (!decide ((Mir.partNamed d.parts (itm [] ws 1)).length = 0)) = false := hb3
  have h_draft := h_draft.gw w3
  have w3 := w2.t w3
  refine ws_when w3.s (jt_c (jc_ge (je_len rfl T.b_len (JR.q (je_draft_parts T h_draft (je_vO 0 rfl)))) (je_gi T.c_MOST_PARTS))) (fun hb5 H4 w4 => ?_) (fun hb5 H4 w4 => ?_)
  · have hb5 : decide (12 ≤ (d.parts.length : Int)) = true := hb5
    exact ws_ret w4.s je_int fun v G' H' w8 hv => ret G' H' v 5 ((w3.t w4).t w8) (by unfold Mir.readPart; rw [if_neg (bno hb), if_neg (bno hb2), if_neg (bno hb3)]; exact if_pos hb5) hv
  have hb5 : decide (12 ≤ (d.parts.length : Int)) = false := hb5
  have h_draft := h_draft.gw w4
  have w4 := w3.t w4
  have eres : Mir.readPart d ws = ({ d with begun := [⟨itm [] ws 1, Mir.numberOf (itm [] ws 2), Mir.numberOf (itm [] ws 3), [], 1⟩] }, 0) := by
    unfold Mir.readPart
    rw [if_neg (bno hb), if_neg (bno hb2), if_neg (bno hb3), if_neg (bno hb5)]
  refine ws_do (we_meth (ok_begin T) (hr.mono (by decide)) T.k_Draft w4.s (je_vO 0 rfl) h_draft.o rfl (fun H5 w5 => ?_))
  refine WA.of (pa_cons pe_w pa_nil rfl) ?_
  refine we_make (ok_Part T) (hr.mono (by decide)) T.g_Part ?_
  have h_draft := h_draft.gw w5
  have w5 := w4.t w5
  refine JA.mono (ja_cons (je_ix (d := []) (JR.q (je_v 1 rfl h_words)) je_int (by walk_at "s") (by walk_at "s")) (ja_cons (je_call (ok_number_of T) (hr.mono (by decide)) (ja_cons (je_ix (d := []) (JR.q (je_v 1 rfl h_words)) je_int (by walk_at "s") (by walk_at "s")) ja_nil) (fun _ _ _ => trivial)) (ja_cons (je_call (ok_number_of T) (hr.mono (by decide)) (ja_cons (je_ix (d := []) (JR.q (je_v 1 rfl h_words)) je_int (by walk_at "s") (by walk_at "s")) ja_nil) (fun _ _ _ => trivial)) ja_nil))) (Gw.refl w5.s) G H5 (Gw.refl w5.s) _ fun vs G6 H6 w6 hv => ?_
  obtain ⟨vn, _, rfl, hvn, _, _, rfl, rfl, _, _, rfl, rfl, rfl⟩ := hv
  intro x dx fx fd hne
  have m2 := Gw.mut (o := .own x) w6.s fd
  have fx2 : upd H6 dx (.own x) x = none := by
    rw [upd_ne hne.symm]
    exact fx
  have m3 := Gw.mut (o := .ins cPart dx []) m2.s fx2
  have wn := (w6.t m2).t m3
  have h_draft := h_draft.gw wn
  refine ⟨G6, x, dx, vn, itm [] ws 1, _, _, rfl, m3.s, upd_same, w6.s.free fx, hvn, fun G7 H7 m7 hp7 hg7 => ⟨rfl, ?_⟩⟩
  have fxH : H x = none := (w5.t w6).free fx
  have nf : ∀ y, A.F y → ¬ y = x := fun y hy e => by
    obtain ⟨o, ho⟩ := (DraftAt.there (by assumption : DraftAt cPart cDraft G H A d)) y hy
    rw [e, fxH] at ho
    cases ho
  have h_draft := h_draft.mv m7 nf
  have w7 := (w5.t wn).mv m7 (fun y e => by
    have e : y = x := e
    rw [e]
    exact fxH)
  refine ⟨G7, A, d, x, _, rfl, m7.s, h_draft, hp7, hg7, fun e => nf A.d (.inl rfl) e.symm, fun G8 H8 A' e1 e2 m8 hd8 => ?_⟩
  refine ws_ret m8.s je_int fun v G9 H9 w9 hv => ?_
  refine hk v G9 H9 A' e1 (fun y hy => ?_) (((Mv.of w7).t (m8.wk fun a e => .inl e)).t (Mv.of w9)) ?_ ?_
  · rw [e2, List.mem_singleton] at hy
    rw [hy]
    exact .inr fxH
  · show DraftAt cPart cDraft G9 H9 A' (Mir.readPart d ws).1
    rw [eres]
    exact hd8.gw w9
  · show rInt.r G9 v (Mir.readPart d ws).2
    rw [eres]
    exact hv
theorem ok_read_row (T : Top K mg cPart cDraft cRun cBench) : Cal P w K mg base "read_row" 3 (CtD cPart cDraft (a2 rD (rL rInt)) (fun x => x.1.1) (fun G H x => DraftAt cPart cDraft G H x.1.1 x.1.2 ∧ Mir.Wd x.1.2 ∧ x.2.1.length ≤ 4000) rInt fun x => Mir.readRow x.1.2 x.2.1) := by
  refine T.d_read_row.ok sc_read_row (fun vs H Q E ⟨G, x, _, h, _⟩ => (AR.len _ h)) fun f cdv Ar outer s H vs Q E hr ⟨G, x, hs, ha, hp, hk⟩ => ?_
  obtain ⟨⟨A, d⟩, l, _⟩ := x
  obtain ⟨_, _, rfl, rfl, vl, _, rfl, h_line, rfl⟩ := ha
  obtain ⟨h_draft, h_wd, h_len⟩ := hp
  dsimp only at h_draft h_wd h_len h_line
  have nd := sc_read_row.nd
  have ret : ∀ (G1 H1 : Hp) (v : V) (n : Int), Gw G H G1 H1 → Mir.readRow d l = (d, n) → rInt.r G1 v n → Q v H1 := fun G1 H1 v n w1 e hv => by
    refine hk v G1 H1 A rfl (fun y hy => .inl hy) (Mv.of w1) ?_ ?_
    · show DraftAt cPart cDraft G1 H1 A (Mir.readRow d l).1
      rw [e]
      exact h_draft.gw w1
    · show rInt.r G1 v (Mir.readRow d l).2
      rw [e]
      exact hv
  refine ws_when hs (jt_c (jc_eqN (JR.q (je_draft_begun T h_draft (je_vO 0 rfl))) hr.units)) (fun hb H1 w1 => ?_) (fun hb H1 w1 => ?_)
  · have hb : d.begun = [] := List.eq_nil_of_length_eq_zero (of_decide_eq_true hb)
    exact ws_ret w1.s je_int fun v G' H' w8 hv => ret G' H' v 1 (w1.t w8) (by unfold Mir.readRow; rw [hb]) hv
  have hb : ¬ d.begun.length = 0 := of_decide_eq_false hb
  obtain ⟨p, eb⟩ : ∃ p, d.begun = [p] := by
    cases q : d.begun with
    | nil => rw [q] at hb; exact absurd rfl hb
    | cons p r => exact ⟨p, by rw [Mir.begun_one h_wd q]⟩
  have hbs := h_draft.bs
  rw [eb] at hbs
  obtain ⟨a, ea⟩ : ∃ a, A.bg = [a] := by
    cases hq : A.bg with
    | nil => rw [hq] at hbs; cases hbs
    | cons a r =>
      rw [hq] at hbs
      cases hbs with
      | cons _ t => cases t; exact ⟨a, rfl⟩
  rw [ea] at hbs
  have h_part : PartIn cPart G H a p := by cases hbs; assumption
  have hg : G a = none := h_draft.gn a (.inr (by rw [ea]; exact List.mem_singleton.mpr rfl))
  have h_wp : Mir.Wp p := h_wd.bg p (by rw [eb]; exact List.mem_singleton.mpr rfl)
  have h_pw : Pw p := pw_of h_wp
  have hple := h_wp.le
  have h_draft0 := h_draft
  have h_draft := h_draft.gw w1
  have h_part := h_part.gw w1
  have jbg := fun {pos : Pos} {pos2 : Pos} {j : Nat} {e : Expr} {σ : L2.St} {X : Cx} (T' : Top X.K X.mg cPart cDraft cRun cBench) (j0 : JR X σ G H1 e rV (.ref A.d)) (hb) => (je_draft_bg (pos := pos) T' h_draft j0 hb)
  refine ws_set 2 w1.s (JR.eq (je_fst (u := .ref a) (us := []) ((je_draft_bg T h_draft (je_vO 0 rfl)).eq (by rw [ea]; rfl))) rfl) (fun v2 G2 H2 w2 hv2 => ?_) nd
  cases (show v2 = .ref a from hv2)
  have h_line := (rL rInt).m w2.g h_line
  have h_part := h_part.gw w2
  refine ws_set 3 w2.s (je_sD (JR.q (je_v 1 rfl h_line)) je_int (by walk_at "s")) (fun v3 G3 H3 w3 h_signs => ?_) nd
  have h_signs : (rL rInt).r G3 v3 (l.drop 1) := h_signs
  have h_part := h_part.gw w3
  have w3 := (w1.t w2).t w3
  have hsl : (l.drop 1).length ≤ 4000 := by rw [List.length_drop]; omega
  generalize hsg : l.drop 1 = sg at *
  refine ws_when w3.s (jt_w (jw_or (jt_v (je_meth0 (ok_is_full T) (hr.mono (by decide)) T.k_Part h_part (fun _ _ wq => ⟨h_part.gw wq, h_pw⟩) (je_vO 2 rfl))) fun hsc => (jw_or (jt_c (jc_neI (je_len rfl T.b_len (JR.q (je_v 3 rfl h_signs))) (je_part_width T h_part (je_vO 2 rfl)))) fun hsc => (jw_or1 (jt_not (jt_v (je_all rfl T.b_all rfl (JR.q (je_lcM 4 (f := Mir.isCellSign) rfl nd (JR.q (je_v 3 rfl h_signs)) (blkOk_by (N := n_read_row) (sc := defScope s_read_row) (by decide +kernel)) (by walk_at "s") (fun i x v G3 H3 hx w3 hv s Hb C cl fp => by cases (show v = .int x from hv); exact JR.eq (je_call (ok_is_cell_sign T) (hr.mono (by decide)) (ja_cons (je_vI 4 rfl) ja_nil) (fun _ _ _ => trivial)) rfl)))))))))) (fun hb4 H4 w4 => ?_) (fun hb4 H4 w4 => ?_)
  · have hb4 : (Mir.isFull p || (!decide ((sg.length : Int) = p.w) || !(sg.map Mir.isCellSign).all id)) = true := hb4
    exact ws_ret w4.s je_int fun v G' H' w8 hv => ret G' H' v 1 ((w3.t w4).t w8) (by unfold Mir.readRow; rw [eb]; dsimp only; rw [hsg]; exact if_pos hb4) hv
  have hb4 : (Mir.isFull p || (!decide ((sg.length : Int) = p.w) || !(sg.map Mir.isCellSign).all id)) = false := hb4
  have eres : Mir.readRow d l = ({ d with begun := [{ p with cells := p.cells ++ sg.map Mir.cellOf }] }, 0) := by
    unfold Mir.readRow
    rw [eb]
    dsimp only
    rw [hsg]
    exact if_neg (bno hb4)
  have h_part := h_part.gw w4
  have w4 := w3.t w4
  have there : ∃ o, H a = some o := (by
    obtain ⟨_, _, _, h, _⟩ := (show PartIn cPart G H a p by cases hbs; assumption)
    exact ⟨_, h⟩)
  have g4 : G3 a = none := w4.out hg there.choose_spec
  refine ws_do (we_methP (ok_add_row T) (hr.mono (by decide)) T.k_Part w4.s (je_vO 2 rfl) h_part g4 (ja_cons (je_lcM 4 (f := Mir.cellOf) rfl nd (JR.q (je_v 3 rfl h_signs)) (blkOk_by (N := n_read_row) (sc := defScope s_read_row) (by decide +kernel)) (by walk_at "s") (fun i x v G3 H3 hx w3 hv s Hb C cl fp => by cases (show v = .int x from hv); exact JR.eq (je_call (ok_cell_of T) (hr.mono (by decide)) (ja_cons (je_vI 4 rfl) ja_nil) (fun _ _ _ => trivial)) rfl)) ja_nil) (fun _ _ wq => ⟨h_part.gw wq, hple.2.2, by show (sg.map Mir.cellOf).length ≤ 4000; rw [List.length_map]; exact hsl⟩) fun v5 G5 H5 m5 hp5 hg5 hv5 => ?_)
  have hd5 := (h_draft0.gw w4).part eb ea m5 hp5 hg5
  refine ws_ret m5.s je_int fun v G9 H9 w9 hv => ?_
  refine hk v G9 H9 A rfl (fun y hy => .inl hy) (((Mv.of w4).t (m5.wk fun y e => .inr (by rw [ea, List.mem_singleton]; exact e))).t (Mv.of w9)) ?_ ?_
  · show DraftAt cPart cDraft G9 H9 A (Mir.readRow d l).1
    rw [eres]
    exact hd5.gw w9
  · show rInt.r G9 v (Mir.readRow d l).2
    rw [eres]
    exact hv
end
end Ck
end
section
set_option Elab.async false
set_option linter.all false
set_option maxRecDepth 100000
set_option maxHeartbeats 4000000
namespace Ck
open PySem PySem.Spec PyProof.Rows L2
open Mir (itm)
local macro_rules | `(tactic| walk_at "s") => `(tactic| first | assumption | omega | (simp only [onPre, List.length_map, List.length_drop, List.length_take, List.length_append, List.length_cons, List.length_nil, decide_eq_true_eq, decide_eq_false_iff_not, Bool.not_eq_false', Bool.not_eq_true', Bool.or_eq_false_iff] at *; omega))
local macro_rules | `(tactic| walk_at "w") => `(tactic| first | assumption | exact wsOk_drop (by assumption) _)
theorem begun_of {cP C : Addr} {G H : Hp} {A : DAdr} {d : Mir.DraftS} {p : Mir.PartD} (h : DraftAt cP C G H A d) (eb : d.begun = [p]) : ∃ a, A.bg = [a] ∧ PartIn cP G H a p ∧ G a = none ∧ A.F a := by
  have hbs := h.bs
  rw [eb] at hbs
  cases hq : A.bg with
  | nil => rw [hq] at hbs; cases hbs
  | cons a r =>
    rw [hq] at hbs
    cases hbs with
    | cons h1 t =>
      cases t
      have hf : A.F a := .inr (by rw [hq]; exact List.mem_singleton.mpr rfl)
      exact ⟨a, rfl, h1, h.gn a hf, hf⟩
section
variable {P : Program} {w : World} {K : PySem.W.Frag} {mg : Str → Option Value} {base : Heap} {cPart cDraft cRun cBench : Addr}
theorem ok_read_end (T : Top K mg cPart cDraft cRun cBench) : Cal P w K mg base "read_end" 3 (CtD cPart cDraft (a2 rD (rL (rL rInt))) (fun x => x.1.1) (DrP cPart cDraft) rInt fun x => Mir.readEnd x.1.2 x.2.1) := by
  refine T.d_read_end.ok sc_read_end (fun vs H Q E ⟨G, x, _, h, _⟩ => (AR.len _ h)) fun f cdv Ar outer s H vs Q E hr ⟨G, x, hs, ha, hp, hk⟩ => ?_
  obtain ⟨⟨A, d⟩, ws, _⟩ := x
  obtain ⟨_, _, rfl, rfl, vw, _, rfl, h_words, rfl⟩ := ha
  obtain ⟨h_draft, h_wd, h_wok⟩ := hp
  dsimp only at h_draft h_wd h_wok h_words
  have ret : ∀ (G1 H1 : Hp) (v : V) (n : Int), Gw G H G1 H1 → Mir.readEnd d ws = (d, n) → rInt.r G1 v n → Q v H1 := fun G1 H1 v n w1 e hv => by
    refine hk v G1 H1 A rfl (fun y hy => .inl hy) (Mv.of w1) ?_ ?_
    · show DraftAt cPart cDraft G1 H1 A (Mir.readEnd d ws).1
      rw [e]
      exact h_draft.gw w1
    · show rInt.r G1 v (Mir.readEnd d ws).2
      rw [e]
      exact hv
  have full : ∀ {b : List Expr} (hsc2 : decide (d.begun.length = 0) = false), ∃ p a, d.begun = [p] ∧ A.bg = [a] ∧ PartIn cPart G H a p ∧ Mir.Wp p := fun hsc2 => by
    cases q : d.begun with
    | nil => rw [q] at hsc2; exact absurd hsc2 (by decide)
    | cons p r =>
      have e1 := Mir.begun_one h_wd q
      subst e1
      obtain ⟨a, ea, hpa, _, _⟩ := begun_of h_draft q
      exact ⟨p, a, rfl, ea, hpa, h_wd.bg p (by rw [q]; exact List.mem_singleton.mpr rfl)⟩
  refine ws_when hs (jt_w (jw_or (jt_c (jc_neI (je_len rfl T.b_len (JR.q (je_v 1 rfl h_words))) je_int)) fun hsc => (jw_or (jt_c (jc_eqN (JR.q (je_draft_begun T h_draft (je_vO 0 rfl))) hr.units)) fun hsc2 => (jw_or1 (i := !Mir.isFull (d.begun.headD Mir.airP)) ?_)))) (fun hb H1 w1 => ?_) (fun hb H1 w1 => ?_)
  · obtain ⟨p, a, eb, ea, h_part, h_wp⟩ := full (b := []) hsc2
    have h_pw := pw_of h_wp
    refine JT.eq (b := !Mir.isFull p) (jt_not (jt_v (JR.eq (je_meth0 (ok_is_full T) (hr.mono (by decide)) T.k_Part h_part (fun _ _ wq => ⟨h_part.gw wq, h_pw⟩) (je_fst (u := .ref a) (us := []) ((je_draft_bg T h_draft (je_vO 0 rfl)).eq (by rw [ea]; rfl)))) rfl))) (by rw [eb]; rfl)
  · refine ws_ret w1.s je_int fun v G' H' w8 hv => ret G' H' v 1 (w1.t w8) ?_ hv
    unfold Mir.readEnd
    cases eb : d.begun with
    | nil => rfl
    | cons p r =>
      rw [eb] at hb
      have hb : (!decide ((ws.length : Int) = 1) || !Mir.isFull p) = true := hb
      exact if_pos hb
  · have hb : (!decide ((ws.length : Int) = 1) || (decide (d.begun.length = 0) || !Mir.isFull (d.begun.headD Mir.airP))) = false := hb
    have hb2 : decide (d.begun.length = 0) = false := by
      simp only [Bool.or_eq_false_iff] at hb
      exact hb.2.1
    obtain ⟨p, a, eb, ea, h_part, h_wp⟩ := full (b := []) hb2
    have eres : Mir.readEnd d ws = ({ d with parts := d.parts ++ [p], begun := [] }, 0) := by
      unfold Mir.readEnd
      rw [eb] at hb
      have hb : (!decide ((ws.length : Int) = 1) || !Mir.isFull p) = false := hb
      rw [eb]
      exact if_neg (bno hb)
    have h_draft := h_draft.gw w1
    refine ws_do (we_meth0 (ok_end T) (hr.mono (by decide)) T.k_Draft w1.s (je_vO 0 rfl) h_draft.o rfl (fun H2 w2 => ⟨G, A, d, a, p, rfl, w2.s, h_draft.gw w2, eb, ea, h_wd.pl, fun G3 H3 A' e1 e2 m3 hd3 => ?_⟩))
    refine ws_ret m3.s je_int fun v G9 H9 w9 hv => ?_
    refine hk v G9 H9 A' e1 (fun y hy => by rw [e2] at hy; cases hy) (((Mv.of (w1.t w2)).t m3).t (Mv.of w9)) ?_ ?_
    · show DraftAt cPart cDraft G9 H9 A' (Mir.readEnd d ws).1
      rw [eres]
      exact hd3.gw w9
    · show rInt.r G9 v (Mir.readEnd d ws).2
      rw [eres]
      exact hv
theorem ok_read_drop (T : Top K mg cPart cDraft cRun cBench) : Cal P w K mg base "read_drop" 6 (CtD cPart cDraft (a2 rD (rL (rL rInt))) (fun x => x.1.1) (DrP cPart cDraft) rInt fun x => Mir.readDrop x.1.2 x.2.1) := by
  refine T.d_read_drop.ok sc_read_drop (fun vs H Q E ⟨G, x, _, h, _⟩ => (AR.len _ h)) fun f cdv Ar outer s H vs Q E hr ⟨G, x, hs, ha, hp, hk⟩ => ?_
  obtain ⟨⟨A, d⟩, ws, _⟩ := x
  obtain ⟨_, _, rfl, rfl, vw, _, rfl, h_words, rfl⟩ := ha
  obtain ⟨h_draft, h_wd, h_wok⟩ := hp
  dsimp only at h_draft h_wd h_wok h_words
  have nd := sc_read_drop.nd
  have l1 := itm_len h_wok 1
  have l2 := itm_len h_wok 2
  have hml := h_wd.ml
  have ret : ∀ (G1 H1 : Hp) (v : V) (n : Int), Gw G H G1 H1 → Mir.readDrop d ws = (d, n) → rInt.r G1 v n → Q v H1 := fun G1 H1 v n w1 e hv => by
    refine hk v G1 H1 A rfl (fun y hy => .inl hy) (Mv.of w1) ?_ ?_
    · show DraftAt cPart cDraft G1 H1 A (Mir.readDrop d ws).1
      rw [e]
      exact h_draft.gw w1
    · show rInt.r G1 v (Mir.readDrop d ws).2
      rw [e]
      exact hv
  refine ws_when hs (jt_w (jw_or (jt_c (jc_neN (JR.q (je_draft_begun T h_draft (je_vO 0 rfl))) hr.units)) fun hsc => (jw_or1 (jt_not (jt_v (je_call (ok_is_drop T) (hr.mono (by decide)) (ja_cons (je_v 1 rfl h_words) ja_nil) (fun _ _ _ => by walk_at "w"))))))) (fun hb H1 w1 => ?_) (fun hb H1 w1 => ?_)
  · have hb : (!decide (d.begun.length = 0) || !Mir.isDrop ws) = true := hb
    exact ws_ret w1.s je_int fun v G' H' w8 hv => ret G' H' v 1 (w1.t w8) (by unfold Mir.readDrop; exact if_pos hb) hv
  have hb : (!decide (d.begun.length = 0) || !Mir.isDrop ws) = false := hb
  have hbd : Mir.isDrop ws = true := by
    simp only [Bool.or_eq_false_iff, Bool.not_eq_false'] at hb
    exact hb.2
  have fd := Mir.isDrop_facts hbd
  have fd3 := fd.1
  have h_draft := h_draft.gw w1
  refine ws_when w1.s (jt_c (jc_eqN (JR.q (je_draft_parts T h_draft (je_vO 0 rfl))) hr.units)) (fun hb2 H2 w2 => ?_) (fun hb2 H2 w2 => ?_)
  · have hb2 : decide (d.parts.length = 0) = true := hb2
    exact ws_ret w2.s je_int fun v G' H' w8 hv => ret G' H' v 6 ((w1.t w2).t w8) (by unfold Mir.readDrop; rw [if_neg (bno hb)]; exact if_pos hb2) hv
  have hb2 : decide (d.parts.length = 0) = false := hb2
  have hpl : ¬ d.parts.length = 0 := of_decide_eq_false hb2
  have h_draft := h_draft.gw w2
  have w2 := w1.t w2
  refine ws_par2 2 3 w2.s rfl nd (je_call (ok_number_of T) (hr.mono (by decide)) (ja_cons (je_ix (d := []) (JR.q (je_v 1 rfl h_words)) je_int (by walk_at "s") (by walk_at "s")) ja_nil) (fun _ _ _ => trivial)) (je_call (ok_number_of T) (hr.mono (by decide)) (ja_cons (je_ix (d := []) (JR.q (je_v 1 rfl h_words)) je_int (by walk_at "s") (by walk_at "s")) ja_nil) (fun _ _ _ => trivial)) (fun H3 w3 => ?_)
  have h_draft := h_draft.gw w3
  have w3 := w2.t w3
  generalize ec : Mir.numberOf (itm [] ws 1) = col at *
  generalize et : Mir.numberOf (itm [] ws 2) = tick at *
  refine ws_when w3.s (jt_c (jc_ge (je_vI 2 rfl) (je_rp_width T (je_ix (d := Mir.airP) (JR.q (je_draft_parts T h_draft (je_vO 0 rfl))) (je_sub (je_len rfl T.b_len (JR.q (je_draft_parts T h_draft (je_vO 0 rfl)))) je_int) (by walk_at "s") (by walk_at "s"))))) (fun hb5 H4 w4 => ?_) (fun hb5 H4 w4 => ?_)
  · have hb5 : decide ((itm Mir.airP d.parts ((d.parts.length : Int) - 1)).w ≤ col) = true := hb5
    exact ws_ret w4.s je_int fun v G' H' w8 hv => ret G' H' v 3 ((w3.t w4).t w8) (by unfold Mir.readDrop; rw [if_neg (bno hb), if_neg (bno hb2), ec]; exact if_pos hb5) hv
  have hb5 : decide ((itm Mir.airP d.parts ((d.parts.length : Int) - 1)).w ≤ col) = false := hb5
  have h_draft := h_draft.gw w4
  have w4 := w3.t w4
  have e0 : Mir.readDrop d ws = (let how : Int × Int := if decide (3 < (ws.length : Int)) then (Mir.numberOf (itm [] ws 4), Mir.numberOf (itm [] ws 6)) else (0, 1)
      if decide (40 < (d.marbles.length : Int) + how.2) then (d, 5)
      else ({ d with marbles := d.marbles ++ Mir.dropsOf col tick how.1 how.2 }, 0)) := by
    unfold Mir.readDrop
    rw [if_neg (bno hb), if_neg (bno hb2), ec, et, if_neg (bno hb5)]
  have fin : ∀ (later many : Int) H5, Gw G H G H5 → DraftAt cPart cDraft G H5 A d → -1000000 ≤ many → Mir.readDrop d ws = (if decide (40 < (d.marbles.length : Int) + many) then (d, 5) else ({ d with marbles := d.marbles ++ Mir.dropsOf col tick later many }, 0)) →
      WSs (cxOf CX0 P w K mg base n_read_drop "read_drop" (defScope s_read_drop) f cdv Ar outer s H E).nox ((defBody s_read_drop).drop 6) { nx := fun _ H' => Q .non H', rt := Q } [some (.ref A.d), some vw, some (.int col), some (.int tick), some (.int later), some (.int many), none] H5 := fun later many H5 w5 h_draft hm e5 => by
    refine ws_when w5.s (jt_c (jc_gt (je_add (je_len rfl T.b_len (JR.q (je_draft_marbles T h_draft (je_vO 0 rfl)))) (je_vI 5 rfl)) (je_gi T.c_MOST_MARBLES_texts))) (fun hb6 H6 w6 => ?_) (fun hb6 H6 w6 => ?_)
    · have hb6 : decide (40 < (d.marbles.length : Int) + many) = true := hb6
      exact ws_ret w6.s je_int fun v G' H' w8 hv => ret G' H' v 5 ((w5.t w6).t w8) (by rw [e5, if_pos hb6]) hv
    have hb6 : decide (40 < (d.marbles.length : Int) + many) = false := hb6
    rw [if_neg (bno hb6)] at e5
    have hb6 := of_decide_eq_false hb6
    have h_draft := h_draft.gw w6
    have w6 := w5.t w6
    refine ws_forR 6 w6.s T.b_range (je_vI 5 rfl) (by show _ ≤ many ∧ many ≤ _; omega) (fun i σ' G' H' => ∃ A' u, σ' = [some (.ref A.d), some vw, some (.int col), some (.int tick), some (.int later), some (.int many), u] ∧ A'.d = A.d ∧ A'.bg = A.bg ∧ Mv A.F G H G' H' ∧ DraftAt cPart cDraft G' H' A' { d with marbles := d.marbles ++ (Mir.dropsOf col tick later many).take i })
      (fun G7 H7 w7 => ⟨A, none, rfl, rfl, rfl, Mv.of (w6.t w7), by rw [List.take_zero, List.append_nil]; exact h_draft.gw w7⟩) ?_ ?_ rfl nd
    · rintro i σ' G' H' hi s1 s2 ⟨A', u, rfl, e1, e2, m, h_draft⟩
      have hi : (i : Int) < many := hi
      have hx : (Mir.dropsOf col tick later many)[i]? = some (col, tick + (i : Int) * later) := by
        unfold Mir.dropsOf
        rw [List.getElem?_map, rng_get hi]
        rfl
      refine ws_do (we_meth (ok_add_marble T) (hr.mono (by decide)) T.k_Draft s2 (by rw [← e1]; exact je_vO 0 (by rw [e1]; rfl)) h_draft.o rfl (fun H8 w8 => ?_))
      refine JA.mono (ja_cons (je_vI 2 rfl) (ja_cons (je_add (je_vI 3 rfl) (je_mul (je_vI 6 rfl) (je_vI 4 rfl) (by walk_at "s"))) ja_nil)) (Gw.refl w8.s) G' H8 (Gw.refl w8.s) _ fun vs G9 H9 w9 hv => ?_
      obtain ⟨_, _, rfl, rfl, _, _, rfl, rfl, rfl⟩ := hv
      have h_draft := (h_draft.gw w8).gw w9
      refine ⟨G9, A', _, col, tick + (i : Int) * later, rfl, w9.s, h_draft, ?_, fun G10 H10 A'' e3 e4 m10 hd10 => ws_nil ⟨G10, (w8.g.trans w9.g).trans m10.g, m10.s, A'', _, rfl, e3.trans e1, e4.trans e2, (m.t (Mv.of (w8.t w9))).t (m10.wk fun a e => .inl (e.trans e1)), ?_⟩⟩
      · show (d.marbles ++ (Mir.dropsOf col tick later many).take i).length ≤ 100
        rw [List.length_append, List.length_take, Mir.dropsOf_len]
        omega
      · rw [take_snoc hx, ← List.append_assoc]
        exact hd10
    · rintro σ' G' H' s1 s2 ⟨A', u, rfl, e1, e2, m, h_draft⟩
      rw [List.take_of_length_le (by rw [Mir.dropsOf_len]; exact Nat.le_refl _)] at h_draft
      refine ws_ret s2 je_int fun v G9 H9 w9 hv => ?_
      refine hk v G9 H9 A' e1 (fun y hy => .inl (by rw [e2] at hy; exact hy)) (m.t (Mv.of w9)) ?_ ?_
      · show DraftAt cPart cDraft G9 H9 A' (Mir.readDrop d ws).1
        rw [e5]
        exact h_draft.gw w9
      · show rInt.r G9 v (Mir.readDrop d ws).2
        rw [e5]
        exact hv
  refine ws_un2 4 5 w4.s (je_t2 je_int je_int) rfl nd (fun v1 v2 G5 H5 w5 e1 e2 => ?_)
  cases (show v1 = .int 0 from e1)
  cases (show v2 = .int 1 from e2)
  have w5 := w5.keep
  have h_draft := h_draft.gw w5
  have w5 := w4.t w5
  refine ws_when w5.s (jt_c (jc_gt (je_len rfl T.b_len (JR.q (je_v 1 rfl h_words))) je_int)) (fun hb8 H6 w6 => ?_) (fun hb8 H6 w6 => ?_)
  · have hb8 : decide (3 < (ws.length : Int)) = true := hb8
    have hb8i := of_decide_eq_true hb8
    have h7 : ws.length = 7 ∧ Mir.isEvery (ws.drop 3) = true := by
      rcases fd.2.2.2 with z | z
      · omega
      · exact z
    have h7l := h7.1
    have ep := Mir.every_pos h7.2
    refine ws_par2 4 5 w6.s rfl nd (je_call (ok_number_of T) (hr.mono (by decide)) (ja_cons (je_ix (d := []) (JR.q (je_v 1 rfl h_words)) je_int (by walk_at "s") (by walk_at "s")) ja_nil) (fun _ _ _ => trivial)) (je_call (ok_number_of T) (hr.mono (by decide)) (ja_cons (je_ix (d := []) (JR.q (je_v 1 rfl h_words)) je_int (by walk_at "s") (by walk_at "s")) ja_nil) (fun _ _ _ => trivial)) (fun H7 w7 => ws_nil ?_)
    exact fin _ _ H7 ((w5.t w6).t w7) ((h_draft.gw w6).gw w7) (by show -1000000 ≤ Mir.numberOf (itm [] ws 6); omega) (by rw [e0]; dsimp only; rw [if_pos hb8])
  · have hb8 : decide (3 < (ws.length : Int)) = false := hb8
    exact fin 0 1 H6 (w5.t w6) (h_draft.gw w6) (by omega) (by rw [e0]; dsimp only; rw [if_neg (bno hb8)])
end
end Ck
end
section
set_option Elab.async false
set_option linter.all false
set_option maxRecDepth 100000
set_option maxHeartbeats 4000000
namespace Ck
open PySem PySem.Spec PyProof.Rows L2
open Mir (itm)
local macro_rules | `(tactic| walk_at "s") => `(tactic| first | assumption | omega | (simp only [onPre, List.length_map, List.length_drop, List.length_take, List.length_append, List.length_cons, List.length_nil, decide_eq_true_eq, decide_eq_false_iff_not, Bool.not_eq_false', Bool.not_eq_true', Bool.or_eq_false_iff] at *; omega))
local macro_rules | `(tactic| walk_at "w") => `(tactic| first | assumption | exact wsOk_drop (by assumption) _)
theorem Mv.t2 {F F' : Addr → Prop} {G H G1 H1 G2 H2 : Hp} (a : Mv F G H G1 H1) (b : Mv F' G1 H1 G2 H2) (n : ∀ x, F' x → F x ∨ H x = none) : Mv F G H G2 H2 :=
  ⟨a.g.trans b.g, fun x o h e => b.h _ _ (fun q => by
    rcases n x q with z | z
    · exact h z
    · rw [z] at e; cases e) (a.h _ _ h e), b.s, fun x o e => by
    rcases b.f x o e with e | e | e
    · rcases n x e with z | z
      · exact .inl z
      · exact .inr (.inr z)
    · exact a.f x o e
    · exact .inr (.inr (a.d _ e)), fun x e => a.d _ (b.d _ e)⟩
section
variable {P : Program} {w : World} {K : PySem.W.Frag} {mg : Str → Option Value} {base : Heap} {cPart cDraft cRun cBench : Addr}
theorem ok_read_put (T : Top K mg cPart cDraft cRun cBench) : Cal P w K mg base "read_put" 6 (CtD cPart cDraft (a2 rD (rL (rL rInt))) (fun x => x.1.1) (DrP cPart cDraft) rInt fun x => Mir.readPut x.1.2 x.2.1) := by
  refine T.d_read_put.ok sc_read_put (fun vs H Q E ⟨G, x, _, h, _⟩ => (AR.len _ h)) fun f cdv Ar outer s H vs Q E hr ⟨G, x, hs, ha, hp, hk⟩ => ?_
  obtain ⟨⟨A, d⟩, ws, _⟩ := x
  obtain ⟨_, _, rfl, rfl, vw, _, rfl, h_words, rfl⟩ := ha
  obtain ⟨h_draft, h_wd, h_wok⟩ := hp
  dsimp only at h_draft h_wd h_wok h_words
  have nd := sc_read_put.nd
  have l1 := itm_len h_wok 1
  have l2 := itm_len h_wok 2
  have l3 := itm_len h_wok 3
  have hpl := h_wd.pl
  have ret : ∀ (G1 H1 : Hp) (v : V) (n : Int), Gw G H G1 H1 → Mir.readPut d ws = (d, n) → rInt.r G1 v n → Q v H1 := fun G1 H1 v n w1 e hv => by
    refine hk v G1 H1 A rfl (fun y hy => .inl hy) (Mv.of w1) ?_ ?_
    · show DraftAt cPart cDraft G1 H1 A (Mir.readPut d ws).1
      rw [e]
      exact h_draft.gw w1
    · show rInt.r G1 v (Mir.readPut d ws).2
      rw [e]
      exact hv
  have full : ∀ (hsc2 : decide (d.begun.length = 0) = false), ∃ p a, d.begun = [p] ∧ A.bg = [a] ∧ PartIn cPart G H a p ∧ Mir.Wp p := fun hsc2 => by
    cases q : d.begun with
    | nil => rw [q] at hsc2; exact absurd hsc2 (by decide)
    | cons p r =>
      have e1 := Mir.begun_one h_wd q
      subst e1
      obtain ⟨a, ea, hpa, _, _⟩ := begun_of h_draft q
      exact ⟨p, a, rfl, ea, hpa, h_wd.bg p (by rw [q]; exact List.mem_singleton.mpr rfl)⟩
  refine ws_when hs (jt_w (jw_or (jt_c (jc_eqN (JR.q (je_draft_begun T h_draft (je_vO 0 rfl))) hr.units)) fun hsc2 => (jw_or (i := !Mir.isFull (d.begun.headD Mir.airP)) ?_ fun hsc => (jw_or1 (jt_not (jt_v (je_call (ok_is_put T) (hr.mono (by decide)) (ja_cons (je_v 1 rfl h_words) ja_nil) (fun _ _ _ => by walk_at "w")))))))) (fun hb H1 w1 => ?_) (fun hb H1 w1 => ?_)
  · obtain ⟨p, a, eb, ea, h_part, h_wp⟩ := full hsc2
    have h_pw := pw_of h_wp
    refine JT.eq (b := !Mir.isFull p) (jt_not (jt_v (JR.eq (je_meth0 (ok_is_full T) (hr.mono (by decide)) T.k_Part h_part (fun _ _ wq => ⟨h_part.gw wq, h_pw⟩) (je_fst (u := .ref a) (us := []) ((je_draft_bg T h_draft (je_vO 0 rfl)).eq (by rw [ea]; rfl)))) rfl))) (by rw [eb]; rfl)
  · refine ws_ret w1.s je_int fun v G' H' w8 hv => ret G' H' v 1 (w1.t w8) ?_ hv
    unfold Mir.readPut
    cases eb : d.begun with
    | nil => rfl
    | cons p r =>
      rw [eb] at hb
      have hb : (!Mir.isFull p || !Mir.isPut ws) = true := hb
      exact if_pos hb
  have hb : (decide (d.begun.length = 0) || (!Mir.isFull (d.begun.headD Mir.airP) || !Mir.isPut ws)) = false := hb
  have hb2 : decide (d.begun.length = 0) = false := by
    simp only [Bool.or_eq_false_iff] at hb
    exact hb.1
  obtain ⟨p, a, eb, ea, h_part, h_wp⟩ := full hb2
  have hb : (!Mir.isFull p || !Mir.isPut ws) = false := by
    rw [eb] at hb
    exact hb
  have hb' : Mir.isFull p = true ∧ Mir.isPut ws = true := by
    simp only [Bool.or_eq_false_iff, Bool.not_eq_false'] at hb
    exact hb
  obtain ⟨fp4, fp2, fp3, fpm⟩ := Mir.isPut_facts hb'.2
  have h_wq := Mir.full_wq h_wp hb'.1
  have ga : G a = none := h_draft.gn a (.inr (by rw [ea]; exact List.mem_singleton.mpr rfl))
  have fa : A.F a := .inr (by rw [ea]; exact List.mem_singleton.mpr rfl)
  have s2l := Mir.signed_len fp2
  have s3l := Mir.signed_len fp3
  have h_draft0 := h_draft
  have h_draft := h_draft.gw w1
  refine ws_set 2 w1.s (je_call (ok_part_named T) (hr.mono (by decide)) (ja_cons (je_draft_parts T h_draft (je_vO 0 rfl)) (ja_cons (je_ix (d := []) (JR.q (je_v 1 rfl h_words)) je_int (by walk_at "s") (by walk_at "s")) ja_nil)) (fun _ _ _ => by walk_at "s")) (fun v2 G2 H2 w2 h_found => ?_) nd
  have h_found : (rL (rPart cPart)).r G2 v2 (Mir.partNamed d.parts (itm [] ws 1)) := h_found
  have h_draft := h_draft.gw w2
  have h_words := (rL (rL rInt)).m w2.g h_words
  have w2 := w1.t w2
  have e1 : Mir.readPut d ws = match Mir.partNamed d.parts (itm [] ws 1) with
      | [] => (d, 2)
      | q :: _ =>
        let more := Mir.behindMirror (ws.drop 4)
        let cells := if decide ((more.length : Int) = (ws.length : Int) - 4) then q.cells else Mir.mirroredCells q
        let how : Int × Int × Int := if !decide (more.length = 0) then (Mir.numberOf (itm [] more 1), Mir.signedOf (itm [] more 2), Mir.signedOf (itm [] more 3)) else (1, 0, 0)
        let z := Mir.copies q cells (Mir.signedOf (itm [] ws 2)) (Mir.signedOf (itm [] ws 3)) how.2.1 how.2.2 how.1.toNat 0 p
        ({ d with begun := [z.1] }, z.2) := by
    unfold Mir.readPut
    rw [eb]
    dsimp only
    exact if_neg (bno hb)
  refine ws_when w2.s (jt_c (jc_eqN (JR.q (je_v 2 rfl h_found)) hr.units)) (fun hb3 H3 w3 => ?_) (fun hb3 H3 w3 => ?_)
  · have hb3 : Mir.partNamed d.parts (itm [] ws 1) = [] := List.eq_nil_of_length_eq_zero (of_decide_eq_true hb3)
    exact ws_ret w3.s je_int fun v G' H' w8 hv => ret G' H' v 2 ((w2.t w3).t w8) (by rw [e1, hb3]) hv
  have hb3 : ¬ (Mir.partNamed d.parts (itm [] ws 1)).length = 0 := of_decide_eq_false hb3
  obtain ⟨q, r, eq⟩ : ∃ q r, Mir.partNamed d.parts (itm [] ws 1) = q :: r := by
    cases z : Mir.partNamed d.parts (itm [] ws 1) with
    | nil => rw [z] at hb3; exact absurd rfl hb3
    | cons q r => exact ⟨q, r, rfl⟩
  rw [eq] at h_found e1
  dsimp only at e1
  have hqm := Mir.found_mem eq
  have h_wq2 := h_wd.ps q hqm
  have h_qw := pw_of h_wq2.p
  obtain ⟨fl, us, rfl, hfl, hus⟩ := h_found
  obtain ⟨b, us', eus, h_cp0⟩ : ∃ b us', us = .ref b :: us' ∧ PartIn cPart G2 G2 b q := by
    cases hus with
    | cons h t =>
      obtain ⟨b, e, hb⟩ := h
      exact ⟨b, _, by rw [e], hb⟩
  subst eus
  have h_found0 : (rL rV).r G2 (.ref fl) (.ref b :: us') := ⟨fl, _, rfl, hfl, .cons rfl (by
    generalize us' = l
    induction l with
    | nil => exact .nil
    | cons x l ih => exact .cons rfl ih)⟩
  have w3 := w2.t w3
  refine ws_set 3 w3.s (je_call (ok_behind_mirror T) (hr.mono (by decide)) (ja_cons (je_sD (JR.q (je_v 1 rfl h_words)) je_int (by walk_at "s")) ja_nil) (fun _ _ _ => by walk_at "w")) (fun v4 G4 H4 w4 h_more => ?_) nd
  have h_more : (rL (rL rInt)).r G4 v4 (Mir.behindMirror (ws.drop 4)) := h_more
  have h_mok := bm_ok (wsOk_drop h_wok 4)
  have h_words := (rL (rL rInt)).m w4.g h_words
  have h_found0 := (rL rV).m w4.g h_found0
  have h_copied : PartIn cPart G4 H4 b q := h_cp0.mono w4.g (w4.g.trans w4.s)
  have h_cp4 : PartIn cPart G4 G4 b q := h_cp0.mono w4.g w4.g
  have w4 := w3.t w4
  generalize emo : Mir.behindMirror (ws.drop 4) = more at *
  have m1 := itm_len h_mok 1
  have m2 := itm_len h_mok 2
  have m3 := itm_len h_mok 3
  refine ws_set 4 w4.s (by have h_part := h_copied; have h_pw := h_qw; exact (je_if (jt_c (jc_eqI (je_len rfl T.b_len (JR.q (je_v 3 rfl h_more))) (je_sub (je_len rfl T.b_len (JR.q (je_v 1 rfl h_words))) je_int))) (fun hsc => (je_part_cells T h_copied (je_fst (je_v 2 rfl h_found0)))) (fun hsc => (je_call (ok_mirrored_cells T) (hr.mono (by decide)) (ja_cons (je_O (je_fst (je_v 2 rfl h_found0))) ja_nil) (fun _ _ wq => ⟨h_part.gw wq, h_pw⟩))))) (fun v5 G5 H5 w5 h_cells => ?_) nd
  have h_cells : (rL rCell).r G5 v5 (if decide ((more.length : Int) = (ws.length : Int) - 4) then q.cells else Mir.mirroredCells q) := h_cells
  have h_words := (rL (rL rInt)).m w5.g h_words
  have h_more := (rL (rL rInt)).m w5.g h_more
  have h_found0 := (rL rV).m w5.g h_found0
  have h_cp5 : PartIn cPart G5 G5 b q := h_cp4.mono w5.g w5.g
  have w5 := w4.t w5
  generalize ecs : (if decide ((more.length : Int) = (ws.length : Int) - 4) then q.cells else Mir.mirroredCells q) = cells at *
  have fin : ∀ (many ax dn : Int) H6, Gw G H G5 H6 → 0 ≤ many → many ≤ 12 → Mir.readPut d ws = (let z := Mir.copies q cells (Mir.signedOf (itm [] ws 2)) (Mir.signedOf (itm [] ws 3)) ax dn many.toNat 0 p
        ({ d with begun := [z.1] }, z.2)) →
      WSs (cxOf CX0 P w K mg base n_read_put "read_put" (defScope s_read_put) f cdv Ar outer s H E).nox ((defBody s_read_put).drop 7) { nx := fun _ H' => Q .non H', rt := Q } [some (.ref A.d), some vw, some (.ref fl), some v4, some v5, some (.int many), some (.int ax), some (.int dn), none, none, none, none] H6 := fun many ax dn H6 w6 hm0 hm12 e2 => by
    refine ws_par2 8 9 w6.s rfl nd (je_call (ok_signed_of T) (hr.mono (by decide)) (ja_cons (je_ix (d := []) (JR.q (je_v 1 rfl h_words)) je_int (by walk_at "s") (by walk_at "s")) ja_nil) (fun _ _ _ => by walk_at "s")) (je_call (ok_signed_of T) (hr.mono (by decide)) (ja_cons (je_ix (d := []) (JR.q (je_v 1 rfl h_words)) je_int (by walk_at "s") (by walk_at "s")) ja_nil) (fun _ _ _ => by walk_at "s")) (fun H7 w7 => ?_)
    have w7 := w6.t w7
    generalize ex : Mir.signedOf (itm [] ws 2) = xx at *
    generalize ey : Mir.signedOf (itm [] ws 3) = yy at *
    have h_part7 := (show PartIn cPart G H a p from by assumption).gw w7
    have h_draft7 := h_draft0.gw w7
    refine ws_forR 10 w7.s T.b_range (je_vI 5 rfl) (by show _ ≤ many ∧ many ≤ _; omega) (fun i σ' G' H' => ∃ u1 u2 pi, σ' = [some (.ref A.d), some vw, some (.ref fl), some v4, some v5, some (.int many), some (.int ax), some (.int dn), some (.int xx), some (.int yy), u1, u2] ∧ Mv A.F G H G' H' ∧ DraftAt cPart cDraft G' H' A { d with begun := [pi] } ∧ Mir.Wq pi ∧ Mir.copies q cells xx yy ax dn many.toNat 0 p = Mir.copies q cells xx yy ax dn (many.toNat - i) i pi)
      (fun G8 H8 w8 => ⟨none, none, p, rfl, Mv.of (w7.t w8), by
        have z := h_draft7.gw w8
        have e : ({ d with begun := [p] } : Mir.DraftS) = d := by rw [← eb]
        rw [e]
        exact z, h_wq, rfl⟩) ?_ ?_ rfl nd
    · rintro i σ' G' H' hi s1 s2 ⟨u1, u2, pi, rfl, m, h_draft, h_wpi, ecp⟩
      have hi : (i : Int) < many := hi
      obtain ⟨a', ea', h_part, g', _⟩ := begun_of h_draft (p := pi) rfl
      rw [ea] at ea'
      injection ea' with ea'
      subst ea'
      have h_found0 := (rL rV).m s1 h_found0
      have h_cells := (rL rCell).m s1 h_cells
      have h_cpd : PartIn cPart G' G' b q := h_cp5.mono s1 s1
      have there : ∃ o, H' a = some o := let ⟨_, _, _, h, _⟩ := h_part; ⟨_, h⟩
      obtain ⟨m', hm'⟩ : ∃ m', many.toNat - i = m' + 1 := ⟨many.toNat - i - 1, by omega⟩
      have hm'' : many.toNat - (i + 1) = m' := by omega
      have ez : Mir.copies q cells xx yy ax dn (m' + 1) i pi = (let z := Mir.copyInto pi q cells (xx + (i : Int) * ax) (yy + (i : Int) * dn)
        if !decide (z.2 = 0) then z else Mir.copies q cells xx yy ax dn m' (i + 1) z.1) := rfl
      have hwz := (Mir.copyInto_ok (cs := cells) (x := xx + (i : Int) * ax) (y := yy + (i : Int) * dn) h_wpi h_wq2.p).1
      refine ws_setW 11 (we_callP (ok_copy_into T) (hr.mono (by decide)) s2 (x := ((a, pi), (b, q), cells, xx + (i : Int) * ax, yy + (i : Int) * dn, ())) (ja_cons (je_O (je_fst (u := .ref a) (us := []) ((je_draft_bg T h_draft (je_vO 0 rfl)).eq (by rw [ea]; rfl)))) (ja_cons (je_O (je_fst (je_v 2 rfl h_found0))) (ja_cons (je_v 4 rfl h_cells) (ja_cons (je_add (je_vI 8 rfl) (je_mul (je_vI 10 rfl) (je_vI 6 rfl) (by walk_at "s"))) (ja_cons (je_add (je_vI 9 rfl) (je_mul (je_vI 10 rfl) (je_vI 7 rfl) (by walk_at "s"))) ja_nil))))) (fun _ _ wq => ⟨⟨h_part.gw wq, h_cpd.mono wq.g wq.g, h_wpi, h_wq2⟩, wq.out g' there.choose_spec⟩) fun v9 G9 H9 m9 hp9 hg9 hv9 => ?_) nd
      have hp9 : PartIn cPart G9 H9 a (Mir.copyInto pi q cells (xx + (i : Int) * ax) (yy + (i : Int) * dn)).1 := hp9
      have hv9 : v9 = .int (Mir.copyInto pi q cells (xx + (i : Int) * ax) (yy + (i : Int) * dn)).2 := hv9
      generalize hz : Mir.copyInto pi q cells (xx + (i : Int) * ax) (yy + (i : Int) * dn) = z at *
      obtain ⟨pz, cz⟩ := z
      dsimp only at hp9 hv9 hwz
      subst hv9
      have h_draft9 := h_draft.part rfl ea m9 hp9 hg9
      have mm := m.t (m9.wk fun y e => (show A.F y by rw [show y = a from e]; exact fa))
      refine ws_when m9.s (jt_c (jc_neI (je_vI 11 rfl) je_int)) (fun hb9 H10 w10 => ?_) (fun hb9 H10 w10 => ?_)
      · have hb9 : (!decide (cz = 0)) = true := hb9
        have er : Mir.readPut d ws = ({ d with begun := [pz] }, cz) := by
          rw [e2]
          dsimp only
          rw [ecp, hm', ez]
          dsimp only
          rw [if_pos hb9]
        refine ws_ret w10.s (je_vI 11 rfl) fun v G' H' w8 hv => ?_
        refine hk v G' H' A rfl (fun y hy => .inl hy) (mm.t (Mv.of (w10.t w8))) ?_ ?_
        · show DraftAt cPart cDraft G' H' A (Mir.readPut d ws).1
          rw [er]
          exact (h_draft9.gw w10).gw w8
        · show rInt.r G' v (Mir.readPut d ws).2
          rw [er]
          exact hv
      · have hb9 : (!decide (cz = 0)) = false := hb9
        refine ws_nil ⟨G9, m9.g, w10.s, _, _, pz, rfl, mm.t (Mv.of w10), h_draft9.gw w10, hwz, ?_⟩
        rw [ecp, hm', hm'', ez]
        dsimp only
        rw [if_neg (bno hb9)]
    · rintro σ' G' H' s1 s2 ⟨u1, u2, pi, rfl, m, h_draft, h_wpi, ecp⟩
      rw [Nat.sub_self] at ecp
      have er : Mir.readPut d ws = ({ d with begun := [pi] }, 0) := by
        rw [e2]
        dsimp only
        rw [ecp]
        rfl
      refine ws_ret s2 je_int fun v G9 H9 w8 hv => ?_
      refine hk v G9 H9 A rfl (fun y hy => .inl hy) (m.t (Mv.of w8)) ?_ ?_
      · show DraftAt cPart cDraft G9 H9 A (Mir.readPut d ws).1
        rw [er]
        exact h_draft.gw w8
      · show rInt.r G9 v (Mir.readPut d ws).2
        rw [er]
        exact hv
  refine ws_un3 5 6 7 w5.s (je_t3 je_int je_int je_int) rfl nd (fun v1 v2 v3 G6 H6 w6 e4 e5 e6 => ?_)
  cases (show v1 = .int 1 from e4)
  cases (show v2 = .int 0 from e5)
  cases (show v3 = .int 0 from e6)
  have w6 := w6.keep
  refine ws_when w6.s (jt_c (jc_neN (JR.q (je_v 3 rfl h_more)) hr.units)) (fun hb8 H7 w7 => ?_) (fun hb8 H7 w7 => ?_)
  · have hb8 : (!decide (more.length = 0)) = true := hb8
    have hne : ¬ more.length = 0 := by simpa using hb8
    have ht : Mir.isTimes more = true := by
      rcases fpm with z | z
      · exact absurd z hne
      · exact z
    obtain ⟨t4, t1, t12, t2, t3⟩ := Mir.isTimes_facts ht
    have t2l := Mir.signed_len t2
    have t3l := Mir.signed_len t3
    refine ws_par3 5 6 7 w7.s rfl nd (je_call (ok_number_of T) (hr.mono (by decide)) (ja_cons (je_ix (d := []) (JR.q (je_v 3 rfl h_more)) je_int (by walk_at "s") (by walk_at "s")) ja_nil) (fun _ _ _ => trivial)) (je_call (ok_signed_of T) (hr.mono (by decide)) (ja_cons (je_ix (d := []) (JR.q (je_v 3 rfl h_more)) je_int (by walk_at "s") (by walk_at "s")) ja_nil) (fun _ _ _ => by walk_at "s")) (je_call (ok_signed_of T) (hr.mono (by decide)) (ja_cons (je_ix (d := []) (JR.q (je_v 3 rfl h_more)) je_int (by walk_at "s") (by walk_at "s")) ja_nil) (fun _ _ _ => by walk_at "s")) (fun H8 w8 => ws_nil ?_)
    exact fin (Mir.numberOf (itm [] more 1)) (Mir.signedOf (itm [] more 2)) (Mir.signedOf (itm [] more 3)) H8 ((w5.t w6).t (w7.t w8)) (by omega) (by omega) (by rw [e1]; dsimp only; rw [if_pos hb8])
  · have hb8 : (!decide (more.length = 0)) = false := hb8
    exact fin 1 0 0 H7 (w5.t (w6.t w7)) (by omega) (by omega) (by rw [e1]; dsimp only; rw [if_neg (bno hb8)])
end
end Ck
end
section
set_option Elab.async false
set_option linter.all false
set_option maxRecDepth 100000
set_option maxHeartbeats 4000000
namespace Ck
open PySem PySem.Spec PyProof.Rows L2
open Mir (itm)
local macro_rules | `(tactic| walk_at "s") => `(tactic| first | assumption | omega | (simp only [onPre, List.length_map, List.length_drop, List.length_take, List.length_append, List.length_cons, List.length_nil, decide_eq_true_eq, decide_eq_false_iff_not, Bool.not_eq_false', Bool.not_eq_true', Bool.or_eq_false_iff] at *; omega))
local macro_rules | `(tactic| walk_at "w") => `(tactic| first | assumption | exact wsOk_drop (by assumption) _)
section
variable {P : Program} {w : World} {K : PySem.W.Frag} {mg : Str → Option Value} {base : Heap} {cPart cDraft cRun cBench : Addr}
abbrev DrL {β : Type} (cP C : Addr) : Hp → Hp → (DAdr × Mir.DraftS) × List Int × β → Prop := fun G H x => DraftAt cP C G H x.1.1 x.1.2 ∧ Mir.Wd x.1.2 ∧ x.2.1.length ≤ 4000
theorem ok_read_line (T : Top K mg cPart cDraft cRun cBench) : Cal P w K mg base "read_line" 7 (CtD cPart cDraft (a2 rD (rL rInt)) (fun x => x.1.1) (DrL cPart cDraft) rInt fun x => Mir.readLine x.1.2 x.2.1) := by
  refine T.d_read_line.ok sc_read_line (fun vs H Q E ⟨G, x, _, h, _⟩ => (AR.len _ h)) fun f cdv Ar outer s H vs Q E hr ⟨G, x, hs, ha, hp, hk⟩ => ?_
  obtain ⟨⟨A, d⟩, l, _⟩ := x
  obtain ⟨_, _, rfl, rfl, vl, _, rfl, h_line, rfl⟩ := ha
  obtain ⟨h_draft, h_wd, h_len⟩ := hp
  dsimp only at h_draft h_wd h_len h_line
  have nd := sc_read_line.nd
  have ret : ∀ (G1 H1 : Hp) (v : V) (n : Int), Gw G H G1 H1 → Mir.readLine d l = (d, n) → rInt.r G1 v n → Q v H1 := fun G1 H1 v n w1 e hv => by
    refine hk v G1 H1 A rfl (fun y hy => .inl hy) (Mv.of w1) ?_ ?_
    · show DraftAt cPart cDraft G1 H1 A (Mir.readLine d l).1
      rw [e]
      exact h_draft.gw w1
    · show rInt.r G1 v (Mir.readLine d l).2
      rw [e]
      exact hv
  have pas : ∀ {G1 H1 : Hp} {z : Mir.DraftS × Int}, Gw G H G1 H1 → Mir.readLine d l = z → ∀ (v : V) (G' H' : Hp) (A' : DAdr), A'.d = A.d → (∀ y ∈ A'.bg, y ∈ A.bg ∨ H1 y = none) → Mv A.F G1 H1 G' H' → DraftAt cPart cDraft G' H' A' z.1 → rInt.r G' v z.2 → Q v H' := fun w1 e v G' H' A' e1 e2 m hd hv => by
    subst e
    exact hk v G' H' A' e1 (fun y hy => (e2 y hy).imp id fun q => w1.free q) ((Mv.of w1).t m) hd hv
  refine ws_set 2 hs (je_call (ok_words_of T) (hr.mono (by decide)) (ja_cons (je_v 1 rfl h_line) ja_nil) (fun _ _ _ => by walk_at "s")) (fun v2 G1 H1 w1 h_words => ?_) nd
  have h_words : (rL (rL rInt)).r G1 v2 (Mir.wordsOf l) := h_words
  have h_wok : WsOk (Mir.wordsOf l) := by
    have := Mir.words_ok l
    exact ⟨by omega, fun w hw => Nat.le_trans (this.2 w hw) h_len⟩
  have hne := Mir.words_nil l
  have h_line := (rL rInt).m w1.g h_line
  have e0 : Mir.readLine d l = (if decide ((Mir.wordsOf l).length = 0) || decide (itm 0 l 0 = 59) then (d, 0)
      else if decide (itm 0 l 0 = 58) then Mir.readRow d l
      else if decide (itm [] (Mir.wordsOf l) 0 = Mir.bPart) then Mir.readPart d (Mir.wordsOf l)
      else if decide (itm [] (Mir.wordsOf l) 0 = Mir.bPut) then Mir.readPut d (Mir.wordsOf l)
      else if decide (itm [] (Mir.wordsOf l) 0 = Mir.bEnd) then Mir.readEnd d (Mir.wordsOf l)
      else if decide (itm [] (Mir.wordsOf l) 0 = Mir.bDrop) then Mir.readDrop d (Mir.wordsOf l) else (d, 1)) := rfl
  have h_draft := h_draft.gw w1
  generalize hws : Mir.wordsOf l = ws at *
  refine ws_when w1.s (jt_w (jw_or (jt_c (jc_eqN (JR.q (je_v 2 rfl h_words)) hr.units)) fun hsc => (jw_or1 (jt_c (jc_eqI (je_ix (d := 0) (JR.q (je_v 1 rfl h_line)) je_int (by walk_at "s") (by walk_at "s")) (je_gi T.c_SEMICOLON)))))) (fun hb H2 w2 => ?_) (fun hb H2 w2 => ?_)
  · have hb : (decide (ws.length = 0) || decide (itm 0 l 0 = 59)) = true := hb
    exact ws_ret w2.s je_int fun v G' H' w8 hv => ret G' H' v 0 ((w1.t w2).t w8) (by rw [e0, if_pos hb]) hv
  have hb : (decide (ws.length = 0) || decide (itm 0 l 0 = 59)) = false := hb
  rw [if_neg (bno hb)] at e0
  have hwl : 1 ≤ ws.length := by
    simp only [Bool.or_eq_false_iff, decide_eq_false_iff_not] at hb
    omega
  have hll : 1 ≤ l.length := by omega
  have h_draft := h_draft.gw w2
  have w2 := w1.t w2
  refine ws_when w2.s (jt_c (jc_eqI (je_ix (d := 0) (JR.q (je_v 1 rfl h_line)) je_int (by walk_at "s") (by walk_at "s")) (je_gi T.c_COLON))) (fun hb H3 w3 => ?_) (fun hb H3 w3 => ?_)
  · have hb : decide (itm 0 l 0 = 58) = true := hb
    rw [if_pos hb] at e0
    have h_draft := h_draft.gw w3
    exact ws_retW (we_callD (ok_read_row T) (hr.mono (by decide)) w3.s (ja_cons (je_vD 0 rfl h_draft) (ja_cons (je_v 1 rfl h_line) ja_nil)) (fun _ _ wq => ⟨h_draft.gw wq, h_wd, h_len⟩) (pas (w2.t w3) e0))
  have hb : decide (itm 0 l 0 = 58) = false := hb
  rw [if_neg (bno hb)] at e0
  have h_draft := h_draft.gw w3
  have w3 := w2.t w3
  refine ws_when w3.s (JT.eq (b' := decide (itm [] ws 0 = Mir.bPart)) (jt_c (jc_eqD (R := (rL rInt)) (je_ix (d := []) (JR.q (je_v 2 rfl h_words)) je_int (by walk_at "s") (by walk_at "s")) (je_call (ok_bytes_of T) (hr.mono (by decide)) (ja_cons je_str ja_nil) (fun _ _ _ => by show _ ≤ _; decide)) hr.units)) (by rw [← by_part])) (fun hb H4 w4 => ?_) (fun hb H4 w4 => ?_)
  · rw [if_pos hb] at e0
    have h_draft := h_draft.gw w4
    exact ws_retW (we_callD (ok_read_part T) (hr.mono (by decide)) w4.s (ja_cons (je_vD 0 rfl h_draft) (ja_cons (je_v 2 rfl h_words) ja_nil)) (fun _ _ wq => ⟨h_draft.gw wq, h_wd, h_wok⟩) (pas (w3.t w4) e0))
  rw [if_neg (bno hb)] at e0
  have h_draft := h_draft.gw w4
  have w4 := w3.t w4
  refine ws_when w4.s (JT.eq (b' := decide (itm [] ws 0 = Mir.bPut)) (jt_c (jc_eqD (R := (rL rInt)) (je_ix (d := []) (JR.q (je_v 2 rfl h_words)) je_int (by walk_at "s") (by walk_at "s")) (je_call (ok_bytes_of T) (hr.mono (by decide)) (ja_cons je_str ja_nil) (fun _ _ _ => by show _ ≤ _; decide)) hr.units)) (by rw [← by_put])) (fun hb H5 w5 => ?_) (fun hb H5 w5 => ?_)
  · rw [if_pos hb] at e0
    have h_draft := h_draft.gw w5
    exact ws_retW (we_callD (ok_read_put T) (hr.mono (by decide)) w5.s (ja_cons (je_vD 0 rfl h_draft) (ja_cons (je_v 2 rfl h_words) ja_nil)) (fun _ _ wq => ⟨h_draft.gw wq, h_wd, h_wok⟩) (pas (w4.t w5) e0))
  rw [if_neg (bno hb)] at e0
  have h_draft := h_draft.gw w5
  have w5 := w4.t w5
  refine ws_when w5.s (JT.eq (b' := decide (itm [] ws 0 = Mir.bEnd)) (jt_c (jc_eqD (R := (rL rInt)) (je_ix (d := []) (JR.q (je_v 2 rfl h_words)) je_int (by walk_at "s") (by walk_at "s")) (je_call (ok_bytes_of T) (hr.mono (by decide)) (ja_cons je_str ja_nil) (fun _ _ _ => by show _ ≤ _; decide)) hr.units)) (by rw [← by_end])) (fun hb H6 w6 => ?_) (fun hb H6 w6 => ?_)
  · rw [if_pos hb] at e0
    have h_draft := h_draft.gw w6
    exact ws_retW (we_callD (ok_read_end T) (hr.mono (by decide)) w6.s (ja_cons (je_vD 0 rfl h_draft) (ja_cons (je_v 2 rfl h_words) ja_nil)) (fun _ _ wq => ⟨h_draft.gw wq, h_wd, h_wok⟩) (pas (w5.t w6) e0))
  rw [if_neg (bno hb)] at e0
  have h_draft := h_draft.gw w6
  have w6 := w5.t w6
  refine ws_retW (WE.of (pe_ifExp pt_w pe_w pe_w) ?_)
  refine (JT.eq (b' := decide (itm [] ws 0 = Mir.bDrop)) (jt_c (jc_eqD (R := (rL rInt)) (je_ix (d := []) (JR.q (je_v 2 rfl h_words)) je_int (by walk_at "s") (by walk_at "s")) (je_call (ok_bytes_of T) (hr.mono (by decide)) (ja_cons je_str ja_nil) (fun _ _ _ => by show _ ≤ _; decide)) hr.units)) (by rw [← by_drop])) G1 H6 (Gw.refl w6.s) _ fun H7 w7 => ?_
  have h_draft := h_draft.gw w7
  have w7 := w6.t w7
  by_cases hb : decide (itm [] ws 0 = Mir.bDrop) = true
  · rw [if_pos hb] at e0
    rw [if_pos hb]
    exact we_callD (ok_read_drop T) (hr.mono (by decide)) w7.s (ja_cons (je_vD 0 rfl h_draft) (ja_cons (je_v 2 rfl h_words) ja_nil)) (fun _ _ wq => ⟨h_draft.gw wq, h_wd, h_wok⟩) (pas w7 e0)
  · rw [if_neg hb] at e0
    rw [if_neg hb]
    exact je_int (i := 1) G1 H7 (Gw.refl w7.s) _ fun v G' H' w8 hv => ret G' H' v 1 (w7.t w8) e0 hv
theorem ok_read_text (T : Top K mg cPart cDraft cRun cBench) : Cal P w K mg base "read_text" 8 (CtD cPart cDraft (a2 rD (rL rInt)) (fun x => x.1.1) (DrL cPart cDraft) rPair fun x => Mir.readText x.1.2 x.2.1) := by
  refine T.d_read_text.ok sc_read_text (fun vs H Q E ⟨G, x, _, h, _⟩ => (AR.len _ h)) fun f cdv Ar outer s H vs Q E hr ⟨G, x, hs, ha, hp, hk⟩ => ?_
  obtain ⟨⟨A, d⟩, t, _⟩ := x
  obtain ⟨_, _, rfl, rfl, vt, _, rfl, h_text, rfl⟩ := ha
  obtain ⟨h_draft, h_wd, h_len⟩ := hp
  dsimp only at h_draft h_wd h_len h_text
  have nd := sc_read_text.nd
  refine ws_set 2 hs (je_call (ok_lines_of T) (hr.mono (by decide)) (ja_cons (je_v 1 rfl h_text) ja_nil) (fun _ _ _ => by walk_at "s")) (fun v2 G1 H1 w1 h_lines => ?_) nd
  have h_lines : (rL (rL rInt)).r G1 v2 (Mir.linesOf t) := h_lines
  have lok := Mir.pieces_ok t 10
  have lok : (Mir.linesOf t).length ≤ t.length + 1 ∧ ∀ w ∈ Mir.linesOf t, w.length ≤ t.length := lok
  have e0 : Mir.readText d t = (let z := Mir.readLines 0 d (Mir.linesOf t)
      if !decide (z.2.2 = 0) then z
      else if !decide (z.1.begun.length = 0) || decide (z.1.parts.length = 0) then (z.1, ((Mir.linesOf t).length : Int) + 1, 6)
      else (z.1, 0, 0)) := rfl
  have h_draft := h_draft.gw w1
  generalize hls : Mir.linesOf t = ls at *
  refine ws_forE (gx := gName 4) 3 w1.s T.b_enumerate (JR.q (je_v 2 rfl h_lines)) rfl nd (pg_name nd rfl (by first | exact Or.inl rfl | exact Or.inr rfl)) (fun i σ' G' H' => ∃ (u1 u2 u3 : Option V) (A' : DAdr) (di : Mir.DraftS), σ' = [some (.ref A.d), some vt, some v2, u1, u2, u3] ∧ A'.d = A.d ∧ (∀ y ∈ A'.bg, y ∈ A.bg ∨ H y = none) ∧ Mv A.F G H G' H' ∧ DraftAt cPart cDraft G' H' A' di ∧ Mir.Wd di ∧ Mir.readLines 0 d ls = Mir.readLines i di (ls.drop i))
    (fun G2 H2 w2 => ⟨none, none, none, A, d, rfl, rfl, fun y hy => .inl hy, Mv.of (w1.t w2), h_draft.gw w2, h_wd, rfl⟩) ?_ (fun i σ' G' H' H2 ⟨u1, u2, u3, A', di, e, e1, e2, m, hd, hw, er⟩ w2 => ⟨u1, u2, u3, A', di, e, e1, e2, m.t (Mv.of w2), hd.gw w2, hw, er⟩) ?_
  · rintro i l v σ' G' H' hx s1 s2 ⟨u1, u2, u3, A', di, rfl, e1, e2, m, h_draft, h_wdi, er⟩ h_line QQ hQ
    refine hQ _ _ ?_
    have hi : i < ls.length := (List.getElem?_eq_some_iff.mp hx).1
    have hl := lok.2 l (List.mem_of_getElem? hx)
    have edrop : ls.drop i = l :: ls.drop (i + 1) := by
      rw [List.drop_eq_getElem_cons hi]
      congr 1
      rw [List.getElem?_eq_getElem hi] at hx
      exact Option.some.inj hx
    rw [edrop] at er
    have es : Mir.readLines i di (l :: ls.drop (i + 1)) = (let z := Mir.readLine di l
      if !decide (z.2 = 0) then (z.1, (i : Int) + 1, z.2) else Mir.readLines (i + 1) z.1 (ls.drop (i + 1))) := rfl
    rw [es] at er
    have hwz := Mir.readLine_ok (l := l) h_wdi
    refine ws_setW 5 (we_callD (ok_read_line T) (hr.mono (by decide)) s2 (x := ((A', di), l, ())) (ja_cons (je_vD 0 (by rw [e1]; rfl) h_draft) (ja_cons (je_v 4 rfl h_line) ja_nil)) (fun _ _ wq => ⟨h_draft.gw wq, h_wdi, by show l.length ≤ 4000; omega⟩) fun v9 G9 H9 A9 e3 e4 m9 hd9 hv9 => ?_) nd
    have hd9 : DraftAt cPart cDraft G9 H9 A9 (Mir.readLine di l).1 := hd9
    have hv9 : v9 = .int (Mir.readLine di l).2 := hv9
    have e3 : A9.d = A'.d := e3
    have e4 : ∀ y ∈ A9.bg, y ∈ A'.bg ∨ H' y = none := e4
    have m9 : Mv A'.F G' H' G9 H9 := m9
    generalize Mir.readLine di l = z at *
    obtain ⟨dz, cz⟩ := z
    dsimp only at hd9 hv9 hwz er
    subst hv9
    have ff : ∀ x, A'.F x → A.F x ∨ H x = none := fun x hx => by
      rcases hx with e | e
      · exact .inl (.inl (e.trans e1))
      · rcases e2 x e with q | q
        · exact .inl (.inr q)
        · exact .inr q
    have mm := m.t2 m9 ff
    have bb : ∀ y ∈ A9.bg, y ∈ A.bg ∨ H y = none := fun y hy => by
      rcases e4 y hy with q | q
      · exact e2 y q
      · exact .inr (m.d _ q)
    refine ws_when m9.s (jt_c (jc_neI (je_vI 5 rfl) je_int)) (fun hb H10 w10 => ?_) (fun hb H10 w10 => ?_)
    · have hb : (!decide (cz = 0)) = true := hb
      rw [if_pos hb] at er
      have er2 : Mir.readText d t = (dz, (i : Int) + 1, cz) := by
        rw [e0, er]
        dsimp only
        rw [if_pos hb]
      refine ws_ret w10.s (je_t2 (je_add (je_vI 3 rfl) je_int) (je_vI 5 rfl)) fun v G' H' w8 hv => ?_
      refine hk v G' H' A9 (e3.trans e1) bb (mm.t (Mv.of (w10.t w8))) ?_ ?_
      · show DraftAt cPart cDraft G' H' A9 (Mir.readText d t).1
        rw [er2]
        exact (hd9.gw w10).gw w8
      · show rPair.r G' v (Mir.readText d t).2
        rw [er2]
        exact hv
    · have hb : (!decide (cz = 0)) = false := hb
      rw [if_neg (bno hb)] at er
      exact ws_nil ⟨G9, m9.g, w10.s, _, _, _, A9, dz, rfl, e3.trans e1, bb, mm.t (Mv.of w10), hd9.gw w10, hwz, er⟩
  · rintro σ' G' H' s1 s2 ⟨u1, u2, u3, A', di, rfl, e1, e2, m, h_draft, h_wdi, er⟩
    rw [List.drop_length] at er
    have er : Mir.readLines 0 d ls = (di, 0, 0) := er
    rw [er] at e0
    dsimp only at e0
    have e0 : Mir.readText d t = (if !decide (di.begun.length = 0) || decide (di.parts.length = 0) then (di, (ls.length : Int) + 1, 6) else (di, 0, 0)) := e0
    have h_lines := (rL (rL rInt)).m s1 h_lines
    have je0 : ∀ {X : Cx} {pos : Pos}, JR X [some (V.ref A.d), some vt, some v2, u1, u2, u3] G' H' (.Name "draft" pos) rV (.ref A'.d) → JR X [some (V.ref A.d), some vt, some v2, u1, u2, u3] G' H' (.Name "draft" pos) rV (.ref A'.d) := fun h => h
    refine ws_when s2 (jt_w (jw_or (jt_c (jc_neN (JR.q (je_draft_begun T h_draft (je_vO 0 (by rw [e1]; rfl)))) hr.units)) fun hsc => (jw_or1 (jt_c (jc_eqN (JR.q (je_draft_parts T h_draft (je_vO 0 (by rw [e1]; rfl)))) hr.units))))) (fun hb H2 w2 => ?_) (fun hb H2 w2 => ?_)
    · have hb : (!decide (di.begun.length = 0) || decide (di.parts.length = 0)) = true := hb
      rw [if_pos hb] at e0
      refine ws_ret w2.s (je_t2 (je_add (je_len rfl T.b_len (JR.q (je_v 2 rfl h_lines))) je_int) je_int) fun v G9 H9 w8 hv => ?_
      refine hk v G9 H9 A' e1 e2 (m.t (Mv.of (w2.t w8))) ?_ ?_
      · show DraftAt cPart cDraft G9 H9 A' (Mir.readText d t).1
        rw [e0]
        exact (h_draft.gw w2).gw w8
      · show rPair.r G9 v (Mir.readText d t).2
        rw [e0]
        exact hv
    · have hb : (!decide (di.begun.length = 0) || decide (di.parts.length = 0)) = false := hb
      rw [if_neg (bno hb)] at e0
      refine ws_ret w2.s (je_t2 je_int je_int) fun v G9 H9 w8 hv => ?_
      refine hk v G9 H9 A' e1 e2 (m.t (Mv.of (w2.t w8))) ?_ ?_
      · show DraftAt cPart cDraft G9 H9 A' (Mir.readText d t).1
        rw [e0]
        exact (h_draft.gw w2).gw w8
      · show rPair.r G9 v (Mir.readText d t).2
        rw [e0]
        exact hv
end
end Ck
end
section
set_option Elab.async false
set_option linter.all false
set_option maxRecDepth 100000
set_option maxHeartbeats 4000000
namespace Ck
open PySem PySem.Spec PyProof.Rows L2
open Mir (itm)
local macro_rules | `(tactic| walk_at "s") => `(tactic| first | assumption | omega | (simp only [onPre, List.length_map, List.length_drop, List.length_take, List.length_append, List.length_cons, List.length_nil, decide_eq_true_eq, decide_eq_false_iff_not, Bool.not_eq_false', Bool.not_eq_true', Bool.or_eq_false_iff] at *; omega))
local macro_rules | `(tactic| walk_at "b") => `(tactic| first | assumption | exact ⟨by assumption, by assumption⟩ | exact ⟨by omega, by omega⟩)
/-! ### benches -/
def bF (l : Bool) (vb vm : V) (h : Int) (vt vp : V) : List (Str × V) := [("is_loaded", .bl l), ("board", vb), ("marbles", vm), ("horizon", .int h), ("target", vt), ("palette", vp)]
section
variable {l : Bool} {vb vm vt vp u : V} {h z : Int}
theorem bF_loaded : (bF l vb vm h vt vp).lookup ("is_loaded" : Str) = some (.bl l) := by rfl
theorem bF_board : (bF l vb vm h vt vp).lookup ("board" : Str) = some vb := by rfl
theorem bF_marbles : (bF l vb vm h vt vp).lookup ("marbles" : Str) = some vm := by rfl
theorem bF_horizon : (bF l vb vm h vt vp).lookup ("horizon" : Str) = some (.int h) := by rfl
theorem bF_target : (bF l vb vm h vt vp).lookup ("target" : Str) = some vt := by rfl
theorem bF_palette : (bF l vb vm h vt vp).lookup ("palette" : Str) = some vp := by rfl
theorem bF_putb : putF "board" u (bF l vb vm h vt vp) = bF l u vm h vt vp := by rfl
theorem bF_puth : putF "horizon" (.int z) (bF l vb vm h vt vp) = bF l vb vm z vt vp := by rfl
theorem bF_putt : putF "target" u (bF l vb vm h vt vp) = bF l vb vm h u vp := by rfl
theorem bF_putp : putF "palette" u (bF l vb vm h vt vp) = bF l vb vm h vt u := by rfl
theorem bF_all {l' : Bool} {vb' vm' vt' vp' : V} {h' : Int} : putF "palette" vp' (putF "target" vt' (putF "horizon" (.int h') (putF "marbles" vm' (putF "board" vb' (putF "is_loaded" (.bl l') (bF l vb vm h vt vp)))))) = bF l' vb' vm' h' vt' vp' := by rfl
end
def BenchIn (C : Addr) (G H : Hp) (a : Addr) (b : Mir.BenchS) : Prop := ∃ dx vb vm vt vp, H a = some (.ins C dx (bF b.loaded vb vm b.horizon vt vp)) ∧ rBoard.r G vb b.board ∧ (rL rPair).r G vm b.marbles ∧ (rL rPair).r G vt b.target ∧ (rL rInt).r G vp b.palette
theorem BenchIn.gw {C a : Addr} {G H G' H' : Hp} {b : Mir.BenchS} (h : BenchIn C G H a b) (w : Gw G H G' H') : BenchIn C G' H' a b :=
  let ⟨dx, vb, vm, vt, vp, h1, h2, h3, h4, h5⟩ := h
  ⟨dx, vb, vm, vt, vp, w.h _ _ h1, rBoard.m w.g h2, (rL rPair).m w.g h3, (rL rPair).m w.g h4, (rL rInt).m w.g h5⟩
theorem BenchIn.there {C a : Addr} {G H : Hp} {b : Mir.BenchS} (h : BenchIn C G H a b) : ∃ o, H a = some o := let ⟨_, _, _, _, _, h1, _⟩ := h; ⟨_, h1⟩
section
variable {X : Cx} {σ : L2.St} {G H : Hp} {e a b o value : Expr} {es : List Expr} {rest body : List Stmt} {pos p2 apos : Pos} {cPart cDraft cRun cBench p : Addr} {st : Mir.BenchS} {D : Ends} {α β : Type} {R : SR α} {S : SR β}
theorem je_bench_is_loaded (T : Top X.K X.mg cPart cDraft cRun cBench) (hp : BenchIn cBench G H p st) (j : JR X σ G H e rV (.ref p)) (hb : attributeBase e "is_loaded" X.env (eval e X.env) = eval e X.env := by rfl) : JR X σ G H (.Attribute e "is_loaded" pos) rBool st.loaded :=
  let ⟨_, _, _, _, _, h1, _⟩ := hp
  je_fld j h1 T.k_Bench T.f_Bench_is_loaded bF_loaded rfl hb
theorem je_bench_board (T : Top X.K X.mg cPart cDraft cRun cBench) (hp : BenchIn cBench G H p st) (j : JR X σ G H e rV (.ref p)) (hb : attributeBase e "board" X.env (eval e X.env) = eval e X.env := by rfl) : JR X σ G H (.Attribute e "board" pos) rBoard st.board :=
  let ⟨_, _, _, _, _, h1, h2, _⟩ := hp
  je_fld j h1 T.k_Bench T.f_Bench_board bF_board h2 hb
theorem je_bench_marbles (T : Top X.K X.mg cPart cDraft cRun cBench) (hp : BenchIn cBench G H p st) (j : JR X σ G H e rV (.ref p)) (hb : attributeBase e "marbles" X.env (eval e X.env) = eval e X.env := by rfl) : JR X σ G H (.Attribute e "marbles" pos) (rL rPair) st.marbles :=
  let ⟨_, _, _, _, _, h1, _, h3, _⟩ := hp
  je_fld j h1 T.k_Bench T.f_Bench_marbles bF_marbles h3 hb
theorem je_bench_horizon (T : Top X.K X.mg cPart cDraft cRun cBench) (hp : BenchIn cBench G H p st) (j : JR X σ G H e rV (.ref p)) (hb : attributeBase e "horizon" X.env (eval e X.env) = eval e X.env := by rfl) : JR X σ G H (.Attribute e "horizon" pos) rInt st.horizon :=
  let ⟨_, _, _, _, _, h1, _⟩ := hp
  je_fld j h1 T.k_Bench T.f_Bench_horizon bF_horizon rfl hb
theorem je_bench_target (T : Top X.K X.mg cPart cDraft cRun cBench) (hp : BenchIn cBench G H p st) (j : JR X σ G H e rV (.ref p)) (hb : attributeBase e "target" X.env (eval e X.env) = eval e X.env := by rfl) : JR X σ G H (.Attribute e "target" pos) (rL rPair) st.target :=
  let ⟨_, _, _, _, _, h1, _, _, h4, _⟩ := hp
  je_fld j h1 T.k_Bench T.f_Bench_target bF_target h4 hb
theorem je_bench_palette (T : Top X.K X.mg cPart cDraft cRun cBench) (hp : BenchIn cBench G H p st) (j : JR X σ G H e rV (.ref p)) (hb : attributeBase e "palette" X.env (eval e X.env) = eval e X.env := by rfl) : JR X σ G H (.Attribute e "palette" pos) (rL rInt) st.palette :=
  let ⟨_, _, _, _, _, h1, _, _, _, h5⟩ := hp
  je_fld j h1 T.k_Bench T.f_Bench_palette bF_palette h5 hb
theorem je_vB0 (i : Nat) {n : Str} (hs : σ[i]? = some (some (.ref p))) (hN : X.N[i]? = some n := by rfl)
    (hv : Vis X.env.scope n := by first | exact Or.inl rfl | exact Or.inr (Or.inl rfl) | exact Or.inr (Or.inr rfl)) (hd : (n == ("__debug__" : Str)) = false := by decide)
    (hcd : (n == ("__classdict__" : Str)) = false := by decide) : JR X σ G H (.Name n pos) rV (.ref p) := je_v (R := rV) i hs rfl hN hv hd hcd
theorem je_vN (i : Nat) {n : Str} (hs : σ[i]? = some (some (.ref p))) {C : Addr} (h : BenchIn C G H p st) (hN : X.N[i]? = some n := by rfl)
    (hv : Vis X.env.scope n := by first | exact Or.inl rfl | exact Or.inr (Or.inl rfl) | exact Or.inr (Or.inr rfl)) (hd : (n == ("__debug__" : Str)) = false := by decide)
    (hcd : (n == ("__classdict__" : Str)) = false := by decide) : JR X σ G H (.Name n pos) (rO Mir.BenchS) (p, st) := je_v (R := rO Mir.BenchS) i hs rfl hN hv hd hcd
/-- name = [e] of a list that will grow -/
theorem ws_newL1 (i : Nat) {n : Str} {z : Int} {pos' : Pos} (hs : Same G H) (j : JR X σ G H e rInt z) (k : ∀ q H1, Gw G H G H1 → H1 q = none → WSs X rest D (σ.set i (some (.ref q))) (upd H1 q (.lst ([z].map .int)))) (hN : X.N.Nodup) (hi : X.N[i]? = some n := by rfl)
    (hx : Loc X.env.scope n := by first | exact Or.inl rfl | exact Or.inr rfl) (hsw : swapsWith (.List [e] p2) (some (.Name n pos')) pos.line X.env = pure false := by rfl) (hf : X.fn n = true ∨ X.env.scope.names.lookup n = some .local := by first | exact .inl rfl | exact .inr rfl)
    (hst : starEach (e :: []) X.env = (false, eval e X.env) :: starEach [] X.env := by rfl) : WSs X (.Assign [.Name n pos'] (.List [e] p2) pos :: rest) D σ H := by
  refine WSs.cons (ps_set hN hi hx (pe_lst pa_w) hsw hf) ?_
  refine ja_cons j ja_nil hst G H (Gw.refl hs) _ fun vs G1 H1 w1 hv => ?_
  obtain ⟨_, _, rfl, rfl, rfl⟩ := hv
  exact ⟨szl (by show 1 ≤ 1000000; decide), fun p hp => k p H1 w1.keep hp⟩
/-- for a, b in a list of pairs -/
theorem ws_forP {n1 n2 : Str} (j1 j2 : Nat) {it : Expr} {p1 pt : Pos} {kk : Nat} {xs : List (α × β)} (hs : Same G H) (hi : JR X σ G H it (rQ X.K (rT2 R S)) xs) (Iv : Nat → L2.St → Hp → Hp → Prop) (h0 : ∀ G1 H1, Gw G H G1 H1 → Iv 0 σ G1 H1)
    (hb : ∀ (i : Nat) (x : α) (y : β) (v u : V) σ' G' H', xs[i]? = some (x, y) → Same G G' → Same G' H' → Iv i σ' G' H' → R.r G' v x → S.r G' u y → WSs X body (Dt D Iv G' i fun σ3 H3 => WSs X rest D σ3 H3) ((σ'.set j1 (some v)).set j2 (some u)) H')
    (hd : ∀ σ' G' H', Same G G' → Same G' H' → Iv xs.length σ' G' H' → WSs X rest D σ' H') (hc : X.calm = true) (hN : X.N.Nodup)
    (hp : PassesOwn (model X.prog X.w) X.A X.env X.xe := by exact PassesOwn.never) (hg1 : PG X (.Name n1 p1) (gName j1) := by exact pg_name (by assumption) rfl (by first | exact Or.inl rfl | exact Or.inr rfl)) (hg2 : PG X (.Name n2 p2) (gName j2) := by exact pg_name (by assumption) rfl (by first | exact Or.inl rfl | exact Or.inr rfl))
    (hn : (assignEach [.Name n1 p1, .Name n2 p2] X.env).length = 2 := by rfl) (hsi : (assignEach [.Name n1 p1, .Name n2 p2] X.env).findIdx? (·.1) = none := by rfl)
    (hc1 : (assignEach (.Name n1 p1 :: [.Name n2 p2]) X.env).map (·.2) = assign (.Name n1 p1) X.env :: (assignEach [.Name n2 p2] X.env).map (·.2) := by rfl) (hc2 : (assignEach (.Name n2 p2 :: []) X.env).map (·.2) = assign (.Name n2 p2) X.env :: (assignEach [] X.env).map (·.2) := by rfl)
    (hfs : ∀ x, foldedSetIterable it X.env x = pure x := by intro _; rfl) :
    WSs X (.For (.Tuple [.Name n1 p1, .Name n2 p2] kk pt) it body [] pos :: rest) D σ H :=
  for_gen (xs := xs) (g := gTup X.K 2 (gCons (gName j1) (gCons (gName j2) gNil))) (wi := iList X.K (WE X it)) hs hp hc (pi_list pe_w) (pg_tup hc (pgs_cons hg1 (pgs_cons hg2 pgs_nil hc2) hc1) hn hsi) hfs Iv h0 (fun Rr hR => hi G H (Gw.refl hs) _ fun v G1 H1 w1 hv => by
    obtain ⟨q, vs, rfl, hq, hpr⟩ := hv
    refine ⟨q, rfl, ⟨vs, w1.s.seq hq⟩, hR _ G1 H1 w1 ⟨_, _, by rw [← Paired.len hpr]; exact walk_list, fun H' s => s.seq hq, ?_⟩⟩
    rintro i ⟨x, y⟩ u σ' H' H2 G' hx s1 s2 iv ⟨rfl, hu⟩ QQ hQ
    obtain ⟨u', hu', ru⟩ := Paired.get hpr hx
    rw [hu] at hu'
    cases hu'
    obtain ⟨t, v1, v2, rfl, ht, r1, r2⟩ := (rT2 R S).m s1 ru
    exact ⟨t, [v1, v2], rfl, SqT.of (s2 _ _ ht), rfl, _, _, rfl, _, _, rfl, rfl, hQ _ _ (hb i x y v1 v2 σ' G' H2 hx (w1.g.trans s1) s2 iv r1 r2)⟩) hd
theorem cr_lenD : CallR X (.builtin "len") (fun xs H Q => ∃ a kvs, xs = [.ref a] ∧ Rd H a (.dK kvs) ∧ Q (.int kvs.length) H) := by
  intro pins s σ H xs us Q I r h
  obtain ⟨a, kvs, rfl, hd, q⟩ := h
  obtain ⟨u, rfl, ru⟩ := vals1 r
  cases ru
  exact d_len I hd fun t s' I' => ⟨.int kvs.length, H, I', ⟨t, rfl⟩, q⟩
/-- list(xs) -/
theorem je_list {n : Str} {xs : List α} (hn : n = "list") (hm : X.mg "list" = none) (ha : JR X σ G H a (rQ X.K R) xs) (hg : Gl X n := by rfl) (hs : starEach [a] X.env = (false, eval a X.env) :: starEach [] X.env := by rfl) : JR X σ G H (.Call (.Name n p2) [a] [] pos) (rL R) xs := fun G0 H0 w0 Q k => by
  subst hn
  refine WE.of (pe_callTy call_list_of hg hm (by decide +kernel) (pa_cons pe_w pa_nil hs) (he := hs)) ?_
  refine ha G0 H0 w0 _ fun v G1 H1 w1 hv => ?_
  obtain ⟨q, vs, rfl, h2, h3⟩ := hv
  refine ⟨q, vs, rfl, .inl (w1.s.seq h2), fun l hl => ?_⟩
  have n := Gw.new (o := .lst vs) w1.s hl
  exact k _ _ _ (w1.t n) ⟨l, vs, rfl, upd_same, pm (fun _ _ q => R.m n.g q) h3⟩
/-- len(dict([(k, True) ..])) -/
theorem je_lenDict {n m : Str} {pa pb pc : Pos} {xs : List Int} (hn : n = "len") (hm : m = "dict") (h1 : X.mg "len" = none) (h2 : X.mg "dict" = none) (hc : X.calm = true) (ha : JR X σ G H a (rL (rT2 rInt rBool)) (xs.map fun x => (x, true))) (hg : Gl X n := by rfl) (hg2 : Gl X m := by rfl)
    (hs : starEach [.Call (.Name m pa) [a] [] pb] X.env = (false, eval (.Call (.Name m pa) [a] [] pb) X.env) :: starEach [] X.env := by rfl) (hs2 : starEach [a] X.env = (false, eval a X.env) :: starEach [] X.env := by rfl) :
    JR X σ G H (.Call (.Name n pc) [.Call (.Name m pa) [a] [] pb] [] pos) rInt ((Mir.firsts [] xs).length : Int) := fun G0 H0 w0 Q k => by
  subst hn hm
  refine WE.of (pe_callB cr_lenD hg h1 PySem.boot_len (pa_cons (pe_callTy (call_dictP hc) hg2 h2 (by decide +kernel) (pa_cons pe_w pa_nil hs2) (he := hs2)) pa_nil hs) (he := hs)) ?_
  refine ha G0 H0 w0 _ fun v G1 H1 w1 hv => ?_
  obtain ⟨q, vs, rfl, hq, hvs⟩ := hv
  obtain ⟨ps, hps, hpp⟩ : ∃ ps : List Addr, vs = ps.map V.ref ∧ Paired (fun p kv => SqT X.K H1 p [kV kv.1, kv.2]) ps (xs.map fun x => ((Sum.inl x : Key), V.bl true)) := by
    revert hvs
    clear hq
    generalize xs = l
    intro hvs
    induction l generalizing vs with
    | nil => cases hvs; exact ⟨[], rfl, .nil⟩
    | cons x l ih =>
      cases hvs with
      | cons h t =>
        obtain ⟨ps, e1, e2⟩ := ih _ t
        obtain ⟨p, u, w, rfl, hp, hu, hw⟩ := h
        cases (show u = .int x from hu)
        cases (show w = .bl true from hw)
        exact ⟨p :: ps, by rw [e1]; rfl, .cons (SqT.of (w1.s _ _ hp)) e2⟩
  subst hps
  refine ⟨q, ps, _, rfl, SqL.of (w1.s _ _ hq), hpp, fun p hp => ⟨p, _, rfl, .inl upd_same, ?_⟩⟩
  have el : (mergeK [] (xs.map fun x => ((Sum.inl x : Key), V.bl true))).length = (Mir.firsts [] xs).length := by
    rw [Mir.firsts_fold]
    have gen : ∀ (xs : List Int) (kvs : List (Key × V)) (acc : List Int), kvs.map (·.1) = acc.map (fun x => (Sum.inl x : Key)) → (mergeK kvs (xs.map fun x => ((Sum.inl x : Key), V.bl true))).map (·.1) = (xs.foldl Mir.addNew acc).map (fun x => (Sum.inl x : Key)) := by
      intro xs
      induction xs with
      | nil => intro kvs acc h; exact h
      | cons x xs ih =>
        intro kvs acc h
        show (mergeK (putK kvs (.inl x) (.bl true)) _).map (·.1) = (xs.foldl Mir.addNew (Mir.addNew acc x)).map _
        refine ih _ _ ?_
        unfold putK Mir.addNew
        have hc : (kvs.any fun kv => decide (kv.1 = (Sum.inl x : Key))) = acc.contains x := by
          have : (kvs.any fun kv => decide (kv.1 = (Sum.inl x : Key))) = (kvs.map (·.1)).any fun z => decide (z = (Sum.inl x : Key)) := by rw [List.any_map]; rfl
          rw [this, h, List.any_map, List.contains_eq_any_beq]
          congr 1
          funext y
          show decide ((Sum.inl y : Key) = Sum.inl x) = (x == y)
          by_cases e : x = y
          · subst e
            simp
          · rw [decide_eq_false (fun q => e (Sum.inl.inj q).symm), beq_eq_false_iff_ne.mpr e]
        rw [hc]
        split
        · rw [List.map_map, ← h]
          refine List.map_congr_left fun z _ => ?_
          show (if z.1 = _ then (z.1, _) else z).1 = z.1
          split <;> rfl
        · rw [List.map_append, List.map_append, h]
          rfl
    have := congrArg List.length (gen xs [] [] rfl)
    rw [List.length_map, List.length_map] at this
    exact this
  rw [el]
  exact k _ G1 _ (w1.t (Gw.mut w1.s hp)) rfl
end
end Ck
end
section
set_option Elab.async false
set_option linter.all false
set_option maxRecDepth 100000
set_option maxHeartbeats 4000000
namespace Ck
open PySem PySem.Spec PyProof.Rows L2
open Mir (itm)
local macro_rules | `(tactic| walk_at "s") => `(tactic| first | assumption | omega | (simp only [onPre, List.length_map, List.length_drop, List.length_take, List.length_append, List.length_cons, List.length_nil, decide_eq_true_eq, decide_eq_false_iff_not, Bool.not_eq_false', Bool.not_eq_true', Bool.or_eq_false_iff] at *; omega))
local macro_rules | `(tactic| walk_at "b") => `(tactic| first | assumption | exact ⟨by assumption, by assumption⟩ | exact ⟨by omega, by omega⟩)
abbrev BnP {β : Type} (C : Addr) : Hp → Hp → (Addr × Mir.BenchS) × β → Prop := fun G H x => BenchIn C G H x.1.1 x.1.2 ∧ Mir.Wbn 20000 x.1.2 ∧ x.1.2.loaded = true
theorem arg_of {b : Mir.BenchS} (h : Mir.Wbn 20000 b) (hl : b.loaded = true) : RunArg (b.board, b.marbles, b.horizon, ()) := ⟨(h.l hl).1, (h.l hl).2, by have := h.h.1; show 0 ≤ b.horizon; omega, h.h.2⟩
/-- a promise of a def that changes a bench -/
def CtB {α β : Type} (C : Addr) (B : AR α) (ad : α → Addr) (pre : Hp → Hp → α → Prop) (R : SR β) (g : α → Mir.BenchS × β) : Sp := fun vs H Q _ => ∃ G x, Same G H ∧ B.r G vs x ∧ pre G H x ∧ G (ad x) = none ∧
  ∀ v G' H', Mv (fun a => a = ad x) G H G' H' → BenchIn C G' H' (ad x) (g x).1 → G' (ad x) = none → R.r G' v (g x).2 → Q v H'
section
variable {X : Cx} {σ : L2.St} {G H : Hp} {e o : Expr} {es : List Expr} {pos apos : Pos} {α β : Type} {S : SR β}
theorem we_callB {B : AR α} {C : Addr} {ad : α → Addr} {pre : Hp → Hp → α → Prop} {g : α → Mir.BenchS × β} {name : Str} {k : Nat} {p : Pos} {Q : VK} {x : α} (F : Cal X.prog X.w X.K X.mg X.base name k (CtB C B ad pre S g)) (hr : Room k X.A) (hs : Same G H) (ja : JA X σ G H (e :: es) B x) (hp : ∀ G' H', Gw G H G' H' → pre G' H' x) (hg0 : ∀ G' H', Gw G H G' H' → G' (ad x) = none)
    (kk : ∀ v G' H', Mv (fun y => y = ad x) G H G' H' → BenchIn C G' H' (ad x) (g x).1 → G' (ad x) = none → S.r G' v (g x).2 → Q v H') (hg : Gl X name := by rfl)
    (hdb : (name == ("__debug__" : Str)) = false := by decide) (he : starEach (e :: es) X.env = (false, eval e X.env) :: starEach es X.env := by rfl) (hpl : (backTo pos (starEach es X.env)).any (·.1) = false := by rfl) : WE X (.Call (.Name name p) (e :: es) [] pos) σ H Q := by
  refine we_call F hr ?_ hg hdb he hpl
  refine ja G H (Gw.refl hs) _ fun vs G1 H1 w1 hv => ?_
  exact ⟨G1, x, w1.s, hv, hp _ _ w1, hg0 _ _ w1, fun v G2 H2 m h1 h2 h3 => kk v G2 H2 ((Mv.of w1).t m) h1 h2 h3⟩
end
section
variable {P : Program} {w : World} {K : PySem.W.Frag} {mg : Str → Option Value} {base : Heap} {cPart cDraft cRun cBench : Addr}
theorem ok_own_ringing (T : Top K mg cPart cDraft cRun cBench) : Cal P w K mg base "own_ringing" 9 (Ct (a1 (rO Mir.BenchS)) (BnP cBench) (rL rPair) fun x => Mir.ownRinging x.1.2) := by
  refine T.d_own_ringing.ct sc_own_ringing rfl fun f cdv Ar outer s G H vs x Q E hr hs ha hp hk => ?_
  obtain ⟨⟨a, b⟩, _⟩ := x
  obtain ⟨_, _, rfl, rfl, rfl⟩ := ha
  obtain ⟨h_bench, h_wbn, h_ld⟩ := hp
  dsimp only at h_bench h_wbn h_ld
  have h_arg := arg_of h_wbn h_ld
  exact ws_ret hs (je_call (ok_ringing_of T) (hr.mono (by decide)) (ja_cons (je_bench_board T h_bench (je_vO 0 rfl)) (ja_cons (je_bench_marbles T h_bench (je_vO 0 rfl)) (ja_cons (je_bench_horizon T h_bench (je_vO 0 rfl)) ja_nil))) (fun _ _ _ => h_arg)) hk
theorem ok_own_repairs (T : Top K mg cPart cDraft cRun cBench) : Cal P w K mg base "own_repairs" 11 (Ct (a1 (rO Mir.BenchS)) (BnP cBench) (rL rPair) fun x => Mir.ownRepairs x.1.2) := by
  refine T.d_own_repairs.ct sc_own_repairs rfl fun f cdv Ar outer s G H vs x Q E hr hs ha hp hk => ?_
  obtain ⟨⟨a, b⟩, _⟩ := x
  obtain ⟨_, _, rfl, rfl, rfl⟩ := ha
  obtain ⟨h_bench, h_wbn, h_ld⟩ := hp
  dsimp only at h_bench h_wbn h_ld
  have h_arg := arg_of h_wbn h_ld
  have h_pal := h_wbn.p
  exact ws_ret hs (je_call (ok_repairs_of T) (hr.mono (by decide)) (ja_cons (je_bench_board T h_bench (je_vO 0 rfl)) (ja_cons (je_bench_marbles T h_bench (je_vO 0 rfl)) (ja_cons (je_bench_horizon T h_bench (je_vO 0 rfl)) (ja_cons (je_bench_palette T h_bench (je_vO 0 rfl)) (ja_cons (je_bench_target T h_bench (je_vO 0 rfl)) ja_nil))))) (fun _ _ _ => ⟨h_arg, h_pal⟩)) hk
theorem ok_position (T : Top K mg cPart cDraft cRun cBench) : Cal P w K mg base "position" 1 (Ct (a2 (rO Mir.BenchS) rInt) (BnP cBench) (rL rInt) fun x => Mir.position x.1.2 x.2.1) := by
  refine T.d_position.ct sc_position rfl fun f cdv Ar outer s G H vs x Q E hr hs ha hp hk => ?_
  obtain ⟨⟨a, b⟩, p, _⟩ := x
  obtain ⟨_, _, rfl, rfl, _, _, rfl, rfl, rfl⟩ := ha
  obtain ⟨h_bench, h_wbn, h_ld⟩ := hp
  dsimp only at h_bench h_wbn h_ld
  have bw := (h_wbn.l h_ld).1.w
  have bl := (h_wbn.l h_ld).1.le
  exact ws_ret hs (je_lst (jl_cons (je_mod (je_vI 1 rfl) (je_p30 (je_bench_board T h_bench (je_vO 0 rfl))) (by walk_at "s")) (jl_cons (je_div (je_vI 1 rfl) (je_p30 (je_bench_board T h_bench (je_vO 0 rfl))) (by walk_at "s")) jl_nil))) hk
theorem ok_positions (T : Top K mg cPart cDraft cRun cBench) : Cal P w K mg base "positions" 2 (Ct (a2 (rO Mir.BenchS) (rL rInt)) (fun G H x => BenchIn cBench G H x.1.1 x.1.2 ∧ Mir.Wbn 20000 x.1.2 ∧ x.1.2.loaded = true ∧ x.2.1.length ≤ 1000) (rL rInt) fun x => Mir.positions x.1.2 x.2.1) := by
  refine T.d_positions.ct sc_positions rfl fun f cdv Ar outer s G H vs x Q E hr hs ha hp hk => ?_
  obtain ⟨⟨a, b⟩, ps, _⟩ := x
  obtain ⟨_, _, rfl, rfl, vp, _, rfl, h_places, rfl⟩ := ha
  obtain ⟨h_bench, h_wbn, h_ld, hpl⟩ := hp
  dsimp only at h_bench h_wbn h_ld hpl h_places
  have nd := sc_positions.nd
  refine ws_newL1 2 hs (je_len rfl T.b_len (JR.q (je_v 1 rfl h_places))) (fun pf H1 w1 hf => ?_) nd
  have hf0 := w1.free hf
  have gf0 : G pf = none := hs.free hf0
  have w2 := w1.t (Gw.mut (o := .lst (([(ps.length : Int)]).map .int)) w1.s hf)
  have h_bench := h_bench.gw w2
  refine ws_forL 3 w2.s (JR.q (je_v 1 rfl h_places)) (fun i σ' G' H' => ∃ ns u, σ' = [some (.ref a), some vp, some (.ref pf), u] ∧ Gw G H G' H' ∧ BenchIn cBench G' H' a b ∧ G' pf = none ∧ H' pf = some (.lst (ns.map V.int)) ∧ ns.length ≤ 1 + 2 * i ∧ ns = (ps.take i).foldl (fun acc p => acc ++ Mir.position b p) [(ps.length : Int)])
    (fun G3 H3 w3 => ⟨[(ps.length : Int)], none, rfl, w2.t w3, h_bench.gw w3, w3.out gf0 upd_same, w3.h _ _ upd_same, by simp, rfl⟩) ?_ ?_ rfl nd
  · rintro i p v σ' G' H' hx s1 s2 ⟨ns, u, rfl, w', h_bench, gf, hvf, hl, en⟩ hv
    cases (show v = .int p from hv)
    have hi : i < ps.length := (List.getElem?_eq_some_iff.mp hx).1
    refine ws_ext (R := rInt) s2 (je_vO 2 rfl) hvf (JR.eq (je_call (ok_position T) (hr.mono (by decide)) (ja_cons (je_vN 0 rfl h_bench) (ja_cons (je_vI 3 rfl) ja_nil)) (fun _ _ wq => ⟨h_bench.gw wq, h_wbn, h_ld⟩)) (x' := Mir.position b p) rfl) (by rw [List.length_map]; show ns.length + 2 ≤ _; omega) fun us G5 H5 w5 hu => ?_
    have e5 := paired_ints hu
    subst e5
    have g5 := w5.out gf hvf
    refine ws_nil ⟨G5, w5.g, ((w'.t w5).set hf0 g5).s, ns ++ Mir.position b p, _, rfl, (w'.t w5).set hf0 g5, ?_, g5, ?_, ?_, ?_⟩
    · obtain ⟨dx, vb, vm, vt, vp, q1, q2, q3, q4, q5⟩ := h_bench.gw w5
      refine ⟨dx, vb, vm, vt, vp, ?_, q2, q3, q4, q5⟩
      rw [upd_ne (ne_of q1 (w5.h _ _ hvf) (by intro q; cases q))]
      exact q1
    · rw [upd_same, List.map_append]
    · rw [List.length_append]
      show ns.length + 2 ≤ _
      omega
    · rw [take_snoc hx, List.foldl_append, ← en]
      rfl
  · rintro σ' G' H' s1 s2 ⟨ns, u, rfl, w', h_bench, gf, hvf, hl, en⟩
    rw [List.take_length] at en
    subst en
    exact ws_retL (R := rInt) (je_vO 2 rfl) w' hf0 gf hvf (ints_paired _) hk
theorem ok_ringing (T : Top K mg cPart cDraft cRun cBench) : Cal P w K mg base "ringing" 10 (Ct (a1 (rO Mir.BenchS)) (BnP cBench) (rL rInt) fun x => Mir.ringing x.1.2) := by
  refine T.d_ringing.ct sc_ringing rfl fun f cdv Ar outer s G H vs x Q E hr hs ha hp hk => ?_
  obtain ⟨⟨a, b⟩, _⟩ := x
  obtain ⟨_, _, rfl, rfl, rfl⟩ := ha
  obtain ⟨h_bench, h_wbn, h_ld⟩ := hp
  dsimp only at h_bench h_wbn h_ld
  have nd := sc_ringing.nd
  have hrl : (Mir.ownRinging b).length ≤ 8000 := Mir.rings_len (h_wbn.l h_ld).1 (h_wbn.l h_ld).2 h_wbn.h.2
  refine ws_set 1 hs (je_call (ok_own_ringing T) (hr.mono (by decide)) (ja_cons (je_vN 0 rfl h_bench) ja_nil) (fun _ _ wq => ⟨h_bench.gw wq, h_wbn, h_ld⟩)) (fun v1 G0 H0 w0 h_rings => ?_) nd
  have h_rings : (rL rPair).r G0 v1 (Mir.ownRinging b) := h_rings
  have e0 : Mir.ringing b = (Mir.ownRinging b).foldl (fun acc p => acc ++ [p.1, p.2]) [((Mir.ownRinging b).length : Int)] := rfl
  generalize hrs : Mir.ownRinging b = rs at *
  refine ws_newL1 2 w0.s (je_len rfl T.b_len (JR.q (je_v 1 rfl h_rings))) (fun pf H1 w1 hf => ?_) nd
  have w01 := w0.t w1
  have hf0 := w01.free hf
  have gf0 : G0 pf = none := w1.s0.free hf
  have w2 := w01.t (Gw.mut (o := .lst (([(rs.length : Int)]).map .int)) w1.s hf)
  refine ws_forP 3 4 w2.s (JR.q (je_v 1 rfl h_rings)) (fun i σ' G' H' => ∃ ns u1 u2, σ' = [some (.ref a), some v1, some (.ref pf), u1, u2] ∧ Gw G H G' H' ∧ G' pf = none ∧ H' pf = some (.lst (ns.map V.int)) ∧ ns.length ≤ 1 + 2 * i ∧ ns = (rs.take i).foldl (fun acc p => acc ++ [p.1, p.2]) [(rs.length : Int)])
    (fun G3 H3 w3 => ⟨[(rs.length : Int)], none, none, rfl, w2.t w3, w3.out gf0 upd_same, w3.h _ _ upd_same, by simp, rfl⟩) ?_ ?_ rfl nd
  · rintro i x y v u σ' G' H' hx s1 s2 ⟨ns, u1, u2, rfl, w', gf, hvf, hl, en⟩ hv hu
    cases (show v = .int x from hv)
    cases (show u = .int y from hu)
    have hi : i < rs.length := (List.getElem?_eq_some_iff.mp hx).1
    refine ws_ext (R := rInt) s2 (je_vO 2 rfl) hvf (je_lst (jl_cons (je_vI 3 rfl) (jl_cons (je_vI 4 rfl) jl_nil))) (by rw [List.length_map]; show ns.length + 2 ≤ _; omega) fun us G5 H5 w5 hu => ?_
    have e5 := paired_ints hu
    subst e5
    have g5 := w5.out gf hvf
    refine ws_nil ⟨G5, w5.g, ((w'.t w5).set hf0 g5).s, ns ++ [x, y], _, _, rfl, (w'.t w5).set hf0 g5, g5, ?_, ?_, ?_⟩
    · rw [upd_same, List.map_append]
    · rw [List.length_append]
      show ns.length + 2 ≤ _
      omega
    · rw [take_snoc hx, List.foldl_append, ← en]
      rfl
  · rintro σ' G' H' s1 s2 ⟨ns, u1, u2, rfl, w', gf, hvf, hl, en⟩
    rw [List.take_length, ← e0] at en
    subst en
    exact ws_retL (R := rInt) (je_vO 2 rfl) w' hf0 gf hvf (ints_paired _) hk
theorem ok_meets_target (T : Top K mg cPart cDraft cRun cBench) : Cal P w K mg base "meets_target" 10 (Ct (a1 (rO Mir.BenchS)) (BnP cBench) (rL rInt) fun x => Mir.meetsTarget x.1.2) := by
  refine T.d_meets_target.ct sc_meets_target rfl fun f cdv Ar outer s G H vs x Q E hr hs ha hp hk => ?_
  obtain ⟨⟨a, b⟩, _⟩ := x
  obtain ⟨_, _, rfl, rfl, rfl⟩ := ha
  obtain ⟨h_bench, h_wbn, h_ld⟩ := hp
  dsimp only at h_bench h_wbn h_ld
  exact ws_retE hs (je_if (jt_c (jc_eqD (R := (rL (rT2 rInt rInt))) (je_call (ok_own_ringing T) (hr.mono (by decide)) (ja_cons (je_vN 0 rfl h_bench) ja_nil) (fun _ _ wq => ⟨h_bench.gw wq, h_wbn, h_ld⟩)) (je_sorted rfl T.b_sorted (JR.q (je_bench_target T h_bench (je_vO 0 rfl)))) hr.units)) (fun hsc => (je_lst (jl_cons je_int jl_nil))) (fun hsc => (je_lst (jl_cons je_int jl_nil)))) (by rfl) hk
theorem ok_repairs (T : Top K mg cPart cDraft cRun cBench) : Cal P w K mg base "repairs" 12 (Ct (a1 (rO Mir.BenchS)) (BnP cBench) (rL rInt) fun x => Mir.repairs x.1.2) := by
  refine T.d_repairs.ct sc_repairs rfl fun f cdv Ar outer s G H vs x Q E hr hs ha hp hk => ?_
  obtain ⟨⟨a, b⟩, _⟩ := x
  obtain ⟨_, _, rfl, rfl, rfl⟩ := ha
  obtain ⟨h_bench, h_wbn, h_ld⟩ := hp
  dsimp only at h_bench h_wbn h_ld
  have nd := sc_repairs.nd
  have hrl := Mir.ownRepairs_len h_wbn h_ld
  refine ws_set 1 hs (je_call (ok_own_repairs T) (hr.mono (by decide)) (ja_cons (je_vN 0 rfl h_bench) ja_nil) (fun _ _ wq => ⟨h_bench.gw wq, h_wbn, h_ld⟩)) (fun v1 G0 H0 w0 h_changes => ?_) nd
  have h_changes : (rL rPair).r G0 v1 (Mir.ownRepairs b) := h_changes
  have e0 : Mir.repairs b = (Mir.ownRepairs b).foldl (fun acc c => acc ++ (Mir.position b c.1 ++ [c.2])) [((Mir.ownRepairs b).length : Int)] := rfl
  have h_bench := h_bench.gw w0
  generalize hrs : Mir.ownRepairs b = rs at *
  refine ws_newL1 2 w0.s (je_len rfl T.b_len (JR.q (je_v 1 rfl h_changes))) (fun pf H1 w1 hf => ?_) nd
  have w01 := w0.t w1
  have hf0 := w01.free hf
  have gf0 : G0 pf = none := w1.s0.free hf
  have w2 := w01.t (Gw.mut (o := .lst (([(rs.length : Int)]).map .int)) w1.s hf)
  have h_bench := (h_bench.gw w1).gw (Gw.mut (o := .lst (([(rs.length : Int)]).map .int)) w1.s hf)
  refine ws_forP 3 4 w2.s (JR.q (je_v 1 rfl h_changes)) (fun i σ' G' H' => ∃ ns u1 u2, σ' = [some (.ref a), some v1, some (.ref pf), u1, u2] ∧ Gw G H G' H' ∧ BenchIn cBench G' H' a b ∧ G' pf = none ∧ H' pf = some (.lst (ns.map V.int)) ∧ ns.length ≤ 1 + 3 * i ∧ ns = (rs.take i).foldl (fun acc c => acc ++ (Mir.position b c.1 ++ [c.2])) [(rs.length : Int)])
    (fun G3 H3 w3 => ⟨[(rs.length : Int)], none, none, rfl, w2.t w3, h_bench.gw w3, w3.out gf0 upd_same, w3.h _ _ upd_same, by simp, rfl⟩) ?_ ?_ rfl nd
  · rintro i x y v u σ' G' H' hx s1 s2 ⟨ns, u1, u2, rfl, w', h_bench, gf, hvf, hl, en⟩ hv hu
    cases (show v = .int x from hv)
    cases (show u = .int y from hu)
    have hi : i < rs.length := (List.getElem?_eq_some_iff.mp hx).1
    have jp : (Mir.position b x).length = 2 := rfl
    refine ws_ext (R := rInt) s2 (je_vO 2 rfl) hvf (je_cat (xs := Mir.position b x) (JR.eq (je_call (ok_position T) (hr.mono (by decide)) (ja_cons (je_vN 0 rfl h_bench) (ja_cons (je_vI 3 rfl) ja_nil)) (fun _ _ wq => ⟨h_bench.gw wq, h_wbn, h_ld⟩)) rfl) (je_lst (jl_cons (je_vI 4 rfl) jl_nil)) (by show 2 + 1 ≤ _; omega)) (by rw [List.length_map]; show ns.length + 3 ≤ _; omega) fun us G5 H5 w5 hu => ?_
    have e5 := paired_ints hu
    subst e5
    have g5 := w5.out gf hvf
    refine ws_nil ⟨G5, w5.g, ((w'.t w5).set hf0 g5).s, ns ++ (Mir.position b x ++ [y]), _, _, rfl, (w'.t w5).set hf0 g5, ?_, g5, ?_, ?_, ?_⟩
    · obtain ⟨dx, vb, vm, vt, vp, q1, q2, q3, q4, q5⟩ := h_bench.gw w5
      refine ⟨dx, vb, vm, vt, vp, ?_, q2, q3, q4, q5⟩
      rw [upd_ne (ne_of q1 (w5.h _ _ hvf) (by intro q; cases q))]
      exact q1
    · rw [upd_same, List.map_append (l₁ := ns)]
    · rw [List.length_append]
      show ns.length + 3 ≤ _
      omega
    · rw [take_snoc hx, List.foldl_append, ← en]
      rfl
  · rintro σ' G' H' s1 s2 ⟨ns, u1, u2, rfl, w', h_bench, gf, hvf, hl, en⟩
    rw [List.take_length, ← e0] at en
    subst en
    exact ws_retL (R := rInt) (je_vO 2 rfl) w' hf0 gf hvf (ints_paired _) hk
theorem ok_idle_cells (T : Top K mg cPart cDraft cRun cBench) : Cal P w K mg base "idle_cells" 11 (Ct (a1 (rO Mir.BenchS)) (BnP cBench) (rL rInt) fun x => Mir.idleCells x.1.2) := by
  refine T.d_idle_cells.ct sc_idle_cells rfl fun f cdv Ar outer s G H vs x Q E hr hs ha hp hk => ?_
  obtain ⟨⟨a, b⟩, _⟩ := x
  obtain ⟨_, _, rfl, rfl, rfl⟩ := ha
  obtain ⟨h_bench, h_wbn, h_ld⟩ := hp
  dsimp only at h_bench h_wbn h_ld
  have h_arg := arg_of h_wbn h_ld
  have hil := Mir.idle_len (ms := b.marbles) (hz := b.horizon) (h_wbn.l h_ld).1
  exact ws_ret hs (je_call (ok_positions T) (hr.mono (by decide)) (ja_cons (je_vN 0 rfl h_bench) (ja_cons (je_call (ok_idle_places T) (hr.mono (by decide)) (ja_cons (je_bench_board T h_bench (je_vO 0 rfl)) (ja_cons (je_bench_marbles T h_bench (je_vO 0 rfl)) (ja_cons (je_bench_horizon T h_bench (je_vO 0 rfl)) ja_nil))) (fun _ _ _ => h_arg)) ja_nil)) (fun _ _ wq => ⟨h_bench.gw wq, h_wbn, h_ld, by walk_at "s"⟩)) hk
theorem ok_count_changes (T : Top K mg cPart cDraft cRun cBench) : Cal P w K mg base "count_changes" 11 (Ct (a1 (rO Mir.BenchS)) (BnP cBench) (rL rInt) fun x => Mir.countChanges x.1.2) := by
  refine T.d_count_changes.ct sc_count_changes rfl fun f cdv Ar outer s G H vs x Q E hr hs ha hp hk => ?_
  obtain ⟨⟨a, b⟩, _⟩ := x
  obtain ⟨_, _, rfl, rfl, rfl⟩ := ha
  obtain ⟨h_bench, h_wbn, h_ld⟩ := hp
  dsimp only at h_bench h_wbn h_ld
  have h_arg := arg_of h_wbn h_ld
  have h_pal := h_wbn.p
  have h_wb := (h_wbn.l h_ld).1
  have nd := sc_count_changes.nd
  refine ws_set 1 hs (je_call (ok_noticeable_changes T) (hr.mono (by decide)) (ja_cons (je_bench_board T h_bench (je_vO 0 rfl)) (ja_cons (je_bench_marbles T h_bench (je_vO 0 rfl)) (ja_cons (je_bench_horizon T h_bench (je_vO 0 rfl)) (ja_cons (je_bench_palette T h_bench (je_vO 0 rfl)) ja_nil)))) (fun _ _ _ => ⟨h_arg, h_pal⟩)) (fun v1 G0 H0 w0 h_noticed => ?_) nd
  have h_bench := h_bench.gw w0
  exact ws_ret w0.s (je_lst (jl_cons (je_len rfl T.b_len (JR.q (je_v 1 rfl h_noticed))) (jl_cons (je_len rfl T.b_len (JR.q (je_call (ok_all_changes T) (hr.mono (by decide)) (ja_cons (je_bench_board T h_bench (je_vO 0 rfl)) (ja_cons (je_bench_palette T h_bench (je_vO 0 rfl)) ja_nil)) (fun _ _ _ => ⟨h_wb, h_pal⟩)))) jl_nil))) fun v G' H' w1 h => hk v G' H' (w0.t w1) h
theorem ok_tell_board (T : Top K mg cPart cDraft cRun cBench) : Cal P w K mg base "tell_board" 1 (Ct (a1 (rO Mir.BenchS)) (BnP cBench) (rL rInt) fun x => Mir.tellBoard x.1.2) := by
  refine T.d_tell_board.ct sc_tell_board rfl fun f cdv Ar outer s G H vs x Q E hr hs ha hp hk => ?_
  obtain ⟨⟨a, b⟩, _⟩ := x
  obtain ⟨_, _, rfl, rfl, rfl⟩ := ha
  obtain ⟨h_bench, h_wbn, h_ld⟩ := hp
  dsimp only at h_bench h_wbn h_ld
  have bl := (h_wbn.l h_ld).1.le
  have nd := sc_tell_board.nd
  refine ws_un3 1 2 3 hs (je_bench_board T h_bench (je_vO 0 rfl)) rfl nd (fun v1 v2 v3 G1 H1 w1 e1 e2 h_cells => ?_)
  cases (show v1 = .int b.board.1 from e1)
  cases (show v2 = .int b.board.2.1 from e2)
  have h_cells : (rL rCell).r G1 v3 b.board.2.2 := h_cells
  exact ws_ret w1.s (je_cat (je_lst (jl_cons (je_vI 1 rfl) (jl_cons (je_vI 2 rfl) jl_nil))) (je_lcM 4 (f := (fun (c : Mir.Cell) => c.1)) rfl nd (JR.q (je_v 3 rfl h_cells)) (blkOk_by (N := n_tell_board) (sc := defScope s_tell_board) (by decide +kernel)) (by walk_at "s") (fun i x v G3 H3 hx w3 hv s Hb C cl fp => by have h_cell := hv; exact JR.eq (je_p30 (je_v 4 rfl h_cell)) rfl)) (by walk_at "s")) fun v G' H' w2 h => hk v G' H' (w1.t w2) h
theorem ok_path (T : Top K mg cPart cDraft cRun cBench) : Cal P w K mg base "path" 9 (Ct (a2 (rO Mir.BenchS) rInt) (BnP cBench) (rL rInt) fun x => Mir.path x.1.2 x.2.1) := by
  refine T.d_path.ct sc_path rfl fun f cdv Ar outer s G H vs x Q E hr hs ha hp hk => ?_
  obtain ⟨⟨a, b⟩, m, _⟩ := x
  obtain ⟨_, _, rfl, rfl, _, _, rfl, rfl, rfl⟩ := ha
  obtain ⟨h_bench, h_wbn, h_ld⟩ := hp
  dsimp only at h_bench h_wbn h_ld
  have h_arg := arg_of h_wbn h_ld
  refine ws_when hs (jt_w (jw_or (jt_c (jc_lt (je_vI 1 rfl) je_int)) fun hsc => (jw_or1 (jt_c (jc_ge (je_vI 1 rfl) (je_len rfl T.b_len (JR.q (je_bench_marbles T h_bench (je_vO 0 rfl))))))))) (fun hb H1 w1 => ?_) (fun hb H1 w1 => ?_)
  · have hb : (decide (m < 0) || decide ((b.marbles.length : Int) ≤ m)) = true := hb
    exact ws_retE w1.s (je_lst (jl_cons (je_gi T.c_OUT_OF_RANGE) jl_nil)) (by show _ = Mir.path b m; unfold Mir.path; exact (if_pos hb).symm) fun v G' H' w2 h => hk v G' H' (w1.t w2) h
  · have hb : (decide (m < 0) || decide ((b.marbles.length : Int) ≤ m)) = false := hb
    have h_bench := h_bench.gw w1
    have hb2 : 0 ≤ m ∧ m < (b.marbles.length : Int) := by
      simp only [Bool.or_eq_false_iff, decide_eq_false_iff_not] at hb
      omega
    obtain ⟨hm0, hm1⟩ := hb2
    have hpl := Mir.pathOf_len (b := b.board) (ms := b.marbles) (m := m) h_wbn.h.2
    refine ws_retE w1.s (je_call (ok_positions T) (hr.mono (by decide)) (ja_cons (je_vN 0 rfl h_bench) (ja_cons (JR.eq (je_call (ok_path_of T) (hr.mono (by decide)) (ja_cons (je_bench_board T h_bench (je_vO 0 rfl)) (ja_cons (je_bench_marbles T h_bench (je_vO 0 rfl)) (ja_cons (je_bench_horizon T h_bench (je_vO 0 rfl)) (ja_cons (je_vI 1 rfl) ja_nil)))) (fun _ _ _ => ⟨h_arg, by walk_at "b"⟩)) (x' := Mir.pathOf b.board b.marbles b.horizon m) rfl) ja_nil)) (fun _ _ wq => ⟨h_bench.gw wq, h_wbn, h_ld, by show (Mir.pathOf b.board b.marbles b.horizon m).length ≤ 1000; omega⟩)) (by show _ = Mir.path b m; unfold Mir.path; exact (if_neg (bno hb)).symm) fun v G' H' w2 h => hk v G' H' (w1.t w2) h
end
end Ck
end
section
set_option Elab.async false
set_option linter.all false
set_option maxRecDepth 100000
set_option maxHeartbeats 4000000
namespace Ck
open PySem PySem.Spec PyProof.Rows L2
open Mir (itm)
local macro_rules | `(tactic| walk_at "s") => `(tactic| first | assumption | omega | (simp only [onPre, List.length_map, List.length_drop, List.length_take, List.length_append, List.length_cons, List.length_nil, decide_eq_true_eq, decide_eq_false_iff_not, Bool.not_eq_false', Bool.not_eq_true', Bool.or_eq_false_iff] at *; omega))
local macro_rules | `(tactic| walk_at "b") => `(tactic| first | assumption | exact ⟨by assumption, by assumption⟩ | exact ⟨by omega, by omega⟩)
theorem wbn_mono {n m : Nat} {b : Mir.BenchS} (h : Mir.Wbn n b) (l : n ≤ m) : Mir.Wbn m b := ⟨h.h, h.p, Nat.le_trans h.t l, h.l⟩
theorem units65 {k : Nat} {A : Around} (hr : Room k A) : A.units + 65 < cLine := by have := hr.un; omega
theorem bench_keep {C a : Addr} {b : Mir.BenchS} {G H G1 H1 : Hp} (w : Gw G H G1 H1) (hg : G a = none) (h : BenchIn C G H a b) : G1 a = none := let ⟨_, e⟩ := h.there; w.out hg e
section
variable {P : Program} {w : World} {K : PySem.W.Frag} {mg : Str → Option Value} {base : Heap} {cPart cDraft cRun cBench : Addr}
theorem ok_are_different (T : Top K mg cPart cDraft cRun cBench) : Cal P w K mg base "are_different" 1 (Ct (a1 (rL rInt)) (onPre fun x => x.1.length ≤ 1000) rBool fun x => Mir.areDifferent x.1) := by
  refine T.d_are_different.ct sc_are_different rfl fun f cdv Ar outer s G H vs x Q E hr hs ha hp hk => ?_
  obtain ⟨ss, _⟩ := x
  obtain ⟨vp, _, rfl, h_signs, rfl⟩ := ha
  have h_len : ss.length ≤ 1000 := hp
  dsimp only at h_signs
  have nd := sc_are_different.nd
  refine ws_ret hs (je_c (jc_eqI (je_lenDict rfl rfl T.b_len T.b_dict rfl (je_lcM 1 (S := rT2 rInt rBool) (f := fun x => (x, true)) rfl nd (JR.q (je_v 0 rfl h_signs)) (blkOk_by (N := n_are_different) (sc := defScope s_are_different) (by decide +kernel)) (by omega) ?_)) (je_len rfl T.b_len (JR.q (je_v 0 rfl h_signs))))) hk
  intro i x v G3 H3 hx w3 hv s Hb C cl fp
  cases (show v = .int x from hv)
  exact je_t2 (je_vI 1 rfl) je_bl
theorem ok_set_palette (T : Top K mg cPart cDraft cRun cBench) : Cal P w K mg base "set_palette" 3 (CtB cBench (a2 (rO Mir.BenchS) (rL rInt)) (fun x => x.1.1) (fun G H x => BenchIn cBench G H x.1.1 x.1.2 ∧ x.2.1.length ≤ 20000) (rL rInt) fun x => Mir.setPalette x.1.2 x.2.1) := by
  refine T.d_set_palette.ok sc_set_palette (fun vs H Q E ⟨G, x, _, h, _⟩ => (AR.len _ h)) fun f cdv Ar outer s H vs Q E hr ⟨G, x, hs, ha, hp, hg, hk⟩ => ?_
  obtain ⟨⟨a, b⟩, ss, _⟩ := x
  obtain ⟨_, _, rfl, rfl, vp, _, rfl, h_signs, rfl⟩ := ha
  obtain ⟨h_bench, h_len⟩ := hp
  dsimp only at h_bench h_len h_signs hg
  have nd := sc_set_palette.nd
  have ret : ∀ (G1 H1 : Hp) (v : V) (l : List Int), Gw G H G1 H1 → Mir.setPalette b ss = (b, l) → (rL rInt).r G1 v l → Q v H1 := fun G1 H1 v n w1 e hv => by
    refine hk v G1 H1 (Mv.of w1) ?_ (bench_keep w1 hg h_bench) ?_
    · show BenchIn cBench G1 H1 a (Mir.setPalette b ss).1
      rw [e]
      exact h_bench.gw w1
    · show (rL rInt).r G1 v (Mir.setPalette b ss).2
      rw [e]
      exact hv
  refine ws_when hs (jt_w (jw_or (jt_c (jc_lt (je_len rfl T.b_len (JR.q (je_v 1 rfl h_signs))) je_int)) fun hsc => (jw_or (jt_c (jc_gt (je_len rfl T.b_len (JR.q (je_v 1 rfl h_signs))) (je_gi T.c_MOST_SIGNS))) fun hsc => (jw_or1 (jt_not (jt_v (je_call (ok_are_different T) (hr.mono (by decide)) (ja_cons (je_v 1 rfl h_signs) ja_nil) (fun _ _ _ => by walk_at "s")))))))) (fun hb H1 w1 => ?_) (fun hb H1 w1 => ?_)
  · have hb : (decide ((ss.length : Int) < 1) || (decide (12 < (ss.length : Int)) || !Mir.areDifferent ss)) = true := hb
    exact ws_ret w1.s (je_lst (jl_cons (je_gi T.c_OUT_OF_RANGE) jl_nil)) fun v G' H' w8 hv => ret G' H' v [-2] (w1.t w8) (by unfold Mir.setPalette; exact if_pos hb) hv
  have hb : (decide ((ss.length : Int) < 1) || (decide (12 < (ss.length : Int)) || !Mir.areDifferent ss)) = false := hb
  have h_bench := h_bench.gw w1
  refine ws_when w1.s (jt_not (jt_v (je_all rfl T.b_all rfl (JR.q (je_lcM 2 (f := Mir.isCellSign) rfl nd (JR.q (je_v 1 rfl h_signs)) (blkOk_by (N := n_set_palette) (sc := defScope s_set_palette) (by decide +kernel)) (by walk_at "s") (fun i x v G3 H3 hx w3 hv s Hb C cl fp => by cases (show v = .int x from hv); exact JR.eq (je_call (ok_is_cell_sign T) (hr.mono (by decide)) (ja_cons (je_vI 2 rfl) ja_nil) (fun _ _ _ => trivial)) rfl)))))) (fun hb2 H2 w2 => ?_) (fun hb2 H2 w2 => ?_)
  · have hb2 : (!(ss.map Mir.isCellSign).all id) = true := hb2
    exact ws_ret w2.s (je_lst (jl_cons (je_gi T.c_OUT_OF_RANGE) jl_nil)) fun v G' H' w8 hv => ret G' H' v [-2] ((w1.t w2).t w8) (by unfold Mir.setPalette; rw [if_neg (bno hb)]; exact if_pos hb2) hv
  have hb2 : (!(ss.map Mir.isCellSign).all id) = false := hb2
  have er : Mir.setPalette b ss = ({ b with palette := ss }, [(ss.length : Int)]) := by
    unfold Mir.setPalette
    rw [if_neg (bno hb), if_neg (bno hb2)]
  have h_bench := h_bench.gw w2
  have w2 := w1.t w2
  have hq := h_bench
  obtain ⟨dx, vb, vm, vt, vpp, q1, q2, q3, q4, q5⟩ := hq
  refine ws_fld w2.s (je_list rfl T.b_list (JR.q (je_v 1 rfl h_signs))) (fun H1 w1 => je_vO 0 rfl) q1 T.k_Bench T.f_Bench_palette (of_decide_eq_true rfl) (fun v G3 H3 w3 hv => ?_)
  rw [bF_putp]
  have g3 := w3.out hg q1
  have m3 := (Mv.of (F := fun x => x = a) (w2.t w3)).t (Mv.upd (o := .ins cBench dx (bF b.loaded vb vm b.horizon vt v)) w3.s rfl g3 (w3.h _ _ q1))
  have hb3 : BenchIn cBench G3 (upd H3 a (.ins cBench dx (bF b.loaded vb vm b.horizon vt v))) a { b with palette := ss } := ⟨dx, vb, vm, vt, v, upd_same, rBoard.m w3.g q2, (rL rPair).m w3.g q3, (rL rPair).m w3.g q4, hv⟩
  have h_signs := (rL rInt).m w3.g h_signs
  refine ws_ret m3.s (je_lst (jl_cons (je_len rfl T.b_len (JR.q (je_v 1 rfl h_signs))) jl_nil)) fun v G9 H9 w9 hv => ?_
  refine hk v G9 H9 (m3.t (Mv.of w9)) ?_ (bench_keep w9 g3 hb3) ?_
  · show BenchIn cBench G9 H9 a (Mir.setPalette b ss).1
    rw [er]
    exact hb3.gw w9
  · show (rL rInt).r G9 v (Mir.setPalette b ss).2
    rw [er]
    exact hv
theorem ok_set_horizon (T : Top K mg cPart cDraft cRun cBench) : Cal P w K mg base "set_horizon" 1 (CtB cBench (a2 (rO Mir.BenchS) rInt) (fun x => x.1.1) (fun G H x => BenchIn cBench G H x.1.1 x.1.2) (rL rInt) fun x => Mir.setHorizon x.1.2 x.2.1) := by
  refine T.d_set_horizon.ok sc_set_horizon (fun vs H Q E ⟨G, x, _, h, _⟩ => (AR.len _ h)) fun f cdv Ar outer s H vs Q E hr ⟨G, x, hs, ha, hp, hg, hk⟩ => ?_
  obtain ⟨⟨a, b⟩, t, _⟩ := x
  obtain ⟨_, _, rfl, rfl, _, _, rfl, rfl, rfl⟩ := ha
  have h_bench : BenchIn cBench G H a b := hp
  dsimp only at hg
  have ret : ∀ (G1 H1 : Hp) (v : V) (l : List Int), Gw G H G1 H1 → Mir.setHorizon b t = (b, l) → (rL rInt).r G1 v l → Q v H1 := fun G1 H1 v n w1 e hv => by
    refine hk v G1 H1 (Mv.of w1) ?_ (bench_keep w1 hg h_bench) ?_
    · show BenchIn cBench G1 H1 a (Mir.setHorizon b t).1
      rw [e]
      exact h_bench.gw w1
    · show (rL rInt).r G1 v (Mir.setHorizon b t).2
      rw [e]
      exact hv
  refine ws_when hs (jt_w (jw_or (jt_c (jc_lt (je_vI 1 rfl) je_int)) fun hsc => (jw_or1 (jt_c (jc_gt (je_vI 1 rfl) (je_gi T.c_MOST_TICKS)))))) (fun hb H1 w1 => ?_) (fun hb H1 w1 => ?_)
  · have hb : (decide (t < 1) || decide (40 < t)) = true := hb
    exact ws_ret w1.s (je_lst (jl_cons (je_gi T.c_OUT_OF_RANGE) jl_nil)) fun v G' H' w8 hv => ret G' H' v [-2] (w1.t w8) (by unfold Mir.setHorizon; exact if_pos hb) hv
  have hb : (decide (t < 1) || decide (40 < t)) = false := hb
  have er : Mir.setHorizon b t = ({ b with horizon := t }, [0]) := by
    unfold Mir.setHorizon
    exact if_neg (bno hb)
  have h_bench := h_bench.gw w1
  have hq := h_bench
  obtain ⟨dx, vb, vm, vt, vpp, q1, q2, q3, q4, q5⟩ := hq
  refine ws_fld w1.s (je_vI 1 rfl) (fun H1 w1 => je_vO 0 rfl) q1 T.k_Bench T.f_Bench_horizon (of_decide_eq_true rfl) (fun v G3 H3 w3 hv => ?_)
  cases (show v = .int t from hv)
  rw [bF_puth]
  have g3 := w3.out hg q1
  have m3 := (Mv.of (F := fun x => x = a) (w1.t w3)).t (Mv.upd (o := .ins cBench dx (bF b.loaded vb vm t vt vpp)) w3.s rfl g3 (w3.h _ _ q1))
  have hb3 : BenchIn cBench G3 (upd H3 a (.ins cBench dx (bF b.loaded vb vm t vt vpp))) a { b with horizon := t } := ⟨dx, vb, vm, vt, vpp, upd_same, rBoard.m w3.g q2, (rL rPair).m w3.g q3, (rL rPair).m w3.g q4, (rL rInt).m w3.g q5⟩
  refine ws_ret m3.s (je_lst (jl_cons je_int jl_nil)) fun v G9 H9 w9 hv => ?_
  refine hk v G9 H9 (m3.t (Mv.of w9)) ?_ (bench_keep w9 g3 hb3) ?_
  · show BenchIn cBench G9 H9 a (Mir.setHorizon b t).1
    rw [er]
    exact hb3.gw w9
  · show (rL rInt).r G9 v (Mir.setHorizon b t).2
    rw [er]
    exact hv
theorem ok_want_ring (T : Top K mg cPart cDraft cRun cBench) : Cal P w K mg base "want_ring" 1 (CtB cBench (a3 (rO Mir.BenchS) rInt rInt) (fun x => x.1.1) (fun G H x => BenchIn cBench G H x.1.1 x.1.2 ∧ x.1.2.target.length ≤ 20000) (rL rInt) fun x => Mir.wantRing x.1.2 x.2.1 x.2.2.1) := by
  refine T.d_want_ring.ok sc_want_ring (fun vs H Q E ⟨G, x, _, h, _⟩ => (AR.len _ h)) fun f cdv Ar outer s H vs Q E hr ⟨G, x, hs, ha, hp, hg, hk⟩ => ?_
  obtain ⟨⟨a, b⟩, t, m, _⟩ := x
  obtain ⟨_, _, rfl, rfl, _, _, rfl, rfl, _, _, rfl, rfl, rfl⟩ := ha
  obtain ⟨h_bench, h_tl⟩ := hp
  dsimp only at h_bench h_tl hg
  have ret : ∀ (G1 H1 : Hp) (v : V) (l : List Int), Gw G H G1 H1 → Mir.wantRing b t m = (b, l) → (rL rInt).r G1 v l → Q v H1 := fun G1 H1 v n w1 e hv => by
    refine hk v G1 H1 (Mv.of w1) ?_ (bench_keep w1 hg h_bench) ?_
    · show BenchIn cBench G1 H1 a (Mir.wantRing b t m).1
      rw [e]
      exact h_bench.gw w1
    · show (rL rInt).r G1 v (Mir.wantRing b t m).2
      rw [e]
      exact hv
  refine ws_when hs (jt_w (jw_or (jt_c (jc_lt (je_vI 1 rfl) je_int)) fun hsc => (jw_or (jt_c (jc_gt (je_vI 1 rfl) (je_gi T.c_MOST_TICKS))) fun hsc => (jw_or (jt_c (jc_lt (je_vI 2 rfl) je_int)) fun hsc => (jw_or1 (jt_c (jc_ge (je_vI 2 rfl) (je_gi T.c_MOST_MARBLES_mending)))))))) (fun hb H1 w1 => ?_) (fun hb H1 w1 => ?_)
  · have hb : (decide (t < 1) || (decide (40 < t) || (decide (m < 0) || decide (40 ≤ m)))) = true := hb
    exact ws_ret w1.s (je_lst (jl_cons (je_gi T.c_OUT_OF_RANGE) jl_nil)) fun v G' H' w8 hv => ret G' H' v [-2] (w1.t w8) (by unfold Mir.wantRing; exact if_pos hb) hv
  have hb : (decide (t < 1) || (decide (40 < t) || (decide (m < 0) || decide (40 ≤ m)))) = false := hb
  have h_bench := h_bench.gw w1
  refine ws_when w1.s (jt_c (jc_inD (R := rPair) (x := ((t, m) : Mir.Pair)) (xs := b.target) (je_t2 (je_vI 1 rfl) (je_vI 2 rfl)) (je_bench_target T h_bench (je_vO 0 rfl)) (units65 hr))) (fun hb2 H2 w2 => ?_) (fun hb2 H2 w2 => ?_)
  · have hb2 : (b.target.any fun z => decide (z = (t, m))) = true := hb2
    exact ws_ret w2.s (je_lst (jl_cons (je_gi T.c_TOO_MUCH) jl_nil)) fun v G' H' w8 hv => ret G' H' v [-4] ((w1.t w2).t w8) (by unfold Mir.wantRing; rw [if_neg (bno hb)]; exact if_pos hb2) hv
  have hb2 : (b.target.any fun z => decide (z = (t, m))) = false := hb2
  have er : Mir.wantRing b t m = ({ b with target := b.target ++ [(t, m)] }, [((b.target ++ [(t, m)]).length : Int)]) := by
    unfold Mir.wantRing
    rw [if_neg (bno hb), if_neg (bno hb2)]
  have h_bench := h_bench.gw w2
  have w2 := w1.t w2
  have hq := h_bench
  obtain ⟨dx, vb, vm, vt, vpp, q1, q2, q3, q4, q5⟩ := hq
  refine ws_fld w2.s (je_cat (je_bench_target T h_bench (je_vO 0 rfl)) (je_lst (jl_cons (je_t2 (je_vI 1 rfl) (je_vI 2 rfl)) jl_nil)) (by walk_at "s")) (fun H1 w1 => je_vO 0 rfl) q1 T.k_Bench T.f_Bench_target (of_decide_eq_true rfl) (fun v G3 H3 w3 hv => ?_)
  rw [bF_putt]
  have g3 := w3.out hg q1
  have m3 := (Mv.of (F := fun x => x = a) (w2.t w3)).t (Mv.upd (o := .ins cBench dx (bF b.loaded vb vm b.horizon v vpp)) w3.s rfl g3 (w3.h _ _ q1))
  have hb3 : BenchIn cBench G3 (upd H3 a (.ins cBench dx (bF b.loaded vb vm b.horizon v vpp))) a { b with target := b.target ++ [(t, m)] } := ⟨dx, vb, vm, v, vpp, upd_same, rBoard.m w3.g q2, (rL rPair).m w3.g q3, hv, (rL rInt).m w3.g q5⟩
  have h_bench := hb3
  refine ws_ret m3.s (je_lst (jl_cons (je_len rfl T.b_len (JR.q (je_bench_target T h_bench (je_vO 0 rfl)))) jl_nil)) fun v G9 H9 w9 hv => ?_
  refine hk v G9 H9 (m3.t (Mv.of w9)) ?_ (bench_keep w9 g3 hb3) ?_
  · show BenchIn cBench G9 H9 a (Mir.wantRing b t m).1
    rw [er]
    exact hb3.gw w9
  · show (rL rInt).r G9 v (Mir.wantRing b t m).2
    rw [er]
    exact hv
theorem ok_clear_target (T : Top K mg cPart cDraft cRun cBench) : Cal P w K mg base "clear_target" 1 (CtB cBench (a1 (rO Mir.BenchS)) (fun x => x.1.1) (fun G H x => BenchIn cBench G H x.1.1 x.1.2) (rL rInt) fun x => Mir.clearTarget x.1.2) := by
  refine T.d_clear_target.ok sc_clear_target (fun vs H Q E ⟨G, x, _, h, _⟩ => (AR.len _ h)) fun f cdv Ar outer s H vs Q E hr ⟨G, x, hs, ha, hp, hg, hk⟩ => ?_
  obtain ⟨⟨a, b⟩, _⟩ := x
  obtain ⟨_, _, rfl, rfl, rfl⟩ := ha
  have h_bench : BenchIn cBench G H a b := hp
  dsimp only at hg
  have nd := sc_clear_target.nd
  refine ws_setI 1 hs (je_len rfl T.b_len (JR.q (je_bench_target T h_bench (je_vO 0 rfl)))) (fun H1 w1 => ?_) nd
  have h_bench := h_bench.gw w1
  have hq := h_bench
  obtain ⟨dx, vb, vm, vt, vpp, q1, q2, q3, q4, q5⟩ := hq
  refine ws_fld w1.s (je_lst (R := rPair) jl_nil) (fun H1 w1 => je_vO 0 rfl) q1 T.k_Bench T.f_Bench_target (of_decide_eq_true rfl) (fun v G3 H3 w3 hv => ?_)
  rw [bF_putt]
  have g3 := w3.out hg q1
  have m3 := (Mv.of (F := fun x => x = a) (w1.t w3)).t (Mv.upd (o := .ins cBench dx (bF b.loaded vb vm b.horizon v vpp)) w3.s rfl g3 (w3.h _ _ q1))
  have hb3 : BenchIn cBench G3 (upd H3 a (.ins cBench dx (bF b.loaded vb vm b.horizon v vpp))) a { b with target := [] } := ⟨dx, vb, vm, v, vpp, upd_same, rBoard.m w3.g q2, (rL rPair).m w3.g q3, hv, (rL rInt).m w3.g q5⟩
  refine ws_ret m3.s (je_lst (jl_cons (je_vI 1 rfl) jl_nil)) fun v G9 H9 w9 hv => ?_
  exact hk v G9 H9 (m3.t (Mv.of w9)) (hb3.gw w9) (bench_keep w9 g3 hb3) hv
theorem ok_apply_repair (T : Top K mg cPart cDraft cRun cBench) : Cal P w K mg base "apply_repair" 12 (CtB cBench (a2 (rO Mir.BenchS) rInt) (fun x => x.1.1) (BnP cBench) (rL rInt) fun x => Mir.applyRepair x.1.2 x.2.1) := by
  refine T.d_apply_repair.ok sc_apply_repair (fun vs H Q E ⟨G, x, _, h, _⟩ => (AR.len _ h)) fun f cdv Ar outer s H vs Q E hr ⟨G, x, hs, ha, hp, hg, hk⟩ => ?_
  obtain ⟨⟨a, b⟩, i, _⟩ := x
  obtain ⟨_, _, rfl, rfl, _, _, rfl, rfl, rfl⟩ := ha
  obtain ⟨h_bench, h_wbn, h_ld⟩ := hp
  dsimp only at h_bench h_wbn h_ld hg
  have nd := sc_apply_repair.nd
  have hrl := Mir.ownRepairs_len h_wbn h_ld
  have ret : ∀ (G1 H1 : Hp) (v : V) (l : List Int), Gw G H G1 H1 → Mir.applyRepair b i = (b, l) → (rL rInt).r G1 v l → Q v H1 := fun G1 H1 v n w1 e hv => by
    refine hk v G1 H1 (Mv.of w1) ?_ (bench_keep w1 hg h_bench) ?_
    · show BenchIn cBench G1 H1 a (Mir.applyRepair b i).1
      rw [e]
      exact h_bench.gw w1
    · show (rL rInt).r G1 v (Mir.applyRepair b i).2
      rw [e]
      exact hv
  have hmem : ∀ c ∈ Mir.ownRepairs b, 0 ≤ c.1 ∧ c.1 < (b.board.2.2.length : Int) := fun c hc => Mir.ownRepairs_mem h_wbn h_ld hc
  have e0 : Mir.applyRepair b i = (if decide (i < 0) || decide (((Mir.ownRepairs b).length : Int) ≤ i) then (b, [-3])
    else ({ b with board := Mir.changedBoard b.board (itm (0, 0) (Mir.ownRepairs b) i).1 (itm (0, 0) (Mir.ownRepairs b) i).2 }, [(itm (0, 0) (Mir.ownRepairs b) i).2] ++ Mir.position b (itm (0, 0) (Mir.ownRepairs b) i).1)) := rfl
  have h_bench0 := h_bench
  refine ws_set 2 hs (je_call (ok_own_repairs T) (hr.mono (by decide)) (ja_cons (je_vN 0 rfl h_bench) ja_nil) (fun _ _ wq => ⟨h_bench.gw wq, h_wbn, h_ld⟩)) (fun v1 G1 H1 w1 h_changes => ?_) nd
  have h_changes : (rL rPair).r G1 v1 (Mir.ownRepairs b) := h_changes
  have h_bench := h_bench.gw w1
  have g1 := bench_keep w1 hg h_bench0
  generalize hrs : Mir.ownRepairs b = rs at *
  refine ws_when w1.s (jt_w (jw_or (jt_c (jc_lt (je_vI 1 rfl) je_int)) fun hsc => (jw_or1 (jt_c (jc_ge (je_vI 1 rfl) (je_len rfl T.b_len (JR.q (je_v 2 rfl h_changes)))))))) (fun hb H2 w2 => ?_) (fun hb H2 w2 => ?_)
  · have hb : (decide (i < 0) || decide ((rs.length : Int) ≤ i)) = true := hb
    exact ws_ret w2.s (je_lst (jl_cons (je_gi T.c_NO_REPAIR) jl_nil)) fun v G' H' w8 hv => ret G' H' v [-3] ((w1.t w2).t w8) (by rw [e0, if_pos hb]) hv
  have hb : (decide (i < 0) || decide ((rs.length : Int) ≤ i)) = false := hb
  rw [if_neg (bno hb)] at e0
  have hi : 0 ≤ i ∧ i < (rs.length : Int) := by
    simp only [Bool.or_eq_false_iff, decide_eq_false_iff_not] at hb
    omega
  obtain ⟨hi0, hi1⟩ := hi
  have h_bench := h_bench.gw w2
  have w2 := w1.t w2
  have hc := hmem _ (Mir.itm_mem (d := ((0, 0) : Mir.Pair)) hi0 hi1)
  refine ws_un2 3 4 w2.s (je_ix (d := (0, 0)) (JR.q (je_v 2 rfl h_changes)) (je_vI 1 rfl) (by walk_at "s") (by walk_at "s")) rfl nd (fun v2 v3 G3 H3 w3 e2 e3 => ?_)
  cases (show v2 = .int _ from e2)
  cases (show v3 = .int _ from e3)
  have h_bench := h_bench.gw w3
  have g3 := bench_keep (w2.t w3) hg h_bench0
  have w3 := w2.t w3
  generalize hcc : itm ((0, 0) : Mir.Pair) rs i = c at *
  obtain ⟨hc0, hc1⟩ := hc
  have h_wb := (h_wbn.l h_ld).1
  have hq := h_bench
  obtain ⟨dx, vb, vm, vt, vpp, q1, q2, q3, q4, q5⟩ := hq
  refine ws_fld w3.s (JR.eq (x' := Mir.changedBoard b.board c.1 c.2) (je_call (ok_changed_board T) (hr.mono (by decide)) (ja_cons (je_bench_board T h_bench (je_vO 0 rfl)) (ja_cons (je_vI 3 rfl) (ja_cons (je_vI 4 rfl) ja_nil))) (fun _ _ _ => ⟨h_wb, by walk_at "b"⟩)) rfl) (fun H1 w1 => je_vO 0 rfl) q1 T.k_Bench T.f_Bench_board (of_decide_eq_true rfl) (fun v G4 H4 w4 hv => ?_)
  rw [bF_putb]
  have g4 := w4.out g3 q1
  have m4 := (Mv.of (F := fun x => x = a) (w3.t w4)).t (Mv.upd (o := .ins cBench dx (bF b.loaded v vm b.horizon vt vpp)) w4.s rfl g4 (w4.h _ _ q1))
  have hb4 : BenchIn cBench G4 (upd H4 a (.ins cBench dx (bF b.loaded v vm b.horizon vt vpp))) a { b with board := Mir.changedBoard b.board c.1 c.2 } := ⟨dx, v, vm, vt, vpp, upd_same, hv, (rL rPair).m w4.g q3, (rL rPair).m w4.g q4, (rL rInt).m w4.g q5⟩
  have h_wbn4 : Mir.Wbn 20000 { b with board := Mir.changedBoard b.board c.1 c.2 } := ⟨h_wbn.h, h_wbn.p, h_wbn.t, fun _ => ⟨Mir.wb_changed h_wb hc0 hc1, Mir.wm_changed (h_wbn.l h_ld).2⟩⟩
  have epos : Mir.position { b with board := Mir.changedBoard b.board c.1 c.2 } c.1 = Mir.position b c.1 := rfl
  have h_bench := hb4
  refine ws_ret m4.s (je_cat (xs := [c.2]) (ys := Mir.position b c.1) (je_lst (jl_cons (je_vI 4 rfl) jl_nil)) (JR.eq (je_call (ok_position T) (hr.mono (by decide)) (ja_cons (je_vN 0 rfl h_bench) (ja_cons (je_vI 3 rfl) ja_nil)) (fun _ _ wq => ⟨h_bench.gw wq, h_wbn4, h_ld⟩)) epos) (by show 1 + 2 ≤ _; omega)) fun v G9 H9 w9 hv => ?_
  refine hk v G9 H9 (m4.t (Mv.of w9)) ?_ (bench_keep w9 g4 hb4) ?_
  · show BenchIn cBench G9 H9 a (Mir.applyRepair b i).1
    rw [e0]
    exact hb4.gw w9
  · show (rL rInt).r G9 v (Mir.applyRepair b i).2
    rw [e0]
    exact hv
end
end Ck
end
section
set_option Elab.async false
set_option linter.all false
set_option maxRecDepth 100000
set_option maxHeartbeats 4000000
namespace Ck
open PySem PySem.Spec PyProof.Rows L2
open Mir (itm)
local macro_rules | `(tactic| walk_at "s") => `(tactic| first | assumption | omega | (simp only [onPre, List.length_map, List.length_drop, List.length_take, List.length_append, List.length_cons, List.length_nil, decide_eq_true_eq, decide_eq_false_iff_not, Bool.not_eq_false', Bool.not_eq_true', Bool.or_eq_false_iff] at *; omega))
local macro_rules | `(tactic| walk_at "b") => `(tactic| first | assumption | exact ⟨by assumption, by assumption⟩ | exact ⟨by omega, by omega⟩)
section
variable {X : Cx} {σ : L2.St} {G H : Hp} {e a b o value : Expr} {es : List Expr} {rest : List Stmt} {pos p2 : Pos} {D : Ends}
theorem we_make0 {name : Str} {C : Addr} {k : Nat} {sp : Sp} {p : Pos} {Q : VK} (F : CalI X.prog X.w X.K X.mg X.base C k sp) (hr : Room (k + 1) X.A) (hm : X.mg name = some (.ref C)) (h : ∀ x dx, H x = none → H dx = none → dx ≠ x →
      sp [.ref x] (upd (upd H dx (.own x)) x (.ins C dx [])) (fun v H2 => v = .non ∧ Q (.ref x) H2) E0) (hg : Gl X name := by rfl) (hdb : (name == ("__debug__" : Str)) = false := by decide) : WE X (.Call (.Name name p) [] [] pos) σ H Q := by
  obtain ⟨f, fd, ps, F, hmk, hb⟩ := F
  exact WE.of (pe_make0 hmk F hr hg hm hb .nil pass0 hdb) h
/-- a, b = e, e with deeds -/
theorem ws_un2W (i1 i2 : Nat) {n1 n2 : Str} {p1 p2 pt : Pos} {kt : Nat} (hc : X.calm = true) (hN : X.N.Nodup) (h : WE X e σ H fun v H1 => ∃ p u t, v = .ref p ∧ H1 p = some (.tup [u, t]) ∧ WSs X rest D ((σ.set i1 (some u)).set i2 (some t)) H1)
    (h1 : X.N[i1]? = some n1 := by rfl) (h2 : X.N[i2]? = some n2 := by rfl) (hx1 : Loc X.env.scope n1 := by first | exact Or.inl rfl | exact Or.inr rfl) (hx2 : Loc X.env.scope n2 := by first | exact Or.inl rfl | exact Or.inr rfl)
    (hs : swapsWithSole [.Tuple [.Name n1 p1, .Name n2 p2] kt pt] e pos.line X.env = pure false := by rfl) (hw : swappedStores [.Tuple [.Name n1 p1, .Name n2 p2] kt pt] e X.env = pure none := by rfl)
    (h0 : (assignEach [.Tuple [.Name n1 p1, .Name n2 p2] kt pt] X.env).map (·.2) = [assign (.Tuple [.Name n1 p1, .Name n2 p2] kt pt) X.env] := by rfl)
    (hn : (assignEach [.Name n1 p1, .Name n2 p2] X.env).length = 2 := by rfl) (hst : (assignEach [.Name n1 p1, .Name n2 p2] X.env).findIdx? (·.1) = none := by rfl)
    (hc1 : (assignEach (.Name n1 p1 :: [.Name n2 p2]) X.env).map (·.2) = assign (.Name n1 p1) X.env :: (assignEach [.Name n2 p2] X.env).map (·.2) := by rfl) (hc2 : (assignEach (.Name n2 p2 :: []) X.env).map (·.2) = assign (.Name n2 p2) X.env :: (assignEach [] X.env).map (·.2) := by rfl)
    (hf1 : X.fn n1 = true ∨ X.env.scope.names.lookup n1 = some .local := by first | exact .inl rfl | exact .inr rfl) (hf2 : X.fn n2 = true ∨ X.env.scope.names.lookup n2 = some .local := by first | exact .inl rfl | exact .inr rfl) :
    WSs X (.Assign [.Tuple [.Name n1 p1, .Name n2 p2] kt pt] e pos :: rest) D σ H := by
  refine WSs.cons (ps_asg pe_w (pg_tup hc (pgs_cons (pg_name hN h1 hx1 hf1) (pgs_cons (pg_name hN h2 hx2 hf2) pgs_nil hc2) hc1) hn hst) hs hw h0) ?_
  intro pins s I
  exact thn (h pins s I) fun r s' ⟨v, H1, I1, rv, p, u, t, ev, hp, q⟩ => ⟨v, H1, I1, rv, p, [u, t], ev, SqT.of hp, rfl, _, _, rfl, _, _, rfl, rfl, q⟩
end
/-- a new bench -/
def BenchI (C : Addr) : Sp := fun vs H Q _ => ∃ G x dx, vs = [.ref x] ∧ Same G H ∧ H x = some (.ins C dx []) ∧ G x = none ∧
  ∀ G' H', Mv (fun a => a = x) G H G' H' → BenchIn C G' H' x Mir.newBench → G' x = none → Q .non H'
def BenchL (C : Addr) : Sp := fun vs H Q _ => ∃ G a b bd ms vb vm, vs = [.ref a, vb, vm] ∧ Same G H ∧ BenchIn C G H a b ∧ G a = none ∧ rBoard.r G vb bd ∧ (rL rPair).r G vm ms ∧
  ∀ G' H', Mv (fun y => y = a) G H G' H' → BenchIn C G' H' a ⟨true, bd, ms, 40, [], [46, 92, 47]⟩ → G' a = none → Q .non H'
section
variable {P : Program} {w : World} {K : PySem.W.Frag} {mg : Str → Option Value} {base : Heap} {cPart cDraft cRun cBench : Addr}
theorem ok_Bench (T : Top K mg cPart cDraft cRun cBench) : CalI P w K mg base cBench 1 (BenchI cBench) := by
  refine T.i_Bench.ok sc_Bench___init__ (fun vs H Q E ⟨G, x, dx, e, _⟩ => by rw [e]; rfl) fun f cdv Ar outer s H vs Q E hr ⟨G, x, dx, e, hs, hx, hg, hk⟩ => ?_
  subst e
  have st : ∀ {G0 H0 G1 H1 : Hp} {o o' : HO}, Mv (fun a => a = x) G H G0 H0 → G0 x = none → H0 x = some o → Gw G0 H0 G1 H1 → Mv (fun a => a = x) G H G1 (upd H1 x o') ∧ G1 x = none := fun m g h w => ⟨(m.t (Mv.of w)).t (Mv.upd w.s rfl (w.out g h) (w.h _ _ h)), w.out g h⟩
  have m0 : Mv (fun a => a = x) G H G H := Mv.of (Gw.refl hs)
  refine ws_fld hs (je_bl (i := false)) (fun H1 w1 => je_vO 0 rfl) hx T.k_Bench T.f_Bench_is_loaded (of_decide_eq_true rfl) (fun v1 G1 H1 w1 hv1 => ?_)
  cases (show v1 = .bl false from hv1)
  obtain ⟨m1, g1⟩ := st (o' := .ins cBench dx (putF "is_loaded" (.bl false) [])) m0 hg hx w1
  refine ws_fld m1.s (je_t3 je_int je_int (je_lst (R := rCell) jl_nil)) (fun H1 w1 => je_vO 0 rfl) upd_same T.k_Bench T.f_Bench_board (of_decide_eq_true rfl) (fun v2 G2 H2 w2 hv2 => ?_)
  obtain ⟨m2, g2⟩ := st (o' := .ins cBench dx (putF "board" v2 (putF "is_loaded" (.bl false) []))) m1 g1 upd_same w2
  have hv2 : rBoard.r G2 v2 (0, 0, []) := hv2
  refine ws_fld m2.s (je_lst (R := rPair) jl_nil) (fun H1 w1 => je_vO 0 rfl) upd_same T.k_Bench T.f_Bench_marbles (of_decide_eq_true rfl) (fun v3 G3 H3 w3 hv3 => ?_)
  obtain ⟨m3, g3⟩ := st (o' := .ins cBench dx (putF "marbles" v3 (putF "board" v2 (putF "is_loaded" (.bl false) [])))) m2 g2 upd_same w3
  refine ws_fld m3.s (je_gi T.c_MOST_TICKS) (fun H1 w1 => je_vO 0 rfl) upd_same T.k_Bench T.f_Bench_horizon (of_decide_eq_true rfl) (fun v4 G4 H4 w4 hv4 => ?_)
  cases (show v4 = .int 40 from hv4)
  obtain ⟨m4, g4⟩ := st (o' := .ins cBench dx (putF "horizon" (.int 40) (putF "marbles" v3 (putF "board" v2 (putF "is_loaded" (.bl false) []))))) m3 g3 upd_same w4
  refine ws_fld m4.s (je_lst (R := rPair) jl_nil) (fun H1 w1 => je_vO 0 rfl) upd_same T.k_Bench T.f_Bench_target (of_decide_eq_true rfl) (fun v5 G5 H5 w5 hv5 => ?_)
  obtain ⟨m5, g5⟩ := st (o' := .ins cBench dx (putF "target" v5 (putF "horizon" (.int 40) (putF "marbles" v3 (putF "board" v2 (putF "is_loaded" (.bl false) [])))))) m4 g4 upd_same w5
  refine ws_fld m5.s (je_lst (jl_cons (je_gi T.c_AIR) (jl_cons (je_gi T.c_SLOPE_RIGHT) (jl_cons (je_gi T.c_SLOPE_LEFT) jl_nil)))) (fun H1 w1 => je_vO 0 rfl) upd_same T.k_Bench T.f_Bench_palette (of_decide_eq_true rfl) (fun v6 G6 H6 w6 hv6 => ?_)
  obtain ⟨m6, g6⟩ := st (o' := .ins cBench dx (bF false v2 v3 40 v5 v6)) m5 g5 upd_same w6
  exact ws_nil (hk G6 _ m6 ⟨dx, v2, v3, v5, v6, upd_same, rBoard.m (((w3.g.trans w4.g).trans w5.g).trans w6.g) hv2, (rL rPair).m ((w4.g.trans w5.g).trans w6.g) hv3, (rL rPair).m w6.g hv5, hv6⟩ g6)
theorem ok_bench_load (T : Top K mg cPart cDraft cRun cBench) : CalM P w K mg base cBench "load" 1 (BenchL cBench) := by
  refine T.m_Bench_load.ok sc_Bench_load (fun vs H Q E ⟨G, a, b, bd, ms, vb, vm, e, _⟩ => by rw [e]; rfl) fun f cdv Ar outer s H vs Q E hr ⟨G, x, b, bd, ms, vb, vm, e, hs, h_self, hg, h_board, h_marbles, hk⟩ => ?_
  subst e
  have st : ∀ {G0 H0 G1 H1 : Hp} {o o' : HO}, Mv (fun a => a = x) G H G0 H0 → G0 x = none → H0 x = some o → Gw G0 H0 G1 H1 → Mv (fun a => a = x) G H G1 (upd H1 x o') ∧ G1 x = none := fun m g h w => ⟨(m.t (Mv.of w)).t (Mv.upd w.s rfl (w.out g h) (w.h _ _ h)), w.out g h⟩
  have m0 : Mv (fun a => a = x) G H G H := Mv.of (Gw.refl hs)
  obtain ⟨dx, vb0, vm0, vt0, vp0, q1, q2, q3, q4, q5⟩ := h_self
  refine ws_fld hs (je_bl (i := true)) (fun H1 w1 => je_vO 0 rfl) q1 T.k_Bench T.f_Bench_is_loaded (of_decide_eq_true rfl) (fun v1 G1 H1 w1 hv1 => ?_)
  cases (show v1 = .bl true from hv1)
  obtain ⟨m1, g1⟩ := st (o' := .ins cBench dx (putF "is_loaded" (.bl true) (bF b.loaded vb0 vm0 b.horizon vt0 vp0))) m0 hg q1 w1
  refine ws_fld m1.s (je_vO (z := vb) 1 rfl) (fun H1 w1 => je_vO 0 rfl) upd_same T.k_Bench T.f_Bench_board (of_decide_eq_true rfl) (fun v2 G2 H2 w2 hv2 => ?_)
  cases (show v2 = vb from hv2)
  obtain ⟨m2, g2⟩ := st (o' := .ins cBench dx (putF "board" vb (putF "is_loaded" (.bl true) (bF b.loaded vb0 vm0 b.horizon vt0 vp0)))) m1 g1 upd_same w2
  refine ws_fld m2.s (je_vO (z := vm) 2 rfl) (fun H1 w1 => je_vO 0 rfl) upd_same T.k_Bench T.f_Bench_marbles (of_decide_eq_true rfl) (fun v3 G3 H3 w3 hv3 => ?_)
  cases (show v3 = vm from hv3)
  obtain ⟨m3, g3⟩ := st (o' := .ins cBench dx (putF "marbles" vm (putF "board" vb (putF "is_loaded" (.bl true) (bF b.loaded vb0 vm0 b.horizon vt0 vp0))))) m2 g2 upd_same w3
  refine ws_fld m3.s (je_gi T.c_MOST_TICKS) (fun H1 w1 => je_vO 0 rfl) upd_same T.k_Bench T.f_Bench_horizon (of_decide_eq_true rfl) (fun v4 G4 H4 w4 hv4 => ?_)
  cases (show v4 = .int 40 from hv4)
  obtain ⟨m4, g4⟩ := st (o' := .ins cBench dx (putF "horizon" (.int 40) (putF "marbles" vm (putF "board" vb (putF "is_loaded" (.bl true) (bF b.loaded vb0 vm0 b.horizon vt0 vp0)))))) m3 g3 upd_same w4
  refine ws_fld m4.s (je_lst (R := rPair) jl_nil) (fun H1 w1 => je_vO 0 rfl) upd_same T.k_Bench T.f_Bench_target (of_decide_eq_true rfl) (fun v5 G5 H5 w5 hv5 => ?_)
  obtain ⟨m5, g5⟩ := st (o' := .ins cBench dx (putF "target" v5 (putF "horizon" (.int 40) (putF "marbles" vm (putF "board" vb (putF "is_loaded" (.bl true) (bF b.loaded vb0 vm0 b.horizon vt0 vp0))))))) m4 g4 upd_same w5
  refine ws_fld m5.s (je_lst (jl_cons (je_gi T.c_AIR) (jl_cons (je_gi T.c_SLOPE_RIGHT) (jl_cons (je_gi T.c_SLOPE_LEFT) jl_nil)))) (fun H1 w1 => je_vO 0 rfl) upd_same T.k_Bench T.f_Bench_palette (of_decide_eq_true rfl) (fun v6 G6 H6 w6 hv6 => ?_)
  obtain ⟨m6, g6⟩ := st (o' := .ins cBench dx (bF true vb vm 40 v5 v6)) m5 g5 upd_same w6
  exact ws_nil (hk G6 _ m6 ⟨dx, vb, vm, v5, v6, upd_same, rBoard.m m6.g h_board, (rL rPair).m m6.g h_marbles, (rL rPair).m w6.g hv5, hv6⟩ g6)
theorem ok_load (T : Top K mg cPart cDraft cRun cBench) : Cal P w K mg base "load" 9 (CtB cBench (a2 (rO Mir.BenchS) (rL rInt)) (fun x => x.1.1) (fun G H x => BenchIn cBench G H x.1.1 x.1.2 ∧ x.2.1.length ≤ 20000) (rL rInt) fun x => Mir.load x.1.2 x.2.1) := by
  refine T.d_load.ok sc_load (fun vs H Q E ⟨G, x, _, h, _⟩ => (AR.len _ h)) fun f cdv Ar outer s H vs Q E hr ⟨G, x, hs, ha, hp, hg, hk⟩ => ?_
  obtain ⟨⟨a, b⟩, t, _⟩ := x
  obtain ⟨_, _, rfl, rfl, vt, _, rfl, h_text, rfl⟩ := ha
  obtain ⟨h_bench, h_len⟩ := hp
  dsimp only at h_bench h_len h_text hg
  have nd := sc_load.nd
  have ret : ∀ (G1 H1 : Hp) (v : V) (l : List Int), Gw G H G1 H1 → Mir.load b t = (b, l) → (rL rInt).r G1 v l → Q v H1 := fun G1 H1 v n w1 e hv => by
    refine hk v G1 H1 (Mv.of w1) ?_ (bench_keep w1 hg h_bench) ?_
    · show BenchIn cBench G1 H1 a (Mir.load b t).1
      rw [e]
      exact h_bench.gw w1
    · show (rL rInt).r G1 v (Mir.load b t).2
      rw [e]
      exact hv
  refine ws_when hs (jt_w (jw_or (jt_c (jc_gt (je_len rfl T.b_len (JR.q (je_v 1 rfl h_text))) (je_gi T.c_MOST_BYTES))) fun hsc => (jw_or1 (jt_not (jt_v (je_all rfl T.b_all rfl (JR.q (je_lcM 6 (f := Mir.isTextByte) rfl nd (JR.q (je_v 1 rfl h_text)) (blkOk_by (N := n_load) (sc := defScope s_load) (by decide +kernel)) (by walk_at "s") (fun i x v G3 H3 hx w3 hv s Hb C cl fp => by cases (show v = .int x from hv); exact JR.eq (je_call (ok_is_text_byte T) (hr.mono (by decide)) (ja_cons (je_vI 6 rfl) ja_nil) (fun _ _ _ => trivial)) rfl))))))))) (fun hb H1 w1 => ?_) (fun hb H1 w1 => ?_)
  · have hb : (decide (4000 < (t.length : Int)) || !(t.map Mir.isTextByte).all id) = true := hb
    exact ws_ret w1.s (je_lst (jl_cons (je_gi T.c_OUT_OF_RANGE) jl_nil)) fun v G' H' w8 hv => ret G' H' v [-2] (w1.t w8) (by unfold Mir.load; exact if_pos hb) hv
  have hb : (decide (4000 < (t.length : Int)) || !(t.map Mir.isTextByte).all id) = false := hb
  have h4000 : t.length ≤ 4000 := by
    simp only [Bool.or_eq_false_iff, decide_eq_false_iff_not] at hb
    omega
  have e0 : Mir.load b t = (let z := Mir.readText ⟨[], [], []⟩ t
    if !decide (z.2.2 = 0) then (b, [-(100 * z.2.1 + z.2.2 + 10)])
    else
      let p := itm Mir.airP z.1.parts ((z.1.parts.length : Int) - 1)
      if decide (36 < p.w * p.h) then (b, [-4])
      else (⟨true, (p.w, p.h, p.cells), z.1.marbles, 40, [], [46, 92, 47]⟩, [p.w, p.h, (z.1.marbles.length : Int)])) := by
    unfold Mir.load
    exact if_neg (bno hb)
  refine ws_setW 2 (we_make0 (ok_Draft T) (hr.mono (by decide)) T.g_Draft fun x dx fx fd hne => ?_) nd
  have m1 := Gw.mut (o := .own x) w1.s fd
  have fx2 : upd H1 dx (.own x) x = none := by
    rw [upd_ne hne.symm]
    exact fx
  have m2 := Gw.mut (o := .ins cDraft dx []) m1.s fx2
  have w2 := (w1.t m1).t m2
  have fxH : H x = none := w1.free fx
  refine ⟨G, x, dx, rfl, w2.s, upd_same, w1.s.free fx, fun G3 H3 A eA eB m3 h_draft => ⟨rfl, ?_⟩⟩
  subst eA
  have w3 := w2.mv m3 (fun y e => by
    have e : y = A.d := e
    rw [e]
    exact fxH)
  have own3 : ∀ y, A.F y → H y = none := fun y hy => by
    rcases hy with e | e
    · rw [e]
      exact fxH
    · rw [eB] at e
      cases e
  have h_text := (rL rInt).m w3.g h_text
  have hwd := Mir.readText_ok (t := t) Mir.new_ok
  have hpn := Mir.text_parts (t := t)
  refine ws_un2W 3 4 rfl nd (we_callD (ok_read_text T) (hr.mono (by decide)) w3.s (x := ((A, ⟨[], [], []⟩), t, ())) (ja_cons (je_vD 2 rfl h_draft) (ja_cons (je_v 1 rfl h_text) ja_nil)) (fun _ _ wq => ⟨h_draft.gw wq, Mir.new_ok, h4000⟩) fun v G4 H4 A' e1 e2 m4 hd4 hv4 => ?_)
  have hd4 : DraftAt cPart cDraft G4 H4 A' (Mir.readText ⟨[], [], []⟩ t).1 := hd4
  have hv4 : rPair.r G4 v (Mir.readText ⟨[], [], []⟩ t).2 := hv4
  have e1 : A'.d = A.d := e1
  have m4 : Mv A.F G3 H3 G4 H4 := m4
  generalize Mir.readText ⟨[], [], []⟩ t = z at *
  obtain ⟨dz, ln, cd⟩ := z
  dsimp only at hd4 hv4 e0 hwd hpn
  obtain ⟨tp, u1, u2, rfl, htp, r1, r2⟩ := hv4
  cases (show u1 = .int ln from r1)
  cases (show u2 = .int cd from r2)
  refine ⟨tp, _, _, rfl, m4.s _ _ htp, ?_⟩
  have w4 := w3.mv m4 own3
  refine ws_when w4.s (jt_c (jc_neI (je_vI 4 rfl) je_int)) (fun hb4 H5 w5 => ?_) (fun hb4 H5 w5 => ?_)
  · have hb4 : (!decide (cd = 0)) = true := hb4
    exact ws_ret w5.s (je_lst (jl_cons (je_neg (je_add (je_add (je_mul je_int (je_vI 3 rfl) (by walk_at "s")) (je_vI 4 rfl)) je_int)) jl_nil)) fun v G' H' w8 hv => ret G' H' v [-(100 * ln + cd + 10)] ((w4.t w5).t w8) (by rw [e0, if_pos hb4]) hv
  have hb4 : (!decide (cd = 0)) = false := hb4
  rw [if_neg (bno hb4)] at e0
  have hcd : cd = 0 := by simpa using hb4
  have hpn := hpn hcd
  have h_draft := hd4.gw w5
  have w5 := w4.t w5
  have hpl : 1 ≤ dz.parts.length := by omega
  have edr : (V.ref A.d) = V.ref A'.d := by rw [e1]
  rw [edr]
  refine ws_set 5 w5.s (je_ix (d := Mir.airP) (JR.q (je_draft_parts T h_draft (je_vO 2 rfl))) (je_sub (je_len rfl T.b_len (JR.q (je_draft_parts T h_draft (je_vO 2 rfl)))) je_int) (by omega) (by omega)) (fun v5 G6 H6 w6 hv5 => ?_) nd
  have hv5 : (rPart cPart).r G6 v5 (itm Mir.airP dz.parts ((dz.parts.length : Int) - 1)) := hv5
  have hwq := hwd.ps _ (Mir.last_mem hpn)
  generalize itm Mir.airP dz.parts ((dz.parts.length : Int) - 1) = p at *
  obtain ⟨pa, rfl, hpa⟩ := hv5
  have h_part : PartIn cPart G6 H6 pa p := hpa.mono (Same.refl _) w6.s
  have h_draft := h_draft.gw w6
  have w6 := w5.t w6
  have hpw := hwq.p.w
  have hph := hwq.p.h
  refine ws_when w6.s (jt_c (jc_gt (je_mul (je_part_width T h_part (je_vO 5 rfl)) (je_part_height T h_part (je_vO 5 rfl)) (by walk_at "s")) (je_gi T.c_MOST_CELLS))) (fun hb7 H7 w7 => ?_) (fun hb7 H7 w7 => ?_)
  · have hb7 : decide (36 < p.w * p.h) = true := hb7
    exact ws_ret w7.s (je_lst (jl_cons (je_gi T.c_TOO_MUCH) jl_nil)) fun v G' H' w8 hv => ret G' H' v [-4] ((w6.t w7).t w8) (by rw [e0, if_pos hb7]) hv
  have hb7 : decide (36 < p.w * p.h) = false := hb7
  rw [if_neg (bno hb7)] at e0
  have h_part := h_part.gw w7
  have h_draft := h_draft.gw w7
  have w7 := w6.t w7
  have h_bench7 := h_bench.gw w7
  have g7 := bench_keep w7 hg h_bench
  obtain ⟨dxb, vb0, vm0, vt0, vp0, q1, q2, q3, q4, q5⟩ := h_bench7
  refine ws_do (we_meth (ok_bench_load T) (hr.mono (by decide)) T.k_Bench w7.s (je_vO 0 rfl) q1 rfl (fun H8 w8 => ?_))
  have h_part := h_part.gw w8
  have h_draft := h_draft.gw w8
  refine JA.mono (A := a2 rBoard (rL rPair)) (x := ((p.w, p.h, p.cells), dz.marbles, ())) (ja_cons (je_t3 (je_part_width T h_part (je_vO 5 rfl)) (je_part_height T h_part (je_vO 5 rfl)) (je_part_cells T h_part (je_vO 5 rfl))) (ja_cons (je_draft_marbles T h_draft (je_vO 2 rfl)) ja_nil)) (Gw.refl w8.s) G6 H8 (Gw.refl w8.s) _ fun vs G9 H9 w9 hv => ?_
  obtain ⟨vb, _, rfl, hvb, vm, _, rfl, hvm, rfl⟩ := hv
  have h_bench9 := h_bench.gw ((w7.t w8).t w9)
  have g9 := bench_keep ((w7.t w8).t w9) hg h_bench
  refine ⟨G9, a, b, (p.w, p.h, p.cells), dz.marbles, vb, vm, rfl, w9.s, h_bench9, g9, hvb, hvm, fun G10 H10 m10 hb10 hg10 => ?_⟩
  have h_part := h_part.gw w9
  have h_draft := h_draft.gw w9
  have nb : ¬ pa = a := fun e => by
    obtain ⟨_, _, _, hq, _⟩ := h_part
    obtain ⟨_, _, _, _, _, hq2, _⟩ := h_bench9
    rw [e, hq2] at hq
    injection hq with hq
    injection hq with e1 e2 e3
    exact absurd (congrArg List.length e3) (show ¬ (6 = 5) by decide)
  have h_part : PartIn cPart G10 H10 pa p := by
    obtain ⟨dx', vn, vc, z1, z2, z3⟩ := h_part
    exact ⟨dx', vn, vc, m10.h _ _ nb z1, (rL rInt).m m10.g z2, (rL rCell).m m10.g z3⟩
  have ndr : ∀ y, A'.F y → ¬ y = a := fun y hy e => by
    obtain ⟨oo, ho⟩ := h_draft.there y hy
    have gy := h_draft.gn y hy
    rcases hy with e3 | e3
    · have hq := h_draft.o
      rw [← e3, e] at hq
      obtain ⟨_, _, _, _, _, hq2, _⟩ := h_bench9
      rw [hq2] at hq
      injection hq with hq
      injection hq with e1 e2 e3
      exact absurd (congrArg List.length e3) (show ¬ (6 = 3) by decide)
    · obtain ⟨i, hi⟩ := List.mem_iff_getElem?.mp e3
      obtain ⟨p', _, dx', vn, vc, hq, _⟩ := Paired.get' h_draft.bs hi
      rw [e] at hq
      obtain ⟨_, _, _, _, _, hq2, _⟩ := h_bench9
      rw [hq2] at hq
      injection hq with hq
      injection hq with e1 e2 e3
      exact absurd (congrArg List.length e3) (show ¬ (6 = 5) by decide)
  have h_draft := h_draft.mv m10 ndr
  refine ws_ret m10.s (je_lst (jl_cons (je_part_width T h_part (je_vO 5 rfl)) (jl_cons (je_part_height T h_part (je_vO 5 rfl)) (jl_cons (je_len rfl T.b_len (JR.q (je_draft_marbles T h_draft (je_vO 2 rfl)))) jl_nil)))) fun v G11 H11 w11 hv => ?_
  refine hk v G11 H11 (((Mv.of ((w7.t w8).t w9)).t m10).t (Mv.of w11)) ?_ (bench_keep w11 hg10 hb10) ?_
  · show BenchIn cBench G11 H11 a (Mir.load b t).1
    rw [e0]
    exact hb10.gw w11
  · show (rL rInt).r G11 v (Mir.load b t).2
    rw [e0]
    exact hv
end
end Ck
end
section
set_option Elab.async false
set_option linter.all false
set_option maxRecDepth 100000
set_option maxHeartbeats 4000000
namespace Ck
open PySem PySem.Spec PyProof.Rows L2
open Mir (itm)
local macro_rules | `(tactic| walk_at "s") => `(tactic| first | assumption | omega | (simp only [onPre, List.length_map, List.length_drop, List.length_take, List.length_append, List.length_cons, List.length_nil, decide_eq_true_eq, decide_eq_false_iff_not, Bool.not_eq_false', Bool.not_eq_true', Bool.or_eq_false_iff] at *; omega))
local macro_rules | `(tactic| walk_at "b") => `(tactic| first | assumption | exact ⟨by assumption, by assumption⟩ | exact ⟨by omega, by omega⟩)
section
variable {P : Program} {w : World} {K : PySem.W.Frag} {mg : Str → Option Value} {base : Heap} {cPart cDraft cRun cBench : Addr}
theorem ok_set_or_tell (T : Top K mg cPart cDraft cRun cBench) : Cal P w K mg base "set_or_tell" 11 (CtB cBench (a3 (rO Mir.BenchS) rInt (rL rInt)) (fun x => x.1.1) (fun G H x => BnP cBench G H x ∧ Mir.Ar x.2.1 x.2.2.1 ∧ x.2.2.1.length ≤ 20000) (rL rInt) fun x => Mir.setOrTell x.1.2 x.2.1 x.2.2.1) := by
  refine T.d_set_or_tell.ok sc_set_or_tell (fun vs H Q E ⟨G, x, _, h, _⟩ => (AR.len _ h)) fun f cdv Ar outer s H vs Q E hr ⟨G, x, hs, ha, hp, hg, hk⟩ => ?_
  obtain ⟨⟨a, b⟩, n, ns, _⟩ := x
  obtain ⟨_, _, rfl, rfl, _, _, rfl, rfl, vn, _, rfl, h_numbers, rfl⟩ := ha
  obtain ⟨⟨h_bench, h_wbn, h_ld⟩, h_ar, h_len⟩ := hp
  dsimp only at h_bench h_wbn h_ld h_ar h_len h_numbers hg
  have h_tl := h_wbn.t
  have pas : ∀ {G1 H1 : Hp} {z : Mir.BenchS × List Int}, Gw G H G1 H1 → Mir.setOrTell b n ns = z → ∀ (v : V) (G' H' : Hp), Mv (fun y => y = a) G1 H1 G' H' → BenchIn cBench G' H' a z.1 → G' a = none → (rL rInt).r G' v z.2 → Q v H' := fun w1 e v G' H' m hb hg2 hv => by
    subst e
    exact hk v G' H' ((Mv.of w1).t m) hb hg2 hv
  have rd : ∀ {G1 H1 : Hp} {l : List Int}, Gw G H G1 H1 → Mir.setOrTell b n ns = (b, l) → ∀ (v : V) (G' H' : Hp), Gw G1 H1 G' H' → (rL rInt).r G' v l → Q v H' := fun w1 e v G' H' w2 hv => pas w1 e v G' H' (Mv.of w2) (h_bench.gw (w1.t w2)) (bench_keep (w1.t w2) hg h_bench) hv
  have e0 : Mir.setOrTell b n ns = (if decide (n = 2) then Mir.setPalette b ns
    else if decide (n = 3) then Mir.setHorizon b (itm 0 ns 0)
    else if decide (n = 4) then Mir.wantRing b (itm 0 ns 0) (itm 0 ns 1)
    else if decide (n = 5) then Mir.clearTarget b
    else (b, if decide (n = 6) then Mir.ringing b else Mir.meetsTarget b)) := rfl
  have h_bench0 := h_bench
  have kp : ∀ {G1 H1 : Hp}, Gw G H G1 H1 → G1 a = none := fun w1 => bench_keep w1 hg h_bench0
  refine ws_when hs (jt_c (jc_eqI (je_vI 1 rfl) je_int)) (fun hb H1 w1 => ?_) (fun hb H1 w1 => ?_)
  · have hb : decide (n = 2) = true := hb
    rw [if_pos hb] at e0
    have h_bench := h_bench.gw w1
    exact ws_retW (we_callB (ok_set_palette T) (hr.mono (by decide)) w1.s (ja_cons (je_vN 0 rfl h_bench) (ja_cons (je_v 2 rfl h_numbers) ja_nil)) (fun _ _ wq => ⟨h_bench.gw wq, h_len⟩) (fun _ _ wq => kp (w1.t wq)) (pas w1 e0))
  have hb : decide (n = 2) = false := hb
  rw [if_neg (bno hb)] at e0
  have h_bench := h_bench.gw w1
  refine ws_when w1.s (jt_c (jc_eqI (je_vI 1 rfl) je_int)) (fun hb H2 w2 => ?_) (fun hb H2 w2 => ?_)
  · have hb : decide (n = 3) = true := hb
    rw [if_pos hb] at e0
    have hl := h_ar.1 (of_decide_eq_true hb)
    have h_bench := h_bench.gw w2
    have w2 := w1.t w2
    exact ws_retW (we_callB (ok_set_horizon T) (hr.mono (by decide)) w2.s (ja_cons (je_vN 0 rfl h_bench) (ja_cons (je_ix (d := 0) (JR.q (je_v 2 rfl h_numbers)) je_int (by walk_at "s") (by walk_at "s")) ja_nil)) (fun _ _ wq => h_bench.gw wq) (fun _ _ wq => kp (w2.t wq)) (pas w2 e0))
  have hb : decide (n = 3) = false := hb
  rw [if_neg (bno hb)] at e0
  have h_bench := h_bench.gw w2
  have w2 := w1.t w2
  refine ws_when w2.s (jt_c (jc_eqI (je_vI 1 rfl) je_int)) (fun hb H3 w3 => ?_) (fun hb H3 w3 => ?_)
  · have hb : decide (n = 4) = true := hb
    rw [if_pos hb] at e0
    have hl := h_ar.2.1 (of_decide_eq_true hb)
    have h_bench := h_bench.gw w3
    have w3 := w2.t w3
    exact ws_retW (we_callB (ok_want_ring T) (hr.mono (by decide)) w3.s (ja_cons (je_vN 0 rfl h_bench) (ja_cons (je_ix (d := 0) (JR.q (je_v 2 rfl h_numbers)) je_int (by walk_at "s") (by walk_at "s")) (ja_cons (je_ix (d := 0) (JR.q (je_v 2 rfl h_numbers)) je_int (by walk_at "s") (by walk_at "s")) ja_nil))) (fun _ _ wq => ⟨h_bench.gw wq, h_tl⟩) (fun _ _ wq => kp (w3.t wq)) (pas w3 e0))
  have hb : decide (n = 4) = false := hb
  rw [if_neg (bno hb)] at e0
  have h_bench := h_bench.gw w3
  have w3 := w2.t w3
  refine ws_when w3.s (jt_c (jc_eqI (je_vI 1 rfl) je_int)) (fun hb H4 w4 => ?_) (fun hb H4 w4 => ?_)
  · have hb : decide (n = 5) = true := hb
    rw [if_pos hb] at e0
    have h_bench := h_bench.gw w4
    have w4 := w3.t w4
    exact ws_retW (we_callB (ok_clear_target T) (hr.mono (by decide)) w4.s (ja_cons (je_vN 0 rfl h_bench) ja_nil) (fun _ _ wq => h_bench.gw wq) (fun _ _ wq => kp (w4.t wq)) (pas w4 e0))
  have hb : decide (n = 5) = false := hb
  rw [if_neg (bno hb)] at e0
  have h_bench := h_bench.gw w4
  have w4 := w3.t w4
  exact ws_ret w4.s (JR.eq (x' := if decide (n = 6) then Mir.ringing b else Mir.meetsTarget b) (je_if (jt_c (jc_eqI (je_vI 1 rfl) je_int)) (fun hsc => (je_call (ok_ringing T) (hr.mono (by decide)) (ja_cons (je_vN 0 rfl h_bench) ja_nil) (fun _ _ wq => ⟨h_bench.gw wq, h_wbn, h_ld⟩))) (fun hsc => (je_call (ok_meets_target T) (hr.mono (by decide)) (ja_cons (je_vN 0 rfl h_bench) ja_nil) (fun _ _ wq => ⟨h_bench.gw wq, h_wbn, h_ld⟩)))) rfl) (rd w4 e0)
theorem ok_answered (T : Top K mg cPart cDraft cRun cBench) : Cal P w K mg base "answered" 13 (CtB cBench (a3 (rO Mir.BenchS) rInt (rL rInt)) (fun x => x.1.1) (fun G H x => BenchIn cBench G H x.1.1 x.1.2 ∧ Mir.Wbn 20000 x.1.2 ∧ Mir.Ar x.2.1 x.2.2.1 ∧ x.2.2.1.length ≤ 20000) (rL rInt) fun x => Mir.answered x.1.2 x.2.1 x.2.2.1) := by
  refine T.d_answered.ok sc_answered (fun vs H Q E ⟨G, x, _, h, _⟩ => (AR.len _ h)) fun f cdv Ar outer s H vs Q E hr ⟨G, x, hs, ha, hp, hg, hk⟩ => ?_
  obtain ⟨⟨a, b⟩, n, ns, _⟩ := x
  obtain ⟨_, _, rfl, rfl, _, _, rfl, rfl, vn, _, rfl, h_numbers, rfl⟩ := ha
  obtain ⟨h_bench, h_wbn, h_ar, h_len⟩ := hp
  dsimp only at h_bench h_wbn h_ar h_len h_numbers hg
  have pas : ∀ {G1 H1 : Hp} {z : Mir.BenchS × List Int}, Gw G H G1 H1 → Mir.answered b n ns = z → ∀ (v : V) (G' H' : Hp), Mv (fun y => y = a) G1 H1 G' H' → BenchIn cBench G' H' a z.1 → G' a = none → (rL rInt).r G' v z.2 → Q v H' := fun w1 e v G' H' m hb hg2 hv => by
    subst e
    exact hk v G' H' ((Mv.of w1).t m) hb hg2 hv
  have rd : ∀ {G1 H1 : Hp} {l : List Int}, Gw G H G1 H1 → Mir.answered b n ns = (b, l) → ∀ (v : V) (G' H' : Hp), Gw G1 H1 G' H' → (rL rInt).r G' v l → Q v H' := fun w1 e v G' H' w2 hv => pas w1 e v G' H' (Mv.of w2) (h_bench.gw (w1.t w2)) (bench_keep (w1.t w2) hg h_bench) hv
  have e0 : Mir.answered b n ns = (if decide (n = 1) then Mir.load b ns
    else if !b.loaded then (b, [-7])
    else if decide (n < 8) then Mir.setOrTell b n ns
    else if decide (n = 8) then (b, Mir.repairs b)
    else if decide (n = 9) then (b, Mir.idleCells b)
    else if decide (n = 10) then (b, Mir.countChanges b)
    else if decide (n = 11) then Mir.applyRepair b (itm 0 ns 0)
    else (b, if decide (n = 12) then Mir.tellBoard b else Mir.path b (itm 0 ns 0))) := rfl
  have h_bench0 := h_bench
  have kp : ∀ {G1 H1 : Hp}, Gw G H G1 H1 → G1 a = none := fun w1 => bench_keep w1 hg h_bench0
  refine ws_when hs (jt_c (jc_eqI (je_vI 1 rfl) je_int)) (fun hb H1 w1 => ?_) (fun hb H1 w1 => ?_)
  · have hb : decide (n = 1) = true := hb
    rw [if_pos hb] at e0
    have h_bench := h_bench.gw w1
    exact ws_retW (we_callB (ok_load T) (hr.mono (by decide)) w1.s (ja_cons (je_vN 0 rfl h_bench) (ja_cons (je_v 2 rfl h_numbers) ja_nil)) (fun _ _ wq => ⟨h_bench.gw wq, h_len⟩) (fun _ _ wq => kp (w1.t wq)) (pas w1 e0))
  have hb1 : decide (n = 1) = false := hb
  rw [if_neg (bno hb1)] at e0
  have h_bench := h_bench.gw w1
  refine ws_when w1.s (jt_not (jt_v (je_bench_is_loaded T h_bench (je_vO 0 rfl)))) (fun hb H2 w2 => ?_) (fun hb H2 w2 => ?_)
  · have hb : (!b.loaded) = true := hb
    rw [if_pos hb] at e0
    exact ws_ret w2.s (je_lst (jl_cons (je_gi T.c_NOT_LOADED) jl_nil)) (rd (w1.t w2) e0)
  have hb : (!b.loaded) = false := hb
  rw [if_neg (bno hb)] at e0
  have h_ld : b.loaded = true := by simpa using hb
  have h_bench := h_bench.gw w2
  have w2 := w1.t w2
  refine ws_when w2.s (jt_c (jc_lt (je_vI 1 rfl) je_int)) (fun hb H3 w3 => ?_) (fun hb H3 w3 => ?_)
  · have hb : decide (n < 8) = true := hb
    rw [if_pos hb] at e0
    have h_bench := h_bench.gw w3
    have w3 := w2.t w3
    exact ws_retW (we_callB (ok_set_or_tell T) (hr.mono (by decide)) w3.s (ja_cons (je_vN 0 rfl h_bench) (ja_cons (je_vI 1 rfl) (ja_cons (je_v 2 rfl h_numbers) ja_nil))) (fun _ _ wq => ⟨⟨h_bench.gw wq, h_wbn, h_ld⟩, h_ar, h_len⟩) (fun _ _ wq => kp (w3.t wq)) (pas w3 e0))
  have hb4 : decide (n < 8) = false := hb
  rw [if_neg (bno hb4)] at e0
  have h_bench := h_bench.gw w3
  have w3 := w2.t w3
  refine ws_when w3.s (jt_c (jc_eqI (je_vI 1 rfl) je_int)) (fun hb H4 w4 => ?_) (fun hb H4 w4 => ?_)
  · have hb : decide (n = 8) = true := hb
    rw [if_pos hb] at e0
    have h_bench := h_bench.gw w4
    exact ws_ret w4.s (JR.eq (x' := Mir.repairs b) (je_call (ok_repairs T) (hr.mono (by decide)) (ja_cons (je_vN 0 rfl h_bench) ja_nil) (fun _ _ wq => ⟨h_bench.gw wq, h_wbn, h_ld⟩)) rfl) (rd (w3.t w4) e0)
  have hb6 : decide (n = 8) = false := hb
  rw [if_neg (bno hb6)] at e0
  have h_bench := h_bench.gw w4
  have w4 := w3.t w4
  refine ws_when w4.s (jt_c (jc_eqI (je_vI 1 rfl) je_int)) (fun hb H5 w5 => ?_) (fun hb H5 w5 => ?_)
  · have hb : decide (n = 9) = true := hb
    rw [if_pos hb] at e0
    have h_bench := h_bench.gw w5
    exact ws_ret w5.s (JR.eq (x' := Mir.idleCells b) (je_call (ok_idle_cells T) (hr.mono (by decide)) (ja_cons (je_vN 0 rfl h_bench) ja_nil) (fun _ _ wq => ⟨h_bench.gw wq, h_wbn, h_ld⟩)) rfl) (rd (w4.t w5) e0)
  have hb8 : decide (n = 9) = false := hb
  rw [if_neg (bno hb8)] at e0
  have h_bench := h_bench.gw w5
  have w5 := w4.t w5
  refine ws_when w5.s (jt_c (jc_eqI (je_vI 1 rfl) je_int)) (fun hb H6 w6 => ?_) (fun hb H6 w6 => ?_)
  · have hb : decide (n = 10) = true := hb
    rw [if_pos hb] at e0
    have h_bench := h_bench.gw w6
    exact ws_ret w6.s (JR.eq (x' := Mir.countChanges b) (je_call (ok_count_changes T) (hr.mono (by decide)) (ja_cons (je_vN 0 rfl h_bench) ja_nil) (fun _ _ wq => ⟨h_bench.gw wq, h_wbn, h_ld⟩)) rfl) (rd (w5.t w6) e0)
  have hb10 : decide (n = 10) = false := hb
  rw [if_neg (bno hb10)] at e0
  have h_bench := h_bench.gw w6
  have w6 := w5.t w6
  refine ws_when w6.s (jt_c (jc_eqI (je_vI 1 rfl) je_int)) (fun hb H7 w7 => ?_) (fun hb H7 w7 => ?_)
  · have hb : decide (n = 11) = true := hb
    rw [if_pos hb] at e0
    have hl := h_ar.2.2.1 (of_decide_eq_true hb)
    have h_bench := h_bench.gw w7
    have w7 := w6.t w7
    exact ws_retW (we_callB (ok_apply_repair T) (hr.mono (by decide)) w7.s (ja_cons (je_vN 0 rfl h_bench) (ja_cons (je_ix (d := 0) (JR.q (je_v 2 rfl h_numbers)) je_int (by walk_at "s") (by walk_at "s")) ja_nil)) (fun _ _ wq => ⟨h_bench.gw wq, h_wbn, h_ld⟩) (fun _ _ wq => kp (w7.t wq)) (pas w7 e0))
  have hb12 : decide (n = 11) = false := hb
  rw [if_neg (bno hb12)] at e0
  have h_bench := h_bench.gw w7
  have w7 := w6.t w7
  have hlp : decide (n = 12) = false → 1 ≤ ns.length := fun h => by
    have h1 := of_decide_eq_false hb4
    have h2 := of_decide_eq_false hb6
    have h3 := of_decide_eq_false hb8
    have h4 := of_decide_eq_false hb10
    have h5 := of_decide_eq_false hb12
    have h6 := of_decide_eq_false h
    exact h_ar.2.2.2 (by omega)
  refine ws_ret w7.s (JR.eq (x' := if decide (n = 12) then Mir.tellBoard b else Mir.path b (itm 0 ns 0)) (je_if (jt_c (jc_eqI (je_vI 1 rfl) je_int)) (fun hsc => JR.eq (je_call (ok_tell_board T) (hr.mono (by decide)) (ja_cons (je_vN 0 rfl h_bench) ja_nil) (fun _ _ wq => ⟨h_bench.gw wq, h_wbn, h_ld⟩)) rfl) (fun hsc => ?_)) rfl) (rd w7 e0)
  have hl := hlp hsc
  exact JR.eq (je_call (ok_path T) (hr.mono (by decide)) (ja_cons (je_vN 0 rfl h_bench) (ja_cons (je_ix (d := 0) (JR.q (je_v 2 rfl h_numbers)) je_int (by walk_at "s") (by walk_at "s")) ja_nil)) (fun _ _ wq => ⟨h_bench.gw wq, h_wbn, h_ld⟩)) rfl
end
end Ck
end
section
set_option Elab.async false
set_option linter.all false
set_option maxRecDepth 100000
set_option maxHeartbeats 4000000
namespace Ck
open PySem PySem.Spec PyProof.Rows L2
open Mir (itm)
local macro_rules | `(tactic| walk_at "s") => `(tactic| first | assumption | omega | (simp only [onPre, List.length_map, List.length_drop, List.length_take, List.length_append, List.length_cons, List.length_nil, decide_eq_true_eq, decide_eq_false_iff_not, Bool.not_eq_false', Bool.not_eq_true', Bool.or_eq_false_iff] at *; omega))
section
variable {P : Program} {w : World} {K : PySem.W.Frag} {mg : Str → Option Value} {base : Heap} {cPart cDraft cRun cBench : Addr}
theorem ok_split_calls (T : Top K mg cPart cDraft cRun cBench) : Cal P w K mg base "split_calls" 1 (Ct (a1 (rQ K rInt)) (onPre fun x => x.1.length ≤ 20000 ∧ Mir.segs x.1.length x.1 0 = true) (rL (rT2 rInt (rL rInt))) fun x => Mir.splitCalls x.1.length x.1 0 []) := by
  refine T.d_split_calls.ct sc_split_calls rfl fun f cdv Ar outer s G H vs x Q E hr hs ha hp hk => ?_
  obtain ⟨cs, _⟩ := x
  obtain ⟨vc, _, rfl, h_calls, rfl⟩ := ha
  obtain ⟨h_len, h_segs⟩ := hp
  dsimp only at h_calls h_len h_segs
  have nd := sc_split_calls.nd
  refine ws_newL 1 (fun pf hf => ?_) nd
  have g0 := hs.free hf
  have w1 := Gw.mut (o := .lst []) hs hf
  refine ws_setI 2 w1.s je_int (fun H2 w2 => ?_) nd
  have w2' := w1.t w2
  refine WSs.cons (ps_while PassesOwn.never pt_w pss_w) ⟨fun m σ' H' => ∃ (G' : Hp) (a : Int) (acc : List (Int × List Int)) (us : List V) (u : Option V), σ' = [some vc, some (.ref pf), some (.int a), u] ∧ Gw G H G' H' ∧ G' pf = none ∧ H' pf = some (.lst us) ∧ Paired ((rT2 rInt (rL rInt)).r G') us acc ∧ 0 ≤ a ∧ acc.length + m ≤ 20000 ∧ Mir.segs m cs a = true ∧ Mir.splitCalls cs.length cs 0 [] = Mir.splitCalls m cs a acc,
    ⟨cs.length, G, 0, [], [], none, rfl, w2', g0, w2.h _ _ upd_same, .nil, by omega, by simp; omega, h_segs, rfl⟩, ?_⟩
  rintro m σ' H' ⟨G', a, acc, us, u, rfl, w', gf, hvf, hp, ha0, hm, hsg, esp⟩
  have h_calls := (rQ K rInt).m w'.g h_calls
  have h_calls : (rQ (cxOf CX0 P w K mg base n_split_calls "split_calls" (defScope s_split_calls) f cdv Ar outer s H E).nox.K rInt).r G' vc cs := h_calls
  refine (jt_c (jc_lt (i := a) (j := (cs.length : Int)) (je_vI 2 rfl) (je_len rfl T.b_len (je_v 0 rfl h_calls)))) G' H' (Gw.refl w'.s) _ fun H3 w3 => ?_
  by_cases hb : decide (a < (cs.length : Int)) = true
  · rw [if_pos hb]
    cases m with
    | zero =>
      have z : (!decide (a < (cs.length : Int))) = true := hsg
      rw [hb] at z
      cases z
    | succ m =>
      have z : (if decide (a < (cs.length : Int)) then (decide (a + 1 < (cs.length : Int)) && decide (0 ≤ itm 0 cs (a + 1))) && Mir.segs m cs (a + itm 0 cs (a + 1) + 3) else true) = true := hsg
      rw [if_pos hb] at z
      simp only [Bool.and_eq_true, decide_eq_true_eq] at z
      obtain ⟨⟨z1, z2⟩, z3⟩ := z
      have hb0 := of_decide_eq_true hb
      have e2 : Mir.splitCalls (m + 1) cs a acc = Mir.splitCalls m cs (a + itm 0 cs (a + 1) + 3) (acc ++ [(itm 0 cs a, (cs.drop (a + 2).toNat).take ((a + 2 + itm 0 cs (a + 1)).toNat - (a + 2).toNat))]) := if_pos hb
      rw [e2] at esp
      refine ⟨fun σ' H' => ∃ (G' : Hp) (a : Int) (acc : List (Int × List Int)) (us : List V) (u : Option V), σ' = [some vc, some (.ref pf), some (.int a), u] ∧ Gw G H G' H' ∧ G' pf = none ∧ H' pf = some (.lst us) ∧ Paired ((rT2 rInt (rL rInt)).r G') us acc ∧ 0 ≤ a ∧ acc.length + m ≤ 20000 ∧ Mir.segs m cs a = true ∧ Mir.splitCalls cs.length cs 0 [] = Mir.splitCalls m cs a acc, fun σ' H' h => ⟨m, Nat.lt_succ_self m, h⟩, ?_⟩
      refine ws_setI 3 w3.s (je_ix (d := (0 : Int)) (je_v 0 rfl h_calls) (je_add (je_vI 2 rfl) je_int) (by omega) z1) (fun H4 w4 => ?_) nd
      have w4' := w3.t w4
      generalize hmy : itm 0 cs (a + 1) = many at *
      refine ws_app (R := rT2 rInt (rL rInt)) w4'.s (je_vO 1 rfl) (w4'.h _ _ hvf) (je_t2 (je_ix (d := (0 : Int)) (je_v 0 rfl h_calls) (je_vI 2 rfl) ha0 hb0) (je_sM (je_v 0 rfl h_calls) (je_add (je_vI 2 rfl) je_int) (je_add (je_add (je_vI 2 rfl) je_int) (je_vI 3 rfl)) (by omega) (by omega))) (by rw [Paired.len hp]; omega) fun v G5 H5 w5 hv => ?_
      have w5' := w4'.t w5
      have g5 := w5'.out gf hvf
      have wf := (w'.t w5').set (o := .lst (us ++ [v])) hf g5
      refine ws_setI 2 wf.s (je_add (je_add (je_vI 2 rfl) (je_vI 3 rfl)) je_int) (fun H6 w6 => ?_) nd
      exact ws_nil ⟨G5, a + many + 3, _, us ++ [v], _, rfl, wf.t w6, g5, w6.h _ _ upd_same, Paired.app (pm (fun _ _ z => (rT2 rInt (rL rInt)).m w5'.g z) hp) (.cons hv .nil), by omega, by rw [List.length_append]; simp; omega, z3, esp⟩
  · rw [if_neg hb]
    have e3 : Mir.splitCalls m cs a acc = acc := by
      cases m with
      | zero => rfl
      | succ m => exact if_neg hb
    rw [e3] at esp
    have hp : Paired ((rT2 rInt (rL rInt)).r G') us (Mir.splitCalls cs.length cs 0 []) := by rw [esp]; exact hp
    exact ws_retL (R := rT2 rInt (rL rInt)) (je_vO 1 rfl) (w'.t w3) hf gf (w3.h _ _ hvf) hp hk
theorem okF_answers (T : Top K mg cPart cDraft cRun cBench) {f0 : Addr} {fd : FuncData} (F : Fun K "answers" "answers" s_answers f0 fd) : FnOk P w K mg base CX0 14 f0 fd ["calls"] (Ct (a1 (rQ K rInt)) (onPre fun x => Mir.Asked x.1) (rL rInt) fun x => Mir.answers x.1) := by
  refine F.ok sc_answers (fun vs H Q E ⟨G, x, _, h, _⟩ => (AR.len _ h)) fun cdv Ar outer s H vs Q E hr ⟨G, x, hs, ha, hp, hk⟩ => ⟨_, pss_w, ?_⟩
  obtain ⟨cs, _⟩ := x
  obtain ⟨vc, _, rfl, h_calls, rfl⟩ := ha
  have h_ask : Mir.Asked cs := hp
  dsimp only at h_calls
  have nd := sc_answers.nd
  refine ws_setW 1 (we_make0 (ok_Bench T) (hr.mono (by decide)) T.g_Bench fun x dx fx fd hne => ?_) nd
  have m1 := Gw.mut (o := .own x) hs fd
  have fx2 : upd H dx (.own x) x = none := by
    rw [upd_ne hne.symm]
    exact fx
  have m2 := Gw.mut (o := .ins cBench dx []) m1.s fx2
  have w2 := m1.t m2
  refine ⟨G, x, dx, rfl, w2.s, upd_same, hs.free fx, fun G3 H3 m3 h_bench gx => ⟨rfl, ?_⟩⟩
  have fb : ∀ y, y = x → H y = none := fun y e => by rw [e]; exact fx
  have w3 := w2.mv m3 fb
  refine ws_newL 2 (fun pf hf => ?_) nd
  have w4 := w3.t (Gw.mut (o := .lst []) w3.s hf)
  have h_bench := h_bench.gw (Gw.mut (o := .lst []) w3.s hf)
  have fpH := w3.free hf
  have g4 : G3 pf = none := w3.s.free hf
  have npx : ¬ pf = x := fun e => by
    obtain ⟨_, _, _, _, _, hq, _⟩ := h_bench
    have : H3 x = none := by rw [← e]; exact hf
    rw [← e, upd_same] at hq
    cases hq
  have h_calls := (rQ K rInt).m w4.g h_calls
  have hsp := h_ask.n
  have hsa := h_ask.a
  have eans : Mir.answers cs = ((Mir.splitCalls cs.length cs 0 []).foldl Mir.answers1 (Mir.newBench, [])).2 := rfl
  obtain ⟨sp, hspe⟩ : ∃ sp, Mir.splitCalls cs.length cs 0 [] = sp := ⟨_, rfl⟩
  rw [hspe] at hsp hsa eans
  refine ws_forP 3 4 w4.s (JR.q (JR.eq (je_call (ok_split_calls T) (hr.mono (by decide)) (ja_cons (je_v 0 rfl h_calls) ja_nil) (fun _ _ _ => ⟨h_ask.l, h_ask.s⟩)) hspe)) (fun i σ' G' H' => ∃ ns u1 u2 u3 b, σ' = [some vc, some (.ref x), some (.ref pf), u1, u2, u3] ∧ Gw G H G' H' ∧ BenchIn cBench G' H' x b ∧ G' x = none ∧ G' pf = none ∧ H' pf = some (.lst (ns.map V.int)) ∧ (sp.take i).foldl Mir.answers1 (Mir.newBench, []) = (b, ns))
    (fun G5 H5 w5 => ⟨[], none, none, none, Mir.newBench, rfl, w4.t w5, h_bench.gw w5, bench_keep w5 gx h_bench, w5.out g4 upd_same, w5.h _ _ upd_same, rfl⟩) ?_ ?_ rfl nd
  · rintro i n nn v u σ' G' H' hx s1 s2 ⟨ns, u1, u2, u3, b, rfl, w', h_bench, gx, gf, hvf, efold⟩ hv h_numbers
    cases (show v = .int n from hv)
    have hi : i < sp.length := (List.getElem?_eq_some_iff.mp hx).1
    have hmem := hsa (n, nn) (List.mem_of_getElem? hx)
    obtain ⟨h_ar, h_len⟩ := hmem
    have hwb := Mir.fold_answers (sp.take i) 0 (Mir.newBench, []) Mir.newBench_ok
    rw [efold] at hwb
    obtain ⟨hwb, hnl⟩ := hwb
    have hlt : (sp.take i).length ≤ 20 := by rw [List.length_take]; omega
    have hwb : Mir.Wbn 20000 b := wbn_mono hwb (by omega)
    have hnl : ns.length ≤ 20001 * (sp.take i).length := by
      have q : ([] : List Int).length + 20001 * (sp.take i).length = 20001 * (sp.take i).length := Nat.zero_add _
      exact q ▸ hnl
    have hans := Mir.answered_ok (k := n) (ns := nn) hwb
    have tk : (sp.take (i + 1)).foldl Mir.answers1 (Mir.newBench, []) = ((Mir.answered b n nn).1, (ns ++ [((Mir.answered b n nn).2.length : Int)]) ++ (Mir.answered b n nn).2) := by
      rw [take_snoc hx, List.foldl_append, efold]
      rfl
    have kp : ∀ {G1 H1 : Hp}, Gw G' H' G1 H1 → G1 x = none := fun w1 => bench_keep w1 gx h_bench
    refine ws_setW 5 (we_callB (ok_answered T) (hr.mono (by decide)) s2 (x := ((x, b), n, nn, ())) (ja_cons (je_vN 1 rfl h_bench) (ja_cons (je_vI 3 rfl) (ja_cons (je_v 4 rfl h_numbers) ja_nil))) (fun _ _ wq => ⟨h_bench.gw wq, hwb, h_ar, h_len⟩) (fun _ _ wq => kp wq) fun v9 G9 H9 m9 hb9 hg9 h_told => ?_) nd
    have hb9 : BenchIn cBench G9 H9 x (Mir.answered b n nn).1 := hb9
    have h_told : (rL rInt).r G9 v9 (Mir.answered b n nn).2 := h_told
    generalize Mir.answered b n nn = z at *
    obtain ⟨b2, told⟩ := z
    dsimp only at hb9 h_told hans tk
    have hl2 := hans.2
    have w9 := w'.mv m9 fb
    have hvf9 : H9 pf = some (.lst (ns.map V.int)) := m9.h _ _ npx hvf
    have gf9 : G9 pf = none := m9.out npx gf hvf
    refine ws_app (R := rInt) w9.s (je_vO 2 rfl) hvf9 (je_len rfl T.b_len (JR.q (je_v 5 rfl h_told))) (by rw [List.length_map]; omega) fun v10 G10 H10 w10 hv10 => ?_
    cases (show v10 = .int (told.length : Int) from hv10)
    have g10 := w10.out gf9 hvf9
    have w11 := (w9.t w10).set (o := .lst (ns.map V.int ++ [.int (told.length : Int)])) fpH g10
    have h_told := (rL rInt).m w10.g h_told
    have bset : ∀ {G1 H1 : Hp} {o : HO} {bb : Mir.BenchS}, BenchIn cBench G1 H1 x bb → BenchIn cBench G1 (upd H1 pf o) x bb := fun ⟨dx', vb, vm, vt, vp, q1, q2, q3, q4, q5⟩ => ⟨dx', vb, vm, vt, vp, by rw [upd_ne (fun e => npx e.symm)]; exact q1, q2, q3, q4, q5⟩
    have hb10 := bset (o := .lst (ns.map V.int ++ [.int (told.length : Int)])) (hb9.gw w10)
    have gx10 := bench_keep w10 hg9 hb9
    refine ws_ext (R := rInt) w11.s (je_vO 2 rfl) upd_same (je_v 5 rfl h_told) (by rw [List.length_append, List.length_map]; simp; omega) fun us G12 H12 w12 hu => ?_
    have e12 := paired_ints hu
    subst e12
    have g12 := w12.out g10 upd_same
    refine ws_nil ⟨G12, (m9.g.trans w10.g).trans w12.g, ((w11.t w12).set fpH g12).s, _, _, _, _, b2, rfl, (w11.t w12).set fpH g12, bset (hb10.gw w12), bench_keep w12 gx10 hb10, g12, ?_, tk⟩
    rw [upd_same, List.map_append, List.map_append]
    rfl
  · rintro σ' G' H' s1 s2 ⟨ns, u1, u2, u3, b, rfl, w', h_bench, gx, gf, hvf, efold⟩
    rw [List.take_length] at efold
    have en : ns = Mir.answers cs := by rw [eans, efold]
    subst en
    exact ws_retL (R := rInt) (je_vO 2 rfl) w' fpH gf hvf (ints_paired _) hk
end
end Ck
end
section
set_option linter.all false
set_option maxRecDepth 10000
namespace Plain
open Mir (itm)
/-! words -/
def cB (l : List Nat) : List Int := l.map fun (n : Nat) => (n : Int)
theorem cB_nil : cB [] = [] := rfl
theorem cB_cons {a : Nat} {l : List Nat} : cB (a :: l) = (a : Int) :: cB l := rfl
theorem cB_len {l : List Nat} : (cB l).length = l.length := List.length_map _
theorem cB_inj : ∀ {l m : List Nat}, cB l = cB m → l = m
  | [], [], _ => rfl
  | [], b :: m, h => by cases h
  | a :: l, [], h => by cases h
  | a :: l, b :: m, h => by
    injection h with h1 h2
    rw [cB_inj h2, Int.ofNat.inj h1]
theorem cB_drop {l : List Nat} {n : Nat} : cB (l.drop n) = (cB l).drop n := by unfold cB; rw [List.map_drop]
theorem splitOn_ne (c : Nat) : ∀ l, Xb01.splitOn c l ≠ []
  | [] => by simp [Xb01.splitOn]
  | b :: l => by
    unfold Xb01.splitOn
    split
    · simp
    · split <;> simp
/-- the pieces so far and the piece under way, ahead of a split -/
theorem pieces_gen (c : Nat) : ∀ (l : List Nat) (acc : List Mir.Bytes) (cur : Mir.Bytes), (let z := (cB l).foldl (Mir.pieces1 (c : Int)) (acc, cur); z.1 ++ [z.2]) = acc ++ (match Xb01.splitOn c l with
    | [] => []
    | r :: rs => (cur ++ cB r) :: rs.map cB)
  | [], acc, cur => by simp [cB, Xb01.splitOn]
  | b :: l, acc, cur => by
    have ne := splitOn_ne c l
    rw [cB_cons, List.foldl_cons]
    by_cases h : b = c
    · subst h
      have e : Mir.pieces1 (b : Int) (acc, cur) (b : Int) = (acc ++ [cur], []) := if_pos rfl
      rw [e, pieces_gen b l]
      show _ = acc ++ (match Xb01.splitOn b (b :: l) with
        | [] => []
        | r :: rs => (cur ++ cB r) :: rs.map cB)
      rw [Xb01.splitOn, if_pos rfl]
      cases q : Xb01.splitOn b l with
      | nil => exact absurd q ne
      | cons r rs => simp [cB]
    · have e : Mir.pieces1 (c : Int) (acc, cur) (b : Int) = (acc, cur ++ [(b : Int)]) := if_neg (by omega)
      rw [e, pieces_gen c l]
      show _ = acc ++ (match Xb01.splitOn c (b :: l) with
        | [] => []
        | r :: rs => (cur ++ cB r) :: rs.map cB)
      rw [Xb01.splitOn, if_neg h]
      cases q : Xb01.splitOn c l with
      | nil => exact absurd q ne
      | cons r rs => simp [cB]
theorem pieces_eq (c : Nat) (l : List Nat) : Mir.pieces (cB l) (c : Int) = (Xb01.splitOn c l).map cB := by
  have := pieces_gen c l [] []
  unfold Mir.pieces
  rw [this]
  cases q : Xb01.splitOn c l with
  | nil => exact absurd q (splitOn_ne c l)
  | cons r rs => simp
theorem lines_eq (l : List Nat) : Mir.linesOf (cB l) = (Xb01.splitOn 10 l).map cB := pieces_eq 10 l
theorem words_eq (l : List Nat) : Mir.wordsOf (cB l) = (Xb01.lineWords l).map cB := by
  unfold Mir.wordsOf Xb01.lineWords
  rw [show Mir.pieces (cB l) 32 = (Xb01.splitOn 32 l).map cB from pieces_eq 32 l, List.filter_map]
  congr 1
  refine List.filter_congr fun w _ => ?_
  show (!decide ((cB w).length = 0)) = !w.isEmpty
  rw [cB_len]
  cases w <;> simp
theorem itm_words {ws : List (List Nat)} {i : Nat} : itm [] (ws.map cB) (i : Int) = cB (ws.getD i []) := by
  unfold itm
  rw [List.getD_eq_getElem?_getD, List.getD_eq_getElem?_getD, List.getElem?_map, Int.toNat_natCast]
  cases ws[i]? <;> rfl
theorem isName_eq (w : List Nat) : Mir.isName (cB w) = Xb01.isName w := by
  unfold Mir.isName Xb01.isName
  rw [cB_len]
  have e1 : ((cB w).map Mir.isLetter).all id = w.all fun b => decide (97 ≤ b) && decide (b ≤ 122) := by
    unfold cB
    rw [List.map_map, List.all_map]
    congr 1
    funext b
    show (decide ((97 : Int) ≤ b) && decide ((b : Int) ≤ 122)) = _
    congr 1 <;> (refine decide_eq_decide.mpr ?_; omega)
  rw [e1]
  have e2 : decide ((1 : Int) ≤ (w.length : Int)) = decide (1 ≤ w.length) := decide_eq_decide.mpr (by omega)
  have e3 : decide ((w.length : Int) ≤ 8) = decide (w.length ≤ 8) := decide_eq_decide.mpr (by omega)
  rw [e2, e3]
/-- digits -/
def dig (w : List Nat) : Bool := w.all fun b => decide (48 ≤ b) && decide (b ≤ 57)
theorem dig_eq (w : List Nat) : ((cB w).map Mir.isDigit).all id = dig w := by
  unfold cB dig
  rw [List.map_map, List.all_map]
  congr 1
  funext b
  show (decide ((48 : Int) ≤ b) && decide ((b : Int) ≤ 57)) = _
  congr 1 <;> (refine decide_eq_decide.mpr ?_; omega)
def natOf (w : List Nat) : Nat := w.foldl (fun n b => n * 10 + (b - 48)) 0
theorem parseNat_eq (w : List Nat) : Xb01.parseNat? w = if Mir.isNumber (cB w) then some (natOf w) else none := by
  unfold Xb01.parseNat? Mir.isNumber
  rw [dig_eq, cB_len]
  have hd : (w.all fun b => decide (48 ≤ b) && decide (b ≤ 57)) = dig w := rfl
  rw [hd]
  cases w with
  | nil => simp
  | cons a l =>
    have e0 : itm (0 : Int) (cB (a :: l)) 0 = (a : Int) := rfl
    rw [e0]
    simp only [List.isEmpty_cons, Bool.false_eq_true, false_or, List.head?_cons, Option.some.injEq]
    by_cases h3 : 3 < (a :: l).length
    · rw [if_pos (.inl h3)]
      have : (decide (((a :: l).length : Int) < 1) || (decide (3 < ((a :: l).length : Int)) || !dig (a :: l))) = true := by
        rw [Bool.or_eq_true, Bool.or_eq_true, decide_eq_true_eq, decide_eq_true_eq]
        exact .inr (.inl (by omega))
      rw [if_pos this]
      rfl
    · cases hdg : dig (a :: l) with
      | false =>
        rw [if_pos (.inr (.inl rfl))]
        have : (decide (((a :: l).length : Int) < 1) || (decide (3 < ((a :: l).length : Int)) || !false)) = true := by simp
        rw [if_pos this]
        rfl
      | true =>
        have : (decide (((a :: l).length : Int) < 1) || (decide (3 < ((a :: l).length : Int)) || !true)) = false := by
          simp only [Bool.not_true, Bool.or_false, Bool.or_eq_false_iff, decide_eq_false_iff_not]
          simp only [List.length_cons] at h3 ⊢
          omega
        rw [this, if_neg Bool.false_ne_true]
        by_cases hz : 1 < (a :: l).length ∧ a = 48
        · rw [if_pos (.inr (.inr hz))]
          have : (decide (((a :: l).length : Int) = 1) || !decide ((a : Int) = 48)) = false := by
            simp only [Bool.or_eq_false_iff, decide_eq_false_iff_not, Bool.not_eq_false', decide_eq_true_eq]
            omega
          rw [this]
          rfl
        · rw [if_neg (by
            rintro (q | q | q)
            · exact h3 q
            · cases q
            · exact hz q)]
          have : (decide (((a :: l).length : Int) = 1) || !decide ((a : Int) = 48)) = true := by
            simp only [Bool.or_eq_true, decide_eq_true_eq, Bool.not_eq_true', decide_eq_false_iff_not]
            simp only [List.length_cons] at hz ⊢
            omega
          rw [this, if_pos rfl]
          rfl
theorem numberOf_gen : ∀ (w : List Nat) (n : Nat), dig w = true → (cB w).foldl (fun (n : Int) b => 10 * n + b - 48) (n : Int) = ((w.foldl (fun n b => n * 10 + (b - 48)) n : Nat) : Int)
  | [], n, _ => rfl
  | b :: w, n, h => by
    unfold dig at h
    rw [List.all_cons, Bool.and_eq_true, Bool.and_eq_true, decide_eq_true_eq, decide_eq_true_eq] at h
    rw [cB_cons, List.foldl_cons, List.foldl_cons]
    have e : 10 * (n : Int) + (b : Int) - 48 = ((n * 10 + (b - 48) : Nat) : Int) := by omega
    rw [e]
    exact numberOf_gen w _ h.2
theorem number_dig {w : List Nat} (h : Mir.isNumber (cB w) = true) : dig w = true := by
  rw [← dig_eq]
  unfold Mir.isNumber at h
  split at h
  · cases h
  · rename_i z
    simp only [Bool.or_eq_true, Bool.not_eq_true', not_or, Bool.not_eq_false] at z
    exact z.2.2
theorem numberOf_eq {w : List Nat} (h : Mir.isNumber (cB w) = true) : Mir.numberOf (cB w) = (natOf w : Int) := numberOf_gen w 0 (number_dig h)
theorem parseInt_neg (l : List Nat) : Xb01.parseInt? (45 :: l) = match Xb01.parseNat? l with
    | none => none
    | some n => some (-(n : Int)) := by
  simp only [Xb01.parseInt?]
  cases Xb01.parseNat? l <;> rfl
theorem parseInt_pos {w : List Nat} (h : ∀ l, w ≠ 45 :: l) : Xb01.parseInt? w = match Xb01.parseNat? w with
    | none => none
    | some n => some (n : Int) := by
  unfold Xb01.parseInt?
  split
  · rename_i l
    exact absurd rfl (h l)
  · cases Xb01.parseNat? w <;> rfl
theorem parseInt_eq (w : List Nat) : Xb01.parseInt? w = if Mir.isSigned (cB w) then some (Mir.signedOf (cB w)) else none := by
  unfold Mir.isSigned Mir.signedOf
  cases w with
  | nil => rfl
  | cons a l =>
    have e0 : itm (0 : Int) (cB (a :: l)) 0 = (a : Int) := rfl
    have e1 : (cB (a :: l)).drop 1 = cB l := rfl
    rw [e0, e1]
    by_cases h : a = 45
    · subst h
      rw [parseInt_neg]
      have nn : Mir.isNumber (cB (45 :: l)) = false := by
        cases q : Mir.isNumber (cB (45 :: l)) with
        | false => rfl
        | true =>
          have := number_dig q
          unfold dig at this
          rw [List.all_cons] at this
          simp at this
      rw [nn, parseNat_eq]
      cases q : Mir.isNumber (cB l) with
      | false => simp
      | true =>
        have hl := (Mir.isNumber_digits q).2.1
        rw [cB_len] at hl
        have : decide (1 < ((cB (45 :: l)).length : Int)) = true := by rw [cB_len, List.length_cons]; simp; omega
        rw [this]
        simp [numberOf_eq q]
    · rw [parseInt_pos (fun l' e => by injection e with e1 e2; exact h e1)]
      have h45 : decide ((a : Int) = 45) = false := decide_eq_false (by omega)
      rw [parseNat_eq, h45]
      cases q : Mir.isNumber (cB (a :: l)) with
      | false => simp
      | true => simp [numberOf_eq q]
end Plain
end
section
set_option linter.all false
set_option maxRecDepth 10000
namespace Plain
open Mir (itm)
open Xb01 (charOf cellOfChar)
/-! cells -/
def toM (c : Xb01.Cell) : Mir.Cell := (charOf c, if c.kind = 6 then (if c.right then 0 else 1) else 0, if c.kind = 10 ∨ c.kind = 11 then (c.letterSet : Int) else 0)
structure CellOk (L : Nat) (c : Xb01.Cell) : Prop where
  k : c.kind ≤ 11
  n6 : c.kind = 6 → 2 ≤ c.n ∧ c.n ≤ 9
  nl : c.kind = 10 ∨ c.kind = 11 → c.n ≤ 5 ∧ c.letterSet < L
theorem kinds {k : Nat} (h : k ≤ 11) : k = 0 ∨ k = 1 ∨ k = 2 ∨ k = 3 ∨ k = 4 ∨ k = 5 ∨ k = 6 ∨ k = 7 ∨ k = 8 ∨ k = 9 ∨ k = 10 ∨ k = 11 := by omega
/-- what a cell's sign is, by its kind -/
inductive SgOf (c : Xb01.Cell) : Int → Prop
  | k0 : c.kind = 0 → SgOf c 46
  | k1 : c.kind = 1 → SgOf c 35
  | k2r : c.kind = 2 → c.right = true → SgOf c 92
  | k2l : c.kind = 2 → c.right = false → SgOf c 47
  | k3r : c.kind = 3 → c.right = true → SgOf c 62
  | k3l : c.kind = 3 → c.right = false → SgOf c 60
  | k4 : c.kind = 4 → SgOf c 94
  | k5r : c.kind = 5 → c.right = true → SgOf c 89
  | k5l : c.kind = 5 → c.right = false → SgOf c 121
  | k6 : c.kind = 6 → 2 ≤ c.n → c.n ≤ 9 → SgOf c (48 + (c.n : Int))
  | k7 : c.kind = 7 → SgOf c 85
  | k8 : c.kind = 8 → SgOf c 33
  | k9 : c.kind = 9 → SgOf c 79
  | k10 : c.kind = 10 → c.n ≤ 5 → SgOf c (97 + (c.n : Int))
  | k11 : c.kind = 11 → c.n ≤ 5 → SgOf c (65 + (c.n : Int))
theorem sg_of {L : Nat} {c : Xb01.Cell} (h : CellOk L c) : SgOf c (charOf c) := by
  have hk := kinds h.k
  obtain ⟨k, n, r, ls⟩ := c
  dsimp only at hk
  rcases hk with e | e | e | e | e | e | e | e | e | e | e | e <;> subst e
  · exact .k0 rfl
  · exact .k1 rfl
  · cases r
    · exact .k2l rfl rfl
    · exact .k2r rfl rfl
  · cases r
    · exact .k3l rfl rfl
    · exact .k3r rfl rfl
  · exact .k4 rfl
  · cases r
    · exact .k5l rfl rfl
    · exact .k5r rfl rfl
  · exact .k6 rfl (h.n6 rfl).1 (h.n6 rfl).2
  · exact .k7 rfl
  · exact .k8 rfl
  · exact .k9 rfl
  · exact .k10 rfl (h.nl (.inl rfl)).1
  · exact .k11 rfl (h.nl (.inr rfl)).1
theorem sg_plate {c : Xb01.Cell} {s : Int} (h : SgOf c s) : Mir.isPlate s = decide (c.kind = 10) := by
  cases h <;> simp_all [Mir.isPlate] <;> omega
theorem sg_gate {c : Xb01.Cell} {s : Int} (h : SgOf c s) : Mir.isGate s = decide (c.kind = 11) := by
  cases h <;> simp_all [Mir.isGate] <;> omega
theorem sg_counter {c : Xb01.Cell} {s : Int} (h : SgOf c s) : Mir.isCounter s = decide (c.kind = 6) := by
  cases h <;> simp_all [Mir.isCounter] <;> omega
theorem sg_flip {c : Xb01.Cell} {s : Int} (h : SgOf c s) : Mir.isFlip s = decide (c.kind = 5) := by
  cases h <;> simp_all [Mir.isFlip] <;> omega
theorem sg_eq {c : Xb01.Cell} {s : Int} (h : SgOf c s) : decide (s = 46) = decide (c.kind = 0) ∧ decide (s = 35) = decide (c.kind = 1) ∧ decide (s = 85) = decide (c.kind = 7) ∧ decide (s = 33) = decide (c.kind = 8) ∧ decide (s = 79) = decide (c.kind = 9) ∧ decide (s = 94) = decide (c.kind = 4) := by
  cases h <;> simp_all <;> omega
theorem cellSign_range {s : Int} (h : Mir.isCellSign s = true) : 33 ≤ s ∧ s ≤ 121 := by
  unfold Mir.isCellSign at h
  split at h
  · rename_i z
    simp only [Mir.isPlate, Mir.isGate, Mir.isCounter, Bool.or_eq_true, Bool.and_eq_true, decide_eq_true_eq] at z
    omega
  · rw [Bool.or_eq_true] at h
    rcases h with h | h
    · unfold Mir.inSimple at h
      simp only [List.contains_cons, List.contains_nil, Bool.or_eq_true, beq_iff_eq, Bool.or_false] at h
      omega
    · unfold Mir.inMirrored Mir.mirTab at h
      by_cases h1 : s = 92
      · omega
      by_cases h2 : s = 47
      · omega
      by_cases h3 : s = 62
      · omega
      by_cases h4 : s = 60
      · omega
      by_cases h5 : s = 89
      · omega
      by_cases h6 : s = 121
      · omega
      simp [List.lookup, beq_eq_false_iff_ne.mpr h1, beq_eq_false_iff_ne.mpr h2, beq_eq_false_iff_ne.mpr h3, beq_eq_false_iff_ne.mpr h4, beq_eq_false_iff_ne.mpr h5, beq_eq_false_iff_ne.mpr h6] at h
def chk (b : Nat) : Bool := match cellOfChar b with
  | none => !Mir.isCellSign (b : Int)
  | some c => decide (toM c = Mir.cellOf (b : Int)) && (Mir.isCellSign (b : Int) && (decide (c.kind ≤ 11) && ((!decide (c.kind = 6) || (decide (2 ≤ c.n) && decide (c.n ≤ 9))) && ((!decide (c.kind = 10 ∨ c.kind = 11) || decide (c.n ≤ 5)) && (decide (c.letterSet = 0) && decide (charOf c = (b : Int)))))))
theorem chk_all : (List.range 128).all chk = true := by decide +kernel
theorem chk_at {b : Nat} (h : b < 128) : chk b = true := List.all_eq_true.mp chk_all b (List.mem_range.mpr h)
theorem char_none {b : Nat} (h : ¬ b < 128) : cellOfChar b = none := by
  unfold cellOfChar
  repeat rw [if_neg (by omega)]
theorem char_sign (b : Nat) : Mir.isCellSign (b : Int) = (cellOfChar b).isSome := by
  by_cases h : b < 128
  · have := chk_at h
    unfold chk at this
    split at this
    · rename_i q
      rw [q]
      simpa using this
    · rename_i c q
      rw [q]
      simp only [Bool.and_eq_true] at this
      exact this.2.1
  · rw [char_none h]
    cases q : Mir.isCellSign (b : Int) with
    | false => rfl
    | true =>
      have := cellSign_range q
      omega
/-- a character's cell -/
theorem char_cell {b : Nat} {c : Xb01.Cell} (h : cellOfChar b = some c) : toM c = Mir.cellOf (b : Int) ∧ (∀ L, 1 ≤ L → CellOk L c) ∧ c.letterSet = 0 ∧ charOf c = (b : Int) := by
  by_cases hb : b < 128
  · have := chk_at hb
    unfold chk at this
    rw [h] at this
    simp only [Bool.and_eq_true, Bool.or_eq_true, decide_eq_true_eq, Bool.not_eq_true', decide_eq_false_iff_not] at this
    obtain ⟨a1, a2, a3, a4, a5, a6, a7⟩ := this
    exact ⟨a1, fun L hL => ⟨a3, fun e => by rcases a4 with q | q; exact absurd e q; exact q, fun e => ⟨by rcases a5 with q | q; exact absurd e q; exact q, by omega⟩⟩, a6, a7⟩
  · rw [char_none hb] at h
    cases h
theorem toM_sign (c : Xb01.Cell) : (toM c).1 = charOf c := rfl
theorem mirrored_eq {L : Nat} {c : Xb01.Cell} (h : CellOk L c) : toM (Xb01.mirrored c) = Mir.mirrored (toM c) ∧ CellOk L (Xb01.mirrored c) := by
  have hs := sg_of h
  have hc := sg_counter hs
  have hk := kinds h.k
  refine ⟨?_, ?_⟩
  · unfold Mir.mirrored
    rw [toM_sign, hc]
    obtain ⟨k, n, r, ls⟩ := c
    dsimp only at hk
    rcases hk with e | e | e | e | e | e | e | e | e | e | e | e <;> subst e
    · rfl
    · rfl
    · cases r <;> rfl
    · cases r <;> rfl
    · rfl
    · cases r <;> rfl
    · cases r <;> rfl
    · rfl
    · rfl
    · rfl
    · have := (h.nl (.inl rfl)).1
      dsimp only at this
      have hn : n = 0 ∨ n = 1 ∨ n = 2 ∨ n = 3 ∨ n = 4 ∨ n = 5 := by omega
      rcases hn with e | e | e | e | e | e <;> subst e <;> rfl
    · have := (h.nl (.inr rfl)).1
      dsimp only at this
      have hn : n = 0 ∨ n = 1 ∨ n = 2 ∨ n = 3 ∨ n = 4 ∨ n = 5 := by omega
      rcases hn with e | e | e | e | e | e <;> subst e <;> rfl
  · unfold Xb01.mirrored
    split
    · exact ⟨h.k, h.n6, h.nl⟩
    · exact h
theorem more_eq {L : Nat} {c : Xb01.Cell} (h : CellOk L c) (m : Nat) : toM { c with letterSet := c.letterSet + m } = Mir.withMore (toM c) (m : Int) ∧ ∀ L', L + m ≤ L' → CellOk L' { c with letterSet := c.letterSet + m } := by
  have hs := sg_of h
  refine ⟨?_, fun L' hl => ⟨h.k, h.n6, fun e => ⟨(h.nl e).1, by have := (h.nl e).2; show c.letterSet + m < L'; omega⟩⟩⟩
  unfold Mir.withMore
  rw [toM_sign, sg_plate hs, sg_gate hs]
  unfold toM
  dsimp only
  by_cases e : c.kind = 10 ∨ c.kind = 11
  · have hd : (decide (c.kind = 10) || decide (c.kind = 11)) = true := by simpa using e
    rw [if_pos hd]
    simp only [if_pos e]
    rw [Int.natCast_add]
    rfl
  · have hd : ¬ (decide (c.kind = 10) || decide (c.kind = 11)) = true := by simpa using e
    rw [if_neg hd]
    simp only [if_neg e]
    rfl
theorem air_eq {L : Nat} {c : Xb01.Cell} (h : CellOk L c) : decide ((toM c).1 = 46) = decide (c.kind = 0) := (sg_eq (sg_of h)).1
theorem air_ok (L : Nat) : CellOk L Xb01.air := ⟨by decide, (fun h => by cases h), (fun h => by rcases h with h | h <;> cases h)⟩
theorem air_toM : toM Xb01.air = Mir.airC := rfl
end Plain
end
section
set_option linter.all false
set_option maxRecDepth 10000
namespace Plain
open Mir (itm)
open Xb01 (charOf cellOfChar Simulation Place boardCell countAt permitsAt marbleAt)
/-! runs -/
def bd (b : Xb01.Part) : Mir.Board := ((b.w : Int), (b.h : Int), b.cells.map toM)
structure BdOk (b : Xb01.Part) : Prop where
  w : 1 ≤ b.w
  h : 1 ≤ b.h
  s : b.w * b.h ≤ 36
  n : b.cells.length = b.w * b.h
  c : ∀ c ∈ b.cells, CellOk b.letterSets c
  l : 1 ≤ b.letterSets
def plc : Place → Int
  | .waiting => -1
  | .on k => (k : Int)
  | .bin _ => -2
  | .out _ _ => -2
def dP (d : Xb01.Drop) : Mir.Pair := ((d.x : Int), (d.t : Int))
structure RR (r : Mir.RunS) (g : Simulation) : Prop where
  b : r.board = bd g.board
  bo : BdOk g.board
  m : r.marbles = g.drops.map dP
  t : r.tick = (g.tick : Int)
  p : r.places = g.positions.map plc
  hp : ∀ k m : Nat, k < g.board.cells.length → (itm 0 r.held (k : Int) = (m : Int) ↔ g.positions[m]? = some (.on k))
  on : ∀ m k : Nat, g.positions[m]? = some (.on k) → k < g.board.cells.length
  bin : ∀ k : Nat, k < g.board.cells.length → (boardCell g k).kind = 7 → itm 0 r.held (k : Int) = -1
  c : ∀ k : Nat, k < g.board.cells.length → (boardCell g k).kind = 5 ∨ (boardCell g k).kind = 6 → itm 0 r.counts (k : Int) = (countAt g k : Int)
  cl : g.counts.length = g.board.cells.length
  pm : ∀ ls n : Nat, ls < g.board.letterSets → n ≤ 5 → r.permits ((ls : Int), (n : Int)) = (g.permits.getD (6 * ls + n) 0 : Int)
  pl : g.permits.length = 6 * g.board.letterSets
  rg : r.rings = g.rings.map fun x => ((x.1 : Int), (x.2.2 : Int))
  wf : Mir.Wf r
theorem itm_map {α β : Type} {d : α} {f : α → β} {xs : List α} {k : Nat} : itm (f d) (xs.map f) (k : Int) = f (xs.getD k d) := by
  unfold itm
  rw [List.getD_eq_getElem?_getD, List.getD_eq_getElem?_getD, List.getElem?_map, Int.toNat_natCast]
  cases xs[k]? <;> rfl
section
variable {r : Mir.RunS} {g : Simulation}
theorem RR.len (h : RR r g) : r.board.2.2.length = g.board.cells.length := by rw [h.b]; exact List.length_map _
theorem RR.cell (h : RR r g) (k : Nat) : Mir.cellAt r (k : Int) = toM (boardCell g k) := by
  unfold Mir.cellAt
  rw [h.b]
  exact itm_map (d := Xb01.air) (f := toM)
theorem RR.sign (h : RR r g) (k : Nat) : Mir.signAt r (k : Int) = charOf (boardCell g k) := by
  unfold Mir.signAt
  rw [h.cell]
  rfl
theorem cell_ok {g : Simulation} (h : BdOk g.board) (k : Nat) : CellOk g.board.letterSets (boardCell g k) := by
  unfold boardCell
  rw [List.getD_eq_getElem?_getD]
  cases q : g.board.cells[k]? with
  | none => exact air_ok _
  | some c => exact h.c c (List.mem_of_getElem? q)
theorem RR.sg (h : RR r g) (k : Nat) : SgOf (boardCell g k) (Mir.signAt r (k : Int)) := by
  rw [h.sign]
  exact sg_of (cell_ok h.bo k)
theorem RR.plen (h : RR r g) : g.positions.length = g.drops.length := by
  have := h.wf.pl
  rw [h.p, h.m, List.length_map, List.length_map] at this
  exact this
/-- the marble in a cell -/
theorem RR.marble (h : RR r g) {k : Nat} (hk : k < g.board.cells.length) : marbleAt g k = if itm 0 r.held (k : Int) = -1 then none else some (itm 0 r.held (k : Int)).toNat := by
  have hlen : (k : Int) < (r.held.length : Int) := by rw [h.wf.hl, h.len]; omega
  have hr := h.wf.hm _ (Mir.itm_mem (d := (0 : Int)) (xs := r.held) (i := (k : Int)) (by omega) hlen)
  unfold marbleAt
  by_cases e : itm 0 r.held (k : Int) = -1
  · rw [if_pos e, List.findIdx?_eq_none_iff]
    intro x hx
    cases q : (x == Place.on k) with
    | false => rfl
    | true =>
      have e1 : x = .on k := by simpa using q
      subst e1
      obtain ⟨m, hm⟩ := List.mem_iff_getElem?.mp hx
      have := (h.hp k m hk).mpr hm
      omega
  · rw [if_neg e]
    have e2 : itm 0 r.held (k : Int) = ((itm 0 r.held (k : Int)).toNat : Int) := by omega
    have hm := (h.hp k _ hk).mp e2
    rw [List.findIdx?_eq_some_iff_getElem]
    obtain ⟨h1, h2⟩ := List.getElem?_eq_some_iff.mp hm
    refine ⟨h1, by rw [h2]; simp, fun j hj q => ?_⟩
    have e3 : g.positions[j]'(Nat.lt_trans hj h1) = .on k := by simpa using q
    have := (h.hp k j hk).mpr (List.getElem?_eq_some_iff.mpr ⟨_, e3⟩)
    omega
theorem RR.isNone (h : RR r g) {k : Nat} (hk : k < g.board.cells.length) : (marbleAt g k).isNone = decide (itm 0 r.held (k : Int) = -1) := by
  rw [h.marble hk]
  split
  · rename_i e; rw [decide_eq_true e]; rfl
  · rename_i e; rw [decide_eq_false e]; rfl
/-- where it is led -/
theorem RR.shift (h : RR r g) {k : Nat} (hk : k < g.board.cells.length) : Xb01.destination g k = Xb01.destinationAt g ((k % g.board.w : Nat) : Int) ((k / g.board.w : Nat) : Int) (Mir.shiftFrom r (k : Int)).1 (Mir.shiftFrom r (k : Int)).2 := by
  have hs := h.sg k
  have hc := h.c k hk
  have hcell := h.cell k
  have hf := sg_flip hs
  have hct := sg_counter hs
  have e6 : Mir.sideCounter r (k : Int) = if !decide ((itm 0 r.counts (k : Int) + 1) % (Mir.signAt r (k : Int) - 48) = 0) then 0 else if decide ((Mir.cellAt r (k : Int)).2.1 = 1) then -1 else 1 := rfl
  have e5 : Mir.sideFlip r (k : Int) = if decide (decide (itm 0 r.counts (k : Int) % 2 = 0) = decide (Mir.signAt r (k : Int) = 89)) then 1 else -1 := rfl
  have e0 : Mir.shiftFrom r (k : Int) = (if ([92, 47] : List Int).contains (Mir.signAt r (k : Int)) then (if decide (Mir.signAt r (k : Int) = 92) then 1 else -1, 1)
    else if ([62, 60] : List Int).contains (Mir.signAt r (k : Int)) then (if decide (Mir.signAt r (k : Int) = 62) then 1 else -1, 0)
    else if decide (Mir.signAt r (k : Int) = 94) then (0, -1)
    else if Mir.isFlip (Mir.signAt r (k : Int)) then (Mir.sideFlip r (k : Int), 1)
    else if Mir.isCounter (Mir.signAt r (k : Int)) then (Mir.sideCounter r (k : Int), 1)
    else (0, 1)) := rfl
  rw [e0, hf, hct]
  have hd : Xb01.destination g k = (let side : Int := if (boardCell g k).right then 1 else -1
    match (boardCell g k).kind with
    | 2 => Xb01.destinationAt g ((k % g.board.w : Nat) : Int) ((k / g.board.w : Nat) : Int) side 1
    | 3 => Xb01.destinationAt g ((k % g.board.w : Nat) : Int) ((k / g.board.w : Nat) : Int) side 0
    | 4 => Xb01.destinationAt g ((k % g.board.w : Nat) : Int) ((k / g.board.w : Nat) : Int) 0 (-1)
    | 5 => Xb01.destinationAt g ((k % g.board.w : Nat) : Int) ((k / g.board.w : Nat) : Int) (if countAt g k % 2 = 0 then side else -side) 1
    | 6 => Xb01.destinationAt g ((k % g.board.w : Nat) : Int) ((k / g.board.w : Nat) : Int) (if (countAt g k + 1) % (boardCell g k).n = 0 then side else 0) 1
    | _ => Xb01.destinationAt g ((k % g.board.w : Nat) : Int) ((k / g.board.w : Nat) : Int) 0 1) := rfl
  rw [hd]
  generalize hsg : Mir.signAt r (k : Int) = s at *
  generalize boardCell g k = cc at *
  dsimp only
  cases hs with
  | k0 q => rw [q]; rfl
  | k1 q => rw [q]; rfl
  | k2r q q2 => rw [q, q2]; rfl
  | k2l q q2 => rw [q, q2]; rfl
  | k3r q q2 => rw [q, q2]; rfl
  | k3l q q2 => rw [q, q2]; rfl
  | k4 q => rw [q]; rfl
  | k5r q q2 =>
    rw [q, q2, e5, hc (.inl q)]
    by_cases z : countAt g k % 2 = 0
    · have z2 : ((countAt g k : Nat) : Int) % 2 = 0 := by omega
      simp [z, z2]
    · have z2 : ¬ ((countAt g k : Nat) : Int) % 2 = 0 := by omega
      simp [z, z2]
  | k5l q q2 =>
    rw [q, q2, e5, hc (.inl q)]
    by_cases z : countAt g k % 2 = 0
    · have z2 : ((countAt g k : Nat) : Int) % 2 = 0 := by omega
      simp [z, z2]
    · have z2 : ¬ ((countAt g k : Nat) : Int) % 2 = 0 := by omega
      simp [z, z2]
  | k6 q n1 n2 =>
    rw [e6, hc (.inr q), hcell]
    have t : (toM cc).2.1 = if cc.right then 0 else 1 := by show (if cc.kind = 6 then _ else _) = _; rw [if_pos q]
    rw [t]
    have ne1 : ([92, 47] : List Int).contains (48 + (cc.n : Int)) = false := by simp; omega
    have ne2 : ([62, 60] : List Int).contains (48 + (cc.n : Int)) = false := by simp; omega
    have ne3 : decide ((48 + (cc.n : Int)) = 94) = false := decide_eq_false (by omega)
    rw [ne1, ne2, ne3, q]
    have nm : (((countAt g k : Nat) : Int) + 1) % (48 + (cc.n : Int) - 48) = (((countAt g k + 1) % cc.n : Nat) : Int) := by
      rw [show 48 + (cc.n : Int) - 48 = (cc.n : Int) by omega, Int.natCast_emod]
      rfl
    rw [nm]
    generalize (countAt g k + 1) % cc.n = z
    by_cases hz : z = 0
    · cases cc.right <;> simp [hz]
    · cases cc.right <;> simp [hz]
  | k7 q => rw [q]; rfl
  | k8 q => rw [q]; rfl
  | k9 q => rw [q]; rfl
  | k10 q n1 =>
    have ne1 : ([92, 47] : List Int).contains (97 + (cc.n : Int)) = false := by simp; omega
    have ne2 : ([62, 60] : List Int).contains (97 + (cc.n : Int)) = false := by simp; omega
    have ne3 : decide ((97 + (cc.n : Int)) = 94) = false := decide_eq_false (by omega)
    rw [ne1, ne2, ne3, q]; rfl
  | k11 q n1 =>
    have ne1 : ([92, 47] : List Int).contains (65 + (cc.n : Int)) = false := by simp; omega
    have ne2 : ([62, 60] : List Int).contains (65 + (cc.n : Int)) = false := by simp; omega
    have ne3 : decide ((65 + (cc.n : Int)) = 94) = false := decide_eq_false (by omega)
    rw [ne1, ne2, ne3, q]; rfl
end
end Plain
end
section
set_option linter.all false
set_option maxRecDepth 10000
namespace Plain
open Mir (itm)
open Xb01 (charOf cellOfChar Simulation Place boardCell countAt permitsAt marbleAt)
theorem getD_modify {l : List Nat} {k j : Nat} {f : Nat → Nat} (hk : k < l.length) : (l.modify k f).getD j 0 = if j = k then f (l.getD k 0) else l.getD j 0 := by
  rw [List.getD_eq_getElem?_getD, List.getElem?_modify]
  by_cases e : j = k
  · subst e
    simp [List.getElem?_eq_getElem hk]
  · have e2 : ¬ k = j := fun q => e q.symm
    rw [if_neg e, List.getD_eq_getElem?_getD]
    simp only [if_neg e2]
    cases l[j]? <;> rfl
theorem leaveCell_counts (g : Simulation) (k : Nat) : (Xb01.leaveCell g k).counts = if (boardCell g k).kind = 5 ∨ (boardCell g k).kind = 6 ∨ (boardCell g k).kind = 11 then Xb01.addAt g.counts k 1 else g.counts := by
  unfold Xb01.leaveCell
  split <;> simp_all
theorem leaveCell_permits (g : Simulation) (k : Nat) : (Xb01.leaveCell g k).permits = if (boardCell g k).kind = 11 then g.permits.modify (Xb01.groupOf (boardCell g k)) (fun v => v - 1) else g.permits := by
  unfold Xb01.leaveCell
  split <;> simp_all
theorem leaveCell_same (g : Simulation) (k : Nat) : (Xb01.leaveCell g k).board = g.board ∧ (Xb01.leaveCell g k).drops = g.drops ∧ (Xb01.leaveCell g k).positions = g.positions ∧ (Xb01.leaveCell g k).tick = g.tick ∧ (Xb01.leaveCell g k).rings = g.rings ∧
    (Xb01.leaveCell g k).counts.length = g.counts.length ∧ (Xb01.leaveCell g k).permits.length = g.permits.length := by
  unfold Xb01.leaveCell
  split <;> simp [Xb01.addAt]
section
variable {r : Mir.RunS} {g : Simulation}
theorem RR.bw (h : RR r g) : r.board.1 = (g.board.w : Int) ∧ r.board.2.1 = (g.board.h : Int) := by rw [h.b]; exact ⟨rfl, rfl⟩
theorem RR.dest (h : RR r g) {k : Nat} (hk : k < g.board.cells.length) : Xb01.destination g k = if Mir.reachable r (Mir.destFrom r (k : Int)).1 (Mir.destFrom r (k : Int)).2 then
      (if r.board.2.1 ≤ (Mir.destFrom r (k : Int)).2 then .below (Mir.destFrom r (k : Int)).1.toNat else .reach ((Mir.destFrom r (k : Int)).2.toNat * g.board.w + (Mir.destFrom r (k : Int)).1.toNat)) else .blocked := by
  rw [h.shift hk]
  unfold Xb01.destinationAt Mir.reachable
  have e1 : (Mir.destFrom r (k : Int)).1 = ((k % g.board.w : Nat) : Int) + (Mir.shiftFrom r (k : Int)).1 := by
    unfold Mir.destFrom
    dsimp only
    rw [h.bw.1, Int.natCast_emod]
  have e2 : (Mir.destFrom r (k : Int)).2 = ((k / g.board.w : Nat) : Int) + (Mir.shiftFrom r (k : Int)).2 := by
    unfold Mir.destFrom
    dsimp only
    rw [h.bw.1, Int.natCast_ediv]
  rw [e1, e2, h.bw.1, h.bw.2]
  generalize ((k % g.board.w : Nat) : Int) + (Mir.shiftFrom r (k : Int)).1 = c
  generalize ((k / g.board.w : Nat) : Int) + (Mir.shiftFrom r (k : Int)).2 = y
  dsimp only
  by_cases q : c < 0 ∨ (g.board.w : Int) ≤ c ∨ y < 0
  · rw [if_pos q, if_neg (by simp only [Bool.and_eq_true, decide_eq_true_eq]; omega)]
  · have z : (decide (0 ≤ c) && (decide (c < (g.board.w : Int)) && decide (0 ≤ y))) = true := by simp only [Bool.and_eq_true, decide_eq_true_eq]; omega
    rw [if_neg q, z]
    rfl
theorem RR.link (h : RR r g) {k : Nat} (hk : (boardCell g k).kind = 10 ∨ (boardCell g k).kind = 11) : Mir.linkOf (Mir.cellAt r (k : Int)) = (((boardCell g k).letterSet : Int), ((boardCell g k).n : Int)) := by
  have ok := cell_ok h.bo k
  have hs := sg_of ok
  have hp := sg_plate hs
  rw [h.cell]
  generalize boardCell g k = c at *
  unfold Mir.linkOf
  have e1 : (toM c).2.2 = (c.letterSet : Int) := if_pos hk
  rw [e1, toM_sign, hp]
  obtain ⟨kd, n, rr, ls⟩ := c
  dsimp only at hk
  rcases hk with e | e <;> subst e
  · show ((ls : Int), (if decide ((10 : Nat) = 10) then (97 + (n : Int)) - 97 else (97 + (n : Int)) - 65)) = _
    rw [if_pos (by decide), show 97 + (n : Int) - 97 = (n : Int) by omega]
  · show ((ls : Int), (if decide ((11 : Nat) = 10) then (65 + (n : Int)) - 97 else (65 + (n : Int)) - 65)) = _
    rw [if_neg (by decide), show 65 + (n : Int) - 65 = (n : Int) by omega]
theorem RR.permit (h : RR r g) {k : Nat} (hk : (boardCell g k).kind = 10 ∨ (boardCell g k).kind = 11) : Mir.permitsAt r (k : Int) = (permitsAt g k : Int) := by
  unfold Mir.permitsAt
  rw [h.link hk]
  have := (cell_ok h.bo k).nl hk
  exact h.pm _ _ this.2 this.1
theorem RR.wants (h : RR r g) (k : Nat) : Mir.heldBack r (k : Int) = !Xb01.wantsToMove g k := by
  unfold Mir.heldBack Xb01.wantsToMove
  rw [sg_gate (h.sg k)]
  by_cases e : (boardCell g k).kind = 11
  · rw [h.permit (.inr e), e]
    by_cases z : permitsAt g k = 0
    · rw [z]; rfl
    · have : 0 < permitsAt g k := by omega
      simp [z, this]
  · simp [e]
theorem RR.free (h : RR r g) {k : Nat} (hk : k < g.board.cells.length) : Mir.isFree r (k : Int) = Xb01.isFree g k := by
  unfold Mir.isFree Xb01.isFree
  have e := sg_eq (h.sg k)
  rw [e.2.2.1, e.2.1, h.isNone hk]
  by_cases q : (boardCell g k).kind = 7
  · rw [h.bin k hk q, q]
    rfl
  · rw [if_neg (by simpa using q)]
    by_cases q1 : (boardCell g k).kind = 1
    · simp [q1]
    · simp [q1]
theorem grp_inj {a b c d : Nat} (h1 : b ≤ 5) (h2 : d ≤ 5) : 6 * a + b = 6 * c + d ↔ a = c ∧ b = d := by omega
/-- a marble goes away -/
theorem RR.leave (h : RR r g) {k m : Nat} {pl : Place} (hk : k < g.board.cells.length) (hm : itm 0 r.held (k : Int) = (m : Int)) (hpl : plc pl = -2) (hw : (boardCell g k).kind = 11 → 0 < permitsAt g k) :
    RR (Mir.leave r (k : Int)) { Xb01.leaveCell g k with positions := g.positions.set m pl } := by
  obtain ⟨s1, s2, s3, s4, s5, s6, s7⟩ := leaveCell_same g k
  have hpos := (h.hp k m hk).mp hm
  have hml : m < g.positions.length := (List.getElem?_eq_some_iff.mp hpos).1
  have npl : ∀ j, pl ≠ .on j := fun j e => by
    rw [e] at hpl
    simp [plc] at hpl
  have hheld : (k : Int) < (r.held.length : Int) := by rw [h.wf.hl, h.len]; omega
  have hcnt : (k : Int) < (r.counts.length : Int) := by rw [h.wf.cl, h.len]; omega
  have bcell : ∀ j, boardCell { Xb01.leaveCell g k with positions := g.positions.set m pl } j = boardCell g j := fun j => by
    unfold boardCell
    dsimp only
    rw [s1]
  have hset : ∀ j : Nat, (g.positions.set m pl)[j]? = if j = m then some pl else g.positions[j]? := fun j => by
    rw [List.getElem?_set]
    by_cases e : m = j
    · subst e
      rw [if_pos rfl, if_pos rfl, if_pos hml]
    · rw [if_neg e, if_neg (fun q => e q.symm)]
  refine ⟨?_, by dsimp only; rw [s1]; exact h.bo, ?_, ?_, ?_, ?_, ?_, ?_, ?_, ?_, ?_, ?_, ?_, Mir.leave_wf h.wf⟩
  · rw [Mir.leave_board]
    dsimp only
    rw [s1]
    exact h.b
  · rw [Mir.leave_marbles]
    dsimp only
    rw [s2]
    exact h.m
  · rw [Mir.leave_tick]
    dsimp only
    rw [s4]
    exact h.t
  · rw [Mir.leave_places, hm, h.p, Int.toNat_natCast]
    dsimp only
    rw [List.map_set, hpl]
  · intro j n hj
    dsimp only at hj ⊢
    rw [s1] at hj
    rw [Mir.leave_held, Mir.itm_set (by omega) (by omega) hheld, hset]
    by_cases e : (j : Int) = (k : Int)
    · have e' : j = k := by omega
      subst e'
      rw [if_pos rfl]
      by_cases e2 : n = m
      · rw [if_pos e2]
        constructor
        · intro q; omega
        · intro q; exact absurd (Option.some.inj q) (npl j)
      · rw [if_neg e2]
        constructor
        · intro q; omega
        · intro q
          have := (h.hp j n hj).mpr q
          omega
    · rw [if_neg e]
      by_cases e2 : n = m
      · rw [if_pos e2]
        constructor
        · intro q
          have q2 := (h.hp j n hj).mp q
          rw [e2, hpos] at q2
          have : k = j := by injection q2 with q2; injection q2
          omega
        · intro q; exact absurd (Option.some.inj q) (npl j)
      · rw [if_neg e2]
        exact h.hp j n hj
  · intro n j q
    dsimp only at q ⊢
    rw [s1]
    rw [hset] at q
    split at q
    · exact absurd (Option.some.inj q) (npl j)
    · exact h.on n j q
  · intro j hj q
    dsimp only at hj
    rw [s1] at hj
    rw [bcell] at q
    rw [Mir.leave_held, Mir.itm_set (by omega) (by omega) hheld]
    split
    · rfl
    · exact h.bin j hj q
  · intro j hj q
    dsimp only at hj
    rw [s1] at hj
    rw [bcell] at q
    have hc := h.c j hj q
    rw [Mir.leave_counts, sg_flip (h.sg k), sg_counter (h.sg k), sg_gate (h.sg k)]
    have ce : countAt { Xb01.leaveCell g k with positions := g.positions.set m pl } j = (Xb01.leaveCell g k).counts.getD j 0 := rfl
    rw [ce, leaveCell_counts]
    have hkl : k < g.counts.length := by rw [h.cl]; exact hk
    by_cases en : (boardCell g k).kind = 5 ∨ (boardCell g k).kind = 6 ∨ (boardCell g k).kind = 11
    · have en' : (decide ((boardCell g k).kind = 5) || (decide ((boardCell g k).kind = 6) || decide ((boardCell g k).kind = 11))) = true := by
        simp only [Bool.or_eq_true, decide_eq_true_eq]
        exact en
      rw [if_pos en', if_pos en, Mir.itm_set (by omega) (by omega) hcnt]
      unfold Xb01.addAt
      rw [getD_modify hkl]
      by_cases ej : j = k
      · subst ej
        rw [if_pos rfl, if_pos rfl, hc]
        show _ = (((countAt g j) + 1 : Nat) : Int)
        omega
      · rw [if_neg (by omega), if_neg ej]
        exact hc
    · have en' : ¬ (decide ((boardCell g k).kind = 5) || (decide ((boardCell g k).kind = 6) || decide ((boardCell g k).kind = 11))) = true := by
        simp only [Bool.or_eq_true, decide_eq_true_eq]
        exact en
      rw [if_neg en', if_neg en]
      exact hc
  · dsimp only
    rw [s6, s1]
    exact h.cl
  · intro ls n hl hn
    dsimp only at hl ⊢
    rw [s1] at hl
    have hp0 := h.pm ls n hl hn
    have hg := sg_gate (h.sg k)
    have e0 : (Mir.leave r (k : Int)).permits ((ls : Int), (n : Int)) = if decide ((boardCell g k).kind = 11) then (if ((ls : Int), (n : Int)) = Mir.linkOf (Mir.cellAt r (k : Int)) then Mir.permitsAt r (k : Int) + (-1) else r.permits ((ls : Int), (n : Int))) else r.permits ((ls : Int), (n : Int)) := by
      rw [← hg]
      unfold Mir.leave Mir.addPermits
      dsimp only
      split <;> split <;> rfl
    rw [e0, leaveCell_permits]
    by_cases e11 : (boardCell g k).kind = 11
    · have hcl := (cell_ok h.bo k).nl (.inr e11)
      have hwk := hw e11
      rw [if_pos (decide_eq_true e11), if_pos e11, h.link (.inr e11), h.permit (.inr e11)]
      have hgl : Xb01.groupOf (boardCell g k) < g.permits.length := by rw [h.pl]; unfold Xb01.groupOf; omega
      rw [getD_modify hgl]
      have pe : permitsAt g k = g.permits.getD (Xb01.groupOf (boardCell g k)) 0 := rfl
      by_cases eq : ((ls : Int), (n : Int)) = (((boardCell g k).letterSet : Int), ((boardCell g k).n : Int))
      · have e1 : ls = (boardCell g k).letterSet := by injection eq; omega
        have e2 : n = (boardCell g k).n := by injection eq; omega
        rw [if_pos eq, if_pos (by unfold Xb01.groupOf; rw [e1, e2]), ← pe]
        omega
      · rw [if_neg eq, if_neg (by
          unfold Xb01.groupOf
          rw [grp_inj hn hcl.1]
          rintro ⟨a, b⟩
          exact eq (by rw [a, b]))]
        exact hp0
    · rw [if_neg (by simpa using e11), if_neg e11]
      exact hp0
  · dsimp only
    rw [s7, s1]
    exact h.pl
  · rw [Mir.leave_rings]
    dsimp only
    rw [s5]
    exact h.rg
end
end Plain
end
section
set_option linter.all false
set_option maxRecDepth 10000
namespace Plain
open Mir (itm)
open Xb01 (charOf cellOfChar Simulation Place boardCell countAt permitsAt marbleAt)
theorem enterCell_same (g : Simulation) (m k : Nat) : (Xb01.enterCell g m k).board = g.board ∧ (Xb01.enterCell g m k).drops = g.drops ∧ (Xb01.enterCell g m k).tick = g.tick ∧ (Xb01.enterCell g m k).counts.length = g.counts.length ∧ (Xb01.enterCell g m k).permits.length = g.permits.length := by
  unfold Xb01.enterCell
  split <;> simp [Xb01.addAt]
theorem enterCell_positions (g : Simulation) (m k : Nat) : (Xb01.enterCell g m k).positions = g.positions.set m (if (boardCell g k).kind = 7 then .bin k else .on k) := by
  unfold Xb01.enterCell
  split <;> simp_all
theorem enterCell_counts (g : Simulation) (m k : Nat) : (Xb01.enterCell g m k).counts = if (boardCell g k).kind = 7 ∨ (boardCell g k).kind = 8 ∨ (boardCell g k).kind = 10 then Xb01.addAt g.counts k 1 else g.counts := by
  unfold Xb01.enterCell
  split <;> simp_all
theorem enterCell_permits (g : Simulation) (m k : Nat) : (Xb01.enterCell g m k).permits = if (boardCell g k).kind = 10 then Xb01.addAt g.permits (Xb01.groupOf (boardCell g k)) 1 else g.permits := by
  unfold Xb01.enterCell
  split <;> simp_all
theorem enterCell_rings (g : Simulation) (m k : Nat) : (Xb01.enterCell g m k).rings = if (boardCell g k).kind = 8 then g.rings ++ [(g.tick, k, m)] else g.rings := by
  unfold Xb01.enterCell
  split <;> simp_all
theorem mEnter_rings (r : Mir.RunS) (p m : Int) : (Mir.enter r p m).rings = if decide (Mir.signAt r p = 85) then r.rings else if decide (Mir.signAt r p = 33) then r.rings ++ [(r.tick, m)] else r.rings := by
  unfold Mir.enter Mir.addPermits; dsimp only; split <;> first | rfl | (split <;> split <;> rfl)
theorem mEnter_permits (r : Mir.RunS) (p m : Int) (q : Mir.Pair) : (Mir.enter r p m).permits q = if decide (Mir.signAt r p = 85) then r.permits q else if Mir.isPlate (Mir.signAt r p) then (if q = Mir.linkOf (Mir.cellAt r p) then Mir.permitsAt r p + 1 else r.permits q) else r.permits q := by
  unfold Mir.enter Mir.addPermits; dsimp only; split <;> first | rfl | (split <;> split <;> rfl)
section
variable {r : Mir.RunS} {g : Simulation}
/-- a marble comes in -/
theorem RR.enter (h : RR r g) {k m : Nat} (hk : k < g.board.cells.length) (hml : m < g.positions.length) (hno : ∀ j, g.positions[m]? ≠ some (.on j)) (hf : Xb01.isFree g k = true) : RR (Mir.enter r (k : Int) (m : Int)) (Xb01.enterCell g m k) := by
  obtain ⟨s1, s2, s4, s6, s7⟩ := enterCell_same g m k
  have hfree : itm 0 r.held (k : Int) = -1 := by
    unfold Xb01.isFree at hf
    rw [h.isNone hk, Bool.and_eq_true, decide_eq_true_eq] at hf
    exact hf.2
  have hheld : (k : Int) < (r.held.length : Int) := by rw [h.wf.hl, h.len]; omega
  have hcnt : (k : Int) < (r.counts.length : Int) := by rw [h.wf.cl, h.len]; omega
  have hmm : (m : Int) < (r.marbles.length : Int) := by rw [h.m, List.length_map, ← h.plen]; omega
  have e85 := (sg_eq (h.sg k)).2.2.1
  have e33 := (sg_eq (h.sg k)).2.2.2.1
  have ep := sg_plate (h.sg k)
  have bcell : ∀ j, boardCell (Xb01.enterCell g m k) j = boardCell g j := fun j => by
    unfold boardCell
    rw [s1]
  have hset : ∀ (pl : Place) (j : Nat), (g.positions.set m pl)[j]? = if j = m then some pl else g.positions[j]? := fun pl j => by
    rw [List.getElem?_set]
    by_cases e : m = j
    · subst e
      rw [if_pos rfl, if_pos rfl, if_pos hml]
    · rw [if_neg e, if_neg (fun q => e q.symm)]
  refine ⟨by rw [Mir.enter_board, s1]; exact h.b, by rw [s1]; exact h.bo, by rw [Mir.enter_marbles, s2]; exact h.m, by rw [Mir.enter_tick, s4]; exact h.t, ?_, ?_, ?_, ?_, ?_, by rw [s6, s1]; exact h.cl, ?_, by rw [s7, s1]; exact h.pl, ?_, Mir.enter_wf h.wf (by omega) hmm⟩
  · rw [Mir.enter_places, e85, h.p, enterCell_positions, Int.toNat_natCast, List.map_set]
    congr 1
    by_cases q : (boardCell g k).kind = 7
    · rw [if_pos (decide_eq_true q), if_pos q]
      rfl
    · rw [if_neg (by simpa using q), if_neg q]
      rfl
  · intro j n hj
    rw [s1] at hj
    rw [Mir.enter_held, e85, enterCell_positions, hset]
    by_cases q : (boardCell g k).kind = 7
    · rw [if_pos (decide_eq_true q), if_pos q]
      by_cases e2 : n = m
      · rw [if_pos e2]
        constructor
        · intro z
          exact absurd ((h.hp j n hj).mp z) (by rw [e2]; exact hno j)
        · intro z; cases z
      · rw [if_neg e2]
        exact h.hp j n hj
    · rw [if_neg (by simpa using q), if_neg q, Mir.itm_set (by omega) (by omega) hheld]
      by_cases e : (j : Int) = (k : Int)
      · have e' : j = k := by omega
        subst e'
        rw [if_pos rfl]
        by_cases e2 : n = m
        · rw [if_pos e2, e2]
          exact ⟨fun _ => rfl, fun _ => rfl⟩
        · rw [if_neg e2]
          constructor
          · intro z; omega
          · intro z
            have := (h.hp j n hj).mpr z
            omega
      · rw [if_neg e]
        by_cases e2 : n = m
        · rw [if_pos e2]
          constructor
          · intro z
            exact absurd ((h.hp j n hj).mp z) (by rw [e2]; exact hno j)
          · intro z
            have : k = j := by injection z with z; injection z
            omega
        · rw [if_neg e2]
          exact h.hp j n hj
  · intro n j q
    rw [s1]
    rw [enterCell_positions, hset] at q
    split at q
    · split at q
      · cases q
      · have : k = j := by injection q with q; injection q
        omega
    · exact h.on n j q
  · intro j hj q
    rw [s1] at hj
    rw [bcell] at q
    rw [Mir.enter_held, e85]
    by_cases q7 : (boardCell g k).kind = 7
    · rw [if_pos (decide_eq_true q7)]
      exact h.bin j hj q
    · rw [if_neg (by simpa using q7), Mir.itm_set (by omega) (by omega) hheld, if_neg (fun e => q7 (by rw [← (show j = k by omega)]; exact q))]
      exact h.bin j hj q
  · intro j hj q
    rw [s1] at hj
    rw [bcell] at q
    rw [Mir.enter_counts, h.c j hj q]
    show _ = (((Xb01.enterCell g m k).counts.getD j 0 : Nat) : Int)
    rw [enterCell_counts]
    split
    · rename_i z
      have ne : j ≠ k := fun e => by rw [← e] at z; omega
      unfold Xb01.addAt
      rw [getD_modify (by rw [h.cl]; exact hk), if_neg ne]
      rfl
    · rfl
  · intro ls n hl hn
    rw [s1] at hl
    have hp0 := h.pm ls n hl hn
    rw [mEnter_permits, e85, ep, enterCell_permits]
    by_cases q7 : (boardCell g k).kind = 7
    · rw [if_pos (decide_eq_true q7), if_neg (by omega)]
      exact hp0
    · rw [if_neg (by simpa using q7)]
      by_cases q10 : (boardCell g k).kind = 10
      · have hcl := (cell_ok h.bo k).nl (.inl q10)
        rw [if_pos (decide_eq_true q10), if_pos q10, h.link (.inl q10), h.permit (.inl q10)]
        have hgl : Xb01.groupOf (boardCell g k) < g.permits.length := by rw [h.pl]; unfold Xb01.groupOf; omega
        unfold Xb01.addAt
        rw [getD_modify hgl]
        have pe : permitsAt g k = g.permits.getD (Xb01.groupOf (boardCell g k)) 0 := rfl
        by_cases eq : ((ls : Int), (n : Int)) = (((boardCell g k).letterSet : Int), ((boardCell g k).n : Int))
        · have e1 : ls = (boardCell g k).letterSet := by injection eq; omega
          have e2 : n = (boardCell g k).n := by injection eq; omega
          rw [if_pos eq, if_pos (by unfold Xb01.groupOf; rw [e1, e2]), ← pe]
          omega
        · rw [if_neg eq, if_neg (by
            unfold Xb01.groupOf
            rw [grp_inj hn hcl.1]
            rintro ⟨a, b⟩
            exact eq (by rw [a, b]))]
          exact hp0
      · rw [if_neg (by simpa using q10), if_neg q10]
        exact hp0
  · rw [mEnter_rings, e85, e33, enterCell_rings]
    by_cases q7 : (boardCell g k).kind = 7
    · rw [if_pos (decide_eq_true q7), if_neg (by omega)]
      exact h.rg
    · rw [if_neg (by simpa using q7)]
      by_cases q8 : (boardCell g k).kind = 8
      · rw [if_pos (decide_eq_true q8), if_pos q8, h.rg, h.t, List.map_append]
        rfl
      · rw [if_neg (by simpa using q8), if_neg q8]
        exact h.rg
/-- a destination on the board, as a place -/
theorem RR.place (h : RR r g) {c y : Int} (h1 : Mir.reachable r c y = true) (h2 : y < r.board.2.1) : Mir.placeOf r c y = ((y.toNat * g.board.w + c.toNat : Nat) : Int) ∧ y.toNat * g.board.w + c.toNat < g.board.cells.length := by
  have hin := Mir.dest_in h.wf h1 h2
  unfold Mir.reachable at h1
  simp only [Bool.and_eq_true, decide_eq_true_eq] at h1
  have e : Mir.placeOf r c y = ((y.toNat * g.board.w + c.toNat : Nat) : Int) := by
    unfold Mir.placeOf
    rw [h.bw.1, Int.natCast_add, Int.natCast_mul, Int.toNat_of_nonneg h1.1, Int.toNat_of_nonneg h1.2.2]
  rw [e] at hin
  have := hin.2
  rw [h.len] at this
  exact ⟨e, by omega⟩
theorem enter_over (g : Simulation) (m k : Nat) (pl : Place) : Xb01.enterCell { g with positions := g.positions.set m pl } m k = Xb01.enterCell g m k := by
  unfold Xb01.enterCell
  have e : boardCell { g with positions := g.positions.set m pl } k = boardCell g k := rfl
  rw [e]
  split <;> simp
/-- the move of a marble -/
theorem RR.move (h : RR r g) {k : Nat} {ds : Int → Bool} {ws : List Nat} (hk : k < g.board.cells.length) (hn : itm 0 r.held (k : Int) ≠ -1) (hd : (boardCell g k).kind = 9 → ds (k : Int) = ws.contains k) : RR (Mir.moveFrom r (k : Int) ds) (Xb01.moveFrom ws g k) := by
  have hok := Mir.held_ok h.wf ⟨by omega, by rw [h.len]; omega⟩ hn
  have hm := h.marble hk
  rw [if_neg hn] at hm
  have em : itm 0 r.held (k : Int) = ((itm 0 r.held (k : Int)).toNat : Int) := by omega
  generalize (itm 0 r.held (k : Int)).toNat = m at *
  have hpos := (h.hp k m hk).mp em
  have hml : m < g.positions.length := (List.getElem?_eq_some_iff.mp hpos).1
  unfold Xb01.moveFrom
  rw [hm]
  dsimp only
  have e9 := (sg_eq (h.sg k)).2.2.2.2.1
  have c1 : (Mir.heldBack r (k : Int) || (decide (Mir.signAt r (k : Int) = 79) && !ds (k : Int))) = true ↔ (Xb01.wantsToMove g k = false ∨ (boardCell g k).kind = 9 ∧ ws.contains k = false) := by
    rw [h.wants, e9]
    by_cases q : (boardCell g k).kind = 9
    · rw [hd q]
      simp [q]
    · simp [q]
  by_cases hc : Xb01.wantsToMove g k = false ∨ (boardCell g k).kind = 9 ∧ ws.contains k = false
  · have e : Mir.moveFrom r (k : Int) ds = r := by unfold Mir.moveFrom; exact if_pos (c1.mpr hc)
    rw [if_pos hc, e]
    exact h
  · have hw : (boardCell g k).kind = 11 → 0 < permitsAt g k := fun e => by
      have : Xb01.wantsToMove g k = true := by
        cases q : Xb01.wantsToMove g k with
        | true => rfl
        | false => exact absurd (.inl q) hc
      unfold Xb01.wantsToMove at this
      simpa [e] using this
    rw [if_neg hc, h.dest hk]
    have e0 : Mir.moveFrom r (k : Int) ds = (if !Mir.reachable r (Mir.destFrom r (k : Int)).1 (Mir.destFrom r (k : Int)).2 then r
      else if decide (r.board.2.1 ≤ (Mir.destFrom r (k : Int)).2) then Mir.leave r (k : Int)
      else if Mir.isFree r (Mir.placeOf r (Mir.destFrom r (k : Int)).1 (Mir.destFrom r (k : Int)).2) then Mir.enter (Mir.leave r (k : Int)) (Mir.placeOf r (Mir.destFrom r (k : Int)).1 (Mir.destFrom r (k : Int)).2) (itm 0 r.held (k : Int))
      else r) := by
      unfold Mir.moveFrom
      exact if_neg (fun q => hc (c1.mp q))
    rw [e0]
    generalize Mir.destFrom r (k : Int) = d
    obtain ⟨c, y⟩ := d
    dsimp only
    by_cases hr : Mir.reachable r c y = true
    · rw [if_pos hr, if_neg (by rw [hr]; decide)]
      by_cases hy : r.board.2.1 ≤ y
      · rw [if_pos hy, if_pos (decide_eq_true hy)]
        exact h.leave hk em rfl hw
      · rw [if_neg hy, if_neg (by simpa using hy)]
        obtain ⟨e1, e2⟩ := h.place hr (by omega)
        rw [e1, h.free e2]
        dsimp only
        generalize y.toNat * g.board.w + c.toNat = j at *
        by_cases hf : Xb01.isFree g j = true
        · rw [if_pos hf, if_pos hf, em]
          have hl := h.leave (pl := .out 0 0) hk em rfl hw
          rw [← enter_over (Xb01.leaveCell g k) m j (.out 0 0)]
          have s3 := leaveCell_same g k
          have eq : ({ Xb01.leaveCell g k with positions := (Xb01.leaveCell g k).positions.set m (.out 0 0) } : Simulation) = { Xb01.leaveCell g k with positions := g.positions.set m (.out 0 0) } := by rw [s3.2.2.1]
          rw [eq]
          have bcell : ∀ i, boardCell { Xb01.leaveCell g k with positions := g.positions.set m (.out 0 0) } i = boardCell g i := fun i => by
            unfold boardCell
            dsimp only
            rw [s3.1]
          have hlen : ({ Xb01.leaveCell g k with positions := g.positions.set m (.out 0 0) } : Simulation).board.cells.length = g.board.cells.length := by dsimp only; rw [s3.1]
          refine hl.enter (by rw [hlen]; exact e2) (by dsimp only; rw [List.length_set]; exact hml) (fun i q => ?_) ?_
          · dsimp only at q
            rw [List.getElem?_set, if_pos rfl, if_pos hml] at q
            cases q
          · unfold Xb01.isFree at hf ⊢
            rw [bcell, hl.isNone (by rw [hlen]; exact e2)]
            rw [h.isNone e2, Bool.and_eq_true, decide_eq_true_eq] at hf
            rw [hf.1, Mir.leave_held]
            have hheld : (k : Int) < (r.held.length : Int) := by rw [h.wf.hl, h.len]; omega
            rw [Mir.itm_set (by omega) (by omega) hheld]
            split
            · rfl
            · rw [hf.2]; rfl
        · rw [if_neg hf, if_neg hf]
          exact h
    · rw [if_neg hr, if_pos (by simpa using hr)]
      exact h
end
end Plain
end
section
set_option linter.all false
set_option maxRecDepth 10000
namespace Plain
open Mir (itm)
open Xb01 (charOf cellOfChar Simulation Place boardCell countAt permitsAt marbleAt)
def cI (l : List Nat) : List Int := l.map fun (n : Nat) => (n : Int)
theorem rev_range : ∀ n : Nat, (List.range n).reverse = (List.range n).map fun i => n - 1 - i
  | 0 => rfl
  | n + 1 => by
    rw [List.range_succ, List.reverse_append, rev_range n]
    show n :: _ = _
    rw [← List.range_succ, List.range_succ_eq_map, List.map_cons, List.map_map]
    congr 1
    refine List.map_congr_left fun i _ => ?_
    show n - 1 - i = n + 1 - 1 - (i + 1)
    omega
section
variable {r : Mir.RunS} {g : Simulation}
theorem RR.isSome (h : RR r g) {k : Nat} (hk : k < g.board.cells.length) : (marbleAt g k).isSome = !decide (itm 0 r.held (k : Int) = -1) := by
  rw [← h.isNone hk]
  cases marbleAt g k <;> rfl
theorem RR.row (h : RR r g) {y : Nat} (hy : y < g.board.h) : Mir.rowPlaces r (y : Int) = cI ((((List.range g.board.w).map fun x => y * g.board.w + x)).filter fun k => (marbleAt g k).isSome) := by
  unfold Mir.rowPlaces Mir.rng cI
  have e : (((y : Int) + 1) * r.board.1 - (y : Int) * r.board.1).toNat = g.board.w := by
    rw [h.bw.1, Int.add_mul, Int.one_mul]
    omega
  rw [e, List.filter_map, List.filter_map, List.map_map]
  have e2 : (List.range g.board.w).filter ((fun p => !decide (itm 0 r.held p = -1)) ∘ fun (i : Nat) => (y : Int) * r.board.1 + (i : Int)) = (List.range g.board.w).filter ((fun k => (marbleAt g k).isSome) ∘ fun x => y * g.board.w + x) := by
    refine List.filter_congr fun i hi => ?_
    rw [List.mem_range] at hi
    have hb : y * g.board.w + i < g.board.cells.length := by
      rw [h.bo.n]
      have : (y + 1) * g.board.w ≤ g.board.h * g.board.w := Nat.mul_le_mul_right _ hy
      rw [Nat.add_mul, Nat.one_mul, Nat.mul_comm g.board.h] at this
      omega
    show (!decide (itm 0 r.held ((y : Int) * r.board.1 + (i : Int)) = -1)) = (marbleAt g (y * g.board.w + i)).isSome
    rw [h.isSome hb, h.bw.1]
    congr 2
  rw [e2]
  refine List.map_congr_left fun i _ => ?_
  show (y : Int) * r.board.1 + (i : Int) = ((y * g.board.w + i : Nat) : Int)
  rw [h.bw.1]
  rfl
theorem RR.moving (h : RR r g) : Mir.movingPlaces r = cI ((Xb01.moveOrder g.board).filter fun k => (marbleAt g k).isSome) := by
  unfold Mir.movingPlaces Xb01.moveOrder
  rw [Mir.foldl_app (fun t => Mir.rowPlaces r (r.board.2.1 - 1 - t)), List.nil_append, rev_range, List.flatMap_map, List.filter_flatMap]
  unfold Mir.rng
  have e : (r.board.2.1 - 0).toNat = g.board.h := by rw [h.bw.2]; omega
  rw [e, List.flatMap_map]
  unfold cI
  rw [List.map_flatMap]
  have gen : ∀ (l : List Nat) (f f' : Nat → List Int), (∀ x ∈ l, f x = f' x) → l.flatMap f = l.flatMap f' := fun l f f' hh => by
    induction l with
    | nil => rfl
    | cons x l ih => rw [List.flatMap_cons, List.flatMap_cons, hh x List.mem_cons_self, ih fun y hy => hh y (List.mem_cons_of_mem _ hy)]
  refine gen _ _ _ fun i hi => ?_
  rw [List.mem_range] at hi
  have e2 : r.board.2.1 - 1 - ((0 : Int) + (i : Int)) = ((g.board.h - 1 - i : Nat) : Int) := by rw [h.bw.2]; omega
  rw [e2]
  exact h.row (by omega)
/-- the drums that are pushed -/
theorem fold_pushed (r : Mir.RunS) : ∀ (ps : List Int) (f : Int → Bool) (i : Int), (ps.foldl (Mir.pushed1 r) f) i = true ↔ f i = true ∨ ∃ p ∈ ps, Mir.pushes r p = true ∧ Mir.signAt r (Mir.placeOf r (Mir.destFrom r p).1 (Mir.destFrom r p).2) = 79 ∧ i = Mir.placeOf r (Mir.destFrom r p).1 (Mir.destFrom r p).2
  | [], f, i => by simp
  | p :: ps, f, i => by
    rw [List.foldl_cons, fold_pushed r ps]
    have e : Mir.pushed1 r f p i = true ↔ f i = true ∨ (Mir.pushes r p = true ∧ Mir.signAt r (Mir.placeOf r (Mir.destFrom r p).1 (Mir.destFrom r p).2) = 79 ∧ i = Mir.placeOf r (Mir.destFrom r p).1 (Mir.destFrom r p).2) := by
      unfold Mir.pushed1
      by_cases h1 : Mir.pushes r p = true
      · rw [if_pos h1]
        by_cases h2 : Mir.signAt r (Mir.placeOf r (Mir.destFrom r p).1 (Mir.destFrom r p).2) = 79
        · rw [if_pos (decide_eq_true h2)]
          simp only [Bool.or_eq_true, decide_eq_true_eq, h1, h2, true_and]
          exact or_comm
        · rw [if_neg (by simpa using h2)]
          simp [h2]
      · rw [if_neg h1]
        simp [h1]
    rw [e]
    constructor
    · rintro ((a | a) | ⟨q, hq, a⟩)
      · exact .inl a
      · exact .inr ⟨p, List.mem_cons_self, a⟩
      · exact .inr ⟨q, List.mem_cons_of_mem _ hq, a⟩
    · rintro (a | ⟨q, hq, a⟩)
      · exact .inl (.inl a)
      · rcases List.mem_cons.mp hq with e | e
        · subst e
          exact .inl (.inr a)
        · exact .inr ⟨q, e, a⟩
theorem RR.wanted (h : RR r g) {k : Nat} (hk : k < g.board.cells.length) (h9 : (boardCell g k).kind = 9) : Mir.pushed r (Mir.movingPlaces r) (k : Int) = (Xb01.wantedCells g).contains k := by
  have hs79 : Mir.signAt r (k : Int) = 79 := by
    have := (sg_eq (h.sg k)).2.2.2.2.1
    rw [decide_eq_true h9] at this
    exact of_decide_eq_true this
  have hdr : Mir.hasDrums r = true := by
    unfold Mir.hasDrums
    rw [List.any_eq_true]
    refine ⟨true, ?_, rfl⟩
    rw [List.mem_map]
    refine ⟨Mir.cellAt r (k : Int), Mir.itm_mem (by omega) (by rw [h.len]; omega), ?_⟩
    exact decide_eq_true hs79
  unfold Mir.pushed
  rw [hdr, if_neg (by decide)]
  rw [Bool.eq_iff_iff, fold_pushed, List.contains_iff_mem]
  constructor
  · rintro (a | ⟨p, hp, hpu, _, hi⟩)
    · cases a
    · obtain ⟨hin, hne⟩ := (Mir.moving_ok h.wf).1 p hp
      obtain ⟨k', rfl⟩ : ∃ k' : Nat, p = (k' : Int) := ⟨p.toNat, by have := hin.1; omega⟩
      have hk' : k' < g.board.cells.length := by have := hin.2; rw [h.len] at this; omega
      have hok := Mir.held_ok h.wf hin hne
      have hpos := (h.hp k' (itm 0 r.held (k' : Int)).toNat hk').mp (by omega)
      unfold Mir.pushes at hpu
      rw [h.wants] at hpu
      simp only [Bool.and_eq_true, Bool.not_not, decide_eq_true_eq] at hpu
      obtain ⟨hw, hre, hrow⟩ := hpu
      have hd := h.dest hk'
      rw [if_pos hre, if_neg (by omega)] at hd
      have hpl := h.place hre hrow
      unfold Xb01.wantedCells
      rw [List.mem_filterMap]
      refine ⟨.on k', List.mem_of_getElem? hpos, ?_⟩
      dsimp only
      rw [if_pos hw, hd]
      dsimp only
      rw [hpl.1] at hi
      rw [show k = (Mir.destFrom r (k' : Int)).2.toNat * g.board.w + (Mir.destFrom r (k' : Int)).1.toNat by omega]
  · intro hm
    unfold Xb01.wantedCells at hm
    rw [List.mem_filterMap] at hm
    obtain ⟨x, hx, hm⟩ := hm
    cases x with
    | waiting => cases hm
    | bin _ => cases hm
    | out _ _ => cases hm
    | on k' =>
      dsimp only at hm
      obtain ⟨m, hpos⟩ := List.mem_iff_getElem?.mp hx
      have hk' := h.on m k' hpos
      have hheld := (h.hp k' m hk').mpr hpos
      split at hm
      · rename_i hw
        have hd := h.dest hk'
        split at hm
        · rename_i j hj
          injection hm with hm
          subst hm
          rw [hj] at hd
          split at hd
          · rename_i hre
            split at hd
            · cases hd
            · rename_i hrow
              injection hd with hd
              have hpl := h.place hre (by omega)
              refine .inr ⟨(k' : Int), ?_, ?_, ?_, ?_⟩
              · rw [h.moving]
                unfold cI
                rw [List.mem_map]
                refine ⟨k', List.mem_filter.mpr ⟨?_, by rw [h.isSome hk', hheld]; simp⟩, rfl⟩
                unfold Xb01.moveOrder
                rw [List.mem_flatMap]
                have hw1 := h.bo.w
                refine ⟨k' / g.board.w, ?_, ?_⟩
                · rw [List.mem_reverse, List.mem_range]
                  rw [Nat.div_lt_iff_lt_mul (by omega), Nat.mul_comm, ← h.bo.n]
                  exact hk'
                · rw [List.mem_map]
                  exact ⟨k' % g.board.w, List.mem_range.mpr (Nat.mod_lt _ (by omega)), by rw [Nat.mul_comm]; exact Nat.div_add_mod _ _⟩
              · unfold Mir.pushes
                rw [h.wants, hw, hre]
                simp
                omega
              · rw [hpl.1, ← hd]
                exact hs79
              · rw [hpl.1, ← hd]
          · cases hd
        · cases hm
      · cases hm
/-- all moves of a tick -/
theorem RR.moves {r0 : Mir.RunS} {g0 : Simulation} {ds : Int → Bool} {ws : List Nat} (h0 : RR r0 g0) (hds : ∀ k : Nat, k < g0.board.cells.length → (boardCell g0 k).kind = 9 → ds (k : Int) = ws.contains k) : ∀ (ks : List Nat) (r : Mir.RunS) (g : Simulation), RR r g → r.board = r0.board → (∀ k ∈ ks, k < g0.board.cells.length ∧ itm 0 r.held (k : Int) = itm 0 r0.held (k : Int) ∧ itm 0 r0.held (k : Int) ≠ -1) → ks.Nodup →
    RR ((cI ks).foldl (fun q p => Mir.moveFrom q p ds) r) (ks.foldl (fun g k => if marbleAt g0 k = marbleAt g k then Xb01.moveFrom ws g k else g) g)
  | [], r, g, h, _, _, _ => h
  | k :: ks, r, g, h, hb, hk, hd => by
    obtain ⟨hk1, hk2, hk3⟩ := hk k List.mem_cons_self
    have hlen : g.board.cells.length = g0.board.cells.length := by rw [← h.len, ← h0.len, hb]
    have hkg : k < g.board.cells.length := by rw [hlen]; exact hk1
    have em : marbleAt g0 k = marbleAt g k := by rw [h.marble hkg, h0.marble hk1, hk2]
    have hkind : (boardCell g k).kind = 9 → (boardCell g0 k).kind = 9 := fun q => by
      have a := (sg_eq (h.sg k)).2.2.2.2.1
      have b := (sg_eq (h0.sg k)).2.2.2.2.1
      have e : Mir.signAt r (k : Int) = Mir.signAt r0 (k : Int) := by unfold Mir.signAt Mir.cellAt; rw [hb]
      rw [e] at a
      rw [a, decide_eq_true q] at b
      exact of_decide_eq_true b.symm
    have hm := h.move (ds := ds) (ws := ws) hkg (by rw [hk2]; exact hk3) fun q => hds k hk1 (hkind q)
    show RR ((cI ks).foldl (fun q p => Mir.moveFrom q p ds) (Mir.moveFrom r (k : Int) ds)) (ks.foldl _ (if marbleAt g0 k = marbleAt g k then Xb01.moveFrom ws g k else g))
    rw [if_pos em]
    refine RR.moves h0 hds ks _ _ hm (Mir.moveFrom_same.1.trans hb) (fun j hj => ?_) (List.nodup_cons.mp hd).2
    obtain ⟨j1, j2, j3⟩ := hk j (List.mem_cons_of_mem _ hj)
    have hne : j ≠ k := fun e => (List.nodup_cons.mp hd).1 (e ▸ hj)
    have hl := h.len
    refine ⟨j1, ?_, j3⟩
    rw [Mir.moveFrom_held h.wf ⟨by omega, by omega⟩ ⟨by omega, by omega⟩ (by omega) (by rw [j2]; exact j3)]
    exact j2
/-- one marble is let in -/
theorem RR.letIn1 (h : RR r g) {i : Nat} {d : Xb01.Drop} (hd : g.drops[i]? = some d) : RR (Mir.letIn1 r i (dP d)) (Xb01.enterBoard g i) := by
  have hi : i < g.drops.length := (List.getElem?_eq_some_iff.mp hd).1
  have hip : i < g.positions.length := by rw [h.plen]; exact hi
  have hpos : g.positions[i]? = some g.positions[i] := List.getElem?_eq_getElem hip
  have hx := h.wf.m.c (dP d) (by rw [h.m]; exact List.mem_map.mpr ⟨d, List.mem_of_getElem? hd, rfl⟩)
  have hxw : d.x < g.board.w := by
    have := hx.2
    rw [h.bw.1] at this
    show d.x < _
    have e : (dP d).1 = (d.x : Int) := rfl
    omega
  have hxl : d.x < g.board.cells.length := by
    rw [h.bo.n]
    have := Nat.le_mul_of_pos_right g.board.w h.bo.h
    omega
  have hpl : itm 0 r.places (i : Int) = plc g.positions[i] := by
    rw [h.p]
    unfold itm
    rw [List.getD_eq_getElem?_getD, List.getElem?_map, Int.toNat_natCast, hpos]
    rfl
  unfold Mir.letIn1 Xb01.enterBoard
  rw [hpl, hpos, hd]
  have e1 : (dP d).2 = (d.t : Int) := rfl
  have e2 : (dP d).1 = (d.x : Int) := rfl
  rw [e1, e2, h.t, h.free hxl]
  cases q : g.positions[i] with
  | waiting =>
    dsimp only
    rw [show decide (plc Place.waiting = -1) = true from rfl, Bool.true_and]
    by_cases z : d.t ≤ g.tick ∧ Xb01.isFree g d.x = true
    · rw [if_pos z, if_pos (by rw [Bool.and_eq_true, decide_eq_true_eq]; exact ⟨by omega, z.2⟩)]
      exact h.enter hxl hip (fun j e => by rw [hpos, q] at e; cases e) z.2
    · rw [if_neg z, if_neg (by rw [Bool.and_eq_true, decide_eq_true_eq]; rintro ⟨a, b⟩; exact z ⟨by omega, b⟩)]
      exact h
  | on k =>
    have : decide (plc (.on k) = -1) = false := decide_eq_false (fun (e : (k : Int) = -1) => by omega)
    rw [this]
    exact h
  | bin k => exact h
  | out a b => exact h
theorem enterBoard_drops (g : Simulation) (i : Nat) : (Xb01.enterBoard g i).drops = g.drops := by
  unfold Xb01.enterBoard
  split
  · split
    · exact (enterCell_same _ _ _).2.1
    · rfl
  · rfl
theorem fold_drops : ∀ (l : List Nat) (g : Simulation), (l.foldl Xb01.enterBoard g).drops = g.drops
  | [], _ => rfl
  | i :: l, g => (fold_drops l _).trans (enterBoard_drops g i)
theorem RR.letIn (h : RR r g) : RR (Mir.letIn r) ((List.range g.positions.length).foldl Xb01.enterBoard g) := by
  have gen : ∀ i, i ≤ g.drops.length → RR (Mir.letInFrom r 0 ((g.drops.take i).map dP)) ((List.range i).foldl Xb01.enterBoard g) := by
    intro i
    induction i with
    | zero => intro _; exact h
    | succ i ih =>
      intro hi
      have ih := ih (by omega)
      have hx : g.drops[i]? = some g.drops[i] := List.getElem?_eq_getElem (by omega)
      rw [List.range_succ, List.foldl_append, List.take_succ, hx, List.map_append]
      show RR (Mir.letInFrom r 0 ((g.drops.take i).map dP ++ [dP g.drops[i]])) (Xb01.enterBoard ((List.range i).foldl Xb01.enterBoard g) i)
      rw [Mir.letInFrom_snoc, Nat.zero_add, List.length_map, List.length_take, Nat.min_eq_left (by omega)]
      exact ih.letIn1 (by rw [fold_drops]; exact hx)
  have := gen g.drops.length (Nat.le_refl _)
  rw [List.take_length, ← h.m] at this
  rw [h.plen]
  exact this
/-- a tick -/
theorem RR.tick (h : RR r g) : RR (Mir.doTick r) (Xb01.stepTick g) := by
  have h1 : RR { r with tick := r.tick + 1 } { g with tick := g.tick + 1 } := ⟨h.b, h.bo, h.m, by dsimp only; rw [h.t]; rfl, h.p, h.hp, h.on, h.bin, h.c, h.cl, h.pm, h.pl, h.rg, h.wf.with rfl rfl rfl h.wf.hm⟩
  have e : Mir.doTick r = Mir.letIn ((Mir.movingPlaces { r with tick := r.tick + 1 }).foldl (fun q p => Mir.moveFrom q p (Mir.pushed { r with tick := r.tick + 1 } (Mir.movingPlaces { r with tick := r.tick + 1 }))) { r with tick := r.tick + 1 }) := rfl
  have e2 : Xb01.stepTick g = (let g2 := (((Xb01.moveOrder ({ g with tick := g.tick + 1 } : Simulation).board).filter fun k => (marbleAt { g with tick := g.tick + 1 } k).isSome).foldl (fun q k => if marbleAt { g with tick := g.tick + 1 } k = marbleAt q k then Xb01.moveFrom (Xb01.wantedCells { g with tick := g.tick + 1 }) q k else q) { g with tick := g.tick + 1 })
    (List.range g2.positions.length).foldl Xb01.enterBoard g2) := rfl
  rw [e, e2]
  generalize ({ r with tick := r.tick + 1 } : Mir.RunS) = r1 at *
  generalize ({ g with tick := g.tick + 1 } : Simulation) = g1 at *
  have mo := Mir.moving_ok h1.wf
  have hmv := h1.moving
  have hw := fun k hk h9 => h1.wanted (k := k) hk h9
  generalize hks : ((Xb01.moveOrder g1.board).filter fun k => (marbleAt g1 k).isSome) = ks at *
  have hnd : ks.Nodup := by
    have := mo.2
    rw [hmv] at this
    unfold cI at this
    rw [List.Nodup, List.pairwise_map] at this
    exact this.imp fun hne e => hne (by rw [e])
  have z := RR.moves (ds := Mir.pushed r1 (Mir.movingPlaces r1)) (ws := Xb01.wantedCells g1) h1 hw ks r1 g1 h1 rfl (fun k hk => by
    have := mo.1 (k : Int) (by rw [hmv]; exact List.mem_map.mpr ⟨k, hk, rfl⟩)
    have hl := h1.len
    exact ⟨by have := this.1.2; omega, rfl, this.2⟩) hnd
  rw [← hmv] at z
  exact z.letIn
theorem RR.ticks : ∀ (n : Nat) {r : Mir.RunS} {g : Simulation}, RR r g → RR (Mir.iter Mir.doTick n r) (Xb01.runTicks n g)
  | 0, _, _, h => h
  | n + 1, _, _, h => RR.ticks n h.tick
end
end Plain
end
section
set_option linter.all false
set_option maxRecDepth 10000
namespace Plain
open Mir (itm)
open Xb01 (charOf cellOfChar Simulation Place boardCell countAt permitsAt marbleAt)
structure DsOk (b : Xb01.Part) (ds : List Xb01.Drop) : Prop where
  l : ds.length ≤ 40
  x : ∀ d ∈ ds, d.x < b.w
theorem wb_of {b : Xb01.Part} (h : BdOk b) : Mir.Wb (bd b) := by
  refine ⟨by show (1 : Int) ≤ (b.w : Int); have := h.w; omega, by show (1 : Int) ≤ (b.h : Int); have := h.h; omega, ?_, ?_⟩
  · show (b.w : Int) * (b.h : Int) ≤ 36
    have := h.s
    rw [← Int.natCast_mul]
    omega
  · show ((b.cells.map toM).length : Int) = (b.w : Int) * (b.h : Int)
    rw [List.length_map, h.n, Int.natCast_mul]
theorem wm_of {b : Xb01.Part} {ds : List Xb01.Drop} (h : DsOk b ds) : Mir.Wm (bd b) (ds.map dP) := by
  refine ⟨by rw [List.length_map]; exact h.l, fun d hd => ?_⟩
  obtain ⟨e, he, rfl⟩ := List.mem_map.mp hd
  have := h.x e he
  exact ⟨by show (0 : Int) ≤ (e.x : Int); omega, by show (e.x : Int) < (b.w : Int); omega⟩
theorem itm_rep {n : Nat} {v : Int} {k : Nat} (h : k < n) : itm 0 (List.replicate n v) (k : Int) = v := by
  unfold itm
  rw [List.getD_eq_getElem?_getD, Int.toNat_natCast, List.getElem?_replicate, if_pos h]
  rfl
theorem RR.init {b : Xb01.Part} {ds : List Xb01.Drop} {n : Nat} (h : BdOk b) (hd : DsOk b ds) : RR (Mir.newRun (bd b) (ds.map dP)) (Xb01.initial b ds n) := by
  have hl : (bd b).2.2.length = b.cells.length := List.length_map _
  have hnone : ∀ (m k : Nat), (List.replicate ds.length Place.waiting)[m]? ≠ some (.on k) := fun m k e => by
    rw [List.getElem?_replicate] at e
    split at e <;> cases e
  refine ⟨rfl, h, rfl, rfl, ?_, ?_, ?_, ?_, ?_, ?_, ?_, List.length_replicate, rfl, Mir.newRun_wf (wb_of h) (wm_of hd)⟩
  · show List.replicate (ds.map dP).length (-1) = (List.replicate ds.length Place.waiting).map plc
    rw [List.map_replicate, List.length_map]
    rfl
  · intro k m hk
    have hk : k < b.cells.length := hk
    show itm 0 (List.replicate (bd b).2.2.length (-1)) (k : Int) = (m : Int) ↔ (List.replicate ds.length Place.waiting)[m]? = some (.on k)
    rw [hl, itm_rep hk]
    exact ⟨fun e => by omega, fun e => absurd e (hnone m k)⟩
  · intro m k e
    exact absurd e (hnone m k)
  · intro k hk _
    have hk : k < b.cells.length := hk
    show itm 0 (List.replicate (bd b).2.2.length (-1)) (k : Int) = -1
    rw [hl, itm_rep hk]
  · intro k hk _
    have hk : k < b.cells.length := hk
    show itm 0 (List.replicate (bd b).2.2.length 0) (k : Int) = (((List.replicate (b.w * b.h) 0).getD k 0 : Nat) : Int)
    have hk2 : k < b.w * b.h := by rw [← h.n]; exact hk
    rw [hl, itm_rep hk, List.getD_eq_getElem?_getD, List.getElem?_replicate, if_pos hk2]
    rfl
  · show (List.replicate (b.w * b.h) 0).length = b.cells.length
    rw [List.length_replicate, h.n]
  · intro ls nn hls hnn
    show (0 : Int) = (((List.replicate (6 * b.letterSets) 0).getD (6 * ls + nn) 0 : Nat) : Int)
    rw [List.getD_eq_getElem?_getD, List.getElem?_replicate]
    split <;> rfl
section
variable {r : Mir.RunS} {g : Simulation}
theorem letFrom_gone (r : Mir.RunS) (h : ∀ i : Nat, itm 0 r.places (i : Int) ≠ -1) : ∀ (ms : List Mir.Pair) (i : Nat), Mir.letInFrom r i ms = r
  | [], _ => rfl
  | d :: ms, i => by
    have e : Mir.letIn1 r i d = r := by
      unfold Mir.letIn1
      rw [decide_eq_false (h i), Bool.false_and]
      exact if_neg (by decide)
    show Mir.letInFrom (Mir.letIn1 r i d) (i + 1) ms = r
    rw [e]
    exact letFrom_gone r h ms (i + 1)
/-- all marbles gone: a tick changes nothing but the tick -/
theorem RR.over (h : RR r g) (ho : Mir.isOver r = true) : Mir.doTick r = { r with tick := r.tick + 1 } := by
  have hall : ∀ p ∈ r.places, p = -2 := fun p hp => by
    unfold Mir.isOver at ho
    rw [List.all_eq_true] at ho
    have := ho (decide (p = -2)) (List.mem_map.mpr ⟨p, hp, rfl⟩)
    exact of_decide_eq_true this
  have hheld : ∀ q : Int, Mir.InB r q → itm 0 r.held q = -1 := fun q hq => by
    by_cases e : itm 0 r.held q = -1
    · exact e
    · exfalso
      have hok := Mir.held_ok h.wf hq e
      obtain ⟨k, rfl⟩ : ∃ k : Nat, q = (k : Int) := ⟨q.toNat, by have := hq.1; omega⟩
      have hk : k < g.board.cells.length := by have := hq.2; rw [h.len] at this; omega
      have hpos := (h.hp k (itm 0 r.held (k : Int)).toNat hk).mp (by omega)
      have hm : (k : Int) ∈ r.places := by
        rw [h.p]
        exact List.mem_map.mpr ⟨.on k, List.mem_of_getElem? hpos, rfl⟩
      have := hall _ hm
      omega
  have hw1 : Mir.Wf { r with tick := r.tick + 1 } := h.wf.with rfl rfl rfl h.wf.hm
  have hmv : Mir.movingPlaces { r with tick := r.tick + 1 } = [] := by
    cases q : Mir.movingPlaces { r with tick := r.tick + 1 } with
    | nil => rfl
    | cons p ps =>
      have := (Mir.moving_ok hw1).1 p (by rw [q]; exact List.mem_cons_self)
      exact absurd (hheld p this.1) this.2
  unfold Mir.doTick
  dsimp only
  rw [hmv]
  show Mir.letIn { r with tick := r.tick + 1 } = _
  unfold Mir.letIn
  refine letFrom_gone _ (fun i => ?_) _ 0
  show itm 0 r.places (i : Int) ≠ -1
  by_cases hi : i < r.places.length
  · have := hall _ (Mir.itm_mem (d := (0 : Int)) (xs := r.places) (i := (i : Int)) (by omega) (by omega))
    omega
  · unfold itm
    rw [List.getD_eq_getElem?_getD, Int.toNat_natCast, List.getElem?_eq_none (by omega)]
    decide
theorem iter_over : ∀ (n : Nat) {r : Mir.RunS} {g : Simulation}, RR r g → Mir.isOver r = true → (Mir.iter Mir.tickOn n r).rings = r.rings ∧ (Mir.iter Mir.doTick n r).rings = r.rings
  | 0, _, _, _, _ => ⟨rfl, rfl⟩
  | n + 1, r, g, h, ho => by
    have e1 : Mir.tickOn r = r := by unfold Mir.tickOn; rw [ho]; rfl
    have e2 := h.over ho
    have ho2 : Mir.isOver (Mir.doTick r) = true := by rw [e2]; exact ho
    have a := iter_over n h ho
    have b := iter_over n h.tick ho2
    constructor
    · show (Mir.iter Mir.tickOn n (Mir.tickOn r)).rings = _
      rw [e1]
      exact a.1
    · show (Mir.iter Mir.doTick n (Mir.doTick r)).rings = _
      rw [b.2, e2]
theorem iter_rings : ∀ (n : Nat) {r : Mir.RunS} {g : Simulation}, RR r g → (Mir.iter Mir.tickOn n r).rings = (Mir.iter Mir.doTick n r).rings
  | 0, _, _, _ => rfl
  | n + 1, r, g, h => by
    by_cases ho : Mir.isOver r = true
    · have := iter_over (n + 1) h ho
      rw [this.1, this.2]
    · have e1 : Mir.tickOn r = Mir.doTick r := by unfold Mir.tickOn; rw [if_pos (by simpa using ho)]
      show (Mir.iter Mir.tickOn n (Mir.tickOn r)).rings = (Mir.iter Mir.doTick n (Mir.doTick r)).rings
      rw [e1]
      exact iter_rings n h.tick
end
/-! sorting -/
def c2 (p : Nat × Nat) : Mir.Pair := ((p.1 : Int), (p.2 : Int))
theorem c2_inj {p q : Nat × Nat} (h : c2 p = c2 q) : p = q := by
  injection h with h1 h2
  exact Prod.ext (by omega) (by omega)
theorem c2s_inj : ∀ {l m : List (Nat × Nat)}, l.map c2 = m.map c2 → l = m
  | [], [], _ => rfl
  | [], _ :: _, h => by cases h
  | _ :: _, [], h => by cases h
  | a :: l, b :: m, h => by
    rw [List.map_cons, List.map_cons] at h
    injection h with h1 h2
    rw [c2_inj h1, c2s_inj h2]
theorem less_eq (p q : Nat × Nat) : Mir.lessP (c2 p) (c2 q) = Xb02.ringLess p q := by
  unfold Mir.lessP Xb02.ringLess c2
  dsimp only
  have e1 : decide ((p.1 : Int) < (q.1 : Int)) = decide (p.1 < q.1) := decide_eq_decide.mpr (by omega)
  have e2 : decide ((p.2 : Int) < (q.2 : Int)) = decide (p.2 < q.2) := decide_eq_decide.mpr (by omega)
  have e3 : decide ((p.1 : Int) = (q.1 : Int)) = (p.1 == q.1) := by
    rw [Bool.eq_iff_iff, decide_eq_true_eq, beq_iff_eq]
    omega
  rw [e1, e2, e3]
theorem ins_eq (x : Nat × Nat) : ∀ l, Mir.insP (c2 x) (l.map c2) = (Xb02.insertRing x l).map c2
  | [] => rfl
  | y :: l => by
    show (if Mir.lessP (c2 x) (c2 y) then c2 x :: c2 y :: l.map c2 else c2 y :: Mir.insP (c2 x) (l.map c2)) = (if Xb02.ringLess x y then x :: y :: l else y :: Xb02.insertRing x l).map c2
    rw [less_eq, ins_eq x l]
    split <;> rfl
theorem sort_gen : ∀ (l m : List (Nat × Nat)), (l.map c2).foldl (fun m x => Mir.insP x m) (m.map c2) = (l.foldl (fun m x => Xb02.insertRing x m) m).map c2
  | [], m => rfl
  | x :: l, m => by
    rw [List.map_cons, List.foldl_cons, List.foldl_cons, ins_eq]
    exact sort_gen l _
theorem sort_eq (l : List (Nat × Nat)) : Mir.sortP (l.map c2) = (Xb02.sortRings l).map c2 := sort_gen l []
theorem ringing_eq {b : Xb01.Part} {ds : List Xb01.Drop} {n k : Nat} (h : BdOk b) (hd : DsOk b ds) : Mir.ringingOf (bd b) (ds.map dP) (n : Int) = (Xb02.sortRings (Xb01.ringEvents (Xb01.runTicks n (Xb01.initial b ds k)))).map c2 := by
  have h0 := RR.init (n := k) h hd
  unfold Mir.ringingOf
  rw [Int.toNat_natCast, iter_rings n h0, (RR.ticks n h0).rg, ← sort_eq]
  congr 1
  unfold Xb01.ringEvents
  rw [List.map_map]
  rfl
theorem path_eq {b : Xb01.Part} {ds : List Xb01.Drop} {n m k : Nat} (h : BdOk b) (hd : DsOk b ds) (hm : m < ds.length) : Mir.pathOf (bd b) (ds.map dP) (n : Int) (m : Int) = cI ((List.range n).filterMap fun t => match (Xb01.runTicks (t + 1) (Xb01.initial b ds k)).positions[m]? with
    | some (.on k) => some k
    | _ => none) := by
  have h0 := RR.init (n := k) h hd
  unfold Mir.pathOf
  rw [Int.toNat_natCast]
  induction n with
  | zero => rfl
  | succ n ih =>
    rw [Mir.iter_succ, List.range_succ, List.filterMap_append]
    unfold cI at ih ⊢
    rw [List.map_append, ← ih]
    have e1 := Mir.path1_fst (m : Int) n (Mir.newRun (bd b) (ds.map dP), [])
    generalize Mir.iter (Mir.path1 (m : Int)) n (Mir.newRun (bd b) (ds.map dP), []) = z at *
    obtain ⟨rz, nz⟩ := z
    dsimp only at e1
    subst e1
    have ht := RR.ticks (n + 1) h0
    have e4 := (Mir.iterDo_ok h0.wf (n + 1)).2.2.2
    rw [Mir.iter_succ] at ht e4
    have e4 : (Mir.doTick (Mir.iter Mir.doTick n (Mir.newRun (bd b) (ds.map dP)))).marbles = ds.map dP := e4
    simp only [List.filterMap_cons, List.filterMap_nil]
    unfold Mir.path1
    dsimp only
    generalize Mir.doTick (Mir.iter Mir.doTick n (Mir.newRun (bd b) (ds.map dP))) = q at *
    have hdr : (Xb01.runTicks (n + 1) (Xb01.initial b ds k)).positions.length = ds.length := by
      rw [ht.plen]
      have := ht.m
      rw [e4] at this
      have := congrArg List.length this
      rw [List.length_map, List.length_map] at this
      exact this.symm
    generalize Xb01.runTicks (n + 1) (Xb01.initial b ds k) = gq at *
    have hpos : gq.positions[m]? = some gq.positions[m] := List.getElem?_eq_getElem (by omega)
    have hpl : itm 0 q.places (m : Int) = plc gq.positions[m] := by
      rw [ht.p]
      unfold itm
      rw [List.getD_eq_getElem?_getD, List.getElem?_map, Int.toNat_natCast, hpos]
      rfl
    rw [hpl]
    simp only [hpos]
    cases gq.positions[m] with
    | waiting => simp [plc]
    | on j => simp [plc]
    | bin j => simp [plc]
    | out x t => simp [plc]
end Plain
end
section
set_option linter.all false
set_option maxRecDepth 10000
namespace Plain
open Mir (itm)
/-! parts -/
def partM (p : Xb01.Part) : Mir.PartD := ⟨cB p.name, (p.w : Int), (p.h : Int), p.cells.map toM, (p.letterSets : Int)⟩
structure PP (p : Xb01.Part) : Prop where
  w : 1 ≤ p.w ∧ p.w ≤ 24
  h : 1 ≤ p.h ∧ p.h ≤ 24
  c : ∀ c ∈ p.cells, CellOk p.letterSets c
  l : 1 ≤ p.letterSets
abbrev Full (p : Xb01.Part) : Prop := p.cells.length = p.w * p.h
theorem flat_rng {α : Type} (f : Int → Int → α) (w : Nat) (hw : 1 ≤ w) : ∀ h : Nat, (Mir.rng 0 (h : Int)).flatMap (fun y => (Mir.rng 0 (w : Int)).map (f y)) = (List.range (h * w)).map fun i => f ((i / w : Nat) : Int) ((i % w : Nat) : Int)
  | 0 => by simp [Mir.rng]
  | h + 1 => by
    have e : Mir.rng 0 ((h + 1 : Nat) : Int) = Mir.rng 0 (h : Int) ++ [(h : Int)] := by
      unfold Mir.rng
      rw [show (((h + 1 : Nat) : Int) - 0).toNat = h + 1 by omega, show ((h : Int) - 0).toNat = h by omega, List.range_succ, List.map_append]
      show _ ++ [(0 : Int) + (h : Int)] = _
      rw [Int.zero_add]
    rw [e, List.flatMap_append, flat_rng f w hw h, Nat.add_mul, Nat.one_mul, List.range_add, List.map_append]
    congr 1
    rw [List.flatMap_cons, List.flatMap_nil, List.append_nil, List.map_map]
    unfold Mir.rng
    rw [List.map_map, show ((w : Int) - 0).toNat = w by omega]
    refine List.map_congr_left fun j hj => ?_
    rw [List.mem_range] at hj
    show f (h : Int) ((0 : Int) + (j : Int)) = f (((h * w + j) / w : Nat) : Int) (((h * w + j) % w : Nat) : Int)
    rw [Int.zero_add, Nat.mul_comm h w, Nat.mul_add_div (by omega), Nat.div_eq_of_lt hj, Nat.add_zero, Nat.mul_add_mod, Nat.mod_eq_of_lt hj]
section
variable (W : Nat) (mirror : Bool)
/-- which cell of the copied part comes to the i-th place -/
def tau (i : Nat) : Nat := if mirror then i / W * W + (W - 1 - i % W) else i
end
theorem tau_div {W i : Nat} {mirror : Bool} (hw : 1 ≤ W) : tau W mirror i / W = i / W := by
  unfold tau
  split
  · have := Nat.mod_lt i (show 0 < W by omega)
    have e : (W - 1 - i % W) / W = 0 := Nat.div_eq_of_lt (by omega)
    rw [Nat.mul_comm, Nat.mul_add_div (by omega), e, Nat.add_zero]
  · rfl
theorem tau_mod {W i : Nat} {mirror : Bool} (hw : 1 ≤ W) : tau W mirror i % W = if mirror then W - 1 - i % W else i % W := by
  unfold tau
  split
  · have := Nat.mod_lt i (show 0 < W by omega)
    have e : (W - 1 - i % W) % W = W - 1 - i % W := Nat.mod_eq_of_lt (by omega)
    rw [Nat.mul_comm, Nat.mul_add_mod, e]
  · rfl
theorem dm_eq {W i j : Nat} (h1 : i / W = j / W) (h2 : i % W = j % W) : i = j := by
  rw [← Nat.div_add_mod i W, ← Nat.div_add_mod j W, h1, h2]
theorem tau_tau {W i : Nat} {mirror : Bool} (hw : 1 ≤ W) : tau W mirror (tau W mirror i) = i := by
  refine dm_eq (W := W) (by rw [tau_div hw, tau_div hw]) ?_
  rw [tau_mod hw, tau_mod hw]
  have := Nat.mod_lt i (show 0 < W by omega)
  split <;> omega
theorem lt_mul_iff {W H i : Nat} (hw : 1 ≤ W) : i < W * H ↔ i / W < H := by
  rw [Nat.div_lt_iff_lt_mul (by omega), Nat.mul_comm]
theorem tau_lt {W H i : Nat} {mirror : Bool} (hw : 1 ≤ W) (h : i < W * H) : tau W mirror i < W * H := by
  rw [lt_mul_iff hw] at h ⊢
  rw [tau_div hw]
  exact h
theorem tau_perm {W H : Nat} {mirror : Bool} (hw : 1 ≤ W) : ((List.range (W * H)).map (tau W mirror)).Perm (List.range (W * H)) := by
  have inj : ∀ a b : Nat, tau W mirror a = tau W mirror b → a = b := fun a b e => by
    have := congrArg (tau W mirror) e
    rw [tau_tau hw, tau_tau hw] at this
    exact this
  have n1 : ((List.range (W * H)).map (tau W mirror)).Nodup := by
    rw [List.Nodup, List.pairwise_map]
    exact List.nodup_range.imp fun hne e => hne (inj _ _ e)
  rw [List.perm_ext_iff_of_nodup n1 List.nodup_range]
  intro a
  rw [List.mem_map, List.mem_range]
  constructor
  · rintro ⟨b, hb, rfl⟩
    exact tau_lt hw (List.mem_range.mp hb)
  · intro ha
    exact ⟨tau W mirror a, List.mem_range.mpr (tau_lt hw ha), tau_tau hw⟩
section
variable {p q : Xb01.Part} {x y : Int} {mirror : Bool}
abbrev src (q : Xb01.Part) (i : Nat) : Xb01.Cell := q.cells.getD i Xb01.air
/-- the cell at the i-th place of a copy -/
def cv (q : Xb01.Part) (mirror : Bool) (i : Nat) : Xb01.Cell := if mirror then Xb01.mirrored (src q (tau q.w mirror i)) else src q (tau q.w mirror i)
def tgt (p q : Xb01.Part) (x y : Int) (i : Nat) : Nat := (y.toNat + i / q.w) * p.w + (x.toNat + i % q.w)
theorem src_ok (h : PP q) (i : Nat) : CellOk q.letterSets (src q i) := by
  unfold src
  rw [List.getD_eq_getElem?_getD]
  cases z : q.cells[i]? with
  | none => exact air_ok _
  | some c => exact h.c c (List.mem_of_getElem? z)
theorem cv_ok (h : PP q) (i : Nat) : CellOk q.letterSets (cv q mirror i) ∧ (cv q mirror i).kind = (src q (tau q.w mirror i)).kind ∧ (cv q mirror i).letterSet = (src q (tau q.w mirror i)).letterSet := by
  have ho := src_ok h (tau q.w mirror i)
  unfold cv
  split
  · refine ⟨(mirrored_eq ho).2, ?_, ?_⟩ <;> (unfold Xb01.mirrored; split <;> rfl)
  · exact ⟨ho, rfl, rfl⟩
theorem cells_plain (h : PP q) (hf : Full q) : q.cells.map toM = (List.range (q.w * q.h)).map fun i => toM (cv q false i) := by
  rw [← hf]
  refine List.ext_getElem? fun i => ?_
  rw [List.getElem?_map, List.getElem?_map]
  by_cases hi : i < q.cells.length
  · rw [List.getElem?_eq_getElem hi, List.getElem?_range hi]
    show some (toM q.cells[i]) = some (toM (src q i))
    unfold src
    rw [List.getD_eq_getElem?_getD, List.getElem?_eq_getElem hi]
    rfl
  · rw [List.getElem?_eq_none (by omega), List.getElem?_eq_none (by rw [List.length_range]; omega)]
    rfl
theorem row_eq (h : PP q) (hf : Full q) {r : Nat} (hr : r < q.h) : Mir.rowOf (partM q) (r : Int) = (List.range q.w).map fun j => toM (src q (r * q.w + j)) := by
  unfold Mir.rowOf
  show ((q.cells.map toM).drop ((r : Int) * (q.w : Int)).toNat).take ((((r : Int) + 1) * (q.w : Int)).toNat - ((r : Int) * (q.w : Int)).toNat) = _
  have e1 : ((r : Int) * (q.w : Int)).toNat = r * q.w := by rw [← Int.natCast_mul]; omega
  have e2 : (((r : Int) + 1) * (q.w : Int)).toNat = r * q.w + q.w := by rw [Int.add_mul, Int.one_mul, ← Int.natCast_mul]; omega
  rw [e1, e2, show r * q.w + q.w - r * q.w = q.w by omega]
  have hle : r * q.w + q.w ≤ q.cells.length := by
    rw [hf]
    have : (r + 1) * q.w ≤ q.h * q.w := Nat.mul_le_mul_right _ hr
    rw [Nat.add_mul, Nat.one_mul, Nat.mul_comm q.h] at this
    exact this
  refine List.ext_getElem? fun i => ?_
  rw [List.getElem?_take, List.getElem?_map]
  by_cases hi : i < q.w
  · rw [if_pos hi, List.getElem?_drop, List.getElem?_map, List.getElem?_range hi, List.getElem?_eq_getElem (show r * q.w + i < q.cells.length by omega)]
    show some (toM q.cells[r * q.w + i]) = some (toM (src q (r * q.w + i)))
    unfold src
    rw [List.getD_eq_getElem?_getD, List.getElem?_eq_getElem (show r * q.w + i < q.cells.length by omega)]
    rfl
  · rw [if_neg hi, List.getElem?_eq_none (by rw [List.length_range]; omega)]
    rfl
theorem cells_mirrored (h : PP q) (hf : Full q) : Mir.mirroredCells (partM q) = (List.range (q.w * q.h)).map fun i => toM (cv q true i) := by
  unfold Mir.mirroredCells
  rw [Mir.foldl_app (fun y => (Mir.rowOf (partM q) y).reverse.map Mir.mirrored), List.nil_append]
  have hw := h.w.1
  have gen : (Mir.rng 0 (partM q).h).flatMap (fun y => (Mir.rowOf (partM q) y).reverse.map Mir.mirrored) = (Mir.rng 0 (q.h : Int)).flatMap fun y => (Mir.rng 0 (q.w : Int)).map fun j => toM (Xb01.mirrored (src q (y.toNat * q.w + (q.w - 1 - j.toNat)))) := by
    have g2 : ∀ (l : List Int) (f f' : Int → List Mir.Cell), (∀ a ∈ l, f a = f' a) → l.flatMap f = l.flatMap f' := fun l f f' hh => by
      induction l with
      | nil => rfl
      | cons a l ih => rw [List.flatMap_cons, List.flatMap_cons, hh a List.mem_cons_self, ih fun b hb => hh b (List.mem_cons_of_mem _ hb)]
    refine g2 _ _ _ fun a ha => ?_
    rw [Mir.mem_rng] at ha
    have ha : 0 ≤ a ∧ a < (q.h : Int) := ha
    obtain ⟨r, rfl⟩ : ∃ r : Nat, a = (r : Int) := ⟨a.toNat, by omega⟩
    rw [row_eq h hf (by omega), ← List.map_reverse, rev_range, List.map_map, List.map_map]
    unfold Mir.rng
    rw [List.map_map, show ((q.w : Int) - 0).toNat = q.w by omega]
    refine List.map_congr_left fun j hj => ?_
    show Mir.mirrored (toM (src q (r * q.w + (q.w - 1 - j)))) = toM (Xb01.mirrored (src q ((r : Int).toNat * q.w + (q.w - 1 - ((0 : Int) + (j : Int)).toNat))))
    rw [show ((0 : Int) + (j : Int)).toNat = j by omega, Int.toNat_natCast]
    exact (mirrored_eq (src_ok h _)).1.symm
  rw [gen, flat_rng (fun y j => toM (Xb01.mirrored (src q (y.toNat * q.w + (q.w - 1 - j.toNat))))) q.w hw, Nat.mul_comm q.h]
  refine List.map_congr_left fun i _ => ?_
  rw [Int.toNat_natCast, Int.toNat_natCast]
  rfl
theorem places_eq (h : PP q) (hx : 0 ≤ x) (hy : 0 ≤ y) : Mir.copyPlaces (partM p) (partM q) x y = (List.range (q.w * q.h)).map fun i => ((tgt p q x y i : Nat) : Int) := by
  rw [Mir.copyPlaces_eq]
  show (Mir.rng 0 (q.h : Int)).flatMap (fun row => (Mir.rng 0 (q.w : Int)).map fun col => (y + row) * (p.w : Int) + x + col) = _
  rw [flat_rng (fun row col => (y + row) * (p.w : Int) + x + col) q.w h.w.1, Nat.mul_comm q.h]
  refine List.map_congr_left fun i _ => ?_
  unfold tgt
  rw [Int.natCast_add, Int.natCast_mul, Int.natCast_add, Int.natCast_add, Int.toNat_of_nonneg hx, Int.toNat_of_nonneg hy]
  omega
end
end Plain
end
section
set_option linter.all false
set_option maxRecDepth 10000
namespace Plain
open Mir (itm)
section
variable {p q : Xb01.Part} {x y : Int} {mirror : Bool}
/-- one cell of a copy, in the document's way -/
def stepc (q : Xb01.Part) (mirror : Bool) (s : Nat) (t : Nat → Nat) (l : List Xb01.Cell) (i : Nat) : List Xb01.Cell :=
  if (cv q mirror i).kind = 0 then l else l.set (t i) { cv q mirror i with letterSet := (cv q mirror i).letterSet + s }
theorem stepc_len (s : Nat) (t : Nat → Nat) (l : List Xb01.Cell) (i : Nat) : (stepc q mirror s t l i).length = l.length := by
  unfold stepc
  split
  · rfl
  · rw [List.length_set]
theorem take_set_drop {α : Type} (l : List α) (a : Nat) (c : α) (h : a < l.length) : (l.take a ++ [c]) ++ l.drop (a + 1) = l.set a c := by
  rw [List.set_eq_take_append_cons_drop, if_pos h, List.append_assoc]
  rfl
theorem fold_put (hq : PP q) {nm : Mir.Bytes} {w h : Int} {s : Nat} {t : Nat → Nat} : ∀ (L : List Nat) (l : List Xb01.Cell), (∀ i ∈ L, t i < l.length) → (L.map fun i => (toM (cv q mirror i), ((t i : Nat) : Int))).foldl Mir.put1 ⟨nm, w, h, l.map toM, (s : Int)⟩ = ⟨nm, w, h, (L.foldl (stepc q mirror s t) l).map toM, (s : Int)⟩
  | [], l, _ => rfl
  | i :: L, l, hl => by
    have hi := hl i List.mem_cons_self
    obtain ⟨ok, _, _⟩ := cv_ok (mirror := mirror) hq i
    have e : Mir.put1 ⟨nm, w, h, l.map toM, (s : Int)⟩ (toM (cv q mirror i), ((t i : Nat) : Int)) = ⟨nm, w, h, (stepc q mirror s t l i).map toM, (s : Int)⟩ := by
      unfold Mir.put1 stepc
      dsimp only
      rw [air_eq ok]
      by_cases z : (cv q mirror i).kind = 0
      · rw [if_pos z, if_neg (by simpa using z)]
      · rw [if_neg z, if_pos (by simpa using z), List.map_set, (more_eq ok s).1]
        unfold Mir.placeC
        dsimp only
        have e2 : (((t i : Nat) : Int) + 1).toNat = t i + 1 := by omega
        rw [e2, Int.toNat_natCast, take_set_drop _ _ _ (by rw [List.length_map]; exact hi)]
    rw [List.map_cons, List.foldl_cons, List.foldl_cons, e]
    exact fold_put hq L _ fun j hj => by rw [stepc_len]; exact hl j (List.mem_cons_of_mem _ hj)
/-- the document's step -/
def stepd (p q : Xb01.Part) (x y : Int) (mirror : Bool) (l : List Xb01.Cell) (i : Nat) : List Xb01.Cell :=
  let c := q.cells.getD i Xb01.air
  if c.kind = 0 then l else l.set ((y.toNat + i / q.w) * p.w + (x.toNat + (if mirror then q.w - 1 - i % q.w else i % q.w))) { (if mirror then Xb01.mirrored c else c) with letterSet := c.letterSet + p.letterSets }
theorem step_tau (hq : PP q) (l : List Xb01.Cell) (i : Nat) : stepd p q x y mirror l (tau q.w mirror i) = stepc q mirror p.letterSets (tgt p q x y) l i := by
  obtain ⟨ok, e1, e2⟩ := cv_ok (mirror := mirror) hq i
  have hw := hq.w.1
  have et : (y.toNat + tau q.w mirror i / q.w) * p.w + (x.toNat + (if mirror then q.w - 1 - tau q.w mirror i % q.w else tau q.w mirror i % q.w)) = tgt p q x y i := by
    unfold tgt
    rw [tau_div hw, tau_mod hw]
    congr 2
    have := Nat.mod_lt i (show 0 < q.w by omega)
    split <;> omega
  unfold stepd stepc
  dsimp only
  rw [et]
  by_cases z : (src q (tau q.w mirror i)).kind = 0
  · rw [if_pos z, if_pos (e1.trans z)]
  · rw [if_neg z, if_neg (fun e => z (e1.symm.trans e)), e2]
    rfl
theorem tgt_inj (hw : 1 ≤ q.w) (hx : x.toNat + q.w ≤ p.w) {i j : Nat} (e : tgt p q x y i = tgt p q x y j) : i = j := by
  have a := Nat.mod_lt i (show 0 < q.w by omega)
  have b := Nat.mod_lt j (show 0 < q.w by omega)
  unfold tgt at e
  have hp : 0 < p.w := by omega
  have d1 : ((y.toNat + i / q.w) * p.w + (x.toNat + i % q.w)) / p.w = y.toNat + i / q.w := by
    have : (x.toNat + i % q.w) / p.w = 0 := Nat.div_eq_of_lt (by omega)
    rw [Nat.mul_comm, Nat.mul_add_div hp, this, Nat.add_zero]
  have d2 : ((y.toNat + j / q.w) * p.w + (x.toNat + j % q.w)) / p.w = y.toNat + j / q.w := by
    have : (x.toNat + j % q.w) / p.w = 0 := Nat.div_eq_of_lt (by omega)
    rw [Nat.mul_comm, Nat.mul_add_div hp, this, Nat.add_zero]
  have m1 : ((y.toNat + i / q.w) * p.w + (x.toNat + i % q.w)) % p.w = x.toNat + i % q.w := by
    rw [Nat.mul_comm, Nat.mul_add_mod]
    exact Nat.mod_eq_of_lt (by omega)
  have m2 : ((y.toNat + j / q.w) * p.w + (x.toNat + j % q.w)) % p.w = x.toNat + j % q.w := by
    rw [Nat.mul_comm, Nat.mul_add_mod]
    exact Nat.mod_eq_of_lt (by omega)
  rw [e] at d1 m1
  exact dm_eq (W := q.w) (by omega) (by omega)
theorem stepc_comm {s : Nat} {t : Nat → Nat} (l : List Xb01.Cell) (i j : Nat) (h : t i = t j → i = j) : stepc q mirror s t (stepc q mirror s t l i) j = stepc q mirror s t (stepc q mirror s t l j) i := by
  by_cases e : i = j
  · rw [e]
  · unfold stepc
    by_cases a : (cv q mirror i).kind = 0
    · simp only [if_pos a]
    · by_cases b : (cv q mirror j).kind = 0
      · simp only [if_pos b]
      · simp only [if_neg a, if_neg b]
        exact List.set_comm _ _ fun z => e (h z)
theorem fold_tau (hq : PP q) (hx : x.toNat + q.w ≤ p.w) (l : List Xb01.Cell) : (List.range (q.w * q.h)).foldl (stepd p q x y mirror) l = (List.range (q.w * q.h)).foldl (stepc q mirror p.letterSets (tgt p q x y)) l := by
  have hw := hq.w.1
  have hst : ∀ (l : List Xb01.Cell) (i : Nat), stepd p q x y mirror l i = stepc q mirror p.letterSets (tgt p q x y) l (tau q.w mirror i) := fun l i => by
    have := step_tau (p := p) (x := x) (y := y) (mirror := mirror) hq l (tau q.w mirror i)
    rw [tau_tau hw] at this
    exact this
  have e1 : (List.range (q.w * q.h)).foldl (stepd p q x y mirror) l = ((List.range (q.w * q.h)).map (tau q.w mirror)).foldl (stepc q mirror p.letterSets (tgt p q x y)) l := by
    rw [List.foldl_map]
    congr 1
    funext l i
    exact hst l i
  rw [e1]
  exact (tau_perm hw).foldl_eq' (fun a _ b _ z => stepc_comm z a b (tgt_inj hw hx)) l
theorem any_tau (hw : 1 ≤ q.w) (f : Nat → Bool) : (List.range (q.w * q.h)).any f = (List.range (q.w * q.h)).any fun i => f (tau q.w mirror i) := by
  rw [Bool.eq_iff_iff, List.any_eq_true, List.any_eq_true]
  constructor
  · rintro ⟨i, hi, h⟩
    exact ⟨tau q.w mirror i, List.mem_range.mpr (tau_lt hw (List.mem_range.mp hi)), by rw [tau_tau hw]; exact h⟩
  · rintro ⟨i, hi, h⟩
    exact ⟨tau q.w mirror i, List.mem_range.mpr (tau_lt hw (List.mem_range.mp hi)), h⟩
theorem overlap_any (p : Mir.PartD) : ∀ (zs : List (Mir.Cell × Int)), Mir.overlapping p (zs.map (·.1)) (zs.map (·.2)) = zs.any fun z => Mir.overlap1 p z.1 z.2
  | [] => rfl
  | z :: zs => by
    show (if Mir.overlap1 p z.1 z.2 then true else Mir.overlapping p (zs.map (·.1)) (zs.map (·.2))) = _
    rw [overlap_any p zs, List.any_cons]
    cases Mir.overlap1 p z.1 z.2 <;> rfl
theorem fold_ok {s L' : Nat} {t : Nat → Nat} (hq : PP q) (hl : q.letterSets + s ≤ L') : ∀ (L : List Nat) (l : List Xb01.Cell), (∀ c ∈ l, CellOk L' c) → ∀ c ∈ L.foldl (stepc q mirror s t) l, CellOk L' c
  | [], l, h => h
  | i :: L, l, h => fold_ok hq hl L _ fun c hc => by
    unfold stepc at hc
    split at hc
    · exact h c hc
    · rcases List.mem_or_eq_of_mem_set hc with e | e
      · exact h c e
      · rw [e]
        exact (more_eq (cv_ok (mirror := mirror) hq i).1 s).2 L' hl
theorem cellOk_mono {L L' : Nat} {c : Xb01.Cell} (h : CellOk L c) (hl : L ≤ L') : CellOk L' c := ⟨h.k, h.n6, fun e => ⟨(h.nl e).1, by have := (h.nl e).2; omega⟩⟩
theorem fold_len {s : Nat} {t : Nat → Nat} : ∀ (L : List Nat) (l : List Xb01.Cell), (L.foldl (stepc q mirror s t) l).length = l.length
  | [], _ => rfl
  | i :: L, l => (fold_len L _).trans (stepc_len s t l i)
theorem place_eq (hp : PP p) (fp : Full p) (hq : PP q) (fq : Full q) : match Xb01.placePart p q x y mirror with
    | .error e => Mir.copyInto (partM p) (partM q) ((List.range (q.w * q.h)).map fun i => toM (cv q mirror i)) x y = (partM p, (e : Int)) ∧ e ≠ 0
    | .ok r => Mir.copyInto (partM p) (partM q) ((List.range (q.w * q.h)).map fun i => toM (cv q mirror i)) x y = (partM r, 0) ∧ PP r ∧ Full r ∧ r.w = p.w ∧ r.h = p.h ∧ r.name = p.name := by
  have hw := hq.w.1
  by_cases h1 : x < 0 ∨ y < 0 ∨ (p.w : Int) < x + q.w ∨ (p.h : Int) < y + q.h
  · unfold Xb01.placePart Mir.copyInto
    rw [if_pos h1]
    have : ¬ Mir.isInside (partM p) (partM q) x y = true := fun z => by
      rw [Mir.inside_iff] at z
      have z : 0 ≤ x ∧ 0 ≤ y ∧ x + (q.w : Int) ≤ (p.w : Int) ∧ y + (q.h : Int) ≤ (p.h : Int) := z
      omega
    rw [if_pos (by simpa using this)]
    exact ⟨rfl, by decide⟩
  · have hin : Mir.isInside (partM p) (partM q) x y = true := by
      rw [Mir.inside_iff]
      show 0 ≤ x ∧ 0 ≤ y ∧ x + (q.w : Int) ≤ (p.w : Int) ∧ y + (q.h : Int) ≤ (p.h : Int)
      omega
    have htl : ∀ i ∈ List.range (q.w * q.h), tgt p q x y i < p.cells.length := fun i hi => by
      rw [List.mem_range, lt_mul_iff hw] at hi
      have a := Nat.mod_lt i (show 0 < q.w by omega)
      rw [fp]
      unfold tgt
      have : (y.toNat + i / q.w + 1) * p.w ≤ p.h * p.w := Nat.mul_le_mul_right _ (by omega)
      rw [Nat.add_mul, Nat.one_mul, Nat.mul_comm p.h] at this
      omega
    have hzip : ((List.range (q.w * q.h)).map fun i => toM (cv q mirror i)).zip ((List.range (q.w * q.h)).map fun i => ((tgt p q x y i : Nat) : Int)) = (List.range (q.w * q.h)).map fun i => (toM (cv q mirror i), ((tgt p q x y i : Nat) : Int)) := List.zip_map' ..
    have hov : Mir.overlapping (partM p) ((List.range (q.w * q.h)).map fun i => toM (cv q mirror i)) ((List.range (q.w * q.h)).map fun i => ((tgt p q x y i : Nat) : Int)) = (List.range (q.w * q.h)).any fun i => (q.cells.getD i Xb01.air).kind != 0 && (p.cellAt (x.toNat + (if mirror then q.w - 1 - i % q.w else i % q.w)) (y.toNat + i / q.w)).kind != 0 := by
      have e := overlap_any (partM p) ((List.range (q.w * q.h)).map fun i => (toM (cv q mirror i), ((tgt p q x y i : Nat) : Int)))
      rw [List.map_map, List.map_map, List.any_map] at e
      rw [any_tau hw]
      refine Eq.trans e ?_
      congr 1
      funext i
      obtain ⟨ok, e1, e2⟩ := cv_ok (mirror := mirror) hq i
      show Mir.overlap1 (partM p) (toM (cv q mirror i)) ((tgt p q x y i : Nat) : Int) = _
      unfold Mir.overlap1
      rw [air_eq ok, e1]
      have e3 : itm Mir.airC (partM p).cells ((tgt p q x y i : Nat) : Int) = toM (p.cells.getD (tgt p q x y i) Xb01.air) := itm_map (d := Xb01.air) (f := toM)
      have okp : CellOk p.letterSets (p.cells.getD (tgt p q x y i) Xb01.air) := src_ok hp _
      rw [e3, air_eq okp]
      have et : (y.toNat + tau q.w mirror i / q.w) * p.w + (x.toNat + (if mirror then q.w - 1 - tau q.w mirror i % q.w else tau q.w mirror i % q.w)) = tgt p q x y i := by
        unfold tgt
        rw [tau_div hw, tau_mod hw]
        congr 2
        have := Nat.mod_lt i (show 0 < q.w by omega)
        split <;> omega
      unfold Xb01.Part.cellAt
      rw [et]
      generalize p.cells.getD (tgt p q x y i) Xb01.air = a
      show _ = ((src q (tau q.w mirror i)).kind != 0 && a.kind != 0)
      generalize src q (tau q.w mirror i) = b
      have bb : ∀ n : Nat, (!decide (n = 0)) = (n != 0) := fun n => by cases n <;> rfl
      rw [bb, bb]
    have hC : Mir.copyInto (partM p) (partM q) ((List.range (q.w * q.h)).map fun i => toM (cv q mirror i)) x y = (if ((List.range (q.w * q.h)).any fun i => (q.cells.getD i Xb01.air).kind != 0 && (p.cellAt (x.toNat + (if mirror then q.w - 1 - i % q.w else i % q.w)) (y.toNat + i / q.w)).kind != 0) = true then (partM p, 4)
        else if decide ((64 : Int) < (p.letterSets : Int) + (q.letterSets : Int)) then (partM p, 5)
        else ({ (⟨cB p.name, (p.w : Int), (p.h : Int), ((List.range (q.w * q.h)).foldl (stepc q mirror p.letterSets (tgt p q x y)) p.cells).map toM, (p.letterSets : Int)⟩ : Mir.PartD) with sets := (p.letterSets : Int) + (q.letterSets : Int) }, 0)) := by
      unfold Mir.copyInto
      rw [if_neg (by rw [hin]; decide), places_eq hq (by omega) (by omega), hov, Mir.placeAll_zip, hzip]
      have := fold_put (mirror := mirror) (nm := cB p.name) (w := (p.w : Int)) (h := (p.h : Int)) (s := p.letterSets) (t := tgt p q x y) hq (List.range (q.w * q.h)) p.cells htl
      have e : partM p = ⟨cB p.name, (p.w : Int), (p.h : Int), p.cells.map toM, (p.letterSets : Int)⟩ := rfl
      rw [← e] at this
      rw [this]
      rfl
    rw [hC]
    have hS : Xb01.placePart p q x y mirror = (if ((List.range (q.w * q.h)).any fun i => (q.cells.getD i Xb01.air).kind != 0 && (p.cellAt (x.toNat + (if mirror then q.w - 1 - i % q.w else i % q.w)) (y.toNat + i / q.w)).kind != 0) = true then .error 4
        else if 64 < p.letterSets + q.letterSets then .error 5
        else .ok { p with letterSets := p.letterSets + q.letterSets, cells := (List.range (q.w * q.h)).foldl (stepd p q x y mirror) p.cells }) := by
      unfold Xb01.placePart
      rw [if_neg h1]
      rfl
    rw [hS]
    by_cases h2 : ((List.range (q.w * q.h)).any fun i => (q.cells.getD i Xb01.air).kind != 0 && (p.cellAt (x.toNat + (if mirror then q.w - 1 - i % q.w else i % q.w)) (y.toNat + i / q.w)).kind != 0) = true
    · rw [if_pos h2, if_pos h2]
      exact ⟨rfl, by decide⟩
    · rw [if_neg h2, if_neg h2]
      by_cases h3 : 64 < p.letterSets + q.letterSets
      · rw [if_pos h3, if_pos (decide_eq_true (by omega))]
        exact ⟨rfl, by decide⟩
      · rw [if_neg h3, if_neg (by simp; omega), fold_tau hq (by omega)]
        refine ⟨?_, ⟨hp.w, hp.h, fun c hc => ?_, by show 1 ≤ p.letterSets + q.letterSets; have := hp.l; omega⟩, ?_, rfl, rfl, rfl⟩
        · unfold partM
          rw [Int.natCast_add]
        · exact fold_ok (L' := p.letterSets + q.letterSets) hq (by omega) _ _ (fun c hc => cellOk_mono (hp.c c hc) (by omega)) c hc
        · show ((List.range (q.w * q.h)).foldl (stepc q mirror p.letterSets (tgt p q x y)) p.cells).length = p.w * p.h
          rw [fold_len]
          exact fp
end
end Plain
end
section
set_option linter.all false
set_option maxRecDepth 10000
namespace Plain
open Mir (itm)
open Xb01 (ParseState findPart)
structure DR (d : Mir.DraftS) (st : ParseState) : Prop where
  ps : d.parts = (st.parts.map partM).reverse
  pk : ∀ p ∈ st.parts, PP p ∧ Full p
  nd : (st.parts.map (·.name)).Nodup
  now : match st.now with
    | none => d.begun = []
    | some (p, n) => d.begun = [partM p] ∧ PP p ∧ p.cells.length + n * p.w = p.w * p.h ∧ p.name ∉ st.parts.map (·.name)
  ms : d.marbles = st.drops.map dP
  wd : Mir.Wd d
theorem named_eq {n : List Nat} : ∀ (L : List Xb01.Part), (L.map (·.name)).Nodup → Mir.partNamed (L.map partM).reverse (cB n) = match L.find? (fun p => p.name == n) with
    | none => []
    | some q => [partM q]
  | [], _ => rfl
  | p :: L, h => by
    rw [List.map_cons, List.nodup_cons] at h
    have ih := named_eq (n := n) L h.2
    have e : Mir.partNamed ((p :: L).map partM).reverse (cB n) = Mir.partNamed (L.map partM).reverse (cB n) ++ (if p.name = n then [partM p] else []) := by
      unfold Mir.partNamed
      rw [List.map_cons, List.reverse_cons, List.filter_append]
      congr 1
      rw [List.filter_cons, List.filter_nil]
      by_cases q : p.name = n
      · rw [if_pos q, if_pos (decide_eq_true (by show cB p.name = cB n; rw [q]))]
      · rw [if_neg q, if_neg (by
          rw [decide_eq_true_eq]
          intro z
          exact q (cB_inj z))]
    rw [e, ih, List.find?_cons]
    by_cases q : p.name = n
    · have hno : L.find? (fun p => p.name == n) = none := by
        rw [List.find?_eq_none]
        intro a ha z
        have z : a.name = n := by simpa using z
        exact h.1 (List.mem_map.mpr ⟨a, ha, by rw [z, q]⟩)
      rw [hno, if_pos q, show (p.name == n) = true by simpa using q]
      rfl
    · rw [if_neg q, show (p.name == n) = false by simpa using q]
      cases L.find? (fun p => p.name == n) <;> simp
theorem DR.named {d : Mir.DraftS} {st : ParseState} (h : DR d st) (n : List Nat) : Mir.partNamed d.parts (cB n) = match findPart st n with
    | none => []
    | some q => [partM q] := by
  rw [h.ps]
  exact named_eq st.parts h.nd
theorem DR.plen {d : Mir.DraftS} {st : ParseState} (h : DR d st) : d.parts.length = st.parts.length := by rw [h.ps, List.length_reverse, List.length_map]
theorem DR.last {d : Mir.DraftS} {st : ParseState} {p : Xb01.Part} {ps : List Xb01.Part} (h : DR d st) (e : st.parts = p :: ps) : itm Mir.airP d.parts ((d.parts.length : Int) - 1) = partM p := by
  rw [h.plen, h.ps, e, List.map_cons, List.reverse_cons, List.length_cons]
  unfold itm
  rw [List.getD_eq_getElem?_getD, show (((ps.length + 1 : Nat) : Int) - 1).toNat = ps.length by omega, List.getElem?_append_right (by simp), List.length_reverse, List.length_map, Nat.sub_self]
  rfl
/-- a row of cells -/
theorem row_parse : ∀ (l : List Nat), match l.mapM Xb01.cellOfChar with
    | none => ((cB l).map Mir.isCellSign).all id = false
    | some cs => ((cB l).map Mir.isCellSign).all id = true ∧ cs.map toM = (cB l).map Mir.cellOf ∧ (∀ c ∈ cs, ∀ L, 1 ≤ L → CellOk L c) ∧ cs.length = l.length
  | [] => ⟨rfl, rfl, (fun c h => by cases h), rfl⟩
  | b :: l => by
    have ih := row_parse l
    rw [List.mapM_cons, cB_cons, List.map_cons, List.all_cons, List.map_cons]
    have hs := char_sign b
    cases q : Xb01.cellOfChar b with
    | none =>
      rw [q] at hs
      show (id (Mir.isCellSign (b : Int)) && _) = false
      rw [show id (Mir.isCellSign (b : Int)) = false from hs, Bool.false_and]
    | some c =>
      rw [q] at hs
      obtain ⟨c1, c2, c3, c4⟩ := char_cell q
      cases q2 : l.mapM Xb01.cellOfChar with
      | none =>
        rw [q2] at ih
        show (id (Mir.isCellSign (b : Int)) && _) = false
        rw [ih, Bool.and_false]
      | some cs =>
        rw [q2] at ih
        obtain ⟨i1, i2, i3, i4⟩ := ih
        refine ⟨by rw [show id (Mir.isCellSign (b : Int)) = true from hs, i1]; rfl, by rw [List.map_cons, c1, i2], fun x hx => ?_, by rw [List.length_cons, List.length_cons, i4]⟩
        rcases List.mem_cons.mp hx with e | e
        · rw [e]; exact c2
        · exact i3 x e
/-- what a line's reading comes to -/
def LR (a : Except Nat ParseState) (z : Mir.DraftS × Int) : Prop := match a with
  | .error e => z.2 = (e : Int) ∧ e ≠ 0
  | .ok st => z.2 = 0 ∧ DR z.1 st
theorem LR.one {z : Mir.DraftS × Int} (h : z.2 = 1) : LR (.error 1) z := ⟨h, by decide⟩
section
variable {d : Mir.DraftS} {st : ParseState}
theorem full_iff {p : Xb01.Part} {n : Nat} (hp : PP p) (h : p.cells.length + n * p.w = p.w * p.h) : Mir.isFull (partM p) = decide (n = 0) := by
  unfold Mir.isFull
  refine decide_eq_decide.mpr ?_
  show ((p.cells.map toM).length : Int) = (p.w : Int) * (p.h : Int) ↔ n = 0
  rw [List.length_map, ← Int.natCast_mul]
  have hw := hp.w.1
  constructor
  · intro e
    have : n * p.w = 0 := by omega
    rcases Nat.mul_eq_zero.mp this with a | a
    · exact a
    · omega
  · intro e
    subst e
    rw [Nat.zero_mul] at h
    omega
theorem row_line (h : DR d st) (row : List Nat) : LR (match st.now with
      | some (p, n + 1) => (match Xb01.parseRow p.w row with
        | none => .error 1
        | some cs => .ok { st with now := some ({ p with cells := p.cells ++ cs }, n) })
      | _ => .error 1) (Mir.readRow d (cB (58 :: row))) := by
  have hd : (cB (58 :: row)).drop 1 = cB row := rfl
  have hwd := Mir.readRow_ok (l := cB (58 :: row)) h.wd
  have hnow := h.now
  unfold Mir.readRow at hwd ⊢
  rw [hd] at hwd ⊢
  cases q : st.now with
  | none =>
    rw [q] at hnow
    rw [hnow]
    exact LR.one rfl
  | some pn =>
    obtain ⟨p, n⟩ := pn
    rw [q] at hnow
    obtain ⟨hb, hp, hn, hnm⟩ := hnow
    rw [hb] at hwd ⊢
    dsimp only at hwd ⊢
    rw [full_iff hp hn] at hwd ⊢
    cases n with
    | zero => exact LR.one rfl
    | succ n =>
      dsimp only
      unfold Xb01.parseRow
      have hr := row_parse row
      by_cases hl : row.length ≠ p.w
      · rw [if_pos hl, if_pos (by
          rw [cB_len]
          simp only [Bool.or_eq_true, Bool.not_eq_true', decide_eq_false_iff_not]
          right; left
          show ¬ (row.length : Int) = (p.w : Int)
          omega)]
        exact LR.one rfl
      · rw [if_neg hl]
        have hl : row.length = p.w := by omega
        cases q2 : row.mapM Xb01.cellOfChar with
        | none =>
          rw [q2] at hr
          rw [if_pos (by rw [hr]; simp)]
          exact LR.one rfl
        | some cs =>
          rw [q2] at hr
          obtain ⟨r1, r2, r3, r4⟩ := hr
          have hc : ¬ (decide (n + 1 = 0) || (!decide (((cB row).length : Int) = (partM p).w) || !((cB row).map Mir.isCellSign).all id)) = true := by
            rw [r1, cB_len]
            have : ((row.length : Nat) : Int) = (partM p).w := by show (row.length : Int) = (p.w : Int); omega
            rw [decide_eq_true this]
            simp
          rw [if_neg hc] at hwd ⊢
          refine ⟨rfl, h.ps, h.pk, h.nd, ?_, h.ms, hwd⟩
          refine ⟨?_, ⟨hp.w, hp.h, fun c hcm => ?_, hp.l⟩, ?_, hnm⟩
          · show [_] = [partM { p with cells := p.cells ++ cs }]
            unfold partM
            dsimp only
            rw [List.map_append, r2]
          · rcases List.mem_append.mp hcm with e | e
            · exact hp.c c e
            · exact r3 c e _ hp.l
          · show (p.cells ++ cs).length + n * p.w = p.w * p.h
            rw [List.length_append, r4, hl]
            rw [Nat.add_mul, Nat.one_mul] at hn
            omega
end
end Plain
end
section
set_option linter.all false
set_option maxRecDepth 10000
namespace Plain
open Mir (itm)
open Xb01 (ParseState findPart)
theorem within_eq (w : List Nat) (lo hi : Nat) : Mir.isNumberWithin (cB w) (lo : Int) (hi : Int) = (Mir.isNumber (cB w) && (decide (lo ≤ natOf w) && decide (natOf w ≤ hi))) := by
  unfold Mir.isNumberWithin
  cases q : Mir.isNumber (cB w) with
  | false => rfl
  | true =>
    rw [numberOf_eq q]
    have e1 : decide ((lo : Int) ≤ (natOf w : Int)) = decide (lo ≤ natOf w) := decide_eq_decide.mpr (by omega)
    have e2 : decide ((natOf w : Int) ≤ (hi : Int)) = decide (natOf w ≤ hi) := decide_eq_decide.mpr (by omega)
    rw [e1, e2]
theorem cB_dec (a b : List Nat) : decide (cB a = cB b) = decide (a = b) := decide_eq_decide.mpr ⟨cB_inj, fun e => by rw [e]⟩
section
variable {d : Mir.DraftS} {st : ParseState}
theorem marbles_nil (h : DR d st) : decide (d.marbles.length = 0) = decide (st.drops = []) := by
  rw [h.ms, List.length_map]
  cases st.drops <;> simp
theorem part_line (h : DR d st) (hn : st.now = none) (k : List Nat) (ws : List (List Nat)) : LR (if st.drops ≠ [] then .error 1 else match ws with
      | [n, w, h] => (match Xb01.parseNat? w, Xb01.parseNat? h with
        | some a, some b => if Xb01.isName n = false ∨ a < 1 ∨ Xb01.MAX_SIDE < a ∨ b < 1 ∨ Xb01.MAX_SIDE < b then .error 1 else if (findPart st n).isSome then .error 2 else if Xb01.MAX_PARTS ≤ st.parts.length then .error 5 else .ok { st with now := some (⟨n, a, b, [], 1⟩, b) }
        | _, _ => .error 1)
      | _ => .error 1) (Mir.readPart d ((k :: ws).map cB)) := by
  have hnow := h.now
  rw [hn] at hnow
  have hwd := Mir.readPart_ok (ws := (k :: ws).map cB) h.wd
  have hb0 : decide (d.begun.length = 0) = true := by rw [hnow]; rfl
  unfold Mir.readPart at hwd ⊢
  rw [hb0, marbles_nil h] at hwd ⊢
  by_cases h1 : st.drops ≠ []
  · rw [if_pos h1, if_pos (by simp [h1])]
    exact LR.one rfl
  · rw [if_neg h1]
    have h1 : st.drops = [] := by simpa using h1
    have bad : ¬ ws.length = 3 → LR (.error 1) (if !decide ((((k :: ws).map cB).length : Int) = 4) || (!Mir.isName (itm [] ((k :: ws).map cB) 1) || (!true || !decide (st.drops = []))) then (d, 1)
        else if !Mir.isNumberWithin (itm [] ((k :: ws).map cB) 2) 1 24 || !Mir.isNumberWithin (itm [] ((k :: ws).map cB) 3) 1 24 then (d, 1)
        else if !decide ((Mir.partNamed d.parts (itm [] ((k :: ws).map cB) 1)).length = 0) then (d, 2)
        else if decide (12 ≤ (d.parts.length : Int)) then (d, 5)
        else ({ d with begun := [⟨itm [] ((k :: ws).map cB) 1, Mir.numberOf (itm [] ((k :: ws).map cB) 2), Mir.numberOf (itm [] ((k :: ws).map cB) 3), [], 1⟩] }, 0)) := fun hl => by
      rw [if_pos (by
        rw [List.length_map, List.length_cons]
        simp only [Bool.or_eq_true, Bool.not_eq_true', decide_eq_false_iff_not]
        left
        omega)]
      exact LR.one rfl
    match ws, bad with
    | [], bad => exact bad (by simp)
    | [_], bad => exact bad (by simp)
    | [_, _], bad => exact bad (by simp)
    | _ :: _ :: _ :: _ :: _, bad => exact bad (by simp)
    | [n, w, hh], _ =>
      have i1 : itm [] ([k, n, w, hh].map cB) 1 = cB n := rfl
      have i2 : itm [] ([k, n, w, hh].map cB) 2 = cB w := rfl
      have i3 : itm [] ([k, n, w, hh].map cB) 3 = cB hh := rfl
      have il : decide ((([k, n, w, hh].map cB).length : Int) = 4) = true := rfl
      have w2 := within_eq w 1 24
      have w3 := within_eq hh 1 24
      rw [i1, i2, i3, il, isName_eq] at hwd ⊢
      have w2 : Mir.isNumberWithin (cB w) 1 24 = (Mir.isNumber (cB w) && (decide (1 ≤ natOf w) && decide (natOf w ≤ 24))) := w2
      have w3 : Mir.isNumberWithin (cB hh) 1 24 = (Mir.isNumber (cB hh) && (decide (1 ≤ natOf hh) && decide (natOf hh ≤ 24))) := w3
      rw [w2, w3, h1] at hwd ⊢
      dsimp only
      rw [parseNat_eq, parseNat_eq]
      cases qn : Xb01.isName n with
      | false =>
        have c : (!true || (!false || (!true || !decide (([] : List Xb01.Drop) = [])))) = true := rfl
        rw [if_pos c]
        cases Mir.isNumber (cB w) <;> cases Mir.isNumber (cB hh) <;> exact LR.one rfl
      | true =>
        rw [qn] at hwd
        have c0 : ¬ (!true || (!true || (!true || !decide (([] : List Xb01.Drop) = [])))) = true := by simp
        rw [if_neg c0] at hwd ⊢
        cases q1 : Mir.isNumber (cB w) with
        | false =>
          have c : (!(false && (decide (1 ≤ natOf w) && decide (natOf w ≤ 24))) || !(Mir.isNumber (cB hh) && (decide (1 ≤ natOf hh) && decide (natOf hh ≤ 24)))) = true := rfl
          rw [if_pos c]
          cases Mir.isNumber (cB hh) <;> exact LR.one rfl
        | true =>
          cases q2 : Mir.isNumber (cB hh) with
          | false =>
            have c : (!(true && (decide (1 ≤ natOf w) && decide (natOf w ≤ 24))) || !(false && (decide (1 ≤ natOf hh) && decide (natOf hh ≤ 24)))) = true := by simp
            rw [if_pos c]
            exact LR.one rfl
          | true =>
            rw [q1, q2] at hwd
            rw [if_pos rfl, if_pos rfl]
            dsimp only
            have e24 : Xb01.MAX_SIDE = 24 := rfl
            have e12 : Xb01.MAX_PARTS = 12 := rfl
            rw [e24, e12]
            by_cases hb : natOf w < 1 ∨ 24 < natOf w ∨ natOf hh < 1 ∨ 24 < natOf hh
            · rw [if_pos (.inr hb), if_pos (by
                simp only [Bool.true_and, Bool.or_eq_true, Bool.not_eq_true', Bool.and_eq_false_iff, decide_eq_false_iff_not]
                omega)]
              exact LR.one rfl
            · have hb2 : ¬ (!(true && (decide (1 ≤ natOf w) && decide (natOf w ≤ 24))) || !(true && (decide (1 ≤ natOf hh) && decide (natOf hh ≤ 24)))) = true := by
                simp only [Bool.true_and, Bool.or_eq_true, Bool.not_eq_true', Bool.and_eq_false_iff, decide_eq_false_iff_not]
                omega
              rw [if_neg (by
                rintro (z | z)
                · cases z
                · exact hb z), if_neg hb2]
              rw [if_neg hb2] at hwd
              rw [h.named, h.plen] at hwd ⊢
              cases qf : findPart st n with
              | some q => exact ⟨rfl, by decide⟩
              | none =>
                rw [qf] at hwd
                dsimp only at hwd ⊢
                have c1 : ¬ (!decide (([] : List Mir.PartD).length = 0)) = true := by simp
                rw [if_neg c1] at hwd ⊢
                rw [if_neg (by simp)]
                by_cases hl : 12 ≤ st.parts.length
                · rw [if_pos hl, if_pos (by rw [decide_eq_true_eq]; omega)]
                  exact ⟨rfl, by decide⟩
                · have c2 : ¬ decide ((12 : Int) ≤ (st.parts.length : Int)) = true := by rw [decide_eq_true_eq]; omega
                  rw [if_neg hl, if_neg c2]
                  rw [if_neg c2, numberOf_eq q1, numberOf_eq q2] at hwd
                  rw [numberOf_eq q1, numberOf_eq q2]
                  refine ⟨rfl, h.ps, h.pk, h.nd, ⟨rfl, ⟨by show 1 ≤ natOf w ∧ natOf w ≤ 24; omega, by show 1 ≤ natOf hh ∧ natOf hh ≤ 24; omega, (fun c hc => by cases hc), Nat.le_refl _⟩, ?_, ?_⟩, by show d.marbles = _; rw [h.ms, h1], hwd⟩
                  · show 0 + natOf hh * natOf w = natOf w * natOf hh
                    rw [Nat.zero_add, Nat.mul_comm]
                  · intro z
                    obtain ⟨a, ha, e⟩ := List.mem_map.mp z
                    unfold findPart at qf
                    rw [List.find?_eq_none] at qf
                    exact qf a ha (by simpa using e)
theorem end_line (h : DR d st) {p : Xb01.Part} (hn : st.now = some (p, 0)) (k : List Nat) (ws : List (List Nat)) : LR (if ws = [] then .ok { st with parts := p :: st.parts, now := none } else .error 1) (Mir.readEnd d ((k :: ws).map cB)) := by
  have hnow := h.now
  rw [hn] at hnow
  obtain ⟨hb, hp, hc, hnm⟩ := hnow
  have hwd := Mir.readEnd_ok (ws := (k :: ws).map cB) h.wd
  unfold Mir.readEnd at hwd ⊢
  rw [hb] at hwd ⊢
  dsimp only at hwd ⊢
  rw [full_iff hp hc, List.length_map, List.length_cons] at hwd ⊢
  by_cases hw : ws = []
  · subst hw
    rw [if_pos rfl]
    have c : ¬ (!decide (((([] : List (List Nat)).length + 1 : Nat) : Int) = 1) || !decide (0 = 0)) = true := by simp
    rw [if_neg c] at hwd ⊢
    refine ⟨rfl, ?_, ?_, ?_, rfl, h.ms, hwd⟩
    · show d.parts ++ [partM p] = _
      rw [h.ps, List.map_cons, List.reverse_cons]
    · intro q hq
      rcases List.mem_cons.mp hq with e | e
      · rw [e]
        exact ⟨hp, by show p.cells.length = p.w * p.h; omega⟩
      · exact h.pk q e
    · show ((p :: st.parts).map (·.name)).Nodup
      rw [List.map_cons, List.nodup_cons]
      exact ⟨hnm, h.nd⟩
  · rw [if_neg hw, if_pos (by
      have : 1 ≤ ws.length := by cases ws <;> simp_all
      simp only [Bool.or_eq_true, Bool.not_eq_true', decide_eq_false_iff_not]
      left
      omega)]
    exact LR.one rfl
end
end Plain
end
section
set_option linter.all false
set_option maxRecDepth 10000
namespace Plain
open Mir (itm)
open Xb01 (ParseState findPart)
theorem copies_eq {q : Xb01.Part} {mirror : Bool} {x y ax dn : Int} (hq : PP q) (fq : Full q) : ∀ (n k : Nat) (p : Xb01.Part), PP p → Full p → match Xb01.placeParts q mirror ax dn n (x + (k : Int) * ax) (y + (k : Int) * dn) p with
    | .error e => (Mir.copies (partM q) ((List.range (q.w * q.h)).map fun i => toM (cv q mirror i)) x y ax dn n k (partM p)).2 = (e : Int) ∧ e ≠ 0
    | .ok r => Mir.copies (partM q) ((List.range (q.w * q.h)).map fun i => toM (cv q mirror i)) x y ax dn n k (partM p) = (partM r, 0) ∧ PP r ∧ Full r ∧ r.name = p.name
  | 0, k, p, hp, fp => ⟨rfl, hp, fp, rfl⟩
  | n + 1, k, p, hp, fp => by
    have h1 := place_eq (x := x + (k : Int) * ax) (y := y + (k : Int) * dn) (mirror := mirror) hp fp hq fq
    have e : Mir.copies (partM q) ((List.range (q.w * q.h)).map fun i => toM (cv q mirror i)) x y ax dn (n + 1) k (partM p) = (let z := Mir.copyInto (partM p) (partM q) ((List.range (q.w * q.h)).map fun i => toM (cv q mirror i)) (x + (k : Int) * ax) (y + (k : Int) * dn)
      if !decide (z.2 = 0) then z else Mir.copies (partM q) ((List.range (q.w * q.h)).map fun i => toM (cv q mirror i)) x y ax dn n (k + 1) z.1) := rfl
    have e2 : Xb01.placeParts q mirror ax dn (n + 1) (x + (k : Int) * ax) (y + (k : Int) * dn) p = (match Xb01.placePart p q (x + (k : Int) * ax) (y + (k : Int) * dn) mirror with
      | .error e => .error e
      | .ok r => Xb01.placeParts q mirror ax dn n (x + (k : Int) * ax + ax) (y + (k : Int) * dn + dn) r) := rfl
    rw [e, e2]
    cases hpl : Xb01.placePart p q (x + (k : Int) * ax) (y + (k : Int) * dn) mirror with
    | error er =>
      rw [hpl] at h1
      obtain ⟨h2, h3⟩ := h1
      rw [h2]
      dsimp only
      rw [if_pos (by
        rw [Bool.not_eq_true', decide_eq_false_iff_not]
        omega)]
      exact ⟨rfl, h3⟩
    | ok r =>
      rw [hpl] at h1
      obtain ⟨h2, h3, h4, h5, h6, h7⟩ := h1
      rw [h2]
      dsimp only
      have c : ¬ (!decide ((0 : Int) = 0)) = true := by decide
      rw [if_neg c]
      have e3 : x + (k : Int) * ax + ax = x + ((k + 1 : Nat) : Int) * ax := by rw [Int.natCast_add, Int.add_mul]; omega
      have e4 : y + (k : Int) * dn + dn = y + ((k + 1 : Nat) : Int) * dn := by rw [Int.natCast_add, Int.add_mul]; omega
      rw [e3, e4]
      have ih := copies_eq (x := x) (y := y) (ax := ax) (dn := dn) (mirror := mirror) hq fq n (k + 1) r h3 h4
      cases hz : Xb01.placeParts q mirror ax dn n (x + ((k + 1 : Nat) : Int) * ax) (y + ((k + 1 : Nat) : Int) * dn) r with
      | error er =>
        rw [hz] at ih
        exact ih
      | ok z =>
        rw [hz] at ih
        exact ⟨ih.1, ih.2.1, ih.2.2.1, ih.2.2.2.trans h7⟩
theorem times4 (t n a b : List Nat) : Mir.isTimes [cB t, cB n, cB a, cB b] = (decide (t = Xb01.wordTimes) && ((Mir.isNumber (cB n) && (decide (1 ≤ natOf n) && decide (natOf n ≤ 12))) && (Mir.isSigned (cB a) && Mir.isSigned (cB b)))) := by
  unfold Mir.isTimes
  have i0 : itm [] [cB t, cB n, cB a, cB b] 0 = cB t := rfl
  have i1 : itm [] [cB t, cB n, cB a, cB b] 1 = cB n := rfl
  have i2 : itm [] [cB t, cB n, cB a, cB b] 2 = cB a := rfl
  have i3 : itm [] [cB t, cB n, cB a, cB b] 3 = cB b := rfl
  have il : decide ((([cB t, cB n, cB a, cB b] : List (List Int)).length : Int) = 4) = true := rfl
  have bt : Mir.bTimes = cB Xb01.wordTimes := rfl
  have w := within_eq n 1 12
  have w : Mir.isNumberWithin (cB n) 1 12 = (Mir.isNumber (cB n) && (decide (1 ≤ natOf n) && decide (natOf n ≤ 12))) := w
  rw [i0, i1, i2, i3, il, bt, cB_dec, w]
  cases decide (t = Xb01.wordTimes) <;> cases (Mir.isNumber (cB n) && (decide (1 ≤ natOf n) && decide (natOf n ≤ 12))) <;> rfl
theorem times_len {ws : List (List Int)} (h : ws.length ≠ 4) : Mir.isTimes ws = false := by
  unfold Mir.isTimes
  rw [if_pos (by
    simp only [Bool.or_eq_true, Bool.not_eq_true', decide_eq_false_iff_not]
    left
    omega)]
/-- the end of a put's line, in the mirror -/
def PlOk (more : List (List Nat)) (o : Option (Bool × Nat × Int × Int)) : Prop := match o with
  | none => (decide ((Mir.behindMirror (more.map cB)).length = 0) || Mir.isTimes (Mir.behindMirror (more.map cB))) = false
  | some (mir, n, a, b) => (decide ((Mir.behindMirror (more.map cB)).length = 0) || Mir.isTimes (Mir.behindMirror (more.map cB))) = true ∧ decide (((Mir.behindMirror (more.map cB)).length : Int) = (more.length : Int)) = !mir ∧
      (if !decide ((Mir.behindMirror (more.map cB)).length = 0) then (Mir.numberOf (itm [] (Mir.behindMirror (more.map cB)) 1), Mir.signedOf (itm [] (Mir.behindMirror (more.map cB)) 2), Mir.signedOf (itm [] (Mir.behindMirror (more.map cB)) 3)) else ((1, 0, 0) : Int × Int × Int)) = ((n : Int), a, b)
theorem behind_cons (m : List Nat) (r : List (List Nat)) : Mir.behindMirror ((m :: r).map cB) = if m = Xb01.wordMirror then r.map cB else (m :: r).map cB := by
  unfold Mir.behindMirror
  have e : ((m :: r).map cB).take 1 = [cB m] := rfl
  have e2 : ((m :: r).map cB).drop 1 = r.map cB := rfl
  have bm : Mir.bMirror = cB Xb01.wordMirror := rfl
  rw [e, e2, bm]
  have : decide ([cB m] = [cB Xb01.wordMirror]) = decide (m = Xb01.wordMirror) := decide_eq_decide.mpr ⟨fun z => cB_inj (by injection z), fun z => by rw [z]⟩
  rw [this]
  by_cases z : m = Xb01.wordMirror
  · rw [if_pos z, if_pos (decide_eq_true z)]
  · rw [if_neg z, if_neg (by simpa using z)]
theorem four_eq (mir : Bool) (t n a b : List Nat) (g : Prop) [Decidable g] (hg : g ↔ t = Xb01.wordTimes) : match (if g then (match Xb01.parseNat? n, Xb01.parseInt? a, Xb01.parseInt? b with
      | some k, some x, some y => if 1 ≤ k ∧ k ≤ 12 then some (mir, k, x, y) else none
      | _, _, _ => none) else (none : Option (Bool × Nat × Int × Int))) with
    | none => Mir.isTimes [cB t, cB n, cB a, cB b] = false
    | some (m', k, x, y) => Mir.isTimes [cB t, cB n, cB a, cB b] = true ∧ m' = mir ∧ Mir.numberOf (cB n) = (k : Int) ∧ Mir.signedOf (cB a) = x ∧ Mir.signedOf (cB b) = y := by
  rw [times4]
  by_cases h : g
  · rw [if_pos h, decide_eq_true (hg.mp h), parseNat_eq, parseInt_eq, parseInt_eq]
    cases q1 : Mir.isNumber (cB n) with
    | false => rfl
    | true =>
      cases q2 : Mir.isSigned (cB a) with
      | false => simp
      | true =>
        cases q3 : Mir.isSigned (cB b) with
        | false => simp
        | true =>
          simp only [if_true]
          by_cases h2 : 1 ≤ natOf n ∧ natOf n ≤ 12
          · rw [if_pos h2]
            exact ⟨by simp [h2.1, h2.2], rfl, numberOf_eq q1, rfl, rfl⟩
          · rw [if_neg h2]
            simp only [Bool.true_and, Bool.and_true, Bool.and_eq_false_iff, decide_eq_false_iff_not]
            omega
  · rw [if_neg h, decide_eq_false (fun z => h (hg.mpr z))]
    rfl
theorem placement_eq (more : List (List Nat)) : PlOk more (Xb01.parsePlacement more) := by
  unfold PlOk
  match more with
  | [] => exact ⟨rfl, rfl, rfl⟩
  | [m] =>
    have hp : Xb01.parsePlacement [m] = (if m = Xb01.wordMirror then some (true, 1, 0, 0) else none) := rfl
    rw [hp, behind_cons]
    by_cases z : m = Xb01.wordMirror
    · rw [if_pos z, if_pos z]
      exact ⟨rfl, rfl, rfl⟩
    · rw [if_neg z, if_neg z]
      rfl
  | [m, a] =>
    show (decide _ || _) = false
    rw [behind_cons]
    by_cases z : m = Xb01.wordMirror
    · rw [if_pos z]; rfl
    · rw [if_neg z]; rfl
  | [m, a, b] =>
    show (decide _ || _) = false
    rw [behind_cons]
    by_cases z : m = Xb01.wordMirror
    · rw [if_pos z]; rfl
    · rw [if_neg z]; rfl
  | [t, n, a, b] =>
    have h4 := four_eq false t n a b (t = Xb01.wordTimes) Iff.rfl
    have hp : Xb01.parsePlacement [t, n, a, b] = (if t = Xb01.wordTimes then (match Xb01.parseNat? n, Xb01.parseInt? a, Xb01.parseInt? b with
      | some k, some x, some y => if 1 ≤ k ∧ k ≤ 12 then some (false, k, x, y) else none
      | _, _, _ => none) else none) := rfl
    rw [hp, behind_cons]
    by_cases z : t = Xb01.wordMirror
    · have nt : ¬ t = Xb01.wordTimes := by rw [z]; decide
      rw [if_neg nt, if_pos z]
      rfl
    · rw [if_neg z]
      generalize (if t = Xb01.wordTimes then (match Xb01.parseNat? n, Xb01.parseInt? a, Xb01.parseInt? b with
        | some k, some x, some y => if 1 ≤ k ∧ k ≤ 12 then some (false, k, x, y) else none
        | _, _, _ => none) else (none : Option (Bool × Nat × Int × Int))) = o at *
      cases o with
      | none => exact h4
      | some r =>
        obtain ⟨m', k, x, y⟩ := r
        obtain ⟨a1, a2, a3, a4, a5⟩ := h4
        subst a2
        refine ⟨by show (false || _) = true; exact a1, rfl, ?_⟩
        show (Mir.numberOf (cB n), Mir.signedOf (cB a), Mir.signedOf (cB b)) = _
        rw [a3, a4, a5]
  | [m, t, n, a, b] =>
    have h4 := four_eq true t n a b (m = Xb01.wordMirror ∧ t = Xb01.wordTimes)
    have hp : Xb01.parsePlacement [m, t, n, a, b] = (if m = Xb01.wordMirror ∧ t = Xb01.wordTimes then (match Xb01.parseNat? n, Xb01.parseInt? a, Xb01.parseInt? b with
      | some k, some x, some y => if 1 ≤ k ∧ k ≤ 12 then some (true, k, x, y) else none
      | _, _, _ => none) else none) := rfl
    rw [hp, behind_cons]
    by_cases z : m = Xb01.wordMirror
    · have h4 := h4 (by simp [z])
      rw [if_pos z]
      generalize (if m = Xb01.wordMirror ∧ t = Xb01.wordTimes then (match Xb01.parseNat? n, Xb01.parseInt? a, Xb01.parseInt? b with
        | some k, some x, some y => if 1 ≤ k ∧ k ≤ 12 then some (true, k, x, y) else none
        | _, _, _ => none) else (none : Option (Bool × Nat × Int × Int))) = o at *
      cases o with
      | none => exact h4
      | some r =>
        obtain ⟨m', k, x, y⟩ := r
        obtain ⟨a1, a2, a3, a4, a5⟩ := h4
        subst a2
        refine ⟨by show (false || _) = true; exact a1, rfl, ?_⟩
        show (Mir.numberOf (cB n), Mir.signedOf (cB a), Mir.signedOf (cB b)) = _
        rw [a3, a4, a5]
    · rw [if_neg (fun e => z e.1), if_neg z]
      rfl
  | m :: a :: b :: c :: e :: f :: r =>
    show (decide _ || _) = false
    rw [behind_cons]
    by_cases z : m = Xb01.wordMirror
    · rw [if_pos z]
      rw [times_len (by simp), Bool.or_false]
      simp
    · rw [if_neg z]
      rw [times_len (by simp), Bool.or_false]
      simp
end Plain
end
section
set_option linter.all false
set_option maxRecDepth 10000
namespace Plain
open Mir (itm)
open Xb01 (ParseState findPart)
section
variable {d : Mir.DraftS} {st : ParseState}
theorem find_mem {n : List Nat} {q : Xb01.Part} (h : findPart st n = some q) : q ∈ st.parts := List.mem_of_find?_eq_some h
theorem put_short (h : ∀ ws : List (List Int), ws.length < 4 → Mir.isPut ws = false) : True := trivial
theorem isPut_short {ws : List (List Int)} (h : ws.length < 4) : Mir.isPut ws = false := by
  unfold Mir.isPut
  rw [if_pos (by
    simp only [Bool.or_eq_true, decide_eq_true_eq]
    left
    omega)]
theorem isPut_long (k m x y : List Nat) (more : List (List Nat)) : Mir.isPut ((k :: m :: x :: y :: more).map cB) = ((Xb01.isName m && (Mir.isSigned (cB x) && Mir.isSigned (cB y))) && (decide ((Mir.behindMirror (more.map cB)).length = 0) || Mir.isTimes (Mir.behindMirror (more.map cB)))) := by
  unfold Mir.isPut
  have i1 : itm [] ((k :: m :: x :: y :: more).map cB) 1 = cB m := rfl
  have i2 : itm [] ((k :: m :: x :: y :: more).map cB) 2 = cB x := rfl
  have i3 : itm [] ((k :: m :: x :: y :: more).map cB) 3 = cB y := rfl
  have i4 : ((k :: m :: x :: y :: more).map cB).drop 4 = more.map cB := rfl
  have il : decide ((((k :: m :: x :: y :: more).map cB).length : Int) < 4) = false := by
    rw [List.length_map]
    simp only [List.length_cons, decide_eq_false_iff_not]
    omega
  rw [i1, i2, i3, i4, il, isName_eq]
  cases Xb01.isName m <;> cases Mir.isSigned (cB x) <;> cases Mir.isSigned (cB y) <;> rfl
theorem put_line (h : DR d st) {p : Xb01.Part} (hn : st.now = some (p, 0)) (k : List Nat) (ws : List (List Nat)) : LR (match ws with
      | m :: x :: y :: more => (match Xb01.parseInt? x, Xb01.parseInt? y, Xb01.parsePlacement more with
        | some x, some y, some how => if Xb01.isName m = false then .error 1 else (match findPart st m with
          | none => .error 2
          | some q => match Xb01.placeParts q how.1 how.2.2.1 how.2.2.2 how.2.1 x y p with
            | .error e => .error e
            | .ok z => .ok { st with now := some (z, 0) })
        | _, _, _ => .error 1)
      | _ => .error 1) (Mir.readPut d ((k :: ws).map cB)) := by
  have hnow := h.now
  rw [hn] at hnow
  obtain ⟨hb, hp, hc, hnm⟩ := hnow
  have hwd := Mir.readPut_ok (ws := (k :: ws).map cB) h.wd
  have ff := full_iff hp hc
  have ff : Mir.isFull (partM p) = true := by rw [ff]; rfl
  have fp : Full p := by show p.cells.length = p.w * p.h; omega
  have bad : Mir.isPut ((k :: ws).map cB) = false → LR (.error 1) (Mir.readPut d ((k :: ws).map cB)) := fun e => by
    unfold Mir.readPut
    rw [hb]
    dsimp only
    rw [e, if_pos (by simp)]
    exact LR.one rfl
  match ws, bad, hwd with
  | [], bad, _ => exact bad (isPut_short (by simp))
  | [_], bad, _ => exact bad (isPut_short (by simp))
  | [_, _], bad, _ => exact bad (isPut_short (by simp))
  | m :: x :: y :: more, bad, hwd =>
    rw [isPut_long] at bad
    dsimp only
    rw [parseInt_eq, parseInt_eq]
    cases q1 : Mir.isSigned (cB x) with
    | false => exact bad (by rw [q1]; simp)
    | true =>
    cases q2 : Mir.isSigned (cB y) with
    | false => exact bad (by rw [q2]; simp)
    | true =>
    rw [if_pos rfl, if_pos rfl]
    have hpl := placement_eq more
    cases q3 : Xb01.parsePlacement more with
    | none =>
      rw [q3] at hpl
      have hpl : (decide ((Mir.behindMirror (more.map cB)).length = 0) || Mir.isTimes (Mir.behindMirror (more.map cB))) = false := hpl
      exact bad (by rw [hpl]; simp)
    | some how =>
    rw [q3] at hpl
    obtain ⟨mir, nn, ax, dn⟩ := how
    obtain ⟨l1, l2, l3⟩ := hpl
    dsimp only
    cases q4 : Xb01.isName m with
    | false => 
      rw [if_pos rfl]
      exact bad (by rw [q4]; simp)
    | true =>
    rw [if_neg (by simp)]
    have hput : Mir.isPut ((k :: m :: x :: y :: more).map cB) = true := by rw [isPut_long, q1, q2, q4, l1]; rfl
    unfold Mir.readPut at hwd ⊢
    rw [hb] at hwd ⊢
    dsimp only at hwd ⊢
    rw [hput, ff] at hwd ⊢
    have c : ¬ ((!true || !true) = true) := by simp
    rw [if_neg c] at hwd ⊢
    have i1 : itm [] ((k :: m :: x :: y :: more).map cB) 1 = cB m := rfl
    have i2 : itm [] ((k :: m :: x :: y :: more).map cB) 2 = cB x := rfl
    have i3 : itm [] ((k :: m :: x :: y :: more).map cB) 3 = cB y := rfl
    have i4 : ((k :: m :: x :: y :: more).map cB).drop 4 = more.map cB := rfl
    have il : (((k :: m :: x :: y :: more).map cB).length : Int) - 4 = (more.length : Int) := by
      rw [List.length_map]
      simp only [List.length_cons]
      omega
    rw [i1, i2, i3, i4, il, h.named] at hwd ⊢
    cases qf : findPart st m with
    | none =>
      rw [qf] at hwd
      exact ⟨rfl, by decide⟩
    | some q =>
    rw [qf] at hwd
    dsimp only at hwd ⊢
    obtain ⟨hq, fq⟩ := h.pk q (find_mem qf)
    have hcells : (if decide (((Mir.behindMirror (more.map cB)).length : Int) = (more.length : Int)) then (partM q).cells else Mir.mirroredCells (partM q)) = (List.range (q.w * q.h)).map fun i => toM (cv q mir i) := by
      rw [l2]
      cases mir with
      | false => exact cells_plain hq fq
      | true => exact cells_mirrored hq fq
    rw [hcells, l3] at hwd ⊢
    dsimp only at hwd ⊢
    have hk := copies_eq (x := Mir.signedOf (cB x)) (y := Mir.signedOf (cB y)) (ax := ax) (dn := dn) (mirror := mir) hq fq nn 0 p hp fp
    have z1 : Mir.signedOf (cB x) + ((0 : Nat) : Int) * ax = Mir.signedOf (cB x) := by rw [Int.natCast_zero, Int.zero_mul, Int.add_zero]
    have z2 : Mir.signedOf (cB y) + ((0 : Nat) : Int) * dn = Mir.signedOf (cB y) := by rw [Int.natCast_zero, Int.zero_mul, Int.add_zero]
    rw [z1, z2] at hk
    rw [Int.toNat_natCast] at hwd ⊢
    cases qp : Xb01.placeParts q mir ax dn nn (Mir.signedOf (cB x)) (Mir.signedOf (cB y)) p with
    | error e =>
      rw [qp] at hk
      exact hk
    | ok r =>
      rw [qp] at hk
      obtain ⟨k1, k2, k3, k4⟩ := hk
      rw [k1] at hwd ⊢
      refine ⟨rfl, h.ps, h.pk, h.nd, ⟨rfl, k2, ?_, by rw [k4]; exact hnm⟩, h.ms, hwd⟩
      have k3 : r.cells.length = r.w * r.h := k3
      show r.cells.length + 0 * r.w = r.w * r.h
      omega
end
end Plain
end
section
set_option linter.all false
set_option maxRecDepth 10000
namespace Plain
open Mir (itm)
open Xb01 (ParseState findPart)
theorem number_len {w : List Nat} (h : Mir.isNumber (cB w) = true) : w.length ≤ 3 := by
  unfold Mir.isNumber at h
  split at h
  · cases h
  · rename_i z
    rw [cB_len] at z
    simp only [Bool.or_eq_true, Bool.not_eq_true', not_or, Bool.not_eq_false, decide_eq_true_eq] at z
    omega
theorem natOf_999 {w : List Nat} (h : Mir.isNumber (cB w) = true) : natOf w ≤ 999 := by
  have h1 := number_len h
  have h2 := number_dig h
  unfold dig at h2
  unfold natOf
  match w, h1, h2 with
  | [], _, _ => simp
  | [a], _, h2 =>
    simp only [List.all_cons, List.all_nil, Bool.and_true, Bool.and_eq_true, decide_eq_true_eq] at h2
    simp only [List.foldl_cons, List.foldl_nil]
    omega
  | [a, b], _, h2 =>
    simp only [List.all_cons, List.all_nil, Bool.and_true, Bool.and_eq_true, decide_eq_true_eq] at h2
    simp only [List.foldl_cons, List.foldl_nil]
    omega
  | [a, b, c], _, h2 =>
    simp only [List.all_cons, List.all_nil, Bool.and_true, Bool.and_eq_true, decide_eq_true_eq] at h2
    simp only [List.foldl_cons, List.foldl_nil]
    omega
  | _ :: _ :: _ :: _ :: _, h1, _ => simp at h1
theorem dropsOf_eq (x t d n : Nat) : Mir.dropsOf (x : Int) (t : Int) (d : Int) (n : Int) = ((List.range n).map fun i => (⟨x, t + i * d⟩ : Xb01.Drop)).map dP := by
  unfold Mir.dropsOf Mir.rng
  rw [show ((n : Int) - 0).toNat = n by omega, List.map_map, List.map_map]
  refine List.map_congr_left fun i _ => ?_
  show ((x : Int), (t : Int) + (0 + (i : Int)) * (d : Int)) = ((x : Int), ((t + i * d : Nat) : Int))
  rw [Int.zero_add, Int.natCast_add, Int.natCast_mul]
theorem drops_one (x t : Nat) : Mir.dropsOf (x : Int) (t : Int) 0 1 = ((List.range 1).map fun i => (⟨x, t + i * 1⟩ : Xb01.Drop)).map dP := by
  have := dropsOf_eq x t 0 1
  have e : Mir.dropsOf (x : Int) (t : Int) 0 1 = ((List.range 1).map fun i => (⟨x, t + i * 0⟩ : Xb01.Drop)).map dP := this
  rw [e]
  rfl
/-- the end of a drop's line, in the document -/
def tailOf (more : List (List Nat)) : Option (Nat × Nat) := match more with
  | [] => some (1, 1)
  | [e, d, s, n] => if e = Xb01.wordEvery ∧ s = Xb01.wordTimes then (match Xb01.parseNat? d, Xb01.parseNat? n with
    | some d, some n => if 1 ≤ d ∧ 1 ≤ n then some (d, n) else none
    | _, _ => none) else none
  | _ => none
def howOf (ws : List (List Int)) : Int × Int := if decide (3 < (ws.length : Int)) then (Mir.numberOf (itm [] ws 4), Mir.numberOf (itm [] ws 6)) else (0, 1)
theorem every4 (e d s n : List Nat) : Mir.isEvery [cB e, cB d, cB s, cB n] = ((decide (e = Xb01.wordEvery) && decide (s = Xb01.wordTimes)) && ((Mir.isNumber (cB d) && decide (1 ≤ natOf d)) && (Mir.isNumber (cB n) && decide (1 ≤ natOf n)))) := by
  unfold Mir.isEvery
  have i0 : itm [] [cB e, cB d, cB s, cB n] 0 = cB e := rfl
  have i1 : itm [] [cB e, cB d, cB s, cB n] 1 = cB d := rfl
  have i2 : itm [] [cB e, cB d, cB s, cB n] 2 = cB s := rfl
  have i3 : itm [] [cB e, cB d, cB s, cB n] 3 = cB n := rfl
  have il : decide ((([cB e, cB d, cB s, cB n] : List (List Int)).length : Int) = 4) = true := rfl
  have bt : Mir.bTimes = cB Xb01.wordTimes := rfl
  have be : Mir.bEvery = cB Xb01.wordEvery := rfl
  have w1 : ∀ w : List Nat, Mir.isNumberWithin (cB w) 1 999 = (Mir.isNumber (cB w) && decide (1 ≤ natOf w)) := fun w => by
    have z := within_eq w 1 999
    have z : Mir.isNumberWithin (cB w) 1 999 = (Mir.isNumber (cB w) && (decide (1 ≤ natOf w) && decide (natOf w ≤ 999))) := z
    rw [z]
    cases q : Mir.isNumber (cB w) with
    | false => rfl
    | true => rw [decide_eq_true (natOf_999 q), Bool.and_true]
  rw [i0, i1, i2, i3, il, bt, be, cB_dec, cB_dec, w1, w1]
  cases decide (e = Xb01.wordEvery) <;> cases decide (s = Xb01.wordTimes) <;> rfl
theorem every_len {ws : List (List Int)} (h : ws.length ≠ 4) : Mir.isEvery ws = false := by
  unfold Mir.isEvery
  rw [if_pos (by
    simp only [Bool.or_eq_true, Bool.not_eq_true', decide_eq_false_iff_not]
    left
    omega)]
theorem tail_eq (k x t : List Nat) (more : List (List Nat)) : match tailOf more with
    | none => (decide ((((k :: x :: t :: more).map cB).length : Int) = 3) || Mir.isEvery (more.map cB)) = false
    | some (d, n) => (decide ((((k :: x :: t :: more).map cB).length : Int) = 3) || Mir.isEvery (more.map cB)) = true ∧ (howOf ((k :: x :: t :: more).map cB)).2 = (n : Int) ∧ ∀ a b : Nat, Mir.dropsOf (a : Int) (b : Int) (howOf ((k :: x :: t :: more).map cB)).1 (howOf ((k :: x :: t :: more).map cB)).2 = ((List.range n).map fun i => (⟨a, b + i * d⟩ : Xb01.Drop)).map dP := by
  have bad : more ≠ [] → more.length ≠ 4 → (decide ((((k :: x :: t :: more).map cB).length : Int) = 3) || Mir.isEvery (more.map cB)) = false := fun h1 h2 => by
    rw [every_len (by rw [List.length_map]; exact h2), Bool.or_false, List.length_map]
    have : 1 ≤ more.length := by cases more <;> simp_all
    simp only [List.length_cons, decide_eq_false_iff_not]
    omega
  match more, bad with
  | [], _ => exact ⟨rfl, rfl, drops_one⟩
  | [_], bad => exact bad (by simp) (by simp)
  | [_, _], bad => exact bad (by simp) (by simp)
  | [_, _, _], bad => exact bad (by simp) (by simp)
  | _ :: _ :: _ :: _ :: _ :: _, bad => exact bad (by simp) (by simp)
  | [e, d, s, n], _ =>
    have ht : tailOf [e, d, s, n] = (if e = Xb01.wordEvery ∧ s = Xb01.wordTimes then (match Xb01.parseNat? d, Xb01.parseNat? n with
      | some d, some n => if 1 ≤ d ∧ 1 ≤ n then some (d, n) else none
      | _, _ => none) else none) := rfl
    have hh : howOf ([k, x, t, e, d, s, n].map cB) = (Mir.numberOf (cB d), Mir.numberOf (cB n)) := rfl
    have hl : decide ((([k, x, t, e, d, s, n].map cB).length : Int) = 3) = false := rfl
    have hm : ([e, d, s, n] : List (List Nat)).map cB = [cB e, cB d, cB s, cB n] := rfl
    rw [ht, hh, hl, hm, every4, parseNat_eq, parseNat_eq]
    by_cases h : e = Xb01.wordEvery ∧ s = Xb01.wordTimes
    · rw [if_pos h, decide_eq_true h.1, decide_eq_true h.2]
      cases q1 : Mir.isNumber (cB d) with
      | false => rfl
      | true =>
      cases q2 : Mir.isNumber (cB n) with
      | false => simp
      | true =>
      rw [if_pos rfl, if_pos rfl]
      dsimp only
      by_cases h2 : 1 ≤ natOf d ∧ 1 ≤ natOf n
      · rw [if_pos h2]
        refine ⟨by simp [h2.1, h2.2], numberOf_eq q2, fun a b => ?_⟩
        rw [numberOf_eq q1, numberOf_eq q2]
        exact dropsOf_eq a b _ _
      · rw [if_neg h2]
        simp only [Bool.true_and, Bool.and_true, Bool.false_or, Bool.and_eq_false_iff, decide_eq_false_iff_not]
        omega
    · rw [if_neg h]
      show (false || ((decide (e = Xb01.wordEvery) && decide (s = Xb01.wordTimes)) && _)) = false
      have : (decide (e = Xb01.wordEvery) && decide (s = Xb01.wordTimes)) = false := by
        simp only [Bool.and_eq_false_iff, decide_eq_false_iff_not]
        by_cases a : e = Xb01.wordEvery
        · exact .inr fun b => h ⟨a, b⟩
        · exact .inl a
      rw [this]
      rfl
section
variable {d : Mir.DraftS} {st : ParseState}
theorem isDrop_long (k x t : List Nat) (more : List (List Nat)) : Mir.isDrop ((k :: x :: t :: more).map cB) = ((Mir.isNumber (cB x) && Mir.isNumber (cB t)) && (decide ((((k :: x :: t :: more).map cB).length : Int) = 3) || Mir.isEvery (more.map cB))) := by
  unfold Mir.isDrop
  have i1 : itm [] ((k :: x :: t :: more).map cB) 1 = cB x := rfl
  have i2 : itm [] ((k :: x :: t :: more).map cB) 2 = cB t := rfl
  have i4 : ((k :: x :: t :: more).map cB).drop 3 = more.map cB := rfl
  have il : decide ((((k :: x :: t :: more).map cB).length : Int) < 3) = false := by
    rw [List.length_map]
    simp only [List.length_cons, decide_eq_false_iff_not]
    omega
  rw [i1, i2, i4, il]
  cases Mir.isNumber (cB x) <;> cases Mir.isNumber (cB t) <;> rfl
theorem isDrop_short {ws : List (List Int)} (h : ws.length < 3) : Mir.isDrop ws = false := by
  unfold Mir.isDrop
  rw [if_pos (by
    simp only [Bool.or_eq_true, decide_eq_true_eq]
    left
    omega)]
theorem drop_line (h : DR d st) (hn : st.now = none) (k : List Nat) (ws : List (List Nat)) : LR (match ws with
      | x :: t :: more => (match Xb01.parseNat? x, Xb01.parseNat? t, tailOf more with
        | some x, some t, some (d, n) => (match st.parts with
          | [] => .error 6
          | p :: _ => if p.w ≤ x then .error 3 else if Xb01.MAX_MARBLES < st.drops.length + n then .error 5 else .ok { st with drops := st.drops ++ (List.range n).map fun i => ⟨x, t + i * d⟩ })
        | _, _, _ => .error 1)
      | _ => .error 1) (Mir.readDrop d ((k :: ws).map cB)) := by
  have hnow := h.now
  rw [hn] at hnow
  have hwd := Mir.readDrop_ok (ws := (k :: ws).map cB) h.wd
  have hb0 : decide (d.begun.length = 0) = true := by rw [hnow]; rfl
  have bad : Mir.isDrop ((k :: ws).map cB) = false → LR (.error 1) (Mir.readDrop d ((k :: ws).map cB)) := fun e => by
    unfold Mir.readDrop
    rw [e, if_pos (by simp)]
    exact LR.one rfl
  match ws, bad, hwd with
  | [], bad, _ => exact bad (isDrop_short (by simp))
  | [_], bad, _ => exact bad (isDrop_short (by simp))
  | x :: t :: more, bad, hwd =>
    rw [isDrop_long] at bad
    dsimp only
    rw [parseNat_eq, parseNat_eq]
    cases q1 : Mir.isNumber (cB x) with
    | false => exact bad (by rw [q1]; simp)
    | true =>
    cases q2 : Mir.isNumber (cB t) with
    | false => exact bad (by rw [q2]; simp)
    | true =>
    rw [if_pos rfl, if_pos rfl]
    have ht := tail_eq k x t more
    cases q3 : tailOf more with
    | none =>
      rw [q3] at ht
      exact bad (by rw [show (decide ((((k :: x :: t :: more).map cB).length : Int) = 3) || Mir.isEvery (more.map cB)) = false from ht]; simp)
    | some dn =>
    rw [q3] at ht
    obtain ⟨dd, n⟩ := dn
    obtain ⟨t1, t2, t3⟩ := ht
    dsimp only
    have hd : Mir.isDrop ((k :: x :: t :: more).map cB) = true := by rw [isDrop_long, q1, q2, t1]; rfl
    have e : Mir.readDrop d ((k :: x :: t :: more).map cB) = (if !decide (d.begun.length = 0) || !Mir.isDrop ((k :: x :: t :: more).map cB) then (d, 1)
      else if decide (d.parts.length = 0) then (d, 6)
      else if decide ((itm Mir.airP d.parts ((d.parts.length : Int) - 1)).w ≤ Mir.numberOf (cB x)) then (d, 3)
      else if decide (40 < (d.marbles.length : Int) + (howOf ((k :: x :: t :: more).map cB)).2) then (d, 5)
        else ({ d with marbles := d.marbles ++ Mir.dropsOf (Mir.numberOf (cB x)) (Mir.numberOf (cB t)) (howOf ((k :: x :: t :: more).map cB)).1 (howOf ((k :: x :: t :: more).map cB)).2 }, 0)) := rfl
    rw [e, hb0, hd] at hwd ⊢
    have c : ¬ ((!true || !true) = true) := by simp
    rw [if_neg c] at hwd ⊢
    cases qp : st.parts with
    | nil =>
      rw [h.plen, qp]
      exact ⟨rfl, by decide⟩
    | cons p ps =>
      have c2 : ¬ decide (d.parts.length = 0) = true := by rw [h.plen, qp]; simp
      rw [if_neg c2, h.last qp, numberOf_eq q1, numberOf_eq q2, t3, t2] at hwd ⊢
      dsimp only
      by_cases h3 : p.w ≤ natOf x
      · rw [if_pos h3, if_pos (by
          rw [decide_eq_true_eq]
          show (p.w : Int) ≤ (natOf x : Int)
          omega)]
        exact ⟨rfl, by decide⟩
      · have c3 : ¬ decide ((partM p).w ≤ (natOf x : Int)) = true := by
          rw [decide_eq_true_eq]
          show ¬ (p.w : Int) ≤ (natOf x : Int)
          omega
        rw [if_neg h3, if_neg c3]
        rw [if_neg c3] at hwd
        have e40 : Xb01.MAX_MARBLES = 40 := rfl
        have lm : d.marbles.length = st.drops.length := by rw [h.ms, List.length_map]
        rw [e40]
        rw [lm] at hwd ⊢
        by_cases h4 : 40 < st.drops.length + n
        · rw [if_pos h4, if_pos (by rw [decide_eq_true_eq]; omega)]
          exact ⟨rfl, by decide⟩
        · have c4 : ¬ decide ((40 : Int) < (st.drops.length : Int) + (n : Int)) = true := by rw [decide_eq_true_eq]; omega
          rw [if_neg h4, if_neg c4]
          rw [if_neg c4] at hwd
          rw [← qp]
          refine ⟨rfl, h.ps, h.pk, h.nd, ?_, ?_, hwd⟩
          · show match st.now with
              | none => d.begun = []
              | some (p, n) => _
            rw [hn]
            exact hnow
          · show d.marbles ++ _ = (st.drops ++ _).map dP
            rw [h.ms, List.map_append]
end
end Plain
end
section
set_option linter.all false
set_option maxRecDepth 10000
namespace Plain
open Mir (itm)
open Xb01 (ParseState findPart)
section
variable {d : Mir.DraftS} {st : ParseState}
theorem words_row (b : Nat) (hb : b ≠ 32) (row : List Nat) : Xb01.lineWords (b :: row) ≠ [] := by
  unfold Xb01.lineWords
  have : ∃ r rs, Xb01.splitOn 32 (b :: row) = (b :: r) :: rs := by
    unfold Xb01.splitOn
    rw [if_neg hb]
    cases q : Xb01.splitOn 32 row with
    | nil => exact ⟨_, _, rfl⟩
    | cons r rs => exact ⟨_, _, rfl⟩
  obtain ⟨r, rs, e⟩ := this
  rw [e]
  simp
theorem DR.begun0 (h : DR d st) (hn : st.now = none) : d.begun = [] := by
  have := h.now
  rw [hn] at this
  exact this
theorem begun_part (h : d.begun ≠ []) (ws : List (List Int)) : (Mir.readPart d ws).2 = 1 := by
  unfold Mir.readPart
  rw [if_pos (by
    have : d.begun.length ≠ 0 := by cases q : d.begun <;> simp_all
    simp [this])]
theorem begun_drop (h : d.begun ≠ []) (ws : List (List Int)) : (Mir.readDrop d ws).2 = 1 := by
  unfold Mir.readDrop
  rw [if_pos (by
    have : d.begun.length ≠ 0 := by cases q : d.begun <;> simp_all
    simp [this])]
theorem none_put (h : d.begun = []) (ws : List (List Int)) : (Mir.readPut d ws).2 = 1 := by unfold Mir.readPut; rw [h]
theorem none_end (h : d.begun = []) (ws : List (List Int)) : (Mir.readEnd d ws).2 = 1 := by unfold Mir.readEnd; rw [h]
theorem thin_put {p : Mir.PartD} {r} (h : d.begun = p :: r) (hf : Mir.isFull p = false) (ws : List (List Int)) : (Mir.readPut d ws).2 = 1 := by
  unfold Mir.readPut
  rw [h]
  dsimp only
  rw [hf, if_pos (by simp)]
theorem thin_end {p : Mir.PartD} {r} (h : d.begun = p :: r) (hf : Mir.isFull p = false) (ws : List (List Int)) : (Mir.readEnd d ws).2 = 1 := by
  unfold Mir.readEnd
  rw [h]
  dsimp only
  rw [hf, if_pos (by simp)]
/-- a line of words, in the mirror -/
def wordsM (d : Mir.DraftS) (k : List Nat) (ws : List (List Int)) : Mir.DraftS × Int :=
  if decide (k = Xb01.wordPart) then Mir.readPart d ws
  else if decide (k = Xb01.wordPut) then Mir.readPut d ws
  else if decide (k = Xb01.wordEnd) then Mir.readEnd d ws
  else if decide (k = Xb01.wordDrop) then Mir.readDrop d ws else (d, 1)
/-- a line of words, in the document -/
def wordsD (r : ParseState) (k : List Nat) (ws : List (List Nat)) : Except Nat ParseState := match r.now with
      | none =>
        if k = Xb01.wordPart then (if r.drops ≠ [] then .error 1 else match ws with
          | [n, w, h] => (match Xb01.parseNat? w, Xb01.parseNat? h with
            | some a, some b => if Xb01.isName n = false ∨ a < 1 ∨ Xb01.MAX_SIDE < a ∨ b < 1 ∨ Xb01.MAX_SIDE < b then .error 1 else if (findPart r n).isSome then .error 2 else if Xb01.MAX_PARTS ≤ r.parts.length then .error 5 else .ok { r with now := some (⟨n, a, b, [], 1⟩, b) }
            | _, _ => .error 1)
          | _ => .error 1)
        else if k = Xb01.wordDrop then (match ws with
          | x :: t :: more => (match Xb01.parseNat? x, Xb01.parseNat? t, tailOf more with
            | some x, some t, some (d, n) => (match r.parts with
              | [] => .error 6
              | p :: _ => if p.w ≤ x then .error 3 else if Xb01.MAX_MARBLES < r.drops.length + n then .error 5 else .ok { r with drops := r.drops ++ (List.range n).map fun i => ⟨x, t + i * d⟩ })
            | _, _, _ => .error 1)
          | _ => .error 1)
        else .error 1
      | some (p, n) => if 0 < n then .error 1
        else if k = Xb01.wordEnd ∧ ws = [] then .ok { r with parts := p :: r.parts, now := none }
        else if k = Xb01.wordPut then (match ws with
          | m :: x :: y :: more => (match Xb01.parseInt? x, Xb01.parseInt? y, Xb01.parsePlacement more with
            | some x, some y, some how => if Xb01.isName m = false then .error 1 else (match findPart r m with
              | none => .error 2
              | some q => match Xb01.placeParts q how.1 how.2.2.1 how.2.2.2 how.2.1 x y p with
                | .error e => .error e
                | .ok z => .ok { r with now := some (z, 0) })
            | _, _, _ => .error 1)
          | _ => .error 1)
        else .error 1
theorem words_line (h : DR d st) (k : List Nat) (ws : List (List Nat)) : LR (wordsD st k ws) (wordsM d k ((k :: ws).map cB)) := by
  unfold wordsD wordsM
  cases hn : st.now with
  | none =>
    have hb := h.begun0 hn
    dsimp only
    by_cases k1 : k = Xb01.wordPart
    · rw [if_pos k1, if_pos (decide_eq_true k1)]
      exact part_line h hn k ws
    · rw [if_neg k1, if_neg (show ¬ decide (k = Xb01.wordPart) = true by simpa using k1)]
      by_cases k2 : k = Xb01.wordDrop
      · have n1 : ¬ k = Xb01.wordPut := by rw [k2]; decide
        have n2 : ¬ k = Xb01.wordEnd := by rw [k2]; decide
        rw [if_pos k2, if_neg (show ¬ decide (k = Xb01.wordPut) = true by simpa using n1), if_neg (show ¬ decide (k = Xb01.wordEnd) = true by simpa using n2), if_pos (decide_eq_true k2)]
        have z := drop_line h hn k ws
        rw [hn] at z
        exact z
      · rw [if_neg k2]
        by_cases k3 : k = Xb01.wordPut
        · rw [if_pos (decide_eq_true k3)]
          exact LR.one (none_put hb _)
        · rw [if_neg (show ¬ decide (k = Xb01.wordPut) = true by simpa using k3)]
          by_cases k4 : k = Xb01.wordEnd
          · rw [if_pos (decide_eq_true k4)]
            exact LR.one (none_end hb _)
          · rw [if_neg (show ¬ decide (k = Xb01.wordEnd) = true by simpa using k4), if_neg (show ¬ decide (k = Xb01.wordDrop) = true by simpa using k2)]
            exact LR.one rfl
  | some pn =>
    obtain ⟨p, n⟩ := pn
    have hnow := h.now
    rw [hn] at hnow
    obtain ⟨hb, hp, hc, hnm⟩ := hnow
    have hb1 : d.begun ≠ [] := by rw [hb]; simp
    dsimp only
    by_cases hz : 0 < n
    · rw [if_pos hz]
      have hf : Mir.isFull (partM p) = false := by
        rw [full_iff hp hc]
        simp only [decide_eq_false_iff_not]
        omega
      refine LR.one ?_
      split
      · exact begun_part hb1 _
      · split
        · exact thin_put hb hf _
        · split
          · exact thin_end hb hf _
          · split
            · exact begun_drop hb1 _
            · rfl
    · rw [if_neg hz]
      have hz : n = 0 := by omega
      subst hz
      by_cases k1 : k = Xb01.wordPart
      · have n1 : ¬ k = Xb01.wordPut := by rw [k1]; decide
        have n2 : ¬ k = Xb01.wordEnd := by rw [k1]; decide
        rw [if_neg (fun z => n2 z.1), if_neg n1, if_pos (decide_eq_true k1)]
        exact LR.one (begun_part hb1 _)
      · rw [if_neg (show ¬ decide (k = Xb01.wordPart) = true by simpa using k1)]
        by_cases k3 : k = Xb01.wordPut
        · have n2 : ¬ k = Xb01.wordEnd := by rw [k3]; decide
          rw [if_neg (fun z => n2 z.1), if_pos k3, if_pos (decide_eq_true k3)]
          exact put_line h hn k ws
        · rw [if_neg k3, if_neg (show ¬ decide (k = Xb01.wordPut) = true by simpa using k3)]
          by_cases k4 : k = Xb01.wordEnd
          · rw [if_pos (decide_eq_true k4)]
            have z := end_line h hn k ws
            by_cases hw : ws = []
            · rw [if_pos ⟨k4, hw⟩]
              rw [if_pos hw] at z
              exact z
            · rw [if_neg (fun e => hw e.2)]
              rw [if_neg hw] at z
              exact z
          · rw [if_neg (fun e => k4 e.1), if_neg (show ¬ decide (k = Xb01.wordEnd) = true by simpa using k4)]
            split
            · exact LR.one (begun_drop hb1 _)
            · exact LR.one rfl
end
end Plain
end
section
set_option linter.all false
set_option maxRecDepth 10000
namespace Plain
open Mir (itm)
open Xb01 (ParseState findPart)
section
variable {d : Mir.DraftS} {st : ParseState}
theorem readLine_words {l : List Nat} {k : List Nat} {ws : List (List Nat)} (hw : Xb01.lineWords l = k :: ws) (h59 : itm 0 (cB l) 0 ≠ 59) (h58 : itm 0 (cB l) 0 ≠ 58) : Mir.readLine d (cB l) = wordsM d k ((k :: ws).map cB) := by
  have e : Mir.readLine d (cB l) = (if decide ((Mir.wordsOf (cB l)).length = 0) || decide (itm 0 (cB l) 0 = 59) then (d, 0)
    else if decide (itm 0 (cB l) 0 = 58) then Mir.readRow d (cB l)
    else if decide (itm [] (Mir.wordsOf (cB l)) 0 = Mir.bPart) then Mir.readPart d (Mir.wordsOf (cB l))
    else if decide (itm [] (Mir.wordsOf (cB l)) 0 = Mir.bPut) then Mir.readPut d (Mir.wordsOf (cB l))
    else if decide (itm [] (Mir.wordsOf (cB l)) 0 = Mir.bEnd) then Mir.readEnd d (Mir.wordsOf (cB l))
    else if decide (itm [] (Mir.wordsOf (cB l)) 0 = Mir.bDrop) then Mir.readDrop d (Mir.wordsOf (cB l)) else (d, 1)) := rfl
  rw [e, words_eq, hw]
  have i0 : itm [] ((k :: ws).map cB) 0 = cB k := rfl
  have b1 : Mir.bPart = cB Xb01.wordPart := rfl
  have b2 : Mir.bPut = cB Xb01.wordPut := rfl
  have b3 : Mir.bEnd = cB Xb01.wordEnd := rfl
  have b4 : Mir.bDrop = cB Xb01.wordDrop := rfl
  rw [i0, b1, b2, b3, b4, cB_dec, cB_dec, cB_dec, cB_dec, decide_eq_false h59, decide_eq_false h58]
  have c : ¬ (decide (((k :: ws).map cB).length = 0) || false) = true := by simp
  rw [if_neg c, if_neg (by simp)]
  rfl
theorem readLine_empty {l : List Nat} (hw : Xb01.lineWords l = []) : Mir.readLine d (cB l) = (d, 0) := by
  unfold Mir.readLine
  dsimp only
  rw [words_eq, hw, if_pos (by simp)]
theorem other_line (h : DR d st) {l : List Nat} (h59 : itm 0 (cB l) 0 ≠ 59) (h58 : itm 0 (cB l) 0 ≠ 58) : LR (match Xb01.lineWords l with
    | [] => .ok st
    | k :: ws => wordsD st k ws) (Mir.readLine d (cB l)) := by
  cases hw : Xb01.lineWords l with
  | nil => rw [readLine_empty hw]; exact ⟨rfl, h⟩
  | cons k ws => rw [readLine_words hw h59 h58]; exact words_line h k ws
theorem line_eq (h : DR d st) (l : List Nat) : LR (Xb01.parseLine st l) (Mir.readLine d (cB l)) := by
  match l with
  | [] => exact ⟨rfl, h⟩
  | b :: row =>
    have i0 : itm 0 (cB (b :: row)) 0 = (b : Int) := rfl
    by_cases h59 : b = 59
    · subst h59
      have e1 : Xb01.parseLine st (59 :: row) = .ok st := rfl
      have e2 : Mir.readLine d (cB (59 :: row)) = (d, 0) := by
        unfold Mir.readLine
        dsimp only
        rw [i0, if_pos (by simp)]
      rw [e1, e2]
      exact ⟨rfl, h⟩
    · by_cases h58 : b = 58
      · subst h58
        have e1 : Xb01.parseLine st (58 :: row) = (match st.now with
          | some (p, n + 1) => (match Xb01.parseRow p.w row with
            | none => .error 1
            | some cs => .ok { st with now := some ({ p with cells := p.cells ++ cs }, n) })
          | _ => .error 1) := rfl
        have e2 : Mir.readLine d (cB (58 :: row)) = Mir.readRow d (cB (58 :: row)) := by
          unfold Mir.readLine
          dsimp only
          rw [i0, words_eq]
          have hne := words_row 58 (by decide) row
          have c : ¬ (decide (((Xb01.lineWords (58 :: row)).map cB).length = 0) || decide (((58 : Nat) : Int) = 59)) = true := by
            rw [List.length_map]
            have : (Xb01.lineWords (58 :: row)).length ≠ 0 := fun z => hne (List.eq_nil_of_length_eq_zero z)
            simp [this]
          rw [if_neg c, if_pos (by simp)]
        rw [e1, e2]
        exact row_line h row
      · have e1 : Xb01.parseLine st (b :: row) = (match Xb01.lineWords (b :: row) with
          | [] => .ok st
          | k :: ws => wordsD st k ws) := by
          unfold Xb01.parseLine
          rw [if_neg (by simpa using h59)]
          split
          · rename_i z
            injection z with z1 z2
            exact absurd z1 h58
          · rfl
        rw [e1]
        exact other_line h (by rw [i0]; omega) (by rw [i0]; omega)
end
/-- what the lines come to -/
theorem lines_all : ∀ (ls : List (List Nat)) (k : Nat) (d : Mir.DraftS) (st : ParseState), DR d st → match Xb01.parseLines (k + 1) st ls with
    | .error (e, n) => (∃ z : Mir.DraftS, Mir.readLines k d (ls.map cB) = (z, (n : Int), (e : Int)) ∧ e ≠ 0) ∨ (∃ z s, Mir.readLines k d (ls.map cB) = (z, 0, 0) ∧ DR z s ∧ (s.now.isSome ∨ s.parts = []) ∧ e = 6 ∧ n = k + 1 + ls.length)
    | .ok s => ∃ z, Mir.readLines k d (ls.map cB) = (z, 0, 0) ∧ DR z s ∧ s.now = none ∧ s.parts ≠ []
  | [], k, d, st, h => by
    have e : Xb01.parseLines (k + 1) st [] = (if st.now.isSome ∨ st.parts = [] then .error (6, k + 1) else .ok st) := rfl
    rw [e]
    by_cases c : st.now.isSome ∨ st.parts = []
    · rw [if_pos c]
      exact .inr ⟨d, st, rfl, h, c, rfl, rfl⟩
    · rw [if_neg c]
      refine ⟨d, rfl, h, ?_, fun z => c (.inr z)⟩
      cases q : st.now with
      | none => rfl
      | some p => exact absurd (.inl (by rw [q]; rfl)) c
  | l :: ls, k, d, st, h => by
    have e : Xb01.parseLines (k + 1) st (l :: ls) = (match Xb01.parseLine st l with
      | .error e => .error (e, k + 1)
      | .ok s => Xb01.parseLines (k + 1 + 1) s ls) := rfl
    have e2 : Mir.readLines k d ((l :: ls).map cB) = (if !decide ((Mir.readLine d (cB l)).2 = 0) then ((Mir.readLine d (cB l)).1, (k : Int) + 1, (Mir.readLine d (cB l)).2) else Mir.readLines (k + 1) (Mir.readLine d (cB l)).1 (ls.map cB)) := rfl
    have hl := line_eq h l
    rw [e, e2]
    cases q : Xb01.parseLine st l with
    | error er =>
      rw [q] at hl
      obtain ⟨h1, h2⟩ := hl
      refine .inl ⟨(Mir.readLine d (cB l)).1, ?_, h2⟩
      rw [h1, if_pos (by
        rw [Bool.not_eq_true', decide_eq_false_iff_not]
        omega)]
      rfl
    | ok s =>
      rw [q] at hl
      obtain ⟨h1, h2⟩ := hl
      have c : ¬ (!decide ((0 : Int) = 0)) = true := by decide
      rw [h1, if_neg c]
      have ih := lines_all ls (k + 1) _ s h2
      dsimp only
      cases q2 : Xb01.parseLines (k + 1 + 1) s ls with
      | ok r => rw [q2] at ih; exact ih
      | error er =>
        obtain ⟨er, n⟩ := er
        rw [q2] at ih
        rcases ih with a | ⟨z, s', a, b, c, e, f⟩
        · exact .inl a
        · exact .inr ⟨z, s', a, b, c, e, by rw [List.length_cons]; omega⟩
end Plain
end
section
set_option linter.all false
set_option maxRecDepth 10000
namespace Plain
open Mir (itm)
open Xb01 (ParseState findPart)
theorem DR.new : DR ⟨[], [], []⟩ ⟨[], none, []⟩ := ⟨rfl, (fun p h => by cases h), List.nodup_nil, rfl, rfl, Mir.new_ok⟩
theorem text_eq (t : List Nat) : match Xb01.parseText t with
    | .error (e, n) => ∃ z, Mir.readText ⟨[], [], []⟩ (cB t) = (z, (n : Int), (e : Int)) ∧ e ≠ 0
    | .ok (p, ds) => ∃ z, Mir.readText ⟨[], [], []⟩ (cB t) = (z, 0, 0) ∧ itm Mir.airP z.parts ((z.parts.length : Int) - 1) = partM p ∧ z.marbles = ds.map dP ∧ PP p ∧ Full p ∧ Mir.Wd z := by
  have e : Mir.readText ⟨[], [], []⟩ (cB t) = (if !decide ((Mir.readLines 0 ⟨[], [], []⟩ (Mir.linesOf (cB t))).2.2 = 0) then Mir.readLines 0 ⟨[], [], []⟩ (Mir.linesOf (cB t))
    else if !decide ((Mir.readLines 0 ⟨[], [], []⟩ (Mir.linesOf (cB t))).1.begun.length = 0) || decide ((Mir.readLines 0 ⟨[], [], []⟩ (Mir.linesOf (cB t))).1.parts.length = 0) then ((Mir.readLines 0 ⟨[], [], []⟩ (Mir.linesOf (cB t))).1, ((Mir.linesOf (cB t)).length : Int) + 1, 6)
    else ((Mir.readLines 0 ⟨[], [], []⟩ (Mir.linesOf (cB t))).1, 0, 0)) := rfl
  have e2 : Xb01.parseText t = (match Xb01.parseLines 1 ⟨[], none, []⟩ (Xb01.splitOn 10 t) with
    | .error e => .error e
    | .ok r => match r.parts with
      | [] => .error (6, 1)
      | p :: _ => .ok (p, r.drops)) := rfl
  have hl := lines_all (Xb01.splitOn 10 t) 0 _ _ DR.new
  have hl : match Xb01.parseLines 1 ⟨[], none, []⟩ (Xb01.splitOn 10 t) with
    | .error (e, n) => (∃ z : Mir.DraftS, Mir.readLines 0 ⟨[], [], []⟩ ((Xb01.splitOn 10 t).map cB) = (z, (n : Int), (e : Int)) ∧ e ≠ 0) ∨ (∃ z s, Mir.readLines 0 ⟨[], [], []⟩ ((Xb01.splitOn 10 t).map cB) = (z, 0, 0) ∧ DR z s ∧ (s.now.isSome ∨ s.parts = []) ∧ e = 6 ∧ n = 0 + 1 + (Xb01.splitOn 10 t).length)
    | .ok s => ∃ z, Mir.readLines 0 ⟨[], [], []⟩ ((Xb01.splitOn 10 t).map cB) = (z, 0, 0) ∧ DR z s ∧ s.now = none ∧ s.parts ≠ [] := hl
  rw [e, e2, lines_eq]
  have c0 : ¬ (!decide ((0 : Int) = 0)) = true := by decide
  cases q : Xb01.parseLines 1 ⟨[], none, []⟩ (Xb01.splitOn 10 t) with
  | error en =>
    obtain ⟨er, n⟩ := en
    rw [q] at hl
    dsimp only at hl ⊢
    rcases hl with ⟨z, a, b⟩ | ⟨z, s, a, b, c, e, f⟩
    · rw [a]
      dsimp only
      rw [if_pos (by
        rw [Bool.not_eq_true', decide_eq_false_iff_not]
        exact fun w => b (Int.ofNat.inj w))]
      exact ⟨z, rfl, b⟩
    · rw [a]
      dsimp only
      rw [if_neg c0, if_pos (by
        rcases c with c | c
        · have hnow := b.now
          cases qn : s.now with
          | none => rw [qn] at c; cases c
          | some pn =>
            rw [qn] at hnow
            rw [hnow.1]
            rfl
        · rw [b.plen, c]
          simp)]
      refine ⟨z, ?_, by rw [e]; decide⟩
      rw [List.length_map, e, f]
      congr 2
      omega
  | ok s =>
    rw [q] at hl
    dsimp only at hl ⊢
    obtain ⟨z, a, b, c, d⟩ := hl
    rw [a]
    dsimp only
    cases qp : s.parts with
    | nil => exact absurd qp d
    | cons p ps =>
      dsimp only
      rw [if_neg c0, if_neg (by
        rw [b.begun0 c, b.plen, qp]
        simp)]
      have hk := b.pk p (by rw [qp]; exact List.mem_cons_self)
      exact ⟨z, rfl, b.last qp, b.ms, hk.1, hk.2, b.wd⟩
end Plain
end
section
set_option linter.all false
set_option maxRecDepth 10000
namespace Plain
open Mir (itm)
theorem byte_eq (b : Int) : Mir.isTextByte b = (b == 10 || Xb01.inRange 32 126 b) := by
  unfold Mir.isTextByte Xb01.inRange
  by_cases h : b = 10
  · subst h; rfl
  · rw [decide_eq_false h, show (b == 10) = false by simpa using h]
theorem valid_eq (t : List Int) : (decide (4000 < (t.length : Int)) || !(t.map Mir.isTextByte).all id) = !Xb01.isValidText t := by
  unfold Xb01.isValidText
  have e : (t.map Mir.isTextByte).all id = t.all fun b => b == 10 || Xb01.inRange 32 126 b := by
    rw [List.all_map]
    have : (id ∘ Mir.isTextByte) = fun b => b == 10 || Xb01.inRange 32 126 b := by
      funext b
      exact byte_eq b
    rw [this]
  rw [e, Bool.not_and]
  congr 1
  rw [← decide_not]
  exact decide_eq_decide.mpr (by omega)
theorem valid_cB {t : List Int} (h : Xb01.isValidText t = true) : cB (Xb01.toBytes t) = t := by
  unfold Xb01.isValidText at h
  rw [Bool.and_eq_true] at h
  have h := List.all_eq_true.mp h.2
  unfold cB Xb01.toBytes
  rw [List.map_map]
  conv => rhs; rw [← List.map_id t]
  refine List.map_congr_left fun b hb => ?_
  have z := h b hb
  rw [← byte_eq] at z
  unfold Mir.isTextByte at z
  simp only [Bool.or_eq_true, Bool.and_eq_true, decide_eq_true_eq] at z
  show ((b.toNat : Nat) : Int) = b
  omega
end Plain
end
section
set_option linter.all false
set_option maxRecDepth 10000
namespace Plain
open Mir (itm)
structure HR (b : Mir.BenchS) (h : Xb02.Session) : Prop where
  ld : b.loaded = true
  bo : b.board = bd h.board
  ok : BdOk h.board
  ms : b.marbles = h.drops.map dP
  ds : DsOk h.board h.drops
  hz : b.horizon = (h.n : Int)
  tg : Mir.sortP b.target = h.target.map c2
  tl : b.target.length = h.target.length
  pal : b.palette = cI h.palette
  pok : ∀ s ∈ h.palette, (Xb01.cellOfChar s).isSome = true
def SR (b : Mir.BenchS) (s : Xb02.State) : Prop := match s.session with
  | none => b.loaded = false
  | some h => HR b h
theorem load_eq {b : Mir.BenchS} {s : Xb02.State} (h : SR b s) (t : List Int) : (Mir.load b t).2 = (Xb02.step s (.load t)).2.v :: (Xb02.step s (.load t)).2.l ∧ SR (Mir.load b t).1 (Xb02.step s (.load t)).1 := by
  have e : Xb02.step s (.load t) = (if !Xb01.isValidText t then (s, Xb02.single (-2)) else (match Xb01.parseText (Xb01.toBytes t) with
    | .error e => (s, Xb02.single (-(100 * Xb02.natInt e.2 + Xb02.natInt e.1 + 10)))
    | .ok b => if Xb02.MAX_CELLS < b.1.w * b.1.h then (s, Xb02.single (-4)) else (⟨some ⟨b.1, b.2, 40, [], [46, 92, 47]⟩⟩, ⟨Xb02.natInt b.1.w, [Xb02.natInt b.1.h, Xb02.natInt b.2.length]⟩))) := rfl
  unfold Mir.load
  rw [valid_eq, e]
  cases hv : Xb01.isValidText t with
  | false => exact ⟨rfl, h⟩
  | true =>
    have c : ¬ (!true) = true := by simp
    rw [if_neg c, if_neg c]
    have ht := text_eq (Xb01.toBytes t)
    rw [valid_cB hv] at ht
    cases q : Xb01.parseText (Xb01.toBytes t) with
    | error en =>
      obtain ⟨er, n⟩ := en
      rw [q] at ht
      obtain ⟨z, h1, h2⟩ := ht
      rw [h1]
      dsimp only
      rw [if_pos (by
        rw [Bool.not_eq_true', decide_eq_false_iff_not]
        exact fun w => h2 (Int.ofNat.inj w))]
      exact ⟨rfl, h⟩
    | ok pd =>
      obtain ⟨p, ds⟩ := pd
      rw [q] at ht
      obtain ⟨z, h1, h2, h3, h4, h5, h6⟩ := ht
      have h5 : p.cells.length = p.w * p.h := h5
      rw [h1]
      dsimp only
      have c0 : ¬ (!decide ((0 : Int) = 0)) = true := by decide
      rw [if_neg c0, h2]
      have em : Xb02.MAX_CELLS = 36 := rfl
      have ew : (partM p).w * (partM p).h = ((p.w * p.h : Nat) : Int) := by rw [Int.natCast_mul]; rfl
      rw [ew, em]
      by_cases h7 : 36 < p.w * p.h
      · rw [if_pos h7, if_pos (by rw [decide_eq_true_eq]; omega)]
        exact ⟨rfl, h⟩
      · rw [if_neg h7, if_neg (by rw [decide_eq_true_eq]; omega)]
        have hl : Mir.lastW z = (p.w : Int) := by
          unfold Mir.lastW
          rw [h2]
          rfl
        refine ⟨?_, ⟨rfl, rfl, ⟨h4.w.1, h4.h.1, by show p.w * p.h ≤ 36; omega, h5, h4.c, h4.l⟩, h3, ⟨?_, ?_⟩, rfl, rfl, rfl, rfl, ?_⟩⟩
        · show [(p.w : Int), (p.h : Int), (z.marbles.length : Int)] = [(p.w : Int), (p.h : Int), (ds.length : Int)]
          rw [h3, List.length_map]
        · have := h6.ml
          rw [h3, List.length_map] at this
          exact this
        · intro d hd
          have := h6.mc (dP d) (by rw [h3]; exact List.mem_map_of_mem hd)
          rw [hl] at this
          have := this.2
          show d.x < p.w
          have : (d.x : Int) < (p.w : Int) := this
          omega
        · show ∀ s ∈ ([46, 92, 47] : List Nat), (Xb01.cellOfChar s).isSome = true
          decide
end Plain
end
section
set_option linter.all false
set_option maxRecDepth 10000
namespace Plain
open Mir (itm)
section
variable {b : Mir.BenchS} {h : Xb02.Session}
/-- what a call that keeps the session comes to -/
def AR (z : Mir.BenchS × List Int) (r : Xb02.Session × Xb02.Answer) : Prop := z.2 = r.2.v :: r.2.l ∧ HR z.1 r.1
theorem HR.rings (hr : HR b h) : Mir.ownRinging b = (Xb02.currentRinging h).map c2 := by
  unfold Mir.ownRinging
  rw [hr.bo, hr.ms, hr.hz]
  exact ringing_eq hr.ok hr.ds
theorem horizon_eq (hr : HR b h) (n : Int) : AR (Mir.setHorizon b n) (Xb02.runCall h (.setHorizon n)) := by
  have e : Xb02.runCall h (.setHorizon n) = (if !Xb02.inRange 1 40 n then (h, Xb02.single (-2)) else ({ h with n := n.toNat }, Xb02.single 0)) := rfl
  rw [e]
  unfold Mir.setHorizon Xb02.inRange
  by_cases c : n < 1 ∨ 40 < n
  · rw [if_pos (by simpa using c), if_pos (by
      simp only [Bool.not_eq_true', Bool.and_eq_false_iff, decide_eq_false_iff_not]
      omega)]
    exact ⟨rfl, hr⟩
  · rw [if_neg (by simpa using c), if_neg (by
      simp only [Bool.not_eq_true', Bool.and_eq_false_iff, decide_eq_false_iff_not]
      omega)]
    refine ⟨rfl, ⟨hr.ld, hr.bo, hr.ok, hr.ms, hr.ds, ?_, hr.tg, hr.tl, hr.pal, hr.pok⟩⟩
    show n = ((n.toNat : Nat) : Int)
    omega
theorem clear_eq (hr : HR b h) : AR (Mir.clearTarget b) (Xb02.runCall h .clearTarget) := by
  refine ⟨?_, ⟨hr.ld, hr.bo, hr.ok, hr.ms, hr.ds, hr.hz, rfl, rfl, hr.pal, hr.pok⟩⟩
  show [(b.target.length : Int)] = [(h.target.length : Int)]
  rw [hr.tl]
theorem pairs_gen : ∀ (l : List (Nat × Nat)) (acc : List Int), (l.map c2).foldl (fun acc (p : Mir.Pair) => acc ++ [p.1, p.2]) acc = acc ++ l.flatMap fun p => [Xb02.natInt p.1, Xb02.natInt p.2]
  | [], acc => by simp
  | p :: l, acc => by
    rw [List.map_cons, List.foldl_cons, pairs_gen l, List.flatMap_cons, List.append_assoc]
    rfl
theorem pairs_eq (l : List (Nat × Nat)) : Mir.pairsOut (l.map c2) = (Xb02.pairList l).v :: (Xb02.pairList l).l := by
  unfold Mir.pairsOut
  rw [pairs_gen, List.length_map]
  rfl
theorem ringing_call (hr : HR b h) : Mir.ringing b = (Xb02.runCall h .ringing).2.v :: (Xb02.runCall h .ringing).2.l := by
  unfold Mir.ringing
  rw [hr.rings, pairs_eq]
  rfl
theorem meets_call (hr : HR b h) : Mir.meetsTarget b = (Xb02.runCall h .meetsTarget).2.v :: (Xb02.runCall h .meetsTarget).2.l := by
  have e : Xb02.runCall h .meetsTarget = (h, Xb02.single (if (Xb02.currentRinging h == h.target) then 1 else 0)) := rfl
  rw [e]
  unfold Mir.meetsTarget
  rw [hr.rings, hr.tg]
  by_cases c : Xb02.currentRinging h = h.target
  · rw [if_pos (decide_eq_true (by rw [c])), if_pos (by simpa using c)]
    rfl
  · rw [if_neg (by
      rw [decide_eq_true_eq]
      exact fun z => c (c2s_inj z)), if_neg (by simpa using c)]
    rfl
theorem board_call (hr : HR b h) : Mir.tellBoard b = (Xb02.runCall h .board).2.v :: (Xb02.runCall h .board).2.l := by
  unfold Mir.tellBoard
  rw [hr.bo]
  show [(h.board.w : Int), (h.board.h : Int)] ++ (h.board.cells.map toM).map (fun c => c.1) = (h.board.w : Int) :: (h.board.h : Int) :: h.board.cells.map Xb01.charOf
  rw [List.map_map]
  rfl
end
end Plain
end
section
set_option linter.all false
set_option maxRecDepth 10000
namespace Plain
open Mir (itm)
section
variable {b : Mir.BenchS} {h : Xb02.Session}
theorem poss_gen (bo : b.board = bd h.board) : ∀ (l : List Nat) (acc : List Int), (cI l).foldl (fun acc p => acc ++ Mir.position b p) acc = acc ++ l.flatMap (Xb02.position h)
  | [], acc => by simp [cI]
  | p :: l, acc => by
    have e : cI (p :: l) = (p : Int) :: cI l := rfl
    have e2 : Mir.position b (p : Int) = Xb02.position h p := by
      unfold Mir.position Xb02.position
      rw [bo]
      show [(p : Int) % (h.board.w : Int), (p : Int) / (h.board.w : Int)] = [((p % h.board.w : Nat) : Int), ((p / h.board.w : Nat) : Int)]
      rw [Int.natCast_emod, Int.natCast_ediv]
    rw [e, List.foldl_cons, poss_gen bo l, List.flatMap_cons, e2, List.append_assoc]
theorem poss_eq (bo : b.board = bd h.board) (l : List Nat) : Mir.positions b (cI l) = Xb02.natInt l.length :: l.flatMap (Xb02.position h) := by
  unfold Mir.positions
  rw [poss_gen bo]
  show [((cI l).length : Int)] ++ _ = _
  unfold cI
  rw [List.length_map]
  rfl
theorem path_call (hr : HR b h) (m : Int) : Mir.path b m = (Xb02.runCall h (.path m)).2.v :: (Xb02.runCall h (.path m)).2.l := by
  have e : Xb02.runCall h (.path m) = (if !Xb02.inRange 0 (Xb02.natInt h.drops.length - 1) m then (h, Xb02.single (-2)) else (h, ⟨Xb02.natInt (Xb02.path h m.toNat).length, (Xb02.path h m.toNat).flatMap (Xb02.position h)⟩)) := rfl
  have lm : b.marbles.length = h.drops.length := by rw [hr.ms, List.length_map]
  rw [e]
  unfold Mir.path Xb02.inRange Xb02.natInt
  rw [lm]
  by_cases c : m < 0 ∨ (h.drops.length : Int) ≤ m
  · rw [if_pos (by simpa using c), if_pos (by
      simp only [Bool.not_eq_true', Bool.and_eq_false_iff, decide_eq_false_iff_not]
      omega)]
    rfl
  · rw [if_neg (by simpa using c), if_neg (by
      simp only [Bool.not_eq_true', Bool.and_eq_false_iff, decide_eq_false_iff_not]
      omega)]
    have hm : m.toNat < h.drops.length := by omega
    have em : m = ((m.toNat : Nat) : Int) := by omega
    have hp := path_eq (k := h.drops.length) (n := h.n) hr.ok hr.ds hm
    rw [hr.bo, hr.ms, hr.hz, em, hp, Int.toNat_natCast]
    exact poss_eq hr.bo (Xb02.path h m.toNat)
end
end Plain
end
section
set_option linter.all false
set_option maxRecDepth 10000
namespace Plain
open Mir (itm)
section
variable {b : Mir.BenchS} {h : Xb02.Session}
theorem target_mem (hr : HR b h) (x : Nat × Nat) : c2 x ∈ b.target ↔ x ∈ h.target := by
  rw [← (Mir.sortP_perm b.target).mem_iff, hr.tg, List.mem_map]
  exact ⟨fun ⟨y, hy, e⟩ => c2_inj e ▸ hy, fun z => ⟨x, z, rfl⟩⟩
theorem sortP_snoc (l : List Mir.Pair) (x : Mir.Pair) : Mir.sortP (l ++ [x]) = Mir.insP x (Mir.sortP l) := by
  unfold Mir.sortP
  rw [List.foldl_append]
  rfl
theorem want_eq (hr : HR b h) (t m : Int) : AR (Mir.wantRing b t m) (Xb02.runCall h (.wantRing t m)) := by
  have e : Xb02.runCall h (.wantRing t m) = (if !Xb02.inRange 1 40 t || !Xb02.inRange 0 39 m then (h, Xb02.single (-2)) else if h.target.contains (t.toNat, m.toNat) then (h, Xb02.single (-4)) else ({ h with target := Xb02.insertRing (t.toNat, m.toNat) h.target }, Xb02.single (Xb02.natInt h.target.length + 1))) := rfl
  rw [e]
  unfold Mir.wantRing Xb02.inRange
  by_cases c : t < 1 ∨ 40 < t ∨ m < 0 ∨ 40 ≤ m
  · rw [if_pos (by simpa using c), if_pos (by
      simp only [Bool.or_eq_true, Bool.not_eq_true', Bool.and_eq_false_iff, decide_eq_false_iff_not]
      omega)]
    exact ⟨rfl, hr⟩
  · rw [if_neg (show ¬ (decide (t < 1) || (decide (40 < t) || (decide (m < 0) || decide (40 ≤ m)))) = true by simpa using c), if_neg (show ¬ (!(decide (1 ≤ t) && decide (t ≤ 40)) || !(decide (0 ≤ m) && decide (m ≤ 39))) = true by
      simp only [Bool.or_eq_true, Bool.not_eq_true', Bool.and_eq_false_iff, decide_eq_false_iff_not]
      omega)]
    have ec : (t, m) = c2 (t.toNat, m.toNat) := by
      unfold c2
      exact Prod.ext (by show t = ((t.toNat : Nat) : Int); omega) (by show m = ((m.toNat : Nat) : Int); omega)
    rw [ec]
    by_cases k : (t.toNat, m.toNat) ∈ h.target
    · rw [if_pos (by
        rw [List.any_eq_true]
        exact ⟨_, (target_mem hr _).mpr k, decide_eq_true rfl⟩), if_pos (List.contains_iff_mem.mpr k)]
      exact ⟨rfl, hr⟩
    · rw [if_neg (by
        rw [List.any_eq_true]
        rintro ⟨z, hz, e⟩
        rw [decide_eq_true_eq] at e
        rw [e] at hz
        exact k ((target_mem hr _).mp hz)), if_neg (fun z => k (List.contains_iff_mem.mp z))]
      refine ⟨?_, ⟨hr.ld, hr.bo, hr.ok, hr.ms, hr.ds, hr.hz, ?_, ?_, hr.pal, hr.pok⟩⟩
      · show [((b.target ++ [_]).length : Int)] = [(h.target.length : Int) + 1]
        rw [List.length_append, hr.tl]
        rfl
      · show Mir.sortP (b.target ++ [_]) = _
        rw [sortP_snoc, hr.tg, ins_eq]
      · show (b.target ++ [_]).length = (Xb02.insertRing _ h.target).length
        have z := congrArg List.length (ins_eq (t.toNat, m.toNat) h.target)
        rw [List.length_map] at z
        rw [← z, ← hr.tg, ← sortP_snoc, Mir.sortP_len]
end
end Plain
end
section
set_option linter.all false
set_option maxRecDepth 10000
namespace Plain
open Mir (itm)
theorem changed_eq {b : Xb01.Part} (h : BdOk b) {k s : Nat} (hk : k < b.w * b.h) (hs : (Xb01.cellOfChar s).isSome = true) : Mir.changedBoard (bd b) (k : Int) (s : Int) = bd (Xb02.withChange b k s) ∧ BdOk (Xb02.withChange b k s) ∧ (Xb02.withChange b k s).w = b.w ∧ (Xb02.withChange b k s).h = b.h := by
  unfold Xb02.withChange
  cases q : Xb01.cellOfChar s with
  | none => rw [q] at hs; cases hs
  | some c =>
    obtain ⟨c1, c2, c3, c4⟩ := char_cell q
    refine ⟨?_, ⟨h.w, h.h, h.s, by show (b.cells.set k c).length = _; rw [List.length_set]; exact h.n, ?_, h.l⟩, rfl, rfl⟩
    · unfold Mir.changedBoard bd
      dsimp only
      rw [List.map_set, c1, Int.toNat_natCast, show ((k : Int) + 1).toNat = k + 1 by omega, take_set_drop _ _ _ (by rw [List.length_map, h.n]; exact hk)]
    · intro x hx
      rcases List.mem_or_eq_of_mem_set hx with e | e
      · exact h.c x e
      · rw [e]; exact c2 _ h.l
end Plain
end
section
set_option linter.all false
set_option maxRecDepth 10000
namespace Plain
open Mir (itm)
theorem changes_at (pal : List Nat) (i : Nat) (c : Xb01.Cell) (hc : 0 ≤ Xb01.charOf c) : Mir.changesAt (cI pal) i (toM c) = ((pal.filter fun s => s != (Xb01.charOf c).toNat).map fun s => (i, s)).map c2 := by
  unfold Mir.changesAt cI
  rw [List.filter_map, List.map_map, List.map_map]
  congr 1
  refine List.filter_congr fun s _ => ?_
  show (!decide ((s : Int) = Xb01.charOf c)) = (s != (Xb01.charOf c).toNat)
  by_cases z : (s : Int) = Xb01.charOf c
  · have : s = (Xb01.charOf c).toNat := by omega
    rw [decide_eq_true z, this]
    simp
  · have : s ≠ (Xb01.charOf c).toNat := by omega
    rw [decide_eq_false z]
    simp [this]
theorem all_gen (pal : List Nat) : ∀ (cells : List Xb01.Cell) (i : Nat), (∀ c ∈ cells, 0 ≤ Xb01.charOf c) → Mir.allChangesFrom (cI pal) i (cells.map toM) = ((List.range cells.length).flatMap fun k => (pal.filter fun s => s != (Xb01.charOf (cells.getD k Xb01.air)).toNat).map fun s => (i + k, s)).map c2
  | [], i, _ => rfl
  | c :: cells, i, h => by
    have e : Mir.allChangesFrom (cI pal) i ((c :: cells).map toM) = Mir.changesAt (cI pal) i (toM c) ++ Mir.allChangesFrom (cI pal) (i + 1) (cells.map toM) := rfl
    rw [e, changes_at pal i c (h c List.mem_cons_self), all_gen pal cells (i + 1) (fun x hx => h x (List.mem_cons_of_mem _ hx)), ← List.map_append]
    congr 1
    rw [List.length_cons, List.range_succ_eq_map, List.flatMap_cons, List.flatMap_map]
    congr 1
    refine congrArg (fun f => List.flatMap f (List.range cells.length)) (funext fun k => ?_)
    show _ = (pal.filter fun s => s != (Xb01.charOf (cells.getD k Xb01.air)).toNat).map fun s => (i + (k + 1), s)
    rw [show i + (k + 1) = i + 1 + k by omega]
end Plain
end
section
set_option linter.all false
set_option maxRecDepth 10000
namespace Plain
open Mir (itm)
theorem sg_pos {c : Xb01.Cell} {s : Int} (h : SgOf c s) : 0 ≤ s := by
  cases h <;> omega
theorem char_pos {L : Nat} {c : Xb01.Cell} (h : CellOk L c) : 0 ≤ Xb01.charOf c := sg_pos (sg_of h)
section
variable {b : Mir.BenchS} {h : Xb02.Session}
theorem all_eq (hr : HR b h) : Mir.allChanges b.board b.palette = (Xb02.allChanges h).map c2 := by
  rw [hr.bo, hr.pal]
  have z := all_gen h.palette h.board.cells 0 fun c hc => char_pos (hr.ok.c c hc)
  have e : Mir.allChanges (bd h.board) (cI h.palette) = Mir.allChangesFrom (cI h.palette) 0 (h.board.cells.map toM) := rfl
  rw [e, z, hr.ok.n]
  congr 1
  unfold Xb02.allChanges Xb02.charAt
  refine congrArg (fun f => List.flatMap f (List.range (h.board.w * h.board.h))) (funext fun k => ?_)
  rw [Nat.zero_add]
theorem all_mem {c : Nat × Nat} (hc : c ∈ Xb02.allChanges h) : c.1 < h.board.w * h.board.h ∧ c.2 ∈ h.palette := by
  unfold Xb02.allChanges at hc
  obtain ⟨k, hk, h2⟩ := List.mem_flatMap.mp hc
  obtain ⟨s, hs, e⟩ := List.mem_map.mp h2
  rw [← e]
  exact ⟨List.mem_range.mp hk, (List.mem_filter.mp hs).1⟩
theorem with_eq (hr : HR b h) {k s : Nat} (hk : k < h.board.w * h.board.h) (hs : (Xb01.cellOfChar s).isSome = true) : Mir.ringingWith b.board b.marbles b.horizon ((k : Int), (s : Int)) = (Xb02.ringing h (Xb02.withChange h.board k s)).map c2 := by
  obtain ⟨h1, h2, h3, h4⟩ := changed_eq hr.ok hk hs
  unfold Mir.ringingWith
  rw [hr.bo, hr.ms, hr.hz]
  dsimp only
  rw [h1]
  exact ringing_eq h2 ⟨hr.ds.l, fun d hd => by rw [h3]; exact hr.ds.x d hd⟩
end
end Plain
end
section
set_option linter.all false
set_option maxRecDepth 10000
namespace Plain
open Mir (itm)
section
variable {b : Mir.BenchS} {h : Xb02.Session}
theorem c2s_dec (l m : List (Nat × Nat)) : decide (l.map c2 = m.map c2) = (l == m) := by
  by_cases z : l = m
  · subst z; simp
  · rw [decide_eq_false (fun e => z (c2s_inj e))]
    simp [z]
theorem repairs_eq (hr : HR b h) : Mir.ownRepairs b = (Xb02.repairs h).map c2 := by
  unfold Mir.ownRepairs Mir.repairsOf Xb02.repairs
  rw [all_eq hr, List.filter_map, hr.tg]
  congr 1
  refine List.filter_congr fun c hc => ?_
  obtain ⟨m1, m2⟩ := all_mem hc
  show decide (Mir.ringingWith b.board b.marbles b.horizon (c2 c) = h.target.map c2) = _
  rw [show Mir.ringingWith b.board b.marbles b.horizon (c2 c) = _ from with_eq hr m1 (hr.pok _ m2), c2s_dec]
  rfl
theorem noticeable_eq (hr : HR b h) : Mir.noticeable b.board b.marbles b.horizon b.palette = (Xb02.noticeable h).map c2 := by
  unfold Mir.noticeable Xb02.noticeable
  rw [all_eq hr, List.filter_map]
  congr 1
  refine List.filter_congr fun c hc => ?_
  obtain ⟨m1, m2⟩ := all_mem hc
  show (!decide (Mir.ringingWith b.board b.marbles b.horizon (c2 c) = Mir.ownRinging b)) = _
  rw [show Mir.ringingWith b.board b.marbles b.horizon (c2 c) = _ from with_eq hr m1 (hr.pok _ m2), hr.rings, c2s_dec]
  rfl
theorem count_call (hr : HR b h) : Mir.countChanges b = (Xb02.runCall h .countChanges).2.v :: (Xb02.runCall h .countChanges).2.l := by
  unfold Mir.countChanges
  rw [noticeable_eq hr, all_eq hr, List.length_map, List.length_map]
  rfl
end
end Plain
end
section
set_option linter.all false
set_option maxRecDepth 10000
namespace Plain
open Mir (itm)
section
variable {b : Mir.BenchS} {h : Xb02.Session}
theorem pos_eq (bo : b.board = bd h.board) (p : Nat) : Mir.position b (p : Int) = Xb02.position h p := by
  unfold Mir.position Xb02.position
  rw [bo]
  show [(p : Int) % (h.board.w : Int), (p : Int) / (h.board.w : Int)] = [((p % h.board.w : Nat) : Int), ((p / h.board.w : Nat) : Int)]
  rw [Int.natCast_emod, Int.natCast_ediv]
theorem reps_gen (bo : b.board = bd h.board) : ∀ (l : List (Nat × Nat)) (acc : List Int), (l.map c2).foldl (fun acc (c : Mir.Pair) => acc ++ (Mir.position b c.1 ++ [c.2])) acc = acc ++ l.flatMap fun c => Xb02.position h c.1 ++ [Xb02.natInt c.2]
  | [], acc => by simp
  | p :: l, acc => by
    rw [List.map_cons, List.foldl_cons, reps_gen bo l, List.flatMap_cons, show Mir.position b (c2 p).1 = Xb02.position h p.1 from pos_eq bo p.1, List.append_assoc]
    rfl
theorem repairs_call (hr : HR b h) : Mir.repairs b = (Xb02.runCall h .repairs).2.v :: (Xb02.runCall h .repairs).2.l := by
  unfold Mir.repairs
  rw [repairs_eq hr, reps_gen hr.bo, List.length_map]
  rfl
end
end Plain
end
section
set_option linter.all false
set_option maxRecDepth 10000
namespace Plain
open Mir (itm)
section
variable {b : Mir.BenchS} {h : Xb02.Session}
theorem apply_eq (hr : HR b h) (k : Int) : AR (Mir.applyRepair b k) (Xb02.runCall h (.applyRepair k)) := by
  have e : Xb02.runCall h (.applyRepair k) = (match (if k < 0 then none else (Xb02.repairs h)[k.toNat]?) with
    | none => (h, Xb02.single (-3))
    | some c => ({ h with board := Xb02.withChange h.board c.1 c.2 }, ⟨Xb02.natInt c.2, Xb02.position h c.1⟩)) := rfl
  rw [e]
  unfold Mir.applyRepair
  rw [repairs_eq hr, List.length_map]
  by_cases c : k < 0 ∨ ((Xb02.repairs h).length : Int) ≤ k
  · rw [if_pos (by simpa using c)]
    have : (if k < 0 then none else (Xb02.repairs h)[k.toNat]?) = none := by
      by_cases z : k < 0
      · rw [if_pos z]
      · rw [if_neg z, List.getElem?_eq_none_iff]
        omega
    rw [this]
    exact ⟨rfl, hr⟩
  · rw [if_neg (by simpa using c), if_neg (by omega)]
    have hk : k.toNat < (Xb02.repairs h).length := by omega
    rw [List.getElem?_eq_getElem hk]
    have hm := List.getElem_mem hk
    generalize hx : (Xb02.repairs h)[k.toNat] = x at hm ⊢
    have ei : itm (0, 0) ((Xb02.repairs h).map c2) k = c2 x := by
      unfold itm
      rw [List.getD_eq_getElem?_getD, List.getElem?_map, List.getElem?_eq_getElem hk, hx]
      rfl
    rw [ei]
    dsimp only
    obtain ⟨m1, m2⟩ := all_mem (List.mem_filter.mp hm).1
    obtain ⟨h1, h2, h3, h4⟩ := changed_eq hr.ok m1 (hr.pok _ m2)
    refine ⟨?_, ⟨hr.ld, ?_, h2, hr.ms, ⟨hr.ds.l, fun d hd => ?_⟩, hr.hz, hr.tg, hr.tl, hr.pal, hr.pok⟩⟩
    · show [(x.2 : Int)] ++ Mir.position b (x.1 : Int) = _
      rw [pos_eq hr.bo]
      rfl
    · show Mir.changedBoard b.board (x.1 : Int) (x.2 : Int) = _
      rw [hr.bo]
      exact h1
    · show d.x < (Xb02.withChange h.board x.1 x.2).w
      rw [h3]
      exact hr.ds.x d hd
end
end Plain
end
section
set_option linter.all false
set_option maxRecDepth 10000
namespace Plain
open Mir (itm)
theorem notair_gen {L : Nat} : ∀ (cells : List Xb01.Cell) (i : Nat), (∀ c ∈ cells, CellOk L c) → Mir.notAirFrom i (cells.map toM) = cI (((List.range cells.length).filter fun k => (cells.getD k Xb01.air).kind != 0).map fun k => i + k)
  | [], i, _ => rfl
  | c :: cells, i, h => by
    have e : Mir.notAirFrom i ((c :: cells).map toM) = if !decide (Xb01.charOf c = 46) then (i : Int) :: Mir.notAirFrom (i + 1) (cells.map toM) else Mir.notAirFrom (i + 1) (cells.map toM) := rfl
    rw [e, notair_gen cells (i + 1) (fun x hx => h x (List.mem_cons_of_mem _ hx)), List.length_cons, List.range_succ_eq_map, List.filter_cons, List.filter_map, (sg_eq (sg_of (h c List.mem_cons_self))).1]
    have e2 : ((List.filter ((fun k => ((c :: cells).getD k Xb01.air).kind != 0) ∘ Nat.succ) (List.range cells.length)).map Nat.succ).map (fun k => i + k) = ((List.range cells.length).filter fun k => (cells.getD k Xb01.air).kind != 0).map fun k => i + 1 + k := by
      rw [List.map_map]
      refine List.map_congr_left fun k _ => ?_
      show i + (k + 1) = i + 1 + k
      omega
    by_cases z : c.kind = 0
    · rw [if_neg (by simp [z]), if_neg (show ¬ (((c :: cells).getD 0 Xb01.air).kind != 0) = true by show ¬ (c.kind != 0) = true; simp [z]), e2]
    · rw [if_pos (by simp [z]), if_pos (show (((c :: cells).getD 0 Xb01.air).kind != 0) = true by show (c.kind != 0) = true; simp [z]), List.map_cons, e2]
      rfl
end Plain
end
section
set_option linter.all false
set_option maxRecDepth 10000
namespace Plain
open Mir (itm)
section
variable {b : Mir.BenchS} {h : Xb02.Session}
theorem idle_eq (hr : HR b h) : Mir.idlePlaces b.board b.marbles b.horizon = cI (Xb02.idleCells h) := by
  have e : Mir.idlePlaces b.board b.marbles b.horizon = (Mir.notAirFrom 0 b.board.2.2).filter fun p => decide (Mir.ringingWith b.board b.marbles b.horizon (p, 46) = Mir.ownRinging b) := rfl
  have e1 : Mir.notAirFrom 0 b.board.2.2 = cI ((List.range h.board.cells.length).filter fun k => (h.board.cells.getD k Xb01.air).kind != 0) := by
    rw [hr.bo]
    have z := notair_gen h.board.cells 0 hr.ok.c
    have e0 : (fun k => 0 + k) = (id : Nat → Nat) := funext fun k => Nat.zero_add k
    rw [e0, List.map_id] at z
    exact z
  rw [e, e1, hr.rings, hr.ok.n]
  unfold cI Xb02.idleCells
  rw [List.filter_map, List.filter_filter]
  congr 1
  refine List.filter_congr fun k hk => ?_
  have z := with_eq (s := 46) hr (List.mem_range.mp hk) rfl
  have z2 : decide (Mir.ringingWith b.board b.marbles b.horizon ((k : Int), ((46 : Nat) : Int)) = (Xb02.currentRinging h).map c2) = (Xb02.ringing h (Xb02.withChange h.board k 46) == Xb02.currentRinging h) := by
    rw [z, c2s_dec]
  rw [Bool.and_comm]
  exact congrArg (fun v => _ && v) z2
theorem idle_call (hr : HR b h) : Mir.idleCells b = (Xb02.runCall h .idleCells).2.v :: (Xb02.runCall h .idleCells).2.l := by
  unfold Mir.idleCells
  rw [idle_eq hr]
  exact poss_eq hr.bo (Xb02.idleCells h)
end
end Plain
end
section
set_option linter.all false
set_option maxRecDepth 10000
namespace Plain
open Mir (itm)
theorem firsts_le : ∀ (l acc : List Int), (Mir.firsts acc l).length ≤ acc.length + l.length
  | [], acc => by simp [Mir.firsts]
  | x :: l, acc => by
    unfold Mir.firsts
    have := firsts_le l (if acc.contains x then acc else acc ++ [x])
    refine Nat.le_trans this ?_
    split <;> simp <;> omega
theorem firsts_iff : ∀ (l acc : List Int), (Mir.firsts acc l).length = acc.length + l.length ↔ Xb02.distinct l = true ∧ ∀ x ∈ l, ¬ x ∈ acc
  | [], acc => by simp [Mir.firsts, Xb02.distinct]
  | x :: l, acc => by
    unfold Mir.firsts
    by_cases c : x ∈ acc
    · rw [if_pos (List.contains_iff_mem.mpr c)]
      have := firsts_le l acc
      constructor
      · intro e
        rw [List.length_cons] at e
        omega
      · intro e
        exact absurd c (e.2 x (List.mem_cons_self ..))
    · rw [if_neg (fun z => c (List.contains_iff_mem.mp z))]
      have z := firsts_iff l (acc ++ [x])
      rw [List.length_append, List.length_singleton] at z
      rw [List.length_cons, show acc.length + (l.length + 1) = acc.length + 1 + l.length by omega, z]
      have e : Xb02.distinct (x :: l) = (!l.contains x && Xb02.distinct l) := rfl
      rw [e, Bool.and_eq_true, Bool.not_eq_true']
      constructor
      · rintro ⟨h1, h2⟩
        refine ⟨⟨?_, h1⟩, ?_⟩
        · cases q : l.contains x with
          | false => rfl
          | true =>
            have := h2 x (List.contains_iff_mem.mp q)
            simp at this
        · intro y hy
          rcases List.mem_cons.mp hy with e | hy
          · rw [e]; exact c
          · have := h2 y hy
            simp at this
            exact this.1
      · rintro ⟨⟨h0, h1⟩, h2⟩
        refine ⟨h1, fun y hy hm => ?_⟩
        rcases List.mem_append.mp hm with hm | hm
        · exact h2 y (List.mem_cons_of_mem _ hy) hm
        · rw [List.mem_singleton] at hm
          subst hm
          have := List.contains_iff_mem.mpr hy
          rw [h0] at this
          cases this
theorem different_eq (l : List Int) : Mir.areDifferent l = Xb02.distinct l := by
  unfold Mir.areDifferent
  have z := firsts_iff l []
  rw [List.length_nil, Nat.zero_add] at z
  cases q : Xb02.distinct l with
  | true =>
    rw [q] at z
    exact decide_eq_true (by rw [z.mpr ⟨rfl, by simp⟩])
  | false =>
    rw [q] at z
    exact decide_eq_false fun e => by
      have := (z.mp (Int.ofNat.inj e)).1
      cases this
theorem sign_eq (s : Int) : Mir.isCellSign s = (decide (0 ≤ s) && (Xb01.cellOfChar s.toNat).isSome) := by
  by_cases c : 0 ≤ s
  · rw [decide_eq_true c, Bool.true_and, ← char_sign, Int.toNat_of_nonneg c]
  · rw [decide_eq_false c, Bool.false_and]
    cases q : Mir.isCellSign s with
    | false => rfl
    | true =>
      have := cellSign_range q
      omega
section
variable {b : Mir.BenchS} {h : Xb02.Session}
theorem palette_eq (hr : HR b h) (l : List Int) : AR (Mir.setPalette b l) (Xb02.runCall h (.setPalette l)) := by
  have e : Xb02.runCall h (.setPalette l) = (if l.length < 1 || 12 < l.length || !Xb02.distinct l || !l.all (fun s => decide (0 ≤ s) && (Xb01.cellOfChar s.toNat).isSome) then (h, Xb02.single (-2)) else ({ h with palette := l.map Int.toNat }, Xb02.single (Xb02.natInt l.length))) := rfl
  rw [e]
  unfold Mir.setPalette
  have e1 : (l.map Mir.isCellSign).all id = l.all fun s => decide (0 ≤ s) && (Xb01.cellOfChar s.toNat).isSome := by
    rw [List.all_map]
    have : (id ∘ Mir.isCellSign) = fun s => decide (0 ≤ s) && (Xb01.cellOfChar s.toNat).isSome := funext fun s => sign_eq s
    rw [this]
  rw [e1, different_eq]
  have e2 : (decide ((l.length : Int) < 1) || (decide (12 < (l.length : Int)) || !Xb02.distinct l)) = (decide (l.length < 1) || decide (12 < l.length) || !Xb02.distinct l) := by
    rw [Bool.or_assoc]
    congr 1
    · exact decide_eq_decide.mpr (by omega)
    · congr 1
      exact decide_eq_decide.mpr (by omega)
  rw [e2]
  generalize (decide (l.length < 1) || decide (12 < l.length) || !Xb02.distinct l) = u
  cases u with
  | true => exact ⟨rfl, hr⟩
  | false =>
    cases q : l.all (fun s => decide (0 ≤ s) && (Xb01.cellOfChar s.toNat).isSome) with
    | false => exact ⟨rfl, hr⟩
    | true =>
      have q := List.all_eq_true.mp q
      refine ⟨rfl, ⟨hr.ld, hr.bo, hr.ok, hr.ms, hr.ds, hr.hz, hr.tg, hr.tl, ?_, ?_⟩⟩
      · show l = cI (l.map Int.toNat)
        unfold cI
        rw [List.map_map]
        conv => lhs; rw [← List.map_id l]
        refine List.map_congr_left fun s hs => ?_
        have := q s hs
        rw [Bool.and_eq_true, decide_eq_true_eq] at this
        exact (Int.toNat_of_nonneg this.1).symm
      · intro s hs
        obtain ⟨t, ht, e⟩ := List.mem_map.mp (show s ∈ l.map Int.toNat from hs)
        have := q t ht
        rw [Bool.and_eq_true] at this
        rw [← e]
        exact this.2
end
end Plain
end
section
set_option linter.all false
set_option maxRecDepth 10000
namespace Plain
open Mir (itm)
theorem path_stays (h : Xb02.Session) (m : Int) : (Xb02.runCall h (.path m)).1 = h := by
  have e : Xb02.runCall h (.path m) = (if !Xb02.inRange 0 (Xb02.natInt h.drops.length - 1) m then (h, Xb02.single (-2)) else (h, ⟨Xb02.natInt (Xb02.path h m.toNat).length, (Xb02.path h m.toNat).flatMap (Xb02.position h)⟩)) := rfl
  rw [e]
  split <;> rfl
/-- one call of the object: the mirror's answer is the document's -/
theorem call_eq {b : Mir.BenchS} {s : Xb02.State} (h : SR b s) {p : Int} {ns : List Int} {q : Xb02.Call} (hp : Xb02Neutral.parseCall (p :: ns) = some q) :
    ((Mir.answered b p ns).2 = (Xb02.step s q).2.v :: (Xb02.step s q).2.l ∧ SR (Mir.answered b p ns).1 (Xb02.step s q).1) ∧ Mir.Ar p ns := by
  have key : ∀ (c : Xb02.Call) (z : Mir.BenchS × List Int), (∀ hh, HR b hh → AR z (Xb02.runCall hh c)) → (∀ t, c ≠ .load t) → ((if !b.loaded then (b, [-7]) else z).2 = (Xb02.step s c).2.v :: (Xb02.step s c).2.l ∧ SR (if !b.loaded then (b, [-7]) else z).1 (Xb02.step s c).1) := by
    intro c z hz hc
    have es : Xb02.step s c = (match s.session with
      | none => (s, Xb02.single (-7))
      | some h => (⟨some (Xb02.runCall h c).1⟩, (Xb02.runCall h c).2)) := by
      cases c <;> first | rfl | exact absurd rfl (hc _)
    rw [es]
    obtain ⟨ss⟩ := s
    cases ss with
    | none =>
      have hl : b.loaded = false := h
      rw [hl]
      exact ⟨rfl, h⟩
    | some hh =>
      have hr : HR b hh := h
      rw [if_neg (by rw [hr.ld]; decide)]
      exact hz hh hr
  unfold Xb02Neutral.parseCall at hp
  split at hp
  all_goals first | (cases hp; done) | skip
  all_goals (rename_i heq; injection heq with e1 e2; subst e1; subst e2; injection hp with hp; subst hp)
  · exact ⟨load_eq h _, by simp [Mir.Ar]⟩
  · exact ⟨key (.setPalette _) _ (fun hh hr => palette_eq hr _) (fun _ e => by cases e), by simp [Mir.Ar]⟩
  · exact ⟨key (.setHorizon _) _ (fun hh hr => horizon_eq hr _) (fun _ e => by cases e), by simp [Mir.Ar]⟩
  · exact ⟨key (.wantRing _ _) _ (fun hh hr => want_eq hr _ _) (fun _ e => by cases e), by simp [Mir.Ar]⟩
  · exact ⟨key .clearTarget _ (fun hh hr => clear_eq hr) (fun _ e => by cases e), by simp [Mir.Ar]⟩
  · exact ⟨key .ringing _ (fun hh hr => ⟨ringing_call hr, hr⟩) (fun _ e => by cases e), by simp [Mir.Ar]⟩
  · exact ⟨key .meetsTarget _ (fun hh hr => ⟨meets_call hr, hr⟩) (fun _ e => by cases e), by simp [Mir.Ar]⟩
  · exact ⟨key .repairs _ (fun hh hr => ⟨repairs_call hr, hr⟩) (fun _ e => by cases e), by simp [Mir.Ar]⟩
  · exact ⟨key .idleCells _ (fun hh hr => ⟨idle_call hr, hr⟩) (fun _ e => by cases e), by simp [Mir.Ar]⟩
  · exact ⟨key .countChanges _ (fun hh hr => ⟨count_call hr, hr⟩) (fun _ e => by cases e), by simp [Mir.Ar]⟩
  · exact ⟨key (.applyRepair _) _ (fun hh hr => apply_eq hr _) (fun _ e => by cases e), by simp [Mir.Ar]⟩
  · exact ⟨key .board _ (fun hh hr => ⟨board_call hr, hr⟩) (fun _ e => by cases e), by simp [Mir.Ar]⟩
  · exact ⟨key (.path _) (b, Mir.path b _) (fun hh hr => ⟨path_call hr _, (path_stays hh _).symm ▸ hr⟩) (fun _ e => by cases e), by simp [Mir.Ar]⟩
def asC (c : Int × List Int) : List (List Int) := [c.1 :: c.2]
theorem play_eq : ∀ (l : List (Int × List Int)) (b : Mir.BenchS) (s : Xb02.State) (acc : List Int), SR b s → (∀ c ∈ l, (Xb02Neutral.parseCall (c.1 :: c.2)).isSome = true) →
    (l.foldl Mir.answers1 (b, acc)).2 = acc ++ PyFlat.told (PyFlat.played Xb02Neutral.step s (l.map asC)) ∧ ∀ c ∈ l, Mir.Ar c.1 c.2
  | [], b, s, acc, _, _ => by simp [PyFlat.played, PyFlat.told]
  | c :: l, b, s, acc, h, ha => by
    obtain ⟨q, hq⟩ := Option.isSome_iff_exists.mp (ha c (List.mem_cons_self ..))
    obtain ⟨⟨z1, z2⟩, z3⟩ := call_eq h hq
    have es : Xb02Neutral.step s (asC c) = ((Xb02.step s q).1, (Xb02.step s q).2.v :: (Xb02.step s q).2.l) := by
      unfold Xb02Neutral.step
      show (match Xb02Neutral.parseCall (c.1 :: c.2) with
        | none => (s, [])
        | some q => ((Xb02.step s q).1, (Xb02.step s q).2.v :: (Xb02.step s q).2.l)) = _
      rw [hq]
    have e1 : Mir.answers1 (b, acc) c = ((Mir.answered b c.1 c.2).1, (acc ++ [((Mir.answered b c.1 c.2).2.length : Int)]) ++ (Mir.answered b c.1 c.2).2) := rfl
    obtain ⟨y1, y2⟩ := play_eq l _ _ ((acc ++ [((Mir.answered b c.1 c.2).2.length : Int)]) ++ (Mir.answered b c.1 c.2).2) z2 fun d hd => ha d (List.mem_cons_of_mem _ hd)
    refine ⟨?_, fun d hd => ?_⟩
    · rw [List.foldl_cons, e1, y1, List.map_cons]
      have e2 : PyFlat.played Xb02Neutral.step s (asC c :: l.map asC) = (Xb02Neutral.step s (asC c)).2 :: PyFlat.played Xb02Neutral.step (Xb02Neutral.step s (asC c)).1 (l.map asC) := rfl
      rw [e2, es, z1]
      unfold PyFlat.told
      rw [List.flatMap_cons]
      simp
    · rcases List.mem_cons.mp hd with e | hd
      · rw [e]; exact z3
      · exact y2 d hd
theorem drop_itm {cs : List Int} {a : Nat} {x : Int} {r : List Int} (h : cs.drop a = x :: r) : a < cs.length ∧ itm 0 cs (a : Int) = x ∧ cs.drop (a + 1) = r := by
  have hl : a < cs.length := by
    have := congrArg List.length h
    rw [List.length_drop, List.length_cons] at this
    omega
  rw [List.drop_eq_getElem_cons hl] at h
  injection h with h1 h2
  refine ⟨hl, ?_, h2⟩
  unfold itm
  rw [Int.toNat_natCast, List.getD_eq_getElem?_getD, List.getElem?_eq_getElem hl]
  exact h1
theorem rows_len : ∀ (k : Nat) (r : List Int) (xs : List (List Int)) (t : List Int), PyFlat.rows k r = some (xs, t) → xs.length = k ∧ (k = 0 → t = r)
  | 0, r, xs, t, h => by
    have h : (some ([], r) : Option (List (List Int) × List Int)) = some (xs, t) := h
    injection h with h
    injection h with h1 h2
    subst h1; subst h2
    exact ⟨rfl, fun _ => rfl⟩
  | k + 1, r, xs, t, h => by
    unfold PyFlat.rows at h
    split at h
    · cases h
    · split at h
      · cases h
      · rename_i q
        injection h with h
        injection h with h1 h2
        subst h1
        refine ⟨?_, fun z => by cases z⟩
        rw [List.length_cons, (rows_len k _ _ _ q).1]
theorem calls_eq {cs : List Int} : ∀ (f a : Nat) (acc : List (Int × List Int)) (css : List (List (List Int))), a ≤ cs.length → PyWide.calls f (cs.drop a) = some css → (∀ c ∈ css, c.length = 1) →
    Mir.segs f cs (a : Int) = true ∧ ∃ l, Mir.splitCalls f cs (a : Int) acc = acc ++ l ∧ css = l.map asC ∧ ∀ c ∈ l, c.2.length ≤ cs.length
  | 0, a, acc, css, ha, h, h1 => by
    cases q : cs.drop a with
    | nil =>
      rw [q] at h
      have hl := List.drop_eq_nil_iff.mp q
      have h : (some [] : Option (List (List (List Int)))) = some css := h
      injection h with h
      subst h
      refine ⟨?_, [], by rw [List.append_nil]; rfl, rfl, fun c hc => by cases hc⟩
      show (!decide ((a : Int) < (cs.length : Int))) = true
      rw [decide_eq_false (by omega)]
      rfl
    | cons x r =>
      rw [q] at h
      cases h
  | f + 1, a, acc, css, ha, h, h1 => by
    cases q : cs.drop a with
    | nil =>
      rw [q] at h
      have hl := List.drop_eq_nil_iff.mp q
      have h : (some [] : Option (List (List (List Int)))) = some css := h
      injection h with h
      subst h
      have e : decide ((a : Int) < (cs.length : Int)) = false := decide_eq_false (by omega)
      refine ⟨?_, [], ?_, rfl, fun c hc => by cases hc⟩
      · unfold Mir.segs
        rw [e]
        rfl
      · unfold Mir.splitCalls
        rw [e, List.append_nil]
        rfl
    | cons p r =>
      rw [q] at h
      obtain ⟨q1, q2, q3⟩ := drop_itm q
      have h : (match PyWide.call (p :: r) with
        | none => none
        | some (c, t) => match PyWide.calls f t with
          | none => none
          | some cs => some (c :: cs)) = some css := h
      split at h
      · cases h
      rename_i c t hc
      split at h
      · cases h
      rename_i css2 hcs
      injection h with h
      subst h
      unfold PyWide.call at hc
      dsimp only at hc
      split at hc
      · cases hc
      · cases hc
      rename_i ns k t2 hrow
      split at hc
      case isFalse => cases hc
      rename_i hk
      split at hc
      · cases hc
      rename_i xs u hrows
      injection hc with hc
      injection hc with hc1 hc2
      subst hc1
      subst hc2
      have hx := rows_len _ _ _ _ hrows
      have hx0 := h1 _ (List.mem_cons_self ..)
      rw [List.length_cons] at hx0
      have hxs : xs = [] := List.length_eq_zero_iff.mp (by omega)
      subst hxs
      have hk0 : k = 0 := by
        have := hx.1
        rw [List.length_nil] at this
        omega
      subst hk0
      have hu := hx.2 rfl
      subst hu
      cases r with
      | nil => cases hrow
      | cons n r2 =>
        obtain ⟨w1, w2, w3⟩ := drop_itm q3
        have hrow : (if 0 ≤ n ∧ n.toNat ≤ r2.length then some (r2.take n.toNat, r2.drop n.toNat) else none) = some (ns, 0 :: u) := hrow
        split at hrow
        case isFalse => cases hrow
        rename_i hn
        injection hrow with hrow
        injection hrow with hr1 hr2
        have hr3 : cs.drop (a + 2 + n.toNat) = 0 :: u := by
          rw [← List.drop_drop, w3]
          exact hr2
        obtain ⟨v1, v2, v3⟩ := drop_itm hr3
        have ea : (a : Int) + itm 0 cs ((a : Int) + 1) + 3 = ((a + 2 + n.toNat + 1 : Nat) : Int) := by
          have : itm 0 cs ((a : Int) + 1) = n := w2
          rw [this]
          omega
        have en : itm 0 cs ((a : Int) + 1) = n := w2
        have e : decide ((a : Int) < (cs.length : Int)) = true := decide_eq_true (by omega)
        rw [← v3] at hcs
        have el : (cs.drop ((a : Int) + 2).toNat).take (((a : Int) + 2 + itm 0 cs ((a : Int) + 1)).toNat - ((a : Int) + 2).toNat) = ns := by
          rw [en, show ((a : Int) + 2).toNat = a + 1 + 1 by omega, w3, show ((a : Int) + 2 + n).toNat - (a + 1 + 1) = n.toNat by omega]
          exact hr1
        obtain ⟨y1, l, y2, y3, y4⟩ := calls_eq f (a + 2 + n.toNat + 1) (acc ++ [(p, ns)]) css2 (by omega) hcs fun c hc => h1 c (List.mem_cons_of_mem _ hc)
        refine ⟨?_, (p, ns) :: l, ?_, ?_, ?_⟩
        · unfold Mir.segs
          rw [if_pos e, ea, y1, en, decide_eq_true hn.1, decide_eq_true (show (a : Int) + 1 < (cs.length : Int) by omega)]
          rfl
        · unfold Mir.splitCalls
          rw [if_pos e, ea, el, q2, y2]
          simp
        · rw [List.map_cons, y3]
          rfl
        · intro c hc
          rcases List.mem_cons.mp hc with e | hc
          · rw [e]
            show ns.length ≤ cs.length
            rw [← hr1, List.length_take]
            omega
          · exact y4 c hc
theorem law {cs : List Int} (hl : cs.length ≤ 19000) (h : PyXb02.answers_asked cs = true) : Mir.Asked cs ∧ Mir.answers cs = PyXb02.answers cs := by
  unfold PyXb02.answers_asked at h
  unfold PyXb02.answers
  split at h
  · cases h
  rename_i css hcs
  simp only [Bool.and_eq_true] at h
  have hm := of_decide_eq_true (show decide (css.length ≤ 20) = true from h.1.1)
  have ha : Xb02Neutral.asked css = true := h.1.2
  unfold Xb02Neutral.asked at ha
  rw [Bool.and_eq_true] at ha
  have ha := List.all_eq_true.mp ha.1
  have hone : ∀ c ∈ css, c.length = 1 := fun c hc => by
    have := ha c hc
    unfold Xb02Neutral.asked1 at this
    rw [Bool.and_eq_true, beq_iff_eq] at this
    exact this.1
  obtain ⟨y1, l, y2, y3, y4⟩ := calls_eq cs.length 0 [] css (Nat.zero_le _) hcs hone
  rw [List.nil_append] at y2
  have hs : SR Mir.newBench Xb02Neutral.start := rfl
  obtain ⟨z1, z2⟩ := play_eq l Mir.newBench Xb02Neutral.start [] hs fun c hc => by
    have := ha (asC c) (by rw [y3]; exact List.mem_map_of_mem hc)
    unfold Xb02Neutral.asked1 at this
    simp only [Bool.and_eq_true] at this
    exact this.2.2
  refine ⟨⟨by omega, y1, ?_, ?_⟩, ?_⟩
  · show (Mir.splitCalls cs.length cs ((0 : Nat) : Int) []).length ≤ 20
    rw [y2]
    rw [y3, List.length_map] at hm
    exact hm
  · show ∀ c ∈ Mir.splitCalls cs.length cs ((0 : Nat) : Int) [], _
    rw [y2]
    exact fun c hc => ⟨z2 c hc, Nat.le_trans (y4 c hc) (by omega)⟩
  · show ((Mir.splitCalls cs.length cs ((0 : Nat) : Int) []).foldl Mir.answers1 (Mir.newBench, [])).2 = PyFlat.told (PyFlat.played Xb02Neutral.step Xb02Neutral.start css)
    rw [y2, z1, y3]
    rfl
end Plain
end
section
set_option Elab.async false
set_option linter.all false
set_option maxRecDepth 100000
set_option maxHeartbeats 4000000
namespace Ck
open PySem PySem.W PyProof.Rows L2
theorem end_F {w : World} {mg : Str → Option Value} {fa : Addr} {h : Heap} (KX : (Tp.hd.heap_1 w.params).In h) (G : h.Ns mainGlobals mg) (hmg : mg "answers" = some (.ref fa)) :
    ∃ fd : FuncData, (∀ (s : Shared) (us : List Value), us.length = (["calls"] : List Str).length → BindsTo s fd ⟨us, []⟩ ((["calls"] : List Str).zip us)) ∧ ∀ base : Heap, (Tp.hd.heap_1 w.params).In base → base.Ns mainGlobals mg → FnOk Tp.R.prog w (Tp.hd.heap_1 w.params) mg base CX0 14 fa fd ["calls"] (spA (Tp.hd.heap_1 w.params)) := by
  obtain ⟨CP, CD, CR, CB, T⟩ := top_of KX G
  obtain ⟨f, fd, F, hf, hb⟩ := T.d_answers.ex
  have e := hmg.symm.trans hf
  cases e
  have F2 := F
  obtain ⟨oc, od, kV, doc, pm, an, cdv, ct, osl, rfl, lk, hcd⟩ := F2.ex
  exact ⟨_, fun s us hu => match us, hu with | [_], _ => .of_eq rfl, fun base _ _ => okF_answers T F⟩
end Ck
section
open PySem PySem.W PySem.Calls PyProof.Rows
theorem PySem.Challenge.cw_chutes_s01_answers_holds : PySem.Challenge.rw_chutes_s01_answers.Holds := by
  refine holds_os (r := PySem.Challenge.rw_chutes_s01_answers) (q := Tp.qv) (loose := Tp.looseN) (Xt := fun s => xlAt Tp.qv [] s && recOk [] s) (XP := XL Tp.qv []) (Yf := Hook.obs Tp.hk) (Ya := Hook.val Tp.hk) (YP := Hook.says Tp.hk) (d := Tp.dA) (kwd := []) (N := 9200) Tp.left (Hook.of Tp.hk) (Hook.keeps Tp.hk) (fun s e => xl_of s (Bool.and_eq_true_iff.mp e).1) XL.keeps Tp.r_def Tp.r_the Tp.r_kw (fun s e => recFacts_of (Bool.and_eq_true_iff.mp e).2) os_shapes Tp.r_said Tp.r_chains Tp.r_bare Tp.r_some ?_
  refine L2.walk_specK (r := PySem.Challenge.rw_chutes_s01_answers) (K := Tp.hd.heap_1) (k := 14) (CX := L2.CX0) (ps := ["calls"]) (sp := Ck.spA) Tp.r_said Tp.r_dfl rfl ⟨rfl, by decide, by decide⟩ (fun w h Y => PySem.W.kIn_of Y) ?F ?S (fun _ _ _ _ z => z)
  case F =>
    intro w mg fa h Y KX G hmg
    rw [Tp.r_name] at hmg
    exact Ck.end_F KX G hmg
  case S =>
    intro K H xs a hO hwi hask hx
    cases hx with
    | cons h1 h2 =>
      cases h2
      cases h1 with
      | lst hs ha =>
        have e := L2.ints_dw a.1 _ ha
        subst e
        have hlen : a.1.length ≤ 19000 := by
          have q : ((Codec.inLen 0 19000 a.1 && a.1.all (Codec.inInt (-9007199254740992) 9007199254740992)) && true) = true := hwi
          rw [Bool.and_eq_true, Bool.and_eq_true] at q
          exact (Codec.inNat_iff.mp q.1.1).2
        have hq := Plain.law (cs := a.1) hlen hask
        exact Ck.end_S hs hq.1 hq.2 fun H' p hp => .lst (L2.SqL.of hp) (L2.dw_ints _)
end
end
