import PyProof.Rows.All
import HandS.Head0
import HandS.Head1
import HandS.Head2
import HandS.Head3
import HandS.HeadHook1
import HandS.HeadHook2
import HandS.HeadHook4
import HandS.Words
import PySem.PyData
import PyProof.P3Statements
import PyProof.EqLayable
import HandS.Comp
import HandS.ForMost
import HandS.Deep
import HandS.Wide
import HandS.Gcd
import HandS.IsInst
import HandS.Conv
import HandS.NoneIn
import HandS.WideBits
import HandS.Style
import HandS.Rev
import HandS.Zip
import HandS.Flt
import HandS.SortInts
import HandS.TupAny
import HandS.Walk
import HandS.Flow
import HandS.More
import HandS.HeadEnd
import KE.GoesEnum
import PyProof.P3In
import PyProof.ReprRoads
import HandS.Defaults
import PyProof.ReprBulk
import PySem.Challenge.RW_stepswithin_k98_whole_starts_through_oth
set_option Elab.async false
set_option linter.all false
set_option maxRecDepth 100000
set_option maxHeartbeats 0
/-! Hd0: the row, its names, what the head's run is asked. -/
namespace SW
open PySem PySem.Spec PyProof.Rows L2
abbrev prg : Program := PySem.Challenge.pw_stepswithin_k98_whole_starts_through_oth
def top (i : Nat) : Stmt := prg.main.body.getD i (.Pass ⟨0, 0, 0, 0⟩)
def cst : List (Str × Int) := [("MOST_PART", 1000000000000000000000000000000000000000000000000000000000000), ("MOST_DEGREE", 64), ("MOST_ROW", 8), ("MOST_LOOKED_AT_starts", 2000), ("MOST_WHOLE", 256), ("MOST_TIMES", 60), ("MOST_LOOKED_AT_twostarts", 2000), ("MOST_DEGREE_HERE", 12), ("MOST_WORD", 4000), ("MOST_MODULO", 2000)]
def bltN : List Str := ["len", "abs", "max", "list", "tuple", "sorted", "int", "isinstance", "range", "enumerate", "reversed", "zip", "bool", "str", "repr"]
def defName : Stmt → Str
  | .FunctionDef n _ _ _ _ _ _ _ _ _ => n
  | _ => ""
abbrev R : PySem.W.OpenRow := PySem.W.OpenLaw.row PySem.Challenge.rw_stepswithin_k98_whole_starts_through_oth
def dDef (nm : Str) (st : Stmt) : He.DefD := ⟨(nm, none), defName st, defName st, defArgs st, defBody st, defScope st, [], []⟩
def lawIx : List (Str × Nat) := [("_law_mixed", 134), ("_law_begin", 135), ("_law_draw", 136), ("_law_of", 137), ("_law_number", 138), ("_law_some_step", 147), ("_law_letter", 148), ("_law_letters_right", 150), ("_law_rests_right", 152), ("_law_whole_right", 153), ("law", 154)]
/-- the walked defs: names and places -/
def tabIx : List (String × Nat) := [("is_from", 14), ("is_number", 15), ("is_step", 16), ("need_number", 17), ("need_step", 18), ("need_row", 19), ("number_of", 20), ("number_times", 21), ("number_less", 22), ("is_below", 23), ("reduced", 24), ("as_poly", 25), ("as_step", 26), ("times_so", 27), ("plus", 28), ("scaled", 29), ("put_in", 30), ("value_of", 31), ("value_at", 32), ("back_of", 33), ("straight_back", 34), ("comes_ahead", 35), ("ordered", 36), ("need_bent_starts", 39), ("holds_bound", 41), ("least_bound", 42), ("bounds_so", 43), ("is_within", 44), ("walk_so", 45), ("round_so", 46), ("comes_round", 47), ("check_bounds", 48), ("numbers_within", 49), ("all_rounds", 50), ("starts", 51), ("least_number", 52), ("rings", 53), ("product_of", 57), ("row_degree", 58), ("check_degree", 59), ("whole_of", 60), ("whole", 61), ("still_poly", 62), ("again_of", 63), ("again", 64), ("whole_power", 66), ("number_power", 67), ("poly_degree", 68), ("poly_head", 69), ("apart", 70), ("need_bent_commuting", 71), ("commutes", 73), ("count_items", 75), ("last_power", 76), ("least_pair", 77), ("signs_of", 78), ("are_like_heads", 79), ("looked_at", 80), ("found_of", 81), ("need_pair", 82), ("common_again", 83), ("need_whole_step", 87), ("need_whole", 88), ("led", 89), ("check_few", 90), ("strides_of", 91), ("first_numbers", 92), ("are_sides", 93), ("is_between", 94), ("are_apart", 95), ("grown", 96), ("met_so", 97), ("meeting_so", 98), ("asked", 99), ("comes_together", 100), ("is_growing", 103), ("need_choices", 104), ("bound_of", 105), ("whole_numbers", 106), ("ways_from", 107), ("word_to", 108), ("round_from", 109), ("stays", 110), ("is_word", 111), ("led_along", 112), ("is_staying", 113), ("need_modulo", 116), ("need_rest", 117), ("back_by", 118), ("rests_so", 119), ("led_rest", 120), ("ring_so", 121), ("rest_ring", 122), ("need_high", 124), ("middle_so", 125), ("raised", 127), ("whole_root", 128), ("roots_at", 129), ("need_both", 130), ("partners_so", 131), ("partners", 132), ("_law_divisor", 139), ("_law_frac", 140), ("_law_add", 141), ("_law_mul", 142), ("_law_less", 143), ("_law_value", 144), ("_law_walk", 145), ("_law_sorted", 149), ("_law_twice_right", 151), ("_law_like", 146)]
def dfs : List He.DefD := (tabIx.map fun p => dDef (Str.ofString p.1) (top p.2)) ++ lawIx.map fun p => dDef p.1 (top p.2)
def fas : List He.Fa := dfs.map (fun d => He.Fa.glo d.at_.1) ++ (bltN.map He.Fa.free ++ cst.map fun p => He.Fa.int p.1 p.2)
/-- gcd is math's -/
def gcdB (K : PySem.W.Frag) : Bool := He.eqO (PySem.W.nsIn K mainGlobals "gcd") (some (some (.builtin "math.gcd")))
/-- the module's dict, its functions, their codes -/
def codeA (o : Option Obj) : List Addr := match o with
  | some ⟨_, _, .func fd, _⟩ => He.refV fd.code
  | _ => []
def funA (g : Addr → Option Obj) (a : Addr) : List Addr := match g a with
  | some ⟨_, _, .func fd, _⟩ => a :: He.refV fd.code
  | _ => []
def asF (g : Addr → Option Obj) : List Addr := mainGlobals :: match g mainGlobals with
  | some o => (He.refsO o).flatMap (funA g)
  | none => []
def seeK (K : PySem.W.Frag) : He.AlD × Bool := (He.obsD fas dfs K, gcdB K)
def seeG (g : Addr → Option Obj) : He.AlD × Bool := seeK (He.frG g (asF g))
def hookG : PySem.W.Hook where
  α := He.AlD × Bool
  obs := fun s => seeG s.heap.get?
  val := fun _ => (He.valD dfs, true)
  says := fun _ h => ∃ K : PySem.W.Frag, K.In h ∧ He.SaysD fas dfs K ∧ gcdB K = true
  of := fun _ s e => ⟨_, He.frG_in, congrArg Prod.fst e, congrArg Prod.snd e⟩
  keeps := fun _ _ _ ⟨K, h1, h2, h3⟩ k => ⟨K, PySem.W.Frag.In.keeps h1 k, h2, h3⟩
def lo0 : List Str := (["__name__", "StepError", "BadNumber", "BadStep", "BadRow", "BadParameter", "NoRow", "Unlike", "TooGreat", "MOST_PART", "MOST_DEGREE", "MOST_ROW", "is_from", "is_number", "is_step", "need_number", "need_step", "need_row", "number_of", "number_times", "number_less", "is_below", "reduced", "as_poly", "as_step", "times_so", "plus", "scaled", "put_in", "value_of", "value_at", "back_of", "straight_back", "comes_ahead"] : List String).map Str.ofString
def lo1 : List Str := (["ordered", "MOST_LOOKED_AT_starts", "need_bent", "need_bent_starts", "holds_bound", "least_bound", "bounds_so", "is_within", "walk_so", "round_so", "comes_round", "check_bounds", "numbers_within", "all_rounds", "starts", "least_number", "rings", "MOST_WHOLE", "MOST_TIMES", "product_of", "row_degree", "check_degree", "whole_of", "whole", "still_poly", "again_of", "again", "whole_power", "number_power", "poly_degree", "poly_head", "apart", "need_bent_commuting", "commutes", "count_items"] : List String).map Str.ofString
def lo2 : List Str := (["last_power", "least_pair", "signs_of", "are_like_heads", "looked_at", "found_of", "need_pair", "common_again", "MOST_LOOKED_AT_twostarts", "MOST_DEGREE_HERE", "need_whole_step", "need_whole", "led", "check_few", "strides_of", "first_numbers", "are_sides", "is_between", "are_apart", "grown", "met_so", "meeting_so", "asked", "comes_together", "MOST_WORD", "is_growing", "need_choices", "bound_of", "whole_numbers", "ways_from", "word_to", "round_from", "stays", "is_word", "led_along"] : List String).map Str.ofString
def lo3 : List Str := (["is_staying", "MOST_MODULO", "need_modulo", "need_rest", "back_by", "rests_so", "led_rest", "ring_so", "rest_ring", "need_high", "middle_so", "raised", "whole_root", "roots_at", "need_both", "partners_so", "partners", "_law_mixed", "_law_begin", "_law_draw", "_law_of", "_law_number", "_law_divisor", "_law_frac", "_law_add", "_law_mul", "_law_less", "_law_value", "_law_walk", "_law_like", "_law_some_step", "_law_letter", "_law_sorted", "_law_letters_right", "_law_twice_right"] : List String).map Str.ofString
def lo4 : List Str := (["_law_rests_right", "_law_whole_right"] : List String).map Str.ofString
def loose : List Str := lo0 ++ lo1 ++ lo2 ++ lo3 ++ lo4
abbrev hk : PySem.W.Hook := hookG
def ob (s : PySem.W.SharedT) : He.AlD × Bool := seeG (HandSHeadRun.getT s)
theorem ob_eq (s : PySem.W.SharedT) : ob s = hk.obs s.abs := by
  have e : HandSHeadRun.getT s = s.abs.heap.get? := funext fun a => HandSHeadRun.getT_eq s a
  show seeG (HandSHeadRun.getT s) = seeG s.abs.heap.get?
  rw [e]
end SW
set_option Elab.async false
set_option linter.all false
set_option maxRecDepth 100000
set_option maxHeartbeats 0
/-! Hd2: the head's run, in parts (each within the memory). -/
namespace SW
open PySem PySem.Spec PyProof.Rows L2
abbrev qv : Program := PySem.W.view R.prog [0, 154]
noncomputable def whole_ (w : World) : Option (Shared × PySem.W.SharedT) := HandSHeadRun.wholeF (fun p => HandSHeadRun.stepQ (HandSHeadRun.denQ HandSHeadRun.tabQ) p w) HandSHeadRun.fenceQ 20000 R.prog
theorem run_a (w : World) : (whole_ w).map (fun x => (HandSHeadRun.looksF R.prog x.1.heap x.2.abs, HandSHeadRun.seenQ qv loose (PySem.importedModules R.prog.main.body) (fun s => PySem.W.xlAt qv [] s && PySem.W.recOk R.toRowW.records s) x.2.abs)) = some (true, PySem.W.openGood qv loose) := by
  kernel_rfl
theorem run_c (w : World) : (whole_ w).map (fun x => ob x.2) = some (hk.val w) := by
  kernel_rfl
theorem map_three {A B C D : Type} {o : Option A} {f : A → B} {g : A → C} {h : A → D} {b : B} {c : C} {d : D} (h1 : o.map (fun x => (f x, g x)) = some (b, c)) (h2 : o.map h = some d) : o.map (fun x => (f x, g x, h x)) = some (b, c, d) := by
  cases o with
  | none => cases h1
  | some x => cases h1; cases h2; rfl
theorem run (w : World) : HandSHeadRun.RunEqI R qv hk ob 20000 loose w := map_three (run_a w) (run_c w)
end SW
set_option Elab.async false
set_option linter.all false
/-! Ev: a small language of codes (slots in place of names) and its evaluator over plain data. No program in sight.
Made for the kernel: recursors in place of structural recursion, small functions, Nat's own tests. -/
namespace SW
open PySem

/-- what a slot, an argument, a result holds: data; a list that nothing else holds; a dict with int keys (read; owned); an owned dict with tuple keys; several values (arguments) -/
inductive SV where
  | dat (d : PyData)
  | own (xs : List PyData)
  | dic (kvs : List (Int × PyData))
  | odic (kvs : List (Int × PyData))
  | odit (kvs : List (List Int × PyData))
  | many (as : List SV)

/-- + - * // % << -/
inductive AOp where
  | add | sub | mul | fdiv | mod | shl
/-- < <= > >= -/
inductive POp where
  | lt | le | gt | ge
inductive Ty where
  | int | bool | tuple | str
/-- a target: a slot, a pair of targets -/
inductive T where
  | name (i : Nat)
  | pair (a b : T)
/-- constants -/
inductive K where
  | int (i : Int) | non | bl (b : Bool) | str (s : Str) | g (x : Str) (i : Int) | dK | dT
/-- operations with one operand -/
inductive U where
  | neg | isN | notN | notB (b : Bool) | one | not | revT | len | abs | maxL | listOf | tupOf | sorted | intOf | isInst (t : Ty) | bits
  | tup | lst | call (f : Nat) | inD (n : Bool) (d : Nat) | getD (d : Nat) | listD (d : Nat)
  | seq | rng1 | enum | rev
/-- .. with two -/
inductive B where
  | ar (o : AOp) | cat | catT | rep | cmp (o : POp) | eq | ne | inn (n : Bool) | and | or | ix | upTo | onFrom | max2 | gcd | index
  | rng2 | zip | zipR
/-- .. with three -/
inductive Tr where
  | chain (o p : POp) | ite | max3
/-- expressions; argument lists are nil, cons -/
inductive C where
  | v (i : Nat) | k (c : K) | nil | cons (a r : C)
  | un (o : U) (a : C) | bi (o : B) (a b : C) | tr (o : Tr) (a b c : C)
  | comp (t : T) (i ifs e : C) (own : List Nat)
/-- statements without a suite: a target's store; .. -/
inductive P where
  | asg (i : Nat) | asgT (t : T) | par2 (i j : Nat) | par3 (i j k : Nat) | setL (i : Nat) | setD (i : Nat) | append (i : Nat) | insert (i : Nat) | reverse (i : Nat)
  | grow (f l : Nat) (i : Nat) | expr | ret | brk | raise
inductive S where
  | skip | seq (s r : S) | prim (p : P) (es : C) | retv (i : Nat) | ifs (c : C) (a b : S) | whl (c : C) (b : S) | fr (t : T) (i : C) (b : S) | frz (i : Nat) (s : S)
abbrev En := List (Option SV)
inductive Out where
  | nx (ρ : En) | rt (r : SV) | bk (ρ : En)
abbrev FT := Nat → List SV → Option SV
/-- a code's value: true: to one that only looks -/
abbrev Ev1 := Bool → En → Option SV

/-! ### intsO -/
noncomputable def ifB {α : Type} (b : Bool) (t f : α) : α := Bool.rec (motive := fun _ => α) f t b
noncomputable def ltI (i j : Int) : Bool := Int.rec (motive := fun _ => Bool) (fun a => Int.rec (motive := fun _ => Bool) (fun b => Nat.ble (Nat.succ a) b) (fun _ => false) j)
  (fun a => Int.rec (motive := fun _ => Bool) (fun _ => true) (fun b => Nat.ble (Nat.succ b) a) j) i
noncomputable def leI (i j : Int) : Bool := Int.rec (motive := fun _ => Bool) (fun a => Int.rec (motive := fun _ => Bool) (fun b => Nat.ble a b) (fun _ => false) j)
  (fun a => Int.rec (motive := fun _ => Bool) (fun _ => true) (fun b => Nat.ble b a) j) i
noncomputable def eqI (i j : Int) : Bool := Int.rec (motive := fun _ => Bool) (fun a => Int.rec (motive := fun _ => Bool) (fun b => Nat.beq a b) (fun _ => false) j)
  (fun a => Int.rec (motive := fun _ => Bool) (fun _ => false) (fun b => Nat.beq a b) j) i
noncomputable def absN (i : Int) : Nat := Int.rec (motive := fun _ => Nat) (fun a => a) (fun a => Nat.succ a) i
/-- a number, reckoned out -/
noncomputable def forceN {α : Type} (n : Nat) (k : Nat → α) : α := Nat.rec (motive := fun _ => α) (k 0) (fun m _ => k (Nat.succ m)) n
noncomputable def dInt (i : Int) : Option SV := Int.rec (motive := fun _ => Option SV) (fun n => forceN n fun m => some (.dat (.int (.ofNat m)))) (fun n => forceN n fun m => some (.dat (.int (.negSucc m)))) i
noncomputable def dBool (b : Bool) : Option SV := Bool.rec (motive := fun _ => Option SV) (some (.dat (.bool false))) (some (.dat (.bool true))) b
def bigN : Nat := 1044388881413152506691752710716624382579964249047383780384233483283953907971557456848826811934997558340890106714439262837987573438185793607263236087851365277945956976543709998340361590134383718314428070011855946226376318839397712745672334684344586617496807908705803704071284048740118609114467977783598029006686938976881787785946905630190260940599579453432823469303026696443059025015972399867714215541693835559885291486318237914434496734087811872639496475100189041349008417061675093668333850551032972088269550769983616369411933015213796825837188091833656751221318492846368125550225998300412344784862595674492194617023806505913245610825731835380087608622102834270197698202313169017678006675195485079921636419370285375124784014907159135459982790513399611551794271106831134090584272884279791554849782954323534517065223269061394905987693002122963395687782878948440616007412945674919823050571642377154816321380631045902916136926708342856440730447899971901781465763473223850267253059899795996090799469201774624817718449867455659250178329070473119433165550807568221846571746373296884912819520317457002440926616910874148385078411929804522981857338977648103126085903001302413467189726673216491511131602920781738033436090243804708340403154190336
noncomputable def mulOk (i j : Int) : Bool := ifB (Nat.ble (absN i) bigN) (Nat.ble (absN j) bigN) false
noncomputable def aAdd (i j : Int) : Option SV := dInt (Int.add i j)
noncomputable def aSub (i j : Int) : Option SV := dInt (Int.sub i j)
noncomputable def aMul (i j : Int) : Option SV := ifB (mulOk i j) (dInt (Int.mul i j)) none
noncomputable def aDiv (i j : Int) : Option SV := Int.rec (motive := fun _ => Option SV) (fun n => ifB (Nat.beq n 0) none (ifB (Nat.ble n bigN) (dInt (Int.ediv i (.ofNat n))) none))
  (fun n => ifB (Nat.ble n 1000000000) (dInt (Int.fdiv i (.negSucc n))) none) j
noncomputable def aMod (i j : Int) : Option SV := Int.rec (motive := fun _ => Option SV) (fun n => ifB (Nat.beq n 0) none (dInt (Int.emod i (.ofNat n)))) (fun n => dInt (Int.fmod i (.negSucc n))) j
noncomputable def aShl (i j : Int) : Option SV := match j with
  | .ofNat n => match Nat.ble n 1000000, Nat.ble (absN i) 1000000000 with
    | true, true => dInt (Int.mul i (.ofNat (Nat.pow 2 n)))
    | _, _ => none
  | .negSucc _ => none
noncomputable def arI (o : AOp) : Int → Int → Option SV := AOp.rec (motive := fun _ => Int → Int → Option SV) aAdd aSub aMul aDiv aMod aShl o
noncomputable def poI (o : POp) : Int → Int → Bool := POp.rec (motive := fun _ => Int → Int → Bool) ltI leI (fun i j => ltI j i) (fun i j => leI j i) o
/-- max(m, i) -/
noncomputable def gtI (i m : Int) : Int := ifB (ltI m i) i m
noncomputable def intBits (x : Int) : Nat := match eqI x 0 with
  | true => 0
  | false => Nat.succ (Nat.log2 (absN x))
noncomputable def small (i : Int) : Bool := Nat.ble (absN i) 1000000000000000000

/-! ### lists -/
/-- xs[i]? -/
noncomputable def nth {α : Type} (xs : List α) : Nat → Option α :=
  List.rec (motive := fun _ => Nat → Option α) (fun _ => none) (fun x _ ih n => Nat.rec (motive := fun _ => Option α) (some x) (fun m _ => ih m) n) xs
/-- List.set -/
noncomputable def put {α : Type} (xs : List α) : Nat → α → List α :=
  List.rec (motive := fun _ => Nat → α → List α) (fun _ _ => []) (fun x r ih n v => Nat.rec (motive := fun _ => List α) (v :: r) (fun m _ => x :: ih m v) n) xs
/-- a list, its spine reckoned out -/
noncomputable def forceL {α β : Type} (xs : List α) : (List α → β) → β :=
  List.rec (motive := fun _ => (List α → β) → β) (fun k => k []) (fun x _ ih k => ih fun r => k (x :: r)) xs
/-- List.length -/
noncomputable def lng {α : Type} (xs : List α) : Nat := List.rec (motive := fun _ => Nat) 0 (fun _ _ n => Nat.succ n) xs
noncomputable def lenOk {α : Type} (xs : List α) : Bool := Nat.ble (lng xs) 100000
noncomputable def slot (ρ : En) (i : Nat) : Option SV := match nth ρ i with
  | some r => r
  | none => none
/-- the item at an index of any sign -/
noncomputable def atI {α : Type} (xs : List α) (i : Int) : Option α := Int.rec (motive := fun _ => Option α) (nth xs) (fun m => ifB (Nat.ble (Nat.succ m) (lng xs)) (nth xs (Nat.sub (lng xs) (Nat.succ m))) none) i
/-- a store's place: from 0 on -/
noncomputable def ixN (n : Nat) (i : Int) : Option Nat := match i with
  | .ofNat i => match Nat.ble (Nat.succ i) n with
    | true => some i
    | false => none
  | .negSucc _ => none
def takeN {α : Type} (i : Int) (xs : List α) : Option (List α) := match i with
  | .ofNat n => some (xs.take n)
  | .negSucc _ => none
def dropN {α : Type} (i : Int) (xs : List α) : Option (List α) := match i with
  | .ofNat n => some (xs.drop n)
  | .negSucc _ => none

/-! ### data -/
/-- as an argument, an item: no longer owned -/
def SV.arg : SV → Option SV
  | .dat d => some (.dat d)
  | .own xs => some (.dat (.list xs))
  | .dic kvs => some (.dic kvs)
  | _ => none
def SV.froz : SV → SV
  | .own xs => .dat (.list xs)
  | .odic kvs => .dic kvs
  | r => r
/-- a slot's value, taken (false) or looked at (true) -/
noncomputable def readV (pk : Bool) (r : Option SV) : Option SV := Option.rec (motive := fun _ => Option SV) none (fun r => SV.casesOn (motive_1 := fun _ => Option SV) r (fun d => some (.dat d)) (fun xs => ifB pk (some (.dat (.list xs))) none) (fun kvs => some (.dic kvs)) (fun _ => none) (fun _ => none) (fun _ => none)) r
noncomputable def intOf (d : PyData) : Option Int := PyData.casesOn (motive_1 := fun _ => Option Int) d none (fun _ => none) (fun i => some i) (fun _ => none) (fun _ => none) (fun _ => none) (fun _ => none)
noncomputable def intsO (ds : List PyData) : Option (List Int) := match ds with
  | [] => some []
  | d :: r => match intOf d with
    | some i => match intsO r with
      | some l => some (i :: l)
      | none => none
    | none => none
noncomputable def seqOf (d : PyData) : Option (List PyData) := PyData.casesOn (motive_1 := fun _ => Option (List PyData)) d none (fun _ => none) (fun _ => none) (fun _ => none) (fun xs => some xs) (fun xs => some xs) (fun _ => none)
noncomputable def eqL (f : PyData → PyData → Bool) : List PyData → List PyData → Bool
  | [], [] => true
  | x :: xs, y :: ys => match f x y with
    | true => eqL f xs ys
    | false => false
  | _, _ => false
/-- == of data without bools, at most n deep -/
noncomputable def eqP : Nat → PyData → PyData → Bool
  | _, .none, .none => true
  | _, .int i, .int j => eqI i j
  | n + 1, .list xs, .list ys => eqL (eqP n) xs ys
  | n + 1, .tuple xs, .tuple ys => eqL (eqP n) xs ys
  | _, _, _ => false
/-- data of intsO and None, at most n deep (no bool: True == 1) -/
def noB : Nat → PyData → Bool
  | _, .none => true
  | _, .int _ => true
  | n + 1, .list xs => xs.all (noB n)
  | n + 1, .tuple xs => xs.all (noB n)
  | _, _ => false
noncomputable def eqS (d e : PyData) : Option Bool := match noB 6 d, noB 6 e with
  | true, true => some (eqP 6 d e)
  | _, _ => none
/-- == of data -/
noncomputable def eqD (d e : PyData) : Option Bool := match d with
  | .int i => match e with
    | .int j => some (eqI i j)
    | e => eqS (.int i) e
  | .bool a => match e with
    | .bool b => some (a == b)
    | _ => none
  | d => eqS d e
noncomputable def inS (d : PyData) (ds : List PyData) : Bool := ds.any fun z => eqP 6 z d
noncomputable def keyEq : List Int → List Int → Bool
  | [], [] => true
  | a :: r, b :: s => match eqI a b with
    | true => keyEq r s
    | false => false
  | _, _ => false
noncomputable def getK {κ : Type} (e : κ → κ → Bool) (k : κ) : List (κ × PyData) → Option PyData
  | [] => none
  | kv :: r => match e kv.1 k with
    | true => some kv.2
    | false => getK e k r
noncomputable def setK {κ : Type} (e : κ → κ → Bool) (k : κ) (v : PyData) (kvs : List (κ × PyData)) : List (κ × PyData) := match getK e k kvs with
  | some _ => kvs.map fun kv => match e kv.1 k with
    | true => (kv.1, v)
    | false => kv
  | none => kvs ++ [(k, v)]
noncomputable def keyT : PyData → Option (List Int)
  | .tuple xs => intsO xs
  | _ => none
noncomputable def hasD (kvs : List (Int × PyData)) (d : PyData) : Option Bool := match d with
  | .int k => some (getK eqI k kvs).isSome
  | .none => some false
  | _ => none
/-- whether a key is in the dict at a slot -/
noncomputable def hasK (r : SV) (d : PyData) : Option Bool := match r with
  | .odic kvs => hasD kvs d
  | .dic kvs => hasD kvs d
  | .odit kvs => match keyT d with
    | some k => some (getK keyEq k kvs).isSome
    | none => none
  | _ => none
noncomputable def valD (kvs : List (Int × PyData)) (d : PyData) : Option PyData := match d with
  | .int k => getK eqI k kvs
  | _ => none
noncomputable def valK (r : SV) (d : PyData) : Option PyData := match r with
  | .odic kvs => valD kvs d
  | .dic kvs => valD kvs d
  | .odit kvs => match keyT d with
    | some k => getK keyEq k kvs
    | none => none
  | _ => none
noncomputable def putV (r : SV) (d v : PyData) : Option SV := match r with
  | .odic kvs => match lenOk kvs with
    | true => match d with
      | .int k => some (.odic (setK eqI k v kvs))
      | _ => none
    | false => none
  | .odit kvs => match lenOk kvs with
    | true => match keyT d with
      | some k => some (.odit (setK keyEq k v kvs))
      | none => none
    | false => none
  | _ => none
def keysOf : SV → Option (List PyData)
  | .odic kvs => some (kvs.map fun kv => .int kv.1)
  | .dic kvs => some (kvs.map fun kv => .int kv.1)
  | _ => none
noncomputable def insI (i : Int) : List Int → List Int
  | [] => [i]
  | j :: r => match leI i j with
    | true => i :: j :: r
    | false => j :: insI i r
noncomputable def sortI : List Int → List Int
  | [] => []
  | i :: r => insI i (sortI r)
noncomputable def maxI : Int → List Int → Int
  | m, [] => m
  | m, i :: r => maxI (gtI i m) r
def tyOf : PyData → Option Ty
  | .int _ => some .int
  | .bool _ => some .bool
  | .tuple _ => some .tuple
  | .str _ => some .str
  | _ => none
def isTy2 : Ty → Ty → Bool
  | .int, .int => true
  | .int, .bool => true
  | .bool, .bool => true
  | .tuple, .tuple => true
  | .str, .str => true
  | _, _ => false
noncomputable def isTy (t : Ty) (d : PyData) : Option SV := match tyOf d with
  | some u => dBool (isTy2 t u)
  | none => none
noncomputable def findI (d : PyData) : List PyData → Nat → Option Nat
  | [], _ => none
  | z :: r, n => match eqP 6 z d with
    | true => some n
    | false => findI d r (Nat.succ n)

/-! ### targets, walks -/
noncomputable def bindT (t : T) : PyData → En → Option En :=
  T.rec (motive := fun _ => PyData → En → Option En)
    (fun i d ρ => forceL (put ρ i (some (.dat d))) fun r => some r)
    (fun _ _ a b d ρ => match d with
      | .tuple [x, y] => match a x ρ with
        | none => none
        | some ρ1 => b y ρ1
      | _ => none) t
noncomputable def wipeE (ρ : En) (vs : List Nat) : En := List.rec (motive := fun _ => En) ρ (fun v _ r => put r v none) vs
def rangeL : Int → Nat → List PyData
  | _, 0 => []
  | lo, n + 1 => .int lo :: rangeL (Int.add lo 1) n
def enumL : Nat → List PyData → List PyData
  | _, [] => []
  | n, x :: r => .tuple [.int (.ofNat n), x] :: enumL (Nat.succ n) r
noncomputable def zipL : List PyData → List PyData → List PyData
  | x :: xs, y :: ys => .tuple [x, y] :: zipL xs ys
  | _, _ => []
/-- a comprehension's turns: none (fails), some none (dropped), some (some y) -/
noncomputable def compGo (f : PyData → Option (Option PyData)) (xs : List PyData) : Option (List PyData) :=
  List.rec (motive := fun _ => Option (List PyData)) (some []) (fun x _ ih => match f x with
    | none => none
    | some o => match ih with
      | none => none
      | some r => match o with
        | none => some r
        | some y => some (y :: r)) xs
/-- as data -/
noncomputable def datOf (r : SV) : Option PyData := SV.casesOn (motive_1 := fun _ => Option PyData) r (fun d => some d) (fun xs => some (.list xs)) (fun _ => none) (fun _ => none) (fun _ => none) (fun _ => none)
noncomputable def bnd {α β : Type} (r : Option α) (f : α → Option β) : Option β := Option.rec (motive := fun _ => Option β) none f r
noncomputable def dOf (r : Option SV) : Option PyData := bnd r datOf
noncomputable def dAll (as : List SV) : Option (List PyData) := match as with
  | [] => some []
  | r :: rs => match datOf r with
    | some d => match dAll rs with
      | some l => some (d :: l)
      | none => none
    | none => none
noncomputable def argAll (as : List SV) : Option (List SV) := match as with
  | [] => some []
  | r :: rs => match r.arg with
    | some d => match argAll rs with
      | some l => some (d :: l)
      | none => none
    | none => none
noncomputable def lstOf (d : PyData) : Option (List PyData) := PyData.casesOn (motive_1 := fun _ => Option (List PyData)) d none (fun _ => none) (fun _ => none) (fun _ => none) (fun xs => some xs) (fun _ => none) (fun _ => none)
noncomputable def tupOf (d : PyData) : Option (List PyData) := PyData.casesOn (motive_1 := fun _ => Option (List PyData)) d none (fun _ => none) (fun _ => none) (fun _ => none) (fun _ => none) (fun xs => some xs) (fun _ => none)
noncomputable def boolOf (d : PyData) : Option Bool := PyData.casesOn (motive_1 := fun _ => Option Bool) d none (fun b => some b) (fun _ => none) (fun _ => none) (fun _ => none) (fun _ => none) (fun _ => none)
noncomputable def onD (r : Option SV) (f : PyData → Option SV) : Option SV := bnd (bnd r datOf) f
noncomputable def onI (r : Option SV) (f : Int → Option SV) : Option SV := bnd (bnd (bnd r datOf) intOf) f
noncomputable def onB (r : Option SV) (f : Bool → Option SV) : Option SV := bnd (bnd (bnd r datOf) boolOf) f
noncomputable def onS (r : Option SV) (f : List PyData → Option SV) : Option SV := bnd (bnd (bnd r datOf) seqOf) f
noncomputable def onL (r : Option SV) (f : List PyData → Option SV) : Option SV := bnd (bnd (bnd r datOf) lstOf) f
noncomputable def onT (r : Option SV) (f : List PyData → Option SV) : Option SV := bnd (bnd (bnd r datOf) tupOf) f
noncomputable def manyOf (r : SV) : Option (List SV) := SV.casesOn (motive_1 := fun _ => Option (List SV)) r (fun _ => none) (fun _ => none) (fun _ => none) (fun _ => none) (fun _ => none) (fun as => some as)
noncomputable def onM (r : Option SV) (f : List SV → Option SV) : Option SV := bnd (bnd r manyOf) f
def dLst (xs : List PyData) : Option SV := some (.dat (.list xs))
def dTup (xs : List PyData) : Option SV := some (.dat (.tuple xs))
def isNon : PyData → Bool
  | .none => true
  | _ => false
/-! #### one operand: the operand's code's value -/
abbrev U1 := Ev1 → Bool → En → Option SV
noncomputable def uNeg : U1 := fun a _ ρ => onI (a false ρ) fun i => dInt (Int.neg i)
noncomputable def uIsN : U1 := fun a _ ρ => onD (a false ρ) fun d => dBool (isNon d)
noncomputable def uNotN : U1 := fun a _ ρ => onD (a false ρ) fun d => dBool (not (isNon d))
noncomputable def uNotB (b : Bool) : U1 := fun a _ ρ => onB (a false ρ) fun k => dBool (xor k b)
noncomputable def uOne : U1 := fun a _ ρ => onB (a false ρ) dBool
noncomputable def uNot : U1 := fun a _ ρ => onB (a false ρ) fun k => dBool (not k)
noncomputable def uRevT : U1 := fun a _ ρ => onT (a false ρ) fun xs => dTup xs.reverse
noncomputable def uLen : U1 := fun a _ ρ => onS (a true ρ) fun xs => dInt (.ofNat (lng xs))
noncomputable def uAbs : U1 := fun a _ ρ => onI (a false ρ) fun i => dInt (.ofNat (absN i))
noncomputable def uMaxL : U1 := fun a _ ρ => onL (a true ρ) fun xs => match intsO xs with
  | some (i :: r) => dInt (maxI i r)
  | _ => none
noncomputable def uListOf : U1 := fun a _ ρ => onS (a true ρ) fun xs => some (.own xs)
noncomputable def uTupOf : U1 := fun a _ ρ => onS (a true ρ) dTup
noncomputable def uSorted : U1 := fun a _ ρ => onL (a true ρ) fun xs => match intsO xs with
  | some is => some (.own ((sortI is).map PyData.int))
  | none => none
noncomputable def uIntOf : U1 := fun a _ ρ => onI (a false ρ) dInt
noncomputable def uIsInst (t : Ty) : U1 := fun a _ ρ => onD (a false ρ) (isTy t)
noncomputable def uBits : U1 := fun a _ ρ => onI (a false ρ) fun i => dInt (.ofNat (intBits i))
noncomputable def uTup : U1 := fun a _ ρ => onM (a false ρ) fun as => match dAll as with
  | some ds => match lenOk ds with
    | true => dTup ds
    | false => none
  | none => none
noncomputable def uLst : U1 := fun a _ ρ => onM (a false ρ) fun as => match dAll as with
  | some ds => match lenOk ds with
    | true => some (.own ds)
    | false => none
  | none => none
noncomputable def uCall (F : FT) (f : Nat) : U1 := fun a _ ρ => onM (a false ρ) fun as => match argAll as with
  | some vs => F f vs
  | none => none
noncomputable def uInD (n : Bool) (d : Nat) : U1 := fun a _ ρ => onD (a false ρ) fun k => match slot ρ d with
  | none => none
  | some t => match hasK t k with
    | none => none
    | some b => dBool (xor n b)
noncomputable def uGetD (d : Nat) : U1 := fun a _ ρ => onD (a false ρ) fun k => match slot ρ d with
  | none => none
  | some t => match valK t k with
    | none => none
    | some x => some (.dat x)
noncomputable def uListD (d : Nat) : U1 := fun _ _ ρ => match slot ρ d with
  | none => none
  | some t => match keysOf t with
    | none => none
    | some x => some (.own x)
noncomputable def uSeq : U1 := fun a pk ρ => onS (a pk ρ) dLst
noncomputable def uRng1 : U1 := fun a _ ρ => onI (a false ρ) fun j => match small j with
  | true => dLst (rangeL 0 j.toNat)
  | false => none
noncomputable def uEnum : U1 := fun a pk ρ => onS (a pk ρ) fun xs => dLst (enumL 0 xs)
noncomputable def uRev : U1 := fun a pk ρ => onS (a pk ρ) fun xs => dLst xs.reverse
noncomputable def opU (F : FT) (o : U) : U1 := U.rec (motive := fun _ => U1) uNeg uIsN uNotN uNotB uOne uNot uRevT uLen uAbs uMaxL uListOf uTupOf uSorted uIntOf uIsInst uBits
  uTup uLst (uCall F) uInD uGetD uListD uSeq uRng1 uEnum uRev o
/-! #### two -/
abbrev B1 := Ev1 → Ev1 → En → Option SV
noncomputable def bAr (o : AOp) : B1 := fun a b ρ => onI (a false ρ) fun i => onI (b false ρ) fun j => arI o i j
noncomputable def bCat : B1 := fun a b ρ => onL (a true ρ) fun xs => onL (b true ρ) fun ys => match lenOk xs, lenOk ys with
  | true, true => some (.own (xs ++ ys))
  | _, _ => none
noncomputable def bCatT : B1 := fun a b ρ => onT (a false ρ) fun xs => onT (b false ρ) fun ys => match lenOk xs, lenOk ys, xs with
  | true, true, x :: r => dTup (x :: r ++ ys)
  | _, _, _ => none
noncomputable def bRep : B1 := fun a b ρ => onL (a true ρ) fun xs => onI (b false ρ) fun k => match k, xs with
  | .ofNat n, [x] => match Nat.ble n 100000 with
    | true => some (.own (List.replicate n x))
    | false => none
  | _, _ => none
noncomputable def bCmp (o : POp) : B1 := fun a b ρ => onI (a false ρ) fun i => onI (b false ρ) fun j => dBool (poI o i j)
noncomputable def bEq : B1 := fun a b ρ => onD (a true ρ) fun d => onD (b true ρ) fun e => match eqD d e with
  | some k => dBool k
  | none => none
noncomputable def bNe : B1 := fun a b ρ => onD (a true ρ) fun d => onD (b true ρ) fun e => match eqD d e with
  | some k => dBool (not k)
  | none => none
noncomputable def bInn (n : Bool) : B1 := fun a b ρ => onD (a false ρ) fun d => onD (b true ρ) fun e => match seqOf e with
  | none => none
  | some ds => match noB 6 d, noB 6 e with
    | true, true => dBool (xor n (inS d ds))
    | _, _ => none
noncomputable def bAnd : B1 := fun a b ρ => onB (a false ρ) fun k => ifB k (b false ρ) (dBool false)
noncomputable def bOr : B1 := fun a b ρ => onB (a false ρ) fun k => ifB k (dBool true) (b false ρ)
noncomputable def bIx : B1 := fun a b ρ => onS (a true ρ) fun xs => onI (b false ρ) fun i => bnd (atI xs i) fun d => some (.dat d)
noncomputable def cutUp (i : Int) (d : PyData) : Option SV := match d with
  | .list xs => match takeN i xs with
    | some r => some (.own r)
    | none => none
  | .tuple xs => match takeN i xs with
    | some r => dTup r
    | none => none
  | _ => none
noncomputable def bUpTo : B1 := fun a b ρ => onD (a true ρ) fun d => onI (b false ρ) fun i => cutUp i d
noncomputable def bOnFrom : B1 := fun a b ρ => onL (a true ρ) fun xs => onI (b false ρ) fun i => match dropN i xs with
  | some r => some (.own r)
  | none => none
noncomputable def bMax2 : B1 := fun a b ρ => onI (a false ρ) fun i => onI (b false ρ) fun j => dInt (gtI j i)
noncomputable def bGcd : B1 := fun a b ρ => onI (a false ρ) fun i => onI (b false ρ) fun j => dInt (.ofNat (Nat.gcd (absN i) (absN j)))
noncomputable def bIndex : B1 := fun a b ρ => onL (a true ρ) fun xs => onD (b false ρ) fun d => match noB 6 (.list xs), noB 6 d with
  | true, true => match findI d xs 0 with
    | some n => dInt (.ofNat n)
    | none => none
  | _, _ => none
noncomputable def bRng2 : B1 := fun a b ρ => onI (a false ρ) fun i => onI (b false ρ) fun j => match small i, small j with
  | true, true => dLst (rangeL i (Int.sub j i).toNat)
  | _, _ => none
noncomputable def bZip : B1 := fun a b ρ => onT (a false ρ) fun xs => onT (b false ρ) fun ys => dLst (zipL xs ys)
noncomputable def bZipR : B1 := fun a b ρ => onT (a false ρ) fun xs => onT (b false ρ) fun ys => dLst (zipL xs.reverse ys.reverse)
noncomputable def opB (o : B) : B1 := B.rec (motive := fun _ => B1) bAr bCat bCatT bRep bCmp bEq bNe bInn bAnd bOr bIx bUpTo bOnFrom bMax2 bGcd bIndex bRng2 bZip bZipR o
/-! #### three -/
abbrev T1 := Ev1 → Ev1 → Ev1 → En → Option SV
noncomputable def tChain (o p : POp) : T1 := fun a b c ρ => onI (a false ρ) fun i => onI (b false ρ) fun j => ifB (poI o i j) (onI (c false ρ) fun k => dBool (poI p j k)) (dBool false)
noncomputable def tIte : T1 := fun c a b ρ => onB (c false ρ) fun k => ifB k (a false ρ) (b false ρ)
noncomputable def tMax3 : T1 := fun a b c ρ => onI (a false ρ) fun i => onI (b false ρ) fun j => onI (c false ρ) fun k => dInt (gtI k (gtI j i))
noncomputable def opT (o : Tr) : T1 := Tr.rec (motive := fun _ => T1) tChain tIte tMax3 o
noncomputable def opK (c : K) : Option SV := K.rec (motive := fun _ => Option SV) dInt (some (.dat .none)) dBool (fun s => some (.dat (.str s))) (fun _ i => dInt i) (some (.odic [])) (some (.odit [])) c
noncomputable def opCons (a r : Option SV) : Option SV := bnd a fun x => onM r fun ys => some (.many (x :: ys))
/-- all tests of a comprehension (an argument list of bools) -/
noncomputable def allT (bs : List SV) : Option Bool := match bs with
  | [] => some true
  | r :: rs => match datOf r with
    | some d => match boolOf d with
      | some true => allT rs
      | some false => some false
      | none => none
    | none => none
/-- a turn of a comprehension -/
noncomputable def compTurn (t : T) (ρw : En) (ifs e : Ev1) (x : PyData) : Option (Option PyData) := match bindT t x ρw with
  | none => none
  | some ρ1 => match ifs false ρ1 with
    | some r => match manyOf r with
      | some bs => match allT bs with
        | none => none
        | some k => match k with
          | false => some none
          | true => match dOf (e false ρ1) with
            | some d => some (some d)
            | none => none
      | none => none
    | none => none
noncomputable def opComp (t : T) (own : List Nat) (i ifs e : Ev1) (ρ : En) : Option SV := onL (i true ρ) fun xs => forceL (wipeE ρ own) fun ρw =>
  match compGo (compTurn t ρw ifs e) xs with
  | none => none
  | some ys => match lenOk ys with
    | true => some (.own ys)
    | false => none
/-- a code's value -/
noncomputable def evC (F : FT) (c : C) : Ev1 :=
  C.rec (motive := fun _ => Ev1)
    (fun i pk ρ => readV pk (slot ρ i))
    (fun c _ _ => opK c)
    (fun _ _ => some (.many []))
    (fun _ _ a r _ ρ => opCons (a false ρ) (r false ρ))
    (fun o _ a => opU F o a)
    (fun o _ _ a b _ => opB o a b)
    (fun o _ _ _ a b c _ => opT o a b c)
    (fun t _ _ _ own i ifs e _ => opComp t own i ifs e) c

/-! ### statements -/
/-- on, the slots reckoned out -/
noncomputable def nxF (ρ : En) : Option Out := forceL ρ fun r => some (.nx r)
noncomputable def onO (o : Option Out) (n b : En → Option Out) : Option Out := bnd o fun o => Out.rec (motive := fun _ => Option Out) n (fun r => some (.rt r)) b o
noncomputable def testO (r : Option SV) (a b : Option Out) : Option Out := bnd (bnd (bnd r datOf) boolOf) fun k => ifB k a b
noncomputable def loopW (c : En → Option SV) (b : En → Option Out) (n : Nat) : En → Option Out :=
  Nat.rec (motive := fun _ => En → Option Out) (fun _ => none) (fun _ ih ρ => testO (c ρ) (onO (b ρ) ih fun ρ1 => some (.nx ρ1)) (some (.nx ρ))) n
noncomputable def loopF (b : PyData → En → Option Out) (xs : List PyData) : En → Option Out :=
  List.rec (motive := fun _ => En → Option Out) (fun ρ => some (.nx ρ)) (fun x _ ih ρ => onO (b x ρ) ih fun ρ1 => some (.nx ρ1)) xs
noncomputable def growGo (F : FT) (l : Nat) (ns : PyData) (k : Int) (n : Nat) : List PyData → Option (List PyData) :=
  Nat.rec (motive := fun _ => List PyData → Option (List PyData)) (fun _ => none) (fun _ ih xs => match leI (.ofNat (lng xs)) k with
    | true => match atI xs (.negSucc 0) with
      | none => none
      | some x => match dOf (F l [.dat ns, .dat x]) with
        | some y => match lenOk xs with
          | true => ih (xs ++ [y])
          | false => none
        | none => none
    | false => some xs) n
abbrev P1 := List SV → En → Option Out
noncomputable def onCons {α : Type} (as : List α) (f : α → List α → Option Out) : Option Out := List.rec (motive := fun _ => Option Out) none (fun x r _ => f x r) as
noncomputable def onNil {α : Type} (as : List α) (o : Option Out) : Option Out := List.rec (motive := fun _ => Option Out) o (fun _ _ _ => none) as
noncomputable def on1 (as : List SV) (f : SV → Option Out) : Option Out := onCons as fun x r => onNil r (f x)
noncomputable def on2 (as : List SV) (f : SV → SV → Option Out) : Option Out := onCons as fun x r => onCons r fun y r => onNil r (f x y)
noncomputable def on3 (as : List SV) (f : SV → SV → SV → Option Out) : Option Out := onCons as fun x r => onCons r fun y r => onCons r fun z r => onNil r (f x y z)
noncomputable def onDat (r : SV) (f : PyData → Option Out) : Option Out := bnd (datOf r) f
noncomputable def onInt (r : SV) (f : Int → Option Out) : Option Out := bnd (bnd (datOf r) intOf) f
def ownOf : SV → Option (List PyData)
  | .own xs => some xs
  | _ => none
/-- the owned list at a slot -/
noncomputable def onOwn (ρ : En) (i : Nat) (f : List PyData → Option Out) : Option Out := match slot ρ i with
  | some r => match ownOf r with
    | some xs => f xs
    | none => none
  | none => none
noncomputable def pAsg (i : Nat) : P1 := fun as ρ => on1 as fun r => nxF (put ρ i (some r))
noncomputable def pAsgT (t : T) : P1 := fun as ρ => on1 as fun r => onDat r fun d => match bindT t d ρ with
  | some ρ1 => some (.nx ρ1)
  | none => none
noncomputable def pPar2 (i j : Nat) : P1 := fun as ρ => on2 as fun x y => nxF (put (put ρ i (some x)) j (some y))
noncomputable def pPar3 (i j k : Nat) : P1 := fun as ρ => on3 as fun x y z => nxF (put (put (put ρ i (some x)) j (some y)) k (some z))
noncomputable def pSetL (i : Nat) : P1 := fun as ρ => on2 as fun e n => onDat e fun d => onInt n fun n => onOwn ρ i fun xs => match ixN (lng xs) n with
  | none => none
  | some j => forceL (put xs j d) fun ys => nxF (put ρ i (some (.own ys)))
noncomputable def pSetD (i : Nat) : P1 := fun as ρ => on2 as fun e k => onDat e fun d => onDat k fun k => match slot ρ i with
  | none => none
  | some t => match putV t k d with
    | none => none
    | some t1 => nxF (put ρ i (some t1))
noncomputable def pAppend (i : Nat) : P1 := fun as ρ => on1 as fun e => onDat e fun d => onOwn ρ i fun xs => match lenOk xs with
  | true => forceL (xs ++ [d]) fun ys => nxF (put ρ i (some (.own ys)))
  | false => none
noncomputable def pInsert (i : Nat) : P1 := fun as ρ => on2 as fun n e => onInt n fun n => onDat e fun d => onOwn ρ i fun xs => match lenOk xs, n with
  | true, .ofNat k => match Nat.ble k 100000 with
    | true => nxF (put ρ i (some (.own (xs.take k ++ [d] ++ xs.drop k))))
    | false => none
  | _, _ => none
noncomputable def pReverse (i : Nat) : P1 := fun as ρ => onOwn ρ i fun xs => nxF (put ρ i (some (.own xs.reverse)))
noncomputable def pGrow (F : FT) (W : Nat) (_ l : Nat) (i : Nat) : P1 := fun as ρ => on2 as fun ns k => onDat ns fun ns => onInt k fun k => onOwn ρ i fun xs => match growGo F l ns k W xs with
  | none => none
  | some ys => nxF (put ρ i (some (.own ys)))
noncomputable def pExpr : P1 := fun as ρ => on1 as fun _ => some (.nx ρ)
noncomputable def pRet : P1 := fun as _ => on1 as fun r => some (.rt r)
noncomputable def pBrk : P1 := fun _ ρ => some (.bk ρ)
noncomputable def pRaise : P1 := fun _ _ => none
noncomputable def opP (F : FT) (W : Nat) (p : P) : P1 := P.rec (motive := fun _ => P1) pAsg pAsgT pPar2 pPar3 pSetL pSetD pAppend pInsert pReverse (pGrow F W) pExpr pRet pBrk pRaise p
noncomputable def evP (F : FT) (W : Nat) (p : P) (es : C) (ρ : En) : Option Out := bnd (bnd (evC F es false ρ) manyOf) fun as => opP F W p as ρ
noncomputable def evR (i : Nat) (ρ : En) : Option Out := match slot ρ i with
  | some r => some (.rt r)
  | none => none
noncomputable def evF (t : T) (b : En → Option Out) (r : Option SV) (ρ : En) : Option Out := match dOf r with
  | some d => match lstOf d with
    | some xs => loopF (fun x ρ => match bindT t x ρ with
      | none => none
      | some ρ1 => b ρ1) xs ρ
    | none => none
  | none => none
noncomputable def evZ (i : Nat) (s : En → Option Out) (ρ : En) : Option Out := match slot ρ i with
  | none => none
  | some r => forceL (put ρ i (some r.froz)) s
noncomputable def evS (F : FT) (W : Nat) (s : S) : En → Option Out :=
  S.rec (motive := fun _ => En → Option Out)
    (fun ρ => some (.nx ρ))
    (fun _ _ s r ρ => onO (s ρ) r fun ρ1 => some (.bk ρ1))
    (fun p es ρ => evP F W p es ρ)
    evR
    (fun c _ _ a b ρ => testO (evC F c false ρ) (a ρ) (b ρ))
    (fun c _ b ρ => loopW (evC F c false) b W ρ)
    (fun t i _ b ρ => evF t b (evC F i false ρ) ρ)
    (fun i _ s ρ => evZ i s ρ) s

/-- a def: how many parameters, how many names in all, the body -/
structure Df where
  np : Nat
  n : Nat
  body : S
def startE (n : Nat) (as : List SV) : En := as.map some ++ List.replicate (Nat.sub n as.length) none
noncomputable def runD (F : FT) (W : Nat) (d : Df) (as : List SV) : Option SV := match Nat.beq (lng as) d.np with
  | true => forceL (startE d.n as) fun ρ => match evS F W d.body ρ with
    | some o => match o with
      | .rt r => some r
      | .nx _ => some (.dat .none)
      | .bk _ => none
    | none => none
  | false => none
end SW
set_option Elab.async false
set_option linter.all false
/-! EvL: what the evaluator's small functions are, in plain words. -/
namespace SW
open PySem

@[simp] theorem ifB_t {α : Type} (t f : α) : ifB true t f = t := rfl
@[simp] theorem ifB_f {α : Type} (t f : α) : ifB false t f = f := rfl
theorem ifB_some {α : Type} {b : Bool} {t : Option α} {x : α} (h : ifB b t none = some x) : b = true ∧ t = some x := by
  cases b with
  | true => exact ⟨rfl, h⟩
  | false => cases h
theorem forceN_eq {α : Type} (n : Nat) (k : Nat → α) : forceN n k = k n := by cases n <;> rfl
@[simp] theorem dInt_eq (i : Int) : dInt i = some (.dat (.int i)) := by
  cases i with
  | ofNat n => exact forceN_eq n fun m => some (SV.dat (.int (.ofNat m)))
  | negSucc n => exact forceN_eq n fun m => some (SV.dat (.int (.negSucc m)))
@[simp] theorem dBool_eq (b : Bool) : dBool b = some (.dat (.bool b)) := by cases b <;> rfl
@[simp] theorem bnd_none {α β : Type} (f : α → Option β) : bnd none f = none := rfl
@[simp] theorem bnd_some {α β : Type} (x : α) (f : α → Option β) : bnd (some x) f = f x := rfl
theorem bnd_inv {α β : Type} {r : Option α} {f : α → Option β} {y : β} (h : bnd r f = some y) : ∃ x, r = some x ∧ f x = some y := by
  cases r with
  | none => cases h
  | some x => exact ⟨x, rfl, h⟩
theorem ltI_eq (i j : Int) : ltI i j = decide (i < j) := by
  cases i with
  | ofNat a => cases j with
    | ofNat b =>
      show Nat.ble (a + 1) b = _
      by_cases h : a < b
      · rw [decide_eq_true (by show (a : Int) < (b : Int); omega)]; exact Nat.ble_eq.mpr h
      · rw [decide_eq_false (by show ¬ (a : Int) < (b : Int); omega)]
        exact Bool.eq_false_iff.mpr fun z => h (Nat.ble_eq.mp z)
    | negSucc b => exact (decide_eq_false (by have := Int.negSucc_lt_zero b; show ¬ (a : Int) < _; omega)).symm
  | negSucc a => cases j with
    | ofNat b => exact (decide_eq_true (by have := Int.negSucc_lt_zero a; show _ < (b : Int); omega)).symm
    | negSucc b =>
      show Nat.ble (b + 1) a = _
      by_cases h : b < a
      · rw [decide_eq_true (by rw [Int.negSucc_eq, Int.negSucc_eq]; omega)]; exact Nat.ble_eq.mpr h
      · rw [decide_eq_false (by rw [Int.negSucc_eq, Int.negSucc_eq]; omega)]
        exact Bool.eq_false_iff.mpr fun z => h (Nat.ble_eq.mp z)
theorem leI_eq (i j : Int) : leI i j = decide (i ≤ j) := by
  cases i with
  | ofNat a => cases j with
    | ofNat b =>
      show Nat.ble a b = _
      by_cases h : a ≤ b
      · rw [decide_eq_true (by show (a : Int) ≤ (b : Int); omega)]; exact Nat.ble_eq.mpr h
      · rw [decide_eq_false (by show ¬ (a : Int) ≤ (b : Int); omega)]
        exact Bool.eq_false_iff.mpr fun z => h (Nat.ble_eq.mp z)
    | negSucc b => exact (decide_eq_false (by have := Int.negSucc_lt_zero b; show ¬ (a : Int) ≤ _; omega)).symm
  | negSucc a => cases j with
    | ofNat b => exact (decide_eq_true (by have := Int.negSucc_lt_zero a; show _ ≤ (b : Int); omega)).symm
    | negSucc b =>
      show Nat.ble b a = _
      by_cases h : b ≤ a
      · rw [decide_eq_true (by rw [Int.negSucc_eq, Int.negSucc_eq]; omega)]; exact Nat.ble_eq.mpr h
      · rw [decide_eq_false (by rw [Int.negSucc_eq, Int.negSucc_eq]; omega)]
        exact Bool.eq_false_iff.mpr fun z => h (Nat.ble_eq.mp z)
theorem beqN (a b : Nat) : Nat.beq a b = decide (a = b) := by
  by_cases h : a = b
  · subst h; rw [decide_eq_true rfl]; exact Nat.beq_refl a
  · rw [decide_eq_false h]; exact Bool.eq_false_iff.mpr fun z => h (Nat.eq_of_beq_eq_true z)
theorem eqI_eq (i j : Int) : eqI i j = decide (i = j) := by
  cases i with
  | ofNat a => cases j with
    | ofNat b => show Nat.beq a b = _; rw [beqN]; exact decide_eq_decide.mpr ⟨fun h => by rw [h], fun h => Int.ofNat.inj h⟩
    | negSucc b => exact (decide_eq_false (fun z => nomatch z)).symm
  | negSucc a => cases j with
    | ofNat b => exact (decide_eq_false (fun z => nomatch z)).symm
    | negSucc b => show Nat.beq a b = _; rw [beqN]; exact decide_eq_decide.mpr ⟨fun h => by rw [h], fun h => Int.negSucc.inj h⟩
theorem absN_eq (i : Int) : absN i = i.natAbs := by cases i <;> rfl
theorem poI_eq (o : POp) (i j : Int) : poI o i j = match o with | .lt => decide (i < j) | .le => decide (i ≤ j) | .gt => decide (j < i) | .ge => decide (j ≤ i) := by
  cases o with
  | lt => exact ltI_eq i j
  | le => exact leI_eq i j
  | gt => exact ltI_eq j i
  | ge => exact leI_eq j i
theorem gtI_eq (i m : Int) : gtI i m = if i > m then i else m := by
  unfold gtI
  rw [ltI_eq]
  by_cases h : m < i
  · rw [decide_eq_true h, if_pos h]; rfl
  · rw [decide_eq_false h, if_neg h]; rfl
theorem nth_eq {α : Type} : ∀ (xs : List α) (n : Nat), nth xs n = xs[n]?
  | [], _ => rfl
  | _ :: _, 0 => rfl
  | _ :: r, n + 1 => nth_eq r n
theorem put_eq {α : Type} : ∀ (xs : List α) (n : Nat) (v : α), put xs n v = xs.set n v
  | [], _, _ => rfl
  | _ :: _, 0, _ => rfl
  | x :: r, n + 1, v => congrArg (x :: ·) (put_eq r n v)
@[simp] theorem forceL_eq {α β : Type} : ∀ (xs : List α) (k : List α → β), forceL xs k = k xs
  | [], _ => rfl
  | x :: r, k => forceL_eq r fun r => k (x :: r)
theorem lng_eq {α : Type} : ∀ xs : List α, lng xs = xs.length
  | [] => rfl
  | _ :: r => congrArg Nat.succ (lng_eq r)
theorem lenOk_le {α : Type} {xs : List α} (h : lenOk xs = true) : xs.length ≤ 100000 := by
  have := Nat.ble_eq.mp h
  rwa [lng_eq] at this
theorem slot_some {ρ : En} {i : Nat} {r : SV} (h : slot ρ i = some r) : ρ[i]? = some (some r) := by
  unfold slot at h
  rw [nth_eq] at h
  cases e : ρ[i]? with
  | none => rw [e] at h; cases h
  | some o => rw [e] at h; cases h; rfl

/-! ### codes, one by one -/
section
variable (F : FT) (W : Nat)
theorem evC_v (i : Nat) (pk : Bool) (ρ : En) : evC F (.v i) pk ρ = readV pk (slot ρ i) := rfl
theorem evC_k (c : K) (pk : Bool) (ρ : En) : evC F (.k c) pk ρ = opK c := rfl
theorem evC_nil (pk : Bool) (ρ : En) : evC F .nil pk ρ = some (.many []) := rfl
theorem evC_cons (a r : C) (pk : Bool) (ρ : En) : evC F (.cons a r) pk ρ = opCons (evC F a false ρ) (evC F r false ρ) := rfl
theorem evC_un (o : U) (a : C) (pk : Bool) (ρ : En) : evC F (.un o a) pk ρ = opU F o (evC F a) pk ρ := rfl
theorem evC_bi (o : B) (a b : C) (pk : Bool) (ρ : En) : evC F (.bi o a b) pk ρ = opB o (evC F a) (evC F b) ρ := rfl
theorem evC_tr (o : Tr) (a b c : C) (pk : Bool) (ρ : En) : evC F (.tr o a b c) pk ρ = opT o (evC F a) (evC F b) (evC F c) ρ := rfl
theorem evC_comp (t : T) (i ifs e : C) (own : List Nat) (pk : Bool) (ρ : En) : evC F (.comp t i ifs e own) pk ρ = opComp t own (evC F i) (evC F ifs) (evC F e) ρ := rfl
theorem evS_skip (ρ : En) : evS F W .skip ρ = some (.nx ρ) := rfl
theorem evS_seq (s r : S) (ρ : En) : evS F W (.seq s r) ρ = onO (evS F W s ρ) (evS F W r) fun ρ1 => some (.bk ρ1) := rfl
theorem evS_prim (p : P) (es : C) (ρ : En) : evS F W (.prim p es) ρ = evP F W p es ρ := rfl
theorem evS_retv (i : Nat) (ρ : En) : evS F W (.retv i) ρ = evR i ρ := rfl
theorem evS_ifs (c : C) (a b : S) (ρ : En) : evS F W (.ifs c a b) ρ = testO (evC F c false ρ) (evS F W a ρ) (evS F W b ρ) := rfl
theorem evS_whl (c : C) (b : S) (ρ : En) : evS F W (.whl c b) ρ = loopW (evC F c false) (evS F W b) W ρ := rfl
theorem evS_fr (t : T) (i : C) (b : S) (ρ : En) : evS F W (.fr t i b) ρ = evF t (evS F W b) (evC F i false ρ) ρ := rfl
theorem evS_frz (i : Nat) (s : S) (ρ : En) : evS F W (.frz i s) ρ = evZ i (evS F W s) ρ := rfl
end

/-! ### inversions -/
theorem datOf_some {r : SV} {d : PyData} (h : datOf r = some d) : r = .dat d ∨ ∃ xs, r = .own xs ∧ d = .list xs := by
  cases r with
  | dat e => cases h; exact .inl rfl
  | own xs => cases h; exact .inr ⟨xs, rfl, rfl⟩
  | dic _ => cases h
  | odic _ => cases h
  | odit _ => cases h
  | many _ => cases h
theorem intOf_some {d : PyData} {i : Int} (h : intOf d = some i) : d = .int i := by cases d <;> cases h; rfl
theorem boolOf_some {d : PyData} {i : Bool} (h : boolOf d = some i) : d = .bool i := by cases d <;> cases h; rfl
theorem lstOf_some {d : PyData} {i : List PyData} (h : lstOf d = some i) : d = .list i := by cases d <;> cases h; rfl
theorem tupOf_some {d : PyData} {i : List PyData} (h : tupOf d = some i) : d = .tuple i := by cases d <;> cases h; rfl
theorem seqOf_some {d : PyData} {i : List PyData} (h : seqOf d = some i) : d = .list i ∨ d = .tuple i := by
  cases d <;> cases h
  · exact .inl rfl
  · exact .inr rfl
theorem manyOf_some {r : SV} {as : List SV} (h : manyOf r = some as) : r = .many as := by cases r <;> cases h; rfl
theorem dOf_some {r : Option SV} {d : PyData} (h : dOf r = some d) : ∃ x, r = some x ∧ datOf x = some d := bnd_inv h
theorem onD_some {r : Option SV} {f : PyData → Option SV} {x : SV} (h : onD r f = some x) : ∃ s d, r = some s ∧ datOf s = some d ∧ f d = some x := by
  obtain ⟨d, h1, h2⟩ := bnd_inv h
  obtain ⟨s, h3, h4⟩ := bnd_inv h1
  exact ⟨s, d, h3, h4, h2⟩
theorem onX {α : Type} {r : Option SV} {g : PyData → Option α} {f : α → Option SV} {x : SV} (h : bnd (bnd (bnd r datOf) g) f = some x) : ∃ s d y, r = some s ∧ datOf s = some d ∧ g d = some y ∧ f y = some x := by
  obtain ⟨y, h1, h2⟩ := bnd_inv h
  obtain ⟨d, h3, h4⟩ := bnd_inv h1
  obtain ⟨s, h5, h6⟩ := bnd_inv h3
  exact ⟨s, d, y, h5, h6, h4, h2⟩
theorem dat_of {s : SV} {d : PyData} (h : datOf s = some d) (n : ∀ xs, d ≠ .list xs) : s = .dat d := by
  rcases datOf_some h with h | ⟨xs, _, e⟩
  · exact h
  · exact absurd e (n xs)
theorem onI_some {r : Option SV} {f : Int → Option SV} {x : SV} (h : onI r f = some x) : ∃ i, r = some (.dat (.int i)) ∧ f i = some x := by
  obtain ⟨s, d, i, h1, h2, h3, h4⟩ := onX h
  cases intOf_some h3
  cases dat_of h2 (fun _ z => nomatch z)
  exact ⟨i, h1, h4⟩
theorem onB_some {r : Option SV} {f : Bool → Option SV} {x : SV} (h : onB r f = some x) : ∃ i, r = some (.dat (.bool i)) ∧ f i = some x := by
  obtain ⟨s, d, i, h1, h2, h3, h4⟩ := onX h
  cases boolOf_some h3
  cases dat_of h2 (fun _ z => nomatch z)
  exact ⟨i, h1, h4⟩
theorem onT_some {r : Option SV} {f : List PyData → Option SV} {x : SV} (h : onT r f = some x) : ∃ xs, r = some (.dat (.tuple xs)) ∧ f xs = some x := by
  obtain ⟨s, d, i, h1, h2, h3, h4⟩ := onX h
  cases tupOf_some h3
  cases dat_of h2 (fun _ z => nomatch z)
  exact ⟨i, h1, h4⟩
theorem onL_some {r : Option SV} {f : List PyData → Option SV} {x : SV} (h : onL r f = some x) : ∃ s xs, r = some s ∧ datOf s = some (.list xs) ∧ f xs = some x := by
  obtain ⟨s, d, i, h1, h2, h3, h4⟩ := onX h
  cases lstOf_some h3
  exact ⟨s, i, h1, h2, h4⟩
theorem onS_some {r : Option SV} {f : List PyData → Option SV} {x : SV} (h : onS r f = some x) : ∃ s d xs, r = some s ∧ datOf s = some d ∧ (d = .list xs ∨ d = .tuple xs) ∧ f xs = some x := by
  obtain ⟨s, d, i, h1, h2, h3, h4⟩ := onX h
  exact ⟨s, d, i, h1, h2, seqOf_some h3, h4⟩
theorem onM_some {r : Option SV} {f : List SV → Option SV} {x : SV} (h : onM r f = some x) : ∃ as, r = some (.many as) ∧ f as = some x := by
  obtain ⟨as, h1, h2⟩ := bnd_inv h
  obtain ⟨s, h3, h4⟩ := bnd_inv h1
  cases manyOf_some h4
  exact ⟨as, h3, h2⟩
theorem opCons_some {a r : Option SV} {x : SV} (h : opCons a r = some x) : ∃ y ys, a = some y ∧ r = some (.many ys) ∧ x = .many (y :: ys) := by
  obtain ⟨y, h1, h2⟩ := bnd_inv h
  obtain ⟨ys, h3, h4⟩ := onM_some h2
  cases h4
  exact ⟨y, ys, h1, h3, rfl⟩
theorem onO_some {o : Option Out} {n b : En → Option Out} {x : Out} (h : onO o n b = some x) : (∃ ρ, o = some (.nx ρ) ∧ n ρ = some x) ∨ (∃ r, o = some (.rt r) ∧ x = .rt r) ∨ ∃ ρ, o = some (.bk ρ) ∧ b ρ = some x := by
  obtain ⟨y, h1, h2⟩ := bnd_inv h
  cases y with
  | nx ρ => exact .inl ⟨ρ, h1, h2⟩
  | rt r => cases h2; exact .inr (.inl ⟨r, h1, rfl⟩)
  | bk ρ => exact .inr (.inr ⟨ρ, h1, h2⟩)
theorem testO_some {r : Option SV} {a b : Option Out} {x : Out} (h : testO r a b = some x) : ∃ k, r = some (.dat (.bool k)) ∧ ifB k a b = some x := by
  obtain ⟨k, h1, h2⟩ := bnd_inv h
  obtain ⟨d, h3, h4⟩ := bnd_inv h1
  obtain ⟨s, h5, h6⟩ := bnd_inv h3
  cases boolOf_some h4
  cases dat_of h6 (fun _ z => nomatch z)
  exact ⟨k, h5, h2⟩
theorem on1_some {as : List SV} {f : SV → Option Out} {x : Out} (h : on1 as f = some x) : ∃ r, as = [r] ∧ f r = some x := by
  match as, h with
  | [r], h => exact ⟨r, rfl, h⟩
theorem on2_some {as : List SV} {f : SV → SV → Option Out} {x : Out} (h : on2 as f = some x) : ∃ r s, as = [r, s] ∧ f r s = some x := by
  match as, h with
  | [r, s], h => exact ⟨r, s, rfl, h⟩
theorem on3_some {as : List SV} {f : SV → SV → SV → Option Out} {x : Out} (h : on3 as f = some x) : ∃ r s t, as = [r, s, t] ∧ f r s t = some x := by
  match as, h with
  | [r, s, t], h => exact ⟨r, s, t, rfl, h⟩
theorem onOwn_some {ρ : En} {i : Nat} {f : List PyData → Option Out} {x : Out} (h : onOwn ρ i f = some x) : ∃ xs, slot ρ i = some (.own xs) ∧ f xs = some x := by
  unfold onOwn at h
  cases e : slot ρ i with
  | none => rw [e] at h; cases h
  | some r =>
    rw [e] at h
    cases r with
    | own xs => exact ⟨xs, rfl, h⟩
    | dat _ => cases h
    | dic _ => cases h
    | odic _ => cases h
    | odit _ => cases h
    | many _ => cases h
end SW
set_option Elab.async false
set_option linter.all false
set_option maxRecDepth 100000
/-! Codes: the defs of the linked text as codes; printed by mk.py. -/
namespace SW
open PySem
def c_is_from : Df := ⟨3, 3, (.seq (.prim .ret (.cons (.bi .and (.un (.isInst .int) (.v 0)) (.bi .and (.un .not (.un (.isInst .bool) (.v 0))) (.un .one (.tr (.chain .le .le) (.v 1) (.v 0) (.v 2))))) .nil))
      .skip)⟩
def n_is_from : List Str := ["value", "low", "high"]
def c_is_number : Df := ⟨1, 1, (.seq (.ifs (.bi .or (.un .not (.un (.isInst .tuple) (.v 0))) (.un .one (.bi .ne (.un .len (.v 0)) (.k (.int 2))))) (.seq (.prim .ret (.cons (.k (.bl false)) .nil))
      .skip) .skip)
      (.seq (.ifs (.bi .or (.un .not (.un (.call 0) (.cons (.bi .ix (.v 0) (.k (.int 0))) (.cons (.un .neg (.k (.g "MOST_PART" (1000000000000000000000000000000000000000000000000000000000000)))) (.cons (.k (.g "MOST_PART" (1000000000000000000000000000000000000000000000000000000000000))) .nil))))) (.un .one (.un .not (.un (.call 0) (.cons (.bi .ix (.v 0) (.k (.int 1))) (.cons (.k (.int 1)) (.cons (.k (.g "MOST_PART" (1000000000000000000000000000000000000000000000000000000000000))) .nil))))))) (.seq (.prim .ret (.cons (.k (.bl false)) .nil))
      .skip) .skip)
      (.seq (.prim .ret (.cons (.bi .eq (.bi .gcd (.bi .ix (.v 0) (.k (.int 0))) (.bi .ix (.v 0) (.k (.int 1)))) (.k (.int 1))) .nil))
      .skip)))⟩
def n_is_number : List Str := ["value"]
def c_is_step : Df := ⟨1, 2, (.seq (.ifs (.bi .or (.un .not (.un (.isInst .tuple) (.v 0))) (.un .one (.un .not (.tr (.chain .le .le) (.k (.int 2)) (.un .len (.v 0)) (.bi (.ar .add) (.k (.g "MOST_DEGREE" (64))) (.k (.int 1))))))) (.seq (.prim .ret (.cons (.k (.bl false)) .nil))
      .skip) .skip)
      (.seq (.fr (.name 1) (.un .seq (.v 0)) (.seq (.ifs (.un .not (.un (.call 1) (.cons (.v 1) .nil))) (.seq (.prim .ret (.cons (.k (.bl false)) .nil))
      .skip) .skip)
      .skip))
      (.seq (.prim .ret (.cons (.bi .ne (.bi .ix (.bi .ix (.v 0) (.un .neg (.k (.int 1)))) (.k (.int 0))) (.k (.int 0))) .nil))
      .skip)))⟩
def n_is_step : List Str := ["value", "number"]
def c_need_number : Df := ⟨1, 1, (.seq (.ifs (.un .not (.un (.call 1) (.cons (.v 0) .nil))) (.seq (.prim .raise .nil)
      .skip) .skip)
      (.seq (.retv 0)
      .skip))⟩
def n_need_number : List Str := ["value"]
def c_need_step : Df := ⟨1, 1, (.seq (.ifs (.un .not (.un (.call 2) (.cons (.v 0) .nil))) (.seq (.prim .raise .nil)
      .skip) .skip)
      (.seq (.retv 0)
      .skip))⟩
def n_need_step : List Str := ["value"]
def c_need_row : Df := ⟨1, 3, (.seq (.ifs (.bi .or (.un .not (.un (.isInst .tuple) (.v 0))) (.un .one (.un .not (.tr (.chain .le .le) (.k (.int 1)) (.un .len (.v 0)) (.k (.g "MOST_ROW" (8))))))) (.seq (.prim .raise .nil)
      .skip) .skip)
      (.seq (.fr (.pair (.name 1) (.name 2)) (.un .enum (.v 0)) (.seq (.ifs (.un .not (.un (.call 2) (.cons (.v 2) .nil))) (.seq (.prim .raise .nil)
      .skip) .skip)
      .skip))
      (.seq (.retv 0)
      .skip)))⟩
def n_need_row : List Str := ["value", "index", "step"]
def c_number_of : Df := ⟨2, 3, (.seq (.prim (.asg 2) (.cons (.bi .gcd (.v 0) (.v 1)) .nil))
      (.seq (.ifs (.bi (.cmp .lt) (.v 1) (.k (.int 0))) (.seq (.prim (.asg 2) (.cons (.un .neg (.v 2)) .nil))
      .skip) .skip)
      (.seq (.prim .ret (.cons (.un .tup (.cons (.bi (.ar .fdiv) (.v 0) (.v 2)) (.cons (.bi (.ar .fdiv) (.v 1) (.v 2)) .nil))) .nil))
      .skip)))⟩
def n_number_of : List Str := ["above", "below", "whole"]
def c_number_times : Df := ⟨2, 2, (.seq (.prim .ret (.cons (.un (.call 6) (.cons (.bi (.ar .mul) (.bi .ix (.v 0) (.k (.int 0))) (.bi .ix (.v 1) (.k (.int 0)))) (.cons (.bi (.ar .mul) (.bi .ix (.v 0) (.k (.int 1))) (.bi .ix (.v 1) (.k (.int 1)))) .nil))) .nil))
      .skip)⟩
def n_number_times : List Str := ["one", "other"]
def c_number_less : Df := ⟨2, 2, (.seq (.prim .ret (.cons (.un (.call 6) (.cons (.bi (.ar .sub) (.bi (.ar .mul) (.bi .ix (.v 0) (.k (.int 0))) (.bi .ix (.v 1) (.k (.int 1)))) (.bi (.ar .mul) (.bi .ix (.v 1) (.k (.int 0))) (.bi .ix (.v 0) (.k (.int 1))))) (.cons (.bi (.ar .mul) (.bi .ix (.v 0) (.k (.int 1))) (.bi .ix (.v 1) (.k (.int 1)))) .nil))) .nil))
      .skip)⟩
def n_number_less : List Str := ["one", "other"]
def c_is_below : Df := ⟨2, 2, (.seq (.prim .ret (.cons (.bi (.cmp .lt) (.bi (.ar .mul) (.bi .ix (.v 0) (.k (.int 0))) (.bi .ix (.v 1) (.k (.int 1)))) (.bi (.ar .mul) (.bi .ix (.v 1) (.k (.int 0))) (.bi .ix (.v 0) (.k (.int 1))))) .nil))
      .skip)⟩
def n_is_below : List Str := ["one", "other"]
def c_reduced : Df := ⟨2, 5, (.seq (.prim (.asg 2) (.cons (.un .len (.v 0)) .nil))
      (.seq (.whl (.bi .and (.bi (.cmp .gt) (.v 2) (.k (.int 0))) (.un .one (.bi .eq (.bi .ix (.v 0) (.bi (.ar .sub) (.v 2) (.k (.int 1)))) (.k (.int 0))))) (.seq (.prim (.asg 2) (.cons (.bi (.ar .sub) (.v 2) (.k (.int 1))) .nil))
      .skip))
      (.seq (.prim (.asg 3) (.cons (.bi .gcd (.v 1) (.k (.int 0))) .nil))
      (.seq (.fr (.name 4) (.un .seq (.bi .upTo (.v 0) (.v 2))) (.seq (.prim (.asg 3) (.cons (.bi .gcd (.v 3) (.v 4)) .nil))
      .skip))
      (.seq (.ifs (.bi (.cmp .lt) (.v 1) (.k (.int 0))) (.seq (.prim (.asg 3) (.cons (.un .neg (.v 3)) .nil))
      .skip) .skip)
      (.seq (.prim .ret (.cons (.un .tup (.cons (.comp (.name 4) (.un .seq (.bi .upTo (.v 0) (.v 2))) .nil (.bi (.ar .fdiv) (.v 4) (.v 3)) [4]) (.cons (.bi (.ar .fdiv) (.v 1) (.v 3)) .nil))) .nil))
      .skip))))))⟩
def n_reduced : List Str := ["numbers", "below", "many", "whole", "number"]
def c_as_poly : Df := ⟨1, 3, (.seq (.prim (.asg 1) (.cons (.k (.int 1)) .nil))
      (.seq (.fr (.name 2) (.un .seq (.v 0)) (.seq (.prim (.asg 1) (.cons (.bi (.ar .fdiv) (.bi (.ar .mul) (.v 1) (.bi .ix (.v 2) (.k (.int 1)))) (.bi .gcd (.v 1) (.bi .ix (.v 2) (.k (.int 1))))) .nil))
      .skip))
      (.seq (.prim .ret (.cons (.un (.call 10) (.cons (.comp (.name 2) (.un .seq (.v 0)) .nil (.bi (.ar .mul) (.bi .ix (.v 2) (.k (.int 0))) (.bi (.ar .fdiv) (.v 1) (.bi .ix (.v 2) (.k (.int 1))))) [2]) (.cons (.v 1) .nil))) .nil))
      .skip)))⟩
def n_as_poly : List Str := ["step", "below", "number"]
def c_as_step : Df := ⟨1, 2, (.seq (.prim .ret (.cons (.un .tupOf (.comp (.name 1) (.un .seq (.bi .ix (.v 0) (.k (.int 0)))) .nil (.un (.call 6) (.cons (.v 1) (.cons (.bi .ix (.v 0) (.k (.int 1))) .nil))) [1])) .nil))
      .skip)⟩
def n_as_step : List Str := ["poly", "number"]
def c_times_so : Df := ⟨2, 7, (.seq (.ifs (.bi .or (.bi .eq (.v 0) (.un .lst .nil)) (.un .one (.bi .eq (.v 1) (.un .lst .nil)))) (.seq (.prim .ret (.cons (.un .lst .nil) .nil))
      .skip) .skip)
      (.seq (.prim (.asg 2) (.cons (.bi .rep (.un .lst (.cons (.k (.int 0)) .nil)) (.bi (.ar .sub) (.bi (.ar .add) (.un .len (.v 0)) (.un .len (.v 1))) (.k (.int 1)))) .nil))
      (.seq (.fr (.pair (.name 3) (.name 4)) (.un .enum (.v 0)) (.seq (.ifs (.bi .ne (.v 4) (.k (.int 0))) (.seq (.fr (.pair (.name 5) (.name 6)) (.un .enum (.v 1)) (.seq (.prim (.setL 2) (.cons (.bi (.ar .add) (.bi .ix (.v 2) (.bi (.ar .add) (.v 3) (.v 5))) (.bi (.ar .mul) (.v 4) (.v 6))) (.cons (.bi (.ar .add) (.v 3) (.v 5)) .nil)))
      .skip))
      .skip) .skip)
      .skip))
      (.seq (.retv 2)
      .skip))))⟩
def n_times_so : List Str := ["one", "other", "found", "near", "first", "far", "second"]
def c_plus : Df := ⟨2, 7, (.seq (.prim (.asg 2) (.cons (.bi .max2 (.un .len (.bi .ix (.v 0) (.k (.int 0)))) (.un .len (.bi .ix (.v 1) (.k (.int 0))))) .nil))
      (.seq (.prim (.asg 3) (.cons (.un .lst .nil) .nil))
      (.seq (.fr (.name 4) (.un .rng1 (.v 2)) (.seq (.prim (.asg 5) (.cons (.tr .ite (.bi (.cmp .lt) (.v 4) (.un .len (.bi .ix (.v 0) (.k (.int 0))))) (.bi (.ar .mul) (.bi .ix (.bi .ix (.v 0) (.k (.int 0))) (.v 4)) (.bi .ix (.v 1) (.k (.int 1)))) (.k (.int 0))) .nil))
      (.seq (.prim (.asg 6) (.cons (.tr .ite (.bi (.cmp .lt) (.v 4) (.un .len (.bi .ix (.v 1) (.k (.int 0))))) (.bi (.ar .mul) (.bi .ix (.bi .ix (.v 1) (.k (.int 0))) (.v 4)) (.bi .ix (.v 0) (.k (.int 1)))) (.k (.int 0))) .nil))
      (.seq (.prim (.append 3) (.cons (.bi (.ar .add) (.v 5) (.v 6)) .nil))
      .skip))))
      (.seq (.frz 3 (.prim .ret (.cons (.un (.call 10) (.cons (.v 3) (.cons (.bi (.ar .mul) (.bi .ix (.v 0) (.k (.int 1))) (.bi .ix (.v 1) (.k (.int 1)))) .nil))) .nil)))
      .skip))))⟩
def n_plus : List Str := ["one", "other", "many", "found", "index", "near", "far"]
def c_scaled : Df := ⟨2, 3, (.seq (.prim .ret (.cons (.un (.call 10) (.cons (.comp (.name 2) (.un .seq (.bi .ix (.v 0) (.k (.int 0)))) .nil (.bi (.ar .mul) (.bi .ix (.v 1) (.k (.int 0))) (.v 2)) [2]) (.cons (.bi (.ar .mul) (.bi .ix (.v 0) (.k (.int 1))) (.bi .ix (.v 1) (.k (.int 1)))) .nil))) .nil))
      .skip)⟩
def n_scaled : List Str := ["poly", "number", "item"]
def c_put_in : Df := ⟨2, 6, (.seq (.prim (.par3 3 4 5) (.cons (.un .lst .nil) (.cons (.k (.int 1)) (.cons (.bi .ix (.v 0) (.k (.int 1))) .nil))))
      (.seq (.fr (.name 2) (.un .rev (.bi .ix (.v 0) (.k (.int 0)))) (.seq (.frz 3 (.prim (.asg 3) (.cons (.tr .ite (.bi .ne (.v 3) (.un .lst .nil)) (.un (.call 13) (.cons (.v 3) (.cons (.bi .ix (.v 1) (.k (.int 0))) .nil))) (.un .lst (.cons (.k (.int 0)) .nil))) .nil)))
      (.seq (.prim (.setL 3) (.cons (.bi (.ar .add) (.bi .ix (.v 3) (.k (.int 0))) (.bi (.ar .mul) (.v 2) (.v 4))) (.cons (.k (.int 0)) .nil)))
      (.seq (.prim (.par2 4 5) (.cons (.bi (.ar .mul) (.v 4) (.bi .ix (.v 1) (.k (.int 1)))) (.cons (.bi (.ar .mul) (.bi .ix (.v 0) (.k (.int 1))) (.v 4)) .nil)))
      .skip))))
      (.seq (.frz 3 (.prim .ret (.cons (.un (.call 10) (.cons (.v 3) (.cons (.v 5) .nil))) .nil)))
      .skip)))⟩
def n_put_in : List Str := ["outer", "inner", "number", "found", "shift", "below"]
def c_value_of : Df := ⟨2, 5, (.seq (.prim (.asgT (.pair (.name 3) (.name 4))) (.cons (.un .tup (.cons (.k (.int 0)) (.cons (.k (.int 1)) .nil))) .nil))
      (.seq (.fr (.name 2) (.un .rev (.bi .ix (.v 0) (.k (.int 0)))) (.seq (.prim (.asg 3) (.cons (.bi (.ar .add) (.bi (.ar .mul) (.v 3) (.bi .ix (.v 1) (.k (.int 0)))) (.bi (.ar .mul) (.v 2) (.v 4))) .nil))
      (.seq (.prim (.asg 4) (.cons (.bi (.ar .mul) (.v 4) (.bi .ix (.v 1) (.k (.int 1)))) .nil))
      .skip)))
      (.seq (.prim .ret (.cons (.tr .ite (.bi .ne (.bi .ix (.v 0) (.k (.int 0))) (.un .lst .nil)) (.un (.call 6) (.cons (.bi (.ar .mul) (.v 3) (.bi .ix (.v 1) (.k (.int 1)))) (.cons (.bi (.ar .mul) (.bi .ix (.v 0) (.k (.int 1))) (.v 4)) .nil))) (.un .tup (.cons (.k (.int 0)) (.cons (.k (.int 1)) .nil)))) .nil))
      .skip)))⟩
def n_value_of : List Str := ["poly", "number", "item", "found", "shift"]
def c_value_at : Df := ⟨2, 2, (.seq (.prim .expr (.cons (.un (.call 4) (.cons (.v 0) .nil)) .nil))
      (.seq (.prim .ret (.cons (.un (.call 17) (.cons (.un (.call 11) (.cons (.v 0) .nil)) (.cons (.un (.call 3) (.cons (.v 1) .nil)) .nil))) .nil))
      .skip))⟩
def n_value_at : List Str := ["step", "number"]
def c_back_of : Df := ⟨1, 5, (.seq (.prim (.asgT (.pair (.pair (.name 1) (.name 2)) (.pair (.name 3) (.name 4)))) (.cons (.v 0) .nil))
      (.seq (.prim .ret (.cons (.un .tup (.cons (.un (.call 6) (.cons (.bi (.ar .mul) (.un .neg (.v 1)) (.v 4)) (.cons (.bi (.ar .mul) (.v 2) (.v 3)) .nil))) (.cons (.un (.call 6) (.cons (.v 4) (.cons (.v 3) .nil))) .nil))) .nil))
      .skip))⟩
def n_back_of : List Str := ["step", "start", "below", "head", "beneath"]
def c_straight_back : Df := ⟨1, 1, (.seq (.ifs (.bi .ne (.un .len (.un (.call 4) (.cons (.v 0) .nil))) (.k (.int 2))) (.seq (.prim .raise .nil)
      .skip) .skip)
      (.seq (.prim .ret (.cons (.un (.call 19) (.cons (.v 0) .nil)) .nil))
      .skip))⟩
def n_straight_back : List Str := ["step"]
def c_comes_ahead : Df := ⟨2, 4, (.seq (.ifs (.bi .ne (.un .len (.v 0)) (.un .len (.v 1))) (.seq (.prim .ret (.cons (.bi (.cmp .lt) (.un .len (.v 0)) (.un .len (.v 1))) .nil))
      .skip) .skip)
      (.seq (.fr (.pair (.name 2) (.name 3)) (.bi .zipR (.v 0) (.v 1)) (.seq (.ifs (.bi .ne (.v 2) (.v 3)) (.seq (.prim .ret (.cons (.un (.call 9) (.cons (.v 2) (.cons (.v 3) .nil))) .nil))
      .skip) .skip)
      .skip))
      (.seq (.prim .ret (.cons (.k (.bl false)) .nil))
      .skip)))⟩
def n_comes_ahead : List Str := ["one", "other", "near", "far"]
def c_ordered : Df := ⟨1, 4, (.seq (.prim (.asg 1) (.cons (.un .lst .nil) .nil))
      (.seq (.fr (.name 2) (.un .seq (.v 0)) (.seq (.prim (.insert 1) (.cons (.un .len (.comp (.name 3) (.un .seq (.v 1)) (.cons (.un .not (.un (.call 21) (.cons (.v 2) (.cons (.v 3) .nil)))) .nil) (.k (.int 1)) [3])) (.cons (.v 2) .nil)))
      .skip))
      (.seq (.retv 1)
      .skip)))⟩
def n_ordered : List Str := ["steps", "found", "step", "other"]
def c_need_bent_starts : Df := ⟨1, 1, (.seq (.prim .expr (.cons (.un (.call 4) (.cons (.v 0) .nil)) .nil))
      (.seq (.ifs (.bi .eq (.un .len (.v 0)) (.k (.int 2))) (.seq (.prim .raise .nil)
      .skip) .skip)
      (.seq (.retv 0)
      .skip)))⟩
def n_need_bent_starts : List Str := ["step"]
def c_holds_bound : Df := ⟨3, 7, (.seq (.prim (.asg 3) (.cons (.bi (.ar .sub) (.un .len (.v 0)) (.k (.int 1))) .nil))
      (.seq (.prim (.asg 4) (.cons (.bi (.ar .mul) (.v 2) (.v 1)) .nil))
      (.seq (.prim (.asg 5) (.cons (.k (.int 1)) .nil))
      (.seq (.fr (.name 6) (.un .rng1 (.v 3)) (.seq (.prim (.asg 4) (.cons (.bi (.ar .add) (.v 4) (.bi (.ar .mul) (.bi .ix (.v 0) (.v 6)) (.v 5))) .nil))
      (.seq (.prim (.asg 5) (.cons (.bi (.ar .mul) (.v 5) (.v 2)) .nil))
      .skip)))
      (.seq (.prim .ret (.cons (.bi (.cmp .ge) (.bi (.ar .mul) (.bi .ix (.v 0) (.v 3)) (.v 5)) (.v 4)) .nil))
      .skip)))))⟩
def n_holds_bound : List Str := ["sizes", "beneath", "bound", "top", "others", "shift", "index"]
def c_least_bound : Df := ⟨1, 6, (.seq (.prim (.asg 1) (.cons (.comp (.name 5) (.un .seq (.bi .ix (.v 0) (.k (.int 0)))) .nil (.un .abs (.v 5)) [5]) .nil))
      (.seq (.prim (.asg 2) (.cons (.k (.int 1)) .nil))
      (.seq (.frz 1 (.whl (.un .not (.un (.call 24) (.cons (.v 1) (.cons (.bi .ix (.v 0) (.k (.int 1))) (.cons (.v 2) .nil))))) (.seq (.prim (.asg 2) (.cons (.bi (.ar .mul) (.k (.int 2)) (.v 2)) .nil))
      .skip)))
      (.seq (.prim (.asg 3) (.cons (.bi (.ar .fdiv) (.v 2) (.k (.int 2))) .nil))
      (.seq (.whl (.bi (.cmp .gt) (.bi (.ar .sub) (.v 2) (.v 3)) (.k (.int 1))) (.seq (.prim (.asg 4) (.cons (.bi (.ar .fdiv) (.bi (.ar .add) (.v 3) (.v 2)) (.k (.int 2))) .nil))
      (.seq (.frz 1 (.ifs (.un (.call 24) (.cons (.v 1) (.cons (.bi .ix (.v 0) (.k (.int 1))) (.cons (.v 4) .nil)))) (.seq (.prim (.asg 2) (.cons (.v 4) .nil))
      .skip) (.seq (.prim (.asg 3) (.cons (.v 4) .nil))
      .skip)))
      .skip)))
      (.seq (.retv 2)
      .skip))))))⟩
def n_least_bound : List Str := ["poly", "sizes", "high", "low", "middle", "number"]
def c_bounds_so : Df := ⟨1, 1, (.seq (.prim .ret (.cons (.un .tup (.cons (.un (.call 25) (.cons (.v 0) .nil)) (.cons (.un .abs (.bi .ix (.bi .ix (.v 0) (.k (.int 0))) (.un .neg (.k (.int 1))))) .nil))) .nil))
      .skip)⟩
def n_bounds_so : List Str := ["poly"]
def c_is_within : Df := ⟨2, 2, (.seq (.prim .ret (.cons (.bi .and (.bi (.cmp .le) (.un .abs (.bi .ix (.v 1) (.k (.int 0)))) (.bi (.ar .mul) (.bi .ix (.v 0) (.k (.int 0))) (.bi .ix (.v 1) (.k (.int 1))))) (.un .one (.bi .eq (.bi (.ar .mod) (.bi .ix (.v 0) (.k (.int 1))) (.bi .ix (.v 1) (.k (.int 1)))) (.k (.int 0))))) .nil))
      .skip)⟩
def n_is_within : List Str := ["bounds", "number"]
def c_walk_so : Df := ⟨3, 6, (.seq (.prim (.par2 4 5) (.cons (.un .lst .nil) (.cons (.k .dT) .nil)))
      (.seq (.prim (.asg 3) (.cons (.v 2) .nil))
      (.seq (.whl (.bi .and (.un (.call 27) (.cons (.v 1) (.cons (.v 3) .nil))) (.un .one (.un (.inD true 5) (.v 3)))) (.seq (.ifs (.bi .eq (.un .len (.v 4)) (.k (.g "MOST_LOOKED_AT_starts" (2000)))) (.seq (.prim .raise .nil)
      .skip) .skip)
      (.seq (.prim (.append 4) (.cons (.v 3) .nil))
      (.seq (.prim (.setD 5) (.cons (.k (.bl true)) (.cons (.v 3) .nil)))
      (.seq (.prim (.asg 3) (.cons (.un (.call 17) (.cons (.v 0) (.cons (.v 3) .nil))) .nil))
      .skip)))))
      (.seq (.frz 4 (.prim .ret (.cons (.un .tup (.cons (.v 4) (.cons (.v 3) .nil))) .nil)))
      .skip))))⟩
def n_walk_so : List Str := ["poly", "bounds", "start", "here", "found", "met"]
def c_round_so : Df := ⟨3, 6, (.seq (.prim (.asgT (.pair (.name 4) (.name 5))) (.cons (.un (.call 28) (.cons (.v 0) (.cons (.v 1) (.cons (.v 2) .nil)))) .nil))
      (.seq (.ifs (.bi (.inn true) (.v 5) (.v 4)) (.seq (.prim .ret (.cons (.k .non) .nil))
      .skip) .skip)
      (.seq (.prim (.asg 3) (.cons (.bi .index (.v 4) (.v 5)) .nil))
      (.seq (.prim .ret (.cons (.un .tup (.cons (.un .tupOf (.bi .upTo (.v 4) (.v 3))) (.cons (.un .tupOf (.bi .onFrom (.v 4) (.v 3))) .nil))) .nil))
      .skip))))⟩
def n_round_so : List Str := ["poly", "bounds", "start", "first", "found", "here"]
def c_comes_round : Df := ⟨2, 3, (.seq (.prim (.asg 2) (.cons (.un (.call 11) (.cons (.un (.call 23) (.cons (.v 0) .nil)) .nil)) .nil))
      (.seq (.prim .ret (.cons (.un (.call 29) (.cons (.v 2) (.cons (.un (.call 26) (.cons (.v 2) .nil)) (.cons (.un (.call 3) (.cons (.v 1) .nil)) .nil)))) .nil))
      .skip))⟩
def n_comes_round : List Str := ["step", "start", "poly"]
def c_check_bounds : Df := ⟨1, 1, (.seq (.ifs (.bi (.cmp .gt) (.bi (.ar .add) (.bi (.ar .mul) (.bi (.ar .mul) (.k (.int 2)) (.bi .ix (.v 0) (.k (.int 0)))) (.bi .ix (.v 0) (.k (.int 1)))) (.k (.int 1))) (.k (.g "MOST_LOOKED_AT_starts" (2000)))) (.seq (.prim .raise .nil)
      .skip) .skip)
      .skip)⟩
def n_check_bounds : List Str := ["bounds"]
def c_numbers_within : Df := ⟨1, 3, (.seq (.prim (.asg 1) (.cons (.bi (.ar .mul) (.bi .ix (.v 0) (.k (.int 0))) (.bi .ix (.v 0) (.k (.int 1)))) .nil))
      (.seq (.prim .ret (.cons (.comp (.name 2) (.bi .rng2 (.un .neg (.v 1)) (.bi (.ar .add) (.v 1) (.k (.int 1)))) .nil (.un (.call 6) (.cons (.v 2) (.cons (.bi .ix (.v 0) (.k (.int 1))) .nil))) [2]) .nil))
      .skip))⟩
def n_numbers_within : List Str := ["bounds", "most", "above"]
def c_all_rounds : Df := ⟨1, 5, (.seq (.prim (.asg 1) (.cons (.un (.call 26) (.cons (.v 0) .nil)) .nil))
      (.seq (.prim .expr (.cons (.un (.call 31) (.cons (.v 1) .nil)) .nil))
      (.seq (.prim (.asg 2) (.cons (.un .lst .nil) .nil))
      (.seq (.fr (.name 3) (.un .seq (.un (.call 32) (.cons (.v 1) .nil))) (.seq (.prim (.asg 4) (.cons (.un (.call 29) (.cons (.v 0) (.cons (.v 1) (.cons (.v 3) .nil)))) .nil))
      (.seq (.ifs (.un .notN (.v 4)) (.seq (.prim (.append 2) (.cons (.un .tup (.cons (.v 3) (.cons (.v 4) .nil))) .nil))
      .skip) .skip)
      .skip)))
      (.seq (.retv 2)
      .skip)))))⟩
def n_all_rounds : List Str := ["poly", "bounds", "found", "number", "told"]
def c_starts : Df := ⟨1, 3, (.seq (.prim .ret (.cons (.un .tupOf (.comp (.pair (.name 1) (.name 2)) (.un .seq (.un (.call 33) (.cons (.un (.call 11) (.cons (.un (.call 23) (.cons (.v 0) .nil)) .nil)) .nil))) .nil (.v 1) [1, 2])) .nil))
      .skip)⟩
def n_starts : List Str := ["step", "number", "told"]
def c_least_number : Df := ⟨1, 3, (.seq (.prim (.asg 1) (.cons (.bi .ix (.v 0) (.k (.int 0))) .nil))
      (.seq (.fr (.name 2) (.un .seq (.v 0)) (.seq (.ifs (.un (.call 9) (.cons (.v 2) (.cons (.v 1) .nil))) (.seq (.prim (.asg 1) (.cons (.v 2) .nil))
      .skip) .skip)
      .skip))
      (.seq (.retv 1)
      .skip)))⟩
def n_least_number : List Str := ["numbers", "found", "number"]
def c_rings : Df := ⟨1, 5, (.seq (.prim (.asg 1) (.cons (.un .lst .nil) .nil))
      (.seq (.fr (.pair (.name 2) (.pair (.name 3) (.name 4))) (.un .seq (.un (.call 33) (.cons (.un (.call 11) (.cons (.un (.call 23) (.cons (.v 0) .nil)) .nil)) .nil))) (.seq (.ifs (.bi .and (.bi .eq (.v 3) (.un .tup .nil)) (.un .one (.bi .eq (.un (.call 35) (.cons (.v 4) .nil)) (.v 2)))) (.seq (.prim (.append 1) (.cons (.v 4) .nil))
      .skip) .skip)
      .skip))
      (.seq (.prim .ret (.cons (.un .tupOf (.v 1)) .nil))
      .skip)))⟩
def n_rings : List Str := ["step", "found", "number", "tail", "ring"]
def c_product_of : Df := ⟨1, 3, (.seq (.prim (.asg 1) (.cons (.k (.int 1)) .nil))
      (.seq (.fr (.name 2) (.un .seq (.v 0)) (.seq (.prim (.asg 1) (.cons (.bi (.ar .mul) (.v 1) (.bi (.ar .sub) (.un .len (.v 2)) (.k (.int 1)))) .nil))
      .skip))
      (.seq (.retv 1)
      .skip)))⟩
def n_product_of : List Str := ["row", "found", "step"]
def c_row_degree : Df := ⟨1, 1, (.seq (.prim .ret (.cons (.un (.call 37) (.cons (.un (.call 5) (.cons (.v 0) .nil)) .nil)) .nil))
      .skip)⟩
def n_row_degree : List Str := ["row"]
def c_check_degree : Df := ⟨1, 1, (.seq (.ifs (.bi (.cmp .gt) (.v 0) (.k (.g "MOST_WHOLE" (256)))) (.seq (.prim .raise .nil)
      .skip) .skip)
      .skip)⟩
def n_check_degree : List Str := ["degree"]
def c_whole_of : Df := ⟨1, 3, (.seq (.prim (.asg 1) (.cons (.bi .ix (.v 0) (.k (.int 0))) .nil))
      (.seq (.fr (.name 2) (.un .seq (.bi .onFrom (.v 0) (.k (.int 1)))) (.seq (.prim (.asg 1) (.cons (.un (.call 16) (.cons (.v 2) (.cons (.v 1) .nil))) .nil))
      .skip))
      (.seq (.retv 1)
      .skip)))⟩
def n_whole_of : List Str := ["polys", "found", "poly"]
def c_whole : Df := ⟨1, 2, (.seq (.prim .expr (.cons (.un (.call 39) (.cons (.un (.call 38) (.cons (.v 0) .nil)) .nil)) .nil))
      (.seq (.prim .ret (.cons (.un (.call 12) (.cons (.un (.call 40) (.cons (.comp (.name 1) (.un .seq (.v 0)) .nil (.un (.call 11) (.cons (.v 1) .nil)) [1]) .nil)) .nil)) .nil))
      .skip))⟩
def n_whole : List Str := ["row", "step"]
def c_still_poly : Df := ⟨0, 0, (.seq (.prim .ret (.cons (.un .tup (.cons (.un .lst (.cons (.k (.int 0)) (.cons (.k (.int 1)) .nil))) (.cons (.k (.int 1)) .nil))) .nil))
      .skip)⟩
def n_still_poly : List Str := []
def c_again_of : Df := ⟨2, 4, (.seq (.prim (.asg 2) (.cons (.un (.call 42) .nil) .nil))
      (.seq (.fr (.name 3) (.un .rng1 (.v 1)) (.seq (.prim (.asg 2) (.cons (.un (.call 16) (.cons (.v 0) (.cons (.v 2) .nil))) .nil))
      .skip))
      (.seq (.retv 2)
      .skip)))⟩
def n_again_of : List Str := ["poly", "times", "found", "turn"]
def c_again : Df := ⟨2, 2, (.seq (.prim .expr (.cons (.un (.call 4) (.cons (.v 0) .nil)) .nil))
      (.seq (.ifs (.un .not (.un (.call 0) (.cons (.v 1) (.cons (.k (.int 0)) (.cons (.k (.g "MOST_TIMES" (60))) .nil))))) (.seq (.prim .raise .nil)
      .skip) .skip)
      (.seq (.prim .expr (.cons (.un (.call 39) (.cons (.un (.call 37) (.cons (.bi .rep (.un .lst (.cons (.v 0) .nil)) (.v 1)) .nil)) .nil)) .nil))
      (.seq (.prim .ret (.cons (.un (.call 12) (.cons (.un (.call 43) (.cons (.un (.call 11) (.cons (.v 0) .nil)) (.cons (.v 1) .nil))) .nil)) .nil))
      .skip))))⟩
def n_again : List Str := ["step", "times"]
def c_whole_power : Df := ⟨2, 5, (.seq (.prim (.par3 2 3 4) (.cons (.k (.int 1)) (.cons (.v 0) (.cons (.v 1) .nil))))
      (.seq (.whl (.bi (.cmp .gt) (.v 4) (.k (.int 0))) (.seq (.ifs (.bi .eq (.bi (.ar .mod) (.v 4) (.k (.int 2))) (.k (.int 1))) (.seq (.prim (.asg 2) (.cons (.bi (.ar .mul) (.v 2) (.v 3)) .nil))
      .skip) .skip)
      (.seq (.prim (.asg 4) (.cons (.bi (.ar .fdiv) (.v 4) (.k (.int 2))) .nil))
      (.seq (.ifs (.bi (.cmp .gt) (.v 4) (.k (.int 0))) (.seq (.prim (.asg 3) (.cons (.bi (.ar .mul) (.v 3) (.v 3)) .nil))
      .skip) .skip)
      .skip))))
      (.seq (.retv 2)
      .skip)))⟩
def n_whole_power : List Str := ["base", "exponent", "found", "square", "left"]
def c_number_power : Df := ⟨2, 2, (.seq (.prim .ret (.cons (.un .tup (.cons (.un (.call 45) (.cons (.bi .ix (.v 0) (.k (.int 0))) (.cons (.v 1) .nil))) (.cons (.un (.call 45) (.cons (.bi .ix (.v 0) (.k (.int 1))) (.cons (.v 1) .nil))) .nil))) .nil))
      .skip)⟩
def n_number_power : List Str := ["number", "exponent"]
def c_poly_degree : Df := ⟨1, 1, (.seq (.prim .ret (.cons (.bi (.ar .sub) (.un .len (.bi .ix (.v 0) (.k (.int 0)))) (.k (.int 1))) .nil))
      .skip)⟩
def n_poly_degree : List Str := ["poly"]
def c_poly_head : Df := ⟨1, 1, (.seq (.prim .ret (.cons (.un (.call 6) (.cons (.bi .ix (.bi .ix (.v 0) (.k (.int 0))) (.un .neg (.k (.int 1)))) (.cons (.bi .ix (.v 0) (.k (.int 1))) .nil))) .nil))
      .skip)⟩
def n_poly_head : List Str := ["poly"]
def c_apart : Df := ⟨2, 2, (.seq (.prim .ret (.cons (.un (.call 14) (.cons (.un (.call 16) (.cons (.v 0) (.cons (.v 1) .nil))) (.cons (.un (.call 15) (.cons (.un (.call 16) (.cons (.v 1) (.cons (.v 0) .nil))) (.cons (.un .tup (.cons (.un .neg (.k (.int 1))) (.cons (.k (.int 1)) .nil))) .nil))) .nil))) .nil))
      .skip)⟩
def n_apart : List Str := ["one", "other"]
def c_need_bent_commuting : Df := ⟨1, 1, (.seq (.ifs (.bi (.cmp .lt) (.un .len (.un (.call 4) (.cons (.v 0) .nil))) (.k (.int 3))) (.seq (.prim .raise .nil)
      .skip) .skip)
      (.seq (.retv 0)
      .skip))⟩
def n_need_bent_commuting : List Str := ["step"]
def c_commutes : Df := ⟨2, 2, (.seq (.prim .expr (.cons (.un (.call 4) (.cons (.v 0) .nil)) .nil))
      (.seq (.prim .expr (.cons (.un (.call 4) (.cons (.v 1) .nil)) .nil))
      (.seq (.prim .expr (.cons (.un (.call 39) (.cons (.bi (.ar .mul) (.bi (.ar .sub) (.un .len (.v 0)) (.k (.int 1))) (.bi (.ar .sub) (.un .len (.v 1)) (.k (.int 1)))) .nil)) .nil))
      (.seq (.prim .ret (.cons (.bi .eq (.bi .ix (.un (.call 49) (.cons (.un (.call 11) (.cons (.v 0) .nil)) (.cons (.un (.call 11) (.cons (.v 1) .nil)) .nil))) (.k (.int 0))) (.un .lst .nil)) .nil))
      .skip))))⟩
def n_commutes : List Str := ["one", "other"]
def c_count_items : Df := ⟨2, 4, (.seq (.prim (.asg 2) (.cons (.k (.int 0)) .nil))
      (.seq (.fr (.name 3) (.un .rng1 (.v 1)) (.seq (.prim (.asg 2) (.cons (.bi (.ar .add) (.bi (.ar .mul) (.v 2) (.v 0)) (.k (.int 1))) .nil))
      .skip))
      (.seq (.retv 2)
      .skip)))⟩
def n_count_items : List Str := ["base", "items", "found", "item"]
def c_last_power : Df := ⟨2, 3, (.seq (.prim (.asg 2) (.cons (.un (.call 14) (.cons (.v 0) (.cons (.un (.call 15) (.cons (.v 1) (.cons (.un .tup (.cons (.un .neg (.k (.int 1))) (.cons (.k (.int 1)) .nil))) .nil))) .nil))) .nil))
      (.seq (.prim .ret (.cons (.tr .ite (.bi .ne (.bi .ix (.v 2) (.k (.int 0))) (.un .lst .nil)) (.bi (.ar .sub) (.un .len (.bi .ix (.v 2) (.k (.int 0)))) (.k (.int 1))) (.k .non)) .nil))
      .skip))⟩
def n_last_power : List Str := ["one", "other", "found"]
def c_least_pair : Df := ⟨2, 4, (.seq (.fr (.name 2) (.bi .rng2 (.k (.int 1)) (.k (.int 7))) (.seq (.fr (.name 3) (.bi .rng2 (.k (.int 1)) (.k (.int 7))) (.seq (.ifs (.bi .eq (.un (.call 45) (.cons (.v 0) (.cons (.v 2) .nil))) (.un (.call 45) (.cons (.v 1) (.cons (.v 3) .nil)))) (.seq (.prim .ret (.cons (.un .tup (.cons (.v 2) (.cons (.v 3) .nil))) .nil))
      .skip) .skip)
      .skip))
      .skip))
      (.seq (.prim .ret (.cons (.k .non) .nil))
      .skip))⟩
def n_least_pair : List Str := ["one", "other", "near", "far"]
def c_signs_of : Df := ⟨3, 7, (.seq (.prim (.asg 3) (.cons (.un .lst .nil) .nil))
      (.seq (.fr (.pair (.name 4) (.name 5)) (.bi .zip (.un .tup (.cons (.v 0) (.cons (.v 1) .nil))) (.v 2)) (.seq (.prim (.asg 6) (.cons (.bi .eq (.bi (.ar .mod) (.un (.call 52) (.cons (.un (.call 47) (.cons (.v 4) .nil)) (.cons (.v 5) .nil))) (.k (.int 2))) (.k (.int 1))) .nil))
      (.seq (.prim (.append 3) (.cons (.tr .ite (.bi .and (.bi (.cmp .lt) (.bi .ix (.bi .ix (.v 4) (.k (.int 0))) (.un .neg (.k (.int 1)))) (.k (.int 0))) (.un .one (.v 6))) (.un .neg (.k (.int 1))) (.k (.int 1))) .nil))
      .skip)))
      (.seq (.retv 3)
      .skip)))⟩
def n_signs_of : List Str := ["one", "other", "pair", "found", "poly", "turns", "odd"]
def c_are_like_heads : Df := ⟨2, 4, (.seq (.prim (.asg 2) (.cons (.un (.call 46) (.cons (.un (.call 48) (.cons (.v 0) .nil)) (.cons (.bi (.ar .sub) (.un (.call 47) (.cons (.v 1) .nil)) (.k (.int 1))) .nil))) .nil))
      (.seq (.prim (.asg 3) (.cons (.un (.call 46) (.cons (.un (.call 48) (.cons (.v 1) .nil)) (.cons (.bi (.ar .sub) (.un (.call 47) (.cons (.v 0) .nil)) (.k (.int 1))) .nil))) .nil))
      (.seq (.prim .ret (.cons (.bi .and (.bi .eq (.un .abs (.bi .ix (.v 2) (.k (.int 0)))) (.un .abs (.bi .ix (.v 3) (.k (.int 0))))) (.un .one (.bi .eq (.bi .ix (.v 2) (.k (.int 1))) (.bi .ix (.v 3) (.k (.int 1)))))) .nil))
      .skip)))⟩
def n_are_like_heads : List Str := ["one", "other", "near", "far"]
def c_looked_at : Df := ⟨2, 4, (.seq (.prim (.asg 2) (.cons (.un (.call 54) (.cons (.un (.call 47) (.cons (.v 0) .nil)) (.cons (.un (.call 47) (.cons (.v 1) .nil)) .nil))) .nil))
      (.seq (.ifs (.un .isN (.v 2)) (.seq (.prim .ret (.cons (.k (.str "degrees")) .nil))
      .skip) .skip)
      (.seq (.ifs (.un .not (.un (.call 56) (.cons (.v 0) (.cons (.v 1) .nil)))) (.seq (.prim .ret (.cons (.k (.str "heads")) .nil))
      .skip) .skip)
      (.seq (.prim (.asg 3) (.cons (.un (.call 55) (.cons (.v 0) (.cons (.v 1) (.cons (.v 2) .nil)))) .nil))
      (.seq (.ifs (.bi .eq (.bi .ix (.v 3) (.k (.int 0))) (.bi .ix (.v 3) (.k (.int 1)))) (.seq (.retv 2)
      .skip) .skip)
      (.seq (.prim .ret (.cons (.tr .ite (.bi .eq (.bi (.ar .mod) (.un (.call 47) (.cons (.v 0) .nil)) (.k (.int 2))) (.k (.int 1))) (.un .tup (.cons (.bi (.ar .mul) (.k (.int 2)) (.bi .ix (.v 2) (.k (.int 0)))) (.cons (.bi (.ar .mul) (.k (.int 2)) (.bi .ix (.v 2) (.k (.int 1)))) .nil))) (.k (.str "heads"))) .nil))
      .skip))))))⟩
def n_looked_at : List Str := ["one", "other", "pair", "signs"]
def c_found_of : Df := ⟨2, 4, (.seq (.prim (.asg 2) (.cons (.un (.call 57) (.cons (.v 0) (.cons (.v 1) .nil))) .nil))
      (.seq (.ifs (.un (.isInst .str) (.v 2)) (.seq (.prim .ret (.cons (.un .tup (.cons (.k .non) (.cons (.un .tup (.cons (.v 2) .nil)) .nil))) .nil))
      .skip) .skip)
      (.seq (.prim .expr (.cons (.un (.call 39) (.cons (.un (.call 45) (.cons (.un (.call 47) (.cons (.v 0) .nil)) (.cons (.bi .ix (.v 2) (.k (.int 0))) .nil))) .nil)) .nil))
      (.seq (.prim (.asg 3) (.cons (.un (.call 53) (.cons (.un (.call 43) (.cons (.v 0) (.cons (.bi .ix (.v 2) (.k (.int 0))) .nil))) (.cons (.un (.call 43) (.cons (.v 1) (.cons (.bi .ix (.v 2) (.k (.int 1))) .nil))) .nil))) .nil))
      (.seq (.prim .ret (.cons (.tr .ite (.un .isN (.v 3)) (.un .tup (.cons (.v 2) (.cons (.k .non) .nil))) (.un .tup (.cons (.k .non) (.cons (.un .tup (.cons (.k (.str "again")) (.cons (.bi .ix (.v 2) (.k (.int 0))) (.cons (.bi .ix (.v 2) (.k (.int 1))) (.cons (.v 3) .nil))))) .nil)))) .nil))
      .skip)))))⟩
def n_found_of : List Str := ["one", "other", "pair", "place"]
def c_need_pair : Df := ⟨2, 2, (.seq (.prim .ret (.cons (.un .tup (.cons (.un (.call 11) (.cons (.un (.call 50) (.cons (.v 0) .nil)) .nil)) (.cons (.un (.call 11) (.cons (.un (.call 50) (.cons (.v 1) .nil)) .nil)) .nil))) .nil))
      .skip)⟩
def n_need_pair : List Str := ["one", "other"]
def c_common_again : Df := ⟨2, 4, (.seq (.prim (.asgT (.pair (.name 2) (.name 3))) (.cons (.un (.call 59) (.cons (.v 0) (.cons (.v 1) .nil))) .nil))
      (.seq (.prim .ret (.cons (.bi .ix (.un (.call 58) (.cons (.v 2) (.cons (.v 3) .nil))) (.k (.int 0))) .nil))
      .skip))⟩
def n_common_again : List Str := ["one", "other", "near", "far"]
def c_need_whole_step : Df := ⟨1, 2, (.seq (.prim .expr (.cons (.un (.call 4) (.cons (.v 0) .nil)) .nil))
      (.seq (.ifs (.bi .or (.un .not (.tr (.chain .le .le) (.k (.int 3)) (.un .len (.v 0)) (.bi (.ar .add) (.k (.g "MOST_DEGREE_HERE" (12))) (.k (.int 1))))) (.un .one (.bi .ne (.comp (.name 1) (.un .seq (.v 0)) (.cons (.bi .ne (.bi .ix (.v 1) (.k (.int 1))) (.k (.int 1))) .nil) (.k (.int 1)) [1]) (.un .lst .nil)))) (.seq (.prim .raise .nil)
      .skip) .skip)
      (.seq (.prim .ret (.cons (.comp (.name 1) (.un .seq (.v 0)) .nil (.bi .ix (.v 1) (.k (.int 0))) [1]) .nil))
      .skip)))⟩
def n_need_whole_step : List Str := ["step", "number"]
def c_need_whole : Df := ⟨1, 1, (.seq (.prim .expr (.cons (.un (.call 3) (.cons (.v 0) .nil)) .nil))
      (.seq (.ifs (.bi .ne (.bi .ix (.v 0) (.k (.int 1))) (.k (.int 1))) (.seq (.prim .raise .nil)
      .skip) .skip)
      (.seq (.prim .ret (.cons (.bi .ix (.v 0) (.k (.int 0))) .nil))
      .skip)))⟩
def n_need_whole : List Str := ["number"]
def c_led : Df := ⟨2, 4, (.seq (.prim (.asg 2) (.cons (.k (.int 0)) .nil))
      (.seq (.fr (.name 3) (.un .rev (.v 0)) (.seq (.prim (.asg 2) (.cons (.bi (.ar .add) (.bi (.ar .mul) (.v 2) (.v 1)) (.v 3)) .nil))
      .skip))
      (.seq (.retv 2)
      .skip)))⟩
def n_led : List Str := ["numbers", "here", "found", "number"]
def c_check_few : Df := ⟨1, 1, (.seq (.ifs (.bi (.cmp .gt) (.bi (.ar .add) (.bi (.ar .mul) (.k (.int 2)) (.v 0)) (.k (.int 1))) (.k (.g "MOST_LOOKED_AT_twostarts" (2000)))) (.seq (.prim .raise .nil)
      .skip) .skip)
      .skip)⟩
def n_check_few : List Str := ["bound"]
def c_strides_of : Df := ⟨1, 1, (.seq (.prim .ret (.cons (.tr .ite (.bi .and (.bi .eq (.bi (.ar .mod) (.un .len (.v 0)) (.k (.int 2))) (.k (.int 0))) (.un .one (.bi (.cmp .lt) (.bi .ix (.v 0) (.un .neg (.k (.int 1)))) (.k (.int 0))))) (.k (.int 2)) (.k (.int 1))) .nil))
      .skip)⟩
def n_strides_of : List Str := ["numbers"]
def c_first_numbers : Df := ⟨3, 5, (.seq (.prim (.asg 3) (.cons (.un .lst (.cons (.v 2) .nil)) .nil))
      (.seq (.whl (.bi (.cmp .le) (.un .abs (.bi .ix (.v 3) (.un .neg (.k (.int 1))))) (.v 1)) (.seq (.prim (.asg 4) (.cons (.un (.call 63) (.cons (.v 0) (.cons (.bi .ix (.v 3) (.un .neg (.k (.int 1)))) .nil))) .nil))
      (.seq (.ifs (.bi (.inn false) (.v 4) (.v 3)) (.seq (.frz 3 (.prim .ret (.cons (.un .tup (.cons (.v 3) (.cons (.k (.bl true)) .nil))) .nil)))
      .skip) .skip)
      (.seq (.prim (.append 3) (.cons (.v 4) .nil))
      .skip))))
      (.seq (.frz 3 (.prim .ret (.cons (.un .tup (.cons (.v 3) (.cons (.k (.bl false)) .nil))) .nil)))
      .skip)))⟩
def n_first_numbers : List Str := ["numbers", "bound", "start", "found", "here"]
def c_are_sides : Df := ⟨3, 3, (.seq (.prim .ret (.cons (.bi .and (.bi .eq (.bi (.ar .mod) (.un .len (.v 0)) (.k (.int 2))) (.k (.int 0))) (.bi .and (.bi (.cmp .gt) (.bi .ix (.v 0) (.un .neg (.k (.int 1)))) (.k (.int 0))) (.un .one (.bi (.cmp .lt) (.bi (.ar .mul) (.v 1) (.v 2)) (.k (.int 0)))))) .nil))
      .skip)⟩
def n_are_sides : List Str := ["numbers", "near", "far"]
def c_is_between : Df := ⟨3, 3, (.seq (.ifs (.bi .or (.bi (.cmp .le) (.bi (.ar .mul) (.v 0) (.v 1)) (.k (.int 0))) (.un .one (.bi (.cmp .le) (.bi (.ar .mul) (.v 0) (.v 2)) (.k (.int 0))))) (.seq (.prim .ret (.cons (.k (.bl false)) .nil))
      .skip) .skip)
      (.seq (.prim .ret (.cons (.bi .or (.tr (.chain .lt .lt) (.v 0) (.v 1) (.v 2)) (.un .one (.tr (.chain .lt .lt) (.v 2) (.v 1) (.v 0)))) .nil))
      .skip))⟩
def n_is_between : List Str := ["near", "middle", "far"]
def c_are_apart : Df := ⟨5, 5, (.seq (.ifs (.bi .or (.bi (.cmp .le) (.un .abs (.v 2)) (.v 1)) (.un .one (.bi (.cmp .le) (.un .abs (.v 3)) (.v 1)))) (.seq (.prim .ret (.cons (.k (.bl false)) .nil))
      .skip) .skip)
      (.seq (.prim .ret (.cons (.bi .or (.un (.call 67) (.cons (.v 0) (.cons (.v 2) (.cons (.v 3) .nil)))) (.un .one (.un (.call 68) (.cons (.v 2) (.cons (.v 3) (.cons (.v 4) .nil)))))) .nil))
      .skip))⟩
def n_are_apart : List Str := ["numbers", "bound", "near", "middle", "far"]
def c_grown : Df := ⟨3, 3, (.seq (.whl (.bi (.cmp .le) (.un .len (.v 1)) (.v 2)) (.seq (.prim (.append 1) (.cons (.un (.call 63) (.cons (.v 0) (.cons (.bi .ix (.v 1) (.un .neg (.k (.int 1)))) .nil))) .nil))
      .skip))
      .skip)⟩
def n_grown : List Str := ["numbers", "found", "index"]
def c_met_so : Df := ⟨4, 12, (.seq (.prim (.par2 6 7) (.cons (.un .listOf (.v 2)) (.cons (.un .listOf (.v 3)) .nil)))
      (.seq (.prim (.asg 4) (.cons (.un (.call 65) (.cons (.v 0) .nil)) .nil))
      (.seq (.prim (.asg 5) (.cons (.k (.int 0)) .nil))
      (.seq (.whl (.k (.bl true)) (.seq (.prim (.grow 70 63 6) (.cons (.v 0) (.cons (.bi (.ar .add) (.v 5) (.v 4)) .nil)))
      (.seq (.prim (.par2 10 11) (.cons (.bi .ix (.v 6) (.v 5)) (.cons (.bi .ix (.v 6) (.bi (.ar .add) (.v 5) (.v 4))) .nil)))
      (.seq (.prim (.asg 8) (.cons (.tr .max3 (.v 1) (.un .abs (.v 10)) (.un .abs (.v 11))) .nil))
      (.seq (.prim (.asg 9) (.cons (.k (.int 0)) .nil))
      (.seq (.whl (.k (.bl true)) (.seq (.prim (.grow 70 63 7) (.cons (.v 0) (.cons (.v 9) .nil)))
      (.seq (.ifs (.bi .eq (.bi .ix (.v 7) (.v 9)) (.v 10)) (.seq (.prim .ret (.cons (.un .tup (.cons (.k (.bl true)) (.cons (.un .tup (.cons (.v 5) (.cons (.v 9) .nil))) .nil))) .nil))
      .skip) .skip)
      (.seq (.ifs (.un (.call 69) (.cons (.v 0) (.cons (.v 1) (.cons (.v 10) (.cons (.bi .ix (.v 7) (.v 9)) (.cons (.v 11) .nil)))))) (.seq (.prim .ret (.cons (.un .tup (.cons (.k (.bl false)) (.cons (.un .tup (.cons (.v 5) (.cons (.v 9) .nil))) .nil))) .nil))
      .skip) .skip)
      (.seq (.ifs (.bi (.cmp .gt) (.un .abs (.bi .ix (.v 7) (.v 9))) (.v 8)) (.seq (.prim .brk .nil)
      .skip) .skip)
      (.seq (.prim (.asg 9) (.cons (.bi (.ar .add) (.v 9) (.k (.int 1))) .nil))
      .skip))))))
      (.seq (.prim (.asg 5) (.cons (.bi (.ar .add) (.v 5) (.k (.int 1))) .nil))
      .skip)))))))
      .skip))))⟩
def n_met_so : List Str := ["numbers", "bound", "one", "other", "stride", "first", "near", "far", "most", "second", "here", "later"]
def c_meeting_so : Df := ⟨4, 10, (.seq (.prim (.asgT (.pair (.name 4) (.name 5))) (.cons (.un (.call 66) (.cons (.v 0) (.cons (.v 1) (.cons (.v 2) .nil)))) .nil))
      (.seq (.prim (.asgT (.pair (.name 6) (.name 7))) (.cons (.un (.call 66) (.cons (.v 0) (.cons (.v 1) (.cons (.v 3) .nil)))) .nil))
      (.seq (.ifs (.bi .and (.un .not (.v 5)) (.un .one (.un .not (.v 7)))) (.seq (.prim .ret (.cons (.un (.call 71) (.cons (.v 0) (.cons (.v 1) (.cons (.v 4) (.cons (.v 6) .nil))))) .nil))
      .skip) .skip)
      (.seq (.ifs (.bi .and (.v 5) (.un .one (.v 7))) (.seq (.fr (.pair (.name 8) (.name 9)) (.un .enum (.v 4)) (.seq (.ifs (.bi (.inn false) (.v 9) (.v 6)) (.seq (.prim .ret (.cons (.un .tup (.cons (.k (.bl true)) (.cons (.un .tup (.cons (.v 8) (.cons (.bi .index (.v 6) (.v 9)) .nil))) .nil))) .nil))
      .skip) .skip)
      .skip))
      .skip) .skip)
      (.seq (.prim .ret (.cons (.un .tup (.cons (.k (.bl false)) (.cons (.k .non) .nil))) .nil))
      .skip)))))⟩
def n_meeting_so : List Str := ["numbers", "bound", "one", "other", "near", "near_round", "far", "far_round", "first", "number"]
def c_asked : Df := ⟨3, 7, (.seq (.prim (.asg 3) (.cons (.un (.call 61) (.cons (.v 0) .nil)) .nil))
      (.seq (.prim (.asg 4) (.cons (.un (.call 62) (.cons (.v 1) .nil)) .nil))
      (.seq (.prim (.asg 5) (.cons (.un (.call 62) (.cons (.v 2) .nil)) .nil))
      (.seq (.prim (.asg 6) (.cons (.un (.call 25) (.cons (.un (.call 11) (.cons (.v 0) .nil)) .nil)) .nil))
      (.seq (.prim .expr (.cons (.un (.call 64) (.cons (.v 6) .nil)) .nil))
      (.seq (.frz 3 (.prim .ret (.cons (.un (.call 72) (.cons (.v 3) (.cons (.v 6) (.cons (.v 4) (.cons (.v 5) .nil))))) .nil)))
      .skip))))))⟩
def n_asked : List Str := ["step", "one", "other", "numbers", "near", "far", "bound"]
def c_comes_together : Df := ⟨3, 5, (.seq (.prim (.asgT (.pair (.name 3) (.name 4))) (.cons (.un (.call 73) (.cons (.v 0) (.cons (.v 1) (.cons (.v 2) .nil)))) .nil))
      (.seq (.prim .ret (.cons (.tr .ite (.v 3) (.v 4) (.k .non)) .nil))
      .skip))⟩
def n_comes_together : List Str := ["step", "one", "other", "together", "moments"]
def c_is_growing : Df := ⟨1, 2, (.seq (.ifs (.bi .ne (.comp (.name 1) (.un .seq (.v 0)) (.cons (.bi .ne (.bi .ix (.v 1) (.k (.int 1))) (.k (.int 1))) .nil) (.k (.int 1)) [1]) (.un .lst .nil)) (.seq (.prim .ret (.cons (.k (.bl false)) .nil))
      .skip) .skip)
      (.seq (.prim .ret (.cons (.bi .or (.bi (.cmp .gt) (.un .len (.v 0)) (.k (.int 2))) (.un .one (.bi (.cmp .gt) (.un .abs (.bi .ix (.bi .ix (.v 0) (.k (.int 1))) (.k (.int 0)))) (.k (.int 1))))) .nil))
      .skip))⟩
def n_is_growing : List Str := ["step", "number"]
def c_need_choices : Df := ⟨1, 3, (.seq (.prim .expr (.cons (.un (.call 5) (.cons (.v 0) .nil)) .nil))
      (.seq (.fr (.pair (.name 1) (.name 2)) (.un .enum (.v 0)) (.seq (.ifs (.un .not (.un (.call 75) (.cons (.v 2) .nil))) (.seq (.prim .raise .nil)
      .skip) .skip)
      .skip))
      (.seq (.retv 0)
      .skip)))⟩
def n_need_choices : List Str := ["steps", "index", "step"]
def c_bound_of : Df := ⟨1, 2, (.seq (.prim .ret (.cons (.un .maxL (.comp (.name 1) (.un .seq (.v 0)) .nil (.un (.call 25) (.cons (.un (.call 11) (.cons (.v 1) .nil)) .nil)) [1])) .nil))
      .skip)⟩
def n_bound_of : List Str := ["steps", "step"]
def c_whole_numbers : Df := ⟨1, 3, (.seq (.prim .ret (.cons (.comp (.name 1) (.un .seq (.v 0)) .nil (.comp (.name 2) (.un .seq (.v 1)) .nil (.bi .ix (.v 2) (.k (.int 0))) [2]) [1]) .nil))
      .skip)⟩
def n_whole_numbers : List Str := ["steps", "step", "number"]
def c_ways_from : Df := ⟨4, 11, (.seq (.prim (.asg 4) (.cons (.k .dK) .nil))
      (.seq (.ifs (.bi (.cmp .gt) (.un .abs (.v 2)) (.v 1)) (.seq (.retv 4)
      .skip) .skip)
      (.seq (.prim (.setD 4) (.cons (.k .non) (.cons (.v 2) .nil)))
      (.seq (.prim (.asg 5) (.cons (.un .lst (.cons (.v 2) .nil)) .nil))
      (.seq (.prim (.asg 6) (.cons (.k (.int 0)) .nil))
      (.seq (.whl (.bi .and (.bi (.cmp .lt) (.v 6) (.un .len (.v 5))) (.un .one (.un (.inD true 4) (.v 3)))) (.seq (.prim (.asg 7) (.cons (.bi .ix (.v 5) (.v 6)) .nil))
      (.seq (.prim (.asg 6) (.cons (.bi (.ar .add) (.v 6) (.k (.int 1))) .nil))
      (.seq (.fr (.pair (.name 8) (.name 9)) (.un .enum (.v 0)) (.seq (.prim (.asg 10) (.cons (.un (.call 63) (.cons (.v 9) (.cons (.v 7) .nil))) .nil))
      (.seq (.ifs (.bi .and (.bi (.cmp .le) (.un .abs (.v 10)) (.v 1)) (.un .one (.un (.inD true 4) (.v 10)))) (.seq (.prim (.setD 4) (.cons (.un .tup (.cons (.v 7) (.cons (.v 8) .nil))) (.cons (.v 10) .nil)))
      (.seq (.prim (.append 5) (.cons (.v 10) .nil))
      .skip)) .skip)
      .skip)))
      .skip))))
      (.seq (.retv 4)
      .skip)))))))⟩
def n_ways_from : List Str := ["rows", "bound", "start", "goal", "found", "line", "place", "here", "index", "row", "later"]
def c_word_to : Df := ⟨2, 5, (.seq (.prim (.par2 2 3) (.cons (.un .lst .nil) (.cons (.v 1) .nil)))
      (.seq (.whl (.un .notN (.un (.getD 0) (.v 3))) (.seq (.prim (.asgT (.pair (.name 3) (.name 4))) (.cons (.un (.getD 0) (.v 3)) .nil))
      (.seq (.prim (.append 2) (.cons (.v 4) .nil))
      .skip)))
      (.seq (.prim (.reverse 2) .nil)
      (.seq (.prim .ret (.cons (.un .tupOf (.v 2)) .nil))
      .skip))))⟩
def n_word_to : List Str := ["ways", "goal", "found", "here", "index"]
def c_round_from : Df := ⟨3, 7, (.seq (.fr (.pair (.name 3) (.name 4)) (.un .enum (.v 0)) (.seq (.prim (.asg 5) (.cons (.un (.call 63) (.cons (.v 4) (.cons (.v 2) .nil))) .nil))
      (.seq (.ifs (.bi (.cmp .le) (.un .abs (.v 5)) (.v 1)) (.seq (.prim (.asg 6) (.cons (.un (.call 79) (.cons (.v 0) (.cons (.v 1) (.cons (.v 5) (.cons (.v 2) .nil))))) .nil))
      (.seq (.ifs (.un (.inD false 6) (.v 2)) (.seq (.frz 6 (.prim .ret (.cons (.bi .catT (.un .tup (.cons (.v 3) .nil)) (.un (.call 80) (.cons (.v 6) (.cons (.v 2) .nil)))) .nil)))
      .skip) .skip)
      .skip)) .skip)
      .skip)))
      (.seq (.prim .ret (.cons (.k .non) .nil))
      .skip))⟩
def n_round_from : List Str := ["rows", "bound", "start", "index", "row", "later", "ways"]
def c_stays : Df := ⟨2, 8, (.seq (.prim .expr (.cons (.un (.call 76) (.cons (.v 0) .nil)) .nil))
      (.seq (.prim (.asg 2) (.cons (.un (.call 62) (.cons (.v 1) .nil)) .nil))
      (.seq (.prim (.asg 3) (.cons (.un (.call 77) (.cons (.v 0) .nil)) .nil))
      (.seq (.prim .expr (.cons (.un (.call 64) (.cons (.v 3) .nil)) .nil))
      (.seq (.prim (.asg 4) (.cons (.un (.call 78) (.cons (.v 0) .nil)) .nil))
      (.seq (.frz 4 (.prim (.asg 5) (.cons (.un (.call 79) (.cons (.v 4) (.cons (.v 3) (.cons (.v 2) (.cons (.k .non) .nil))))) .nil)))
      (.seq (.fr (.name 6) (.un .seq (.un (.listD 5) .nil)) (.seq (.frz 4 (.prim (.asg 7) (.cons (.un (.call 81) (.cons (.v 4) (.cons (.v 3) (.cons (.v 6) .nil)))) .nil)))
      (.seq (.ifs (.un .notN (.v 7)) (.seq (.frz 5 (.prim .ret (.cons (.un .tup (.cons (.un (.call 80) (.cons (.v 5) (.cons (.v 6) .nil))) (.cons (.v 7) .nil))) .nil)))
      .skip) .skip)
      .skip)))
      (.seq (.prim .ret (.cons (.k .non) .nil))
      .skip))))))))⟩
def n_stays : List Str := ["steps", "start", "near", "bound", "rows", "ways", "here", "found"]
def c_is_word : Df := ⟨2, 3, (.seq (.ifs (.bi .or (.un .not (.un (.isInst .tuple) (.v 1))) (.un .one (.bi (.cmp .gt) (.un .len (.v 1)) (.k (.g "MOST_WORD" (4000)))))) (.seq (.prim .ret (.cons (.k (.bl false)) .nil))
      .skip) .skip)
      (.seq (.prim .ret (.cons (.bi .eq (.un .len (.comp (.name 2) (.un .seq (.v 1)) (.cons (.un .not (.un (.call 0) (.cons (.v 2) (.cons (.k (.int 0)) (.cons (.bi (.ar .sub) (.un .len (.v 0)) (.k (.int 1))) .nil))))) .nil) (.k (.int 1)) [2])) (.k (.int 0))) .nil))
      .skip))⟩
def n_is_word : List Str := ["steps", "value", "index"]
def c_led_along : Df := ⟨4, 6, (.seq (.prim (.asg 4) (.cons (.v 3) .nil))
      (.seq (.fr (.name 5) (.un .seq (.v 2)) (.seq (.ifs (.bi (.cmp .gt) (.un .abs (.v 4)) (.v 1)) (.seq (.prim .ret (.cons (.k .non) .nil))
      .skip) .skip)
      (.seq (.prim (.asg 4) (.cons (.un (.call 63) (.cons (.bi .ix (.v 0) (.v 5)) (.cons (.v 4) .nil))) .nil))
      .skip)))
      (.seq (.prim .ret (.cons (.tr .ite (.bi (.cmp .le) (.un .abs (.v 4)) (.v 1)) (.v 4) (.k .non)) .nil))
      .skip)))⟩
def n_led_along : List Str := ["rows", "bound", "word", "start", "here", "index"]
def c_is_staying : Df := ⟨3, 7, (.seq (.prim .expr (.cons (.un (.call 76) (.cons (.v 0) .nil)) .nil))
      (.seq (.prim (.asg 3) (.cons (.un (.call 62) (.cons (.v 1) .nil)) .nil))
      (.seq (.prim (.asg 4) (.cons (.un (.call 77) (.cons (.v 0) .nil)) .nil))
      (.seq (.prim .expr (.cons (.un (.call 64) (.cons (.v 4) .nil)) .nil))
      (.seq (.ifs (.bi .or (.un .not (.un (.isInst .tuple) (.v 2))) (.bi .or (.bi .ne (.un .len (.v 2)) (.k (.int 2))) (.bi .or (.un .not (.un (.call 83) (.cons (.v 0) (.cons (.bi .ix (.v 2) (.k (.int 0))) .nil)))) (.un .one (.un .not (.un (.call 83) (.cons (.v 0) (.cons (.bi .ix (.v 2) (.k (.int 1))) .nil)))))))) (.seq (.prim .ret (.cons (.k (.bl false)) .nil))
      .skip) .skip)
      (.seq (.ifs (.bi .or (.bi .eq (.bi .ix (.v 2) (.k (.int 1))) (.un .tup .nil)) (.un .one (.bi (.cmp .gt) (.bi (.ar .add) (.un .len (.bi .ix (.v 2) (.k (.int 0)))) (.un .len (.bi .ix (.v 2) (.k (.int 1))))) (.k (.g "MOST_WORD" (4000)))))) (.seq (.prim .ret (.cons (.k (.bl false)) .nil))
      .skip) .skip)
      (.seq (.prim (.asg 5) (.cons (.un (.call 78) (.cons (.v 0) .nil)) .nil))
      (.seq (.frz 5 (.prim (.asg 6) (.cons (.un (.call 84) (.cons (.v 5) (.cons (.v 4) (.cons (.bi .ix (.v 2) (.k (.int 0))) (.cons (.v 3) .nil))))) .nil)))
      (.seq (.frz 5 (.prim .ret (.cons (.bi .and (.un .notN (.v 6)) (.un .one (.bi .eq (.un (.call 84) (.cons (.v 5) (.cons (.v 4) (.cons (.bi .ix (.v 2) (.k (.int 1))) (.cons (.v 6) .nil))))) (.v 6)))) .nil)))
      .skip)))))))))⟩
def n_is_staying : List Str := ["steps", "start", "value", "near", "bound", "rows", "here"]
def c_need_modulo : Df := ⟨1, 1, (.seq (.ifs (.un .not (.un (.call 0) (.cons (.v 0) (.cons (.k (.int 2)) (.cons (.k (.g "MOST_MODULO" (2000))) .nil))))) (.seq (.prim .raise .nil)
      .skip) .skip)
      (.seq (.retv 0)
      .skip))⟩
def n_need_modulo : List Str := ["value"]
def c_need_rest : Df := ⟨2, 2, (.seq (.ifs (.un .not (.un (.call 0) (.cons (.v 1) (.cons (.k (.int 0)) (.cons (.bi (.ar .sub) (.un (.call 86) (.cons (.v 0) .nil)) (.k (.int 1))) .nil))))) (.seq (.prim .raise .nil)
      .skip) .skip)
      (.seq (.retv 1)
      .skip))⟩
def n_need_rest : List Str := ["modulo", "rest"]
def c_back_by : Df := ⟨2, 5, (.seq (.prim (.par2 2 3) (.cons (.un .tup (.cons (.bi (.ar .mod) (.v 0) (.v 1)) (.cons (.k (.int 1)) .nil))) (.cons (.un .tup (.cons (.v 1) (.cons (.k (.int 0)) .nil))) .nil)))
      (.seq (.whl (.bi .ne (.bi .ix (.v 3) (.k (.int 0))) (.k (.int 0))) (.seq (.prim (.asg 4) (.cons (.bi (.ar .fdiv) (.bi .ix (.v 2) (.k (.int 0))) (.bi .ix (.v 3) (.k (.int 0)))) .nil))
      (.seq (.prim (.par2 2 3) (.cons (.v 3) (.cons (.un .tup (.cons (.bi (.ar .sub) (.bi .ix (.v 2) (.k (.int 0))) (.bi (.ar .mul) (.v 4) (.bi .ix (.v 3) (.k (.int 0))))) (.cons (.bi (.ar .sub) (.bi .ix (.v 2) (.k (.int 1))) (.bi (.ar .mul) (.v 4) (.bi .ix (.v 3) (.k (.int 1))))) .nil))) .nil)))
      .skip)))
      (.seq (.prim .ret (.cons (.bi (.ar .mod) (.bi .ix (.v 2) (.k (.int 1))) (.v 1)) .nil))
      .skip)))⟩
def n_back_by : List Str := ["number", "modulo", "one", "other", "times"]
def c_rests_so : Df := ⟨2, 4, (.seq (.fr (.pair (.name 2) (.name 3)) (.un .seq (.v 0)) (.seq (.ifs (.bi .ne (.bi .gcd (.v 3) (.v 1)) (.k (.int 1))) (.seq (.prim .raise .nil)
      .skip) .skip)
      .skip))
      (.seq (.prim .ret (.cons (.un .tupOf (.comp (.pair (.name 2) (.name 3)) (.un .seq (.v 0)) .nil (.bi (.ar .mod) (.bi (.ar .mul) (.v 2) (.un (.call 88) (.cons (.v 3) (.cons (.v 1) .nil)))) (.v 1)) [2, 3])) .nil))
      .skip))⟩
def n_rests_so : List Str := ["step", "modulo", "above", "below"]
def c_led_rest : Df := ⟨3, 5, (.seq (.prim (.asg 3) (.cons (.k (.int 0)) .nil))
      (.seq (.fr (.name 4) (.un .rev (.v 0)) (.seq (.prim (.asg 3) (.cons (.bi (.ar .mod) (.bi (.ar .add) (.bi (.ar .mul) (.v 3) (.v 1)) (.v 4)) (.v 2)) .nil))
      .skip))
      (.seq (.retv 3)
      .skip)))⟩
def n_led_rest : List Str := ["rests", "rest", "modulo", "found", "item"]
def c_ring_so : Df := ⟨3, 6, (.seq (.prim (.par3 3 4 5) (.cons (.k .dK) (.cons (.un .lst .nil) (.cons (.v 1) .nil))))
      (.seq (.whl (.un (.inD true 3) (.v 5)) (.seq (.prim (.setD 3) (.cons (.un .len (.v 4)) (.cons (.v 5) .nil)))
      (.seq (.prim (.append 4) (.cons (.v 5) .nil))
      (.seq (.prim (.asg 5) (.cons (.un (.call 90) (.cons (.v 0) (.cons (.v 5) (.cons (.v 2) .nil)))) .nil))
      .skip))))
      (.seq (.frz 4 (.prim .ret (.cons (.un .tup (.cons (.un (.getD 3) (.v 5)) (.cons (.bi (.ar .sub) (.un .len (.v 4)) (.un (.getD 3) (.v 5))) (.cons (.v 4) .nil)))) .nil)))
      .skip)))⟩
def n_ring_so : List Str := ["rests", "rest", "modulo", "seen", "line", "here"]
def c_rest_ring : Df := ⟨3, 3, (.seq (.prim .expr (.cons (.un (.call 4) (.cons (.v 0) .nil)) .nil))
      (.seq (.prim .expr (.cons (.un (.call 87) (.cons (.v 1) (.cons (.v 2) .nil))) .nil))
      (.seq (.prim .ret (.cons (.bi .upTo (.un (.call 91) (.cons (.un (.call 89) (.cons (.v 0) (.cons (.v 1) .nil))) (.cons (.v 2) (.cons (.v 1) .nil)))) (.k (.int 2))) .nil))
      .skip)))⟩
def n_rest_ring : List Str := ["step", "modulo", "rest"]
def c_need_high : Df := ⟨1, 1, (.seq (.ifs (.bi .eq (.un .len (.un (.call 4) (.cons (.v 0) .nil))) (.k (.int 2))) (.seq (.prim .raise .nil)
      .skip) .skip)
      (.seq (.prim .ret (.cons (.un (.call 11) (.cons (.v 0) .nil)) .nil))
      .skip))⟩
def n_need_high : List Str := ["step"]
def c_middle_so : Df := ⟨1, 2, (.seq (.prim (.asg 1) (.cons (.bi (.ar .sub) (.un .len (.bi .ix (.v 0) (.k (.int 0)))) (.k (.int 1))) .nil))
      (.seq (.prim .ret (.cons (.un (.call 6) (.cons (.bi .ix (.bi .ix (.v 0) (.k (.int 0))) (.un .neg (.k (.int 2)))) (.cons (.bi (.ar .mul) (.v 1) (.bi .ix (.bi .ix (.v 0) (.k (.int 0))) (.un .neg (.k (.int 1))))) .nil))) .nil))
      .skip))⟩
def n_middle_so : List Str := ["poly", "degree"]
def c_raised : Df := ⟨2, 5, (.seq (.prim (.asgT (.pair (.name 3) (.name 4))) (.cons (.un .tup (.cons (.k (.int 1)) (.cons (.k (.int 1)) .nil))) .nil))
      (.seq (.fr (.name 2) (.un .rng1 (.v 1)) (.seq (.prim (.par2 3 4) (.cons (.bi (.ar .mul) (.v 3) (.bi .ix (.v 0) (.k (.int 0)))) (.cons (.bi (.ar .mul) (.v 4) (.bi .ix (.v 0) (.k (.int 1)))) .nil)))
      .skip))
      (.seq (.prim .ret (.cons (.un .tup (.cons (.v 3) (.cons (.v 4) .nil))) .nil))
      .skip)))⟩
def n_raised : List Str := ["number", "exponent", "turn", "above", "below"]
def c_whole_root : Df := ⟨2, 5, (.seq (.prim (.par2 2 3) (.cons (.k (.int 0)) (.cons (.bi (.ar .shl) (.k (.int 1)) (.bi (.ar .add) (.bi (.ar .fdiv) (.un .bits (.v 0)) (.v 1)) (.k (.int 1)))) .nil)))
      (.seq (.whl (.bi (.cmp .gt) (.bi (.ar .sub) (.v 3) (.v 2)) (.k (.int 1))) (.seq (.prim (.asg 4) (.cons (.bi (.ar .fdiv) (.bi (.ar .add) (.v 2) (.v 3)) (.k (.int 2))) .nil))
      (.seq (.ifs (.bi (.cmp .le) (.bi .ix (.un (.call 95) (.cons (.un .tup (.cons (.v 4) (.cons (.k (.int 1)) .nil))) (.cons (.v 1) .nil))) (.k (.int 0))) (.v 0)) (.seq (.prim (.asg 2) (.cons (.v 4) .nil))
      .skip) (.seq (.prim (.asg 3) (.cons (.v 4) .nil))
      .skip))
      .skip)))
      (.seq (.prim .ret (.cons (.tr .ite (.bi .eq (.bi .ix (.un (.call 95) (.cons (.un .tup (.cons (.v 2) (.cons (.k (.int 1)) .nil))) (.cons (.v 1) .nil))) (.k (.int 0))) (.v 0)) (.v 2) (.k .non)) .nil))
      .skip)))⟩
def n_whole_root : List Str := ["value", "exponent", "low", "high", "middle"]
def c_roots_at : Df := ⟨2, 4, (.seq (.prim (.par2 2 3) (.cons (.un (.call 96) (.cons (.un .abs (.bi .ix (.v 0) (.k (.int 0)))) (.cons (.v 1) .nil))) (.cons (.un (.call 96) (.cons (.bi .ix (.v 0) (.k (.int 1))) (.cons (.v 1) .nil))) .nil)))
      (.seq (.ifs (.bi .or (.un .isN (.v 2)) (.bi .or (.un .isN (.v 3)) (.un .one (.bi .and (.bi (.cmp .lt) (.bi .ix (.v 0) (.k (.int 0))) (.k (.int 0))) (.un .one (.bi .eq (.bi (.ar .mod) (.v 1) (.k (.int 2))) (.k (.int 0)))))))) (.seq (.prim .ret (.cons (.un .lst .nil) .nil))
      .skip) .skip)
      (.seq (.ifs (.bi .eq (.bi (.ar .mod) (.v 1) (.k (.int 2))) (.k (.int 1))) (.seq (.prim .ret (.cons (.un .lst (.cons (.un .tup (.cons (.tr .ite (.bi (.cmp .gt) (.bi .ix (.v 0) (.k (.int 0))) (.k (.int 0))) (.v 2) (.un .neg (.v 2))) (.cons (.v 3) .nil))) .nil)) .nil))
      .skip) .skip)
      (.seq (.prim .ret (.cons (.un .lst (.cons (.un .tup (.cons (.un .neg (.v 2)) (.cons (.v 3) .nil))) (.cons (.un .tup (.cons (.v 2) (.cons (.v 3) .nil))) .nil))) .nil))
      .skip))))⟩
def n_roots_at : List Str := ["number", "exponent", "above", "below"]
def c_need_both : Df := ⟨2, 2, (.seq (.prim .expr (.cons (.un (.call 4) (.cons (.v 0) .nil)) .nil))
      (.seq (.prim .expr (.cons (.un (.call 4) (.cons (.v 1) .nil)) .nil))
      (.seq (.prim .ret (.cons (.un .tup (.cons (.un (.call 93) (.cons (.v 0) .nil)) (.cons (.un (.call 93) (.cons (.v 1) .nil)) .nil))) .nil))
      .skip)))⟩
def n_need_both : List Str := ["one", "other"]
def c_partners_so : Df := ⟨2, 7, (.seq (.ifs (.bi .ne (.un .len (.bi .ix (.v 0) (.k (.int 0)))) (.un .len (.bi .ix (.v 1) (.k (.int 0))))) (.seq (.prim .ret (.cons (.un .lst .nil) .nil))
      .skip) .skip)
      (.seq (.prim (.asg 2) (.cons (.bi (.ar .sub) (.un .len (.bi .ix (.v 0) (.k (.int 0)))) (.k (.int 1))) .nil))
      (.seq (.prim (.asg 3) (.cons (.un .lst .nil) .nil))
      (.seq (.fr (.name 4) (.un .seq (.un (.call 97) (.cons (.un (.call 6) (.cons (.bi (.ar .mul) (.bi .ix (.bi .ix (.v 0) (.k (.int 0))) (.un .neg (.k (.int 1)))) (.bi .ix (.v 1) (.k (.int 1)))) (.cons (.bi (.ar .mul) (.bi .ix (.v 0) (.k (.int 1))) (.bi .ix (.bi .ix (.v 1) (.k (.int 0))) (.un .neg (.k (.int 1))))) .nil))) (.cons (.bi (.ar .sub) (.v 2) (.k (.int 1))) .nil)))) (.seq (.prim (.asg 5) (.cons (.un .tup (.cons (.un (.call 8) (.cons (.un (.call 7) (.cons (.v 4) (.cons (.un (.call 94) (.cons (.v 0) .nil)) .nil))) (.cons (.un (.call 94) (.cons (.v 1) .nil)) .nil))) (.cons (.v 4) .nil))) .nil))
      (.seq (.prim (.asg 6) (.cons (.un (.call 11) (.cons (.v 5) .nil)) .nil))
      (.seq (.ifs (.bi .eq (.un (.call 16) (.cons (.v 1) (.cons (.v 6) .nil))) (.un (.call 16) (.cons (.v 6) (.cons (.v 0) .nil)))) (.seq (.prim (.append 3) (.cons (.v 5) .nil))
      .skip) .skip)
      .skip))))
      (.seq (.frz 3 (.prim .ret (.cons (.un (.call 22) (.cons (.v 3) .nil)) .nil)))
      .skip)))))⟩
def n_partners_so : List Str := ["one", "other", "degree", "found", "head", "step", "poly"]
def c_partners : Df := ⟨2, 4, (.seq (.prim (.asgT (.pair (.name 2) (.name 3))) (.cons (.un (.call 98) (.cons (.v 0) (.cons (.v 1) .nil))) .nil))
      (.seq (.prim .ret (.cons (.un .tupOf (.un (.call 99) (.cons (.v 2) (.cons (.v 3) .nil)))) .nil))
      .skip))⟩
def n_partners : List Str := ["one", "other", "near", "far"]
def c__law_divisor : Df := ⟨2, 2, (.seq (.prim (.par2 0 1) (.cons (.bi .max2 (.v 0) (.un .neg (.v 0))) (.cons (.bi .max2 (.v 1) (.un .neg (.v 1))) .nil)))
      (.seq (.whl (.bi (.cmp .gt) (.v 1) (.k (.int 0))) (.seq (.prim (.par2 0 1) (.cons (.v 1) (.cons (.bi (.ar .mod) (.v 0) (.v 1)) .nil)))
      .skip))
      (.seq (.retv 0)
      .skip)))⟩
def n__law_divisor : List Str := ["_law_one", "_law_other"]
def c__law_frac : Df := ⟨2, 3, (.seq (.prim (.asg 2) (.cons (.un (.call 101) (.cons (.v 0) (.cons (.v 1) .nil))) .nil))
      (.seq (.ifs (.bi (.cmp .lt) (.v 1) (.k (.int 0))) (.seq (.prim (.asg 2) (.cons (.un .neg (.v 2)) .nil))
      .skip) .skip)
      (.seq (.prim .ret (.cons (.un .tup (.cons (.bi (.ar .fdiv) (.v 0) (.v 2)) (.cons (.bi (.ar .fdiv) (.v 1) (.v 2)) .nil))) .nil))
      .skip)))⟩
def n__law_frac : List Str := ["_law_above", "_law_below", "_law_shared"]
def c__law_add : Df := ⟨2, 2, (.seq (.prim .ret (.cons (.un (.call 102) (.cons (.bi (.ar .add) (.bi (.ar .mul) (.bi .ix (.v 0) (.k (.int 0))) (.bi .ix (.v 1) (.k (.int 1)))) (.bi (.ar .mul) (.bi .ix (.v 1) (.k (.int 0))) (.bi .ix (.v 0) (.k (.int 1))))) (.cons (.bi (.ar .mul) (.bi .ix (.v 0) (.k (.int 1))) (.bi .ix (.v 1) (.k (.int 1)))) .nil))) .nil))
      .skip)⟩
def n__law_add : List Str := ["_law_one", "_law_other"]
def c__law_mul : Df := ⟨2, 2, (.seq (.prim .ret (.cons (.un (.call 102) (.cons (.bi (.ar .mul) (.bi .ix (.v 0) (.k (.int 0))) (.bi .ix (.v 1) (.k (.int 0)))) (.cons (.bi (.ar .mul) (.bi .ix (.v 0) (.k (.int 1))) (.bi .ix (.v 1) (.k (.int 1)))) .nil))) .nil))
      .skip)⟩
def n__law_mul : List Str := ["_law_one", "_law_other"]
def c__law_less : Df := ⟨2, 2, (.seq (.prim .ret (.cons (.bi (.cmp .lt) (.bi (.ar .mul) (.bi .ix (.v 0) (.k (.int 0))) (.bi .ix (.v 1) (.k (.int 1)))) (.bi (.ar .mul) (.bi .ix (.v 1) (.k (.int 0))) (.bi .ix (.v 0) (.k (.int 1))))) .nil))
      .skip)⟩
def n__law_less : List Str := ["_law_one", "_law_other"]
def c__law_value : Df := ⟨2, 4, (.seq (.prim (.asg 2) (.cons (.un .tup (.cons (.k (.int 0)) (.cons (.k (.int 1)) .nil))) .nil))
      (.seq (.fr (.name 3) (.un .seq (.un .revT (.v 0))) (.seq (.prim (.asg 2) (.cons (.un (.call 103) (.cons (.un (.call 104) (.cons (.v 2) (.cons (.v 1) .nil))) (.cons (.v 3) .nil))) .nil))
      .skip))
      (.seq (.retv 2)
      .skip)))⟩
def n__law_value : List Str := ["_law_told", "_law_worth", "_law_found", "_law_number_here"]
def c__law_walk : Df := ⟨3, 5, (.seq (.prim (.asg 3) (.cons (.un .lst (.cons (.v 1) .nil)) .nil))
      (.seq (.fr (.name 4) (.un .rng1 (.v 2)) (.seq (.prim (.append 3) (.cons (.un (.call 106) (.cons (.v 0) (.cons (.bi .ix (.v 3) (.un .neg (.k (.int 1)))) .nil))) .nil))
      .skip))
      (.seq (.retv 3)
      .skip)))⟩
def n__law_walk : List Str := ["_law_told", "_law_worth", "_law_many_so", "_law_found", "_law_step"]
def c__law_sorted : Df := ⟨1, 5, (.seq (.prim (.asg 1) (.cons (.un .lst .nil) .nil))
      (.seq (.fr (.name 2) (.un .seq (.v 0)) (.seq (.prim (.asg 3) (.cons (.un .len (.comp (.name 4) (.un .seq (.v 1)) (.cons (.un (.call 105) (.cons (.v 4) (.cons (.v 2) .nil))) .nil) (.k (.int 1)) [4])) .nil))
      (.seq (.prim (.asg 1) (.cons (.bi .cat (.bi .cat (.bi .upTo (.v 1) (.v 3)) (.un .lst (.cons (.v 2) .nil))) (.bi .onFrom (.v 1) (.v 3))) .nil))
      .skip)))
      (.seq (.prim .ret (.cons (.un .tupOf (.v 1)) .nil))
      .skip)))⟩
def n__law_sorted : List Str := ["_law_numbers_so", "_law_found", "_law_number_here", "_law_at", "_law_other"]
def c__law_twice_right : Df := ⟨1, 3, (.seq (.prim (.asg 1) (.cons (.un (.call 44) (.cons (.v 0) (.cons (.k (.int 2)) .nil))) .nil))
      (.seq (.ifs (.bi .or (.un .not (.un (.call 110) (.cons (.un (.call 34) (.cons (.v 1) .nil)) (.cons (.un (.call 34) (.cons (.v 0) .nil)) .nil)))) (.un .one (.un (.notB true) (.un (.call 51) (.cons (.v 0) (.cons (.v 1) .nil)))))) (.seq (.prim .ret (.cons (.k (.bl false)) .nil))
      .skip) .skip)
      (.seq (.fr (.name 2) (.un .seq (.un (.call 34) (.cons (.v 0) .nil))) (.seq (.ifs (.bi (.inn true) (.un (.call 18) (.cons (.v 0) (.cons (.v 2) .nil))) (.un (.call 34) (.cons (.v 0) .nil))) (.seq (.prim .ret (.cons (.k (.bl false)) .nil))
      .skip) .skip)
      .skip))
      (.seq (.prim .ret (.cons (.un (.call 110) (.cons (.un (.call 60) (.cons (.v 0) (.cons (.v 1) .nil))) (.cons (.un .tup (.cons (.k (.int 2)) (.cons (.k (.int 1)) .nil))) .nil))) .nil))
      .skip))))⟩
def n__law_twice_right : List Str := ["_law_told_so", "_law_twice", "_law_number_here"]
/-- the defs by number: the name that callers use, the names of the slots, the code, the place in the top -/
def tab : List (String × List Str × Df × Nat) := [("is_from", n_is_from, c_is_from, 14), ("is_number", n_is_number, c_is_number, 15), ("is_step", n_is_step, c_is_step, 16), ("need_number", n_need_number, c_need_number, 17), ("need_step", n_need_step, c_need_step, 18), ("need_row", n_need_row, c_need_row, 19), ("number_of", n_number_of, c_number_of, 20), ("number_times", n_number_times, c_number_times, 21), ("number_less", n_number_less, c_number_less, 22), ("is_below", n_is_below, c_is_below, 23), ("reduced", n_reduced, c_reduced, 24), ("as_poly", n_as_poly, c_as_poly, 25), ("as_step", n_as_step, c_as_step, 26), ("times_so", n_times_so, c_times_so, 27), ("plus", n_plus, c_plus, 28), ("scaled", n_scaled, c_scaled, 29), ("put_in", n_put_in, c_put_in, 30), ("value_of", n_value_of, c_value_of, 31), ("value_at", n_value_at, c_value_at, 32), ("back_of", n_back_of, c_back_of, 33), ("straight_back", n_straight_back, c_straight_back, 34), ("comes_ahead", n_comes_ahead, c_comes_ahead, 35), ("ordered", n_ordered, c_ordered, 36), ("need_bent_starts", n_need_bent_starts, c_need_bent_starts, 39), ("holds_bound", n_holds_bound, c_holds_bound, 41), ("least_bound", n_least_bound, c_least_bound, 42), ("bounds_so", n_bounds_so, c_bounds_so, 43), ("is_within", n_is_within, c_is_within, 44), ("walk_so", n_walk_so, c_walk_so, 45), ("round_so", n_round_so, c_round_so, 46), ("comes_round", n_comes_round, c_comes_round, 47), ("check_bounds", n_check_bounds, c_check_bounds, 48), ("numbers_within", n_numbers_within, c_numbers_within, 49), ("all_rounds", n_all_rounds, c_all_rounds, 50), ("starts", n_starts, c_starts, 51), ("least_number", n_least_number, c_least_number, 52), ("rings", n_rings, c_rings, 53), ("product_of", n_product_of, c_product_of, 57), ("row_degree", n_row_degree, c_row_degree, 58), ("check_degree", n_check_degree, c_check_degree, 59), ("whole_of", n_whole_of, c_whole_of, 60), ("whole", n_whole, c_whole, 61), ("still_poly", n_still_poly, c_still_poly, 62), ("again_of", n_again_of, c_again_of, 63), ("again", n_again, c_again, 64), ("whole_power", n_whole_power, c_whole_power, 66), ("number_power", n_number_power, c_number_power, 67), ("poly_degree", n_poly_degree, c_poly_degree, 68), ("poly_head", n_poly_head, c_poly_head, 69), ("apart", n_apart, c_apart, 70), ("need_bent_commuting", n_need_bent_commuting, c_need_bent_commuting, 71), ("commutes", n_commutes, c_commutes, 73), ("count_items", n_count_items, c_count_items, 75), ("last_power", n_last_power, c_last_power, 76), ("least_pair", n_least_pair, c_least_pair, 77), ("signs_of", n_signs_of, c_signs_of, 78), ("are_like_heads", n_are_like_heads, c_are_like_heads, 79), ("looked_at", n_looked_at, c_looked_at, 80), ("found_of", n_found_of, c_found_of, 81), ("need_pair", n_need_pair, c_need_pair, 82), ("common_again", n_common_again, c_common_again, 83), ("need_whole_step", n_need_whole_step, c_need_whole_step, 87), ("need_whole", n_need_whole, c_need_whole, 88), ("led", n_led, c_led, 89), ("check_few", n_check_few, c_check_few, 90), ("strides_of", n_strides_of, c_strides_of, 91), ("first_numbers", n_first_numbers, c_first_numbers, 92), ("are_sides", n_are_sides, c_are_sides, 93), ("is_between", n_is_between, c_is_between, 94), ("are_apart", n_are_apart, c_are_apart, 95), ("grown", n_grown, c_grown, 96), ("met_so", n_met_so, c_met_so, 97), ("meeting_so", n_meeting_so, c_meeting_so, 98), ("asked", n_asked, c_asked, 99), ("comes_together", n_comes_together, c_comes_together, 100), ("is_growing", n_is_growing, c_is_growing, 103), ("need_choices", n_need_choices, c_need_choices, 104), ("bound_of", n_bound_of, c_bound_of, 105), ("whole_numbers", n_whole_numbers, c_whole_numbers, 106), ("ways_from", n_ways_from, c_ways_from, 107), ("word_to", n_word_to, c_word_to, 108), ("round_from", n_round_from, c_round_from, 109), ("stays", n_stays, c_stays, 110), ("is_word", n_is_word, c_is_word, 111), ("led_along", n_led_along, c_led_along, 112), ("is_staying", n_is_staying, c_is_staying, 113), ("need_modulo", n_need_modulo, c_need_modulo, 116), ("need_rest", n_need_rest, c_need_rest, 117), ("back_by", n_back_by, c_back_by, 118), ("rests_so", n_rests_so, c_rests_so, 119), ("led_rest", n_led_rest, c_led_rest, 120), ("ring_so", n_ring_so, c_ring_so, 121), ("rest_ring", n_rest_ring, c_rest_ring, 122), ("need_high", n_need_high, c_need_high, 124), ("middle_so", n_middle_so, c_middle_so, 125), ("raised", n_raised, c_raised, 127), ("whole_root", n_whole_root, c_whole_root, 128), ("roots_at", n_roots_at, c_roots_at, 129), ("need_both", n_need_both, c_need_both, 130), ("partners_so", n_partners_so, c_partners_so, 131), ("partners", n_partners, c_partners, 132), ("_law_divisor", n__law_divisor, c__law_divisor, 139), ("_law_frac", n__law_frac, c__law_frac, 140), ("_law_add", n__law_add, c__law_add, 141), ("_law_mul", n__law_mul, c__law_mul, 142), ("_law_less", n__law_less, c__law_less, 143), ("_law_value", n__law_value, c__law_value, 144), ("_law_walk", n__law_walk, c__law_walk, 145), ("_law_sorted", n__law_sorted, c__law_sorted, 149), ("_law_twice_right", n__law_twice_right, c__law_twice_right, 151)]
def nLike : Nat := 110
/-- _law_letters_right behind its first statement -/
def t__law_letters_right : S := (.seq (.prim (.asg 3) (.cons (.un (.call 20) (.cons (.v 2) .nil)) .nil))
      (.seq (.prim (.asg 4) (.cons (.un (.call 41) (.cons (.un .tup (.cons (.v 3) (.cons (.v 1) (.cons (.v 2) .nil)))) .nil)) .nil))
      (.seq (.prim (.asg 5) (.cons (.un (.call 108) (.cons (.comp (.name 8) (.un .seq (.un (.call 34) (.cons (.v 1) .nil))) .nil (.un (.call 106) (.cons (.v 2) (.cons (.v 8) .nil))) [8]) .nil)) .nil))
      (.seq (.ifs (.bi .or (.un .not (.un (.call 110) (.cons (.un (.call 34) (.cons (.v 4) .nil)) (.cons (.v 5) .nil)))) (.un .one (.bi (.inn true) (.v 2) (.un (.call 100) (.cons (.v 1) (.cons (.v 4) .nil)))))) (.seq (.prim .ret (.cons (.k (.bl false)) .nil))
      .skip) .skip)
      (.seq (.prim (.par2 6 7) (.cons (.comp (.name 9) (.un .seq (.un (.call 36) (.cons (.v 1) .nil))) .nil (.un .len (.v 9)) [9]) (.cons (.comp (.name 9) (.un .seq (.un (.call 36) (.cons (.v 4) .nil))) .nil (.un .len (.v 9)) [9]) .nil)))
      (.seq (.prim .ret (.cons (.bi .eq (.un .sorted (.v 6)) (.un .sorted (.v 7))) .nil))
      .skip))))))
def n__law_letters_right : List Str := ["_law_state", "_law_told_so", "_law_letter_so", "_law_back", "_law_other_so", "_law_due", "_law_near", "_law_far", "_law_number_here", "_law_ring"]
/-- _law_rests_right behind its first statement -/
def t__law_rests_right : S := (.seq (.fr (.name 3) (.un .seq (.un (.call 36) (.cons (.v 1) .nil))) (.seq (.fr (.name 4) (.un .seq (.bi .upTo (.v 3) (.k (.int 1)))) (.seq (.ifs (.bi .eq (.un (.call 101) (.cons (.bi .ix (.v 4) (.k (.int 1))) (.cons (.v 2) .nil))) (.k (.int 1))) (.seq (.prim (.asg 5) (.cons (.bi .ix (.comp (.name 8) (.un .rng1 (.v 2)) (.cons (.bi .eq (.bi (.ar .mod) (.bi (.ar .sub) (.bi (.ar .mul) (.v 8) (.bi .ix (.v 4) (.k (.int 1)))) (.bi .ix (.v 4) (.k (.int 0)))) (.v 2)) (.k (.int 0))) .nil) (.v 8) [8]) (.k (.int 0))) .nil))
      (.seq (.prim (.asgT (.pair (.name 6) (.name 7))) (.cons (.un (.call 92) (.cons (.v 1) (.cons (.v 2) (.cons (.v 5) .nil)))) .nil))
      (.seq (.ifs (.bi .or (.bi .ne (.v 6) (.k (.int 0))) (.un .one (.bi .ne (.bi (.ar .mod) (.un .len (.v 3)) (.v 7)) (.k (.int 0))))) (.seq (.prim .ret (.cons (.k (.bl false)) .nil))
      .skip) .skip)
      .skip))) .skip)
      .skip))
      .skip))
      (.seq (.prim .ret (.cons (.k (.bl true)) .nil))
      .skip))
def n__law_rests_right : List Str := ["_law_state", "_law_told_so", "_law_modulo_so", "_law_ring", "_law_number_here", "_law_here", "_law_tail", "_law_size", "_law_one"]
/-- _law_whole_right behind its first statement -/
def t__law_whole_right : S := (.seq (.frz 2 (.fr (.name 3) (.un .seq (.v 2)) (.seq (.prim (.asg 5) (.cons (.un (.call 82) (.cons (.un .tup (.cons (.v 1) .nil)) (.cons (.v 3) .nil))) .nil))
      (.seq (.ifs (.bi .ne (.un .notN (.v 5)) (.un .notN (.un (.call 30) (.cons (.v 1) (.cons (.v 3) .nil))))) (.seq (.prim .ret (.cons (.k (.bl false)) .nil))
      .skip) .skip)
      (.seq (.ifs (.bi .and (.un .notN (.v 5)) (.un .one (.un (.notB true) (.un (.call 85) (.cons (.un .tup (.cons (.v 1) .nil)) (.cons (.v 3) (.cons (.v 5) .nil))))))) (.seq (.prim .ret (.cons (.k (.bl false)) .nil))
      .skip) .skip)
      .skip)))))
      (.seq (.prim (.par2 6 7) (.cons (.un (.call 30) (.cons (.v 1) (.cons (.bi .ix (.v 2) (.k (.int 0))) .nil))) (.cons (.un (.call 30) (.cons (.v 1) (.cons (.bi .ix (.v 2) (.k (.int 1))) .nil))) .nil)))
      (.seq (.prim (.asg 4) (.cons (.un (.call 74) (.cons (.v 1) (.cons (.bi .ix (.v 2) (.k (.int 0))) (.cons (.bi .ix (.v 2) (.k (.int 1))) .nil)))) .nil))
      (.seq (.ifs (.bi .and (.un .isN (.v 6)) (.un .one (.un .isN (.v 7)))) (.seq (.ifs (.un .isN (.v 4)) (.seq (.prim .ret (.cons (.k (.bl true)) .nil))
      .skip) .skip)
      (.seq (.prim (.asg 8) (.cons (.bi .ix (.un (.call 107) (.cons (.v 1) (.cons (.bi .ix (.v 2) (.k (.int 0))) (.cons (.bi .ix (.v 4) (.k (.int 0))) .nil)))) (.un .neg (.k (.int 1)))) .nil))
      (.seq (.prim .ret (.cons (.bi .eq (.v 8) (.bi .ix (.un (.call 107) (.cons (.v 1) (.cons (.bi .ix (.v 2) (.k (.int 1))) (.cons (.bi .ix (.v 4) (.k (.int 1))) .nil)))) (.un .neg (.k (.int 1))))) .nil))
      .skip))) .skip)
      (.seq (.ifs (.bi .or (.un .isN (.v 6)) (.un .one (.un .isN (.v 7)))) (.seq (.prim .ret (.cons (.un .isN (.v 4)) .nil))
      .skip) .skip)
      (.seq (.prim .ret (.cons (.bi .eq (.un .notN (.v 4)) (.bi (.inn false) (.bi .ix (.bi .ix (.v 6) (.k (.int 1))) (.k (.int 0))) (.bi .ix (.v 7) (.k (.int 1))))) .nil))
      .skip))))))
def n__law_whole_right : List Str := ["_law_state", "_law_told_so", "_law_numbers_so", "_law_number_here", "_law_both", "_law_told", "_law_one", "_law_two", "_law_near", "_law_step"]
def n__law_begin : List Str := ["_law_script", "_law_cells_so", "_law_cell"]
def n__law_mixed : List Str := ["_law_cell", "_law_k"]
def n__law_draw : List Str := ["_law_state", "_law_limit", "_law_at", "_law_place", "_law_left", "_law_number_here"]
def n__law_of : List Str := ["_law_state", "_law_some"]
def n__law_number : List Str := ["_law_state", "_law_most", "_law_below"]
def n__law_some_step : List Str := ["_law_state", "_law_tops", "_law_top", "_law_middle"]
def n__law_letter : List Str := ["_law_state"]
def n_law : List Str := ["_law_script", "_law_state", "_law_turn", "_law_told_so", "_law_number_here"]
end SW
set_option Elab.async false
set_option linter.all false
/-! Tab: the calls: by number and depth. -/
namespace SW
open PySem
/-- an int that is not long -/
noncomputable def shI (d : PyData) : Bool := match d with
  | .int i => Nat.ble (absN i) 999999999999
  | _ => false
/-- .. or a few of them -/
noncomputable def shP (d : PyData) : Bool := match d with
  | .tuple xs => ifB (Nat.ble (lng xs) 8) (xs.all shI) false
  | d => shI d
noncomputable def shOk (xs : List PyData) : Bool := ifB (Nat.ble (lng xs) 1000) (xs.all shP) false
/-- _law_like, where it says True -/
noncomputable def likeE (as : List SV) : Option SV := match as with
  | [.dat (.tuple xs), .dat e] => ifB (shOk xs) (ifB (eqP 6 (.tuple xs) e) (some (.dat (.bool true))) none) none
  | _ => none
noncomputable def Fk (D : Nat → Option Df) (L W k : Nat) : FT := Nat.rec (motive := fun _ => FT) (fun _ _ => none) (fun _ ih f as => match D f with
  | none => ifB (Nat.beq f L) (likeE as) none
  | some d => runD ih W d as) k
end SW
set_option Elab.async false
set_option linter.all false
set_option maxRecDepth 100000
/-! Fct: the finite facts: steps, letters. -/
namespace SW
open PySem
def tabD : List Df := [c_is_from, c_is_number, c_is_step, c_need_number, c_need_step, c_need_row, c_number_of, c_number_times, c_number_less, c_is_below, c_reduced, c_as_poly, c_as_step, c_times_so, c_plus, c_scaled, c_put_in, c_value_of, c_value_at, c_back_of, c_straight_back, c_comes_ahead, c_ordered, c_need_bent_starts, c_holds_bound, c_least_bound, c_bounds_so, c_is_within, c_walk_so, c_round_so, c_comes_round, c_check_bounds, c_numbers_within, c_all_rounds, c_starts, c_least_number, c_rings, c_product_of, c_row_degree, c_check_degree, c_whole_of, c_whole, c_still_poly, c_again_of, c_again, c_whole_power, c_number_power, c_poly_degree, c_poly_head, c_apart, c_need_bent_commuting, c_commutes, c_count_items, c_last_power, c_least_pair, c_signs_of, c_are_like_heads, c_looked_at, c_found_of, c_need_pair, c_common_again, c_need_whole_step, c_need_whole, c_led, c_check_few, c_strides_of, c_first_numbers, c_are_sides, c_is_between, c_are_apart, c_grown, c_met_so, c_meeting_so, c_asked, c_comes_together, c_is_growing, c_need_choices, c_bound_of, c_whole_numbers, c_ways_from, c_word_to, c_round_from, c_stays, c_is_word, c_led_along, c_is_staying, c_need_modulo, c_need_rest, c_back_by, c_rests_so, c_led_rest, c_ring_so, c_rest_ring, c_need_high, c_middle_so, c_raised, c_whole_root, c_roots_at, c_need_both, c_partners_so, c_partners, c__law_divisor, c__law_frac, c__law_add, c__law_mul, c__law_less, c__law_value, c__law_walk, c__law_sorted, c__law_twice_right]
noncomputable def tD (f : Nat) : Option Df := nth tabD f
noncomputable def FF (k : Nat) : FT := Fk tD 110 3000 k
def pr (a b : Int) : PyData := .tuple [.int a, .int b]
def tops : List PyData := [pr 0 1, pr (-1) 1, pr (-2) 1, pr (-6) 1, pr 2 1, pr (-12) 1, pr (-7) 4, pr 5 4, pr (-3) 4, pr 1 4]
def mids : List PyData := [pr (-1) 1, pr 0 1, pr 1 1]
def threes : List PyData := [pr 0 1, pr 1 1, pr (-1) 1]
def cmids : List PyData := [pr (-4) 1, pr (-3) 1, pr (-2) 1, pr (-1) 1, pr 0 1, pr 1 1, pr 2 1]
def sevens : List PyData := [pr (-2) 1, pr (-1) 1, pr 0 1, pr 1 1, pr 2 1, pr (-1) 2, pr 1 2]
def fours : List PyData := [pr 1 1, pr (-1) 1, pr 2 1, pr 1 2]
def squares : List PyData := tops.flatMap fun t => mids.map fun m => .tuple [t, m, pr 1 1]
def cubes : List PyData := threes.flatMap fun t => cmids.map fun m => .tuple [t, m, pr 0 1, pr 1 1]
def steps : List PyData := squares ++ cubes
def letters : List PyData := sevens.flatMap fun t => fours.map fun m => .tuple [t, m]
def moduli : List PyData := [.int 3, .int 5, .int 7, .int 11, .int 13, .int 15, .int 35]
noncomputable def isT (o : Option Out) : Bool := match o with
  | some (.rt (.dat (.bool b))) => b
  | _ => false
noncomputable def isTV (o : Option SV) : Bool := match o with
  | some (.dat (.bool b)) => b
  | _ => false
noncomputable def chkT (t : PyData) : Bool := isTV (FF 12 109 [.dat t])
noncomputable def chkL (t l : PyData) : Bool := isT (evS (FF 12) 3000 t__law_letters_right [none, some (.dat t), some (.dat l), none, none, none, none, none, none, none])
noncomputable def chkR (t m : PyData) : Bool := isT (evS (FF 12) 3000 t__law_rests_right [none, some (.dat t), some (.dat m), none, none, none, none, none, none])
end SW
set_option Elab.async false
set_option linter.all false
set_option maxRecDepth 100000
/-! Mo: the calls with their arguments reckoned out (so the kernel meets the same call twice as the same term), and with shortcuts. -/
namespace SW.X
open PySem
noncomputable def fI {α : Type} (i : Int) (k : Int → α) : α := Int.rec (motive := fun _ => α) (fun n => forceN n fun m => k (.ofNat m)) (fun n => forceN n fun m => k (.negSucc m)) i
@[simp] theorem fI_eq {α : Type} (i : Int) (k : Int → α) : fI i k = k i := by
  cases i with
  | ofNat n => exact forceN_eq n fun m => k (.ofNat m)
  | negSucc n => exact forceN_eq n fun m => k (.negSucc m)
section
variable (α : Type)
abbrev KD := (PyData → α) → α
abbrev KL := (List PyData → α) → α
abbrev KP := (List (PyData × PyData) → α) → α
abbrev KQ := (PyData × PyData → α) → α
noncomputable def fd2 (b : Bool) : KD α := fun k => Bool.rec (motive := fun _ => α) (k (.bool false)) (k (.bool true)) b
noncomputable def fd3 (i : Int) : KD α := fun k => fI i fun j => k (.int j)
noncomputable def fd5 (_ : List PyData) (ih : KL α) : KD α := fun k => ih fun ys => k (.list ys)
noncomputable def fd6 (_ : List PyData) (ih : KL α) : KD α := fun k => ih fun ys => k (.tuple ys)
noncomputable def fd7 (kvs : List (PyData × PyData)) (_ : KP α) : KD α := fun k => k (.dict kvs)
noncomputable def fd9 (_ : PyData) (_ : List PyData) (hx : KD α) (hr : KL α) : KL α := fun k => hx fun y => hr fun ys => k (y :: ys)
noncomputable def fd11 (x : PyData × PyData) (r : List (PyData × PyData)) (_ : KQ α) (_ : KP α) : KP α := fun k => k (x :: r)
noncomputable def fd12 (a b : PyData) (_ _ : KD α) : KQ α := fun k => k (a, b)
end
noncomputable def forceD {α : Type} (d : PyData) : (PyData → α) → α :=
  PyData.rec (motive_1 := fun _ => KD α) (motive_2 := fun _ => KL α) (motive_3 := fun _ => KP α) (motive_4 := fun _ => KQ α)
    (fun k => k .none) (fd2 α) (fd3 α) (fun s k => k (.str s)) (fd5 α) (fd6 α) (fd7 α) (fun k => k []) (fd9 α) (fun k => k []) (fd11 α) (fd12 α) d
noncomputable def forceDs {α : Type} (ds : List PyData) : (List PyData → α) → α :=
  PyData.rec_1 (motive_1 := fun _ => KD α) (motive_2 := fun _ => KL α) (motive_3 := fun _ => KP α) (motive_4 := fun _ => KQ α)
    (fun k => k .none) (fd2 α) (fd3 α) (fun s k => k (.str s)) (fd5 α) (fd6 α) (fd7 α) (fun k => k []) (fd9 α) (fun k => k []) (fd11 α) (fd12 α) ds
theorem forceD_eq {α : Type} (d : PyData) : ∀ k : PyData → α, forceD d k = k d := by
  refine PyData.rec (motive_1 := fun d => ∀ k : PyData → α, forceD d k = k d) (motive_2 := fun ds => ∀ k : List PyData → α, forceDs ds k = k ds) (motive_3 := fun _ => True) (motive_4 := fun _ => True)
    ?_ ?_ ?_ ?_ ?_ ?_ ?_ ?_ ?_ ?_ ?_ ?_ d
  · exact fun k => rfl
  · exact fun b k => by cases b <;> rfl
  · exact fun i k => fI_eq i fun j => k (.int j)
  · exact fun s k => rfl
  · exact fun xs ih k => ih _
  · exact fun xs ih k => ih _
  · exact fun xs _ k => rfl
  · exact fun k => rfl
  · exact fun x r hx hr k => (hx fun y => forceDs r fun ys => k (y :: ys)).trans (hr fun ys => k (x :: ys))
  · trivial
  · exact fun _ _ _ _ => trivial
  · exact fun _ _ _ _ => trivial
theorem forceDs_eq {α : Type} : ∀ (ds : List PyData) (k : List PyData → α), forceDs ds k = k ds
  | [], _ => rfl
  | x :: r, k => (forceD_eq x fun y => forceDs r fun ys => k (y :: ys)).trans (forceDs_eq r fun ys => k (x :: ys))
noncomputable def forceS {α : Type} (r : SV) (k : SV → α) : α := SV.casesOn (motive_1 := fun _ => α) r (fun d => forceD d fun e => k (.dat e)) (fun xs => forceDs xs fun ys => k (.own ys)) (fun kvs => k (.dic kvs)) (fun kvs => k (.odic kvs)) (fun kvs => k (.odit kvs)) (fun as => k (.many as))
theorem forceS_eq {α : Type} (r : SV) (k : SV → α) : forceS r k = k r := by
  cases r with
  | dat d => exact forceD_eq d _
  | own xs => exact forceDs_eq xs _
  | dic _ => rfl
  | odic _ => rfl
  | odit _ => rfl
  | many _ => rfl
noncomputable def forceA {α : Type} (as : List SV) : (List SV → α) → α := List.rec (motive := fun _ => (List SV → α) → α) (fun k => k []) (fun x _ ih k => forceS x fun y => ih fun ys => k (y :: ys)) as
theorem forceA_eq {α : Type} : ∀ (as : List SV) (k : List SV → α), forceA as k = k as
  | [], _ => rfl
  | x :: r, k => (forceS_eq x fun y => forceA r fun ys => k (y :: ys)).trans (forceA_eq r fun ys => k (x :: ys))
end SW.X
set_option Elab.async false
set_option linter.all false
set_option maxRecDepth 100000
set_option maxHeartbeats 1000000
/-! Tw1: hot defs reckoned directly (twins), equal to the evaluator's answer. -/
namespace SW.X
open PySem
/-! ### rules for a symbolic run -/
noncomputable def outR (o : Option Out) : Option SV := match o with
  | some (.rt r) => some r
  | some (.nx _) => some (.dat .none)
  | _ => none
theorem runD_go {F : FT} {W : Nat} {d : Df} {as : List SV} {ρ : En} (h : Nat.beq (lng as) d.np = true) (e : startE d.n as = ρ) : runD F W d as = outR (evS F W d.body ρ) := by
  unfold runD
  rw [h]
  show forceL _ _ = _
  rw [forceL_eq, e]
  unfold outR
  cases evS F W d.body ρ with
  | none => rfl
  | some o => cases o <;> rfl
section
variable (F : FT) (W : Nat) (a b c : Ev1) (pk : Bool) (ρ : En) (f : PyData → Option SV) (fi : Int → Option SV) (fb : Bool → Option SV) (fl : List PyData → Option SV) (fm : List SV → Option SV) (d : PyData) (i j : Int) (k : Bool) (xs : List PyData) (as : List SV)
theorem q_onD : onD (some (.dat d)) f = f d := rfl
theorem q_onI : onI (some (.dat (.int i))) fi = fi i := rfl
theorem q_onB : onB (some (.dat (.bool k))) fb = fb k := rfl
theorem q_onSl : onS (some (.dat (.list xs))) fl = fl xs := rfl
theorem q_onSt : onS (some (.dat (.tuple xs))) fl = fl xs := rfl
theorem q_onSo : onS (some (.own xs)) fl = fl xs := rfl
theorem q_onL : onL (some (.dat (.list xs))) fl = fl xs := rfl
theorem q_onLo : onL (some (.own xs)) fl = fl xs := rfl
theorem q_onT : onT (some (.dat (.tuple xs))) fl = fl xs := rfl
theorem q_onM : onM (some (.many as)) fm = fm as := rfl
theorem q_onDo : onD (some (.own xs)) f = f (.list xs) := rfl
theorem q_mo : manyOf (.many as) = some as := rfl
theorem q_d0 : dAll [] = some [] := rfl
theorem q_d1 (x : PyData) : dAll [.dat x] = some [x] := rfl
theorem q_d2 (x y : PyData) : dAll [.dat x, .dat y] = some [x, y] := rfl
theorem q_d1o : dAll [.own xs] = some [.list xs] := rfl
theorem q_d2o (y : PyData) : dAll [.own xs, .dat y] = some [.list xs, y] := rfl
theorem q_a1 (x : PyData) : argAll [.dat x] = some [.dat x] := rfl
theorem q_a2 (x y : PyData) : argAll [.dat x, .dat y] = some [.dat x, .dat y] := rfl
theorem q_a3 (x y z : PyData) : argAll [.dat x, .dat y, .dat z] = some [.dat x, .dat y, .dat z] := rfl
theorem q_a4 (x y z u : PyData) : argAll [.dat x, .dat y, .dat z, .dat u] = some [.dat x, .dat y, .dat z, .dat u] := rfl
theorem q_a5 (x y z u v : PyData) : argAll [.dat x, .dat y, .dat z, .dat u, .dat v] = some [.dat x, .dat y, .dat z, .dat u, .dat v] := rfl
theorem q_dTup : dTup xs = some (.dat (.tuple xs)) := rfl
theorem q_lst1 : dLst xs = some (.dat (.list xs)) := rfl
theorem q_outr (r : SV) : outR (some (.rt r)) = some r := rfl
theorem q_eqi : eqD (.int i) (.int j) = some (eqI i j) := rfl
theorem q_datD : datOf (.dat d) = some d := rfl
theorem q_datO : datOf (.own xs) = some (.list xs) := rfl
theorem q_intD : intOf (.int i) = some i := rfl
theorem q_read : readV pk (some (.dat d)) = some (.dat d) := rfl
theorem q_readO : readV true (some (.own xs)) = some (.dat (.list xs)) := rfl
theorem q_cons (x : SV) (ys : List SV) : opCons (some x) (some (.many ys)) = some (.many (x :: ys)) := rfl
theorem q_gcd : opB .gcd a b ρ = onI (a false ρ) fun i => onI (b false ρ) fun j => dInt (.ofNat (Nat.gcd (absN i) (absN j))) := rfl
theorem q_cmp (o : POp) : opB (.cmp o) a b ρ = onI (a false ρ) fun i => onI (b false ρ) fun j => dBool (poI o i j) := rfl
theorem q_ar (o : AOp) : opB (.ar o) a b ρ = onI (a false ρ) fun i => onI (b false ρ) fun j => arI o i j := rfl
theorem q_and : opB .and a b ρ = onB (a false ρ) fun k => ifB k (b false ρ) (dBool false) := rfl
theorem q_or : opB .or a b ρ = onB (a false ρ) fun k => ifB k (dBool true) (b false ρ) := rfl
theorem q_ix : opB .ix a b ρ = onS (a true ρ) fun xs => onI (b false ρ) fun i => bnd (atI xs i) fun d => some (.dat d) := rfl
theorem q_eq : opB .eq a b ρ = onD (a true ρ) fun d => onD (b true ρ) fun e => match eqD d e with
  | some k => dBool k
  | none => none := rfl
theorem q_ne : opB .ne a b ρ = onD (a true ρ) fun d => onD (b true ρ) fun e => match eqD d e with
  | some k => dBool (not k)
  | none => none := rfl
theorem q_max2 : opB .max2 a b ρ = onI (a false ρ) fun i => onI (b false ρ) fun j => dInt (gtI j i) := rfl
theorem q_neg : opU F .neg a pk ρ = onI (a false ρ) fun i => dInt (Int.neg i) := rfl
theorem q_one : opU F .one a pk ρ = onB (a false ρ) dBool := rfl
theorem q_not : opU F .not a pk ρ = onB (a false ρ) fun k => dBool (not k) := rfl
theorem q_isN : opU F .isN a pk ρ = onD (a false ρ) fun d => dBool (isNon d) := rfl
theorem q_notN : opU F .notN a pk ρ = onD (a false ρ) fun d => dBool (not (isNon d)) := rfl
theorem q_len : opU F .len a pk ρ = onS (a true ρ) fun xs => dInt (.ofNat (lng xs)) := rfl
theorem q_abs : opU F .abs a pk ρ = onI (a false ρ) fun i => dInt (.ofNat (absN i)) := rfl
theorem q_seq : opU F .seq a pk ρ = onS (a pk ρ) dLst := rfl
theorem q_rev : opU F .rev a pk ρ = onS (a pk ρ) fun xs => dLst xs.reverse := rfl
theorem q_listOf : opU F .listOf a pk ρ = onS (a true ρ) fun xs => some (.own xs) := rfl
theorem q_tupOf : opU F .tupOf a pk ρ = onS (a true ρ) dTup := rfl
theorem q_isInst (t : Ty) : opU F (.isInst t) a pk ρ = onD (a false ρ) (isTy t) := rfl
theorem q_tup : opU F .tup a pk ρ = onM (a false ρ) fun as => match dAll as with
  | some ds => match lenOk ds with
    | true => dTup ds
    | false => none
  | none => none := rfl
theorem q_lst : opU F .lst a pk ρ = onM (a false ρ) fun as => match dAll as with
  | some ds => match lenOk ds with
    | true => some (.own ds)
    | false => none
  | none => none := rfl
theorem q_call (g : Nat) : opU F (.call g) a pk ρ = onM (a false ρ) fun as => match argAll as with
  | some vs => F g vs
  | none => none := rfl
theorem q_chain (o p : POp) : opT (.chain o p) a b c ρ = onI (a false ρ) fun i => onI (b false ρ) fun j => ifB (poI o i j) (onI (c false ρ) fun k => dBool (poI p j k)) (dBool false) := rfl
theorem q_ite : opT .ite c a b ρ = onB (c false ρ) fun k => ifB k (a false ρ) (b false ρ) := rfl
theorem q_max3 : opT .max3 a b c ρ = onI (a false ρ) fun i => onI (b false ρ) fun j => onI (c false ρ) fun k => dInt (gtI k (gtI j i)) := rfl
theorem q_kint : opK (.int i) = dInt i := rfl
theorem q_kg (x : Str) : opK (.g x i) = dInt i := rfl
theorem q_kbl : opK (.bl k) = dBool k := rfl
theorem q_knon : opK .non = some (.dat .none) := rfl
theorem q_kdT : opK .dT = some (.odit []) := rfl
theorem q_add : arI .add i j = dInt (Int.add i j) := rfl
theorem q_sub : arI .sub i j = dInt (Int.sub i j) := rfl
theorem q_mul : arI .mul i j = ifB (mulOk i j) (dInt (Int.mul i j)) none := rfl
theorem q_div : arI .fdiv i j = aDiv i j := rfl
theorem q_mod : arI .mod i j = aMod i j := rfl
theorem q_lt : poI .lt i j = ltI i j := rfl
theorem q_le : poI .le i j = leI i j := rfl
theorem q_gt : poI .gt i j = ltI j i := rfl
theorem q_ge : poI .ge i j = leI j i := rfl
theorem q_P (p : P) (es : C) : evP F W p es ρ = bnd (bnd (evC F es false ρ) manyOf) fun as => opP F W p as ρ := rfl
theorem q_asg (v : Nat) (r : SV) : opP F W (.asg v) [r] ρ = some (.nx (put ρ v (some r))) := by
  show nxF _ = _
  unfold nxF
  rw [forceL_eq]
theorem q_par2 (u v : Nat) (r s : SV) : opP F W (.par2 u v) [r, s] ρ = some (.nx (put (put ρ u (some r)) v (some s))) := by
  show nxF _ = _
  unfold nxF
  rw [forceL_eq]
theorem q_asgT (u v : Nat) (x y : PyData) : opP F W (.asgT (.pair (.name u) (.name v))) [.dat (.tuple [x, y])] ρ = some (.nx (put (put ρ u (some (.dat x))) v (some (.dat y)))) := by
  show (match (match forceL (put ρ u (some (SV.dat x))) fun r => some r with | none => none | some ρ1 => forceL (put ρ1 v (some (SV.dat y))) fun r => some r) with | some ρ1 => some (Out.nx ρ1) | none => none) = _
  rw [forceL_eq]
  show (match forceL _ _ with | some ρ1 => some (Out.nx ρ1) | none => none) = _
  rw [forceL_eq]
theorem q_ret (r : SV) : opP F W .ret [r] ρ = some (.rt r) := rfl
theorem q_expr (r : SV) : opP F W .expr [r] ρ = some (.nx ρ) := rfl
theorem q_brk : opP F W .brk [] ρ = some (.bk ρ) := rfl
theorem q_raise : opP F W .raise [] ρ = none := rfl
theorem q_onx (n bk : En → Option Out) : onO (some (.nx ρ)) n bk = n ρ := rfl
theorem q_ort (r : SV) (n bk : En → Option Out) : onO (some (.rt r)) n bk = some (.rt r) := rfl
theorem q_obk (n bk : En → Option Out) : onO (some (.bk ρ)) n bk = bk ρ := rfl
theorem q_ono (n bk : En → Option Out) : onO none n bk = none := rfl
theorem q_test (x y : Option Out) : testO (some (.dat (.bool k))) x y = ifB k x y := rfl
theorem q_testN (x y : Option Out) : testO none x y = none := rfl
theorem q_s0 (x : Option SV) (r : En) : slot (x :: r) 0 = x := by cases x <;> rfl
theorem q_s1 (x0 x : Option SV) (r : En) : slot (x0 :: x :: r) 1 = x := by cases x <;> rfl
theorem q_s2 (x0 x1 x : Option SV) (r : En) : slot (x0 :: x1 :: x :: r) 2 = x := by cases x <;> rfl
theorem q_s3 (x0 x1 x2 x : Option SV) (r : En) : slot (x0 :: x1 :: x2 :: x :: r) 3 = x := by cases x <;> rfl
theorem q_s4 (x0 x1 x2 x3 x : Option SV) (r : En) : slot (x0 :: x1 :: x2 :: x3 :: x :: r) 4 = x := by cases x <;> rfl
theorem q_s5 (x0 x1 x2 x3 x4 x : Option SV) (r : En) : slot (x0 :: x1 :: x2 :: x3 :: x4 :: x :: r) 5 = x := by cases x <;> rfl
theorem q_s6 (x0 x1 x2 x3 x4 x5 x : Option SV) (r : En) : slot (x0 :: x1 :: x2 :: x3 :: x4 :: x5 :: x :: r) 6 = x := by cases x <;> rfl
theorem q_s7 (x0 x1 x2 x3 x4 x5 x6 x : Option SV) (r : En) : slot (x0 :: x1 :: x2 :: x3 :: x4 :: x5 :: x6 :: x :: r) 7 = x := by cases x <;> rfl
theorem q_s8 (x0 x1 x2 x3 x4 x5 x6 x7 x : Option SV) (r : En) : slot (x0 :: x1 :: x2 :: x3 :: x4 :: x5 :: x6 :: x7 :: x :: r) 8 = x := by cases x <;> rfl
theorem q_s9 (x0 x1 x2 x3 x4 x5 x6 x7 x8 x : Option SV) (r : En) : slot (x0 :: x1 :: x2 :: x3 :: x4 :: x5 :: x6 :: x7 :: x8 :: x :: r) 9 = x := by cases x <;> rfl
theorem q_s10 (x0 x1 x2 x3 x4 x5 x6 x7 x8 x9 x : Option SV) (r : En) : slot (x0 :: x1 :: x2 :: x3 :: x4 :: x5 :: x6 :: x7 :: x8 :: x9 :: x :: r) 10 = x := by cases x <;> rfl
theorem q_s11 (x0 x1 x2 x3 x4 x5 x6 x7 x8 x9 x10 x : Option SV) (r : En) : slot (x0 :: x1 :: x2 :: x3 :: x4 :: x5 :: x6 :: x7 :: x8 :: x9 :: x10 :: x :: r) 11 = x := by cases x <;> rfl
theorem q_p0 (x y : Option SV) (r : En) : put (x :: r) 0 y = y :: r := rfl
theorem q_p1 (x0 x y : Option SV) (r : En) : put (x0 :: x :: r) 1 y = x0 :: y :: r := rfl
theorem q_p2 (x0 x1 x y : Option SV) (r : En) : put (x0 :: x1 :: x :: r) 2 y = x0 :: x1 :: y :: r := rfl
theorem q_p3 (x0 x1 x2 x y : Option SV) (r : En) : put (x0 :: x1 :: x2 :: x :: r) 3 y = x0 :: x1 :: x2 :: y :: r := rfl
theorem q_p4 (x0 x1 x2 x3 x y : Option SV) (r : En) : put (x0 :: x1 :: x2 :: x3 :: x :: r) 4 y = x0 :: x1 :: x2 :: x3 :: y :: r := rfl
theorem q_p5 (x0 x1 x2 x3 x4 x y : Option SV) (r : En) : put (x0 :: x1 :: x2 :: x3 :: x4 :: x :: r) 5 y = x0 :: x1 :: x2 :: x3 :: x4 :: y :: r := rfl
theorem q_p6 (x0 x1 x2 x3 x4 x5 x y : Option SV) (r : En) : put (x0 :: x1 :: x2 :: x3 :: x4 :: x5 :: x :: r) 6 y = x0 :: x1 :: x2 :: x3 :: x4 :: x5 :: y :: r := rfl
theorem q_p7 (x0 x1 x2 x3 x4 x5 x6 x y : Option SV) (r : En) : put (x0 :: x1 :: x2 :: x3 :: x4 :: x5 :: x6 :: x :: r) 7 y = x0 :: x1 :: x2 :: x3 :: x4 :: x5 :: x6 :: y :: r := rfl
theorem q_p8 (x0 x1 x2 x3 x4 x5 x6 x7 x y : Option SV) (r : En) : put (x0 :: x1 :: x2 :: x3 :: x4 :: x5 :: x6 :: x7 :: x :: r) 8 y = x0 :: x1 :: x2 :: x3 :: x4 :: x5 :: x6 :: x7 :: y :: r := rfl
theorem q_p9 (x0 x1 x2 x3 x4 x5 x6 x7 x8 x y : Option SV) (r : En) : put (x0 :: x1 :: x2 :: x3 :: x4 :: x5 :: x6 :: x7 :: x8 :: x :: r) 9 y = x0 :: x1 :: x2 :: x3 :: x4 :: x5 :: x6 :: x7 :: x8 :: y :: r := rfl
theorem q_p10 (x0 x1 x2 x3 x4 x5 x6 x7 x8 x9 x y : Option SV) (r : En) : put (x0 :: x1 :: x2 :: x3 :: x4 :: x5 :: x6 :: x7 :: x8 :: x9 :: x :: r) 10 y = x0 :: x1 :: x2 :: x3 :: x4 :: x5 :: x6 :: x7 :: x8 :: x9 :: y :: r := rfl
theorem q_p11 (x0 x1 x2 x3 x4 x5 x6 x7 x8 x9 x10 x y : Option SV) (r : En) : put (x0 :: x1 :: x2 :: x3 :: x4 :: x5 :: x6 :: x7 :: x8 :: x9 :: x10 :: x :: r) 11 y = x0 :: x1 :: x2 :: x3 :: x4 :: x5 :: x6 :: x7 :: x8 :: x9 :: x10 :: y :: r := rfl
theorem q_at0 {α : Type} (x : α) (r : List α) : atI (x :: r) 0 = some x := rfl
theorem q_at1 {α : Type} (x y : α) (r : List α) : atI (x :: y :: r) 1 = some y := rfl
end
/-! ### guards float out -/
theorem g_onD (k : Bool) (x : Option SV) (f : PyData → Option SV) : onD (ifB k x none) f = ifB k (onD x f) none := by cases k <;> rfl
theorem g_onI (k : Bool) (x : Option SV) (f : Int → Option SV) : onI (ifB k x none) f = ifB k (onI x f) none := by cases k <;> rfl
theorem g_onB (k : Bool) (x : Option SV) (f : Bool → Option SV) : onB (ifB k x none) f = ifB k (onB x f) none := by cases k <;> rfl
theorem g_onS (k : Bool) (x : Option SV) (f : List PyData → Option SV) : onS (ifB k x none) f = ifB k (onS x f) none := by cases k <;> rfl
theorem g_onM (k : Bool) (x : Option SV) (f : List SV → Option SV) : onM (ifB k x none) f = ifB k (onM x f) none := by cases k <;> rfl
theorem g_onO (k : Bool) (x : Option Out) (n b : En → Option Out) : onO (ifB k x none) n b = ifB k (onO x n b) none := by cases k <;> rfl
theorem g_test (k : Bool) (x : Option SV) (a b : Option Out) : testO (ifB k x none) a b = ifB k (testO x a b) none := by cases k <;> rfl
theorem g_bnd {α β : Type} (k : Bool) (x : Option α) (f : α → Option β) : bnd (ifB k x none) f = ifB k (bnd x f) none := by cases k <;> rfl
theorem g_cons1 (k : Bool) (x r : Option SV) : opCons (ifB k x none) r = ifB k (opCons x r) none := by cases k <;> rfl
theorem g_cons2 (k : Bool) (x : SV) (r : Option SV) : opCons (some x) (ifB k r none) = ifB k (opCons (some x) r) none := by cases k <;> rfl
theorem g_out (k : Bool) (x : Option Out) : outR (ifB k x none) = ifB k (outR x) none := by cases k <;> rfl
/-! ### typed reckoning -/
noncomputable def tMul (i j : Int) (k : Int → Option SV) : Option SV := ifB (mulOk i j) (fI (Int.mul i j) k) none
noncomputable def prI (a b : Int) : SV := .dat (.tuple [.int a, .int b])
theorem lenOk2 {α : Type} (x y : α) : lenOk [x, y] = true := rfl
theorem lenOk1 {α : Type} (x : α) : lenOk [x] = true := rfl
theorem lenOk0 {α : Type} : lenOk ([] : List α) = true := rfl
noncomputable def divC {α : Type} (a j : Int) (k : Int → Option α) : Option α := Int.rec (motive := fun _ => Option α) (fun n => ifB (Nat.beq n 0) none (ifB (Nat.ble n bigN) (fI (Int.ediv a (.ofNat n)) k) none))
  (fun n => ifB (Nat.ble n 1000000000) (fI (Int.fdiv a (.negSucc n)) k) none) j
theorem divC_cases (a b : Int) : ((∀ (α : Type) (k : Int → Option α), divC a b k = none) ∧ aDiv a b = none) ∨ ∃ i, (∀ (α : Type) (k : Int → Option α), divC a b k = k i) ∧ aDiv a b = some (.dat (.int i)) := by
  cases b with
  | ofNat n =>
    show ((∀ (α : Type) (k : Int → Option α), ifB (Nat.beq n 0) none (ifB (Nat.ble n bigN) (fI _ k) none) = none) ∧ ifB (Nat.beq n 0) none (ifB (Nat.ble n bigN) (dInt _) none) = none) ∨ ∃ i, (∀ (α : Type) (k : Int → Option α), ifB (Nat.beq n 0) none (ifB (Nat.ble n bigN) (fI _ k) none) = k i) ∧ ifB (Nat.beq n 0) none (ifB (Nat.ble n bigN) (dInt _) none) = _
    cases Nat.beq n 0 <;> cases Nat.ble n bigN <;> simp [dInt_eq]
  | negSucc n =>
    show ((∀ (α : Type) (k : Int → Option α), ifB (Nat.ble n 1000000000) (fI _ k) none = none) ∧ ifB (Nat.ble n 1000000000) (dInt _) none = none) ∨ ∃ i, (∀ (α : Type) (k : Int → Option α), ifB (Nat.ble n 1000000000) (fI _ k) none = k i) ∧ ifB (Nat.ble n 1000000000) (dInt _) none = _
    cases Nat.ble n 1000000000 <;> simp [dInt_eq]
/-- a number, with what follows -/
noncomputable def numC {α : Type} (a b : Int) (k : Int → Int → Option α) : Option α := fI (.ofNat (Nat.gcd (absN a) (absN b))) fun g0 => fI (ifB (ltI b 0) (Int.neg g0) g0) fun g => divC a g fun u => divC b g fun v => k u v
noncomputable def mkP (a b : Int) : Option SV := some (prI a b)
theorem numC_cases (a b : Int) : (∀ (α : Type) (k : Int → Int → Option α), numC a b k = none) ∨ ∃ u v, ∀ (α : Type) (k : Int → Int → Option α), numC a b k = k u v := by
  unfold numC
  simp only [fI_eq]
  rcases divC_cases a (ifB (ltI b 0) (Int.neg (Int.ofNat ((absN a).gcd (absN b)))) (Int.ofNat ((absN a).gcd (absN b)))) with ⟨e, _⟩ | ⟨u, e, _⟩
  · exact .inl fun α k => e _ _
  · rcases divC_cases b (ifB (ltI b 0) (Int.neg (Int.ofNat ((absN a).gcd (absN b)))) (Int.ofNat ((absN a).gcd (absN b)))) with ⟨e2, _⟩ | ⟨v, e2, _⟩
    · exact .inl fun α k => by rw [e]; exact e2 _ _
    · exact .inr ⟨u, v, fun α k => by rw [e, e2]⟩
theorem tw_num (F : FT) (W : Nat) (a b : Int) : runD F W c_number_of [.dat (.int a), .dat (.int b)] = numC a b mkP := by
  rw [runD_go (ρ := [some (.dat (.int a)), some (.dat (.int b)), none]) rfl rfl]
  unfold c_number_of numC
  generalize hg : (Int.ofNat ((absN a).gcd (absN b))) = g
  cases h : ltI b 0
  · simp only [evS_seq, evS_skip, evS_prim, evS_ifs, evS_retv, evS_whl, evS_fr, evS_frz, q_P, evC_cons, evC_nil, evC_v, evC_k, evC_un, evC_bi, evC_tr, q_s0, q_s1, q_s2, q_s3, q_s4, q_s5, q_s6, q_s7, q_s8, q_s9, q_s10, q_s11, q_p0, q_p1, q_p2, q_p3, q_p4, q_p5, q_p6, q_p7, q_p8, q_p9, q_p10, q_p11, q_read, q_readO, q_gcd, q_onD, q_onDo, q_onI, q_onB, q_onSl, q_onSt, q_onSo, q_onL, q_onLo, q_onT, q_onM, q_datD, q_datO, q_intD, dInt_eq, dBool_eq, q_cons, q_mo, bnd_some, bnd_none, q_asg, q_par2, q_asgT, q_ret, q_expr, q_brk, q_raise, q_onx, q_ort, q_obk, q_ono, q_cmp, q_ar, q_and, q_or, q_ix, q_eq, q_ne, q_max2, q_kint, q_kg, q_kbl, q_knon, q_kdT, q_lt, q_le, q_gt, q_ge, q_test, q_testN, ifB_t, ifB_f, q_neg, q_one, q_not, q_isN, q_notN, q_len, q_abs, q_seq, q_rev, q_listOf, q_tupOf, q_isInst, q_tup, q_lst, q_call, q_chain, q_ite, q_max3, q_add, q_sub, q_mul, q_div, q_mod, q_at0, q_at1, q_d0, q_d1, q_d2, q_d1o, q_d2o, q_a1, q_a2, q_a3, q_a5, lenOk2, lenOk1, lenOk0, fI_eq, forceL_eq, g_onD, g_onI, g_onB, g_onS, g_onM, g_onO, g_test, g_bnd, g_cons1, g_cons2, g_out, q_outr, q_eqi, q_dTup, q_lst1, hg, h]
    rcases divC_cases a g with ⟨e1, e⟩ | ⟨u, e1, e⟩ <;> rcases divC_cases b g with ⟨e3, e2⟩ | ⟨v, e3, e2⟩ <;> simp only [e, e1, e2, e3] <;> rfl
  · simp only [evS_seq, evS_skip, evS_prim, evS_ifs, evS_retv, evS_whl, evS_fr, evS_frz, q_P, evC_cons, evC_nil, evC_v, evC_k, evC_un, evC_bi, evC_tr, q_s0, q_s1, q_s2, q_s3, q_s4, q_s5, q_s6, q_s7, q_s8, q_s9, q_s10, q_s11, q_p0, q_p1, q_p2, q_p3, q_p4, q_p5, q_p6, q_p7, q_p8, q_p9, q_p10, q_p11, q_read, q_readO, q_gcd, q_onD, q_onDo, q_onI, q_onB, q_onSl, q_onSt, q_onSo, q_onL, q_onLo, q_onT, q_onM, q_datD, q_datO, q_intD, dInt_eq, dBool_eq, q_cons, q_mo, bnd_some, bnd_none, q_asg, q_par2, q_asgT, q_ret, q_expr, q_brk, q_raise, q_onx, q_ort, q_obk, q_ono, q_cmp, q_ar, q_and, q_or, q_ix, q_eq, q_ne, q_max2, q_kint, q_kg, q_kbl, q_knon, q_kdT, q_lt, q_le, q_gt, q_ge, q_test, q_testN, ifB_t, ifB_f, q_neg, q_one, q_not, q_isN, q_notN, q_len, q_abs, q_seq, q_rev, q_listOf, q_tupOf, q_isInst, q_tup, q_lst, q_call, q_chain, q_ite, q_max3, q_add, q_sub, q_mul, q_div, q_mod, q_at0, q_at1, q_d0, q_d1, q_d2, q_d1o, q_d2o, q_a1, q_a2, q_a3, q_a5, lenOk2, lenOk1, lenOk0, fI_eq, forceL_eq, g_onD, g_onI, g_onB, g_onS, g_onM, g_onO, g_test, g_bnd, g_cons1, g_cons2, g_out, q_outr, q_eqi, q_dTup, q_lst1, hg, h]
    rcases divC_cases a (Int.neg g) with ⟨e1, e⟩ | ⟨u, e1, e⟩ <;> rcases divC_cases b (Int.neg g) with ⟨e3, e2⟩ | ⟨v, e3, e2⟩ <;> simp only [e, e1, e2, e3] <;> rfl
/-- is_from, is_number -/
noncomputable def fromB (v l h : Int) : Bool := ifB (leI l v) (leI v h) false
def bigP : Int := 1000000000000000000000000000000000000000000000000000000000000
def bigM : Int := -1000000000000000000000000000000000000000000000000000000000000
theorem q_ty1 (v : Int) : isTy .int (.int v) = some (.dat (.bool true)) := rfl
theorem q_ty2 (v : Int) : isTy .bool (.int v) = some (.dat (.bool false)) := rfl
theorem q_ty3 (xs : List PyData) : isTy .tuple (.tuple xs) = some (.dat (.bool true)) := rfl
theorem q_nt : (!true) = false := rfl
theorem q_nf : (!false) = true := rfl
theorem tw_from (F : FT) (W : Nat) (v l h : Int) : runD F W c_is_from [.dat (.int v), .dat (.int l), .dat (.int h)] = some (.dat (.bool (fromB v l h))) := by
  rw [runD_go (ρ := [some (.dat (.int v)), some (.dat (.int l)), some (.dat (.int h))]) rfl rfl]
  unfold c_is_from fromB
  cases e : leI l v <;> simp only [evS_seq, evS_skip, evS_prim, evS_ifs, evS_retv, evS_whl, evS_fr, evS_frz, q_P, evC_cons, evC_nil, evC_v, evC_k, evC_un, evC_bi, evC_tr, q_s0, q_s1, q_s2, q_s3, q_s4, q_s5, q_s6, q_s7, q_s8, q_s9, q_s10, q_s11, q_p0, q_p1, q_p2, q_p3, q_p4, q_p5, q_p6, q_p7, q_p8, q_p9, q_p10, q_p11, q_read, q_readO, q_gcd, q_onD, q_onDo, q_onI, q_onB, q_onSl, q_onSt, q_onSo, q_onL, q_onLo, q_onT, q_onM, q_datD, q_datO, q_intD, dInt_eq, dBool_eq, q_cons, q_mo, bnd_some, bnd_none, q_asg, q_par2, q_asgT, q_ret, q_expr, q_brk, q_raise, q_onx, q_ort, q_obk, q_ono, q_cmp, q_ar, q_and, q_or, q_ix, q_eq, q_ne, q_max2, q_kint, q_kg, q_kbl, q_knon, q_kdT, q_lt, q_le, q_gt, q_ge, q_test, q_testN, ifB_t, ifB_f, q_neg, q_one, q_not, q_isN, q_notN, q_len, q_abs, q_seq, q_rev, q_listOf, q_tupOf, q_isInst, q_tup, q_lst, q_call, q_chain, q_ite, q_max3, q_add, q_sub, q_mul, q_div, q_mod, q_at0, q_at1, q_d0, q_d1, q_d2, q_d1o, q_d2o, q_a1, q_a2, q_a3, q_a5, lenOk2, lenOk1, lenOk0, fI_eq, forceL_eq, g_onD, g_onI, g_onB, g_onS, g_onM, g_onO, g_test, g_bnd, g_cons1, g_cons2, g_out, q_outr, q_eqi, q_dTup, q_lst1, q_ty1, q_ty2, q_nt, q_nf, e]
noncomputable def numB (a b : Int) : Bool := ifB (fromB a bigM bigP) (ifB (fromB b 1 bigP) (eqI (.ofNat (Nat.gcd (absN a) (absN b))) 1) false) false
theorem q_len2 (x y : PyData) : eqI (Int.ofNat (lng [x, y])) 2 = true := rfl
theorem tw_isnum (F : FT) (W : Nat) (hF : ∀ v l h, F 0 [.dat (.int v), .dat (.int l), .dat (.int h)] = some (.dat (.bool (fromB v l h)))) (a b : Int) : runD F W c_is_number [.dat (.tuple [.int a, .int b])] = dBool (numB a b) := by
  rw [runD_go (ρ := [some (.dat (.tuple [.int a, .int b]))]) rfl rfl]
  unfold c_is_number numB
  have e0 : Int.neg bigP = bigM := rfl
  have e1 : (1000000000000000000000000000000000000000000000000000000000000 : Int) = bigP := rfl
  cases h : fromB a bigM bigP <;> cases h2 : fromB b 1 bigP <;> simp only [evS_seq, evS_skip, evS_prim, evS_ifs, evS_retv, evS_whl, evS_fr, evS_frz, q_P, evC_cons, evC_nil, evC_v, evC_k, evC_un, evC_bi, evC_tr, q_s0, q_s1, q_s2, q_s3, q_s4, q_s5, q_s6, q_s7, q_s8, q_s9, q_s10, q_s11, q_p0, q_p1, q_p2, q_p3, q_p4, q_p5, q_p6, q_p7, q_p8, q_p9, q_p10, q_p11, q_read, q_readO, q_gcd, q_onD, q_onDo, q_onI, q_onB, q_onSl, q_onSt, q_onSo, q_onL, q_onLo, q_onT, q_onM, q_datD, q_datO, q_intD, dInt_eq, dBool_eq, q_cons, q_mo, bnd_some, bnd_none, q_asg, q_par2, q_asgT, q_ret, q_expr, q_brk, q_raise, q_onx, q_ort, q_obk, q_ono, q_cmp, q_ar, q_and, q_or, q_ix, q_eq, q_ne, q_max2, q_kint, q_kg, q_kbl, q_knon, q_kdT, q_lt, q_le, q_gt, q_ge, q_test, q_testN, ifB_t, ifB_f, q_neg, q_one, q_not, q_isN, q_notN, q_len, q_abs, q_seq, q_rev, q_listOf, q_tupOf, q_isInst, q_tup, q_lst, q_call, q_chain, q_ite, q_max3, q_add, q_sub, q_mul, q_div, q_mod, q_at0, q_at1, q_d0, q_d1, q_d2, q_d1o, q_d2o, q_a1, q_a2, q_a3, q_a5, lenOk2, lenOk1, lenOk0, fI_eq, forceL_eq, g_onD, g_onI, g_onB, g_onS, g_onM, g_onO, g_test, g_bnd, g_cons1, g_cons2, g_out, q_outr, q_eqi, q_dTup, q_lst1, q_ty1, q_ty2, q_ty3, q_nt, q_nf, q_len2, hF, e0, e1, h, h2]
/-- is_below -/
noncomputable def lessC (a b c d : Int) : Option SV := ifB (mulOk a d) (ifB (mulOk c b) (dBool (ltI (Int.mul a d) (Int.mul c b))) none) none
theorem tw_below (F : FT) (W : Nat) (a b c d : Int) : runD F W c_is_below [.dat (.tuple [.int a, .int b]), .dat (.tuple [.int c, .int d])] = lessC a b c d := by
  rw [runD_go (ρ := [some (.dat (.tuple [.int a, .int b])), some (.dat (.tuple [.int c, .int d]))]) rfl rfl]
  unfold c_is_below lessC
  simp only [evS_seq, evS_skip, evS_prim, evS_ifs, evS_retv, evS_whl, evS_fr, evS_frz, q_P, evC_cons, evC_nil, evC_v, evC_k, evC_un, evC_bi, evC_tr, q_s0, q_s1, q_s2, q_s3, q_s4, q_s5, q_s6, q_s7, q_s8, q_s9, q_s10, q_s11, q_p0, q_p1, q_p2, q_p3, q_p4, q_p5, q_p6, q_p7, q_p8, q_p9, q_p10, q_p11, q_read, q_readO, q_gcd, q_onD, q_onDo, q_onI, q_onB, q_onSl, q_onSt, q_onSo, q_onL, q_onLo, q_onT, q_onM, q_datD, q_datO, q_intD, dInt_eq, dBool_eq, q_cons, q_mo, bnd_some, bnd_none, q_asg, q_par2, q_asgT, q_ret, q_expr, q_brk, q_raise, q_onx, q_ort, q_obk, q_ono, q_cmp, q_ar, q_and, q_or, q_ix, q_eq, q_ne, q_max2, q_kint, q_kg, q_kbl, q_knon, q_kdT, q_lt, q_le, q_gt, q_ge, q_test, q_testN, ifB_t, ifB_f, q_neg, q_one, q_not, q_isN, q_notN, q_len, q_abs, q_seq, q_rev, q_listOf, q_tupOf, q_isInst, q_tup, q_lst, q_call, q_chain, q_ite, q_max3, q_add, q_sub, q_mul, q_div, q_mod, q_at0, q_at1, q_d0, q_d1, q_d2, q_d1o, q_d2o, q_a1, q_a2, q_a3, q_a5, lenOk2, lenOk1, lenOk0, fI_eq, forceL_eq, g_onD, g_onI, g_onB, g_onS, g_onM, g_onO, g_test, g_bnd, g_cons1, g_cons2, g_out, q_outr, q_eqi, q_dTup, q_lst1]
theorem tw_less (F : FT) (W : Nat) (a b c d : Int) : runD F W c__law_less [.dat (.tuple [.int a, .int b]), .dat (.tuple [.int c, .int d])] = lessC a b c d := by
  rw [runD_go (ρ := [some (.dat (.tuple [.int a, .int b])), some (.dat (.tuple [.int c, .int d]))]) rfl rfl]
  unfold c__law_less lessC
  simp only [evS_seq, evS_skip, evS_prim, evS_ifs, evS_retv, evS_whl, evS_fr, evS_frz, q_P, evC_cons, evC_nil, evC_v, evC_k, evC_un, evC_bi, evC_tr, q_s0, q_s1, q_s2, q_s3, q_s4, q_s5, q_s6, q_s7, q_s8, q_s9, q_s10, q_s11, q_p0, q_p1, q_p2, q_p3, q_p4, q_p5, q_p6, q_p7, q_p8, q_p9, q_p10, q_p11, q_read, q_readO, q_gcd, q_onD, q_onDo, q_onI, q_onB, q_onSl, q_onSt, q_onSo, q_onL, q_onLo, q_onT, q_onM, q_datD, q_datO, q_intD, dInt_eq, dBool_eq, q_cons, q_mo, bnd_some, bnd_none, q_asg, q_par2, q_asgT, q_ret, q_expr, q_brk, q_raise, q_onx, q_ort, q_obk, q_ono, q_cmp, q_ar, q_and, q_or, q_ix, q_eq, q_ne, q_max2, q_kint, q_kg, q_kbl, q_knon, q_kdT, q_lt, q_le, q_gt, q_ge, q_test, q_testN, ifB_t, ifB_f, q_neg, q_one, q_not, q_isN, q_notN, q_len, q_abs, q_seq, q_rev, q_listOf, q_tupOf, q_isInst, q_tup, q_lst, q_call, q_chain, q_ite, q_max3, q_add, q_sub, q_mul, q_div, q_mod, q_at0, q_at1, q_d0, q_d1, q_d2, q_d1o, q_d2o, q_a1, q_a2, q_a3, q_a5, lenOk2, lenOk1, lenOk0, fI_eq, forceL_eq, g_onD, g_onI, g_onB, g_onS, g_onM, g_onO, g_test, g_bnd, g_cons1, g_cons2, g_out, q_outr, q_eqi, q_dTup, q_lst1]
/-- is_within -/
noncomputable def modC {α : Type} (a j : Int) (k : Int → Option α) : Option α := Int.rec (motive := fun _ => Option α) (fun n => ifB (Nat.beq n 0) none (fI (Int.emod a (.ofNat n)) k)) (fun n => fI (Int.fmod a (.negSucc n)) k) j
theorem modC_cases (a b : Int) : ((∀ (α : Type) (k : Int → Option α), modC a b k = none) ∧ aMod a b = none) ∨ ∃ i, (∀ (α : Type) (k : Int → Option α), modC a b k = k i) ∧ aMod a b = some (.dat (.int i)) := by
  cases b with
  | ofNat n =>
    show ((∀ (α : Type) (k : Int → Option α), ifB (Nat.beq n 0) none (fI _ k) = none) ∧ ifB (Nat.beq n 0) none (dInt _) = none) ∨ ∃ i, (∀ (α : Type) (k : Int → Option α), ifB (Nat.beq n 0) none (fI _ k) = k i) ∧ ifB (Nat.beq n 0) none (dInt _) = _
    cases Nat.beq n 0 <;> simp [dInt_eq]
  | negSucc n => exact .inr ⟨_, fun α k => fI_eq _ k, dInt_eq _⟩
noncomputable def wiC {α : Type} (B D x y : Int) (k : Bool → Option α) : Option α := ifB (mulOk B y) (ifB (leI (.ofNat (absN x)) (Int.mul B y)) (modC D y fun m => k (eqI m 0)) (k false)) none
theorem wiC_cases (B D x y : Int) : (∀ (α : Type) (k : Bool → Option α), wiC B D x y k = none) ∨ ∃ b, ∀ (α : Type) (k : Bool → Option α), wiC B D x y k = k b := by
  unfold wiC
  cases mulOk B y
  · exact .inl fun _ _ => rfl
  · cases leI (.ofNat (absN x)) (Int.mul B y)
    · exact .inr ⟨_, fun _ _ => rfl⟩
    · rcases modC_cases D y with ⟨e, _⟩ | ⟨i, e, _⟩
      · exact .inl fun _ _ => e _ _
      · exact .inr ⟨_, fun _ _ => e _ _⟩
theorem tw_within (F : FT) (W : Nat) (B D x y : Int) : runD F W c_is_within [.dat (.tuple [.int B, .int D]), .dat (.tuple [.int x, .int y])] = wiC B D x y dBool := by
  rw [runD_go (ρ := [some (.dat (.tuple [.int B, .int D])), some (.dat (.tuple [.int x, .int y]))]) rfl rfl]
  unfold c_is_within wiC
  cases h : leI (.ofNat (absN x)) (Int.mul B y) <;> rcases modC_cases D y with ⟨e1, e⟩ | ⟨u, e1, e⟩ <;> simp only [evS_seq, evS_skip, evS_prim, evS_ifs, evS_retv, evS_whl, evS_fr, evS_frz, q_P, evC_cons, evC_nil, evC_v, evC_k, evC_un, evC_bi, evC_tr, q_s0, q_s1, q_s2, q_s3, q_s4, q_s5, q_s6, q_s7, q_s8, q_s9, q_s10, q_s11, q_p0, q_p1, q_p2, q_p3, q_p4, q_p5, q_p6, q_p7, q_p8, q_p9, q_p10, q_p11, q_read, q_readO, q_gcd, q_onD, q_onDo, q_onI, q_onB, q_onSl, q_onSt, q_onSo, q_onL, q_onLo, q_onT, q_onM, q_datD, q_datO, q_intD, dInt_eq, dBool_eq, q_cons, q_mo, bnd_some, bnd_none, q_asg, q_par2, q_asgT, q_ret, q_expr, q_brk, q_raise, q_onx, q_ort, q_obk, q_ono, q_cmp, q_ar, q_and, q_or, q_ix, q_eq, q_ne, q_max2, q_kint, q_kg, q_kbl, q_knon, q_kdT, q_lt, q_le, q_gt, q_ge, q_test, q_testN, ifB_t, ifB_f, q_neg, q_one, q_not, q_isN, q_notN, q_len, q_abs, q_seq, q_rev, q_listOf, q_tupOf, q_isInst, q_tup, q_lst, q_call, q_chain, q_ite, q_max3, q_add, q_sub, q_mul, q_div, q_mod, q_at0, q_at1, q_d0, q_d1, q_d2, q_d1o, q_d2o, q_a1, q_a2, q_a3, q_a5, lenOk2, lenOk1, lenOk0, fI_eq, forceL_eq, g_onD, g_onI, g_onB, g_onS, g_onM, g_onO, g_test, g_bnd, g_cons1, g_cons2, g_out, q_outr, q_eqi, q_dTup, q_lst1, h, e, e1] <;> rfl
end SW.X
set_option Elab.async false
set_option linter.all false
set_option maxRecDepth 100000
set_option maxHeartbeats 1000000
/-! Tw2: value_of, walk_so, round_so, all_rounds. -/
namespace SW.X
open PySem
noncomputable def mulC {α : Type} (i j : Int) (k : Int → Option α) : Option α := ifB (mulOk i j) (fI (Int.mul i j) k) none
theorem mulC_cases (i j : Int) : ((∀ (α : Type) (k : Int → Option α), mulC i j k = none) ∧ mulOk i j = false) ∨ ((∀ (α : Type) (k : Int → Option α), mulC i j k = k (Int.mul i j)) ∧ mulOk i j = true) := by
  unfold mulC
  cases mulOk i j
  · exact .inl ⟨fun _ _ => rfl, rfl⟩
  · exact .inr ⟨fun _ k => fI_eq _ k, rfl⟩
/-- Horner's turns -/
noncomputable def vGo {α : Type} (x y : Int) (k : Int → Int → Option α) (xs : List Int) : Int → Int → Option α :=
  List.rec (motive := fun _ => Int → Int → Option α) k (fun i _ ih f s => mulC f x fun a => mulC i s fun b => mulC s y fun s1 => fI (Int.add a b) fun f1 => ih f1 s1) xs
noncomputable def valC {α : Type} (ns : List Int) (b x y : Int) (k : Int → Int → Option α) : Option α := vGo x y (fun f s => mulC f y fun u => mulC b s fun v => numC u v k) ns.reverse 0 1
theorem vGo_cases (x y : Int) : ∀ (xs : List Int) (f s : Int), (∀ (α : Type) (k : Int → Int → Option α), vGo x y k xs f s = none) ∨ ∃ u v, ∀ (α : Type) (k : Int → Int → Option α), vGo x y k xs f s = k u v
  | [], f, s => .inr ⟨f, s, fun _ _ => rfl⟩
  | i :: r, f, s => by
    have go : ∀ (α : Type) (k : Int → Int → Option α), vGo x y k (i :: r) f s = mulC f x fun a => mulC i s fun b => mulC s y fun s1 => fI (Int.add a b) fun f1 => vGo x y k r f1 s1 := fun _ _ => rfl
    rcases mulC_cases f x with ⟨e, _⟩ | ⟨e, _⟩
    · exact .inl fun α k => by rw [go, e]
    rcases mulC_cases i s with ⟨e2, _⟩ | ⟨e2, _⟩
    · exact .inl fun α k => by rw [go, e, e2]
    rcases mulC_cases s y with ⟨e3, _⟩ | ⟨e3, _⟩
    · exact .inl fun α k => by rw [go, e, e2, e3]
    rcases vGo_cases x y r (Int.add (Int.mul f x) (Int.mul i s)) (Int.mul s y) with h | ⟨u, v, h⟩
    · exact .inl fun α k => by rw [go, e, e2, e3, fI_eq, h]
    · exact .inr ⟨u, v, fun α k => by rw [go, e, e2, e3, fI_eq, h]⟩
theorem valC_cases (ns : List Int) (b x y : Int) : (∀ (α : Type) (k : Int → Int → Option α), valC ns b x y k = none) ∨ ∃ u v, ∀ (α : Type) (k : Int → Int → Option α), valC ns b x y k = k u v := by
  unfold valC
  rcases vGo_cases x y ns.reverse 0 1 with h | ⟨f, s, h⟩
  · exact .inl fun α k => h _ _
  rcases mulC_cases f y with ⟨e, _⟩ | ⟨e, _⟩
  · exact .inl fun α k => by rw [h, e]
  rcases mulC_cases b s with ⟨e2, _⟩ | ⟨e2, _⟩
  · exact .inl fun α k => by rw [h, e, e2]
  rcases numC_cases (Int.mul f y) (Int.mul b s) with e3 | ⟨u, v, e3⟩
  · exact .inl fun α k => by rw [h, e, e2, e3]
  · exact .inr ⟨u, v, fun α k => by rw [h, e, e2, e3]⟩
theorem q_bind (i : Nat) (x : PyData) (ρ : En) : bindT (.name i) x ρ = some (put ρ i (some (.dat x))) := by
  show forceL _ _ = _
  rw [forceL_eq]
noncomputable def frB (t : T) (b : En → Option Out) (x : PyData) (ρ : En) : Option Out := match bindT t x ρ with
  | none => none
  | some ρ1 => b ρ1
theorem q_fr (t : T) (b : En → Option Out) (xs : List PyData) (ρ : En) : evF t b (some (.dat (.list xs))) ρ = loopF (frB t b) xs ρ := rfl
theorem q_frB (i : Nat) (b : En → Option Out) (x : PyData) (ρ : En) : frB (.name i) b x ρ = b (put ρ i (some (.dat x))) := by
  unfold frB
  rw [q_bind]
theorem q_fnil (b : PyData → En → Option Out) (ρ : En) : loopF b [] ρ = some (.nx ρ) := rfl
theorem q_fcons (b : PyData → En → Option Out) (x : PyData) (xs : List PyData) (ρ : En) : loopF b (x :: xs) ρ = onO (b x ρ) (loopF b xs) fun ρ1 => some (.nx ρ1) := rfl

theorem noB_ints (n : Nat) : ∀ ns : List Int, (ns.map PyData.int).all (noB n) = true
  | [] => rfl
  | i :: r => by
    show (noB n (.int i) && (r.map PyData.int).all (noB n)) = true
    rw [noB_ints n r]
    cases n <;> rfl
theorem q_nenil (i : Int) (r : List Int) : eqD (.list ((i :: r).map PyData.int)) (.list []) = some false := by
  show eqS _ _ = _
  unfold eqS
  rw [show noB 6 (.list ((i :: r).map PyData.int)) = true from noB_ints 5 _, show noB 6 (.list []) = true from rfl]
  rfl
def vbody : S := (.seq (.prim (.asg 3) (.cons (.bi (.ar .add) (.bi (.ar .mul) (.v 3) (.bi .ix (.v 1) (.k (.int 0)))) (.bi (.ar .mul) (.v 2) (.v 4))) .nil))
      (.seq (.prim (.asg 4) (.cons (.bi (.ar .mul) (.v 4) (.bi .ix (.v 1) (.k (.int 1)))) .nil)) .skip))
theorem v_step (F : FT) (W : Nat) (x y i f s : Int) (p : Option SV) : evS F W vbody [p, some (.dat (.tuple [.int x, .int y])), some (.dat (.int i)), some (.dat (.int f)), some (.dat (.int s))] =
    ifB (mulOk f x) (ifB (mulOk i s) (ifB (mulOk s y) (some (.nx [p, some (.dat (.tuple [.int x, .int y])), some (.dat (.int i)), some (.dat (.int (Int.add (Int.mul f x) (Int.mul i s)))), some (.dat (.int (Int.mul s y)))])) none) none) none := by
  unfold vbody
  simp only [evS_seq, evS_skip, evS_prim, evS_ifs, evS_retv, evS_whl, evS_fr, evS_frz, q_P, evC_cons, evC_nil, evC_v, evC_k, evC_un, evC_bi, evC_tr, q_s0, q_s1, q_s2, q_s3, q_s4, q_s5, q_s6, q_s7, q_s8, q_s9, q_s10, q_s11, q_p0, q_p1, q_p2, q_p3, q_p4, q_p5, q_p6, q_p7, q_p8, q_p9, q_p10, q_p11, q_read, q_readO, q_gcd, q_onD, q_onDo, q_onI, q_onB, q_onSl, q_onSt, q_onSo, q_onL, q_onLo, q_onT, q_onM, q_datD, q_datO, q_intD, dInt_eq, dBool_eq, q_cons, q_mo, bnd_some, bnd_none, q_asg, q_par2, q_asgT, q_ret, q_expr, q_brk, q_raise, q_onx, q_ort, q_obk, q_ono, q_cmp, q_ar, q_and, q_or, q_ix, q_eq, q_ne, q_max2, q_kint, q_kg, q_kbl, q_knon, q_kdT, q_lt, q_le, q_gt, q_ge, q_test, q_testN, ifB_t, ifB_f, q_neg, q_one, q_not, q_isN, q_notN, q_len, q_abs, q_seq, q_rev, q_listOf, q_tupOf, q_isInst, q_tup, q_lst, q_call, q_chain, q_ite, q_max3, q_add, q_sub, q_mul, q_div, q_mod, q_at0, q_at1, q_d0, q_d1, q_d2, q_d1o, q_d2o, q_a1, q_a2, q_a3, q_a5, lenOk2, lenOk1, lenOk0, fI_eq, forceL_eq, g_onD, g_onI, g_onB, g_onS, g_onM, g_onO, g_test, g_bnd, g_cons1, g_cons2, g_out, q_outr, q_eqi, q_dTup, q_lst1]
theorem v_loop (F : FT) (W : Nat) (x y : Int) (p : Option SV) (n bk : En → Option Out) (kk : Int → Int → Option SV) (hk : ∀ o f s, outR (n [p, some (.dat (.tuple [.int x, .int y])), o, some (.dat (.int f)), some (.dat (.int s))]) = kk f s) :
    ∀ (xs : List Int) (o : Option SV) (f s : Int), outR (onO (loopF (frB (.name 2) (evS F W vbody)) (xs.map PyData.int) [p, some (.dat (.tuple [.int x, .int y])), o, some (.dat (.int f)), some (.dat (.int s))]) n bk) = vGo x y kk xs f s
  | [], o, f, s => hk o f s
  | i :: r, o, f, s => by
    have ih := v_loop F W x y p n bk kk hk r
    have go : vGo x y kk (i :: r) f s = mulC f x fun a => mulC i s fun b => mulC s y fun s1 => fI (Int.add a b) fun f1 => vGo x y kk r f1 s1 := rfl
    rw [go, List.map_cons, q_fcons]
    simp only [q_frB, q_p2, v_step, g_onO, q_onx, g_out, ih, mulC, fI_eq]
theorem tw_val (F : FT) (W : Nat) (hF : ∀ a b, F 6 [.dat (.int a), .dat (.int b)] = numC a b mkP) (i : Int) (r : List Int) (b x y : Int) :
    runD F W c_value_of [.dat (.tuple [.list ((i :: r).map PyData.int), .int b]), .dat (.tuple [.int x, .int y])] = valC (i :: r) b x y mkP := by
  rw [runD_go (ρ := [some (.dat (.tuple [.list ((i :: r).map PyData.int), .int b])), some (.dat (.tuple [.int x, .int y])), none, none, none]) rfl rfl]
  unfold c_value_of valC
  simp only [evS_seq, evS_skip, evS_prim, evS_ifs, evS_retv, evS_whl, evS_fr, evS_frz, q_P, evC_cons, evC_nil, evC_v, evC_k, evC_un, evC_bi, evC_tr, q_s0, q_s1, q_s2, q_s3, q_s4, q_s5, q_s6, q_s7, q_s8, q_s9, q_s10, q_s11, q_p0, q_p1, q_p2, q_p3, q_p4, q_p5, q_p6, q_p7, q_p8, q_p9, q_p10, q_p11, q_read, q_readO, q_gcd, q_onD, q_onDo, q_onI, q_onB, q_onSl, q_onSt, q_onSo, q_onL, q_onLo, q_onT, q_onM, q_datD, q_datO, q_intD, dInt_eq, dBool_eq, q_cons, q_mo, bnd_some, bnd_none, q_asg, q_par2, q_asgT, q_ret, q_expr, q_brk, q_raise, q_onx, q_ort, q_obk, q_ono, q_cmp, q_ar, q_and, q_or, q_ix, q_eq, q_ne, q_max2, q_kint, q_kg, q_kbl, q_knon, q_kdT, q_lt, q_le, q_gt, q_ge, q_test, q_testN, ifB_t, ifB_f, q_neg, q_one, q_not, q_isN, q_notN, q_len, q_abs, q_seq, q_rev, q_listOf, q_tupOf, q_isInst, q_tup, q_lst, q_call, q_chain, q_ite, q_max3, q_add, q_sub, q_mul, q_div, q_mod, q_at0, q_at1, q_d0, q_d1, q_d2, q_d1o, q_d2o, q_a1, q_a2, q_a3, q_a5, lenOk2, lenOk1, lenOk0, fI_eq, forceL_eq, g_onD, g_onI, g_onB, g_onS, g_onM, g_onO, g_test, g_bnd, g_cons1, g_cons2, g_out, q_outr, q_eqi, q_dTup, q_lst1, q_fr, ← List.map_reverse]
  refine v_loop F W x y _ _ _ _ (fun o f s => ?_) (i :: r).reverse none 0 1
  simp only [evS_seq, evS_skip, evS_prim, evS_ifs, evS_retv, evS_whl, evS_fr, evS_frz, q_P, evC_cons, evC_nil, evC_v, evC_k, evC_un, evC_bi, evC_tr, q_s0, q_s1, q_s2, q_s3, q_s4, q_s5, q_s6, q_s7, q_s8, q_s9, q_s10, q_s11, q_p0, q_p1, q_p2, q_p3, q_p4, q_p5, q_p6, q_p7, q_p8, q_p9, q_p10, q_p11, q_read, q_readO, q_gcd, q_onD, q_onDo, q_onI, q_onB, q_onSl, q_onSt, q_onSo, q_onL, q_onLo, q_onT, q_onM, q_datD, q_datO, q_intD, dInt_eq, dBool_eq, q_cons, q_mo, bnd_some, bnd_none, q_asg, q_par2, q_asgT, q_ret, q_expr, q_brk, q_raise, q_onx, q_ort, q_obk, q_ono, q_cmp, q_ar, q_and, q_or, q_ix, q_eq, q_ne, q_max2, q_kint, q_kg, q_kbl, q_knon, q_kdT, q_lt, q_le, q_gt, q_ge, q_test, q_testN, ifB_t, ifB_f, q_neg, q_one, q_not, q_isN, q_notN, q_len, q_abs, q_seq, q_rev, q_listOf, q_tupOf, q_isInst, q_tup, q_lst, q_call, q_chain, q_ite, q_max3, q_add, q_sub, q_mul, q_div, q_mod, q_at0, q_at1, q_d0, q_d1, q_d2, q_d1o, q_d2o, q_a1, q_a2, q_a3, q_a5, lenOk2, lenOk1, lenOk0, fI_eq, forceL_eq, g_onD, g_onI, g_onB, g_onS, g_onM, g_onO, g_test, g_bnd, g_cons1, g_cons2, g_out, q_outr, q_eqi, q_dTup, q_lst1, q_nenil, q_nf, hF, mulC]
  cases mulOk f y <;> cases mulOk b s <;> simp only [evS_seq, evS_skip, evS_prim, evS_ifs, evS_retv, evS_whl, evS_fr, evS_frz, q_P, evC_cons, evC_nil, evC_v, evC_k, evC_un, evC_bi, evC_tr, q_s0, q_s1, q_s2, q_s3, q_s4, q_s5, q_s6, q_s7, q_s8, q_s9, q_s10, q_s11, q_p0, q_p1, q_p2, q_p3, q_p4, q_p5, q_p6, q_p7, q_p8, q_p9, q_p10, q_p11, q_read, q_readO, q_gcd, q_onD, q_onDo, q_onI, q_onB, q_onSl, q_onSt, q_onSo, q_onL, q_onLo, q_onT, q_onM, q_datD, q_datO, q_intD, dInt_eq, dBool_eq, q_cons, q_mo, bnd_some, bnd_none, q_asg, q_par2, q_asgT, q_ret, q_expr, q_brk, q_raise, q_onx, q_ort, q_obk, q_ono, q_cmp, q_ar, q_and, q_or, q_ix, q_eq, q_ne, q_max2, q_kint, q_kg, q_kbl, q_knon, q_kdT, q_lt, q_le, q_gt, q_ge, q_test, q_testN, ifB_t, ifB_f, q_neg, q_one, q_not, q_isN, q_notN, q_len, q_abs, q_seq, q_rev, q_listOf, q_tupOf, q_isInst, q_tup, q_lst, q_call, q_chain, q_ite, q_max3, q_add, q_sub, q_mul, q_div, q_mod, q_at0, q_at1, q_d0, q_d1, q_d2, q_d1o, q_d2o, q_a1, q_a2, q_a3, q_a5, lenOk2, lenOk1, lenOk0, fI_eq, forceL_eq, g_onD, g_onI, g_onB, g_onS, g_onM, g_onO, g_test, g_bnd, g_cons1, g_cons2, g_out, q_outr, q_eqi, q_dTup, q_lst1]
  rcases numC_cases (Int.mul f y) (Int.mul b s) with e | ⟨u, v, e⟩ <;> simp only [e, mkP] <;> rfl
end SW.X
set_option Elab.async false
set_option linter.all false
set_option maxRecDepth 100000
set_option maxHeartbeats 1000000
/-! Tw3: walk_so, round_so. -/
namespace SW.X
open PySem
abbrev PI := Int × Int
def prd (p : PI) : PyData := .tuple [.int p.1, .int p.2]
def kvp (p : PI) : List Int × PyData := ([p.1, p.2], .bool true)
noncomputable def memP (x y : Int) (l : List PI) : Bool := List.rec (motive := fun _ => Bool) false (fun p _ ih => ifB (eqI p.1 x) (ifB (eqI p.2 y) true ih) ih) l
theorem ifB_both (a b c : Bool) : ifB a (ifB b true c) c = ((a && b) || c) := by cases a <;> cases b <;> cases c <;> rfl
theorem memP_any (x y : Int) : ∀ l : List PI, memP x y l = l.any fun p => eqI p.1 x && eqI p.2 y
  | [] => rfl
  | p :: r => by
    show ifB (eqI p.1 x) (ifB (eqI p.2 y) true (memP x y r)) (memP x y r) = _
    rw [ifB_both, memP_any x y r]
    rfl
theorem memP_rev (x y : Int) (l : List PI) : memP x y l.reverse = memP x y l := by
  rw [memP_any, memP_any, List.any_reverse]
theorem key_pr (a b c d : Int) : keyEq [a, b] [c, d] = (eqI a c && eqI b d) := by
  show (match eqI a c with | true => (match eqI b d with | true => true | false => false) | false => false) = _
  cases eqI a c <;> cases eqI b d <;> rfl
theorem getK_mem (x y : Int) : ∀ l : List PI, (getK keyEq [x, y] (l.map kvp)).isSome = memP x y l
  | [] => rfl
  | p :: r => by
    show (match keyEq [p.1, p.2] [x, y] with | true => some (PyData.bool true) | false => getK keyEq [x, y] (r.map kvp)).isSome = ifB (eqI p.1 x) (ifB (eqI p.2 y) true (memP x y r)) (memP x y r)
    rw [ifB_both, key_pr, ← getK_mem x y r]
    cases eqI p.1 x && eqI p.2 y <;> rfl
theorem setK_new {x y : Int} {l : List PI} (h : memP x y l = false) : setK keyEq [x, y] (.bool true) (l.map kvp) = (l ++ [(x, y)]).map kvp := by
  unfold setK
  have := getK_mem x y l
  rw [h] at this
  cases e : getK keyEq [x, y] (l.map kvp) with
  | some v => rw [e] at this; cases this
  | none => rw [List.map_append]; rfl
theorem eqP_pr (a b c d : Int) : eqP 6 (.tuple [.int a, .int b]) (.tuple [.int c, .int d]) = (eqI a c && eqI b d) := by
  show (match eqI a c with | true => (match eqI b d with | true => true | false => false) | false => false) = _
  cases eqI a c <;> cases eqI b d <;> rfl
theorem inS_mem (x y : Int) : ∀ l : List PI, inS (.tuple [.int x, .int y]) (l.map prd) = memP x y l
  | [] => rfl
  | p :: r => by
    show (eqP 6 (.tuple [.int p.1, .int p.2]) (.tuple [.int x, .int y]) || inS _ (r.map prd)) = ifB (eqI p.1 x) (ifB (eqI p.2 y) true (memP x y r)) (memP x y r)
    rw [ifB_both, eqP_pr, inS_mem x y r]
noncomputable def findP (x y : Int) (l : List PI) : Nat → Option Nat := List.rec (motive := fun _ => Nat → Option Nat) (fun _ => none) (fun p _ ih n => ifB (ifB (eqI p.1 x) (eqI p.2 y) false) (some n) (ih (Nat.succ n))) l
theorem findI_P (x y : Int) : ∀ (l : List PI) (n : Nat), findI (.tuple [.int x, .int y]) (l.map prd) n = findP x y l n
  | [], _ => rfl
  | p :: r, n => by
    show (match eqP 6 (.tuple [.int p.1, .int p.2]) (.tuple [.int x, .int y]) with | true => some n | false => findI _ (r.map prd) (Nat.succ n)) = ifB (ifB (eqI p.1 x) (eqI p.2 y) false) (some n) (findP x y r (Nat.succ n))
    rw [eqP_pr, findI_P x y r]
    cases eqI p.1 x <;> cases eqI p.2 y <;> rfl
theorem findP_none {x y : Int} : ∀ {l : List PI} {n : Nat}, memP x y l = false → findP x y l n = none
  | [], _, _ => rfl
  | p :: r, n, h => by
    have h : ifB (eqI p.1 x) (ifB (eqI p.2 y) true (memP x y r)) (memP x y r) = false := h
    show ifB (ifB (eqI p.1 x) (eqI p.2 y) false) (some n) (findP x y r (Nat.succ n)) = none
    rw [ifB_both] at h
    cases e1 : eqI p.1 x <;> cases e2 : eqI p.2 y <;> rw [e1, e2] at h <;> first | exact findP_none h | cases h
theorem findP_some {x y : Int} : ∀ {l : List PI} {n : Nat}, memP x y l = true → ∃ m, findP x y l n = some m
  | [], _, h => nomatch h
  | p :: r, n, h => by
    have h : ifB (eqI p.1 x) (ifB (eqI p.2 y) true (memP x y r)) (memP x y r) = true := h
    show ∃ m, ifB (ifB (eqI p.1 x) (eqI p.2 y) false) (some n) (findP x y r (Nat.succ n)) = some m
    rw [ifB_both] at h
    cases e1 : eqI p.1 x <;> cases e2 : eqI p.2 y <;> rw [e1, e2] at h <;> first | exact findP_some h | exact ⟨_, rfl⟩
theorem lng_map {α β : Type} (f : α → β) (l : List α) : lng (l.map f) = lng l := by rw [lng_eq, lng_eq, List.length_map]
theorem lng_rev {α : Type} (l : List α) : lng l.reverse = lng l := by rw [lng_eq, lng_eq, List.length_reverse]
theorem noB_prs (n : Nat) : ∀ l : List PI, (l.map prd).all (noB (n + 1)) = true
  | [] => rfl
  | p :: r => by
    show (noB (n + 1) (.tuple [.int p.1, .int p.2]) && (r.map prd).all (noB (n + 1))) = true
    rw [noB_prs n r]
    cases n <;> rfl
/-! ### the walk -/
noncomputable def gdW (acc : List PI) : Bool := forceN (lng acc) fun n => ifB (Nat.beq n 2000) false (Nat.ble n 100000)
noncomputable def wkGo {α : Type} (ns : List Int) (b B D : Int) (k : List PI → Int → Int → Option α) (n : Nat) : List PI → Int → Int → Option α :=
  Nat.rec (motive := fun _ => List PI → Int → Int → Option α) (fun _ _ _ => none) (fun _ ih acc x y => wiC B D x y fun w => ifB (ifB w (not (memP x y acc)) false) (ifB (gdW acc) (valC ns b x y fun u v => ih ((x, y) :: acc) u v) none) (k acc x y)) n
theorem wkGo_cases (ns : List Int) (b B D : Int) : ∀ (n : Nat) (acc : List PI) (x y : Int), (∀ (α : Type) (k : List PI → Int → Int → Option α), wkGo ns b B D k n acc x y = none) ∨ ∃ acc1 u v, ∀ (α : Type) (k : List PI → Int → Int → Option α), wkGo ns b B D k n acc x y = k acc1 u v
  | 0, _, _, _ => .inl fun _ _ => rfl
  | n + 1, acc, x, y => by
    have go : ∀ (α : Type) (k : List PI → Int → Int → Option α), wkGo ns b B D k (n + 1) acc x y = wiC B D x y fun w => ifB (ifB w (not (memP x y acc)) false) (ifB (gdW acc) (valC ns b x y fun u v => wkGo ns b B D k n ((x, y) :: acc) u v) none) (k acc x y) := fun _ _ => rfl
    rcases wiC_cases B D x y with h | ⟨w, h⟩
    · exact .inl fun α k => by rw [go, h]
    cases hw : ifB w (not (memP x y acc)) false
    · exact .inr ⟨acc, x, y, fun α k => by rw [go, h, hw]; rfl⟩
    cases hg : gdW acc
    · exact .inl fun α k => by rw [go, h, hw, hg]; rfl
    rcases valC_cases ns b x y with h2 | ⟨u, v, h2⟩
    · exact .inl fun α k => by rw [go, h, hw, hg, h2]; rfl
    rcases wkGo_cases ns b B D n ((x, y) :: acc) u v with h3 | ⟨a1, u1, v1, h3⟩
    · exact .inl fun α k => by rw [go, h, hw, hg, h2]; exact h3 _ _
    · exact .inr ⟨a1, u1, v1, fun α k => by rw [go, h, hw, hg, h2]; exact h3 _ _⟩
def wcond : C := .bi .and (.un (.call 27) (.cons (.v 1) (.cons (.v 3) .nil))) (.un .one (.un (.inD true 5) (.v 3)))
def wbody : S := (.seq (.ifs (.bi .eq (.un .len (.v 4)) (.k (.g "MOST_LOOKED_AT_starts" (2000)))) (.seq (.prim .raise .nil)
      .skip) .skip)
      (.seq (.prim (.append 4) (.cons (.v 3) .nil))
      (.seq (.prim (.setD 5) (.cons (.k (.bl true)) (.cons (.v 3) .nil)))
      (.seq (.prim (.asg 3) (.cons (.un (.call 17) (.cons (.v 0) (.cons (.v 3) .nil))) .nil))
      .skip))))
section
variable (F : FT) (W : Nat) (p bd st : PyData) (ns : List Int) (b B D : Int)
def wE (acc : List PI) (x y : Int) : En := [some (.dat p), some (.dat bd), some (.dat st), some (.dat (.tuple [.int x, .int y])), some (.own (acc.reverse.map prd)), some (.odit (acc.reverse.map kvp))]
theorem q_inD (n : Bool) (d : Nat) (a : Ev1) (pk : Bool) (ρ : En) : opU F (.inD n d) a pk ρ = onD (a false ρ) fun k => match slot ρ d with
  | none => none
  | some t => match hasK t k with
    | none => none
    | some b => dBool (xor n b) := rfl
theorem q_hasK (x y : Int) (l : List PI) : hasK (.odit (l.map kvp)) (.tuple [.int x, .int y]) = some (memP x y l) := by
  rw [← getK_mem]
  rfl
noncomputable def ownK (r : Option SV) (f : List PyData → Option Out) : Option Out := match r with
  | some r => match ownOf r with
    | some xs => f xs
    | none => none
  | none => none
theorem q_ownK (xs : List PyData) (f : List PyData → Option Out) : ownK (some (.own xs)) f = f xs := rfl
theorem q_app (i : Nat) (d : PyData) (ρ : En) : opP F W (.append i) [.dat d] ρ = ownK (slot ρ i) fun xs => ifB (lenOk xs) (some (.nx (put ρ i (some (.own (xs ++ [d])))))) none := by
  show onOwn ρ i _ = _
  unfold onOwn ownK
  cases slot ρ i with
  | none => rfl
  | some r =>
    show (match ownOf r with | some xs => _ | none => none) = (match ownOf r with | some xs => _ | none => none)
    cases ownOf r with
    | none => rfl
    | some xs =>
      show (match lenOk xs with | true => forceL (xs ++ [d]) fun ys => nxF (put ρ i (some (.own ys))) | false => none) = ifB (lenOk xs) _ none
      cases lenOk xs
      · rfl
      · show forceL (xs ++ [d]) (fun ys => nxF (put ρ i (some (.own ys)))) = _
        rw [forceL_eq]
        unfold nxF
        rw [forceL_eq]
        rfl
noncomputable def setDK (t : Option SV) (k d : PyData) (i : Nat) (ρ : En) : Option Out := match t with
  | none => none
  | some t => match putV t k d with
    | none => none
    | some t1 => some (.nx (put ρ i (some t1)))
theorem q_setD (i : Nat) (d k : PyData) (ρ : En) : opP F W (.setD i) [.dat d, .dat k] ρ = setDK (slot ρ i) k d i ρ := by
  show (match slot ρ i with | none => none | some t => match putV t k d with | none => none | some t1 => nxF (put ρ i (some t1))) = _
  unfold setDK nxF
  cases slot ρ i with
  | none => rfl
  | some t =>
    show (match putV t k d with | none => none | some t1 => forceL _ _) = (match putV t k d with | none => none | some t1 => _)
    cases putV t k d with
    | none => rfl
    | some t1 => exact forceL_eq _ _
theorem q_setDp {x y : Int} {l : List PI} (h : memP x y l = false) (hl : lenOk l = true) (i : Nat) (ρ : En) : setDK (some (.odit (l.map kvp))) (.tuple [.int x, .int y]) (.bool true) i ρ = some (.nx (put ρ i (some (.odit ((l ++ [(x, y)]).map kvp))))) := by
  have hl : lenOk (l.map kvp) = true := by unfold lenOk at hl ⊢; rw [lng_map]; exact hl
  show (match (match lenOk (l.map kvp) with | true => some (SV.odit (setK keyEq [x, y] (.bool true) (l.map kvp))) | false => none) with | none => none | some t1 => some (Out.nx (put ρ i (some t1)))) = _
  rw [hl]
  show some (Out.nx (put ρ i (some (SV.odit (setK keyEq [x, y] (.bool true) (l.map kvp)))))) = _
  rw [setK_new h]
theorem eqI_nat (n m : Nat) : eqI (Int.ofNat n) (Int.ofNat m) = Nat.beq n m := rfl
theorem w_cond (hW : ∀ x y, F 27 [.dat bd, .dat (.tuple [.int x, .int y])] = wiC B D x y dBool) (acc : List PI) (x y : Int) : evC F wcond false (wE p bd st acc x y) = wiC B D x y fun w => dBool (ifB w (not (memP x y acc)) false) := by
  unfold wcond wE
  simp only [evS_seq, evS_skip, evS_prim, evS_ifs, evS_retv, evS_whl, evS_fr, evS_frz, q_P, evC_cons, evC_nil, evC_v, evC_k, evC_un, evC_bi, evC_tr, q_s0, q_s1, q_s2, q_s3, q_s4, q_s5, q_s6, q_s7, q_s8, q_s9, q_s10, q_s11, q_p0, q_p1, q_p2, q_p3, q_p4, q_p5, q_p6, q_p7, q_p8, q_p9, q_p10, q_p11, q_read, q_readO, q_gcd, q_onD, q_onDo, q_onI, q_onB, q_onSl, q_onSt, q_onSo, q_onL, q_onLo, q_onT, q_onM, q_datD, q_datO, q_intD, dInt_eq, dBool_eq, q_cons, q_mo, bnd_some, bnd_none, q_asg, q_par2, q_asgT, q_ret, q_expr, q_brk, q_raise, q_onx, q_ort, q_obk, q_ono, q_cmp, q_ar, q_and, q_or, q_ix, q_eq, q_ne, q_max2, q_kint, q_kg, q_kbl, q_knon, q_kdT, q_lt, q_le, q_gt, q_ge, q_test, q_testN, ifB_t, ifB_f, q_neg, q_one, q_not, q_isN, q_notN, q_len, q_abs, q_seq, q_rev, q_listOf, q_tupOf, q_isInst, q_tup, q_lst, q_call, q_chain, q_ite, q_max3, q_add, q_sub, q_mul, q_div, q_mod, q_at0, q_at1, q_d0, q_d1, q_d2, q_d1o, q_d2o, q_a1, q_a2, q_a3, q_a5, lenOk2, lenOk1, lenOk0, fI_eq, forceL_eq, g_onD, g_onI, g_onB, g_onS, g_onM, g_onO, g_test, g_bnd, g_cons1, g_cons2, g_out, q_outr, q_eqi, q_dTup, q_lst1, q_inD, q_hasK, hW, memP_rev]
  rcases wiC_cases B D x y with h | ⟨w, h⟩
  · rw [h, h]; rfl
  · rw [h, h]
    simp only [evS_seq, evS_skip, evS_prim, evS_ifs, evS_retv, evS_whl, evS_fr, evS_frz, q_P, evC_cons, evC_nil, evC_v, evC_k, evC_un, evC_bi, evC_tr, q_s0, q_s1, q_s2, q_s3, q_s4, q_s5, q_s6, q_s7, q_s8, q_s9, q_s10, q_s11, q_p0, q_p1, q_p2, q_p3, q_p4, q_p5, q_p6, q_p7, q_p8, q_p9, q_p10, q_p11, q_read, q_readO, q_gcd, q_onD, q_onDo, q_onI, q_onB, q_onSl, q_onSt, q_onSo, q_onL, q_onLo, q_onT, q_onM, q_datD, q_datO, q_intD, dInt_eq, dBool_eq, q_cons, q_mo, bnd_some, bnd_none, q_asg, q_par2, q_asgT, q_ret, q_expr, q_brk, q_raise, q_onx, q_ort, q_obk, q_ono, q_cmp, q_ar, q_and, q_or, q_ix, q_eq, q_ne, q_max2, q_kint, q_kg, q_kbl, q_knon, q_kdT, q_lt, q_le, q_gt, q_ge, q_test, q_testN, ifB_t, ifB_f, q_neg, q_one, q_not, q_isN, q_notN, q_len, q_abs, q_seq, q_rev, q_listOf, q_tupOf, q_isInst, q_tup, q_lst, q_call, q_chain, q_ite, q_max3, q_add, q_sub, q_mul, q_div, q_mod, q_at0, q_at1, q_d0, q_d1, q_d2, q_d1o, q_d2o, q_a1, q_a2, q_a3, q_a5, lenOk2, lenOk1, lenOk0, fI_eq, forceL_eq, g_onD, g_onI, g_onB, g_onS, g_onM, g_onO, g_test, g_bnd, g_cons1, g_cons2, g_out, q_outr, q_eqi, q_dTup, q_lst1]
    cases w
    · rfl
    · show some (SV.dat (.bool (xor true _))) = _
      cases memP x y acc <;> rfl
theorem w_step (hV : ∀ x y, F 17 [.dat p, .dat (.tuple [.int x, .int y])] = valC ns b x y mkP) (acc : List PI) (x y : Int) (h : memP x y acc = false) : evS F W wbody (wE p bd st acc x y) = ifB (gdW acc) (valC ns b x y fun u v => some (.nx (wE p bd st ((x, y) :: acc) u v))) none := by
  unfold wbody wE gdW
  rw [forceN_eq]
  have e2 : ((2000 : Int)) = Int.ofNat 2000 := rfl
  have hr : memP x y acc.reverse = false := by rw [memP_rev]; exact h
  have el : lenOk (acc.reverse.map prd) = Nat.ble (lng acc) 100000 := by unfold lenOk; rw [lng_map, lng_rev]
  have el2 : lenOk acc.reverse = Nat.ble (lng acc) 100000 := by unfold lenOk; rw [lng_rev]
  cases e : Nat.beq (lng acc) 2000
  · cases e3 : Nat.ble (lng acc) 100000
    · simp only [evS_seq, evS_skip, evS_prim, evS_ifs, evS_retv, evS_whl, evS_fr, evS_frz, q_P, evC_cons, evC_nil, evC_v, evC_k, evC_un, evC_bi, evC_tr, q_s0, q_s1, q_s2, q_s3, q_s4, q_s5, q_s6, q_s7, q_s8, q_s9, q_s10, q_s11, q_p0, q_p1, q_p2, q_p3, q_p4, q_p5, q_p6, q_p7, q_p8, q_p9, q_p10, q_p11, q_read, q_readO, q_gcd, q_onD, q_onDo, q_onI, q_onB, q_onSl, q_onSt, q_onSo, q_onL, q_onLo, q_onT, q_onM, q_datD, q_datO, q_intD, dInt_eq, dBool_eq, q_cons, q_mo, bnd_some, bnd_none, q_asg, q_par2, q_asgT, q_ret, q_expr, q_brk, q_raise, q_onx, q_ort, q_obk, q_ono, q_cmp, q_ar, q_and, q_or, q_ix, q_eq, q_ne, q_max2, q_kint, q_kg, q_kbl, q_knon, q_kdT, q_lt, q_le, q_gt, q_ge, q_test, q_testN, ifB_t, ifB_f, q_neg, q_one, q_not, q_isN, q_notN, q_len, q_abs, q_seq, q_rev, q_listOf, q_tupOf, q_isInst, q_tup, q_lst, q_call, q_chain, q_ite, q_max3, q_add, q_sub, q_mul, q_div, q_mod, q_at0, q_at1, q_d0, q_d1, q_d2, q_d1o, q_d2o, q_a1, q_a2, q_a3, q_a5, lenOk2, lenOk1, lenOk0, fI_eq, forceL_eq, g_onD, g_onI, g_onB, g_onS, g_onM, g_onO, g_test, g_bnd, g_cons1, g_cons2, g_out, q_outr, q_eqi, q_dTup, q_lst1, e2, eqI_nat, lng_map, lng_rev, e, e3, q_app, q_ownK, el]
    · rw [e3] at el el2
      simp only [evS_seq, evS_skip, evS_prim, evS_ifs, evS_retv, evS_whl, evS_fr, evS_frz, q_P, evC_cons, evC_nil, evC_v, evC_k, evC_un, evC_bi, evC_tr, q_s0, q_s1, q_s2, q_s3, q_s4, q_s5, q_s6, q_s7, q_s8, q_s9, q_s10, q_s11, q_p0, q_p1, q_p2, q_p3, q_p4, q_p5, q_p6, q_p7, q_p8, q_p9, q_p10, q_p11, q_read, q_readO, q_gcd, q_onD, q_onDo, q_onI, q_onB, q_onSl, q_onSt, q_onSo, q_onL, q_onLo, q_onT, q_onM, q_datD, q_datO, q_intD, dInt_eq, dBool_eq, q_cons, q_mo, bnd_some, bnd_none, q_asg, q_par2, q_asgT, q_ret, q_expr, q_brk, q_raise, q_onx, q_ort, q_obk, q_ono, q_cmp, q_ar, q_and, q_or, q_ix, q_eq, q_ne, q_max2, q_kint, q_kg, q_kbl, q_knon, q_kdT, q_lt, q_le, q_gt, q_ge, q_test, q_testN, ifB_t, ifB_f, q_neg, q_one, q_not, q_isN, q_notN, q_len, q_abs, q_seq, q_rev, q_listOf, q_tupOf, q_isInst, q_tup, q_lst, q_call, q_chain, q_ite, q_max3, q_add, q_sub, q_mul, q_div, q_mod, q_at0, q_at1, q_d0, q_d1, q_d2, q_d1o, q_d2o, q_a1, q_a2, q_a3, q_a5, lenOk2, lenOk1, lenOk0, fI_eq, forceL_eq, g_onD, g_onI, g_onB, g_onS, g_onM, g_onO, g_test, g_bnd, g_cons1, g_cons2, g_out, q_outr, q_eqi, q_dTup, q_lst1, e2, eqI_nat, lng_map, lng_rev, e, e3, q_app, q_ownK, el, q_setD, q_setDp hr el2, hV]
      rcases valC_cases ns b x y with h2 | ⟨u, v, h2⟩
      · rw [h2, h2]; rfl
      · rw [h2, h2]
        simp only [mkP, prI, evS_seq, evS_skip, evS_prim, evS_ifs, evS_retv, evS_whl, evS_fr, evS_frz, q_P, evC_cons, evC_nil, evC_v, evC_k, evC_un, evC_bi, evC_tr, q_s0, q_s1, q_s2, q_s3, q_s4, q_s5, q_s6, q_s7, q_s8, q_s9, q_s10, q_s11, q_p0, q_p1, q_p2, q_p3, q_p4, q_p5, q_p6, q_p7, q_p8, q_p9, q_p10, q_p11, q_read, q_readO, q_gcd, q_onD, q_onDo, q_onI, q_onB, q_onSl, q_onSt, q_onSo, q_onL, q_onLo, q_onT, q_onM, q_datD, q_datO, q_intD, dInt_eq, dBool_eq, q_cons, q_mo, bnd_some, bnd_none, q_asg, q_par2, q_asgT, q_ret, q_expr, q_brk, q_raise, q_onx, q_ort, q_obk, q_ono, q_cmp, q_ar, q_and, q_or, q_ix, q_eq, q_ne, q_max2, q_kint, q_kg, q_kbl, q_knon, q_kdT, q_lt, q_le, q_gt, q_ge, q_test, q_testN, ifB_t, ifB_f, q_neg, q_one, q_not, q_isN, q_notN, q_len, q_abs, q_seq, q_rev, q_listOf, q_tupOf, q_isInst, q_tup, q_lst, q_call, q_chain, q_ite, q_max3, q_add, q_sub, q_mul, q_div, q_mod, q_at0, q_at1, q_d0, q_d1, q_d2, q_d1o, q_d2o, q_a1, q_a2, q_a3, q_a5, lenOk2, lenOk1, lenOk0, fI_eq, forceL_eq, g_onD, g_onI, g_onB, g_onS, g_onM, g_onO, g_test, g_bnd, g_cons1, g_cons2, g_out, q_outr, q_eqi, q_dTup, q_lst1, List.reverse_cons, List.map_append]
        rfl
  · simp only [evS_seq, evS_skip, evS_prim, evS_ifs, evS_retv, evS_whl, evS_fr, evS_frz, q_P, evC_cons, evC_nil, evC_v, evC_k, evC_un, evC_bi, evC_tr, q_s0, q_s1, q_s2, q_s3, q_s4, q_s5, q_s6, q_s7, q_s8, q_s9, q_s10, q_s11, q_p0, q_p1, q_p2, q_p3, q_p4, q_p5, q_p6, q_p7, q_p8, q_p9, q_p10, q_p11, q_read, q_readO, q_gcd, q_onD, q_onDo, q_onI, q_onB, q_onSl, q_onSt, q_onSo, q_onL, q_onLo, q_onT, q_onM, q_datD, q_datO, q_intD, dInt_eq, dBool_eq, q_cons, q_mo, bnd_some, bnd_none, q_asg, q_par2, q_asgT, q_ret, q_expr, q_brk, q_raise, q_onx, q_ort, q_obk, q_ono, q_cmp, q_ar, q_and, q_or, q_ix, q_eq, q_ne, q_max2, q_kint, q_kg, q_kbl, q_knon, q_kdT, q_lt, q_le, q_gt, q_ge, q_test, q_testN, ifB_t, ifB_f, q_neg, q_one, q_not, q_isN, q_notN, q_len, q_abs, q_seq, q_rev, q_listOf, q_tupOf, q_isInst, q_tup, q_lst, q_call, q_chain, q_ite, q_max3, q_add, q_sub, q_mul, q_div, q_mod, q_at0, q_at1, q_d0, q_d1, q_d2, q_d1o, q_d2o, q_a1, q_a2, q_a3, q_a5, lenOk2, lenOk1, lenOk0, fI_eq, forceL_eq, g_onD, g_onI, g_onB, g_onS, g_onM, g_onO, g_test, g_bnd, g_cons1, g_cons2, g_out, q_outr, q_eqi, q_dTup, q_lst1, e2, eqI_nat, lng_map, lng_rev, e]
theorem q_wsucc (c : En → Option SV) (bo : En → Option Out) (n : Nat) (ρ : En) : loopW c bo (n + 1) ρ = testO (c ρ) (onO (bo ρ) (loopW c bo n) fun ρ1 => some (.nx ρ1)) (some (.nx ρ)) := rfl
theorem w_loop (hW : ∀ x y, F 27 [.dat bd, .dat (.tuple [.int x, .int y])] = wiC B D x y dBool) (hV : ∀ x y, F 17 [.dat p, .dat (.tuple [.int x, .int y])] = valC ns b x y mkP)
    (nn bk : En → Option Out) (kk : List PI → Int → Int → Option SV) (hk : ∀ acc x y, outR (nn (wE p bd st acc x y)) = kk acc x y) :
    ∀ (n : Nat) (acc : List PI) (x y : Int), outR (onO (loopW (evC F wcond false) (evS F W wbody) n (wE p bd st acc x y)) nn bk) = wkGo ns b B D kk n acc x y
  | 0, _, _, _ => rfl
  | n + 1, acc, x, y => by
    have ih := w_loop hW hV nn bk kk hk n
    have go : wkGo ns b B D kk (n + 1) acc x y = wiC B D x y fun w => ifB (ifB w (not (memP x y acc)) false) (ifB (gdW acc) (valC ns b x y fun u v => wkGo ns b B D kk n ((x, y) :: acc) u v) none) (kk acc x y) := rfl
    rw [go, q_wsucc, w_cond F p bd st B D hW]
    rcases wiC_cases B D x y with h | ⟨w, h⟩
    · rw [h, h]; rfl
    rw [h, h]
    cases hw : ifB w (not (memP x y acc)) false
    · simp only [evS_seq, evS_skip, evS_prim, evS_ifs, evS_retv, evS_whl, evS_fr, evS_frz, q_P, evC_cons, evC_nil, evC_v, evC_k, evC_un, evC_bi, evC_tr, q_s0, q_s1, q_s2, q_s3, q_s4, q_s5, q_s6, q_s7, q_s8, q_s9, q_s10, q_s11, q_p0, q_p1, q_p2, q_p3, q_p4, q_p5, q_p6, q_p7, q_p8, q_p9, q_p10, q_p11, q_read, q_readO, q_gcd, q_onD, q_onDo, q_onI, q_onB, q_onSl, q_onSt, q_onSo, q_onL, q_onLo, q_onT, q_onM, q_datD, q_datO, q_intD, dInt_eq, dBool_eq, q_cons, q_mo, bnd_some, bnd_none, q_asg, q_par2, q_asgT, q_ret, q_expr, q_brk, q_raise, q_onx, q_ort, q_obk, q_ono, q_cmp, q_ar, q_and, q_or, q_ix, q_eq, q_ne, q_max2, q_kint, q_kg, q_kbl, q_knon, q_kdT, q_lt, q_le, q_gt, q_ge, q_test, q_testN, ifB_t, ifB_f, q_neg, q_one, q_not, q_isN, q_notN, q_len, q_abs, q_seq, q_rev, q_listOf, q_tupOf, q_isInst, q_tup, q_lst, q_call, q_chain, q_ite, q_max3, q_add, q_sub, q_mul, q_div, q_mod, q_at0, q_at1, q_d0, q_d1, q_d2, q_d1o, q_d2o, q_a1, q_a2, q_a3, q_a5, lenOk2, lenOk1, lenOk0, fI_eq, forceL_eq, g_onD, g_onI, g_onB, g_onS, g_onM, g_onO, g_test, g_bnd, g_cons1, g_cons2, g_out, q_outr, q_eqi, q_dTup, q_lst1]
      exact hk acc x y
    · have hm : memP x y acc = false := by cases w <;> cases e : memP x y acc <;> rw [e] at hw <;> first | rfl | cases hw
      rw [w_step F W p bd st ns b hV acc x y hm]
      cases gdW acc
      · simp only [evS_seq, evS_skip, evS_prim, evS_ifs, evS_retv, evS_whl, evS_fr, evS_frz, q_P, evC_cons, evC_nil, evC_v, evC_k, evC_un, evC_bi, evC_tr, q_s0, q_s1, q_s2, q_s3, q_s4, q_s5, q_s6, q_s7, q_s8, q_s9, q_s10, q_s11, q_p0, q_p1, q_p2, q_p3, q_p4, q_p5, q_p6, q_p7, q_p8, q_p9, q_p10, q_p11, q_read, q_readO, q_gcd, q_onD, q_onDo, q_onI, q_onB, q_onSl, q_onSt, q_onSo, q_onL, q_onLo, q_onT, q_onM, q_datD, q_datO, q_intD, dInt_eq, dBool_eq, q_cons, q_mo, bnd_some, bnd_none, q_asg, q_par2, q_asgT, q_ret, q_expr, q_brk, q_raise, q_onx, q_ort, q_obk, q_ono, q_cmp, q_ar, q_and, q_or, q_ix, q_eq, q_ne, q_max2, q_kint, q_kg, q_kbl, q_knon, q_kdT, q_lt, q_le, q_gt, q_ge, q_test, q_testN, ifB_t, ifB_f, q_neg, q_one, q_not, q_isN, q_notN, q_len, q_abs, q_seq, q_rev, q_listOf, q_tupOf, q_isInst, q_tup, q_lst, q_call, q_chain, q_ite, q_max3, q_add, q_sub, q_mul, q_div, q_mod, q_at0, q_at1, q_d0, q_d1, q_d2, q_d1o, q_d2o, q_a1, q_a2, q_a3, q_a5, lenOk2, lenOk1, lenOk0, fI_eq, forceL_eq, g_onD, g_onI, g_onB, g_onS, g_onM, g_onO, g_test, g_bnd, g_cons1, g_cons2, g_out, q_outr, q_eqi, q_dTup, q_lst1]; rfl
      · rcases valC_cases ns b x y with h2 | ⟨u, v, h2⟩
        · rw [h2, h2]; simp only [evS_seq, evS_skip, evS_prim, evS_ifs, evS_retv, evS_whl, evS_fr, evS_frz, q_P, evC_cons, evC_nil, evC_v, evC_k, evC_un, evC_bi, evC_tr, q_s0, q_s1, q_s2, q_s3, q_s4, q_s5, q_s6, q_s7, q_s8, q_s9, q_s10, q_s11, q_p0, q_p1, q_p2, q_p3, q_p4, q_p5, q_p6, q_p7, q_p8, q_p9, q_p10, q_p11, q_read, q_readO, q_gcd, q_onD, q_onDo, q_onI, q_onB, q_onSl, q_onSt, q_onSo, q_onL, q_onLo, q_onT, q_onM, q_datD, q_datO, q_intD, dInt_eq, dBool_eq, q_cons, q_mo, bnd_some, bnd_none, q_asg, q_par2, q_asgT, q_ret, q_expr, q_brk, q_raise, q_onx, q_ort, q_obk, q_ono, q_cmp, q_ar, q_and, q_or, q_ix, q_eq, q_ne, q_max2, q_kint, q_kg, q_kbl, q_knon, q_kdT, q_lt, q_le, q_gt, q_ge, q_test, q_testN, ifB_t, ifB_f, q_neg, q_one, q_not, q_isN, q_notN, q_len, q_abs, q_seq, q_rev, q_listOf, q_tupOf, q_isInst, q_tup, q_lst, q_call, q_chain, q_ite, q_max3, q_add, q_sub, q_mul, q_div, q_mod, q_at0, q_at1, q_d0, q_d1, q_d2, q_d1o, q_d2o, q_a1, q_a2, q_a3, q_a5, lenOk2, lenOk1, lenOk0, fI_eq, forceL_eq, g_onD, g_onI, g_onB, g_onS, g_onM, g_onO, g_test, g_bnd, g_cons1, g_cons2, g_out, q_outr, q_eqi, q_dTup, q_lst1]; rfl
        · rw [h2, h2]
          simp only [evS_seq, evS_skip, evS_prim, evS_ifs, evS_retv, evS_whl, evS_fr, evS_frz, q_P, evC_cons, evC_nil, evC_v, evC_k, evC_un, evC_bi, evC_tr, q_s0, q_s1, q_s2, q_s3, q_s4, q_s5, q_s6, q_s7, q_s8, q_s9, q_s10, q_s11, q_p0, q_p1, q_p2, q_p3, q_p4, q_p5, q_p6, q_p7, q_p8, q_p9, q_p10, q_p11, q_read, q_readO, q_gcd, q_onD, q_onDo, q_onI, q_onB, q_onSl, q_onSt, q_onSo, q_onL, q_onLo, q_onT, q_onM, q_datD, q_datO, q_intD, dInt_eq, dBool_eq, q_cons, q_mo, bnd_some, bnd_none, q_asg, q_par2, q_asgT, q_ret, q_expr, q_brk, q_raise, q_onx, q_ort, q_obk, q_ono, q_cmp, q_ar, q_and, q_or, q_ix, q_eq, q_ne, q_max2, q_kint, q_kg, q_kbl, q_knon, q_kdT, q_lt, q_le, q_gt, q_ge, q_test, q_testN, ifB_t, ifB_f, q_neg, q_one, q_not, q_isN, q_notN, q_len, q_abs, q_seq, q_rev, q_listOf, q_tupOf, q_isInst, q_tup, q_lst, q_call, q_chain, q_ite, q_max3, q_add, q_sub, q_mul, q_div, q_mod, q_at0, q_at1, q_d0, q_d1, q_d2, q_d1o, q_d2o, q_a1, q_a2, q_a3, q_a5, lenOk2, lenOk1, lenOk0, fI_eq, forceL_eq, g_onD, g_onI, g_onB, g_onS, g_onM, g_onO, g_test, g_bnd, g_cons1, g_cons2, g_out, q_outr, q_eqi, q_dTup, q_lst1]
          exact ih _ u v
theorem q_Z (i : Nat) (s : En → Option Out) (ρ : En) : evZ i s ρ = match slot ρ i with
  | none => none
  | some r => s (put ρ i (some r.froz)) := by
  unfold evZ
  cases slot ρ i with
  | none => rfl
  | some r => exact forceL_eq _ _
theorem q_froz (xs : List PyData) : SV.froz (.own xs) = .dat (.list xs) := rfl
theorem tw_walk (hW : ∀ x y, F 27 [.dat bd, .dat (.tuple [.int x, .int y])] = wiC B D x y dBool) (hV : ∀ x y, F 17 [.dat p, .dat (.tuple [.int x, .int y])] = valC ns b x y mkP) (x y : Int) :
    runD F W c_walk_so [.dat p, .dat bd, .dat (.tuple [.int x, .int y])] = wkGo ns b B D (fun acc u v => some (.dat (.tuple [.list (acc.reverse.map prd), .tuple [.int u, .int v]]))) W [] x y := by
  rw [runD_go (ρ := [some (.dat p), some (.dat bd), some (.dat (.tuple [.int x, .int y])), none, none, none]) rfl rfl]
  unfold c_walk_so
  simp only [evS_seq, evS_skip, evS_prim, evS_ifs, evS_retv, evS_whl, evS_fr, evS_frz, q_P, evC_cons, evC_nil, evC_v, evC_k, evC_un, evC_bi, evC_tr, q_s0, q_s1, q_s2, q_s3, q_s4, q_s5, q_s6, q_s7, q_s8, q_s9, q_s10, q_s11, q_p0, q_p1, q_p2, q_p3, q_p4, q_p5, q_p6, q_p7, q_p8, q_p9, q_p10, q_p11, q_read, q_readO, q_gcd, q_onD, q_onDo, q_onI, q_onB, q_onSl, q_onSt, q_onSo, q_onL, q_onLo, q_onT, q_onM, q_datD, q_datO, q_intD, dInt_eq, dBool_eq, q_cons, q_mo, bnd_some, bnd_none, q_asg, q_par2, q_asgT, q_ret, q_expr, q_brk, q_raise, q_onx, q_ort, q_obk, q_ono, q_cmp, q_ar, q_and, q_or, q_ix, q_eq, q_ne, q_max2, q_kint, q_kg, q_kbl, q_knon, q_kdT, q_lt, q_le, q_gt, q_ge, q_test, q_testN, ifB_t, ifB_f, q_neg, q_one, q_not, q_isN, q_notN, q_len, q_abs, q_seq, q_rev, q_listOf, q_tupOf, q_isInst, q_tup, q_lst, q_call, q_chain, q_ite, q_max3, q_add, q_sub, q_mul, q_div, q_mod, q_at0, q_at1, q_d0, q_d1, q_d2, q_d1o, q_d2o, q_a1, q_a2, q_a3, q_a5, lenOk2, lenOk1, lenOk0, fI_eq, forceL_eq, g_onD, g_onI, g_onB, g_onS, g_onM, g_onO, g_test, g_bnd, g_cons1, g_cons2, g_out, q_outr, q_eqi, q_dTup, q_lst1, q_Z, q_froz]
  refine w_loop F W p bd _ ns b B D hW hV _ _ _ (fun acc u v => ?_) W [] x y
  unfold wE
  simp only [evS_seq, evS_skip, evS_prim, evS_ifs, evS_retv, evS_whl, evS_fr, evS_frz, q_P, evC_cons, evC_nil, evC_v, evC_k, evC_un, evC_bi, evC_tr, q_s0, q_s1, q_s2, q_s3, q_s4, q_s5, q_s6, q_s7, q_s8, q_s9, q_s10, q_s11, q_p0, q_p1, q_p2, q_p3, q_p4, q_p5, q_p6, q_p7, q_p8, q_p9, q_p10, q_p11, q_read, q_readO, q_gcd, q_onD, q_onDo, q_onI, q_onB, q_onSl, q_onSt, q_onSo, q_onL, q_onLo, q_onT, q_onM, q_datD, q_datO, q_intD, dInt_eq, dBool_eq, q_cons, q_mo, bnd_some, bnd_none, q_asg, q_par2, q_asgT, q_ret, q_expr, q_brk, q_raise, q_onx, q_ort, q_obk, q_ono, q_cmp, q_ar, q_and, q_or, q_ix, q_eq, q_ne, q_max2, q_kint, q_kg, q_kbl, q_knon, q_kdT, q_lt, q_le, q_gt, q_ge, q_test, q_testN, ifB_t, ifB_f, q_neg, q_one, q_not, q_isN, q_notN, q_len, q_abs, q_seq, q_rev, q_listOf, q_tupOf, q_isInst, q_tup, q_lst, q_call, q_chain, q_ite, q_max3, q_add, q_sub, q_mul, q_div, q_mod, q_at0, q_at1, q_d0, q_d1, q_d2, q_d1o, q_d2o, q_a1, q_a2, q_a3, q_a5, lenOk2, lenOk1, lenOk0, fI_eq, forceL_eq, g_onD, g_onI, g_onB, g_onS, g_onM, g_onO, g_test, g_bnd, g_cons1, g_cons2, g_out, q_outr, q_eqi, q_dTup, q_lst1, q_Z, q_froz]
end
end SW.X
set_option Elab.async false
set_option linter.all false
set_option maxRecDepth 100000
set_option maxHeartbeats 1000000
/-! Tw4: shortcuts, first part. -/
namespace SW.X
open PySem
/-! ### forms of arguments -/
noncomputable def gI {α : Type} (d : PyData) (f : Int → Option α) : Option α := bnd (intOf d) f
noncomputable def gL1 {α β : Type} (xs : List α) (f : α → Option β) : Option β := List.rec (motive := fun _ => Option β) none (fun x r _ => List.rec (motive := fun _ => Option β) (f x) (fun _ _ _ => none) r) xs
noncomputable def gL2 {α β : Type} (xs : List α) (f : α → α → Option β) : Option β := List.rec (motive := fun _ => Option β) none (fun x r _ => gL1 r (f x)) xs
noncomputable def gL3 {α β : Type} (xs : List α) (f : α → α → α → Option β) : Option β := List.rec (motive := fun _ => Option β) none (fun x r _ => gL2 r (f x)) xs
noncomputable def gL4 {α β : Type} (xs : List α) (f : α → α → α → α → Option β) : Option β := List.rec (motive := fun _ => Option β) none (fun x r _ => gL3 r (f x)) xs
noncomputable def gP {α : Type} (d : PyData) (f : Int → Int → Option α) : Option α := bnd (tupOf d) fun xs => gL2 xs fun x y => gI x fun a => gI y fun b => f a b
noncomputable def gPoly {α : Type} (d : PyData) (f : List Int → Int → Option α) : Option α := bnd (tupOf d) fun xs => gL2 xs fun x y => bnd (lstOf x) fun ns => bnd (intsO ns) fun is => gI y fun b => f is b
noncomputable def dSV (r : SV) : Option PyData := SV.casesOn (motive_1 := fun _ => Option PyData) r (fun d => some d) (fun _ => none) (fun _ => none) (fun _ => none) (fun _ => none) (fun _ => none)
noncomputable def g1 (as : List SV) (f : PyData → Option SV) : Option SV := gL1 as fun x => bnd (dSV x) f
noncomputable def g2 (as : List SV) (f : PyData → PyData → Option SV) : Option SV := gL2 as fun x y => bnd (dSV x) fun a => bnd (dSV y) fun b => f a b
noncomputable def g3 (as : List SV) (f : PyData → PyData → PyData → Option SV) : Option SV := gL3 as fun x y z => bnd (dSV x) fun a => bnd (dSV y) fun b => bnd (dSV z) fun c => f a b c
noncomputable def g4 (as : List SV) (f : PyData → PyData → PyData → PyData → Option SV) : Option SV := gL4 as fun x y z u => bnd (dSV x) fun a => bnd (dSV y) fun b => bnd (dSV z) fun c => bnd (dSV u) fun d => f a b c d
theorem dSV_some {r : SV} {d : PyData} (h : dSV r = some d) : r = .dat d := by cases r <;> cases h; rfl
theorem gI_some {α : Type} {d : PyData} {f : Int → Option α} {r : α} (h : gI d f = some r) : ∃ i, d = .int i ∧ f i = some r := by
  obtain ⟨i, h1, h2⟩ := bnd_inv h
  exact ⟨i, intOf_some h1, h2⟩
theorem gL1_some {α β : Type} {xs : List α} {f : α → Option β} {r : β} (h : gL1 xs f = some r) : ∃ x, xs = [x] ∧ f x = some r := by
  match xs, h with
  | [x], h => exact ⟨x, rfl, h⟩
theorem gL2_some {α β : Type} {xs : List α} {f : α → α → Option β} {r : β} (h : gL2 xs f = some r) : ∃ x y, xs = [x, y] ∧ f x y = some r := by
  match xs, h with
  | x :: xs, h =>
    obtain ⟨y, e, h⟩ := gL1_some (xs := xs) (f := f x) h
    exact ⟨x, y, by rw [e], h⟩
theorem gL3_some {α β : Type} {xs : List α} {f : α → α → α → Option β} {r : β} (h : gL3 xs f = some r) : ∃ x y z, xs = [x, y, z] ∧ f x y z = some r := by
  match xs, h with
  | x :: xs, h =>
    obtain ⟨y, z, e, h⟩ := gL2_some (xs := xs) (f := f x) h
    exact ⟨x, y, z, by rw [e], h⟩
theorem gL4_some {α β : Type} {xs : List α} {f : α → α → α → α → Option β} {r : β} (h : gL4 xs f = some r) : ∃ x y z u, xs = [x, y, z, u] ∧ f x y z u = some r := by
  match xs, h with
  | x :: xs, h =>
    obtain ⟨y, z, u, e, h⟩ := gL3_some (xs := xs) (f := f x) h
    exact ⟨x, y, z, u, by rw [e], h⟩
theorem gP_some {α : Type} {d : PyData} {f : Int → Int → Option α} {r : α} (h : gP d f = some r) : ∃ a b, d = .tuple [.int a, .int b] ∧ f a b = some r := by
  obtain ⟨xs, h1, h2⟩ := bnd_inv h
  obtain ⟨x, y, e, h2⟩ := gL2_some h2
  obtain ⟨a, e1, h2⟩ := gI_some h2
  obtain ⟨b, e2, h2⟩ := gI_some h2
  exact ⟨a, b, by rw [tupOf_some h1, e, e1, e2], h2⟩
theorem ints_map : ∀ {ds : List PyData} {is : List Int}, intsO ds = some is → ds = is.map PyData.int
  | [], is, h => by cases h; rfl
  | d :: r, is, h => by
    unfold intsO at h
    cases e : intOf d with
    | none => rw [e] at h; cases h
    | some i =>
      rw [e] at h
      cases e2 : intsO r with
      | none => rw [e2] at h; cases h
      | some l =>
        rw [e2] at h
        cases h
        rw [intOf_some e, ints_map e2]
        rfl
theorem gPoly_some {α : Type} {d : PyData} {f : List Int → Int → Option α} {r : α} (h : gPoly d f = some r) : ∃ is b, d = .tuple [.list (is.map PyData.int), .int b] ∧ f is b = some r := by
  obtain ⟨xs, h1, h2⟩ := bnd_inv h
  obtain ⟨x, y, e, h2⟩ := gL2_some h2
  obtain ⟨ns, e1, h2⟩ := bnd_inv h2
  obtain ⟨is, e2, h2⟩ := bnd_inv h2
  obtain ⟨b, e3, h2⟩ := gI_some h2
  exact ⟨is, b, by rw [tupOf_some h1, e, lstOf_some e1, e3, ints_map e2], h2⟩
theorem g1_some {as : List SV} {f : PyData → Option SV} {r : SV} (h : g1 as f = some r) : ∃ a, as = [.dat a] ∧ f a = some r := by
  obtain ⟨x, e, h⟩ := gL1_some h
  obtain ⟨a, e1, h⟩ := bnd_inv h
  exact ⟨a, by rw [e, dSV_some e1], h⟩
theorem g2_some {as : List SV} {f : PyData → PyData → Option SV} {r : SV} (h : g2 as f = some r) : ∃ a b, as = [.dat a, .dat b] ∧ f a b = some r := by
  obtain ⟨x, y, e, h⟩ := gL2_some h
  obtain ⟨a, e1, h⟩ := bnd_inv h
  obtain ⟨b, e2, h⟩ := bnd_inv h
  exact ⟨a, b, by rw [e, dSV_some e1, dSV_some e2], h⟩
theorem g3_some {as : List SV} {f : PyData → PyData → PyData → Option SV} {r : SV} (h : g3 as f = some r) : ∃ a b c, as = [.dat a, .dat b, .dat c] ∧ f a b c = some r := by
  obtain ⟨x, y, z, e, h⟩ := gL3_some h
  obtain ⟨a, e1, h⟩ := bnd_inv h
  obtain ⟨b, e2, h⟩ := bnd_inv h
  obtain ⟨c, e3, h⟩ := bnd_inv h
  exact ⟨a, b, c, by rw [e, dSV_some e1, dSV_some e2, dSV_some e3], h⟩
theorem g4_some {as : List SV} {f : PyData → PyData → PyData → PyData → Option SV} {r : SV} (h : g4 as f = some r) : ∃ a b c d, as = [.dat a, .dat b, .dat c, .dat d] ∧ f a b c d = some r := by
  obtain ⟨x, y, z, u, e, h⟩ := gL4_some h
  obtain ⟨a, e1, h⟩ := bnd_inv h
  obtain ⟨b, e2, h⟩ := bnd_inv h
  obtain ⟨c, e3, h⟩ := bnd_inv h
  obtain ⟨d, e4, h⟩ := bnd_inv h
  exact ⟨a, b, c, d, by rw [e, dSV_some e1, dSV_some e2, dSV_some e3, dSV_some e4], h⟩
/-! ### what the levels answer -/
theorem f_from (n : Nat) (v l h : Int) : FF (n + 1) 0 [.dat (.int v), .dat (.int l), .dat (.int h)] = some (.dat (.bool (fromB v l h))) := tw_from (FF n) 3000 v l h
theorem f_isnum (n : Nat) (a b : Int) : FF (n + 2) 1 [.dat (.tuple [.int a, .int b])] = dBool (numB a b) := tw_isnum (FF (n + 1)) 3000 (f_from n) a b
theorem f_num (n : Nat) (a b : Int) : FF (n + 1) 6 [.dat (.int a), .dat (.int b)] = numC a b mkP := tw_num (FF n) 3000 a b
theorem f_below (n : Nat) (a b c d : Int) : FF (n + 1) 9 [.dat (.tuple [.int a, .int b]), .dat (.tuple [.int c, .int d])] = lessC a b c d := tw_below (FF n) 3000 a b c d
theorem f_less (n : Nat) (a b c d : Int) : FF (n + 1) 105 [.dat (.tuple [.int a, .int b]), .dat (.tuple [.int c, .int d])] = lessC a b c d := tw_less (FF n) 3000 a b c d
theorem f_within (n : Nat) (B D x y : Int) : FF (n + 1) 27 [.dat (.tuple [.int B, .int D]), .dat (.tuple [.int x, .int y])] = wiC B D x y dBool := tw_within (FF n) 3000 B D x y
theorem f_val (n : Nat) (i : Int) (r : List Int) (b x y : Int) : FF (n + 2) 17 [.dat (.tuple [.list ((i :: r).map PyData.int), .int b]), .dat (.tuple [.int x, .int y])] = valC (i :: r) b x y mkP := tw_val (FF (n + 1)) 3000 (f_num n) i r b x y
noncomputable def wkK (acc : List PI) (u v : Int) : Option SV := some (.dat (.tuple [.list (acc.reverse.map prd), .tuple [.int u, .int v]]))
theorem f_walk (n : Nat) (i : Int) (r : List Int) (b B D x y : Int) : FF (n + 3) 28 [.dat (.tuple [.list ((i :: r).map PyData.int), .int b]), .dat (.tuple [.int B, .int D]), .dat (.tuple [.int x, .int y])] = wkGo (i :: r) b B D wkK 3000 [] x y :=
  tw_walk (FF (n + 2)) 3000 _ _ (i :: r) b B D (fun x y => f_within (n + 1) B D x y) (fun x y => f_val n i r b x y) x y
/-! ### the shortcuts -/
abbrev Sc := FT → List SV → Option SV
noncomputable def onC {α : Type} (is : List Int) (f : Int → List Int → Option α) : Option α := List.rec (motive := fun _ => Option α) none (fun i r _ => f i r) is
theorem onC_some {α : Type} {is : List Int} {f : Int → List Int → Option α} {r : α} (h : onC is f = some r) : ∃ i l, is = i :: l ∧ f i l = some r := by
  cases is with
  | nil => cases h
  | cons i l => exact ⟨i, l, rfl, h⟩
noncomputable def sFrom : Sc := fun _ as => g3 as fun a b c => gI a fun v => gI b fun l => gI c fun h => dBool (fromB v l h)
noncomputable def sIsnum : Sc := fun _ as => g1 as fun a => gP a fun x y => dBool (numB x y)
noncomputable def sNum : Sc := fun _ as => g2 as fun a b => gI a fun x => gI b fun y => numC x y mkP
noncomputable def sLess : Sc := fun _ as => g2 as fun a b => gP a fun x y => gP b fun u v => lessC x y u v
noncomputable def sWithin : Sc := fun _ as => g2 as fun a b => gP a fun x y => gP b fun u v => wiC x y u v dBool
noncomputable def sVal : Sc := fun _ as => g2 as fun a b => gPoly a fun is d => onC is fun i r => gP b fun x y => valC (i :: r) d x y mkP
noncomputable def sWalk : Sc := fun _ as => g3 as fun a b c => gPoly a fun is d => onC is fun i r => gP b fun B D => gP c fun x y => wkGo (i :: r) d B D wkK 3000 [] x y
noncomputable def at_ (f k : Nat) (s : Sc) (e : Option Sc) : Option Sc := ifB (Nat.beq f k) (some s) e
/-- a shortcut is right from level 4 on -/
def ScOk (f : Nat) (s : Sc) : Prop := ∀ n as r, s (FF (n + 3)) as = some r → FF (n + 4) f as = some r
theorem at_ok {f k : Nat} {s : Sc} {e : Option Sc} {Q : Nat → Sc → Prop} (h : Q k s) (he : ∀ z, e = some z → Q f z) : ∀ z, at_ f k s e = some z → Q f z := fun z q => by
  unfold at_ at q
  cases b : Nat.beq f k with
  | false => rw [b] at q; exact he z q
  | true =>
    rw [b] at q
    cases q
    rw [Nat.eq_of_beq_eq_true b]
    exact h
theorem no_ok (Q : Nat → Sc → Prop) (f : Nat) : ∀ z : Sc, (none : Option Sc) = some z → Q f z := fun _ h => nomatch h
theorem sFrom_ok : ScOk 0 sFrom := fun n as r h => by
  obtain ⟨a, b, c, rfl, h1⟩ := g3_some h
  obtain ⟨v, rfl, h2⟩ := gI_some h1
  obtain ⟨l, rfl, h3⟩ := gI_some h2
  obtain ⟨u, rfl, h4⟩ := gI_some h3
  rw [← h4, dBool_eq]
  exact f_from (n + 3) v l u
theorem sIsnum_ok : ScOk 1 sIsnum := fun n as r h => by
  obtain ⟨a, rfl, h1⟩ := g1_some h
  obtain ⟨x, y, rfl, h2⟩ := gP_some h1
  rw [← h2]
  exact f_isnum (n + 2) x y
theorem sNum_ok : ScOk 6 sNum := fun n as r h => by
  obtain ⟨a, b, rfl, h1⟩ := g2_some h
  obtain ⟨x, rfl, h2⟩ := gI_some h1
  obtain ⟨y, rfl, h3⟩ := gI_some h2
  rw [← h3]
  exact f_num (n + 3) x y
theorem sLess_ok : ScOk 105 sLess := fun n as r h => by
  obtain ⟨a, b, rfl, h1⟩ := g2_some h
  obtain ⟨x, y, rfl, h2⟩ := gP_some h1
  obtain ⟨u, v, rfl, h3⟩ := gP_some h2
  rw [← h3]
  exact f_less (n + 3) x y u v
theorem sBelow_ok : ScOk 9 sLess := fun n as r h => by
  obtain ⟨a, b, rfl, h1⟩ := g2_some h
  obtain ⟨x, y, rfl, h2⟩ := gP_some h1
  obtain ⟨u, v, rfl, h3⟩ := gP_some h2
  rw [← h3]
  exact f_below (n + 3) x y u v
theorem sWithin_ok : ScOk 27 sWithin := fun n as r h => by
  obtain ⟨a, b, rfl, h1⟩ := g2_some h
  obtain ⟨x, y, rfl, h2⟩ := gP_some h1
  obtain ⟨u, v, rfl, h3⟩ := gP_some h2
  rw [← h3]
  exact f_within (n + 3) x y u v
theorem sVal_ok : ScOk 17 sVal := fun n as r h => by
  obtain ⟨a, b, rfl, h1⟩ := g2_some h
  obtain ⟨is, d, rfl, h2⟩ := gPoly_some h1
  obtain ⟨i, l, rfl, h3⟩ := onC_some h2
  obtain ⟨x, y, rfl, h4⟩ := gP_some h3
  rw [← h4]
  exact f_val (n + 2) i l d x y
theorem sWalk_ok : ScOk 28 sWalk := fun n as r h => by
  obtain ⟨a, b, c, rfl, h1⟩ := g3_some h
  obtain ⟨is, d, rfl, h2⟩ := gPoly_some h1
  obtain ⟨i, l, rfl, h3⟩ := onC_some h2
  obtain ⟨B, D, rfl, h4⟩ := gP_some h3
  obtain ⟨x, y, rfl, h5⟩ := gP_some h4
  rw [← h5]
  exact f_walk (n + 1) i l d B D x y
end SW.X
set_option Elab.async false
set_option linter.all false
set_option maxRecDepth 100000
set_option maxHeartbeats 1000000
/-! Tw5: round_so, numbers_within, all_rounds. -/
namespace SW.X
open PySem
section
variable (F : FT) (W : Nat) (a b : Ev1) (pk : Bool) (ρ : En)
noncomputable def innR (n : Bool) (d e : PyData) : Option SV := match seqOf e with
  | none => none
  | some ds => match noB 6 d, noB 6 e with
    | true, true => dBool (xor n (inS d ds))
    | _, _ => none
theorem q_inn (n : Bool) : opB (.inn n) a b ρ = onD (a false ρ) fun d => onD (b true ρ) fun e => innR n d e := rfl
theorem innR_prs (n : Bool) (u v : Int) (l : List PI) : innR n (.tuple [.int u, .int v]) (.list (l.map prd)) = some (.dat (.bool (xor n (memP u v l)))) := by
  unfold innR
  rw [show noB 6 (.list (l.map prd)) = true from noB_prs 4 l, show noB 6 (.tuple [.int u, .int v]) = true from rfl]
  show dBool (xor n (inS _ (l.map prd))) = _
  rw [inS_mem, dBool_eq]
noncomputable def ixR (xs : List PyData) (d : PyData) : Option SV := match noB 6 (.list xs), noB 6 d with
  | true, true => match findI d xs 0 with
    | some n => dInt (.ofNat n)
    | none => none
  | _, _ => none
theorem q_index : opB .index a b ρ = onL (a true ρ) fun xs => onD (b false ρ) fun d => ixR xs d := rfl
theorem ixR_prs {u v : Int} {l : List PI} {m : Nat} (h : findP u v l 0 = some m) : ixR (l.map prd) (.tuple [.int u, .int v]) = some (.dat (.int (.ofNat m))) := by
  unfold ixR
  rw [show noB 6 (.list (l.map prd)) = true from noB_prs 4 l, show noB 6 (.tuple [.int u, .int v]) = true from rfl]
  show (match findI _ (l.map prd) 0 with | some n => dInt (.ofNat n) | none => none) = _
  rw [findI_P, h]
  exact dInt_eq _
theorem q_upTo : opB .upTo a b ρ = onD (a true ρ) fun d => onI (b false ρ) fun i => cutUp i d := rfl
theorem cutUp_l (n : Nat) (xs : List PyData) : cutUp (.ofNat n) (.list xs) = some (.own (xs.take n)) := rfl
noncomputable def dropR (i : Int) (xs : List PyData) : Option SV := match dropN i xs with
  | some r => some (.own r)
  | none => none
theorem q_onFrom : opB .onFrom a b ρ = onL (a true ρ) fun xs => onI (b false ρ) fun i => dropR i xs := rfl
theorem dropR_n (n : Nat) (xs : List PyData) : dropR (.ofNat n) xs = some (.own (xs.drop n)) := rfl
theorem q_dTupE (xs : List PyData) : dTup xs = some (.dat (.tuple xs)) := rfl
end
/-! ### round_so -/
noncomputable def rdC {α : Type} (ns : List Int) (b B D x y : Int) (kn : Option α) (ks : List PI → List PI → Option α) : Option α :=
  wkGo ns b B D (fun acc u v => ifB (memP u v acc) (match findP u v acc.reverse 0 with
    | some m => ks (acc.reverse.take m) (acc.reverse.drop m)
    | none => none) kn) 3000 [] x y
theorem rdC_cases (ns : List Int) (b B D x y : Int) : (∀ (α : Type) (kn : Option α) (ks : List PI → List PI → Option α), rdC ns b B D x y kn ks = none) ∨ (∀ (α : Type) (kn : Option α) (ks : List PI → List PI → Option α), rdC ns b B D x y kn ks = kn) ∨
    ∃ t r, ∀ (α : Type) (kn : Option α) (ks : List PI → List PI → Option α), rdC ns b B D x y kn ks = ks t r := by
  unfold rdC
  rcases wkGo_cases ns b B D 3000 [] x y with h | ⟨acc, u, v, h⟩
  · exact .inl fun α kn ks => h _ _
  · cases e : memP u v acc with
    | false => exact .inr (.inl fun α kn ks => by rw [h, e]; rfl)
    | true =>
      cases e2 : findP u v acc.reverse 0 with
      | none => exact .inl fun α kn ks => by rw [h, e, e2]; rfl
      | some m => exact .inr (.inr ⟨acc.reverse.take m, acc.reverse.drop m, fun α kn ks => by rw [h, e, e2]; rfl⟩)
noncomputable def rdK (t r : List PI) : Option SV := some (.dat (.tuple [.tuple (t.map prd), .tuple (r.map prd)]))
theorem tw_round (F : FT) (W : Nat) (p bd : PyData) (ns : List Int) (b B D : Int) (hW : ∀ x y, F 28 [.dat p, .dat bd, .dat (.tuple [.int x, .int y])] = wkGo ns b B D wkK 3000 [] x y) (x y : Int) :
    runD F W c_round_so [.dat p, .dat bd, .dat (.tuple [.int x, .int y])] = rdC ns b B D x y (some (.dat .none)) rdK := by
  rw [runD_go (ρ := [some (.dat p), some (.dat bd), some (.dat (.tuple [.int x, .int y])), none, none, none]) rfl rfl]
  unfold c_round_so rdC
  simp only [evS_seq, evS_skip, evS_prim, evS_ifs, evS_retv, evS_whl, evS_fr, evS_frz, q_P, evC_cons, evC_nil, evC_v, evC_k, evC_un, evC_bi, evC_tr, q_s0, q_s1, q_s2, q_s3, q_s4, q_s5, q_s6, q_s7, q_s8, q_s9, q_s10, q_s11, q_p0, q_p1, q_p2, q_p3, q_p4, q_p5, q_p6, q_p7, q_p8, q_p9, q_p10, q_p11, q_read, q_readO, q_gcd, q_onD, q_onDo, q_onI, q_onB, q_onSl, q_onSt, q_onSo, q_onL, q_onLo, q_onT, q_onM, q_datD, q_datO, q_intD, dInt_eq, dBool_eq, q_cons, q_mo, bnd_some, bnd_none, q_asg, q_par2, q_asgT, q_ret, q_expr, q_brk, q_raise, q_onx, q_ort, q_obk, q_ono, q_cmp, q_ar, q_and, q_or, q_ix, q_eq, q_ne, q_max2, q_kint, q_kg, q_kbl, q_knon, q_kdT, q_lt, q_le, q_gt, q_ge, q_test, q_testN, ifB_t, ifB_f, q_neg, q_one, q_not, q_isN, q_notN, q_len, q_abs, q_seq, q_rev, q_listOf, q_tupOf, q_isInst, q_tup, q_lst, q_call, q_chain, q_ite, q_max3, q_add, q_sub, q_mul, q_div, q_mod, q_at0, q_at1, q_d0, q_d1, q_d2, q_d1o, q_d2o, q_a1, q_a2, q_a3, q_a5, lenOk2, lenOk1, lenOk0, fI_eq, forceL_eq, g_onD, g_onI, g_onB, g_onS, g_onM, g_onO, g_test, g_bnd, g_cons1, g_cons2, g_out, q_outr, q_eqi, q_dTup, q_lst1, hW]
  rcases wkGo_cases ns b B D 3000 [] x y with h | ⟨acc, u, v, h⟩
  · rw [h, h]; rfl
  · rw [h, h]
    have em : memP u v acc.reverse = memP u v acc := memP_rev u v acc
    cases e : memP u v acc with
    | false =>
      simp only [wkK, evS_seq, evS_skip, evS_prim, evS_ifs, evS_retv, evS_whl, evS_fr, evS_frz, q_P, evC_cons, evC_nil, evC_v, evC_k, evC_un, evC_bi, evC_tr, q_s0, q_s1, q_s2, q_s3, q_s4, q_s5, q_s6, q_s7, q_s8, q_s9, q_s10, q_s11, q_p0, q_p1, q_p2, q_p3, q_p4, q_p5, q_p6, q_p7, q_p8, q_p9, q_p10, q_p11, q_read, q_readO, q_gcd, q_onD, q_onDo, q_onI, q_onB, q_onSl, q_onSt, q_onSo, q_onL, q_onLo, q_onT, q_onM, q_datD, q_datO, q_intD, dInt_eq, dBool_eq, q_cons, q_mo, bnd_some, bnd_none, q_asg, q_par2, q_asgT, q_ret, q_expr, q_brk, q_raise, q_onx, q_ort, q_obk, q_ono, q_cmp, q_ar, q_and, q_or, q_ix, q_eq, q_ne, q_max2, q_kint, q_kg, q_kbl, q_knon, q_kdT, q_lt, q_le, q_gt, q_ge, q_test, q_testN, ifB_t, ifB_f, q_neg, q_one, q_not, q_isN, q_notN, q_len, q_abs, q_seq, q_rev, q_listOf, q_tupOf, q_isInst, q_tup, q_lst, q_call, q_chain, q_ite, q_max3, q_add, q_sub, q_mul, q_div, q_mod, q_at0, q_at1, q_d0, q_d1, q_d2, q_d1o, q_d2o, q_a1, q_a2, q_a3, q_a5, lenOk2, lenOk1, lenOk0, fI_eq, forceL_eq, g_onD, g_onI, g_onB, g_onS, g_onM, g_onO, g_test, g_bnd, g_cons1, g_cons2, g_out, q_outr, q_eqi, q_dTup, q_lst1, q_inn, innR_prs, em, e]
      rfl
    | true =>
      obtain ⟨m, e2⟩ := findP_some (n := 0) (em.trans e)
      simp only [wkK, evS_seq, evS_skip, evS_prim, evS_ifs, evS_retv, evS_whl, evS_fr, evS_frz, q_P, evC_cons, evC_nil, evC_v, evC_k, evC_un, evC_bi, evC_tr, q_s0, q_s1, q_s2, q_s3, q_s4, q_s5, q_s6, q_s7, q_s8, q_s9, q_s10, q_s11, q_p0, q_p1, q_p2, q_p3, q_p4, q_p5, q_p6, q_p7, q_p8, q_p9, q_p10, q_p11, q_read, q_readO, q_gcd, q_onD, q_onDo, q_onI, q_onB, q_onSl, q_onSt, q_onSo, q_onL, q_onLo, q_onT, q_onM, q_datD, q_datO, q_intD, dInt_eq, dBool_eq, q_cons, q_mo, bnd_some, bnd_none, q_asg, q_par2, q_asgT, q_ret, q_expr, q_brk, q_raise, q_onx, q_ort, q_obk, q_ono, q_cmp, q_ar, q_and, q_or, q_ix, q_eq, q_ne, q_max2, q_kint, q_kg, q_kbl, q_knon, q_kdT, q_lt, q_le, q_gt, q_ge, q_test, q_testN, ifB_t, ifB_f, q_neg, q_one, q_not, q_isN, q_notN, q_len, q_abs, q_seq, q_rev, q_listOf, q_tupOf, q_isInst, q_tup, q_lst, q_call, q_chain, q_ite, q_max3, q_add, q_sub, q_mul, q_div, q_mod, q_at0, q_at1, q_d0, q_d1, q_d2, q_d1o, q_d2o, q_a1, q_a2, q_a3, q_a5, lenOk2, lenOk1, lenOk0, fI_eq, forceL_eq, g_onD, g_onI, g_onB, g_onS, g_onM, g_onO, g_test, g_bnd, g_cons1, g_cons2, g_out, q_outr, q_eqi, q_dTup, q_lst1, q_inn, innR_prs, em, e, e2, q_index, ixR_prs e2, q_upTo, cutUp_l, q_onFrom, dropR_n, Bool.xor_self]
      rw [← List.map_take, ← List.map_drop]
      rfl
/-! ### numbers_within -/
noncomputable def numsC (D : Int) (n : Nat) : Int → Option (List PI) := Nat.rec (motive := fun _ => Int → Option (List PI)) (fun _ => some []) (fun _ ih lo => numC lo D fun x y => fI (Int.add lo 1) fun lo1 => bnd (ih lo1) fun r => some ((x, y) :: r)) n
noncomputable def cEl : C := .un (.call 6) (.cons (.v 2) (.cons (.bi .ix (.v 0) (.k (.int 1))) .nil))
theorem c_turn (F : FT) (B D : Int) (r : Option SV) (hN : ∀ a, F 6 [.dat (.int a), .dat (.int D)] = numC a D mkP) (a : Int) :
    compTurn (.name 2) [some (.dat (.tuple [.int B, .int D])), r, none] (evC F .nil) (evC F cEl) (.int a) = numC a D fun x y => some (some (prd (x, y))) := by
  unfold compTurn cEl
  rw [q_bind]
  simp only [evS_seq, evS_skip, evS_prim, evS_ifs, evS_retv, evS_whl, evS_fr, evS_frz, q_P, evC_cons, evC_nil, evC_v, evC_k, evC_un, evC_bi, evC_tr, q_s0, q_s1, q_s2, q_s3, q_s4, q_s5, q_s6, q_s7, q_s8, q_s9, q_s10, q_s11, q_p0, q_p1, q_p2, q_p3, q_p4, q_p5, q_p6, q_p7, q_p8, q_p9, q_p10, q_p11, q_read, q_readO, q_gcd, q_onD, q_onDo, q_onI, q_onB, q_onSl, q_onSt, q_onSo, q_onL, q_onLo, q_onT, q_onM, q_datD, q_datO, q_intD, dInt_eq, dBool_eq, q_cons, q_mo, bnd_some, bnd_none, q_asg, q_par2, q_asgT, q_ret, q_expr, q_brk, q_raise, q_onx, q_ort, q_obk, q_ono, q_cmp, q_ar, q_and, q_or, q_ix, q_eq, q_ne, q_max2, q_kint, q_kg, q_kbl, q_knon, q_kdT, q_lt, q_le, q_gt, q_ge, q_test, q_testN, ifB_t, ifB_f, q_neg, q_one, q_not, q_isN, q_notN, q_len, q_abs, q_seq, q_rev, q_listOf, q_tupOf, q_isInst, q_tup, q_lst, q_call, q_chain, q_ite, q_max3, q_add, q_sub, q_mul, q_div, q_mod, q_at0, q_at1, q_d0, q_d1, q_d2, q_d1o, q_d2o, q_a1, q_a2, q_a3, q_a5, lenOk2, lenOk1, lenOk0, fI_eq, forceL_eq, g_onD, g_onI, g_onB, g_onS, g_onM, g_onO, g_test, g_bnd, g_cons1, g_cons2, g_out, q_outr, q_eqi, q_dTup, q_lst1, hN]
  rcases numC_cases a D with h | ⟨u, v, h⟩
  · rw [h, h]; rfl
  · rw [h, h]; rfl
theorem c_nums {f : PyData → Option (Option PyData)} {D : Int} (hf : ∀ a, f (.int a) = numC a D fun x y => some (some (prd (x, y)))) : ∀ (n : Nat) (lo : Int), compGo f (rangeL lo n) = bnd (numsC D n lo) fun l => some (l.map prd)
  | 0, lo => rfl
  | n + 1, lo => by
    have ih := c_nums hf n (Int.add lo 1)
    have g1 : compGo f (rangeL lo (n + 1)) = match f (.int lo) with
      | none => none
      | some o => match compGo f (rangeL (Int.add lo 1) n) with
        | none => none
        | some r => match o with
          | none => some r
          | some y => some (y :: r) := rfl
    have g2 : numsC D (n + 1) lo = numC lo D fun x y => fI (Int.add lo 1) fun lo1 => bnd (numsC D n lo1) fun r => some ((x, y) :: r) := rfl
    rw [g1, g2, hf, ih]
    simp only [fI_eq]
    rcases numC_cases lo D with h | ⟨u, v, h⟩
    · rw [h, h]; rfl
    · rw [h, h]
      cases numsC D n (Int.add lo 1) with
      | none => rfl
      | some l => rfl
noncomputable def rng2R (i j : Int) : Option SV := match small i, small j with
  | true, true => dLst (rangeL i (Int.sub j i).toNat)
  | _, _ => none
theorem q_rng2 (a b : Ev1) (ρ : En) : opB .rng2 a b ρ = onI (a false ρ) fun i => onI (b false ρ) fun j => rng2R i j := rfl
noncomputable def compR (r : Option (List PyData)) : Option SV := match r with
  | none => none
  | some ys => match lenOk ys with
    | true => some (.own ys)
    | false => none
theorem q_comp (t : T) (own : List Nat) (i ifs e : Ev1) (ρ : En) : opComp t own i ifs e ρ = onL (i true ρ) fun xs => compR (compGo (compTurn t (wipeE ρ own) ifs e) xs) := by
  unfold opComp
  congr 1
  funext xs
  refine (forceL_eq _ _).trans ?_
  unfold compR
  cases compGo (compTurn t (wipeE ρ own) ifs e) xs with
  | none => rfl
  | some ys =>
    show (match lenOk ys with | true => some (SV.own ys) | false => none) = (match lenOk ys with | true => some (SV.own ys) | false => none)
    cases lenOk ys <;> rfl
noncomputable def allN (B D : Int) : Option (List PI) := mulC B D fun m => ifB (small (Int.neg m)) (ifB (small (Int.add m 1)) (bnd (numsC D (Int.sub (Int.add m 1) (Int.neg m)).toNat (Int.neg m)) fun l => ifB (lenOk l) (some l) none) none) none
theorem tw_nums (F : FT) (W : Nat) (hN : ∀ a b, F 6 [.dat (.int a), .dat (.int b)] = numC a b mkP) (B D : Int) {l : List PI} (h : allN B D = some l) : runD F W c_numbers_within [.dat (.tuple [.int B, .int D])] = some (.own (l.map prd)) := by
  rw [runD_go (ρ := [some (.dat (.tuple [.int B, .int D])), none, none]) rfl rfl]
  unfold allN mulC at h
  simp only [fI_eq] at h
  obtain ⟨h1, h⟩ := ifB_some h
  obtain ⟨h2, h⟩ := ifB_some h
  obtain ⟨h3, h⟩ := ifB_some h
  obtain ⟨l1, h4, h⟩ := bnd_inv h
  obtain ⟨h5, h⟩ := ifB_some h
  cases h
  have ht : ∀ a, compTurn (.name 2) [some (.dat (.tuple [.int B, .int D])), some (.dat (.int (Int.mul B D))), none] (evC F .nil) (evC F cEl) (.int a) = _ := c_turn F B D _ (fun a => hN a D)
  have hg := c_nums ht (Int.sub (Int.add (Int.mul B D) 1) (Int.neg (Int.mul B D))).toNat (Int.neg (Int.mul B D))
  rw [h4] at hg
  have hg : compGo (compTurn (.name 2) [some (.dat (.tuple [.int B, .int D])), some (.dat (.int (Int.mul B D))), none] (evC F .nil) (evC F cEl)) (rangeL (Int.neg (Int.mul B D)) (Int.sub (Int.add (Int.mul B D) 1) (Int.neg (Int.mul B D))).toNat) = some (l.map prd) := hg
  have hl : lenOk (l.map prd) = true := by unfold lenOk at h5 ⊢; rw [lng_map]; exact h5
  unfold c_numbers_within
  simp only [evS_seq, evS_skip, evS_prim, evS_ifs, evS_retv, evS_whl, evS_fr, evS_frz, q_P, evC_cons, evC_nil, evC_v, evC_k, evC_un, evC_bi, evC_tr, q_s0, q_s1, q_s2, q_s3, q_s4, q_s5, q_s6, q_s7, q_s8, q_s9, q_s10, q_s11, q_p0, q_p1, q_p2, q_p3, q_p4, q_p5, q_p6, q_p7, q_p8, q_p9, q_p10, q_p11, q_read, q_readO, q_gcd, q_onD, q_onDo, q_onI, q_onB, q_onSl, q_onSt, q_onSo, q_onL, q_onLo, q_onT, q_onM, q_datD, q_datO, q_intD, dInt_eq, dBool_eq, q_cons, q_mo, bnd_some, bnd_none, q_asg, q_par2, q_asgT, q_ret, q_expr, q_brk, q_raise, q_onx, q_ort, q_obk, q_ono, q_cmp, q_ar, q_and, q_or, q_ix, q_eq, q_ne, q_max2, q_kint, q_kg, q_kbl, q_knon, q_kdT, q_lt, q_le, q_gt, q_ge, q_test, q_testN, ifB_t, ifB_f, q_neg, q_one, q_not, q_isN, q_notN, q_len, q_abs, q_seq, q_rev, q_listOf, q_tupOf, q_isInst, q_tup, q_lst, q_call, q_chain, q_ite, q_max3, q_add, q_sub, q_mul, q_div, q_mod, q_at0, q_at1, q_d0, q_d1, q_d2, q_d1o, q_d2o, q_a1, q_a2, q_a3, q_a5, lenOk2, lenOk1, lenOk0, fI_eq, forceL_eq, g_onD, g_onI, g_onB, g_onS, g_onM, g_onO, g_test, g_bnd, g_cons1, g_cons2, g_out, q_outr, q_eqi, q_dTup, q_lst1, h1, evC_comp, q_comp, q_rng2, rng2R, h2, h3]
  show outR (onO (bnd (bnd (opCons (compR (compGo (compTurn (.name 2) [some (.dat (.tuple [.int B, .int D])), some (.dat (.int (Int.mul B D))), none] (evC F .nil) (evC F cEl)) _)) _) _) _) _ _) = _
  rw [hg]
  unfold compR
  simp only [hl, evS_seq, evS_skip, evS_prim, evS_ifs, evS_retv, evS_whl, evS_fr, evS_frz, q_P, evC_cons, evC_nil, evC_v, evC_k, evC_un, evC_bi, evC_tr, q_s0, q_s1, q_s2, q_s3, q_s4, q_s5, q_s6, q_s7, q_s8, q_s9, q_s10, q_s11, q_p0, q_p1, q_p2, q_p3, q_p4, q_p5, q_p6, q_p7, q_p8, q_p9, q_p10, q_p11, q_read, q_readO, q_gcd, q_onD, q_onDo, q_onI, q_onB, q_onSl, q_onSt, q_onSo, q_onL, q_onLo, q_onT, q_onM, q_datD, q_datO, q_intD, dInt_eq, dBool_eq, q_cons, q_mo, bnd_some, bnd_none, q_asg, q_par2, q_asgT, q_ret, q_expr, q_brk, q_raise, q_onx, q_ort, q_obk, q_ono, q_cmp, q_ar, q_and, q_or, q_ix, q_eq, q_ne, q_max2, q_kint, q_kg, q_kbl, q_knon, q_kdT, q_lt, q_le, q_gt, q_ge, q_test, q_testN, ifB_t, ifB_f, q_neg, q_one, q_not, q_isN, q_notN, q_len, q_abs, q_seq, q_rev, q_listOf, q_tupOf, q_isInst, q_tup, q_lst, q_call, q_chain, q_ite, q_max3, q_add, q_sub, q_mul, q_div, q_mod, q_at0, q_at1, q_d0, q_d1, q_d2, q_d1o, q_d2o, q_a1, q_a2, q_a3, q_a5, lenOk2, lenOk1, lenOk0, fI_eq, forceL_eq, g_onD, g_onI, g_onB, g_onS, g_onM, g_onO, g_test, g_bnd, g_cons1, g_cons2, g_out, q_outr, q_eqi, q_dTup, q_lst1]
/-! ### all_rounds -/
noncomputable def entP (q : PI) (t r : List PI) : PyData := .tuple [prd q, .tuple [.tuple (t.map prd), .tuple (r.map prd)]]
noncomputable def rndsC (ns : List Int) (b B D : Int) (l : List PI) : List PyData → Option (List PyData) :=
  List.rec (motive := fun _ => List PyData → Option (List PyData)) (fun acc => some acc) (fun q _ ih acc => rdC ns b B D q.1 q.2 (ih acc) fun t r => ifB (lenOk acc) (ih (acc ++ [entP q t r])) none) l
def abody : S := (.seq (.prim (.asg 4) (.cons (.un (.call 29) (.cons (.v 0) (.cons (.v 1) (.cons (.v 3) .nil)))) .nil))
      (.seq (.ifs (.un .notN (.v 4)) (.seq (.prim (.append 2) (.cons (.un .tup (.cons (.v 3) (.cons (.v 4) .nil))) .nil))
      .skip) .skip)
      .skip))
theorem a_step (F : FT) (W : Nat) (p bd : PyData) (ns : List Int) (b B D : Int) (hR : ∀ x y, F 29 [.dat p, .dat bd, .dat (.tuple [.int x, .int y])] = rdC ns b B D x y (some (.dat .none)) rdK) (acc : List PyData) (q : PI) (o : Option SV) :
    evS F W abody [some (.dat p), some (.dat bd), some (.own acc), some (.dat (prd q)), o] = rdC ns b B D q.1 q.2 (some (.nx [some (.dat p), some (.dat bd), some (.own acc), some (.dat (prd q)), some (.dat .none)]))
      fun t r => ifB (lenOk acc) (some (.nx [some (.dat p), some (.dat bd), some (.own (acc ++ [entP q t r])), some (.dat (prd q)), some (.dat (.tuple [.tuple (t.map prd), .tuple (r.map prd)]))])) none := by
  unfold abody
  have hq : prd q = .tuple [.int q.1, .int q.2] := rfl
  rw [hq]
  simp only [evS_seq, evS_skip, evS_prim, evS_ifs, evS_retv, evS_whl, evS_fr, evS_frz, q_P, evC_cons, evC_nil, evC_v, evC_k, evC_un, evC_bi, evC_tr, q_s0, q_s1, q_s2, q_s3, q_s4, q_s5, q_s6, q_s7, q_s8, q_s9, q_s10, q_s11, q_p0, q_p1, q_p2, q_p3, q_p4, q_p5, q_p6, q_p7, q_p8, q_p9, q_p10, q_p11, q_read, q_readO, q_gcd, q_onD, q_onDo, q_onI, q_onB, q_onSl, q_onSt, q_onSo, q_onL, q_onLo, q_onT, q_onM, q_datD, q_datO, q_intD, dInt_eq, dBool_eq, q_cons, q_mo, bnd_some, bnd_none, q_asg, q_par2, q_asgT, q_ret, q_expr, q_brk, q_raise, q_onx, q_ort, q_obk, q_ono, q_cmp, q_ar, q_and, q_or, q_ix, q_eq, q_ne, q_max2, q_kint, q_kg, q_kbl, q_knon, q_kdT, q_lt, q_le, q_gt, q_ge, q_test, q_testN, ifB_t, ifB_f, q_neg, q_one, q_not, q_isN, q_notN, q_len, q_abs, q_seq, q_rev, q_listOf, q_tupOf, q_isInst, q_tup, q_lst, q_call, q_chain, q_ite, q_max3, q_add, q_sub, q_mul, q_div, q_mod, q_at0, q_at1, q_d0, q_d1, q_d2, q_d1o, q_d2o, q_a1, q_a2, q_a3, q_a5, lenOk2, lenOk1, lenOk0, fI_eq, forceL_eq, g_onD, g_onI, g_onB, g_onS, g_onM, g_onO, g_test, g_bnd, g_cons1, g_cons2, g_out, q_outr, q_eqi, q_dTup, q_lst1, hR]
  rcases rdC_cases ns b B D q.1 q.2 with h | h | ⟨t, r, h⟩
  · rw [h, h]; rfl
  · rw [h, h]
    simp only [evS_seq, evS_skip, evS_prim, evS_ifs, evS_retv, evS_whl, evS_fr, evS_frz, q_P, evC_cons, evC_nil, evC_v, evC_k, evC_un, evC_bi, evC_tr, q_s0, q_s1, q_s2, q_s3, q_s4, q_s5, q_s6, q_s7, q_s8, q_s9, q_s10, q_s11, q_p0, q_p1, q_p2, q_p3, q_p4, q_p5, q_p6, q_p7, q_p8, q_p9, q_p10, q_p11, q_read, q_readO, q_gcd, q_onD, q_onDo, q_onI, q_onB, q_onSl, q_onSt, q_onSo, q_onL, q_onLo, q_onT, q_onM, q_datD, q_datO, q_intD, dInt_eq, dBool_eq, q_cons, q_mo, bnd_some, bnd_none, q_asg, q_par2, q_asgT, q_ret, q_expr, q_brk, q_raise, q_onx, q_ort, q_obk, q_ono, q_cmp, q_ar, q_and, q_or, q_ix, q_eq, q_ne, q_max2, q_kint, q_kg, q_kbl, q_knon, q_kdT, q_lt, q_le, q_gt, q_ge, q_test, q_testN, ifB_t, ifB_f, q_neg, q_one, q_not, q_isN, q_notN, q_len, q_abs, q_seq, q_rev, q_listOf, q_tupOf, q_isInst, q_tup, q_lst, q_call, q_chain, q_ite, q_max3, q_add, q_sub, q_mul, q_div, q_mod, q_at0, q_at1, q_d0, q_d1, q_d2, q_d1o, q_d2o, q_a1, q_a2, q_a3, q_a5, lenOk2, lenOk1, lenOk0, fI_eq, forceL_eq, g_onD, g_onI, g_onB, g_onS, g_onM, g_onO, g_test, g_bnd, g_cons1, g_cons2, g_out, q_outr, q_eqi, q_dTup, q_lst1, isNon, q_nt, q_nf]
  · rw [h, h]
    simp only [rdK, evS_seq, evS_skip, evS_prim, evS_ifs, evS_retv, evS_whl, evS_fr, evS_frz, q_P, evC_cons, evC_nil, evC_v, evC_k, evC_un, evC_bi, evC_tr, q_s0, q_s1, q_s2, q_s3, q_s4, q_s5, q_s6, q_s7, q_s8, q_s9, q_s10, q_s11, q_p0, q_p1, q_p2, q_p3, q_p4, q_p5, q_p6, q_p7, q_p8, q_p9, q_p10, q_p11, q_read, q_readO, q_gcd, q_onD, q_onDo, q_onI, q_onB, q_onSl, q_onSt, q_onSo, q_onL, q_onLo, q_onT, q_onM, q_datD, q_datO, q_intD, dInt_eq, dBool_eq, q_cons, q_mo, bnd_some, bnd_none, q_asg, q_par2, q_asgT, q_ret, q_expr, q_brk, q_raise, q_onx, q_ort, q_obk, q_ono, q_cmp, q_ar, q_and, q_or, q_ix, q_eq, q_ne, q_max2, q_kint, q_kg, q_kbl, q_knon, q_kdT, q_lt, q_le, q_gt, q_ge, q_test, q_testN, ifB_t, ifB_f, q_neg, q_one, q_not, q_isN, q_notN, q_len, q_abs, q_seq, q_rev, q_listOf, q_tupOf, q_isInst, q_tup, q_lst, q_call, q_chain, q_ite, q_max3, q_add, q_sub, q_mul, q_div, q_mod, q_at0, q_at1, q_d0, q_d1, q_d2, q_d1o, q_d2o, q_a1, q_a2, q_a3, q_a5, lenOk2, lenOk1, lenOk0, fI_eq, forceL_eq, g_onD, g_onI, g_onB, g_onS, g_onM, g_onO, g_test, g_bnd, g_cons1, g_cons2, g_out, q_outr, q_eqi, q_dTup, q_lst1, isNon, q_nt, q_nf, q_app, q_ownK]
    cases lenOk acc <;> rfl
theorem a_loop (F : FT) (W : Nat) (p bd : PyData) (ns : List Int) (b B D : Int) (hR : ∀ x y, F 29 [.dat p, .dat bd, .dat (.tuple [.int x, .int y])] = rdC ns b B D x y (some (.dat .none)) rdK)
    (n bk : En → Option Out) (hn : ∀ acc o3 o4, outR (n [some (.dat p), some (.dat bd), some (.own acc), o3, o4]) = some (.own acc)) :
    ∀ (l : List PI) (acc : List PyData) (o3 o4 : Option SV), outR (onO (loopF (frB (.name 3) (evS F W abody)) (l.map prd) [some (.dat p), some (.dat bd), some (.own acc), o3, o4]) n bk) = bnd (rndsC ns b B D l acc) fun r => some (.own r)
  | [], acc, o3, o4 => hn acc o3 o4
  | q :: l, acc, o3, o4 => by
    have ih := a_loop F W p bd ns b B D hR n bk hn l
    have go : rndsC ns b B D (q :: l) acc = rdC ns b B D q.1 q.2 (rndsC ns b B D l acc) fun t r => ifB (lenOk acc) (rndsC ns b B D l (acc ++ [entP q t r])) none := rfl
    rw [go, List.map_cons, q_fcons, q_frB]
    simp only [q_p3]
    rw [a_step F W p bd ns b B D hR acc q o4]
    rcases rdC_cases ns b B D q.1 q.2 with h | h | ⟨t, r, h⟩
    · rw [h, h]; rfl
    · rw [h, h]
      simp only [evS_seq, evS_skip, evS_prim, evS_ifs, evS_retv, evS_whl, evS_fr, evS_frz, q_P, evC_cons, evC_nil, evC_v, evC_k, evC_un, evC_bi, evC_tr, q_s0, q_s1, q_s2, q_s3, q_s4, q_s5, q_s6, q_s7, q_s8, q_s9, q_s10, q_s11, q_p0, q_p1, q_p2, q_p3, q_p4, q_p5, q_p6, q_p7, q_p8, q_p9, q_p10, q_p11, q_read, q_readO, q_gcd, q_onD, q_onDo, q_onI, q_onB, q_onSl, q_onSt, q_onSo, q_onL, q_onLo, q_onT, q_onM, q_datD, q_datO, q_intD, dInt_eq, dBool_eq, q_cons, q_mo, bnd_some, bnd_none, q_asg, q_par2, q_asgT, q_ret, q_expr, q_brk, q_raise, q_onx, q_ort, q_obk, q_ono, q_cmp, q_ar, q_and, q_or, q_ix, q_eq, q_ne, q_max2, q_kint, q_kg, q_kbl, q_knon, q_kdT, q_lt, q_le, q_gt, q_ge, q_test, q_testN, ifB_t, ifB_f, q_neg, q_one, q_not, q_isN, q_notN, q_len, q_abs, q_seq, q_rev, q_listOf, q_tupOf, q_isInst, q_tup, q_lst, q_call, q_chain, q_ite, q_max3, q_add, q_sub, q_mul, q_div, q_mod, q_at0, q_at1, q_d0, q_d1, q_d2, q_d1o, q_d2o, q_a1, q_a2, q_a3, q_a5, lenOk2, lenOk1, lenOk0, fI_eq, forceL_eq, g_onD, g_onI, g_onB, g_onS, g_onM, g_onO, g_test, g_bnd, g_cons1, g_cons2, g_out, q_outr, q_eqi, q_dTup, q_lst1, ih]
    · rw [h, h]
      cases lenOk acc
      · rfl
      · simp only [evS_seq, evS_skip, evS_prim, evS_ifs, evS_retv, evS_whl, evS_fr, evS_frz, q_P, evC_cons, evC_nil, evC_v, evC_k, evC_un, evC_bi, evC_tr, q_s0, q_s1, q_s2, q_s3, q_s4, q_s5, q_s6, q_s7, q_s8, q_s9, q_s10, q_s11, q_p0, q_p1, q_p2, q_p3, q_p4, q_p5, q_p6, q_p7, q_p8, q_p9, q_p10, q_p11, q_read, q_readO, q_gcd, q_onD, q_onDo, q_onI, q_onB, q_onSl, q_onSt, q_onSo, q_onL, q_onLo, q_onT, q_onM, q_datD, q_datO, q_intD, dInt_eq, dBool_eq, q_cons, q_mo, bnd_some, bnd_none, q_asg, q_par2, q_asgT, q_ret, q_expr, q_brk, q_raise, q_onx, q_ort, q_obk, q_ono, q_cmp, q_ar, q_and, q_or, q_ix, q_eq, q_ne, q_max2, q_kint, q_kg, q_kbl, q_knon, q_kdT, q_lt, q_le, q_gt, q_ge, q_test, q_testN, ifB_t, ifB_f, q_neg, q_one, q_not, q_isN, q_notN, q_len, q_abs, q_seq, q_rev, q_listOf, q_tupOf, q_isInst, q_tup, q_lst, q_call, q_chain, q_ite, q_max3, q_add, q_sub, q_mul, q_div, q_mod, q_at0, q_at1, q_d0, q_d1, q_d2, q_d1o, q_d2o, q_a1, q_a2, q_a3, q_a5, lenOk2, lenOk1, lenOk0, fI_eq, forceL_eq, g_onD, g_onI, g_onB, g_onS, g_onM, g_onO, g_test, g_bnd, g_cons1, g_cons2, g_out, q_outr, q_eqi, q_dTup, q_lst1, ih]
theorem q_retv (i : Nat) (ρ : En) : evR i ρ = bnd (slot ρ i) fun r => some (.rt r) := by
  unfold evR
  cases slot ρ i <;> rfl
theorem tw_all (F : FT) (W : Nat) (p : PyData) (ns : List Int) (b B D : Int) {s : SV} {l : List PI} {xs : List PyData} (h1 : F 26 [.dat p] = some (.dat (.tuple [.int B, .int D]))) (h2 : F 31 [.dat (.tuple [.int B, .int D])] = some s)
    (h3 : F 32 [.dat (.tuple [.int B, .int D])] = some (.own (l.map prd))) (hR : ∀ x y, F 29 [.dat p, .dat (.tuple [.int B, .int D]), .dat (.tuple [.int x, .int y])] = rdC ns b B D x y (some (.dat .none)) rdK) (h4 : rndsC ns b B D l [] = some xs) :
    runD F W c_all_rounds [.dat p] = some (.own xs) := by
  rw [runD_go (ρ := [some (.dat p), none, none, none, none]) rfl rfl]
  unfold c_all_rounds
  simp only [evS_seq, evS_skip, evS_prim, evS_ifs, evS_retv, evS_whl, evS_fr, evS_frz, q_P, evC_cons, evC_nil, evC_v, evC_k, evC_un, evC_bi, evC_tr, q_s0, q_s1, q_s2, q_s3, q_s4, q_s5, q_s6, q_s7, q_s8, q_s9, q_s10, q_s11, q_p0, q_p1, q_p2, q_p3, q_p4, q_p5, q_p6, q_p7, q_p8, q_p9, q_p10, q_p11, q_read, q_readO, q_gcd, q_onD, q_onDo, q_onI, q_onB, q_onSl, q_onSt, q_onSo, q_onL, q_onLo, q_onT, q_onM, q_datD, q_datO, q_intD, dInt_eq, dBool_eq, q_cons, q_mo, bnd_some, bnd_none, q_asg, q_par2, q_asgT, q_ret, q_expr, q_brk, q_raise, q_onx, q_ort, q_obk, q_ono, q_cmp, q_ar, q_and, q_or, q_ix, q_eq, q_ne, q_max2, q_kint, q_kg, q_kbl, q_knon, q_kdT, q_lt, q_le, q_gt, q_ge, q_test, q_testN, ifB_t, ifB_f, q_neg, q_one, q_not, q_isN, q_notN, q_len, q_abs, q_seq, q_rev, q_listOf, q_tupOf, q_isInst, q_tup, q_lst, q_call, q_chain, q_ite, q_max3, q_add, q_sub, q_mul, q_div, q_mod, q_at0, q_at1, q_d0, q_d1, q_d2, q_d1o, q_d2o, q_a1, q_a2, q_a3, q_a5, lenOk2, lenOk1, lenOk0, fI_eq, forceL_eq, g_onD, g_onI, g_onB, g_onS, g_onM, g_onO, g_test, g_bnd, g_cons1, g_cons2, g_out, q_outr, q_eqi, q_dTup, q_lst1, h1, h2, h3, q_fr]
  have := a_loop F W p (.tuple [.int B, .int D]) ns b B D hR (evS F W (.seq (.retv 2) .skip)) (fun ρ1 => some (.bk ρ1)) (fun acc o3 o4 => by simp only [evS_seq, evS_skip, evS_prim, evS_ifs, evS_retv, evS_whl, evS_fr, evS_frz, q_P, evC_cons, evC_nil, evC_v, evC_k, evC_un, evC_bi, evC_tr, q_s0, q_s1, q_s2, q_s3, q_s4, q_s5, q_s6, q_s7, q_s8, q_s9, q_s10, q_s11, q_p0, q_p1, q_p2, q_p3, q_p4, q_p5, q_p6, q_p7, q_p8, q_p9, q_p10, q_p11, q_read, q_readO, q_gcd, q_onD, q_onDo, q_onI, q_onB, q_onSl, q_onSt, q_onSo, q_onL, q_onLo, q_onT, q_onM, q_datD, q_datO, q_intD, dInt_eq, dBool_eq, q_cons, q_mo, bnd_some, bnd_none, q_asg, q_par2, q_asgT, q_ret, q_expr, q_brk, q_raise, q_onx, q_ort, q_obk, q_ono, q_cmp, q_ar, q_and, q_or, q_ix, q_eq, q_ne, q_max2, q_kint, q_kg, q_kbl, q_knon, q_kdT, q_lt, q_le, q_gt, q_ge, q_test, q_testN, ifB_t, ifB_f, q_neg, q_one, q_not, q_isN, q_notN, q_len, q_abs, q_seq, q_rev, q_listOf, q_tupOf, q_isInst, q_tup, q_lst, q_call, q_chain, q_ite, q_max3, q_add, q_sub, q_mul, q_div, q_mod, q_at0, q_at1, q_d0, q_d1, q_d2, q_d1o, q_d2o, q_a1, q_a2, q_a3, q_a5, lenOk2, lenOk1, lenOk0, fI_eq, forceL_eq, g_onD, g_onI, g_onB, g_onS, g_onM, g_onO, g_test, g_bnd, g_cons1, g_cons2, g_out, q_outr, q_eqi, q_dTup, q_lst1, q_retv]) l [] none none
  rw [h4] at this
  exact this
/-! ### their levels, shortcuts -/
theorem f_round (n : Nat) (i : Int) (r : List Int) (b B D x y : Int) : FF (n + 4) 29 [.dat (.tuple [.list ((i :: r).map PyData.int), .int b]), .dat (.tuple [.int B, .int D]), .dat (.tuple [.int x, .int y])] = rdC (i :: r) b B D x y (some (.dat .none)) rdK :=
  tw_round (FF (n + 3)) 3000 _ _ (i :: r) b B D (fun x y => f_walk n i r b B D x y) x y
theorem f_nums (n : Nat) (B D : Int) {l : List PI} (h : allN B D = some l) : FF (n + 2) 32 [.dat (.tuple [.int B, .int D])] = some (.own (l.map prd)) := tw_nums (FF (n + 1)) 3000 (f_num n) B D h
noncomputable def sRound : Sc := fun _ as => g3 as fun a b c => gPoly a fun is d => onC is fun i r => gP b fun B D => gP c fun x y => rdC (i :: r) d B D x y (some (.dat .none)) rdK
noncomputable def sAll : Sc := fun G as => g1 as fun p => gPoly p fun is d => onC is fun i r => bnd (G 26 [.dat p]) fun z => bnd (dSV z) fun bd => gP bd fun B D => bnd (G 31 [.dat bd]) fun _ => bnd (allN B D) fun l => bnd (rndsC (i :: r) d B D l []) fun xs => some (.own xs)
theorem sRound_ok : ScOk 29 sRound := fun n as r h => by
  obtain ⟨a, b, c, rfl, h1⟩ := g3_some h
  obtain ⟨is, d, rfl, h2⟩ := gPoly_some h1
  obtain ⟨i, l, rfl, h3⟩ := onC_some h2
  obtain ⟨B, D, rfl, h4⟩ := gP_some h3
  obtain ⟨x, y, rfl, h5⟩ := gP_some h4
  rw [← h5]
  exact f_round n i l d B D x y
/-- right from a level on -/
def ScOk2 (f : Nat) (s : Sc) : Prop := ∀ n as r, s (FF (n + 4)) as = some r → FF (n + 5) f as = some r
theorem sAll_ok : ScOk2 33 sAll := fun n as r h => by
  obtain ⟨p, rfl, h1⟩ := g1_some h
  obtain ⟨is, d, rfl, h2⟩ := gPoly_some h1
  obtain ⟨i, l, rfl, h3⟩ := onC_some h2
  obtain ⟨z, e1, h4⟩ := bnd_inv h3
  obtain ⟨bd, e2, h5⟩ := bnd_inv h4
  obtain ⟨B, D, rfl, h6⟩ := gP_some h5
  obtain ⟨y, e3, h7⟩ := bnd_inv h6
  obtain ⟨ps, e4, h8⟩ := bnd_inv h7
  obtain ⟨xs, e5, h9⟩ := bnd_inv h8
  cases h9
  rw [dSV_some e2] at e1
  exact tw_all (FF (n + 4)) 3000 _ (i :: l) d B D e1 e3 (f_nums (n + 2) B D e4) (fun x y => f_round n i l d B D x y) e5
end SW.X
set_option Elab.async false
set_option linter.all false
set_option maxRecDepth 100000
set_option maxHeartbeats 1000000
/-! Tw6: the evaluator with shortcuts. -/
namespace SW.X
open PySem
theorem ScOk.up {f : Nat} {s : Sc} (h : ScOk f s) : ScOk2 f s := fun n as r e => h (n + 1) as r e
/-- the shortcut of a def -/
noncomputable def S1 (f : Nat) : Option Sc := at_ f 0 sFrom (at_ f 1 sIsnum (at_ f 6 sNum (at_ f 9 sLess (at_ f 105 sLess (at_ f 27 sWithin (at_ f 17 sVal (at_ f 28 sWalk (at_ f 29 sRound (at_ f 33 sAll none)))))))))
theorem S1_ok (f : Nat) : ∀ z, S1 f = some z → ScOk2 f z := at_ok sFrom_ok.up (at_ok sIsnum_ok.up (at_ok sNum_ok.up (at_ok sBelow_ok.up (at_ok sLess_ok.up (at_ok sWithin_ok.up (at_ok sVal_ok.up (at_ok sWalk_ok.up (at_ok sRound_ok.up (at_ok sAll_ok (no_ok ScOk2 f))))))))))
/-- the calls, with shortcuts -/
noncomputable def Fm (T : Nat → Option Sc) (k : Nat) : FT := Nat.rec (motive := fun _ => FT) (fun _ _ => none) (fun n ih f bs =>
  match (match ifB (Nat.ble 4 n) (T f) none with
    | some s => s ih bs
    | none => none) with
  | some r => some r
  | none => match tD f with
    | none => ifB (Nat.beq f 110) (likeE bs) none
    | some d => runD ih 3000 d bs) k
theorem FF_succ (n f : Nat) (as : List SV) : FF (n + 1) f as = match tD f with
    | none => ifB (Nat.beq f 110) (likeE as) none
    | some d => runD (FF n) 3000 d as := rfl
theorem Fm_eq {T : Nat → Option Sc} (h : ∀ f z, T f = some z → ScOk2 f z) : ∀ k, Fm T k = FF k
  | 0 => rfl
  | n + 1 => by
    have ih := Fm_eq h n
    funext f as
    show (match (match ifB (Nat.ble 4 n) (T f) none with
        | some s => s (Fm T n) as
        | none => none) with
      | some r => some r
      | none => match tD f with
        | none => ifB (Nat.beq f 110) (likeE as) none
        | some d => runD (Fm T n) 3000 d as) = _
    rw [ih]
    cases b : Nat.ble 4 n with
    | false => rfl
    | true =>
      have hn : 4 ≤ n := Nat.ble_eq.mp b
      obtain ⟨m, rfl⟩ : ∃ m, n = m + 4 := ⟨n - 4, by omega⟩
      simp only [ifB_t]
      cases q : T f with
      | none => rfl
      | some s =>
        cases e : s (FF (m + 4)) as with
        | none => simp only [e]; rfl
        | some r => simp only [e]; exact (h f s q m as r e).symm
end SW.X
set_option Elab.async false
set_option linter.all false
set_option maxRecDepth 100000
set_option maxHeartbeats 1000000
/-! Tw7: times_so, reduced, put_in. -/
namespace SW.X
open PySem
def il (xs : List Int) : List PyData := xs.map PyData.int
theorem il_cons (x : Int) (xs : List Int) : il (x :: xs) = .int x :: il xs := rfl
theorem il_nil : il [] = [] := rfl
theorem lng_il (xs : List Int) : lng (il xs) = lng xs := lng_map _ _
theorem nth_il (xs : List Int) (n : Nat) : nth (il xs) n = bnd (nth xs n) fun x => some (.int x) := by
  rw [nth_eq, nth_eq, il, List.getElem?_map]
  cases xs[n]? <;> rfl
theorem put_il (xs : List Int) (n : Nat) (x : Int) : put (il xs) n (.int x) = il (put xs n x) := by
  rw [put_eq, put_eq, il, il, List.map_set]
theorem nth_lt {α : Type} {xs : List α} {n : Nat} {x : α} (h : nth xs n = some x) : Nat.ble (Nat.succ n) (lng xs) = true := by
  rw [nth_eq] at h
  rw [lng_eq]
  obtain ⟨h, _⟩ := List.getElem?_eq_some_iff.mp h
  exact Nat.ble_eq.mpr h
theorem noB_il (n : Nat) (xs : List Int) : (il xs).all (noB n) = true := noB_ints n xs
theorem eq_nil (xs : List Int) : eqD (.list (il xs)) (.list []) = some (List.isEmpty xs) := by
  cases xs with
  | nil => rfl
  | cons i r => exact q_nenil i r
theorem q_frP (i j : Nat) (b : En → Option Out) (x y : PyData) (ρ : En) : frB (.pair (.name i) (.name j)) b (.tuple [x, y]) ρ = b (put (put ρ i (some (.dat x))) j (some (.dat y))) := by
  unfold frB
  show (match (match bindT (.name i) x ρ with | none => none | some ρ1 => bindT (.name j) y ρ1) with | none => none | some ρ1 => b ρ1) = _
  rw [q_bind]
  show (match bindT (.name j) y _ with | none => none | some ρ1 => b ρ1) = _
  rw [q_bind]
section
variable (F : FT) (W : Nat) (a b : Ev1) (pk : Bool) (ρ : En)
theorem q_setL (i j : Nat) (d : PyData) : opP F W (.setL i) [.dat d, .dat (.int (.ofNat j))] ρ = ownK (slot ρ i) fun xs => ifB (Nat.ble (Nat.succ j) (lng xs)) (some (.nx (put ρ i (some (.own (put xs j d)))))) none := by
  show onOwn ρ i _ = _
  unfold onOwn ownK
  cases slot ρ i with
  | none => rfl
  | some r =>
    show (match ownOf r with | some xs => _ | none => none) = (match ownOf r with | some xs => _ | none => none)
    cases ownOf r with
    | none => rfl
    | some xs =>
      show (match (match Nat.ble (Nat.succ j) (lng xs) with | true => some j | false => none) with | none => none | some j => forceL (put xs j d) fun ys => nxF (put ρ i (some (.own ys)))) = ifB (Nat.ble (Nat.succ j) (lng xs)) _ none
      cases Nat.ble (Nat.succ j) (lng xs)
      · rfl
      · show forceL (put xs j d) (fun ys => nxF (put ρ i (some (.own ys)))) = _
        rw [forceL_eq]
        unfold nxF
        rw [forceL_eq]
        rfl
noncomputable def repR (xs : List PyData) (k : Int) : Option SV := match k, xs with
  | .ofNat n, [x] => match Nat.ble n 100000 with
    | true => some (.own (List.replicate n x))
    | false => none
  | _, _ => none
theorem q_rep : opB .rep a b ρ = onL (a true ρ) fun xs => onI (b false ρ) fun k => repR xs k := rfl
theorem repR_n (n : Nat) (x : PyData) : repR [x] (.ofNat n) = ifB (Nat.ble n 100000) (some (.own (List.replicate n x))) none := by
  show (match Nat.ble n 100000 with | true => _ | false => none) = _
  cases Nat.ble n 100000 <;> rfl
theorem q_enum : opU F .enum a pk ρ = onS (a pk ρ) fun xs => dLst (enumL 0 xs) := rfl
theorem q_par3 (u v w : Nat) (r s t : SV) : opP F W (.par3 u v w) [r, s, t] ρ = some (.nx (put (put (put ρ u (some r)) v (some s)) w (some t))) := by
  show nxF _ = _
  unfold nxF
  rw [forceL_eq]
end
/-! ### times_so -/
noncomputable def inC (a : Int) (ys : List Int) : Nat → List Int → Option (List Int) :=
  List.rec (motive := fun _ => Nat → List Int → Option (List Int)) (fun _ f => some f) (fun y _ ih i f => mulC a y fun m => bnd (nth f i) fun f0 => fI (Int.add f0 m) fun s => forceL (put f i s) fun f1 => ih (Nat.succ i) f1) ys
noncomputable def ouC (ys xs : List Int) : Nat → List Int → Option (List Int) :=
  List.rec (motive := fun _ => Nat → List Int → Option (List Int)) (fun _ f => some f) (fun x _ ih i f => ifB (eqI x 0) (ih (Nat.succ i) f) (bnd (inC x ys i f) fun f1 => ih (Nat.succ i) f1)) xs
noncomputable def tsC (xs ys : List Int) : Option (List Int) := List.rec (motive := fun _ => Option (List Int)) (some []) (fun x xr _ => List.rec (motive := fun _ => Option (List Int)) (some []) (fun y yr _ =>
  forceN (Nat.add (Nat.succ (lng xr)) (lng yr)) fun n => ifB (Nat.ble n 100000) (ouC (y :: yr) (x :: xr) 0 (List.replicate n 0)) none) ys) xs
def ibody : S := (.seq (.prim (.setL 2) (.cons (.bi (.ar .add) (.bi .ix (.v 2) (.bi (.ar .add) (.v 3) (.v 5))) (.bi (.ar .mul) (.v 4) (.v 6))) (.cons (.bi (.ar .add) (.v 3) (.v 5)) .nil)))
      .skip)
theorem addN (n m : Nat) : Int.add (.ofNat n) (.ofNat m) = .ofNat (n + m) := rfl
theorem atI_n {α : Type} (xs : List α) (n : Nat) : atI xs (.ofNat n) = nth xs n := rfl
theorem i_step (F : FT) (W : Nat) (A B : Option SV) (f : List Int) (n k : Nat) (a y : Int) : evS F W ibody [A, B, some (.own (il f)), some (.dat (.int (.ofNat n))), some (.dat (.int a)), some (.dat (.int (.ofNat k))), some (.dat (.int y))] =
    mulC a y fun m => bnd (nth f (n + k)) fun f0 => some (.nx [A, B, some (.own (il (put f (n + k) (Int.add f0 m)))), some (.dat (.int (.ofNat n))), some (.dat (.int a)), some (.dat (.int (.ofNat k))), some (.dat (.int y))]) := by
  unfold ibody mulC
  cases e : nth f (n + k) with
  | none =>
    simp only [evS_seq, evS_skip, evS_prim, evS_ifs, evS_retv, evS_whl, evS_fr, evS_frz, q_P, evC_cons, evC_nil, evC_v, evC_k, evC_un, evC_bi, evC_tr, q_s0, q_s1, q_s2, q_s3, q_s4, q_s5, q_s6, q_s7, q_s8, q_s9, q_s10, q_s11, q_p0, q_p1, q_p2, q_p3, q_p4, q_p5, q_p6, q_p7, q_p8, q_p9, q_p10, q_p11, q_read, q_readO, q_gcd, q_onD, q_onDo, q_onI, q_onB, q_onSl, q_onSt, q_onSo, q_onL, q_onLo, q_onT, q_onM, q_datD, q_datO, q_intD, dInt_eq, dBool_eq, q_cons, q_mo, bnd_some, bnd_none, q_asg, q_par2, q_asgT, q_ret, q_expr, q_brk, q_raise, q_onx, q_ort, q_obk, q_ono, q_cmp, q_ar, q_and, q_or, q_ix, q_eq, q_ne, q_max2, q_kint, q_kg, q_kbl, q_knon, q_kdT, q_lt, q_le, q_gt, q_ge, q_test, q_testN, ifB_t, ifB_f, q_neg, q_one, q_not, q_isN, q_notN, q_len, q_abs, q_seq, q_rev, q_listOf, q_tupOf, q_isInst, q_tup, q_lst, q_call, q_chain, q_ite, q_max3, q_add, q_sub, q_mul, q_div, q_mod, q_at0, q_at1, q_d0, q_d1, q_d2, q_d1o, q_d2o, q_a1, q_a2, q_a3, q_a5, lenOk2, lenOk1, lenOk0, fI_eq, forceL_eq, g_onD, g_onI, g_onB, g_onS, g_onM, g_onO, g_test, g_bnd, g_cons1, g_cons2, g_out, q_outr, q_eqi, q_dTup, q_lst1, addN, atI_n, nth_il, e]
    cases mulOk a y <;> rfl
  | some f0 =>
    have hl := nth_lt e
    simp only [evS_seq, evS_skip, evS_prim, evS_ifs, evS_retv, evS_whl, evS_fr, evS_frz, q_P, evC_cons, evC_nil, evC_v, evC_k, evC_un, evC_bi, evC_tr, q_s0, q_s1, q_s2, q_s3, q_s4, q_s5, q_s6, q_s7, q_s8, q_s9, q_s10, q_s11, q_p0, q_p1, q_p2, q_p3, q_p4, q_p5, q_p6, q_p7, q_p8, q_p9, q_p10, q_p11, q_read, q_readO, q_gcd, q_onD, q_onDo, q_onI, q_onB, q_onSl, q_onSt, q_onSo, q_onL, q_onLo, q_onT, q_onM, q_datD, q_datO, q_intD, dInt_eq, dBool_eq, q_cons, q_mo, bnd_some, bnd_none, q_asg, q_par2, q_asgT, q_ret, q_expr, q_brk, q_raise, q_onx, q_ort, q_obk, q_ono, q_cmp, q_ar, q_and, q_or, q_ix, q_eq, q_ne, q_max2, q_kint, q_kg, q_kbl, q_knon, q_kdT, q_lt, q_le, q_gt, q_ge, q_test, q_testN, ifB_t, ifB_f, q_neg, q_one, q_not, q_isN, q_notN, q_len, q_abs, q_seq, q_rev, q_listOf, q_tupOf, q_isInst, q_tup, q_lst, q_call, q_chain, q_ite, q_max3, q_add, q_sub, q_mul, q_div, q_mod, q_at0, q_at1, q_d0, q_d1, q_d2, q_d1o, q_d2o, q_a1, q_a2, q_a3, q_a5, lenOk2, lenOk1, lenOk0, fI_eq, forceL_eq, g_onD, g_onI, g_onB, g_onS, g_onM, g_onO, g_test, g_bnd, g_cons1, g_cons2, g_out, q_outr, q_eqi, q_dTup, q_lst1, addN, atI_n, nth_il, e, q_setL, q_ownK, lng_il, hl, put_il, fI_eq]
theorem i_loop (F : FT) (W : Nat) (A B : Option SV) (n : Nat) (a : Int) : ∀ (ys : List Int) (k : Nat) (f : List Int) (o5 o6 : Option SV), ∃ p5 p6,
    loopF (frB (.pair (.name 5) (.name 6)) (evS F W ibody)) (enumL k (il ys)) [A, B, some (.own (il f)), some (.dat (.int (.ofNat n))), some (.dat (.int a)), o5, o6] = bnd (inC a ys (n + k) f) fun g => some (.nx [A, B, some (.own (il g)), some (.dat (.int (.ofNat n))), some (.dat (.int a)), p5, p6])
  | [], k, f, o5, o6 => ⟨o5, o6, rfl⟩
  | y :: ys, k, f, o5, o6 => by
    have go : inC a (y :: ys) (n + k) f = mulC a y fun m => bnd (nth f (n + k)) fun f0 => fI (Int.add f0 m) fun s => forceL (put f (n + k) s) fun f1 => inC a ys (n + (k + 1)) f1 := rfl
    rw [go, il_cons]
    show ∃ p5 p6, onO (frB _ _ (.tuple [.int (.ofNat k), .int y]) _) _ _ = _
    simp only [q_frP, q_p5, q_p6, i_step]
    rcases mulC_cases a y with ⟨h, _⟩ | ⟨h, _⟩
    · exact ⟨none, none, by rw [h, h]; rfl⟩
    · rw [h, h]
      cases nth f (n + k) with
      | none => exact ⟨none, none, rfl⟩
      | some f0 =>
        obtain ⟨p5, p6, e⟩ := i_loop F W A B n a ys (k + 1) (put f (n + k) (Int.add f0 (Int.mul a y))) (some (.dat (.int (.ofNat k)))) (some (.dat (.int y)))
        refine ⟨p5, p6, ?_⟩
        simp only [bnd_some, fI_eq, forceL_eq]
        exact e
def obody : S := (.seq (.ifs (.bi .ne (.v 4) (.k (.int 0))) (.seq (.fr (.pair (.name 5) (.name 6)) (.un .enum (.v 1)) ibody)
      .skip) .skip)
      .skip)
theorem o_step (F : FT) (W : Nat) (A : Option SV) (ys f : List Int) (n : Nat) (a : Int) (o5 o6 : Option SV) : ∃ p5 p6,
    evS F W obody [A, some (.dat (.list (il ys))), some (.own (il f)), some (.dat (.int (.ofNat n))), some (.dat (.int a)), o5, o6] =
      bnd (ifB (eqI a 0) (some f) (inC a ys n f)) fun g => some (.nx [A, some (.dat (.list (il ys))), some (.own (il g)), some (.dat (.int (.ofNat n))), some (.dat (.int a)), p5, p6]) := by
  unfold obody
  cases h : eqI a 0 with
  | true => exact ⟨o5, o6, by simp only [evS_seq, evS_skip, evS_prim, evS_ifs, evS_retv, evS_whl, evS_fr, evS_frz, q_P, evC_cons, evC_nil, evC_v, evC_k, evC_un, evC_bi, evC_tr, q_s0, q_s1, q_s2, q_s3, q_s4, q_s5, q_s6, q_s7, q_s8, q_s9, q_s10, q_s11, q_p0, q_p1, q_p2, q_p3, q_p4, q_p5, q_p6, q_p7, q_p8, q_p9, q_p10, q_p11, q_read, q_readO, q_gcd, q_onD, q_onDo, q_onI, q_onB, q_onSl, q_onSt, q_onSo, q_onL, q_onLo, q_onT, q_onM, q_datD, q_datO, q_intD, dInt_eq, dBool_eq, q_cons, q_mo, bnd_some, bnd_none, q_asg, q_par2, q_asgT, q_ret, q_expr, q_brk, q_raise, q_onx, q_ort, q_obk, q_ono, q_cmp, q_ar, q_and, q_or, q_ix, q_eq, q_ne, q_max2, q_kint, q_kg, q_kbl, q_knon, q_kdT, q_lt, q_le, q_gt, q_ge, q_test, q_testN, ifB_t, ifB_f, q_neg, q_one, q_not, q_isN, q_notN, q_len, q_abs, q_seq, q_rev, q_listOf, q_tupOf, q_isInst, q_tup, q_lst, q_call, q_chain, q_ite, q_max3, q_add, q_sub, q_mul, q_div, q_mod, q_at0, q_at1, q_d0, q_d1, q_d2, q_d1o, q_d2o, q_a1, q_a2, q_a3, q_a5, lenOk2, lenOk1, lenOk0, fI_eq, forceL_eq, g_onD, g_onI, g_onB, g_onS, g_onM, g_onO, g_test, g_bnd, g_cons1, g_cons2, g_out, q_outr, q_eqi, q_dTup, q_lst1, q_nt, h]⟩
  | false =>
    obtain ⟨p5, p6, e⟩ := i_loop F W A (some (.dat (.list (il ys)))) n a ys 0 f o5 o6
    refine ⟨p5, p6, ?_⟩
    have e : loopF (frB (.pair (.name 5) (.name 6)) (evS F W ibody)) (enumL 0 (il ys)) [A, some (.dat (.list (il ys))), some (.own (il f)), some (.dat (.int (.ofNat n))), some (.dat (.int a)), o5, o6] = bnd (inC a ys n f) _ := e
    simp only [evS_seq, evS_skip, evS_prim, evS_ifs, evS_retv, evS_whl, evS_fr, evS_frz, q_P, evC_cons, evC_nil, evC_v, evC_k, evC_un, evC_bi, evC_tr, q_s0, q_s1, q_s2, q_s3, q_s4, q_s5, q_s6, q_s7, q_s8, q_s9, q_s10, q_s11, q_p0, q_p1, q_p2, q_p3, q_p4, q_p5, q_p6, q_p7, q_p8, q_p9, q_p10, q_p11, q_read, q_readO, q_gcd, q_onD, q_onDo, q_onI, q_onB, q_onSl, q_onSt, q_onSo, q_onL, q_onLo, q_onT, q_onM, q_datD, q_datO, q_intD, dInt_eq, dBool_eq, q_cons, q_mo, bnd_some, bnd_none, q_asg, q_par2, q_asgT, q_ret, q_expr, q_brk, q_raise, q_onx, q_ort, q_obk, q_ono, q_cmp, q_ar, q_and, q_or, q_ix, q_eq, q_ne, q_max2, q_kint, q_kg, q_kbl, q_knon, q_kdT, q_lt, q_le, q_gt, q_ge, q_test, q_testN, ifB_t, ifB_f, q_neg, q_one, q_not, q_isN, q_notN, q_len, q_abs, q_seq, q_rev, q_listOf, q_tupOf, q_isInst, q_tup, q_lst, q_call, q_chain, q_ite, q_max3, q_add, q_sub, q_mul, q_div, q_mod, q_at0, q_at1, q_d0, q_d1, q_d2, q_d1o, q_d2o, q_a1, q_a2, q_a3, q_a5, lenOk2, lenOk1, lenOk0, fI_eq, forceL_eq, g_onD, g_onI, g_onB, g_onS, g_onM, g_onO, g_test, g_bnd, g_cons1, g_cons2, g_out, q_outr, q_eqi, q_dTup, q_lst1, q_nf, h, q_fr, q_enum, e]
    cases inC a ys n f <;> rfl
theorem o_loop (F : FT) (W : Nat) (A : Option SV) (ys : List Int) : ∀ (xs : List Int) (n : Nat) (f : List Int) (o3 o4 o5 o6 : Option SV), ∃ p3 p4 p5 p6,
    loopF (frB (.pair (.name 3) (.name 4)) (evS F W obody)) (enumL n (il xs)) [A, some (.dat (.list (il ys))), some (.own (il f)), o3, o4, o5, o6] = bnd (ouC ys xs n f) fun g => some (.nx [A, some (.dat (.list (il ys))), some (.own (il g)), p3, p4, p5, p6])
  | [], n, f, o3, o4, o5, o6 => ⟨o3, o4, o5, o6, rfl⟩
  | x :: xs, n, f, o3, o4, o5, o6 => by
    have go : ouC ys (x :: xs) n f = ifB (eqI x 0) (ouC ys xs (n + 1) f) (bnd (inC x ys n f) fun f1 => ouC ys xs (n + 1) f1) := rfl
    rw [go, il_cons]
    show ∃ p3 p4 p5 p6, onO (frB _ _ (.tuple [.int (.ofNat n), .int x]) _) _ _ = _
    simp only [q_frP, q_p3, q_p4]
    obtain ⟨p5, p6, e⟩ := o_step F W A ys f n x o5 o6
    rw [e]
    cases h : eqI x 0 with
    | true =>
      obtain ⟨q3, q4, q5, q6, e2⟩ := o_loop F W A ys xs (n + 1) f (some (.dat (.int (.ofNat n)))) (some (.dat (.int x))) p5 p6
      exact ⟨q3, q4, q5, q6, e2⟩
    | false =>
      cases inC x ys n f with
      | none => exact ⟨none, none, none, none, rfl⟩
      | some g =>
        obtain ⟨q3, q4, q5, q6, e2⟩ := o_loop F W A ys xs (n + 1) g (some (.dat (.int (.ofNat n)))) (some (.dat (.int x))) p5 p6
        exact ⟨q3, q4, q5, q6, e2⟩
theorem subN (n m : Nat) : Int.sub (Int.add (.ofNat (n + 1)) (.ofNat (m + 1))) 1 = .ofNat (n + 1 + m) := by
  show ((n + 1 : Nat) : Int) + ((m + 1 : Nat) : Int) - 1 = ((n + 1 + m : Nat) : Int)
  omega
theorem rep_il (n : Nat) : List.replicate n (PyData.int 0) = il (List.replicate n 0) := by rw [il, List.map_replicate]
theorem tw_times (F : FT) (W : Nat) (xs ys : List Int) : runD F W c_times_so [.dat (.list (il xs)), .dat (.list (il ys))] = bnd (tsC xs ys) fun f => some (.own (il f)) := by
  rw [runD_go (ρ := [some (.dat (.list (il xs))), some (.dat (.list (il ys))), none, none, none, none, none]) rfl rfl]
  unfold c_times_so
  cases xs with
  | nil => simp only [evS_seq, evS_skip, evS_prim, evS_ifs, evS_retv, evS_whl, evS_fr, evS_frz, q_P, evC_cons, evC_nil, evC_v, evC_k, evC_un, evC_bi, evC_tr, q_s0, q_s1, q_s2, q_s3, q_s4, q_s5, q_s6, q_s7, q_s8, q_s9, q_s10, q_s11, q_p0, q_p1, q_p2, q_p3, q_p4, q_p5, q_p6, q_p7, q_p8, q_p9, q_p10, q_p11, q_read, q_readO, q_gcd, q_onD, q_onDo, q_onI, q_onB, q_onSl, q_onSt, q_onSo, q_onL, q_onLo, q_onT, q_onM, q_datD, q_datO, q_intD, dInt_eq, dBool_eq, q_cons, q_mo, bnd_some, bnd_none, q_asg, q_par2, q_asgT, q_ret, q_expr, q_brk, q_raise, q_onx, q_ort, q_obk, q_ono, q_cmp, q_ar, q_and, q_or, q_ix, q_eq, q_ne, q_max2, q_kint, q_kg, q_kbl, q_knon, q_kdT, q_lt, q_le, q_gt, q_ge, q_test, q_testN, ifB_t, ifB_f, q_neg, q_one, q_not, q_isN, q_notN, q_len, q_abs, q_seq, q_rev, q_listOf, q_tupOf, q_isInst, q_tup, q_lst, q_call, q_chain, q_ite, q_max3, q_add, q_sub, q_mul, q_div, q_mod, q_at0, q_at1, q_d0, q_d1, q_d2, q_d1o, q_d2o, q_a1, q_a2, q_a3, q_a5, lenOk2, lenOk1, lenOk0, fI_eq, forceL_eq, g_onD, g_onI, g_onB, g_onS, g_onM, g_onO, g_test, g_bnd, g_cons1, g_cons2, g_out, q_outr, q_eqi, q_dTup, q_lst1, eq_nil, List.isEmpty]; rfl
  | cons x xr =>
    cases ys with
    | nil => simp only [evS_seq, evS_skip, evS_prim, evS_ifs, evS_retv, evS_whl, evS_fr, evS_frz, q_P, evC_cons, evC_nil, evC_v, evC_k, evC_un, evC_bi, evC_tr, q_s0, q_s1, q_s2, q_s3, q_s4, q_s5, q_s6, q_s7, q_s8, q_s9, q_s10, q_s11, q_p0, q_p1, q_p2, q_p3, q_p4, q_p5, q_p6, q_p7, q_p8, q_p9, q_p10, q_p11, q_read, q_readO, q_gcd, q_onD, q_onDo, q_onI, q_onB, q_onSl, q_onSt, q_onSo, q_onL, q_onLo, q_onT, q_onM, q_datD, q_datO, q_intD, dInt_eq, dBool_eq, q_cons, q_mo, bnd_some, bnd_none, q_asg, q_par2, q_asgT, q_ret, q_expr, q_brk, q_raise, q_onx, q_ort, q_obk, q_ono, q_cmp, q_ar, q_and, q_or, q_ix, q_eq, q_ne, q_max2, q_kint, q_kg, q_kbl, q_knon, q_kdT, q_lt, q_le, q_gt, q_ge, q_test, q_testN, ifB_t, ifB_f, q_neg, q_one, q_not, q_isN, q_notN, q_len, q_abs, q_seq, q_rev, q_listOf, q_tupOf, q_isInst, q_tup, q_lst, q_call, q_chain, q_ite, q_max3, q_add, q_sub, q_mul, q_div, q_mod, q_at0, q_at1, q_d0, q_d1, q_d2, q_d1o, q_d2o, q_a1, q_a2, q_a3, q_a5, lenOk2, lenOk1, lenOk0, fI_eq, forceL_eq, g_onD, g_onI, g_onB, g_onS, g_onM, g_onO, g_test, g_bnd, g_cons1, g_cons2, g_out, q_outr, q_eqi, q_dTup, q_lst1, eq_nil, List.isEmpty]; rfl
    | cons y yr =>
      have e1 : lng (il (x :: xr)) = lng xr + 1 := by rw [lng_il]; rfl
      have e2 : lng (il (y :: yr)) = lng yr + 1 := by rw [lng_il]; rfl
      have go : tsC (x :: xr) (y :: yr) = forceN (lng xr + 1 + lng yr) fun n => ifB (Nat.ble n 100000) (ouC (y :: yr) (x :: xr) 0 (List.replicate n 0)) none := rfl
      rw [go, forceN_eq]
      cases h : Nat.ble (lng xr + 1 + lng yr) 100000 with
      | false =>
        simp only [evS_seq, evS_skip, evS_prim, evS_ifs, evS_retv, evS_whl, evS_fr, evS_frz, q_P, evC_cons, evC_nil, evC_v, evC_k, evC_un, evC_bi, evC_tr, q_s0, q_s1, q_s2, q_s3, q_s4, q_s5, q_s6, q_s7, q_s8, q_s9, q_s10, q_s11, q_p0, q_p1, q_p2, q_p3, q_p4, q_p5, q_p6, q_p7, q_p8, q_p9, q_p10, q_p11, q_read, q_readO, q_gcd, q_onD, q_onDo, q_onI, q_onB, q_onSl, q_onSt, q_onSo, q_onL, q_onLo, q_onT, q_onM, q_datD, q_datO, q_intD, dInt_eq, dBool_eq, q_cons, q_mo, bnd_some, bnd_none, q_asg, q_par2, q_asgT, q_ret, q_expr, q_brk, q_raise, q_onx, q_ort, q_obk, q_ono, q_cmp, q_ar, q_and, q_or, q_ix, q_eq, q_ne, q_max2, q_kint, q_kg, q_kbl, q_knon, q_kdT, q_lt, q_le, q_gt, q_ge, q_test, q_testN, ifB_t, ifB_f, q_neg, q_one, q_not, q_isN, q_notN, q_len, q_abs, q_seq, q_rev, q_listOf, q_tupOf, q_isInst, q_tup, q_lst, q_call, q_chain, q_ite, q_max3, q_add, q_sub, q_mul, q_div, q_mod, q_at0, q_at1, q_d0, q_d1, q_d2, q_d1o, q_d2o, q_a1, q_a2, q_a3, q_a5, lenOk2, lenOk1, lenOk0, fI_eq, forceL_eq, g_onD, g_onI, g_onB, g_onS, g_onM, g_onO, g_test, g_bnd, g_cons1, g_cons2, g_out, q_outr, q_eqi, q_dTup, q_lst1, eq_nil, List.isEmpty, e1, e2, subN, q_rep, repR_n, h]
        rfl
      | true =>
        obtain ⟨p3, p4, p5, p6, e⟩ := o_loop F W (some (.dat (.list (il (x :: xr))))) (y :: yr) (x :: xr) 0 (List.replicate (lng xr + 1 + lng yr) 0) none none none none
        simp only [evS_seq, evS_skip, evS_prim, evS_ifs, evS_retv, evS_whl, evS_fr, evS_frz, q_P, evC_cons, evC_nil, evC_v, evC_k, evC_un, evC_bi, evC_tr, q_s0, q_s1, q_s2, q_s3, q_s4, q_s5, q_s6, q_s7, q_s8, q_s9, q_s10, q_s11, q_p0, q_p1, q_p2, q_p3, q_p4, q_p5, q_p6, q_p7, q_p8, q_p9, q_p10, q_p11, q_read, q_readO, q_gcd, q_onD, q_onDo, q_onI, q_onB, q_onSl, q_onSt, q_onSo, q_onL, q_onLo, q_onT, q_onM, q_datD, q_datO, q_intD, dInt_eq, dBool_eq, q_cons, q_mo, bnd_some, bnd_none, q_asg, q_par2, q_asgT, q_ret, q_expr, q_brk, q_raise, q_onx, q_ort, q_obk, q_ono, q_cmp, q_ar, q_and, q_or, q_ix, q_eq, q_ne, q_max2, q_kint, q_kg, q_kbl, q_knon, q_kdT, q_lt, q_le, q_gt, q_ge, q_test, q_testN, ifB_t, ifB_f, q_neg, q_one, q_not, q_isN, q_notN, q_len, q_abs, q_seq, q_rev, q_listOf, q_tupOf, q_isInst, q_tup, q_lst, q_call, q_chain, q_ite, q_max3, q_add, q_sub, q_mul, q_div, q_mod, q_at0, q_at1, q_d0, q_d1, q_d2, q_d1o, q_d2o, q_a1, q_a2, q_a3, q_a5, lenOk2, lenOk1, lenOk0, fI_eq, forceL_eq, g_onD, g_onI, g_onB, g_onS, g_onM, g_onO, g_test, g_bnd, g_cons1, g_cons2, g_out, q_outr, q_eqi, q_dTup, q_lst1, eq_nil, List.isEmpty, e1, e2, subN, q_rep, repR_n, h, rep_il, q_fr, q_enum]
        show outR (onO (loopF (frB (.pair (.name 3) (.name 4)) (evS F W obody)) _ _) _ _) = _
        rw [e]
        cases ouC (y :: yr) (x :: xr) 0 (List.replicate (lng xr + 1 + lng yr) 0) with
        | none => rfl
        | some g => simp only [evS_seq, evS_skip, evS_prim, evS_ifs, evS_retv, evS_whl, evS_fr, evS_frz, q_P, evC_cons, evC_nil, evC_v, evC_k, evC_un, evC_bi, evC_tr, q_s0, q_s1, q_s2, q_s3, q_s4, q_s5, q_s6, q_s7, q_s8, q_s9, q_s10, q_s11, q_p0, q_p1, q_p2, q_p3, q_p4, q_p5, q_p6, q_p7, q_p8, q_p9, q_p10, q_p11, q_read, q_readO, q_gcd, q_onD, q_onDo, q_onI, q_onB, q_onSl, q_onSt, q_onSo, q_onL, q_onLo, q_onT, q_onM, q_datD, q_datO, q_intD, dInt_eq, dBool_eq, q_cons, q_mo, bnd_some, bnd_none, q_asg, q_par2, q_asgT, q_ret, q_expr, q_brk, q_raise, q_onx, q_ort, q_obk, q_ono, q_cmp, q_ar, q_and, q_or, q_ix, q_eq, q_ne, q_max2, q_kint, q_kg, q_kbl, q_knon, q_kdT, q_lt, q_le, q_gt, q_ge, q_test, q_testN, ifB_t, ifB_f, q_neg, q_one, q_not, q_isN, q_notN, q_len, q_abs, q_seq, q_rev, q_listOf, q_tupOf, q_isInst, q_tup, q_lst, q_call, q_chain, q_ite, q_max3, q_add, q_sub, q_mul, q_div, q_mod, q_at0, q_at1, q_d0, q_d1, q_d2, q_d1o, q_d2o, q_a1, q_a2, q_a3, q_a5, lenOk2, lenOk1, lenOk0, fI_eq, forceL_eq, g_onD, g_onI, g_onB, g_onS, g_onM, g_onO, g_test, g_bnd, g_cons1, g_cons2, g_out, q_outr, q_eqi, q_dTup, q_lst1, q_retv]
/-! ### reduced -/
noncomputable def stC (ns : List Int) (m : Nat) : Option Nat := Nat.rec (motive := fun _ => Option Nat) (some 0) (fun m ih => bnd (nth ns m) fun x => ifB (eqI x 0) ih (some (Nat.succ m))) m
noncomputable def gdC (xs : List Int) : Nat → Nat := List.rec (motive := fun _ => Nat → Nat) (fun g => g) (fun x _ ih g => forceN (Nat.gcd g (absN x)) ih) xs
noncomputable def dvC (g : Int) (xs : List Int) : Option (List Int) := List.rec (motive := fun _ => Option (List Int)) (some []) (fun x _ ih => divC x g fun u => bnd ih fun r => some (u :: r)) xs
noncomputable def redC (ns : List Int) (b : Int) : Option (List Int × Int) := ifB (Nat.ble (lng ns) 2000) (bnd (stC ns (lng ns)) fun m => forceL (ns.take m) fun ks => forceN (gdC ks (Nat.gcd (absN b) 0)) fun g0 => fI (ifB (ltI b 0) (Int.neg (.ofNat g0)) (.ofNat g0)) fun g =>
  bnd (dvC g ks) fun us => ifB (lenOk us) (divC b g fun v => some (us, v)) none) none
def rcond : C := .bi .and (.bi (.cmp .gt) (.v 2) (.k (.int 0))) (.un .one (.bi .eq (.bi .ix (.v 0) (.bi (.ar .sub) (.v 2) (.k (.int 1)))) (.k (.int 0))))
def rbody : S := (.seq (.prim (.asg 2) (.cons (.bi (.ar .sub) (.v 2) (.k (.int 1))) .nil))
      .skip)
theorem sub1 (m : Nat) : Int.sub (.ofNat (m + 1)) 1 = .ofNat m := by
  show ((m + 1 : Nat) : Int) - 1 = (m : Int)
  omega
theorem lt0 (m : Nat) : ltI 0 (.ofNat (m + 1)) = true := rfl
theorem r_loop (F : FT) (W : Nat) (ns : List Int) (b : Option SV) (o3 o4 : Option SV) : ∀ (m n : Nat), Nat.ble (m + 1) n = true → loopW (evC F rcond false) (evS F W rbody) n [some (.dat (.list (il ns))), b, some (.dat (.int (.ofNat m))), o3, o4] =
    bnd (stC ns m) fun k => some (.nx [some (.dat (.list (il ns))), b, some (.dat (.int (.ofNat k))), o3, o4])
  | 0, 0, h => nomatch h
  | 0, n + 1, _ => by
    rw [q_wsucc]
    unfold rcond
    simp only [evS_seq, evS_skip, evS_prim, evS_ifs, evS_retv, evS_whl, evS_fr, evS_frz, q_P, evC_cons, evC_nil, evC_v, evC_k, evC_un, evC_bi, evC_tr, q_s0, q_s1, q_s2, q_s3, q_s4, q_s5, q_s6, q_s7, q_s8, q_s9, q_s10, q_s11, q_p0, q_p1, q_p2, q_p3, q_p4, q_p5, q_p6, q_p7, q_p8, q_p9, q_p10, q_p11, q_read, q_readO, q_gcd, q_onD, q_onDo, q_onI, q_onB, q_onSl, q_onSt, q_onSo, q_onL, q_onLo, q_onT, q_onM, q_datD, q_datO, q_intD, dInt_eq, dBool_eq, q_cons, q_mo, bnd_some, bnd_none, q_asg, q_par2, q_asgT, q_ret, q_expr, q_brk, q_raise, q_onx, q_ort, q_obk, q_ono, q_cmp, q_ar, q_and, q_or, q_ix, q_eq, q_ne, q_max2, q_kint, q_kg, q_kbl, q_knon, q_kdT, q_lt, q_le, q_gt, q_ge, q_test, q_testN, ifB_t, ifB_f, q_neg, q_one, q_not, q_isN, q_notN, q_len, q_abs, q_seq, q_rev, q_listOf, q_tupOf, q_isInst, q_tup, q_lst, q_call, q_chain, q_ite, q_max3, q_add, q_sub, q_mul, q_div, q_mod, q_at0, q_at1, q_d0, q_d1, q_d2, q_d1o, q_d2o, q_a1, q_a2, q_a3, q_a5, lenOk2, lenOk1, lenOk0, fI_eq, forceL_eq, g_onD, g_onI, g_onB, g_onS, g_onM, g_onO, g_test, g_bnd, g_cons1, g_cons2, g_out, q_outr, q_eqi, q_dTup, q_lst1, show ltI 0 (Int.ofNat 0) = false from rfl]
    rfl
  | m + 1, 0, h => nomatch h
  | m + 1, n + 1, h => by
    have ih := r_loop F W ns b o3 o4 m n h
    have go : stC ns (m + 1) = bnd (nth ns m) fun x => ifB (eqI x 0) (stC ns m) (some (m + 1)) := rfl
    rw [q_wsucc, go]
    unfold rcond rbody at *
    cases e : nth ns m with
    | none => simp only [evS_seq, evS_skip, evS_prim, evS_ifs, evS_retv, evS_whl, evS_fr, evS_frz, q_P, evC_cons, evC_nil, evC_v, evC_k, evC_un, evC_bi, evC_tr, q_s0, q_s1, q_s2, q_s3, q_s4, q_s5, q_s6, q_s7, q_s8, q_s9, q_s10, q_s11, q_p0, q_p1, q_p2, q_p3, q_p4, q_p5, q_p6, q_p7, q_p8, q_p9, q_p10, q_p11, q_read, q_readO, q_gcd, q_onD, q_onDo, q_onI, q_onB, q_onSl, q_onSt, q_onSo, q_onL, q_onLo, q_onT, q_onM, q_datD, q_datO, q_intD, dInt_eq, dBool_eq, q_cons, q_mo, bnd_some, bnd_none, q_asg, q_par2, q_asgT, q_ret, q_expr, q_brk, q_raise, q_onx, q_ort, q_obk, q_ono, q_cmp, q_ar, q_and, q_or, q_ix, q_eq, q_ne, q_max2, q_kint, q_kg, q_kbl, q_knon, q_kdT, q_lt, q_le, q_gt, q_ge, q_test, q_testN, ifB_t, ifB_f, q_neg, q_one, q_not, q_isN, q_notN, q_len, q_abs, q_seq, q_rev, q_listOf, q_tupOf, q_isInst, q_tup, q_lst, q_call, q_chain, q_ite, q_max3, q_add, q_sub, q_mul, q_div, q_mod, q_at0, q_at1, q_d0, q_d1, q_d2, q_d1o, q_d2o, q_a1, q_a2, q_a3, q_a5, lenOk2, lenOk1, lenOk0, fI_eq, forceL_eq, g_onD, g_onI, g_onB, g_onS, g_onM, g_onO, g_test, g_bnd, g_cons1, g_cons2, g_out, q_outr, q_eqi, q_dTup, q_lst1, lt0, sub1, atI_n, nth_il, e]; rfl
    | some x =>
      cases h : eqI x 0 with
      | false => simp only [evS_seq, evS_skip, evS_prim, evS_ifs, evS_retv, evS_whl, evS_fr, evS_frz, q_P, evC_cons, evC_nil, evC_v, evC_k, evC_un, evC_bi, evC_tr, q_s0, q_s1, q_s2, q_s3, q_s4, q_s5, q_s6, q_s7, q_s8, q_s9, q_s10, q_s11, q_p0, q_p1, q_p2, q_p3, q_p4, q_p5, q_p6, q_p7, q_p8, q_p9, q_p10, q_p11, q_read, q_readO, q_gcd, q_onD, q_onDo, q_onI, q_onB, q_onSl, q_onSt, q_onSo, q_onL, q_onLo, q_onT, q_onM, q_datD, q_datO, q_intD, dInt_eq, dBool_eq, q_cons, q_mo, bnd_some, bnd_none, q_asg, q_par2, q_asgT, q_ret, q_expr, q_brk, q_raise, q_onx, q_ort, q_obk, q_ono, q_cmp, q_ar, q_and, q_or, q_ix, q_eq, q_ne, q_max2, q_kint, q_kg, q_kbl, q_knon, q_kdT, q_lt, q_le, q_gt, q_ge, q_test, q_testN, ifB_t, ifB_f, q_neg, q_one, q_not, q_isN, q_notN, q_len, q_abs, q_seq, q_rev, q_listOf, q_tupOf, q_isInst, q_tup, q_lst, q_call, q_chain, q_ite, q_max3, q_add, q_sub, q_mul, q_div, q_mod, q_at0, q_at1, q_d0, q_d1, q_d2, q_d1o, q_d2o, q_a1, q_a2, q_a3, q_a5, lenOk2, lenOk1, lenOk0, fI_eq, forceL_eq, g_onD, g_onI, g_onB, g_onS, g_onM, g_onO, g_test, g_bnd, g_cons1, g_cons2, g_out, q_outr, q_eqi, q_dTup, q_lst1, lt0, sub1, atI_n, nth_il, e, h]
      | true =>
        simp only [evS_seq, evS_skip, evS_prim, evS_ifs, evS_retv, evS_whl, evS_fr, evS_frz, q_P, evC_cons, evC_nil, evC_v, evC_k, evC_un, evC_bi, evC_tr, q_s0, q_s1, q_s2, q_s3, q_s4, q_s5, q_s6, q_s7, q_s8, q_s9, q_s10, q_s11, q_p0, q_p1, q_p2, q_p3, q_p4, q_p5, q_p6, q_p7, q_p8, q_p9, q_p10, q_p11, q_read, q_readO, q_gcd, q_onD, q_onDo, q_onI, q_onB, q_onSl, q_onSt, q_onSo, q_onL, q_onLo, q_onT, q_onM, q_datD, q_datO, q_intD, dInt_eq, dBool_eq, q_cons, q_mo, bnd_some, bnd_none, q_asg, q_par2, q_asgT, q_ret, q_expr, q_brk, q_raise, q_onx, q_ort, q_obk, q_ono, q_cmp, q_ar, q_and, q_or, q_ix, q_eq, q_ne, q_max2, q_kint, q_kg, q_kbl, q_knon, q_kdT, q_lt, q_le, q_gt, q_ge, q_test, q_testN, ifB_t, ifB_f, q_neg, q_one, q_not, q_isN, q_notN, q_len, q_abs, q_seq, q_rev, q_listOf, q_tupOf, q_isInst, q_tup, q_lst, q_call, q_chain, q_ite, q_max3, q_add, q_sub, q_mul, q_div, q_mod, q_at0, q_at1, q_d0, q_d1, q_d2, q_d1o, q_d2o, q_a1, q_a2, q_a3, q_a5, lenOk2, lenOk1, lenOk0, fI_eq, forceL_eq, g_onD, g_onI, g_onB, g_onS, g_onM, g_onO, g_test, g_bnd, g_cons1, g_cons2, g_out, q_outr, q_eqi, q_dTup, q_lst1, lt0, sub1, atI_n, nth_il, e, h]
        exact ih
def gbody : S := (.seq (.prim (.asg 3) (.cons (.bi .gcd (.v 3) (.v 4)) .nil))
      .skip)
theorem g_loop (F : FT) (W : Nat) (a b c : Option SV) : ∀ (xs : List Int) (g : Nat) (o4 : Option SV), ∃ p4, loopF (frB (.name 4) (evS F W gbody)) (il xs) [a, b, c, some (.dat (.int (.ofNat g))), o4] = some (.nx [a, b, c, some (.dat (.int (.ofNat (gdC xs g)))), p4])
  | [], g, o4 => ⟨o4, rfl⟩
  | x :: xs, g, o4 => by
    have go : gdC (x :: xs) g = forceN (Nat.gcd g (absN x)) (gdC xs) := rfl
    obtain ⟨p4, e⟩ := g_loop F W a b c xs (Nat.gcd g (absN x)) (some (.dat (.int x)))
    refine ⟨p4, ?_⟩
    rw [go, forceN_eq, il_cons, q_fcons, q_frB, ← e]
    unfold gbody
    simp only [evS_seq, evS_skip, evS_prim, evS_ifs, evS_retv, evS_whl, evS_fr, evS_frz, q_P, evC_cons, evC_nil, evC_v, evC_k, evC_un, evC_bi, evC_tr, q_s0, q_s1, q_s2, q_s3, q_s4, q_s5, q_s6, q_s7, q_s8, q_s9, q_s10, q_s11, q_p0, q_p1, q_p2, q_p3, q_p4, q_p5, q_p6, q_p7, q_p8, q_p9, q_p10, q_p11, q_read, q_readO, q_gcd, q_onD, q_onDo, q_onI, q_onB, q_onSl, q_onSt, q_onSo, q_onL, q_onLo, q_onT, q_onM, q_datD, q_datO, q_intD, dInt_eq, dBool_eq, q_cons, q_mo, bnd_some, bnd_none, q_asg, q_par2, q_asgT, q_ret, q_expr, q_brk, q_raise, q_onx, q_ort, q_obk, q_ono, q_cmp, q_ar, q_and, q_or, q_ix, q_eq, q_ne, q_max2, q_kint, q_kg, q_kbl, q_knon, q_kdT, q_lt, q_le, q_gt, q_ge, q_test, q_testN, ifB_t, ifB_f, q_neg, q_one, q_not, q_isN, q_notN, q_len, q_abs, q_seq, q_rev, q_listOf, q_tupOf, q_isInst, q_tup, q_lst, q_call, q_chain, q_ite, q_max3, q_add, q_sub, q_mul, q_div, q_mod, q_at0, q_at1, q_d0, q_d1, q_d2, q_d1o, q_d2o, q_a1, q_a2, q_a3, q_a5, lenOk2, lenOk1, lenOk0, fI_eq, forceL_eq, g_onD, g_onI, g_onB, g_onS, g_onM, g_onO, g_test, g_bnd, g_cons1, g_cons2, g_out, q_outr, q_eqi, q_dTup, q_lst1]
    rfl
def cDv : C := .bi (.ar .fdiv) (.v 4) (.v 3)
theorem dv_turn (F : FT) (a b c o : Option SV) (g : Int) (x : Int) : compTurn (.name 4) [a, b, c, some (.dat (.int g)), o] (evC F .nil) (evC F cDv) (.int x) = divC x g fun u => some (some (.int u)) := by
  unfold compTurn cDv
  rw [q_bind]
  simp only [evS_seq, evS_skip, evS_prim, evS_ifs, evS_retv, evS_whl, evS_fr, evS_frz, q_P, evC_cons, evC_nil, evC_v, evC_k, evC_un, evC_bi, evC_tr, q_s0, q_s1, q_s2, q_s3, q_s4, q_s5, q_s6, q_s7, q_s8, q_s9, q_s10, q_s11, q_p0, q_p1, q_p2, q_p3, q_p4, q_p5, q_p6, q_p7, q_p8, q_p9, q_p10, q_p11, q_read, q_readO, q_gcd, q_onD, q_onDo, q_onI, q_onB, q_onSl, q_onSt, q_onSo, q_onL, q_onLo, q_onT, q_onM, q_datD, q_datO, q_intD, dInt_eq, dBool_eq, q_cons, q_mo, bnd_some, bnd_none, q_asg, q_par2, q_asgT, q_ret, q_expr, q_brk, q_raise, q_onx, q_ort, q_obk, q_ono, q_cmp, q_ar, q_and, q_or, q_ix, q_eq, q_ne, q_max2, q_kint, q_kg, q_kbl, q_knon, q_kdT, q_lt, q_le, q_gt, q_ge, q_test, q_testN, ifB_t, ifB_f, q_neg, q_one, q_not, q_isN, q_notN, q_len, q_abs, q_seq, q_rev, q_listOf, q_tupOf, q_isInst, q_tup, q_lst, q_call, q_chain, q_ite, q_max3, q_add, q_sub, q_mul, q_div, q_mod, q_at0, q_at1, q_d0, q_d1, q_d2, q_d1o, q_d2o, q_a1, q_a2, q_a3, q_a5, lenOk2, lenOk1, lenOk0, fI_eq, forceL_eq, g_onD, g_onI, g_onB, g_onS, g_onM, g_onO, g_test, g_bnd, g_cons1, g_cons2, g_out, q_outr, q_eqi, q_dTup, q_lst1]
  rcases divC_cases x g with ⟨h1, h2⟩ | ⟨u, h1, h2⟩
  · rw [h1, h2]; rfl
  · rw [h1, h2]; rfl
theorem dv_go {f : PyData → Option (Option PyData)} {g : Int} (hf : ∀ x, f (.int x) = divC x g fun u => some (some (.int u))) : ∀ xs : List Int, compGo f (il xs) = bnd (dvC g xs) fun l => some (il l)
  | [] => rfl
  | x :: xs => by
    have ih := dv_go hf xs
    have g1 : compGo f (il (x :: xs)) = match f (.int x) with
      | none => none
      | some o => match compGo f (il xs) with
        | none => none
        | some r => match o with
          | none => some r
          | some y => some (y :: r) := rfl
    have g2 : dvC g (x :: xs) = divC x g fun u => bnd (dvC g xs) fun r => some (u :: r) := rfl
    rw [g1, g2, hf, ih]
    rcases divC_cases x g with ⟨h, _⟩ | ⟨u, h, _⟩
    · rw [h, h]; rfl
    · rw [h, h]
      cases dvC g xs <;> rfl
theorem dv_comp (F : FT) (a b c o : Option SV) (g : Int) (xs : List Int) : compGo (compTurn (.name 4) [a, b, c, some (.dat (.int g)), o] (evC F .nil) (evC F cDv)) (il xs) = bnd (dvC g xs) fun l => some (il l) := dv_go (dv_turn F a b c o g) xs
theorem take_il (n : Nat) (xs : List Int) : (il xs).take n = il (xs.take n) := by rw [il, il, List.map_take]
theorem lenOk_il (xs : List Int) : lenOk (il xs) = lenOk xs := by unfold lenOk; rw [lng_il]
noncomputable def resP (p : List Int × Int) : SV := .dat (.tuple [.list (il p.1), .int p.2])
theorem q_wipe1 (i : Nat) (ρ : En) : wipeE ρ [i] = put ρ i none := rfl
theorem tw_red (F : FT) {ns : List Int} {b : Int} {p : List Int × Int} (h : redC ns b = some p) : runD F 3000 c_reduced [.dat (.list (il ns)), .dat (.int b)] = some (resP p) := by
  rw [runD_go (ρ := [some (.dat (.list (il ns))), some (.dat (.int b)), none, none, none]) rfl rfl]
  unfold redC at h
  obtain ⟨hn, h⟩ := ifB_some h
  obtain ⟨m, e1, h⟩ := bnd_inv h
  simp only [forceL_eq, forceN_eq, fI_eq] at h
  obtain ⟨us, e2, h⟩ := bnd_inv h
  obtain ⟨e3, h⟩ := ifB_some h
  have hl : Nat.ble (lng ns + 1) 3000 = true := Nat.ble_eq.mpr (by have := Nat.ble_eq.mp hn; omega)
  have c1 := r_loop F 3000 ns (some (.dat (.int b))) none none (lng ns) 3000 hl
  rw [e1] at c1
  have c1 : loopW (evC F rcond false) (evS F 3000 rbody) 3000 [some (.dat (.list (il ns))), some (.dat (.int b)), some (.dat (.int (Int.ofNat (lng ns)))), none, none] = some (.nx [some (.dat (.list (il ns))), some (.dat (.int b)), some (.dat (.int (Int.ofNat m))), none, none]) := c1
  obtain ⟨p4, c2⟩ := g_loop F 3000 (some (.dat (.list (il ns)))) (some (.dat (.int b))) (some (.dat (.int (Int.ofNat m)))) (ns.take m) (Nat.gcd (absN b) 0) none
  have c3 := fun g => dv_comp F (some (.dat (.list (il ns)))) (some (.dat (.int b))) (some (.dat (.int (Int.ofNat m)))) none g (ns.take m)
  have c3' : ∀ g, dvC g (ns.take m) = some us → compGo (compTurn (.name 4) [some (.dat (.list (il ns))), some (.dat (.int b)), some (.dat (.int (Int.ofNat m))), some (.dat (.int g)), none] (evC F .nil) (evC F cDv)) (il (ns.take m)) = some (il us) := fun g e => by rw [c3 g, e]; rfl
  have a0 : absN 0 = 0 := rfl
  unfold c_reduced
  simp only [evS_seq, evS_skip, evS_prim, evS_ifs, evS_retv, evS_whl, evS_fr, evS_frz, q_P, evC_cons, evC_nil, evC_v, evC_k, evC_un, evC_bi, evC_tr, q_s0, q_s1, q_s2, q_s3, q_s4, q_s5, q_s6, q_s7, q_s8, q_s9, q_s10, q_s11, q_p0, q_p1, q_p2, q_p3, q_p4, q_p5, q_p6, q_p7, q_p8, q_p9, q_p10, q_p11, q_read, q_readO, q_gcd, q_onD, q_onDo, q_onI, q_onB, q_onSl, q_onSt, q_onSo, q_onL, q_onLo, q_onT, q_onM, q_datD, q_datO, q_intD, dInt_eq, dBool_eq, q_cons, q_mo, bnd_some, bnd_none, q_asg, q_par2, q_asgT, q_ret, q_expr, q_brk, q_raise, q_onx, q_ort, q_obk, q_ono, q_cmp, q_ar, q_and, q_or, q_ix, q_eq, q_ne, q_max2, q_kint, q_kg, q_kbl, q_knon, q_kdT, q_lt, q_le, q_gt, q_ge, q_test, q_testN, ifB_t, ifB_f, q_neg, q_one, q_not, q_isN, q_notN, q_len, q_abs, q_seq, q_rev, q_listOf, q_tupOf, q_isInst, q_tup, q_lst, q_call, q_chain, q_ite, q_max3, q_add, q_sub, q_mul, q_div, q_mod, q_at0, q_at1, q_d0, q_d1, q_d2, q_d1o, q_d2o, q_a1, q_a2, q_a3, q_a5, lenOk2, lenOk1, lenOk0, fI_eq, forceL_eq, g_onD, g_onI, g_onB, g_onS, g_onM, g_onO, g_test, g_bnd, g_cons1, g_cons2, g_out, q_outr, q_eqi, q_dTup, q_lst1, lng_il]
  show outR (onO (loopW (evC F rcond false) (evS F 3000 rbody) 3000 _) _ _) = _
  rw [c1]
  simp only [evS_seq, evS_skip, evS_prim, evS_ifs, evS_retv, evS_whl, evS_fr, evS_frz, q_P, evC_cons, evC_nil, evC_v, evC_k, evC_un, evC_bi, evC_tr, q_s0, q_s1, q_s2, q_s3, q_s4, q_s5, q_s6, q_s7, q_s8, q_s9, q_s10, q_s11, q_p0, q_p1, q_p2, q_p3, q_p4, q_p5, q_p6, q_p7, q_p8, q_p9, q_p10, q_p11, q_read, q_readO, q_gcd, q_onD, q_onDo, q_onI, q_onB, q_onSl, q_onSt, q_onSo, q_onL, q_onLo, q_onT, q_onM, q_datD, q_datO, q_intD, dInt_eq, dBool_eq, q_cons, q_mo, bnd_some, bnd_none, q_asg, q_par2, q_asgT, q_ret, q_expr, q_brk, q_raise, q_onx, q_ort, q_obk, q_ono, q_cmp, q_ar, q_and, q_or, q_ix, q_eq, q_ne, q_max2, q_kint, q_kg, q_kbl, q_knon, q_kdT, q_lt, q_le, q_gt, q_ge, q_test, q_testN, ifB_t, ifB_f, q_neg, q_one, q_not, q_isN, q_notN, q_len, q_abs, q_seq, q_rev, q_listOf, q_tupOf, q_isInst, q_tup, q_lst, q_call, q_chain, q_ite, q_max3, q_add, q_sub, q_mul, q_div, q_mod, q_at0, q_at1, q_d0, q_d1, q_d2, q_d1o, q_d2o, q_a1, q_a2, q_a3, q_a5, lenOk2, lenOk1, lenOk0, fI_eq, forceL_eq, g_onD, g_onI, g_onB, g_onS, g_onM, g_onO, g_test, g_bnd, g_cons1, g_cons2, g_out, q_outr, q_eqi, q_dTup, q_lst1, q_fr, q_upTo, cutUp_l, take_il, a0]
  show outR (onO (loopF (frB (.name 4) (evS F 3000 gbody)) _ _) _ _) = _
  rw [c2]
  cases hb : ltI b 0 with
  | false =>
    rw [hb] at e2 h
    simp only [ifB_f] at e2 h
    obtain ⟨v, d1, d2⟩ : ∃ v, aDiv b (.ofNat (gdC (ns.take m) (Nat.gcd (absN b) 0))) = some (.dat (.int v)) ∧ some (us, v) = some p := by
      rcases divC_cases b (.ofNat (gdC (ns.take m) (Nat.gcd (absN b) 0))) with ⟨z, _⟩ | ⟨v, z, z2⟩
      · rw [z] at h; cases h
      · rw [z] at h; exact ⟨v, z2, h⟩
    cases d2
    simp only [evS_seq, evS_skip, evS_prim, evS_ifs, evS_retv, evS_whl, evS_fr, evS_frz, q_P, evC_cons, evC_nil, evC_v, evC_k, evC_un, evC_bi, evC_tr, q_s0, q_s1, q_s2, q_s3, q_s4, q_s5, q_s6, q_s7, q_s8, q_s9, q_s10, q_s11, q_p0, q_p1, q_p2, q_p3, q_p4, q_p5, q_p6, q_p7, q_p8, q_p9, q_p10, q_p11, q_read, q_readO, q_gcd, q_onD, q_onDo, q_onI, q_onB, q_onSl, q_onSt, q_onSo, q_onL, q_onLo, q_onT, q_onM, q_datD, q_datO, q_intD, dInt_eq, dBool_eq, q_cons, q_mo, bnd_some, bnd_none, q_asg, q_par2, q_asgT, q_ret, q_expr, q_brk, q_raise, q_onx, q_ort, q_obk, q_ono, q_cmp, q_ar, q_and, q_or, q_ix, q_eq, q_ne, q_max2, q_kint, q_kg, q_kbl, q_knon, q_kdT, q_lt, q_le, q_gt, q_ge, q_test, q_testN, ifB_t, ifB_f, q_neg, q_one, q_not, q_isN, q_notN, q_len, q_abs, q_seq, q_rev, q_listOf, q_tupOf, q_isInst, q_tup, q_lst, q_call, q_chain, q_ite, q_max3, q_add, q_sub, q_mul, q_div, q_mod, q_at0, q_at1, q_d0, q_d1, q_d2, q_d1o, q_d2o, q_a1, q_a2, q_a3, q_a5, lenOk2, lenOk1, lenOk0, fI_eq, forceL_eq, g_onD, g_onI, g_onB, g_onS, g_onM, g_onO, g_test, g_bnd, g_cons1, g_cons2, g_out, q_outr, q_eqi, q_dTup, q_lst1, q_upTo, cutUp_l, take_il, evC_comp, q_comp, q_wipe1, hb]
    show outR (onO (bnd (bnd (opCons (onM (opCons (compR (compGo (compTurn (.name 4) _ (evC F .nil) (evC F cDv)) _)) _) _) _) _) _) _ _) = _
    rw [c3' _ e2]
    unfold compR
    simp only [lenOk_il, e3, evS_seq, evS_skip, evS_prim, evS_ifs, evS_retv, evS_whl, evS_fr, evS_frz, q_P, evC_cons, evC_nil, evC_v, evC_k, evC_un, evC_bi, evC_tr, q_s0, q_s1, q_s2, q_s3, q_s4, q_s5, q_s6, q_s7, q_s8, q_s9, q_s10, q_s11, q_p0, q_p1, q_p2, q_p3, q_p4, q_p5, q_p6, q_p7, q_p8, q_p9, q_p10, q_p11, q_read, q_readO, q_gcd, q_onD, q_onDo, q_onI, q_onB, q_onSl, q_onSt, q_onSo, q_onL, q_onLo, q_onT, q_onM, q_datD, q_datO, q_intD, dInt_eq, dBool_eq, q_cons, q_mo, bnd_some, bnd_none, q_asg, q_par2, q_asgT, q_ret, q_expr, q_brk, q_raise, q_onx, q_ort, q_obk, q_ono, q_cmp, q_ar, q_and, q_or, q_ix, q_eq, q_ne, q_max2, q_kint, q_kg, q_kbl, q_knon, q_kdT, q_lt, q_le, q_gt, q_ge, q_test, q_testN, ifB_t, ifB_f, q_neg, q_one, q_not, q_isN, q_notN, q_len, q_abs, q_seq, q_rev, q_listOf, q_tupOf, q_isInst, q_tup, q_lst, q_call, q_chain, q_ite, q_max3, q_add, q_sub, q_mul, q_div, q_mod, q_at0, q_at1, q_d0, q_d1, q_d2, q_d1o, q_d2o, q_a1, q_a2, q_a3, q_a5, lenOk2, lenOk1, lenOk0, fI_eq, forceL_eq, g_onD, g_onI, g_onB, g_onS, g_onM, g_onO, g_test, g_bnd, g_cons1, g_cons2, g_out, q_outr, q_eqi, q_dTup, q_lst1, d1]
    rfl
  | true =>
    rw [hb] at e2 h
    simp only [ifB_t] at e2 h
    obtain ⟨v, d1, d2⟩ : ∃ v, aDiv b (Int.neg (.ofNat (gdC (ns.take m) (Nat.gcd (absN b) 0)))) = some (.dat (.int v)) ∧ some (us, v) = some p := by
      rcases divC_cases b (Int.neg (.ofNat (gdC (ns.take m) (Nat.gcd (absN b) 0)))) with ⟨z, _⟩ | ⟨v, z, z2⟩
      · rw [z] at h; cases h
      · rw [z] at h; exact ⟨v, z2, h⟩
    cases d2
    simp only [evS_seq, evS_skip, evS_prim, evS_ifs, evS_retv, evS_whl, evS_fr, evS_frz, q_P, evC_cons, evC_nil, evC_v, evC_k, evC_un, evC_bi, evC_tr, q_s0, q_s1, q_s2, q_s3, q_s4, q_s5, q_s6, q_s7, q_s8, q_s9, q_s10, q_s11, q_p0, q_p1, q_p2, q_p3, q_p4, q_p5, q_p6, q_p7, q_p8, q_p9, q_p10, q_p11, q_read, q_readO, q_gcd, q_onD, q_onDo, q_onI, q_onB, q_onSl, q_onSt, q_onSo, q_onL, q_onLo, q_onT, q_onM, q_datD, q_datO, q_intD, dInt_eq, dBool_eq, q_cons, q_mo, bnd_some, bnd_none, q_asg, q_par2, q_asgT, q_ret, q_expr, q_brk, q_raise, q_onx, q_ort, q_obk, q_ono, q_cmp, q_ar, q_and, q_or, q_ix, q_eq, q_ne, q_max2, q_kint, q_kg, q_kbl, q_knon, q_kdT, q_lt, q_le, q_gt, q_ge, q_test, q_testN, ifB_t, ifB_f, q_neg, q_one, q_not, q_isN, q_notN, q_len, q_abs, q_seq, q_rev, q_listOf, q_tupOf, q_isInst, q_tup, q_lst, q_call, q_chain, q_ite, q_max3, q_add, q_sub, q_mul, q_div, q_mod, q_at0, q_at1, q_d0, q_d1, q_d2, q_d1o, q_d2o, q_a1, q_a2, q_a3, q_a5, lenOk2, lenOk1, lenOk0, fI_eq, forceL_eq, g_onD, g_onI, g_onB, g_onS, g_onM, g_onO, g_test, g_bnd, g_cons1, g_cons2, g_out, q_outr, q_eqi, q_dTup, q_lst1, q_upTo, cutUp_l, take_il, evC_comp, q_comp, q_wipe1, hb]
    show outR (onO (bnd (bnd (opCons (onM (opCons (compR (compGo (compTurn (.name 4) _ (evC F .nil) (evC F cDv)) _)) _) _) _) _) _) _ _) = _
    rw [c3' _ e2]
    unfold compR
    simp only [lenOk_il, e3, evS_seq, evS_skip, evS_prim, evS_ifs, evS_retv, evS_whl, evS_fr, evS_frz, q_P, evC_cons, evC_nil, evC_v, evC_k, evC_un, evC_bi, evC_tr, q_s0, q_s1, q_s2, q_s3, q_s4, q_s5, q_s6, q_s7, q_s8, q_s9, q_s10, q_s11, q_p0, q_p1, q_p2, q_p3, q_p4, q_p5, q_p6, q_p7, q_p8, q_p9, q_p10, q_p11, q_read, q_readO, q_gcd, q_onD, q_onDo, q_onI, q_onB, q_onSl, q_onSt, q_onSo, q_onL, q_onLo, q_onT, q_onM, q_datD, q_datO, q_intD, dInt_eq, dBool_eq, q_cons, q_mo, bnd_some, bnd_none, q_asg, q_par2, q_asgT, q_ret, q_expr, q_brk, q_raise, q_onx, q_ort, q_obk, q_ono, q_cmp, q_ar, q_and, q_or, q_ix, q_eq, q_ne, q_max2, q_kint, q_kg, q_kbl, q_knon, q_kdT, q_lt, q_le, q_gt, q_ge, q_test, q_testN, ifB_t, ifB_f, q_neg, q_one, q_not, q_isN, q_notN, q_len, q_abs, q_seq, q_rev, q_listOf, q_tupOf, q_isInst, q_tup, q_lst, q_call, q_chain, q_ite, q_max3, q_add, q_sub, q_mul, q_div, q_mod, q_at0, q_at1, q_d0, q_d1, q_d2, q_d1o, q_d2o, q_a1, q_a2, q_a3, q_a5, lenOk2, lenOk1, lenOk0, fI_eq, forceL_eq, g_onD, g_onI, g_onB, g_onS, g_onM, g_onO, g_test, g_bnd, g_cons1, g_cons2, g_out, q_outr, q_eqi, q_dTup, q_lst1, d1]
    rfl
/-! ### put_in -/
noncomputable def piGo (is : List Int) (ib ob : Int) (xs : List Int) : List Int → Int → Int → Option (List Int × Int) :=
  List.rec (motive := fun _ => List Int → Int → Int → Option (List Int × Int)) (fun f _ b => some (f, b)) (fun x _ ih f s b => bnd (List.rec (motive := fun _ => Option (List Int)) (some [0]) (fun _ _ _ => tsC f is) f) fun f1 => bnd (nth f1 0) fun a => mulC x s fun m => fI (Int.add a m) fun a1 => forceL (put f1 0 a1) fun f2 =>
    mulC s ib fun s1 => mulC ob s fun b1 => ih f2 s1 b1) xs
noncomputable def piC (os : List Int) (ob : Int) (is : List Int) (ib : Int) : Option (List Int × Int) := bnd (piGo is ib ob os.reverse [] 1 ob) fun p => redC p.1 p.2
def pbody : S := (.seq (.frz 3 (.prim (.asg 3) (.cons (.tr .ite (.bi .ne (.v 3) (.un .lst .nil)) (.un (.call 13) (.cons (.v 3) (.cons (.bi .ix (.v 1) (.k (.int 0))) .nil))) (.un .lst (.cons (.k (.int 0)) .nil))) .nil)))
      (.seq (.prim (.setL 3) (.cons (.bi (.ar .add) (.bi .ix (.v 3) (.k (.int 0))) (.bi (.ar .mul) (.v 2) (.v 4))) (.cons (.k (.int 0)) .nil)))
      (.seq (.prim (.par2 4 5) (.cons (.bi (.ar .mul) (.v 4) (.bi .ix (.v 1) (.k (.int 1)))) (.cons (.bi (.ar .mul) (.bi .ix (.v 0) (.k (.int 1))) (.v 4)) .nil)))
      .skip)))
theorem lenOk1' {α : Type} (x : α) : lenOk [x] = true := rfl
theorem fro (xs : List PyData) : SV.froz (.own xs) = .dat (.list xs) := rfl
theorem int0 : (0 : Int) = Int.ofNat 0 := rfl
theorem ix0 (xs : List Int) : atI (il xs) 0 = bnd (nth xs 0) fun x => some (PyData.int x) := nth_il xs 0
theorem q_setL0 (F : FT) (W : Nat) (ρ : En) (i : Nat) (d : PyData) : opP F W (.setL i) [.dat d, .dat (.int 0)] ρ = ownK (slot ρ i) fun xs => ifB (Nat.ble (Nat.succ 0) (lng xs)) (some (.nx (put ρ i (some (.own (put xs 0 d)))))) none := q_setL F W ρ i 0 d
theorem mulC_some {α : Type} {i j : Int} {k : Int → Option α} {r : α} (h : mulC i j k = some r) : mulOk i j = true ∧ k (Int.mul i j) = some r := by
  unfold mulC at h
  rw [fI_eq] at h
  exact ifB_some h
def pol (ns : List Int) (b : Int) : PyData := .tuple [.list (il ns), .int b]
theorem p_step (F : FT) (W : Nat) (hT : ∀ xs ys zs, tsC xs ys = some zs → F 13 [.dat (.list (il xs)), .dat (.list (il ys))] = some (.own (il zs))) (os is : List Int) (ob ib x s b : Int) (f f1 : List Int) (a : Int)
    (e1 : List.rec (motive := fun _ => Option (List Int)) (some [0]) (fun _ _ _ => tsC f is) f = some f1) (e2 : nth f1 0 = some a) (m1 : mulOk x s = true) (m2 : mulOk s ib = true) (m3 : mulOk ob s = true) :
    evS F W pbody [some (.dat (.tuple [.list (il os), .int ob])), some (.dat (.tuple [.list (il is), .int ib])), some (.dat (.int x)), some (.own (il f)), some (.dat (.int s)), some (.dat (.int b))] =
      some (.nx [some (.dat (.tuple [.list (il os), .int ob])), some (.dat (.tuple [.list (il is), .int ib])), some (.dat (.int x)), some (.own (il (put f1 0 (Int.add a (Int.mul x s))))), some (.dat (.int (Int.mul s ib))), some (.dat (.int (Int.mul ob s)))]) := by
  have hl := nth_lt e2
  unfold pbody
  cases f with
  | nil =>
    cases e1
    cases e2
    simp only [evS_seq, evS_skip, evS_prim, evS_ifs, evS_retv, evS_whl, evS_fr, evS_frz, q_P, evC_cons, evC_nil, evC_v, evC_k, evC_un, evC_bi, evC_tr, q_s0, q_s1, q_s2, q_s3, q_s4, q_s5, q_s6, q_s7, q_s8, q_s9, q_s10, q_s11, q_p0, q_p1, q_p2, q_p3, q_p4, q_p5, q_p6, q_p7, q_p8, q_p9, q_p10, q_p11, q_read, q_readO, q_gcd, q_onD, q_onDo, q_onI, q_onB, q_onSl, q_onSt, q_onSo, q_onL, q_onLo, q_onT, q_onM, q_datD, q_datO, q_intD, dInt_eq, dBool_eq, q_cons, q_mo, bnd_some, bnd_none, q_asg, q_par2, q_asgT, q_ret, q_expr, q_brk, q_raise, q_onx, q_ort, q_obk, q_ono, q_cmp, q_ar, q_and, q_or, q_ix, q_eq, q_ne, q_max2, q_kint, q_kg, q_kbl, q_knon, q_kdT, q_lt, q_le, q_gt, q_ge, q_test, q_testN, ifB_t, ifB_f, q_neg, q_one, q_not, q_isN, q_notN, q_len, q_abs, q_seq, q_rev, q_listOf, q_tupOf, q_isInst, q_tup, q_lst, q_call, q_chain, q_ite, q_max3, q_add, q_sub, q_mul, q_div, q_mod, q_at0, q_at1, q_d0, q_d1, q_d2, q_d1o, q_d2o, q_a1, q_a2, q_a3, q_a5, lenOk2, lenOk1, lenOk0, fI_eq, forceL_eq, g_onD, g_onI, g_onB, g_onS, g_onM, g_onO, g_test, g_bnd, g_cons1, g_cons2, g_out, q_outr, q_eqi, q_dTup, q_lst1, q_Z, fro, eq_nil, List.isEmpty, q_nt, q_nf, q_setL0, q_ownK, m1, m2, m3]
    rfl
  | cons y r =>
    have hT := hT _ _ _ e1
    simp only [evS_seq, evS_skip, evS_prim, evS_ifs, evS_retv, evS_whl, evS_fr, evS_frz, q_P, evC_cons, evC_nil, evC_v, evC_k, evC_un, evC_bi, evC_tr, q_s0, q_s1, q_s2, q_s3, q_s4, q_s5, q_s6, q_s7, q_s8, q_s9, q_s10, q_s11, q_p0, q_p1, q_p2, q_p3, q_p4, q_p5, q_p6, q_p7, q_p8, q_p9, q_p10, q_p11, q_read, q_readO, q_gcd, q_onD, q_onDo, q_onI, q_onB, q_onSl, q_onSt, q_onSo, q_onL, q_onLo, q_onT, q_onM, q_datD, q_datO, q_intD, dInt_eq, dBool_eq, q_cons, q_mo, bnd_some, bnd_none, q_asg, q_par2, q_asgT, q_ret, q_expr, q_brk, q_raise, q_onx, q_ort, q_obk, q_ono, q_cmp, q_ar, q_and, q_or, q_ix, q_eq, q_ne, q_max2, q_kint, q_kg, q_kbl, q_knon, q_kdT, q_lt, q_le, q_gt, q_ge, q_test, q_testN, ifB_t, ifB_f, q_neg, q_one, q_not, q_isN, q_notN, q_len, q_abs, q_seq, q_rev, q_listOf, q_tupOf, q_isInst, q_tup, q_lst, q_call, q_chain, q_ite, q_max3, q_add, q_sub, q_mul, q_div, q_mod, q_at0, q_at1, q_d0, q_d1, q_d2, q_d1o, q_d2o, q_a1, q_a2, q_a3, q_a5, lenOk2, lenOk1, lenOk0, fI_eq, forceL_eq, g_onD, g_onI, g_onB, g_onS, g_onM, g_onO, g_test, g_bnd, g_cons1, g_cons2, g_out, q_outr, q_eqi, q_dTup, q_lst1, q_Z, fro, eq_nil, List.isEmpty, q_nt, q_nf, hT, ix0, e2, q_setL0, q_ownK, lng_il, hl, put_il, m1, m2, m3]
theorem p_loop (F : FT) (W : Nat) (hT : ∀ xs ys zs, tsC xs ys = some zs → F 13 [.dat (.list (il xs)), .dat (.list (il ys))] = some (.own (il zs))) (os is : List Int) (ob ib : Int) :
    ∀ (xs : List Int) (f : List Int) (s b : Int) (o2 : Option SV) (p : List Int × Int), piGo is ib ob xs f s b = some p → ∃ p2 p4, loopF (frB (.name 2) (evS F W pbody)) (il xs) [some (.dat (.tuple [.list (il os), .int ob])), some (.dat (.tuple [.list (il is), .int ib])), o2, some (.own (il f)), some (.dat (.int s)), some (.dat (.int b))] =
      some (.nx [some (.dat (.tuple [.list (il os), .int ob])), some (.dat (.tuple [.list (il is), .int ib])), p2, some (.own (il p.1)), p4, some (.dat (.int p.2))])
  | [], f, s, b, o2, p, h => by cases h; exact ⟨o2, some (.dat (.int s)), rfl⟩
  | x :: xs, f, s, b, o2, p, h => by
    obtain ⟨f1, e1, h⟩ := bnd_inv (r := List.rec (motive := fun _ => Option (List Int)) (some [0]) (fun _ _ _ => tsC f is) f) h
    obtain ⟨a, e2, h⟩ := bnd_inv h
    obtain ⟨m1, h⟩ := mulC_some h
    rw [fI_eq, forceL_eq] at h
    obtain ⟨m2, h⟩ := mulC_some h
    obtain ⟨m3, h⟩ := mulC_some h
    obtain ⟨p2, p4, e⟩ := p_loop F W hT os is ob ib xs (put f1 0 (Int.add a (Int.mul x s))) (Int.mul s ib) (Int.mul ob s) (some (.dat (.int x))) p h
    refine ⟨p2, p4, ?_⟩
    rw [il_cons, q_fcons, q_frB]
    simp only [q_p2]
    rw [p_step F W hT os is ob ib x s b f f1 a e1 e2 m1 m2 m3]
    exact e
theorem rev_il (xs : List Int) : (il xs).reverse = il xs.reverse := by rw [il, il, List.map_reverse]
theorem tw_put (F : FT) (W : Nat) (hT : ∀ xs ys zs, tsC xs ys = some zs → F 13 [.dat (.list (il xs)), .dat (.list (il ys))] = some (.own (il zs))) (hR : ∀ ns b p, redC ns b = some p → F 10 [.dat (.list (il ns)), .dat (.int b)] = some (resP p))
    (os is : List Int) (ob ib : Int) {p : List Int × Int} (h : piC os ob is ib = some p) : runD F W c_put_in [.dat (.tuple [.list (il os), .int ob]), .dat (.tuple [.list (il is), .int ib])] = some (resP p) := by
  rw [runD_go (ρ := [some (.dat (.tuple [.list (il os), .int ob])), some (.dat (.tuple [.list (il is), .int ib])), none, none, none, none]) rfl rfl]
  obtain ⟨q, e1, h⟩ := bnd_inv h
  obtain ⟨p2, p4, e⟩ := p_loop F W hT os is ob ib _ _ _ _ none q e1
  have hR := hR _ _ _ h
  unfold c_put_in
  simp only [evS_seq, evS_skip, evS_prim, evS_ifs, evS_retv, evS_whl, evS_fr, evS_frz, q_P, evC_cons, evC_nil, evC_v, evC_k, evC_un, evC_bi, evC_tr, q_s0, q_s1, q_s2, q_s3, q_s4, q_s5, q_s6, q_s7, q_s8, q_s9, q_s10, q_s11, q_p0, q_p1, q_p2, q_p3, q_p4, q_p5, q_p6, q_p7, q_p8, q_p9, q_p10, q_p11, q_read, q_readO, q_gcd, q_onD, q_onDo, q_onI, q_onB, q_onSl, q_onSt, q_onSo, q_onL, q_onLo, q_onT, q_onM, q_datD, q_datO, q_intD, dInt_eq, dBool_eq, q_cons, q_mo, bnd_some, bnd_none, q_asg, q_par2, q_asgT, q_ret, q_expr, q_brk, q_raise, q_onx, q_ort, q_obk, q_ono, q_cmp, q_ar, q_and, q_or, q_ix, q_eq, q_ne, q_max2, q_kint, q_kg, q_kbl, q_knon, q_kdT, q_lt, q_le, q_gt, q_ge, q_test, q_testN, ifB_t, ifB_f, q_neg, q_one, q_not, q_isN, q_notN, q_len, q_abs, q_seq, q_rev, q_listOf, q_tupOf, q_isInst, q_tup, q_lst, q_call, q_chain, q_ite, q_max3, q_add, q_sub, q_mul, q_div, q_mod, q_at0, q_at1, q_d0, q_d1, q_d2, q_d1o, q_d2o, q_a1, q_a2, q_a3, q_a5, lenOk2, lenOk1, lenOk0, fI_eq, forceL_eq, g_onD, g_onI, g_onB, g_onS, g_onM, g_onO, g_test, g_bnd, g_cons1, g_cons2, g_out, q_outr, q_eqi, q_dTup, q_lst1, q_par3, q_fr, rev_il]
  show outR (onO (loopF (frB (.name 2) (evS F W pbody)) (il os.reverse) [_, _, _, some (.own (il [])), _, _]) _ _) = _
  rw [e]
  simp only [evS_seq, evS_skip, evS_prim, evS_ifs, evS_retv, evS_whl, evS_fr, evS_frz, q_P, evC_cons, evC_nil, evC_v, evC_k, evC_un, evC_bi, evC_tr, q_s0, q_s1, q_s2, q_s3, q_s4, q_s5, q_s6, q_s7, q_s8, q_s9, q_s10, q_s11, q_p0, q_p1, q_p2, q_p3, q_p4, q_p5, q_p6, q_p7, q_p8, q_p9, q_p10, q_p11, q_read, q_readO, q_gcd, q_onD, q_onDo, q_onI, q_onB, q_onSl, q_onSt, q_onSo, q_onL, q_onLo, q_onT, q_onM, q_datD, q_datO, q_intD, dInt_eq, dBool_eq, q_cons, q_mo, bnd_some, bnd_none, q_asg, q_par2, q_asgT, q_ret, q_expr, q_brk, q_raise, q_onx, q_ort, q_obk, q_ono, q_cmp, q_ar, q_and, q_or, q_ix, q_eq, q_ne, q_max2, q_kint, q_kg, q_kbl, q_knon, q_kdT, q_lt, q_le, q_gt, q_ge, q_test, q_testN, ifB_t, ifB_f, q_neg, q_one, q_not, q_isN, q_notN, q_len, q_abs, q_seq, q_rev, q_listOf, q_tupOf, q_isInst, q_tup, q_lst, q_call, q_chain, q_ite, q_max3, q_add, q_sub, q_mul, q_div, q_mod, q_at0, q_at1, q_d0, q_d1, q_d2, q_d1o, q_d2o, q_a1, q_a2, q_a3, q_a5, lenOk2, lenOk1, lenOk0, fI_eq, forceL_eq, g_onD, g_onI, g_onB, g_onS, g_onM, g_onO, g_test, g_bnd, g_cons1, g_cons2, g_out, q_outr, q_eqi, q_dTup, q_lst1, q_Z, fro, hR]
/-! ### levels, shortcuts -/
theorem f_times (n : Nat) (xs ys zs : List Int) (h : tsC xs ys = some zs) : FF (n + 1) 13 [.dat (.list (il xs)), .dat (.list (il ys))] = some (.own (il zs)) := (tw_times (FF n) 3000 xs ys).trans (by rw [h]; rfl)
theorem f_red (n : Nat) (ns : List Int) (b : Int) (p : List Int × Int) (h : redC ns b = some p) : FF (n + 1) 10 [.dat (.list (il ns)), .dat (.int b)] = some (resP p) := tw_red (FF n) h
theorem f_put (n : Nat) (os is : List Int) (ob ib : Int) {p : List Int × Int} (h : piC os ob is ib = some p) : FF (n + 2) 16 [.dat (.tuple [.list (il os), .int ob]), .dat (.tuple [.list (il is), .int ib])] = some (resP p) := tw_put (FF (n + 1)) 3000 (f_times n) (f_red n) os is ob ib h
noncomputable def gIs {α : Type} (d : PyData) (f : List Int → Option α) : Option α := bnd (lstOf d) fun ns => bnd (intsO ns) f
theorem gIs_some {α : Type} {d : PyData} {f : List Int → Option α} {r : α} (h : gIs d f = some r) : ∃ is, d = .list (il is) ∧ f is = some r := by
  obtain ⟨ns, e1, h⟩ := bnd_inv h
  obtain ⟨is, e2, h⟩ := bnd_inv h
  exact ⟨is, by rw [lstOf_some e1, ints_map e2]; rfl, h⟩
noncomputable def sTimes : Sc := fun _ as => g2 as fun a b => gIs a fun xs => gIs b fun ys => bnd (tsC xs ys) fun zs => some (.own (il zs))
noncomputable def sRed : Sc := fun _ as => g2 as fun a b => gIs a fun xs => gI b fun y => bnd (redC xs y) fun p => some (resP p)
noncomputable def sPut : Sc := fun _ as => g2 as fun a b => gPoly a fun os ob => gPoly b fun is ib => bnd (piC os ob is ib) fun p => some (resP p)
theorem sTimes_ok : ScOk2 13 sTimes := fun n as r h => by
  obtain ⟨a, b, rfl, h1⟩ := g2_some h
  obtain ⟨xs, rfl, h2⟩ := gIs_some h1
  obtain ⟨ys, rfl, h3⟩ := gIs_some h2
  obtain ⟨zs, e, h4⟩ := bnd_inv h3
  cases h4
  exact f_times (n + 4) xs ys zs e
theorem sRed_ok : ScOk2 10 sRed := fun n as r h => by
  obtain ⟨a, b, rfl, h1⟩ := g2_some h
  obtain ⟨xs, rfl, h2⟩ := gIs_some h1
  obtain ⟨y, rfl, h3⟩ := gI_some h2
  obtain ⟨p, e, h4⟩ := bnd_inv h3
  cases h4
  exact f_red (n + 4) xs y p e
theorem sPut_ok : ScOk2 16 sPut := fun n as r h => by
  obtain ⟨a, b, rfl, h1⟩ := g2_some h
  obtain ⟨os, ob, rfl, h2⟩ := gPoly_some h1
  obtain ⟨is, ib, rfl, h3⟩ := gPoly_some h2
  obtain ⟨p, e, h4⟩ := bnd_inv h3
  cases h4
  exact f_put (n + 3) os is ob ib e
end SW.X
set_option Elab.async false
set_option linter.all false
set_option maxRecDepth 100000
set_option maxHeartbeats 1000000
/-! Tw8: as_poly, is_step, holds_bound, the law's numbers. -/
namespace SW.X
open PySem
def pl (ps : List PI) : List PyData := ps.map prd
theorem pl_cons (p : PI) (ps : List PI) : pl (p :: ps) = .tuple [.int p.1, .int p.2] :: pl ps := rfl
theorem lng_pl (ps : List PI) : lng (pl ps) = lng ps := lng_map _ _
theorem divC_some {α : Type} {i j : Int} {k : Int → Option α} {r : α} (h : divC i j k = some r) : ∃ v, aDiv i j = some (.dat (.int v)) ∧ k v = some r := by
  rcases divC_cases i j with ⟨z, _⟩ | ⟨v, z, z2⟩
  · rw [z] at h; cases h
  · rw [z] at h; exact ⟨v, z2, h⟩
theorem modC_some {α : Type} {i j : Int} {k : Int → Option α} {r : α} (h : modC i j k = some r) : ∃ v, aMod i j = some (.dat (.int v)) ∧ k v = some r := by
  rcases modC_cases i j with ⟨z, _⟩ | ⟨v, z, z2⟩
  · rw [z] at h; cases h
  · rw [z] at h; exact ⟨v, z2, h⟩
/-! ### as_poly -/
noncomputable def lcC (ps : List PI) : Int → Option Int := List.rec (motive := fun _ => Int → Option Int) (fun b => some b) (fun p _ ih b => mulC b p.2 fun m => divC m (.ofNat (Nat.gcd (absN b) (absN p.2))) ih) ps
noncomputable def nmC (b : Int) (ps : List PI) : Option (List Int) := List.rec (motive := fun _ => Option (List Int)) (some []) (fun p _ ih => divC b p.2 fun q => mulC p.1 q fun m => bnd ih fun r => some (m :: r)) ps
noncomputable def apC (ps : List PI) : Option (List Int × Int) := bnd (lcC ps 1) fun b => bnd (nmC b ps) fun ns => ifB (lenOk ns) (redC ns b) none
def lbody : S := (.seq (.prim (.asg 1) (.cons (.bi (.ar .fdiv) (.bi (.ar .mul) (.v 1) (.bi .ix (.v 2) (.k (.int 1)))) (.bi .gcd (.v 1) (.bi .ix (.v 2) (.k (.int 1))))) .nil))
      .skip)
theorem l_loop (F : FT) (W : Nat) (a : Option SV) : ∀ (ps : List PI) (b c : Int) (o : Option SV), lcC ps b = some c → ∃ p2, loopF (frB (.name 2) (evS F W lbody)) (pl ps) [a, some (.dat (.int b)), o] = some (.nx [a, some (.dat (.int c)), p2])
  | [], b, c, o, h => by cases h; exact ⟨o, rfl⟩
  | p :: ps, b, c, o, h => by
    have h : (mulC b p.2 fun m => divC m (.ofNat (Nat.gcd (absN b) (absN p.2))) (lcC ps)) = some c := h
    obtain ⟨m, h⟩ := mulC_some h
    obtain ⟨v, d, h⟩ := divC_some h
    obtain ⟨p2, e⟩ := l_loop F W a ps v c (some (.dat (prd p))) h
    refine ⟨p2, ?_⟩
    rw [pl_cons, q_fcons, q_frB, ← e]
    unfold lbody
    simp only [evS_seq, evS_skip, evS_prim, evS_ifs, evS_retv, evS_whl, evS_fr, evS_frz, q_P, evC_cons, evC_nil, evC_v, evC_k, evC_un, evC_bi, evC_tr, q_s0, q_s1, q_s2, q_s3, q_s4, q_s5, q_s6, q_s7, q_s8, q_s9, q_s10, q_s11, q_p0, q_p1, q_p2, q_p3, q_p4, q_p5, q_p6, q_p7, q_p8, q_p9, q_p10, q_p11, q_read, q_readO, q_gcd, q_onD, q_onDo, q_onI, q_onB, q_onSl, q_onSt, q_onSo, q_onL, q_onLo, q_onT, q_onM, q_datD, q_datO, q_intD, dInt_eq, dBool_eq, q_cons, q_mo, bnd_some, bnd_none, q_asg, q_par2, q_asgT, q_ret, q_expr, q_brk, q_raise, q_onx, q_ort, q_obk, q_ono, q_cmp, q_ar, q_and, q_or, q_ix, q_eq, q_ne, q_max2, q_kint, q_kg, q_kbl, q_knon, q_kdT, q_lt, q_le, q_gt, q_ge, q_test, q_testN, ifB_t, ifB_f, q_neg, q_one, q_not, q_isN, q_notN, q_len, q_abs, q_seq, q_rev, q_listOf, q_tupOf, q_isInst, q_tup, q_lst, q_call, q_chain, q_ite, q_max3, q_add, q_sub, q_mul, q_div, q_mod, q_at0, q_at1, q_d0, q_d1, q_d2, q_d1o, q_d2o, q_a1, q_a2, q_a3, q_a5, lenOk2, lenOk1, lenOk0, fI_eq, forceL_eq, g_onD, g_onI, g_onB, g_onS, g_onM, g_onO, g_test, g_bnd, g_cons1, g_cons2, g_out, q_outr, q_eqi, q_dTup, q_lst1, m, d]
    rfl
def cNm : C := .bi (.ar .mul) (.bi .ix (.v 2) (.k (.int 0))) (.bi (.ar .fdiv) (.v 1) (.bi .ix (.v 2) (.k (.int 1))))
theorem nm_go (F : FT) (a o : Option SV) (b : Int) : ∀ (ps : List PI) (ns : List Int), nmC b ps = some ns → compGo (compTurn (.name 2) [a, some (.dat (.int b)), o] (evC F .nil) (evC F cNm)) (pl ps) = some (il ns)
  | [], ns, h => by cases h; rfl
  | p :: ps, ns, h => by
    have h : (divC b p.2 fun q => mulC p.1 q fun m => bnd (nmC b ps) fun r => some (m :: r)) = some ns := h
    obtain ⟨v, d, h⟩ := divC_some h
    obtain ⟨m, h⟩ := mulC_some h
    obtain ⟨l, e, h⟩ := bnd_inv h
    cases h
    have ih := nm_go F a o b ps l e
    have t : compTurn (.name 2) [a, some (.dat (.int b)), o] (evC F .nil) (evC F cNm) (.tuple [.int p.1, .int p.2]) = some (some (.int (Int.mul p.1 v))) := by
      unfold compTurn cNm
      rw [q_bind]
      simp only [evS_seq, evS_skip, evS_prim, evS_ifs, evS_retv, evS_whl, evS_fr, evS_frz, q_P, evC_cons, evC_nil, evC_v, evC_k, evC_un, evC_bi, evC_tr, q_s0, q_s1, q_s2, q_s3, q_s4, q_s5, q_s6, q_s7, q_s8, q_s9, q_s10, q_s11, q_p0, q_p1, q_p2, q_p3, q_p4, q_p5, q_p6, q_p7, q_p8, q_p9, q_p10, q_p11, q_read, q_readO, q_gcd, q_onD, q_onDo, q_onI, q_onB, q_onSl, q_onSt, q_onSo, q_onL, q_onLo, q_onT, q_onM, q_datD, q_datO, q_intD, dInt_eq, dBool_eq, q_cons, q_mo, bnd_some, bnd_none, q_asg, q_par2, q_asgT, q_ret, q_expr, q_brk, q_raise, q_onx, q_ort, q_obk, q_ono, q_cmp, q_ar, q_and, q_or, q_ix, q_eq, q_ne, q_max2, q_kint, q_kg, q_kbl, q_knon, q_kdT, q_lt, q_le, q_gt, q_ge, q_test, q_testN, ifB_t, ifB_f, q_neg, q_one, q_not, q_isN, q_notN, q_len, q_abs, q_seq, q_rev, q_listOf, q_tupOf, q_isInst, q_tup, q_lst, q_call, q_chain, q_ite, q_max3, q_add, q_sub, q_mul, q_div, q_mod, q_at0, q_at1, q_d0, q_d1, q_d2, q_d1o, q_d2o, q_a1, q_a2, q_a3, q_a5, lenOk2, lenOk1, lenOk0, fI_eq, forceL_eq, g_onD, g_onI, g_onB, g_onS, g_onM, g_onO, g_test, g_bnd, g_cons1, g_cons2, g_out, q_outr, q_eqi, q_dTup, q_lst1, d, m]
      rfl
    have g1 : compGo (compTurn (.name 2) [a, some (.dat (.int b)), o] (evC F .nil) (evC F cNm)) (pl (p :: ps)) = match compTurn (.name 2) [a, some (.dat (.int b)), o] (evC F .nil) (evC F cNm) (.tuple [.int p.1, .int p.2]) with
      | none => none
      | some o1 => match compGo (compTurn (.name 2) [a, some (.dat (.int b)), o] (evC F .nil) (evC F cNm)) (pl ps) with
        | none => none
        | some r => match o1 with
          | none => some r
          | some y => some (y :: r) := rfl
    rw [g1, t, ih]
    rfl
theorem tw_aspoly (F : FT) (W : Nat) (hR : ∀ ns b p, redC ns b = some p → F 10 [.dat (.list (il ns)), .dat (.int b)] = some (resP p)) {ps : List PI} {p : List Int × Int} (h : apC ps = some p) : runD F W c_as_poly [.dat (.tuple (pl ps))] = some (resP p) := by
  rw [runD_go (ρ := [some (.dat (.tuple (pl ps))), none, none]) rfl rfl]
  obtain ⟨b, e1, h⟩ := bnd_inv h
  obtain ⟨ns, e2, h⟩ := bnd_inv h
  obtain ⟨e3, h⟩ := ifB_some h
  obtain ⟨p2, c1⟩ := l_loop F W (some (.dat (.tuple (pl ps)))) ps 1 b none e1
  have c2 := nm_go F (some (.dat (.tuple (pl ps)))) none b ps ns e2
  have hR := hR _ _ _ h
  unfold c_as_poly
  simp only [evS_seq, evS_skip, evS_prim, evS_ifs, evS_retv, evS_whl, evS_fr, evS_frz, q_P, evC_cons, evC_nil, evC_v, evC_k, evC_un, evC_bi, evC_tr, q_s0, q_s1, q_s2, q_s3, q_s4, q_s5, q_s6, q_s7, q_s8, q_s9, q_s10, q_s11, q_p0, q_p1, q_p2, q_p3, q_p4, q_p5, q_p6, q_p7, q_p8, q_p9, q_p10, q_p11, q_read, q_readO, q_gcd, q_onD, q_onDo, q_onI, q_onB, q_onSl, q_onSt, q_onSo, q_onL, q_onLo, q_onT, q_onM, q_datD, q_datO, q_intD, dInt_eq, dBool_eq, q_cons, q_mo, bnd_some, bnd_none, q_asg, q_par2, q_asgT, q_ret, q_expr, q_brk, q_raise, q_onx, q_ort, q_obk, q_ono, q_cmp, q_ar, q_and, q_or, q_ix, q_eq, q_ne, q_max2, q_kint, q_kg, q_kbl, q_knon, q_kdT, q_lt, q_le, q_gt, q_ge, q_test, q_testN, ifB_t, ifB_f, q_neg, q_one, q_not, q_isN, q_notN, q_len, q_abs, q_seq, q_rev, q_listOf, q_tupOf, q_isInst, q_tup, q_lst, q_call, q_chain, q_ite, q_max3, q_add, q_sub, q_mul, q_div, q_mod, q_at0, q_at1, q_d0, q_d1, q_d2, q_d1o, q_d2o, q_a1, q_a2, q_a3, q_a5, lenOk2, lenOk1, lenOk0, fI_eq, forceL_eq, g_onD, g_onI, g_onB, g_onS, g_onM, g_onO, g_test, g_bnd, g_cons1, g_cons2, g_out, q_outr, q_eqi, q_dTup, q_lst1, q_fr]
  show outR (onO (loopF (frB (.name 2) (evS F W lbody)) _ _) _ _) = _
  rw [c1]
  simp only [evS_seq, evS_skip, evS_prim, evS_ifs, evS_retv, evS_whl, evS_fr, evS_frz, q_P, evC_cons, evC_nil, evC_v, evC_k, evC_un, evC_bi, evC_tr, q_s0, q_s1, q_s2, q_s3, q_s4, q_s5, q_s6, q_s7, q_s8, q_s9, q_s10, q_s11, q_p0, q_p1, q_p2, q_p3, q_p4, q_p5, q_p6, q_p7, q_p8, q_p9, q_p10, q_p11, q_read, q_readO, q_gcd, q_onD, q_onDo, q_onI, q_onB, q_onSl, q_onSt, q_onSo, q_onL, q_onLo, q_onT, q_onM, q_datD, q_datO, q_intD, dInt_eq, dBool_eq, q_cons, q_mo, bnd_some, bnd_none, q_asg, q_par2, q_asgT, q_ret, q_expr, q_brk, q_raise, q_onx, q_ort, q_obk, q_ono, q_cmp, q_ar, q_and, q_or, q_ix, q_eq, q_ne, q_max2, q_kint, q_kg, q_kbl, q_knon, q_kdT, q_lt, q_le, q_gt, q_ge, q_test, q_testN, ifB_t, ifB_f, q_neg, q_one, q_not, q_isN, q_notN, q_len, q_abs, q_seq, q_rev, q_listOf, q_tupOf, q_isInst, q_tup, q_lst, q_call, q_chain, q_ite, q_max3, q_add, q_sub, q_mul, q_div, q_mod, q_at0, q_at1, q_d0, q_d1, q_d2, q_d1o, q_d2o, q_a1, q_a2, q_a3, q_a5, lenOk2, lenOk1, lenOk0, fI_eq, forceL_eq, g_onD, g_onI, g_onB, g_onS, g_onM, g_onO, g_test, g_bnd, g_cons1, g_cons2, g_out, q_outr, q_eqi, q_dTup, q_lst1, evC_comp, q_comp, q_wipe1]
  show outR (onO (bnd (bnd (opCons (onM (opCons (compR (compGo (compTurn (.name 2) _ (evC F .nil) (evC F cNm)) _)) _) _) _) _) _) _ _) = _
  rw [c2]
  unfold compR
  simp only [lenOk_il, e3, evS_seq, evS_skip, evS_prim, evS_ifs, evS_retv, evS_whl, evS_fr, evS_frz, q_P, evC_cons, evC_nil, evC_v, evC_k, evC_un, evC_bi, evC_tr, q_s0, q_s1, q_s2, q_s3, q_s4, q_s5, q_s6, q_s7, q_s8, q_s9, q_s10, q_s11, q_p0, q_p1, q_p2, q_p3, q_p4, q_p5, q_p6, q_p7, q_p8, q_p9, q_p10, q_p11, q_read, q_readO, q_gcd, q_onD, q_onDo, q_onI, q_onB, q_onSl, q_onSt, q_onSo, q_onL, q_onLo, q_onT, q_onM, q_datD, q_datO, q_intD, dInt_eq, dBool_eq, q_cons, q_mo, bnd_some, bnd_none, q_asg, q_par2, q_asgT, q_ret, q_expr, q_brk, q_raise, q_onx, q_ort, q_obk, q_ono, q_cmp, q_ar, q_and, q_or, q_ix, q_eq, q_ne, q_max2, q_kint, q_kg, q_kbl, q_knon, q_kdT, q_lt, q_le, q_gt, q_ge, q_test, q_testN, ifB_t, ifB_f, q_neg, q_one, q_not, q_isN, q_notN, q_len, q_abs, q_seq, q_rev, q_listOf, q_tupOf, q_isInst, q_tup, q_lst, q_call, q_chain, q_ite, q_max3, q_add, q_sub, q_mul, q_div, q_mod, q_at0, q_at1, q_d0, q_d1, q_d2, q_d1o, q_d2o, q_a1, q_a2, q_a3, q_a5, lenOk2, lenOk1, lenOk0, fI_eq, forceL_eq, g_onD, g_onI, g_onB, g_onS, g_onM, g_onO, g_test, g_bnd, g_cons1, g_cons2, g_out, q_outr, q_eqi, q_dTup, q_lst1]
  show outR (onO (bnd (bnd (opCons (F 10 [.dat (.list (il ns)), .dat (.int b)]) _) _) _) _ _) = _
  rw [hR]
  rfl
/-! ### is_step -/
noncomputable def allB (ps : List PI) : Bool := List.rec (motive := fun _ => Bool) true (fun p _ ih => ifB (numB p.1 p.2) ih false) ps
noncomputable def isC (ps : List PI) : Bool := ifB (leI 2 (.ofNat (lng ps))) (ifB (leI (.ofNat (lng ps)) 65) (ifB (allB ps) (Option.rec (motive := fun _ => Bool) false (fun p => not (eqI p.1 0)) (atI ps (.negSucc 0))) false) false) false
theorem ifB_and {a b : Bool} (h : ifB a b false = true) : a = true ∧ b = true := by cases a <;> cases b <;> first | exact ⟨rfl, rfl⟩ | cases h
def sbody : S := (.seq (.ifs (.un .not (.un (.call 1) (.cons (.v 1) .nil))) (.seq (.prim .ret (.cons (.k (.bl false)) .nil))
      .skip) .skip)
      .skip)
theorem s_loop (F : FT) (W : Nat) (hN : ∀ a b, F 1 [.dat (.tuple [.int a, .int b])] = dBool (numB a b)) (a : Option SV) : ∀ (ps : List PI) (o : Option SV), allB ps = true → ∃ p1, loopF (frB (.name 1) (evS F W sbody)) (pl ps) [a, o] = some (.nx [a, p1])
  | [], o, h => ⟨o, rfl⟩
  | p :: ps, o, h => by
    obtain ⟨h1, h2⟩ := ifB_and (a := numB p.1 p.2) (b := allB ps) h
    obtain ⟨p1, e⟩ := s_loop F W hN a ps (some (.dat (prd p))) h2
    refine ⟨p1, ?_⟩
    rw [pl_cons, q_fcons, q_frB, ← e]
    unfold sbody
    simp only [evS_seq, evS_skip, evS_prim, evS_ifs, evS_retv, evS_whl, evS_fr, evS_frz, q_P, evC_cons, evC_nil, evC_v, evC_k, evC_un, evC_bi, evC_tr, q_s0, q_s1, q_s2, q_s3, q_s4, q_s5, q_s6, q_s7, q_s8, q_s9, q_s10, q_s11, q_p0, q_p1, q_p2, q_p3, q_p4, q_p5, q_p6, q_p7, q_p8, q_p9, q_p10, q_p11, q_read, q_readO, q_gcd, q_onD, q_onDo, q_onI, q_onB, q_onSl, q_onSt, q_onSo, q_onL, q_onLo, q_onT, q_onM, q_datD, q_datO, q_intD, dInt_eq, dBool_eq, q_cons, q_mo, bnd_some, bnd_none, q_asg, q_par2, q_asgT, q_ret, q_expr, q_brk, q_raise, q_onx, q_ort, q_obk, q_ono, q_cmp, q_ar, q_and, q_or, q_ix, q_eq, q_ne, q_max2, q_kint, q_kg, q_kbl, q_knon, q_kdT, q_lt, q_le, q_gt, q_ge, q_test, q_testN, ifB_t, ifB_f, q_neg, q_one, q_not, q_isN, q_notN, q_len, q_abs, q_seq, q_rev, q_listOf, q_tupOf, q_isInst, q_tup, q_lst, q_call, q_chain, q_ite, q_max3, q_add, q_sub, q_mul, q_div, q_mod, q_at0, q_at1, q_d0, q_d1, q_d2, q_d1o, q_d2o, q_a1, q_a2, q_a3, q_a5, lenOk2, lenOk1, lenOk0, fI_eq, forceL_eq, g_onD, g_onI, g_onB, g_onS, g_onM, g_onO, g_test, g_bnd, g_cons1, g_cons2, g_out, q_outr, q_eqi, q_dTup, q_lst1, hN, h1, q_nt]
    rfl
theorem atI_map {α β : Type} (g : α → β) (xs : List α) (i : Int) : atI (xs.map g) i = bnd (atI xs i) fun x => some (g x) := by
  have nm : ∀ n, nth (xs.map g) n = bnd (nth xs n) fun x => some (g x) := fun n => by
    rw [nth_eq, nth_eq, List.getElem?_map]
    cases xs[n]? <;> rfl
  cases i with
  | ofNat n => exact nm n
  | negSucc n =>
    show ifB (Nat.ble (n + 1) (lng (xs.map g))) (nth (xs.map g) (Nat.sub (lng (xs.map g)) (n + 1))) none = bnd (ifB (Nat.ble (n + 1) (lng xs)) (nth xs (Nat.sub (lng xs) (n + 1))) none) _
    rw [lng_map]
    cases Nat.ble (n + 1) (lng xs)
    · rfl
    · exact nm _
theorem tw_isstep (F : FT) (W : Nat) (hN : ∀ a b, F 1 [.dat (.tuple [.int a, .int b])] = dBool (numB a b)) {ps : List PI} (h : isC ps = true) : runD F W c_is_step [.dat (.tuple (pl ps))] = some (.dat (.bool true)) := by
  rw [runD_go (ρ := [some (.dat (.tuple (pl ps))), none]) rfl rfl]
  obtain ⟨h1, h⟩ := ifB_and h
  obtain ⟨h2, h⟩ := ifB_and h
  obtain ⟨h3, h⟩ := ifB_and h
  obtain ⟨p1, c1⟩ := s_loop F W hN (some (.dat (.tuple (pl ps)))) ps none h3
  have e65 : Int.add 64 1 = 65 := rfl
  have em : Int.neg 1 = .negSucc 0 := rfl
  unfold c_is_step
  simp only [evS_seq, evS_skip, evS_prim, evS_ifs, evS_retv, evS_whl, evS_fr, evS_frz, q_P, evC_cons, evC_nil, evC_v, evC_k, evC_un, evC_bi, evC_tr, q_s0, q_s1, q_s2, q_s3, q_s4, q_s5, q_s6, q_s7, q_s8, q_s9, q_s10, q_s11, q_p0, q_p1, q_p2, q_p3, q_p4, q_p5, q_p6, q_p7, q_p8, q_p9, q_p10, q_p11, q_read, q_readO, q_gcd, q_onD, q_onDo, q_onI, q_onB, q_onSl, q_onSt, q_onSo, q_onL, q_onLo, q_onT, q_onM, q_datD, q_datO, q_intD, dInt_eq, dBool_eq, q_cons, q_mo, bnd_some, bnd_none, q_asg, q_par2, q_asgT, q_ret, q_expr, q_brk, q_raise, q_onx, q_ort, q_obk, q_ono, q_cmp, q_ar, q_and, q_or, q_ix, q_eq, q_ne, q_max2, q_kint, q_kg, q_kbl, q_knon, q_kdT, q_lt, q_le, q_gt, q_ge, q_test, q_testN, ifB_t, ifB_f, q_neg, q_one, q_not, q_isN, q_notN, q_len, q_abs, q_seq, q_rev, q_listOf, q_tupOf, q_isInst, q_tup, q_lst, q_call, q_chain, q_ite, q_max3, q_add, q_sub, q_mul, q_div, q_mod, q_at0, q_at1, q_d0, q_d1, q_d2, q_d1o, q_d2o, q_a1, q_a2, q_a3, q_a5, lenOk2, lenOk1, lenOk0, fI_eq, forceL_eq, g_onD, g_onI, g_onB, g_onS, g_onM, g_onO, g_test, g_bnd, g_cons1, g_cons2, g_out, q_outr, q_eqi, q_dTup, q_lst1, q_ty3, q_nt, q_nf, lng_pl, h1, h2, e65, q_fr]
  show outR (onO (loopF (frB (.name 1) (evS F W sbody)) _ _) _ _) = _
  rw [c1]
  have e := atI_map prd ps (.negSucc 0)
  cases e2 : atI ps (.negSucc 0) with
  | none => rw [e2] at h; cases h
  | some p =>
    rw [e2] at h e
    have h : (!(eqI p.1 0)) = true := h
    have e : atI (pl ps) (.negSucc 0) = some (.tuple [.int p.1, .int p.2]) := e
    simp only [evS_seq, evS_skip, evS_prim, evS_ifs, evS_retv, evS_whl, evS_fr, evS_frz, q_P, evC_cons, evC_nil, evC_v, evC_k, evC_un, evC_bi, evC_tr, q_s0, q_s1, q_s2, q_s3, q_s4, q_s5, q_s6, q_s7, q_s8, q_s9, q_s10, q_s11, q_p0, q_p1, q_p2, q_p3, q_p4, q_p5, q_p6, q_p7, q_p8, q_p9, q_p10, q_p11, q_read, q_readO, q_gcd, q_onD, q_onDo, q_onI, q_onB, q_onSl, q_onSt, q_onSo, q_onL, q_onLo, q_onT, q_onM, q_datD, q_datO, q_intD, dInt_eq, dBool_eq, q_cons, q_mo, bnd_some, bnd_none, q_asg, q_par2, q_asgT, q_ret, q_expr, q_brk, q_raise, q_onx, q_ort, q_obk, q_ono, q_cmp, q_ar, q_and, q_or, q_ix, q_eq, q_ne, q_max2, q_kint, q_kg, q_kbl, q_knon, q_kdT, q_lt, q_le, q_gt, q_ge, q_test, q_testN, ifB_t, ifB_f, q_neg, q_one, q_not, q_isN, q_notN, q_len, q_abs, q_seq, q_rev, q_listOf, q_tupOf, q_isInst, q_tup, q_lst, q_call, q_chain, q_ite, q_max3, q_add, q_sub, q_mul, q_div, q_mod, q_at0, q_at1, q_d0, q_d1, q_d2, q_d1o, q_d2o, q_a1, q_a2, q_a3, q_a5, lenOk2, lenOk1, lenOk0, fI_eq, forceL_eq, g_onD, g_onI, g_onB, g_onS, g_onM, g_onO, g_test, g_bnd, g_cons1, g_cons2, g_out, q_outr, q_eqi, q_dTup, q_lst1, em, e, h]
/-! ### holds_bound -/
noncomputable def hbGo (xs : List Int) (bound : Int) (n : Nat) : Nat → Int → Int → Option (Int × Int) :=
  Nat.rec (motive := fun _ => Nat → Int → Int → Option (Int × Int)) (fun _ o s => some (o, s)) (fun _ ih k o s => bnd (nth xs k) fun x => mulC x s fun m => fI (Int.add o m) fun o1 => mulC s bound fun s1 => ih (Nat.succ k) o1 s1) n
noncomputable def hbC (xs : List Int) (be bound : Int) : Option Bool := List.rec (motive := fun _ => Option Bool) none (fun _ r _ => forceN (lng r) fun l => ifB (small (.ofNat l)) (mulC bound be fun o => bnd (hbGo xs bound l 0 o 1) fun p => bnd (nth xs l) fun x => mulC x p.2 fun m => some (leI p.1 m)) none) xs
def hbody : S := (.seq (.prim (.asg 4) (.cons (.bi (.ar .add) (.v 4) (.bi (.ar .mul) (.bi .ix (.v 0) (.v 6)) (.v 5))) .nil))
      (.seq (.prim (.asg 5) (.cons (.bi (.ar .mul) (.v 5) (.v 2)) .nil))
      .skip))
theorem h_loop (F : FT) (W : Nat) (xs : List Int) (bound : Int) (a b : Option SV) : ∀ (n k : Nat) (o s : Int) (g : Option SV) (p : Int × Int), hbGo xs bound n k o s = some p → ∃ p6, loopF (frB (.name 6) (evS F W hbody)) (rangeL (.ofNat k) n) [some (.dat (.list (il xs))), a, some (.dat (.int bound)), b, some (.dat (.int o)), some (.dat (.int s)), g] =
    some (.nx [some (.dat (.list (il xs))), a, some (.dat (.int bound)), b, some (.dat (.int p.1)), some (.dat (.int p.2)), p6])
  | 0, k, o, s, g, p, h => by cases h; exact ⟨g, rfl⟩
  | n + 1, k, o, s, g, p, h => by
    obtain ⟨x, e1, h⟩ := bnd_inv h
    obtain ⟨m1, h⟩ := mulC_some h
    rw [fI_eq] at h
    obtain ⟨m2, h⟩ := mulC_some h
    obtain ⟨p6, e⟩ := h_loop F W xs bound a b n (k + 1) (Int.add o (Int.mul x s)) (Int.mul s bound) (some (.dat (.int (.ofNat k)))) p h
    refine ⟨p6, ?_⟩
    show onO (frB (.name 6) (evS F W hbody) (.int (.ofNat k)) _) (loopF (frB (.name 6) (evS F W hbody)) (rangeL (.ofNat (k + 1)) n)) _ = _
    rw [q_frB, ← e]
    unfold hbody
    simp only [evS_seq, evS_skip, evS_prim, evS_ifs, evS_retv, evS_whl, evS_fr, evS_frz, q_P, evC_cons, evC_nil, evC_v, evC_k, evC_un, evC_bi, evC_tr, q_s0, q_s1, q_s2, q_s3, q_s4, q_s5, q_s6, q_s7, q_s8, q_s9, q_s10, q_s11, q_p0, q_p1, q_p2, q_p3, q_p4, q_p5, q_p6, q_p7, q_p8, q_p9, q_p10, q_p11, q_read, q_readO, q_gcd, q_onD, q_onDo, q_onI, q_onB, q_onSl, q_onSt, q_onSo, q_onL, q_onLo, q_onT, q_onM, q_datD, q_datO, q_intD, dInt_eq, dBool_eq, q_cons, q_mo, bnd_some, bnd_none, q_asg, q_par2, q_asgT, q_ret, q_expr, q_brk, q_raise, q_onx, q_ort, q_obk, q_ono, q_cmp, q_ar, q_and, q_or, q_ix, q_eq, q_ne, q_max2, q_kint, q_kg, q_kbl, q_knon, q_kdT, q_lt, q_le, q_gt, q_ge, q_test, q_testN, ifB_t, ifB_f, q_neg, q_one, q_not, q_isN, q_notN, q_len, q_abs, q_seq, q_rev, q_listOf, q_tupOf, q_isInst, q_tup, q_lst, q_call, q_chain, q_ite, q_max3, q_add, q_sub, q_mul, q_div, q_mod, q_at0, q_at1, q_d0, q_d1, q_d2, q_d1o, q_d2o, q_a1, q_a2, q_a3, q_a5, lenOk2, lenOk1, lenOk0, fI_eq, forceL_eq, g_onD, g_onI, g_onB, g_onS, g_onM, g_onO, g_test, g_bnd, g_cons1, g_cons2, g_out, q_outr, q_eqi, q_dTup, q_lst1, atI_n, nth_il, e1, m1, m2]
noncomputable def rng1R (j : Int) : Option SV := match small j with
  | true => dLst (rangeL 0 j.toNat)
  | false => none
theorem q_rng1 (F : FT) (a : Ev1) (pk : Bool) (ρ : En) : opU F .rng1 a pk ρ = onI (a false ρ) fun j => rng1R j := rfl
theorem rng1R_n {n : Nat} (h : small (.ofNat n) = true) : rng1R (.ofNat n) = some (.dat (.list (rangeL (.ofNat 0) n))) := by
  unfold rng1R
  rw [h]
  rfl
theorem tw_holds (F : FT) (W : Nat) {xs : List Int} {be bound : Int} {r : Bool} (h : hbC xs be bound = some r) : runD F W c_holds_bound [.dat (.list (il xs)), .dat (.int be), .dat (.int bound)] = some (.dat (.bool r)) := by
  rw [runD_go (ρ := [some (.dat (.list (il xs))), some (.dat (.int be)), some (.dat (.int bound)), none, none, none, none]) rfl rfl]
  cases xs with
  | nil => cases h
  | cons x xr =>
    have h : (forceN (lng xr) fun l => ifB (small (.ofNat l)) (mulC bound be fun o => bnd (hbGo (x :: xr) bound l 0 o 1) fun p => bnd (nth (x :: xr) l) fun x => mulC x p.2 fun m => some (leI p.1 m)) none) = some r := h
    rw [forceN_eq] at h
    obtain ⟨h1, h⟩ := ifB_some h
    obtain ⟨m1, h⟩ := mulC_some h
    obtain ⟨p, e1, h⟩ := bnd_inv h
    obtain ⟨y, e2, h⟩ := bnd_inv h
    obtain ⟨m2, h⟩ := mulC_some h
    cases h
    have el : lng (il (x :: xr)) = lng xr + 1 := by rw [lng_il]; rfl
    obtain ⟨p6, c⟩ := h_loop F W (x :: xr) bound (some (.dat (.int be))) (some (.dat (.int (.ofNat (lng xr))))) (lng xr) 0 (Int.mul bound be) 1 none p e1
    unfold c_holds_bound
    simp only [evS_seq, evS_skip, evS_prim, evS_ifs, evS_retv, evS_whl, evS_fr, evS_frz, q_P, evC_cons, evC_nil, evC_v, evC_k, evC_un, evC_bi, evC_tr, q_s0, q_s1, q_s2, q_s3, q_s4, q_s5, q_s6, q_s7, q_s8, q_s9, q_s10, q_s11, q_p0, q_p1, q_p2, q_p3, q_p4, q_p5, q_p6, q_p7, q_p8, q_p9, q_p10, q_p11, q_read, q_readO, q_gcd, q_onD, q_onDo, q_onI, q_onB, q_onSl, q_onSt, q_onSo, q_onL, q_onLo, q_onT, q_onM, q_datD, q_datO, q_intD, dInt_eq, dBool_eq, q_cons, q_mo, bnd_some, bnd_none, q_asg, q_par2, q_asgT, q_ret, q_expr, q_brk, q_raise, q_onx, q_ort, q_obk, q_ono, q_cmp, q_ar, q_and, q_or, q_ix, q_eq, q_ne, q_max2, q_kint, q_kg, q_kbl, q_knon, q_kdT, q_lt, q_le, q_gt, q_ge, q_test, q_testN, ifB_t, ifB_f, q_neg, q_one, q_not, q_isN, q_notN, q_len, q_abs, q_seq, q_rev, q_listOf, q_tupOf, q_isInst, q_tup, q_lst, q_call, q_chain, q_ite, q_max3, q_add, q_sub, q_mul, q_div, q_mod, q_at0, q_at1, q_d0, q_d1, q_d2, q_d1o, q_d2o, q_a1, q_a2, q_a3, q_a5, lenOk2, lenOk1, lenOk0, fI_eq, forceL_eq, g_onD, g_onI, g_onB, g_onS, g_onM, g_onO, g_test, g_bnd, g_cons1, g_cons2, g_out, q_outr, q_eqi, q_dTup, q_lst1, el, sub1, m1, q_fr, q_rng1, rng1R_n h1]
    show outR (onO (loopF (frB (.name 6) (evS F W hbody)) _ _) _ _) = _
    rw [c]
    simp only [evS_seq, evS_skip, evS_prim, evS_ifs, evS_retv, evS_whl, evS_fr, evS_frz, q_P, evC_cons, evC_nil, evC_v, evC_k, evC_un, evC_bi, evC_tr, q_s0, q_s1, q_s2, q_s3, q_s4, q_s5, q_s6, q_s7, q_s8, q_s9, q_s10, q_s11, q_p0, q_p1, q_p2, q_p3, q_p4, q_p5, q_p6, q_p7, q_p8, q_p9, q_p10, q_p11, q_read, q_readO, q_gcd, q_onD, q_onDo, q_onI, q_onB, q_onSl, q_onSt, q_onSo, q_onL, q_onLo, q_onT, q_onM, q_datD, q_datO, q_intD, dInt_eq, dBool_eq, q_cons, q_mo, bnd_some, bnd_none, q_asg, q_par2, q_asgT, q_ret, q_expr, q_brk, q_raise, q_onx, q_ort, q_obk, q_ono, q_cmp, q_ar, q_and, q_or, q_ix, q_eq, q_ne, q_max2, q_kint, q_kg, q_kbl, q_knon, q_kdT, q_lt, q_le, q_gt, q_ge, q_test, q_testN, ifB_t, ifB_f, q_neg, q_one, q_not, q_isN, q_notN, q_len, q_abs, q_seq, q_rev, q_listOf, q_tupOf, q_isInst, q_tup, q_lst, q_call, q_chain, q_ite, q_max3, q_add, q_sub, q_mul, q_div, q_mod, q_at0, q_at1, q_d0, q_d1, q_d2, q_d1o, q_d2o, q_a1, q_a2, q_a3, q_a5, lenOk2, lenOk1, lenOk0, fI_eq, forceL_eq, g_onD, g_onI, g_onB, g_onS, g_onM, g_onO, g_test, g_bnd, g_cons1, g_cons2, g_out, q_outr, q_eqi, q_dTup, q_lst1, atI_n, nth_il, e2, m2]
/-! ### the law's numbers -/
noncomputable def ldGo (n : Nat) : Int → Int → Option Int := Nat.rec (motive := fun _ => Int → Int → Option Int) (fun _ _ => none) (fun _ ih a b => ifB (ltI 0 b) (modC a b fun m => ih b m) (some a)) n
noncomputable def ldC (a b : Int) : Option Int := fI (gtI (Int.neg a) a) fun x => fI (gtI (Int.neg b) b) fun y => ldGo 3000 x y
theorem ld_loop (F : FT) (W : Nat) : ∀ (n : Nat) (a b g : Int), ldGo n a b = some g → ∃ p1, loopW (evC F (.bi (.cmp .gt) (.v 1) (.k (.int 0))) false) (evS F W (.seq (.prim (.par2 0 1) (.cons (.v 1) (.cons (.bi (.ar .mod) (.v 0) (.v 1)) .nil))) .skip)) n [some (.dat (.int a)), some (.dat (.int b))] = some (.nx [some (.dat (.int g)), p1])
  | 0, a, b, g, h => nomatch h
  | n + 1, a, b, g, h => by
    have h : ifB (ltI 0 b) (modC a b fun m => ldGo n b m) (some a) = some g := h
    rw [q_wsucc]
    cases e : ltI 0 b with
    | false =>
      rw [e] at h
      cases h
      refine ⟨some (.dat (.int b)), ?_⟩
      simp only [evS_seq, evS_skip, evS_prim, evS_ifs, evS_retv, evS_whl, evS_fr, evS_frz, q_P, evC_cons, evC_nil, evC_v, evC_k, evC_un, evC_bi, evC_tr, q_s0, q_s1, q_s2, q_s3, q_s4, q_s5, q_s6, q_s7, q_s8, q_s9, q_s10, q_s11, q_p0, q_p1, q_p2, q_p3, q_p4, q_p5, q_p6, q_p7, q_p8, q_p9, q_p10, q_p11, q_read, q_readO, q_gcd, q_onD, q_onDo, q_onI, q_onB, q_onSl, q_onSt, q_onSo, q_onL, q_onLo, q_onT, q_onM, q_datD, q_datO, q_intD, dInt_eq, dBool_eq, q_cons, q_mo, bnd_some, bnd_none, q_asg, q_par2, q_asgT, q_ret, q_expr, q_brk, q_raise, q_onx, q_ort, q_obk, q_ono, q_cmp, q_ar, q_and, q_or, q_ix, q_eq, q_ne, q_max2, q_kint, q_kg, q_kbl, q_knon, q_kdT, q_lt, q_le, q_gt, q_ge, q_test, q_testN, ifB_t, ifB_f, q_neg, q_one, q_not, q_isN, q_notN, q_len, q_abs, q_seq, q_rev, q_listOf, q_tupOf, q_isInst, q_tup, q_lst, q_call, q_chain, q_ite, q_max3, q_add, q_sub, q_mul, q_div, q_mod, q_at0, q_at1, q_d0, q_d1, q_d2, q_d1o, q_d2o, q_a1, q_a2, q_a3, q_a5, lenOk2, lenOk1, lenOk0, fI_eq, forceL_eq, g_onD, g_onI, g_onB, g_onS, g_onM, g_onO, g_test, g_bnd, g_cons1, g_cons2, g_out, q_outr, q_eqi, q_dTup, q_lst1, e]
    | true =>
      rw [e] at h
      obtain ⟨m, d, h⟩ := modC_some h
      obtain ⟨p1, c⟩ := ld_loop F W n b m g h
      refine ⟨p1, ?_⟩
      rw [← c]
      simp only [evS_seq, evS_skip, evS_prim, evS_ifs, evS_retv, evS_whl, evS_fr, evS_frz, q_P, evC_cons, evC_nil, evC_v, evC_k, evC_un, evC_bi, evC_tr, q_s0, q_s1, q_s2, q_s3, q_s4, q_s5, q_s6, q_s7, q_s8, q_s9, q_s10, q_s11, q_p0, q_p1, q_p2, q_p3, q_p4, q_p5, q_p6, q_p7, q_p8, q_p9, q_p10, q_p11, q_read, q_readO, q_gcd, q_onD, q_onDo, q_onI, q_onB, q_onSl, q_onSt, q_onSo, q_onL, q_onLo, q_onT, q_onM, q_datD, q_datO, q_intD, dInt_eq, dBool_eq, q_cons, q_mo, bnd_some, bnd_none, q_asg, q_par2, q_asgT, q_ret, q_expr, q_brk, q_raise, q_onx, q_ort, q_obk, q_ono, q_cmp, q_ar, q_and, q_or, q_ix, q_eq, q_ne, q_max2, q_kint, q_kg, q_kbl, q_knon, q_kdT, q_lt, q_le, q_gt, q_ge, q_test, q_testN, ifB_t, ifB_f, q_neg, q_one, q_not, q_isN, q_notN, q_len, q_abs, q_seq, q_rev, q_listOf, q_tupOf, q_isInst, q_tup, q_lst, q_call, q_chain, q_ite, q_max3, q_add, q_sub, q_mul, q_div, q_mod, q_at0, q_at1, q_d0, q_d1, q_d2, q_d1o, q_d2o, q_a1, q_a2, q_a3, q_a5, lenOk2, lenOk1, lenOk0, fI_eq, forceL_eq, g_onD, g_onI, g_onB, g_onS, g_onM, g_onO, g_test, g_bnd, g_cons1, g_cons2, g_out, q_outr, q_eqi, q_dTup, q_lst1, e, d]
theorem tw_div (F : FT) {a b g : Int} (h : ldC a b = some g) : runD F 3000 c__law_divisor [.dat (.int a), .dat (.int b)] = some (.dat (.int g)) := by
  rw [runD_go (ρ := [some (.dat (.int a)), some (.dat (.int b))]) rfl rfl]
  unfold ldC at h
  rw [fI_eq, fI_eq] at h
  obtain ⟨p1, c⟩ := ld_loop F 3000 3000 _ _ g h
  unfold c__law_divisor
  simp only [evS_seq, evS_skip, evS_prim, evS_ifs, evS_retv, evS_whl, evS_fr, evS_frz, q_P, evC_cons, evC_nil, evC_v, evC_k, evC_un, evC_bi, evC_tr, q_s0, q_s1, q_s2, q_s3, q_s4, q_s5, q_s6, q_s7, q_s8, q_s9, q_s10, q_s11, q_p0, q_p1, q_p2, q_p3, q_p4, q_p5, q_p6, q_p7, q_p8, q_p9, q_p10, q_p11, q_read, q_readO, q_gcd, q_onD, q_onDo, q_onI, q_onB, q_onSl, q_onSt, q_onSo, q_onL, q_onLo, q_onT, q_onM, q_datD, q_datO, q_intD, dInt_eq, dBool_eq, q_cons, q_mo, bnd_some, bnd_none, q_asg, q_par2, q_asgT, q_ret, q_expr, q_brk, q_raise, q_onx, q_ort, q_obk, q_ono, q_cmp, q_ar, q_and, q_or, q_ix, q_eq, q_ne, q_max2, q_kint, q_kg, q_kbl, q_knon, q_kdT, q_lt, q_le, q_gt, q_ge, q_test, q_testN, ifB_t, ifB_f, q_neg, q_one, q_not, q_isN, q_notN, q_len, q_abs, q_seq, q_rev, q_listOf, q_tupOf, q_isInst, q_tup, q_lst, q_call, q_chain, q_ite, q_max3, q_add, q_sub, q_mul, q_div, q_mod, q_at0, q_at1, q_d0, q_d1, q_d2, q_d1o, q_d2o, q_a1, q_a2, q_a3, q_a5, lenOk2, lenOk1, lenOk0, fI_eq, forceL_eq, g_onD, g_onI, g_onB, g_onS, g_onM, g_onO, g_test, g_bnd, g_cons1, g_cons2, g_out, q_outr, q_eqi, q_dTup, q_lst1, c, q_retv]
noncomputable def frC {α : Type} (a b : Int) (k : Int → Int → Option α) : Option α := bnd (ldC a b) fun g0 => fI (ifB (ltI b 0) (Int.neg g0) g0) fun g => divC a g fun u => divC b g fun v => k u v
theorem frC_some {α : Type} {a b : Int} {k : Int → Int → Option α} {r : α} (h : frC a b k = some r) : ∃ u v, frC a b mkP = some (prI u v) ∧ k u v = some r := by
  obtain ⟨g, e, h⟩ := bnd_inv h
  unfold frC
  rw [e]
  rw [fI_eq] at h
  simp only [bnd_some, fI_eq]
  rcases divC_cases a (ifB (ltI b 0) (Int.neg g) g) with ⟨z, _⟩ | ⟨u, z, _⟩
  · rw [z] at h; cases h
  rcases divC_cases b (ifB (ltI b 0) (Int.neg g) g) with ⟨z2, _⟩ | ⟨v, z2, _⟩
  · rw [z, z2] at h; cases h
  rw [z, z2] at h
  exact ⟨u, v, by rw [z, z2]; rfl, h⟩
theorem tw_frac (F : FT) (W : Nat) (hD : ∀ a b g, ldC a b = some g → F 101 [.dat (.int a), .dat (.int b)] = some (.dat (.int g))) {a b : Int} {r : SV} (h : frC a b mkP = some r) : runD F W c__law_frac [.dat (.int a), .dat (.int b)] = some r := by
  rw [runD_go (ρ := [some (.dat (.int a)), some (.dat (.int b)), none]) rfl rfl]
  obtain ⟨g, e, h⟩ := bnd_inv h
  have hD := hD _ _ _ e
  rw [fI_eq] at h
  unfold c__law_frac
  cases hb : ltI b 0 with
  | false =>
    rw [hb] at h
    obtain ⟨u, d1, h⟩ := divC_some h
    obtain ⟨v, d2, h⟩ := divC_some h
    simp only [ifB_f] at d1 d2
    simp only [evS_seq, evS_skip, evS_prim, evS_ifs, evS_retv, evS_whl, evS_fr, evS_frz, q_P, evC_cons, evC_nil, evC_v, evC_k, evC_un, evC_bi, evC_tr, q_s0, q_s1, q_s2, q_s3, q_s4, q_s5, q_s6, q_s7, q_s8, q_s9, q_s10, q_s11, q_p0, q_p1, q_p2, q_p3, q_p4, q_p5, q_p6, q_p7, q_p8, q_p9, q_p10, q_p11, q_read, q_readO, q_gcd, q_onD, q_onDo, q_onI, q_onB, q_onSl, q_onSt, q_onSo, q_onL, q_onLo, q_onT, q_onM, q_datD, q_datO, q_intD, dInt_eq, dBool_eq, q_cons, q_mo, bnd_some, bnd_none, q_asg, q_par2, q_asgT, q_ret, q_expr, q_brk, q_raise, q_onx, q_ort, q_obk, q_ono, q_cmp, q_ar, q_and, q_or, q_ix, q_eq, q_ne, q_max2, q_kint, q_kg, q_kbl, q_knon, q_kdT, q_lt, q_le, q_gt, q_ge, q_test, q_testN, ifB_t, ifB_f, q_neg, q_one, q_not, q_isN, q_notN, q_len, q_abs, q_seq, q_rev, q_listOf, q_tupOf, q_isInst, q_tup, q_lst, q_call, q_chain, q_ite, q_max3, q_add, q_sub, q_mul, q_div, q_mod, q_at0, q_at1, q_d0, q_d1, q_d2, q_d1o, q_d2o, q_a1, q_a2, q_a3, q_a5, lenOk2, lenOk1, lenOk0, fI_eq, forceL_eq, g_onD, g_onI, g_onB, g_onS, g_onM, g_onO, g_test, g_bnd, g_cons1, g_cons2, g_out, q_outr, q_eqi, q_dTup, q_lst1, hD, hb, d1, d2]
    exact h
  | true =>
    rw [hb] at h
    obtain ⟨u, d1, h⟩ := divC_some h
    obtain ⟨v, d2, h⟩ := divC_some h
    simp only [ifB_t] at d1 d2
    simp only [evS_seq, evS_skip, evS_prim, evS_ifs, evS_retv, evS_whl, evS_fr, evS_frz, q_P, evC_cons, evC_nil, evC_v, evC_k, evC_un, evC_bi, evC_tr, q_s0, q_s1, q_s2, q_s3, q_s4, q_s5, q_s6, q_s7, q_s8, q_s9, q_s10, q_s11, q_p0, q_p1, q_p2, q_p3, q_p4, q_p5, q_p6, q_p7, q_p8, q_p9, q_p10, q_p11, q_read, q_readO, q_gcd, q_onD, q_onDo, q_onI, q_onB, q_onSl, q_onSt, q_onSo, q_onL, q_onLo, q_onT, q_onM, q_datD, q_datO, q_intD, dInt_eq, dBool_eq, q_cons, q_mo, bnd_some, bnd_none, q_asg, q_par2, q_asgT, q_ret, q_expr, q_brk, q_raise, q_onx, q_ort, q_obk, q_ono, q_cmp, q_ar, q_and, q_or, q_ix, q_eq, q_ne, q_max2, q_kint, q_kg, q_kbl, q_knon, q_kdT, q_lt, q_le, q_gt, q_ge, q_test, q_testN, ifB_t, ifB_f, q_neg, q_one, q_not, q_isN, q_notN, q_len, q_abs, q_seq, q_rev, q_listOf, q_tupOf, q_isInst, q_tup, q_lst, q_call, q_chain, q_ite, q_max3, q_add, q_sub, q_mul, q_div, q_mod, q_at0, q_at1, q_d0, q_d1, q_d2, q_d1o, q_d2o, q_a1, q_a2, q_a3, q_a5, lenOk2, lenOk1, lenOk0, fI_eq, forceL_eq, g_onD, g_onI, g_onB, g_onS, g_onM, g_onO, g_test, g_bnd, g_cons1, g_cons2, g_out, q_outr, q_eqi, q_dTup, q_lst1, hD, hb, d1, d2]
    exact h
noncomputable def adC {α : Type} (a b c d : Int) (k : Int → Int → Option α) : Option α := mulC a d fun x => mulC c b fun y => fI (Int.add x y) fun s => mulC b d fun m => frC s m k
noncomputable def muC {α : Type} (a b c d : Int) (k : Int → Int → Option α) : Option α := mulC a c fun x => mulC b d fun y => frC x y k
theorem tw_lmul (F : FT) (W : Nat) (hD : ∀ a b r, frC a b mkP = some r → F 102 [.dat (.int a), .dat (.int b)] = some r) {a b c d : Int} {r : SV} (h : muC a b c d mkP = some r) : runD F W c__law_mul [.dat (.tuple [.int a, .int b]), .dat (.tuple [.int c, .int d])] = some r := by
  rw [runD_go (ρ := [some (.dat (.tuple [.int a, .int b])), some (.dat (.tuple [.int c, .int d]))]) rfl rfl]
  obtain ⟨m1, h⟩ := mulC_some h
  obtain ⟨m2, h⟩ := mulC_some h
  have hD := hD _ _ _ h
  unfold c__law_mul
  simp only [evS_seq, evS_skip, evS_prim, evS_ifs, evS_retv, evS_whl, evS_fr, evS_frz, q_P, evC_cons, evC_nil, evC_v, evC_k, evC_un, evC_bi, evC_tr, q_s0, q_s1, q_s2, q_s3, q_s4, q_s5, q_s6, q_s7, q_s8, q_s9, q_s10, q_s11, q_p0, q_p1, q_p2, q_p3, q_p4, q_p5, q_p6, q_p7, q_p8, q_p9, q_p10, q_p11, q_read, q_readO, q_gcd, q_onD, q_onDo, q_onI, q_onB, q_onSl, q_onSt, q_onSo, q_onL, q_onLo, q_onT, q_onM, q_datD, q_datO, q_intD, dInt_eq, dBool_eq, q_cons, q_mo, bnd_some, bnd_none, q_asg, q_par2, q_asgT, q_ret, q_expr, q_brk, q_raise, q_onx, q_ort, q_obk, q_ono, q_cmp, q_ar, q_and, q_or, q_ix, q_eq, q_ne, q_max2, q_kint, q_kg, q_kbl, q_knon, q_kdT, q_lt, q_le, q_gt, q_ge, q_test, q_testN, ifB_t, ifB_f, q_neg, q_one, q_not, q_isN, q_notN, q_len, q_abs, q_seq, q_rev, q_listOf, q_tupOf, q_isInst, q_tup, q_lst, q_call, q_chain, q_ite, q_max3, q_add, q_sub, q_mul, q_div, q_mod, q_at0, q_at1, q_d0, q_d1, q_d2, q_d1o, q_d2o, q_a1, q_a2, q_a3, q_a5, lenOk2, lenOk1, lenOk0, fI_eq, forceL_eq, g_onD, g_onI, g_onB, g_onS, g_onM, g_onO, g_test, g_bnd, g_cons1, g_cons2, g_out, q_outr, q_eqi, q_dTup, q_lst1, m1, m2, hD]
theorem tw_ladd (F : FT) (W : Nat) (hD : ∀ a b r, frC a b mkP = some r → F 102 [.dat (.int a), .dat (.int b)] = some r) {a b c d : Int} {r : SV} (h : adC a b c d mkP = some r) : runD F W c__law_add [.dat (.tuple [.int a, .int b]), .dat (.tuple [.int c, .int d])] = some r := by
  rw [runD_go (ρ := [some (.dat (.tuple [.int a, .int b])), some (.dat (.tuple [.int c, .int d]))]) rfl rfl]
  obtain ⟨m1, h⟩ := mulC_some h
  obtain ⟨m2, h⟩ := mulC_some h
  rw [fI_eq] at h
  obtain ⟨m3, h⟩ := mulC_some h
  have hD := hD _ _ _ h
  unfold c__law_add
  simp only [evS_seq, evS_skip, evS_prim, evS_ifs, evS_retv, evS_whl, evS_fr, evS_frz, q_P, evC_cons, evC_nil, evC_v, evC_k, evC_un, evC_bi, evC_tr, q_s0, q_s1, q_s2, q_s3, q_s4, q_s5, q_s6, q_s7, q_s8, q_s9, q_s10, q_s11, q_p0, q_p1, q_p2, q_p3, q_p4, q_p5, q_p6, q_p7, q_p8, q_p9, q_p10, q_p11, q_read, q_readO, q_gcd, q_onD, q_onDo, q_onI, q_onB, q_onSl, q_onSt, q_onSo, q_onL, q_onLo, q_onT, q_onM, q_datD, q_datO, q_intD, dInt_eq, dBool_eq, q_cons, q_mo, bnd_some, bnd_none, q_asg, q_par2, q_asgT, q_ret, q_expr, q_brk, q_raise, q_onx, q_ort, q_obk, q_ono, q_cmp, q_ar, q_and, q_or, q_ix, q_eq, q_ne, q_max2, q_kint, q_kg, q_kbl, q_knon, q_kdT, q_lt, q_le, q_gt, q_ge, q_test, q_testN, ifB_t, ifB_f, q_neg, q_one, q_not, q_isN, q_notN, q_len, q_abs, q_seq, q_rev, q_listOf, q_tupOf, q_isInst, q_tup, q_lst, q_call, q_chain, q_ite, q_max3, q_add, q_sub, q_mul, q_div, q_mod, q_at0, q_at1, q_d0, q_d1, q_d2, q_d1o, q_d2o, q_a1, q_a2, q_a3, q_a5, lenOk2, lenOk1, lenOk0, fI_eq, forceL_eq, g_onD, g_onI, g_onB, g_onS, g_onM, g_onO, g_test, g_bnd, g_cons1, g_cons2, g_out, q_outr, q_eqi, q_dTup, q_lst1, m1, m2, m3, hD]
noncomputable def lvC (x y : Int) (ps : List PI) : Int → Int → Option SV := List.rec (motive := fun _ => Int → Int → Option SV) mkP (fun p _ ih a b => muC a b x y fun u v => adC u v p.1 p.2 ih) ps
theorem muC_some {α : Type} {a b c d : Int} {k : Int → Int → Option α} {r : α} (h : muC a b c d k = some r) : ∃ u v, muC a b c d mkP = some (prI u v) ∧ k u v = some r := by
  obtain ⟨m1, h⟩ := mulC_some h
  obtain ⟨m2, h⟩ := mulC_some h
  obtain ⟨u, v, e, h⟩ := frC_some h
  refine ⟨u, v, ?_, h⟩
  unfold muC mulC
  rw [m1, m2]
  simp only [ifB_t, fI_eq]
  exact e
theorem adC_some {α : Type} {a b c d : Int} {k : Int → Int → Option α} {r : α} (h : adC a b c d k = some r) : ∃ u v, adC a b c d mkP = some (prI u v) ∧ k u v = some r := by
  obtain ⟨m1, h⟩ := mulC_some h
  obtain ⟨m2, h⟩ := mulC_some h
  rw [fI_eq] at h
  obtain ⟨m3, h⟩ := mulC_some h
  obtain ⟨u, v, e, h⟩ := frC_some h
  refine ⟨u, v, ?_, h⟩
  unfold adC mulC
  rw [m1, m2]
  simp only [ifB_t, fI_eq]
  rw [m3]
  exact e
def vbody2 : S := (.seq (.prim (.asg 2) (.cons (.un (.call 103) (.cons (.un (.call 104) (.cons (.v 2) (.cons (.v 1) .nil))) (.cons (.v 3) .nil))) .nil))
      .skip)
theorem lv_loop (F : FT) (W : Nat) (hM : ∀ a b c d r, muC a b c d mkP = some r → F 104 [.dat (.tuple [.int a, .int b]), .dat (.tuple [.int c, .int d])] = some r) (hA : ∀ a b c d r, adC a b c d mkP = some r → F 103 [.dat (.tuple [.int a, .int b]), .dat (.tuple [.int c, .int d])] = some r)
    (x y : Int) (o0 : Option SV) : ∀ (ps : List PI) (a b : Int) (o : Option SV) (r : SV), lvC x y ps a b = some r → ∃ p3, loopF (frB (.name 3) (evS F W vbody2)) (pl ps) [o0, some (.dat (.tuple [.int x, .int y])), some (.dat (.tuple [.int a, .int b])), o] = some (.nx [o0, some (.dat (.tuple [.int x, .int y])), some r, p3])
  | [], a, b, o, r, h => by cases h; exact ⟨o, rfl⟩
  | p :: ps, a, b, o, r, h => by
    have h : (muC a b x y fun u v => adC u v p.1 p.2 (lvC x y ps)) = some r := h
    obtain ⟨u, v, e1, h⟩ := muC_some h
    obtain ⟨u2, v2, e2, h⟩ := adC_some h
    have hM := hM _ _ _ _ _ e1
    have hA1 := hA _ _ _ _ _ e2
    obtain ⟨p3, c⟩ := lv_loop F W ‹_› hA x y o0 ps u2 v2 (some (.dat (prd p))) r h
    refine ⟨p3, ?_⟩
    rw [pl_cons, q_fcons, q_frB, ← c]
    unfold vbody2
    simp only [evS_seq, evS_skip, evS_prim, evS_ifs, evS_retv, evS_whl, evS_fr, evS_frz, q_P, evC_cons, evC_nil, evC_v, evC_k, evC_un, evC_bi, evC_tr, q_s0, q_s1, q_s2, q_s3, q_s4, q_s5, q_s6, q_s7, q_s8, q_s9, q_s10, q_s11, q_p0, q_p1, q_p2, q_p3, q_p4, q_p5, q_p6, q_p7, q_p8, q_p9, q_p10, q_p11, q_read, q_readO, q_gcd, q_onD, q_onDo, q_onI, q_onB, q_onSl, q_onSt, q_onSo, q_onL, q_onLo, q_onT, q_onM, q_datD, q_datO, q_intD, dInt_eq, dBool_eq, q_cons, q_mo, bnd_some, bnd_none, q_asg, q_par2, q_asgT, q_ret, q_expr, q_brk, q_raise, q_onx, q_ort, q_obk, q_ono, q_cmp, q_ar, q_and, q_or, q_ix, q_eq, q_ne, q_max2, q_kint, q_kg, q_kbl, q_knon, q_kdT, q_lt, q_le, q_gt, q_ge, q_test, q_testN, ifB_t, ifB_f, q_neg, q_one, q_not, q_isN, q_notN, q_len, q_abs, q_seq, q_rev, q_listOf, q_tupOf, q_isInst, q_tup, q_lst, q_call, q_chain, q_ite, q_max3, q_add, q_sub, q_mul, q_div, q_mod, q_at0, q_at1, q_d0, q_d1, q_d2, q_d1o, q_d2o, q_a1, q_a2, q_a3, q_a5, lenOk2, lenOk1, lenOk0, fI_eq, forceL_eq, g_onD, g_onI, g_onB, g_onS, g_onM, g_onO, g_test, g_bnd, g_cons1, g_cons2, g_out, q_outr, q_eqi, q_dTup, q_lst1, hM, prI, hA1]
    rfl
theorem rev_pl (ps : List PI) : (pl ps).reverse = pl ps.reverse := by rw [pl, pl, List.map_reverse]
theorem q_revT (F : FT) (a : Ev1) (pk : Bool) (ρ : En) : opU F .revT a pk ρ = onT (a false ρ) fun xs => dTup xs.reverse := rfl
theorem tw_lval (F : FT) (W : Nat) (hM : ∀ a b c d r, muC a b c d mkP = some r → F 104 [.dat (.tuple [.int a, .int b]), .dat (.tuple [.int c, .int d])] = some r) (hA : ∀ a b c d r, adC a b c d mkP = some r → F 103 [.dat (.tuple [.int a, .int b]), .dat (.tuple [.int c, .int d])] = some r)
    {x y : Int} {ps : List PI} {r : SV} (h : lvC x y ps.reverse 0 1 = some r) : runD F W c__law_value [.dat (.tuple (pl ps)), .dat (.tuple [.int x, .int y])] = some r := by
  rw [runD_go (ρ := [some (.dat (.tuple (pl ps))), some (.dat (.tuple [.int x, .int y])), none, none]) rfl rfl]
  obtain ⟨p3, c⟩ := lv_loop F W hM hA x y (some (.dat (.tuple (pl ps)))) ps.reverse 0 1 none r h
  unfold c__law_value
  simp only [evS_seq, evS_skip, evS_prim, evS_ifs, evS_retv, evS_whl, evS_fr, evS_frz, q_P, evC_cons, evC_nil, evC_v, evC_k, evC_un, evC_bi, evC_tr, q_s0, q_s1, q_s2, q_s3, q_s4, q_s5, q_s6, q_s7, q_s8, q_s9, q_s10, q_s11, q_p0, q_p1, q_p2, q_p3, q_p4, q_p5, q_p6, q_p7, q_p8, q_p9, q_p10, q_p11, q_read, q_readO, q_gcd, q_onD, q_onDo, q_onI, q_onB, q_onSl, q_onSt, q_onSo, q_onL, q_onLo, q_onT, q_onM, q_datD, q_datO, q_intD, dInt_eq, dBool_eq, q_cons, q_mo, bnd_some, bnd_none, q_asg, q_par2, q_asgT, q_ret, q_expr, q_brk, q_raise, q_onx, q_ort, q_obk, q_ono, q_cmp, q_ar, q_and, q_or, q_ix, q_eq, q_ne, q_max2, q_kint, q_kg, q_kbl, q_knon, q_kdT, q_lt, q_le, q_gt, q_ge, q_test, q_testN, ifB_t, ifB_f, q_neg, q_one, q_not, q_isN, q_notN, q_len, q_abs, q_seq, q_rev, q_listOf, q_tupOf, q_isInst, q_tup, q_lst, q_call, q_chain, q_ite, q_max3, q_add, q_sub, q_mul, q_div, q_mod, q_at0, q_at1, q_d0, q_d1, q_d2, q_d1o, q_d2o, q_a1, q_a2, q_a3, q_a5, lenOk2, lenOk1, lenOk0, fI_eq, forceL_eq, g_onD, g_onI, g_onB, g_onS, g_onM, g_onO, g_test, g_bnd, g_cons1, g_cons2, g_out, q_outr, q_eqi, q_dTup, q_lst1, q_fr, q_revT, rev_pl]
  show outR (onO (loopF (frB (.name 3) (evS F W vbody2)) _ _) _ _) = _
  rw [c]
  simp only [evS_seq, evS_skip, evS_prim, evS_ifs, evS_retv, evS_whl, evS_fr, evS_frz, q_P, evC_cons, evC_nil, evC_v, evC_k, evC_un, evC_bi, evC_tr, q_s0, q_s1, q_s2, q_s3, q_s4, q_s5, q_s6, q_s7, q_s8, q_s9, q_s10, q_s11, q_p0, q_p1, q_p2, q_p3, q_p4, q_p5, q_p6, q_p7, q_p8, q_p9, q_p10, q_p11, q_read, q_readO, q_gcd, q_onD, q_onDo, q_onI, q_onB, q_onSl, q_onSt, q_onSo, q_onL, q_onLo, q_onT, q_onM, q_datD, q_datO, q_intD, dInt_eq, dBool_eq, q_cons, q_mo, bnd_some, bnd_none, q_asg, q_par2, q_asgT, q_ret, q_expr, q_brk, q_raise, q_onx, q_ort, q_obk, q_ono, q_cmp, q_ar, q_and, q_or, q_ix, q_eq, q_ne, q_max2, q_kint, q_kg, q_kbl, q_knon, q_kdT, q_lt, q_le, q_gt, q_ge, q_test, q_testN, ifB_t, ifB_f, q_neg, q_one, q_not, q_isN, q_notN, q_len, q_abs, q_seq, q_rev, q_listOf, q_tupOf, q_isInst, q_tup, q_lst, q_call, q_chain, q_ite, q_max3, q_add, q_sub, q_mul, q_div, q_mod, q_at0, q_at1, q_d0, q_d1, q_d2, q_d1o, q_d2o, q_a1, q_a2, q_a3, q_a5, lenOk2, lenOk1, lenOk0, fI_eq, forceL_eq, g_onD, g_onI, g_onB, g_onS, g_onM, g_onO, g_test, g_bnd, g_cons1, g_cons2, g_out, q_outr, q_eqi, q_dTup, q_lst1, q_retv]
/-! ### levels, shortcuts -/
noncomputable def prs (ds : List PyData) : Option (List PI) := List.rec (motive := fun _ => Option (List PI)) (some []) (fun d _ ih => gP d fun a b => bnd ih fun r => some ((a, b) :: r)) ds
theorem prs_map : ∀ {ds : List PyData} {ps : List PI}, prs ds = some ps → ds = pl ps
  | [], ps, h => by cases h; rfl
  | d :: r, ps, h => by
    obtain ⟨a, b, e, h⟩ := gP_some (d := d) (f := fun a b => bnd (prs r) fun r => some ((a, b) :: r)) h
    obtain ⟨l, e2, h⟩ := bnd_inv h
    cases h
    rw [e, prs_map e2]
    rfl
noncomputable def gPs {α : Type} (d : PyData) (f : List PI → Option α) : Option α := bnd (tupOf d) fun xs => bnd (prs xs) f
theorem gPs_some {α : Type} {d : PyData} {f : List PI → Option α} {r : α} (h : gPs d f = some r) : ∃ ps, d = .tuple (pl ps) ∧ f ps = some r := by
  obtain ⟨ns, e1, h⟩ := bnd_inv h
  obtain ⟨ps, e2, h⟩ := bnd_inv h
  exact ⟨ps, by rw [tupOf_some e1, prs_map e2], h⟩
theorem f_aspoly (n : Nat) {ps : List PI} {p : List Int × Int} (h : apC ps = some p) : FF (n + 2) 11 [.dat (.tuple (pl ps))] = some (resP p) := tw_aspoly (FF (n + 1)) 3000 (f_red n) h
theorem f_isstep (n : Nat) {ps : List PI} (h : isC ps = true) : FF (n + 3) 2 [.dat (.tuple (pl ps))] = some (.dat (.bool true)) := tw_isstep (FF (n + 2)) 3000 (f_isnum n) h
theorem f_holds (n : Nat) {xs : List Int} {be bound : Int} {r : Bool} (h : hbC xs be bound = some r) : FF (n + 1) 24 [.dat (.list (il xs)), .dat (.int be), .dat (.int bound)] = some (.dat (.bool r)) := tw_holds (FF n) 3000 h
theorem f_div (n : Nat) (a b g : Int) (h : ldC a b = some g) : FF (n + 1) 101 [.dat (.int a), .dat (.int b)] = some (.dat (.int g)) := tw_div (FF n) h
theorem f_frac (n : Nat) (a b : Int) (r : SV) (h : frC a b mkP = some r) : FF (n + 2) 102 [.dat (.int a), .dat (.int b)] = some r := tw_frac (FF (n + 1)) 3000 (f_div n) h
theorem f_lmul (n : Nat) (a b c d : Int) (r : SV) (h : muC a b c d mkP = some r) : FF (n + 3) 104 [.dat (.tuple [.int a, .int b]), .dat (.tuple [.int c, .int d])] = some r := tw_lmul (FF (n + 2)) 3000 (f_frac n) h
theorem f_ladd (n : Nat) (a b c d : Int) (r : SV) (h : adC a b c d mkP = some r) : FF (n + 3) 103 [.dat (.tuple [.int a, .int b]), .dat (.tuple [.int c, .int d])] = some r := tw_ladd (FF (n + 2)) 3000 (f_frac n) h
theorem f_lval (n : Nat) {x y : Int} {ps : List PI} {r : SV} (h : lvC x y ps.reverse 0 1 = some r) : FF (n + 4) 106 [.dat (.tuple (pl ps)), .dat (.tuple [.int x, .int y])] = some r := tw_lval (FF (n + 3)) 3000 (f_lmul n) (f_ladd n) h
noncomputable def sAspoly : Sc := fun _ as => g1 as fun a => gPs a fun ps => bnd (apC ps) fun p => some (resP p)
noncomputable def sIsstep : Sc := fun _ as => g1 as fun a => gPs a fun ps => ifB (isC ps) (some (.dat (.bool true))) none
noncomputable def sHolds : Sc := fun _ as => g3 as fun a b c => gIs a fun xs => gI b fun be => gI c fun bo => bnd (hbC xs be bo) fun r => dBool r
noncomputable def sDiv : Sc := fun _ as => g2 as fun a b => gI a fun x => gI b fun y => bnd (ldC x y) fun g => some (.dat (.int g))
noncomputable def sFrac : Sc := fun _ as => g2 as fun a b => gI a fun x => gI b fun y => frC x y mkP
noncomputable def sLmul : Sc := fun _ as => g2 as fun a b => gP a fun x y => gP b fun u v => muC x y u v mkP
noncomputable def sLadd : Sc := fun _ as => g2 as fun a b => gP a fun x y => gP b fun u v => adC x y u v mkP
noncomputable def sLval : Sc := fun _ as => g2 as fun a b => gPs a fun ps => gP b fun x y => lvC x y ps.reverse 0 1
theorem sAspoly_ok : ScOk2 11 sAspoly := fun n as r h => by
  obtain ⟨a, rfl, h1⟩ := g1_some h
  obtain ⟨ps, rfl, h2⟩ := gPs_some h1
  obtain ⟨p, e, h3⟩ := bnd_inv h2
  cases h3
  exact f_aspoly (n + 3) e
theorem sIsstep_ok : ScOk2 2 sIsstep := fun n as r h => by
  obtain ⟨a, rfl, h1⟩ := g1_some h
  obtain ⟨ps, rfl, h2⟩ := gPs_some h1
  obtain ⟨e, h3⟩ := ifB_some h2
  cases h3
  exact f_isstep (n + 2) e
theorem sHolds_ok : ScOk2 24 sHolds := fun n as r h => by
  obtain ⟨a, b, c, rfl, h1⟩ := g3_some h
  obtain ⟨xs, rfl, h2⟩ := gIs_some h1
  obtain ⟨be, rfl, h3⟩ := gI_some h2
  obtain ⟨bo, rfl, h4⟩ := gI_some h3
  obtain ⟨g, e, h5⟩ := bnd_inv h4
  rw [dBool_eq] at h5
  cases h5
  exact f_holds (n + 4) e
theorem sDiv_ok : ScOk2 101 sDiv := fun n as r h => by
  obtain ⟨a, b, rfl, h1⟩ := g2_some h
  obtain ⟨x, rfl, h2⟩ := gI_some h1
  obtain ⟨y, rfl, h3⟩ := gI_some h2
  obtain ⟨g, e, h4⟩ := bnd_inv h3
  cases h4
  exact f_div (n + 4) x y g e
theorem sFrac_ok : ScOk2 102 sFrac := fun n as r h => by
  obtain ⟨a, b, rfl, h1⟩ := g2_some h
  obtain ⟨x, rfl, h2⟩ := gI_some h1
  obtain ⟨y, rfl, h3⟩ := gI_some h2
  exact f_frac (n + 3) x y r h3
theorem sLmul_ok : ScOk2 104 sLmul := fun n as r h => by
  obtain ⟨a, b, rfl, h1⟩ := g2_some h
  obtain ⟨x, y, rfl, h2⟩ := gP_some h1
  obtain ⟨u, v, rfl, h3⟩ := gP_some h2
  exact f_lmul (n + 2) x y u v r h3
theorem sLadd_ok : ScOk2 103 sLadd := fun n as r h => by
  obtain ⟨a, b, rfl, h1⟩ := g2_some h
  obtain ⟨x, y, rfl, h2⟩ := gP_some h1
  obtain ⟨u, v, rfl, h3⟩ := gP_some h2
  exact f_ladd (n + 2) x y u v r h3
theorem sLval_ok : ScOk2 106 sLval := fun n as r h => by
  obtain ⟨a, b, rfl, h1⟩ := g2_some h
  obtain ⟨ps, rfl, h2⟩ := gPs_some h1
  obtain ⟨x, y, rfl, h3⟩ := gP_some h2
  exact f_lval (n + 1) h3
/-- the shortcut of a def -/
noncomputable def S2 (f : Nat) : Option Sc := at_ f 10 sRed (at_ f 11 sAspoly (at_ f 2 sIsstep (at_ f 24 sHolds (at_ f 13 sTimes (at_ f 16 sPut (at_ f 101 sDiv (at_ f 102 sFrac (at_ f 103 sLadd (at_ f 104 sLmul (at_ f 106 sLval (S1 f)))))))))))
theorem S2_ok (f : Nat) : ∀ z, S2 f = some z → ScOk2 f z := at_ok sRed_ok (at_ok sAspoly_ok (at_ok sIsstep_ok (at_ok sHolds_ok (at_ok sTimes_ok (at_ok sPut_ok (at_ok sDiv_ok (at_ok sFrac_ok (at_ok sLadd_ok (at_ok sLmul_ok (at_ok sLval_ok (S1_ok f)))))))))))
end SW.X
set_option Elab.async false
set_option linter.all false
set_option maxRecDepth 100000
set_option maxHeartbeats 1000000
/-! Tw9: led, first_numbers, met_so, asked. -/
namespace SW.X
open PySem
/-! ### led -/
noncomputable def leGo (h : Int) (xs : List Int) : Int → Option Int := List.rec (motive := fun _ => Int → Option Int) (fun f => some f) (fun x _ ih f => mulC f h fun m => fI (Int.add m x) ih) xs
noncomputable def leC (ns : List Int) (h : Int) : Option Int := leGo h ns.reverse 0
def lebody : S := (.seq (.prim (.asg 2) (.cons (.bi (.ar .add) (.bi (.ar .mul) (.v 2) (.v 1)) (.v 3)) .nil))
      .skip)
theorem le_loop (F : FT) (W : Nat) (a : Option SV) (h : Int) : ∀ (xs : List Int) (f g : Int) (o : Option SV), leGo h xs f = some g → ∃ p3, loopF (frB (.name 3) (evS F W lebody)) (il xs) [a, some (.dat (.int h)), some (.dat (.int f)), o] = some (.nx [a, some (.dat (.int h)), some (.dat (.int g)), p3])
  | [], f, g, o, e => by cases e; exact ⟨o, rfl⟩
  | x :: xs, f, g, o, e => by
    obtain ⟨m1, e⟩ := mulC_some e
    rw [fI_eq] at e
    obtain ⟨p3, c⟩ := le_loop F W a h xs (Int.add (Int.mul f h) x) g (some (.dat (.int x))) e
    refine ⟨p3, ?_⟩
    rw [il_cons, q_fcons, q_frB, ← c]
    unfold lebody
    simp only [evS_seq, evS_skip, evS_prim, evS_ifs, evS_retv, evS_whl, evS_fr, evS_frz, q_P, evC_cons, evC_nil, evC_v, evC_k, evC_un, evC_bi, evC_tr, q_s0, q_s1, q_s2, q_s3, q_s4, q_s5, q_s6, q_s7, q_s8, q_s9, q_s10, q_s11, q_p0, q_p1, q_p2, q_p3, q_p4, q_p5, q_p6, q_p7, q_p8, q_p9, q_p10, q_p11, q_read, q_readO, q_gcd, q_onD, q_onDo, q_onI, q_onB, q_onSl, q_onSt, q_onSo, q_onL, q_onLo, q_onT, q_onM, q_datD, q_datO, q_intD, dInt_eq, dBool_eq, q_cons, q_mo, bnd_some, bnd_none, q_asg, q_par2, q_asgT, q_ret, q_expr, q_brk, q_raise, q_onx, q_ort, q_obk, q_ono, q_cmp, q_ar, q_and, q_or, q_ix, q_eq, q_ne, q_max2, q_kint, q_kg, q_kbl, q_knon, q_kdT, q_lt, q_le, q_gt, q_ge, q_test, q_testN, ifB_t, ifB_f, q_neg, q_one, q_not, q_isN, q_notN, q_len, q_abs, q_seq, q_rev, q_listOf, q_tupOf, q_isInst, q_tup, q_lst, q_call, q_chain, q_ite, q_max3, q_add, q_sub, q_mul, q_div, q_mod, q_at0, q_at1, q_d0, q_d1, q_d2, q_d1o, q_d2o, q_a1, q_a2, q_a3, q_a5, lenOk2, lenOk1, lenOk0, fI_eq, forceL_eq, g_onD, g_onI, g_onB, g_onS, g_onM, g_onO, g_test, g_bnd, g_cons1, g_cons2, g_out, q_outr, q_eqi, q_dTup, q_lst1, m1]
theorem tw_led (F : FT) (W : Nat) {ns : List Int} {h g : Int} (e : leC ns h = some g) : runD F W c_led [.dat (.list (il ns)), .dat (.int h)] = some (.dat (.int g)) := by
  rw [runD_go (ρ := [some (.dat (.list (il ns))), some (.dat (.int h)), none, none]) rfl rfl]
  obtain ⟨p3, c⟩ := le_loop F W (some (.dat (.list (il ns)))) h ns.reverse 0 g none e
  unfold c_led
  simp only [evS_seq, evS_skip, evS_prim, evS_ifs, evS_retv, evS_whl, evS_fr, evS_frz, q_P, evC_cons, evC_nil, evC_v, evC_k, evC_un, evC_bi, evC_tr, q_s0, q_s1, q_s2, q_s3, q_s4, q_s5, q_s6, q_s7, q_s8, q_s9, q_s10, q_s11, q_p0, q_p1, q_p2, q_p3, q_p4, q_p5, q_p6, q_p7, q_p8, q_p9, q_p10, q_p11, q_read, q_readO, q_gcd, q_onD, q_onDo, q_onI, q_onB, q_onSl, q_onSt, q_onSo, q_onL, q_onLo, q_onT, q_onM, q_datD, q_datO, q_intD, dInt_eq, dBool_eq, q_cons, q_mo, bnd_some, bnd_none, q_asg, q_par2, q_asgT, q_ret, q_expr, q_brk, q_raise, q_onx, q_ort, q_obk, q_ono, q_cmp, q_ar, q_and, q_or, q_ix, q_eq, q_ne, q_max2, q_kint, q_kg, q_kbl, q_knon, q_kdT, q_lt, q_le, q_gt, q_ge, q_test, q_testN, ifB_t, ifB_f, q_neg, q_one, q_not, q_isN, q_notN, q_len, q_abs, q_seq, q_rev, q_listOf, q_tupOf, q_isInst, q_tup, q_lst, q_call, q_chain, q_ite, q_max3, q_add, q_sub, q_mul, q_div, q_mod, q_at0, q_at1, q_d0, q_d1, q_d2, q_d1o, q_d2o, q_a1, q_a2, q_a3, q_a5, lenOk2, lenOk1, lenOk0, fI_eq, forceL_eq, g_onD, g_onI, g_onB, g_onS, g_onM, g_onO, g_test, g_bnd, g_cons1, g_cons2, g_out, q_outr, q_eqi, q_dTup, q_lst1, q_fr, rev_il]
  show outR (onO (loopF (frB (.name 3) (evS F W lebody)) _ _) _ _) = _
  rw [c]
  simp only [evS_seq, evS_skip, evS_prim, evS_ifs, evS_retv, evS_whl, evS_fr, evS_frz, q_P, evC_cons, evC_nil, evC_v, evC_k, evC_un, evC_bi, evC_tr, q_s0, q_s1, q_s2, q_s3, q_s4, q_s5, q_s6, q_s7, q_s8, q_s9, q_s10, q_s11, q_p0, q_p1, q_p2, q_p3, q_p4, q_p5, q_p6, q_p7, q_p8, q_p9, q_p10, q_p11, q_read, q_readO, q_gcd, q_onD, q_onDo, q_onI, q_onB, q_onSl, q_onSt, q_onSo, q_onL, q_onLo, q_onT, q_onM, q_datD, q_datO, q_intD, dInt_eq, dBool_eq, q_cons, q_mo, bnd_some, bnd_none, q_asg, q_par2, q_asgT, q_ret, q_expr, q_brk, q_raise, q_onx, q_ort, q_obk, q_ono, q_cmp, q_ar, q_and, q_or, q_ix, q_eq, q_ne, q_max2, q_kint, q_kg, q_kbl, q_knon, q_kdT, q_lt, q_le, q_gt, q_ge, q_test, q_testN, ifB_t, ifB_f, q_neg, q_one, q_not, q_isN, q_notN, q_len, q_abs, q_seq, q_rev, q_listOf, q_tupOf, q_isInst, q_tup, q_lst, q_call, q_chain, q_ite, q_max3, q_add, q_sub, q_mul, q_div, q_mod, q_at0, q_at1, q_d0, q_d1, q_d2, q_d1o, q_d2o, q_a1, q_a2, q_a3, q_a5, lenOk2, lenOk1, lenOk0, fI_eq, forceL_eq, g_onD, g_onI, g_onB, g_onS, g_onM, g_onO, g_test, g_bnd, g_cons1, g_cons2, g_out, q_outr, q_eqi, q_dTup, q_lst1, q_retv]
/-! ### first_numbers -/
noncomputable def memI (x : Int) (l : List Int) : Bool := List.rec (motive := fun _ => Bool) false (fun y _ ih => ifB (eqI y x) true ih) l
theorem memI_any (x : Int) : ∀ l : List Int, memI x l = l.any fun y => eqI y x
  | [] => rfl
  | y :: r => by
    show ifB (eqI y x) true (memI x r) = (eqI y x || _)
    rw [memI_any x r]
    cases eqI y x <;> rfl
theorem memI_rev (x : Int) (l : List Int) : memI x l.reverse = memI x l := by rw [memI_any, memI_any, List.any_reverse]
theorem inS_il (x : Int) : ∀ l : List Int, inS (.int x) (il l) = memI x l
  | [] => rfl
  | y :: r => by
    show (eqI y x || inS (.int x) (il r)) = ifB (eqI y x) true (memI x r)
    rw [inS_il x r]
    cases eqI y x <;> rfl
theorem innR_il (n : Bool) (x : Int) (l : List Int) : innR n (.int x) (.list (il l)) = some (.dat (.bool (xor n (memI x l)))) := by
  unfold innR
  rw [show noB 6 (.list (il l)) = true from noB_il 5 l, show noB 6 (.int x) = true from rfl]
  show dBool (xor n (inS _ (il l))) = _
  rw [inS_il, dBool_eq]
theorem last_il (x : Int) (r : List Int) : atI (il (x :: r).reverse) (.negSucc 0) = some (.int x) := by
  show ifB (Nat.ble 1 (lng (il (x :: r).reverse))) (nth (il (x :: r).reverse) (Nat.sub (lng (il (x :: r).reverse)) 1)) none = _
  rw [lng_il, lng_rev, show lng (x :: r) = lng r + 1 from rfl, show Nat.ble 1 (lng r + 1) = true from Nat.ble_eq.mpr (by omega), ifB_t, nth_eq, show Nat.sub (lng r + 1) 1 = lng r from rfl, lng_eq, il, List.getElem?_map, List.reverse_cons,
    List.getElem?_append_right (by rw [List.length_reverse]; exact Nat.le_refl _), List.length_reverse, Nat.sub_self]
  rfl
noncomputable def fnGo (ns : List Int) (bound : Int) (n : Nat) : Int → List Int → Option (List Int × Bool) := Nat.rec (motive := fun _ => Int → List Int → Option (List Int × Bool)) (fun _ _ => none) (fun _ ih x acc => ifB (leI (.ofNat (absN x)) bound)
  (bnd (leC ns x) fun h => ifB (memI h acc) (some (acc.reverse, true)) (ifB (lenOk acc) (ih h (h :: acc)) none)) (some (acc.reverse, false))) n
noncomputable def fnC (ns : List Int) (bound s : Int) : Option (List Int × Bool) := fnGo ns bound 3000 s [s]
noncomputable def resF (p : List Int × Bool) : SV := .dat (.tuple [.list (il p.1), .bool p.2])
def fcond : C := .bi (.cmp .le) (.un .abs (.bi .ix (.v 3) (.un .neg (.k (.int 1))))) (.v 1)
def fbody : S := (.seq (.prim (.asg 4) (.cons (.un (.call 63) (.cons (.v 0) (.cons (.bi .ix (.v 3) (.un .neg (.k (.int 1)))) .nil))) .nil))
      (.seq (.ifs (.bi (.inn false) (.v 4) (.v 3)) (.seq (.frz 3 (.prim .ret (.cons (.un .tup (.cons (.v 3) (.cons (.k (.bl true)) .nil))) .nil)))
      .skip) .skip)
      (.seq (.prim (.append 3) (.cons (.v 4) .nil))
      .skip)))
theorem neg1 : Int.neg 1 = .negSucc 0 := rfl
theorem app_il (l : List Int) (x : Int) : il l.reverse ++ [PyData.int x] = il (x :: l).reverse := by rw [List.reverse_cons, il, il, List.map_append]; rfl
theorem f_loop (F : FT) (W : Nat) {ns : List Int} (hL : ∀ h g, leC ns h = some g → F 63 [.dat (.list (il ns)), .dat (.int h)] = some (.dat (.int g))) (bound : Int) (s : Option SV) :
    ∀ (n : Nat) (x : Int) (r : List Int) (o : Option SV) (p : List Int × Bool), fnGo ns bound n x (x :: r) = some p →
      outR (onO (loopW (evC F fcond false) (evS F W fbody) n [some (.dat (.list (il ns))), some (.dat (.int bound)), s, some (.own (il (x :: r).reverse)), o]) (evS F W (.seq (.frz 3 (.prim .ret (.cons (.un .tup (.cons (.v 3) (.cons (.k (.bl false)) .nil))) .nil))) .skip)) fun ρ1 => some (.bk ρ1)) = some (resF p)
  | 0, x, r, o, p, e => nomatch e
  | n + 1, x, r, o, p, e => by
    have e : ifB (leI (.ofNat (absN x)) bound) (bnd (leC ns x) fun h => ifB (memI h (x :: r)) (some ((x :: r).reverse, true)) (ifB (lenOk (x :: r)) (fnGo ns bound n h (h :: x :: r)) none)) (some ((x :: r).reverse, false)) = some p := e
    rw [q_wsucc]
    have hl := last_il x r
    cases h : leI (.ofNat (absN x)) bound with
    | false =>
      rw [h] at e
      cases e
      unfold fcond
      simp only [evS_seq, evS_skip, evS_prim, evS_ifs, evS_retv, evS_whl, evS_fr, evS_frz, q_P, evC_cons, evC_nil, evC_v, evC_k, evC_un, evC_bi, evC_tr, q_s0, q_s1, q_s2, q_s3, q_s4, q_s5, q_s6, q_s7, q_s8, q_s9, q_s10, q_s11, q_p0, q_p1, q_p2, q_p3, q_p4, q_p5, q_p6, q_p7, q_p8, q_p9, q_p10, q_p11, q_read, q_readO, q_gcd, q_onD, q_onDo, q_onI, q_onB, q_onSl, q_onSt, q_onSo, q_onL, q_onLo, q_onT, q_onM, q_datD, q_datO, q_intD, dInt_eq, dBool_eq, q_cons, q_mo, bnd_some, bnd_none, q_asg, q_par2, q_asgT, q_ret, q_expr, q_brk, q_raise, q_onx, q_ort, q_obk, q_ono, q_cmp, q_ar, q_and, q_or, q_ix, q_eq, q_ne, q_max2, q_kint, q_kg, q_kbl, q_knon, q_kdT, q_lt, q_le, q_gt, q_ge, q_test, q_testN, ifB_t, ifB_f, q_neg, q_one, q_not, q_isN, q_notN, q_len, q_abs, q_seq, q_rev, q_listOf, q_tupOf, q_isInst, q_tup, q_lst, q_call, q_chain, q_ite, q_max3, q_add, q_sub, q_mul, q_div, q_mod, q_at0, q_at1, q_d0, q_d1, q_d2, q_d1o, q_d2o, q_a1, q_a2, q_a3, q_a5, lenOk2, lenOk1, lenOk0, fI_eq, forceL_eq, g_onD, g_onI, g_onB, g_onS, g_onM, g_onO, g_test, g_bnd, g_cons1, g_cons2, g_out, q_outr, q_eqi, q_dTup, q_lst1, neg1, hl, h, q_Z, fro]
      rfl
    | true =>
      rw [h] at e
      obtain ⟨g, e1, e⟩ := bnd_inv (r := leC ns x) e
      have hL := hL x g e1
      cases hm : memI g (x :: r) with
      | true =>
        rw [hm] at e
        cases e
        have hm : memI g (x :: r).reverse = true := by rw [memI_rev]; exact hm
        unfold fcond fbody
        simp only [evS_seq, evS_skip, evS_prim, evS_ifs, evS_retv, evS_whl, evS_fr, evS_frz, q_P, evC_cons, evC_nil, evC_v, evC_k, evC_un, evC_bi, evC_tr, q_s0, q_s1, q_s2, q_s3, q_s4, q_s5, q_s6, q_s7, q_s8, q_s9, q_s10, q_s11, q_p0, q_p1, q_p2, q_p3, q_p4, q_p5, q_p6, q_p7, q_p8, q_p9, q_p10, q_p11, q_read, q_readO, q_gcd, q_onD, q_onDo, q_onI, q_onB, q_onSl, q_onSt, q_onSo, q_onL, q_onLo, q_onT, q_onM, q_datD, q_datO, q_intD, dInt_eq, dBool_eq, q_cons, q_mo, bnd_some, bnd_none, q_asg, q_par2, q_asgT, q_ret, q_expr, q_brk, q_raise, q_onx, q_ort, q_obk, q_ono, q_cmp, q_ar, q_and, q_or, q_ix, q_eq, q_ne, q_max2, q_kint, q_kg, q_kbl, q_knon, q_kdT, q_lt, q_le, q_gt, q_ge, q_test, q_testN, ifB_t, ifB_f, q_neg, q_one, q_not, q_isN, q_notN, q_len, q_abs, q_seq, q_rev, q_listOf, q_tupOf, q_isInst, q_tup, q_lst, q_call, q_chain, q_ite, q_max3, q_add, q_sub, q_mul, q_div, q_mod, q_at0, q_at1, q_d0, q_d1, q_d2, q_d1o, q_d2o, q_a1, q_a2, q_a3, q_a5, lenOk2, lenOk1, lenOk0, fI_eq, forceL_eq, g_onD, g_onI, g_onB, g_onS, g_onM, g_onO, g_test, g_bnd, g_cons1, g_cons2, g_out, q_outr, q_eqi, q_dTup, q_lst1, neg1, hl, h, hL, q_inn, innR_il, hm, Bool.xor_true, Bool.false_xor, q_nf, q_Z, fro]
        rfl
      | false =>
        rw [hm] at e
        obtain ⟨e2, e⟩ := ifB_some e
        have ih := f_loop F W (fun h g e => by exact ‹∀ h g, leC ns h = some g → F 63 [.dat (.list (il ns)), .dat (.int h)] = some (.dat (.int g))› h g e) bound s n g (x :: r) (some (.dat (.int g))) p e
        have hm : memI g (x :: r).reverse = false := by rw [memI_rev]; exact hm
        have e3 : lenOk (il (x :: r).reverse) = true := by rw [lenOk_il]; unfold lenOk at e2 ⊢; rw [lng_rev]; exact e2
        rw [← ih]
        unfold fcond fbody
        simp only [evS_seq, evS_skip, evS_prim, evS_ifs, evS_retv, evS_whl, evS_fr, evS_frz, q_P, evC_cons, evC_nil, evC_v, evC_k, evC_un, evC_bi, evC_tr, q_s0, q_s1, q_s2, q_s3, q_s4, q_s5, q_s6, q_s7, q_s8, q_s9, q_s10, q_s11, q_p0, q_p1, q_p2, q_p3, q_p4, q_p5, q_p6, q_p7, q_p8, q_p9, q_p10, q_p11, q_read, q_readO, q_gcd, q_onD, q_onDo, q_onI, q_onB, q_onSl, q_onSt, q_onSo, q_onL, q_onLo, q_onT, q_onM, q_datD, q_datO, q_intD, dInt_eq, dBool_eq, q_cons, q_mo, bnd_some, bnd_none, q_asg, q_par2, q_asgT, q_ret, q_expr, q_brk, q_raise, q_onx, q_ort, q_obk, q_ono, q_cmp, q_ar, q_and, q_or, q_ix, q_eq, q_ne, q_max2, q_kint, q_kg, q_kbl, q_knon, q_kdT, q_lt, q_le, q_gt, q_ge, q_test, q_testN, ifB_t, ifB_f, q_neg, q_one, q_not, q_isN, q_notN, q_len, q_abs, q_seq, q_rev, q_listOf, q_tupOf, q_isInst, q_tup, q_lst, q_call, q_chain, q_ite, q_max3, q_add, q_sub, q_mul, q_div, q_mod, q_at0, q_at1, q_d0, q_d1, q_d2, q_d1o, q_d2o, q_a1, q_a2, q_a3, q_a5, lenOk2, lenOk1, lenOk0, fI_eq, forceL_eq, g_onD, g_onI, g_onB, g_onS, g_onM, g_onO, g_test, g_bnd, g_cons1, g_cons2, g_out, q_outr, q_eqi, q_dTup, q_lst1, neg1, hl, h, hL, q_inn, innR_il, hm, Bool.xor_false, Bool.false_xor, q_nf, q_app, q_ownK, e3, app_il]
theorem tw_first (F : FT) {ns : List Int} (hL : ∀ h g, leC ns h = some g → F 63 [.dat (.list (il ns)), .dat (.int h)] = some (.dat (.int g))) {bound s : Int} {p : List Int × Bool} (e : fnC ns bound s = some p) :
    runD F 3000 c_first_numbers [.dat (.list (il ns)), .dat (.int bound), .dat (.int s)] = some (resF p) := by
  rw [runD_go (ρ := [some (.dat (.list (il ns))), some (.dat (.int bound)), some (.dat (.int s)), none, none]) rfl rfl]
  unfold c_first_numbers
  simp only [evS_seq, evS_skip, evS_prim, evS_ifs, evS_retv, evS_whl, evS_fr, evS_frz, q_P, evC_cons, evC_nil, evC_v, evC_k, evC_un, evC_bi, evC_tr, q_s0, q_s1, q_s2, q_s3, q_s4, q_s5, q_s6, q_s7, q_s8, q_s9, q_s10, q_s11, q_p0, q_p1, q_p2, q_p3, q_p4, q_p5, q_p6, q_p7, q_p8, q_p9, q_p10, q_p11, q_read, q_readO, q_gcd, q_onD, q_onDo, q_onI, q_onB, q_onSl, q_onSt, q_onSo, q_onL, q_onLo, q_onT, q_onM, q_datD, q_datO, q_intD, dInt_eq, dBool_eq, q_cons, q_mo, bnd_some, bnd_none, q_asg, q_par2, q_asgT, q_ret, q_expr, q_brk, q_raise, q_onx, q_ort, q_obk, q_ono, q_cmp, q_ar, q_and, q_or, q_ix, q_eq, q_ne, q_max2, q_kint, q_kg, q_kbl, q_knon, q_kdT, q_lt, q_le, q_gt, q_ge, q_test, q_testN, ifB_t, ifB_f, q_neg, q_one, q_not, q_isN, q_notN, q_len, q_abs, q_seq, q_rev, q_listOf, q_tupOf, q_isInst, q_tup, q_lst, q_call, q_chain, q_ite, q_max3, q_add, q_sub, q_mul, q_div, q_mod, q_at0, q_at1, q_d0, q_d1, q_d2, q_d1o, q_d2o, q_a1, q_a2, q_a3, q_a5, lenOk2, lenOk1, lenOk0, fI_eq, forceL_eq, g_onD, g_onI, g_onB, g_onS, g_onM, g_onO, g_test, g_bnd, g_cons1, g_cons2, g_out, q_outr, q_eqi, q_dTup, q_lst1]
  exact f_loop F 3000 hL bound (some (.dat (.int s))) 3000 s [] none p e
/-! ### grown -/
noncomputable def grC (ns : List Int) (k : Int) (n : Nat) : List Int → Option (List Int) := Nat.rec (motive := fun _ => List Int → Option (List Int)) (fun _ => none) (fun _ ih xs => ifB (leI (.ofNat (lng xs)) k) (bnd (atI xs (.negSucc 0)) fun x => bnd (leC ns x) fun y => ifB (lenOk xs) (forceL (xs ++ [y]) ih) none) (some xs)) n
theorem gr_go (F : FT) {ns : List Int} (hL : ∀ h g, leC ns h = some g → F 63 [.dat (.list (il ns)), .dat (.int h)] = some (.dat (.int g))) (k : Int) : ∀ (n : Nat) (xs ys : List Int), grC ns k n xs = some ys → growGo F 63 (.list (il ns)) k n (il xs) = some (il ys)
  | 0, xs, ys, e => nomatch e
  | n + 1, xs, ys, e => by
    have e : ifB (leI (.ofNat (lng xs)) k) (bnd (atI xs (.negSucc 0)) fun x => bnd (leC ns x) fun y => ifB (lenOk xs) (forceL (xs ++ [y]) (grC ns k n)) none) (some xs) = some ys := e
    show (match leI (.ofNat (lng (il xs))) k with
      | true => match atI (il xs) (.negSucc 0) with
        | none => none
        | some x => match dOf (F 63 [.dat (.list (il ns)), .dat x]) with
          | some y => match lenOk (il xs) with
            | true => growGo F 63 (.list (il ns)) k n (il xs ++ [y])
            | false => none
          | none => none
      | false => some (il xs)) = some (il ys)
    rw [lng_il]
    cases h : leI (.ofNat (lng xs)) k with
    | false => rw [h] at e; cases e; rfl
    | true =>
      rw [h] at e
      obtain ⟨x, e1, e⟩ := bnd_inv e
      obtain ⟨y, e2, e⟩ := bnd_inv e
      obtain ⟨e3, e⟩ := ifB_some e
      rw [forceL_eq] at e
      have ih := gr_go F hL k n _ _ e
      have a : atI (il xs) (.negSucc 0) = some (.int x) := by rw [il, atI_map, e1]; rfl
      have b : lenOk (il xs) = true := by rw [lenOk_il]; exact e3
      have d : il (xs ++ [y]) = il xs ++ [.int y] := by rw [il, il, List.map_append]; rfl
      rw [d] at ih
      simp only [a, hL x y e2, b]
      exact ih
noncomputable def grR (F : FT) (l W i : Nat) (nsd : PyData) (k : Int) (ρ : En) : Option Out := ownK (slot ρ i) fun xs => bnd (growGo F l nsd k W xs) fun ys => some (.nx (put ρ i (some (.own ys))))
theorem q_grow (F : FT) (W f l i : Nat) (nsd : PyData) (k : Int) (ρ : En) : opP F W (.grow f l i) [.dat nsd, .dat (.int k)] ρ = grR F l W i nsd k ρ := by
  show onOwn ρ i (fun xs => match growGo F l nsd k W xs with
    | none => none
    | some ys => nxF (put ρ i (some (.own ys)))) = _
  unfold onOwn grR ownK
  cases slot ρ i with
  | none => rfl
  | some r =>
    show (match ownOf r with | some xs => _ | none => none) = (match ownOf r with | some xs => _ | none => none)
    cases ownOf r with
    | none => rfl
    | some xs =>
      show (match growGo F l nsd k W xs with | none => none | some ys => nxF (put ρ i (some (.own ys)))) = bnd (growGo F l nsd k W xs) _
      cases growGo F l nsd k W xs with
      | none => rfl
      | some ys =>
        show nxF _ = _
        unfold nxF
        rw [forceL_eq]
        rfl
/-! ### are_apart -/
noncomputable def sidC (ns : List Int) (a m : Int) : Option Bool := ifB (eqI (Int.emod (.ofNat (lng ns)) 2) 0) (bnd (atI ns (.negSucc 0)) fun l => ifB (ltI 0 l) (mulC a m fun p => some (ltI p 0)) (some false)) (some false)
noncomputable def btwC (a m f : Int) : Option Bool := mulC a m fun p => ifB (leI p 0) (some false) (mulC a f fun q => ifB (leI q 0) (some false) (some (ifB (ifB (ltI a m) (ltI m f) false) true (ifB (ltI f m) (ltI m a) false))))
noncomputable def aptC (ns : List Int) (bound a m f : Int) : Option Bool := ifB (leI (.ofNat (absN a)) bound) (some false) (ifB (leI (.ofNat (absN m)) bound) (some false) (bnd (sidC ns a m) fun s => ifB s (some true) (btwC a m f)))
theorem mod2 (i : Int) : aMod i 2 = some (.dat (.int (Int.emod i 2))) := dInt_eq _
theorem tw_sides (F : FT) (W : Nat) {ns : List Int} {a m : Int} {r : Bool} (e : sidC ns a m = some r) : runD F W c_are_sides [.dat (.list (il ns)), .dat (.int a), .dat (.int m)] = some (.dat (.bool r)) := by
  rw [runD_go (ρ := [some (.dat (.list (il ns))), some (.dat (.int a)), some (.dat (.int m))]) rfl rfl]
  unfold c_are_sides
  unfold sidC at e
  cases h : eqI (Int.emod (.ofNat (lng ns)) 2) 0 with
  | false =>
    rw [h] at e
    cases e
    simp only [evS_seq, evS_skip, evS_prim, evS_ifs, evS_retv, evS_whl, evS_fr, evS_frz, q_P, evC_cons, evC_nil, evC_v, evC_k, evC_un, evC_bi, evC_tr, q_s0, q_s1, q_s2, q_s3, q_s4, q_s5, q_s6, q_s7, q_s8, q_s9, q_s10, q_s11, q_p0, q_p1, q_p2, q_p3, q_p4, q_p5, q_p6, q_p7, q_p8, q_p9, q_p10, q_p11, q_read, q_readO, q_gcd, q_onD, q_onDo, q_onI, q_onB, q_onSl, q_onSt, q_onSo, q_onL, q_onLo, q_onT, q_onM, q_datD, q_datO, q_intD, dInt_eq, dBool_eq, q_cons, q_mo, bnd_some, bnd_none, q_asg, q_par2, q_asgT, q_ret, q_expr, q_brk, q_raise, q_onx, q_ort, q_obk, q_ono, q_cmp, q_ar, q_and, q_or, q_ix, q_eq, q_ne, q_max2, q_kint, q_kg, q_kbl, q_knon, q_kdT, q_lt, q_le, q_gt, q_ge, q_test, q_testN, ifB_t, ifB_f, q_neg, q_one, q_not, q_isN, q_notN, q_len, q_abs, q_seq, q_rev, q_listOf, q_tupOf, q_isInst, q_tup, q_lst, q_call, q_chain, q_ite, q_max3, q_add, q_sub, q_mul, q_div, q_mod, q_at0, q_at1, q_d0, q_d1, q_d2, q_d1o, q_d2o, q_a1, q_a2, q_a3, q_a5, lenOk2, lenOk1, lenOk0, fI_eq, forceL_eq, g_onD, g_onI, g_onB, g_onS, g_onM, g_onO, g_test, g_bnd, g_cons1, g_cons2, g_out, q_outr, q_eqi, q_dTup, q_lst1, lng_il, mod2, h]
  | true =>
    rw [h] at e
    obtain ⟨l, e1, e⟩ := bnd_inv e
    have hl : atI (il ns) (.negSucc 0) = some (.int l) := by rw [il, atI_map, e1]; rfl
    cases h2 : ltI 0 l with
    | false =>
      rw [h2] at e
      cases e
      simp only [evS_seq, evS_skip, evS_prim, evS_ifs, evS_retv, evS_whl, evS_fr, evS_frz, q_P, evC_cons, evC_nil, evC_v, evC_k, evC_un, evC_bi, evC_tr, q_s0, q_s1, q_s2, q_s3, q_s4, q_s5, q_s6, q_s7, q_s8, q_s9, q_s10, q_s11, q_p0, q_p1, q_p2, q_p3, q_p4, q_p5, q_p6, q_p7, q_p8, q_p9, q_p10, q_p11, q_read, q_readO, q_gcd, q_onD, q_onDo, q_onI, q_onB, q_onSl, q_onSt, q_onSo, q_onL, q_onLo, q_onT, q_onM, q_datD, q_datO, q_intD, dInt_eq, dBool_eq, q_cons, q_mo, bnd_some, bnd_none, q_asg, q_par2, q_asgT, q_ret, q_expr, q_brk, q_raise, q_onx, q_ort, q_obk, q_ono, q_cmp, q_ar, q_and, q_or, q_ix, q_eq, q_ne, q_max2, q_kint, q_kg, q_kbl, q_knon, q_kdT, q_lt, q_le, q_gt, q_ge, q_test, q_testN, ifB_t, ifB_f, q_neg, q_one, q_not, q_isN, q_notN, q_len, q_abs, q_seq, q_rev, q_listOf, q_tupOf, q_isInst, q_tup, q_lst, q_call, q_chain, q_ite, q_max3, q_add, q_sub, q_mul, q_div, q_mod, q_at0, q_at1, q_d0, q_d1, q_d2, q_d1o, q_d2o, q_a1, q_a2, q_a3, q_a5, lenOk2, lenOk1, lenOk0, fI_eq, forceL_eq, g_onD, g_onI, g_onB, g_onS, g_onM, g_onO, g_test, g_bnd, g_cons1, g_cons2, g_out, q_outr, q_eqi, q_dTup, q_lst1, lng_il, mod2, h, neg1, hl, h2]
    | true =>
      rw [h2] at e
      obtain ⟨m1, e⟩ := mulC_some e
      cases e
      simp only [evS_seq, evS_skip, evS_prim, evS_ifs, evS_retv, evS_whl, evS_fr, evS_frz, q_P, evC_cons, evC_nil, evC_v, evC_k, evC_un, evC_bi, evC_tr, q_s0, q_s1, q_s2, q_s3, q_s4, q_s5, q_s6, q_s7, q_s8, q_s9, q_s10, q_s11, q_p0, q_p1, q_p2, q_p3, q_p4, q_p5, q_p6, q_p7, q_p8, q_p9, q_p10, q_p11, q_read, q_readO, q_gcd, q_onD, q_onDo, q_onI, q_onB, q_onSl, q_onSt, q_onSo, q_onL, q_onLo, q_onT, q_onM, q_datD, q_datO, q_intD, dInt_eq, dBool_eq, q_cons, q_mo, bnd_some, bnd_none, q_asg, q_par2, q_asgT, q_ret, q_expr, q_brk, q_raise, q_onx, q_ort, q_obk, q_ono, q_cmp, q_ar, q_and, q_or, q_ix, q_eq, q_ne, q_max2, q_kint, q_kg, q_kbl, q_knon, q_kdT, q_lt, q_le, q_gt, q_ge, q_test, q_testN, ifB_t, ifB_f, q_neg, q_one, q_not, q_isN, q_notN, q_len, q_abs, q_seq, q_rev, q_listOf, q_tupOf, q_isInst, q_tup, q_lst, q_call, q_chain, q_ite, q_max3, q_add, q_sub, q_mul, q_div, q_mod, q_at0, q_at1, q_d0, q_d1, q_d2, q_d1o, q_d2o, q_a1, q_a2, q_a3, q_a5, lenOk2, lenOk1, lenOk0, fI_eq, forceL_eq, g_onD, g_onI, g_onB, g_onS, g_onM, g_onO, g_test, g_bnd, g_cons1, g_cons2, g_out, q_outr, q_eqi, q_dTup, q_lst1, lng_il, mod2, h, neg1, hl, h2, m1]
theorem tw_between (F : FT) (W : Nat) {a m f : Int} {r : Bool} (e : btwC a m f = some r) : runD F W c_is_between [.dat (.int a), .dat (.int m), .dat (.int f)] = some (.dat (.bool r)) := by
  rw [runD_go (ρ := [some (.dat (.int a)), some (.dat (.int m)), some (.dat (.int f))]) rfl rfl]
  unfold c_is_between
  obtain ⟨m1, e⟩ := mulC_some e
  cases h : leI (Int.mul a m) 0 with
  | true =>
    rw [h] at e
    cases e
    simp only [evS_seq, evS_skip, evS_prim, evS_ifs, evS_retv, evS_whl, evS_fr, evS_frz, q_P, evC_cons, evC_nil, evC_v, evC_k, evC_un, evC_bi, evC_tr, q_s0, q_s1, q_s2, q_s3, q_s4, q_s5, q_s6, q_s7, q_s8, q_s9, q_s10, q_s11, q_p0, q_p1, q_p2, q_p3, q_p4, q_p5, q_p6, q_p7, q_p8, q_p9, q_p10, q_p11, q_read, q_readO, q_gcd, q_onD, q_onDo, q_onI, q_onB, q_onSl, q_onSt, q_onSo, q_onL, q_onLo, q_onT, q_onM, q_datD, q_datO, q_intD, dInt_eq, dBool_eq, q_cons, q_mo, bnd_some, bnd_none, q_asg, q_par2, q_asgT, q_ret, q_expr, q_brk, q_raise, q_onx, q_ort, q_obk, q_ono, q_cmp, q_ar, q_and, q_or, q_ix, q_eq, q_ne, q_max2, q_kint, q_kg, q_kbl, q_knon, q_kdT, q_lt, q_le, q_gt, q_ge, q_test, q_testN, ifB_t, ifB_f, q_neg, q_one, q_not, q_isN, q_notN, q_len, q_abs, q_seq, q_rev, q_listOf, q_tupOf, q_isInst, q_tup, q_lst, q_call, q_chain, q_ite, q_max3, q_add, q_sub, q_mul, q_div, q_mod, q_at0, q_at1, q_d0, q_d1, q_d2, q_d1o, q_d2o, q_a1, q_a2, q_a3, q_a5, lenOk2, lenOk1, lenOk0, fI_eq, forceL_eq, g_onD, g_onI, g_onB, g_onS, g_onM, g_onO, g_test, g_bnd, g_cons1, g_cons2, g_out, q_outr, q_eqi, q_dTup, q_lst1, m1, h]
  | false =>
    rw [h] at e
    obtain ⟨m2, e⟩ := mulC_some e
    cases h2 : leI (Int.mul a f) 0 with
    | true =>
      rw [h2] at e
      cases e
      simp only [evS_seq, evS_skip, evS_prim, evS_ifs, evS_retv, evS_whl, evS_fr, evS_frz, q_P, evC_cons, evC_nil, evC_v, evC_k, evC_un, evC_bi, evC_tr, q_s0, q_s1, q_s2, q_s3, q_s4, q_s5, q_s6, q_s7, q_s8, q_s9, q_s10, q_s11, q_p0, q_p1, q_p2, q_p3, q_p4, q_p5, q_p6, q_p7, q_p8, q_p9, q_p10, q_p11, q_read, q_readO, q_gcd, q_onD, q_onDo, q_onI, q_onB, q_onSl, q_onSt, q_onSo, q_onL, q_onLo, q_onT, q_onM, q_datD, q_datO, q_intD, dInt_eq, dBool_eq, q_cons, q_mo, bnd_some, bnd_none, q_asg, q_par2, q_asgT, q_ret, q_expr, q_brk, q_raise, q_onx, q_ort, q_obk, q_ono, q_cmp, q_ar, q_and, q_or, q_ix, q_eq, q_ne, q_max2, q_kint, q_kg, q_kbl, q_knon, q_kdT, q_lt, q_le, q_gt, q_ge, q_test, q_testN, ifB_t, ifB_f, q_neg, q_one, q_not, q_isN, q_notN, q_len, q_abs, q_seq, q_rev, q_listOf, q_tupOf, q_isInst, q_tup, q_lst, q_call, q_chain, q_ite, q_max3, q_add, q_sub, q_mul, q_div, q_mod, q_at0, q_at1, q_d0, q_d1, q_d2, q_d1o, q_d2o, q_a1, q_a2, q_a3, q_a5, lenOk2, lenOk1, lenOk0, fI_eq, forceL_eq, g_onD, g_onI, g_onB, g_onS, g_onM, g_onO, g_test, g_bnd, g_cons1, g_cons2, g_out, q_outr, q_eqi, q_dTup, q_lst1, m1, m2, h, h2]
    | false =>
      rw [h2] at e
      cases e
      cases h3 : ltI a m <;> cases h4 : ltI m f <;> cases h5 : ltI f m <;> cases h6 : ltI m a <;> simp only [evS_seq, evS_skip, evS_prim, evS_ifs, evS_retv, evS_whl, evS_fr, evS_frz, q_P, evC_cons, evC_nil, evC_v, evC_k, evC_un, evC_bi, evC_tr, q_s0, q_s1, q_s2, q_s3, q_s4, q_s5, q_s6, q_s7, q_s8, q_s9, q_s10, q_s11, q_p0, q_p1, q_p2, q_p3, q_p4, q_p5, q_p6, q_p7, q_p8, q_p9, q_p10, q_p11, q_read, q_readO, q_gcd, q_onD, q_onDo, q_onI, q_onB, q_onSl, q_onSt, q_onSo, q_onL, q_onLo, q_onT, q_onM, q_datD, q_datO, q_intD, dInt_eq, dBool_eq, q_cons, q_mo, bnd_some, bnd_none, q_asg, q_par2, q_asgT, q_ret, q_expr, q_brk, q_raise, q_onx, q_ort, q_obk, q_ono, q_cmp, q_ar, q_and, q_or, q_ix, q_eq, q_ne, q_max2, q_kint, q_kg, q_kbl, q_knon, q_kdT, q_lt, q_le, q_gt, q_ge, q_test, q_testN, ifB_t, ifB_f, q_neg, q_one, q_not, q_isN, q_notN, q_len, q_abs, q_seq, q_rev, q_listOf, q_tupOf, q_isInst, q_tup, q_lst, q_call, q_chain, q_ite, q_max3, q_add, q_sub, q_mul, q_div, q_mod, q_at0, q_at1, q_d0, q_d1, q_d2, q_d1o, q_d2o, q_a1, q_a2, q_a3, q_a5, lenOk2, lenOk1, lenOk0, fI_eq, forceL_eq, g_onD, g_onI, g_onB, g_onS, g_onM, g_onO, g_test, g_bnd, g_cons1, g_cons2, g_out, q_outr, q_eqi, q_dTup, q_lst1, m1, m2, h, h2, h3, h4, h5, h6]
theorem tw_apart (F : FT) (W : Nat) {ns : List Int} (h1 : ∀ a m r, sidC ns a m = some r → F 67 [.dat (.list (il ns)), .dat (.int a), .dat (.int m)] = some (.dat (.bool r))) (h2 : ∀ a m f r, btwC a m f = some r → F 68 [.dat (.int a), .dat (.int m), .dat (.int f)] = some (.dat (.bool r)))
    {bound a m f : Int} {r : Bool} (e : aptC ns bound a m f = some r) : runD F W c_are_apart [.dat (.list (il ns)), .dat (.int bound), .dat (.int a), .dat (.int m), .dat (.int f)] = some (.dat (.bool r)) := by
  rw [runD_go (ρ := [some (.dat (.list (il ns))), some (.dat (.int bound)), some (.dat (.int a)), some (.dat (.int m)), some (.dat (.int f))]) rfl rfl]
  unfold c_are_apart
  unfold aptC at e
  cases h3 : leI (.ofNat (absN a)) bound with
  | true => rw [h3] at e; cases e; simp only [evS_seq, evS_skip, evS_prim, evS_ifs, evS_retv, evS_whl, evS_fr, evS_frz, q_P, evC_cons, evC_nil, evC_v, evC_k, evC_un, evC_bi, evC_tr, q_s0, q_s1, q_s2, q_s3, q_s4, q_s5, q_s6, q_s7, q_s8, q_s9, q_s10, q_s11, q_p0, q_p1, q_p2, q_p3, q_p4, q_p5, q_p6, q_p7, q_p8, q_p9, q_p10, q_p11, q_read, q_readO, q_gcd, q_onD, q_onDo, q_onI, q_onB, q_onSl, q_onSt, q_onSo, q_onL, q_onLo, q_onT, q_onM, q_datD, q_datO, q_intD, dInt_eq, dBool_eq, q_cons, q_mo, bnd_some, bnd_none, q_asg, q_par2, q_asgT, q_ret, q_expr, q_brk, q_raise, q_onx, q_ort, q_obk, q_ono, q_cmp, q_ar, q_and, q_or, q_ix, q_eq, q_ne, q_max2, q_kint, q_kg, q_kbl, q_knon, q_kdT, q_lt, q_le, q_gt, q_ge, q_test, q_testN, ifB_t, ifB_f, q_neg, q_one, q_not, q_isN, q_notN, q_len, q_abs, q_seq, q_rev, q_listOf, q_tupOf, q_isInst, q_tup, q_lst, q_call, q_chain, q_ite, q_max3, q_add, q_sub, q_mul, q_div, q_mod, q_at0, q_at1, q_d0, q_d1, q_d2, q_d1o, q_d2o, q_a1, q_a2, q_a3, q_a5, lenOk2, lenOk1, lenOk0, fI_eq, forceL_eq, g_onD, g_onI, g_onB, g_onS, g_onM, g_onO, g_test, g_bnd, g_cons1, g_cons2, g_out, q_outr, q_eqi, q_dTup, q_lst1, h3]
  | false =>
    rw [h3] at e
    cases h4 : leI (.ofNat (absN m)) bound with
    | true => rw [h4] at e; cases e; simp only [evS_seq, evS_skip, evS_prim, evS_ifs, evS_retv, evS_whl, evS_fr, evS_frz, q_P, evC_cons, evC_nil, evC_v, evC_k, evC_un, evC_bi, evC_tr, q_s0, q_s1, q_s2, q_s3, q_s4, q_s5, q_s6, q_s7, q_s8, q_s9, q_s10, q_s11, q_p0, q_p1, q_p2, q_p3, q_p4, q_p5, q_p6, q_p7, q_p8, q_p9, q_p10, q_p11, q_read, q_readO, q_gcd, q_onD, q_onDo, q_onI, q_onB, q_onSl, q_onSt, q_onSo, q_onL, q_onLo, q_onT, q_onM, q_datD, q_datO, q_intD, dInt_eq, dBool_eq, q_cons, q_mo, bnd_some, bnd_none, q_asg, q_par2, q_asgT, q_ret, q_expr, q_brk, q_raise, q_onx, q_ort, q_obk, q_ono, q_cmp, q_ar, q_and, q_or, q_ix, q_eq, q_ne, q_max2, q_kint, q_kg, q_kbl, q_knon, q_kdT, q_lt, q_le, q_gt, q_ge, q_test, q_testN, ifB_t, ifB_f, q_neg, q_one, q_not, q_isN, q_notN, q_len, q_abs, q_seq, q_rev, q_listOf, q_tupOf, q_isInst, q_tup, q_lst, q_call, q_chain, q_ite, q_max3, q_add, q_sub, q_mul, q_div, q_mod, q_at0, q_at1, q_d0, q_d1, q_d2, q_d1o, q_d2o, q_a1, q_a2, q_a3, q_a5, lenOk2, lenOk1, lenOk0, fI_eq, forceL_eq, g_onD, g_onI, g_onB, g_onS, g_onM, g_onO, g_test, g_bnd, g_cons1, g_cons2, g_out, q_outr, q_eqi, q_dTup, q_lst1, h3, h4]
    | false =>
      rw [h4] at e
      obtain ⟨s, e1, e⟩ := bnd_inv e
      have h1 := h1 _ _ _ e1
      cases s with
      | true => cases e; simp only [evS_seq, evS_skip, evS_prim, evS_ifs, evS_retv, evS_whl, evS_fr, evS_frz, q_P, evC_cons, evC_nil, evC_v, evC_k, evC_un, evC_bi, evC_tr, q_s0, q_s1, q_s2, q_s3, q_s4, q_s5, q_s6, q_s7, q_s8, q_s9, q_s10, q_s11, q_p0, q_p1, q_p2, q_p3, q_p4, q_p5, q_p6, q_p7, q_p8, q_p9, q_p10, q_p11, q_read, q_readO, q_gcd, q_onD, q_onDo, q_onI, q_onB, q_onSl, q_onSt, q_onSo, q_onL, q_onLo, q_onT, q_onM, q_datD, q_datO, q_intD, dInt_eq, dBool_eq, q_cons, q_mo, bnd_some, bnd_none, q_asg, q_par2, q_asgT, q_ret, q_expr, q_brk, q_raise, q_onx, q_ort, q_obk, q_ono, q_cmp, q_ar, q_and, q_or, q_ix, q_eq, q_ne, q_max2, q_kint, q_kg, q_kbl, q_knon, q_kdT, q_lt, q_le, q_gt, q_ge, q_test, q_testN, ifB_t, ifB_f, q_neg, q_one, q_not, q_isN, q_notN, q_len, q_abs, q_seq, q_rev, q_listOf, q_tupOf, q_isInst, q_tup, q_lst, q_call, q_chain, q_ite, q_max3, q_add, q_sub, q_mul, q_div, q_mod, q_at0, q_at1, q_d0, q_d1, q_d2, q_d1o, q_d2o, q_a1, q_a2, q_a3, q_a5, lenOk2, lenOk1, lenOk0, fI_eq, forceL_eq, g_onD, g_onI, g_onB, g_onS, g_onM, g_onO, g_test, g_bnd, g_cons1, g_cons2, g_out, q_outr, q_eqi, q_dTup, q_lst1, h3, h4, h1]
      | false =>
        have h2 := h2 _ _ _ _ e
        simp only [evS_seq, evS_skip, evS_prim, evS_ifs, evS_retv, evS_whl, evS_fr, evS_frz, q_P, evC_cons, evC_nil, evC_v, evC_k, evC_un, evC_bi, evC_tr, q_s0, q_s1, q_s2, q_s3, q_s4, q_s5, q_s6, q_s7, q_s8, q_s9, q_s10, q_s11, q_p0, q_p1, q_p2, q_p3, q_p4, q_p5, q_p6, q_p7, q_p8, q_p9, q_p10, q_p11, q_read, q_readO, q_gcd, q_onD, q_onDo, q_onI, q_onB, q_onSl, q_onSt, q_onSo, q_onL, q_onLo, q_onT, q_onM, q_datD, q_datO, q_intD, dInt_eq, dBool_eq, q_cons, q_mo, bnd_some, bnd_none, q_asg, q_par2, q_asgT, q_ret, q_expr, q_brk, q_raise, q_onx, q_ort, q_obk, q_ono, q_cmp, q_ar, q_and, q_or, q_ix, q_eq, q_ne, q_max2, q_kint, q_kg, q_kbl, q_knon, q_kdT, q_lt, q_le, q_gt, q_ge, q_test, q_testN, ifB_t, ifB_f, q_neg, q_one, q_not, q_isN, q_notN, q_len, q_abs, q_seq, q_rev, q_listOf, q_tupOf, q_isInst, q_tup, q_lst, q_call, q_chain, q_ite, q_max3, q_add, q_sub, q_mul, q_div, q_mod, q_at0, q_at1, q_d0, q_d1, q_d2, q_d1o, q_d2o, q_a1, q_a2, q_a3, q_a5, lenOk2, lenOk1, lenOk0, fI_eq, forceL_eq, g_onD, g_onI, g_onB, g_onS, g_onM, g_onO, g_test, g_bnd, g_cons1, g_cons2, g_out, q_outr, q_eqi, q_dTup, q_lst1, h3, h4, h1, h2]
/-! ### met_so -/
noncomputable def miGo {β : Type} (ns : List Int) (bound here later most : Int) (kr : Bool → Int → Option β) (kb : List Int → Option β) (n : Nat) : List Int → Int → Option β :=
  Nat.rec (motive := fun _ => List Int → Int → Option β) (fun _ _ => none) (fun _ ih far sec => bnd (grC ns sec 3000 far) fun far1 => bnd (atI far1 sec) fun x => ifB (eqI x here) (kr true sec) (bnd (aptC ns bound here x later) fun b =>
    ifB b (kr false sec) (ifB (ltI most (.ofNat (absN x))) (kb far1) (fI (Int.add sec 1) fun s1 => ih far1 s1)))) n
noncomputable def resM (b : Bool) (f s : Int) : SV := .dat (.tuple [.bool b, .tuple [.int f, .int s]])
noncomputable def moGo (ns : List Int) (bound st : Int) (n : Nat) : List Int → List Int → Int → Option SV :=
  Nat.rec (motive := fun _ => List Int → List Int → Int → Option SV) (fun _ _ _ => none) (fun _ ih near far fi => bnd (grC ns (Int.add fi st) 3000 near) fun near1 => bnd (atI near1 fi) fun here => bnd (atI near1 (Int.add fi st)) fun later =>
    fI (gtI (.ofNat (absN later)) (gtI (.ofNat (absN here)) bound)) fun most => miGo ns bound here later most (fun b s => some (resM b fi s)) (fun far1 => fI (Int.add fi 1) fun f1 => ih near1 far1 f1) 3000 far 0) n
def mIn : S := (.seq (.prim (.grow 70 63 7) (.cons (.v 0) (.cons (.v 9) .nil)))
      (.seq (.ifs (.bi .eq (.bi .ix (.v 7) (.v 9)) (.v 10)) (.seq (.prim .ret (.cons (.un .tup (.cons (.k (.bl true)) (.cons (.un .tup (.cons (.v 5) (.cons (.v 9) .nil))) .nil))) .nil))
      .skip) .skip)
      (.seq (.ifs (.un (.call 69) (.cons (.v 0) (.cons (.v 1) (.cons (.v 10) (.cons (.bi .ix (.v 7) (.v 9)) (.cons (.v 11) .nil)))))) (.seq (.prim .ret (.cons (.un .tup (.cons (.k (.bl false)) (.cons (.un .tup (.cons (.v 5) (.cons (.v 9) .nil))) .nil))) .nil))
      .skip) .skip)
      (.seq (.ifs (.bi (.cmp .gt) (.un .abs (.bi .ix (.v 7) (.v 9))) (.v 8)) (.seq (.prim .brk .nil)
      .skip) .skip)
      (.seq (.prim (.asg 9) (.cons (.bi (.ar .add) (.v 9) (.k (.int 1))) .nil))
      .skip)))))
def mOut : S := (.seq (.prim (.grow 70 63 6) (.cons (.v 0) (.cons (.bi (.ar .add) (.v 5) (.v 4)) .nil)))
      (.seq (.prim (.par2 10 11) (.cons (.bi .ix (.v 6) (.v 5)) (.cons (.bi .ix (.v 6) (.bi (.ar .add) (.v 5) (.v 4))) .nil)))
      (.seq (.prim (.asg 8) (.cons (.tr .max3 (.v 1) (.un .abs (.v 10)) (.un .abs (.v 11))) .nil))
      (.seq (.prim (.asg 9) (.cons (.k (.int 0)) .nil))
      (.seq (.whl (.k (.bl true)) mIn)
      (.seq (.prim (.asg 5) (.cons (.bi (.ar .add) (.v 5) (.k (.int 1))) .nil))
      .skip))))))
theorem at_il {xs : List Int} {i x : Int} (h : atI xs i = some x) : atI (il xs) i = some (.int x) := by rw [il, atI_map, h]; rfl
section
variable (F : FT) {ns : List Int} (hL : ∀ h g, leC ns h = some g → F 63 [.dat (.list (il ns)), .dat (.int h)] = some (.dat (.int g))) (bound st fi here later most : Int)
  (hA : ∀ a m f r, aptC ns bound a m f = some r → F 69 [.dat (.list (il ns)), .dat (.int bound), .dat (.int a), .dat (.int m), .dat (.int f)] = some (.dat (.bool r))) (o2 o3 : Option SV) (near : List PyData)
include hL hA
def mE (far : List Int) (sec : Int) : En := [some (.dat (.list (il ns))), some (.dat (.int bound)), o2, o3, some (.dat (.int st)), some (.dat (.int fi)), some (.own near), some (.own (il far)), some (.dat (.int most)), some (.dat (.int sec)), some (.dat (.int here)), some (.dat (.int later))]
theorem m_in {β : Type} (kr : Bool → Int → Option β) (kb : List Int → Option β) (r : β) : ∀ (n : Nat) (far : List Int) (sec : Int), miGo ns bound here later most kr kb n far sec = some r →
    (∃ b s, kr b s = some r ∧ loopW (evC F (.k (.bl true)) false) (evS F 3000 mIn) n (mE (ns := ns) bound st fi here later most o2 o3 near far sec) = some (.rt (resM b fi s))) ∨
    ∃ far1 s, kb far1 = some r ∧ loopW (evC F (.k (.bl true)) false) (evS F 3000 mIn) n (mE (ns := ns) bound st fi here later most o2 o3 near far sec) = some (.nx (mE (ns := ns) bound st fi here later most o2 o3 near far1 s))
  | 0, far, sec, e => nomatch e
  | n + 1, far, sec, e => by
    obtain ⟨far1, e1, e⟩ := bnd_inv e
    obtain ⟨x, e2, e⟩ := bnd_inv e
    have g := gr_go F hL sec 3000 far far1 e1
    have a := at_il e2
    rw [q_wsucc]
    cases h : eqI x here with
    | true =>
      rw [h] at e
      refine .inl ⟨true, sec, e, ?_⟩
      unfold mIn mE
      simp only [evS_seq, evS_skip, evS_prim, evS_ifs, evS_retv, evS_whl, evS_fr, evS_frz, q_P, evC_cons, evC_nil, evC_v, evC_k, evC_un, evC_bi, evC_tr, q_s0, q_s1, q_s2, q_s3, q_s4, q_s5, q_s6, q_s7, q_s8, q_s9, q_s10, q_s11, q_p0, q_p1, q_p2, q_p3, q_p4, q_p5, q_p6, q_p7, q_p8, q_p9, q_p10, q_p11, q_read, q_readO, q_gcd, q_onD, q_onDo, q_onI, q_onB, q_onSl, q_onSt, q_onSo, q_onL, q_onLo, q_onT, q_onM, q_datD, q_datO, q_intD, dInt_eq, dBool_eq, q_cons, q_mo, bnd_some, bnd_none, q_asg, q_par2, q_asgT, q_ret, q_expr, q_brk, q_raise, q_onx, q_ort, q_obk, q_ono, q_cmp, q_ar, q_and, q_or, q_ix, q_eq, q_ne, q_max2, q_kint, q_kg, q_kbl, q_knon, q_kdT, q_lt, q_le, q_gt, q_ge, q_test, q_testN, ifB_t, ifB_f, q_neg, q_one, q_not, q_isN, q_notN, q_len, q_abs, q_seq, q_rev, q_listOf, q_tupOf, q_isInst, q_tup, q_lst, q_call, q_chain, q_ite, q_max3, q_add, q_sub, q_mul, q_div, q_mod, q_at0, q_at1, q_d0, q_d1, q_d2, q_d1o, q_d2o, q_a1, q_a2, q_a3, q_a5, lenOk2, lenOk1, lenOk0, fI_eq, forceL_eq, g_onD, g_onI, g_onB, g_onS, g_onM, g_onO, g_test, g_bnd, g_cons1, g_cons2, g_out, q_outr, q_eqi, q_dTup, q_lst1, q_grow, grR, q_ownK, g, a, h, resM]
    | false =>
      rw [h] at e
      obtain ⟨b, e3, e⟩ := bnd_inv e
      have hA1 := hA _ _ _ _ e3
      cases b with
      | true =>
        refine .inl ⟨false, sec, e, ?_⟩
        unfold mIn mE
        simp only [evS_seq, evS_skip, evS_prim, evS_ifs, evS_retv, evS_whl, evS_fr, evS_frz, q_P, evC_cons, evC_nil, evC_v, evC_k, evC_un, evC_bi, evC_tr, q_s0, q_s1, q_s2, q_s3, q_s4, q_s5, q_s6, q_s7, q_s8, q_s9, q_s10, q_s11, q_p0, q_p1, q_p2, q_p3, q_p4, q_p5, q_p6, q_p7, q_p8, q_p9, q_p10, q_p11, q_read, q_readO, q_gcd, q_onD, q_onDo, q_onI, q_onB, q_onSl, q_onSt, q_onSo, q_onL, q_onLo, q_onT, q_onM, q_datD, q_datO, q_intD, dInt_eq, dBool_eq, q_cons, q_mo, bnd_some, bnd_none, q_asg, q_par2, q_asgT, q_ret, q_expr, q_brk, q_raise, q_onx, q_ort, q_obk, q_ono, q_cmp, q_ar, q_and, q_or, q_ix, q_eq, q_ne, q_max2, q_kint, q_kg, q_kbl, q_knon, q_kdT, q_lt, q_le, q_gt, q_ge, q_test, q_testN, ifB_t, ifB_f, q_neg, q_one, q_not, q_isN, q_notN, q_len, q_abs, q_seq, q_rev, q_listOf, q_tupOf, q_isInst, q_tup, q_lst, q_call, q_chain, q_ite, q_max3, q_add, q_sub, q_mul, q_div, q_mod, q_at0, q_at1, q_d0, q_d1, q_d2, q_d1o, q_d2o, q_a1, q_a2, q_a3, q_a5, lenOk2, lenOk1, lenOk0, fI_eq, forceL_eq, g_onD, g_onI, g_onB, g_onS, g_onM, g_onO, g_test, g_bnd, g_cons1, g_cons2, g_out, q_outr, q_eqi, q_dTup, q_lst1, q_grow, grR, q_ownK, g, a, h, hA1, resM]
      | false =>
        cases h2 : ltI most (.ofNat (absN x)) with
        | true =>
          rw [h2] at e
          refine .inr ⟨far1, sec, e, ?_⟩
          unfold mIn mE
          simp only [evS_seq, evS_skip, evS_prim, evS_ifs, evS_retv, evS_whl, evS_fr, evS_frz, q_P, evC_cons, evC_nil, evC_v, evC_k, evC_un, evC_bi, evC_tr, q_s0, q_s1, q_s2, q_s3, q_s4, q_s5, q_s6, q_s7, q_s8, q_s9, q_s10, q_s11, q_p0, q_p1, q_p2, q_p3, q_p4, q_p5, q_p6, q_p7, q_p8, q_p9, q_p10, q_p11, q_read, q_readO, q_gcd, q_onD, q_onDo, q_onI, q_onB, q_onSl, q_onSt, q_onSo, q_onL, q_onLo, q_onT, q_onM, q_datD, q_datO, q_intD, dInt_eq, dBool_eq, q_cons, q_mo, bnd_some, bnd_none, q_asg, q_par2, q_asgT, q_ret, q_expr, q_brk, q_raise, q_onx, q_ort, q_obk, q_ono, q_cmp, q_ar, q_and, q_or, q_ix, q_eq, q_ne, q_max2, q_kint, q_kg, q_kbl, q_knon, q_kdT, q_lt, q_le, q_gt, q_ge, q_test, q_testN, ifB_t, ifB_f, q_neg, q_one, q_not, q_isN, q_notN, q_len, q_abs, q_seq, q_rev, q_listOf, q_tupOf, q_isInst, q_tup, q_lst, q_call, q_chain, q_ite, q_max3, q_add, q_sub, q_mul, q_div, q_mod, q_at0, q_at1, q_d0, q_d1, q_d2, q_d1o, q_d2o, q_a1, q_a2, q_a3, q_a5, lenOk2, lenOk1, lenOk0, fI_eq, forceL_eq, g_onD, g_onI, g_onB, g_onS, g_onM, g_onO, g_test, g_bnd, g_cons1, g_cons2, g_out, q_outr, q_eqi, q_dTup, q_lst1, q_grow, grR, q_ownK, g, a, h, hA1, h2]
        | false =>
          rw [h2] at e
          simp only [ifB_f] at e
          rw [fI_eq] at e
          have st1 : testO (evC F (.k (.bl true)) false (mE (ns := ns) bound st fi here later most o2 o3 near far sec)) (onO (evS F 3000 mIn (mE (ns := ns) bound st fi here later most o2 o3 near far sec)) (loopW (evC F (.k (.bl true)) false) (evS F 3000 mIn) n) fun ρ1 => some (.nx ρ1)) (some (.nx (mE (ns := ns) bound st fi here later most o2 o3 near far sec))) =
              loopW (evC F (.k (.bl true)) false) (evS F 3000 mIn) n (mE (ns := ns) bound st fi here later most o2 o3 near far1 (Int.add sec 1)) := by
            rw [show evS F 3000 mIn (mE (ns := ns) bound st fi here later most o2 o3 near far sec) = some (.nx (mE (ns := ns) bound st fi here later most o2 o3 near far1 (Int.add sec 1))) by
              unfold mIn mE
              simp only [evS_seq, evS_skip, evS_prim, evS_ifs, evS_retv, evS_whl, evS_fr, evS_frz, q_P, evC_cons, evC_nil, evC_v, evC_k, evC_un, evC_bi, evC_tr, q_s0, q_s1, q_s2, q_s3, q_s4, q_s5, q_s6, q_s7, q_s8, q_s9, q_s10, q_s11, q_p0, q_p1, q_p2, q_p3, q_p4, q_p5, q_p6, q_p7, q_p8, q_p9, q_p10, q_p11, q_read, q_readO, q_gcd, q_onD, q_onDo, q_onI, q_onB, q_onSl, q_onSt, q_onSo, q_onL, q_onLo, q_onT, q_onM, q_datD, q_datO, q_intD, dInt_eq, dBool_eq, q_cons, q_mo, bnd_some, bnd_none, q_asg, q_par2, q_asgT, q_ret, q_expr, q_brk, q_raise, q_onx, q_ort, q_obk, q_ono, q_cmp, q_ar, q_and, q_or, q_ix, q_eq, q_ne, q_max2, q_kint, q_kg, q_kbl, q_knon, q_kdT, q_lt, q_le, q_gt, q_ge, q_test, q_testN, ifB_t, ifB_f, q_neg, q_one, q_not, q_isN, q_notN, q_len, q_abs, q_seq, q_rev, q_listOf, q_tupOf, q_isInst, q_tup, q_lst, q_call, q_chain, q_ite, q_max3, q_add, q_sub, q_mul, q_div, q_mod, q_at0, q_at1, q_d0, q_d1, q_d2, q_d1o, q_d2o, q_a1, q_a2, q_a3, q_a5, lenOk2, lenOk1, lenOk0, fI_eq, forceL_eq, g_onD, g_onI, g_onB, g_onS, g_onM, g_onO, g_test, g_bnd, g_cons1, g_cons2, g_out, q_outr, q_eqi, q_dTup, q_lst1, q_grow, grR, q_ownK, g, a, h, hA1, h2]]
            rfl
          rw [st1]
          exact m_in kr kb r n far1 (Int.add sec 1) e
omit hL hA
end
theorem m_out (F : FT) {ns : List Int} (hL : ∀ h g, leC ns h = some g → F 63 [.dat (.list (il ns)), .dat (.int h)] = some (.dat (.int g))) (bound st : Int)
    (hA : ∀ a m f r, aptC ns bound a m f = some r → F 69 [.dat (.list (il ns)), .dat (.int bound), .dat (.int a), .dat (.int m), .dat (.int f)] = some (.dat (.bool r))) (o2 o3 : Option SV) (r : SV) :
    ∀ (n : Nat) (near far : List Int) (fi : Int) (o8 o9 o10 o11 : Option SV), moGo ns bound st n near far fi = some r →
      loopW (evC F (.k (.bl true)) false) (evS F 3000 mOut) n [some (.dat (.list (il ns))), some (.dat (.int bound)), o2, o3, some (.dat (.int st)), some (.dat (.int fi)), some (.own (il near)), some (.own (il far)), o8, o9, o10, o11] = some (.rt r)
  | 0, near, far, fi, o8, o9, o10, o11, e => nomatch e
  | n + 1, near, far, fi, o8, o9, o10, o11, e => by
    obtain ⟨near1, e1, e⟩ := bnd_inv e
    obtain ⟨here, e2, e⟩ := bnd_inv e
    obtain ⟨later, e3, e⟩ := bnd_inv e
    rw [fI_eq] at e
    have g := gr_go F hL (Int.add fi st) 3000 near near1 e1
    have a := at_il e2
    have b := at_il e3
    rw [q_wsucc]
    rcases m_in F hL bound st fi here later _ hA o2 o3 (il near1) _ _ r 3000 far 0 e with ⟨b', s, e4, c⟩ | ⟨far1, s, e4, c⟩
    · cases e4
      unfold mE at c
      unfold mOut
      simp only [evS_seq, evS_skip, evS_prim, evS_ifs, evS_retv, evS_whl, evS_fr, evS_frz, q_P, evC_cons, evC_nil, evC_v, evC_k, evC_un, evC_bi, evC_tr, q_s0, q_s1, q_s2, q_s3, q_s4, q_s5, q_s6, q_s7, q_s8, q_s9, q_s10, q_s11, q_p0, q_p1, q_p2, q_p3, q_p4, q_p5, q_p6, q_p7, q_p8, q_p9, q_p10, q_p11, q_read, q_readO, q_gcd, q_onD, q_onDo, q_onI, q_onB, q_onSl, q_onSt, q_onSo, q_onL, q_onLo, q_onT, q_onM, q_datD, q_datO, q_intD, dInt_eq, dBool_eq, q_cons, q_mo, bnd_some, bnd_none, q_asg, q_par2, q_asgT, q_ret, q_expr, q_brk, q_raise, q_onx, q_ort, q_obk, q_ono, q_cmp, q_ar, q_and, q_or, q_ix, q_eq, q_ne, q_max2, q_kint, q_kg, q_kbl, q_knon, q_kdT, q_lt, q_le, q_gt, q_ge, q_test, q_testN, ifB_t, ifB_f, q_neg, q_one, q_not, q_isN, q_notN, q_len, q_abs, q_seq, q_rev, q_listOf, q_tupOf, q_isInst, q_tup, q_lst, q_call, q_chain, q_ite, q_max3, q_add, q_sub, q_mul, q_div, q_mod, q_at0, q_at1, q_d0, q_d1, q_d2, q_d1o, q_d2o, q_a1, q_a2, q_a3, q_a5, lenOk2, lenOk1, lenOk0, fI_eq, forceL_eq, g_onD, g_onI, g_onB, g_onS, g_onM, g_onO, g_test, g_bnd, g_cons1, g_cons2, g_out, q_outr, q_eqi, q_dTup, q_lst1, q_grow, grR, q_ownK, g, a, b, c]
    · rw [fI_eq] at e4
      have ih := m_out F hL bound st hA o2 o3 r n near1 far1 (Int.add fi 1) (some (.dat (.int (gtI (.ofNat (absN later)) (gtI (.ofNat (absN here)) bound))))) (some (.dat (.int s))) (some (.dat (.int here))) (some (.dat (.int later))) e4
      unfold mE at c
      rw [← ih]
      unfold mOut
      simp only [evS_seq, evS_skip, evS_prim, evS_ifs, evS_retv, evS_whl, evS_fr, evS_frz, q_P, evC_cons, evC_nil, evC_v, evC_k, evC_un, evC_bi, evC_tr, q_s0, q_s1, q_s2, q_s3, q_s4, q_s5, q_s6, q_s7, q_s8, q_s9, q_s10, q_s11, q_p0, q_p1, q_p2, q_p3, q_p4, q_p5, q_p6, q_p7, q_p8, q_p9, q_p10, q_p11, q_read, q_readO, q_gcd, q_onD, q_onDo, q_onI, q_onB, q_onSl, q_onSt, q_onSo, q_onL, q_onLo, q_onT, q_onM, q_datD, q_datO, q_intD, dInt_eq, dBool_eq, q_cons, q_mo, bnd_some, bnd_none, q_asg, q_par2, q_asgT, q_ret, q_expr, q_brk, q_raise, q_onx, q_ort, q_obk, q_ono, q_cmp, q_ar, q_and, q_or, q_ix, q_eq, q_ne, q_max2, q_kint, q_kg, q_kbl, q_knon, q_kdT, q_lt, q_le, q_gt, q_ge, q_test, q_testN, ifB_t, ifB_f, q_neg, q_one, q_not, q_isN, q_notN, q_len, q_abs, q_seq, q_rev, q_listOf, q_tupOf, q_isInst, q_tup, q_lst, q_call, q_chain, q_ite, q_max3, q_add, q_sub, q_mul, q_div, q_mod, q_at0, q_at1, q_d0, q_d1, q_d2, q_d1o, q_d2o, q_a1, q_a2, q_a3, q_a5, lenOk2, lenOk1, lenOk0, fI_eq, forceL_eq, g_onD, g_onI, g_onB, g_onS, g_onM, g_onO, g_test, g_bnd, g_cons1, g_cons2, g_out, q_outr, q_eqi, q_dTup, q_lst1, q_grow, grR, q_ownK, g, a, b, c]
noncomputable def moC (ns : List Int) (bound st : Int) (near far : List Int) : Option SV := moGo ns bound st 3000 near far 0
theorem tw_met (F : FT) {ns : List Int} (hL : ∀ h g, leC ns h = some g → F 63 [.dat (.list (il ns)), .dat (.int h)] = some (.dat (.int g))) {bound st : Int}
    (hA : ∀ a m f r, aptC ns bound a m f = some r → F 69 [.dat (.list (il ns)), .dat (.int bound), .dat (.int a), .dat (.int m), .dat (.int f)] = some (.dat (.bool r))) (hS : F 65 [.dat (.list (il ns))] = some (.dat (.int st))) {near far : List Int} {r : SV} (e : moC ns bound st near far = some r) :
    runD F 3000 c_met_so [.dat (.list (il ns)), .dat (.int bound), .dat (.list (il near)), .dat (.list (il far))] = some r := by
  rw [runD_go (ρ := [some (.dat (.list (il ns))), some (.dat (.int bound)), some (.dat (.list (il near))), some (.dat (.list (il far))), none, none, none, none, none, none, none, none]) rfl rfl]
  have c := m_out F hL bound st hA (some (.dat (.list (il near)))) (some (.dat (.list (il far)))) r 3000 near far 0 none none none none e
  unfold c_met_so
  simp only [evS_seq, evS_skip, evS_prim, evS_ifs, evS_retv, evS_whl, evS_fr, evS_frz, q_P, evC_cons, evC_nil, evC_v, evC_k, evC_un, evC_bi, evC_tr, q_s0, q_s1, q_s2, q_s3, q_s4, q_s5, q_s6, q_s7, q_s8, q_s9, q_s10, q_s11, q_p0, q_p1, q_p2, q_p3, q_p4, q_p5, q_p6, q_p7, q_p8, q_p9, q_p10, q_p11, q_read, q_readO, q_gcd, q_onD, q_onDo, q_onI, q_onB, q_onSl, q_onSt, q_onSo, q_onL, q_onLo, q_onT, q_onM, q_datD, q_datO, q_intD, dInt_eq, dBool_eq, q_cons, q_mo, bnd_some, bnd_none, q_asg, q_par2, q_asgT, q_ret, q_expr, q_brk, q_raise, q_onx, q_ort, q_obk, q_ono, q_cmp, q_ar, q_and, q_or, q_ix, q_eq, q_ne, q_max2, q_kint, q_kg, q_kbl, q_knon, q_kdT, q_lt, q_le, q_gt, q_ge, q_test, q_testN, ifB_t, ifB_f, q_neg, q_one, q_not, q_isN, q_notN, q_len, q_abs, q_seq, q_rev, q_listOf, q_tupOf, q_isInst, q_tup, q_lst, q_call, q_chain, q_ite, q_max3, q_add, q_sub, q_mul, q_div, q_mod, q_at0, q_at1, q_d0, q_d1, q_d2, q_d1o, q_d2o, q_a1, q_a2, q_a3, q_a5, lenOk2, lenOk1, lenOk0, fI_eq, forceL_eq, g_onD, g_onI, g_onB, g_onS, g_onM, g_onO, g_test, g_bnd, g_cons1, g_cons2, g_out, q_outr, q_eqi, q_dTup, q_lst1, hS]
  show outR (onO (loopW (evC F (.k (.bl true)) false) (evS F 3000 mOut) 3000 _) _ _) = _
  rw [c]
  rfl
/-! ### meeting_so, asked, comes_together -/
noncomputable def gXB {α : Type} (d : PyData) (f : PyData → Bool → Option α) : Option α := bnd (tupOf d) fun xs => gL2 xs fun x y => bnd (boolOf y) fun b => f x b
noncomputable def gBX {α : Type} (d : PyData) (f : Bool → PyData → Option α) : Option α := bnd (tupOf d) fun xs => gL2 xs fun x y => bnd (boolOf x) fun b => f b y
theorem gXB_some {α : Type} {d : PyData} {f : PyData → Bool → Option α} {r : α} (h : gXB d f = some r) : ∃ x b, d = .tuple [x, .bool b] ∧ f x b = some r := by
  obtain ⟨xs, h1, h2⟩ := bnd_inv h
  obtain ⟨x, y, e, h2⟩ := gL2_some h2
  obtain ⟨b, e1, h2⟩ := bnd_inv h2
  exact ⟨x, b, by rw [tupOf_some h1, e, boolOf_some e1], h2⟩
theorem gBX_some {α : Type} {d : PyData} {f : Bool → PyData → Option α} {r : α} (h : gBX d f = some r) : ∃ b x, d = .tuple [.bool b, x] ∧ f b x = some r := by
  obtain ⟨xs, h1, h2⟩ := bnd_inv h
  obtain ⟨x, y, e, h2⟩ := gL2_some h2
  obtain ⟨b, e1, h2⟩ := bnd_inv h2
  exact ⟨b, y, by rw [tupOf_some h1, e, boolOf_some e1], h2⟩
def resN : SV := .dat (.tuple [.bool false, .none])
theorem tw_meet (F : FT) (W : Nat) {nu bd one other near far : PyData} {b1 b2 : Bool} (h1 : F 66 [.dat nu, .dat bd, .dat one] = some (.dat (.tuple [near, .bool b1]))) (h2 : F 66 [.dat nu, .dat bd, .dat other] = some (.dat (.tuple [far, .bool b2]))) {r : SV}
    (e : ifB b1 (ifB b2 none (some resN)) (ifB b2 (some resN) (F 71 [.dat nu, .dat bd, .dat near, .dat far])) = some r) : runD F W c_meeting_so [.dat nu, .dat bd, .dat one, .dat other] = some r := by
  rw [runD_go (ρ := [some (.dat nu), some (.dat bd), some (.dat one), some (.dat other), none, none, none, none, none, none]) rfl rfl]
  unfold c_meeting_so
  cases b1 <;> cases b2
  · have e : F 71 [.dat nu, .dat bd, .dat near, .dat far] = some r := e
    simp only [evS_seq, evS_skip, evS_prim, evS_ifs, evS_retv, evS_whl, evS_fr, evS_frz, q_P, evC_cons, evC_nil, evC_v, evC_k, evC_un, evC_bi, evC_tr, q_s0, q_s1, q_s2, q_s3, q_s4, q_s5, q_s6, q_s7, q_s8, q_s9, q_s10, q_s11, q_p0, q_p1, q_p2, q_p3, q_p4, q_p5, q_p6, q_p7, q_p8, q_p9, q_p10, q_p11, q_read, q_readO, q_gcd, q_onD, q_onDo, q_onI, q_onB, q_onSl, q_onSt, q_onSo, q_onL, q_onLo, q_onT, q_onM, q_datD, q_datO, q_intD, dInt_eq, dBool_eq, q_cons, q_mo, bnd_some, bnd_none, q_asg, q_par2, q_asgT, q_ret, q_expr, q_brk, q_raise, q_onx, q_ort, q_obk, q_ono, q_cmp, q_ar, q_and, q_or, q_ix, q_eq, q_ne, q_max2, q_kint, q_kg, q_kbl, q_knon, q_kdT, q_lt, q_le, q_gt, q_ge, q_test, q_testN, ifB_t, ifB_f, q_neg, q_one, q_not, q_isN, q_notN, q_len, q_abs, q_seq, q_rev, q_listOf, q_tupOf, q_isInst, q_tup, q_lst, q_call, q_chain, q_ite, q_max3, q_add, q_sub, q_mul, q_div, q_mod, q_at0, q_at1, q_d0, q_d1, q_d2, q_d1o, q_d2o, q_a1, q_a2, q_a3, q_a5, lenOk2, lenOk1, lenOk0, fI_eq, forceL_eq, g_onD, g_onI, g_onB, g_onS, g_onM, g_onO, g_test, g_bnd, g_cons1, g_cons2, g_out, q_outr, q_eqi, q_dTup, q_lst1, h1, h2, q_a4, q_nf, q_nt, e]
  · cases e; simp only [evS_seq, evS_skip, evS_prim, evS_ifs, evS_retv, evS_whl, evS_fr, evS_frz, q_P, evC_cons, evC_nil, evC_v, evC_k, evC_un, evC_bi, evC_tr, q_s0, q_s1, q_s2, q_s3, q_s4, q_s5, q_s6, q_s7, q_s8, q_s9, q_s10, q_s11, q_p0, q_p1, q_p2, q_p3, q_p4, q_p5, q_p6, q_p7, q_p8, q_p9, q_p10, q_p11, q_read, q_readO, q_gcd, q_onD, q_onDo, q_onI, q_onB, q_onSl, q_onSt, q_onSo, q_onL, q_onLo, q_onT, q_onM, q_datD, q_datO, q_intD, dInt_eq, dBool_eq, q_cons, q_mo, bnd_some, bnd_none, q_asg, q_par2, q_asgT, q_ret, q_expr, q_brk, q_raise, q_onx, q_ort, q_obk, q_ono, q_cmp, q_ar, q_and, q_or, q_ix, q_eq, q_ne, q_max2, q_kint, q_kg, q_kbl, q_knon, q_kdT, q_lt, q_le, q_gt, q_ge, q_test, q_testN, ifB_t, ifB_f, q_neg, q_one, q_not, q_isN, q_notN, q_len, q_abs, q_seq, q_rev, q_listOf, q_tupOf, q_isInst, q_tup, q_lst, q_call, q_chain, q_ite, q_max3, q_add, q_sub, q_mul, q_div, q_mod, q_at0, q_at1, q_d0, q_d1, q_d2, q_d1o, q_d2o, q_a1, q_a2, q_a3, q_a5, lenOk2, lenOk1, lenOk0, fI_eq, forceL_eq, g_onD, g_onI, g_onB, g_onS, g_onM, g_onO, g_test, g_bnd, g_cons1, g_cons2, g_out, q_outr, q_eqi, q_dTup, q_lst1, h1, h2, q_nf, q_nt]; rfl
  · cases e; simp only [evS_seq, evS_skip, evS_prim, evS_ifs, evS_retv, evS_whl, evS_fr, evS_frz, q_P, evC_cons, evC_nil, evC_v, evC_k, evC_un, evC_bi, evC_tr, q_s0, q_s1, q_s2, q_s3, q_s4, q_s5, q_s6, q_s7, q_s8, q_s9, q_s10, q_s11, q_p0, q_p1, q_p2, q_p3, q_p4, q_p5, q_p6, q_p7, q_p8, q_p9, q_p10, q_p11, q_read, q_readO, q_gcd, q_onD, q_onDo, q_onI, q_onB, q_onSl, q_onSt, q_onSo, q_onL, q_onLo, q_onT, q_onM, q_datD, q_datO, q_intD, dInt_eq, dBool_eq, q_cons, q_mo, bnd_some, bnd_none, q_asg, q_par2, q_asgT, q_ret, q_expr, q_brk, q_raise, q_onx, q_ort, q_obk, q_ono, q_cmp, q_ar, q_and, q_or, q_ix, q_eq, q_ne, q_max2, q_kint, q_kg, q_kbl, q_knon, q_kdT, q_lt, q_le, q_gt, q_ge, q_test, q_testN, ifB_t, ifB_f, q_neg, q_one, q_not, q_isN, q_notN, q_len, q_abs, q_seq, q_rev, q_listOf, q_tupOf, q_isInst, q_tup, q_lst, q_call, q_chain, q_ite, q_max3, q_add, q_sub, q_mul, q_div, q_mod, q_at0, q_at1, q_d0, q_d1, q_d2, q_d1o, q_d2o, q_a1, q_a2, q_a3, q_a5, lenOk2, lenOk1, lenOk0, fI_eq, forceL_eq, g_onD, g_onI, g_onB, g_onS, g_onM, g_onO, g_test, g_bnd, g_cons1, g_cons2, g_out, q_outr, q_eqi, q_dTup, q_lst1, h1, h2, q_nf, q_nt]; rfl
  · cases e
theorem tw_asked (F : FT) (W : Nat) {t n m near far p bd : PyData} {xs : List PyData} {z r : SV} (h1 : F 61 [.dat t] = some (.own xs)) (h2 : F 62 [.dat n] = some (.dat near)) (h3 : F 62 [.dat m] = some (.dat far)) (h4 : F 11 [.dat t] = some (.dat p)) (h5 : F 25 [.dat p] = some (.dat bd)) (h6 : F 64 [.dat bd] = some z)
    (h7 : F 72 [.dat (.list xs), .dat bd, .dat near, .dat far] = some r) : runD F W c_asked [.dat t, .dat n, .dat m] = some r := by
  rw [runD_go (ρ := [some (.dat t), some (.dat n), some (.dat m), none, none, none, none]) rfl rfl]
  unfold c_asked
  simp only [evS_seq, evS_skip, evS_prim, evS_ifs, evS_retv, evS_whl, evS_fr, evS_frz, q_P, evC_cons, evC_nil, evC_v, evC_k, evC_un, evC_bi, evC_tr, q_s0, q_s1, q_s2, q_s3, q_s4, q_s5, q_s6, q_s7, q_s8, q_s9, q_s10, q_s11, q_p0, q_p1, q_p2, q_p3, q_p4, q_p5, q_p6, q_p7, q_p8, q_p9, q_p10, q_p11, q_read, q_readO, q_gcd, q_onD, q_onDo, q_onI, q_onB, q_onSl, q_onSt, q_onSo, q_onL, q_onLo, q_onT, q_onM, q_datD, q_datO, q_intD, dInt_eq, dBool_eq, q_cons, q_mo, bnd_some, bnd_none, q_asg, q_par2, q_asgT, q_ret, q_expr, q_brk, q_raise, q_onx, q_ort, q_obk, q_ono, q_cmp, q_ar, q_and, q_or, q_ix, q_eq, q_ne, q_max2, q_kint, q_kg, q_kbl, q_knon, q_kdT, q_lt, q_le, q_gt, q_ge, q_test, q_testN, ifB_t, ifB_f, q_neg, q_one, q_not, q_isN, q_notN, q_len, q_abs, q_seq, q_rev, q_listOf, q_tupOf, q_isInst, q_tup, q_lst, q_call, q_chain, q_ite, q_max3, q_add, q_sub, q_mul, q_div, q_mod, q_at0, q_at1, q_d0, q_d1, q_d2, q_d1o, q_d2o, q_a1, q_a2, q_a3, q_a5, lenOk2, lenOk1, lenOk0, fI_eq, forceL_eq, g_onD, g_onI, g_onB, g_onS, g_onM, g_onO, g_test, g_bnd, g_cons1, g_cons2, g_out, q_outr, q_eqi, q_dTup, q_lst1, h1, h2, h3, h4, h5, h6, q_Z, fro, q_a4, h7]
theorem tw_come (F : FT) (W : Nat) {t n m x : PyData} {b : Bool} (h : F 73 [.dat t, .dat n, .dat m] = some (.dat (.tuple [.bool b, x]))) : runD F W c_comes_together [.dat t, .dat n, .dat m] = some (.dat (ifB b x .none)) := by
  rw [runD_go (ρ := [some (.dat t), some (.dat n), some (.dat m), none, none]) rfl rfl]
  unfold c_comes_together
  cases b <;> simp only [evS_seq, evS_skip, evS_prim, evS_ifs, evS_retv, evS_whl, evS_fr, evS_frz, q_P, evC_cons, evC_nil, evC_v, evC_k, evC_un, evC_bi, evC_tr, q_s0, q_s1, q_s2, q_s3, q_s4, q_s5, q_s6, q_s7, q_s8, q_s9, q_s10, q_s11, q_p0, q_p1, q_p2, q_p3, q_p4, q_p5, q_p6, q_p7, q_p8, q_p9, q_p10, q_p11, q_read, q_readO, q_gcd, q_onD, q_onDo, q_onI, q_onB, q_onSl, q_onSt, q_onSo, q_onL, q_onLo, q_onT, q_onM, q_datD, q_datO, q_intD, dInt_eq, dBool_eq, q_cons, q_mo, bnd_some, bnd_none, q_asg, q_par2, q_asgT, q_ret, q_expr, q_brk, q_raise, q_onx, q_ort, q_obk, q_ono, q_cmp, q_ar, q_and, q_or, q_ix, q_eq, q_ne, q_max2, q_kint, q_kg, q_kbl, q_knon, q_kdT, q_lt, q_le, q_gt, q_ge, q_test, q_testN, ifB_t, ifB_f, q_neg, q_one, q_not, q_isN, q_notN, q_len, q_abs, q_seq, q_rev, q_listOf, q_tupOf, q_isInst, q_tup, q_lst, q_call, q_chain, q_ite, q_max3, q_add, q_sub, q_mul, q_div, q_mod, q_at0, q_at1, q_d0, q_d1, q_d2, q_d1o, q_d2o, q_a1, q_a2, q_a3, q_a5, lenOk2, lenOk1, lenOk0, fI_eq, forceL_eq, g_onD, g_onI, g_onB, g_onS, g_onM, g_onO, g_test, g_bnd, g_cons1, g_cons2, g_out, q_outr, q_eqi, q_dTup, q_lst1, h]
/-! ### levels, shortcuts -/
theorem f_led (n : Nat) (ns : List Int) (h g : Int) (e : leC ns h = some g) : FF (n + 1) 63 [.dat (.list (il ns)), .dat (.int h)] = some (.dat (.int g)) := tw_led (FF n) 3000 e
theorem f_first (n : Nat) {ns : List Int} {bound s : Int} {p : List Int × Bool} (e : fnC ns bound s = some p) : FF (n + 2) 66 [.dat (.list (il ns)), .dat (.int bound), .dat (.int s)] = some (resF p) := tw_first (FF (n + 1)) (f_led n ns) e
theorem f_sides (n : Nat) (ns : List Int) (a m : Int) (r : Bool) (e : sidC ns a m = some r) : FF (n + 1) 67 [.dat (.list (il ns)), .dat (.int a), .dat (.int m)] = some (.dat (.bool r)) := tw_sides (FF n) 3000 e
theorem f_between (n : Nat) (a m f : Int) (r : Bool) (e : btwC a m f = some r) : FF (n + 1) 68 [.dat (.int a), .dat (.int m), .dat (.int f)] = some (.dat (.bool r)) := tw_between (FF n) 3000 e
theorem f_apart (n : Nat) (ns : List Int) (bound a m f : Int) (r : Bool) (e : aptC ns bound a m f = some r) : FF (n + 2) 69 [.dat (.list (il ns)), .dat (.int bound), .dat (.int a), .dat (.int m), .dat (.int f)] = some (.dat (.bool r)) :=
  tw_apart (FF (n + 1)) 3000 (f_sides n ns) (f_between n) e
theorem f_met (n : Nat) {ns : List Int} {bound st : Int} (hS : FF (n + 2) 65 [.dat (.list (il ns))] = some (.dat (.int st))) {near far : List Int} {r : SV} (e : moC ns bound st near far = some r) : FF (n + 3) 71 [.dat (.list (il ns)), .dat (.int bound), .dat (.list (il near)), .dat (.list (il far))] = some r :=
  tw_met (FF (n + 2)) (f_led (n + 1) ns) (f_apart n ns bound) hS e
noncomputable def sLed : Sc := fun _ as => g2 as fun a b => gIs a fun ns => gI b fun h => bnd (leC ns h) fun g => some (.dat (.int g))
noncomputable def sFirst : Sc := fun _ as => g3 as fun a b c => gIs a fun ns => gI b fun bd => gI c fun s => bnd (fnC ns bd s) fun p => some (resF p)
noncomputable def sMet : Sc := fun G as => g4 as fun a b c d => gIs a fun ns => gI b fun bd => gIs c fun near => gIs d fun far => bnd (G 65 [.dat a]) fun z => bnd (dSV z) fun y => gI y fun st => moC ns bd st near far
noncomputable def sMeet : Sc := fun G as => g4 as fun nu bd one other => bnd (G 66 [.dat nu, .dat bd, .dat one]) fun z => bnd (dSV z) fun d => gXB d fun near b1 => bnd (G 66 [.dat nu, .dat bd, .dat other]) fun z2 => bnd (dSV z2) fun d2 => gXB d2 fun far b2 =>
  ifB b1 (ifB b2 none (some resN)) (ifB b2 (some resN) (G 71 [.dat nu, .dat bd, .dat near, .dat far]))
noncomputable def sAsked : Sc := fun G as => g3 as fun t n m => bnd (G 61 [.dat t]) fun z => bnd (ownOf z) fun xs => bnd (G 62 [.dat n]) fun z2 => bnd (dSV z2) fun near => bnd (G 62 [.dat m]) fun z3 => bnd (dSV z3) fun far => bnd (G 11 [.dat t]) fun z4 => bnd (dSV z4) fun p =>
  bnd (G 25 [.dat p]) fun z5 => bnd (dSV z5) fun bd => bnd (G 64 [.dat bd]) fun _ => G 72 [.dat (.list xs), .dat bd, .dat near, .dat far]
noncomputable def sCome : Sc := fun G as => g3 as fun t n m => bnd (G 73 [.dat t, .dat n, .dat m]) fun z => bnd (dSV z) fun d => gBX d fun b x => some (.dat (ifB b x .none))
theorem sLed_ok : ScOk2 63 sLed := fun n as r h => by
  obtain ⟨a, b, rfl, h1⟩ := g2_some h
  obtain ⟨ns, rfl, h2⟩ := gIs_some h1
  obtain ⟨x, rfl, h3⟩ := gI_some h2
  obtain ⟨g, e, h4⟩ := bnd_inv h3
  cases h4
  exact f_led (n + 4) ns x g e
theorem sFirst_ok : ScOk2 66 sFirst := fun n as r h => by
  obtain ⟨a, b, c, rfl, h1⟩ := g3_some h
  obtain ⟨ns, rfl, h2⟩ := gIs_some h1
  obtain ⟨bd, rfl, h3⟩ := gI_some h2
  obtain ⟨s, rfl, h4⟩ := gI_some h3
  obtain ⟨p, e, h5⟩ := bnd_inv h4
  cases h5
  exact f_first (n + 3) e
theorem sMet_ok : ScOk2 71 sMet := fun n as r h => by
  obtain ⟨a, b, c, d, rfl, h1⟩ := g4_some h
  obtain ⟨ns, rfl, h2⟩ := gIs_some h1
  obtain ⟨bd, rfl, h3⟩ := gI_some h2
  obtain ⟨near, rfl, h4⟩ := gIs_some h3
  obtain ⟨far, rfl, h5⟩ := gIs_some h4
  obtain ⟨z, e1, h6⟩ := bnd_inv h5
  obtain ⟨y, e2, h7⟩ := bnd_inv h6
  obtain ⟨st, rfl, h8⟩ := gI_some h7
  rw [dSV_some e2] at e1
  exact f_met (n + 2) e1 h8
theorem sMeet_ok : ScOk2 72 sMeet := fun n as r h => by
  obtain ⟨nu, bd, one, other, rfl, h1⟩ := g4_some h
  obtain ⟨z, e1, h2⟩ := bnd_inv h1
  obtain ⟨d, e2, h3⟩ := bnd_inv h2
  obtain ⟨near, b1, rfl, h4⟩ := gXB_some h3
  obtain ⟨z2, e3, h5⟩ := bnd_inv h4
  obtain ⟨d2, e4, h6⟩ := bnd_inv h5
  obtain ⟨far, b2, rfl, h7⟩ := gXB_some h6
  rw [dSV_some e2] at e1
  rw [dSV_some e4] at e3
  exact tw_meet (FF (n + 4)) 3000 e1 e3 h7
theorem sAsked_ok : ScOk2 73 sAsked := fun n as r h => by
  obtain ⟨t, u, m, rfl, h1⟩ := g3_some h
  obtain ⟨z, e1, h2⟩ := bnd_inv h1
  obtain ⟨xs, e2, h3⟩ := bnd_inv h2
  obtain ⟨z2, e3, h4⟩ := bnd_inv h3
  obtain ⟨near, e4, h5⟩ := bnd_inv h4
  obtain ⟨z3, e5, h6⟩ := bnd_inv h5
  obtain ⟨far, e6, h7⟩ := bnd_inv h6
  obtain ⟨z4, e7, h8⟩ := bnd_inv h7
  obtain ⟨p, e8, h9⟩ := bnd_inv h8
  obtain ⟨z5, e9, h10⟩ := bnd_inv h9
  obtain ⟨bd, e10, h11⟩ := bnd_inv h10
  obtain ⟨z6, e11, h12⟩ := bnd_inv h11
  rw [dSV_some e4] at e3
  rw [dSV_some e6] at e5
  rw [dSV_some e8] at e7
  rw [dSV_some e10] at e9
  have e2 : z = .own xs := by cases z <;> cases e2; rfl
  rw [e2] at e1
  exact tw_asked (FF (n + 4)) 3000 e1 e3 e5 e7 e9 e11 h12
theorem sCome_ok : ScOk2 74 sCome := fun n as r h => by
  obtain ⟨t, u, m, rfl, h1⟩ := g3_some h
  obtain ⟨z, e1, h2⟩ := bnd_inv h1
  obtain ⟨d, e2, h3⟩ := bnd_inv h2
  obtain ⟨b, x, rfl, h4⟩ := gBX_some h3
  cases h4
  rw [dSV_some e2] at e1
  exact tw_come (FF (n + 4)) 3000 e1
/-- the shortcut of a def -/
noncomputable def S3 (f : Nat) : Option Sc := at_ f 63 sLed (at_ f 66 sFirst (at_ f 71 sMet (at_ f 72 sMeet (at_ f 73 sAsked (at_ f 74 sCome (S2 f))))))
theorem S3_ok (f : Nat) : ∀ z, S3 f = some z → ScOk2 f z := at_ok sLed_ok (at_ok sFirst_ok (at_ok sMet_ok (at_ok sMeet_ok (at_ok sAsked_ok (at_ok sCome_ok (S2_ok f))))))
end SW.X
set_option Elab.async false
set_option linter.all false
set_option maxRecDepth 100000
set_option maxHeartbeats 1000000
/-! Twa: small ones. -/
namespace SW.X
open PySem
theorem tw_need (F : FT) (W : Nat) {d : PyData} (h : F 2 [.dat d] = some (.dat (.bool true))) : runD F W c_need_step [.dat d] = some (.dat d) := by
  rw [runD_go (ρ := [some (.dat d)]) rfl rfl]
  unfold c_need_step
  simp only [evS_seq, evS_skip, evS_prim, evS_ifs, evS_retv, evS_whl, evS_fr, evS_frz, q_P, evC_cons, evC_nil, evC_v, evC_k, evC_un, evC_bi, evC_tr, q_s0, q_s1, q_s2, q_s3, q_s4, q_s5, q_s6, q_s7, q_s8, q_s9, q_s10, q_s11, q_p0, q_p1, q_p2, q_p3, q_p4, q_p5, q_p6, q_p7, q_p8, q_p9, q_p10, q_p11, q_read, q_readO, q_gcd, q_onD, q_onDo, q_onI, q_onB, q_onSl, q_onSt, q_onSo, q_onL, q_onLo, q_onT, q_onM, q_datD, q_datO, q_intD, dInt_eq, dBool_eq, q_cons, q_mo, bnd_some, bnd_none, q_asg, q_par2, q_asgT, q_ret, q_expr, q_brk, q_raise, q_onx, q_ort, q_obk, q_ono, q_cmp, q_ar, q_and, q_or, q_ix, q_eq, q_ne, q_max2, q_kint, q_kg, q_kbl, q_knon, q_kdT, q_lt, q_le, q_gt, q_ge, q_test, q_testN, ifB_t, ifB_f, q_neg, q_one, q_not, q_isN, q_notN, q_len, q_abs, q_seq, q_rev, q_listOf, q_tupOf, q_isInst, q_tup, q_lst, q_call, q_chain, q_ite, q_max3, q_add, q_sub, q_mul, q_div, q_mod, q_at0, q_at1, q_d0, q_d1, q_d2, q_d1o, q_d2o, q_a1, q_a2, q_a3, q_a5, lenOk2, lenOk1, lenOk0, fI_eq, forceL_eq, g_onD, g_onI, g_onB, g_onS, g_onM, g_onO, g_test, g_bnd, g_cons1, g_cons2, g_out, q_outr, q_eqi, q_dTup, q_lst1, h, q_nt, q_retv]
theorem tw_neednum (F : FT) (W : Nat) {d : PyData} (h : F 1 [.dat d] = some (.dat (.bool true))) : runD F W c_need_number [.dat d] = some (.dat d) := by
  rw [runD_go (ρ := [some (.dat d)]) rfl rfl]
  unfold c_need_number
  simp only [evS_seq, evS_skip, evS_prim, evS_ifs, evS_retv, evS_whl, evS_fr, evS_frz, q_P, evC_cons, evC_nil, evC_v, evC_k, evC_un, evC_bi, evC_tr, q_s0, q_s1, q_s2, q_s3, q_s4, q_s5, q_s6, q_s7, q_s8, q_s9, q_s10, q_s11, q_p0, q_p1, q_p2, q_p3, q_p4, q_p5, q_p6, q_p7, q_p8, q_p9, q_p10, q_p11, q_read, q_readO, q_gcd, q_onD, q_onDo, q_onI, q_onB, q_onSl, q_onSt, q_onSo, q_onL, q_onLo, q_onT, q_onM, q_datD, q_datO, q_intD, dInt_eq, dBool_eq, q_cons, q_mo, bnd_some, bnd_none, q_asg, q_par2, q_asgT, q_ret, q_expr, q_brk, q_raise, q_onx, q_ort, q_obk, q_ono, q_cmp, q_ar, q_and, q_or, q_ix, q_eq, q_ne, q_max2, q_kint, q_kg, q_kbl, q_knon, q_kdT, q_lt, q_le, q_gt, q_ge, q_test, q_testN, ifB_t, ifB_f, q_neg, q_one, q_not, q_isN, q_notN, q_len, q_abs, q_seq, q_rev, q_listOf, q_tupOf, q_isInst, q_tup, q_lst, q_call, q_chain, q_ite, q_max3, q_add, q_sub, q_mul, q_div, q_mod, q_at0, q_at1, q_d0, q_d1, q_d2, q_d1o, q_d2o, q_a1, q_a2, q_a3, q_a5, lenOk2, lenOk1, lenOk0, fI_eq, forceL_eq, g_onD, g_onI, g_onB, g_onS, g_onM, g_onO, g_test, g_bnd, g_cons1, g_cons2, g_out, q_outr, q_eqi, q_dTup, q_lst1, h, q_nt, q_retv]
noncomputable def ntC (a b c d : Int) : Option SV := mulC a c fun x => mulC b d fun y => numC x y mkP
noncomputable def nlC (a b c d : Int) : Option SV := mulC a d fun x => mulC c b fun y => fI (Int.sub x y) fun s => mulC b d fun m => numC s m mkP
theorem tw_ntimes (F : FT) (W : Nat) (hN : ∀ a b, F 6 [.dat (.int a), .dat (.int b)] = numC a b mkP) {a b c d : Int} {r : SV} (h : ntC a b c d = some r) : runD F W c_number_times [.dat (.tuple [.int a, .int b]), .dat (.tuple [.int c, .int d])] = some r := by
  rw [runD_go (ρ := [some (.dat (.tuple [.int a, .int b])), some (.dat (.tuple [.int c, .int d]))]) rfl rfl]
  obtain ⟨m1, h⟩ := mulC_some h
  obtain ⟨m2, h⟩ := mulC_some h
  unfold c_number_times
  simp only [evS_seq, evS_skip, evS_prim, evS_ifs, evS_retv, evS_whl, evS_fr, evS_frz, q_P, evC_cons, evC_nil, evC_v, evC_k, evC_un, evC_bi, evC_tr, q_s0, q_s1, q_s2, q_s3, q_s4, q_s5, q_s6, q_s7, q_s8, q_s9, q_s10, q_s11, q_p0, q_p1, q_p2, q_p3, q_p4, q_p5, q_p6, q_p7, q_p8, q_p9, q_p10, q_p11, q_read, q_readO, q_gcd, q_onD, q_onDo, q_onI, q_onB, q_onSl, q_onSt, q_onSo, q_onL, q_onLo, q_onT, q_onM, q_datD, q_datO, q_intD, dInt_eq, dBool_eq, q_cons, q_mo, bnd_some, bnd_none, q_asg, q_par2, q_asgT, q_ret, q_expr, q_brk, q_raise, q_onx, q_ort, q_obk, q_ono, q_cmp, q_ar, q_and, q_or, q_ix, q_eq, q_ne, q_max2, q_kint, q_kg, q_kbl, q_knon, q_kdT, q_lt, q_le, q_gt, q_ge, q_test, q_testN, ifB_t, ifB_f, q_neg, q_one, q_not, q_isN, q_notN, q_len, q_abs, q_seq, q_rev, q_listOf, q_tupOf, q_isInst, q_tup, q_lst, q_call, q_chain, q_ite, q_max3, q_add, q_sub, q_mul, q_div, q_mod, q_at0, q_at1, q_d0, q_d1, q_d2, q_d1o, q_d2o, q_a1, q_a2, q_a3, q_a5, lenOk2, lenOk1, lenOk0, fI_eq, forceL_eq, g_onD, g_onI, g_onB, g_onS, g_onM, g_onO, g_test, g_bnd, g_cons1, g_cons2, g_out, q_outr, q_eqi, q_dTup, q_lst1, m1, m2, hN, h]
theorem tw_nless (F : FT) (W : Nat) (hN : ∀ a b, F 6 [.dat (.int a), .dat (.int b)] = numC a b mkP) {a b c d : Int} {r : SV} (h : nlC a b c d = some r) : runD F W c_number_less [.dat (.tuple [.int a, .int b]), .dat (.tuple [.int c, .int d])] = some r := by
  rw [runD_go (ρ := [some (.dat (.tuple [.int a, .int b])), some (.dat (.tuple [.int c, .int d]))]) rfl rfl]
  obtain ⟨m1, h⟩ := mulC_some h
  obtain ⟨m2, h⟩ := mulC_some h
  rw [fI_eq] at h
  obtain ⟨m3, h⟩ := mulC_some h
  unfold c_number_less
  simp only [evS_seq, evS_skip, evS_prim, evS_ifs, evS_retv, evS_whl, evS_fr, evS_frz, q_P, evC_cons, evC_nil, evC_v, evC_k, evC_un, evC_bi, evC_tr, q_s0, q_s1, q_s2, q_s3, q_s4, q_s5, q_s6, q_s7, q_s8, q_s9, q_s10, q_s11, q_p0, q_p1, q_p2, q_p3, q_p4, q_p5, q_p6, q_p7, q_p8, q_p9, q_p10, q_p11, q_read, q_readO, q_gcd, q_onD, q_onDo, q_onI, q_onB, q_onSl, q_onSt, q_onSo, q_onL, q_onLo, q_onT, q_onM, q_datD, q_datO, q_intD, dInt_eq, dBool_eq, q_cons, q_mo, bnd_some, bnd_none, q_asg, q_par2, q_asgT, q_ret, q_expr, q_brk, q_raise, q_onx, q_ort, q_obk, q_ono, q_cmp, q_ar, q_and, q_or, q_ix, q_eq, q_ne, q_max2, q_kint, q_kg, q_kbl, q_knon, q_kdT, q_lt, q_le, q_gt, q_ge, q_test, q_testN, ifB_t, ifB_f, q_neg, q_one, q_not, q_isN, q_notN, q_len, q_abs, q_seq, q_rev, q_listOf, q_tupOf, q_isInst, q_tup, q_lst, q_call, q_chain, q_ite, q_max3, q_add, q_sub, q_mul, q_div, q_mod, q_at0, q_at1, q_d0, q_d1, q_d2, q_d1o, q_d2o, q_a1, q_a2, q_a3, q_a5, lenOk2, lenOk1, lenOk0, fI_eq, forceL_eq, g_onD, g_onI, g_onB, g_onS, g_onM, g_onO, g_test, g_bnd, g_cons1, g_cons2, g_out, q_outr, q_eqi, q_dTup, q_lst1, m1, m2, m3, hN, h]
/-! need_row -/
noncomputable def allC1 (ds : List PyData) : Bool := List.rec (motive := fun _ => Bool) true (fun d _ ih => Option.rec (motive := fun _ => Bool) false (fun ps => ifB (isC ps) ih false) (bnd (tupOf d) prs)) ds
theorem allC1_cons {d : PyData} {r : List PyData} (h : allC1 (d :: r) = true) : (∃ ps, d = .tuple (pl ps) ∧ isC ps = true) ∧ allC1 r = true := by
  have h : Option.rec (motive := fun _ => Bool) false (fun ps => ifB (isC ps) (allC1 r) false) (bnd (tupOf d) prs) = true := h
  cases e : bnd (tupOf d) prs with
  | none => rw [e] at h; cases h
  | some ps =>
    rw [e] at h
    obtain ⟨xs, e1, e2⟩ := bnd_inv e
    obtain ⟨h1, h2⟩ := ifB_and (a := isC ps) (b := allC1 r) h
    exact ⟨⟨ps, by rw [tupOf_some e1, prs_map e2], h1⟩, h2⟩
def nbody : S := (.seq (.ifs (.un .not (.un (.call 2) (.cons (.v 2) .nil))) (.seq (.prim .raise .nil)
      .skip) .skip)
      .skip)
theorem n_loop (F : FT) (W : Nat) (hS : ∀ ps, isC ps = true → F 2 [.dat (.tuple (pl ps))] = some (.dat (.bool true))) (a : Option SV) : ∀ (ds : List PyData) (n : Nat) (o1 o2 : Option SV), allC1 ds = true → ∃ p1 p2, loopF (frB (.pair (.name 1) (.name 2)) (evS F W nbody)) (enumL n ds) [a, o1, o2] = some (.nx [a, p1, p2])
  | [], n, o1, o2, h => ⟨o1, o2, rfl⟩
  | d :: ds, n, o1, o2, h => by
    obtain ⟨⟨ps, e, h1⟩, h2⟩ := allC1_cons h
    obtain ⟨p1, p2, c⟩ := n_loop F W hS a ds (n + 1) (some (.dat (.int (.ofNat n)))) (some (.dat d)) h2
    refine ⟨p1, p2, ?_⟩
    have h3 := hS ps h1
    show onO (frB _ _ (.tuple [.int (.ofNat n), d]) _) (loopF _ (enumL (n + 1) ds)) _ = _
    rw [q_frP, ← c]
    subst e
    unfold nbody
    simp only [evS_seq, evS_skip, evS_prim, evS_ifs, evS_retv, evS_whl, evS_fr, evS_frz, q_P, evC_cons, evC_nil, evC_v, evC_k, evC_un, evC_bi, evC_tr, q_s0, q_s1, q_s2, q_s3, q_s4, q_s5, q_s6, q_s7, q_s8, q_s9, q_s10, q_s11, q_p0, q_p1, q_p2, q_p3, q_p4, q_p5, q_p6, q_p7, q_p8, q_p9, q_p10, q_p11, q_read, q_readO, q_gcd, q_onD, q_onDo, q_onI, q_onB, q_onSl, q_onSt, q_onSo, q_onL, q_onLo, q_onT, q_onM, q_datD, q_datO, q_intD, dInt_eq, dBool_eq, q_cons, q_mo, bnd_some, bnd_none, q_asg, q_par2, q_asgT, q_ret, q_expr, q_brk, q_raise, q_onx, q_ort, q_obk, q_ono, q_cmp, q_ar, q_and, q_or, q_ix, q_eq, q_ne, q_max2, q_kint, q_kg, q_kbl, q_knon, q_kdT, q_lt, q_le, q_gt, q_ge, q_test, q_testN, ifB_t, ifB_f, q_neg, q_one, q_not, q_isN, q_notN, q_len, q_abs, q_seq, q_rev, q_listOf, q_tupOf, q_isInst, q_tup, q_lst, q_call, q_chain, q_ite, q_max3, q_add, q_sub, q_mul, q_div, q_mod, q_at0, q_at1, q_d0, q_d1, q_d2, q_d1o, q_d2o, q_a1, q_a2, q_a3, q_a5, lenOk2, lenOk1, lenOk0, fI_eq, forceL_eq, g_onD, g_onI, g_onB, g_onS, g_onM, g_onO, g_test, g_bnd, g_cons1, g_cons2, g_out, q_outr, q_eqi, q_dTup, q_lst1, h3, q_nt]
noncomputable def rowB (ds : List PyData) : Bool := ifB (leI 1 (.ofNat (lng ds))) (ifB (leI (.ofNat (lng ds)) 8) (allC1 ds) false) false
theorem tw_row (F : FT) (W : Nat) (hS : ∀ ps, isC ps = true → F 2 [.dat (.tuple (pl ps))] = some (.dat (.bool true))) {ds : List PyData} (h : rowB ds = true) : runD F W c_need_row [.dat (.tuple ds)] = some (.dat (.tuple ds)) := by
  rw [runD_go (ρ := [some (.dat (.tuple ds)), none, none]) rfl rfl]
  obtain ⟨h1, h⟩ := ifB_and h
  obtain ⟨h2, h⟩ := ifB_and h
  obtain ⟨p1, p2, c⟩ := n_loop F W hS (some (.dat (.tuple ds))) ds 0 none none h
  unfold c_need_row
  simp only [evS_seq, evS_skip, evS_prim, evS_ifs, evS_retv, evS_whl, evS_fr, evS_frz, q_P, evC_cons, evC_nil, evC_v, evC_k, evC_un, evC_bi, evC_tr, q_s0, q_s1, q_s2, q_s3, q_s4, q_s5, q_s6, q_s7, q_s8, q_s9, q_s10, q_s11, q_p0, q_p1, q_p2, q_p3, q_p4, q_p5, q_p6, q_p7, q_p8, q_p9, q_p10, q_p11, q_read, q_readO, q_gcd, q_onD, q_onDo, q_onI, q_onB, q_onSl, q_onSt, q_onSo, q_onL, q_onLo, q_onT, q_onM, q_datD, q_datO, q_intD, dInt_eq, dBool_eq, q_cons, q_mo, bnd_some, bnd_none, q_asg, q_par2, q_asgT, q_ret, q_expr, q_brk, q_raise, q_onx, q_ort, q_obk, q_ono, q_cmp, q_ar, q_and, q_or, q_ix, q_eq, q_ne, q_max2, q_kint, q_kg, q_kbl, q_knon, q_kdT, q_lt, q_le, q_gt, q_ge, q_test, q_testN, ifB_t, ifB_f, q_neg, q_one, q_not, q_isN, q_notN, q_len, q_abs, q_seq, q_rev, q_listOf, q_tupOf, q_isInst, q_tup, q_lst, q_call, q_chain, q_ite, q_max3, q_add, q_sub, q_mul, q_div, q_mod, q_at0, q_at1, q_d0, q_d1, q_d2, q_d1o, q_d2o, q_a1, q_a2, q_a3, q_a5, lenOk2, lenOk1, lenOk0, fI_eq, forceL_eq, g_onD, g_onI, g_onB, g_onS, g_onM, g_onO, g_test, g_bnd, g_cons1, g_cons2, g_out, q_outr, q_eqi, q_dTup, q_lst1, q_ty3, q_nt, q_nf, h1, h2, q_fr, q_enum]
  show outR (onO (loopF (frB (.pair (.name 1) (.name 2)) (evS F W nbody)) _ _) _ _) = _
  rw [c]
  simp only [evS_seq, evS_skip, evS_prim, evS_ifs, evS_retv, evS_whl, evS_fr, evS_frz, q_P, evC_cons, evC_nil, evC_v, evC_k, evC_un, evC_bi, evC_tr, q_s0, q_s1, q_s2, q_s3, q_s4, q_s5, q_s6, q_s7, q_s8, q_s9, q_s10, q_s11, q_p0, q_p1, q_p2, q_p3, q_p4, q_p5, q_p6, q_p7, q_p8, q_p9, q_p10, q_p11, q_read, q_readO, q_gcd, q_onD, q_onDo, q_onI, q_onB, q_onSl, q_onSt, q_onSo, q_onL, q_onLo, q_onT, q_onM, q_datD, q_datO, q_intD, dInt_eq, dBool_eq, q_cons, q_mo, bnd_some, bnd_none, q_asg, q_par2, q_asgT, q_ret, q_expr, q_brk, q_raise, q_onx, q_ort, q_obk, q_ono, q_cmp, q_ar, q_and, q_or, q_ix, q_eq, q_ne, q_max2, q_kint, q_kg, q_kbl, q_knon, q_kdT, q_lt, q_le, q_gt, q_ge, q_test, q_testN, ifB_t, ifB_f, q_neg, q_one, q_not, q_isN, q_notN, q_len, q_abs, q_seq, q_rev, q_listOf, q_tupOf, q_isInst, q_tup, q_lst, q_call, q_chain, q_ite, q_max3, q_add, q_sub, q_mul, q_div, q_mod, q_at0, q_at1, q_d0, q_d1, q_d2, q_d1o, q_d2o, q_a1, q_a2, q_a3, q_a5, lenOk2, lenOk1, lenOk0, fI_eq, forceL_eq, g_onD, g_onI, g_onB, g_onS, g_onM, g_onO, g_test, g_bnd, g_cons1, g_cons2, g_out, q_outr, q_eqi, q_dTup, q_lst1, q_retv]
/-! as_step -/
noncomputable def asGo (b : Int) (ns : List Int) : Option (List PI) := List.rec (motive := fun _ => Option (List PI)) (some []) (fun x _ ih => numC x b fun u v => bnd ih fun r => some ((u, v) :: r)) ns
def cAs : C := .un (.call 6) (.cons (.v 1) (.cons (.bi .ix (.v 0) (.k (.int 1))) .nil))
theorem as_go (F : FT) (hN : ∀ a b, F 6 [.dat (.int a), .dat (.int b)] = numC a b mkP) (d : PyData) (b : Int) (o : Option SV) : ∀ (ns : List Int) (ps : List PI), asGo b ns = some ps → compGo (compTurn (.name 1) [some (.dat (.tuple [d, .int b])), o] (evC F .nil) (evC F cAs)) (il ns) = some (pl ps)
  | [], ps, h => by cases h; rfl
  | x :: ns, ps, h => by
    have h : (numC x b fun u v => bnd (asGo b ns) fun r => some ((u, v) :: r)) = some ps := h
    rcases numC_cases x b with z | ⟨u, v, z⟩
    · rw [z] at h; cases h
    rw [z] at h
    obtain ⟨l, e, h⟩ := bnd_inv h
    cases h
    have ih := as_go F hN d b o ns l e
    have t : compTurn (.name 1) [some (.dat (.tuple [d, .int b])), o] (evC F .nil) (evC F cAs) (.int x) = some (some (.tuple [.int u, .int v])) := by
      unfold compTurn cAs
      rw [q_bind]
      simp only [evS_seq, evS_skip, evS_prim, evS_ifs, evS_retv, evS_whl, evS_fr, evS_frz, q_P, evC_cons, evC_nil, evC_v, evC_k, evC_un, evC_bi, evC_tr, q_s0, q_s1, q_s2, q_s3, q_s4, q_s5, q_s6, q_s7, q_s8, q_s9, q_s10, q_s11, q_p0, q_p1, q_p2, q_p3, q_p4, q_p5, q_p6, q_p7, q_p8, q_p9, q_p10, q_p11, q_read, q_readO, q_gcd, q_onD, q_onDo, q_onI, q_onB, q_onSl, q_onSt, q_onSo, q_onL, q_onLo, q_onT, q_onM, q_datD, q_datO, q_intD, dInt_eq, dBool_eq, q_cons, q_mo, bnd_some, bnd_none, q_asg, q_par2, q_asgT, q_ret, q_expr, q_brk, q_raise, q_onx, q_ort, q_obk, q_ono, q_cmp, q_ar, q_and, q_or, q_ix, q_eq, q_ne, q_max2, q_kint, q_kg, q_kbl, q_knon, q_kdT, q_lt, q_le, q_gt, q_ge, q_test, q_testN, ifB_t, ifB_f, q_neg, q_one, q_not, q_isN, q_notN, q_len, q_abs, q_seq, q_rev, q_listOf, q_tupOf, q_isInst, q_tup, q_lst, q_call, q_chain, q_ite, q_max3, q_add, q_sub, q_mul, q_div, q_mod, q_at0, q_at1, q_d0, q_d1, q_d2, q_d1o, q_d2o, q_a1, q_a2, q_a3, q_a5, lenOk2, lenOk1, lenOk0, fI_eq, forceL_eq, g_onD, g_onI, g_onB, g_onS, g_onM, g_onO, g_test, g_bnd, g_cons1, g_cons2, g_out, q_outr, q_eqi, q_dTup, q_lst1, hN, z, mkP, prI]
      rfl
    have g1 : compGo (compTurn (.name 1) [some (.dat (.tuple [d, .int b])), o] (evC F .nil) (evC F cAs)) (il (x :: ns)) = match compTurn (.name 1) [some (.dat (.tuple [d, .int b])), o] (evC F .nil) (evC F cAs) (.int x) with
      | none => none
      | some o1 => match compGo (compTurn (.name 1) [some (.dat (.tuple [d, .int b])), o] (evC F .nil) (evC F cAs)) (il ns) with
        | none => none
        | some r => match o1 with
          | none => some r
          | some y => some (y :: r) := rfl
    rw [g1, t, ih]
    rfl
theorem lenOk_pl (ps : List PI) : lenOk (pl ps) = lenOk ps := by unfold lenOk; rw [lng_pl]
theorem tw_asstep (F : FT) (W : Nat) (hN : ∀ a b, F 6 [.dat (.int a), .dat (.int b)] = numC a b mkP) {ns : List Int} {b : Int} {ps : List PI} (h : asGo b ns = some ps) (hl : lenOk ps = true) : runD F W c_as_step [.dat (.tuple [.list (il ns), .int b])] = some (.dat (.tuple (pl ps))) := by
  rw [runD_go (ρ := [some (.dat (.tuple [.list (il ns), .int b])), none]) rfl rfl]
  have c := as_go F hN (.list (il ns)) b none ns ps h
  unfold c_as_step
  simp only [evS_seq, evS_skip, evS_prim, evS_ifs, evS_retv, evS_whl, evS_fr, evS_frz, q_P, evC_cons, evC_nil, evC_v, evC_k, evC_un, evC_bi, evC_tr, q_s0, q_s1, q_s2, q_s3, q_s4, q_s5, q_s6, q_s7, q_s8, q_s9, q_s10, q_s11, q_p0, q_p1, q_p2, q_p3, q_p4, q_p5, q_p6, q_p7, q_p8, q_p9, q_p10, q_p11, q_read, q_readO, q_gcd, q_onD, q_onDo, q_onI, q_onB, q_onSl, q_onSt, q_onSo, q_onL, q_onLo, q_onT, q_onM, q_datD, q_datO, q_intD, dInt_eq, dBool_eq, q_cons, q_mo, bnd_some, bnd_none, q_asg, q_par2, q_asgT, q_ret, q_expr, q_brk, q_raise, q_onx, q_ort, q_obk, q_ono, q_cmp, q_ar, q_and, q_or, q_ix, q_eq, q_ne, q_max2, q_kint, q_kg, q_kbl, q_knon, q_kdT, q_lt, q_le, q_gt, q_ge, q_test, q_testN, ifB_t, ifB_f, q_neg, q_one, q_not, q_isN, q_notN, q_len, q_abs, q_seq, q_rev, q_listOf, q_tupOf, q_isInst, q_tup, q_lst, q_call, q_chain, q_ite, q_max3, q_add, q_sub, q_mul, q_div, q_mod, q_at0, q_at1, q_d0, q_d1, q_d2, q_d1o, q_d2o, q_a1, q_a2, q_a3, q_a5, lenOk2, lenOk1, lenOk0, fI_eq, forceL_eq, g_onD, g_onI, g_onB, g_onS, g_onM, g_onO, g_test, g_bnd, g_cons1, g_cons2, g_out, q_outr, q_eqi, q_dTup, q_lst1, evC_comp, q_comp, q_wipe1]
  show outR (onO (bnd (bnd (opCons (onS (compR (compGo (compTurn (.name 1) _ (evC F .nil) (evC F cAs)) _)) _) _) _) _) _ _) = _
  rw [c]
  unfold compR
  simp only [lenOk_pl, hl, evS_seq, evS_skip, evS_prim, evS_ifs, evS_retv, evS_whl, evS_fr, evS_frz, q_P, evC_cons, evC_nil, evC_v, evC_k, evC_un, evC_bi, evC_tr, q_s0, q_s1, q_s2, q_s3, q_s4, q_s5, q_s6, q_s7, q_s8, q_s9, q_s10, q_s11, q_p0, q_p1, q_p2, q_p3, q_p4, q_p5, q_p6, q_p7, q_p8, q_p9, q_p10, q_p11, q_read, q_readO, q_gcd, q_onD, q_onDo, q_onI, q_onB, q_onSl, q_onSt, q_onSo, q_onL, q_onLo, q_onT, q_onM, q_datD, q_datO, q_intD, dInt_eq, dBool_eq, q_cons, q_mo, bnd_some, bnd_none, q_asg, q_par2, q_asgT, q_ret, q_expr, q_brk, q_raise, q_onx, q_ort, q_obk, q_ono, q_cmp, q_ar, q_and, q_or, q_ix, q_eq, q_ne, q_max2, q_kint, q_kg, q_kbl, q_knon, q_kdT, q_lt, q_le, q_gt, q_ge, q_test, q_testN, ifB_t, ifB_f, q_neg, q_one, q_not, q_isN, q_notN, q_len, q_abs, q_seq, q_rev, q_listOf, q_tupOf, q_isInst, q_tup, q_lst, q_call, q_chain, q_ite, q_max3, q_add, q_sub, q_mul, q_div, q_mod, q_at0, q_at1, q_d0, q_d1, q_d2, q_d1o, q_d2o, q_a1, q_a2, q_a3, q_a5, lenOk2, lenOk1, lenOk0, fI_eq, forceL_eq, g_onD, g_onI, g_onB, g_onS, g_onM, g_onO, g_test, g_bnd, g_cons1, g_cons2, g_out, q_outr, q_eqi, q_dTup, q_lst1]
/-! product_of, whole_of -/
noncomputable def prC (ds : List PyData) : Int → Option Int := List.rec (motive := fun _ => Int → Option Int) (fun f => some f) (fun d _ ih f => bnd (tupOf d) fun xs => fI (Int.sub (.ofNat (lng xs)) 1) fun j => mulC f j ih) ds
def prbody : S := (.seq (.prim (.asg 1) (.cons (.bi (.ar .mul) (.v 1) (.bi (.ar .sub) (.un .len (.v 2)) (.k (.int 1)))) .nil))
      .skip)
theorem pr_loop (F : FT) (W : Nat) (a : Option SV) : ∀ (ds : List PyData) (f g : Int) (o : Option SV), prC ds f = some g → ∃ p2, loopF (frB (.name 2) (evS F W prbody)) ds [a, some (.dat (.int f)), o] = some (.nx [a, some (.dat (.int g)), p2])
  | [], f, g, o, h => by cases h; exact ⟨o, rfl⟩
  | d :: ds, f, g, o, h => by
    obtain ⟨xs, e1, h⟩ := bnd_inv h
    rw [fI_eq] at h
    obtain ⟨m, h⟩ := mulC_some h
    obtain ⟨p2, c⟩ := pr_loop F W a ds (Int.mul f (Int.sub (.ofNat (lng xs)) 1)) g (some (.dat d)) h
    refine ⟨p2, ?_⟩
    have e := tupOf_some e1
    subst e
    rw [q_fcons, q_frB, ← c]
    unfold prbody
    simp only [evS_seq, evS_skip, evS_prim, evS_ifs, evS_retv, evS_whl, evS_fr, evS_frz, q_P, evC_cons, evC_nil, evC_v, evC_k, evC_un, evC_bi, evC_tr, q_s0, q_s1, q_s2, q_s3, q_s4, q_s5, q_s6, q_s7, q_s8, q_s9, q_s10, q_s11, q_p0, q_p1, q_p2, q_p3, q_p4, q_p5, q_p6, q_p7, q_p8, q_p9, q_p10, q_p11, q_read, q_readO, q_gcd, q_onD, q_onDo, q_onI, q_onB, q_onSl, q_onSt, q_onSo, q_onL, q_onLo, q_onT, q_onM, q_datD, q_datO, q_intD, dInt_eq, dBool_eq, q_cons, q_mo, bnd_some, bnd_none, q_asg, q_par2, q_asgT, q_ret, q_expr, q_brk, q_raise, q_onx, q_ort, q_obk, q_ono, q_cmp, q_ar, q_and, q_or, q_ix, q_eq, q_ne, q_max2, q_kint, q_kg, q_kbl, q_knon, q_kdT, q_lt, q_le, q_gt, q_ge, q_test, q_testN, ifB_t, ifB_f, q_neg, q_one, q_not, q_isN, q_notN, q_len, q_abs, q_seq, q_rev, q_listOf, q_tupOf, q_isInst, q_tup, q_lst, q_call, q_chain, q_ite, q_max3, q_add, q_sub, q_mul, q_div, q_mod, q_at0, q_at1, q_d0, q_d1, q_d2, q_d1o, q_d2o, q_a1, q_a2, q_a3, q_a5, lenOk2, lenOk1, lenOk0, fI_eq, forceL_eq, g_onD, g_onI, g_onB, g_onS, g_onM, g_onO, g_test, g_bnd, g_cons1, g_cons2, g_out, q_outr, q_eqi, q_dTup, q_lst1, m]
theorem tw_prod (F : FT) (W : Nat) {ds : List PyData} {g : Int} (h : prC ds 1 = some g) : runD F W c_product_of [.dat (.tuple ds)] = some (.dat (.int g)) := by
  rw [runD_go (ρ := [some (.dat (.tuple ds)), none, none]) rfl rfl]
  obtain ⟨p2, c⟩ := pr_loop F W (some (.dat (.tuple ds))) ds 1 g none h
  unfold c_product_of
  simp only [evS_seq, evS_skip, evS_prim, evS_ifs, evS_retv, evS_whl, evS_fr, evS_frz, q_P, evC_cons, evC_nil, evC_v, evC_k, evC_un, evC_bi, evC_tr, q_s0, q_s1, q_s2, q_s3, q_s4, q_s5, q_s6, q_s7, q_s8, q_s9, q_s10, q_s11, q_p0, q_p1, q_p2, q_p3, q_p4, q_p5, q_p6, q_p7, q_p8, q_p9, q_p10, q_p11, q_read, q_readO, q_gcd, q_onD, q_onDo, q_onI, q_onB, q_onSl, q_onSt, q_onSo, q_onL, q_onLo, q_onT, q_onM, q_datD, q_datO, q_intD, dInt_eq, dBool_eq, q_cons, q_mo, bnd_some, bnd_none, q_asg, q_par2, q_asgT, q_ret, q_expr, q_brk, q_raise, q_onx, q_ort, q_obk, q_ono, q_cmp, q_ar, q_and, q_or, q_ix, q_eq, q_ne, q_max2, q_kint, q_kg, q_kbl, q_knon, q_kdT, q_lt, q_le, q_gt, q_ge, q_test, q_testN, ifB_t, ifB_f, q_neg, q_one, q_not, q_isN, q_notN, q_len, q_abs, q_seq, q_rev, q_listOf, q_tupOf, q_isInst, q_tup, q_lst, q_call, q_chain, q_ite, q_max3, q_add, q_sub, q_mul, q_div, q_mod, q_at0, q_at1, q_d0, q_d1, q_d2, q_d1o, q_d2o, q_a1, q_a2, q_a3, q_a5, lenOk2, lenOk1, lenOk0, fI_eq, forceL_eq, g_onD, g_onI, g_onB, g_onS, g_onM, g_onO, g_test, g_bnd, g_cons1, g_cons2, g_out, q_outr, q_eqi, q_dTup, q_lst1, q_fr]
  show outR (onO (loopF (frB (.name 2) (evS F W prbody)) _ _) _ _) = _
  rw [c]
  simp only [evS_seq, evS_skip, evS_prim, evS_ifs, evS_retv, evS_whl, evS_fr, evS_frz, q_P, evC_cons, evC_nil, evC_v, evC_k, evC_un, evC_bi, evC_tr, q_s0, q_s1, q_s2, q_s3, q_s4, q_s5, q_s6, q_s7, q_s8, q_s9, q_s10, q_s11, q_p0, q_p1, q_p2, q_p3, q_p4, q_p5, q_p6, q_p7, q_p8, q_p9, q_p10, q_p11, q_read, q_readO, q_gcd, q_onD, q_onDo, q_onI, q_onB, q_onSl, q_onSt, q_onSo, q_onL, q_onLo, q_onT, q_onM, q_datD, q_datO, q_intD, dInt_eq, dBool_eq, q_cons, q_mo, bnd_some, bnd_none, q_asg, q_par2, q_asgT, q_ret, q_expr, q_brk, q_raise, q_onx, q_ort, q_obk, q_ono, q_cmp, q_ar, q_and, q_or, q_ix, q_eq, q_ne, q_max2, q_kint, q_kg, q_kbl, q_knon, q_kdT, q_lt, q_le, q_gt, q_ge, q_test, q_testN, ifB_t, ifB_f, q_neg, q_one, q_not, q_isN, q_notN, q_len, q_abs, q_seq, q_rev, q_listOf, q_tupOf, q_isInst, q_tup, q_lst, q_call, q_chain, q_ite, q_max3, q_add, q_sub, q_mul, q_div, q_mod, q_at0, q_at1, q_d0, q_d1, q_d2, q_d1o, q_d2o, q_a1, q_a2, q_a3, q_a5, lenOk2, lenOk1, lenOk0, fI_eq, forceL_eq, g_onD, g_onI, g_onB, g_onS, g_onM, g_onO, g_test, g_bnd, g_cons1, g_cons2, g_out, q_outr, q_eqi, q_dTup, q_lst1, q_retv]
/-! least_number, need_bent_starts, need_high, middle_so -/
noncomputable def lnC (ps : List PI) : PI → Option PI := List.rec (motive := fun _ => PI → Option PI) (fun f => some f) (fun p _ ih f => mulC p.1 f.2 fun x => mulC f.1 p.2 fun y => ifB (ltI x y) (ih p) (ih f)) ps
def lnbody : S := (.seq (.ifs (.un (.call 9) (.cons (.v 2) (.cons (.v 1) .nil))) (.seq (.prim (.asg 1) (.cons (.v 2) .nil))
      .skip) .skip)
      .skip)
theorem ln_loop (F : FT) (W : Nat) (hB : ∀ a b c d, F 9 [.dat (.tuple [.int a, .int b]), .dat (.tuple [.int c, .int d])] = lessC a b c d) (a : Option SV) : ∀ (ps : List PI) (f g : PI) (o : Option SV), lnC ps f = some g → ∃ p2, loopF (frB (.name 2) (evS F W lnbody)) (pl ps) [a, some (.dat (prd f)), o] = some (.nx [a, some (.dat (prd g)), p2])
  | [], f, g, o, h => by cases h; exact ⟨o, rfl⟩
  | p :: ps, f, g, o, h => by
    have h : (mulC p.1 f.2 fun x => mulC f.1 p.2 fun y => ifB (ltI x y) (lnC ps p) (lnC ps f)) = some g := h
    obtain ⟨m1, h⟩ := mulC_some h
    obtain ⟨m2, h⟩ := mulC_some h
    have hf : prd f = .tuple [.int f.1, .int f.2] := rfl
    have hl : lessC p.1 p.2 f.1 f.2 = some (.dat (.bool (ltI (Int.mul p.1 f.2) (Int.mul f.1 p.2)))) := by
      unfold lessC
      rw [m1, m2]
      exact dBool_eq _
    rw [pl_cons, q_fcons, q_frB]
    cases hb : ltI (Int.mul p.1 f.2) (Int.mul f.1 p.2) with
    | true =>
      rw [hb] at h hl
      obtain ⟨p2, c⟩ := ln_loop F W hB a ps p g (some (.dat (prd p))) h
      refine ⟨p2, ?_⟩
      rw [← c, hf]
      unfold lnbody
      simp only [evS_seq, evS_skip, evS_prim, evS_ifs, evS_retv, evS_whl, evS_fr, evS_frz, q_P, evC_cons, evC_nil, evC_v, evC_k, evC_un, evC_bi, evC_tr, q_s0, q_s1, q_s2, q_s3, q_s4, q_s5, q_s6, q_s7, q_s8, q_s9, q_s10, q_s11, q_p0, q_p1, q_p2, q_p3, q_p4, q_p5, q_p6, q_p7, q_p8, q_p9, q_p10, q_p11, q_read, q_readO, q_gcd, q_onD, q_onDo, q_onI, q_onB, q_onSl, q_onSt, q_onSo, q_onL, q_onLo, q_onT, q_onM, q_datD, q_datO, q_intD, dInt_eq, dBool_eq, q_cons, q_mo, bnd_some, bnd_none, q_asg, q_par2, q_asgT, q_ret, q_expr, q_brk, q_raise, q_onx, q_ort, q_obk, q_ono, q_cmp, q_ar, q_and, q_or, q_ix, q_eq, q_ne, q_max2, q_kint, q_kg, q_kbl, q_knon, q_kdT, q_lt, q_le, q_gt, q_ge, q_test, q_testN, ifB_t, ifB_f, q_neg, q_one, q_not, q_isN, q_notN, q_len, q_abs, q_seq, q_rev, q_listOf, q_tupOf, q_isInst, q_tup, q_lst, q_call, q_chain, q_ite, q_max3, q_add, q_sub, q_mul, q_div, q_mod, q_at0, q_at1, q_d0, q_d1, q_d2, q_d1o, q_d2o, q_a1, q_a2, q_a3, q_a5, lenOk2, lenOk1, lenOk0, fI_eq, forceL_eq, g_onD, g_onI, g_onB, g_onS, g_onM, g_onO, g_test, g_bnd, g_cons1, g_cons2, g_out, q_outr, q_eqi, q_dTup, q_lst1, hB, hl]
      rfl
    | false =>
      rw [hb] at h hl
      obtain ⟨p2, c⟩ := ln_loop F W hB a ps f g (some (.dat (prd p))) h
      refine ⟨p2, ?_⟩
      rw [← c, hf]
      unfold lnbody
      simp only [evS_seq, evS_skip, evS_prim, evS_ifs, evS_retv, evS_whl, evS_fr, evS_frz, q_P, evC_cons, evC_nil, evC_v, evC_k, evC_un, evC_bi, evC_tr, q_s0, q_s1, q_s2, q_s3, q_s4, q_s5, q_s6, q_s7, q_s8, q_s9, q_s10, q_s11, q_p0, q_p1, q_p2, q_p3, q_p4, q_p5, q_p6, q_p7, q_p8, q_p9, q_p10, q_p11, q_read, q_readO, q_gcd, q_onD, q_onDo, q_onI, q_onB, q_onSl, q_onSt, q_onSo, q_onL, q_onLo, q_onT, q_onM, q_datD, q_datO, q_intD, dInt_eq, dBool_eq, q_cons, q_mo, bnd_some, bnd_none, q_asg, q_par2, q_asgT, q_ret, q_expr, q_brk, q_raise, q_onx, q_ort, q_obk, q_ono, q_cmp, q_ar, q_and, q_or, q_ix, q_eq, q_ne, q_max2, q_kint, q_kg, q_kbl, q_knon, q_kdT, q_lt, q_le, q_gt, q_ge, q_test, q_testN, ifB_t, ifB_f, q_neg, q_one, q_not, q_isN, q_notN, q_len, q_abs, q_seq, q_rev, q_listOf, q_tupOf, q_isInst, q_tup, q_lst, q_call, q_chain, q_ite, q_max3, q_add, q_sub, q_mul, q_div, q_mod, q_at0, q_at1, q_d0, q_d1, q_d2, q_d1o, q_d2o, q_a1, q_a2, q_a3, q_a5, lenOk2, lenOk1, lenOk0, fI_eq, forceL_eq, g_onD, g_onI, g_onB, g_onS, g_onM, g_onO, g_test, g_bnd, g_cons1, g_cons2, g_out, q_outr, q_eqi, q_dTup, q_lst1, hB, hl]
      rfl
theorem tw_least (F : FT) (W : Nat) (hB : ∀ a b c d, F 9 [.dat (.tuple [.int a, .int b]), .dat (.tuple [.int c, .int d])] = lessC a b c d) {p g : PI} {ps : List PI} (h : lnC (p :: ps) p = some g) : runD F W c_least_number [.dat (.tuple (pl (p :: ps)))] = some (.dat (prd g)) := by
  rw [runD_go (ρ := [some (.dat (.tuple (pl (p :: ps)))), none, none]) rfl rfl]
  obtain ⟨p2, c⟩ := ln_loop F W hB (some (.dat (.tuple (pl (p :: ps))))) (p :: ps) p g none h
  have e0 : atI (pl (p :: ps)) 0 = some (prd p) := rfl
  unfold c_least_number
  simp only [evS_seq, evS_skip, evS_prim, evS_ifs, evS_retv, evS_whl, evS_fr, evS_frz, q_P, evC_cons, evC_nil, evC_v, evC_k, evC_un, evC_bi, evC_tr, q_s0, q_s1, q_s2, q_s3, q_s4, q_s5, q_s6, q_s7, q_s8, q_s9, q_s10, q_s11, q_p0, q_p1, q_p2, q_p3, q_p4, q_p5, q_p6, q_p7, q_p8, q_p9, q_p10, q_p11, q_read, q_readO, q_gcd, q_onD, q_onDo, q_onI, q_onB, q_onSl, q_onSt, q_onSo, q_onL, q_onLo, q_onT, q_onM, q_datD, q_datO, q_intD, dInt_eq, dBool_eq, q_cons, q_mo, bnd_some, bnd_none, q_asg, q_par2, q_asgT, q_ret, q_expr, q_brk, q_raise, q_onx, q_ort, q_obk, q_ono, q_cmp, q_ar, q_and, q_or, q_ix, q_eq, q_ne, q_max2, q_kint, q_kg, q_kbl, q_knon, q_kdT, q_lt, q_le, q_gt, q_ge, q_test, q_testN, ifB_t, ifB_f, q_neg, q_one, q_not, q_isN, q_notN, q_len, q_abs, q_seq, q_rev, q_listOf, q_tupOf, q_isInst, q_tup, q_lst, q_call, q_chain, q_ite, q_max3, q_add, q_sub, q_mul, q_div, q_mod, q_at0, q_at1, q_d0, q_d1, q_d2, q_d1o, q_d2o, q_a1, q_a2, q_a3, q_a5, lenOk2, lenOk1, lenOk0, fI_eq, forceL_eq, g_onD, g_onI, g_onB, g_onS, g_onM, g_onO, g_test, g_bnd, g_cons1, g_cons2, g_out, q_outr, q_eqi, q_dTup, q_lst1, q_fr, e0]
  show outR (onO (loopF (frB (.name 2) (evS F W lnbody)) _ _) _ _) = _
  rw [c]
  simp only [evS_seq, evS_skip, evS_prim, evS_ifs, evS_retv, evS_whl, evS_fr, evS_frz, q_P, evC_cons, evC_nil, evC_v, evC_k, evC_un, evC_bi, evC_tr, q_s0, q_s1, q_s2, q_s3, q_s4, q_s5, q_s6, q_s7, q_s8, q_s9, q_s10, q_s11, q_p0, q_p1, q_p2, q_p3, q_p4, q_p5, q_p6, q_p7, q_p8, q_p9, q_p10, q_p11, q_read, q_readO, q_gcd, q_onD, q_onDo, q_onI, q_onB, q_onSl, q_onSt, q_onSo, q_onL, q_onLo, q_onT, q_onM, q_datD, q_datO, q_intD, dInt_eq, dBool_eq, q_cons, q_mo, bnd_some, bnd_none, q_asg, q_par2, q_asgT, q_ret, q_expr, q_brk, q_raise, q_onx, q_ort, q_obk, q_ono, q_cmp, q_ar, q_and, q_or, q_ix, q_eq, q_ne, q_max2, q_kint, q_kg, q_kbl, q_knon, q_kdT, q_lt, q_le, q_gt, q_ge, q_test, q_testN, ifB_t, ifB_f, q_neg, q_one, q_not, q_isN, q_notN, q_len, q_abs, q_seq, q_rev, q_listOf, q_tupOf, q_isInst, q_tup, q_lst, q_call, q_chain, q_ite, q_max3, q_add, q_sub, q_mul, q_div, q_mod, q_at0, q_at1, q_d0, q_d1, q_d2, q_d1o, q_d2o, q_a1, q_a2, q_a3, q_a5, lenOk2, lenOk1, lenOk0, fI_eq, forceL_eq, g_onD, g_onI, g_onB, g_onS, g_onM, g_onO, g_test, g_bnd, g_cons1, g_cons2, g_out, q_outr, q_eqi, q_dTup, q_lst1, q_retv]
theorem tw_bent (F : FT) (W : Nat) {d : PyData} {xs : List PyData} {s : SV} (hd : d = .tuple xs) (h : F 4 [.dat d] = some s) (h2 : eqI (.ofNat (lng xs)) 2 = false) : runD F W c_need_bent_starts [.dat d] = some (.dat d) := by
  subst hd
  rw [runD_go (ρ := [some (.dat (.tuple xs))]) rfl rfl]
  unfold c_need_bent_starts
  simp only [evS_seq, evS_skip, evS_prim, evS_ifs, evS_retv, evS_whl, evS_fr, evS_frz, q_P, evC_cons, evC_nil, evC_v, evC_k, evC_un, evC_bi, evC_tr, q_s0, q_s1, q_s2, q_s3, q_s4, q_s5, q_s6, q_s7, q_s8, q_s9, q_s10, q_s11, q_p0, q_p1, q_p2, q_p3, q_p4, q_p5, q_p6, q_p7, q_p8, q_p9, q_p10, q_p11, q_read, q_readO, q_gcd, q_onD, q_onDo, q_onI, q_onB, q_onSl, q_onSt, q_onSo, q_onL, q_onLo, q_onT, q_onM, q_datD, q_datO, q_intD, dInt_eq, dBool_eq, q_cons, q_mo, bnd_some, bnd_none, q_asg, q_par2, q_asgT, q_ret, q_expr, q_brk, q_raise, q_onx, q_ort, q_obk, q_ono, q_cmp, q_ar, q_and, q_or, q_ix, q_eq, q_ne, q_max2, q_kint, q_kg, q_kbl, q_knon, q_kdT, q_lt, q_le, q_gt, q_ge, q_test, q_testN, ifB_t, ifB_f, q_neg, q_one, q_not, q_isN, q_notN, q_len, q_abs, q_seq, q_rev, q_listOf, q_tupOf, q_isInst, q_tup, q_lst, q_call, q_chain, q_ite, q_max3, q_add, q_sub, q_mul, q_div, q_mod, q_at0, q_at1, q_d0, q_d1, q_d2, q_d1o, q_d2o, q_a1, q_a2, q_a3, q_a5, lenOk2, lenOk1, lenOk0, fI_eq, forceL_eq, g_onD, g_onI, g_onB, g_onS, g_onM, g_onO, g_test, g_bnd, g_cons1, g_cons2, g_out, q_outr, q_eqi, q_dTup, q_lst1, h, h2, q_retv]
theorem tw_high (F : FT) (W : Nat) {d : PyData} {xs : List PyData} {r : SV} (hd : d = .tuple xs) (h : F 4 [.dat d] = some (.dat d)) (h2 : eqI (.ofNat (lng xs)) 2 = false) (h3 : F 11 [.dat d] = some r) : runD F W c_need_high [.dat d] = some r := by
  subst hd
  rw [runD_go (ρ := [some (.dat (.tuple xs))]) rfl rfl]
  unfold c_need_high
  simp only [evS_seq, evS_skip, evS_prim, evS_ifs, evS_retv, evS_whl, evS_fr, evS_frz, q_P, evC_cons, evC_nil, evC_v, evC_k, evC_un, evC_bi, evC_tr, q_s0, q_s1, q_s2, q_s3, q_s4, q_s5, q_s6, q_s7, q_s8, q_s9, q_s10, q_s11, q_p0, q_p1, q_p2, q_p3, q_p4, q_p5, q_p6, q_p7, q_p8, q_p9, q_p10, q_p11, q_read, q_readO, q_gcd, q_onD, q_onDo, q_onI, q_onB, q_onSl, q_onSt, q_onSo, q_onL, q_onLo, q_onT, q_onM, q_datD, q_datO, q_intD, dInt_eq, dBool_eq, q_cons, q_mo, bnd_some, bnd_none, q_asg, q_par2, q_asgT, q_ret, q_expr, q_brk, q_raise, q_onx, q_ort, q_obk, q_ono, q_cmp, q_ar, q_and, q_or, q_ix, q_eq, q_ne, q_max2, q_kint, q_kg, q_kbl, q_knon, q_kdT, q_lt, q_le, q_gt, q_ge, q_test, q_testN, ifB_t, ifB_f, q_neg, q_one, q_not, q_isN, q_notN, q_len, q_abs, q_seq, q_rev, q_listOf, q_tupOf, q_isInst, q_tup, q_lst, q_call, q_chain, q_ite, q_max3, q_add, q_sub, q_mul, q_div, q_mod, q_at0, q_at1, q_d0, q_d1, q_d2, q_d1o, q_d2o, q_a1, q_a2, q_a3, q_a5, lenOk2, lenOk1, lenOk0, fI_eq, forceL_eq, g_onD, g_onI, g_onB, g_onS, g_onM, g_onO, g_test, g_bnd, g_cons1, g_cons2, g_out, q_outr, q_eqi, q_dTup, q_lst1, h, h2, h3]
noncomputable def mdC (ns : List Int) : Option SV := fI (Int.sub (.ofNat (lng ns)) 1) fun j => bnd (atI ns (.negSucc 1)) fun a => bnd (atI ns (.negSucc 0)) fun b => mulC j b fun m => numC a m mkP
theorem neg2 : Int.neg 2 = .negSucc 1 := rfl
theorem tw_mid (F : FT) (W : Nat) (hN : ∀ a b, F 6 [.dat (.int a), .dat (.int b)] = numC a b mkP) {ns : List Int} {b : PyData} {r : SV} (h : mdC ns = some r) : runD F W c_middle_so [.dat (.tuple [.list (il ns), b])] = some r := by
  rw [runD_go (ρ := [some (.dat (.tuple [.list (il ns), b])), none]) rfl rfl]
  unfold mdC at h
  rw [fI_eq] at h
  obtain ⟨x, e1, h⟩ := bnd_inv h
  obtain ⟨y, e2, h⟩ := bnd_inv h
  obtain ⟨m, h⟩ := mulC_some h
  have a1 := at_il e1
  have a2 := at_il e2
  unfold c_middle_so
  simp only [evS_seq, evS_skip, evS_prim, evS_ifs, evS_retv, evS_whl, evS_fr, evS_frz, q_P, evC_cons, evC_nil, evC_v, evC_k, evC_un, evC_bi, evC_tr, q_s0, q_s1, q_s2, q_s3, q_s4, q_s5, q_s6, q_s7, q_s8, q_s9, q_s10, q_s11, q_p0, q_p1, q_p2, q_p3, q_p4, q_p5, q_p6, q_p7, q_p8, q_p9, q_p10, q_p11, q_read, q_readO, q_gcd, q_onD, q_onDo, q_onI, q_onB, q_onSl, q_onSt, q_onSo, q_onL, q_onLo, q_onT, q_onM, q_datD, q_datO, q_intD, dInt_eq, dBool_eq, q_cons, q_mo, bnd_some, bnd_none, q_asg, q_par2, q_asgT, q_ret, q_expr, q_brk, q_raise, q_onx, q_ort, q_obk, q_ono, q_cmp, q_ar, q_and, q_or, q_ix, q_eq, q_ne, q_max2, q_kint, q_kg, q_kbl, q_knon, q_kdT, q_lt, q_le, q_gt, q_ge, q_test, q_testN, ifB_t, ifB_f, q_neg, q_one, q_not, q_isN, q_notN, q_len, q_abs, q_seq, q_rev, q_listOf, q_tupOf, q_isInst, q_tup, q_lst, q_call, q_chain, q_ite, q_max3, q_add, q_sub, q_mul, q_div, q_mod, q_at0, q_at1, q_d0, q_d1, q_d2, q_d1o, q_d2o, q_a1, q_a2, q_a3, q_a5, lenOk2, lenOk1, lenOk0, fI_eq, forceL_eq, g_onD, g_onI, g_onB, g_onS, g_onM, g_onO, g_test, g_bnd, g_cons1, g_cons2, g_out, q_outr, q_eqi, q_dTup, q_lst1, lng_il, neg1, neg2, a1, a2, m, hN, h]
/-! ### levels, shortcuts -/
theorem f_need (n : Nat) {ps : List PI} (h : isC ps = true) : FF (n + 4) 4 [.dat (.tuple (pl ps))] = some (.dat (.tuple (pl ps))) := tw_need (FF (n + 3)) 3000 (f_isstep n h)
noncomputable def sNeed : Sc := fun _ as => g1 as fun d => gPs d fun ps => ifB (isC ps) (some (.dat d)) none
noncomputable def sNeednum : Sc := fun _ as => g1 as fun d => gP d fun x y => ifB (numB x y) (some (.dat d)) none
noncomputable def sNtimes : Sc := fun _ as => g2 as fun a b => gP a fun x y => gP b fun u v => ntC x y u v
noncomputable def sNless : Sc := fun _ as => g2 as fun a b => gP a fun x y => gP b fun u v => nlC x y u v
noncomputable def sRow : Sc := fun _ as => g1 as fun d => bnd (tupOf d) fun ds => ifB (rowB ds) (some (.dat d)) none
noncomputable def sAsstep : Sc := fun _ as => g1 as fun d => gPoly d fun ns b => bnd (asGo b ns) fun ps => ifB (lenOk ps) (some (.dat (.tuple (pl ps)))) none
noncomputable def sProd : Sc := fun _ as => g1 as fun d => bnd (tupOf d) fun ds => bnd (prC ds 1) fun g => some (.dat (.int g))
noncomputable def sLeast : Sc := fun _ as => g1 as fun d => gPs d fun ps => List.rec (motive := fun _ => Option SV) none (fun p _ _ => bnd (lnC ps p) fun g => some (.dat (prd g))) ps
noncomputable def sBent : Sc := fun _ as => g1 as fun d => gPs d fun ps => ifB (isC ps) (ifB (eqI (.ofNat (lng ps)) 2) none (some (.dat d))) none
noncomputable def sHigh : Sc := fun _ as => g1 as fun d => gPs d fun ps => ifB (isC ps) (ifB (eqI (.ofNat (lng ps)) 2) none (bnd (apC ps) fun p => some (resP p))) none
noncomputable def sMid : Sc := fun _ as => g1 as fun d => gPoly d fun ns _ => mdC ns
theorem sNeed_ok : ScOk2 4 sNeed := fun n as r h => by
  obtain ⟨d, rfl, h1⟩ := g1_some h
  obtain ⟨ps, rfl, h2⟩ := gPs_some h1
  obtain ⟨e, h3⟩ := ifB_some h2
  cases h3
  exact f_need (n + 1) e
theorem sNeednum_ok : ScOk2 3 sNeednum := fun n as r h => by
  obtain ⟨d, rfl, h1⟩ := g1_some h
  obtain ⟨x, y, rfl, h2⟩ := gP_some h1
  obtain ⟨e, h3⟩ := ifB_some h2
  cases h3
  exact tw_neednum (FF (n + 4)) 3000 ((f_isnum (n + 2) x y).trans (by rw [e]; rfl))
theorem sNtimes_ok : ScOk2 7 sNtimes := fun n as r h => by
  obtain ⟨a, b, rfl, h1⟩ := g2_some h
  obtain ⟨x, y, rfl, h2⟩ := gP_some h1
  obtain ⟨u, v, rfl, h3⟩ := gP_some h2
  exact tw_ntimes (FF (n + 4)) 3000 (f_num (n + 3)) h3
theorem sNless_ok : ScOk2 8 sNless := fun n as r h => by
  obtain ⟨a, b, rfl, h1⟩ := g2_some h
  obtain ⟨x, y, rfl, h2⟩ := gP_some h1
  obtain ⟨u, v, rfl, h3⟩ := gP_some h2
  exact tw_nless (FF (n + 4)) 3000 (f_num (n + 3)) h3
theorem sRow_ok : ScOk2 5 sRow := fun n as r h => by
  obtain ⟨d, rfl, h1⟩ := g1_some h
  obtain ⟨ds, e1, h2⟩ := bnd_inv h1
  obtain ⟨e, h3⟩ := ifB_some h2
  cases h3
  rw [tupOf_some e1]
  exact tw_row (FF (n + 4)) 3000 (fun ps h => f_isstep (n + 1) h) e
theorem sAsstep_ok : ScOk2 12 sAsstep := fun n as r h => by
  obtain ⟨d, rfl, h1⟩ := g1_some h
  obtain ⟨ns, b, rfl, h2⟩ := gPoly_some h1
  obtain ⟨ps, e1, h3⟩ := bnd_inv h2
  obtain ⟨e, h4⟩ := ifB_some h3
  cases h4
  exact tw_asstep (FF (n + 4)) 3000 (f_num (n + 3)) e1 e
theorem sProd_ok : ScOk2 37 sProd := fun n as r h => by
  obtain ⟨d, rfl, h1⟩ := g1_some h
  obtain ⟨ds, e1, h2⟩ := bnd_inv h1
  obtain ⟨g, e, h3⟩ := bnd_inv h2
  cases h3
  rw [tupOf_some e1]
  exact tw_prod (FF (n + 4)) 3000 e
theorem sLeast_ok : ScOk2 35 sLeast := fun n as r h => by
  obtain ⟨d, rfl, h1⟩ := g1_some h
  obtain ⟨ps, rfl, h2⟩ := gPs_some h1
  cases ps with
  | nil => cases h2
  | cons p l =>
    obtain ⟨g, e, h3⟩ := bnd_inv (r := lnC (p :: l) p) h2
    cases h3
    exact tw_least (FF (n + 4)) 3000 (f_below (n + 3)) e
theorem sBent_ok : ScOk2 23 sBent := fun n as r h => by
  obtain ⟨d, rfl, h1⟩ := g1_some h
  obtain ⟨ps, rfl, h2⟩ := gPs_some h1
  obtain ⟨e, h3⟩ := ifB_some h2
  cases e2 : eqI (.ofNat (lng ps)) 2 with
  | true => rw [e2] at h3; cases h3
  | false =>
    rw [e2] at h3
    cases h3
    exact tw_bent (FF (n + 4)) 3000 rfl (f_need n e) (by rw [lng_pl]; exact e2)
theorem sHigh_ok : ScOk2 93 sHigh := fun n as r h => by
  obtain ⟨d, rfl, h1⟩ := g1_some h
  obtain ⟨ps, rfl, h2⟩ := gPs_some h1
  obtain ⟨e, h3⟩ := ifB_some h2
  cases e2 : eqI (.ofNat (lng ps)) 2 with
  | true => rw [e2] at h3; cases h3
  | false =>
    rw [e2] at h3
    obtain ⟨p, e3, h4⟩ := bnd_inv (r := apC ps) h3
    cases h4
    exact tw_high (FF (n + 4)) 3000 rfl (f_need n e) (by rw [lng_pl]; exact e2) (f_aspoly (n + 2) e3)
theorem sMid_ok : ScOk2 94 sMid := fun n as r h => by
  obtain ⟨d, rfl, h1⟩ := g1_some h
  obtain ⟨ns, b, rfl, h2⟩ := gPoly_some h1
  exact tw_mid (FF (n + 4)) 3000 (f_num (n + 3)) h2
/-- the shortcut of a def -/
noncomputable def S4 (f : Nat) : Option Sc := at_ f 4 sNeed (at_ f 3 sNeednum (at_ f 7 sNtimes (at_ f 8 sNless (at_ f 5 sRow (at_ f 12 sAsstep (at_ f 37 sProd (at_ f 35 sLeast (at_ f 23 sBent (at_ f 93 sHigh (at_ f 94 sMid (S3 f)))))))))))
theorem S4_ok (f : Nat) : ∀ z, S4 f = some z → ScOk2 f z := at_ok sNeed_ok (at_ok sNeednum_ok (at_ok sNtimes_ok (at_ok sNless_ok (at_ok sRow_ok (at_ok sAsstep_ok (at_ok sProd_ok (at_ok sLeast_ok (at_ok sBent_ok (at_ok sHigh_ok (at_ok sMid_ok (S3_ok f)))))))))))
end SW.X
set_option Elab.async false
set_option linter.all false
set_option maxRecDepth 100000
/-! Chk: the finite checks over any calls F. -/
namespace SW.X
open PySem
noncomputable def isB (o : Option Bool) : Bool := Option.rec (motive := fun _ => Bool) false (fun b => b) o
noncomputable def lastOf (F : FT) (t n p : PyData) {α : Type} (f : PyData → Option α) : Option α := bnd (F 107 [.dat t, .dat n, .dat p]) fun w => bnd (ownOf w) fun ws => bnd (atI ws (.negSucc 0)) f
noncomputable def partB (F : FT) (t n m c : PyData) : Option Bool := bnd (tupOf c) fun ps => gL2 ps fun p q => lastOf F t n p fun u => lastOf F t m q fun v => eqD u v
noncomputable def hdC {α β : Type} (xs : List α) (f : α → Option β) : Option β := List.rec (motive := fun _ => Option β) none (fun x _ _ => f x) xs
noncomputable def partD (a b c : PyData) : Option Bool := bnd (tupOf a) fun as => gL2 as fun _ r1 => bnd (tupOf r1) fun xs => hdC xs fun x => bnd (tupOf b) fun bs => gL2 bs fun _ r2 => bnd (innR false x r2) fun z => bnd (dSV z) fun d => bnd (boolOf d) fun k => some (ifB (isNon c) (not k) k)
noncomputable def chkP (F : FT) (t n m : PyData) : Bool := isB (bnd (F 30 [.dat t, .dat n]) fun x => bnd (dSV x) fun a => bnd (F 30 [.dat t, .dat m]) fun y => bnd (dSV y) fun b => bnd (F 74 [.dat t, .dat n, .dat m]) fun z => bnd (dSV z) fun c =>
  ifB (isNon a) (ifB (isNon b) (ifB (isNon c) (some true) (partB F t n m c)) (some (isNon c))) (ifB (isNon b) (some (isNon c)) (partD a b c)))
noncomputable def chkN (F : FT) (t n : PyData) : Bool := isB (bnd (F 82 [.dat (.tuple [t]), .dat n]) fun x => bnd (dSV x) fun v => bnd (F 30 [.dat t, .dat n]) fun y => bnd (dSV y) fun a => ifB (isNon v) (some (isNon a)) (ifB (isNon a) none (bnd (F 85 [.dat (.tuple [t]), .dat n, .dat v]) fun z => bnd (dSV z) fun d => boolOf d)))
def nums' : List PyData := (List.range 25).map fun (i : Nat) => pr ((i : Int) - 12) 1
end SW.X
set_option Elab.async false
set_option linter.all false
set_option maxRecDepth 100000
set_option maxHeartbeats 0
namespace SW.X
open PySem
noncomputable def stp (n : Nat) : PyData := steps.getD n .none
noncomputable def G : FT := Fm S4 12
theorem G_eq : G = FF 12 := Fm_eq S4_ok 12
noncomputable def gT (t : PyData) : Bool := forceD t fun t => isTV (G 109 [.dat t])
noncomputable def gL (t : PyData) : Bool := forceD t fun t => forceDs letters fun ls => ls.all fun l => isT (evS G 3000 t__law_letters_right [none, some (.dat t), some (.dat l), none, none, none, none, none, none, none])
noncomputable def gR (t : PyData) : Bool := forceD t fun t => moduli.all fun l => isT (evS G 3000 t__law_rests_right [none, some (.dat t), some (.dat l), none, none, none, none, none, none])
noncomputable def wh (t : PyData) : Bool := match t with
  | .tuple xs => xs.all fun x => match x with
    | .tuple [_, .int i] => eqI i 1
    | _ => false
  | _ => false
noncomputable def gW (t : PyData) : Bool := forceD t fun t => forceDs nums' fun ns => ifB (wh t) (ifB (ns.all (chkN G t)) (ns.all fun n => ns.all fun m => chkP G t n m) false) true
theorem stp_mem {t : PyData} (h : t ∈ steps) : ∃ i, i < 51 ∧ t = stp i := by
  obtain ⟨i, hi, e⟩ := List.getElem_of_mem h
  have hl : steps.length = 51 := by decide +kernel
  refine ⟨i, by omega, ?_⟩
  unfold stp
  rw [List.getD_eq_getElem?_getD, List.getElem?_eq_getElem hi, e]
  rfl
theorem by_ix {f : PyData → Bool} (h : ∀ i, i < 51 → f (stp i) = true) : ∀ t ∈ steps, f t = true := fun t ht => by
  obtain ⟨i, hi, e⟩ := stp_mem ht
  rw [e]
  exact h i hi
end SW.X
set_option Elab.async false
set_option linter.all false
set_option maxRecDepth 100000
set_option maxHeartbeats 0
namespace SW.X
open PySem
theorem fT_0 : (List.range' 0 10).all (fun i => gT (stp i)) = true := by decide +kernel
theorem fT_1 : (List.range' 10 10).all (fun i => gT (stp i)) = true := by decide +kernel
theorem fT_2 : (List.range' 20 10).all (fun i => gT (stp i)) = true := by decide +kernel
theorem fT_3 : (List.range' 30 10).all (fun i => gT (stp i)) = true := by decide +kernel
theorem fT_4 : (List.range' 40 10).all (fun i => gT (stp i)) = true := by decide +kernel
theorem fT_5 : (List.range' 50 1).all (fun i => gT (stp i)) = true := by decide +kernel
theorem fT_all : ∀ i, i < 51 → gT (stp i) = true := fun i hi => by
  have q : ∀ k, k < 6 → (List.range' (k * 10) (min 10 (51 - k * 10))).all (fun i => gT (stp i)) = true := fun k hk => match k, hk with
    | 0, _ => fT_0
    | 1, _ => fT_1
    | 2, _ => fT_2
    | 3, _ => fT_3
    | 4, _ => fT_4
    | 5, _ => fT_5
    | n + 6, h => absurd h (by omega)
  exact List.all_eq_true.mp (q (i / 10) (by omega)) i (List.mem_range'_1.mpr (by omega))
end SW.X
set_option Elab.async false
set_option linter.all false
set_option maxRecDepth 100000
set_option maxHeartbeats 0
namespace SW.X
open PySem
theorem fR_0 : (List.range' 0 10).all (fun i => gR (stp i)) = true := by decide +kernel
theorem fR_1 : (List.range' 10 10).all (fun i => gR (stp i)) = true := by decide +kernel
theorem fR_2 : (List.range' 20 10).all (fun i => gR (stp i)) = true := by decide +kernel
theorem fR_3 : (List.range' 30 10).all (fun i => gR (stp i)) = true := by decide +kernel
theorem fR_4 : (List.range' 40 10).all (fun i => gR (stp i)) = true := by decide +kernel
theorem fR_5 : (List.range' 50 1).all (fun i => gR (stp i)) = true := by decide +kernel
theorem fR_all : ∀ i, i < 51 → gR (stp i) = true := fun i hi => by
  have q : ∀ k, k < 6 → (List.range' (k * 10) (min 10 (51 - k * 10))).all (fun i => gR (stp i)) = true := fun k hk => match k, hk with
    | 0, _ => fR_0
    | 1, _ => fR_1
    | 2, _ => fR_2
    | 3, _ => fR_3
    | 4, _ => fR_4
    | 5, _ => fR_5
    | n + 6, h => absurd h (by omega)
  exact List.all_eq_true.mp (q (i / 10) (by omega)) i (List.mem_range'_1.mpr (by omega))
end SW.X
set_option Elab.async false
set_option linter.all false
set_option maxRecDepth 100000
set_option maxHeartbeats 0
namespace SW.X
open PySem
theorem fL_0 : gL (stp 0) = true := by decide +kernel
theorem fL_1 : gL (stp 1) = true := by decide +kernel
theorem fL_2 : gL (stp 2) = true := by decide +kernel
theorem fL_3 : gL (stp 3) = true := by decide +kernel
theorem fL_4 : gL (stp 4) = true := by decide +kernel
theorem fL_5 : gL (stp 5) = true := by decide +kernel
theorem fL_6 : gL (stp 6) = true := by decide +kernel
theorem fL_7 : gL (stp 7) = true := by decide +kernel
theorem fL_8 : gL (stp 8) = true := by decide +kernel
theorem fL_9 : gL (stp 9) = true := by decide +kernel
theorem fL_10 : gL (stp 10) = true := by decide +kernel
theorem fL_11 : gL (stp 11) = true := by decide +kernel
theorem fL_12 : gL (stp 12) = true := by decide +kernel
end SW.X
set_option Elab.async false
set_option linter.all false
set_option maxRecDepth 100000
set_option maxHeartbeats 0
namespace SW.X
open PySem
theorem fL_13 : gL (stp 13) = true := by decide +kernel
theorem fL_14 : gL (stp 14) = true := by decide +kernel
theorem fL_15 : gL (stp 15) = true := by decide +kernel
theorem fL_16 : gL (stp 16) = true := by decide +kernel
theorem fL_17 : gL (stp 17) = true := by decide +kernel
theorem fL_18 : gL (stp 18) = true := by decide +kernel
theorem fL_19 : gL (stp 19) = true := by decide +kernel
theorem fL_20 : gL (stp 20) = true := by decide +kernel
theorem fL_21 : gL (stp 21) = true := by decide +kernel
theorem fL_22 : gL (stp 22) = true := by decide +kernel
theorem fL_23 : gL (stp 23) = true := by decide +kernel
theorem fL_24 : gL (stp 24) = true := by decide +kernel
theorem fL_25 : gL (stp 25) = true := by decide +kernel
end SW.X
set_option Elab.async false
set_option linter.all false
set_option maxRecDepth 100000
set_option maxHeartbeats 0
namespace SW.X
open PySem
theorem fL_26 : gL (stp 26) = true := by decide +kernel
theorem fL_27 : gL (stp 27) = true := by decide +kernel
theorem fL_28 : gL (stp 28) = true := by decide +kernel
theorem fL_29 : gL (stp 29) = true := by decide +kernel
theorem fL_30 : gL (stp 30) = true := by decide +kernel
theorem fL_31 : gL (stp 31) = true := by decide +kernel
theorem fL_32 : gL (stp 32) = true := by decide +kernel
theorem fL_33 : gL (stp 33) = true := by decide +kernel
theorem fL_34 : gL (stp 34) = true := by decide +kernel
theorem fL_35 : gL (stp 35) = true := by decide +kernel
theorem fL_36 : gL (stp 36) = true := by decide +kernel
theorem fL_37 : gL (stp 37) = true := by decide +kernel
theorem fL_38 : gL (stp 38) = true := by decide +kernel
end SW.X
set_option Elab.async false
set_option linter.all false
set_option maxRecDepth 100000
set_option maxHeartbeats 0
namespace SW.X
open PySem
theorem fL_39 : gL (stp 39) = true := by decide +kernel
theorem fL_40 : gL (stp 40) = true := by decide +kernel
theorem fL_41 : gL (stp 41) = true := by decide +kernel
theorem fL_42 : gL (stp 42) = true := by decide +kernel
theorem fL_43 : gL (stp 43) = true := by decide +kernel
theorem fL_44 : gL (stp 44) = true := by decide +kernel
theorem fL_45 : gL (stp 45) = true := by decide +kernel
theorem fL_46 : gL (stp 46) = true := by decide +kernel
theorem fL_47 : gL (stp 47) = true := by decide +kernel
theorem fL_48 : gL (stp 48) = true := by decide +kernel
theorem fL_49 : gL (stp 49) = true := by decide +kernel
theorem fL_50 : gL (stp 50) = true := by decide +kernel
end SW.X
set_option Elab.async false
set_option linter.all false
set_option maxRecDepth 100000
set_option maxHeartbeats 0
namespace SW.X
open PySem
theorem fL_all : ∀ i, i < 51 → gL (stp i) = true := fun i hi => match i, hi with
  | 0, _ => fL_0
  | 1, _ => fL_1
  | 2, _ => fL_2
  | 3, _ => fL_3
  | 4, _ => fL_4
  | 5, _ => fL_5
  | 6, _ => fL_6
  | 7, _ => fL_7
  | 8, _ => fL_8
  | 9, _ => fL_9
  | 10, _ => fL_10
  | 11, _ => fL_11
  | 12, _ => fL_12
  | 13, _ => fL_13
  | 14, _ => fL_14
  | 15, _ => fL_15
  | 16, _ => fL_16
  | 17, _ => fL_17
  | 18, _ => fL_18
  | 19, _ => fL_19
  | 20, _ => fL_20
  | 21, _ => fL_21
  | 22, _ => fL_22
  | 23, _ => fL_23
  | 24, _ => fL_24
  | 25, _ => fL_25
  | 26, _ => fL_26
  | 27, _ => fL_27
  | 28, _ => fL_28
  | 29, _ => fL_29
  | 30, _ => fL_30
  | 31, _ => fL_31
  | 32, _ => fL_32
  | 33, _ => fL_33
  | 34, _ => fL_34
  | 35, _ => fL_35
  | 36, _ => fL_36
  | 37, _ => fL_37
  | 38, _ => fL_38
  | 39, _ => fL_39
  | 40, _ => fL_40
  | 41, _ => fL_41
  | 42, _ => fL_42
  | 43, _ => fL_43
  | 44, _ => fL_44
  | 45, _ => fL_45
  | 46, _ => fL_46
  | 47, _ => fL_47
  | 48, _ => fL_48
  | 49, _ => fL_49
  | 50, _ => fL_50
  | n + 51, h => absurd h (by omega)
end SW.X
set_option Elab.async false
set_option linter.all false
set_option maxRecDepth 100000
set_option maxHeartbeats 0
namespace SW.X
open PySem
theorem fW_0 : gW (stp 0) = true := by decide +kernel
theorem fW_1 : gW (stp 1) = true := by decide +kernel
theorem fW_2 : gW (stp 2) = true := by decide +kernel
theorem fW_3 : gW (stp 3) = true := by decide +kernel
theorem fW_4 : gW (stp 4) = true := by decide +kernel
theorem fW_5 : gW (stp 5) = true := by decide +kernel
theorem fW_6 : gW (stp 6) = true := by decide +kernel
theorem fW_7 : gW (stp 7) = true := by decide +kernel
theorem fW_8 : gW (stp 8) = true := by decide +kernel
theorem fW_9 : gW (stp 9) = true := by decide +kernel
theorem fW_10 : gW (stp 10) = true := by decide +kernel
theorem fW_11 : gW (stp 11) = true := by decide +kernel
theorem fW_12 : gW (stp 12) = true := by decide +kernel
theorem fW_13 : gW (stp 13) = true := by decide +kernel
theorem fW_14 : gW (stp 14) = true := by decide +kernel
theorem fW_15 : gW (stp 15) = true := by decide +kernel
theorem fW_16 : gW (stp 16) = true := by decide +kernel
end SW.X
set_option Elab.async false
set_option linter.all false
set_option maxRecDepth 100000
set_option maxHeartbeats 0
namespace SW.X
open PySem
theorem fW_17 : gW (stp 17) = true := by decide +kernel
theorem fW_18 : gW (stp 18) = true := by decide +kernel
theorem fW_19 : gW (stp 19) = true := by decide +kernel
theorem fW_20 : gW (stp 20) = true := by decide +kernel
theorem fW_21 : gW (stp 21) = true := by decide +kernel
theorem fW_22 : gW (stp 22) = true := by decide +kernel
theorem fW_23 : gW (stp 23) = true := by decide +kernel
theorem fW_24 : gW (stp 24) = true := by decide +kernel
theorem fW_25 : gW (stp 25) = true := by decide +kernel
theorem fW_26 : gW (stp 26) = true := by decide +kernel
theorem fW_27 : gW (stp 27) = true := by decide +kernel
theorem fW_28 : gW (stp 28) = true := by decide +kernel
theorem fW_29 : gW (stp 29) = true := by decide +kernel
theorem fW_30 : gW (stp 30) = true := by decide +kernel
theorem fW_31 : gW (stp 31) = true := by decide +kernel
theorem fW_32 : gW (stp 32) = true := by decide +kernel
theorem fW_33 : gW (stp 33) = true := by decide +kernel
end SW.X
set_option Elab.async false
set_option linter.all false
set_option maxRecDepth 100000
set_option maxHeartbeats 0
namespace SW.X
open PySem
theorem fW_34 : gW (stp 34) = true := by decide +kernel
theorem fW_35 : gW (stp 35) = true := by decide +kernel
theorem fW_36 : gW (stp 36) = true := by decide +kernel
theorem fW_37 : gW (stp 37) = true := by decide +kernel
theorem fW_38 : gW (stp 38) = true := by decide +kernel
theorem fW_39 : gW (stp 39) = true := by decide +kernel
theorem fW_40 : gW (stp 40) = true := by decide +kernel
theorem fW_41 : gW (stp 41) = true := by decide +kernel
theorem fW_42 : gW (stp 42) = true := by decide +kernel
theorem fW_43 : gW (stp 43) = true := by decide +kernel
theorem fW_44 : gW (stp 44) = true := by decide +kernel
theorem fW_45 : gW (stp 45) = true := by decide +kernel
theorem fW_46 : gW (stp 46) = true := by decide +kernel
theorem fW_47 : gW (stp 47) = true := by decide +kernel
theorem fW_48 : gW (stp 48) = true := by decide +kernel
theorem fW_49 : gW (stp 49) = true := by decide +kernel
theorem fW_50 : gW (stp 50) = true := by decide +kernel
end SW.X
set_option Elab.async false
set_option linter.all false
set_option maxRecDepth 100000
set_option maxHeartbeats 0
namespace SW.X
open PySem
theorem fW_all : ∀ i, i < 51 → gW (stp i) = true := fun i hi => match i, hi with
  | 0, _ => fW_0
  | 1, _ => fW_1
  | 2, _ => fW_2
  | 3, _ => fW_3
  | 4, _ => fW_4
  | 5, _ => fW_5
  | 6, _ => fW_6
  | 7, _ => fW_7
  | 8, _ => fW_8
  | 9, _ => fW_9
  | 10, _ => fW_10
  | 11, _ => fW_11
  | 12, _ => fW_12
  | 13, _ => fW_13
  | 14, _ => fW_14
  | 15, _ => fW_15
  | 16, _ => fW_16
  | 17, _ => fW_17
  | 18, _ => fW_18
  | 19, _ => fW_19
  | 20, _ => fW_20
  | 21, _ => fW_21
  | 22, _ => fW_22
  | 23, _ => fW_23
  | 24, _ => fW_24
  | 25, _ => fW_25
  | 26, _ => fW_26
  | 27, _ => fW_27
  | 28, _ => fW_28
  | 29, _ => fW_29
  | 30, _ => fW_30
  | 31, _ => fW_31
  | 32, _ => fW_32
  | 33, _ => fW_33
  | 34, _ => fW_34
  | 35, _ => fW_35
  | 36, _ => fW_36
  | 37, _ => fW_37
  | 38, _ => fW_38
  | 39, _ => fW_39
  | 40, _ => fW_40
  | 41, _ => fW_41
  | 42, _ => fW_42
  | 43, _ => fW_43
  | 44, _ => fW_44
  | 45, _ => fW_45
  | 46, _ => fW_46
  | 47, _ => fW_47
  | 48, _ => fW_48
  | 49, _ => fW_49
  | 50, _ => fW_50
  | n + 51, h => absurd h (by omega)
end SW.X
set_option Elab.async false
set_option linter.all false
set_option maxRecDepth 100000
set_option maxHeartbeats 1000000
/-! Fw: the whole starts' fact from its checks. -/
namespace SW.X
open PySem
theorem q_eqb (i j : Bool) : eqD (.bool i) (.bool j) = some (i == j) := rfl
theorem q_notB (F : FT) (b : Bool) (a : Ev1) (pk : Bool) (ρ : En) : opU F (.notB b) a pk ρ = onB (a false ρ) fun k => dBool (xor k b) := rfl
theorem isB_true {o : Option Bool} (h : isB o = true) : o = some true := by
  cases o with
  | none => cases h
  | some b => cases b <;> first | rfl | cases h
def wbody2 : S := (.seq (.prim (.asg 5) (.cons (.un (.call 82) (.cons (.un .tup (.cons (.v 1) .nil)) (.cons (.v 3) .nil))) .nil))
      (.seq (.ifs (.bi .ne (.un .notN (.v 5)) (.un .notN (.un (.call 30) (.cons (.v 1) (.cons (.v 3) .nil))))) (.seq (.prim .ret (.cons (.k (.bl false)) .nil))
      .skip) .skip)
      (.seq (.ifs (.bi .and (.un .notN (.v 5)) (.un .one (.un (.notB true) (.un (.call 85) (.cons (.un .tup (.cons (.v 1) .nil)) (.cons (.v 3) (.cons (.v 5) .nil))))))) (.seq (.prim .ret (.cons (.k (.bl false)) .nil))
      .skip) .skip)
      .skip)))
section
variable (F : FT) (W : Nat) (t : PyData)
theorem w_step2 (L : PyData) {x : PyData} (h : chkN F t x = true) (o5 : Option SV) : ∃ p5, evS F W wbody2 [none, some (.dat t), some (.dat L), some (.dat x), none, o5, none, none, none, none] = some (.nx [none, some (.dat t), some (.dat L), some (.dat x), none, p5, none, none, none, none]) := by
  have h := isB_true h
  obtain ⟨y, h1, h⟩ := bnd_inv h
  obtain ⟨v, h2, h⟩ := bnd_inv h
  obtain ⟨z, h3, h⟩ := bnd_inv h
  obtain ⟨a, h4, h⟩ := bnd_inv h
  rw [dSV_some h2] at h1
  rw [dSV_some h4] at h3
  refine ⟨some (.dat v), ?_⟩
  unfold wbody2
  cases hv : isNon v with
  | true =>
    rw [hv] at h
    have ha : isNon a = true := Option.some.inj h
    simp only [evS_seq, evS_skip, evS_prim, evS_ifs, evS_retv, evS_whl, evS_fr, evS_frz, q_P, evC_cons, evC_nil, evC_v, evC_k, evC_un, evC_bi, evC_tr, q_s0, q_s1, q_s2, q_s3, q_s4, q_s5, q_s6, q_s7, q_s8, q_s9, q_s10, q_s11, q_p0, q_p1, q_p2, q_p3, q_p4, q_p5, q_p6, q_p7, q_p8, q_p9, q_p10, q_p11, q_read, q_readO, q_gcd, q_onD, q_onDo, q_onI, q_onB, q_onSl, q_onSt, q_onSo, q_onL, q_onLo, q_onT, q_onM, q_datD, q_datO, q_intD, dInt_eq, dBool_eq, q_cons, q_mo, bnd_some, bnd_none, q_asg, q_par2, q_asgT, q_ret, q_expr, q_brk, q_raise, q_onx, q_ort, q_obk, q_ono, q_cmp, q_ar, q_and, q_or, q_ix, q_eq, q_ne, q_max2, q_kint, q_kg, q_kbl, q_knon, q_kdT, q_lt, q_le, q_gt, q_ge, q_test, q_testN, ifB_t, ifB_f, q_neg, q_one, q_not, q_isN, q_notN, q_len, q_abs, q_seq, q_rev, q_listOf, q_tupOf, q_isInst, q_tup, q_lst, q_call, q_chain, q_ite, q_max3, q_add, q_sub, q_mul, q_div, q_mod, q_at0, q_at1, q_d0, q_d1, q_d2, q_d1o, q_d2o, q_a1, q_a2, q_a3, q_a5, lenOk2, lenOk1, lenOk0, fI_eq, forceL_eq, g_onD, g_onI, g_onB, g_onS, g_onM, g_onO, g_test, g_bnd, g_cons1, g_cons2, g_out, q_outr, q_eqi, q_dTup, q_lst1, h1, h3, hv, ha, q_nt, q_eqb, beq_self_eq_true]
  | false =>
    rw [hv] at h
    cases ha : isNon a with
    | true => rw [ha] at h; cases h
    | false =>
      rw [ha] at h
      obtain ⟨u, h5, h⟩ := bnd_inv (r := F 85 [.dat (.tuple [t]), .dat x, .dat v]) h
      obtain ⟨d, h6, h⟩ := bnd_inv h
      cases boolOf_some h
      rw [dSV_some h6] at h5
      simp only [evS_seq, evS_skip, evS_prim, evS_ifs, evS_retv, evS_whl, evS_fr, evS_frz, q_P, evC_cons, evC_nil, evC_v, evC_k, evC_un, evC_bi, evC_tr, q_s0, q_s1, q_s2, q_s3, q_s4, q_s5, q_s6, q_s7, q_s8, q_s9, q_s10, q_s11, q_p0, q_p1, q_p2, q_p3, q_p4, q_p5, q_p6, q_p7, q_p8, q_p9, q_p10, q_p11, q_read, q_readO, q_gcd, q_onD, q_onDo, q_onI, q_onB, q_onSl, q_onSt, q_onSo, q_onL, q_onLo, q_onT, q_onM, q_datD, q_datO, q_intD, dInt_eq, dBool_eq, q_cons, q_mo, bnd_some, bnd_none, q_asg, q_par2, q_asgT, q_ret, q_expr, q_brk, q_raise, q_onx, q_ort, q_obk, q_ono, q_cmp, q_ar, q_and, q_or, q_ix, q_eq, q_ne, q_max2, q_kint, q_kg, q_kbl, q_knon, q_kdT, q_lt, q_le, q_gt, q_ge, q_test, q_testN, ifB_t, ifB_f, q_neg, q_one, q_not, q_isN, q_notN, q_len, q_abs, q_seq, q_rev, q_listOf, q_tupOf, q_isInst, q_tup, q_lst, q_call, q_chain, q_ite, q_max3, q_add, q_sub, q_mul, q_div, q_mod, q_at0, q_at1, q_d0, q_d1, q_d2, q_d1o, q_d2o, q_a1, q_a2, q_a3, q_a5, lenOk2, lenOk1, lenOk0, fI_eq, forceL_eq, g_onD, g_onI, g_onB, g_onS, g_onM, g_onO, g_test, g_bnd, g_cons1, g_cons2, g_out, q_outr, q_eqi, q_dTup, q_lst1, h1, h3, h5, hv, ha, q_nt, q_nf, q_eqb, q_notB, beq_self_eq_true, Bool.xor_self]
theorem w_loop2 (L : PyData) : ∀ (xs : List PyData), (∀ x ∈ xs, chkN F t x = true) → ∀ (o3 o5 : Option SV), ∃ p3 p5, loopF (frB (.name 3) (evS F W wbody2)) xs [none, some (.dat t), some (.dat L), o3, none, o5, none, none, none, none] = some (.nx [none, some (.dat t), some (.dat L), p3, none, p5, none, none, none, none])
  | [], _, o3, o5 => ⟨o3, o5, rfl⟩
  | x :: xs, h, o3, o5 => by
    obtain ⟨p5, e⟩ := w_step2 F W t L (h x List.mem_cons_self) o5
    obtain ⟨q3, q5, e2⟩ := w_loop2 L xs (fun y hy => h y (List.mem_cons_of_mem _ hy)) (some (.dat x)) p5
    refine ⟨q3, q5, ?_⟩
    rw [q_fcons, q_frB]
    simp only [q_p3]
    rw [e]
    exact e2
theorem dN {c : PyData} (h : isNon c = true) : c = .none := by cases c <;> first | rfl | cases h
theorem hdC_some {α β : Type} {xs : List α} {f : α → Option β} {r : β} (h : hdC xs f = some r) : ∃ x l, xs = x :: l ∧ f x = some r := by
  cases xs with
  | nil => cases h
  | cons x l => exact ⟨x, l, rfl, h⟩
theorem whole_true {n m : PyData} {r : List PyData} (hN : ∀ x ∈ n :: m :: r, chkN F t x = true) (hP : chkP F t n m = true) :
    evS F W t__law_whole_right [none, some (.dat t), some (.dat (.list (n :: m :: r))), none, none, none, none, none, none, none] = some (.rt (.dat (.bool true))) := by
  obtain ⟨p3, p5, e⟩ := w_loop2 F W t (.list (n :: m :: r)) (n :: m :: r) hN none none
  have fz : ∀ d : PyData, SV.froz (.dat d) = .dat d := fun _ => rfl
  unfold t__law_whole_right
  simp only [evS_seq, evS_skip, evS_prim, evS_ifs, evS_retv, evS_whl, evS_fr, evS_frz, q_P, evC_cons, evC_nil, evC_v, evC_k, evC_un, evC_bi, evC_tr, q_s0, q_s1, q_s2, q_s3, q_s4, q_s5, q_s6, q_s7, q_s8, q_s9, q_s10, q_s11, q_p0, q_p1, q_p2, q_p3, q_p4, q_p5, q_p6, q_p7, q_p8, q_p9, q_p10, q_p11, q_read, q_readO, q_gcd, q_onD, q_onDo, q_onI, q_onB, q_onSl, q_onSt, q_onSo, q_onL, q_onLo, q_onT, q_onM, q_datD, q_datO, q_intD, dInt_eq, dBool_eq, q_cons, q_mo, bnd_some, bnd_none, q_asg, q_par2, q_asgT, q_ret, q_expr, q_brk, q_raise, q_onx, q_ort, q_obk, q_ono, q_cmp, q_ar, q_and, q_or, q_ix, q_eq, q_ne, q_max2, q_kint, q_kg, q_kbl, q_knon, q_kdT, q_lt, q_le, q_gt, q_ge, q_test, q_testN, ifB_t, ifB_f, q_neg, q_one, q_not, q_isN, q_notN, q_len, q_abs, q_seq, q_rev, q_listOf, q_tupOf, q_isInst, q_tup, q_lst, q_call, q_chain, q_ite, q_max3, q_add, q_sub, q_mul, q_div, q_mod, q_at0, q_at1, q_d0, q_d1, q_d2, q_d1o, q_d2o, q_a1, q_a2, q_a3, q_a5, lenOk2, lenOk1, lenOk0, fI_eq, forceL_eq, g_onD, g_onI, g_onB, g_onS, g_onM, g_onO, g_test, g_bnd, g_cons1, g_cons2, g_out, q_outr, q_eqi, q_dTup, q_lst1, q_Z, fz, q_fr]
  show onO (loopF (frB (.name 3) (evS F W wbody2)) _ _) _ _ = _
  rw [e]
  have h := isB_true hP
  obtain ⟨x1, h1, h⟩ := bnd_inv h
  obtain ⟨a, h2, h⟩ := bnd_inv h
  obtain ⟨x2, h3, h⟩ := bnd_inv h
  obtain ⟨b, h4, h⟩ := bnd_inv h
  obtain ⟨x3, h5, h⟩ := bnd_inv h
  obtain ⟨c, h6, h⟩ := bnd_inv h
  rw [dSV_some h2] at h1
  rw [dSV_some h4] at h3
  rw [dSV_some h6] at h5
  cases ha : isNon a with
  | true =>
    rw [ha] at h
    cases hb : isNon b with
    | true =>
      rw [hb] at h
      cases hc : isNon c with
      | true => simp only [evS_seq, evS_skip, evS_prim, evS_ifs, evS_retv, evS_whl, evS_fr, evS_frz, q_P, evC_cons, evC_nil, evC_v, evC_k, evC_un, evC_bi, evC_tr, q_s0, q_s1, q_s2, q_s3, q_s4, q_s5, q_s6, q_s7, q_s8, q_s9, q_s10, q_s11, q_p0, q_p1, q_p2, q_p3, q_p4, q_p5, q_p6, q_p7, q_p8, q_p9, q_p10, q_p11, q_read, q_readO, q_gcd, q_onD, q_onDo, q_onI, q_onB, q_onSl, q_onSt, q_onSo, q_onL, q_onLo, q_onT, q_onM, q_datD, q_datO, q_intD, dInt_eq, dBool_eq, q_cons, q_mo, bnd_some, bnd_none, q_asg, q_par2, q_asgT, q_ret, q_expr, q_brk, q_raise, q_onx, q_ort, q_obk, q_ono, q_cmp, q_ar, q_and, q_or, q_ix, q_eq, q_ne, q_max2, q_kint, q_kg, q_kbl, q_knon, q_kdT, q_lt, q_le, q_gt, q_ge, q_test, q_testN, ifB_t, ifB_f, q_neg, q_one, q_not, q_isN, q_notN, q_len, q_abs, q_seq, q_rev, q_listOf, q_tupOf, q_isInst, q_tup, q_lst, q_call, q_chain, q_ite, q_max3, q_add, q_sub, q_mul, q_div, q_mod, q_at0, q_at1, q_d0, q_d1, q_d2, q_d1o, q_d2o, q_a1, q_a2, q_a3, q_a5, lenOk2, lenOk1, lenOk0, fI_eq, forceL_eq, g_onD, g_onI, g_onB, g_onS, g_onM, g_onO, g_test, g_bnd, g_cons1, g_cons2, g_out, q_outr, q_eqi, q_dTup, q_lst1, h1, h3, h5, ha, hb, hc]
      | false =>
        rw [hc] at h
        obtain ⟨ps, e1, h⟩ := bnd_inv h
        obtain ⟨p, q, e2, h⟩ := gL2_some h
        obtain ⟨w, e3, h⟩ := bnd_inv h
        obtain ⟨ws, e4, h⟩ := bnd_inv h
        obtain ⟨u, e5, h⟩ := bnd_inv h
        obtain ⟨w2, e6, h⟩ := bnd_inv h
        obtain ⟨ws2, e7, h⟩ := bnd_inv h
        obtain ⟨v, e8, h⟩ := bnd_inv h
        have ec : c = .tuple [p, q] := by rw [tupOf_some e1, e2]
        have e4 : w = .own ws := by cases w <;> cases e4; rfl
        have e7 : w2 = .own ws2 := by cases w2 <;> cases e7; rfl
        have hq : eqD u v = some true := h
        subst ec e4 e7
        simp only [evS_seq, evS_skip, evS_prim, evS_ifs, evS_retv, evS_whl, evS_fr, evS_frz, q_P, evC_cons, evC_nil, evC_v, evC_k, evC_un, evC_bi, evC_tr, q_s0, q_s1, q_s2, q_s3, q_s4, q_s5, q_s6, q_s7, q_s8, q_s9, q_s10, q_s11, q_p0, q_p1, q_p2, q_p3, q_p4, q_p5, q_p6, q_p7, q_p8, q_p9, q_p10, q_p11, q_read, q_readO, q_gcd, q_onD, q_onDo, q_onI, q_onB, q_onSl, q_onSt, q_onSo, q_onL, q_onLo, q_onT, q_onM, q_datD, q_datO, q_intD, dInt_eq, dBool_eq, q_cons, q_mo, bnd_some, bnd_none, q_asg, q_par2, q_asgT, q_ret, q_expr, q_brk, q_raise, q_onx, q_ort, q_obk, q_ono, q_cmp, q_ar, q_and, q_or, q_ix, q_eq, q_ne, q_max2, q_kint, q_kg, q_kbl, q_knon, q_kdT, q_lt, q_le, q_gt, q_ge, q_test, q_testN, ifB_t, ifB_f, q_neg, q_one, q_not, q_isN, q_notN, q_len, q_abs, q_seq, q_rev, q_listOf, q_tupOf, q_isInst, q_tup, q_lst, q_call, q_chain, q_ite, q_max3, q_add, q_sub, q_mul, q_div, q_mod, q_at0, q_at1, q_d0, q_d1, q_d2, q_d1o, q_d2o, q_a1, q_a2, q_a3, q_a5, lenOk2, lenOk1, lenOk0, fI_eq, forceL_eq, g_onD, g_onI, g_onB, g_onS, g_onM, g_onO, g_test, g_bnd, g_cons1, g_cons2, g_out, q_outr, q_eqi, q_dTup, q_lst1, h1, h3, h5, ha, hb, hc, e3, e6, neg1, e5, e8, hq]
    | false =>
      rw [hb] at h
      have hc : isNon c = true := Option.some.inj h
      simp only [evS_seq, evS_skip, evS_prim, evS_ifs, evS_retv, evS_whl, evS_fr, evS_frz, q_P, evC_cons, evC_nil, evC_v, evC_k, evC_un, evC_bi, evC_tr, q_s0, q_s1, q_s2, q_s3, q_s4, q_s5, q_s6, q_s7, q_s8, q_s9, q_s10, q_s11, q_p0, q_p1, q_p2, q_p3, q_p4, q_p5, q_p6, q_p7, q_p8, q_p9, q_p10, q_p11, q_read, q_readO, q_gcd, q_onD, q_onDo, q_onI, q_onB, q_onSl, q_onSt, q_onSo, q_onL, q_onLo, q_onT, q_onM, q_datD, q_datO, q_intD, dInt_eq, dBool_eq, q_cons, q_mo, bnd_some, bnd_none, q_asg, q_par2, q_asgT, q_ret, q_expr, q_brk, q_raise, q_onx, q_ort, q_obk, q_ono, q_cmp, q_ar, q_and, q_or, q_ix, q_eq, q_ne, q_max2, q_kint, q_kg, q_kbl, q_knon, q_kdT, q_lt, q_le, q_gt, q_ge, q_test, q_testN, ifB_t, ifB_f, q_neg, q_one, q_not, q_isN, q_notN, q_len, q_abs, q_seq, q_rev, q_listOf, q_tupOf, q_isInst, q_tup, q_lst, q_call, q_chain, q_ite, q_max3, q_add, q_sub, q_mul, q_div, q_mod, q_at0, q_at1, q_d0, q_d1, q_d2, q_d1o, q_d2o, q_a1, q_a2, q_a3, q_a5, lenOk2, lenOk1, lenOk0, fI_eq, forceL_eq, g_onD, g_onI, g_onB, g_onS, g_onM, g_onO, g_test, g_bnd, g_cons1, g_cons2, g_out, q_outr, q_eqi, q_dTup, q_lst1, h1, h3, h5, ha, hb, hc]
  | false =>
    rw [ha] at h
    cases hb : isNon b with
    | true =>
      rw [hb] at h
      have hc : isNon c = true := Option.some.inj h
      simp only [evS_seq, evS_skip, evS_prim, evS_ifs, evS_retv, evS_whl, evS_fr, evS_frz, q_P, evC_cons, evC_nil, evC_v, evC_k, evC_un, evC_bi, evC_tr, q_s0, q_s1, q_s2, q_s3, q_s4, q_s5, q_s6, q_s7, q_s8, q_s9, q_s10, q_s11, q_p0, q_p1, q_p2, q_p3, q_p4, q_p5, q_p6, q_p7, q_p8, q_p9, q_p10, q_p11, q_read, q_readO, q_gcd, q_onD, q_onDo, q_onI, q_onB, q_onSl, q_onSt, q_onSo, q_onL, q_onLo, q_onT, q_onM, q_datD, q_datO, q_intD, dInt_eq, dBool_eq, q_cons, q_mo, bnd_some, bnd_none, q_asg, q_par2, q_asgT, q_ret, q_expr, q_brk, q_raise, q_onx, q_ort, q_obk, q_ono, q_cmp, q_ar, q_and, q_or, q_ix, q_eq, q_ne, q_max2, q_kint, q_kg, q_kbl, q_knon, q_kdT, q_lt, q_le, q_gt, q_ge, q_test, q_testN, ifB_t, ifB_f, q_neg, q_one, q_not, q_isN, q_notN, q_len, q_abs, q_seq, q_rev, q_listOf, q_tupOf, q_isInst, q_tup, q_lst, q_call, q_chain, q_ite, q_max3, q_add, q_sub, q_mul, q_div, q_mod, q_at0, q_at1, q_d0, q_d1, q_d2, q_d1o, q_d2o, q_a1, q_a2, q_a3, q_a5, lenOk2, lenOk1, lenOk0, fI_eq, forceL_eq, g_onD, g_onI, g_onB, g_onS, g_onM, g_onO, g_test, g_bnd, g_cons1, g_cons2, g_out, q_outr, q_eqi, q_dTup, q_lst1, h1, h3, h5, ha, hb, hc]
    | false =>
      rw [hb] at h
      obtain ⟨as, e1, h⟩ := bnd_inv (r := tupOf a) h
      obtain ⟨a0, a1, e2, h⟩ := gL2_some h
      obtain ⟨ys, e3, h⟩ := bnd_inv h
      obtain ⟨x, l, e4, h⟩ := hdC_some h
      obtain ⟨bs, e5, h⟩ := bnd_inv h
      obtain ⟨b0, b1, e6, h⟩ := gL2_some h
      obtain ⟨z, e7, h⟩ := bnd_inv h
      obtain ⟨d, e8, h⟩ := bnd_inv h
      obtain ⟨k, e9, h⟩ := bnd_inv h
      have ea : a = .tuple [a0, .tuple (x :: l)] := by rw [tupOf_some e1, e2, tupOf_some e3, e4]
      have eb : b = .tuple [b0, b1] := by rw [tupOf_some e5, e6]
      rw [dSV_some e8, boolOf_some e9] at e7
      have hk : ifB (isNon c) (!k) k = true := Option.some.inj h
      subst ea eb
      cases hc : isNon c <;> rw [hc] at hk <;> cases k <;> first | exact absurd hk Bool.false_ne_true | simp only [evS_seq, evS_skip, evS_prim, evS_ifs, evS_retv, evS_whl, evS_fr, evS_frz, q_P, evC_cons, evC_nil, evC_v, evC_k, evC_un, evC_bi, evC_tr, q_s0, q_s1, q_s2, q_s3, q_s4, q_s5, q_s6, q_s7, q_s8, q_s9, q_s10, q_s11, q_p0, q_p1, q_p2, q_p3, q_p4, q_p5, q_p6, q_p7, q_p8, q_p9, q_p10, q_p11, q_read, q_readO, q_gcd, q_onD, q_onDo, q_onI, q_onB, q_onSl, q_onSt, q_onSo, q_onL, q_onLo, q_onT, q_onM, q_datD, q_datO, q_intD, dInt_eq, dBool_eq, q_cons, q_mo, bnd_some, bnd_none, q_asg, q_par2, q_asgT, q_ret, q_expr, q_brk, q_raise, q_onx, q_ort, q_obk, q_ono, q_cmp, q_ar, q_and, q_or, q_ix, q_eq, q_ne, q_max2, q_kint, q_kg, q_kbl, q_knon, q_kdT, q_lt, q_le, q_gt, q_ge, q_test, q_testN, ifB_t, ifB_f, q_neg, q_one, q_not, q_isN, q_notN, q_len, q_abs, q_seq, q_rev, q_listOf, q_tupOf, q_isInst, q_tup, q_lst, q_call, q_chain, q_ite, q_max3, q_add, q_sub, q_mul, q_div, q_mod, q_at0, q_at1, q_d0, q_d1, q_d2, q_d1o, q_d2o, q_a1, q_a2, q_a3, q_a5, lenOk2, lenOk1, lenOk0, fI_eq, forceL_eq, g_onD, g_onI, g_onB, g_onS, g_onM, g_onO, g_test, g_bnd, g_cons1, g_cons2, g_out, q_outr, q_eqi, q_dTup, q_lst1, h1, h3, h5, ha, hb, hc, q_inn, e7, q_eqb, q_nt, q_nf, beq_self_eq_true]
end
theorem factW (hW : ∀ i, i < 51 → gW (stp i) = true) : ∀ t ∈ steps, wh t = true → ∀ xs : List PyData, xs.length = 4 → (∀ x ∈ xs, x ∈ nums') →
    evS (FF 12) 3000 t__law_whole_right [none, some (.dat t), some (.dat (.list xs)), none, none, none, none, none, none, none] = some (.rt (.dat (.bool true))) := fun t ht hw xs hl hx => by
  have h := by_ix hW t ht
  unfold gW at h
  simp only [forceD_eq, forceDs_eq] at h
  rw [hw] at h
  obtain ⟨h1, h2⟩ := ifB_and h
  rw [G_eq] at h1 h2
  match xs, hl with
  | [n, m, u, v], _ =>
    exact whole_true (FF 12) 3000 t (fun x hm => List.all_eq_true.mp h1 x (hx x hm)) (List.all_eq_true.mp (List.all_eq_true.mp h2 n (hx n (by simp))) m (hx m (by simp)))
end SW.X
set_option Elab.async false
set_option linter.all false
/-! Mat: when a code is a text's expression or statement. -/
namespace SW
open PySem

/-! ### views of an expression -/
def vw {α : Type} (o : Option α) (f : α → Bool) : Bool := match o with
  | some x => f x
  | none => false
theorem vw_true {α : Type} {o : Option α} {f : α → Bool} (h : vw o f = true) : ∃ x, o = some x ∧ f x = true := by
  cases o with
  | none => cases h
  | some x => exact ⟨x, rfl, h⟩
theorem and_true2 {a b : Bool} (h : (a && b) = true) : a = true ∧ b = true := Bool.and_eq_true_iff.mp h
def vName : Expr → Option Str
  | .Name x _ => some x
  | _ => none
def vConst : Expr → Option Const
  | .Constant c _ _ => some c
  | _ => none
def vUn : Expr → Option (UnaryOp × Expr)
  | .UnaryOp o x _ => some (o, x)
  | _ => none
def vBin : Expr → Option (Expr × Operator × Expr)
  | .BinOp a o b _ => some (a, o, b)
  | _ => none
def vCmp : Expr → Option (Expr × CmpOp × Expr)
  | .Compare a [o] [b] _ => some (a, o, b)
  | _ => none
def vCmp2 : Expr → Option (Expr × CmpOp × Expr × CmpOp × Expr)
  | .Compare a [o, p] [b, c] _ => some (a, o, b, p, c)
  | _ => none
/-- f(..), f a name, no keywords -/
def vCall : Expr → Option (Str × List Expr)
  | .Call (.Name x _) es [] _ => some (x, es)
  | _ => none
/-- o.m(..), on one line -/
def vMeth : Expr → Option (Expr × Str × List Expr)
  | .Call (.Attribute o m p) es [] q => if p.endLine == q.line then some (o, m, es) else none
  | _ => none
def vSub : Expr → Option (Expr × Expr)
  | .Subscript a b _ => some (a, b)
  | _ => none
/-- a[:hi], a[lo:], a[::-1] -/
def vUpTo : Expr → Option Expr
  | .Slice none (some h) none _ => some h
  | _ => none
def vFrom : Expr → Option Expr
  | .Slice (some l) none none _ => some l
  | _ => none
def vBack : Expr → Bool
  | .Slice none none (some (.UnaryOp .USub (.Constant (.int 1) _ _) _)) _ => true
  | _ => false
def vBool : Expr → Option (BoolOp × List Expr)
  | .BoolOp o es _ => some (o, es)
  | _ => none
def vIf : Expr → Option (Expr × Expr × Expr)
  | .IfExp c a b _ => some (c, a, b)
  | _ => none
def vTup : Expr → Option (List Expr)
  | .Tuple es _ _ => some es
  | _ => none
def vLst : Expr → Option (List Expr)
  | .List es _ => some es
  | _ => none
def vComp : Expr → Option (Expr × Expr × Expr × List Expr × Scope)
  | .ListComp e [⟨tg, it, ifs, 0⟩] sc _ => some (e, tg, it, ifs, sc)
  | _ => none
def vDict0 : Expr → Bool
  | .Dict [] [] _ => true
  | _ => false
section
variable {e : Expr}
theorem vName_some {x : Str} (h : vName e = some x) : ∃ p, e = .Name x p := by cases e <;> cases h; exact ⟨_, rfl⟩
theorem vConst_some {x : Const} (h : vConst e = some x) : ∃ j p, e = .Constant x j p := by cases e <;> cases h; exact ⟨_, _, rfl⟩
theorem vUn_some {o : UnaryOp} {x : Expr} (h : vUn e = some (o, x)) : ∃ p, e = .UnaryOp o x p := by cases e <;> cases h; exact ⟨_, rfl⟩
theorem vBin_some {a b : Expr} {o : Operator} (h : vBin e = some (a, o, b)) : ∃ p, e = .BinOp a o b p := by cases e <;> cases h; exact ⟨_, rfl⟩
theorem vCmp_some {a b : Expr} {o : CmpOp} (h : vCmp e = some (a, o, b)) : ∃ p, e = .Compare a [o] [b] p := by
  unfold vCmp at h
  split at h <;> cases h
  exact ⟨_, rfl⟩
theorem vCmp2_some {a b c : Expr} {o q : CmpOp} (h : vCmp2 e = some (a, o, b, q, c)) : ∃ p, e = .Compare a [o, q] [b, c] p := by
  unfold vCmp2 at h
  split at h <;> cases h
  exact ⟨_, rfl⟩
theorem vCall_some {x : Str} {es : List Expr} (h : vCall e = some (x, es)) : ∃ p q, e = .Call (.Name x p) es [] q := by
  unfold vCall at h
  split at h <;> cases h
  exact ⟨_, _, rfl⟩
theorem vMeth_some {o : Expr} {m : Str} {es : List Expr} (h : vMeth e = some (o, m, es)) : ∃ p q, e = .Call (.Attribute o m p) es [] q ∧ (p.endLine == q.line) = true := by
  unfold vMeth at h
  split at h
  · split at h
    · rename_i z; cases h; exact ⟨_, _, rfl, z⟩
    · cases h
  · cases h
theorem vSub_some {a b : Expr} (h : vSub e = some (a, b)) : ∃ p, e = .Subscript a b p := by cases e <;> cases h; exact ⟨_, rfl⟩
theorem vUpTo_some {a : Expr} (h : vUpTo e = some a) : ∃ p, e = .Slice none (some a) none p := by
  unfold vUpTo at h
  split at h <;> cases h
  exact ⟨_, rfl⟩
theorem vFrom_some {a : Expr} (h : vFrom e = some a) : ∃ p, e = .Slice (some a) none none p := by
  unfold vFrom at h
  split at h <;> cases h
  exact ⟨_, rfl⟩
theorem vBack_true (h : vBack e = true) : ∃ k p1 p2 p3, e = .Slice none none (some (.UnaryOp .USub (.Constant (.int 1) k p1) p2)) p3 := by
  unfold vBack at h
  split at h
  · exact ⟨_, _, _, _, rfl⟩
  · cases h
theorem vBool_some {o : BoolOp} {es : List Expr} (h : vBool e = some (o, es)) : ∃ p, e = .BoolOp o es p := by cases e <;> cases h; exact ⟨_, rfl⟩
theorem vIf_some {c a b : Expr} (h : vIf e = some (c, a, b)) : ∃ p, e = .IfExp c a b p := by cases e <;> cases h; exact ⟨_, rfl⟩
theorem vTup_some {es : List Expr} (h : vTup e = some es) : ∃ k p, e = .Tuple es k p := by cases e <;> cases h; exact ⟨_, _, rfl⟩
theorem vLst_some {es : List Expr} (h : vLst e = some es) : ∃ p, e = .List es p := by cases e <;> cases h; exact ⟨_, rfl⟩
theorem vComp_some {x tg it : Expr} {ifs : List Expr} {sc : Scope} (h : vComp e = some (x, tg, it, ifs, sc)) : ∃ p, e = .ListComp x [⟨tg, it, ifs, 0⟩] sc p := by
  unfold vComp at h
  split at h <;> cases h
  exact ⟨_, rfl⟩
theorem vDict0_true (h : vDict0 e = true) : ∃ p, e = .Dict [] [] p := by
  unfold vDict0 at h
  split at h
  · exact ⟨_, rfl⟩
  · cases h
end
/-! ### kinds of expressions -/
def noStar : Expr → Bool
  | .Starred _ _ => false
  | _ => true
def noComp : Expr → Bool
  | .ListComp _ _ _ _ => false
  | .SetComp _ _ _ _ => false
  | .DictComp _ _ _ _ _ => false
  | _ => true
def noSlice : Expr → Bool
  | .Slice _ _ _ _ => false
  | _ => true
def noSet : Expr → Bool
  | .Set _ _ _ => false
  | _ => true
def tHead : Expr → Bool
  | .UnaryOp _ _ _ => false
  | .BoolOp _ _ _ => false
  | .IfExp _ _ _ _ => false
  | .Compare _ _ _ _ => false
  | _ => true
/-- what may be asked as a test -/
def tOk : Expr → Bool
  | .UnaryOp .Not _ _ => true
  | .UnaryOp _ _ _ => false
  | .IfExp _ _ _ _ => false
  | _ => true
section
variable {e : Expr} {env : Env}
theorem star_cons (h : noStar e = true) (es : List Expr) : starEach (e :: es) env = (false, eval e env) :: starEach es env := by
  cases e <;> first | rfl | cases h
theorem comp_none (h : noComp e = true) (t : Option Expr) (l : Nat) : swapsWith e t l env = pure false := by
  cases e <;> first | rfl | cases h
theorem sub_plain (h : noSlice e = true) : ∀ o i, subscripted e false o i = operate [o, i] (getItem o i) := by
  intro o i
  cases e <;> first | rfl | cases h
theorem set_none (h : noSet e = true) (x : Value) : foldedSetIterable e env x = pure x := by
  cases e <;> first | rfl | cases h
theorem mark_none (h : noSet e = true) (op : CmpOp) : behindInMarks op e = false := by
  cases e <;> first | rfl | cases h
theorem true_plain (h : tHead e = true) (whole : Sem Value) : isTrue e env whole = (do let v ← whole; standAt e.pos; holding [v] (truthy v)) := by
  cases e <;> first | rfl | cases h
end

/-! ### names -/
def gl (sc : Scope) (x : Str) : Bool := decide (sc.names.lookup x = some .globalImplicit)
def vis (sc : Scope) (x : Str) : Bool := match sc.names.lookup x with
  | some .local => true
  | some .cell => true
  | some .free => true
  | _ => false
def okN (x : Str) : Bool := !(x == ("__debug__" : Str)) && !(x == ("__classdict__" : Str)) && !(x == ("__name__" : Str))
/-- the module's int constants -/
structure MC where
  /-- the names of the slots -/
  N : List Str
  /-- the names of what may be called, by number -/
  nm : Nat → Option Str
section
variable (M : MC)
/-- e is the name of the slot i -/
def mV (i : Nat) (sc : Scope) (e : Expr) : Bool := vw (vName e) fun x => decide (M.N[i]? = some x) && vis sc x && okN x
def mK (sc : Scope) (e : Expr) : K → Bool
  | .int i => vw (vConst e) fun c => decide (c = .int i)
  | .non => vw (vConst e) fun c => decide (c = .none)
  | .bl b => vw (vConst e) fun c => decide (c = .bool b)
  | .str s => vw (vConst e) fun c => decide (c = .str s)
  | .g x i => vw (vName e) fun y => decide (y = x) && gl sc x && okN x && decide (cst.lookup x = some i)
  | .dK => vDict0 e
  | .dT => vDict0 e
/-- a call of a built-in name -/
def mC (x : Str) (sc : Scope) (e : Expr) (f : List Expr → Bool) : Bool := vw (vCall e) fun p => decide (p.1 = x) && gl sc x && f p.2
def a1 (f : Expr → Bool) (es : List Expr) : Bool := match es with
  | [a] => noStar a && f a
  | _ => false
def a2 (f g : Expr → Bool) (es : List Expr) : Bool := match es with
  | [a, b] => noStar a && noStar b && f a && g b
  | _ => false
def a3 (f g h : Expr → Bool) (es : List Expr) : Bool := match es with
  | [a, b, c] => noStar a && noStar b && noStar c && f a && g b && h c
  | _ => false
def tyN : Ty → Str
  | .int => "int"
  | .bool => "bool"
  | .tuple => "tuple"
  | .str => "str"
def isC (c : Const) (e : Expr) : Bool := vw (vConst e) fun d => decide (d = c)
def mU (sc : Scope) (e : Expr) (m : Expr → Bool) (ms : List Expr → Bool) : U → Bool
  | .neg => vw (vUn e) fun p => decide (p.1 = .USub) && m p.2
  | .isN => vw (vCmp e) fun p => decide (p.2.1 = .Is) && isC .none p.2.2 && m p.1
  | .notN => vw (vCmp e) fun p => decide (p.2.1 = .IsNot) && isC .none p.2.2 && m p.1
  | .notB b => vw (vCmp e) fun p => decide (p.2.1 = .IsNot) && isC (.bool b) p.2.2 && m p.1
  | .one => false
  | .not => vw (vUn e) fun p => decide (p.1 = .Not) && tOk p.2 && m p.2
  | .revT => vw (vSub e) fun p => vBack p.2 && m p.1
  | .len => mC "len" sc e (a1 m)
  | .abs => mC "abs" sc e (a1 m)
  | .maxL => mC "max" sc e (a1 m)
  | .listOf => mC "list" sc e (a1 m)
  | .tupOf => mC "tuple" sc e (a1 m)
  | .sorted => mC "sorted" sc e (a1 m)
  | .intOf => mC "int" sc e (a1 m)
  | .isInst t => mC "isinstance" sc e (a2 m fun b => vw (vName b) fun x => decide (x = tyN t) && gl sc (tyN t))
  | .bits => vw (vMeth e) fun p => decide (p.2.1 = "bit_length") && p.2.2.isEmpty && (vName p.1).isSome && m p.1
  | .tup => vw (vTup e) ms
  | .lst => vw (vLst e) ms
  | .call f => vw (M.nm f) fun x => okN x && mC x sc e ms
  | .inD n d => vw (vCmp e) fun p => decide (p.2.1 = if n then .NotIn else .In) && mV M d sc p.2.2 && m p.1
  | .getD d => vw (vSub e) fun p => mV M d sc p.1 && noSlice p.2 && m p.2
  | .listD d => mC "list" sc e (a1 (mV M d sc))
  | .seq => false
  | .rng1 => false
  | .enum => false
  | .rev => false
def opOf : AOp → Operator
  | .add => .Add
  | .sub => .Sub
  | .mul => .Mult
  | .fdiv => .FloorDiv
  | .mod => .Mod
  | .shl => .LShift
def cmOf : POp → CmpOp
  | .lt => .Lt
  | .le => .LtE
  | .gt => .Gt
  | .ge => .GtE
def mBi (sc : Scope) (e : Expr) (m n : Expr → Bool) (mb : BoolOp → List Expr → Bool) : B → Bool
  | .ar o => vw (vBin e) fun p => decide (p.2.1 = opOf o) && m p.1 && n p.2.2
  | .cat => vw (vBin e) fun p => decide (p.2.1 = .Add) && m p.1 && n p.2.2
  | .catT => vw (vBin e) fun p => decide (p.2.1 = .Add) && m p.1 && n p.2.2
  | .rep => vw (vBin e) fun p => decide (p.2.1 = .Mult) && m p.1 && n p.2.2
  | .cmp o => vw (vCmp e) fun p => decide (p.2.1 = cmOf o) && m p.1 && n p.2.2
  | .eq => vw (vCmp e) fun p => decide (p.2.1 = .Eq) && m p.1 && n p.2.2
  | .ne => vw (vCmp e) fun p => decide (p.2.1 = .NotEq) && m p.1 && n p.2.2
  | .inn k => vw (vCmp e) fun p => decide (p.2.1 = if k then .NotIn else .In) && noSet p.2.2 && m p.1 && n p.2.2
  | .and => vw (vBool e) fun p => match p with
    | (.And, a :: b :: r) => tOk a && m a && mb .And (b :: r)
    | _ => false
  | .or => vw (vBool e) fun p => match p with
    | (.Or, a :: b :: r) => tOk a && m a && mb .Or (b :: r)
    | _ => false
  | .ix => vw (vSub e) fun p => noSlice p.2 && m p.1 && n p.2
  | .upTo => vw (vSub e) fun p => m p.1 && vw (vUpTo p.2) n
  | .onFrom => vw (vSub e) fun p => m p.1 && vw (vFrom p.2) n
  | .max2 => mC "max" sc e (a2 m n)
  | .gcd => mC "gcd" sc e (a2 m n)
  | .index => vw (vMeth e) fun p => decide (p.2.1 = "index") && (vName p.1).isSome && m p.1 && a1 n p.2.2
  | .rng2 => false
  | .zip => false
  | .zipR => false
def mT3 (sc : Scope) (e : Expr) (m n l : Expr → Bool) : Tr → Bool
  | .chain o p => vw (vCmp2 e) fun q => decide (q.2.1 = cmOf o) && decide (q.2.2.2.1 = cmOf p) && noSet q.2.2.2.2 && m q.1 && n q.2.2.1 && l q.2.2.2.2
  | .ite => vw (vIf e) fun p => tOk p.1 && m p.1 && n p.2.1 && l p.2.2
  | .max3 => mC "max" sc e (a3 m n l)
/-- where a target's name may be stored: a local, or (cl) a cell -/
def mLoc (cl : Bool) (i : Nat) (sc : Scope) (e : Expr) : Bool := vw (vName e) fun x => decide (M.N[i]? = some x) && (decide (sc.names.lookup x = some .local) || (cl && decide (sc.names.lookup x = some .cell)))
def pair2 (f g : Expr → Bool) (es : List Expr) : Bool := match es with
  | [a, b] => noStar a && noStar b && f a && g b
  | _ => false
def mTg (cl : Bool) (sc : Scope) : T → Expr → Bool
  | .name i, e => mLoc M cl i sc e
  | .pair a b, e => vw (vTup e) (pair2 (mTg cl sc a) (mTg cl sc b))
def slotsT : T → List Nat
  | .name i => [i]
  | .pair a b => slotsT a ++ slotsT b
def isTupE (e : Expr) : Bool := (vTup e).isSome
def revArg (m : Expr → Bool) (sc : Scope) (e : Expr) : Bool := mC "reversed" sc e (a1 m)
/-- what is walked: o the kind, tg the target -/
def mIU (sc : Scope) (tg e : Expr) (m : Expr → Bool) : U → Bool
  | .seq => noSet e && m e
  | .rng1 => mC "range" sc e (a1 m)
  | .enum => isTupE tg && mC "enumerate" sc e (a1 m)
  | .rev => mC "reversed" sc e (a1 m)
  | _ => false
def mIB (sc : Scope) (tg e : Expr) (m n : Expr → Bool) : B → Bool
  | .rng2 => mC "range" sc e (a2 m n)
  | .zip => isTupE tg && mC "zip" sc e (a2 m n)
  | .zipR => isTupE tg && mC "zip" sc e (a2 (revArg m sc) (revArg n sc))
  | _ => false
mutual
/-- the code is the expression -/
def mE : C → Scope → Expr → Bool
  | .v i, sc, e => mV M i sc e
  | .k c, sc, e => mK sc e c
  | .nil, _, _ => false
  | .cons _ _, _, _ => false
  | .un o a, sc, e => mU M sc e (mE a sc) (mA a sc) o
  | .bi o a b, sc, e => mBi sc e (mE a sc) (mE b sc) (mB b sc) o
  | .tr o a b c, sc, e => mT3 sc e (mE a sc) (mE b sc) (mE c sc) o
  | .comp t i ifs x own, sc, e => vw (vComp e) fun p => match p with
    | (x', tg, it, ifs', scope) => mI i sc tg it && noSet it && L2.blkC M.N sc scope (own.map fun i => ((M.N[i]?).getD "", i)) && own.all (fun i => decide (i < M.N.length)) &&
        mTg M false (L2.relS scope sc) t tg && (slotsT t).all (fun i => own.contains i) && mA ifs (L2.relS scope sc) ifs' && Nat.ble ifs'.length 1 && ifs'.all tOk && mE x (L2.relS scope sc) x'
/-- .. the argument list -/
def mA : C → Scope → List Expr → Bool
  | .nil, _, es => es.isEmpty
  | .cons a r, sc, es => match es with
    | e :: es => noStar e && mE a sc e && mA r sc es
    | [] => false
  | .v _, _, _ => false
  | .k _, _, _ => false
  | .un _ _, _, _ => false
  | .bi _ _ _, _, _ => false
  | .tr _ _ _ _, _, _ => false
  | .comp _ _ _ _ _, _, _ => false
/-- .. the rest of an and, or -/
def mB : C → Scope → BoolOp → List Expr → Bool
  | .un o a, sc, _, es => (match o with | .one => true | _ => false) && (match es with
    | [e] => tOk e && mE a sc e
    | _ => false)
  | .bi o a b, sc, op, es => (match o, op with | .and, .And => true | .or, .Or => true | _, _ => false) && (match es with
    | e :: e2 :: r => tOk e && mE a sc e && mB b sc op (e2 :: r)
    | _ => false)
  | .v _, _, _, _ => false
  | .k _, _, _, _ => false
  | .nil, _, _, _ => false
  | .cons _ _, _, _, _ => false
  | .tr _ _ _ _, _, _, _ => false
  | .comp _ _ _ _ _, _, _, _ => false
/-- .. what is walked -/
def mI : C → Scope → Expr → Expr → Bool
  | .un o a, sc, tg, e => mIU sc tg e (mE a sc) o
  | .bi o a b, sc, tg, e => mIB sc tg e (mE a sc) (mE b sc) o
  | .v _, _, _, _ => false
  | .k _, _, _, _ => false
  | .nil, _, _, _ => false
  | .cons _ _, _, _, _ => false
  | .tr _ _ _ _, _, _, _ => false
  | .comp _ _ _ _ _, _, _, _ => false
end
end
end SW
set_option Elab.async false
set_option linter.all false
/-! Mat2: when a code is a text's statement. -/
namespace SW
open PySem

def vAsg : Stmt → Option (Expr × Expr)
  | .Assign [t] e _ => some (t, e)
  | _ => none
def vEx : Stmt → Option Expr
  | .Expr e _ => some e
  | _ => none
def vRet : Stmt → Option Expr
  | .Return (some e) _ => some e
  | _ => none
def vIfS : Stmt → Option (Expr × List Stmt × List Stmt)
  | .If c a b _ => some (c, a, b)
  | _ => none
def vWhl : Stmt → Option (Expr × List Stmt)
  | .While c b [] _ => some (c, b)
  | _ => none
def vFor : Stmt → Option (Expr × Expr × List Stmt)
  | .For t i b [] _ => some (t, i, b)
  | _ => none
def vBrk : Stmt → Bool
  | .Break _ => true
  | _ => false
def vRaise : Stmt → Bool
  | .Raise _ _ _ => true
  | _ => false
section
variable {e : Stmt}
theorem vAsg_some {t x : Expr} (h : vAsg e = some (t, x)) : ∃ p, e = .Assign [t] x p := by
  unfold vAsg at h
  split at h <;> cases h
  exact ⟨_, rfl⟩
theorem vEx_some {x : Expr} (h : vEx e = some x) : ∃ p, e = .Expr x p := by
  unfold vEx at h
  split at h <;> cases h
  exact ⟨_, rfl⟩
theorem vRet_some {x : Expr} (h : vRet e = some x) : ∃ p, e = .Return (some x) p := by
  unfold vRet at h
  split at h <;> cases h
  exact ⟨_, rfl⟩
theorem vIfS_some {c : Expr} {a b : List Stmt} (h : vIfS e = some (c, a, b)) : ∃ p, e = .If c a b p := by
  unfold vIfS at h
  split at h <;> cases h
  exact ⟨_, rfl⟩
theorem vWhl_some {c : Expr} {a : List Stmt} (h : vWhl e = some (c, a)) : ∃ p, e = .While c a [] p := by
  unfold vWhl at h
  split at h <;> cases h
  exact ⟨_, rfl⟩
theorem vFor_some {t i : Expr} {a : List Stmt} (h : vFor e = some (t, i, a)) : ∃ p, e = .For t i a [] p := by
  unfold vFor at h
  split at h <;> cases h
  exact ⟨_, rfl⟩
theorem vBrk_true (h : vBrk e = true) : ∃ p, e = .Break p := by
  unfold vBrk at h
  split at h <;> cases h
  exact ⟨_, rfl⟩
end
/-- the codes of an argument list -/
def one (es : C) (f : C → Bool) : Bool := match es with
  | .cons c .nil => f c
  | _ => false
def two (es : C) (f : C → C → Bool) : Bool := match es with
  | .cons c (.cons d .nil) => f c d
  | _ => false
def three (es : C) (f : C → C → C → Bool) : Bool := match es with
  | .cons c (.cons d (.cons e .nil)) => f c d e
  | _ => false
def isNil : C → Bool
  | .nil => true
  | _ => false
theorem one_some {es : C} {f : C → Bool} (h : one es f = true) : ∃ c, es = .cons c .nil ∧ f c = true := by
  unfold one at h
  split at h
  · exact ⟨_, rfl, h⟩
  · cases h
theorem two_some {es : C} {f : C → C → Bool} (h : two es f = true) : ∃ c d, es = .cons c (.cons d .nil) ∧ f c d = true := by
  unfold two at h
  split at h
  · exact ⟨_, _, rfl, h⟩
  · cases h
theorem three_some {es : C} {f : C → C → C → Bool} (h : three es f = true) : ∃ c d e, es = .cons c (.cons d (.cons e .nil)) ∧ f c d e = true := by
  unfold three at h
  split at h
  · exact ⟨_, _, _, rfl, h⟩
  · cases h
theorem isNil_true {es : C} (h : isNil es = true) : es = .nil := by cases es <;> first | rfl | cases h
def isComp : C → Bool
  | .comp _ _ _ _ _ => true
  | _ => false
/-- name = [.. for ..] -/
def compOk (sc : Scope) (tg e : Expr) : Bool := match tg, e with
  | .Name x px, .ListComp _ _ s p => !(decide (sc.names.lookup x = some .local)) || ((px.line == p.line) && !(s.names.any fun (n, k) => n == x && (k == .local || k == .cell)))
  | _, _ => false
def noFold (vs : List Expr) : Bool := !(vs.all (foldedForSure 8)) && !(vs.all (constantsAlone 8))
/-- the numbers of grown and led -/
structure Gr where
  f : Nat
  l : Nat
section
variable (M : MC) (g : Gr)
def sto (i : Nat) (sc : Scope) (t : Expr) : Bool := vw (vName t) fun x => decide (M.N[i]? = some x) && decide (sc.names.lookup x = some .local)
def mP (sc : Scope) (st : Stmt) (es : C) : P → Bool
  | .asg i => vw (vAsg st) fun p => mLoc M true i sc p.1 && one es fun c => mE M c sc p.2 && (noComp p.2 || (isComp c && compOk sc p.1 p.2))
  | .asgT t => vw (vAsg st) fun p => isTupE p.1 && mTg M true sc t p.1 && one es fun c => mE M c sc p.2 && noComp p.2 && (match vTup p.2 with | some vs => vs.all (foldedForSure 8) | none => true)
  | .par2 i j => vw (vAsg st) fun p => vw (vTup p.1) fun ts => vw (vTup p.2) fun vs => match ts, vs with
    | [x, y], [a, b] => sto M i sc x && sto M j sc y && decide (i ≠ j) && (y.pos.line == x.pos.line) && noStar a && noStar b && noFold [a, b] && two es fun c d => mE M c sc a && mE M d sc b
    | _, _ => false
  | .par3 i j k => vw (vAsg st) fun p => vw (vTup p.1) fun ts => vw (vTup p.2) fun vs => match ts, vs with
    | [x, y, z], [a, b, c] => sto M i sc x && sto M j sc y && sto M k sc z && decide (i ≠ j) && decide (i ≠ k) && decide (j ≠ k) && (y.pos.line == x.pos.line) && (z.pos.line == x.pos.line) && noStar a && noStar b && noStar c && noFold [a, b, c] &&
      three es fun c1 c2 c3 => mE M c1 sc a && mE M c2 sc b && mE M c3 sc c
    | _, _ => false
  | .setL i => vw (vAsg st) fun p => vw (vSub p.1) fun q => mV M i sc q.1 && noSlice q.2 && noComp p.2 && two es fun c d => mE M c sc p.2 && mE M d sc q.2
  | .setD i => vw (vAsg st) fun p => vw (vSub p.1) fun q => mV M i sc q.1 && noSlice q.2 && noComp p.2 && two es fun c d => mE M c sc p.2 && mE M d sc q.2
  | .append i => vw (vEx st) fun e => vw (vMeth e) fun q => decide (q.2.1 = "append") && mV M i sc q.1 && one es fun c => a1 (mE M c sc) q.2.2
  | .insert i => vw (vEx st) fun e => vw (vMeth e) fun q => decide (q.2.1 = "insert") && mV M i sc q.1 && two es fun c d => a2 (mE M c sc) (mE M d sc) q.2.2
  | .reverse i => vw (vEx st) fun e => vw (vMeth e) fun q => decide (q.2.1 = "reverse") && mV M i sc q.1 && isNil es && q.2.2.isEmpty
  | .grow f l i => vw (vEx st) fun e => decide (f = g.f) && decide (l = g.l) && vw (M.nm f) fun n => okN n && mC n sc e fun xs => two es fun c d => a3 (mE M c sc) (mV M i sc) (mE M d sc) xs
  | .expr => vw (vEx st) fun e => noComp e && one es fun c => mE M c sc e
  | .ret => vw (vRet st) fun e => one es fun c => mE M c sc e
  | .brk => vBrk st
  | .raise => vRaise st
mutual
/-- the code is the statement -/
def mS : S → Scope → Stmt → Bool
  | .prim p es, sc, st => mP M g sc st es p
  | .retv i, sc, st => vw (vRet st) fun e => mV M i sc e
  | .ifs c a b, sc, st => vw (vIfS st) fun p => tOk p.1 && mE M c sc p.1 && mSs a sc p.2.1 && mSs b sc p.2.2
  | .whl c b, sc, st => vw (vWhl st) fun p => tOk p.1 && mE M c sc p.1 && mSs b sc p.2
  | .fr t i b, sc, st => vw (vFor st) fun p => noSet p.2.1 && mTg M true sc t p.1 && mI M i sc p.1 p.2.1 && mSs b sc p.2.2
  | .frz _ s, sc, st => mS s sc st
  | .skip, _, _ => false
  | .seq _ _, _, _ => false
/-- .. the suite -/
def mSs : S → Scope → List Stmt → Bool
  | .skip, _, sts => sts.isEmpty
  | .seq s r, sc, sts => match sts with
    | st :: rest => mS s sc st && mSs r sc rest
    | [] => false
  | .prim _ _, _, _ => false
  | .retv _, _, _ => false
  | .ifs _ _ _, _, _ => false
  | .whl _ _, _, _ => false
  | .fr _ _ _, _, _ => false
  | .frz _ _, _, _ => false
end
end
end SW
set_option Elab.async false
set_option linter.all false
set_option maxRecDepth 100000
/-! Rep: how data stands in the abstract heap; S is the part of the heap that no longer changes. -/
namespace SW
open PySem PySem.Spec PyProof.Rows L2

/-! ### data in a heap -/
mutual
inductive Dq (S : Hp) : V → PyData → Prop
  | non : Dq S .non .none
  | bl (b : Bool) : Dq S (.bl b) (.bool b)
  | int (i : Int) : Dq S (.int i) (.int i)
  | str (x : Str) : Dq S (.str x) (.str x)
  | lst {a : Addr} {vs : List V} {ds : List PyData} : S a = some (.lst vs) → DqA S vs ds → Dq S (.ref a) (.list ds)
  | tup {a : Addr} {vs : List V} {ds : List PyData} : S a = some (.tup vs) → DqA S vs ds → Dq S (.ref a) (.tuple ds)
inductive DqA (S : Hp) : List V → List PyData → Prop
  | nil : DqA S [] []
  | cons {v : V} {vs : List V} {d : PyData} {ds : List PyData} : Dq S v d → DqA S vs ds → DqA S (v :: vs) (d :: ds)
end
section
variable {S S' H : Hp}
mutual
theorem Dq.mono (h : Same S S') : ∀ {v : V} {d : PyData}, Dq S v d → Dq S' v d
  | _, _, .non => .non
  | _, _, .bl b => .bl b
  | _, _, .int i => .int i
  | _, _, .str x => .str x
  | _, _, .lst e r => .lst (h _ _ e) (DqA.mono h r)
  | _, _, .tup e r => .tup (h _ _ e) (DqA.mono h r)
theorem DqA.mono (h : Same S S') : ∀ {vs : List V} {ds : List PyData}, DqA S vs ds → DqA S' vs ds
  | _, _, .nil => .nil
  | _, _, .cons a r => .cons (Dq.mono h a) (DqA.mono h r)
end
mutual
theorem Dq.dp {K : PySem.W.Frag} : ∀ {v : V} {d : PyData}, Dq S v d → Dp K S v d
  | _, _, .non => .non
  | _, _, .bl b => .bl b
  | _, _, .int i => .int i
  | _, _, .str x => .str x
  | _, _, .lst e r => .lst (SqL.of e) (DqA.dp r)
  | _, _, .tup e r => .tup (SqT.of e) (DqA.dp r)
theorem DqA.dp {K : PySem.W.Frag} : ∀ {vs : List V} {ds : List PyData}, DqA S vs ds → DpAll K S vs ds
  | _, _, .nil => .nil
  | _, _, .cons a r => .cons (Dq.dp a) (DqA.dp r)
end
theorem DqA.length : ∀ {vs : List V} {ds : List PyData}, DqA S vs ds → vs.length = ds.length
  | _, _, .nil => rfl
  | _, _, .cons _ r => congrArg Nat.succ (DqA.length r)
theorem DqA.append : ∀ {vs ws : List V} {ds es : List PyData}, DqA S vs ds → DqA S ws es → DqA S (vs ++ ws) (ds ++ es)
  | _, _, _, _, .nil, s => s
  | _, _, _, _, .cons a r, s => .cons a (DqA.append r s)
theorem DqA.get : ∀ {vs : List V} {ds : List PyData} {i : Nat} {d : PyData}, DqA S vs ds → ds[i]? = some d → ∃ v, vs[i]? = some v ∧ Dq S v d
  | _, _, _, _, .nil, e => by simp at e
  | _, _, 0, _, .cons a _, e => by simp at e; subst e; exact ⟨_, rfl, a⟩
  | _, _, i + 1, d, .cons _ r, e => by
    obtain ⟨v, h1, h2⟩ := DqA.get (i := i) (d := d) r (by simpa using e)
    exact ⟨v, by simpa using h1, h2⟩
theorem DqA.getV : ∀ {vs : List V} {ds : List PyData} {i : Nat} {v : V}, DqA S vs ds → vs[i]? = some v → ∃ d, ds[i]? = some d ∧ Dq S v d
  | _, _, _, _, .nil, e => by simp at e
  | _, _, 0, _, .cons a _, e => by simp at e; subst e; exact ⟨_, rfl, a⟩
  | _, _, i + 1, v, .cons _ r, e => by
    obtain ⟨d, h1, h2⟩ := DqA.getV (i := i) (v := v) r (by simpa using e)
    exact ⟨d, by simpa using h1, h2⟩
theorem DqA.set {v : V} {d : PyData} (a : Dq S v d) : ∀ {vs : List V} {ds : List PyData} (i : Nat), DqA S vs ds → DqA S (vs.set i v) (ds.set i d)
  | _, _, _, .nil => .nil
  | _, _, 0, .cons _ r => .cons a r
  | _, _, i + 1, .cons b r => .cons b (DqA.set a i r)
theorem DqA.take : ∀ {vs : List V} {ds : List PyData} (n : Nat), DqA S vs ds → DqA S (vs.take n) (ds.take n)
  | _, _, 0, _ => .nil
  | _, _, _ + 1, .nil => .nil
  | _, _, n + 1, .cons a r => .cons a (DqA.take n r)
theorem DqA.drop : ∀ {vs : List V} {ds : List PyData} (n : Nat), DqA S vs ds → DqA S (vs.drop n) (ds.drop n)
  | _, _, 0, r => r
  | _, _, _ + 1, .nil => .nil
  | _, _, n + 1, .cons _ r => DqA.drop n r
theorem DqA.reverse : ∀ {vs : List V} {ds : List PyData}, DqA S vs ds → DqA S vs.reverse ds.reverse
  | _, _, .nil => .nil
  | _, _, .cons a r => by
    rw [List.reverse_cons, List.reverse_cons]
    exact (DqA.reverse r).append (.cons a .nil)
theorem DqA.replicate {v : V} {d : PyData} (a : Dq S v d) : ∀ n : Nat, DqA S (List.replicate n v) (List.replicate n d)
  | 0 => .nil
  | n + 1 => .cons a (DqA.replicate a n)
theorem DqA.intsO : ∀ {vs : List V} {ds : List PyData} {is : List Int}, DqA S vs ds → SW.intsO ds = some is → vs = is.map V.int ∧ ds = is.map PyData.int
  | _, _, _, .nil, e => by cases e; exact ⟨rfl, rfl⟩
  | _, _, is, .cons (v := v) (d := d) a r, e => by
    unfold SW.intsO at e
    cases hi : intOf d with
    | none => rw [hi] at e; cases e
    | some i =>
      rw [hi] at e
      cases intOf_some hi
      cases a
      rename_i ds'
      cases hr : SW.intsO ds' with
      | none => simp only [hr] at e; cases e
      | some l =>
        simp only [hr] at e
        cases e
        obtain ⟨h1, h2⟩ := DqA.intsO r hr
        exact ⟨by rw [h1]; rfl, by rw [h2]; rfl⟩
theorem DqA.of_ints : ∀ is : List Int, DqA S (is.map V.int) (is.map PyData.int)
  | [] => .nil
  | i :: r => .cons (.int i) (DqA.of_ints r)
end

/-! ### dicts -/
abbrev DK (S : Hp) : List (Key × V) → List (Int × PyData) → Prop := Paired fun p q => p.1 = Sum.inl q.1 ∧ Dq S p.2 q.2
abbrev DT (S : Hp) : List (List Key × V) → List (List Int × PyData) → Prop := Paired fun p q => p.1 = q.1.map Sum.inl ∧ Dq S p.2 q.2

/-! ### what a slot's value is, in the heap -/
def ownd : SV → Bool
  | .own _ => true
  | .odic _ => true
  | .odit _ => true
  | _ => false
def Rp (S H : Hp) (v : V) : SV → Prop
  | .dat d => Dq S v d
  | .own xs => ∃ a vs, v = .ref a ∧ S a = none ∧ H a = some (.lst vs) ∧ DqA S vs xs
  | .dic kvs => ∃ a kv, v = .ref a ∧ S a = some (.dK kv) ∧ DK S kv kvs
  | .odic kvs => ∃ a kv, v = .ref a ∧ S a = none ∧ H a = some (.dK kv) ∧ DK S kv kvs
  | .odit kvs => ∃ a kv, v = .ref a ∧ S a = none ∧ H a = some (.dT kv) ∧ DT S kv kvs
  | .many _ => False
/-- (S, H) grown to (S', H'): nothing that stood has changed; what is new in S' was in S' or is new -/
structure Ext (S H S' H' : Hp) : Prop where
  ss : Same S S'
  hh : Same H H'
  sh : Same S' H'
  fr : ∀ a, S' a ≠ none → S a ≠ none ∨ H a = none
section
variable {S H S' H' S'' H'' : Hp} {v : V} {r : SV} {d : PyData}
theorem Ext.refl (h : Same S H) : Ext S H S H := ⟨Same.refl _, Same.refl _, h, fun _ h => .inl h⟩
theorem Ext.trans (a : Ext S H S' H') (b : Ext S' H' S'' H'') : Ext S H S'' H'' :=
  ⟨a.ss.trans b.ss, a.hh.trans b.hh, b.sh, fun x hx => (b.fr x hx).elim (a.fr x) fun z => .inr (a.hh.free z)⟩
/-- what is not in S and stands in H stays out of S' -/
theorem Ext.out (e : Ext S H S' H') {a : Addr} {o : HO} (h1 : S a = none) (h2 : H a = some o) : S' a = none := by
  cases q : S' a with
  | none => rfl
  | some x =>
    rcases e.fr a (by rw [q]; exact nofun) with z | z
    · exact absurd h1 z
    · rw [h2] at z; cases z
theorem Rp.ext (e : Ext S H S' H') : ∀ {r : SV}, Rp S H v r → Rp S' H' v r := fun {r} h => by
  cases r with
  | dat d => exact Dq.mono e.ss h
  | own xs => obtain ⟨a, vs, h1, h2, h3, h4⟩ := h; exact ⟨a, vs, h1, e.out h2 h3, e.hh _ _ h3, h4.mono e.ss⟩
  | dic kvs => obtain ⟨a, kv, h1, h2, h4⟩ := h; exact ⟨a, kv, h1, e.ss _ _ h2, Paired.mapP h4 fun _ _ z => ⟨z.1, z.2.mono e.ss⟩⟩
  | odic kvs => obtain ⟨a, kv, h1, h2, h3, h4⟩ := h; exact ⟨a, kv, h1, e.out h2 h3, e.hh _ _ h3, Paired.mapP h4 fun _ _ z => ⟨z.1, z.2.mono e.ss⟩⟩
  | odit kvs => obtain ⟨a, kv, h1, h2, h3, h4⟩ := h; exact ⟨a, kv, h1, e.out h2 h3, e.hh _ _ h3, Paired.mapP h4 fun _ _ z => ⟨z.1, z.2.mono e.ss⟩⟩
  | many _ => exact h
/-- an owned value's object -/
theorem Rp.addr (o : ownd r = true) (h : Rp S H v r) : ∃ a x, v = .ref a ∧ S a = none ∧ H a = some x := by
  cases r with
  | own xs => obtain ⟨a, vs, h1, h2, h3, _⟩ := h; exact ⟨a, _, h1, h2, h3⟩
  | odic kvs => obtain ⟨a, kv, h1, h2, h3, _⟩ := h; exact ⟨a, _, h1, h2, h3⟩
  | odit kvs => obtain ⟨a, kv, h1, h2, h3, _⟩ := h; exact ⟨a, _, h1, h2, h3⟩
  | dat _ => cases o
  | dic _ => cases o
  | many _ => cases o
end
/-- a new object put into S: it was new for H -/
theorem same_new {H : Hp} {p : Addr} {o : HO} (h : H p = none) : Same H (upd H p o) := fun b x e => by
  rw [upd_ne (ne_of_none e h)]
  exact e
theorem Ext.new {S H : Hp} (h : Same S H) {p : Addr} (o : HO) (hp : H p = none) : Ext S H (upd S p o) (upd H p o) := by
  have sp : S p = none := h.free hp
  refine ⟨same_new sp, same_new hp, fun b x e => ?_, fun a ha => ?_⟩
  · by_cases q : b = p
    · subst q; rw [upd_same] at e ⊢; exact e
    · rw [upd_ne q] at e ⊢; exact h _ _ e
  · by_cases q : a = p
    · subst q; exact .inr hp
    · rw [upd_ne q] at ha; exact .inl ha
/-- .. put into H alone -/
theorem Ext.newH {S H : Hp} (h : Same S H) {p : Addr} (o : HO) (hp : H p = none) : Ext S H S (upd H p o) :=
  ⟨Same.refl _, same_new hp, h.trans (same_new hp), fun _ z => .inl z⟩
/-- an owned list's object taken into S -/
theorem Ext.froz {S H S' H' : Hp} (e : Ext S H S' H') {a : Addr} {o : HO} (h1 : S' a = none) (h2 : H' a = some o) (h3 : H a = none) : Ext S H (upd S' a o) H' :=
  ⟨e.ss.trans (same_new h1), e.hh, fun b x q => by
    by_cases z : b = a
    · subst z; rw [upd_same] at q; cases q; exact h2
    · rw [upd_ne z] at q; exact e.sh _ _ q, fun b hb => by
    by_cases z : b = a
    · subst z; exact .inr h3
    · rw [upd_ne z] at hb; exact e.fr b hb⟩

/-! ### the slots -/
/-- O: which objects may be owned -/
structure EnR (O : Addr → Prop) (S H : Hp) (σ : L2.St) (ρ : En) : Prop where
  len : ρ.length = σ.length
  sub : Same S H
  at_ : ∀ (i : Nat) (r : SV), ρ[i]? = some (some r) → ∃ v, σ[i]? = some (some v) ∧ Rp S H v r
  dis : ∀ (i j : Nat) (r r' : SV) (a : Addr), i ≠ j → ρ[i]? = some (some r) → ρ[j]? = some (some r') → ownd r = true → ownd r' = true → σ[i]? = some (some (.ref a)) → σ[j]? ≠ some (some (.ref a))
  own : ∀ (i : Nat) (r : SV) (a : Addr), ρ[i]? = some (some r) → ownd r = true → σ[i]? = some (some (.ref a)) → O a
section
variable {O : Addr → Prop} {S H S' H' : Hp} {σ : L2.St} {ρ : En} {v : V} {r : SV} {d : PyData} {i : Nat}
theorem EnR.ext (I : EnR O S H σ ρ) (e : Ext S H S' H') : EnR O S' H' σ ρ :=
  ⟨I.len, e.sh, fun i r h => let ⟨v, h1, h2⟩ := I.at_ i r h; ⟨v, h1, h2.ext e⟩, I.dis, I.own⟩
theorem get_set {α : Type} {l : List α} {i j : Nat} {x y : α} (h : (l.set i x)[j]? = some y) : (j = i ∧ y = x ∧ i < l.length) ∨ (j ≠ i ∧ l[j]? = some y) := by
  by_cases e : j = i
  · subst e
    have hl : j < l.length := by
      have := (List.getElem?_eq_some_iff.mp h).1
      rwa [List.length_set] at this
    rw [List.getElem?_set_self hl] at h
    cases h
    exact .inl ⟨rfl, rfl, hl⟩
  · rw [List.getElem?_set_ne (Ne.symm e)] at h
    exact .inr ⟨e, h⟩
/-- a slot stored: a value that is no slot's own -/
theorem EnR.put (I : EnR O S H σ ρ) (i : Nat) (h : Rp S H v r) (hO : ∀ a : Addr, ownd r = true → v = .ref a → O a) (hd : ∀ (a : Addr) (j : Nat) (r' : SV), ownd r = true → v = .ref a → j ≠ i → ρ[j]? = some (some r') → ownd r' = true → σ[j]? ≠ some (some (.ref a))) :
    EnR O S H (σ.set i (some v)) (ρ.set i (some r)) := by
  have hl : (i < ρ.length) = (i < σ.length) := by rw [I.len]
  refine ⟨by simp [I.len], I.sub, fun j r' e => ?_, fun j k r1 r2 a ne e1 e2 o1 o2 e3 e4 => ?_, fun j r' a e o e2 => ?_⟩
  · rcases get_set e with ⟨rfl, e, l⟩ | ⟨n, e⟩
    · cases e
      rw [hl] at l
      exact ⟨v, List.getElem?_set_self l, h⟩
    · rw [List.getElem?_set_ne (Ne.symm n)]
      exact I.at_ j r' e
  · rcases get_set e1 with ⟨rfl, f1, l1⟩ | ⟨n1, f1⟩
    · cases f1
      rw [hl] at l1
      rw [List.getElem?_set_self l1] at e3
      rcases get_set e2 with ⟨rfl, _⟩ | ⟨n2, f2⟩
      · exact ne rfl
      · rw [List.getElem?_set_ne (Ne.symm n2)] at e4
        exact hd a k r2 o1 (Option.some.inj (Option.some.inj e3)) n2 f2 o2 e4
    · rw [List.getElem?_set_ne (Ne.symm n1)] at e3
      rcases get_set e2 with ⟨rfl, f2, l2⟩ | ⟨n2, f2⟩
      · cases f2
        rw [hl] at l2
        rw [List.getElem?_set_self l2] at e4
        exact hd a j r1 o2 (Option.some.inj (Option.some.inj e4)) n1 f1 o1 e3
      · rw [List.getElem?_set_ne (Ne.symm n2)] at e4
        exact I.dis j k r1 r2 a ne f1 f2 o1 o2 e3 e4
  · rcases get_set e with ⟨rfl, e, l⟩ | ⟨n, e⟩
    · cases e
      rw [hl] at l
      rw [List.getElem?_set_self l] at e2
      exact hO a o (Option.some.inj (Option.some.inj e2))
    · rw [List.getElem?_set_ne (Ne.symm n)] at e2
      exact I.own j r' a e o e2
theorem EnR.putD (I : EnR O S H σ ρ) (i : Nat) (h : Dq S v d) : EnR O S H (σ.set i (some v)) (ρ.set i (some (.dat d))) :=
  I.put i (r := .dat d) h (fun _ z => nomatch z) (fun _ _ _ z => nomatch z)
/-- slots forgotten -/
theorem EnR.weak {ρ' : En} {σ' : L2.St} (I : EnR O S H σ ρ) (hl : ρ'.length = σ'.length) (h : ∀ (i : Nat) (r : SV), ρ'[i]? = some (some r) → ρ[i]? = some (some r) ∧ σ'[i]? = σ[i]?) : EnR O S H σ' ρ' :=
  ⟨hl, I.sub, fun i r e => by rw [(h i r e).2]; exact I.at_ i r (h i r e).1, fun i j r r' a ne e1 e2 o1 o2 e3 => by
    rw [(h i r e1).2] at e3; rw [(h j r' e2).2]; exact I.dis i j r r' a ne (h i r e1).1 (h j r' e2).1 o1 o2 e3, fun i r a e o e2 => by rw [(h i r e).2] at e2; exact I.own i r a (h i r e).1 o e2⟩
theorem EnR.wipe (I : EnR O S H σ ρ) (vs : List Nat) : EnR O S H (L2.wipe σ vs) (wipeE ρ vs) := by
  induction vs with
  | nil => exact I
  | cons v vs ih =>
    have e1 : L2.wipe σ (v :: vs) = (L2.wipe σ vs).set v none := rfl
    have e2 : wipeE ρ (v :: vs) = (wipeE ρ vs).set v none := put_eq _ _ _
    rw [e1, e2]
    refine ih.weak (by simp [ih.len]) fun i r e => ?_
    rcases get_set e with ⟨_, e, _⟩ | ⟨n, e⟩
    · cases e
    · exact ⟨e, List.getElem?_set_ne (Ne.symm n)⟩
theorem EnR.slot (I : EnR O S H σ ρ) (h : slot ρ i = some r) : ∃ v, σ[i]? = some (some v) ∧ Rp S H v r := I.at_ i r (slot_some h)
end
end SW
set_option Elab.async false
set_option linter.all false
set_option maxRecDepth 100000
/-! Snd1: the readings of codes; the rules for expressions. -/
namespace SW
open PySem PySem.Spec PyProof.Rows L2

/-- what the rules lean on: sc the scope that runs; cl: cells may be stored -/
structure XOk (M : MC) (X : Cx) (sc : Scope) (cl : Bool) : Prop where
  hN : X.N = M.N
  nd : M.N.Nodup
  hsc : X.env.scope = sc
  calm : X.calm = true
  units : X.A.units + 66 < cLine
  fn : cl = true → ∀ x, X.fn x = true
  blt : ∀ x ∈ bltN, X.mg x = none
  gcd : X.mg "gcd" = some (.builtin "math.gcd")
  con : ∀ x i, cst.lookup x = some i → ∃ t, X.mg x = some (.int i t)

/-! ### results -/
/-- .. an owned one is new for H0 -/
def RpN (H0 S H : Hp) (v : V) (r : SV) : Prop := Rp S H v r ∧ ∀ a, ownd r = true → v = .ref a → H0 a = none
/-- data that is looked at: it may be an owned list -/
def Pk (S H : Hp) (v : V) (d : PyData) : Prop := Dq S v d ∨ ∃ a vs xs, v = .ref a ∧ d = .list xs ∧ H a = some (.lst vs) ∧ DqA S vs xs
structure Stab (R : Hp → Hp → Hp → V → Prop) : Prop where
  ext : ∀ {H0 S H S' H' : Hp} {v : V}, R H0 S H v → Ext S H S' H' → R H0 S' H' v
  low : ∀ {H0 H1 S H : Hp} {v : V}, R H1 S H v → Same H0 H1 → R H0 S H v
theorem stC (r : SV) : Stab fun H0 S H v => RpN H0 S H v r := ⟨fun h e => ⟨h.1.ext e, h.2⟩, fun h s => ⟨h.1, fun a o e => s.free (h.2 a o e)⟩⟩
theorem stD (d : PyData) : Stab fun _ S _ v => Dq S v d := ⟨fun h e => h.mono e.ss, fun h _ => h⟩
theorem Pk.ext {S H S' H' : Hp} {v : V} {d : PyData} (h : Pk S H v d) (e : Ext S H S' H') : Pk S' H' v d := by
  rcases h with h | ⟨a, vs, xs, h1, h2, h3, h4⟩
  · exact .inl (h.mono e.ss)
  · exact .inr ⟨a, vs, xs, h1, h2, e.hh _ _ h3, h4.mono e.ss⟩
theorem stP (d : PyData) : Stab fun _ S H v => Pk S H v d := ⟨fun h e => h.ext e, fun h _ => h⟩
theorem stM (r : SV) : Stab fun _ S H v => Rp S H v r := ⟨fun h e => h.ext e, fun h _ => h⟩
/-- the reading t gives R from the slots ρ -/
def Gives (t : TE) (σ : L2.St) (ρ : En) (R : Hp → Hp → Hp → V → Prop) : Prop :=
  ∀ (O : Addr → Prop) (S H : Hp) (Q : VK), EnR O S H σ ρ → (∀ v S' H', Ext S H S' H' → R H S' H' v → Q v H') → t σ H Q
section
variable {σ : L2.St} {ρ : En} {ta tb tc : TE} {R1 R2 R3 : Hp → Hp → Hp → V → Prop} {O : Addr → Prop} {S H : Hp}
theorem gives2 (ga : Gives ta σ ρ R1) (gb : Gives tb σ ρ R2) (s1 : Stab R1) (s2 : Stab R2) (I : EnR O S H σ ρ) {K : V → V → Hp → Prop} (h : ∀ x y S2 H2, Ext S H S2 H2 → R1 H S2 H2 x → R2 H S2 H2 y → K x y H2) :
    ta σ H fun x H1 => tb σ H1 fun y H2 => K x y H2 :=
  ga O S H _ I fun x S1 H1 e1 r1 => gb O S1 H1 _ (I.ext e1) fun y S2 H2 e2 r2 => h x y S2 H2 (e1.trans e2) (s1.ext r1 e2) (s2.low r2 e1.hh)
theorem gives3 (ga : Gives ta σ ρ R1) (gb : Gives tb σ ρ R2) (gc : Gives tc σ ρ R3) (s1 : Stab R1) (s2 : Stab R2) (s3 : Stab R3) (I : EnR O S H σ ρ) {K : V → V → V → Hp → Prop}
    (h : ∀ x y z S2 H2, Ext S H S2 H2 → R1 H S2 H2 x → R2 H S2 H2 y → R3 H S2 H2 z → K x y z H2) : ta σ H fun x H1 => tb σ H1 fun y H2 => tc σ H2 fun z H3 => K x y z H3 :=
  gives2 ga gb s1 s2 I fun x y S2 H2 e r1 r2 => gc O S2 H2 _ (I.ext e) fun z S3 H3 e3 r3 => h x y z S3 H3 (e.trans e3) (s1.ext r1 e3) (s2.ext r2 e3) (s3.low r3 e.hh)
end
theorem peW {X : Cx} {e : Expr} {t t' : TE} (h : PE X e t) (w : ∀ σ H Q, t' σ H Q → t σ H Q) : PE X e t' := ⟨fun pins s σ H Q I q => h.run pins s σ H Q I (w σ H Q q)⟩
theorem ptW {X : Cx} {e : Expr} {t t' : TT} (h : PT X e t) (w : ∀ σ H Q, t' σ H Q → t σ H Q) : PT X e t' := ⟨fun pins s σ H Q I q => h.run pins s σ H Q I (w σ H Q q)⟩
theorem pwW {X : Cx} {e : Expr} {t t' : TT} (h : PW X e t) (w : ∀ σ H Q, t' σ H Q → t σ H Q) : PW X e t' := ⟨fun wh pins s σ H Q I q => h.run wh pins s σ H Q I (w σ H Q q)⟩
theorem paW {X : Cx} {e : List Expr} {t t' : TA} (h : PA X e t) (w : ∀ σ H Q, t' σ H Q → t σ H Q) : PA X e t' := ⟨fun pos pins s σ H Q I q => h.run pos pins s σ H Q I (w σ H Q q)⟩
theorem piW {X : Cx} {tg e : Expr} {t t' : TI} (h : PI X tg e t) (w : ∀ σ H Q, t' σ H Q → t σ H Q) : PI X tg e t' := ⟨fun pins s σ H Q I q => h.run pins s σ H Q I (w σ H Q q)⟩
theorem psW {X : Cx} {e : Stmt} {t t' : TS} (h : PS X e t) (w : ∀ D σ H, t' D σ H → t D σ H) : PS X e t' := ⟨fun pins s σ H D I q => h.run pins s σ H D I (w D σ H q)⟩
theorem pssW {X : Cx} {e : List Stmt} {t t' : TS} (h : PSs X e t) (w : ∀ D σ H, t' D σ H → t D σ H) : PSs X e t' := ⟨fun pins s σ H D I q => h.run pins s σ H D I (w D σ H q)⟩

/-! ### the readings of a code -/
/-- its value, as it comes -/
def rdC (F : FT) (c : C) : TE := fun σ H Q => ∃ O S ρ r, EnR O S H σ ρ ∧ evC F c false ρ = some r ∧ ∀ v S' H', Ext S H S' H' → RpN H S' H' v r → Q v H'
/-- .. as data (an owned list taken into S) -/
def rdD (F : FT) (c : C) : TE := fun σ H Q => ∃ O S ρ r d, EnR O S H σ ρ ∧ evC F c false ρ = some r ∧ datOf r = some d ∧ ∀ v S' H', Ext S H S' H' → Dq S' v d → Q v H'
/-- .. as an argument -/
def rdM (F : FT) (c : C) : TE := fun σ H Q => ∃ O S ρ r r', EnR O S H σ ρ ∧ evC F c false ρ = some r ∧ r.arg = some r' ∧ ∀ v S' H', Ext S H S' H' → Rp S' H' v r' → Q v H'
/-- .. looked at -/
def rdP (F : FT) (c : C) : TE := fun σ H Q => ∃ O S ρ r d, EnR O S H σ ρ ∧ evC F c true ρ = some r ∧ datOf r = some d ∧ ∀ v S' H', Ext S H S' H' → Pk S' H' v d → Q v H'
def rdT (F : FT) (c : C) : TT := fun σ H Q => ∃ O S ρ b, EnR O S H σ ρ ∧ evC F c false ρ = some (.dat (.bool b)) ∧ ∀ S' H', Ext S H S' H' → Q b H'
/-- an argument list -/
def rdA (F : FT) (c : C) : TA := fun σ H Q => ∃ O S ρ as as', EnR O S H σ ρ ∧ evC F c false ρ = some (.many as) ∧ argAll as = some as' ∧ ∀ vs S' H', Ext S H S' H' → Paired (Rp S' H') vs as' → Q vs H'
section
variable {F : FT} {c : C} {σ : L2.St} {ρ : En} {r r' : SV} {d : PyData} {X : Cx} {e : Expr}
theorem gC (h : evC F c false ρ = some r) : Gives (rdC F c) σ ρ fun H0 S H v => RpN H0 S H v r := fun O S H Q I q => ⟨O, S, ρ, r, I, h, q⟩
theorem gD (h : evC F c false ρ = some r) (hd : datOf r = some d) : Gives (rdD F c) σ ρ fun _ S _ v => Dq S v d := fun O S H Q I q => ⟨O, S, ρ, r, d, I, h, hd, q⟩
theorem gM (h : evC F c false ρ = some r) (hd : r.arg = some r') : Gives (rdM F c) σ ρ fun _ S H v => Rp S H v r' := fun O S H Q I q => ⟨O, S, ρ, r, r', I, h, hd, q⟩
theorem gP (h : evC F c true ρ = some r) (hd : datOf r = some d) : Gives (rdP F c) σ ρ fun _ S H v => Pk S H v d := fun O S H Q I q => ⟨O, S, ρ, r, d, I, h, hd, q⟩
/-- an owned list's object taken into S -/
theorem froz_own {S H S' H' : Hp} {v : V} {xs : List PyData} (e : Ext S H S' H') (h : RpN H S' H' v (.own xs)) : ∃ S'', Ext S H S'' H' ∧ Same S' S'' ∧ Dq S'' v (.list xs) := by
  obtain ⟨⟨a, vs, rfl, h1, h2, h3⟩, h4⟩ := h
  have sn := same_new (o := .lst vs) h1
  exact ⟨upd S' a (.lst vs), e.froz h1 h2 (h4 a rfl rfl), sn, .lst upd_same (h3.mono sn)⟩
theorem froz_dat {S H S' H' : Hp} {v : V} (e : Ext S H S' H') (h : RpN H S' H' v r) (hd : datOf r = some d) : ∃ S'', Ext S H S'' H' ∧ Same S' S'' ∧ Dq S'' v d := by
  rcases datOf_some hd with rfl | ⟨xs, rfl, rfl⟩
  · exact ⟨S', e, Same.refl _, h.1⟩
  · exact froz_own e h
theorem peD (h : PE X e (rdC F c)) : PE X e (rdD F c) := peW h fun σ H Q ⟨O, S, ρ, r, d, I, hr, hd, q⟩ => ⟨O, S, ρ, r, I, hr, fun v S' H' e rp => by
  obtain ⟨S'', e2, _, h2⟩ := froz_dat e rp hd
  exact q v S'' H' e2 h2⟩
theorem peM (h : PE X e (rdC F c)) : PE X e (rdM F c) := peW h fun σ H Q ⟨O, S, ρ, r, r', I, hr, ha, q⟩ => ⟨O, S, ρ, r, I, hr, fun v S' H' e rp => by
  cases r with
  | dat d => cases ha; exact q v S' H' e rp.1
  | own xs =>
    cases ha
    obtain ⟨S'', e2, _, h2⟩ := froz_own e rp
    exact q v S'' H' e2 h2
  | dic kvs => cases ha; exact q v S' H' e rp.1
  | odic _ => cases ha
  | odit _ => cases ha
  | many _ => cases ha⟩
theorem RpN.pk {H0 S H : Hp} {v : V} (h : RpN H0 S H v r) (hd : datOf r = some d) : Pk S H v d := by
  rcases datOf_some hd with rfl | ⟨xs, rfl, rfl⟩
  · exact .inl h.1
  · obtain ⟨⟨a, vs, h1, h2, h3, h4⟩, _⟩ := h
    exact .inr ⟨a, vs, xs, h1, rfl, h3, h4⟩
/-- where looking at it is the same as taking it -/
theorem peP (h : PE X e (rdC F c)) (hp : ∀ ρ, evC F c true ρ = evC F c false ρ) : PE X e (rdP F c) := peW h fun σ H Q ⟨O, S, ρ, r, d, I, hr, hd, q⟩ => ⟨O, S, ρ, r, I, by rw [← hp]; exact hr, fun v S' H' e rp => q v S' H' e (rp.pk hd)⟩

/-! ### what a representation says -/
theorem RpN.of {H0 S H : Hp} {v : V} (h : Dq S v d) : RpN H0 S H v (.dat d) := ⟨h, fun _ z => nomatch z⟩
theorem rp_int {H0 S H : Hp} {v : V} {i : Int} (h : RpN H0 S H v (.dat (.int i))) : v = .int i := by
  have h : Dq S v (.int i) := h.1
  cases h
  rfl
theorem rp_bool {H0 S H : Hp} {v : V} {i : Bool} (h : RpN H0 S H v (.dat (.bool i))) : v = .bl i := by
  have h : Dq S v (.bool i) := h.1
  cases h
  rfl
theorem rp_tup {H0 S H : Hp} {v : V} {xs : List PyData} (h : RpN H0 S H v (.dat (.tuple xs))) : ∃ a vs, v = .ref a ∧ S a = some (.tup vs) ∧ DqA S vs xs := by
  have h : Dq S v (.tuple xs) := h.1
  cases h with
  | tup h1 h2 => exact ⟨_, _, rfl, h1, h2⟩
theorem dq_tup {S : Hp} {v : V} {xs : List PyData} (h : Dq S v (.tuple xs)) : ∃ a vs, v = .ref a ∧ S a = some (.tup vs) ∧ DqA S vs xs := by
  cases h with
  | tup h1 h2 => exact ⟨_, _, rfl, h1, h2⟩
theorem dq_lst {S : Hp} {v : V} {xs : List PyData} (h : Dq S v (.list xs)) : ∃ a vs, v = .ref a ∧ S a = some (.lst vs) ∧ DqA S vs xs := by
  cases h with
  | lst h1 h2 => exact ⟨_, _, rfl, h1, h2⟩
/-- a list that is looked at -/
theorem Pk.list {S H : Hp} {v : V} {xs : List PyData} (h : Pk S H v (.list xs)) (sh : Same S H) : ∃ a vs, v = .ref a ∧ H a = some (.lst vs) ∧ DqA S vs xs := by
  rcases h with h | ⟨a, vs, ys, h1, h2, h3, h4⟩
  · obtain ⟨a, vs, h1, h2, h3⟩ := dq_lst h
    exact ⟨a, vs, h1, sh _ _ h2, h3⟩
  · cases h2
    exact ⟨a, vs, h1, h3, h4⟩
theorem Pk.tuple {S H : Hp} {v : V} {xs : List PyData} (h : Pk S H v (.tuple xs)) : ∃ a vs, v = .ref a ∧ S a = some (.tup vs) ∧ DqA S vs xs := by
  rcases h with h | ⟨a, vs, ys, h1, h2, h3, h4⟩
  · exact dq_tup h
  · cases h2
/-- a list or a tuple that is looked at -/
theorem Pk.seq {S H : Hp} {v : V} {d : PyData} {xs : List PyData} (h : Pk S H v d) (sh : Same S H) (hd : d = .list xs ∨ d = .tuple xs) : ∃ a vs, v = .ref a ∧ (H a = some (.lst vs) ∨ H a = some (.tup vs)) ∧ DqA S vs xs := by
  rcases hd with rfl | rfl
  · obtain ⟨a, vs, h1, h2, h3⟩ := h.list sh
    exact ⟨a, vs, h1, .inl h2, h3⟩
  · obtain ⟨a, vs, h1, h2, h3⟩ := h.tuple
    exact ⟨a, vs, h1, .inr (sh _ _ h2), h3⟩
theorem Pk.dp {K : PySem.W.Frag} {S H : Hp} {v : V} (h : Pk S H v d) (sh : Same S H) : Dp K H v d := by
  rcases h with h | ⟨a, vs, ys, rfl, rfl, h3, h4⟩
  · exact (h.mono sh).dp
  · exact .lst (SqL.of h3) ((h4.mono sh).dp)
end

/-! ### data without bools: the library's words -/
mutual
theorem noB_shape : ∀ (n : Nat) (d : PyData), noB n d = true → d.canLay0 = true ∧ d.depth ≤ n
  | _, .none, _ => ⟨by simp [PyData.canLay0], by simp [PyData.depth]⟩
  | _, .int _, _ => ⟨by simp [PyData.canLay0], by simp [PyData.depth]⟩
  | n + 1, .list xs, h => by
    have h' := noB_shapes n xs (by simpa [noB] using h)
    exact ⟨by simpa [PyData.canLay0] using h'.1, by simp only [PyData.depth]; omega⟩
  | n + 1, .tuple xs, h => by
    have h' := noB_shapes n xs (by simpa [noB] using h)
    exact ⟨by simpa [PyData.canLay0] using h'.1, by simp only [PyData.depth]; omega⟩
  | 0, .list _, h => by simp [noB] at h
  | 0, .tuple _, h => by simp [noB] at h
  | n, .bool _, h => by cases n <;> simp [noB] at h
  | n, .str _, h => by cases n <;> simp [noB] at h
  | n, .dict _, h => by cases n <;> simp [noB] at h
theorem noB_shapes : ∀ (n : Nat) (ds : List PyData), (∀ d ∈ ds, noB n d = true) → PyData.canLayAll0 ds = true ∧ PyData.depthAll ds ≤ n
  | _, [], _ => ⟨by simp [PyData.canLayAll0], by simp [PyData.depthAll]⟩
  | n, d :: r, h => by
    have h1 := noB_shape n d (h d (List.mem_cons_self ..))
    have h2 := noB_shapes n r fun x hx => h x (List.mem_cons_of_mem _ hx)
    exact ⟨by simp [PyData.canLayAll0, h1.1, h2.1], by simp only [PyData.depthAll]; omega⟩
end
theorem noB_shaped {n : Nat} {d : PyData} (h : noB n d = true) (hn : n ≤ 64) : SeqAt.shaped d = true := by
  obtain ⟨h1, h2⟩ := noB_shape n d h
  unfold SeqAt.shaped
  rw [h1, decide_eq_true (Nat.le_trans h2 hn)]
  rfl
mutual
theorem eqP_eqv : ∀ (n : Nat) (d e : PyData), noB n d = true → noB n e = true → eqP n d e = PyData.eqv d e
  | n, .none, e, _, h => by cases e <;> cases n <;> simp [eqP, PyData.eqv, noB] at h ⊢
  | n, .int i, e, _, h => by cases e <;> cases n <;> simp [eqP, PyData.eqv, noB, eqI_eq] at h ⊢ <;> rfl
  | n + 1, .list xs, e, h, h' => by
    cases e <;> simp [eqP, PyData.eqv, noB] at h h' ⊢
    exact eqL_eqv n xs _ h h'
  | n + 1, .tuple xs, e, h, h' => by
    cases e <;> simp [eqP, PyData.eqv, noB] at h h' ⊢
    exact eqL_eqv n xs _ h h'
  | 0, .list _, _, h, _ => by simp [noB] at h
  | 0, .tuple _, _, h, _ => by simp [noB] at h
  | n, .bool _, _, h, _ => by cases n <;> simp [noB] at h
  | n, .str _, _, h, _ => by cases n <;> simp [noB] at h
  | n, .dict _, _, h, _ => by cases n <;> simp [noB] at h
theorem eqL_eqv : ∀ (n : Nat) (ds es : List PyData), (∀ d ∈ ds, noB n d = true) → (∀ d ∈ es, noB n d = true) → eqL (eqP n) ds es = PyData.eqvAll ds es
  | _, [], [], _, _ => by simp [eqL, PyData.eqvAll]
  | _, [], _ :: _, _, _ => by simp [eqL, PyData.eqvAll]
  | _, _ :: _, [], _, _ => by simp [eqL, PyData.eqvAll]
  | n, d :: r, e :: t, h, h' => by
    have h1 := eqP_eqv n d e (h d (List.mem_cons_self ..)) (h' e (List.mem_cons_self ..))
    have h2 := eqL_eqv n r t (fun x hx => h x (List.mem_cons_of_mem _ hx)) fun x hx => h' x (List.mem_cons_of_mem _ hx)
    simp only [eqL, PyData.eqvAll, h1, h2]
    cases PyData.eqv d e <;> rfl
end
/-- the items of data without bools -/
theorem noB_mem {n : Nat} {d : PyData} {xs : List PyData} (h : noB n d = true) (hs : seqOf d = some xs) : ∀ x ∈ xs, noB n x = true := by
  have up : ∀ (n : Nat) (d : PyData), noB n d = true → noB (n + 1) d = true := by
    intro n
    induction n with
    | zero => intro d h; cases d <;> simp [noB] at h ⊢
    | succ n ih =>
      intro d h
      cases d with
      | list ys => simp only [noB, List.all_eq_true] at h ⊢; exact fun x hx => ih x (h x hx)
      | tuple ys => simp only [noB, List.all_eq_true] at h ⊢; exact fun x hx => ih x (h x hx)
      | none => simp [noB]
      | int _ => simp [noB]
      | bool _ => simp [noB] at h
      | str _ => simp [noB] at h
      | dict _ => simp [noB] at h
  cases n with
  | zero => cases d <;> simp [noB] at h <;> cases hs
  | succ n =>
    rcases seqOf_some hs with rfl | rfl
    · simp only [noB, List.all_eq_true] at h; exact fun x hx => up n x (h x hx)
    · simp only [noB, List.all_eq_true] at h; exact fun x hx => up n x (h x hx)
theorem eqS_some {d e : PyData} {k : Bool} (h : eqS d e = some k) : SeqAt.shaped d = true ∧ SeqAt.shaped e = true ∧ k = PyData.eqv d e := by
  unfold eqS at h
  cases h1 : noB 6 d with
  | false => rw [h1] at h; cases h
  | true =>
    cases h2 : noB 6 e with
    | false => rw [h1, h2] at h; cases h
    | true =>
      rw [h1, h2] at h
      cases h
      exact ⟨noB_shaped h1 (by decide), noB_shaped h2 (by decide), eqP_eqv 6 d e h1 h2⟩
theorem eqD_some {d e : PyData} {k : Bool} (h : eqD d e = some k) : SeqAt.shaped d = true ∧ SeqAt.shaped e = true ∧ k = PyData.eqv d e := by
  unfold eqD at h
  cases d with
  | int i => cases e with
    | int j => cases h; exact ⟨rfl, rfl, by rw [eqI_eq, PyData.eqv]; rfl⟩
    | none => exact eqS_some h
    | bool _ => exact eqS_some h
    | str _ => exact eqS_some h
    | list _ => exact eqS_some h
    | tuple _ => exact eqS_some h
    | dict _ => exact eqS_some h
  | bool a => cases e with
    | bool b => cases h; exact ⟨rfl, rfl, by rw [PyData.eqv]⟩
    | none => cases h
    | int _ => cases h
    | str _ => cases h
    | list _ => cases h
    | tuple _ => cases h
    | dict _ => cases h
  | none => exact eqS_some h
  | str _ => exact eqS_some h
  | list _ => exact eqS_some h
  | tuple _ => exact eqS_some h
  | dict _ => exact eqS_some h
end SW
set_option Elab.async false
set_option linter.all false
set_option maxRecDepth 100000
/-! Snd2: the rules for expressions, one a code. -/
namespace SW
open PySem PySem.Spec PyProof.Rows L2
section
variable {M : MC} {F : FT} {X : Cx} {sc : Scope} {cl : Bool} {e : Expr} {a b c : C} {f g l : Expr → Bool}

/-! ### the text's side -/
theorem XOk.gl (x : XOk M X sc cl) {n : Str} (h : SW.gl sc n = true) : Gl X n := by
  show X.env.scope.names.lookup n = _
  rw [x.hsc]
  exact of_decide_eq_true h
theorem XOk.vis (x : XOk M X sc cl) {n : Str} (h : SW.vis sc n = true) : Vis X.env.scope n := by
  rw [x.hsc]
  unfold SW.vis at h
  unfold Vis
  cases q : sc.names.lookup n with
  | none => rw [q] at h; cases h
  | some k => cases k with
    | «local» => exact .inl rfl
    | cell => exact .inr (.inl rfl)
    | free => exact .inr (.inr rfl)
    | globalExplicit => rw [q] at h; cases h
    | globalImplicit => rw [q] at h; cases h
theorem okN_1 {n : Str} (h : okN n = true) : (n == ("__debug__" : Str)) = false := by
  unfold okN at h
  cases q : n == ("__debug__" : Str) with
  | false => rfl
  | true => rw [q] at h; cases h
theorem okN_2 {n : Str} (h : okN n = true) : (n == ("__classdict__" : Str)) = false := by
  unfold okN at h
  cases q : n == ("__classdict__" : Str) with
  | false => rfl
  | true => rw [q, Bool.not_true, Bool.and_false, Bool.false_and] at h; cases h
theorem one_arg {f : Expr → Bool} {es : List Expr} (h : a1 f es = true) : ∃ a, es = [a] ∧ noStar a = true ∧ f a = true := by
  match es, h with
  | [a], h => exact ⟨a, rfl, and_true2 h⟩
theorem two_args {f g : Expr → Bool} {es : List Expr} (h : a2 f g es = true) : ∃ a b, es = [a, b] ∧ noStar a = true ∧ noStar b = true ∧ f a = true ∧ g b = true := by
  match es, h with
  | [a, b], h =>
    obtain ⟨h, h4⟩ := and_true2 h
    obtain ⟨h, h3⟩ := and_true2 h
    obtain ⟨h1, h2⟩ := and_true2 h
    exact ⟨a, b, rfl, h1, h2, h3, h4⟩
theorem three_args {f g l : Expr → Bool} {es : List Expr} (h : a3 f g l es = true) : ∃ a b c, es = [a, b, c] ∧ noStar a = true ∧ noStar b = true ∧ noStar c = true ∧ f a = true ∧ g b = true ∧ l c = true := by
  match es, h with
  | [a, b, c], h =>
    obtain ⟨h, h6⟩ := and_true2 h
    obtain ⟨h, h5⟩ := and_true2 h
    obtain ⟨h, h4⟩ := and_true2 h
    obtain ⟨h, h3⟩ := and_true2 h
    obtain ⟨h1, h2⟩ := and_true2 h
    exact ⟨a, b, c, rfl, h1, h2, h3, h4, h5, h6⟩
theorem mC_some {n : Str} {f : List Expr → Bool} (h : mC n sc e f = true) : ∃ es p q, e = .Call (.Name n p) es [] q ∧ gl sc n = true ∧ f es = true := by
  obtain ⟨⟨m, es⟩, h1, h2⟩ := vw_true h
  obtain ⟨h2, h4⟩ := and_true2 h2
  obtain ⟨h2, h3⟩ := and_true2 h2
  obtain ⟨p, q, h5⟩ := vCall_some h1
  have e1 : m = n := of_decide_eq_true h2
  subst e1
  exact ⟨es, p, q, h5, h3, h4⟩
theorem star1 {a : Expr} (h : noStar a = true) : starEach [a] X.env = (false, eval a X.env) :: starEach [] X.env := star_cons h []
theorem any_nil {pos : Pos} : (backTo pos (starEach [] X.env)).any (·.1) = false := rfl
theorem any_one {pos : Pos} {b : Expr} (h : noStar b = true) : (backTo pos (starEach [b] X.env)).any (·.1) = false := by rw [star_cons h []]; rfl
theorem any_two {pos : Pos} {b d : Expr} (h : noStar b = true) (h2 : noStar d = true) : (backTo pos (starEach [b, d] X.env)).any (·.1) = false := by rw [star_cons h [d], star_cons h2 []]; rfl
/-- a built-in of one argument -/
theorem call1 (x : XOk M X sc cl) {n : Str} {id : String} {r : List V → Hp → VK → Prop} {f : Expr → Bool} (h : mC n sc e (a1 f) = true) (hc : CallR X (.builtin id) r) (hv : bootBuiltins n = some (.builtin id)) (hb : n ∈ bltN) (hn : n ≠ "__name__" := by decide +kernel) (hd : (n == ("__debug__" : Str)) = false := by decide +kernel) :
    ∃ a, f a = true ∧ ∀ ta, PE X a ta → PE X e (tCB r (tCons ta tNil)) := by
  obtain ⟨es, p, q, rfl, hg, h⟩ := mC_some h
  obtain ⟨a, rfl, hs, hf⟩ := one_arg h
  exact ⟨a, hf, fun ta ha => pe_callB hc (x.gl hg) (x.blt n hb) hv (pa_cons ha pa_nil (star1 hs)) hn hd (star1 hs) any_nil⟩
theorem call1T (x : XOk M X sc cl) {n : Str} {id : String} {r : List V → Hp → VK → Prop} {f : Expr → Bool} (h : mC n sc e (a1 f) = true) (hc : CallR X (.type id) r) (hv : bootBuiltins n = some (.type id)) (hb : n ∈ bltN) (hn : n ≠ "__name__" := by decide +kernel) (hd : (n == ("__debug__" : Str)) = false := by decide +kernel) :
    ∃ a, f a = true ∧ ∀ ta, PE X a ta → PE X e (tCB r (tCons ta tNil)) := by
  obtain ⟨es, p, q, rfl, hg, h⟩ := mC_some h
  obtain ⟨a, rfl, hs, hf⟩ := one_arg h
  exact ⟨a, hf, fun ta ha => pe_callTy hc (x.gl hg) (x.blt n hb) hv (pa_cons ha pa_nil (star1 hs)) hn hd (star1 hs) any_nil⟩
theorem call2 (x : XOk M X sc cl) {n : Str} {id : String} {r : List V → Hp → VK → Prop} {f g : Expr → Bool} (h : mC n sc e (a2 f g) = true) (hc : CallR X (.builtin id) r) (hv : bootBuiltins n = some (.builtin id)) (hb : n ∈ bltN) (hn : n ≠ "__name__" := by decide +kernel) (hd : (n == ("__debug__" : Str)) = false := by decide +kernel) :
    ∃ a b, f a = true ∧ g b = true ∧ ∀ ta tb, PE X a ta → PE X b tb → PE X e (tCB r (tCons ta (tCons tb tNil))) := by
  obtain ⟨es, p, q, rfl, hg, h⟩ := mC_some h
  obtain ⟨a, b, rfl, hs, hs2, hf, hf2⟩ := two_args h
  exact ⟨a, b, hf, hf2, fun ta tb ha hb' => pe_callB hc (x.gl hg) (x.blt n hb) hv (pa_cons ha (pa_cons hb' pa_nil (star1 hs2)) (star_cons hs [b])) hn hd (star_cons hs [b]) (any_one hs2)⟩
theorem call3 (x : XOk M X sc cl) {n : Str} {id : String} {r : List V → Hp → VK → Prop} {f g l : Expr → Bool} (h : mC n sc e (a3 f g l) = true) (hc : CallR X (.builtin id) r) (hv : bootBuiltins n = some (.builtin id)) (hb : n ∈ bltN) (hn : n ≠ "__name__" := by decide +kernel) (hd : (n == ("__debug__" : Str)) = false := by decide +kernel) :
    ∃ a b d, f a = true ∧ g b = true ∧ l d = true ∧ ∀ ta tb td, PE X a ta → PE X b tb → PE X d td → PE X e (tCB r (tCons ta (tCons tb (tCons td tNil)))) := by
  obtain ⟨es, p, q, rfl, hg, h⟩ := mC_some h
  obtain ⟨a, b, d, rfl, hs, hs2, hs3, hf, hf2, hf3⟩ := three_args h
  exact ⟨a, b, d, hf, hf2, hf3, fun ta tb td ha hb' hd' => pe_callB hc (x.gl hg) (x.blt n hb) hv (pa_cons ha (pa_cons hb' (pa_cons hd' pa_nil (star1 hs3)) (star_cons hs2 [d])) (star_cons hs [b, d])) hn hd (star_cons hs [b, d]) (any_two hs2 hs3)⟩

/-! ### names, constants -/
theorem readV_some {pk : Bool} {o : Option SV} {r : SV} (h : readV pk o = some r) : ∃ r0, o = some r0 ∧ ((r0 = r ∧ ownd r = false) ∨ (pk = true ∧ ∃ xs, r0 = .own xs ∧ r = .dat (.list xs))) := by
  cases o with
  | none => cases h
  | some r0 =>
    refine ⟨r0, rfl, ?_⟩
    cases r0 with
    | dat d => cases h; exact .inl ⟨rfl, rfl⟩
    | own xs =>
      obtain ⟨h1, h2⟩ := ifB_some h
      cases h2
      exact .inr ⟨h1, xs, rfl, rfl⟩
    | dic kvs => cases h; exact .inl ⟨rfl, rfl⟩
    | odic _ => cases h
    | odit _ => cases h
    | many _ => cases h
theorem mV_pe (x : XOk M X sc cl) {i : Nat} (h : mV M i sc e = true) : PE X e (tVar i) := by
  obtain ⟨n, h1, h2⟩ := vw_true h
  obtain ⟨h2, h4⟩ := and_true2 h2
  obtain ⟨h2, h3⟩ := and_true2 h2
  obtain ⟨p, rfl⟩ := vName_some h1
  exact pe_var (by rw [x.hN]; exact of_decide_eq_true h2) (x.vis h3) (okN_1 h4) (okN_2 h4)
theorem s_v (x : XOk M X sc cl) {i : Nat} (h : mV M i sc e = true) : PE X e (rdC F (.v i)) := by
  refine peW (mV_pe x h) fun σ H Q ⟨O, S, ρ, r, I, hr, q⟩ => ?_
  obtain ⟨r0, h0, h1⟩ := readV_some hr
  rcases h1 with ⟨rfl, ho⟩ | ⟨z, _⟩
  · obtain ⟨v, e1, e2⟩ := I.slot h0
    exact ⟨v, e1, q v S H (.refl I.sub) ⟨e2, fun _ z => by rw [ho] at z; cases z⟩⟩
  · cases z
theorem s_vP (x : XOk M X sc cl) {i : Nat} (h : mV M i sc e = true) : PE X e (rdP F (.v i)) := by
  refine peW (mV_pe x h) fun σ H Q ⟨O, S, ρ, r, d, I, hr, hd, q⟩ => ?_
  obtain ⟨r0, h0, h1⟩ := readV_some hr
  obtain ⟨v, e1, e2⟩ := I.slot h0
  rcases h1 with ⟨rfl, ho⟩ | ⟨_, xs, rfl, rfl⟩
  · refine ⟨v, e1, q v S H (.refl I.sub) ?_⟩
    rcases datOf_some hd with rfl | ⟨xs, rfl, rfl⟩
    · exact .inl e2
    · cases ho
  · cases hd
    obtain ⟨a, vs, h2, h3, h4, h5⟩ := e2
    exact ⟨v, e1, q v S H (.refl I.sub) (.inr ⟨a, vs, xs, h2, rfl, h4, h5⟩)⟩
theorem s_k (x : XOk M X sc cl) {k : K} (h : mK sc e k = true) : PE X e (rdC F (.k k)) := by
  cases k with
  | int i =>
    obtain ⟨k, h1, h2⟩ := vw_true h
    obtain ⟨j, p, rfl⟩ := vConst_some h1
    cases (of_decide_eq_true h2 : k = .int i)
    refine peW pe_int fun σ H Q ⟨O, S, ρ, r, I, hr, q⟩ => ?_
    have hr : dInt i = some r := hr
    rw [dInt_eq] at hr
    cases hr
    exact q _ S H (.refl I.sub) (.of (.int i))
  | non =>
    obtain ⟨k, h1, h2⟩ := vw_true h
    obtain ⟨j, p, rfl⟩ := vConst_some h1
    cases (of_decide_eq_true h2 : k = .none)
    refine peW pe_non fun σ H Q ⟨O, S, ρ, r, I, hr, q⟩ => ?_
    have hr : some (SV.dat .none) = some r := hr
    cases hr
    exact q _ S H (.refl I.sub) (.of .non)
  | bl b =>
    obtain ⟨k, h1, h2⟩ := vw_true h
    obtain ⟨j, p, rfl⟩ := vConst_some h1
    cases (of_decide_eq_true h2 : k = .bool b)
    refine peW pe_bl fun σ H Q ⟨O, S, ρ, r, I, hr, q⟩ => ?_
    have hr : dBool b = some r := hr
    rw [dBool_eq] at hr
    cases hr
    exact q _ S H (.refl I.sub) (.of (.bl b))
  | str z =>
    obtain ⟨k, h1, h2⟩ := vw_true h
    obtain ⟨j, p, rfl⟩ := vConst_some h1
    cases (of_decide_eq_true h2 : k = .str z)
    refine peW pe_str fun σ H Q ⟨O, S, ρ, r, I, hr, q⟩ => ?_
    have hr : some (SV.dat (.str z)) = some r := hr
    cases hr
    exact q _ S H (.refl I.sub) (.of (.str z))
  | g n i =>
    obtain ⟨y, h1, h2⟩ := vw_true h
    obtain ⟨h2, h5⟩ := and_true2 h2
    obtain ⟨h2, h4⟩ := and_true2 h2
    obtain ⟨h2, h3⟩ := and_true2 h2
    obtain ⟨p, rfl⟩ := vName_some h1
    cases (of_decide_eq_true h2 : y = n)
    obtain ⟨t, hm⟩ := x.con n i (of_decide_eq_true h5)
    refine peW (pe_glob (v := .int i) (x.gl h3) hm ⟨t, rfl⟩ (okN_1 h4)) fun σ H Q ⟨O, S, ρ, r, I, hr, q⟩ => ?_
    have hr : dInt i = some r := hr
    rw [dInt_eq] at hr
    cases hr
    exact q _ S H (.refl I.sub) (.of (.int i))
  | dK =>
    obtain ⟨p, rfl⟩ := vDict0_true h
    refine peW pe_dnewK fun σ H Q ⟨O, S, ρ, r, I, hr, q⟩ p hp => ?_
    have hr : some (SV.odic []) = some r := hr
    cases hr
    exact q _ S _ (.newH I.sub _ hp) ⟨⟨p, [], rfl, I.sub.free hp, upd_same, .nil⟩, fun a _ z => by cases z; exact hp⟩
  | dT =>
    obtain ⟨p, rfl⟩ := vDict0_true h
    refine peW pe_dnewT fun σ H Q ⟨O, S, ρ, r, I, hr, q⟩ p hp => ?_
    have hr : some (SV.odit []) = some r := hr
    cases hr
    exact q _ S _ (.newH I.sub _ hp) ⟨⟨p, [], rfl, I.sub.free hp, upd_same, .nil⟩, fun a _ z => by cases z; exact hp⟩

/-! ### one operand -/
theorem s_neg (h : vw (vUn e) (fun p => decide (p.1 = .USub) && f p.2) = true) (ha : ∀ e, f e = true → PE X e (rdC F a)) : PE X e (rdC F (.un .neg a)) := by
  obtain ⟨⟨o, y⟩, h1, h2⟩ := vw_true h
  obtain ⟨h2, h3⟩ := and_true2 h2
  obtain ⟨p, rfl⟩ := vUn_some h1
  cases (of_decide_eq_true h2 : o = .USub)
  refine peW (pe_un un_neg (ha y h3)) fun σ H Q ⟨O, S, ρ, r, I, hr, q⟩ => ?_
  obtain ⟨i, h4, h5⟩ := onI_some (show onI (evC F a false ρ) _ = some r from hr)
  rw [dInt_eq] at h5
  cases h5
  exact gC h4 O S H _ I fun v S' H' e1 r1 => ⟨i, rp_int r1, q _ S' H' e1 (.of (.int _))⟩
theorem s_not (h : vw (vUn e) (fun p => decide (p.1 = .Not) && tOk p.2 && f p.2) = true) (ha : ∀ e, f e = true → PE X e (rdC F a)) : PE X e (rdC F (.un .not a)) := by
  obtain ⟨⟨o, y⟩, h1, h2⟩ := vw_true h
  obtain ⟨h2, h3⟩ := and_true2 h2
  obtain ⟨h2, _⟩ := and_true2 h2
  obtain ⟨p, rfl⟩ := vUn_some h1
  cases (of_decide_eq_true h2 : o = .Not)
  refine peW (pe_not (ha y h3)) fun σ H Q ⟨O, S, ρ, r, I, hr, q⟩ => ?_
  obtain ⟨i, h4, h5⟩ := onB_some (show onB (evC F a false ρ) _ = some r from hr)
  rw [dBool_eq] at h5
  cases h5
  exact gC h4 O S H _ I fun v S' H' e1 r1 => ⟨i, rp_bool r1, q _ S' H' e1 (.of (.bl _))⟩

theorem isNon_v {S : Hp} {v : V} {d : PyData} (h : Dq S v d) : decide (v = .non) = isNon d := by
  cases h <;> first | rfl | exact decide_eq_false (fun z => nomatch z)
theorem isC_some {k : Const} (h : isC k e = true) : ∃ j p, e = .Constant k j p := by
  obtain ⟨d, h1, h2⟩ := vw_true h
  obtain ⟨j, p, rfl⟩ := vConst_some h1
  cases (of_decide_eq_true h2 : d = k)
  exact ⟨j, p, rfl⟩
theorem s_isN (h : vw (vCmp e) (fun p => decide (p.2.1 = .Is) && isC .none p.2.2 && f p.1) = true) (ha : ∀ e, f e = true → PE X e (rdC F a)) : PE X e (rdC F (.un .isN a)) ∧ PT X e (rdT F (.un .isN a)) := by
  obtain ⟨⟨y, o, z⟩, h1, h2⟩ := vw_true h
  obtain ⟨h2, h4⟩ := and_true2 h2
  obtain ⟨h2, h3⟩ := and_true2 h2
  obtain ⟨p, rfl⟩ := vCmp_some h1
  cases (of_decide_eq_true h2 : o = .Is)
  obtain ⟨j, p2, e2⟩ := isC_some h3
  simp only at e2
  subst e2
  have hp := pc_isN (j := j) (pos' := p2) (peD (ha y h4))
  refine ⟨peW (pe_cmp hp (mark_none rfl _)) fun σ H Q ⟨O, S, ρ, r, I, hr, q⟩ => ?_, ptW (pt_cmp hp (mark_none rfl _)) fun σ H Q ⟨O, S, ρ, r, I, hr, q⟩ => ?_⟩
  · obtain ⟨s, d, h5, h6, h7⟩ := onD_some (show onD (evC F a false ρ) _ = some r from hr)
    rw [dBool_eq] at h7
    cases h7
    refine gD h5 h6 O S H _ I fun v S' H' e1 r1 => ?_
    show Q (.bl (decide (v = .non))) H'
    rw [isNon_v r1]
    exact q _ S' H' e1 (.of (.bl _))
  · obtain ⟨s, d, h5, h6, h7⟩ := onD_some (show onD (evC F a false ρ) _ = some _ from hr)
    rw [dBool_eq] at h7
    cases h7
    refine gD h5 h6 O S H _ I fun v S' H' e1 r1 => ?_
    show ∃ c, V.bl (decide (v = .non)) = .bl c ∧ Q c H'
    rw [isNon_v r1]
    exact ⟨_, rfl, q S' H' e1⟩
theorem s_notN (h : vw (vCmp e) (fun p => decide (p.2.1 = .IsNot) && isC .none p.2.2 && f p.1) = true) (ha : ∀ e, f e = true → PE X e (rdC F a)) : PE X e (rdC F (.un .notN a)) ∧ PT X e (rdT F (.un .notN a)) := by
  obtain ⟨⟨y, o, z⟩, h1, h2⟩ := vw_true h
  obtain ⟨h2, h4⟩ := and_true2 h2
  obtain ⟨h2, h3⟩ := and_true2 h2
  obtain ⟨p, rfl⟩ := vCmp_some h1
  cases (of_decide_eq_true h2 : o = .IsNot)
  obtain ⟨j, p2, e2⟩ := isC_some h3
  simp only at e2
  subst e2
  have hp := pc_notN (j := j) (pos' := p2) (peD (ha y h4))
  refine ⟨peW (pe_cmp hp (mark_none rfl _)) fun σ H Q ⟨O, S, ρ, r, I, hr, q⟩ => ?_, ptW (pt_cmp hp (mark_none rfl _)) fun σ H Q ⟨O, S, ρ, r, I, hr, q⟩ => ?_⟩
  · obtain ⟨s, d, h5, h6, h7⟩ := onD_some (show onD (evC F a false ρ) _ = some r from hr)
    rw [dBool_eq] at h7
    cases h7
    refine gD h5 h6 O S H _ I fun v S' H' e1 r1 => ?_
    show Q (.bl (!decide (v = .non))) H'
    rw [isNon_v r1]
    exact q _ S' H' e1 (.of (.bl _))
  · obtain ⟨s, d, h5, h6, h7⟩ := onD_some (show onD (evC F a false ρ) _ = some _ from hr)
    rw [dBool_eq] at h7
    cases h7
    refine gD h5 h6 O S H _ I fun v S' H' e1 r1 => ?_
    show ∃ c, V.bl (!decide (v = .non)) = .bl c ∧ Q c H'
    rw [isNon_v r1]
    exact ⟨_, rfl, q S' H' e1⟩
/-- a comparison by an operator's rule: its value and its test -/
theorem cmp2 {op : CmpOp} {r : R2} {y z : Expr} {p : Pos} {ta tb : TE} (ho : OpR X (compareOp op) r) (ha : PE X y ta) (hb : PE X z tb) (hm : behindInMarks op z = false) {k : C}
    (w : ∀ σ H O S ρ b (K : V → Hp → Prop), EnR O S H σ ρ → evC F k false ρ = some (.dat (.bool b)) → (∀ S' H', Ext S H S' H' → K (.bl b) H') → tOp r ta tb σ H K) (ev : ∀ ρ r, evC F k false ρ = some r → ∃ b, r = .dat (.bool b)) :
    PE X (.Compare y [op] [z] p) (rdC F k) ∧ PT X (.Compare y [op] [z] p) (rdT F k) := by
  refine ⟨peW (pe_cmpR ho ha hb hm) fun σ H Q ⟨O, S, ρ, r, I, hr, q⟩ => ?_, ptW (pt_cmpR ho ha hb hm) fun σ H Q ⟨O, S, ρ, b, I, hr, q⟩ => ?_⟩
  · obtain ⟨b, rfl⟩ := ev ρ r hr
    exact w σ H O S ρ b _ I hr fun S' H' e1 => q _ S' H' e1 (.of (.bl _))
  · exact w σ H O S ρ b _ I hr fun S' H' e1 => ⟨b, rfl, q S' H' e1⟩
theorem dB_inv {k : Bool} {r : SV} (h : dBool k = some r) : r = .dat (.bool k) := by rw [dBool_eq] at h; cases h; rfl
theorem dI_inv {k : Int} {r : SV} (h : dInt k = some r) : r = .dat (.int k) := by rw [dInt_eq] at h; cases h; rfl
theorem s_notB {b : Bool} (h : vw (vCmp e) (fun p => decide (p.2.1 = .IsNot) && isC (.bool b) p.2.2 && f p.1) = true) (ha : ∀ e, f e = true → PE X e (rdC F a)) : PE X e (rdC F (.un (.notB b) a)) ∧ PT X e (rdT F (.un (.notB b) a)) := by
  obtain ⟨⟨y, o, z⟩, h1, h2⟩ := vw_true h
  obtain ⟨h2, h4⟩ := and_true2 h2
  obtain ⟨h2, h3⟩ := and_true2 h2
  obtain ⟨p, rfl⟩ := vCmp_some h1
  cases (of_decide_eq_true h2 : o = .IsNot)
  obtain ⟨j, p2, e2⟩ := isC_some h3
  simp only at e2
  subst e2
  refine cmp2 op_notBl (ha y h4) pe_bl (mark_none rfl _) (fun σ H O S ρ b' K I hr q => ?_) fun ρ r hr => ?_
  · obtain ⟨k, h5, h6⟩ := onB_some (show onB (evC F a false ρ) _ = some _ from hr)
    have h6 := dB_inv h6
    cases h6
    refine gC h5 O S H _ I fun v S' H' e1 r1 => ⟨k, b, rp_bool r1, rfl, ?_⟩
    have e2 : (!decide (k = b)) = xor k b := by cases k <;> cases b <;> rfl
    rw [e2]
    exact q S' H' e1
  · obtain ⟨k, h5, h6⟩ := onB_some (show onB (evC F a false ρ) _ = some _ from hr)
    exact ⟨_, dB_inv h6⟩
/-- len, abs, .. -/
theorem vals_one {xs : List V} {v : V} (h : xs = [v]) : xs = [v] := h
theorem s_len (x : XOk M X sc cl) (h : mC "len" sc e (a1 f) = true) (ha : ∀ e, f e = true → PE X e (rdP F a)) : PE X e (rdC F (.un .len a)) := by
  obtain ⟨y, hf, k⟩ := call1 x h call_len_seq PySem.boot_len (by decide +kernel)
  refine peW (k _ (ha y hf)) fun σ H Q ⟨O, S, ρ, r, I, hr, q⟩ => ?_
  obtain ⟨s, d, xs, h5, h6, h7, h8⟩ := onS_some (show onS (evC F a true ρ) _ = some _ from hr)
  cases dI_inv h8
  refine gP h5 h6 O S H _ I fun v S' H' e1 r1 => ?_
  obtain ⟨p, vs, rfl, hh, hq⟩ := r1.seq e1.sh h7
  refine ⟨p, vs, rfl, hh.imp SqL.of SqT.of, ?_⟩
  have e2 : (Int.ofNat (lng xs)) = ((vs.length : Nat) : Int) := by rw [lng_eq, hq.length]; rfl
  rw [← e2]
  exact q _ S' H' e1 (.of (.int _))
theorem s_abs (x : XOk M X sc cl) (h : mC "abs" sc e (a1 f) = true) (ha : ∀ e, f e = true → PE X e (rdC F a)) : PE X e (rdC F (.un .abs a)) := by
  obtain ⟨y, hf, k⟩ := call1 x h call_abs (by decide +kernel) (by decide +kernel)
  refine peW (k _ (ha y hf)) fun σ H Q ⟨O, S, ρ, r, I, hr, q⟩ => ?_
  obtain ⟨i, h5, h6⟩ := onI_some (show onI (evC F a false ρ) _ = some _ from hr)
  cases dI_inv h6
  refine gC h5 O S H _ I fun v S' H' e1 r1 => ⟨i, by rw [rp_int r1], ?_⟩
  have e2 : (Int.ofNat (absN i)) = if i < 0 then -i else i := by
    rw [absN_eq]
    show (i.natAbs : Int) = _
    by_cases hi : i < 0
    · rw [if_pos hi]; omega
    · rw [if_neg hi]; omega
  rw [← e2]
  exact q _ S' H' e1 (.of (.int _))
theorem maxI_mem : ∀ (r : List Int) (m : Int), (maxI m r = m ∨ maxI m r ∈ r) ∧ m ≤ maxI m r ∧ ∀ y ∈ r, y ≤ maxI m r
  | [], m => ⟨.inl rfl, Int.le_refl _, fun _ h => nomatch h⟩
  | i :: r, m => by
    obtain ⟨h1, h2, h3⟩ := maxI_mem r (gtI i m)
    have e : maxI m (i :: r) = maxI (gtI i m) r := rfl
    rw [e]
    have hg : (gtI i m = i ∧ m ≤ i) ∨ (gtI i m = m ∧ i ≤ m) := by
      rw [gtI_eq]
      by_cases h : i > m
      · rw [if_pos h]; exact .inl ⟨rfl, by omega⟩
      · rw [if_neg h]; exact .inr ⟨rfl, by omega⟩
    refine ⟨?_, ?_, fun y hy => ?_⟩
    · rcases h1 with h1 | h1
      · rcases hg with ⟨g, _⟩ | ⟨g, _⟩
        · exact .inr (by rw [h1, g]; exact List.mem_cons_self ..)
        · exact .inl (by rw [h1, g])
      · exact .inr (List.mem_cons_of_mem _ h1)
    · rcases hg with ⟨g, l⟩ | ⟨g, l⟩ <;> rw [g] at h2 ⊢ <;> omega
    · rcases List.mem_cons.mp hy with rfl | hy
      · rcases hg with ⟨g, l⟩ | ⟨g, l⟩ <;> rw [g] at h2 ⊢ <;> omega
      · exact h3 y hy
theorem s_maxL (x : XOk M X sc cl) (h : mC "max" sc e (a1 f) = true) (ha : ∀ e, f e = true → PE X e (rdP F a)) : PE X e (rdC F (.un .maxL a)) := by
  obtain ⟨y, hf, k⟩ := call1 x h (cr_max x.calm) (by decide +kernel) (by decide +kernel)
  refine peW (k _ (ha y hf)) fun σ H Q ⟨O, S, ρ, r, I, hr, q⟩ => ?_
  obtain ⟨s, xs, h5, h6, h8⟩ := onL_some (show onL (evC F a true ρ) _ = some _ from hr)
  cases hi : SW.intsO xs with
  | none => rw [hi] at h8; cases h8
  | some is =>
    rw [hi] at h8
    cases is with
    | nil => cases h8
    | cons i is =>
      cases dI_inv h8
      refine gP h5 h6 O S H _ I fun v S' H' e1 r1 => ?_
      obtain ⟨p, vs, rfl, hh, hq⟩ := r1.list e1.sh
      obtain ⟨e2, e3⟩ := hq.intsO hi
      subst e2
      refine ⟨p, i :: is, rfl, SqL.of hh, by simp, fun m hm hle => ?_⟩
      obtain ⟨m1, m2, m3⟩ := maxI_mem is i
      have e4 : m = maxI i is := by
        refine Int.le_antisymm ?_ ?_
        · rcases List.mem_cons.mp hm with z | z
          · rw [z]; exact m2
          · exact m3 m z
        · rcases m1 with z | z
          · rw [z]; exact hle i (List.mem_cons_self ..)
          · exact hle _ (List.mem_cons_of_mem _ z)
      rw [e4]
      exact q _ S' H' e1 (.of (.int _))
theorem s_intOf (x : XOk M X sc cl) (h : mC "int" sc e (a1 f) = true) (ha : ∀ e, f e = true → PE X e (rdC F a)) : PE X e (rdC F (.un .intOf a)) := by
  obtain ⟨y, hf, k⟩ := call1T x h call_int1 (by decide +kernel) (by decide +kernel)
  refine peW (k _ (ha y hf)) fun σ H Q ⟨O, S, ρ, r, I, hr, q⟩ => ?_
  obtain ⟨i, h5, h6⟩ := onI_some (show onI (evC F a false ρ) _ = some _ from hr)
  cases dI_inv h6
  exact gC h5 O S H _ I fun v S' H' e1 r1 => .inl ⟨i, by rw [rp_int r1], q _ S' H' e1 (.of (.int _))⟩
theorem s_listOf (x : XOk M X sc cl) (h : mC "list" sc e (a1 f) = true) (ha : ∀ e, f e = true → PE X e (rdP F a)) : PE X e (rdC F (.un .listOf a)) := by
  obtain ⟨y, hf, k⟩ := call1T x h call_list_of (by decide +kernel) (by decide +kernel)
  refine peW (k _ (ha y hf)) fun σ H Q ⟨O, S, ρ, r, I, hr, q⟩ => ?_
  obtain ⟨s, d, xs, h5, h6, h7, h8⟩ := onS_some (show onS (evC F a true ρ) _ = some _ from hr)
  cases h8
  refine gP h5 h6 O S H _ I fun v S' H' e1 r1 => ?_
  obtain ⟨p, vs, rfl, hh, hq⟩ := r1.seq e1.sh h7
  refine ⟨p, vs, rfl, hh.imp SqL.of SqT.of, fun l hl => ?_⟩
  exact q _ S' _ (e1.trans (.newH e1.sh _ hl)) ⟨⟨l, vs, rfl, e1.sh.free hl, upd_same, hq⟩, fun a _ z => by cases z; exact e1.hh.free hl⟩
theorem s_tupOf (x : XOk M X sc cl) (h : mC "tuple" sc e (a1 f) = true) (ha : ∀ e, f e = true → PE X e (rdP F a)) : PE X e (rdC F (.un .tupOf a)) := by
  obtain ⟨y, hf, k⟩ := call1T x h call_tuple_of (by decide +kernel) (by decide +kernel)
  refine peW (k _ (ha y hf)) fun σ H Q ⟨O, S, ρ, r, I, hr, q⟩ => ?_
  obtain ⟨s, d, xs, h5, h6, h7, h8⟩ := onS_some (show onS (evC F a true ρ) _ = some _ from hr)
  cases h8
  refine gP h5 h6 O S H _ I fun v S' H' e1 r1 => ?_
  rcases h7 with rfl | rfl
  · obtain ⟨p, vs, rfl, hh, hq⟩ := r1.list e1.sh
    refine ⟨p, vs, rfl, .inl ⟨SqL.of hh, fun l hl => ?_⟩⟩
    exact q _ _ _ (e1.trans (.new e1.sh _ hl)) (.of (.tup upd_same (hq.mono (same_new (e1.sh.free hl)))))
  · obtain ⟨p, vs, rfl, hh, hq⟩ := r1.tuple
    exact ⟨p, vs, rfl, .inr ⟨SqT.of (e1.sh _ _ hh), q _ S' H' e1 (.of (.tup hh hq))⟩⟩
theorem insI_perm (i : Int) : ∀ l : List Int, (insI i l).Perm (i :: l)
  | [] => .refl _
  | j :: r => by
    unfold insI
    cases leI i j with
    | true => exact .refl _
    | false => exact ((insI_perm i r).cons j).trans (.swap i j r)
theorem sortI_perm : ∀ l : List Int, (sortI l).Perm l
  | [] => .refl _
  | i :: r => (insI_perm i (sortI r)).trans ((sortI_perm r).cons i)
theorem insI_sorted (i : Int) : ∀ l : List Int, l.Pairwise (· ≤ ·) → (insI i l).Pairwise (· ≤ ·)
  | [], _ => List.pairwise_singleton _ _
  | j :: r, h => by
    have h1 := List.pairwise_cons.mp h
    unfold insI
    cases e : leI i j with
    | true =>
      rw [leI_eq] at e
      have e := of_decide_eq_true e
      exact List.pairwise_cons.mpr ⟨fun y hy => by
        rcases List.mem_cons.mp hy with rfl | hy
        · exact e
        · have := h1.1 y hy; omega, h⟩
    | false =>
      rw [leI_eq] at e
      have e := of_decide_eq_false e
      refine List.pairwise_cons.mpr ⟨fun y hy => ?_, insI_sorted i r h1.2⟩
      rcases List.mem_cons.mp ((insI_perm i r).mem_iff.mp hy) with rfl | hy
      · omega
      · exact h1.1 y hy
theorem sortI_sorted : ∀ l : List Int, (sortI l).Pairwise (· ≤ ·)
  | [] => .nil
  | i :: r => insI_sorted i _ (sortI_sorted r)
theorem sorted_one {l m : List Int} (h : l.Perm m) (h1 : l.Pairwise (· ≤ ·)) (h2 : m.Pairwise (· ≤ ·)) : l = m :=
  List.Perm.eq_of_pairwise (fun a b _ _ h3 h4 => Int.le_antisymm h3 h4) h1 h2 h
theorem s_sorted (x : XOk M X sc cl) (h : mC "sorted" sc e (a1 f) = true) (ha : ∀ e, f e = true → PE X e (rdP F a)) : PE X e (rdC F (.un .sorted a)) := by
  obtain ⟨y, hf, k⟩ := call1 x h cr_sortedI (by decide +kernel) (by decide +kernel)
  refine peW (k _ (ha y hf)) fun σ H Q ⟨O, S, ρ, r, I, hr, q⟩ => ?_
  obtain ⟨s, xs, h5, h6, h8⟩ := onL_some (show onL (evC F a true ρ) _ = some _ from hr)
  cases hi : SW.intsO xs with
  | none => rw [hi] at h8; cases h8
  | some is =>
    rw [hi] at h8
    cases h8
    refine gP h5 h6 O S H _ I fun v S' H' e1 r1 => ?_
    obtain ⟨p, vs, rfl, hh, hq⟩ := r1.list e1.sh
    obtain ⟨e2, e3⟩ := hq.intsO hi
    subst e2
    refine ⟨p, is, rfl, SqL.of hh, fun ns' l hp hs hl => ?_⟩
    have e4 : ns' = sortI is := sorted_one (hp.trans (sortI_perm is).symm) hs (sortI_sorted is)
    subst e4
    exact q _ S' _ (e1.trans (.newH e1.sh _ hl)) ⟨⟨l, _, rfl, e1.sh.free hl, upd_same, .of_ints _⟩, fun a _ z => by cases z; exact e1.hh.free hl⟩
end
end SW
set_option Elab.async false
set_option linter.all false
set_option maxRecDepth 100000
/-! Snd3: the rules for expressions, continued: displays, calls, dicts, operators. -/
namespace SW
open PySem PySem.Spec PyProof.Rows L2
section
variable {M : MC} {F : FT} {X : Cx} {sc : Scope} {cl : Bool} {e : Expr} {a b c : C} {f g l : Expr → Bool}
theorem gV {σ : L2.St} {ρ : En} {i : Nat} {r : SV} (h : slot ρ i = some r) : Gives (tVar i) σ ρ fun _ S H v => Rp S H v r := fun O S H Q I q => by
  obtain ⟨v, h1, h2⟩ := I.slot h
  exact ⟨v, h1, q v S H (.refl I.sub) h2⟩
theorem line5 : 100000 ≤ sizeLine := by decide
theorem dAll_arg : ∀ {as : List SV} {ds : List PyData}, dAll as = some ds → argAll as = some (ds.map SV.dat)
  | [], ds, h => by cases h; rfl
  | r :: rs, ds, h => by
    unfold dAll at h
    unfold argAll
    cases hd : datOf r with
    | none => rw [hd] at h; cases h
    | some d =>
      rw [hd] at h
      have ha : r.arg = some (.dat d) := by
        rcases datOf_some hd with rfl | ⟨xs, rfl, rfl⟩ <;> rfl
      cases hr : dAll rs with
      | none => simp only [hr] at h; cases h
      | some l =>
        simp only [hr] at h
        cases h
        rw [ha, dAll_arg hr]
        rfl
theorem paired_dat {S H : Hp} : ∀ {vs : List V} {ds : List PyData}, Paired (Rp S H) vs (ds.map SV.dat) → DqA S vs ds
  | _, [], h => by cases h; exact .nil
  | _, d :: ds, h => by
    cases h with
    | cons h1 h2 => exact .cons h1 (paired_dat h2)
/-- an argument list, given -/
theorem gA {σ : L2.St} {ρ : En} {as as' : List SV} (h : evC F c false ρ = some (.many as)) (ha : argAll as = some as') {O : Addr → Prop} {S H : Hp} {Q : List V → Hp → Prop} (I : EnR O S H σ ρ)
    (q : ∀ vs S' H', Ext S H S' H' → Paired (Rp S' H') vs as' → Q vs H') : rdA F c σ H Q := ⟨O, S, ρ, as, as', I, h, ha, q⟩
theorem s_tup {g' : List Expr → Bool} (h : vw (vTup e) g' = true) (ha : ∀ es, g' es = true → PA X es (rdA F a)) : PE X e (rdC F (.un .tup a)) := by
  obtain ⟨es, h1, h2⟩ := vw_true h
  obtain ⟨k, p, rfl⟩ := vTup_some h1
  refine peW (pe_tup (ha es h2)) fun σ H Q ⟨O, S, ρ, r, I, hr, q⟩ => ?_
  obtain ⟨as, h3, h4⟩ := onM_some (show onM (evC F a false ρ) _ = some _ from hr)
  cases hd : dAll as with
  | none => rw [hd] at h4; cases h4
  | some ds =>
    rw [hd] at h4
    cases hl : lenOk ds with
    | false => simp only [hl] at h4; cases h4
    | true =>
      simp only [hl] at h4
      cases h4
      refine gA h3 (dAll_arg hd) I fun vs S' H' e1 r1 => ?_
      have r2 := paired_dat r1
      refine ⟨by rw [r2.length]; exact Nat.le_trans (lenOk_le hl) line5, fun p hp => ?_⟩
      exact q _ _ _ (e1.trans (.new e1.sh _ hp)) (.of (.tup upd_same (r2.mono (same_new (e1.sh.free hp)))))
theorem s_lst {g' : List Expr → Bool} (h : vw (vLst e) g' = true) (ha : ∀ es, g' es = true → PA X es (rdA F a)) : PE X e (rdC F (.un .lst a)) := by
  obtain ⟨es, h1, h2⟩ := vw_true h
  obtain ⟨p, rfl⟩ := vLst_some h1
  refine peW (pe_lst (ha es h2)) fun σ H Q ⟨O, S, ρ, r, I, hr, q⟩ => ?_
  obtain ⟨as, h3, h4⟩ := onM_some (show onM (evC F a false ρ) _ = some _ from hr)
  cases hd : dAll as with
  | none => rw [hd] at h4; cases h4
  | some ds =>
    rw [hd] at h4
    cases hl : lenOk ds with
    | false => simp only [hl] at h4; cases h4
    | true =>
      simp only [hl] at h4
      cases h4
      refine gA h3 (dAll_arg hd) I fun vs S' H' e1 r1 => ?_
      have r2 := paired_dat r1
      refine ⟨by rw [r2.length]; exact Nat.le_trans (lenOk_le hl) line5, fun p hp => ?_⟩
      exact q _ S' _ (e1.trans (.newH e1.sh _ hp)) ⟨⟨p, vs, rfl, e1.sh.free hp, upd_same, r2⟩, fun a _ z => by cases z; exact e1.hh.free hp⟩
/-! ### calls of the text's defs -/
/-- what is called by the name of f gives what F says -/
def CallOk (M : MC) (F : FT) (Y : Cx) : Prop := ∀ (f : Nat) (n : Str) (as : List SV) (r : SV), M.nm f = some n → F f as = some r → ∃ fa : Addr, Y.mg n = some (.ref fa) ∧ PySem.W.keepIn Y.K (.ref fa) = true ∧
  ∀ (pins : List (Addr × Obj)) (s : Shared) (σ : L2.St) (S H : Hp) (us : List Value) (vs : List V) (Q : VK), Inv Y pins σ H s → Vals vs us → Same S H → Paired (Rp S H) vs as → (∀ a ∈ as, ownd a = false) → (∀ v S' H', Ext S H S' H' → RpN H S' H' v r → Q v H') →
    wpAny (model Y.prog Y.w) Y.A (call (.ref fa) us) (EP Y pins σ Q) Y.xe s
theorem argAll_own : ∀ {as as' : List SV}, argAll as = some as' → ∀ a ∈ as', ownd a = false
  | [], _, h, a, ha => by cases h; cases ha
  | r :: rs, as', h, a, ha => by
    unfold argAll at h
    cases h1 : r.arg with
    | none => rw [h1] at h; cases h
    | some d =>
      rw [h1] at h
      cases h2 : argAll rs with
      | none => simp only [h2] at h; cases h
      | some l =>
        simp only [h2] at h
        cases h
        rcases List.mem_cons.mp ha with rfl | ha
        · cases r with
          | dat _ => cases h1; rfl
          | own _ => cases h1; rfl
          | dic _ => cases h1; rfl
          | odic _ => cases h1
          | odit _ => cases h1
          | many _ => cases h1
        · exact argAll_own h2 a ha
theorem s_call (x : XOk M X sc cl) (hc : CallOk M F X) {k : Nat} {g' : List Expr → Bool} (h : vw (M.nm k) (fun n => okN n && mC n sc e g') = true) (ha : ∀ es, g' es = true → PA X es (rdA F a)) (hs : ∀ es, g' es = true → ∀ y ∈ es, noStar y = true) (h0 : g' [] = true → a = .nil) :
    PE X e (rdC F (.un (.call k) a)) := by
  obtain ⟨n, h1, h2⟩ := vw_true h
  obtain ⟨hn, h3⟩ := and_true2 h2
  obtain ⟨es, p, pos, rfl, hg, h4⟩ := mC_some h3
  refine ⟨fun pins s σ H Q I ⟨O, S, ρ, r, En, hr, q⟩ => ?_⟩
  obtain ⟨as, h5, h6⟩ := onM_some (show onM (evC F a false ρ) _ = some _ from hr)
  cases hv : argAll as with
  | none => rw [hv] at h6; cases h6
  | some vs' =>
    rw [hv] at h6
    obtain ⟨fa, hm, hk, run⟩ := hc k n vs' r h1 h6
    refine wpAny_Call_Name_kw (ld_glob I (x.gl hg) hm ?_ (okN_1 hn))
    have hA := ha es h4
    cases es with
    | nil =>
      refine PySem.W.callWith_K0 I.kIn hk ?_
      cases h0 h4
      cases (show some (SV.many []) = some (SV.many as) from h5)
      cases hv
      exact run pins s σ S H [] [] Q I .nil En.sub .nil (fun _ z => nomatch z) q
    | cons y ys =>
      have hy := hs (y :: ys) h4
      have red : rdA F a σ H fun vs H1 => ∀ (s1 : Shared) (us : List Value), Inv X pins σ H1 s1 → Vals vs us → wpAny (model X.prog X.w) X.A (call (.ref fa) us) (EP X pins σ Q) X.xe s1 :=
        gA h5 hv En fun vs S1 H1 e1 r1 s1 us I1 r2 => run pins s1 σ S1 H1 us vs Q I1 r2 e1.sh r1 (argAll_own hv) fun v S' H' e2 r3 => q v S' H' (e1.trans e2) ((stC r).low r3 e1.hh)
      refine PySem.W.callWith_K (h₀ := X.base) I.ok.mod.kin hk (thn (hA.run pos pins s σ H _ I red) fun us s1 ⟨vs, H1, I1, r1, q1⟩ => ⟨I1.kIn, q1 s1 us I1 r1⟩) (star_cons (hy y (List.mem_cons_self ..)) ys) ?_
      have all : ∀ l : List Expr, (∀ y ∈ l, noStar y = true) → (backTo pos (starEach l X.env)).any (·.1) = false := by
        intro l
        induction l with
        | nil => intro _; rfl
        | cons z zs ih =>
          intro hz
          rw [star_cons (hz z (List.mem_cons_self ..)) zs]
          exact ih fun w hw => hz w (List.mem_cons_of_mem _ hw)
      exact all ys fun z hz => hy z (List.mem_cons_of_mem _ hz)

/-! ### dicts -/
theorem DK.get {S : Hp} {kv : List (Key × V)} {kvs : List (Int × PyData)} (h : DK S kv kvs) (k : Int) : (∀ d, getK eqI k kvs = some d → ∃ v, valV kv (Sum.inl k) = some v ∧ Dq S v d) ∧ (getK eqI k kvs = none → valV kv (Sum.inl k) = none) := by
  induction h with
  | nil => exact ⟨fun _ h => (nomatch h), fun _ => valV_nil⟩
  | @cons p q _ _ r _ ih =>
    obtain ⟨k1, v1⟩ := p
    obtain ⟨k2, d2⟩ := q
    obtain ⟨e1, e2⟩ := r
    have e1 : k1 = Sum.inl k2 := e1
    subst e1
    unfold getK
    simp only [eqI_eq]
    by_cases h : k2 = k
    · subst h
      rw [decide_eq_true rfl, valV_pos rfl]
      exact ⟨fun d h => by cases h; exact ⟨v1, rfl, e2⟩, fun h => nomatch h⟩
    · rw [decide_eq_false h, valV_neg (fun z => h (Sum.inl.inj z))]
      exact ih
theorem inl_inj {a b : List Int} (h : a.map (Sum.inl : Int → Key) = b.map Sum.inl) : a = b := by
  induction a generalizing b with
  | nil => cases b with
    | nil => rfl
    | cons _ _ => cases h
  | cons x r ih => cases b with
    | nil => cases h
    | cons y t =>
      have h1 := List.cons.inj h
      rw [Sum.inl.inj h1.1, ih h1.2]
theorem keyEq_eq : ∀ a b : List Int, keyEq a b = decide (a = b)
  | [], [] => rfl
  | [], _ :: _ => rfl
  | _ :: _, [] => rfl
  | x :: r, y :: t => by
    unfold keyEq
    rw [eqI_eq, keyEq_eq r t]
    by_cases h : x = y
    · subst h
      rw [decide_eq_true rfl]
      exact decide_eq_decide.mpr ⟨fun h => by rw [h], fun h => (List.cons.inj h).2⟩
    · rw [decide_eq_false h]
      exact (decide_eq_false fun z => h (List.cons.inj z).1).symm
theorem DT.get {S : Hp} {kv : List (List Key × V)} {kvs : List (List Int × PyData)} (h : DT S kv kvs) (k : List Int) : (∀ d, getK keyEq k kvs = some d → ∃ v, valV kv (k.map Sum.inl) = some v ∧ Dq S v d) ∧ (getK keyEq k kvs = none → valV kv (k.map Sum.inl) = none) := by
  induction h with
  | nil => exact ⟨fun _ h => (nomatch h), fun _ => valV_nil⟩
  | @cons p q _ _ r _ ih =>
    obtain ⟨k1, v1⟩ := p
    obtain ⟨k2, d2⟩ := q
    obtain ⟨e1, e2⟩ := r
    have e1 : k1 = k2.map Sum.inl := e1
    subst e1
    unfold getK
    simp only [keyEq_eq]
    by_cases h : k2 = k
    · subst h
      rw [decide_eq_true rfl, valV_pos rfl]
      exact ⟨fun d h => by cases h; exact ⟨v1, rfl, e2⟩, fun h => nomatch h⟩
    · rw [decide_eq_false h, valV_neg (fun z => h (inl_inj z))]
      exact ih
/-- a tuple of intsO as a key -/
theorem keyT_some {S : Hp} {v : V} {d : PyData} {k : List Int} (h : keyT d = some k) (r : Dq S v d) : ∃ b, v = .ref b ∧ S b = some (.tup ((k.map Sum.inl).map kV)) := by
  cases d with
  | tuple xs =>
    obtain ⟨b, vs, h1, h2, h3⟩ := dq_tup r
    obtain ⟨h4, _⟩ := h3.intsO h
    refine ⟨b, h1, ?_⟩
    rw [h2, h4, List.map_map]
    rfl
  | none => cases h
  | bool _ => cases h
  | int _ => cases h
  | str _ => cases h
  | list _ => cases h
  | dict _ => cases h
/-- the dict of a slot: how it reads -/
theorem dict_look {S H : Hp} {v : V} {t : SV} {a : V} {d : PyData} (sh : Same S H) (r : Rp S H v t) (ra : Dq S a d) :
    (∀ b, hasK t d = some b → (∃ p o, v = .ref p ∧ DGet H p a o ∧ o.isSome = b) ∨ (∃ p kvs, v = .ref p ∧ a = .non ∧ Rd H p (.dK kvs) ∧ b = false)) ∧
    (∀ y, valK t d = some y → ∃ p w, v = .ref p ∧ DGet H p a (some w) ∧ Dq S w y) := by
  have dK : ∀ (p : Addr) (kv : List (Key × V)) (kvs : List (Int × PyData)), v = .ref p → H p = some (.dK kv) → DK S kv kvs → (∀ b, hasD kvs d = some b → (∃ p o, v = .ref p ∧ DGet H p a o ∧ o.isSome = b) ∨ (∃ p kvs, v = .ref p ∧ a = .non ∧ Rd H p (.dK kvs) ∧ b = false)) ∧
    (∀ y, valD kvs d = some y → ∃ p w, v = .ref p ∧ DGet H p a (some w) ∧ Dq S w y) := by
    intro p kv kvs e1 e2 e3
    cases ra with
    | non => exact ⟨fun b h => by cases h; exact .inr ⟨p, kv, e1, rfl, .of e2, rfl⟩, fun y h => nomatch h⟩
    | int k =>
      obtain ⟨g1, g2⟩ := e3.get k
      have dg : ∀ o, valV kv (Sum.inl k) = o → DGet H p (.int k) o := fun o e => by
        subst e
        exact DGet.k (k := Sum.inl k) e2
      refine ⟨fun b h => ?_, fun y h => ?_⟩
      · cases h
        cases q : getK eqI k kvs with
        | none => exact .inl ⟨p, none, e1, dg _ (g2 q), rfl⟩
        | some d =>
          obtain ⟨w, h1, _⟩ := g1 d q
          exact .inl ⟨p, some w, e1, dg _ h1, rfl⟩
      · obtain ⟨w, h1, h2⟩ := g1 y h
        exact ⟨p, w, e1, dg _ h1, h2⟩
    | bl _ => exact ⟨fun b h => (nomatch h), fun y h => nomatch h⟩
    | str _ => exact ⟨fun b h => (nomatch h), fun y h => nomatch h⟩
    | lst _ _ => exact ⟨fun b h => (nomatch h), fun y h => nomatch h⟩
    | tup _ _ => exact ⟨fun b h => (nomatch h), fun y h => nomatch h⟩
  cases t with
  | odic kvs => obtain ⟨p, kv, e1, _, e2, e3⟩ := r; exact dK p kv kvs e1 e2 e3
  | dic kvs => obtain ⟨p, kv, e1, e2, e3⟩ := r; exact dK p kv kvs e1 (sh _ _ e2) e3
  | odit kvs =>
    obtain ⟨p, kv, e1, _, e2, e3⟩ := r
    refine ⟨fun b h => ?_, fun y h => ?_⟩
    · have h : (match keyT d with | some k => some (getK keyEq k kvs).isSome | none => none) = some b := h
      cases hk : keyT d with
      | none => rw [hk] at h; cases h
      | some k =>
        rw [hk] at h
        cases h
        obtain ⟨b, h1, h2⟩ := keyT_some hk ra
        obtain ⟨g1, g2⟩ := e3.get k
        have dg : ∀ o, valV kv (k.map Sum.inl) = o → DGet H p a o := fun o e => by
          subst e
          subst h1
          exact DGet.t e2 (sh _ _ h2)
        cases q : getK keyEq k kvs with
        | none => exact .inl ⟨p, none, e1, dg _ (g2 q), rfl⟩
        | some d =>
          obtain ⟨w, h1, _⟩ := g1 d q
          exact .inl ⟨p, some w, e1, dg _ h1, rfl⟩
    · have h : (match keyT d with | some k => getK keyEq k kvs | none => none) = some y := h
      cases hk : keyT d with
      | none => rw [hk] at h; cases h
      | some k =>
        rw [hk] at h
        obtain ⟨b, h1, h2⟩ := keyT_some hk ra
        obtain ⟨g1, _⟩ := e3.get k
        obtain ⟨w, h3, h4⟩ := g1 y h
        subst h1
        exact ⟨p, w, e1, h3 ▸ DGet.t e2 (sh _ _ h2), h4⟩
  | dat _ => exact ⟨fun b h => (nomatch h), fun y h => nomatch h⟩
  | own _ => exact ⟨fun b h => (nomatch h), fun y h => nomatch h⟩
  | many _ => exact ⟨fun b h => (nomatch h), fun y h => nomatch h⟩
theorem s_inD (x : XOk M X sc cl) {n : Bool} {i : Nat} (h : vw (vCmp e) (fun p => decide (p.2.1 = if n then .NotIn else .In) && mV M i sc p.2.2 && f p.1) = true) (ha : ∀ e, f e = true → PE X e (rdC F a)) : PE X e (rdC F (.un (.inD n i) a)) ∧ PT X e (rdT F (.un (.inD n i) a)) := by
  obtain ⟨⟨y, o, z⟩, h1, h2⟩ := vw_true h
  obtain ⟨h2, h4⟩ := and_true2 h2
  obtain ⟨h2, h3⟩ := and_true2 h2
  obtain ⟨p, rfl⟩ := vCmp_some h1
  have hz : noSet z = true := by
    obtain ⟨m, h5, _⟩ := vw_true h3
    obtain ⟨p, e5⟩ := vName_some h5
    simp only at e5
    rw [e5]
    rfl
  have inv : ∀ ρ r, evC F (.un (.inD n i) a) false ρ = some r → ∃ s d t k, evC F a false ρ = some s ∧ datOf s = some d ∧ slot ρ i = some t ∧ hasK t d = some k ∧ r = .dat (.bool (xor n k)) := by
    intro ρ r hr
    obtain ⟨s, d, h5, h6, h7⟩ := onD_some (show onD (evC F a false ρ) _ = some _ from hr)
    cases ht : slot ρ i with
    | none => rw [ht] at h7; cases h7
    | some t =>
      rw [ht] at h7
      cases hk : hasK t d with
      | none => simp only [hk] at h7; cases h7
      | some k =>
        simp only [hk] at h7
        exact ⟨s, d, t, k, h5, h6, rfl, hk, dB_inv h7⟩
  have body : ∀ (σ : L2.St) (H : Hp) (O : Addr → Prop) (S : Hp) (ρ : En) (k : Bool) (Q : VK), EnR O S H σ ρ → evC F (.un (.inD n i) a) false ρ = some (.dat (.bool k)) → (∀ S' H', Ext S H S' H' → Q (.bl k) H') →
      rdD F a σ H fun y H1 => tVar i σ H1 fun x H2 => (∃ a o, x = .ref a ∧ DGet H2 a y o ∧ Q (.bl (if n then !o.isSome else o.isSome)) H2) ∨ ∃ a kvs, x = .ref a ∧ y = .non ∧ Rd H2 a (.dK kvs) ∧ Q (.bl n) H2 := by
    intro σ H O S ρ k Q I hr q
    obtain ⟨s, d, t, k', h5, h6, h7, h8, h9⟩ := inv ρ _ hr
    cases h9
    refine gives2 (gD h5 h6) (gV h7) (stD d) (stM t) I fun v w S2 H2 e1 r1 r2 => ?_
    rcases (dict_look e1.sh r2 r1).1 k' h8 with ⟨p, o, g1, g2, g3⟩ | ⟨p, kvs, g1, g2, g3, g4⟩
    · refine .inl ⟨p, o, g1, g2, ?_⟩
      have e2 : (if n then !o.isSome else o.isSome) = xor n k' := by rw [g3]; cases n <;> cases k' <;> rfl
      rw [e2]
      exact q S2 H2 e1
    · refine .inr ⟨p, kvs, g1, g2, g3, ?_⟩
      have e2 : xor n k' = n := by rw [g4]; cases n <;> rfl
      rw [e2] at q
      exact q S2 H2 e1
  have hu : X.A.units + 1 < cLine := by have := x.units; omega
  cases n with
  | false =>
    cases (of_decide_eq_true h2 : o = .In)
    have hp := pc_dinN hu (peD (ha y h4)) (mV_pe x h3)
    refine ⟨peW (pe_cmp hp (mark_none hz _)) fun σ H Q ⟨O, S, ρ, r, I, hr, q⟩ => ?_, ptW (pt_cmp hp (mark_none hz _)) fun σ H Q ⟨O, S, ρ, k, I, hr, q⟩ => ?_⟩
    · obtain ⟨s, d, t, k', _, _, _, _, h9⟩ := inv ρ _ hr
      subst h9
      exact body σ H O S ρ _ Q I hr fun S' H' e1 => q _ S' H' e1 (.of (.bl _))
    · exact body σ H O S ρ k (fun v H' => ∃ c, v = .bl c ∧ Q c H') I hr fun S' H' e1 => ⟨k, rfl, q S' H' e1⟩
  | true =>
    cases (of_decide_eq_true h2 : o = .NotIn)
    have hp := pc_dnotinN hu (peD (ha y h4)) (mV_pe x h3)
    refine ⟨peW (pe_cmp hp (mark_none hz _)) fun σ H Q ⟨O, S, ρ, r, I, hr, q⟩ => ?_, ptW (pt_cmp hp (mark_none hz _)) fun σ H Q ⟨O, S, ρ, k, I, hr, q⟩ => ?_⟩
    · obtain ⟨s, d, t, k', _, _, _, _, h9⟩ := inv ρ _ hr
      subst h9
      exact body σ H O S ρ _ Q I hr fun S' H' e1 => q _ S' H' e1 (.of (.bl _))
    · exact body σ H O S ρ k (fun v H' => ∃ c, v = .bl c ∧ Q c H') I hr fun S' H' e1 => ⟨k, rfl, q S' H' e1⟩
theorem s_getD (x : XOk M X sc cl) {i : Nat} (h : vw (vSub e) (fun p => mV M i sc p.1 && noSlice p.2 && f p.2) = true) (ha : ∀ e, f e = true → PE X e (rdC F a)) : PE X e (rdC F (.un (.getD i) a)) := by
  obtain ⟨⟨y, z⟩, h1, h2⟩ := vw_true h
  obtain ⟨h2, h4⟩ := and_true2 h2
  obtain ⟨h2, h3⟩ := and_true2 h2
  obtain ⟨p, rfl⟩ := vSub_some h1
  have hu : X.A.units + 1 < cLine := by have := x.units; omega
  refine peW (pe_dget hu (mV_pe x h2) (peD (ha z h4)) (sub_plain h3)) fun σ H Q ⟨O, S, ρ, r, I, hr, q⟩ => ?_
  obtain ⟨s, d, h5, h6, h7⟩ := onD_some (show onD (evC F a false ρ) _ = some _ from hr)
  cases ht : slot ρ i with
  | none => rw [ht] at h7; cases h7
  | some t =>
    rw [ht] at h7
    cases hk : valK t d with
    | none => simp only [hk] at h7; cases h7
    | some w =>
      simp only [hk] at h7
      cases h7
      refine gives2 (gV ht) (gD h5 h6) (stM t) (stD d) I fun v1 v2 S2 H2 e1 r1 r2 => ?_
      obtain ⟨p, u, g1, g2, g3⟩ := (dict_look e1.sh r1 r2).2 w hk
      exact ⟨p, u, g1, g2, q _ S2 H2 e1 (.of g3)⟩
theorem DK.keys {S : Hp} {kv : List (Key × V)} {kvs : List (Int × PyData)} (h : DK S kv kvs) : DqA S (kv.map fun kv => kV kv.1) (kvs.map fun kv => .int kv.1) := by
  induction h with
  | nil => exact .nil
  | @cons p q _ _ r _ ih =>
    refine .cons ?_ ih
    show Dq S (kV p.1) (.int q.1)
    rw [r.1]
    exact .int _
theorem s_listD (x : XOk M X sc cl) {i : Nat} (h : mC "list" sc e (a1 (mV M i sc)) = true) : PE X e (rdC F (.un (.listD i) a)) := by
  obtain ⟨y, hf, k⟩ := call1T x h (call_list_dK x.calm) (by decide +kernel) (by decide +kernel)
  refine peW (k _ (mV_pe x hf)) fun σ H Q ⟨O, S, ρ, r, I, hr, q⟩ => ?_
  have hr : (match slot ρ i with | none => none | some t => match keysOf t with | none => none | some x => some (SV.own x)) = some r := hr
  cases ht : slot ρ i with
  | none => rw [ht] at hr; cases hr
  | some t =>
    rw [ht] at hr
    cases hk : keysOf t with
    | none => simp only [hk] at hr; cases hr
    | some ks =>
      simp only [hk] at hr
      cases hr
      refine gV ht O S H _ I fun v S' H' e1 r1 => ?_
      have go : ∀ (p : Addr) (kv : List (Key × V)) (kvs : List (Int × PyData)), v = .ref p → H' p = some (.dK kv) → DK S' kv kvs → ks = (kvs.map fun kv => .int kv.1) → rListD [v] H' Q := by
        intro p kv kvs g1 g2 g3 g4
        refine ⟨p, kv, by rw [g1], g2, fun l hl => ?_⟩
        rw [g4] at q
        exact q _ S' _ (e1.trans (.newH e1.sh _ hl)) ⟨⟨l, _, rfl, e1.sh.free hl, upd_same, g3.keys⟩, fun a _ z => by cases z; exact e1.hh.free hl⟩
      cases t with
      | odic kvs => cases hk; obtain ⟨p, kv, g1, _, g2, g3⟩ := r1; exact go p kv kvs g1 g2 g3 rfl
      | dic kvs => cases hk; obtain ⟨p, kv, g1, g2, g3⟩ := r1; exact go p kv kvs g1 (e1.sh _ _ g2) g3 rfl
      | dat _ => cases hk
      | own _ => cases hk
      | odit _ => cases hk
      | many _ => cases hk
/-! ### isinstance, bit_length -/
def tyS : Ty → String
  | .int => "int"
  | .bool => "bool"
  | .tuple => "tuple"
  | .str => "str"
theorem ty_of {K : PySem.W.Frag} {S H : Hp} {v : V} {d : PyData} {t : Ty} (h : tyOf d = some t) (r : Dq S v d) (sh : Same S H) : TyX K H v (.type (tyS t)) := by
  cases r with
  | non => cases h
  | bl b => cases h; exact .base (.bl b)
  | int b => cases h; exact .base (.int b)
  | str b => cases h; exact .base (.str b)
  | lst _ _ => cases h
  | tup e _ => cases h; exact .base (.tup (sh _ _ e))
theorem s_isInst (x : XOk M X sc cl) {t : Ty} (h : mC "isinstance" sc e (a2 f fun b => vw (vName b) fun x => decide (x = tyN t) && gl sc (tyN t)) = true) (ha : ∀ e, f e = true → PE X e (rdC F a)) : PE X e (rdC F (.un (.isInst t) a)) := by
  obtain ⟨y, z, hf, hg, k⟩ := call2 x h call_isi (by decide +kernel) (by decide +kernel)
  obtain ⟨n, h1, h2⟩ := vw_true hg
  obtain ⟨h2, h3⟩ := and_true2 h2
  obtain ⟨p, rfl⟩ := vName_some h1
  cases (of_decide_eq_true h2 : n = tyN t)
  have hty : ∃ T : String, bootBuiltins (tyN t) = some (.type T) ∧ tyN t ∈ bltN ∧ (tyN t == ("__debug__" : Str)) = false ∧ tyN t ≠ ("__name__" : Str) ∧ ∀ u : Ty, kitB (tyS u) T = some (isTy2 t u) := by
    cases t with
    | int => exact ⟨"int", by decide +kernel, by decide +kernel, by decide +kernel, by decide +kernel, fun u => by cases u <;> decide +kernel⟩
    | bool => exact ⟨"bool", by decide +kernel, by decide +kernel, by decide +kernel, by decide +kernel, fun u => by cases u <;> decide +kernel⟩
    | tuple => exact ⟨"tuple", by decide +kernel, by decide +kernel, by decide +kernel, by decide +kernel, fun u => by cases u <;> decide +kernel⟩
    | str => exact ⟨"str", by decide +kernel, by decide +kernel, by decide +kernel, by decide +kernel, fun u => by cases u <;> decide +kernel⟩
  obtain ⟨T, b1, b2, b3, b4, b5⟩ := hty
  refine peW (k _ _ (ha y hf) (pe_bltn (v := .ty T) (x.gl h3) (x.blt _ b2) b1 rfl b4 b3)) fun σ H Q ⟨O, S, ρ, r, I, hr, q⟩ => ?_
  obtain ⟨s, d, h5, h6, h7⟩ := onD_some (show onD (evC F a false ρ) _ = some _ from hr)
  have h7 : isTy t d = some r := h7
  unfold isTy at h7
  cases hu : tyOf d with
  | none => rw [hu] at h7; cases h7
  | some u =>
    rw [hu] at h7
    cases dB_inv h7
    have hd : s = .dat d := dat_of h6 fun xs z => by rw [z] at hu; cases hu
    subst hd
    refine gC h5 O S H _ I fun v S' H' e1 r1 => ?_
    have r2 : Dq S' v d := r1.1
    exact ⟨v, .ty T, _, .type T, _, rfl, .ty T, ty_of hu r2 e1.sh, kit_ty (b5 u), q _ S' H' e1 (.of (.bl _))⟩
theorem s_bits (x : XOk M X sc cl) (h : vw (vMeth e) (fun p => decide (p.2.1 = "bit_length") && p.2.2.isEmpty && (vName p.1).isSome && f p.1) = true) (ha : ∀ e, f e = true → PE X e (rdC F a)) : PE X e (rdC F (.un .bits a)) := by
  obtain ⟨⟨o, m, es⟩, h1, h2⟩ := vw_true h
  obtain ⟨h2, h5⟩ := and_true2 h2
  obtain ⟨h2, h4⟩ := and_true2 h2
  obtain ⟨h2, h3⟩ := and_true2 h2
  obtain ⟨p, q, rfl, hl⟩ := vMeth_some h1
  cases (of_decide_eq_true h2 : m = "bit_length")
  cases (List.isEmpty_iff.mp h3 : es = [])
  obtain ⟨n, hn⟩ := Option.isSome_iff_exists.mp h4
  obtain ⟨p2, e2⟩ := vName_some hn
  simp only at e2
  have hh := ha o h5
  subst e2
  refine peW (pe_bits hh rfl hl) fun σ H Q ⟨O, S, ρ, r, I, hr, q⟩ => ?_
  obtain ⟨i, h6, h7⟩ := onI_some (show onI (evC F a false ρ) _ = some _ from hr)
  cases dI_inv h7
  refine gC h6 O S H _ I fun v S' H' e1 r1 => ⟨i, rp_int r1, ?_⟩
  have e3 : (Int.ofNat (SW.intBits i)) = ((Builtin.Int.intBits i : Nat) : Int) := by
    unfold SW.intBits Builtin.Int.intBits
    rw [eqI_eq, absN_eq]
    by_cases hi : i = 0
    · subst hi; rfl
    · rw [decide_eq_false hi, if_neg (by simpa using hi)]
      rfl
  rw [← e3]
  exact q _ S' H' e1 (.of (.int _))
end
end SW
set_option Elab.async false
set_option linter.all false
set_option maxRecDepth 100000
/-! Snd4: the rules for expressions: two and three operands. -/
namespace SW
open PySem PySem.Spec PyProof.Rows L2
section
variable {M : MC} {F : FT} {X : Cx} {sc : Scope} {cl : Bool} {e : Expr} {a b c : C} {f g l : Expr → Bool}
theorem big_log {n : Nat} (h : Nat.ble n bigN = true) : n.log2 < 4097 := by
  have h1 : n ≤ bigN := Nat.ble_eq.mp h
  have h2 : bigN < 2 ^ 4097 := by decide +kernel
  by_cases h0 : n = 0
  · subst h0; decide
  · exact (Nat.log2_lt h0).mpr (Nat.lt_of_le_of_lt h1 h2)
theorem mulOk_some {i j : Int} (h : mulOk i j = true) : CMulW i j := by
  unfold mulOk at h
  rw [absN_eq, absN_eq] at h
  cases h1 : Nat.ble i.natAbs bigN with
  | false => rw [h1] at h; cases h
  | true =>
    rw [h1] at h
    have a := big_log h1
    have b := big_log h
    unfold CMulW
    omega
/-- an operator by its rule -/
theorem s_ar {o : AOp} (h : vw (vBin e) (fun p => decide (p.2.1 = opOf o) && f p.1 && g p.2.2) = true) (ha : ∀ e, f e = true → PE X e (rdC F a)) (hb : ∀ e, g e = true → PE X e (rdC F b)) : PE X e (rdC F (.bi (.ar o) a b)) := by
  obtain ⟨⟨y, op, z⟩, h1, h2⟩ := vw_true h
  obtain ⟨h2, h4⟩ := and_true2 h2
  obtain ⟨h2, h3⟩ := and_true2 h2
  obtain ⟨p, rfl⟩ := vBin_some h1
  cases (of_decide_eq_true h2 : op = opOf o)
  have go : ∀ (r : R2), OpR X (binaryOp (opOf o)) r → (∀ i j s, arI o i j = some s → ∃ k, s = .dat (.int k) ∧ ∀ (H : Hp) (Q : VK), Q (.int k) H → r (.int i) (.int j) H Q) → PE X (.BinOp y (opOf o) z p) (rdC F (.bi (.ar o) a b)) := by
    intro r hr hk
    refine peW (pe_op hr (ha y h3) (hb z h4)) fun σ H Q ⟨O, S, ρ, s, I, hs, q⟩ => ?_
    obtain ⟨i, h5, h6⟩ := onI_some (show onI (evC F a false ρ) _ = some _ from hs)
    obtain ⟨j, h7, h8⟩ := onI_some h6
    obtain ⟨k, rfl, hq⟩ := hk i j s h8
    refine gives2 (gC h5) (gC h7) (stC _) (stC _) I fun v w S2 H2 e1 r1 r2 => ?_
    rw [rp_int r1, rp_int r2]
    exact hq H2 Q (q _ S2 H2 e1 (.of (.int _)))
  cases o with
  | add => exact go _ op_add fun i j s hs => ⟨_, dI_inv hs, fun H Q q => ⟨i, j, rfl, rfl, q⟩⟩
  | sub => exact go _ op_sub fun i j s hs => ⟨_, dI_inv hs, fun H Q q => ⟨i, j, rfl, rfl, q⟩⟩
  | mul =>
    refine go _ op_mulW fun i j s hs => ?_
    obtain ⟨h5, h6⟩ := ifB_some (show ifB (mulOk i j) _ none = some s from hs)
    exact ⟨_, dI_inv h6, fun H Q q => ⟨i, j, rfl, rfl, mulOk_some h5, q⟩⟩
  | fdiv =>
    refine go _ (OpR.or op_fdivW op_fdivN) fun i j s hs => ?_
    cases j with
    | ofNat n =>
      have hs : ifB (Nat.beq n 0) none (ifB (Nat.ble n bigN) (dInt (Int.ediv i (.ofNat n))) none) = some s := hs
      cases h5 : Nat.beq n 0 with
      | true => rw [h5] at hs; cases hs
      | false =>
        rw [h5] at hs
        obtain ⟨h6, h7⟩ := ifB_some hs
        have h8 : n ≠ 0 := fun z => by subst z; cases h5
        refine ⟨_, dI_inv h7, fun H Q q => .inl ⟨i, .ofNat n, rfl, rfl, ⟨?_, ?_⟩, q⟩⟩
        · show (0 : Int) < (n : Int); omega
        · have := big_log h6
          show n.log2 < 9000
          omega
    | negSucc n =>
      obtain ⟨h5, h6⟩ := ifB_some (show ifB (Nat.ble n 1000000000) _ none = some s from hs)
      have h7 := Nat.ble_eq.mp h5
      exact ⟨_, dI_inv h6, fun H Q q => .inr ⟨i, .negSucc n, rfl, rfl, ⟨fun z => (nomatch z), by show n + 1 < 1073741824; omega⟩, q⟩⟩
  | mod =>
    refine go _ (OpR.or op_mod op_modN) fun i j s hs => ?_
    cases j with
    | ofNat n =>
      have hs : ifB (Nat.beq n 0) none (dInt (Int.emod i (.ofNat n))) = some s := hs
      cases h5 : Nat.beq n 0 with
      | true => rw [h5] at hs; cases hs
      | false =>
        rw [h5] at hs
        have h8 : n ≠ 0 := fun z => by subst z; cases h5
        exact ⟨_, dI_inv hs, fun H Q q => .inl ⟨i, .ofNat n, rfl, rfl, by show (0 : Int) < (n : Int); omega, q⟩⟩
    | negSucc n => exact ⟨_, dI_inv hs, fun H Q q => .inr ⟨i, .negSucc n, rfl, rfl, fun z => (nomatch z), q⟩⟩
  | shl =>
    refine go _ op_shl fun i j s hs => ?_
    cases j with
    | negSucc n => cases hs
    | ofNat n =>
      have hs : (match Nat.ble n 1000000, Nat.ble (absN i) 1000000000 with | true, true => dInt (Int.mul i (.ofNat (Nat.pow 2 n))) | _, _ => none) = some s := hs
      cases h5 : Nat.ble n 1000000 with
      | false => rw [h5] at hs; cases hs
      | true =>
        cases h6 : Nat.ble (absN i) 1000000000 with
        | false => rw [h5, h6] at hs; cases hs
        | true =>
          rw [h5, h6] at hs
          have h7 := Nat.ble_eq.mp h5
          have h8 := Nat.ble_eq.mp h6
          rw [absN_eq] at h8
          refine ⟨_, dI_inv hs, fun H Q q => ⟨i, .ofNat n, rfl, rfl, ⟨Int.natCast_nonneg n, ?_, ?_⟩, ?_⟩⟩
          · show (n : Int) ≤ 1000000; omega
          · exact Nat.lt_of_le_of_lt h8 (by decide)
          · have e2 : Int.mul i (.ofNat (Nat.pow 2 n)) = i * 2 ^ (Int.ofNat n).toNat := by
              show i * ((2 ^ n : Nat) : Int) = i * 2 ^ n
              rw [Int.natCast_pow]
              rfl
            rw [e2] at q
            exact q
theorem s_cmp {o : POp} (h : vw (vCmp e) (fun p => decide (p.2.1 = cmOf o) && f p.1 && g p.2.2) = true) (ha : ∀ e, f e = true → PE X e (rdC F a)) (hb : ∀ e, g e = true → PE X e (rdC F b)) :
    PE X e (rdC F (.bi (.cmp o) a b)) ∧ PT X e (rdT F (.bi (.cmp o) a b)) := by
  obtain ⟨⟨y, op, z⟩, h1, h2⟩ := vw_true h
  obtain ⟨h2, h4⟩ := and_true2 h2
  obtain ⟨h2, h3⟩ := and_true2 h2
  obtain ⟨p, rfl⟩ := vCmp_some h1
  cases (of_decide_eq_true h2 : op = cmOf o)
  have go : ∀ (r : R2), OpR X (compareOp (cmOf o)) r → (∀ i j (H : Hp) (Q : VK), Q (.bl (poI o i j)) H → r (.int i) (.int j) H Q) → behindInMarks (cmOf o) z = false → PE X (.Compare y [cmOf o] [z] p) (rdC F (.bi (.cmp o) a b)) ∧ PT X (.Compare y [cmOf o] [z] p) (rdT F (.bi (.cmp o) a b)) := by
    intro r hr hk hm
    refine cmp2 hr (ha y h3) (hb z h4) hm (fun σ H O S ρ k K I hs q => ?_) fun ρ s hs => ?_
    · obtain ⟨i, h5, h6⟩ := onI_some (show onI (evC F a false ρ) _ = some _ from hs)
      obtain ⟨j, h7, h8⟩ := onI_some h6
      cases dB_inv h8
      refine gives2 (gC h5) (gC h7) (stC _) (stC _) I fun v w S2 H2 e1 r1 r2 => ?_
      rw [rp_int r1, rp_int r2]
      exact hk i j H2 K (q S2 H2 e1)
    · obtain ⟨i, h5, h6⟩ := onI_some (show onI (evC F a false ρ) _ = some _ from hs)
      obtain ⟨j, h7, h8⟩ := onI_some h6
      exact ⟨_, dB_inv h8⟩
  cases o with
  | lt => exact go _ op_lt (fun i j H Q q => ⟨i, j, rfl, rfl, by rw [poI_eq] at q; exact q⟩) (nomark z)
  | le => exact go _ op_le (fun i j H Q q => ⟨i, j, rfl, rfl, by rw [poI_eq] at q; exact q⟩) (nomark z)
  | gt => exact go _ op_gt (fun i j H Q q => ⟨i, j, rfl, rfl, by rw [poI_eq] at q; exact q⟩) (nomark z)
  | ge => exact go _ op_ge (fun i j H Q q => ⟨i, j, rfl, rfl, by rw [poI_eq] at q; exact q⟩) (nomark z)
theorem eq_inv {t u : Option SV} {n : Bool} {r : SV} (h : (onD t fun d => onD u fun e => match eqD d e with | some k => dBool (xor n k) | none => none) = some r) :
    ∃ s1 s2 d e k, t = some s1 ∧ u = some s2 ∧ datOf s1 = some d ∧ datOf s2 = some e ∧ eqD d e = some k ∧ r = .dat (.bool (xor n k)) := by
  obtain ⟨s1, d, h1, h2, h3⟩ := onD_some h
  obtain ⟨s2, e, h4, h5, h6⟩ := onD_some h3
  cases hk : eqD d e with
  | none => rw [hk] at h6; cases h6
  | some k => rw [hk] at h6; exact ⟨s1, s2, d, e, k, h1, h4, h2, h5, hk, dB_inv h6⟩
theorem s_eq (x : XOk M X sc cl) (h : vw (vCmp e) (fun p => decide (p.2.1 = .Eq) && f p.1 && g p.2.2) = true) (ha : ∀ e, f e = true → PE X e (rdP F a)) (hb : ∀ e, g e = true → PE X e (rdP F b)) :
    PE X e (rdC F (.bi .eq a b)) ∧ PT X e (rdT F (.bi .eq a b)) := by
  obtain ⟨⟨y, op, z⟩, h1, h2⟩ := vw_true h
  obtain ⟨h2, h4⟩ := and_true2 h2
  obtain ⟨h2, h3⟩ := and_true2 h2
  obtain ⟨p, rfl⟩ := vCmp_some h1
  cases (of_decide_eq_true h2 : op = .Eq)
  have hu : X.A.units + 64 < cLine := by have := x.units; omega
  have inv : ∀ ρ r, evC F (.bi .eq a b) false ρ = some r → ∃ s1 s2 d e k, evC F a true ρ = some s1 ∧ evC F b true ρ = some s2 ∧ datOf s1 = some d ∧ datOf s2 = some e ∧ eqD d e = some k ∧ r = .dat (.bool k) := by
    intro ρ r hr
    obtain ⟨s1, s2, d, e, k, g1, g2, g3, g4, g5, g6⟩ := eq_inv (n := false) (r := r) (t := evC F a true ρ) (u := evC F b true ρ) (by
      have e2 : ∀ k, dBool (xor false k) = dBool k := fun k => by cases k <;> rfl
      simp only [e2]
      exact hr)
    have e3 : xor false k = k := by cases k <;> rfl
    rw [e3] at g6
    exact ⟨s1, s2, d, e, k, g1, g2, g3, g4, g5, g6⟩
  refine cmp2 (op_eqD hu) (ha y h3) (hb z h4) (nomark z) (fun σ H O S ρ k K I hs q => ?_) fun ρ s hs => ?_
  · obtain ⟨s1, s2, d, e, k', g1, g2, g3, g4, g5, g6⟩ := inv ρ _ hs
    cases g6
    obtain ⟨i1, i2, i3⟩ := eqD_some g5
    refine gives2 (gP g1 g3) (gP g2 g4) (stP d) (stP e) I fun v w S2 H2 e1 r1 r2 => ⟨d, e, r1.dp e1.sh, r2.dp e1.sh, i1, i2, ?_⟩
    rw [← i3]
    exact q S2 H2 e1
  · obtain ⟨s1, s2, d, e, k', _, _, _, _, _, g6⟩ := inv ρ _ hs
    exact ⟨k', g6⟩
theorem s_ne (x : XOk M X sc cl) (h : vw (vCmp e) (fun p => decide (p.2.1 = .NotEq) && f p.1 && g p.2.2) = true) (ha : ∀ e, f e = true → PE X e (rdP F a)) (hb : ∀ e, g e = true → PE X e (rdP F b)) :
    PE X e (rdC F (.bi .ne a b)) ∧ PT X e (rdT F (.bi .ne a b)) := by
  obtain ⟨⟨y, op, z⟩, h1, h2⟩ := vw_true h
  obtain ⟨h2, h4⟩ := and_true2 h2
  obtain ⟨h2, h3⟩ := and_true2 h2
  obtain ⟨p, rfl⟩ := vCmp_some h1
  cases (of_decide_eq_true h2 : op = .NotEq)
  have hu : X.A.units + 64 < cLine := by have := x.units; omega
  have inv : ∀ ρ r, evC F (.bi .ne a b) false ρ = some r → ∃ s1 s2 d e k, evC F a true ρ = some s1 ∧ evC F b true ρ = some s2 ∧ datOf s1 = some d ∧ datOf s2 = some e ∧ eqD d e = some k ∧ r = .dat (.bool (!k)) := by
    intro ρ r hr
    obtain ⟨s1, s2, d, e, k, g1, g2, g3, g4, g5, g6⟩ := eq_inv (n := true) (r := r) (t := evC F a true ρ) (u := evC F b true ρ) (by
      have e2 : ∀ k, dBool (xor true k) = dBool (not k) := fun k => by cases k <;> rfl
      simp only [e2]
      exact hr)
    have e3 : xor true k = !k := by cases k <;> rfl
    rw [e3] at g6
    exact ⟨s1, s2, d, e, k, g1, g2, g3, g4, g5, g6⟩
  refine cmp2 (op_neD hu) (ha y h3) (hb z h4) (nomark z) (fun σ H O S ρ k K I hs q => ?_) fun ρ s hs => ?_
  · obtain ⟨s1, s2, d, e, k', g1, g2, g3, g4, g5, g6⟩ := inv ρ _ hs
    cases g6
    obtain ⟨i1, i2, i3⟩ := eqD_some g5
    refine gives2 (gP g1 g3) (gP g2 g4) (stP d) (stP e) I fun v w S2 H2 e1 r1 r2 => ⟨d, e, r1.dp e1.sh, r2.dp e1.sh, i1, i2, ?_⟩
    rw [← i3]
    exact q S2 H2 e1
  · obtain ⟨s1, s2, d, e, k', _, _, _, _, _, g6⟩ := inv ρ _ hs
    exact ⟨_, g6⟩
/-- a list's or a tuple's place -/
theorem atI_eq {S : Hp} {vs : List V} {ds : List PyData} {i : Int} {d : PyData} (h : SW.atI ds i = some d) (r : DqA S vs ds) : ∃ v, L2.atI vs i = some v ∧ Dq S v d := by
  cases i with
  | ofNat n =>
    have h : nth ds n = some d := h
    rw [nth_eq] at h
    obtain ⟨v, h1, h2⟩ := r.get h
    exact ⟨v, atI_nat h1, h2⟩
  | negSucc m =>
    obtain ⟨h1, h2⟩ := ifB_some (show ifB (Nat.ble (Nat.succ m) (lng ds)) (nth ds (Nat.sub (lng ds) (Nat.succ m))) none = some d from h)
    rw [nth_eq, lng_eq] at h2
    have h1 := Nat.ble_eq.mp h1
    rw [lng_eq] at h1
    obtain ⟨v, h3, h4⟩ := r.get h2
    refine ⟨v, ?_, h4⟩
    unfold L2.atI L2.ixN
    rw [r.length]
    have e1 : ¬ (0 ≤ Int.negSucc m) := by have := Int.negSucc_lt_zero m; omega
    rw [if_neg e1, if_pos (by rw [Int.negSucc_eq]; omega)]
    have e2 : (Int.negSucc m + (ds.length : Int)).toNat = ds.length - (m + 1) := by rw [Int.negSucc_eq]; omega
    rw [e2]
    exact h3
theorem s_ix (x : XOk M X sc cl) (h : vw (vSub e) (fun p => noSlice p.2 && f p.1 && g p.2) = true) (ha : ∀ e, f e = true → PE X e (rdP F a)) (hb : ∀ e, g e = true → PE X e (rdC F b)) : PE X e (rdC F (.bi .ix a b)) := by
  obtain ⟨⟨y, z⟩, h1, h2⟩ := vw_true h
  obtain ⟨h2, h4⟩ := and_true2 h2
  obtain ⟨h2, h3⟩ := and_true2 h2
  obtain ⟨p, rfl⟩ := vSub_some h1
  refine peW (pe_ix ix_seq (ha y h3) (hb z h4) (sub_plain h2)) fun σ H Q ⟨O, S, ρ, r, I, hr, q⟩ => ?_
  obtain ⟨s, d, xs, h5, h6, h7, h8⟩ := onS_some (show onS (evC F a true ρ) _ = some _ from hr)
  obtain ⟨i, h9, h10⟩ := onI_some h8
  obtain ⟨w, h11, h12⟩ := bnd_inv h10
  cases h12
  refine gives2 (gP h5 h6) (gC h9) (stP d) (stC _) I fun v u S2 H2 e1 r1 r2 => ?_
  obtain ⟨p, vs, rfl, hh, hq⟩ := r1.seq e1.sh h7
  obtain ⟨v, g1, g2⟩ := atI_eq h11 hq
  rcases hh with hh | hh
  · exact .inl ⟨p, vs, i, v, rfl, rp_int r2, SqL.of hh, g1, q _ S2 H2 e1 (.of g2)⟩
  · exact .inr (.inl ⟨p, vs, i, v, rfl, rp_int r2, SqT.of hh, g1, q _ S2 H2 e1 (.of g2)⟩)
theorem cut_to {n : Nat} (vs : List V) : cutV vs none (some (Int.ofNat n)) = vs.take n := by
  unfold cutV
  rw [show HT.sIx vs.length vs.length (some (Int.ofNat n)) = min n vs.length from HT.sIx_nat _ _ n, HT.sIx_none]
  show (vs.drop 0).take (min n vs.length - 0) = _
  rw [List.drop_zero, Nat.sub_zero, ← List.take_eq_take_min]
theorem cut_from {n : Nat} (vs : List V) : cutV vs (some (Int.ofNat n)) none = vs.drop n := by
  unfold cutV
  rw [show HT.sIx vs.length 0 (some (Int.ofNat n)) = min n vs.length from HT.sIx_nat _ _ n, HT.sIx_none]
  by_cases h : n ≤ vs.length
  · rw [Nat.min_eq_left h]
    exact List.take_of_length_le (by rw [List.length_drop]; omega)
  · rw [Nat.min_eq_right (by omega), List.drop_length, List.drop_of_length_le (by omega), List.take_nil]
theorem s_upTo (x : XOk M X sc cl) (h : vw (vSub e) (fun p => f p.1 && vw (vUpTo p.2) g) = true) (ha : ∀ e, f e = true → PE X e (rdP F a)) (hb : ∀ e, g e = true → PE X e (rdC F b)) : PE X e (rdC F (.bi .upTo a b)) := by
  obtain ⟨⟨y, z⟩, h1, h2⟩ := vw_true h
  obtain ⟨h2, h3⟩ := and_true2 h2
  obtain ⟨u, h4, h5⟩ := vw_true h3
  obtain ⟨p, rfl⟩ := vSub_some h1
  obtain ⟨p2, e2⟩ := vUpTo_some h4
  simp only at e2
  subst e2
  refine peW (pe_slice (SlR.or sl_list sl_tupA) (ha y h2) po_none (po_some (hb u h5))) fun σ H Q ⟨O, S, ρ, r, I, hr, q⟩ => ?_
  obtain ⟨s, d, h6, h7, h8⟩ := onD_some (show onD (evC F a true ρ) _ = some _ from hr)
  obtain ⟨i, h9, h10⟩ := onI_some h8
  refine gives2 (gP h6 h7) (gC h9) (stP d) (stC _) I fun v w S2 H2 e1 r1 r2 => ?_
  refine ⟨i, rp_int r2, ?_⟩
  cases i with
  | negSucc m =>
    cases d <;> cases h10
  | ofNat n =>
    cases d with
    | list xs =>
      cases (show some (SV.own (xs.take n)) = some r from h10)
      obtain ⟨p, vs, rfl, hh, hq⟩ := r1.list e1.sh
      refine .inl ⟨p, vs, rfl, SqL.of hh, fun l hl => ?_⟩
      rw [cut_to]
      exact q _ S2 _ (e1.trans (.newH e1.sh _ hl)) ⟨⟨l, _, rfl, e1.sh.free hl, upd_same, hq.take n⟩, fun a _ z => by cases z; exact e1.hh.free hl⟩
    | tuple xs =>
      cases (show some (SV.dat (.tuple (xs.take n))) = some r from h10)
      obtain ⟨p, vs, rfl, hh, hq⟩ := r1.tuple
      refine .inr ⟨p, vs, rfl, SqT.of (e1.sh _ _ hh), fun ⟨_, hw⟩ => ?_, fun _ l hl => ?_⟩
      · have hw : min n vs.length = vs.length := by rw [← HT.sIx_nat vs.length vs.length n]; exact hw
        have e3 : xs.take n = xs := List.take_of_length_le (by rw [← hq.length]; omega)
        rw [e3] at q
        exact q _ S2 H2 e1 (.of (.tup hh hq))
      · rw [cut_to]
        exact q _ _ _ (e1.trans (.new e1.sh _ hl)) (.of (.tup upd_same ((hq.take n).mono (same_new (e1.sh.free hl)))))
    | none => cases h10
    | bool _ => cases h10
    | int _ => cases h10
    | str _ => cases h10
    | dict _ => cases h10
theorem s_onFrom (x : XOk M X sc cl) (h : vw (vSub e) (fun p => f p.1 && vw (vFrom p.2) g) = true) (ha : ∀ e, f e = true → PE X e (rdP F a)) (hb : ∀ e, g e = true → PE X e (rdC F b)) : PE X e (rdC F (.bi .onFrom a b)) := by
  obtain ⟨⟨y, z⟩, h1, h2⟩ := vw_true h
  obtain ⟨h2, h3⟩ := and_true2 h2
  obtain ⟨u, h4, h5⟩ := vw_true h3
  obtain ⟨p, rfl⟩ := vSub_some h1
  obtain ⟨p2, e2⟩ := vFrom_some h4
  simp only at e2
  subst e2
  refine peW (pe_slice sl_list (ha y h2) (po_some (hb u h5)) po_none) fun σ H Q ⟨O, S, ρ, r, I, hr, q⟩ => ?_
  obtain ⟨s, xs, h6, h7, h8⟩ := onL_some (show onL (evC F a true ρ) _ = some _ from hr)
  obtain ⟨i, h9, h10⟩ := onI_some h8
  refine gives2 (gP h6 h7) (gC h9) (stP _) (stC _) I fun v w S2 H2 e1 r1 r2 => ?_
  refine ⟨i, rp_int r2, ?_⟩
  cases i with
  | negSucc m => cases h10
  | ofNat n =>
    cases (show some (SV.own (xs.drop n)) = some r from h10)
    obtain ⟨p, vs, rfl, hh, hq⟩ := r1.list e1.sh
    refine ⟨p, vs, rfl, SqL.of hh, fun l hl => ?_⟩
    rw [cut_from]
    exact q _ S2 _ (e1.trans (.newH e1.sh _ hl)) ⟨⟨l, _, rfl, e1.sh.free hl, upd_same, hq.drop n⟩, fun a _ z => by cases z; exact e1.hh.free hl⟩
theorem s_cat (h : vw (vBin e) (fun p => decide (p.2.1 = .Add) && f p.1 && g p.2.2) = true) (ha : ∀ e, f e = true → PE X e (rdP F a)) (hb : ∀ e, g e = true → PE X e (rdP F b)) : PE X e (rdC F (.bi .cat a b)) := by
  obtain ⟨⟨y, op, z⟩, h1, h2⟩ := vw_true h
  obtain ⟨h2, h4⟩ := and_true2 h2
  obtain ⟨h2, h3⟩ := and_true2 h2
  obtain ⟨p, rfl⟩ := vBin_some h1
  cases (of_decide_eq_true h2 : op = .Add)
  refine peW (pe_op op_cat (ha y h3) (hb z h4)) fun σ H Q ⟨O, S, ρ, r, I, hr, q⟩ => ?_
  obtain ⟨s, xs, h5, h6, h7⟩ := onL_some (show onL (evC F a true ρ) _ = some _ from hr)
  obtain ⟨t, ys, h8, h9, h10⟩ := onL_some h7
  cases l1 : lenOk xs with
  | false => rw [l1] at h10; cases h10
  | true =>
    cases l2 : lenOk ys with
    | false => rw [l1, l2] at h10; cases h10
    | true =>
      rw [l1, l2] at h10
      cases h10
      refine gives2 (gP h5 h6) (gP h8 h9) (stP _) (stP _) I fun v w S2 H2 e1 r1 r2 => ?_
      obtain ⟨p, vs, rfl, hh, hq⟩ := r1.list e1.sh
      obtain ⟨p2, ws, rfl, hh2, hq2⟩ := r2.list e1.sh
      have := lenOk_le l1
      have := lenOk_le l2
      refine ⟨p, p2, vs, ws, rfl, rfl, hh, hh2, by rw [hq.length, hq2.length]; exact Nat.le_trans (by omega : _ ≤ 200000) (by decide), fun l hl => ?_⟩
      exact q _ S2 _ (e1.trans (.newH e1.sh _ hl)) ⟨⟨l, _, rfl, e1.sh.free hl, upd_same, hq.append hq2⟩, fun a _ z => by cases z; exact e1.hh.free hl⟩
theorem s_catT (h : vw (vBin e) (fun p => decide (p.2.1 = .Add) && f p.1 && g p.2.2) = true) (ha : ∀ e, f e = true → PE X e (rdC F a)) (hb : ∀ e, g e = true → PE X e (rdC F b)) : PE X e (rdC F (.bi .catT a b)) := by
  obtain ⟨⟨y, op, z⟩, h1, h2⟩ := vw_true h
  obtain ⟨h2, h4⟩ := and_true2 h2
  obtain ⟨h2, h3⟩ := and_true2 h2
  obtain ⟨p, rfl⟩ := vBin_some h1
  cases (of_decide_eq_true h2 : op = .Add)
  refine peW (pe_op op_catT (ha y h3) (hb z h4)) fun σ H Q ⟨O, S, ρ, r, I, hr, q⟩ => ?_
  obtain ⟨xs, h5, h7⟩ := onT_some (show onT (evC F a false ρ) _ = some _ from hr)
  obtain ⟨ys, h8, h10⟩ := onT_some h7
  cases l1 : lenOk xs with
  | false => rw [l1] at h10; cases h10
  | true =>
    cases l2 : lenOk ys with
    | false => rw [l1, l2] at h10; cases h10
    | true =>
      rw [l1, l2] at h10
      cases xs with
      | nil => cases h10
      | cons d ds =>
        cases h10
        refine gives2 (gC h5) (gC h8) (stC _) (stC _) I fun v w S2 H2 e1 r1 r2 => ?_
        obtain ⟨p, vs, rfl, hh, hq⟩ := rp_tup r1
        obtain ⟨p2, ws, rfl, hh2, hq2⟩ := rp_tup r2
        have h1 := lenOk_le l1
        have h2 := lenOk_le l2
        refine ⟨p, p2, vs, ws, rfl, rfl, SqT.of (e1.sh _ _ hh), SqT.of (e1.sh _ _ hh2), (fun z => by subst z; cases hq), ?_, fun z => ?_, fun z l hl => ?_⟩
        · rw [hq.length, hq2.length]
          exact Nat.le_trans (Nat.add_le_add h1 h2) (by decide)
        · subst z
          cases hq2
          rw [List.append_nil] at q
          exact q _ S2 H2 e1 (.of (.tup hh hq))
        · exact q _ _ _ (e1.trans (.new e1.sh _ hl)) (.of (.tup upd_same ((hq.append hq2).mono (same_new (e1.sh.free hl)))))
theorem flat_rep (v : V) : ∀ n : Nat, (List.replicate n [v]).flatten = List.replicate n v
  | 0 => rfl
  | n + 1 => by
    rw [List.replicate_succ, List.flatten_cons, flat_rep v n]
    rfl
theorem s_rep (h : vw (vBin e) (fun p => decide (p.2.1 = .Mult) && f p.1 && g p.2.2) = true) (ha : ∀ e, f e = true → PE X e (rdP F a)) (hb : ∀ e, g e = true → PE X e (rdC F b)) : PE X e (rdC F (.bi .rep a b)) := by
  obtain ⟨⟨y, op, z⟩, h1, h2⟩ := vw_true h
  obtain ⟨h2, h4⟩ := and_true2 h2
  obtain ⟨h2, h3⟩ := and_true2 h2
  obtain ⟨p, rfl⟩ := vBin_some h1
  cases (of_decide_eq_true h2 : op = .Mult)
  refine peW (pe_op op_rep (ha y h3) (hb z h4)) fun σ H Q ⟨O, S, ρ, r, I, hr, q⟩ => ?_
  obtain ⟨s, xs, h5, h6, h7⟩ := onL_some (show onL (evC F a true ρ) _ = some _ from hr)
  obtain ⟨i, h8, h10⟩ := onI_some h7
  cases i with
  | negSucc m => cases h10
  | ofNat n =>
    match xs, h10 with
    | [d], h10 =>
      have h10 : (match Nat.ble n 100000 with | true => some (SV.own (List.replicate n d)) | false => none) = some r := h10
      cases hn : Nat.ble n 100000 with
      | false => rw [hn] at h10; cases h10
      | true =>
        rw [hn] at h10
        cases h10
        have hn := Nat.ble_eq.mp hn
        refine gives2 (gP h5 h6) (gC h8) (stP _) (stC _) I fun v w S2 H2 e1 r1 r2 => ?_
        obtain ⟨p, vs, rfl, hh, hq⟩ := r1.list e1.sh
        cases hq with
        | cons q1 q2 =>
          cases q2
          rename_i u
          refine ⟨p, Int.ofNat n, [u], rfl, rp_int r2, hh, ?_, ?_, ?_, fun l hl => ?_⟩
          · have := Int.natCast_nonneg n; show _ ≤ (n : Int); omega
          · show (n : Int) < 2 ^ 63; omega
          · show 1 * n ≤ sizeLine
            exact Nat.le_trans (by omega : _ ≤ 100000) line5
          · show Q (.ref l) (upd H2 l (.lst (List.replicate n [u]).flatten))
            rw [flat_rep]
            exact q _ S2 _ (e1.trans (.newH e1.sh _ hl)) ⟨⟨l, _, rfl, e1.sh.free hl, upd_same, .replicate q1 n⟩, fun a _ z => by cases z; exact e1.hh.free hl⟩
theorem s_max2 (x : XOk M X sc cl) (h : mC "max" sc e (a2 f g) = true) (ha : ∀ e, f e = true → PE X e (rdC F a)) (hb : ∀ e, g e = true → PE X e (rdC F b)) : PE X e (rdC F (.bi .max2 a b)) := by
  obtain ⟨y, z, hf, hg, k⟩ := call2 x h (call_max2 x.calm) (by decide +kernel) (by decide +kernel)
  refine peW (k _ _ (ha y hf) (hb z hg)) fun σ H Q ⟨O, S, ρ, r, I, hr, q⟩ => ?_
  obtain ⟨i, h5, h6⟩ := onI_some (show onI (evC F a false ρ) _ = some _ from hr)
  obtain ⟨j, h7, h8⟩ := onI_some h6
  cases dI_inv h8
  refine gives2 (gC h5) (gC h7) (stC _) (stC _) I fun v w S2 H2 e1 r1 r2 => ⟨i, j, by rw [rp_int r1, rp_int r2], ?_⟩
  rw [← gtI_eq]
  exact q _ S2 H2 e1 (.of (.int _))
theorem s_max3 (x : XOk M X sc cl) (h : mC "max" sc e (a3 f g l) = true) (ha : ∀ e, f e = true → PE X e (rdC F a)) (hb : ∀ e, g e = true → PE X e (rdC F b)) (hc : ∀ e, l e = true → PE X e (rdC F c)) : PE X e (rdC F (.tr .max3 a b c)) := by
  obtain ⟨y, z, w, hf, hg, hl, k⟩ := call3 x h (call_max3Nu x.calm) (by decide +kernel) (by decide +kernel)
  refine peW (k _ _ _ (ha y hf) (hb z hg) (hc w hl)) fun σ H Q ⟨O, S, ρ, r, I, hr, q⟩ => ?_
  obtain ⟨i, h5, h6⟩ := onI_some (show onI (evC F a false ρ) _ = some _ from hr)
  obtain ⟨j, h7, h8⟩ := onI_some h6
  obtain ⟨m, h9, h10⟩ := onI_some h8
  cases dI_inv h10
  refine gives3 (gC h5) (gC h7) (gC h9) (stC _) (stC _) (stC _) I fun v w u S2 H2 e1 r1 r2 r3 => ⟨.int i, .int j, .int m, .int (gtI m (gtI j i)), by rw [rp_int r1, rp_int r2, rp_int r3], ?_, q _ S2 H2 e1 (.of (.int _))⟩
  have nm : ∀ p q : Int, nuMax2 (.int p) (.int q) = some (.int (gtI q p)) := by
    intro p q
    rw [gtI_eq]
    show some (if decide (p < q) = true then V.int q else V.int p) = _
    by_cases hpq : p < q
    · rw [decide_eq_true hpq, if_pos rfl, if_pos hpq]
    · rw [decide_eq_false hpq, if_neg (by simp), if_neg hpq]
  show (nuMax2 (.int i) (.int j)).bind (fun m' => nuMax2 m' (.int m)) = _
  rw [nm i j]
  exact nm _ m
theorem s_gcd (x : XOk M X sc cl) (h : mC "gcd" sc e (a2 f g) = true) (ha : ∀ e, f e = true → PE X e (rdC F a)) (hb : ∀ e, g e = true → PE X e (rdC F b)) : PE X e (rdC F (.bi .gcd a b)) := by
  obtain ⟨es, p, q, rfl, hg, h⟩ := mC_some h
  obtain ⟨y, z, rfl, hs, hs2, hf, hf2⟩ := two_args h
  refine peW (pe_callBfun cr_gcd (x.gl hg) x.gcd (pa_cons (ha y hf) (pa_cons (hb z hf2) pa_nil (star1 hs2)) (star_cons hs [z])) (by decide +kernel) (star_cons hs [z]) (any_one hs2)) fun σ H Q ⟨O, S, ρ, r, I, hr, q⟩ => ?_
  obtain ⟨i, h5, h6⟩ := onI_some (show onI (evC F a false ρ) _ = some _ from hr)
  obtain ⟨j, h7, h8⟩ := onI_some h6
  cases dI_inv h8
  refine gives2 (gC h5) (gC h7) (stC _) (stC _) I fun v w S2 H2 e1 r1 r2 => ⟨i, j, by rw [rp_int r1, rp_int r2], ?_⟩
  rw [← absN_eq, ← absN_eq]
  exact q _ S2 H2 e1 (.of (.int _))
theorem findI_some : ∀ {d : PyData} {xs : List PyData} {k n : Nat}, findI d xs k = some n → ∃ z, n = k + z ∧ (∃ y, xs[z]? = some y ∧ eqP 6 y d = true) ∧ ∀ m y, m < z → xs[m]? = some y → eqP 6 y d = false
  | d, [], k, n, h => nomatch h
  | d, y :: r, k, n, h => by
    unfold findI at h
    cases q : eqP 6 y d with
    | true =>
      rw [q] at h
      cases h
      exact ⟨0, rfl, ⟨y, rfl, q⟩, fun m _ hm => absurd hm (Nat.not_lt_zero m)⟩
    | false =>
      rw [q] at h
      obtain ⟨z, e1, ⟨w, h1, h2⟩, h3⟩ := findI_some h
      refine ⟨z + 1, by omega, ⟨w, h1, h2⟩, fun m u hm hu => ?_⟩
      cases m with
      | zero =>
        have e2 : y = u := Option.some.inj hu
        rw [← e2]
        exact q
      | succ m => exact h3 m u (by omega) hu
theorem s_index (x : XOk M X sc cl) (h : vw (vMeth e) (fun p => decide (p.2.1 = "index") && (vName p.1).isSome && f p.1 && a1 g p.2.2) = true) (ha : ∀ e, f e = true → PE X e (rdP F a)) (hb : ∀ e, g e = true → PE X e (rdC F b)) : PE X e (rdC F (.bi .index a b)) := by
  obtain ⟨⟨o, m, es⟩, h1, h2⟩ := vw_true h
  obtain ⟨h2, h5⟩ := and_true2 h2
  obtain ⟨h2, h4⟩ := and_true2 h2
  obtain ⟨h2, h3⟩ := and_true2 h2
  obtain ⟨p, q, rfl, hl⟩ := vMeth_some h1
  cases (of_decide_eq_true h2 : m = "index")
  obtain ⟨y, e1, hs, hg⟩ := one_arg h5
  simp only at e1
  subst e1
  obtain ⟨n, hn⟩ := Option.isSome_iff_exists.mp h3
  obtain ⟨p2, e2⟩ := vName_some hn
  simp only at e2
  have hh := ha o h4
  subst e2
  have hu : X.A.units + 65 < cLine := by have := x.units; omega
  refine peW (pe_bm PySem.F.plainAttrs_list PySem.F.slot_list_index PySem.F.type_list_index (mt_indexD hu) hh (pa_cons (peD (hb y hg)) pa_nil (star1 hs)) rfl (by rw [star1 hs]; rfl) hl (star1 hs) any_nil) fun σ H Q ⟨O, S, ρ, r, I, hr, q⟩ => ?_
  obtain ⟨s, xs, h6, h7, h8⟩ := onL_some (show onL (evC F a true ρ) _ = some _ from hr)
  obtain ⟨t, d, h9, h10, h11⟩ := onD_some h8
  cases b1 : noB 6 (.list xs) with
  | false => rw [b1] at h11; cases h11
  | true =>
    cases b2 : noB 6 d with
    | false => rw [b1, b2] at h11; cases h11
    | true =>
      rw [b1, b2] at h11
      cases hk : findI d xs 0 with
      | none => simp only [hk] at h11; cases h11
      | some j =>
        simp only [hk] at h11
        cases dI_inv h11
        obtain ⟨z, g1, ⟨w, g2, g3⟩, g4⟩ := findI_some hk
        refine gP h6 h7 O S H _ I fun v S1 H1 e1 r1 => ?_
        obtain ⟨pa, vs, rfl, hh1, hq1⟩ := r1.list e1.sh
        refine ⟨.inl ⟨rfl, vs, SqL.of hh1⟩, gD h9 h10 O S1 H1 _ (I.ext e1) fun u S2 H2 e2 r2 => ?_⟩
        have items : ∀ x ∈ xs, noB 6 x = true := noB_mem b1 rfl
        have ev : ∀ x ∈ xs, eqP 6 x d = PyData.eqv x d := fun x hx => eqP_eqv 6 x d (items x hx) b2
        refine ⟨pa, u, d, xs, z, w, rfl, rfl, (r1.ext e2).dp e2.sh, (r2.mono e2.sh).dp, noB_shaped b1 (by decide), noB_shaped b2 (by decide), g2, ?_, fun m y hm hy => ?_, ?_⟩
        · rw [← ev w (List.mem_of_getElem? g2)]; exact g3
        · rw [← ev y (List.mem_of_getElem? hy)]; exact g4 m y hm hy
        · have e3 : Int.ofNat j = ((z : Nat) : Int) := by rw [g1, Nat.zero_add]; rfl
          rw [← e3]
          exact q _ S2 H2 (e1.trans e2) (.of (.int _))
/-! ### tests -/
theorem rp_test {H0 S H : Hp} {v : V} {k : Bool} (h : RpN H0 S H v (.dat (.bool k))) : v = .bl k := rp_bool h
theorem gT {σ : L2.St} {ρ : En} {k : Bool} {O : Addr → Prop} {S H : Hp} {Q : Bool → Hp → Prop} (h : evC F a false ρ = some (.dat (.bool k))) (I : EnR O S H σ ρ) (q : ∀ S' H', Ext S H S' H' → Q k H') : rdT F a σ H Q := ⟨O, S, ρ, k, I, h, q⟩
/-- a value that is a bool, as a test -/
theorem pt_of (h : PE X e (rdC F a)) (ht : tHead e = true) : PT X e (rdT F a) :=
  ptW (pt_val h (fun whole => true_plain ht whole)) fun σ H Q ⟨O, S, ρ, k, I, hr, q⟩ => gC hr O S H _ I fun v S' H' e1 r1 => ⟨k, rp_bool r1, q S' H' e1⟩
theorem s_notT (h : vw (vUn e) (fun p => decide (p.1 = .Not) && tOk p.2 && f p.2) = true) (ha : ∀ e, f e = true → tOk e = true → PT X e (rdT F a)) : PT X e (rdT F (.un .not a)) := by
  obtain ⟨⟨o, y⟩, h1, h2⟩ := vw_true h
  obtain ⟨h2, h3⟩ := and_true2 h2
  obtain ⟨h2, h4⟩ := and_true2 h2
  obtain ⟨p, rfl⟩ := vUn_some h1
  cases (of_decide_eq_true h2 : o = .Not)
  refine ptW (pt_not (ha y h3 h4)) fun σ H Q ⟨O, S, ρ, k, I, hr, q⟩ => ?_
  obtain ⟨i, h5, h6⟩ := onB_some (show onB (evC F a false ρ) _ = some _ from hr)
  cases dB_inv h6
  exact gT h5 I fun S' H' e1 => q S' H' e1
theorem s_ite (h : vw (vIf e) (fun p => tOk p.1 && f p.1 && g p.2.1 && l p.2.2) = true) (ha : ∀ e, f e = true → tOk e = true → PT X e (rdT F a)) (hb : ∀ e, g e = true → PE X e (rdC F b)) (hc : ∀ e, l e = true → PE X e (rdC F c)) : PE X e (rdC F (.tr .ite a b c)) := by
  obtain ⟨⟨y, z, w⟩, h1, h2⟩ := vw_true h
  obtain ⟨h2, h5⟩ := and_true2 h2
  obtain ⟨h2, h4⟩ := and_true2 h2
  obtain ⟨h2, h3⟩ := and_true2 h2
  obtain ⟨p, rfl⟩ := vIf_some h1
  refine peW (pe_ifExp (ha y h3 h2) (hb z h4) (hc w h5)) fun σ H Q ⟨O, S, ρ, r, I, hr, q⟩ => ?_
  obtain ⟨k, h6, h7⟩ := onB_some (show onB (evC F a false ρ) _ = some _ from hr)
  refine gT h6 I fun S1 H1 e1 => ?_
  cases k with
  | true => exact gC (show evC F b false ρ = some r from h7) O S1 H1 _ (I.ext e1) fun v S2 H2 e2 r2 => q v S2 H2 (e1.trans e2) ((stC r).low r2 e1.hh)
  | false => exact gC (show evC F c false ρ = some r from h7) O S1 H1 _ (I.ext e1) fun v S2 H2 e2 r2 => q v S2 H2 (e1.trans e2) ((stC r).low r2 e1.hh)
theorem s_chain {o p : POp} (h : vw (vCmp2 e) (fun q => decide (q.2.1 = cmOf o) && decide (q.2.2.2.1 = cmOf p) && noSet q.2.2.2.2 && f q.1 && g q.2.2.1 && l q.2.2.2.2) = true) (ha : ∀ e, f e = true → PE X e (rdC F a)) (hb : ∀ e, g e = true → PE X e (rdC F b)) (hc : ∀ e, l e = true → PE X e (rdC F c)) :
    PE X e (rdC F (.tr (.chain o p) a b c)) ∧ PT X e (rdT F (.tr (.chain o p) a b c)) := by
  obtain ⟨⟨y, op1, z, op2, w⟩, h1, h2⟩ := vw_true h
  obtain ⟨h2, h7⟩ := and_true2 h2
  obtain ⟨h2, h6⟩ := and_true2 h2
  obtain ⟨h2, h5⟩ := and_true2 h2
  obtain ⟨h2, h4⟩ := and_true2 h2
  obtain ⟨h2, h3⟩ := and_true2 h2
  obtain ⟨ps, rfl⟩ := vCmp2_some h1
  cases (of_decide_eq_true h2 : op1 = cmOf o)
  cases (of_decide_eq_true h3 : op2 = cmOf p)
  have rule : ∀ o : POp, OpR X (compareOp (cmOf o)) (rI0 fun i j => .bl (poI o i j)) := by
    intro o
    have e2 : ∀ (q : Int → Int → Bool), (∀ i j, poI o i j = q i j) → (fun i j => V.bl (poI o i j)) = fun i j => V.bl (q i j) := fun q h => by
      funext i j
      rw [h]
    cases o with
    | lt => rw [e2 _ (fun i j => ltI_eq i j)]; exact op_lt
    | le => rw [e2 _ (fun i j => leI_eq i j)]; exact op_le
    | gt => rw [e2 _ (fun i j => ltI_eq j i)]; exact op_gt
    | ge => rw [e2 _ (fun i j => leI_eq j i)]; exact op_ge
  have hm : lastMarks [cmOf o, cmOf p] [z, w] = false := mark_none h4 _
  have inv : ∀ ρ r, evC F (.tr (.chain o p) a b c) false ρ = some r → ∃ i j, evC F a false ρ = some (.dat (.int i)) ∧ evC F b false ρ = some (.dat (.int j)) ∧ ((poI o i j = false ∧ r = .dat (.bool false)) ∨ (poI o i j = true ∧ ∃ k, evC F c false ρ = some (.dat (.int k)) ∧ r = .dat (.bool (poI p j k)))) := by
    intro ρ r hr
    obtain ⟨i, h8, h9⟩ := onI_some (show onI (evC F a false ρ) _ = some _ from hr)
    obtain ⟨j, h10, h11⟩ := onI_some h9
    refine ⟨i, j, h8, h10, ?_⟩
    cases q : poI o i j with
    | false => rw [q] at h11; exact .inl ⟨rfl, dB_inv h11⟩
    | true =>
      rw [q] at h11
      obtain ⟨k, h12, h13⟩ := onI_some (show onI (evC F c false ρ) _ = some _ from h11)
      exact .inr ⟨rfl, k, h12, dB_inv h13⟩
  have body : ∀ (σ : L2.St) (H : Hp) (O : Addr → Prop) (S : Hp) (ρ : En) (k : Bool) (Q : VK), EnR O S H σ ρ → evC F (.tr (.chain o p) a b c) false ρ = some (.dat (.bool k)) → (∀ S' H', Ext S H S' H' → Q (.bl k) H') →
      L2.tChain (rI0 fun i j => .bl (poI o i j)) (rI0 fun i j => .bl (poI p i j)) (rdC F a) (rdC F b) (rdC F c) σ H Q := by
    intro σ H O S ρ k Q I hr q
    obtain ⟨i, j, h8, h9, h10⟩ := inv ρ _ hr
    refine gives2 (gC h8) (gC h9) (stC _) (stC _) I fun v u S2 H2 e1 r1 r2 => ?_
    refine ⟨i, j, rp_int r1, rp_int r2, poI o i j, rfl, ?_⟩
    rcases h10 with ⟨h10, h11⟩ | ⟨h10, m, h11, h12⟩
    · rw [h10, if_neg Bool.false_ne_true]
      cases h11
      exact q S2 H2 e1
    · rw [h10, if_pos rfl]
      cases h12
      exact gC h11 O S2 H2 _ (I.ext e1) fun v' S3 H3 e3 r3 => ⟨j, m, rp_int r2, rp_int r3, q S3 H3 (e1.trans e3)⟩
  refine ⟨peW (pe_chain (rule o) (rule p) (ha y h5) (hb z h6) (hc w h7) hm) fun σ H Q ⟨O, S, ρ, r, I, hr, q⟩ => ?_, ptW (pt_chain (rule o) (rule p) (ha y h5) (hb z h6) (hc w h7) hm) fun σ H Q ⟨O, S, ρ, k, I, hr, q⟩ => ?_⟩
  · have hk : ∃ k, r = .dat (.bool k) := by
      obtain ⟨i, j, _, _, h10⟩ := inv ρ _ hr
      rcases h10 with ⟨_, h11⟩ | ⟨_, m, _, h12⟩
      · exact ⟨_, h11⟩
      · exact ⟨_, h12⟩
    obtain ⟨k, rfl⟩ := hk
    exact body σ H O S ρ k Q I hr fun S' H' e1 => q _ S' H' e1 (.of (.bl _))
  · exact body σ H O S ρ k (fun v H' => ∃ c, v = .bl c ∧ Q c H') I hr fun S' H' e1 => ⟨k, rfl, q S' H' e1⟩
end
end SW
set_option Elab.async false
set_option linter.all false
set_option maxRecDepth 100000
set_option maxHeartbeats 2000000
/-! Wk: walks that the library's heads lack: enumerate(tuple), zip(reversed(t), reversed(u)). -/
namespace SW
open PySem PySem.Spec PyProof.Rows L2 RT
open AutoSeq1 (wpAny_loadPart')

/-! ### enumerate(tuple) -/
theorem mk_enumT (l : Addr) (its : Array Value) (n : Nat) (dct : Option Addr) (sl : Array (Option Value)) :
    Meets (Builtin.«enumerate.__new__» ⟨[.type "enumerate", .ref l], []⟩) (fun _ R s => s.heap.get? l = some { cls := .type "tuple", dict := dct, data := .seq its n, slots := sl } ∧
      R (.ok (.ret (.ref (s.heap.push { cls := .type "tuple_iterator", data := .fields #[.ref l, .int 0 0] }).objs.size)))
        { s with heap := (s.heap.push { cls := .type "tuple_iterator", data := .fields #[.ref l, .int 0 0] }).push { cls := .type "enumerate", data := .fields #[.none, .bool false, .ref s.heap.objs.size, rawInt 0, .none, .none] } }) :=
  .of_wp fun prog w A R s h => by
    obtain ⟨hp, g, d, tk, os⟩ := s; obtain ⟨hl, h⟩ := h
    have sub0 := sub_enumerate
    have hT : Heap.IsTuple (Shared.heap ⟨hp, g, d, tk, os⟩) l its := ⟨_, hl, rfl, n, rfl⟩
    wp_walk using wpAny_loadPart' hl
    refine wpAny_stack_any fun st => wpAny_pure ?_
    split
    · rename_i c _ _ _ _ _
      cases (c == Value.type "enumerate") <;> wp_walk using wpAny_loadPart' hl, wpAny_pyIter_tuple hT <;> exact ⟨_, rfl, h⟩
    · wp_walk using wpAny_loadPart' hl, wpAny_pyIter_tuple hT
      exact ⟨_, rfl, h⟩
section
variable {prog : Program} {w : World} {A : Around} {E : Value → Shared → Prop} {s : Shared}
theorem call_enumT {l : Addr} {its : Array Value} {Q : Value → Shared → Prop} (hL : s.heap.IsTuple l its)
    (h : ∀ h', IsEnum h' (s.heap.objs.size + 1) s.heap.objs.size 0 .none → h'.IsTupleIter s.heap.objs.size l 0 →
      (∀ b o, s.heap.get? b = some o → h'.get? b = some o) → Q (.ref (s.heap.objs.size + 1)) { s with heap := h' }) :
    wpAny (model prog w) A (call (.type "enumerate") [.ref l]) Q E s := by
  obtain ⟨⟨c, dct, dt, sl⟩, hl, hc, n, hd⟩ := hL
  have hc : c = .type "tuple" := hc
  have hd : dt = .seq its n := hd
  subst hc hd
  refine callType_new F.called_enumerate (by decide) (F.typeCall_enumerate_1 _) (F.newCall_enumerate_1 _) (fun obj => F.args_object_init_2 obj _) F.entry_enumerate_new (mk_enumT l its n dct sl) ⟨hl, ?_⟩
  have hz : (s.heap.push { cls := .type "tuple_iterator", data := .fields #[.ref l, .int 0 0] }).objs.size = s.heap.objs.size + 1 := Heap.size_push ..
  show _ ∧ _
  rw [hz]
  have he := Heap.get?_push_size (s.heap.push { cls := .type "tuple_iterator", data := .fields #[.ref l, .int 0 0] }) (o := { cls := .type "enumerate", data := .fields #[.none, .bool false, .ref s.heap.objs.size, rawInt 0, .none, .none] }) rfl
  rw [hz] at he
  exact ⟨⟨_, he, rfl⟩, h _ he ⟨_, Heap.get?_push_of_some _ (Heap.get?_push_size _ rfl), rfl, rfl⟩ fun b o x => Heap.get?_push_of_some _ (Heap.get?_push_of_some _ x)⟩
end
/-- enumerate(t), t the tuple at a -/
def IteT (K : PySem.W.Frag) (a : Addr) : It :=
  ⟨fun i H => ∃ (xs : List V) (x : V), SqT K H a xs ∧ xs[i]? = some x, fun i H v H' => ∃ T x, v = .ref T ∧ H T = none ∧ H' = upd H T (.tup [.int (i : Nat), x]) ∧ ∀ xs, SqT K H a xs → xs[i]? = some x, fun i H => ∃ xs : List V, SqT K H a xs ∧ xs.length = i⟩
theorem turn_enumT {P : Program} {w : World} {K : PySem.W.Frag} {elts : List Expr} {kk : Nat} {tpos : Pos} (a e it : Addr) :
    Turn P w K (.Tuple elts kk tpos) (IteT K a) [e, it] e (fun i h => (∃ old, IsEnum h e it ((i : Nat) : Int) old) ∧ h.IsTupleIter it a i ∧ e ≠ it) where
  mem := by simp
  obj := fun i h st b hb => by
    obtain ⟨⟨old, he⟩, ⟨o, ho, hc, hd⟩, _⟩ := st
    rcases (by simpa using hb : b = e ∨ b = it) with z | z
    · rw [z]; exact ⟨_, he, nofun⟩
    · rw [z]; exact ⟨o, ho, fun v q => by rw [hd] at q; cases q⟩
  keep := fun i h h' st k => let ⟨⟨old, he⟩, hi, hne⟩ := st; ⟨⟨old, k e (by simp) _ he⟩, hi.at fun o q => k it (by simp) o q, hne⟩
  item := by
    intro X hP hw hK hc i pins s σ H E I hf st hg
    subst hP hw hK
    obtain ⟨⟨old, he⟩, hit, hne⟩ := st
    obtain ⟨xs, x, hq, hx⟩ := hg
    obtain ⟨its, rv, p, hz⟩ := I.tuple hq
    obtain ⟨u, hu, ru⟩ := rv.get hx
    have hel : e < s.heap.objs.size := Heap.lt_size he
    have hil : it < s.heap.objs.size := by obtain ⟨_, q, _⟩ := hit; exact Heap.lt_size q
    have hai : a ≠ it := fun z => by
      subst z
      obtain ⟨o1, q1, c1, _⟩ := hit
      obtain ⟨o2, q2, c2, _⟩ := p
      rw [q1] at q2
      cases q2
      rw [c1] at c2
      exact absurd (Value.type.inj c2) (by decide)
    have hae : e ≠ a := fun z => by
      subst z
      obtain ⟨o2, q2, c2, _⟩ := p
      have he : s.heap.get? e = _ := he
      rw [q2] at he
      cases he
      exact absurd (Value.type.inj c2) (by decide)
    have D := Draws.tuple (prog := X.prog) (w := X.w) (A := X.A.in1) (I.ok.hd hc) it a hai its.toArray
    have hi : i < its.toArray.size := by
      have hul := (List.getElem?_eq_some_iff.mp hu).1
      simpa using hul
    refine wpAny_pyNext_enum_itemD D he ⟨hit, p⟩ hi hne (by simp [hne, hae]) fun y h' tk hy ho st' hT hsz hk => ?_
    have ey : u = y := by simpa [hu] using hy
    subst ey
    refine ⟨_, rfl, wpAny_letOwnedTupleGo_enum (s := { s with heap := h', toks := tk + 1 }) ho fun h'' he' sb => ?_⟩
    have hT2 : h''.get? s.heap.objs.size = some { cls := .type "tuple", data := .seq #[.int i tk, u] } := (sb.2 _ (Nat.ne_of_gt hel)).trans hT
    have new : ObjOk X.prog X.w (upd H s.heap.objs.size (.tup [.int (i : Nat), x])) h'' s.heap.objs.size (.tup [.int (i : Nat), x]) :=
      ⟨by show 2 ≤ sizeLine; decide, [.int i tk, u], .cons ⟨_, rfl⟩ (.cons ru .nil), ⟨_, hT2, rfl, _, rfl⟩⟩
    have I1 : Inv X pins σ (upd H s.heap.objs.size (.tup [.int (i : Nat), x])) { s with heap := h'', toks := tk + 1 } :=
      I.turnedNew (ch := [e, it]) (fun b ob hb q => (sb.2 b (fun z => hb (by simp [z]))).trans (hk b ob (fun z => hb (by simp [z])) (fun z => hb (by simp [z])) q)) hf (Nat.le_refl _) new
    refine ⟨.ref s.heap.objs.size, _, I1, rfl, ⟨_, x, rfl, I.hok.fresh (Nat.le_refl _), rfl, fun ys hy => by rw [I.tuple_inj hy hq]; exact hx⟩, ⟨⟨u, ?_⟩, st'.1.at fun o q => (sb.2 it (Ne.symm hne)).trans q, hne⟩, fun b hb => ?_⟩
    · rw [show ((i + 1 : Nat) : Int) = (i : Int) + 1 by omega]; exact he'
    · have hb' : b < s.heap.objs.size := by
        rcases (by simpa using hb : b = e ∨ b = it) with z | z
        · rw [z]; exact hel
        · rw [z]; exact hil
      rw [upd_ne (Nat.ne_of_lt hb')]
      exact (hf b hb).1
  done := by
    intro X hP hw hK hc i pins s σ H E I hf st hg
    subst hP hw hK
    obtain ⟨⟨old, he⟩, hit, hne⟩ := st
    obtain ⟨xs, hq, hx⟩ := hg
    obtain ⟨its, rv, p, hz⟩ := I.tuple hq
    obtain ⟨f0, f1, f2, f3, f4, f5⟩ := hf it (by simp)
    have hl := rv.length
    have hai : a ≠ it := fun z => by
      subst z
      obtain ⟨o1, q1, c1, _⟩ := hit
      obtain ⟨o2, q2, c2, _⟩ := p
      rw [q1] at q2
      cases q2
      rw [c1] at c2
      exact absurd (Value.type.inj c2) (by decide)
    have D := Draws.tuple (prog := X.prog) (w := X.w) (A := X.A.in1) (I.ok.hd hc) it a hai its.toArray
    have hi : its.toArray.size = i := by rw [List.size_toArray]; omega
    exact wpAny_pyNext_enum_endD D he ⟨by rw [hi]; exact hit, p⟩ fun h' eb => ⟨rfl, I.turned (t' := s.toks) (fun b o hb q => eb b o hb q) f0 f1 f3 f4 f5⟩
  self := fun A i s Q E st h => let ⟨⟨_, he⟩, _⟩ := st; wpAny_pyIter_enum he h
/-- enumerate(x), x a list or a tuple -/
def iEnumA (K : PySem.W.Frag) (te : TE) : TI := fun σ H R => te σ H fun v H1 => ∃ a xs, v = .ref a ∧ ((SqL K H1 a xs ∧ R (Ite K a) H1) ∨ (SqT K H1 a xs ∧ R (IteT K a) H1))
theorem pi_enumA {X : Cx} {e : Expr} {te : TE} {p pos tpos : Pos} {elts : List Expr} {kk : Nat} (hg : Gl X "enumerate") (hm : X.mg "enumerate" = none) (he : PE X e te) (hs : starEach [e] X.env = (false, eval e X.env) :: starEach [] X.env) :
    PI X (.Tuple elts kk tpos) (.Call (.Name "enumerate" p) [e] [] pos) (iEnumA X.K te) := by
  refine ⟨fun pins s σ H R I h => Call_ (ld_blt I hg hm boot_enumerate (PyProof.Rows.callWith_type1 (args_cons (thn (he.run pins s σ H _ I h) fun u s1 ⟨v, H1, I1, r1, q1⟩ => args_nil ?_) hs) hs rfl))⟩
  obtain ⟨a, xs, ev, q⟩ := q1
  subst ev
  obtain rfl : u = Value.ref a := r1
  have fp : ∀ (h' : Heap) (b : Addr), b ∈ [s1.heap.objs.size + 1, s1.heap.objs.size] → FpOk X pins H1 b := fun h' b hb => by
    have hle : s1.heap.objs.size ≤ b := by
      rcases (by simpa using hb : b = s1.heap.objs.size + 1 ∨ b = s1.heap.objs.size) with z | z
      · rw [z]; exact Nat.le_add_right _ _
      · rw [z]; exact Nat.le_refl _
    exact I1.fpOk hle (I1.hok.fresh hle)
  rcases q with ⟨hq, q⟩ | ⟨hq, q⟩
  · obtain ⟨its, rv, p', hz⟩ := I1.list hq
    refine call_enumerate_list p'.isList fun h' he hit hsz hk => wpAny_pyIter_enum he ?_
    have I2 : Inv X pins σ H1 { s1 with heap := h' } := I1.kept (t' := s1.toks) hk
    exact ⟨s1.heap.objs.size + 1, [s1.heap.objs.size + 1, s1.heap.objs.size], _, _, H1, rfl, I2, turn_enum a _ s1.heap.objs.size, ⟨⟨.none, he⟩, hit, Nat.succ_ne_self _⟩, fp h', q⟩
  · obtain ⟨its, rv, p', hz⟩ := I1.tuple hq
    refine call_enumT p' fun h' he hit hk => wpAny_pyIter_enum he ?_
    have I2 : Inv X pins σ H1 { s1 with heap := h' } := I1.kept (t' := s1.toks) hk
    exact ⟨s1.heap.objs.size + 1, [s1.heap.objs.size + 1, s1.heap.objs.size], _, _, H1, rfl, I2, turn_enumT a _ s1.heap.objs.size, ⟨⟨.none, he⟩, hit, Nat.succ_ne_self _⟩, fp h', q⟩
theorem walk_enumT {K : PySem.W.Frag} {a : Addr} {xs : List V} : Walk (IteT K a) xs.length (fun H => SqT K H a xs) (YPair (fun i => some (.int (i : Nat))) (fun i => xs[i]?)) := by
  refine ⟨fun i _ hi q => ⟨xs, xs[i], q, by simp [hi]⟩, fun _ q => ⟨xs, q, rfl⟩, fun i H v H' _ q y => ?_⟩
  obtain ⟨T, x, h1, h2, h3, h4⟩ := y
  exact ⟨T, .int (i : Nat), x, h1, h2, h3, rfl, h4 xs q⟩
end SW
set_option Elab.async false
set_option linter.all false
set_option maxRecDepth 100000
set_option maxHeartbeats 2000000
/-! Wk2: zip(reversed(t), reversed(u)). -/
namespace SW
open PySem PySem.Spec PyProof.Rows L2 RT

/-! ### reversed(t) draws -/
section
variable {prog : Program} {w : World} {A : Around} {E : Value → Shared → Prop} {s : Shared}
theorem draw_rt {it t : Addr} {i : Nat} {its : Array Value} {x : Value} {Q : Value → Shared → Prop} (hit : IsRt s.heap it t (i : Int)) (ht : IsTup s.heap t its) (hx : its[i]? = some x) (hsz : its.size ≤ sizeLine)
    (hQ : ∀ h', IsRt h' it t ((i : Int) - 1) → Heap.SameBut it s.heap h' → Q x { s with heap := h', toks := s.toks + 1 }) : wpAny (model prog w) A (Builtin.SmallTypes.nextOf (.ref it)) Q E s := by
  obtain ⟨o, ho, hc, hd⟩ := id hit
  have hi : i < its.size := (Array.getElem?_eq_some_iff.mp hx).1
  have hT : s.TypeIs (.ref t) "tuple" := IsTup.typeOf' ht
  rw [sizeLine_eq] at hsz
  unfold Builtin.SmallTypes.nextOf
  refine wpAny_bind (wpAny_callSpecial?_slot (name := Str.ofString "__next__") hit.typeIs slot_rt_next (wpAny_call_entry slot_rt_next hit.typeIs entry_rt_next ?_ (args_rt_next _)))
  unfold Builtin.«reversed.__next__»
  refine wpAny_bind (wpAny_of_eq (a := (Value.ref it, [])) rfl ?_)
  try dsimp only
  refine wpAny_bind (wpAny_field ho hd (x := .ref t) rfl ?_)
  try dsimp only
  refine wpAny_bind (wpAny_field ho hd (x := rawInt (i : Int)) rfl ?_)
  show wpAny _ _ (if (i : Int) < 0 then _ else _) _ _ s
  rw [if_neg (by omega)]
  try dsimp only
  refine wpAny_bind (wpAny_specialOf hT get_tuple ?_)
  try dsimp only
  try rw [if_neg (by decide)]
  try dsimp only
  refine wpAny_bind (wpAny_mkInt (wpAny_bind (wpAny_attempt ?_)))
  have fin : seqIndex? (i : Int) its.size = some i := seqIndex_of (by omega) (by omega)
  refine PyProof.Rows.getItem_tuple (s := { s with toks := s.toks + 1 }) ht (by omega) (by omega) fin hx ?_
  try dsimp only
  refine wpAny_bind (wpAny_field (s := { s with toks := s.toks + 1 }) ho hd (x := rawInt (i : Int)) rfl ?_)
  try dsimp only
  refine wpAny_bind (wpAny_setField (s := { s with toks := s.toks + 1 }) ho hd (by simp) ?_)
  first
  | refine wpAny_pure ⟨x, rfl, wpAny_pure (hQ _ ?_ (Heap.SameBut.update ..))⟩
  | refine wpAny_bind (wpAny_pure (wpAny_pure ⟨x, rfl, wpAny_pure (hQ _ ?_ (Heap.SameBut.update ..))⟩))
  exact ⟨_, Heap.get?_update_self _ ho (Obj.isFreed_of_fields (Obj.data_mapFields hd _)), (Obj.cls_mapFields ..).trans hc, by rw [Obj.data_mapFields hd]; simp⟩
theorem draw_rt_end {it t : Addr} {Q : Value → Shared → Prop} (hh : A.handled = none) (hit : IsRt s.heap it t (-1))
    (hE : ∀ h' e, Heap.ExtBut it s.heap h' → (∃ o, h'.get? e = some o ∧ o.cls = .type "StopIteration") → E (.ref e) { s with heap := h' }) : wpAny (model prog w) A (Builtin.SmallTypes.nextOf (.ref it)) Q E s := by
  obtain ⟨o, ho, hc, hd⟩ := id hit
  unfold Builtin.SmallTypes.nextOf
  refine wpAny_bind (wpAny_callSpecial?_slot (name := Str.ofString "__next__") hit.typeIs slot_rt_next (wpAny_call_entry slot_rt_next hit.typeIs entry_rt_next ?_ (args_rt_next _)))
  unfold Builtin.«reversed.__next__»
  refine wpAny_bind (wpAny_of_eq (a := (Value.ref it, [])) rfl ?_)
  try dsimp only
  refine wpAny_bind (wpAny_field ho hd (x := .ref t) rfl ?_)
  try dsimp only
  refine wpAny_bind (wpAny_field ho hd (x := rawInt (-1)) rfl ?_)
  show wpAny _ _ (if (-1 : Int) < 0 then _ else _) _ _ s
  rw [if_pos (by decide)]
  try dsimp only
  refine wpAny_bind (wpAny_rule (wpAny_bind ?_))
  wp_delta
  refine wpAny_bind (wpAny_setField ho hd (by simp) ?_)
  have ho2 := Heap.get?_update_self (Obj.mapFields (·.setIfInBounds 1 (rawInt (-1)))) ho (Obj.isFreed_of_fields (Obj.data_mapFields hd _))
  refine wpAny_setField (s := { s with heap := s.heap.update it (Obj.mapFields (·.setIfInBounds 1 (rawInt (-1)))) }) ho2 (Obj.data_mapFields hd _) (by simp) ?_
  try dsimp only
  first
  | show wpAny _ _ (newExc (.type "StopIteration") [] >>= _) _ _ _
  | (refine wpAny_bind ?_; show wpAny _ _ (newExc (.type "StopIteration") [] >>= _) _ _ _)
  | (refine wpAny_bind ?_; wp_delta; show wpAny _ _ (newExc (.type "StopIteration") [] >>= _) _ _ _)
  refine wpAny_bind ?_
  simp only [newExc, newTuple]
  refine wpAny_bind (wpAny_newObj_type ?_ (by size_fits))
  refine wpAny_bind (m := firstArgMember _ _) (wpAny_of_eq (a := Value.none) (by first | rfl | (simp only [firstArgMember]; rfl)) ?_)
  refine wpAny_newObj_type ?_ (by size_fits)
  simp only [raiseNew]
  refine wpAny_bind (wpAny_handled ?_)
  first | rw [show A.in1.handled = none from hh] | rw [hh]
  refine wpAny_bind (wpAny_pure (wpAny_throw ?_))
  refine hE _ _ ?_ ⟨_, Heap.get?_push_size _ rfl, rfl⟩
  refine ((?_ : Heap.ExtBut it s.heap _).push _).push _
  exact fun b ob hb e => (Heap.get?_update_other _ _ (Ne.symm hb)).trans ((Heap.get?_update_other _ _ (Ne.symm hb)).trans e)
end
theorem Draws_rt {prog : Program} {w : World} {A : Around} (hh : A.handled = none) (it t : Addr) (hne : t ≠ it) (its : Array Value) (hsz : its.size ≤ sizeLine) :
    Draws prog w A it [it, t] its.size (fun i v => its[its.size - 1 - i]? = some v) (fun i h => IsRt h it t ((its.size : Int) - 1 - (i : Nat)) ∧ IsTup h t its) where
  live := fun _ _ st => let ⟨o, ho, _⟩ := st.1; ⟨o, ho⟩
  frame := fun _ _ _ st hk => ⟨st.1.at fun o e => hk it (by simp) o e, let ⟨o, ho, r⟩ := st.2; ⟨o, hk t (by simp) o ho, r⟩⟩
  item := fun i s Q E hi st hQ => by
    obtain ⟨st1, st2⟩ := st
    rw [show (its.size : Int) - 1 - ((i : Nat) : Int) = ((its.size - 1 - i : Nat) : Int) by omega] at st1
    refine draw_rt st1 st2 (x := its[its.size - 1 - i]'(by omega)) (by simp [show its.size - 1 - i < its.size by omega]) hsz fun h' hit' hs' => ?_
    refine hQ _ h' (s.toks + 1) (by simp [show its.size - 1 - i < its.size by omega]) ⟨?_, ?_⟩ hs'
    · rw [show (its.size : Int) - 1 - ((i + 1 : Nat) : Int) = ((its.size - 1 - i : Nat) : Int) - 1 by omega]; exact hit'
    · obtain ⟨o, ho, r⟩ := st2
      exact ⟨o, (hs'.2 t hne).trans ho, r⟩
  done := fun s Q E st hE => draw_rt_end hh (by
    have := st.1
    rwa [show (its.size : Int) - 1 - ((its.size : Nat) : Int) = -1 by omega] at this) hE

/-! ### zip of two of them -/
abbrev zrT (h : Heap) (a b : Addr) : Heap := h.push { cls := .type "tuple", data := .seq #[.ref a, .ref b] }
abbrev zrO (h : Heap) (a b : Addr) : Heap := (zrT h a b).push { cls := .type "tuple", data := .seq #[.none, .none] }
abbrev zrZ (h : Heap) (a b : Addr) : Heap := (zrO h a b).push { cls := .type "zip", data := .fields #[.none, .bool false, .bool false, .ref h.objs.size, .ref (zrT h a b).objs.size] }
theorem mk_zipR (a b t u : Addr) (i j : Int) :
    Meets (Builtin.«zip.__new__» ⟨[.type "zip", .ref a, .ref b], []⟩) (fun _ R s => (IsRt s.heap a t i ∧ IsRt s.heap b u j) ∧ R (.ok (.ret (.ref (zrO s.heap a b).objs.size))) { s with heap := zrZ s.heap a b }) :=
  .of_wp fun prog w A R s h => by
    obtain ⟨hp, g, d, tk, os⟩ := s; obtain ⟨⟨h1, h2⟩, h⟩ := h
    have sub0 := sub_zip
    have hL1 : IsRt (Shared.heap ⟨hp, g, d, tk, os⟩) a t i := h1
    have hL2 : IsRt (Shared.heap ⟨hp, g, d, tk, os⟩) b u j := h2
    wp_walk using iter_rt hL1, iter_rt hL2
    exact ⟨_, rfl, h⟩
theorem call_zipR {prog : Program} {w : World} {A : Around} {E : Value → Shared → Prop} {s : Shared} {a b t u : Addr} {i j : Int} {Q : Value → Shared → Prop} (hl1 : IsRt s.heap a t i) (hl2 : IsRt s.heap b u j)
    (h : ∀ h', IsZip h' (s.heap.objs.size + 2) s.heap.objs.size (s.heap.objs.size + 1) .none → IsTupOf2 h' s.heap.objs.size (.ref a) (.ref b) → IsTupOf2 h' (s.heap.objs.size + 1) .none .none →
      (∀ c o, s.heap.get? c = some o → h'.get? c = some o) → Q (.ref (s.heap.objs.size + 2)) { s with heap := h' }) :
    wpAny (model prog w) A (call (.type "zip") [.ref a, .ref b]) Q E s := by
  refine callType_new F.called_zip (by decide) (F.typeCall_zip_2 _ _) (F.newCall_zip_2 _ _) (fun obj => F.args_object_init_3 obj _ _) F.entry_zip_new (mk_zipR a b t u i j) ⟨⟨hl1, hl2⟩, ?_⟩
  have z1 : (zrT s.heap a b).objs.size = s.heap.objs.size + 1 := Heap.size_push ..
  have z2 : (zrO s.heap a b).objs.size = s.heap.objs.size + 2 := by rw [Heap.size_push, z1]
  have g3 : (zrZ s.heap a b).get? (zrO s.heap a b).objs.size = some _ := Heap.get?_push_size _ rfl
  have g2 : (zrZ s.heap a b).get? (zrT s.heap a b).objs.size = some _ := Heap.get?_push_of_some _ (Heap.get?_push_size _ rfl)
  have g1 : (zrZ s.heap a b).get? s.heap.objs.size = some _ := Heap.get?_push_of_some _ (Heap.get?_push_of_some _ (Heap.get?_push_size _ rfl))
  show _ ∧ _
  rw [z1, z2] at g3
  rw [z1] at g2
  rw [z2]
  exact ⟨⟨_, g3, rfl⟩, h _ g3 g1 g2 fun c o x => Heap.get?_push_of_some _ (Heap.get?_push_of_some _ (Heap.get?_push_of_some _ x))⟩
/-- the tuples at a, b from their ends, n and m items -/
def ItzR (K : PySem.W.Frag) (a b : Addr) (n m : Nat) : It :=
  ⟨fun i H => i < n ∧ i < m ∧ ∃ xs ys : List V, SqT K H a xs ∧ SqT K H b ys ∧ xs.length = n ∧ ys.length = m,
    fun i H v H' => ∃ T x y, v = .ref T ∧ H T = none ∧ H' = upd H T (.tup [x, y]) ∧ (∀ xs, SqT K H a xs → xs.reverse[i]? = some x) ∧ ∀ ys, SqT K H b ys → ys.reverse[i]? = some y,
    fun i H => i = min n m ∧ ∃ xs ys : List V, SqT K H a xs ∧ SqT K H b ys ∧ xs.length = n ∧ ys.length = m⟩
theorem rt_ne {h : Heap} {a b : Addr} {i : Int} {t : Addr} {its : Array Value} (h1 : IsRt h a t i) (h2 : IsTup h b its) : b ≠ a := fun z => by
  subst z
  obtain ⟨o1, q1, c1, _⟩ := h1
  obtain ⟨o2, q2, c2, _⟩ := h2
  rw [q1] at q2
  cases q2
  rw [c1] at c2
  exact absurd (Value.type.inj c2) (by decide)
theorem turn_zipR {P : Program} {w : World} {K : PySem.W.Frag} {elts : List Expr} {kk : Nat} {tpos : Pos} {a b z TI TO i1 i2 : Addr} {n m : Nat} (e1 : TI ≠ z) (e2 : TO ≠ z) (e3 : TI ≠ TO) (e4 : TI ≠ i1) (e5 : TI ≠ i2) (e6 : z ≠ i1) (e7 : z ≠ i2) (e8 : TO ≠ i1) (e9 : TO ≠ i2) (e10 : i1 ≠ i2)
    (f1 : z ≠ a) (f2 : z ≠ b) (f3 : TO ≠ a) (f4 : TO ≠ b) :
    Turn P w K (.Tuple elts kk tpos) (ItzR K a b n m) [z, TI, TO, i1, i2] z (fun i h => IsZip h z TI TO .none ∧ IsTupOf2 h TI (.ref i1) (.ref i2) ∧ (∃ x y, IsTupOf2 h TO x y) ∧ IsRt h i1 a ((n : Int) - 1 - (i : Nat)) ∧ IsRt h i2 b ((m : Int) - 1 - (i : Nat))) where
  mem := by simp
  obj := fun i h st c hc => by
    obtain ⟨hz, hTI, ⟨x, y, hTO⟩, ⟨o1, q1, _, d1⟩, ⟨o2, q2, _, d2⟩⟩ := st
    rcases (by simpa using hc : c = z ∨ c = TI ∨ c = TO ∨ c = i1 ∨ c = i2) with q | q | q | q | q
    · rw [q]; exact ⟨_, hz, nofun⟩
    · rw [q]; exact ⟨_, hTI, nofun⟩
    · rw [q]; exact ⟨_, hTO, nofun⟩
    · rw [q]; exact ⟨o1, q1, fun v q => by rw [d1] at q; cases q⟩
    · rw [q]; exact ⟨o2, q2, fun v q => by rw [d2] at q; cases q⟩
  keep := fun i h h' st k => by
    obtain ⟨hz, hTI, ⟨x, y, hTO⟩, h1, h2⟩ := st
    exact ⟨k z (by simp) _ hz, k TI (by simp) _ hTI, ⟨x, y, k TO (by simp) _ hTO⟩, h1.at fun o q => k i1 (by simp) o q, h2.at fun o q => k i2 (by simp) o q⟩
  item := by
    intro X hP hw hK hc i pins s σ H E I hf st hg
    subst hP hw hK
    obtain ⟨hz, hTI, ⟨x0, y0, hTO⟩, h1, h2⟩ := st
    obtain ⟨hn, hm, xs, ys, hqx, hqy, l1, l2⟩ := hg
    obtain ⟨its, rv, p, hs1⟩ := I.tuple hqx
    obtain ⟨its2, rv2, p2, hs2⟩ := I.tuple hqy
    have ln1 : its.toArray.size = n := by rw [List.size_toArray, ← rv.length, l1]
    have ln2 : its2.toArray.size = m := by rw [List.size_toArray, ← rv2.length, l2]
    have sep : ZipSep2 z TI TO i1 i2 [i1, a] [i2, b] :=
      ⟨e1, e2, e3, e4, by simp, by simp [e6, f1], by simp [e8, f3], e5, by simp, by simp [e7, f2], by simp [e9, f4], by simp [e10, (rt_ne h1 p2).symm], by simp [e10.symm, (rt_ne h2 p).symm]⟩
    have hh := I.ok.hd hc
    have D1 := Draws_rt (prog := X.prog) (w := X.w) (A := X.A.in1) hh i1 a (rt_ne h1 p) its.toArray (by rw [ln1, ← l1]; exact hs1)
    have D2 := Draws_rt (prog := X.prog) (w := X.w) (A := X.A.in1) hh i2 b (rt_ne h2 p2) its2.toArray (by rw [ln2, ← l2]; exact hs2)
    have hzl : z < s.heap.objs.size := Heap.lt_size hz
    refine wpAny_pyNext_zipD2_item sep D1 D2 hz hTI hTO ⟨by rw [ln1]; exact h1, p⟩ ⟨by rw [ln2]; exact h2, p2⟩ (by rw [ln1]; exact hn) (by rw [ln2]; exact hm) fun u u2 h' tk hu hu2 z' TO' st1' st2' hT hsz hk => ?_
    refine ⟨_, rfl, wpAny_letOwnedTupleGo_zip (s := { s with heap := h', toks := tk }) z' fun h'' z'' sb => ?_⟩
    rw [ln1, List.getElem?_toArray] at hu
    rw [ln2, List.getElem?_toArray] at hu2
    have gv : ∀ {zs : List V} {its : List Value} {k : Nat} {u : Value}, Vals zs its → its[k]? = some u → ∃ x, zs[k]? = some x ∧ RelV x u := fun rv hu => by
      have hl := (List.getElem?_eq_some_iff.mp hu).1
      rw [← rv.length] at hl
      obtain ⟨w, q1, q2⟩ := rv.get (List.getElem?_eq_getElem hl)
      rw [hu] at q1
      cases q1
      exact ⟨_, List.getElem?_eq_getElem hl, q2⟩
    obtain ⟨x, hx, ru⟩ := gv rv hu
    obtain ⟨y, hy, ru2⟩ := gv rv2 hu2
    have hT2 : h''.get? s.heap.objs.size = some { cls := .type "tuple", data := .seq #[u, u2] } := (sb.2 _ (Nat.ne_of_gt hzl)).trans hT
    have new : ObjOk X.prog X.w (upd H s.heap.objs.size (.tup [x, y])) h'' s.heap.objs.size (.tup [x, y]) := ⟨by show 2 ≤ sizeLine; decide, [u, u2], .cons ru (.cons ru2 .nil), ⟨_, hT2, rfl, _, rfl⟩⟩
    have I1 : Inv X pins σ (upd H s.heap.objs.size (.tup [x, y])) { s with heap := h'', toks := tk } :=
      I.turnedNew (ch := [z, TI, TO, i1, i2]) (fun c o hb q => (sb.2 c (fun q' => hb (by simp [q']))).trans (hk c o (fun q' => hb (by simp [q'])) (fun q' => hb (by simp [q'])) (fun q' => hb (by simp [q'])) (fun q' => hb (by simp [q'])) q)) hf (Nat.le_refl _) new
    have rvx : xs.reverse[i]? = some x := by rw [List.getElem?_reverse (by omega), l1]; exact hx
    have rvy : ys.reverse[i]? = some y := by rw [List.getElem?_reverse (by omega), l2]; exact hy
    refine ⟨.ref s.heap.objs.size, _, I1, rfl, ⟨_, x, y, rfl, I.hok.fresh (Nat.le_refl _), rfl, fun l hl => by rw [I.tuple_inj hl hqx]; exact rvx, fun l hl => by rw [I.tuple_inj hl hqy]; exact rvy⟩, ⟨z'', ?_, ⟨u, u2, ?_⟩, ?_, ?_⟩, fun c hcm => ?_⟩
    · exact (sb.2 _ e1).trans (hk _ _ e1 e3 e4 e5 hTI)
    · exact (sb.2 _ e2).trans TO'
    · have := st1'.1.at fun o q => (sb.2 i1 (Ne.symm e6)).trans q
      rwa [ln1] at this
    · have := st2'.1.at fun o q => (sb.2 i2 (Ne.symm e7)).trans q
      rwa [ln2] at this
    · have hlt : c < s.heap.objs.size := by
        rcases (by simpa using hcm : c = z ∨ c = TI ∨ c = TO ∨ c = i1 ∨ c = i2) with q | q | q | q | q
        · rw [q]; exact hzl
        · rw [q]; exact Heap.lt_size hTI
        · rw [q]; exact Heap.lt_size hTO
        · rw [q]; obtain ⟨_, e1, _⟩ := h1; exact Heap.lt_size e1
        · rw [q]; obtain ⟨_, e2, _⟩ := h2; exact Heap.lt_size e2
      rw [upd_ne (Nat.ne_of_lt hlt)]
      exact (hf c hcm).1
  done := by
    intro X hP hw hK hc i pins s σ H E I hf st hg
    subst hP hw hK
    obtain ⟨hz, hTI, ⟨x0, y0, hTO⟩, h1, h2⟩ := st
    obtain ⟨hi, xs, ys, hqx, hqy, l1, l2⟩ := hg
    obtain ⟨its, rv, p, hs1⟩ := I.tuple hqx
    obtain ⟨its2, rv2, p2, hs2⟩ := I.tuple hqy
    have ln1 : its.toArray.size = n := by rw [List.size_toArray, ← rv.length, l1]
    have ln2 : its2.toArray.size = m := by rw [List.size_toArray, ← rv2.length, l2]
    have sep : ZipSep2 z TI TO i1 i2 [i1, a] [i2, b] :=
      ⟨e1, e2, e3, e4, by simp, by simp [e6, f1], by simp [e8, f3], e5, by simp, by simp [e7, f2], by simp [e9, f4], by simp [e10, (rt_ne h1 p2).symm], by simp [e10.symm, (rt_ne h2 p).symm]⟩
    have hh := I.ok.hd hc
    have D1 := Draws_rt (prog := X.prog) (w := X.w) (A := X.A.in1) hh i1 a (rt_ne h1 p) its.toArray (by rw [ln1, ← l1]; exact hs1)
    have D2 := Draws_rt (prog := X.prog) (w := X.w) (A := X.A.in1) hh i2 b (rt_ne h2 p2) its2.toArray (by rw [ln2, ← l2]; exact hs2)
    refine wpAny_pyNext_zipD2_end sep D1 D2 hz hTI hTO (i := i) ⟨by rw [ln1]; exact h1, p⟩ ⟨by rw [ln2]; exact h2, p2⟩ (by rw [ln1]; omega) (by rw [ln2]; omega) (by rw [ln1, ln2]; omega) fun h' tk hk => ⟨rfl, I.turnedL (t' := tk) (ch := [z, TI, TO, i1, i2]) (fun c o hb q =>
      hk c o (fun q' => hb (by simp [q'])) (fun q' => hb (by simp [q'])) (fun q' => hb (by simp [q'])) (fun q' => hb (by simp [q'])) q) hf⟩
  self := fun A i s Q E st h => wpAny_pyIter_zip st.1 h
def iZipR (K : PySem.W.Frag) (ta tb : TE) : TI := fun σ H R => ta σ H fun v H1 => ∃ a xs, v = .ref a ∧ SqT K H1 a xs ∧ tb σ H1 fun u H2 => ∃ b ys, u = .ref b ∧ SqT K H2 a xs ∧ SqT K H2 b ys ∧ R (ItzR K a b xs.length ys.length) H2
theorem walk_zipR {K : PySem.W.Frag} {a b : Addr} {xs ys : List V} : Walk (ItzR K a b xs.length ys.length) (min xs.length ys.length) (fun H => SqT K H a xs ∧ SqT K H b ys) (YPair (fun i => xs.reverse[i]?) (fun i => ys.reverse[i]?)) := by
  refine ⟨fun i _ hi q => ⟨by omega, by omega, xs, ys, q.1, q.2, rfl, rfl⟩, fun _ q => ⟨rfl, xs, ys, q.1, q.2, rfl, rfl⟩, fun i H v H' _ q y => ?_⟩
  obtain ⟨T, x, z, h1, h2, h3, h4, h5⟩ := y
  exact ⟨T, x, z, h1, h2, h3, h4 xs q.1, h5 ys q.2⟩
theorem pi_zipR {X : Cx} {e e2 : Expr} {ta tb : TE} {p p1 p2 q1 q2 pos tpos : Pos} {elts : List Expr} {kk : Nat} (hg : Gl X "zip") (hm : X.mg "zip" = none) (hg2 : Gl X "reversed") (hm2 : X.mg "reversed" = none) (he : PE X e ta) (he2 : PE X e2 tb)
    (hs : starEach [e] X.env = (false, eval e X.env) :: starEach [] X.env) (hs2 : starEach [e2] X.env = (false, eval e2 X.env) :: starEach [] X.env) :
    PI X (.Tuple elts kk tpos) (.Call (.Name "zip" p) [.Call (.Name "reversed" p1) [e] [] q1, .Call (.Name "reversed" p2) [e2] [] q2] [] pos) (iZipR X.K ta tb) := by
  refine ⟨fun pins s σ H R I h => Call_ (ld_blt I hg hm boot_zip (PyProof.Rows.callWith_type1 (args_cons (Call_ (ld_blt I hg2 hm2 boot_reversed (PyProof.Rows.callWith_type1 (args_cons (thn (he.run pins s σ H _ I h) fun u s1 ⟨v, H1, I1, r1, w1⟩ => args_nil ?_) hs) hs rfl))) rfl) rfl rfl))⟩
  obtain ⟨a, xs, ev, hq, w1⟩ := w1
  subst ev
  obtain rfl : u = Value.ref a := r1
  obtain ⟨its, rv, p', hz⟩ := I1.tuple hq
  have hl := rv.length
  have hn := line63
  refine call_reversed_tup p' (fun A E Q k => len_tuple p' (by simp only [List.size_toArray] <;> omega) k) ?_
  have k0 : ∀ b o, s1.heap.get? b = some o → (s1.heap.push (rtObj a ((its.toArray.size : Int) - 1))).get? b = some o := fun b o e => Heap.get?_push_of_some _ e
  have J1 : Inv X pins σ H1 { s1 with heap := s1.heap.push (rtObj a ((its.toArray.size : Int) - 1)), toks := s1.toks + 1 + 1 } := I1.kept (t' := s1.toks + 1 + 1) k0
  have fp1 : FpOk X pins H1 s1.heap.objs.size := I1.fpOk (Nat.le_refl _) (I1.hok.fresh (Nat.le_refl _))
  have g1 : (s1.heap.push (rtObj a ((its.toArray.size : Int) - 1))).get? s1.heap.objs.size = some (rtObj a ((its.toArray.size : Int) - 1)) := Heap.get?_push_size _ rfl
  have J2 : Inv X (pins ++ [(s1.heap.objs.size, rtObj a ((its.toArray.size : Int) - 1))]) σ H1 { s1 with heap := s1.heap.push (rtObj a ((its.toArray.size : Int) - 1)), toks := s1.toks + 1 + 1 } := J1.pins_of fun q hq => by
    rcases List.mem_append.mp hq with hq | hq
    · exact J1.pin q (List.mem_append_right _ hq)
    · cases List.mem_singleton.mp hq
      exact ⟨g1, fp1.1, fp1.2.1, fp1.2.2.1, fun v z => nomatch z⟩
  refine args_cons (Call_ (ld_blt J2 hg2 hm2 boot_reversed (PyProof.Rows.callWith_type1 (args_cons (thn (he2.run _ _ σ H1 _ J2 w1) fun u s2 ⟨v, H2, I2, r2, w2⟩ => args_nil ?_) hs2) hs2 rfl))) rfl
  obtain ⟨b, ys, ev, hqx, hqy, w2⟩ := w2
  subst ev
  obtain rfl : u = Value.ref b := r2
  obtain ⟨its2, rv2, p2, hz2⟩ := I2.tuple hqy
  have hl2 := rv2.length
  refine call_reversed_tup p2 (fun A E Q k => len_tuple p2 (by simp only [List.size_toArray] <;> omega) k) (args_nil ?_)
  obtain ⟨g2, g3, g4, g5, g6⟩ := I2.pin (s1.heap.objs.size, rtObj a ((its.toArray.size : Int) - 1)) (List.mem_append_right _ (List.mem_append_right _ (List.mem_singleton.mpr rfl)))
  have J3 : Inv X pins σ H2 s2 := I2.pins_of fun q hq => I2.pin q (List.mem_append_right _ (List.mem_append_left _ hq))
  have k1 : ∀ c o, s2.heap.get? c = some o → (s2.heap.push (rtObj b ((its2.toArray.size : Int) - 1))).get? c = some o := fun b o e => Heap.get?_push_of_some _ e
  have J4 : Inv X pins σ H2 { s2 with heap := s2.heap.push (rtObj b ((its2.toArray.size : Int) - 1)), toks := s2.toks + 1 + 1 } := J3.kept (t' := s2.toks + 1 + 1) k1
  have q1 := k1 _ _ g2
  have q2 : (s2.heap.push (rtObj b ((its2.toArray.size : Int) - 1))).get? s2.heap.objs.size = some (rtObj b ((its2.toArray.size : Int) - 1)) := Heap.get?_push_size _ rfl
  refine call_zipR (s := { s2 with heap := s2.heap.push (rtObj b ((its2.toArray.size : Int) - 1)), toks := s2.toks + 1 + 1 }) ⟨_, q1, rfl, rfl⟩ ⟨_, q2, rfl, rfl⟩ fun h' hz' hTI hTO hk => wpAny_pyIter_zip hz' ?_
  have sz : (s2.heap.push (rtObj b ((its2.toArray.size : Int) - 1))).objs.size = s2.heap.objs.size + 1 := Heap.size_push ..
  have I5 : Inv X pins σ H2 { s2 with heap := h', toks := s2.toks + 1 + 1 } := J4.kept (t' := s2.toks + 1 + 1) hk
  have la : s1.heap.objs.size < s2.heap.objs.size := Heap.lt_size g2
  obtain ⟨its', _, pa', _⟩ := I2.tuple hqx
  have lb : @LT.lt Nat instLTNat a s2.heap.objs.size := by obtain ⟨_, e, _⟩ := pa'; exact Heap.lt_size e
  have lc : @LT.lt Nat instLTNat b s2.heap.objs.size := by obtain ⟨_, e, _⟩ := p2; exact Heap.lt_size e
  simp only [sz] at hz' hTI hTO
  have fr : ∀ c, s2.heap.objs.size ≤ c → FpOk X pins H2 c := fun c hc => J3.fpOk hc (J3.hok.fresh hc)
  have f0 : FpOk X pins H2 s1.heap.objs.size := ⟨g3, g4, g5, fp1.2.2.2.1, fp1.2.2.2.2.1, fp1.2.2.2.2.2⟩
  have nn : ∀ {x y : Nat}, @Ne Nat x y → (x : Addr) ≠ y := fun h => h
  have nl : ∀ {x y : Nat}, @LE.le Nat instLENat x y → x ≤ y := fun h => h
  refine ⟨_, [s2.heap.objs.size + 1 + 2, s2.heap.objs.size + 1, s2.heap.objs.size + 1 + 1, s1.heap.objs.size, s2.heap.objs.size], _, _, H2, by rw [sz], I5, turn_zipR (z := s2.heap.objs.size + 1 + 2) (a := a) (b := b) (n := xs.length) (m := ys.length) (TI := s2.heap.objs.size + 1) (TO := s2.heap.objs.size + 1 + 1) (i1 := s1.heap.objs.size) (i2 := s2.heap.objs.size) (nn (by omega)) (nn (by omega)) (nn (by omega)) (nn (by omega)) (nn (by omega)) (nn (by omega)) (nn (by omega)) (nn (by omega)) (nn (by omega)) (nn (by omega)) (nn (by omega)) (nn (by omega)) (nn (by omega)) (nn (by omega)),
    ⟨hz', hTI, ⟨_, _, hTO⟩, ⟨_, hk _ _ q1, rfl, ?_⟩, ⟨_, hk _ _ q2, rfl, ?_⟩⟩, fun c hc => ?_, w2⟩
  · show Data.fields _ = _
    rw [List.size_toArray, ← hl]
    simp
  · show Data.fields _ = _
    rw [List.size_toArray, ← hl2]
    simp
  · rcases (by simpa using hc : c = s2.heap.objs.size + 1 + 2 ∨ c = s2.heap.objs.size + 1 ∨ c = s2.heap.objs.size + 1 + 1 ∨ c = s1.heap.objs.size ∨ c = s2.heap.objs.size) with z | z | z | z | z
    · rw [z]; exact fr _ (nl (by omega))
    · rw [z]; exact fr _ (nl (by omega))
    · rw [z]; exact fr _ (nl (by omega))
    · rw [z]; exact f0
    · rw [z]; exact fr _ (nl (by omega))
end SW
set_option Elab.async false
set_option linter.all false
set_option maxRecDepth 100000
set_option maxHeartbeats 1000000
/-! Snd5: t[::-1], x in s. -/
namespace SW
open PySem PySem.Spec PyProof.Rows L2

/-! ### t[::-1] -/
theorem back_adjust (n : Nat) : Builtin.Slice.sliceAdjust none none (-1) (n : Int) = ((n : Int) - 1, -1) := rfl
theorem back_places (n : Nat) : Builtin.Slice.slicePlaces ((n : Int) - 1) (-1) (-1) = n := by
  unfold Builtin.Slice.slicePlaces
  rw [if_neg (by decide)]
  by_cases h : (n : Int) - 1 > -1
  · rw [if_pos h]
    show (((n : Int) - 1 - -1 - 1) / 1 + 1).toNat = n
    rw [Int.ediv_one]
    omega
  · rw [if_neg h]
    omega
theorem fm_congr {α β : Type} {f g : α → Option β} : ∀ {l : List α}, (∀ x ∈ l, f x = g x) → l.filterMap f = l.filterMap g
  | [], _ => rfl
  | x :: r, h => by
    rw [List.filterMap_cons, List.filterMap_cons, h x (List.mem_cons_self ..), fm_congr fun y hy => h y (List.mem_cons_of_mem _ hy)]
theorem any_eq {α : Type} {f g : α → Bool} : ∀ {l : List α}, (∀ x ∈ l, f x = g x) → l.any f = l.any g
  | [], _ => rfl
  | x :: r, h => by
    rw [List.any_cons, List.any_cons, h x (List.mem_cons_self ..), any_eq fun y hy => h y (List.mem_cons_of_mem _ hy)]
theorem back_pick (xs : Array Value) : ((List.range xs.size).filterMap fun (m : Nat) => xs[(((xs.size : Nat) : Int) - 1 + (m : Int) * -1).toNat]?).toArray = xs.toList.reverse.toArray := by
  have e := HT.pick_gen xs.reverse 0 xs.size
  have e2 : ((xs.reverse.toList.drop 0).take xs.size) = xs.toList.reverse := by
    rw [List.drop_zero, Array.toList_reverse]
    exact List.take_of_length_le (by simp)
  rw [e2] at e
  rw [← e]
  congr 1
  refine fm_congr fun m hm => ?_
  have hm := List.mem_range.mp hm
  have h1 : (((xs.size : Nat) : Int) - 1 + (m : Int) * -1).toNat = xs.size - 1 - m := by omega
  have h2 : (((0 : Nat) : Int) + (m : Int) * 1).toNat = m := by omega
  rw [h1, h2, Array.getElem?_reverse hm]
section
variable {prog : Program} {w : World} {A : Around} {E : Value → Shared → Prop} {s : Shared}
theorem applied_back {sl : Addr} {vs : Value} {n : Nat} {Q : Int × Int × Nat → Shared → Prop} (hs : s.heap.IsSliceOf sl .none .none vs) (ps : IsPart vs (some (-1)))
    (h : Q ((n : Int) - 1, -1, n) s) : wpAny (model prog w) A (Builtin.Slice.sliceApplied (.ref sl) (pure (n : Int))) Q E s := by
  obtain ⟨os, hos, hcs, hds⟩ := id hs
  unfold Builtin.Slice.sliceApplied Builtin.Slice.sliceFields
  refine wpAny_bind (wpAny_bind (wpAny_field hos hds (x := .none) rfl (wpAny_bind (wpAny_field hos hds (x := .none) rfl (wpAny_bind (wpAny_field hos hds (x := vs) rfl (wpAny_pure ?_)))))))
  refine wpAny_bind (HT.slicePart_ ps ?_)
  show wpAny _ _ (if ((-1 : Int) == 0) = true then _ else _) _ _ s
  rw [if_neg (by decide)]
  refine wpAny_bind (HT.slicePart_ .none (wpAny_bind (HT.slicePart_ .none (wpAny_bind (wpAny_pure ?_)))))
  show wpAny _ _ (match Builtin.Slice.sliceAdjust none none (-1) (n : Int) with | (lo, hi) => pure (lo, (-1 : Int), Builtin.Slice.slicePlaces lo hi (-1))) _ _ s
  rw [back_adjust n]
  show wpAny _ _ (pure ((n : Int) - 1, (-1 : Int), Builtin.Slice.slicePlaces ((n : Int) - 1) (-1) (-1))) _ _ s
  rw [back_places]
  exact wpAny_pure h
theorem getItem_tuple_back {t sl : Addr} {its : Array Value} {vs : Value} {Q : Value → Shared → Prop} (ht : IsTup s.heap t its) (hs : s.heap.IsSliceOf sl .none .none vs) (ps : IsPart vs (some (-1)))
    (h : Q (.ref s.heap.objs.size) { s with heap := s.heap.push { cls := .type "tuple", data := .seq its.toList.reverse.toArray } }) (hsz : its.size ≤ sizeLine) : wpAny (model prog w) A (getItem (.ref t) (.ref sl)) Q E s := by
  have hz : sizeOk (.seq its.toList.reverse.toArray) := by
    show its.toList.reverse.toArray.size ≤ sizeLine
    rw [List.size_toArray, List.length_reverse, Array.length_toList]
    exact hsz
  obtain ⟨os, hos, hcs, hds⟩ := id hs
  have hTs : s.TypeIs (.ref sl) "slice" := ⟨os, hos, hcs⟩
  unfold getItem
  try with_reducible refine wpAny_holding ?_
  first | refine wpAny_bind (wpAny_pure ?_) | skip
  refine wpAny_bind (wpAny_sequenceKey ht.typeIs (by decide) ?_)
  refine wpAny_bind (wpAny_callSpecial?_slot (name := Str.ofString "__getitem__") ht.typeIs PyProof.Rows.slot_tuple_getitem (wpAny_call_entry PyProof.Rows.slot_tuple_getitem ht.typeIs entry_tuple_getitem ?_ (args_tuple_getitem _ _)))
  show wpAny _ _ (Builtin.Tuple.tupleItemsOf (.ref t) >>= _) _ _ s
  refine wpAny_bind (tupleItemsOf_ ht (wpAny_bind (wpAny_typeOf hTs ?_)))
  rw [if_pos (by decide)]
  refine wpAny_bind (applied_back hs ps ?_)
  show wpAny _ _ (if (((its.size : Nat) : Int) - 1 == 0 && (-1 : Int) == 1 && its.size == its.size) = true then _ else _) _ _ s
  rw [if_neg (by simp), back_pick]
  first
    | exact wpAny_bind (m := Builtin.Tuple.tupleExact _) (wpAny_newObj_type (wpAny_pure ⟨_, rfl, wpAny_pure h⟩) hz)
    | exact wpAny_bind (m := Builtin.Tuple.tupleExact _) (wpAny_newObj_type (wpAny_bind (wpAny_pure (wpAny_pure ⟨_, rfl, wpAny_pure h⟩))) hz)
    | exact wpAny_bind (wpAny_bind (m := Builtin.Tuple.tupleExact _) (wpAny_newObj_type (wpAny_pure (wpAny_pure ⟨_, rfl, wpAny_pure h⟩)) hz))
    | exact wpAny_bind (wpAny_bind (m := Builtin.Tuple.tupleExact _) (wpAny_newObj_type (wpAny_pure ⟨_, rfl, wpAny_pure h⟩) hz))
end
def tRevT (te : TE) : TE := fun σ H Q => te σ H fun x H1 => ∃ a xs, x = .ref a ∧ H1 a = some (.tup xs) ∧ ∀ p, H1 p = none → Q (.ref p) (upd H1 p (.tup xs.reverse))
theorem pe_revT {X : Cx} {e : Expr} {te : TE} {k : Nat} {p1 p2 p3 pos : Pos} (he : PE X e te) : PE X (.Subscript e (.Slice none none (some (.UnaryOp .USub (.Constant (.int 1) k p1) p2)) p3) pos) (tRevT te) := by
  refine ⟨fun pins s σ H Q I h => Subscript_ (thn (he.run pins s σ H _ I h) fun v s1 ⟨x, H1, I1, r1, q1⟩ => ?_)⟩
  obtain ⟨a, xs, ex, hx, q⟩ := q1
  subst ex
  cases r1
  have hst : PO X (some (.UnaryOp .USub (.Constant (.int 1) k p1) p2)) (tPart (tUn (rU fun i => .int (-i)) (tC (.int 1)))) := po_some (pe_un un_neg pe_int)
  have hno : ∀ (s : Shared) (H : Hp), Inv X pins σ H s → ∀ {Q : Value → Shared → Prop}, Q .none s → wpAny (model X.prog X.w) X.A (evalPart none X.env) Q X.xe s := fun s H I Q q => by rw [evalPart_none]; exact wpAny_pure q
  refine wpAny_Slice (hno s1 H1 I1 (hno s1 H1 I1 (thn (hst.run pins s1 σ H1 (fun o H4 => o = some (-1) ∧ H4 = H1) I1 ⟨1, rfl, -1, rfl, rfl, rfl⟩) fun vs s4 ⟨o, H4, I4, ps, eo, e4⟩ => ?_)))
  subst eo e4
  have I5 : Inv X pins σ H4 { s4 with heap := s4.heap.push { cls := .type "slice", data := .fields #[.none, .none, vs] } } := I4.kept (t' := s4.toks) fun b ob q => Heap.get?_push_of_some _ q
  obtain ⟨its, r, ht, hz⟩ := I5.tuple (SqT.of hx)
  have hlen := r.length
  show wpAny (model X.prog X.w) X.A (subscriptTail e (.Slice none none (some (.UnaryOp .USub (.Constant (.int 1) k p1) p2)) p3) (.ref a) (.ref s4.heap.objs.size)) (EP X pins σ Q) X.xe { s4 with heap := s4.heap.push { cls := .type "slice", data := .fields #[.none, .none, vs] } }
  refine tail_any (ops := [.ref a, .ref s4.heap.objs.size]) ht.typeIs (PyProof.Rows.slot_tuple_getitem.lookup) ?_ (by with_unfolding_all rfl)
  refine getItem_tuple_back ht (Heap.IsSliceOf.new _ .none .none vs) ps ?_ (by rw [List.size_toArray]; omega)
  refine ⟨.ref _, _, I5.laid (t' := s4.toks) (o := .tup xs.reverse) (fun b ob q => Heap.get?_push_of_some _ q) (Nat.le_refl _) ?_, rfl, q _ (I5.hok.fresh (Nat.le_refl _))⟩
  exact ⟨by rw [List.length_reverse]; exact hz, _, r.reverse, IsTup.new _ _⟩
section
variable {M : MC} {F : FT} {X : Cx} {sc : Scope} {cl : Bool} {e : Expr} {a b c : C} {f g l : Expr → Bool}
theorem s_revT (h : vw (vSub e) (fun p => vBack p.2 && f p.1) = true) (ha : ∀ e, f e = true → PE X e (rdC F a)) : PE X e (rdC F (.un .revT a)) := by
  obtain ⟨⟨y, z⟩, h1, h2⟩ := vw_true h
  obtain ⟨h2, h3⟩ := and_true2 h2
  obtain ⟨p, rfl⟩ := vSub_some h1
  obtain ⟨k, p1, p2, p3, e2⟩ := vBack_true h2
  simp only at e2
  subst e2
  refine peW (pe_revT (ha y h3)) fun σ H Q ⟨O, S, ρ, r, I, hr, q⟩ => ?_
  obtain ⟨xs, h5, h6⟩ := onT_some (show onT (evC F a false ρ) _ = some _ from hr)
  cases h6
  refine gC h5 O S H _ I fun v S' H' e1 r1 => ?_
  obtain ⟨p, vs, rfl, hh, hq⟩ := rp_tup r1
  exact ⟨p, vs, rfl, e1.sh _ _ hh, fun l hl => q _ _ _ (e1.trans (.new e1.sh _ hl)) (.of (.tup upd_same (hq.reverse.mono (same_new (e1.sh.free hl)))))⟩

/-! ### x in s -/
def rInS (K : PySem.W.Frag) (n : Bool) : R2 := fun x y H Q => ∃ (d c : PyData) (ds : List PyData), seqOf c = some ds ∧ Dp K H y c ∧ Dp K H x d ∧ SeqAt.shaped c = true ∧ SeqAt.shaped d = true ∧ Q (.bl (xor n (ds.any fun z => PyData.eqv z d))) H
theorem op_inS (hu : X.A.units + 65 < cLine) (n : Bool) : OpR X (compareOp (if n then .NotIn else .In)) (rInS X.K n) := by
  intro pins s σ H x y v u Q I rx ry h
  obtain ⟨d, c, ds, hs, hc, hd, sc, sd, q⟩ := h
  obtain ⟨as, r1⟩ := Dp.reads I d x v hd rx
  obtain ⟨bs, r2⟩ := Dp.reads I c y u hc ry
  rcases seqOf_some hs with rfl | rfl
  · have hx : PyData.canLayAll0 ds = true := SeqAt.canLay_of_shaped sc
    cases n with
    | true => exact SeqAt.notIn_list_reads r2 r1 hx (SeqAt.canLay_of_shaped sd) (room_in_shaped sd hu) ⟨.bl _, H, I, rfl, by rw [Bool.true_xor] at q; exact q⟩
    | false => exact SeqAt.in_list_reads r2 r1 hx (SeqAt.canLay_of_shaped sd) (room_in_shaped sd hu) ⟨.bl _, H, I, rfl, by rw [Bool.false_xor] at q; exact q⟩
  · have hx : PyData.canLayAll0 ds = true := SeqAt.canLay_of_shaped sc
    cases n with
    | true => exact SeqAt.notIn_tuple_reads r2 r1 hx (SeqAt.canLay_of_shaped sd) (room_in_shaped sd hu) ⟨.bl _, H, I, rfl, by rw [Bool.true_xor] at q; exact q⟩
    | false => exact SeqAt.in_tuple_reads r2 r1 hx (SeqAt.canLay_of_shaped sd) (room_in_shaped sd hu) ⟨.bl _, H, I, rfl, by rw [Bool.false_xor] at q; exact q⟩
theorem s_inn (x : XOk M X sc cl) {n : Bool} (h : vw (vCmp e) (fun p => decide (p.2.1 = if n then .NotIn else .In) && noSet p.2.2 && f p.1 && g p.2.2) = true) (ha : ∀ e, f e = true → PE X e (rdC F a)) (hb : ∀ e, g e = true → PE X e (rdP F b)) :
    PE X e (rdC F (.bi (.inn n) a b)) ∧ PT X e (rdT F (.bi (.inn n) a b)) := by
  obtain ⟨⟨y, o, z⟩, h1, h2⟩ := vw_true h
  obtain ⟨h2, h5⟩ := and_true2 h2
  obtain ⟨h2, h4⟩ := and_true2 h2
  obtain ⟨h2, h3⟩ := and_true2 h2
  obtain ⟨p, rfl⟩ := vCmp_some h1
  cases (of_decide_eq_true h2 : o = if n then .NotIn else .In)
  have hu : X.A.units + 65 < cLine := by have := x.units; omega
  have inv : ∀ ρ r, evC F (.bi (.inn n) a b) false ρ = some r → ∃ s t d c ds, evC F a false ρ = some s ∧ datOf s = some d ∧ evC F b true ρ = some t ∧ datOf t = some c ∧ seqOf c = some ds ∧ noB 6 d = true ∧ noB 6 c = true ∧ r = .dat (.bool (xor n (inS d ds))) := by
    intro ρ r hr
    obtain ⟨s, d, h6, h7, h8⟩ := onD_some (show onD (evC F a false ρ) _ = some _ from hr)
    obtain ⟨t, c, h9, h10, h11⟩ := onD_some h8
    cases hs : seqOf c with
    | none => rw [hs] at h11; cases h11
    | some ds =>
      rw [hs] at h11
      cases b1 : noB 6 d with
      | false => simp only [b1] at h11; cases h11
      | true =>
        cases b2 : noB 6 c with
        | false => simp only [b1, b2] at h11; cases h11
        | true =>
          simp only [b1, b2] at h11
          exact ⟨s, t, d, c, ds, h6, h7, h9, h10, hs, b1, b2, dB_inv h11⟩
  refine cmp2 (op_inS hu n) (peD (ha y h4)) (hb z h5) (mark_none h3 _) (fun σ H O S ρ k K I hr q => ?_) fun ρ r hr => ?_
  · obtain ⟨s, t, d, c, ds, h6, h7, h8, h9, h10, b1, b2, h11⟩ := inv ρ _ hr
    cases h11
    refine gives2 (gD h6 h7) (gP h8 h9) (stD _) (stP _) I fun v w S2 H2 e1 r1 r2 => ⟨d, c, ds, h10, r2.dp e1.sh, (r1.mono e1.sh).dp, noB_shaped b2 (by decide), noB_shaped b1 (by decide), ?_⟩
    have e2 : (ds.any fun z => PyData.eqv z d) = inS d ds := by
      unfold inS
      exact any_eq fun z hz => (eqP_eqv 6 z d (noB_mem b2 h10 z hz) b1).symm
    rw [e2]
    exact q S2 H2 e1
  · obtain ⟨s, t, d, c, ds, _, _, _, _, _, _, _, h11⟩ := inv ρ _ hr
    exact ⟨_, h11⟩
end
end SW
set_option Elab.async false
set_option linter.all false
set_option maxRecDepth 100000
set_option maxHeartbeats 1000000
/-! Snd6: what is walked. -/
namespace SW
open PySem PySem.Spec PyProof.Rows L2

/-! ### the lists of walks -/
theorem rangeL_len : ∀ (n : Nat) (lo : Int), (rangeL lo n).length = n
  | 0, _ => rfl
  | n + 1, lo => congrArg Nat.succ (rangeL_len n (lo + 1))
theorem rangeL_get : ∀ (n : Nat) (lo : Int) (i : Nat), i < n → (rangeL lo n)[i]? = some (.int (lo + i))
  | 0, _, _, h => absurd h (Nat.not_lt_zero _)
  | n + 1, lo, 0, _ => by
    show some (PyData.int lo) = _
    rw [Int.ofNat_zero, Int.add_zero]
  | n + 1, lo, i + 1, h => by
    have e := rangeL_get n (lo + 1) i (by omega)
    show (rangeL (lo + 1) n)[i]? = _
    rw [e]
    congr 2
    omega
theorem enumL_len : ∀ (xs : List PyData) (k : Nat), (enumL k xs).length = xs.length
  | [], _ => rfl
  | _ :: r, k => congrArg Nat.succ (enumL_len r (k + 1))
theorem enumL_get : ∀ (xs : List PyData) (k i : Nat) (x : PyData), xs[i]? = some x → (enumL k xs)[i]? = some (.tuple [.int ((k + i : Nat) : Int), x])
  | [], _, _, _, h => nomatch h
  | y :: r, k, 0, x, h => by
    have h : some y = some x := h
    cases h
    rfl
  | _ :: r, k, i + 1, x, h => by
    have e := enumL_get r (k + 1) i x h
    show (enumL (k + 1) r)[i]? = _
    rw [e]
    have e2 : k + 1 + i = k + (i + 1) := by omega
    rw [e2]
theorem zipL_len : ∀ xs ys : List PyData, (zipL xs ys).length = min xs.length ys.length
  | [], ys => by simp [zipL]
  | _ :: _, [] => by simp [zipL]
  | x :: xs, y :: ys => by
    have e := zipL_len xs ys
    simp only [zipL, List.length_cons, e]
    omega
theorem zipL_get : ∀ (xs ys : List PyData) (i : Nat) (x y : PyData), xs[i]? = some x → ys[i]? = some y → (zipL xs ys)[i]? = some (.tuple [x, y])
  | [], _, _, _, _, h, _ => nomatch h
  | _ :: _, [], _, _, _, _, h => nomatch h
  | a :: xs, b :: ys, 0, x, y, h, h2 => by
    have h : some a = some x := h
    have h2 : some b = some y := h2
    cases h
    cases h2
    rfl
  | _ :: xs, _ :: ys, i + 1, x, y, h, h2 => zipL_get xs ys i x y h h2

/-! ### walks over data -/
/-- J yields the data xs while G stands; S: what it leans on -/
abbrev WkD (J : It) (S : Hp) (xs : List PyData) (G : Hp → Prop) : Prop := Walk J xs.length G fun i H x H' => ∀ S1, Same S S1 → Same S1 H → ∃ S2 d, xs[i]? = some d ∧ Ext S1 H S2 H' ∧ Dq S2 x d
/-- as it is taken (false): out of S; looked at (true): out of H -/
def Bp (pk : Bool) (S H : Hp) : Hp := match pk with
  | true => H
  | false => S
theorem Bp_sub {pk : Bool} {S H : Hp} (sh : Same S H) : Same (Bp pk S H) H := by
  cases pk with
  | true => exact Same.refl _
  | false => exact sh
def PkX (pk : Bool) (S H : Hp) (v : V) (d : PyData) : Prop := match pk with
  | true => Pk S H v d
  | false => Dq S v d
def rdX (F : FT) (c : C) (pk : Bool) : TE := fun σ H Q => ∃ O S ρ r d, EnR O S H σ ρ ∧ evC F c pk ρ = some r ∧ datOf r = some d ∧ ∀ v S' H', Ext S H S' H' → PkX pk S' H' v d → Q v H'
/-- what is walked -/
def rdI (F : FT) (c : C) (pk : Bool) : TI := fun σ H R => ∃ O S ρ r xs, EnR O S H σ ρ ∧ evC F c pk ρ = some r ∧ datOf r = some (.list xs) ∧ ∀ J S' H' G, Ext S H S' H' → WkD J S' xs G → (∀ H2, Same (Bp pk S' H') H2 → G H2) → R J H'
section
variable {M : MC} {F : FT} {X : Cx} {sc : Scope} {cl : Bool} {e tg : Expr} {a b c : C} {f g l : Expr → Bool} {pk : Bool}
theorem peX (h1 : PE X e (rdC F a)) (h2 : PE X e (rdP F a)) : PE X e (rdX F a pk) := by
  cases pk with
  | true => exact h2
  | false => exact peD h1
theorem PkX.seq {S H : Hp} {v : V} {d : PyData} {xs : List PyData} (h : PkX pk S H v d) (sh : Same S H) (hd : seqOf d = some xs) : ∃ a vs, v = .ref a ∧ (Bp pk S H a = some (.lst vs) ∨ Bp pk S H a = some (.tup vs)) ∧ DqA S vs xs := by
  have hd := seqOf_some hd
  cases pk with
  | true => exact Pk.seq h sh hd
  | false =>
    rcases hd with rfl | rfl
    · obtain ⟨a, vs, h1, h2, h3⟩ := dq_lst h
      exact ⟨a, vs, h1, .inl h2, h3⟩
    · obtain ⟨a, vs, h1, h2, h3⟩ := dq_tup h
      exact ⟨a, vs, h1, .inr h2, h3⟩
/-- one after another -/
theorem wk_at {J : It} {S : Hp} {vs : List V} {xs : List PyData} {G : Hp → Prop} (w : Walk J vs.length G (YAt vs)) (h : DqA S vs xs) : WkD J S xs G := by
  have e := h.length
  rw [e] at w
  refine w.mono (fun _ z => z) fun i H x H' hi _ y => ?_
  obtain ⟨rfl, hx⟩ := y
  obtain ⟨d, h1, h2⟩ := h.getV hx
  exact fun S1 s1 s2 => ⟨S1, d, h1, .refl s2, h2.mono s1⟩
/-- in pairs -/
theorem wk_pair {J : It} {S : Hp} {xs : List PyData} {G : Hp → Prop} {n : Nat} {p q : Nat → Option V} (w : Walk J n G (YPair p q)) (hn : n = xs.length) (h : ∀ i x y, i < n → p i = some x → q i = some y → ∃ d d2, xs[i]? = some (.tuple [d, d2]) ∧ Dq S x d ∧ Dq S y d2) : WkD J S xs G := by
  subst hn
  refine w.mono (fun _ z => z) fun i H v H' hi _ y => ?_
  obtain ⟨T, x, y, rfl, hT, rfl, h1, h2⟩ := y
  obtain ⟨d, d2, h3, h4, h5⟩ := h i x y hi h1 h2
  intro S1 s1 s2
  have sn := same_new (o := HO.tup [x, y]) (s2.free hT)
  exact ⟨_, _, h3, .new s2 _ hT, .tup upd_same (.cons ((h4.mono s1).mono sn) (.cons ((h5.mono s1).mono sn) .nil))⟩
/-- a list or a tuple -/
def iSeq (K : PySem.W.Frag) (tl : TE) : TI := fun σ H R => tl σ H fun x H1 => ∃ a xs, x = .ref a ∧ ((SqL K H1 a xs ∧ R (Itl K a) H1) ∨ (SqT K H1 a xs ∧ R (Itt K a) H1))
theorem pi_seq {l : Expr} {tl : TE} (hl : PE X l tl) : PI X tg l (iSeq X.K tl) := by
  refine ⟨fun pins s σ H R I h => thn (hl.run pins s σ H _ I h) fun v s1 ⟨x, H1, I1, r1, q1⟩ => ?_⟩
  obtain ⟨a, xs, e, q⟩ := q1
  subst e
  cases r1
  have fp : ∀ b ∈ [s1.heap.objs.size], FpOk X pins H1 b := fun b hb => by
    cases List.mem_singleton.mp hb
    exact I1.fpOk (Nat.le_refl _) (I1.hok.fresh (Nat.le_refl _))
  rcases q with ⟨hq, q⟩ | ⟨hq, q⟩
  · obtain ⟨its, rv, p, hz⟩ := I1.list hq
    exact wpAny_pyIter_list p.isList ⟨s1.heap.objs.size, [s1.heap.objs.size], _, _, H1, rfl, I1.kept (t' := s1.toks) fun b o e => Heap.get?_push_of_some _ e, turn_list a _, ⟨_, Heap.get?_push_size _ rfl, rfl, rfl⟩, fp, q⟩
  · obtain ⟨its, rv, p, hz⟩ := I1.tuple hq
    exact wpAny_pyIter_tuple (show s1.heap.IsTuple a its.toArray from p) ⟨s1.heap.objs.size, [s1.heap.objs.size], _, _, H1, rfl, I1.kept (t' := s1.toks) fun b o e => Heap.get?_push_of_some _ e, turn_tuple a _, ⟨_, Heap.get?_push_size _ rfl, rfl, rfl⟩, fp, q⟩
theorem gX {σ : L2.St} {ρ : En} {r : SV} {d : PyData} {O : Addr → Prop} {S H : Hp} {Q : VK} (h : evC F a pk ρ = some r) (hd : datOf r = some d) (I : EnR O S H σ ρ) (q : ∀ v S' H', Ext S H S' H' → PkX pk S' H' v d → Q v H') : rdX F a pk σ H Q := ⟨O, S, ρ, r, d, I, h, hd, q⟩
theorem s_iSeq (h : (noSet e && f e) = true) (ha : ∀ e, f e = true → PE X e (rdX F a pk)) : PI X tg e (rdI F (.un .seq a) pk) := by
  obtain ⟨_, h2⟩ := and_true2 h
  refine piW (pi_seq (ha e h2)) fun σ H R ⟨O, S, ρ, r, xs, I, hr, hd, q⟩ => ?_
  obtain ⟨s, d, ys, h5, h6, h7, h8⟩ := onS_some (show onS (evC F a pk ρ) _ = some _ from hr)
  cases h8
  cases hd
  refine gX h5 h6 I fun v S' H' e1 r1 => ?_
  obtain ⟨p, vs, rfl, hh, hq⟩ := r1.seq e1.sh (by rcases h7 with rfl | rfl <;> rfl)
  refine ⟨p, vs, rfl, ?_⟩
  rcases hh with hh | hh
  · exact .inl ⟨SqL.of (Bp_sub e1.sh _ _ hh), q _ S' H' _ e1 (wk_at walk_list hq) fun H2 s2 => SqL.of (s2 _ _ hh)⟩
  · exact .inr ⟨SqT.of (Bp_sub e1.sh _ _ hh), q _ S' H' _ e1 (wk_at walk_tup hq) fun H2 s2 => SqT.of (s2 _ _ hh)⟩
theorem s_iRev (x : XOk M X sc cl) (h : mC "reversed" sc e (a1 f) = true) (ha : ∀ e, f e = true → PE X e (rdX F a pk)) : PI X tg e (rdI F (.un .rev a) pk) := by
  obtain ⟨es, p, q, rfl, hg, h⟩ := mC_some h
  obtain ⟨y, rfl, hs, hf⟩ := one_arg h
  refine piW (RT.pi_revA (x.gl hg) (x.blt _ (by decide +kernel)) (ha y hf) (star1 hs)) fun σ H R ⟨O, S, ρ, r, xs, I, hr, hd, q⟩ => ?_
  obtain ⟨s, d, ys, h5, h6, h7, h8⟩ := onS_some (show onS (evC F a pk ρ) _ = some _ from hr)
  cases h8
  cases hd
  refine gX h5 h6 I fun v S' H' e1 r1 => ?_
  obtain ⟨p, vs, rfl, hh, hq⟩ := r1.seq e1.sh (by rcases h7 with rfl | rfl <;> rfl)
  refine ⟨p, vs, rfl, ?_⟩
  have rv : ∀ {i : Nat} {x : V}, i < vs.length → vs[vs.length - 1 - i]? = some x → vs.reverse[i]? = some x := fun hi hx => by rw [List.getElem?_reverse hi]; exact hx
  have ll : vs.reverse.length = vs.length := List.length_reverse
  rcases hh with hh | hh
  · refine .inl ⟨SqL.of (Bp_sub e1.sh _ _ hh), q _ S' H' (fun H2 => SqL X.K H2 p vs) e1 (wk_at (vs := vs.reverse) ?_ hq.reverse) fun H2 s2 => SqL.of (s2 _ _ hh)⟩
    rw [ll]
    exact walk_rev.mono (fun _ z => z) fun i H x H' hi _ y => ⟨y.1, rv hi y.2⟩
  · refine .inr ⟨SqT.of (Bp_sub e1.sh _ _ hh), q _ S' H' (fun H2 => SqT X.K H2 p vs) e1 (wk_at (vs := vs.reverse) ?_ hq.reverse) fun H2 s2 => SqT.of (s2 _ _ hh)⟩
    rw [ll]
    exact ⟨fun i _ hi q => ⟨hi, vs, vs[vs.length - 1 - i]'(by omega), q, by simp [show vs.length - 1 - i < vs.length by omega]⟩, fun _ _ => Nat.le_refl _, fun _ _ _ _ hi q y => ⟨y.1, rv hi (y.2 vs q)⟩⟩
theorem isTup_some (h : isTupE tg = true) : ∃ es k p, tg = .Tuple es k p := by
  obtain ⟨es, h1⟩ := Option.isSome_iff_exists.mp h
  obtain ⟨k, p, rfl⟩ := vTup_some h1
  exact ⟨es, k, p, rfl⟩
theorem s_iEnum (x : XOk M X sc cl) (h : (isTupE tg && mC "enumerate" sc e (a1 f)) = true) (ha : ∀ e, f e = true → PE X e (rdX F a pk)) : PI X tg e (rdI F (.un .enum a) pk) := by
  obtain ⟨ht, h⟩ := and_true2 h
  obtain ⟨ts, tk, tp, rfl⟩ := isTup_some ht
  obtain ⟨es, p, q, rfl, hg, h⟩ := mC_some h
  obtain ⟨y, rfl, hs, hf⟩ := one_arg h
  refine piW (pi_enumA (x.gl hg) (x.blt _ (by decide +kernel)) (ha y hf) (star1 hs)) fun σ H R ⟨O, S, ρ, r, xs, I, hr, hd, q⟩ => ?_
  obtain ⟨s, d, ys, h5, h6, h7, h8⟩ := onS_some (show onS (evC F a pk ρ) _ = some _ from hr)
  cases h8
  cases hd
  refine gX h5 h6 I fun v S' H' e1 r1 => ?_
  obtain ⟨p, vs, rfl, hh, hq⟩ := r1.seq e1.sh (by rcases h7 with rfl | rfl <;> rfl)
  refine ⟨p, vs, rfl, ?_⟩
  have pr : ∀ (i : Nat) (x y : V), i < vs.length → some (V.int (i : Nat)) = some x → vs[i]? = some y → ∃ d d2, (enumL 0 ys)[i]? = some (.tuple [d, d2]) ∧ Dq S' x d ∧ Dq S' y d2 := fun i x y _ h1 h2 => by
    cases h1
    obtain ⟨d, h3, h4⟩ := hq.getV h2
    refine ⟨_, d, enumL_get ys 0 i d h3, ?_, h4⟩
    rw [Nat.zero_add]
    exact .int _
  have hn : vs.length = (enumL 0 ys).length := by rw [enumL_len, hq.length]
  rcases hh with hh | hh
  · exact .inl ⟨SqL.of (Bp_sub e1.sh _ _ hh), q _ S' H' _ e1 (wk_pair walk_enum hn pr) fun H2 s2 => SqL.of (s2 _ _ hh)⟩
  · exact .inr ⟨SqT.of (Bp_sub e1.sh _ _ hh), q _ S' H' _ e1 (wk_pair walk_enumT hn pr) fun H2 s2 => SqT.of (s2 _ _ hh)⟩
theorem small_b {i : Int} (h : small i = true) : -(2 ^ 62) ≤ i ∧ i < 2 ^ 62 := by
  unfold small at h
  have h := Nat.ble_eq.mp h
  rw [absN_eq] at h
  omega
theorem wk_range (S : Hp) (lo : Int) (n : Nat) : WkD (Itr lo n) S (rangeL lo n) fun _ => True := by
  have w := walk_range (lo := lo) (n := n)
  show Walk _ _ _ _
  rw [rangeL_len]
  refine w.mono (fun _ z => z) fun i H x H' hi _ y => ?_
  obtain ⟨rfl, rfl⟩ := y
  exact fun S1 s1 s2 => ⟨S1, _, rangeL_get n lo i hi, .refl s2, .int _⟩
theorem s_iRng1 (x : XOk M X sc cl) (h : mC "range" sc e (a1 f) = true) (ha : ∀ e, f e = true → PE X e (rdC F a)) : PI X tg e (rdI F (.un .rng1 a) pk) := by
  obtain ⟨es, p, q, rfl, hg, h⟩ := mC_some h
  obtain ⟨y, rfl, hs, hf⟩ := one_arg h
  refine piW (pi_range1 (x.gl hg) (x.blt _ (by decide +kernel)) (pa_cons (ha y hf) pa_nil (star1 hs)) (star1 hs)) fun σ H R ⟨O, S, ρ, r, xs, I, hr, hd, q⟩ => ?_
  obtain ⟨j, h5, h6⟩ := onI_some (show onI (evC F a false ρ) _ = some _ from hr)
  cases hj : small j with
  | false => rw [hj] at h6; cases h6
  | true =>
    rw [hj] at h6
    cases h6
    cases hd
    refine gC h5 O S H _ I fun v S' H' e1 r1 => ⟨j, by rw [rp_int r1], (small_b hj).1, (small_b hj).2, q _ S' H' _ e1 (wk_range S' 0 _) fun _ _ => trivial⟩
theorem s_iRng2 (x : XOk M X sc cl) (h : mC "range" sc e (a2 f g) = true) (ha : ∀ e, f e = true → PE X e (rdC F a)) (hb : ∀ e, g e = true → PE X e (rdC F b)) : PI X tg e (rdI F (.bi .rng2 a b) pk) := by
  obtain ⟨es, p, q, rfl, hg, h⟩ := mC_some h
  obtain ⟨y, z, rfl, hs, hs2, hf, hf2⟩ := two_args h
  refine piW (pi_range2 (x.gl hg) (x.blt _ (by decide +kernel)) (pa_cons (ha y hf) (pa_cons (hb z hf2) pa_nil (star1 hs2)) (star_cons hs [z])) (by rw [star_cons hs [z], star1 hs2]; rfl) (star1 hs2)) fun σ H R ⟨O, S, ρ, r, xs, I, hr, hd, q⟩ => ?_
  obtain ⟨i, h5, h6⟩ := onI_some (show onI (evC F a false ρ) _ = some _ from hr)
  obtain ⟨j, h7, h8⟩ := onI_some h6
  cases hi : small i with
  | false => rw [hi] at h8; cases h8
  | true =>
    cases hj : small j with
    | false => rw [hi, hj] at h8; cases h8
    | true =>
      rw [hi, hj] at h8
      cases h8
      cases hd
      refine gives2 (gC h5) (gC h7) (stC _) (stC _) I fun v w S2 H2 e1 r1 r2 => ⟨i, j, by rw [rp_int r1, rp_int r2], ⟨(small_b hi).1, (small_b hi).2, (small_b hj).1, (small_b hj).2⟩, q _ S2 H2 _ e1 (wk_range S2 i _) fun _ _ => trivial⟩
theorem wk_zip {J : It} {S : Hp} {vs ws : List V} {xs ys : List PyData} {G : Hp → Prop} (w : Walk J (min vs.length ws.length) G (YPair (fun i => vs[i]?) (fun i => ws[i]?))) (h1 : DqA S vs xs) (h2 : DqA S ws ys) : WkD J S (zipL xs ys) G :=
  wk_pair w (by rw [zipL_len, h1.length, h2.length]) fun i x y _ e1 e2 => by
    obtain ⟨d, q1, q2⟩ := h1.getV e1
    obtain ⟨d2, q3, q4⟩ := h2.getV e2
    exact ⟨d, d2, zipL_get _ _ i d d2 q1 q3, q2, q4⟩
theorem walk_zipT {K : PySem.W.Frag} {a b : Addr} {xs ys : List V} : Walk (RZ.ItzT K a b) (min xs.length ys.length) (fun H => SqT K H a xs ∧ SqT K H b ys) (YPair (fun i => xs[i]?) (fun i => ys[i]?)) := by
  refine ⟨fun i _ hi q => ?_, fun _ q => ⟨xs, ys, q.1, q.2, by omega⟩, fun i H v H' _ q y => ?_⟩
  · exact ⟨xs, ys, xs[i]'(by omega), ys[i]'(by omega), q.1, q.2, by simp [show i < xs.length by omega], by simp [show i < ys.length by omega]⟩
  · obtain ⟨T, x, z, h1, h2, h3, h4, h5⟩ := y
    exact ⟨T, x, z, h1, h2, h3, h4 xs q.1, h5 ys q.2⟩
theorem s_iZip (x : XOk M X sc cl) (h : (isTupE tg && mC "zip" sc e (a2 f g)) = true) (ha : ∀ e, f e = true → PE X e (rdC F a)) (hb : ∀ e, g e = true → PE X e (rdC F b)) : PI X tg e (rdI F (.bi .zip a b) pk) := by
  obtain ⟨ht, h⟩ := and_true2 h
  obtain ⟨ts, tk, tp, rfl⟩ := isTup_some ht
  obtain ⟨es, p, q, rfl, hg, h⟩ := mC_some h
  obtain ⟨y, z, rfl, hs, hs2, hf, hf2⟩ := two_args h
  refine piW (RZ.pi_zipA (x.gl hg) (x.blt _ (by decide +kernel)) (pa_cons (ha y hf) (pa_cons (hb z hf2) pa_nil (star1 hs2)) (star_cons hs [z])) (star_cons hs [z]) (any_one hs2)) fun σ H R ⟨O, S, ρ, r, xs, I, hr, hd, q⟩ => ?_
  obtain ⟨xs, h5, h6⟩ := onT_some (show onT (evC F a false ρ) _ = some _ from hr)
  obtain ⟨ys, h7, h8⟩ := onT_some h6
  cases h8
  cases hd
  refine gives2 (gC h5) (gC h7) (stC _) (stC _) I fun v w S2 H2 e1 r1 r2 => ?_
  obtain ⟨p, vs, rfl, hh, hq⟩ := rp_tup r1
  obtain ⟨p2, ws, rfl, hh2, hq2⟩ := rp_tup r2
  exact ⟨p, p2, vs, ws, rfl, .inr ⟨SqT.of (e1.sh _ _ hh), SqT.of (e1.sh _ _ hh2), q _ S2 H2 _ e1 (wk_zip walk_zipT hq hq2) fun H3 s2 => ⟨SqT.of (s2 _ _ (by cases pk with | true => exact e1.sh _ _ hh | false => exact hh)), SqT.of (s2 _ _ (by cases pk with | true => exact e1.sh _ _ hh2 | false => exact hh2))⟩⟩⟩
theorem s_iZipR (x : XOk M X sc cl) (h : (isTupE tg && mC "zip" sc e (a2 (revArg f sc) (revArg g sc))) = true) (ha : ∀ e, f e = true → PE X e (rdC F a)) (hb : ∀ e, g e = true → PE X e (rdC F b)) : PI X tg e (rdI F (.bi .zipR a b) pk) := by
  obtain ⟨ht, h⟩ := and_true2 h
  obtain ⟨ts, tk, tp, rfl⟩ := isTup_some ht
  obtain ⟨es, p, q, rfl, hg, h⟩ := mC_some h
  obtain ⟨y, z, rfl, _, _, hf, hf2⟩ := two_args h
  obtain ⟨es1, p1, q1, rfl, hg1, h1⟩ := mC_some hf
  obtain ⟨y1, rfl, hs, hy⟩ := one_arg h1
  obtain ⟨es2, p2, q2, rfl, _, h2⟩ := mC_some hf2
  obtain ⟨z1, rfl, hs2, hz⟩ := one_arg h2
  refine piW (pi_zipR (x.gl hg) (x.blt _ (by decide +kernel)) (x.gl hg1) (x.blt _ (by decide +kernel)) (ha y1 hy) (hb z1 hz) (star1 hs) (star1 hs2)) fun σ H R ⟨O, S, ρ, r, xs, I, hr, hd, q⟩ => ?_
  obtain ⟨xs, h5, h6⟩ := onT_some (show onT (evC F a false ρ) _ = some _ from hr)
  obtain ⟨ys, h7, h8⟩ := onT_some h6
  cases h8
  cases hd
  refine gC h5 O S H _ I fun v S1 H1 e1 r1 => ?_
  obtain ⟨p, vs, rfl, hh, hq⟩ := rp_tup r1
  refine ⟨p, vs, rfl, SqT.of (e1.sh _ _ hh), gC h7 O S1 H1 _ (I.ext e1) fun w S2 H2 e2 r2 => ?_⟩
  obtain ⟨p2, ws, rfl, hh2, hq2⟩ := rp_tup r2
  have hh' := e2.ss _ _ hh
  have wz := walk_zipR (K := X.K) (a := p) (b := p2) (xs := vs) (ys := ws)
  have el : min vs.length ws.length = min vs.reverse.length ws.reverse.length := by rw [List.length_reverse, List.length_reverse]
  rw [el] at wz
  exact ⟨p2, ws, rfl, SqT.of (e2.sh _ _ hh'), SqT.of (e2.sh _ _ hh2), q _ S2 H2 _ (e1.trans e2) (wk_zip wz (hq.mono e2.ss).reverse hq2.reverse) fun H3 s2 => ⟨SqT.of (s2 _ _ (by cases pk with | true => exact e2.sh _ _ hh' | false => exact hh')), SqT.of (s2 _ _ (by cases pk with | true => exact e2.sh _ _ hh2 | false => exact hh2))⟩⟩
end
end SW
set_option Elab.async false
set_option linter.all false
set_option maxRecDepth 100000
set_option maxHeartbeats 1000000
/-! Snd7: targets; comprehensions. -/
namespace SW
open PySem PySem.Spec PyProof.Rows L2

/-! ### targets -/
theorem asg_cons {e : Expr} {env : Env} (h : noStar e = true) (es : List Expr) : assignEach (e :: es) env = (false, assign e env) :: assignEach es env := by
  cases e <;> first | rfl | cases h
def rdG (t : T) : TG := fun v σ H Q => ∃ O S ρ ρ' d, EnR O S H σ ρ ∧ Dq S v d ∧ bindT t d ρ = some ρ' ∧ ∀ σ', EnR O S H σ' ρ' → (∀ i, i ∉ slotsT t → σ'[i]? = σ[i]?) → Q σ' H
theorem pgW {X : Cx} {e : Expr} {t t' : TG} (h : PG X e t) (w : ∀ v σ H Q, t' v σ H Q → t v σ H Q) : PG X e t' := ⟨fun pins s σ H v u Q I r q => h.run pins s σ H v u Q I r (w v σ H Q q)⟩
section
variable {M : MC} {F : FT} {X : Cx} {sc : Scope} {cl : Bool}
theorem mLoc_pg (x : XOk M X sc cl) {i : Nat} {e : Expr} (h : mLoc M cl i sc e = true) : PG X e (gName i) := by
  obtain ⟨n, h1, h2⟩ := vw_true h
  obtain ⟨h2, h3⟩ := and_true2 h2
  obtain ⟨p, rfl⟩ := vName_some h1
  have hi : X.N[i]? = some n := by rw [x.hN]; exact of_decide_eq_true h2
  have hnd : X.N.Nodup := by rw [x.hN]; exact x.nd
  rcases Bool.or_eq_true_iff.mp h3 with h3 | h3
  · have h4 : X.env.scope.names.lookup n = some .local := by rw [x.hsc]; exact of_decide_eq_true h3
    exact pg_name hnd hi (.inl h4) (.inr h4)
  · obtain ⟨h3, h4⟩ := and_true2 h3
    have h4 : X.env.scope.names.lookup n = some .cell := by rw [x.hsc]; exact of_decide_eq_true h4
    exact pg_name hnd hi (.inr h4) (.inl (x.fn h3 n))
theorem bindT_name (i : Nat) (d : PyData) (ρ : En) : bindT (.name i) d ρ = some (ρ.set i (some (.dat d))) := by
  show forceL (put ρ i (some (.dat d))) (fun r => some r) = _
  rw [forceL_eq, put_eq]
theorem bindT_pair {a b : T} {d : PyData} {ρ ρ' : En} (h : bindT (.pair a b) d ρ = some ρ') : ∃ x y ρ1, d = .tuple [x, y] ∧ bindT a x ρ = some ρ1 ∧ bindT b y ρ1 = some ρ' := by
  cases d with
  | tuple xs =>
    match xs, h with
    | [], h => cases h
    | [_], h => cases h
    | [x, y], h =>
      have h : (match bindT a x ρ with | none => none | some ρ1 => bindT b y ρ1) = some ρ' := h
      cases e : bindT a x ρ with
      | none => rw [e] at h; cases h
      | some ρ1 => rw [e] at h; exact ⟨x, y, ρ1, rfl, e, h⟩
    | _ :: _ :: _ :: _, h => cases h
  | none => cases h
  | bool _ => cases h
  | int _ => cases h
  | str _ => cases h
  | list _ => cases h
  | dict _ => cases h
theorem s_tg (x : XOk M X sc cl) : ∀ (t : T) (e : Expr), mTg M cl sc t e = true → PG X e (rdG t)
  | .name i, e, h => by
    refine pgW (mLoc_pg x (show mLoc M cl i sc e = true from h)) fun v σ H Q ⟨O, S, ρ, ρ', d, I, hd, hb, q⟩ => ?_
    rw [bindT_name] at hb
    cases hb
    refine q _ (I.putD i hd) fun j hj => ?_
    exact List.getElem?_set_ne (fun z => hj (by rw [← z]; exact List.mem_singleton.mpr rfl))
  | .pair a b, e, h => by
    obtain ⟨es, h1, h2⟩ := vw_true (show vw (vTup e) (pair2 (mTg M cl sc a) (mTg M cl sc b)) = true from h)
    obtain ⟨k, p, rfl⟩ := vTup_some h1
    match es, h2 with
    | [y, z], h2 =>
      obtain ⟨h2, h6⟩ := and_true2 h2
      obtain ⟨h2, h5⟩ := and_true2 h2
      obtain ⟨h3, h4⟩ := and_true2 h2
      have ga := s_tg x a y h5
      have gb := s_tg x b z h6
      have e1 : assignEach [y, z] X.env = [(false, assign y X.env), (false, assign z X.env)] := by
        rw [asg_cons h3, asg_cons h4]; rfl
      have e2 : (assignEach [y, z] X.env).map (·.2) = assign y X.env :: (assignEach [z] X.env).map (·.2) := by rw [asg_cons h3]; rfl
      have e3 : (assignEach [z] X.env).map (·.2) = assign z X.env :: (assignEach [] X.env).map (·.2) := by rw [asg_cons h4]; rfl
      refine pgW (pg_tup (n := 2) x.calm (pgs_cons ga (pgs_cons gb pgs_nil e3) e2) (by rw [e1]; rfl) (by rw [e1]; rfl)) fun v σ H Q ⟨O, S, ρ, ρ', d, I, hd, hb, q⟩ => ?_
      obtain ⟨d1, d2, ρ1, rfl, hb1, hb2⟩ := bindT_pair hb
      obtain ⟨l, vs, rfl, hh, hq⟩ := dq_tup hd
      cases hq with
      | cons q1 q2 =>
        cases q2 with
        | cons q2 q3 =>
          cases q3
          refine ⟨l, _, rfl, SqT.of (I.sub _ _ hh), rfl, _, _, rfl, O, S, ρ, ρ1, d1, I, q1, hb1, fun σ1 I1 n1 => ⟨_, _, rfl, O, S, ρ1, ρ', d2, I1, q2, hb2, fun σ2 I2 n2 => ⟨rfl, q σ2 I2 fun i hi => ?_⟩⟩⟩
          rw [n2 i (fun z => hi (List.mem_append_right _ z)), n1 i (fun z => hi (List.mem_append_left _ z))]
/-! ### a comprehension's tests -/
def rdTs (F : FT) (c : C) : TT := fun σ H Q => ∃ O S ρ as b, EnR O S H σ ρ ∧ evC F c false ρ = some (.many as) ∧ allT as = some b ∧ ∀ S' H', Ext S H S' H' → Q b H'
theorem ptsW {X : Cx} {e : List Expr} {t t' : TT} (h : PTs X e t) (w : ∀ σ H Q, t' σ H Q → t σ H Q) : PTs X e t' := ⟨fun pins s σ H Q I q => h.run pins s σ H Q I (w σ H Q q)⟩
theorem s_tsNil : PTs X [] (rdTs F .nil) := ptsW pts_nil fun σ H Q ⟨O, S, ρ, as, b, I, hr, ha, q⟩ => by
  have hr : some (SV.many []) = some (.many as) := hr
  cases hr
  cases ha
  exact q S H (.refl I.sub)
theorem s_tsOne {e : Expr} {a : C} (h : PT X e (rdT F a)) : PTs X [e] (rdTs F (.cons a .nil)) := ptsW (pts_one h) fun σ H Q ⟨O, S, ρ, as, b, I, hr, ha, q⟩ => by
  obtain ⟨y, ys, h1, h2, h3⟩ := opCons_some (show opCons (evC F a false ρ) (evC F .nil false ρ) = some _ from hr)
  have h2 : some (SV.many []) = some (.many ys) := h2
  cases h2
  cases h3
  have ha : (match datOf y with | some d => (match boolOf d with | some true => allT [] | some false => some false | none => none) | none => none) = some b := ha
  cases hd : datOf y with
  | none => rw [hd] at ha; cases ha
  | some d =>
    rw [hd] at ha
    cases hb : boolOf d with
    | none => simp only [hb] at ha; cases ha
    | some k =>
      have ek : k = b := by
        cases k with
        | true => simp only [hb] at ha; cases ha; rfl
        | false => simp only [hb] at ha; cases ha; rfl
      subst ek
      cases boolOf_some hb
      rcases datOf_some hd with rfl | ⟨xs, rfl, z⟩
      · exact ⟨O, S, ρ, k, I, h1, q⟩
      · cases z
/-! ### comprehensions -/
/-- H without D -/
def delH (H : Hp) (D : Addr) : Hp := fun a => if a = D then none else H a
theorem del_ne {H : Hp} {D a : Addr} (h : a ≠ D) : delH H D a = H a := if_neg h
theorem del_eq {H : Hp} {D : Addr} : delH H D D = none := if_pos rfl
theorem del_sub {H : Hp} {D : Addr} : Same (delH H D) H := fun a o e => by
  by_cases h : a = D
  · subst h; rw [del_eq] at e; cases e
  · rw [del_ne h] at e; exact e
theorem Ext.del {S H S' H' : Hp} {D : Addr} {o : HO} (e : Ext S H S' H') (h1 : S D = none) (h2 : H D = some o) : Ext S (delH H D) S' (delH H' D) := by
  have nD : S' D = none := e.out h1 h2
  refine ⟨e.ss, fun a x q => ?_, fun a x q => ?_, fun a ha => ?_⟩
  · by_cases z : a = D
    · subst z; rw [del_eq] at q; cases q
    · rw [del_ne z] at q ⊢; exact e.hh _ _ q
  · by_cases z : a = D
    · subst z; rw [nD] at q; cases q
    · rw [del_ne z]; exact e.sh _ _ q
  · by_cases z : a = D
    · subst z; exact .inr del_eq
    · rw [del_ne z]; exact e.fr a ha
theorem del_upd {H : Hp} {D : Addr} {o : HO} : delH (upd H D o) D = delH H D := by
  funext a
  by_cases z : a = D
  · subst z; rw [del_eq, del_eq]
  · rw [del_ne z, del_ne z, upd_ne z]
theorem del_new {H : Hp} {D : Addr} (h : H D = none) : delH H D = H := by
  funext a
  by_cases z : a = D
  · subst z; rw [del_eq, h]
  · rw [del_ne z]
theorem Ext.undel {S H S' H' : Hp} {D : Addr} (e : Ext S H S' (delH H' D)) : Ext S H S' H' := ⟨e.ss, e.hh.trans del_sub, e.sh.trans del_sub, e.fr⟩
theorem wipe_in {σ : L2.St} {i : Nat} : ∀ {vs : List Nat}, i ∈ vs → i < σ.length → (L2.wipe σ vs)[i]? = some none
  | [], h, _ => nomatch h
  | v :: vs, h, hl => by
    show ((L2.wipe σ vs).set v none)[i]? = some none
    by_cases z : v = i
    · subst z
      exact List.getElem?_set_self (by rw [wipe_length]; exact hl)
    · rw [List.getElem?_set_ne z]
      exact wipe_in ((List.mem_cons.mp h).resolve_left fun q => z q.symm) hl
theorem wipe_eq {σ σ' : L2.St} {vs : List Nat} (hl : σ'.length = σ.length) (h : ∀ i, i ∉ vs → σ'[i]? = σ[i]?) : L2.wipe σ' vs = L2.wipe σ vs := by
  refine List.ext_getElem? fun i => ?_
  by_cases m : i ∈ vs
  · by_cases l : i < σ.length
    · rw [wipe_in m l, wipe_in m (by rw [hl]; exact l)]
    · rw [List.getElem?_eq_none (by rw [wipe_length, hl]; omega), List.getElem?_eq_none (by rw [wipe_length]; omega)]
  · rw [wipe_out m, wipe_out m, h i m]
theorem compGo_nil (f : PyData → Option (Option PyData)) : compGo f [] = some [] := rfl
theorem compGo_cons {f : PyData → Option (Option PyData)} {x : PyData} {r ys : List PyData} (h : compGo f (x :: r) = some ys) : ∃ o zs, f x = some o ∧ compGo f r = some zs ∧ ys = (match o with | none => zs | some y => y :: zs) := by
  have h : (match f x with | none => none | some o => (match compGo f r with | none => none | some r => (match o with | none => some r | some y => some (y :: r)))) = some ys := h
  cases e1 : f x with
  | none => rw [e1] at h; cases h
  | some o =>
    rw [e1] at h
    cases e2 : compGo f r with
    | none => simp only [e2] at h; cases h
    | some zs =>
      simp only [e2] at h
      refine ⟨o, zs, rfl, rfl, ?_⟩
      cases o with
      | none => cases h; rfl
      | some y => cases h; rfl
theorem compTurn_some {t : T} {ρw : En} {ifs e : Ev1} {x : PyData} {o : Option PyData} (h : compTurn t ρw ifs e x = some o) : ∃ ρ1 bs k, bindT t x ρw = some ρ1 ∧ ifs false ρ1 = some (.many bs) ∧ allT bs = some k ∧ ((k = false ∧ o = none) ∨ (k = true ∧ ∃ r d, e false ρ1 = some r ∧ datOf r = some d ∧ o = some d)) := by
  unfold compTurn at h
  cases e1 : bindT t x ρw with
  | none => rw [e1] at h; cases h
  | some ρ1 =>
    rw [e1] at h
    cases e2 : ifs false ρ1 with
    | none => simp only [e2] at h; cases h
    | some r =>
      simp only [e2] at h
      cases e3 : manyOf r with
      | none => simp only [e3] at h; cases h
      | some bs =>
        simp only [e3] at h
        cases manyOf_some e3
        cases e4 : allT bs with
        | none => simp only [e4] at h; cases h
        | some k =>
          simp only [e4] at h
          refine ⟨ρ1, bs, k, rfl, e2, e4, ?_⟩
          cases k with
          | false => simp only at h; cases h; exact .inl ⟨rfl, rfl⟩
          | true =>
            simp only at h
            cases e5 : dOf (e false ρ1) with
            | none => rw [e5] at h; cases h
            | some d =>
              rw [e5] at h
              cases h
              obtain ⟨r2, h6, h7⟩ := bnd_inv (show bnd (e false ρ1) datOf = some d from e5)
              exact .inr ⟨rfl, r2, d, h6, h7, rfl⟩
theorem drop_cons {α : Type} {xs : List α} {i : Nat} {x : α} (h : xs[i]? = some x) : xs.drop i = x :: xs.drop (i + 1) := by
  obtain ⟨hl, e⟩ := List.getElem?_eq_some_iff.mp h
  rw [List.drop_eq_getElem_cons hl, e]
theorem bindT_len : ∀ {t : T} {d : PyData} {ρ ρ' : En}, bindT t d ρ = some ρ' → ρ'.length = ρ.length
  | .name i, d, ρ, ρ', h => by rw [bindT_name] at h; cases h; exact List.length_set
  | .pair a b, d, ρ, ρ', h => by
    obtain ⟨x, y, ρ1, _, h1, h2⟩ := bindT_pair h
    rw [bindT_len h2, bindT_len h1]
/-- the reading of a comprehension, by its parts -/
theorem comp_red {t : T} {own : List Nat} {i ifs e : C} (ho : ∀ j ∈ slotsT t, j ∈ own) : ∀ σ H Q, rdC F (.comp t i ifs e own) σ H Q → tLc (rdI F i true) (rdG t) (rdTs F ifs) (rdD F e) own σ H Q := by
  intro σ H Q ⟨O, S, ρ, r, I, hr, q⟩
  have hr : opComp t own (evC F i) (evC F ifs) (evC F e) ρ = some r := hr
  obtain ⟨s, xs, h1, h2, h3⟩ := onL_some hr
  rw [forceL_eq] at h3
  cases h4 : compGo (compTurn t (wipeE ρ own) (evC F ifs) (evC F e)) xs with
  | none => rw [h4] at h3; cases h3
  | some ys =>
    rw [h4] at h3
    cases h5 : lenOk ys with
    | false => simp only [h5] at h3; cases h3
    | true =>
      simp only [h5] at h3
      cases h3
      have hle := Nat.le_trans (lenOk_le h5) line5
      refine ⟨O, S, ρ, s, xs, I, h1, h2, fun J S' H1 G e1 wk hG D hD => ?_⟩
      have J0 : EnR O S' H1 (L2.wipe σ own) (wipeE ρ own) := (I.ext e1).wipe own
      refine lc_it wk (fun i Hc => ∃ S2 acc zs ws, Ext S' H1 S2 (delH Hc D) ∧ Hc D = some (.lst acc) ∧ DqA S2 acc zs ∧ compGo (compTurn t (wipeE ρ own) (evC F ifs) (evC F e)) (xs.drop i) = some ws ∧ ys = zs ++ ws) ?_ ?_ ?_ ?_
      · refine ⟨S', [], [], ys, ?_, upd_same, .nil, h4, rfl⟩
        rw [del_upd, del_new hD]
        exact .refl e1.sh
      · rintro i Hc _ ⟨S2, acc, zs, ws, p1, _⟩
        exact hG Hc (p1.hh.trans del_sub)
      · rintro i x Hc H' hi ⟨S2, acc, zs, ws, p1, p2, p3, p4, p5⟩ Y
        obtain ⟨S3, d, y1, y2, y3⟩ := Y S2 p1.ss p1.undel.sh
        rw [drop_cons y1] at p4
        obtain ⟨o, us, c1, c2, c3⟩ := compGo_cons p4
        obtain ⟨ρ1, bs, k, b1, b2, b3, b4⟩ := compTurn_some c1
        have nD : S2 D = none := by
          cases z : S2 D with
          | none => rfl
          | some o => have := p1.sh _ _ z; rw [del_eq] at this; cases this
        have J1 : EnR O S3 H' (L2.wipe σ own) (wipeE ρ own) := (J0.ext p1.undel).ext y2
        refine ⟨O, S3, _, ρ1, d, J1, y3, b1, fun σ' J2 n2 => ⟨?_, O, S3, ρ1, bs, k, J2, b2, b3, fun S4 H3 e4 => ?_⟩⟩
        · have hl : σ'.length = (L2.wipe σ own).length := by rw [← J2.len, ← J1.len, bindT_len b1]
          refine wipe_eq (by rw [hl, wipe_length]) fun j hj => ?_
          rw [n2 j (fun z => hj (ho j z)), wipe_out hj]
        · have E3 : Ext S2 Hc S4 H3 := y2.trans e4
          rcases b4 with ⟨rfl, rfl⟩ | ⟨rfl, r2, d2, b5, b6, rfl⟩
          · exact ⟨S4, acc, zs, us, p1.trans (E3.del nD p2), E3.hh _ _ p2, p3.mono E3.ss, c2, by rw [p5, c3]⟩
          · show rdD F e σ' H3 _
            refine ⟨O, S4, ρ1, r2, d2, J2.ext e4, b5, b6, fun y S5 H4 e5 hy => ?_⟩
            have E5 : Ext S2 Hc S5 H4 := E3.trans e5
            have hacc : acc.length < sizeLine := by
              have l1 := p3.length
              have l2 : ys.length = zs.length + (us.length + 1) := by rw [p5, c3, List.length_append]; rfl
              omega
            refine ⟨acc, E5.hh _ _ p2, hacc, S5, _, zs ++ [d2], us, ?_, upd_same, (p3.mono E5.ss).append (.cons hy .nil), c2, by rw [p5, c3, List.append_assoc]; rfl⟩
            rw [del_upd]
            exact p1.trans (E5.del nD p2)
      · rintro Hc ⟨S2, acc, zs, ws, p1, p2, p3, p4, p5⟩
        rw [List.drop_length] at p4
        cases p4
        rw [List.append_nil] at p5
        subst p5
        have nD : S2 D = none := by
          cases z : S2 D with
          | none => rfl
          | some o => have := p1.sh _ _ z; rw [del_eq] at this; cases this
        exact q _ S2 Hc (e1.trans p1.undel) ⟨⟨D, acc, rfl, nD, p2, p3⟩, fun a _ z => by cases z; exact e1.hh.free hD⟩
end
end SW
set_option Elab.async false
set_option linter.all false
set_option maxRecDepth 100000
set_option maxHeartbeats 1000000
/-! Snd8: every code that is an expression's reads as it (ev_ok). -/
namespace SW
open PySem PySem.Spec PyProof.Rows L2

/-- contexts of one law -/
structure Sib (X Y : Cx) : Prop where
  prog : Y.prog = X.prog
  w : Y.w = X.w
  K : Y.K = X.K
  mg : Y.mg = X.mg
  base : Y.base = X.base
  A : Y.A = X.A
def CallA (M : MC) (F : FT) (X : Cx) : Prop := ∀ Y, Sib X Y → CallOk M F Y
theorem Sib.refl (X : Cx) : Sib X X := ⟨rfl, rfl, rfl, rfl, rfl, rfl⟩
theorem Sib.blk {X Y : Cx} {s : Shared} {H : Hp} {scope : Scope} {env : Env} {fp : List Addr} (h : Sib (X.blk s H scope env fp) Y) : Sib X Y := ⟨h.prog, h.w, h.K, h.mg, h.base, h.A⟩
/-- what is shown of a code -/
structure ExOk (M : MC) (F : FT) (X : Cx) (sc : Scope) (c : C) : Prop where
  pe : ∀ e, mE M c sc e = true → PE X e (rdC F c)
  pp : ∀ e, mE M c sc e = true → PE X e (rdP F c)
  pt : ∀ e, mE M c sc e = true → tOk e = true → PT X e (rdT F c)
  pa : ∀ es, mA M c sc es = true → PA X es (rdA F c)
  ns : ∀ es, mA M c sc es = true → ∀ y ∈ es, noStar y = true
  an : mA M c sc [] = true → c = .nil
  ts : ∀ es, mA M c sc es = true → Nat.ble es.length 1 = true → es.all tOk = true → PTs X es (rdTs F c)
  pb : ∀ op es pos, mB M c sc op es = true → PE X (.BoolOp op es pos) (rdC F c) ∧ PW X (.BoolOp op es pos) (rdT F c)
  pi : ∀ tg e pk, mI M c sc tg e = true → PI X tg e (rdI F c pk)
section
variable {M : MC} {F : FT} {X : Cx} {sc : Scope} {cl : Bool} {a b d : C}
theorem no_true {p : Prop} {x : Bool} (h : x = true) (z : x = false) : p := by rw [z] at h; cases h
theorem ExOk.val {c : C} (h1 : ∀ e, mE M c sc e = true → PE X e (rdC F c) ∧ PE X e (rdP F c) ∧ (tOk e = true → PT X e (rdT F c))) (hA : ∀ es, mA M c sc es = false) (hB : ∀ op es, mB M c sc op es = false) (hI : ∀ tg e, mI M c sc tg e = false) : ExOk M F X sc c :=
  ⟨fun e h => (h1 e h).1, fun e h => (h1 e h).2.1, fun e h t => (h1 e h).2.2 t, fun es h => no_true h (hA es), fun es h => no_true h (hA es), fun h => no_true h (hA []), fun es h => no_true h (hA es), fun op es _ h => no_true h (hB op es), fun tg e _ h => no_true h (hI tg e)⟩
/-- a code whose value comes one way alone; its expression as a test -/
theorem val3 {c : C} {e : Expr} (hp : ∀ ρ, evC F c true ρ = evC F c false ρ) (h : PE X e (rdC F c)) (ht : tOk e = true → tHead e = true) : PE X e (rdC F c) ∧ PE X e (rdP F c) ∧ (tOk e = true → PT X e (rdT F c)) := ⟨h, peP h hp, fun z => pt_of h (ht z)⟩
theorem val4 {c : C} {e : Expr} (hp : ∀ ρ, evC F c true ρ = evC F c false ρ) (h : PE X e (rdC F c) ∧ PT X e (rdT F c)) : PE X e (rdC F c) ∧ PE X e (rdP F c) ∧ (tOk e = true → PT X e (rdT F c)) := ⟨h.1, peP h.1 hp, fun _ => h.2⟩

theorem th_call {e : Expr} {n : Str} {f : List Expr → Bool} (h : mC n sc e f = true) : tHead e = true := by
  obtain ⟨es, p, q, rfl, _⟩ := mC_some h
  rfl
theorem th_meth {e : Expr} {f : Expr × Str × List Expr → Bool} (h : vw (vMeth e) f = true) : tHead e = true := by
  obtain ⟨⟨o, m, es⟩, h1, _⟩ := vw_true h
  obtain ⟨p, q, rfl, _⟩ := vMeth_some h1
  rfl
theorem th_bin {e : Expr} {f : Expr × Operator × Expr → Bool} (h : vw (vBin e) f = true) : tHead e = true := by
  obtain ⟨⟨o, m, es⟩, h1, _⟩ := vw_true h
  obtain ⟨p, rfl⟩ := vBin_some h1
  rfl
theorem th_sub {e : Expr} {f : Expr × Expr → Bool} (h : vw (vSub e) f = true) : tHead e = true := by
  obtain ⟨⟨o, m⟩, h1, _⟩ := vw_true h
  obtain ⟨p, rfl⟩ := vSub_some h1
  rfl
theorem th_tup {e : Expr} {f : List Expr → Bool} (h : vw (vTup e) f = true) : tHead e = true := by
  obtain ⟨m, h1, _⟩ := vw_true h
  obtain ⟨k, p, rfl⟩ := vTup_some h1
  rfl
theorem th_lst {e : Expr} {f : List Expr → Bool} (h : vw (vLst e) f = true) : tHead e = true := by
  obtain ⟨m, h1, _⟩ := vw_true h
  obtain ⟨p, rfl⟩ := vLst_some h1
  rfl
theorem th_un {e : Expr} {f : Expr → Bool} (h : vw (vUn e) (fun p => decide (p.1 = .USub) && f p.2) = true) (t : tOk e = true) : tHead e = true := by
  obtain ⟨⟨o, m⟩, h1, h2⟩ := vw_true h
  obtain ⟨p, rfl⟩ := vUn_some h1
  obtain ⟨h2, _⟩ := and_true2 h2
  have h2 : o = .USub := of_decide_eq_true h2
  subst h2
  cases t
theorem th_if {e : Expr} {f : Expr × Expr × Expr → Bool} (h : vw (vIf e) f = true) (t : tOk e = true) : tHead e = true := by
  obtain ⟨⟨o, m, n⟩, h1, _⟩ := vw_true h
  obtain ⟨p, rfl⟩ := vIf_some h1
  cases t
theorem th_name {e : Expr} {f : Str → Bool} (h : vw (vName e) f = true) : tHead e = true := by
  obtain ⟨m, h1, _⟩ := vw_true h
  obtain ⟨p, rfl⟩ := vName_some h1
  rfl
theorem th_const {e : Expr} {f : Const → Bool} (h : vw (vConst e) f = true) : tHead e = true := by
  obtain ⟨m, h1, _⟩ := vw_true h
  obtain ⟨j, p, rfl⟩ := vConst_some h1
  rfl
theorem th_k {e : Expr} {k : K} (h : mK sc e k = true) : tHead e = true := by
  cases k with
  | int i => exact th_const (show vw (vConst e) _ = true from h)
  | non => exact th_const (show vw (vConst e) _ = true from h)
  | bl b => exact th_const (show vw (vConst e) _ = true from h)
  | str s => exact th_const (show vw (vConst e) _ = true from h)
  | g x i => exact th_name (show vw (vName e) _ = true from h)
  | dK => obtain ⟨p, rfl⟩ := vDict0_true (show vDict0 e = true from h); rfl
  | dT => obtain ⟨p, rfl⟩ := vDict0_true (show vDict0 e = true from h); rfl
theorem ok_v (x : XOk M X sc cl) (i : Nat) : ExOk M F X sc (.v i) :=
  .val (fun e h => ⟨s_v x h, s_vP x h, fun _ => pt_of (s_v x h) (th_name (show vw (vName e) _ = true from h))⟩) (fun _ => rfl) (fun _ _ => rfl) fun _ _ => rfl
theorem ok_k (x : XOk M X sc cl) (k : K) : ExOk M F X sc (.k k) :=
  .val (fun e h => val3 (fun _ => rfl) (s_k x h) fun _ => th_k (show mK sc e k = true from h)) (fun _ => rfl) (fun _ _ => rfl) fun _ _ => rfl
theorem a_nil : PA X [] (rdA F .nil) := paW pa_nil fun σ H Q ⟨O, S, ρ, as, as', I, hr, ha, q⟩ => by
  have hr : some (SV.many []) = some (.many as) := hr
  cases hr
  cases ha
  exact q [] S H (.refl I.sub) .nil
theorem nil_es {es : List Expr} (h : mA M .nil sc es = true) : es = [] := by
  cases es with
  | nil => rfl
  | cons e r => cases h
theorem ok_nil : ExOk M F X sc .nil := by
  refine ⟨fun e h => (nomatch h), fun e h => (nomatch h), fun e h => (nomatch h), fun es h => ?_, fun es h => ?_, fun _ => rfl, fun es h _ _ => ?_, fun _ _ _ h => (nomatch h), fun _ _ _ h => (nomatch h)⟩
  · rw [nil_es h]; exact a_nil
  · rw [nil_es h]; exact fun y hy => (nomatch hy)
  · rw [nil_es h]; exact s_tsNil
theorem ok_cons (xa : ExOk M F X sc a) (xr : ExOk M F X sc b) : ExOk M F X sc (.cons a b) := by
  have pr : ∀ es, mA M (.cons a b) sc es = true → ∃ e r, es = e :: r ∧ noStar e = true ∧ mE M a sc e = true ∧ mA M b sc r = true := fun es h => by
    match es, h with
    | e :: r, h =>
      have h : (noStar e && mE M a sc e && mA M b sc r) = true := h
      obtain ⟨h, h3⟩ := and_true2 h
      obtain ⟨h1, h2⟩ := and_true2 h
      exact ⟨e, r, rfl, h1, h2, h3⟩
  refine ⟨fun e h => (nomatch h), fun e h => (nomatch h), fun e h => (nomatch h), fun es h => ?_, fun es h => ?_, fun h => (nomatch h), fun es h hl ht => ?_, fun _ _ _ h => (nomatch h), fun _ _ _ h => (nomatch h)⟩
  · obtain ⟨e, r, rfl, h1, h2, h3⟩ := pr es h
    refine paW (pa_cons (peM (xa.pe e h2)) (xr.pa r h3) (star_cons h1 r)) fun σ H Q ⟨O, S, ρ, as, as', I, hr, ha, q⟩ => ?_
    obtain ⟨y, ys, h4, h5, h6⟩ := opCons_some (show opCons (evC F a false ρ) (evC F b false ρ) = some _ from hr)
    cases h6
    have ha : (match y.arg with | some d => (match argAll ys with | some l => some (d :: l) | none => none) | none => none) = some as' := ha
    cases ea : y.arg with
    | none => rw [ea] at ha; cases ha
    | some y' =>
      rw [ea] at ha
      cases eb : argAll ys with
      | none => simp only [eb] at ha; cases ha
      | some ys' =>
        simp only [eb] at ha
        cases ha
        refine ⟨O, S, ρ, y, y', I, h4, ea, fun v S1 H1 e1 r1 => ⟨O, S1, ρ, ys, ys', I.ext e1, h5, eb, fun vs S2 H2 e2 r2 => q (v :: vs) S2 H2 (e1.trans e2) (.cons (r1.ext e2) r2)⟩⟩
  · obtain ⟨e, r, rfl, h1, h2, h3⟩ := pr es h
    intro y hy
    rcases List.mem_cons.mp hy with rfl | hy
    · exact h1
    · exact xr.ns r h3 y hy
  · obtain ⟨e, r, rfl, h1, h2, h3⟩ := pr es h
    match r, h3, hl with
    | [], h3, _ =>
      cases xr.an h3
      have ht : (tOk e && true) = true := ht
      exact s_tsOne (xa.pt e h2 (and_true2 ht).1)
    | _ :: _, _, hl => cases hl
theorem ok_un (x : XOk M X sc cl) (hc : CallA M F X) (xa : ExOk M F X sc a) (o : U) : ExOk M F X sc (.un o a) := by
  cases o with
  | neg => exact .val (fun e h => val3 (fun _ => rfl) (s_neg h xa.pe) (th_un (f := mE M a sc) h)) (fun _ => rfl) (fun _ _ => rfl) fun _ _ => rfl
  | isN => exact .val (fun e h => val4 (fun _ => rfl) (s_isN h xa.pe)) (fun _ => rfl) (fun _ _ => rfl) fun _ _ => rfl
  | notN => exact .val (fun e h => val4 (fun _ => rfl) (s_notN h xa.pe)) (fun _ => rfl) (fun _ _ => rfl) fun _ _ => rfl
  | notB b => exact .val (fun e h => val4 (fun _ => rfl) (s_notB h xa.pe)) (fun _ => rfl) (fun _ _ => rfl) fun _ _ => rfl
  | one =>
    refine ⟨fun e h => (nomatch h), fun e h => (nomatch h), fun e h => (nomatch h), fun e h => (nomatch h), fun e h => (nomatch h), fun h => (nomatch h), fun e h => (nomatch h), fun op es pos h => ?_, fun _ _ _ h => (nomatch h)⟩
    have h : ∃ e, es = [e] ∧ tOk e = true ∧ mE M a sc e = true := by
      cases es with
      | nil => cases h
      | cons e r =>
        cases r with
        | cons _ _ => cases h
        | nil =>
          obtain ⟨_, h⟩ := and_true2 (show (true && (tOk e && mE M a sc e)) = true from h)
          obtain ⟨h1, h2⟩ := and_true2 h
          exact ⟨e, rfl, h1, h2⟩
    obtain ⟨e, rfl, h1, h2⟩ := h
    have w1 : ∀ σ H Q, rdC F (.un .one a) σ H Q → rdC F a σ H Q := fun σ H Q ⟨O, S, ρ, r, I, hr, q⟩ => by
      obtain ⟨k, h3, h4⟩ := onB_some (show onB (evC F a false ρ) dBool = some r from hr)
      cases dB_inv h4
      exact ⟨O, S, ρ, _, I, h3, q⟩
    have w2 : ∀ σ H Q, rdT F (.un .one a) σ H Q → rdT F a σ H Q := fun σ H Q ⟨O, S, ρ, r, I, hr, q⟩ => by
      obtain ⟨k, h3, h4⟩ := onB_some (show onB (evC F a false ρ) dBool = some _ from hr)
      cases dB_inv h4
      exact ⟨O, S, ρ, _, I, h3, q⟩
    refine ⟨peW (pe_one (xa.pe e h2)) w1, ?_⟩
    cases op with
    | And => exact pwW (pw_and1 (xa.pt e h2 h1)) w2
    | Or => exact pwW (pw_or1 (xa.pt e h2 h1)) w2
  | not => exact .val (fun e h => ⟨s_not h xa.pe, peP (s_not h xa.pe) fun _ => rfl, fun _ => s_notT h xa.pt⟩) (fun _ => rfl) (fun _ _ => rfl) fun _ _ => rfl
  | revT => exact .val (fun e h => val3 (fun _ => rfl) (s_revT h xa.pe) fun _ => th_sub h) (fun _ => rfl) (fun _ _ => rfl) fun _ _ => rfl
  | len => exact .val (fun e h => val3 (fun _ => rfl) (s_len x h xa.pp) fun _ => th_call h) (fun _ => rfl) (fun _ _ => rfl) fun _ _ => rfl
  | abs => exact .val (fun e h => val3 (fun _ => rfl) (s_abs x h xa.pe) fun _ => th_call h) (fun _ => rfl) (fun _ _ => rfl) fun _ _ => rfl
  | maxL => exact .val (fun e h => val3 (fun _ => rfl) (s_maxL x h xa.pp) fun _ => th_call h) (fun _ => rfl) (fun _ _ => rfl) fun _ _ => rfl
  | listOf => exact .val (fun e h => val3 (fun _ => rfl) (s_listOf x h xa.pp) fun _ => th_call h) (fun _ => rfl) (fun _ _ => rfl) fun _ _ => rfl
  | tupOf => exact .val (fun e h => val3 (fun _ => rfl) (s_tupOf x h xa.pp) fun _ => th_call h) (fun _ => rfl) (fun _ _ => rfl) fun _ _ => rfl
  | sorted => exact .val (fun e h => val3 (fun _ => rfl) (s_sorted x h xa.pp) fun _ => th_call h) (fun _ => rfl) (fun _ _ => rfl) fun _ _ => rfl
  | intOf => exact .val (fun e h => val3 (fun _ => rfl) (s_intOf x h xa.pe) fun _ => th_call h) (fun _ => rfl) (fun _ _ => rfl) fun _ _ => rfl
  | isInst t => exact .val (fun e h => val3 (fun _ => rfl) (s_isInst x h xa.pe) fun _ => th_call h) (fun _ => rfl) (fun _ _ => rfl) fun _ _ => rfl
  | bits => exact .val (fun e h => val3 (fun _ => rfl) (s_bits x h xa.pe) fun _ => th_meth h) (fun _ => rfl) (fun _ _ => rfl) fun _ _ => rfl
  | tup => exact .val (fun e h => val3 (fun _ => rfl) (s_tup h xa.pa) fun _ => th_tup h) (fun _ => rfl) (fun _ _ => rfl) fun _ _ => rfl
  | lst => exact .val (fun e h => val3 (fun _ => rfl) (s_lst h xa.pa) fun _ => th_lst h) (fun _ => rfl) (fun _ _ => rfl) fun _ _ => rfl
  | call f =>
    refine .val (fun e h => val3 (fun _ => rfl) (s_call x (hc X (.refl X)) h xa.pa xa.ns xa.an) fun _ => ?_) (fun _ => rfl) (fun _ _ => rfl) fun _ _ => rfl
    obtain ⟨n, _, h2⟩ := vw_true (show vw (M.nm f) (fun x => okN x && mC x sc e (mA M a sc)) = true from h)
    exact th_call (and_true2 h2).2
  | inD n i => exact .val (fun e h => val4 (fun _ => rfl) (s_inD x h xa.pe)) (fun _ => rfl) (fun _ _ => rfl) fun _ _ => rfl
  | getD i => exact .val (fun e h => val3 (fun _ => rfl) (s_getD x h xa.pe) fun _ => th_sub h) (fun _ => rfl) (fun _ _ => rfl) fun _ _ => rfl
  | listD i => exact .val (fun e h => val3 (fun _ => rfl) (s_listD x h) fun _ => th_call h) (fun _ => rfl) (fun _ _ => rfl) fun _ _ => rfl
  | seq => exact ⟨fun e h => (nomatch h), fun e h => (nomatch h), fun e h => (nomatch h), fun e h => (nomatch h), fun e h => (nomatch h), fun h => (nomatch h), fun e h => (nomatch h), fun _ _ _ h => (nomatch h), fun tg e pk h => s_iSeq h fun e h => peX (xa.pe e h) (xa.pp e h)⟩
  | rng1 => exact ⟨fun e h => (nomatch h), fun e h => (nomatch h), fun e h => (nomatch h), fun e h => (nomatch h), fun e h => (nomatch h), fun h => (nomatch h), fun e h => (nomatch h), fun _ _ _ h => (nomatch h), fun tg e pk h => s_iRng1 x h xa.pe⟩
  | enum => exact ⟨fun e h => (nomatch h), fun e h => (nomatch h), fun e h => (nomatch h), fun e h => (nomatch h), fun e h => (nomatch h), fun h => (nomatch h), fun e h => (nomatch h), fun _ _ _ h => (nomatch h), fun tg e pk h => s_iEnum x h fun e h => peX (xa.pe e h) (xa.pp e h)⟩
  | rev => exact ⟨fun e h => (nomatch h), fun e h => (nomatch h), fun e h => (nomatch h), fun e h => (nomatch h), fun e h => (nomatch h), fun h => (nomatch h), fun e h => (nomatch h), fun _ _ _ h => (nomatch h), fun tg e pk h => s_iRev x h fun e h => peX (xa.pe e h) (xa.pp e h)⟩
/-- and, or: as values and as tests -/
theorem and_red : (∀ σ H Q, rdC F (.bi .and a b) σ H Q → tAndV (rdC F a) (rdC F b) σ H Q) ∧ ∀ σ H Q, rdT F (.bi .and a b) σ H Q → tAnd (rdT F a) (rdT F b) σ H Q := by
  refine ⟨fun σ H Q ⟨O, S, ρ, r, I, hr, q⟩ => ?_, fun σ H Q ⟨O, S, ρ, k, I, hr, q⟩ => ?_⟩
  · obtain ⟨k, h1, h2⟩ := onB_some (show onB (evC F a false ρ) (fun k => ifB k (evC F b false ρ) (dBool false)) = some r from hr)
    refine ⟨O, S, ρ, _, I, h1, fun v S1 H1 e1 r1 => ⟨k, rp_bool r1, ?_⟩⟩
    cases k with
    | true => exact ⟨O, S1, ρ, r, I.ext e1, h2, fun v S2 H2 e2 r2 => q v S2 H2 (e1.trans e2) ((stC r).low r2 e1.hh)⟩
    | false =>
      cases dB_inv (show dBool false = some r from h2)
      exact q _ S1 H1 e1 (.of (.bl false))
  · obtain ⟨j, h1, h2⟩ := onB_some (show onB (evC F a false ρ) (fun k => ifB k (evC F b false ρ) (dBool false)) = some _ from hr)
    refine ⟨O, S, ρ, j, I, h1, fun S1 H1 e1 => ?_⟩
    cases j with
    | true => exact ⟨O, S1, ρ, k, I.ext e1, h2, fun S2 H2 e2 => q S2 H2 (e1.trans e2)⟩
    | false =>
      cases dB_inv (show dBool false = some _ from h2)
      exact q S1 H1 e1
theorem or_red : (∀ σ H Q, rdC F (.bi .or a b) σ H Q → tOrV (rdC F a) (rdC F b) σ H Q) ∧ ∀ σ H Q, rdT F (.bi .or a b) σ H Q → tOr (rdT F a) (rdT F b) σ H Q := by
  refine ⟨fun σ H Q ⟨O, S, ρ, r, I, hr, q⟩ => ?_, fun σ H Q ⟨O, S, ρ, k, I, hr, q⟩ => ?_⟩
  · obtain ⟨k, h1, h2⟩ := onB_some (show onB (evC F a false ρ) (fun k => ifB k (dBool true) (evC F b false ρ)) = some r from hr)
    refine ⟨O, S, ρ, _, I, h1, fun v S1 H1 e1 r1 => ⟨k, rp_bool r1, ?_⟩⟩
    cases k with
    | false => exact ⟨O, S1, ρ, r, I.ext e1, h2, fun v S2 H2 e2 r2 => q v S2 H2 (e1.trans e2) ((stC r).low r2 e1.hh)⟩
    | true =>
      cases dB_inv (show dBool true = some r from h2)
      exact q _ S1 H1 e1 (.of (.bl true))
  · obtain ⟨j, h1, h2⟩ := onB_some (show onB (evC F a false ρ) (fun k => ifB k (dBool true) (evC F b false ρ)) = some _ from hr)
    refine ⟨O, S, ρ, j, I, h1, fun S1 H1 e1 => ?_⟩
    cases j with
    | false => exact ⟨O, S1, ρ, k, I.ext e1, h2, fun S2 H2 e2 => q S2 H2 (e1.trans e2)⟩
    | true =>
      cases dB_inv (show dBool true = some _ from h2)
      exact q S1 H1 e1
theorem and_rules (xa : ExOk M F X sc a) (xb : ExOk M F X sc b) {y z : Expr} {r : List Expr} {pos : Pos} (h1 : tOk y = true) (h2 : mE M a sc y = true) (h3 : mB M b sc .And (z :: r) = true) :
    PE X (.BoolOp .And (y :: z :: r) pos) (rdC F (.bi .and a b)) ∧ PW X (.BoolOp .And (y :: z :: r) pos) (rdT F (.bi .and a b)) :=
  ⟨peW (pe_and (xa.pe y h2) (xb.pb .And (z :: r) pos h3).1) and_red.1, pwW (pw_and (xa.pt y h2 h1) (xb.pb .And (z :: r) pos h3).2) and_red.2⟩
theorem or_rules (xa : ExOk M F X sc a) (xb : ExOk M F X sc b) {y z : Expr} {r : List Expr} {pos : Pos} (h1 : tOk y = true) (h2 : mE M a sc y = true) (h3 : mB M b sc .Or (z :: r) = true) :
    PE X (.BoolOp .Or (y :: z :: r) pos) (rdC F (.bi .or a b)) ∧ PW X (.BoolOp .Or (y :: z :: r) pos) (rdT F (.bi .or a b)) :=
  ⟨peW (pe_or (xa.pe y h2) (xb.pb .Or (z :: r) pos h3).1) or_red.1, pwW (pw_or (xa.pt y h2 h1) (xb.pb .Or (z :: r) pos h3).2) or_red.2⟩
theorem ok_bi (x : XOk M X sc cl) (xa : ExOk M F X sc a) (xb : ExOk M F X sc b) (o : B) : ExOk M F X sc (.bi o a b) := by
  cases o with
  | ar o => exact .val (fun e h => val3 (fun _ => rfl) (s_ar h xa.pe xb.pe) fun _ => th_bin h) (fun _ => rfl) (fun _ _ => rfl) fun _ _ => rfl
  | cat => exact .val (fun e h => val3 (fun _ => rfl) (s_cat h xa.pp xb.pp) fun _ => th_bin h) (fun _ => rfl) (fun _ _ => rfl) fun _ _ => rfl
  | catT => exact .val (fun e h => val3 (fun _ => rfl) (s_catT h xa.pe xb.pe) fun _ => th_bin h) (fun _ => rfl) (fun _ _ => rfl) fun _ _ => rfl
  | rep => exact .val (fun e h => val3 (fun _ => rfl) (s_rep h xa.pp xb.pe) fun _ => th_bin h) (fun _ => rfl) (fun _ _ => rfl) fun _ _ => rfl
  | cmp o => exact .val (fun e h => val4 (fun _ => rfl) (s_cmp h xa.pe xb.pe)) (fun _ => rfl) (fun _ _ => rfl) fun _ _ => rfl
  | eq => exact .val (fun e h => val4 (fun _ => rfl) (s_eq x h xa.pp xb.pp)) (fun _ => rfl) (fun _ _ => rfl) fun _ _ => rfl
  | ne => exact .val (fun e h => val4 (fun _ => rfl) (s_ne x h xa.pp xb.pp)) (fun _ => rfl) (fun _ _ => rfl) fun _ _ => rfl
  | inn n => exact .val (fun e h => val4 (fun _ => rfl) (s_inn x h xa.pe xb.pp)) (fun _ => rfl) (fun _ _ => rfl) fun _ _ => rfl
  | ix => exact .val (fun e h => val3 (fun _ => rfl) (s_ix x h xa.pp xb.pe) fun _ => th_sub h) (fun _ => rfl) (fun _ _ => rfl) fun _ _ => rfl
  | upTo => exact .val (fun e h => val3 (fun _ => rfl) (s_upTo x h xa.pp xb.pe) fun _ => th_sub h) (fun _ => rfl) (fun _ _ => rfl) fun _ _ => rfl
  | onFrom => exact .val (fun e h => val3 (fun _ => rfl) (s_onFrom x h xa.pp xb.pe) fun _ => th_sub h) (fun _ => rfl) (fun _ _ => rfl) fun _ _ => rfl
  | max2 => exact .val (fun e h => val3 (fun _ => rfl) (s_max2 x h xa.pe xb.pe) fun _ => th_call h) (fun _ => rfl) (fun _ _ => rfl) fun _ _ => rfl
  | gcd => exact .val (fun e h => val3 (fun _ => rfl) (s_gcd x h xa.pe xb.pe) fun _ => th_call h) (fun _ => rfl) (fun _ _ => rfl) fun _ _ => rfl
  | index => exact .val (fun e h => val3 (fun _ => rfl) (s_index x h xa.pp xb.pe) fun _ => th_meth h) (fun _ => rfl) (fun _ _ => rfl) fun _ _ => rfl
  | and =>
    have main : ∀ e, mE M (.bi .and a b) sc e = true → PE X e (rdC F (.bi .and a b)) ∧ PT X e (rdT F (.bi .and a b)) := fun e h => by
      obtain ⟨⟨op, es⟩, h1, h2⟩ := vw_true (show vw (vBool e) (fun p => match p with
        | (.And, y :: z :: r) => tOk y && mE M a sc y && mB M b sc .And (z :: r)
        | _ => false) = true from h)
      obtain ⟨p, rfl⟩ := vBool_some h1
      clear h h1
      match op, es, h2 with
      | .And, y :: z :: r, h2 =>
        obtain ⟨h2, h5⟩ := and_true2 h2
        obtain ⟨h3, h4⟩ := and_true2 h2
        have k := and_rules xa xb (pos := p) h3 h4 h5
        exact ⟨k.1, k.2.pt⟩
    refine ⟨fun e h => (main e h).1, fun e h => peP (main e h).1 fun _ => rfl, fun e h _ => (main e h).2, fun e h => (nomatch h), fun e h => (nomatch h), fun h => (nomatch h), fun e h => (nomatch h), fun op es pos h => ?_, fun _ _ _ h => (nomatch h)⟩
    cases op with
    | Or => cases h
    | And =>
      match es, h with
      | y :: z :: r, h =>
        have h : (true && (tOk y && mE M a sc y && mB M b sc .And (z :: r))) = true := h
        obtain ⟨_, h2⟩ := and_true2 h
        obtain ⟨h2, h5⟩ := and_true2 h2
        obtain ⟨h3, h4⟩ := and_true2 h2
        exact and_rules xa xb h3 h4 h5
  | or =>
    have main : ∀ e, mE M (.bi .or a b) sc e = true → PE X e (rdC F (.bi .or a b)) ∧ PT X e (rdT F (.bi .or a b)) := fun e h => by
      obtain ⟨⟨op, es⟩, h1, h2⟩ := vw_true (show vw (vBool e) (fun p => match p with
        | (.Or, y :: z :: r) => tOk y && mE M a sc y && mB M b sc .Or (z :: r)
        | _ => false) = true from h)
      obtain ⟨p, rfl⟩ := vBool_some h1
      clear h h1
      match op, es, h2 with
      | .Or, y :: z :: r, h2 =>
        obtain ⟨h2, h5⟩ := and_true2 h2
        obtain ⟨h3, h4⟩ := and_true2 h2
        have k := or_rules xa xb (pos := p) h3 h4 h5
        exact ⟨k.1, k.2.pt⟩
    refine ⟨fun e h => (main e h).1, fun e h => peP (main e h).1 fun _ => rfl, fun e h _ => (main e h).2, fun e h => (nomatch h), fun e h => (nomatch h), fun h => (nomatch h), fun e h => (nomatch h), fun op es pos h => ?_, fun _ _ _ h => (nomatch h)⟩
    cases op with
    | And => cases h
    | Or =>
      match es, h with
      | y :: z :: r, h =>
        have h : (true && (tOk y && mE M a sc y && mB M b sc .Or (z :: r))) = true := h
        obtain ⟨_, h2⟩ := and_true2 h
        obtain ⟨h2, h5⟩ := and_true2 h2
        obtain ⟨h3, h4⟩ := and_true2 h2
        exact or_rules xa xb h3 h4 h5
  | rng2 => exact ⟨fun e h => (nomatch h), fun e h => (nomatch h), fun e h => (nomatch h), fun e h => (nomatch h), fun e h => (nomatch h), fun h => (nomatch h), fun e h => (nomatch h), fun _ _ _ h => (nomatch h), fun tg e pk h => s_iRng2 x h xa.pe xb.pe⟩
  | zip => exact ⟨fun e h => (nomatch h), fun e h => (nomatch h), fun e h => (nomatch h), fun e h => (nomatch h), fun e h => (nomatch h), fun h => (nomatch h), fun e h => (nomatch h), fun _ _ _ h => (nomatch h), fun tg e pk h => s_iZip x h xa.pe xb.pe⟩
  | zipR => exact ⟨fun e h => (nomatch h), fun e h => (nomatch h), fun e h => (nomatch h), fun e h => (nomatch h), fun e h => (nomatch h), fun h => (nomatch h), fun e h => (nomatch h), fun _ _ _ h => (nomatch h), fun tg e pk h => s_iZipR x h xa.pe xb.pe⟩
theorem ok_tr (x : XOk M X sc cl) (xa : ExOk M F X sc a) (xb : ExOk M F X sc b) (xd : ExOk M F X sc d) (o : Tr) : ExOk M F X sc (.tr o a b d) := by
  cases o with
  | chain o p => exact .val (fun e h => val4 (fun _ => rfl) (s_chain h xa.pe xb.pe xd.pe)) (fun _ => rfl) (fun _ _ => rfl) fun _ _ => rfl
  | ite => exact .val (fun e h => val3 (fun _ => rfl) (s_ite h xa.pt xb.pe xd.pe) (th_if h)) (fun _ => rfl) (fun _ _ => rfl) fun _ _ => rfl
  | max3 => exact .val (fun e h => val3 (fun _ => rfl) (s_max3 x h xa.pe xb.pe xd.pe) fun _ => th_call h) (fun _ => rfl) (fun _ _ => rfl) fun _ _ => rfl
end
/-! ### comprehensions -/
/-- a comprehension's block -/
theorem XOk.blk {M : MC} {X : Cx} {sc : Scope} {cl : Bool} (x : XOk M X sc cl) (s : Shared) (H : Hp) (scope : Scope) (cls : List (Str × Addr)) (C : Addr) (fp : List Addr) : XOk M (X.blk s H scope (compEnvC scope cls C X.env) fp) (relS scope sc) false :=
  ⟨x.hN, x.nd, by show relS scope X.env.scope = _; rw [x.hsc], x.calm, x.units, fun z => (nomatch z), x.blt, x.gcd, x.con⟩
theorem CallA.blk {M : MC} {F : FT} {X : Cx} (h : CallA M F X) (s : Shared) (H : Hp) (scope : Scope) (env : Env) (fp : List Addr) : CallA M F (X.blk s H scope env fp) := fun Y z => h Y z.blk
theorem own_snd (N : List Str) (own : List Nat) : (own.map fun (i : Nat) => ((N[i]?).getD "", i)).map (·.2) = own := by
  rw [List.map_map]
  exact List.map_id' own
section
variable {M : MC} {F : FT} {X : Cx} {sc : Scope} {cl : Bool}
/-- what the match of a comprehension says -/
theorem comp_parts {t : T} {i ifs x : C} {own : List Nat} {e : Expr} (h : mE M (.comp t i ifs x own) sc e = true) : ∃ y tg it fs scope p, e = .ListComp y [⟨tg, it, fs, 0⟩] scope p ∧ mI M i sc tg it = true ∧ noSet it = true ∧
    blkC M.N sc scope (own.map fun i => ((M.N[i]?).getD "", i)) = true ∧ mTg M false (relS scope sc) t tg = true ∧ (∀ j ∈ slotsT t, j ∈ own) ∧ mA M ifs (relS scope sc) fs = true ∧ Nat.ble fs.length 1 = true ∧ fs.all tOk = true ∧ mE M x (relS scope sc) y = true := by
  obtain ⟨⟨y, tg, it, fs, scope⟩, h1, h2⟩ := vw_true (show vw (vComp e) (fun p => match p with
    | (x', tg, it, ifs', scope) => mI M i sc tg it && noSet it && blkC M.N sc scope (own.map fun i => ((M.N[i]?).getD "", i)) && own.all (fun i => decide (i < M.N.length)) &&
        mTg M false (relS scope sc) t tg && (slotsT t).all (fun i => own.contains i) && mA M ifs (relS scope sc) ifs' && Nat.ble ifs'.length 1 && ifs'.all tOk && mE M x (relS scope sc) x') = true from h)
  obtain ⟨p, rfl⟩ := vComp_some h1
  obtain ⟨h2, h12⟩ := and_true2 h2
  obtain ⟨h2, h11⟩ := and_true2 h2
  obtain ⟨h2, h10⟩ := and_true2 h2
  obtain ⟨h2, h9⟩ := and_true2 h2
  obtain ⟨h2, h8⟩ := and_true2 h2
  obtain ⟨h2, h7⟩ := and_true2 h2
  obtain ⟨h2, h6⟩ := and_true2 h2
  obtain ⟨h2, h5⟩ := and_true2 h2
  obtain ⟨h3, h4⟩ := and_true2 h2
  exact ⟨y, tg, it, fs, scope, p, rfl, h3, h4, h5, h7, fun j hj => List.contains_iff_mem.mp (List.all_eq_true.mp h8 j hj), h9, h10, h11, h12⟩
theorem ok_comp (x : XOk M X sc cl) (hc : CallA M F X) {t : T} {i ifs c : C} {own : List Nat} (xi : ExOk M F X sc i) (xf : ∀ (X : Cx) (sc : Scope) (cl : Bool), XOk M X sc cl → CallA M F X → ExOk M F X sc ifs) (xc : ∀ (X : Cx) (sc : Scope) (cl : Bool), XOk M X sc cl → CallA M F X → ExOk M F X sc c) : ExOk M F X sc (.comp t i ifs c own) := by
  refine .val (fun e h => ?_) (fun _ => rfl) (fun _ _ => rfl) fun _ _ => rfl
  obtain ⟨y, tg, it, fs, scope, p, rfl, h1, h2, h3, h4, h5, h6, h7, h8, h9⟩ := comp_parts h
  have ok : BlkOk X.N X.env.scope scope (own.map fun i => ((M.N[i]?).getD "", i)) := by rw [x.hN, x.hsc]; exact blkOk_by h3
  have nd : X.N.Nodup := by rw [x.hN]; exact x.nd
  have main := pe_lc (pos := p) x.calm nd (xi.pi tg it true h1) ok
    (fun s H C cls fp => s_tg (x.blk s H scope cls C fp) t tg h4)
    (fun s H C cls fp => (xf _ _ _ (x.blk s H scope cls C fp) (hc.blk s H scope _ fp)).ts fs h6 h7 h8)
    (fun s H C cls fp => peD ((xc _ _ _ (x.blk s H scope cls C fp) (hc.blk s H scope _ fp)).pe y h9)) (fun z => set_none h2 z)
  rw [own_snd] at main
  exact val3 (fun _ => rfl) (peW main (comp_red h5)) fun _ => rfl
/-- every code -/
theorem ev_ok : ∀ (c : C) (X : Cx) (sc : Scope) (cl : Bool), XOk M X sc cl → CallA M F X → ExOk M F X sc c
  | .v i, _, _, _, x, _ => ok_v x i
  | .k k, _, _, _, x, _ => ok_k x k
  | .nil, _, _, _, _, _ => ok_nil
  | .cons a r, X, sc, cl, x, h => ok_cons (ev_ok a X sc cl x h) (ev_ok r X sc cl x h)
  | .un o a, X, sc, cl, x, h => ok_un x h (ev_ok a X sc cl x h) o
  | .bi o a b, X, sc, cl, x, h => ok_bi x (ev_ok a X sc cl x h) (ev_ok b X sc cl x h) o
  | .tr o a b d, X, sc, cl, x, h => ok_tr x (ev_ok a X sc cl x h) (ev_ok b X sc cl x h) (ev_ok d X sc cl x h) o
  | .comp t i ifs e own, X, sc, cl, x, h => ok_comp x h (ev_ok i X sc cl x h) (ev_ok ifs) (ev_ok e)
end
end SW
set_option Elab.async false
set_option linter.all false
set_option maxRecDepth 100000
set_option maxHeartbeats 1000000
/-! Snd9: the statements' readings; statements without a suite. -/
namespace SW
open PySem PySem.Spec PyProof.Rows L2

theorem line6 : 100000 < sizeLine := by decide
/-! ### what a statement leaves -/
/-- objects that have come since H0 -/
def Fresh (H0 : Hp) (a : Addr) : Prop := H0 a = none
def Nxt (S0 H0 S : Hp) (N : L2.St → Hp → Prop) (ρ : En) : Prop := ∀ σ' S' H', Ext S0 H0 S' H' → Same S S' → EnR (Fresh H0) S' H' σ' ρ → N σ' H'
def Post (S0 H0 S : Hp) (D : Ends) (o : Out) : Prop := match o with
  | .nx ρ => Nxt S0 H0 S D.nx ρ
  | .rt r => ∀ v S' H', Ext S0 H0 S' H' → RpN H0 S' H' v r → D.rt v H'
  | .bk ρ => Nxt S0 H0 S D.bk ρ
def rdS (F : FT) (W : Nat) (s : S) : TS := fun D σ H => ∃ S0 H0 S ρ o, Ext S0 H0 S H ∧ EnR (Fresh H0) S H σ ρ ∧ evS F W s ρ = some o ∧ Post S0 H0 S D o
section
variable {S0 H0 S S' H H' S1 H1 : Hp} {σ : L2.St} {ρ : En} {v : V} {r r' : SV} {i : Nat} {O : Addr → Prop} {D : Ends} {o : Out}
theorem Nxt.low {N : L2.St → Hp → Prop} (h : Nxt S0 H0 S N ρ) (s : Same S S1) : Nxt S0 H0 S1 N ρ := fun σ' S' H' e s' I => h σ' S' H' e (s.trans s') I
theorem Post.low (h : Post S0 H0 S D o) (s : Same S S1) : Post S0 H0 S1 D o := by
  cases o with
  | nx ρ => exact Nxt.low h s
  | rt r => exact h
  | bk ρ => exact Nxt.low h s
/-- a new value stored -/
theorem EnR.store (I : EnR (Fresh H0) S H σ ρ) (h0 : Same H0 H) (e : Ext S H S1 H1) (r1 : RpN H S1 H1 v r) (i : Nat) : EnR (Fresh H0) S1 H1 (σ.set i (some v)) (ρ.set i (some r)) :=
  (I.ext e).put i r1.1 (fun a o z => h0.free (r1.2 a o z)) fun a j r' o z ne e1 o' e2 => by
    obtain ⟨v', h1, h2⟩ := I.at_ j r' e1
    obtain ⟨a', x, h3, h4, h5⟩ := h2.addr o'
    rw [h1] at e2
    have e2 := Option.some.inj (Option.some.inj e2)
    rw [h3] at e2
    cases e2
    rw [r1.2 _ o z] at h5
    cases h5
/-- an owned object changed -/
theorem Ext.mut (e : Ext S0 H0 S H) {a : Addr} (h0 : H0 a = none) (hs : S a = none) (x : HO) : Ext S0 H0 S (upd H a x) :=
  ⟨e.ss, fun b y h => by rw [upd_ne (ne_of_none h h0)]; exact e.hh _ _ h, fun b y h => by rw [upd_ne (ne_of_none h hs)]; exact e.sh _ _ h, e.fr⟩
theorem Rp.chg {a : Addr} (ss : Same S S') (hh : ∀ b x, H b = some x → S b = none → b ≠ a → S' b = none ∧ H' b = some x) (h : Rp S H v r) (n : ownd r = true → v ≠ .ref a) : Rp S' H' v r := by
  cases r with
  | dat d => exact Dq.mono ss h
  | own xs =>
    obtain ⟨b, vs, h1, h2, h3, h4⟩ := h
    have nb : b ≠ a := fun z => n rfl (by rw [h1, z])
    exact ⟨b, vs, h1, (hh b _ h3 h2 nb).1, (hh b _ h3 h2 nb).2, h4.mono ss⟩
  | dic kvs => obtain ⟨b, kv, h1, h2, h4⟩ := h; exact ⟨b, kv, h1, ss _ _ h2, Paired.mapP h4 fun _ _ z => ⟨z.1, z.2.mono ss⟩⟩
  | odic kvs =>
    obtain ⟨b, kv, h1, h2, h3, h4⟩ := h
    have nb : b ≠ a := fun z => n rfl (by rw [h1, z])
    exact ⟨b, kv, h1, (hh b _ h3 h2 nb).1, (hh b _ h3 h2 nb).2, Paired.mapP h4 fun _ _ z => ⟨z.1, z.2.mono ss⟩⟩
  | odit kvs =>
    obtain ⟨b, kv, h1, h2, h3, h4⟩ := h
    have nb : b ≠ a := fun z => n rfl (by rw [h1, z])
    exact ⟨b, kv, h1, (hh b _ h3 h2 nb).1, (hh b _ h3 h2 nb).2, Paired.mapP h4 fun _ _ z => ⟨z.1, z.2.mono ss⟩⟩
  | many _ => exact h
/-- the object that slot i owns has changed -/
theorem EnR.chg {a : Addr} (I : EnR O S H σ ρ) (hi : ρ[i]? = some (some r)) (ho : ownd r = true) (ha : σ[i]? = some (some (.ref a))) (ss : Same S S') (sh : Same S' H')
    (hh : ∀ b x, H b = some x → S b = none → b ≠ a → S' b = none ∧ H' b = some x) (h' : Rp S' H' (.ref a) r') : EnR O S' H' σ (ρ.set i (some r')) := by
  refine ⟨by simp [I.len], sh, fun j r2 e => ?_, fun j k r1 r2 b ne e1 e2 o1 o2 e3 e4 => ?_, fun j r2 b e o e2 => ?_⟩
  · rcases get_set e with ⟨rfl, e, l⟩ | ⟨n, e⟩
    · cases e
      exact ⟨_, ha, h'⟩
    · obtain ⟨w, h1, h2⟩ := I.at_ j r2 e
      exact ⟨w, h1, h2.chg ss hh fun o z => I.dis j i r2 r a n e hi o ho (by rw [h1, z]) ha⟩
  · rcases get_set e1 with ⟨rfl, f1, l1⟩ | ⟨n1, f1⟩
    · rw [ha] at e3
      cases e3
      rcases get_set e2 with ⟨rfl, _⟩ | ⟨n2, f2⟩
      · exact ne rfl
      · exact I.dis j k r r2 a ne hi f2 ho o2 ha e4
    · rcases get_set e2 with ⟨rfl, f2, l2⟩ | ⟨n2, f2⟩
      · rw [ha] at e4
        cases e4
        exact I.dis j k r1 r a ne f1 hi o1 ho e3 ha
      · exact I.dis j k r1 r2 b ne f1 f2 o1 o2 e3 e4
  · rcases get_set e with ⟨rfl, e, l⟩ | ⟨n, e⟩
    · exact I.own j r b hi ho e2
    · exact I.own j r2 b e o e2
/-- .. changed in place, S as it was -/
theorem EnR.mut {a : Addr} {x : HO} (I : EnR O S H σ ρ) (hi : ρ[i]? = some (some r)) (ho : ownd r = true) (ha : σ[i]? = some (some (.ref a))) (hs : S a = none) (h' : Rp S (upd H a x) (.ref a) r') : EnR O S (upd H a x) σ (ρ.set i (some r')) :=
  I.chg hi ho ha (Same.refl S) (fun b y h => by rw [upd_ne (ne_of_none h hs)]; exact I.sub _ _ h) (fun b y h1 h2 n => ⟨h2, by rw [upd_ne n]; exact h1⟩) h'
end

/-! ### a statement's codes -/
section
variable {F : FT} {W : Nat} {p : P} {ρ : En} {o : Out} {c d e : C} {S0 H0 : Hp}
theorem nxF_some {ρ : En} (h : nxF ρ = some o) : o = .nx ρ := by
  unfold nxF at h
  rw [forceL_eq] at h
  cases h
  rfl
theorem ev1 {x : SV} (h : evC F (.cons c d) false ρ = some x) : ∃ y ys, evC F c false ρ = some y ∧ evC F d false ρ = some (.many ys) ∧ x = .many (y :: ys) := opCons_some (show opCons (evC F c false ρ) (evC F d false ρ) = some x from h)
theorem evP0 (h : evP F W p .nil ρ = some o) : opP F W p [] ρ = some o := h
theorem evP1 (h : evP F W p (.cons c .nil) ρ = some o) : ∃ r, evC F c false ρ = some r ∧ opP F W p [r] ρ = some o := by
  obtain ⟨as, h1, h2⟩ := bnd_inv h
  obtain ⟨x, h3, h4⟩ := bnd_inv h1
  obtain ⟨y, ys, h5, h6, h7⟩ := ev1 h3
  cases (show some (SV.many []) = some (SV.many ys) from h6)
  subst h7
  cases h4
  exact ⟨y, h5, h2⟩
theorem evP2 (h : evP F W p (.cons c (.cons d .nil)) ρ = some o) : ∃ r s, evC F c false ρ = some r ∧ evC F d false ρ = some s ∧ opP F W p [r, s] ρ = some o := by
  obtain ⟨as, h1, h2⟩ := bnd_inv h
  obtain ⟨x, h3, h4⟩ := bnd_inv h1
  obtain ⟨y, ys, h5, h6, h7⟩ := ev1 h3
  obtain ⟨z, zs, h8, h9, h10⟩ := ev1 h6
  cases (show some (SV.many []) = some (SV.many zs) from h9)
  cases h10
  subst h7
  cases h4
  exact ⟨y, z, h5, h8, h2⟩
theorem evP3 (h : evP F W p (.cons c (.cons d (.cons e .nil))) ρ = some o) : ∃ r s t, evC F c false ρ = some r ∧ evC F d false ρ = some s ∧ evC F e false ρ = some t ∧ opP F W p [r, s, t] ρ = some o := by
  obtain ⟨as, h1, h2⟩ := bnd_inv h
  obtain ⟨x, h3, h4⟩ := bnd_inv h1
  obtain ⟨y, ys, h5, h6, h7⟩ := ev1 h3
  obtain ⟨z, zs, h8, h9, h10⟩ := ev1 h6
  obtain ⟨w, ws, h11, h12, h13⟩ := ev1 h9
  cases (show some (SV.many []) = some (SV.many ws) from h12)
  cases h13
  cases h10
  subst h7
  cases h4
  exact ⟨y, z, w, h5, h8, h11, h2⟩
theorem onDat_some {r : SV} {f : PyData → Option Out} {x : Out} (h : onDat r f = some x) : ∃ d, datOf r = some d ∧ f d = some x := bnd_inv h
theorem onInt_some {r : SV} {f : Int → Option Out} {x : Out} (h : onInt r f = some x) : ∃ i, r = .dat (.int i) ∧ f i = some x := by
  obtain ⟨i, h1, h2⟩ := bnd_inv h
  obtain ⟨d, h3, h4⟩ := bnd_inv h1
  cases intOf_some h4
  exact ⟨i, dat_of h3 nofun, h2⟩

/-! ### the readings that follow -/
theorem asg_red {i : Nat} : ∀ D σ H, rdS F W (.prim (.asg i) (.cons c .nil)) D σ H → tAsg (rdC F c) (gName i) D σ H := fun D σ H ⟨S0, H0, S, ρ, o, e, I, h, q⟩ => by
  obtain ⟨r, h1, h2⟩ := evP1 h
  have h2 : nxF (put ρ i (some r)) = some o := h2
  rw [put_eq] at h2
  cases nxF_some h2
  exact ⟨Fresh H0, S, ρ, r, I, h1, fun v S' H' e1 r1 => q _ S' H' (e.trans e1) e1.ss (I.store e.hh e1 r1 i)⟩
theorem asgT_red {t : T} : ∀ D σ H, rdS F W (.prim (.asgT t) (.cons c .nil)) D σ H → tAsg (rdD F c) (rdG t) D σ H := fun D σ H ⟨S0, H0, S, ρ, o, e, I, h, q⟩ => by
  obtain ⟨r, h1, h2⟩ := evP1 h
  obtain ⟨d, h3, h4⟩ := onDat_some (show onDat r _ = some o from h2)
  cases h5 : bindT t d ρ with
  | none => rw [h5] at h4; cases h4
  | some ρ1 =>
    rw [h5] at h4
    cases h4
    exact ⟨Fresh H0, S, ρ, r, d, I, h1, h3, fun v S' H' e1 r1 => ⟨Fresh H0, S', ρ, ρ1, d, I.ext e1, r1, h5, fun σ' I' _ => q σ' S' H' (e.trans e1) e1.ss I'⟩⟩
theorem par2_red {i j : Nat} : ∀ D σ H, rdS F W (.prim (.par2 i j) (.cons c (.cons d .nil))) D σ H → tPar i j (tCons (rdC F c) (tCons (rdC F d) tNil)) D σ H := fun D σ H ⟨S0, H0, S, ρ, o, e, I, h, q⟩ => by
  obtain ⟨r, s, h1, h2, h3⟩ := evP2 h
  have h3 : nxF (put (put ρ i (some r)) j (some s)) = some o := h3
  rw [put_eq, put_eq] at h3
  cases nxF_some h3
  exact ⟨Fresh H0, S, ρ, r, I, h1, fun v S1 H1 e1 r1 => ⟨Fresh H0, S1, ρ, s, I.ext e1, h2, fun w S2 H2 e2 r2 =>
    ⟨v, w, rfl, q _ S2 H2 (e.trans (e1.trans e2)) (e1.ss.trans e2.ss) ((I.store e.hh e1 r1 i).store (e.hh.trans e1.hh) e2 r2 j)⟩⟩⟩
theorem par3_red {i j k : Nat} {x : C} : ∀ D σ H, rdS F W (.prim (.par3 i j k) (.cons c (.cons d (.cons x .nil)))) D σ H → tPar3 i j k (tCons (rdC F c) (tCons (rdC F d) (tCons (rdC F x) tNil))) D σ H := fun D σ H ⟨S0, H0, S, ρ, o, e, I, h, q⟩ => by
  obtain ⟨r, s, t, h1, h2, h4, h3⟩ := evP3 h
  have h3 : nxF (put (put (put ρ i (some r)) j (some s)) k (some t)) = some o := h3
  rw [put_eq, put_eq, put_eq] at h3
  cases nxF_some h3
  exact ⟨Fresh H0, S, ρ, r, I, h1, fun v S1 H1 e1 r1 => ⟨Fresh H0, S1, ρ, s, I.ext e1, h2, fun w S2 H2 e2 r2 => ⟨Fresh H0, S2, ρ, t, (I.ext e1).ext e2, h4, fun u S3 H3 e3 r3 =>
    ⟨v, w, u, rfl, q _ S3 H3 (e.trans (e1.trans (e2.trans e3))) (e1.ss.trans (e2.ss.trans e3.ss)) (((I.store e.hh e1 r1 i).store (e.hh.trans e1.hh) e2 r2 j).store (e.hh.trans (e1.hh.trans e2.hh)) e3 r3 k)⟩⟩⟩⟩
theorem own_slot {O : Addr → Prop} {S H : Hp} {σ : L2.St} {i : Nat} {xs : List PyData} (I : EnR O S H σ ρ) (h : slot ρ i = some (.own xs)) : ∃ a vs, σ[i]? = some (some (.ref a)) ∧ O a ∧ S a = none ∧ H a = some (.lst vs) ∧ DqA S vs xs := by
  obtain ⟨v, h1, a, vs, rfl, h2, h3, h4⟩ := I.slot h
  exact ⟨a, vs, h1, I.own i _ a (slot_some h) rfl h1, h2, h3, h4⟩
theorem ixN_some {n : Nat} {k : Int} {j : Nat} (h : SW.ixN n k = some j) : L2.ixN n k = some j := by
  unfold SW.ixN at h
  cases k with
  | ofNat m =>
    simp only at h
    cases h1 : Nat.ble (Nat.succ m) n with
    | false => rw [h1] at h; cases h
    | true =>
      rw [h1] at h
      cases h
      have h2 : j < n := Nat.le_of_ble_eq_true h1
      unfold L2.ixN
      rw [if_pos (by simp), if_pos (by simpa using h2)]
      rfl
  | negSucc m => cases h
theorem setL_red {i : Nat} : ∀ D σ H, rdS F W (.prim (.setL i) (.cons c (.cons d .nil))) D σ H → tAsg (rdD F c) (gSub (tVar i) (rdC F d) rSetL) D σ H := fun D σ H ⟨S0, H0, S, ρ, o, e, I, h, q⟩ => by
  obtain ⟨r, s, h1, h2, h3⟩ := evP2 h
  obtain ⟨z, h4, h5⟩ := onDat_some (show onDat r _ = some o from h3)
  obtain ⟨n, rfl, h6⟩ := onInt_some h5
  obtain ⟨xs, h7, h8⟩ := onOwn_some h6
  cases h9 : SW.ixN (lng xs) n with
  | none => rw [h9] at h8; cases h8
  | some j =>
    rw [h9] at h8
    simp only [forceL_eq] at h8
    rw [put_eq, put_eq] at h8
    cases nxF_some h8
    refine ⟨Fresh H0, S, ρ, r, z, I, h1, h4, fun v S1 H1 e1 r1 => ?_⟩
    have I1 := I.ext e1
    obtain ⟨a, vs, g1, g2, g3, g4, g5⟩ := own_slot I1 h7
    refine ⟨_, g1, Fresh H0, S1, ρ, _, I1, h2, fun w S2 H2 e2 r2 => ?_⟩
    cases rp_int r2
    have I2 := I1.ext e2
    have g6 := e2.out g3 g4
    have g7 := (g5.mono e2.ss).length
    rw [lng_eq] at h9
    refine ⟨a, vs, n, j, rfl, rfl, e2.hh _ _ g4, by rw [g7]; exact ixN_some h9, ?_⟩
    exact q _ S2 _ ((e.trans (e1.trans e2)).mut g2 g6 _) (e1.ss.trans e2.ss) (I2.mut (slot_some h7) rfl g1 g6 ⟨a, _, rfl, g6, upd_same, (g5.mono e2.ss).set (r1.mono e2.ss) j⟩)
theorem append_red {K : PySem.W.Frag} {i : Nat} : ∀ D σ H, rdS F W (.prim (.append i) (.cons c .nil)) D σ H → tDrop (tBM K "list" rAppend (tVar i) (tCons (rdD F c) tNil)) D σ H := fun D σ H ⟨S0, H0, S, ρ, o, e, I, h, q⟩ => by
  obtain ⟨r, h1, h2⟩ := evP1 h
  obtain ⟨z, h4, h5⟩ := onDat_some (show onDat r _ = some o from h2)
  obtain ⟨xs, h7, h8⟩ := onOwn_some h5
  cases h9 : lenOk xs with
  | false => rw [h9] at h8; cases h8
  | true =>
    rw [h9] at h8
    simp only [forceL_eq] at h8
    rw [put_eq] at h8
    cases nxF_some h8
    obtain ⟨a, vs, g1, g2, g3, g4, g5⟩ := own_slot I h7
    refine ⟨_, g1, .inl ⟨rfl, vs, SqL.of g4⟩, Fresh H0, S, ρ, r, z, I, h1, h4, fun v S1 H1 e1 r1 => ?_⟩
    have g6 := e1.out g3 g4
    have g7 := g5.length
    refine ⟨a, vs, v, rfl, rfl, e1.hh _ _ g4, by have := lenOk_le h9; have := line6; rw [g7]; omega, ?_⟩
    exact q _ S1 _ ((e.trans e1).mut g2 g6 _) e1.ss ((I.ext e1).mut (slot_some h7) rfl g1 g6 ⟨a, _, rfl, g6, upd_same, (g5.mono e1.ss).append (.cons r1 .nil)⟩)
theorem insert_red {K : PySem.W.Frag} {i : Nat} : ∀ D σ H, rdS F W (.prim (.insert i) (.cons c (.cons d .nil))) D σ H → tDrop (tBM K "list" (fun x vs H Q => ∃ (l : Addr) (xs : List V) (i : Int) (y : V), x = .ref l ∧ vs = [.int i, y] ∧ H l = some (.lst xs) ∧ xs.length < sizeLine ∧ 0 ≤ i ∧ i < 2 ^ 63 ∧
    Q .non (upd H l (.lst (xs.take i.toNat ++ [y] ++ xs.drop i.toNat)))) (tVar i) (tCons (rdC F c) (tCons (rdD F d) tNil))) D σ H := fun D σ H ⟨S0, H0, S, ρ, o, e, I, h, q⟩ => by
  obtain ⟨r, s, h1, h2, h3⟩ := evP2 h
  obtain ⟨n, rfl, h6⟩ := onInt_some (show onInt r _ = some o from h3)
  obtain ⟨z, h4, h5⟩ := onDat_some h6
  obtain ⟨xs, h7, h8⟩ := onOwn_some h5
  cases h9 : lenOk xs with
  | false => rw [h9] at h8; cases h8
  | true =>
    rw [h9] at h8
    cases n with
    | negSucc _ => cases h8
    | ofNat k =>
      simp only at h8
      cases h10 : Nat.ble k 100000 with
      | false => rw [h10] at h8; cases h8
      | true =>
        rw [h10] at h8
        rw [put_eq] at h8
        cases nxF_some h8
        obtain ⟨a, vs, g1, g2, g3, g4, g5⟩ := own_slot I h7
        have k1 : k ≤ 100000 := Nat.le_of_ble_eq_true h10
        refine ⟨_, g1, .inl ⟨rfl, vs, SqL.of g4⟩, Fresh H0, S, ρ, _, I, h1, fun w S1 H1 e1 r1 => ?_⟩
        cases rp_int r1
        refine ⟨Fresh H0, S1, ρ, s, z, I.ext e1, h2, h4, fun v S2 H2 e2 r2 => ?_⟩
        have e3 := e1.trans e2
        have g6 := e3.out g3 g4
        have g7 := g5.length
        refine ⟨a, vs, _, v, rfl, rfl, e3.hh _ _ g4, by have := lenOk_le h9; have := line6; rw [g7]; omega, by simp, by simp only [Int.ofNat_eq_natCast]; omega, ?_⟩
        have g8 := g5.mono e3.ss
        exact q _ S2 _ ((e.trans e3).mut g2 g6 _) e3.ss ((I.ext e3).mut (slot_some h7) rfl g1 g6 ⟨a, _, rfl, g6, upd_same, ((g8.take k).append (.cons r2 .nil)).append (g8.drop k)⟩)
theorem reverse_red {K : PySem.W.Frag} {i : Nat} : ∀ D σ H, rdS F W (.prim (.reverse i) .nil) D σ H → tDrop (tBM0 K "list" rReverse (tVar i)) D σ H := fun D σ H ⟨S0, H0, S, ρ, o, e, I, h, q⟩ => by
  obtain ⟨xs, h7, h8⟩ := onOwn_some (show onOwn ρ i _ = some o from evP0 h)
  rw [put_eq] at h8
  cases nxF_some h8
  obtain ⟨a, vs, g1, g2, g3, g4, g5⟩ := own_slot I h7
  refine ⟨_, g1, .inl ⟨rfl, vs, SqL.of g4⟩, a, vs, rfl, rfl, g4, ?_⟩
  exact q _ S _ (e.mut g2 g3 _) (Same.refl S) (I.mut (slot_some h7) rfl g1 g3 ⟨a, _, rfl, g3, upd_same, g5.reverse⟩)
theorem expr_red : ∀ D σ H, rdS F W (.prim .expr (.cons c .nil)) D σ H → tDrop (rdC F c) D σ H := fun D σ H ⟨S0, H0, S, ρ, o, e, I, h, q⟩ => by
  obtain ⟨r, h1, h2⟩ := evP1 h
  cases (show some (Out.nx ρ) = some o from h2)
  exact ⟨Fresh H0, S, ρ, r, I, h1, fun v S1 H1 e1 r1 => q σ S1 H1 (e.trans e1) e1.ss (I.ext e1)⟩
theorem ret_red : ∀ D σ H, rdS F W (.prim .ret (.cons c .nil)) D σ H → tRet (rdC F c) D σ H := fun D σ H ⟨S0, H0, S, ρ, o, e, I, h, q⟩ => by
  obtain ⟨r, h1, h2⟩ := evP1 h
  cases (show some (Out.rt r) = some o from h2)
  exact ⟨Fresh H0, S, ρ, r, I, h1, fun v S1 H1 e1 r1 => q v S1 H1 (e.trans e1) ((stC r).low r1 e.hh)⟩
theorem retv_red {i : Nat} : ∀ D σ H, rdS F W (.retv i) D σ H → tRet (tVar i) D σ H := fun D σ H ⟨S0, H0, S, ρ, o, e, I, h, q⟩ => by
  have h : evR i ρ = some o := h
  unfold evR at h
  cases h1 : slot ρ i with
  | none => rw [h1] at h; cases h
  | some r =>
    rw [h1] at h
    cases h
    obtain ⟨v, h2, h3⟩ := I.slot h1
    exact ⟨v, h2, q v S H e ⟨h3, fun a o z => I.own i r a (slot_some h1) o (by rw [h2, z])⟩⟩
theorem brk_red {es : C} : ∀ D σ H, rdS F W (.prim .brk es) D σ H → tBreak D σ H := fun D σ H ⟨S0, H0, S, ρ, o, e, I, h, q⟩ => by
  obtain ⟨as, h1, h2⟩ := bnd_inv (show evP F W .brk es ρ = some o from h)
  cases (show some (Out.bk ρ) = some o from h2)
  exact q σ S H e (Same.refl S) I
theorem raise_red {es : C} : ∀ D σ H, rdS F W (.prim .raise es) D σ H → tNever D σ H := fun D σ H ⟨S0, H0, S, ρ, o, e, I, h, q⟩ => by
  obtain ⟨as, h1, h2⟩ := bnd_inv (show evP F W .raise es ρ = some o from h)
  cases (show (none : Option Out) = some o from h2)
end
end SW
set_option Elab.async false
set_option linter.all false
set_option maxRecDepth 100000
set_option maxHeartbeats 1000000
/-! Snd10: every code of statements reads as them (st_ok). -/
namespace SW
open PySem PySem.Spec PyProof.Rows L2

/-! ### a dict's store -/
theorem pair_put {κ : Type} [DecidableEq κ] {α : Type} {S : Hp} (inj : α → κ) (hi : ∀ a b, inj a = inj b → a = b) (eq : α → α → Bool) (he : ∀ a b, eq a b = true ↔ a = b) {v : V} {d : PyData} (hd : Dq S v d) (k : α) :
    ∀ {kv : List (κ × V)} {kvs : List (α × PyData)}, Paired (fun p q => p.1 = inj q.1 ∧ Dq S p.2 q.2) kv kvs → (∀ d', getK eq k kvs = some d' → ∃ w, valV kv (inj k) = some w ∧ Dq S w d') → (getK eq k kvs = none → valV kv (inj k) = none) →
      Paired (fun p q => p.1 = inj q.1 ∧ Dq S p.2 q.2) (putK kv (inj k) v) (setK eq k d kvs) := by
  intro kv kvs h g1 g2
  unfold putK setK
  rw [valV_any]
  cases hg : getK eq k kvs with
  | none =>
    rw [g2 hg]
    exact Paired.snoc h ⟨rfl, hd⟩
  | some d' =>
    obtain ⟨w, h1, _⟩ := g1 d' hg
    rw [h1]
    show Paired _ (kv.map fun kv => if kv.1 = inj k then (kv.1, v) else kv) (kvs.map fun kv => match eq kv.1 k with | true => (kv.1, d) | false => kv)
    clear hg h1 g1 g2
    induction h with
    | nil => exact .nil
    | @cons p q _ _ r _ ih =>
      refine .cons ?_ ih
      obtain ⟨k1, v1⟩ := p
      obtain ⟨k2, d2⟩ := q
      obtain ⟨e1, e2⟩ := r
      have e1 : k1 = inj k2 := e1
      subst e1
      by_cases h : k2 = k
      · subst h
        simp only [(he k2 k2).mpr rfl]
        rw [if_pos trivial]
        exact ⟨rfl, hd⟩
      · have h1 : eq k2 k = false := by
          cases q : eq k2 k with
          | false => rfl
          | true => exact absurd ((he _ _).mp q) h
        simp only [h1]
        rw [if_neg fun z => h (hi _ _ z)]
        exact ⟨rfl, e2⟩
theorem DK.set {S : Hp} {kv : List (Key × V)} {kvs : List (Int × PyData)} (h : DK S kv kvs) (k : Int) {v : V} {d : PyData} (hd : Dq S v d) : DK S (putK kv (Sum.inl k) v) (setK eqI k d kvs) :=
  pair_put Sum.inl (fun _ _ => Sum.inl.inj) eqI (fun a b => by rw [eqI_eq]; exact decide_eq_true_iff) hd k h (h.get k).1 (h.get k).2
theorem DT.set {S : Hp} {kv : List (List Key × V)} {kvs : List (List Int × PyData)} (h : DT S kv kvs) (k : List Int) {v : V} {d : PyData} (hd : Dq S v d) : DT S (putK kv (k.map Sum.inl) v) (setK keyEq k d kvs) :=
  pair_put (fun k => k.map Sum.inl) (fun _ _ => inl_inj) keyEq (fun a b => by rw [keyEq_eq]; exact decide_eq_true_iff) hd k h (h.get k).1 (h.get k).2
section
variable {F : FT} {W : Nat} {p : P} {ρ : En} {o : Out} {c d e : C} {S0 H0 : Hp}
theorem putV_odic {kvs : List (Int × PyData)} {k z : PyData} {t1 : SV} (h : putV (.odic kvs) k z = some t1) : ∃ n, k = .int n ∧ lenOk kvs = true ∧ t1 = .odic (setK eqI n z kvs) := by
  unfold putV at h
  simp only at h
  cases hl : lenOk kvs with
  | false => rw [hl] at h; cases h
  | true =>
    rw [hl] at h
    cases k with
    | int n => cases h; exact ⟨n, rfl, rfl, rfl⟩
    | none => cases h
    | bool _ => cases h
    | str _ => cases h
    | list _ => cases h
    | tuple _ => cases h
    | dict _ => cases h
theorem setD_red {i : Nat} : ∀ D σ H, rdS F W (.prim (.setD i) (.cons c (.cons d .nil))) D σ H → sDPut (tVar i) (rdD F d) (rdD F c) D σ H := fun D σ H ⟨S0, H0, S, ρ, o, e, I, h, q⟩ => by
  obtain ⟨r, s, h1, h2, h3⟩ := evP2 h
  obtain ⟨z, h4, h5⟩ := onDat_some (show onDat r _ = some o from h3)
  obtain ⟨k, h6, h7⟩ := onDat_some h5
  cases h8 : slot ρ i with
  | none => rw [h8] at h7; cases h7
  | some t =>
    rw [h8] at h7
    simp only at h7
    cases h9 : putV t k z with
    | none => rw [h9] at h7; cases h7
    | some t1 =>
      rw [h9] at h7
      simp only [put_eq] at h7
      cases nxF_some h7
      refine ⟨Fresh H0, S, ρ, r, z, I, h1, h4, fun v S1 H1 e1 r1 => ?_⟩
      have I1 := I.ext e1
      obtain ⟨w, g1, g2⟩ := I1.slot h8
      refine ⟨w, g1, Fresh H0, S1, ρ, s, k, I1, h2, h6, fun y S2 H2 e2 r2 => ?_⟩
      have I2 := I1.ext e2
      have g3 := g2.ext e2
      have rv := r1.mono e2.ss
      have eS := e.trans (e1.trans e2)
      cases t with
      | odic kvs =>
        obtain ⟨a, kv, rfl, f1, f2, f3⟩ := g3
        have oa := I2.own i _ a (slot_some h8) rfl g1
        obtain ⟨n, rfl, hl, rfl⟩ := putV_odic h9
        cases r2
        have len := Paired.length f3
        refine ⟨a, _, rfl, DPut.k (k := Sum.inl n) f2 (by have := lenOk_le hl; have := line6; rw [len]; omega), ?_⟩
        exact q _ S2 _ (eS.mut oa f1 _) (e1.ss.trans e2.ss) (I2.mut (slot_some h8) rfl g1 f1 ⟨a, _, rfl, f1, upd_same, f3.set n rv⟩)
      | odit kvs =>
        obtain ⟨a, kv, rfl, f1, f2, f3⟩ := g3
        have oa := I2.own i _ a (slot_some h8) rfl g1
        have h9 : (match lenOk kvs with | true => (match keyT k with | some k => some (SV.odit (setK keyEq k z kvs)) | none => none) | false => none) = some t1 := h9
        cases hl : lenOk kvs with
        | false => rw [hl] at h9; cases h9
        | true =>
          rw [hl] at h9
          cases hk : keyT k with
          | none => rw [hk] at h9; cases h9
          | some n =>
            rw [hk] at h9
            cases h9
            obtain ⟨b, rfl, hb⟩ := keyT_some hk r2
            have len := Paired.length f3
            refine ⟨a, _, rfl, DPut.t f2 (I2.sub _ _ hb) (by have := lenOk_le hl; have := line6; rw [len]; omega), ?_⟩
            exact q _ S2 _ (eS.mut oa f1 _) (e1.ss.trans e2.ss) (I2.mut (slot_some h8) rfl g1 f1 ⟨a, _, rfl, f1, upd_same, f3.set n rv⟩)
      | dat _ => cases h9
      | own _ => cases h9
      | dic _ => cases h9
      | many _ => cases h9
end

/-! ### a call that lets a list grow -/
/-- behind grown(ns, xs, k): xs the list at a -/
def rGrow (F : FT) (l W : Nat) : List V → Hp → VK → Prop := fun vs H Q => ∃ S ns v k a ws xs ys, vs = [v, .ref a, .int k] ∧ Same S H ∧ S a = none ∧ H a = some (.lst ws) ∧ DqA S ws xs ∧ Dq S v ns ∧ growGo F l ns k W xs = some ys ∧
  ∀ w S' H' zs, Ext S (delH H a) S' (delH H' a) → H' a = some (.lst zs) → DqA S' zs ys → Q w H'
def GrowOk (M : MC) (F : FT) (W : Nat) (g : Gr) (X : Cx) : Prop := ∀ n, M.nm g.f = some n → ∃ fa : Addr, X.mg n = some (.ref fa) ∧ PySem.W.keepIn X.K (.ref fa) = true ∧ CallR X (.ref fa) (rGrow F g.l W)
section
variable {M : MC} {F : FT} {W : Nat} {X : Cx} {sc : Scope} {cl : Bool} {c d : C} {g : Gr}
theorem Ext.ofDel {S0 H0 S H S' H' : Hp} {a : Addr} (e : Ext S0 H0 S H) (h0 : H0 a = none) (z : Ext S (delH H a) S' (delH H' a)) : Ext S0 H0 S' H' := by
  refine ⟨e.ss.trans z.ss, fun b x h => ?_, fun b x h => ?_, fun b h => ?_⟩
  · have n := ne_of_none h h0
    have k := z.hh b x (by rw [del_ne n]; exact e.hh _ _ h)
    rw [del_ne n] at k
    exact k
  · exact del_sub _ _ (z.sh _ _ h)
  · rcases z.fr b h with k | k
    · exact e.fr b k
    · by_cases n : b = a
      · subst n; exact .inr h0
      · rw [del_ne n] at k
        exact .inr (e.hh.free k)
theorem grow_pe (x : XOk M X sc cl) (gk : GrowOk M F W g X) {n : Str} (hn : M.nm g.f = some n) {i : Nat} {e : Expr} {f : Expr → Bool} {h' : Expr → Bool} (h : (okN n && mC n sc e (a3 f (mV M i sc) h')) = true) (ha : ∀ e, f e = true → PE X e (rdC F c)) (hb : ∀ e, h' e = true → PE X e (rdC F d)) :
    PE X e (fun σ H Q => tCons (rdD F c) (tCons (tVar i) (tCons (rdC F d) tNil)) σ H fun vs H1 => rGrow F g.l W vs H1 Q) := by
  obtain ⟨h1, h2⟩ := and_true2 h
  obtain ⟨es, p, pos, rfl, hg, h3⟩ := mC_some h2
  obtain ⟨a, b, y, rfl, hs, hs2, hs3, k1, k2, k3⟩ := three_args h3
  obtain ⟨fa, hm, hk, run⟩ := gk n hn
  refine ⟨fun pins s σ H Q I w => ?_⟩
  refine wpAny_Call_Name_kw (ld_glob I (x.gl hg) hm ?_ (okN_1 h1))
  have hA : PA X [a, b, y] (tCons (rdD F c) (tCons (tVar i) (tCons (rdC F d) tNil))) :=
    pa_cons (peD (ha a k1)) (pa_cons (mV_pe x k2) (pa_cons (hb y k3) pa_nil (star1 hs3)) (star_cons hs2 [y])) (star_cons hs [b, y])
  refine PySem.W.callWith_K (h₀ := X.base) I.ok.mod.kin hk (thn (hA.run pos pins s σ H _ I w) fun us s1 ⟨vs, H1, I1, r1, q1⟩ => ⟨I1.kIn, run pins s1 σ H1 vs us Q I1 r1 q1⟩) (star_cons hs [b, y]) (any_two hs2 hs3)
theorem grow_red {i : Nat} : ∀ D σ H, rdS F W (.prim (.grow g.f g.l i) (.cons c (.cons d .nil))) D σ H → tDrop (fun σ H Q => tCons (rdD F c) (tCons (tVar i) (tCons (rdC F d) tNil)) σ H fun vs H1 => rGrow F g.l W vs H1 Q) D σ H := fun D σ H ⟨S0, H0, S, ρ, o, e, I, h, q⟩ => by
  obtain ⟨r, s, h1, h2, h3⟩ := evP2 h
  obtain ⟨z, h4, h5⟩ := onDat_some (show onDat r _ = some o from h3)
  obtain ⟨k, rfl, h6⟩ := onInt_some h5
  obtain ⟨xs, h7, h8⟩ := onOwn_some h6
  cases h9 : growGo F g.l z k W xs with
  | none => rw [h9] at h8; cases h8
  | some ys =>
    rw [h9] at h8
    simp only at h8
    rw [put_eq] at h8
    cases nxF_some h8
    refine ⟨Fresh H0, S, ρ, r, z, I, h1, h4, fun v S1 H1 e1 r1 => ?_⟩
    have I1 := I.ext e1
    obtain ⟨a, vs, g1, g2, g3, g4, g5⟩ := own_slot I1 h7
    refine ⟨_, g1, Fresh H0, S1, ρ, _, I1, h2, fun w S2 H2 e2 r2 => ?_⟩
    cases rp_int r2
    have I2 := I1.ext e2
    refine ⟨S2, z, v, k, a, vs, xs, ys, rfl, I2.sub, e2.out g3 g4, e2.hh _ _ g4, g5.mono e2.ss, r1.mono e2.ss, h9, fun w' S3 H3 zs e3 f1 f2 => ?_⟩
    have f3 : S3 a = none := e3.sh.free del_eq
    refine q σ S3 H3 ((e.trans (e1.trans e2)).ofDel g2 e3) ((e1.ss.trans e2.ss).trans e3.ss) (I2.chg (slot_some h7) rfl g1 e3.ss (e3.sh.trans del_sub) (fun b y k1 k2 n => ?_) ⟨a, zs, rfl, f3, f1, f2⟩)
    refine ⟨e3.out k2 (by rw [del_ne n]; exact k1), ?_⟩
    have k3 := e3.hh b y (by rw [del_ne n]; exact k1)
    rw [del_ne n] at k3
    exact k3
end
end SW
set_option Elab.async false
set_option linter.all false
set_option maxRecDepth 100000
set_option maxHeartbeats 1000000
/-! Snd11: every code of statements reads as them (st_ok). -/
namespace SW
open PySem PySem.Spec PyProof.Rows L2

structure SOk (M : MC) (X : Cx) (sc : Scope) : Prop where
  x : XOk M X sc true
  own : PassesOwn (model X.prog X.w) X.A X.env X.xe
  kind : X.env.scope.kind = .function

/-! ### the pair's stores -/
section
variable {env : Env}
theorem sw_none {tg e : Expr} (ht : isTupE tg = true) (h : (match vTup e with | some vs => vs.all (foldedForSure 8) | none => true) = true) : swappedStores [tg] e env = pure none := by
  obtain ⟨ts, k, p, rfl⟩ := isTup_some ht
  cases e with
  | Tuple vs k2 p2 =>
    have h : vs.all (foldedForSure 8) = true := h
    unfold swappedStores
    simp only [h, if_true]
    split
    · rfl
    · split
      · rfl
      · split <;> rfl
  | _ => rfl
theorem no_star_any : ∀ vs : List Expr, (∀ v ∈ vs, noStar v = true) → (vs.any fun | .Starred .. => true | _ => false) = false
  | [], _ => rfl
  | v :: r, h => by
    have h1 := h v (List.mem_cons_self ..)
    have h2 := no_star_any r fun x hx => h x (List.mem_cons_of_mem _ hx)
    rw [List.any_cons, h2]
    cases v <;> first | rfl | cases h1
theorem noFold_some {vs : List Expr} (h : noFold vs = true) : vs.all (foldedForSure 8) = false ∧ vs.all (constantsAlone 8) = false := by
  unfold noFold at h
  obtain ⟨h1, h2⟩ := and_true2 h
  exact ⟨by simpa using h1, by simpa using h2⟩
theorem sw_two {x y : Str} {px py pt pt2 : Pos} {kt k2 : Nat} {a b : Expr} (hk : env.scope.kind = .function) (hx : env.scope.names.lookup x = some .local) (hy : env.scope.names.lookup y = some .local) (ne : x ≠ y) (hl : (py.line == px.line) = true) (na : noStar a = true) (nb : noStar b = true) (nf : noFold [a, b] = true) :
    swappedStores [.Tuple [.Name x px, .Name y py] kt pt] (.Tuple [a, b] k2 pt2) env = pure (some [x, y]) := by
  have kx : env.kindOf x = some .local := hx
  have ky : env.kindOf y = some .local := hy
  have hb : env.blockKind = .function := by unfold Env.blockKind; rw [hk]; rfl
  obtain ⟨f1, f2⟩ := noFold_some nf
  have st := no_star_any [a, b] (by intro v hv; simp at hv; rcases hv with rfl | rfl <;> assumption)
  have nxy : (y == x) = false := by simpa using fun h => ne h.symm
  have hd : ([x, y] : List Str).eraseDups = [x, y] := by
    rw [List.eraseDups_cons]
    simp [nxy, List.eraseDups_cons]
  have lxx : (px.line == px.line) = true := by simp
  unfold swappedStores
  simp only [hb, f1, f2, List.filterMap, kx, ky, Expr.pos, List.head?, Option.map, Option.getD, hl, lxx, List.length, hd, Bool.and_self, if_true, beq_self_eq_true]
  refine Eq.trans (if_neg (by decide)) (Eq.trans (if_neg fun h => Bool.false_ne_true (st.symm.trans h)) ?_)
  rfl
theorem sw_three {x y z : Str} {px py pz pt pt2 : Pos} {kt k2 : Nat} {a b c : Expr} (hk : env.scope.kind = .function) (hx : env.scope.names.lookup x = some .local) (hy : env.scope.names.lookup y = some .local) (hz : env.scope.names.lookup z = some .local) (ne : x ≠ y) (ne2 : x ≠ z) (ne3 : y ≠ z) (hl : (py.line == px.line) = true) (hl2 : (pz.line == px.line) = true) (na : noStar a = true) (nb : noStar b = true) (nc : noStar c = true) (nf : noFold [a, b, c] = true) :
    swappedStores [.Tuple [.Name x px, .Name y py, .Name z pz] kt pt] (.Tuple [a, b, c] k2 pt2) env = pure (some [x, y, z]) := by
  have kx : env.kindOf x = some .local := hx
  have ky : env.kindOf y = some .local := hy
  have kz : env.kindOf z = some .local := hz
  have hb : env.blockKind = .function := by unfold Env.blockKind; rw [hk]; rfl
  obtain ⟨f1, f2⟩ := noFold_some nf
  have st := no_star_any [a, b, c] (by intro v hv; simp at hv; rcases hv with rfl | rfl | rfl <;> assumption)
  have nxy : (y == x) = false := by simpa using fun h => ne h.symm
  have nxz : (z == x) = false := by simpa using fun h => ne2 h.symm
  have nyz : (z == y) = false := by simpa using fun h => ne3 h.symm
  have hd : ([x, y, z] : List Str).eraseDups = [x, y, z] := by
    rw [List.eraseDups_cons]
    simp [nxy, nxz, nyz, List.eraseDups_cons]
  have lxx : (px.line == px.line) = true := by simp
  unfold swappedStores
  simp only [hb, f1, f2, List.filterMap, kx, ky, kz, Expr.pos, List.head?, Option.map, Option.getD, hl, hl2, lxx, List.length, hd, Bool.and_self, if_true, beq_self_eq_true]
  refine Eq.trans (if_neg (by decide)) (Eq.trans (if_neg fun h => Bool.false_ne_true (st.symm.trans h)) ?_)
  rfl
theorem sw_not {y : Str} {py : Pos} {elt : Expr} {gs : List Comprehension} {scope : Scope} {pos : Pos} {l : Nat} (h : env.scope.names.lookup y ≠ some .local) : swapsWith (.ListComp elt gs scope pos) (some (.Name y py)) l env = pure false := by
  have h1 : (env.kindOf y == some .local) = false := by
    have : env.kindOf y ≠ some .local := h
    simpa using this
  unfold swapsWith
  simp only [h1, Bool.and_false, Bool.false_and]
end

section
variable {M : MC} {F : FT} {W : Nat} {X : Cx} {sc : Scope} {cl : Bool} {c d : C} {g : Gr} {st : Stmt} {es : C}
theorem mLoc_some {i : Nat} {e : Expr} (h : mLoc M cl i sc e = true) : ∃ x p, e = .Name x p ∧ M.N[i]? = some x ∧ (sc.names.lookup x = some .local ∨ (cl = true ∧ sc.names.lookup x = some .cell)) := by
  obtain ⟨x, h1, h2⟩ := vw_true h
  obtain ⟨p, rfl⟩ := vName_some h1
  obtain ⟨h3, h4⟩ := and_true2 h2
  refine ⟨x, p, rfl, of_decide_eq_true h3, ?_⟩
  rcases Bool.or_eq_true_iff.mp h4 with h | h
  · exact .inl (of_decide_eq_true h)
  · obtain ⟨h5, h6⟩ := and_true2 h
    exact .inr ⟨h5, of_decide_eq_true h6⟩
theorem sto_some {i : Nat} {e : Expr} (h : sto M i sc e = true) : ∃ x p, e = .Name x p ∧ M.N[i]? = some x ∧ sc.names.lookup x = some .local := by
  obtain ⟨x, h1, h2⟩ := vw_true h
  obtain ⟨p, rfl⟩ := vName_some h1
  obtain ⟨h3, h4⟩ := and_true2 h2
  exact ⟨x, p, rfl, of_decide_eq_true h3, of_decide_eq_true h4⟩
theorem names_ne {N : List Str} (nd : N.Nodup) {i j : Nat} {x y : Str} (h : i ≠ j) (hi : N[i]? = some x) (hj : N[j]? = some y) : x ≠ y := by
  intro e
  subst e
  obtain ⟨h1, h2⟩ := List.getElem?_eq_some_iff.mp hi
  obtain ⟨h3, h4⟩ := List.getElem?_eq_some_iff.mp hj
  exact h ((List.getElem_inj nd).mp (h2.trans h4.symm))
theorem mV_name {i : Nat} {e : Expr} (h : mV M i sc e = true) : ∃ x p, e = .Name x p := by
  obtain ⟨x, h1, _⟩ := vw_true h
  obtain ⟨p, rfl⟩ := vName_some h1
  exact ⟨x, p, rfl⟩
theorem sub_assign {o i : Expr} {pos : Pos} {env : Env} (h : noSlice i = true) : ∀ v, assign (.Subscript o i pos) env v = (do
      let ov ← holding [v] (eval o env)
      let iv ← holding [v, ov] (eval i env)
      standAt pos
      holding [v, ov, iv] (setItem ov iv v)
      release [v, ov, iv] []) := by
  intro v
  cases i <;> first | rfl | cases h
theorem p_asg (s : SOk M X sc) (hc : CallA M F X) {i : Nat} (h : mP M g sc st es (.asg i) = true) : PS X st (rdS F W (.prim (.asg i) es)) := by
  obtain ⟨⟨tg, e⟩, h1, h2⟩ := vw_true (show vw (vAsg st) (fun p => mLoc M true i sc p.1 && one es fun c => mE M c sc p.2 && (noComp p.2 || (isComp c && compOk sc p.1 p.2))) = true from h)
  obtain ⟨pos, rfl⟩ := vAsg_some h1
  obtain ⟨h3, h4⟩ := and_true2 h2
  obtain ⟨c, rfl, h5⟩ := one_some h4
  obtain ⟨h5, h6⟩ := and_true2 h5
  obtain ⟨x, p, rfl, hx, hk⟩ := mLoc_some h3
  have xo := s.x
  have nd : X.N.Nodup := by rw [xo.hN]; exact xo.nd
  have hx : X.N[i]? = some x := by rw [xo.hN]; exact hx
  have hk : Loc X.env.scope x := by
    rw [xo.hsc]
    rcases hk with k | k
    · exact .inl k
    · exact .inr k.2
  have xe := ev_ok (F := F) c X sc true xo hc
  by_cases hn : noComp e = true
  · exact psW (ps_set nd hx hk (xe.pe e h5) (comp_none hn _ _) (.inl (xo.fn rfl x))) asg_red
  · have h7 : (isComp c && compOk sc (.Name x p) e) = true := by
      rcases Bool.or_eq_true_iff.mp h6 with z | z
      · exact absurd z hn
      · exact z
    obtain ⟨h7, h8⟩ := and_true2 h7
    cases c with
    | comp t ic ifs y own =>
      obtain ⟨y', tg', it, fs, scope, cp, rfl, k1, k2, k3, k4, k5, k6, k7, k8, k9⟩ := comp_parts h5
      have h8 : (!(decide (sc.names.lookup x = some .local)) || ((p.line == cp.line) && !(scope.names.any fun (n, k) => n == x && (k == .local || k == .cell)))) = true := h8
      by_cases hl : sc.names.lookup x = some .local
      · rw [decide_eq_true hl] at h8
        obtain ⟨h9, h10⟩ := and_true2 (show ((p.line == cp.line) && !(scope.names.any fun (n, k) => n == x && (k == .local || k == .cell))) = true from h8)
        have h10 : (scope.names.any fun (n, k) => n == x && (k == .local || k == .cell)) = false := by simpa using h10
        have hl' : X.env.scope.names.lookup x = some .local := by rw [xo.hsc]; exact hl
        have ok : BlkOk X.N X.env.scope scope (own.map fun i => ((M.N[i]?).getD "", i)) := by rw [xo.hN, xo.hsc]; exact blkOk_by k3
        have xi := ev_ok (F := F) ic X sc true xo hc
        have main := ps_setLc (i := i) (py := p) (pos := cp) (spos := pos) xo.calm nd hx hl' (sw_true s.kind hl' h9 h10) (xi.pi tg' it true k1) ok
          (fun s H C cls fp => s_tg (xo.blk s H scope cls C fp) t tg' k4)
          (fun s H C cls fp => (ev_ok ifs _ _ _ (xo.blk s H scope cls C fp) (hc.blk s H scope _ fp)).ts fs k6 k7 k8)
          (fun s H C cls fp => peD ((ev_ok y _ _ _ (xo.blk s H scope cls C fp) (hc.blk s H scope _ fp)).pe y' k9)) (fun z => set_none k2 z)
        rw [own_snd] at main
        exact psW main fun D σ H q => comp_red k5 σ H _ (asg_red D σ H q)
      · exact psW (ps_set nd hx hk (xe.pe _ h5) (sw_not (by rw [xo.hsc]; exact hl)) (.inl (xo.fn rfl x))) asg_red
    | v _ => cases h7
    | k _ => cases h7
    | nil => cases h7
    | cons _ _ => cases h7
    | un _ _ => cases h7
    | bi _ _ _ => cases h7
    | tr _ _ _ _ => cases h7
theorem p_asgT (s : SOk M X sc) (hc : CallA M F X) {t : T} (h : mP M g sc st es (.asgT t) = true) : PS X st (rdS F W (.prim (.asgT t) es)) := by
  obtain ⟨⟨tg, e⟩, h1, h2⟩ := vw_true (show vw (vAsg st) (fun p => isTupE p.1 && mTg M true sc t p.1 && one es fun c => mE M c sc p.2 && noComp p.2 && (match vTup p.2 with | some vs => vs.all (foldedForSure 8) | none => true)) = true from h)
  obtain ⟨pos, rfl⟩ := vAsg_some h1
  obtain ⟨h3, h4⟩ := and_true2 h2
  obtain ⟨h3, h5⟩ := and_true2 h3
  obtain ⟨c, rfl, h6⟩ := one_some h4
  obtain ⟨h6, h7⟩ := and_true2 h6
  obtain ⟨h6, h8⟩ := and_true2 h6
  have xe := ev_ok (F := F) c X sc true s.x hc
  have ht : noStar tg = true := by
    obtain ⟨ts, k, p, rfl⟩ := isTup_some h3
    rfl
  refine psW (ps_asg (peD (xe.pe e h6)) (s_tg s.x t tg h5) (comp_none h8 _ _) (sw_none h3 h7) (by rw [asg_cons ht]; rfl)) asgT_red
theorem p_par2 (s : SOk M X sc) (hc : CallA M F X) {i j : Nat} (h : mP M g sc st es (.par2 i j) = true) : PS X st (rdS F W (.prim (.par2 i j) es)) := by
  obtain ⟨⟨tg, e⟩, h1, h2⟩ := vw_true h
  obtain ⟨pos, rfl⟩ := vAsg_some h1
  obtain ⟨ts, h3, h4⟩ := vw_true h2
  obtain ⟨kt, pt, e1⟩ := vTup_some h3
  obtain ⟨vs, h5, h6⟩ := vw_true h4
  obtain ⟨k2, pt2, e2⟩ := vTup_some h5
  simp only at e1 e2
  subst e1 e2
  clear h1 h2 h3 h4 h5
  match ts, vs, h6 with
  | [x, y], [a, b], h6 =>
    obtain ⟨h6, k9⟩ := and_true2 h6
    obtain ⟨h6, k8⟩ := and_true2 h6
    obtain ⟨h6, k7⟩ := and_true2 h6
    obtain ⟨h6, k6⟩ := and_true2 h6
    obtain ⟨h6, k5⟩ := and_true2 h6
    obtain ⟨h6, k4⟩ := and_true2 h6
    obtain ⟨h6, k3⟩ := and_true2 h6
    obtain ⟨x, px, rfl, hx, lx⟩ := sto_some h6
    obtain ⟨y, py, rfl, hy, ly⟩ := sto_some k3
    obtain ⟨c, d, rfl, k10⟩ := two_some k9
    obtain ⟨k10, k11⟩ := and_true2 k10
    have k4 : i ≠ j := of_decide_eq_true k4
    have xo := s.x
    have nd : X.N.Nodup := by rw [xo.hN]; exact xo.nd
    rw [← xo.hN] at hx hy
    rw [← xo.hsc] at lx ly
    exact psW (ps_par xo.calm nd hx hy k4 lx ly (pa_cons ((ev_ok (F := F) c X sc true xo hc).pe a k10) (pa_cons ((ev_ok (F := F) d X sc true xo hc).pe b k11) pa_nil (star1 k7)) (star_cons k6 [b]))
      (sw_two s.kind lx ly (names_ne nd k4 hx hy) k5 k6 k7 k8)) par2_red
theorem p_par3 (s : SOk M X sc) (hc : CallA M F X) {i j l : Nat} (h : mP M g sc st es (.par3 i j l) = true) : PS X st (rdS F W (.prim (.par3 i j l) es)) := by
  obtain ⟨⟨tg, e⟩, h1, h2⟩ := vw_true h
  obtain ⟨pos, rfl⟩ := vAsg_some h1
  obtain ⟨ts, h3, h4⟩ := vw_true h2
  obtain ⟨kt, pt, e1⟩ := vTup_some h3
  obtain ⟨vs, h5, h6⟩ := vw_true h4
  obtain ⟨k2, pt2, e2⟩ := vTup_some h5
  simp only at e1 e2
  subst e1 e2
  clear h1 h2 h3 h4 h5
  match ts, vs, h6 with
  | [x, y, z], [a, b, c], h6 =>
    obtain ⟨h6, m1⟩ := and_true2 h6
    obtain ⟨h6, m2⟩ := and_true2 h6
    obtain ⟨h6, m3⟩ := and_true2 h6
    obtain ⟨h6, m4⟩ := and_true2 h6
    obtain ⟨h6, m5⟩ := and_true2 h6
    obtain ⟨h6, m6⟩ := and_true2 h6
    obtain ⟨h6, m7⟩ := and_true2 h6
    obtain ⟨h6, m8⟩ := and_true2 h6
    obtain ⟨h6, m9⟩ := and_true2 h6
    obtain ⟨h6, m10⟩ := and_true2 h6
    obtain ⟨h6, m11⟩ := and_true2 h6
    obtain ⟨h6, m12⟩ := and_true2 h6
    obtain ⟨x, px, rfl, hx, lx⟩ := sto_some h6
    obtain ⟨y, py, rfl, hy, ly⟩ := sto_some m12
    obtain ⟨z, pz, rfl, hz, lz⟩ := sto_some m11
    obtain ⟨c1, c2, c3, rfl, k10⟩ := three_some m1
    obtain ⟨k10, k11⟩ := and_true2 k10
    obtain ⟨k10, k12⟩ := and_true2 k10
    have m10 : i ≠ j := of_decide_eq_true m10
    have m9 : i ≠ l := of_decide_eq_true m9
    have m8 : j ≠ l := of_decide_eq_true m8
    have xo := s.x
    have nd : X.N.Nodup := by rw [xo.hN]; exact xo.nd
    rw [← xo.hN] at hx hy hz
    rw [← xo.hsc] at lx ly lz
    exact psW (ps_par3 xo.calm nd hx hy hz m10 m9 m8 lx ly lz (pa_cons ((ev_ok (F := F) c1 X sc true xo hc).pe a k10) (pa_cons ((ev_ok (F := F) c2 X sc true xo hc).pe b k12) (pa_cons ((ev_ok (F := F) c3 X sc true xo hc).pe c k11) pa_nil (star1 m3)) (star_cons m4 [c])) (star_cons m5 [b, c]))
      (sw_three s.kind lx ly lz (names_ne nd m10 hx hy) (names_ne nd m9 hx hz) (names_ne nd m8 hy hz) m7 m6 m5 m4 m3 m2)) par3_red
theorem p_setL (s : SOk M X sc) (hc : CallA M F X) {i : Nat} (h : mP M g sc st es (.setL i) = true) : PS X st (rdS F W (.prim (.setL i) es)) := by
  obtain ⟨⟨tg, e⟩, h1, h2⟩ := vw_true (show vw (vAsg st) (fun p => vw (vSub p.1) fun q => mV M i sc q.1 && noSlice q.2 && noComp p.2 && two es fun c d => mE M c sc p.2 && mE M d sc q.2) = true from h)
  obtain ⟨pos, rfl⟩ := vAsg_some h1
  obtain ⟨⟨o, k⟩, h3, h4⟩ := vw_true h2
  obtain ⟨p, e1⟩ := vSub_some h3
  simp only at e1
  subst e1
  obtain ⟨h10, h5⟩ := and_true2 h4
  obtain ⟨h11, h6⟩ := and_true2 h10
  obtain ⟨h12, h7⟩ := and_true2 h11
  clear h4 h2
  obtain ⟨c, d, rfl, h8⟩ := two_some h5
  obtain ⟨h13, h9⟩ := and_true2 h8
  exact psW (ps_asg (peD ((ev_ok (F := F) c X sc true s.x hc).pe e h13)) (pg_sub (mV_pe s.x h12) ((ev_ok (F := F) d X sc true s.x hc).pe k h9) set_list (sub_assign h7)) (show swapsWith e (some (.Subscript o k p)) pos.line X.env = pure false from comp_none h6 _ _)) setL_red
theorem p_setD (s : SOk M X sc) (hc : CallA M F X) {i : Nat} (h : mP M g sc st es (.setD i) = true) : PS X st (rdS F W (.prim (.setD i) es)) := by
  obtain ⟨⟨tg, e⟩, h1, h2⟩ := vw_true (show vw (vAsg st) (fun p => vw (vSub p.1) fun q => mV M i sc q.1 && noSlice q.2 && noComp p.2 && two es fun c d => mE M c sc p.2 && mE M d sc q.2) = true from h)
  obtain ⟨pos, rfl⟩ := vAsg_some h1
  obtain ⟨⟨o, k⟩, h3, h4⟩ := vw_true h2
  obtain ⟨p, e1⟩ := vSub_some h3
  simp only at e1
  subst e1
  obtain ⟨h10, h5⟩ := and_true2 h4
  obtain ⟨h11, h6⟩ := and_true2 h10
  obtain ⟨h12, h7⟩ := and_true2 h11
  clear h4 h2
  obtain ⟨c, d, rfl, h8⟩ := two_some h5
  obtain ⟨h13, h9⟩ := and_true2 h8
  exact psW (ps_dput (by have := s.x.units; omega) (mV_pe s.x h12) (peD ((ev_ok (F := F) d X sc true s.x hc).pe k h9)) (peD ((ev_ok (F := F) c X sc true s.x hc).pe e h13)) (comp_none h6 _ _)) setD_red
theorem p_append0 (x : XOk M X sc true) (hc : CallA M F X) {i : Nat} (h : mP M g sc st (.cons c .nil) (.append i) = true) : PS X st (tDrop (tBM X.K "list" rAppend (tVar i) (tCons (rdD F c) tNil))) := by
  obtain ⟨e, h1, h2⟩ := vw_true (show vw (vEx st) (fun e => vw (vMeth e) fun q => decide (q.2.1 = "append") && mV M i sc q.1 && one (.cons c .nil) fun c => a1 (mE M c sc) q.2.2) = true from h)
  obtain ⟨pos, rfl⟩ := vEx_some h1
  obtain ⟨⟨o, m, as⟩, h3, h4⟩ := vw_true h2
  obtain ⟨p, q, rfl, hl⟩ := vMeth_some h3
  obtain ⟨h4, h5⟩ := and_true2 h4
  obtain ⟨h4, h6⟩ := and_true2 h4
  cases (of_decide_eq_true h4 : m = "append")
  have h7 : a1 (mE M c sc) as = true := h5
  obtain ⟨y, e1, hs, hg⟩ := one_arg h7
  subst e1
  have hv := mV_pe x h6
  obtain ⟨n, pn, e2⟩ := mV_name h6
  simp only at e2
  subst e2
  exact ps_expr (pe_bm PySem.F.plainAttrs_list PySem.F.slot_list_append PySem.F.type_list_append mt_append hv (pa_cons (peD ((ev_ok (F := F) c X sc true x hc).pe y hg)) pa_nil (star1 hs)) rfl (by rw [star1 hs]; rfl) hl (star1 hs) any_nil) (comp_none rfl _ _)
theorem p_append (s : SOk M X sc) (hc : CallA M F X) {i : Nat} (h : mP M g sc st es (.append i) = true) : PS X st (rdS F W (.prim (.append i) es)) := by
  have h' : ∃ c, es = .cons c .nil := by
    obtain ⟨e, h1, h2⟩ := vw_true (show vw (vEx st) (fun e => vw (vMeth e) fun q => decide (q.2.1 = "append") && mV M i sc q.1 && one es fun c => a1 (mE M c sc) q.2.2) = true from h)
    obtain ⟨⟨o, m, as⟩, h3, h4⟩ := vw_true h2
    obtain ⟨h4, h5⟩ := and_true2 h4
    obtain ⟨c, h6, _⟩ := one_some h5
    exact ⟨c, h6⟩
  obtain ⟨c, rfl⟩ := h'
  exact psW (p_append0 s.x hc h) append_red
theorem p_insert (s : SOk M X sc) (hc : CallA M F X) {i : Nat} (h : mP M g sc st es (.insert i) = true) : PS X st (rdS F W (.prim (.insert i) es)) := by
  obtain ⟨e, h1, h2⟩ := vw_true (show vw (vEx st) (fun e => vw (vMeth e) fun q => decide (q.2.1 = "insert") && mV M i sc q.1 && two es fun c d => a2 (mE M c sc) (mE M d sc) q.2.2) = true from h)
  obtain ⟨pos, rfl⟩ := vEx_some h1
  obtain ⟨⟨o, m, as⟩, h3, h4⟩ := vw_true h2
  obtain ⟨p, q, rfl, hl⟩ := vMeth_some h3
  obtain ⟨h4, h5⟩ := and_true2 h4
  obtain ⟨h4, h6⟩ := and_true2 h4
  cases (of_decide_eq_true h4 : m = "insert")
  obtain ⟨c, d, rfl, h7⟩ := two_some h5
  obtain ⟨y, z, e1, hs, hs2, hg, hg2⟩ := two_args h7
  simp only at e1
  subst e1
  have hv := mV_pe s.x h6
  obtain ⟨n, pn, e2⟩ := mV_name h6
  simp only at e2
  subst e2
  exact psW (ps_expr (pe_bm PySem.F.plainAttrs_list PySem.F.slot_list_insert PySem.F.type_list_insert mt_insert hv (pa_cons ((ev_ok (F := F) c X sc true s.x hc).pe y hg) (pa_cons (peD ((ev_ok (F := F) d X sc true s.x hc).pe z hg2)) pa_nil (star1 hs2)) (star_cons hs [z])) rfl (by rw [star_cons hs [z], star1 hs2]; rfl) hl (star_cons hs [z]) (any_one hs2)) (comp_none rfl _ _)) insert_red
theorem p_reverse (s : SOk M X sc) (hc : CallA M F X) {i : Nat} (h : mP M g sc st es (.reverse i) = true) : PS X st (rdS F W (.prim (.reverse i) es)) := by
  obtain ⟨e, h1, h2⟩ := vw_true (show vw (vEx st) (fun e => vw (vMeth e) fun q => decide (q.2.1 = "reverse") && mV M i sc q.1 && isNil es && q.2.2.isEmpty) = true from h)
  obtain ⟨pos, rfl⟩ := vEx_some h1
  obtain ⟨⟨o, m, as⟩, h3, h4⟩ := vw_true h2
  obtain ⟨p, q, rfl, hl⟩ := vMeth_some h3
  obtain ⟨h4, h5⟩ := and_true2 h4
  obtain ⟨h4, h7⟩ := and_true2 h4
  obtain ⟨h4, h6⟩ := and_true2 h4
  cases (of_decide_eq_true h4 : m = "reverse")
  cases isNil_true h7
  have h5 : as = [] := List.isEmpty_iff.mp h5
  subst h5
  have hv := mV_pe s.x h6
  obtain ⟨n, pn, e2⟩ := mV_name h6
  simp only at e2
  subst e2
  exact psW (ps_expr (pe_bm0 PySem.F.plainAttrs_list PySem.F.slot_list_reverse PySem.F.type_list_reverse mt_reverse hv rfl hl) (comp_none rfl _ _)) reverse_red
theorem p_grow (s : SOk M X sc) (hc : CallA M F X) (gk : GrowOk M F W g X) {f l i : Nat} (h : mP M g sc st es (.grow f l i) = true) : PS X st (rdS F W (.prim (.grow f l i) es)) := by
  obtain ⟨e, h1, h2⟩ := vw_true (show vw (vEx st) (fun e => decide (f = g.f) && decide (l = g.l) && vw (M.nm f) fun n => okN n && mC n sc e fun xs => two es fun c d => a3 (mE M c sc) (mV M i sc) (mE M d sc) xs) = true from h)
  obtain ⟨pos, rfl⟩ := vEx_some h1
  obtain ⟨h2, h3⟩ := and_true2 h2
  obtain ⟨h2, h4⟩ := and_true2 h2
  cases (of_decide_eq_true h2 : f = g.f)
  cases (of_decide_eq_true h4 : l = g.l)
  obtain ⟨n, h5, h6⟩ := vw_true h3
  have h7 : ∃ c d, es = .cons c (.cons d .nil) := by
    obtain ⟨_, h7⟩ := and_true2 h6
    obtain ⟨as, p, q, _, _, h8⟩ := mC_some h7
    obtain ⟨c, d, h9, _⟩ := two_some h8
    exact ⟨c, d, h9⟩
  obtain ⟨c, d, rfl⟩ := h7
  have hn : noComp e = true := by
    obtain ⟨_, h7⟩ := and_true2 h6
    obtain ⟨as, p, q, rfl, _, h8⟩ := mC_some h7
    rfl
  exact psW (ps_expr (grow_pe s.x gk h5 h6 (ev_ok (F := F) c X sc true s.x hc).pe (ev_ok (F := F) d X sc true s.x hc).pe) (comp_none hn _ _)) grow_red
theorem p_expr (s : SOk M X sc) (hc : CallA M F X) (h : mP M g sc st es .expr = true) : PS X st (rdS F W (.prim .expr es)) := by
  obtain ⟨e, h1, h2⟩ := vw_true (show vw (vEx st) (fun e => noComp e && one es fun c => mE M c sc e) = true from h)
  obtain ⟨pos, rfl⟩ := vEx_some h1
  obtain ⟨h5, h3⟩ := and_true2 h2
  clear h2 h
  obtain ⟨c, rfl, h4⟩ := one_some h3
  exact psW (ps_expr ((ev_ok (F := F) c X sc true s.x hc).pe e h4) (comp_none h5 _ _)) expr_red
theorem p_ret (s : SOk M X sc) (hc : CallA M F X) (h : mP M g sc st es .ret = true) : PS X st (rdS F W (.prim .ret es)) := by
  obtain ⟨e, h1, h2⟩ := vw_true (show vw (vRet st) (fun e => one es fun c => mE M c sc e) = true from h)
  obtain ⟨pos, rfl⟩ := vRet_some h1
  obtain ⟨c, rfl, h4⟩ := one_some h2
  exact psW (ps_ret ((ev_ok (F := F) c X sc true s.x hc).pe e h4)) ret_red
theorem prim_ok (s : SOk M X sc) (hc : CallA M F X) (gk : GrowOk M F W g X) (p : P) (h : mP M g sc st es p = true) : PS X st (rdS F W (.prim p es)) := by
  cases p with
  | asg i => exact p_asg s hc h
  | asgT t => exact p_asgT s hc h
  | par2 i j => exact p_par2 s hc h
  | par3 i j k => exact p_par3 s hc h
  | setL i => exact p_setL s hc h
  | setD i => exact p_setD s hc h
  | append i => exact p_append s hc h
  | insert i => exact p_insert s hc h
  | reverse i => exact p_reverse s hc h
  | grow f l i => exact p_grow s hc gk h
  | expr => exact p_expr s hc h
  | ret => exact p_ret s hc h
  | brk =>
    obtain ⟨pos, rfl⟩ := vBrk_true h
    exact psW ps_break brk_red
  | raise => exact psW ps_never raise_red
end
end SW
set_option Elab.async false
set_option linter.all false
set_option maxRecDepth 100000
set_option maxHeartbeats 1000000
/-! Snd12: suites. -/
namespace SW
open PySem PySem.Spec PyProof.Rows L2
section
variable {M : MC} {F : FT} {W : Nat} {X : Cx} {sc : Scope} {cl : Bool} {c d : C} {g : Gr} {st : Stmt} {es : C}
theorem skip_red : ∀ D σ H, rdS F W .skip D σ H → tNext D σ H := fun D σ H ⟨S0, H0, S, ρ, o, e, I, h, q⟩ => by
  cases (show some (Out.nx ρ) = some o from h)
  exact q σ S H e (Same.refl S) I
theorem seq_red {s r : S} : ∀ D σ H, rdS F W (.seq s r) D σ H → tSeq (rdS F W s) (rdS F W r) D σ H := fun D σ H ⟨S0, H0, S, ρ, o, e, I, h, q⟩ => by
  rcases onO_some (show onO (evS F W s ρ) (evS F W r) (fun ρ1 => some (.bk ρ1)) = some o from h) with ⟨ρ1, h1, h2⟩ | ⟨r, h1, rfl⟩ | ⟨ρ1, h1, h2⟩
  · exact ⟨S0, H0, S, ρ, _, e, I, h1, fun σ' S' H' e' s' I' => ⟨S0, H0, S', ρ1, o, e', I', h2, q.low s'⟩⟩
  · exact ⟨S0, H0, S, ρ, _, e, I, h1, q⟩
  · cases h2
    exact ⟨S0, H0, S, ρ, _, e, I, h1, q⟩
theorem ifs_red {c : C} {a b : S} : ∀ D σ H, rdS F W (.ifs c a b) D σ H → tIfS (rdT F c) (rdS F W a) (rdS F W b) D σ H := fun D σ H ⟨S0, H0, S, ρ, o, e, I, h, q⟩ => by
  obtain ⟨k, h1, h2⟩ := testO_some (show testO (evC F c false ρ) (evS F W a ρ) (evS F W b ρ) = some o from h)
  refine ⟨Fresh H0, S, ρ, k, I, h1, fun S1 H1 e1 => ?_⟩
  cases k with
  | true => exact ⟨S0, H0, S1, ρ, o, e.trans e1, I.ext e1, h2, q.low e1.ss⟩
  | false => exact ⟨S0, H0, S1, ρ, o, e.trans e1, I.ext e1, h2, q.low e1.ss⟩
theorem whl_red {c : C} {b : S} : ∀ D σ H, rdS F W (.whl c b) D σ H → tWhile (rdT F c) (rdS F W b) D σ H := fun D σ H ⟨S0, H0, S, ρ, o, e, I, h, q⟩ => by
  refine ⟨fun m σ H => ∃ S1 ρ1, Ext S0 H0 S1 H ∧ Same S S1 ∧ EnR (Fresh H0) S1 H σ ρ1 ∧ loopW (evC F c false) (evS F W b) m ρ1 = some o, ⟨W, S, ρ, e, Same.refl S, I, h⟩, ?_⟩
  rintro m σ H ⟨S1, ρ1, e1, s1, I1, h1⟩
  cases m with
  | zero => cases h1
  | succ m =>
    obtain ⟨k, h2, h3⟩ := testO_some (show testO (evC F c false ρ1) (onO (evS F W b ρ1) (loopW (evC F c false) (evS F W b) m) fun ρ1 => some (.nx ρ1)) (some (.nx ρ1)) = some o from h1)
    refine ⟨Fresh H0, S1, ρ1, k, I1, h2, fun S2 H2 e2 => ?_⟩
    have eS := e1.trans e2
    have I2 := I1.ext e2
    have s2 := s1.trans e2.ss
    cases k with
    | false =>
      simp only [Bool.false_eq_true, if_false]
      cases (show some (Out.nx ρ1) = some o from h3)
      exact q σ S2 H2 eS s2 I2
    | true =>
      simp only [if_true]
      refine ⟨fun σ' H' => ∃ S1 ρ1, Ext S0 H0 S1 H' ∧ Same S S1 ∧ EnR (Fresh H0) S1 H' σ' ρ1 ∧ loopW (evC F c false) (evS F W b) m ρ1 = some o, fun σ' H' w => ⟨m, Nat.lt_succ_self m, w⟩, ?_⟩
      rcases onO_some (show onO (evS F W b ρ1) (loopW (evC F c false) (evS F W b) m) (fun ρ1 => some (.nx ρ1)) = some o from h3) with ⟨ρ2, h4, h5⟩ | ⟨r, h4, rfl⟩ | ⟨ρ2, h4, h5⟩
      · exact ⟨S0, H0, S2, ρ1, _, eS, I2, h4, fun σ' S' H' e' s' I' => ⟨S', ρ2, e', s2.trans s', I', h5⟩⟩
      · exact ⟨S0, H0, S2, ρ1, _, eS, I2, h4, q⟩
      · cases h5
        exact ⟨S0, H0, S2, ρ1, _, eS, I2, h4, fun σ' S' H' e' s' I' => q σ' S' H' e' (s2.trans s') I'⟩
theorem loopF_cons {f : PyData → En → Option Out} {x : PyData} {r : List PyData} {ρ : En} : loopF f (x :: r) ρ = onO (f x ρ) (loopF f r) fun ρ1 => some (.nx ρ1) := rfl
theorem fr_red {t : T} {i : C} {b : S} : ∀ D σ H, rdS F W (.fr t i b) D σ H → tFor (rdI F i false) (rdG t) (rdS F W b) D σ H := fun D σ H ⟨S0, H0, S, ρ, o, e, I, h, q⟩ => by
  have h : evF t (evS F W b) (evC F i false ρ) ρ = some o := h
  unfold evF at h
  cases h1 : dOf (evC F i false ρ) with
  | none => rw [h1] at h; cases h
  | some d =>
    rw [h1] at h
    simp only at h
    obtain ⟨r, h2, h3⟩ := dOf_some h1
    cases h4 : lstOf d with
    | none => rw [h4] at h; cases h
    | some xs =>
      rw [h4] at h
      cases lstOf_some h4
      simp only at h
      refine ⟨Fresh H0, S, ρ, r, xs, I, h2, h3, fun J S1 H1 G e1 w hG => ?_⟩
      refine for_it w (fun i σ H => ∃ S2 ρ1, Ext S0 H0 S2 H ∧ Same S1 S2 ∧ EnR (Fresh H0) S2 H σ ρ1 ∧ loopF (fun x ρ => match bindT t x ρ with | none => none | some ρ1 => evS F W b ρ1) (xs.drop i) ρ1 = some o) ?_ ?_ ?_ ?_
      · exact ⟨S1, ρ, e.trans e1, Same.refl S1, I.ext e1, h⟩
      · rintro i σ H _ ⟨S2, ρ1, e2, s2, I2, _⟩
        exact hG H (s2.trans e2.sh)
      · rintro i x σ H H' hi ⟨S2, ρ1, e2, s2, I2, h5⟩ y
        obtain ⟨S3, d, g1, g2, g3⟩ := y S2 s2 e2.sh
        rw [drop_cons g1, loopF_cons] at h5
        have eS := e2.trans g2
        have s3 := s2.trans g2.ss
        have body : ∀ ρ2 o', bindT t d ρ1 = some ρ2 → evS F W b ρ2 = some o' → Post S0 H0 S3 { D with nx := fun σ H => ∃ S2 ρ1, Ext S0 H0 S2 H ∧ Same S1 S2 ∧ EnR (Fresh H0) S2 H σ ρ1 ∧ loopF (fun x ρ => match bindT t x ρ with | none => none | some ρ1 => evS F W b ρ1) (xs.drop (i + 1)) ρ1 = some o, ct := fun σ H => ∃ S2 ρ1, Ext S0 H0 S2 H ∧ Same S1 S2 ∧ EnR (Fresh H0) S2 H σ ρ1 ∧ loopF (fun x ρ => match bindT t x ρ with | none => none | some ρ1 => evS F W b ρ1) (xs.drop (i + 1)) ρ1 = some o, bk := D.nx } o' →
            rdG t x σ H' fun σ2 H2 => rdS F W b { D with nx := fun σ H => ∃ S2 ρ1, Ext S0 H0 S2 H ∧ Same S1 S2 ∧ EnR (Fresh H0) S2 H σ ρ1 ∧ loopF (fun x ρ => match bindT t x ρ with | none => none | some ρ1 => evS F W b ρ1) (xs.drop (i + 1)) ρ1 = some o, ct := fun σ H => ∃ S2 ρ1, Ext S0 H0 S2 H ∧ Same S1 S2 ∧ EnR (Fresh H0) S2 H σ ρ1 ∧ loopF (fun x ρ => match bindT t x ρ with | none => none | some ρ1 => evS F W b ρ1) (xs.drop (i + 1)) ρ1 = some o, bk := D.nx } σ2 H2 :=
          fun ρ2 o' k1 k2 k3 => ⟨Fresh H0, S3, ρ1, ρ2, d, I2.ext g2, g3, k1, fun σ2 I3 _ => ⟨S0, H0, S3, ρ2, o', eS, I3, k2, k3⟩⟩
        cases hb : bindT t d ρ1 with
        | none => simp only [hb] at h5; cases h5
        | some ρ2 =>
          simp only [hb] at h5
          rcases onO_some h5 with ⟨ρ3, h6, h7⟩ | ⟨r, h6, rfl⟩ | ⟨ρ3, h6, h7⟩
          · exact body ρ2 _ hb h6 fun σ' S' H' e' s' I' => ⟨S', ρ3, e', s3.trans s', I', h7⟩
          · exact body ρ2 _ hb h6 q
          · cases h7
            exact body ρ2 _ hb h6 fun σ' S' H' e' s' I' => q σ' S' H' e' ((e1.ss.trans s3).trans s') I'
      · rintro σ H ⟨S2, ρ1, e2, s2, I2, h5⟩
        rw [List.drop_length] at h5
        cases (show some (Out.nx ρ1) = some o from h5)
        exact q σ S2 H e2 (e1.ss.trans s2) I2
theorem frz_red {i : Nat} {s : S} : ∀ D σ H, rdS F W (.frz i s) D σ H → rdS F W s D σ H := fun D σ H ⟨S0, H0, S, ρ, o, e, I, h, q⟩ => by
  have h : evZ i (evS F W s) ρ = some o := h
  unfold evZ at h
  cases h1 : slot ρ i with
  | none => rw [h1] at h; cases h
  | some r =>
    rw [h1] at h
    simp only [forceL_eq, put_eq] at h
    have nfz : r.froz = r → rdS F W s D σ H := fun z => by
      rw [z] at h
      have e1 : ρ.set i (some r) = ρ := by
        have := slot_some h1
        apply List.ext_getElem?
        intro j
        by_cases n : j = i
        · subst n
          rw [List.getElem?_set_self (List.getElem?_eq_some_iff.mp this).1, this]
        · rw [List.getElem?_set_ne (Ne.symm n)]
      rw [e1] at h
      exact ⟨S0, H0, S, ρ, o, e, I, h, q⟩
    obtain ⟨v, g1, g2⟩ := I.slot h1
    have go : ∀ (a : Addr) (x : HO), ownd r = true → v = .ref a → S a = none → H a = some x → Rp (upd S a x) H (.ref a) r.froz → rdS F W s D σ H := fun a x ho ev f1 f2 f3 => by
      subst ev
      have sn := same_new (o := x) f1
      have h0 : H0 a = none := I.own i r a (slot_some h1) ho g1
      have eS := e.froz f1 f2 h0
      refine ⟨S0, H0, upd S a x, _, o, eS, I.chg (slot_some h1) ho g1 sn eS.sh (fun b y k1 k2 n => ⟨by rw [upd_ne n]; exact k2, k1⟩) f3, h, q.low sn⟩
    cases r with
    | dat _ => exact nfz rfl
    | dic _ => exact nfz rfl
    | odit _ => exact nfz rfl
    | many _ => exact nfz rfl
    | own xs =>
      obtain ⟨a, vs, f1, f2, f3, f4⟩ := g2
      exact go a _ rfl f1 f2 f3 (.lst upd_same (f4.mono (same_new f2)))
    | odic kvs =>
      obtain ⟨a, kv, f1, f2, f3, f4⟩ := g2
      exact go a _ rfl f1 f2 f3 ⟨a, kv, rfl, upd_same, Paired.mapP f4 fun _ _ z => ⟨z.1, z.2.mono (same_new f2)⟩⟩

/-- every code of statements -/
theorem st_ok (s : SOk M X sc) (hc : CallA M F X) (gk : GrowOk M F W g X) : ∀ k : S, (∀ st, mS M g k sc st = true → PS X st (rdS F W k)) ∧ (∀ sts, mSs M g k sc sts = true → PSs X sts (rdS F W k))
  | .skip => ⟨fun st h => (nomatch h), fun sts h => by
    have h : sts = [] := List.isEmpty_iff.mp (show sts.isEmpty = true from h)
    subst h
    exact pssW pss_nil skip_red⟩
  | .seq a b => ⟨fun st h => (nomatch h), fun sts h => by
    cases sts with
    | nil => cases h
    | cons st rest =>
      obtain ⟨h1, h2⟩ := and_true2 (show (mS M g a sc st && mSs M g b sc rest) = true from h)
      exact pssW (pss_cons ((st_ok s hc gk a).1 st h1) ((st_ok s hc gk b).2 rest h2)) seq_red⟩
  | .prim p es => ⟨fun st h => prim_ok s hc gk p h, fun sts h => nomatch h⟩
  | .retv i => ⟨fun st h => by
    obtain ⟨e, h1, h2⟩ := vw_true (show vw (vRet st) (fun e => mV M i sc e) = true from h)
    obtain ⟨pos, rfl⟩ := vRet_some h1
    exact psW (ps_ret (mV_pe s.x h2)) retv_red, fun sts h => nomatch h⟩
  | .ifs c a b => ⟨fun st h => by
    obtain ⟨⟨e, x, y⟩, h1, h2⟩ := vw_true (show vw (vIfS st) (fun p => tOk p.1 && mE M c sc p.1 && mSs M g a sc p.2.1 && mSs M g b sc p.2.2) = true from h)
    obtain ⟨pos, rfl⟩ := vIfS_some h1
    obtain ⟨h2, h3⟩ := and_true2 h2
    obtain ⟨h2, h4⟩ := and_true2 h2
    obtain ⟨h2, h5⟩ := and_true2 h2
    exact psW (ps_if ((ev_ok (F := F) c X sc true s.x hc).pt e h5 h2) ((st_ok s hc gk a).2 x h4) ((st_ok s hc gk b).2 y h3)) ifs_red, fun sts h => nomatch h⟩
  | .whl c b => ⟨fun st h => by
    obtain ⟨⟨e, x⟩, h1, h2⟩ := vw_true (show vw (vWhl st) (fun p => tOk p.1 && mE M c sc p.1 && mSs M g b sc p.2) = true from h)
    obtain ⟨pos, rfl⟩ := vWhl_some h1
    obtain ⟨h2, h3⟩ := and_true2 h2
    obtain ⟨h2, h4⟩ := and_true2 h2
    exact psW (ps_while s.own ((ev_ok (F := F) c X sc true s.x hc).pt e h4 h2) ((st_ok s hc gk b).2 x h3)) whl_red, fun sts h => nomatch h⟩
  | .fr t i b => ⟨fun st h => by
    obtain ⟨⟨tg, it, x⟩, h1, h2⟩ := vw_true (show vw (vFor st) (fun p => noSet p.2.1 && mTg M true sc t p.1 && mI M i sc p.1 p.2.1 && mSs M g b sc p.2.2) = true from h)
    obtain ⟨pos, rfl⟩ := vFor_some h1
    obtain ⟨h2, h3⟩ := and_true2 h2
    obtain ⟨h2, h4⟩ := and_true2 h2
    obtain ⟨h2, h5⟩ := and_true2 h2
    exact psW (ps_for s.own s.x.calm ((ev_ok (F := F) i X sc true s.x hc).pi tg it false h4) (s_tg s.x t tg h5) ((st_ok s hc gk b).2 x h3) (fun z => set_none h2 z)) fr_red, fun sts h => nomatch h⟩
  | .frz i k => ⟨fun st h => psW ((st_ok s hc gk k).1 st h) frz_red, fun sts h => nomatch h⟩
end
end SW
set_option Elab.async false
set_option linter.all false
set_option maxRecDepth 100000
set_option maxHeartbeats 1000000
/-! Snd13: what a def promises where no guard stands; a def whose code is known keeps it. -/
namespace SW
open PySem PySem.Spec PyProof.Rows L2

structure FnG (P : Program) (w : World) (K : PySem.W.Frag) (mg : Str → Option Value) (base : Heap) (k : Nat) (f : Addr) (fd : FuncData) (ps : List Str) (sp : List V → Hp → VK → Prop) : Prop where
  cnt : ∀ vs H Q, sp vs H Q → vs.length = ps.length
  go : ∀ (A : Around) (us : List Value) (vs : List V) (Q : VK) (H : Hp) (s : Shared) (outer : List Env) (args : Args), A.guards = some [] → Room k A → Env0 P w K mg base A outer s H → Vals vs us → sp vs H Q → BindsTo s fd args (ps.zip us) →
    codeAny (model P w) A (.call (.ref f) args) (CR CX0 outer P w H s Q E0) s
/-- the context of a def's body -/
structure Own (X : Cx) (P : Program) (w : World) (K : PySem.W.Frag) (mg : Str → Option Value) (base : Heap) (N : List Str) (scope : Scope) (k : Nat) : Prop where
  prog : X.prog = P
  w : X.w = w
  K : X.K = K
  mg : X.mg = mg
  base : X.base = base
  N : X.N = N
  sc : X.env.scope = scope
  calm : X.calm = true
  fn : ∀ x, X.fn x = true
  room : Room k X.A
  guards : X.A.guards = some []
  pass : PassesOwn (model X.prog X.w) X.A X.env X.xe
section
variable {P : Program} {w : World} {K : PySem.W.Frag} {mg : Str → Option Value} {base : Heap} {x qual : Str} {params : Arguments} {body : List Stmt} {scope : Scope} {f : Addr} {fd : FuncData} {N ps : List Str} {k j : Nat} {sp : List V → Hp → VK → Prop}
theorem FnG.up (F : FnG P w K mg base j f fd ps sp) (h : j ≤ k) : FnG P w K mg base k f fd ps sp := ⟨F.cnt, fun A us vs Q H s outer args g r => F.go A us vs Q H s outer args g (r.mono h)⟩
theorem FnG.imp {sp' : List V → Hp → VK → Prop} (F : FnG P w K mg base k f fd ps sp) (h : ∀ vs H Q, sp' vs H Q → sp vs H Q) : FnG P w K mg base k f fd ps sp' :=
  ⟨fun vs H Q q => F.cnt vs H Q (h _ _ _ q), fun A us vs Q H s outer args g r e v q => F.go A us vs Q H s outer args g r e v (h _ _ _ q)⟩
/-- by its body -/
theorem fnG_of (F : FunD K x qual params body scope [] [] f fd) (S : FnScope N ps scope) (cnt : ∀ vs H Q, sp vs H Q → vs.length = ps.length)
    (hb : ∀ X, Own X P w K mg base N scope k → ∀ vs H Q, sp vs H Q → ∃ t, PSs X body t ∧ t { nx := fun _ H' => Q .non H', rt := Q } (L2.start N vs) H) : FnG P w K mg base (k + 1) f fd ps sp := by
  obtain ⟨oc, od, dV, kV, doc, pm, an, cdv, ct, osl, rfl, lk, hcd, _, _⟩ := F.ex
  refine ⟨cnt, fun A us vs Q H s outer args g hr e0 r hsp bd => ?_⟩
  have inK : K.In s.heap := e0.mod.kin.keeps fun b o e => (e0.bs b o e).1
  have noL : s.heap.NoLimit := e0.mod.nolimit.keeps fun b o e => (e0.bs b o e).1
  have kinds : ∀ y ∈ ps.zip us, scope.names.lookup y.1 = some .local ∨ (scope.names.lookup y.1 = some .cell ∧ ((cellsFrom (s.heap.objs.size + 1) scope.names []).lookup y.1).isSome = true) := by
    rintro ⟨n, v⟩ hy
    rcases S.par n (List.of_mem_zip hy).1 with q | q
    · exact .inl q
    · exact .inr ⟨q, PySem.W.cellsFrom_some _ _ _ (.inl q)⟩
  refine codeAny_call_function hr.depth (inK _ _ lk) rfl S.co S.gen rfl (PySem.W.codeRec_of inK hcd) (bd _ _ _ _ ?_)
  refine wpAny_newFunctionEnv_cells S.kind kinds fun env he s1 x => ?_
  subst he
  refine ⟨noL.keeps x.toInCall.keep, codeAny_func ?_⟩
  have I := inv_start (CX := CX0) (E := E0) S hr.hd e0 (cnt _ _ _ hsp) r x
  obtain ⟨t, ht, hq⟩ := hb (cxOf CX0 P w K mg base N qual scope f cdv A outer s H E0).nox ⟨rfl, rfl, rfl, rfl, rfl, rfl, rfl, rfl, fun _ => rfl, hr.deeper _, g, PassesOwn.never⟩ vs H Q hsp
  refine wpAny_mono (ht.nox.run [] s1 (L2.start N vs) H _ I hq) (fun fl s' hs => ?_) fun e s' hs => hs
  have done : ∀ (σ' : L2.St) (H' : Hp) (v : V) (u : Value), Inv (cxOf CX0 P w K mg base N qual scope f cdv A outer s H E0) [] σ' H' s' → RelV v u → Q v H' → CE outer P w H s Q u s' :=
    fun σ' H' v u J rv q => ⟨v, H', J.os, J.bare, J.base, J.hok, rv, q⟩
  cases fl with
  | next =>
    obtain ⟨σ', H', J, q⟩ := hs
    exact done σ' H' V.non Value.none J rfl q
  | ret u =>
    obtain ⟨v, σ', H', J, rv, q⟩ := hs
    exact done σ' H' v u J rv q
  | brk => exact hs.elim fun _ z => z.elim fun _ z => z.2.elim
  | cont => exact hs.elim fun _ z => z.elim fun _ z => z.2.elim
/-- a call of it -/
theorem FnG.call {X : Cx} (F : FnG X.prog X.w X.K X.mg X.base k f fd ps sp) (hr : Room k X.A) (g : X.A.guards = some []) (hb : Binds X.K fd ps []) : CallR X (.ref f) fun vs H Q => sp vs H Q := by
  intro pins s σ H vs us Q I r h
  have hl : us.length = ps.length := by rw [← r.length]; exact F.cnt _ _ _ h
  have bd := hb s us I.kIn (by rw [List.append_nil]; exact hl)
  rw [List.append_nil] at bd
  refine wpAny_call (codeAny_mono (F.go X.A us vs Q H s X.stack ⟨us, []⟩ g hr I.env0 r h bd) fun r s' hq => ?_)
  cases r with
  | error e => exact hq.elim
  | ok fl =>
    cases fl with
    | ret u => exact I.after hq
    | next => exact hq.elim
    | brk => exact hq.elim
    | cont => exact hq.elim

/-! ### a def by its code -/
/-- it answers as G does -/
def spD (np : Nat) (G : List SV → Option SV) : List V → Hp → VK → Prop := fun vs H Q => ∃ S as r, Same S H ∧ Paired (Rp S H) vs as ∧ (∀ a ∈ as, ownd a = false) ∧ as.length = np ∧ G as = some r ∧ ∀ v S' H', Ext S H S' H' → RpN H S' H' v r → Q v H'
theorem en_start {S H : Hp} {vs : List V} {as : List SV} {N : List Str} {n : Nat} (sh : Same S H) (r : Paired (Rp S H) vs as) (ho : ∀ a ∈ as, ownd a = false) (hn : N.length = n) (O : Addr → Prop) : EnR O S H (L2.start N vs) (startE n as) := by
  have hl := Paired.length r
  have at_ : ∀ (i : Nat) (q : SV), (startE n as)[i]? = some (some q) → as[i]? = some q := fun i q h => by
    unfold startE at h
    by_cases hi : i < as.length
    · rw [List.getElem?_append_left (by simpa using hi), List.getElem?_map] at h
      cases e : as[i]? with
      | none => rw [e] at h; cases h
      | some a => rw [e] at h; cases h; rfl
    · rw [List.getElem?_append_right (by simpa using hi), List.getElem?_replicate] at h
      split at h <;> cases h
  have no : ∀ (i : Nat) (q : SV), (startE n as)[i]? = some (some q) → ownd q = false := fun i q h => ho q (List.mem_of_getElem? (at_ i q h))
  have get : ∀ {vs : List V} {as : List SV} (i : Nat) (q : SV), Paired (Rp S H) vs as → as[i]? = some q → ∃ v, vs[i]? = some v ∧ Rp S H v q := by
    intro vs as i q r
    induction r generalizing i with
    | nil => intro h; simp at h
    | cons a _ ih =>
      cases i with
      | zero => intro h; simp at h; subst h; exact ⟨_, rfl, a⟩
      | succ i => intro h; obtain ⟨v, h1, h2⟩ := ih i (by simpa using h); exact ⟨v, by simpa using h1, h2⟩
  refine ⟨?_, sh, fun i q h => ?_, fun i j q q' a ne h1 h2 o1 => ?_, fun i q a h o => ?_⟩
  · unfold startE L2.start
    simp only [List.length_append, List.length_map, List.length_replicate]
    show as.length + (n - as.length) = vs.length + (N.length - vs.length)
    rw [hl, hn]
  · obtain ⟨v, h1, h2⟩ := get i q r (at_ i q h)
    refine ⟨v, ?_, h2⟩
    have hi : i < vs.length := (List.getElem?_eq_some_iff.mp h1).1
    unfold L2.start
    rw [List.getElem?_append_left (by simpa using hi), List.getElem?_map, h1]
    rfl
  · rw [no i q h1] at o1; cases o1
  · rw [no i q h] at o; cases o
end
end SW
set_option Elab.async false
set_option linter.all false
set_option maxRecDepth 100000
set_option maxHeartbeats 1000000
/-! Snd14: what stands behind the top; a def keeps what its code says. -/
namespace SW
open PySem PySem.Spec PyProof.Rows L2

/-! ### parameters -/
def parB (a : Arguments) (ps : List Str) : Bool := a.posonlyargs.isEmpty && a.kwonlyargs.isEmpty && a.vararg.isNone && a.kwarg.isNone && decide (a.args.map (·.arg) = ps)
theorem lookup_zip {α : Type} : ∀ {ps : List Str} {us : List α} {n : Str}, n ∈ ps → us.length = ps.length → ((ps.zip us).lookup n).isNone = false
  | [], _, _, h, _ => nomatch h
  | p :: r, [], _, _, h => nomatch h
  | p :: r, u :: us, n, h, hl => by
    rw [List.zip_cons_cons, List.lookup_cons]
    cases e : n == p with
    | true => rfl
    | false =>
      rcases List.mem_cons.mp h with rfl | h
      · rw [beq_self_eq_true] at e; cases e
      · exact lookup_zip h (Nat.succ.inj hl)
theorem filter_zip {α : Type} : ∀ {ps : List Str} {us : List α}, ps.Nodup → us.length = ps.length → (ps.filterMap fun n => ((ps.zip us).lookup n).map (n, ·)) = ps.zip us := by
  have go : ∀ (ps : List Str) (us : List α), us.length = ps.length → ps.Nodup → ∀ f : Str → Option α, (∀ n ∈ ps, f n = (ps.zip us).lookup n) → (ps.filterMap fun n => (f n).map (n, ·)) = ps.zip us := by
    intro ps
    induction ps with
    | nil => intro us _ _ f _; rfl
    | cons p r ih =>
      intro us hl nd f hf
      cases us with
      | nil => cases hl
      | cons u us =>
        have h1 : f p = some u := by rw [hf p (List.mem_cons_self ..), List.zip_cons_cons, List.lookup_cons, beq_self_eq_true]
        rw [List.filterMap_cons, h1, List.zip_cons_cons]
        show (p, u) :: _ = _
        rw [ih us (Nat.succ.inj hl) (List.nodup_cons.mp nd).2 f fun n hn => ?_]
        rw [hf n (List.mem_cons_of_mem _ hn), List.zip_cons_cons, List.lookup_cons]
        have : (n == p) = false := by
          have : n ≠ p := fun e => (List.nodup_cons.mp nd).1 (e ▸ hn)
          simpa using this
        rw [this]
  intro ps us nd hl
  exact go ps us hl nd _ fun _ _ => rfl
theorem bind_plain {x qual : Str} {a : Arguments} {body : List Stmt} {scope : Scope} {kV doc pm cdv ct : Value} {an : Option Addr} {ps : List Str} {us : List Value} (h : parB a ps = true) (nd : ps.Nodup) (hl : us.length = ps.length) :
    bindArgs (PySem.W.fnOf x qual a body scope .none kV doc pm an cdv ct) ⟨us, []⟩ = pure (ps.zip us) := by
  unfold parB at h
  obtain ⟨h, h5⟩ := and_true2 h
  obtain ⟨h, h4⟩ := and_true2 h
  obtain ⟨h, h3⟩ := and_true2 h
  obtain ⟨h1, h2⟩ := and_true2 h
  have h1 : a.posonlyargs = [] := List.isEmpty_iff.mp h1
  have h2 : a.kwonlyargs = [] := List.isEmpty_iff.mp h2
  have h3 : a.vararg = none := Option.isNone_iff_eq_none.mp h3
  have h4 : a.kwarg = none := Option.isNone_iff_eq_none.mp h4
  have h5 : a.args.map (·.arg) = ps := of_decide_eq_true h5
  have h6 : seqItems? .none = pure none := rfl
  have h7 : (ps.filter fun n => ((ps.zip us).lookup n).isNone) = [] := List.filter_eq_nil_iff.mpr fun n hn => by rw [lookup_zip hn hl]; exact Bool.false_ne_true
  have h8 := filter_zip nd hl
  unfold bindArgs
  simp only [PySem.W.fnOf, h1, h2, h3, h4, h5, h6, List.map_nil, List.nil_append, List.append_nil, List.forIn_nil, pure_bind, Option.getD_none, List.drop_nil, List.length_nil, Nat.sub_zero, Nat.zero_sub, List.take_length, h7, List.isEmpty_nil, List.zip_nil_right, hl, h8]
  simp

/-! ### one def, its code, its text -/
def scB (N ps : List Str) (sc : Scope) : Bool := decide (sc.kind = .function) && !sc.isCoroutine && !sc.isGenerator && decide N.Nodup && decide (N.take ps.length = ps) && ps.all (fun x => decide (sc.names.lookup x = some .local) || decide (sc.names.lookup x = some .cell)) && sc.names.all fun y => !decide (y.2 = .free)
theorem scB_ok {N ps : List Str} {sc : Scope} (h : scB N ps sc = true) : FnScope N ps sc := by
  unfold scB at h
  obtain ⟨h, h7⟩ := and_true2 h
  obtain ⟨h, h6⟩ := and_true2 h
  obtain ⟨h, h5⟩ := and_true2 h
  obtain ⟨h, h4⟩ := and_true2 h
  obtain ⟨h, h3⟩ := and_true2 h
  obtain ⟨h1, h2⟩ := and_true2 h
  refine ⟨of_decide_eq_true h1, by simpa using h2, by simpa using h3, of_decide_eq_true h4, of_decide_eq_true h5, fun x hx => ?_, fun y hy => ?_⟩
  · rcases Bool.or_eq_true_iff.mp (List.all_eq_true.mp h6 x hx) with z | z
    · exact .inl (of_decide_eq_true z)
    · exact .inr (of_decide_eq_true z)
  · have := List.all_eq_true.mp h7 y hy
    simpa using this
structure Ent where
  nm : Str
  N : List Str
  d : Df
  st : Stmt
def Ent.ps (e : Ent) : List Str := e.N.take e.d.np
def mcOf (nms : List Str) (N : List Str) : MC := ⟨N, fun f => nms[f]?⟩
def Ent.ok (nms : List Str) (g : Gr) (e : Ent) : Bool := scB e.N e.ps (defScope e.st) && parB (defArgs e.st) e.ps && decide (e.N.length = e.d.n) && Nat.ble e.d.np e.N.length && mSs (mcOf nms e.N) g e.d.body (defScope e.st) (defBody e.st)
abbrev Ent.fun (K : PySem.W.Frag) (e : Ent) (fa : Addr) (fd : FuncData) : Prop := FunD K (defName e.st) (defName e.st) (defArgs e.st) (defBody e.st) (defScope e.st) [] [] fa fd
/-- what the names of the module stand for -/
structure MgOk (mg : Str → Option Value) : Prop where
  blt : ∀ x ∈ bltN, mg x = none
  gcd : mg "gcd" = some (.builtin "math.gcd")
  con : ∀ x i, cst.lookup x = some i → ∃ t, mg x = some (.int i t)
/-- the functions that answer as F does -/
def Tbl (P : Program) (w : World) (K : PySem.W.Frag) (mg : Str → Option Value) (base : Heap) (nms : List Str) (k : Nat) (F : FT) : Prop :=
  ∀ (f : Nat) (n : Str), nms[f]? = some n → ∃ (fa : Addr) (fd : FuncData) (ps : List Str) (np : Nat), mg n = some (.ref fa) ∧ PySem.W.keepIn K (.ref fa) = true ∧ Binds K fd ps [] ∧ (∀ as r, F f as = some r → as.length = np) ∧ FnG P w K mg base k fa fd ps (spD np (F f))
section
variable {P : Program} {w : World} {K : PySem.W.Frag} {mg : Str → Option Value} {base : Heap} {nms N : List Str} {scope : Scope} {k : Nat} {F : FT} {W : Nat} {fa : Addr} {fd : FuncData} {g : Gr} {e : Ent} {X : Cx}
theorem Ent.binds (h : e.ok nms g = true) (f : e.fun K fa fd) : Binds K fd e.ps [] := by
  unfold Ent.ok at h
  obtain ⟨h, _⟩ := and_true2 h
  obtain ⟨h, _⟩ := and_true2 h
  obtain ⟨h, _⟩ := and_true2 h
  obtain ⟨h1, h2⟩ := and_true2 h
  have S := scB_ok h1
  have nd : e.ps.Nodup := S.nd.sublist (List.take_sublist _ _)
  exact FunD.bindsN f fun kV doc pm an cdv ct us hl => bind_plain h2 nd hl
theorem Own.xok (o : Own X P w K mg base N scope k) (m : MgOk mg) (nd : N.Nodup) : XOk (mcOf nms N) X scope true :=
  ⟨o.N, nd, o.sc, o.calm, by have := o.room.un; omega, fun _ => o.fn, fun x hx => by rw [o.mg]; exact m.blt x hx, by rw [o.mg]; exact m.gcd, fun x i h => by rw [o.mg]; exact m.con x i h⟩
theorem Own.calls (o : Own X P w K mg base N scope k) (T : Tbl P w K mg base nms k F) (N' : List Str) : CallA (mcOf nms N') F X := by
  intro Y sib f n as r hn hf
  obtain ⟨fa, fd, ps, np, h1, h2, h3, h4, h5⟩ := T f n hn
  have eP : P = Y.prog := by rw [sib.prog, o.prog]
  have ew : w = Y.w := by rw [sib.w, o.w]
  have eK : K = Y.K := by rw [sib.K, o.K]
  have em : mg = Y.mg := by rw [sib.mg, o.mg]
  have eb : base = Y.base := by rw [sib.base, o.base]
  have rm : Room k Y.A := by rw [sib.A]; exact o.room
  have gd : Y.A.guards = some [] := by rw [sib.A]; exact o.guards
  subst eP ew eK em eb
  refine ⟨fa, h1, h2, fun pins s σ S H us vs Q I rv sh rp ho q => ?_⟩
  exact h5.call rm gd h3 pins s σ H vs us Q I rv ⟨S, as, r, sh, rp, ho, h4 as r hf, hf, q⟩
theorem runD_some {d : Df} {as : List SV} {r : SV} (h : runD F W d as = some r) : as.length = d.np ∧ ∃ o, evS F W d.body (startE d.n as) = some o ∧ (o = .rt r ∨ ∃ ρ, o = .nx ρ ∧ r = .dat .none) := by
  unfold runD at h
  cases h1 : Nat.beq (lng as) d.np with
  | false => rw [h1] at h; cases h
  | true =>
    rw [h1] at h
    simp only [forceL_eq] at h
    have h2 : as.length = d.np := by rw [← lng_eq]; exact Nat.eq_of_beq_eq_true h1
    refine ⟨h2, ?_⟩
    cases h3 : evS F W d.body (startE d.n as) with
    | none => rw [h3] at h; cases h
    | some o =>
      rw [h3] at h
      refine ⟨o, rfl, ?_⟩
      cases o with
      | nx ρ => cases h; exact .inr ⟨ρ, rfl, rfl⟩
      | rt r => cases h; exact .inl rfl
      | bk ρ => cases h
/-- a body by its code, from its parameters on -/
theorem body_of {d : Df} {as : List SV} {r : SV} {vs : List V} {S H : Hp} {Q : VK} (hn : N.length = d.n) (sh : Same S H) (rp : Paired (Rp S H) vs as) (ho : ∀ a ∈ as, ownd a = false) (h : runD F W d as = some r) (q : ∀ v S' H', Ext S H S' H' → RpN H S' H' v r → Q v H') :
    rdS F W d.body { nx := fun _ H' => Q .non H', rt := Q } (L2.start N vs) H := by
  obtain ⟨_, o, h1, h2⟩ := runD_some h
  refine ⟨S, H, S, startE d.n as, o, .refl sh, en_start sh rp ho hn _, h1, ?_⟩
  rcases h2 with rfl | ⟨ρ, rfl, rfl⟩
  · exact q
  · exact fun σ' S' H' e _ _ => q .non S' H' e (.of .non)
theorem Own.sok (o : Own X P w K mg base N scope k) (m : MgOk mg) (nd : N.Nodup) (hk : scope.kind = .function) : SOk (mcOf nms N) X scope := ⟨o.xok m nd, o.pass, by rw [o.sc]; exact hk⟩
theorem code_ok (ok : e.ok nms g = true) (f : e.fun K fa fd) (m : MgOk mg) (T : Tbl P w K mg base nms k F) (G : ∀ X, Own X P w K mg base e.N (defScope e.st) k → GrowOk (mcOf nms e.N) F W g X) : FnG P w K mg base (k + 1) fa fd e.ps (spD e.d.np (runD F W e.d)) := by
  unfold Ent.ok at ok
  obtain ⟨ok, h5⟩ := and_true2 ok
  obtain ⟨ok, h4⟩ := and_true2 ok
  obtain ⟨ok, h3⟩ := and_true2 ok
  obtain ⟨h1, h2⟩ := and_true2 ok
  have S := scB_ok h1
  have hn : e.N.length = e.d.n := of_decide_eq_true h3
  refine fnG_of f S (fun vs H Q ⟨S, as, r, _, rp, _, hl, _⟩ => ?_) fun X o vs H Q ⟨S', as, r, sh, rp, ho, hl, hr, q⟩ => ⟨rdS F W e.d.body, (st_ok (o.sok m S.nd S.kind) (o.calls T e.N) (G X o) e.d.body).2 _ h5, body_of hn sh rp ho hr q⟩
  rw [Paired.length rp, hl]
  unfold Ent.ps
  rw [List.length_take]
  exact (Nat.min_eq_left (Nat.le_of_ble_eq_true h4)).symm
end
end SW
set_option Elab.async false
set_option linter.all false
set_option maxRecDepth 100000
set_option maxHeartbeats 1000000
/-! Snd15: repr of data; _law_like. -/
namespace SW
open PySem PySem.Spec PyProof.Rows L2

mutual
theorem eqP_true : ∀ (n : Nat) (d e : PyData), eqP n d e = true → d = e
  | n, .none, e, h => by cases e <;> cases n <;> simp [eqP] at h ⊢
  | n, .int i, e, h => by cases e <;> cases n <;> simp [eqP, eqI_eq] at h ⊢ <;> exact h
  | n + 1, .list xs, e, h => by
    cases e <;> simp [eqP] at h ⊢
    exact eqL_true n xs _ h
  | n + 1, .tuple xs, e, h => by
    cases e <;> simp [eqP] at h ⊢
    exact eqL_true n xs _ h
  | 0, .list _, e, h => by cases e <;> simp [eqP] at h
  | 0, .tuple _, e, h => by cases e <;> simp [eqP] at h
  | n, .bool _, e, h => by cases e <;> cases n <;> simp [eqP] at h
  | n, .str _, e, h => by cases e <;> cases n <;> simp [eqP] at h
  | n, .dict _, e, h => by cases e <;> cases n <;> simp [eqP] at h
theorem eqL_true : ∀ (n : Nat) (ds es : List PyData), eqL (eqP n) ds es = true → ds = es
  | _, [], [], _ => rfl
  | _, [], _ :: _, h => by simp [eqL] at h
  | _, _ :: _, [], h => by simp [eqL] at h
  | n, d :: r, e :: t, h => by
    simp only [eqL] at h
    cases h1 : eqP n d e with
    | false => rw [h1] at h; cases h
    | true =>
      rw [h1] at h
      rw [eqP_true n d e h1, eqL_true n r t h]
end
/-! ### data whose text is short -/
/-- shown without a limit, short -/
structure ShD (d : PyData) (b : Nat) (k : Nat) : Prop where
  sh : d.showable = true
  nd : d.hasDict = false
  lv : d.leavesShort 13 = true
  bk : d.bulk ≤ b
  dp : d.depth ≤ k
theorem shI_ok {d : PyData} (h : shI d = true) : ShD d 0 0 := by
  cases d with
  | int i =>
    have h : Nat.ble (absN i) 999999999999 = true := h
    have h := Nat.le_of_ble_eq_true h
    rw [absN_eq] at h
    refine ⟨?_, rfl, ?_, ?_, ?_⟩
    · simp only [PyData.showable, decide_eq_true_eq]
      by_cases h0 : i.natAbs = 0
      · rw [h0]; decide
      · exact (Nat.log2_lt h0).mpr (Nat.lt_of_le_of_lt h (by decide))
    · simp only [PyData.leavesShort, decide_eq_true_eq]
      exact PyData.shown_int_le (Nat.lt_of_le_of_lt h (by decide))
    · simp [PyData.bulk]
    · simp [PyData.depth]
  | none => cases h
  | bool _ => cases h
  | str _ => cases h
  | list _ => cases h
  | tuple _ => cases h
  | dict _ => cases h
theorem sh_all {b k n : Nat} : ∀ {xs : List PyData}, (∀ x ∈ xs, ShD x b k) → PyData.showableAll xs = true ∧ PyData.hasDictAll xs = false ∧ PyData.leavesShortAll 13 xs = true ∧ PyData.bulkAll xs ≤ xs.length * (b + 1) ∧ PyData.depthAll xs ≤ k
  | [], _ => ⟨by simp [PyData.showableAll], by simp [PyData.hasDictAll], by simp [PyData.leavesShortAll], by simp [PyData.bulkAll], by simp [PyData.depthAll]⟩
  | x :: r, h => by
    have h1 := h x (List.mem_cons_self ..)
    obtain ⟨a1, a2, a3, a4, a5⟩ := sh_all (n := n) (xs := r) fun y hy => h y (List.mem_cons_of_mem _ hy)
    refine ⟨by simp [PyData.showableAll, h1.sh, a1], by simp [PyData.hasDictAll, h1.nd, a2], by simp [PyData.leavesShortAll, h1.lv, a3], ?_, ?_⟩
    · have := h1.bk
      simp only [PyData.bulkAll, List.length_cons]
      rw [Nat.add_mul]
      omega
    · have := h1.dp
      simp only [PyData.depthAll]
      omega
theorem sh_tuple {b k n : Nat} {xs : List PyData} (h : ∀ x ∈ xs, ShD x b k) (hn : xs.length ≤ n) : ShD (.tuple xs) (n * (b + 1)) (k + 1) := by
  obtain ⟨a1, a2, a3, a4, a5⟩ := sh_all (n := n) h
  refine ⟨by simpa [PyData.showable] using a1, by simpa [PyData.hasDict] using a2, by simpa [PyData.leavesShort] using a3, ?_, ?_⟩
  · simp only [PyData.bulk]
    exact Nat.le_trans a4 (Nat.mul_le_mul_right _ hn)
  · simp only [PyData.depth]
    omega
theorem ShD.up {d : PyData} {b b' k k' : Nat} (h : ShD d b k) (h1 : b ≤ b') (h2 : k ≤ k') : ShD d b' k' := ⟨h.sh, h.nd, h.lv, Nat.le_trans h.bk h1, Nat.le_trans h.dp h2⟩
theorem shP_ok {d : PyData} (h : shP d = true) : ShD d 8 1 := by
  cases d with
  | tuple xs =>
    have h : ifB (Nat.ble (lng xs) 8) (xs.all shI) false = true := h
    cases h1 : Nat.ble (lng xs) 8 with
    | false => rw [h1] at h; cases h
    | true =>
      rw [h1] at h
      have h2 := Nat.le_of_ble_eq_true h1
      rw [lng_eq] at h2
      exact sh_tuple (n := 8) (b := 0) (k := 0) (fun x hx => shI_ok (List.all_eq_true.mp (show xs.all shI = true from h) x hx)) h2
  | int i => exact (shI_ok (d := .int i) h).up (by decide) (by decide)
  | none => cases h
  | bool _ => cases h
  | str _ => cases h
  | list _ => cases h
  | dict _ => cases h
theorem shOk_ok {xs : List PyData} (h : shOk xs = true) : ShD (.tuple xs) 9000 2 := by
  have h : ifB (Nat.ble (lng xs) 1000) (xs.all shP) false = true := h
  cases h1 : Nat.ble (lng xs) 1000 with
  | false => rw [h1] at h; cases h
  | true =>
    rw [h1] at h
    have h2 := Nat.le_of_ble_eq_true h1
    rw [lng_eq] at h2
    exact sh_tuple (n := 1000) (b := 8) (k := 1) (fun x hx => shP_ok (List.all_eq_true.mp (show xs.all shP = true from h) x hx)) h2
theorem likeE_some {as : List SV} {r : SV} (h : likeE as = some r) : ∃ xs, as = [.dat (.tuple xs), .dat (.tuple xs)] ∧ ShD (.tuple xs) 9000 2 ∧ r = .dat (.bool true) := by
  unfold likeE at h
  split at h
  · rename_i xs e
    cases h1 : shOk xs with
    | false => rw [h1] at h; cases h
    | true =>
      rw [h1] at h
      cases h2 : eqP 6 (.tuple xs) e with
      | false => rw [h2] at h; cases h
      | true =>
        rw [h2] at h
        cases h
        cases eqP_true 6 _ _ h2
        exact ⟨xs, rfl, shOk_ok h1, rfl⟩
  · cases h
/-! ### repr -/
def rRepr (K : PySem.W.Frag) : List V → Hp → VK → Prop := fun vs H Q => ∃ a d, vs = [.ref a] ∧ Dp K H (.ref a) d ∧ ShD d 9000 2 ∧ Q (.str d.shown) H
theorem cr_repr {X : Cx} (g : X.A.guards = some []) (hu : X.A.units + 70 < cLine) : CallR X (.builtin "repr") (rRepr X.K) := by
  intro pins s σ H vs us Q I rv ⟨a, d, e, dp, sd, q⟩
  subst e
  obtain ⟨u, rfl, ru⟩ := rv.one
  cases (show u = Value.ref a from ru)
  obtain ⟨as, rd⟩ := Dp.reads I d (.ref a) (.ref a) dp rfl
  refine repr_of_reads' rd sd.sh (fun h => by rw [sd.nd] at h; cases h) g (by have := sd.dp; omega) (fun b o e => e) (fun h' u tk hk => ⟨.str d.shown, H, I.kept (h' := h') (t' := tk) hk, ⟨u, rfl⟩, q⟩)
    (PyData.shown_fits_bulk (B := 13) (by decide) (by decide) sd.lv (Nat.le_trans sd.bk (by decide)))
theorem boot_repr' : bootBuiltins "repr" = some (.builtin "repr") := by rfl
def likeB (M : MC) (sc : Scope) (body : List Stmt) : Bool := match body with
  | [st] => vw (vRet st) fun e => vw (vCmp e) fun p => decide (p.2.1 = .Eq) && mC "repr" sc p.1 (a1 (mV M 0 sc)) && mC "repr" sc p.2.2 (a1 (mV M 1 sc)) && noSet p.2.2
  | _ => false
section
variable {P : Program} {w : World} {K : PySem.W.Frag} {mg : Str → Option Value} {base : Heap} {nms N : List Str} {scope : Scope} {k : Nat} {fa : Addr} {fd : FuncData} {e : Ent} {X : Cx}
theorem like_ok (h1 : scB e.N e.ps (defScope e.st) = true) (h2 : likeB (mcOf nms e.N) (defScope e.st) (defBody e.st) = true) (hn : e.ps.length = 2) (f : e.fun K fa fd) (m : MgOk mg) : FnG P w K mg base 1 fa fd e.ps (spD 2 likeE) := by
  have S := scB_ok h1
  refine fnG_of f S (fun vs H Q ⟨S, as, r, _, rp, _, hl, _⟩ => by rw [Paired.length rp, hl, hn]) fun X o vs H Q ⟨S', as, r, sh, rp, ho, hl, hr, q⟩ => ?_
  unfold likeB at h2
  split at h2
  · rename_i st hb
    rw [hb]
    obtain ⟨y, g1, g2⟩ := vw_true h2
    obtain ⟨pos, rfl⟩ := vRet_some g1
    obtain ⟨⟨y1, op, y2⟩, g3, g4⟩ := vw_true g2
    obtain ⟨p, rfl⟩ := vCmp_some g3
    obtain ⟨g4, g5⟩ := and_true2 g4
    obtain ⟨g4, g6⟩ := and_true2 g4
    obtain ⟨g4, g7⟩ := and_true2 g4
    cases (of_decide_eq_true g4 : op = .Eq)
    have x := o.xok (nms := nms) m S.nd
    have hu : X.A.units + 70 < cLine := by have := o.room.un; omega
    obtain ⟨z1, f1, w1⟩ := call1 x g7 (cr_repr o.guards hu) boot_repr' (by decide +kernel)
    obtain ⟨z2, f2, w2⟩ := call1 x g6 (cr_repr o.guards hu) boot_repr' (by decide +kernel)
    refine ⟨_, pss_one (ps_ret (pe_cmpR op_eq (w1 _ (mV_pe x f1)) (w2 _ (mV_pe x f2)) (mark_none g5 _))), ?_⟩
    obtain ⟨xs, rfl, sd, rfl⟩ := likeE_some hr
    cases rp with
    | cons r1 rp =>
      cases rp with
      | cons r2 rp =>
        cases rp
        obtain ⟨a1, vs1, rfl, d1, d2⟩ := dq_tup (show Dq S' _ (.tuple xs) from r1)
        obtain ⟨a2, vs2, rfl, d3, d4⟩ := dq_tup (show Dq S' _ (.tuple xs) from r2)
        have dp1 : Dp X.K H (.ref a1) (.tuple xs) := ((Dq.tup d1 d2).mono sh).dp
        have dp2 : Dp X.K H (.ref a2) (.tuple xs) := ((Dq.tup d3 d4).mono sh).dp
        refine ⟨.ref a1, rfl, a1, _, rfl, dp1, sd, .ref a2, rfl, a2, _, rfl, dp2, sd, rfl, ?_⟩
        rw [decide_eq_true rfl]
        exact q _ S' H (.refl sh) (.of (.bl true))
  · cases h2
end
end SW
set_option Elab.async false
set_option linter.all false
set_option maxRecDepth 100000
set_option maxHeartbeats 1000000
/-! Snd16: the def that lets a list grow. -/
namespace SW
open PySem PySem.Spec PyProof.Rows L2
def cLed (l : Nat) : C := .un (.call l) (.cons (.v 0) (.cons (.bi .ix (.v 1) (.un .neg (.k (.int 1)))) .nil))
def cTest : C := .bi (.cmp .le) (.un .len (.v 1)) (.v 2)
def grownS (l : Nat) : S := .seq (.whl cTest (.seq (.prim (.append 1) (.cons (cLed l) .nil)) .skip)) .skip
def enG (ns : PyData) (xs : List PyData) (k : Int) : En := [some (.dat ns), some (.own xs), some (.dat (.int k))]
theorem test_ev {F : FT} {ns : PyData} {xs : List PyData} {k : Int} : evC F cTest false (enG ns xs k) = some (.dat (.bool (leI (.ofNat (lng xs)) k))) := by
  show onI (dInt (.ofNat (lng xs))) (fun i => onI (some (.dat (.int k))) fun j => dBool (poI .le i j)) = _
  rw [dInt_eq]
  show dBool (leI (.ofNat (lng xs)) k) = _
  rw [dBool_eq]
theorem led_ev {F : FT} {l : Nat} {ns x : PyData} {xs : List PyData} {k : Int} (h : atI xs (.negSucc 0) = some x) : evC F (cLed l) false (enG ns xs k) = F l [.dat ns, .dat x] := by
  have h1 : evC F (.bi .ix (.v 1) (.un .neg (.k (.int 1)))) false (enG ns xs k) = some (.dat x) := by
    show onS (some (.dat (.list xs))) (fun ys => onI (onI (dInt 1) fun i => dInt (Int.neg i)) fun i => bnd (atI ys i) fun d => some (.dat d)) = _
    rw [dInt_eq]
    show onI (dInt (.negSucc 0)) (fun i => bnd (atI xs i) fun d => some (.dat d)) = _
    rw [dInt_eq]
    show bnd (atI xs (.negSucc 0)) (fun d => some (SV.dat d)) = _
    rw [h]
    rfl
  show onM (opCons (some (.dat ns)) (opCons (evC F (.bi .ix (.v 1) (.un .neg (.k (.int 1)))) false (enG ns xs k)) (some (.many [])))) (fun as => match argAll as with | some vs => F l vs | none => none) = _
  rw [h1]
  rfl
section
variable {P : Program} {w : World} {K : PySem.W.Frag} {mg : Str → Option Value} {base : Heap} {nms N : List Str} {k : Nat} {fa : Addr} {fd : FuncData} {e : Ent} {X : Cx} {F F' : FT} {W l : Nat} {g : Gr}
theorem growGo_up (h : ∀ as y, F l as = some y → F' l as = some y) {ns : PyData} {k : Int} : ∀ {n : Nat} {xs ys : List PyData}, growGo F l ns k n xs = some ys → growGo F' l ns k n xs = some ys
  | 0, _, _, z => by cases z
  | n + 1, xs, ys, z => by
    have z : (match leI (.ofNat (lng xs)) k with | true => (match atI xs (.negSucc 0) with | none => none | some x => match dOf (F l [.dat ns, .dat x]) with | some y => (match lenOk xs with | true => growGo F l ns k n (xs ++ [y]) | false => none) | none => none) | false => some xs) = some ys := z
    show (match leI (.ofNat (lng xs)) k with | true => (match atI xs (.negSucc 0) with | none => none | some x => match dOf (F' l [.dat ns, .dat x]) with | some y => (match lenOk xs with | true => growGo F' l ns k n (xs ++ [y]) | false => none) | none => none) | false => some xs) = some ys
    cases h1 : leI (.ofNat (lng xs)) k with
    | false => rw [h1] at z; exact z
    | true =>
      rw [h1] at z
      simp only at z ⊢
      cases h2 : atI xs (.negSucc 0) with
      | none => rw [h2] at z; cases z
      | some x =>
        rw [h2] at z
        simp only at z ⊢
        cases h3 : dOf (F l [.dat ns, .dat x]) with
        | none => rw [h3] at z; cases z
        | some y =>
          rw [h3] at z
          obtain ⟨q, h4, h5⟩ := dOf_some h3
          have h6 : dOf (F' l [.dat ns, .dat x]) = some y := by rw [h _ _ h4]; exact h5
          rw [h6]
          simp only at z ⊢
          cases h7 : lenOk xs with
          | false => rw [h7] at z; cases z
          | true =>
            rw [h7] at z
            simp only at z ⊢
            exact growGo_up h z
theorem rGrow_up (h : ∀ as y, F l as = some y → F' l as = some y) {vs : List V} {H : Hp} {Q : VK} (z : rGrow F l W vs H Q) : rGrow F' l W vs H Q := by
  obtain ⟨S, ns, v, k, a, ws, xs, ys, h1, h2, h3, h4, h5, h6, h7, h8⟩ := z
  exact ⟨S, ns, v, k, a, ws, xs, ys, h1, h2, h3, h4, h5, h6, growGo_up h h7, h8⟩
theorem en_grow {S H : Hp} {v : V} {ns : PyData} {a : Addr} {zs : List V} {xs : List PyData} {k : Int} (sh : Same S H) (h1 : S a = none) (h2 : H a = some (.lst zs)) (h3 : DqA S zs xs) (h4 : Dq S v ns) : EnR (fun _ => True) S H [some v, some (.ref a), some (.int k)] (enG ns xs k) := by
  have own1 : ∀ (i : Nat) (r : SV), (enG ns xs k)[i]? = some (some r) → ownd r = true → i = 1 := fun i r h o => by
    match i, h with
    | 0, h => cases h; cases o
    | 1, h => rfl
    | 2, h => cases h; cases o
    | i + 3, h => simp [enG] at h
  refine ⟨rfl, sh, fun i r h => ?_, fun i j r r' b ne e1 e2 o1 o2 => absurd ((own1 i r e1 o1).trans (own1 j r' e2 o2).symm) ne, fun _ _ _ _ _ _ => trivial⟩
  match i, h with
  | 0, h => cases h; exact ⟨_, rfl, h4⟩
  | 1, h => cases h; exact ⟨_, rfl, a, zs, rfl, h1, h2, h3⟩
  | 2, h => cases h; exact ⟨_, rfl, .int k⟩
  | i + 3, h => simp [enG] at h
theorem grow_read {vs : List V} {H : Hp} {Q : VK} (z : rGrow F l W vs H Q) (hN : N.length = 3) :
    tSeq (tWhile (rdT F cTest) (tSeq (tDrop (tBM K "list" rAppend (tVar 1) (tCons (rdD F (cLed l)) tNil))) tNext)) tNext { nx := fun _ H' => Q .non H', rt := Q } (L2.start N vs) H := by
  obtain ⟨S, ns, v, k, a, ws, xs, ys, rfl, sh, h1, h2, h3, h4, h5, h6⟩ := z
  have e0 : L2.start N [v, .ref a, .int k] = [some v, some (.ref a), some (.int k)] := by
    unfold L2.start
    rw [hN]
    rfl
  rw [e0]
  refine ⟨fun m σ H1 => σ = [some v, some (.ref a), some (.int k)] ∧ ∃ S1 zs xs', Ext S (delH H a) S1 (delH H1 a) ∧ H1 a = some (.lst zs) ∧ DqA S1 zs xs' ∧ growGo F l ns k m xs' = some ys,
    ⟨W, rfl, S, ws, xs, .refl fun b o z => ?_, h2, h3, h5⟩, ?_⟩
  · rw [del_ne (ne_of_none z h1)]
    exact sh _ _ z
  rintro m σ H1 ⟨rfl, S1, zs, xs', e1, g1, g2, g3⟩
  cases m with
  | zero => cases g3
  | succ m =>
    have s1 : S1 a = none := e1.sh.free del_eq
    have I := en_grow (k := k) (e1.sh.trans del_sub) s1 g1 g2 (h4.mono e1.ss)
    refine ⟨_, S1, _, _, I, test_ev, fun S2 H2 e2 => ?_⟩
    have g4 := e2.hh _ _ g1
    have g5 := g2.mono e2.ss
    have e12 := e1.trans (e2.del s1 g1)
    have g3 : (match leI (.ofNat (lng xs')) k with | true => (match atI xs' (.negSucc 0) with | none => none | some x => match dOf (F l [.dat ns, .dat x]) with | some y => (match lenOk xs' with | true => growGo F l ns k m (xs' ++ [y]) | false => none) | none => none) | false => some xs') = some ys := g3
    cases hb : leI (.ofNat (lng xs')) k with
    | false =>
      rw [hb] at g3
      cases g3
      simp only [Bool.false_eq_true, if_false]
      exact h6 .non S2 H2 zs e12 g4 g5
    | true =>
      rw [hb] at g3
      simp only [if_true] at g3 ⊢
      refine ⟨fun σ' H' => σ' = [some v, some (.ref a), some (.int k)] ∧ ∃ S1 zs xs', Ext S (delH H a) S1 (delH H' a) ∧ H' a = some (.lst zs) ∧ DqA S1 zs xs' ∧ growGo F l ns k m xs' = some ys, fun σ' H' z => ⟨m, Nat.lt_succ_self m, z⟩, ?_⟩
      cases hx : atI xs' (.negSucc 0) with
      | none => rw [hx] at g3; cases g3
      | some x =>
        rw [hx] at g3
        simp only at g3
        cases hy : dOf (F l [.dat ns, .dat x]) with
        | none => rw [hy] at g3; cases g3
        | some y =>
          rw [hy] at g3
          simp only at g3
          cases hl : lenOk xs' with
          | false => rw [hl] at g3; cases g3
          | true =>
            rw [hl] at g3
            simp only at g3
            obtain ⟨r, hr, hd⟩ := dOf_some hy
            refine ⟨_, rfl, .inl ⟨rfl, zs, SqL.of g4⟩, _, S2, _, r, y, I.ext e2, ?_, hd, fun u S3 H3 e3 r3 => ?_⟩
            · rw [led_ev hx]; exact hr
            · have s2 : S2 a = none := e2.out s1 g1
              have g6 := e3.hh _ _ g4
              refine ⟨a, zs, u, rfl, rfl, g6, by have := lenOk_le hl; have := line6; rw [g2.length]; omega, rfl, S3, _, xs' ++ [y], ?_, upd_same, (g5.mono e3.ss).append (.cons r3 .nil), g3⟩
              rw [del_upd]
              exact e12.trans (e3.del s2 g4)
theorem grown_ok (ok : e.ok nms g = true) (hd : e.d.body = grownS l) (hps : e.ps.length = 3) (hN : e.N.length = 3) (f : e.fun K fa fd) (m : MgOk mg) (T : Tbl P w K mg base nms k F) : FnG P w K mg base (k + 1) fa fd e.ps (rGrow F l W) := by
  unfold Ent.ok at ok
  obtain ⟨ok, h5⟩ := and_true2 ok
  obtain ⟨ok, h4⟩ := and_true2 ok
  obtain ⟨ok, h3⟩ := and_true2 ok
  obtain ⟨h1, h2⟩ := and_true2 ok
  have S := scB_ok h1
  rw [hd] at h5
  refine fnG_of f S (fun vs H Q z => by obtain ⟨S, ns, v, k, a, ws, xs, ys, rfl, _⟩ := z; rw [hps]; rfl) fun X o vs H Q z => ⟨_, ?_, grow_read (K := X.K) z hN⟩
  cases hb : defBody e.st with
  | nil => rw [hb] at h5; cases h5
  | cons st rest =>
    rw [hb] at h5
    obtain ⟨h6, h7⟩ := and_true2 (show (mS (mcOf nms e.N) g (.whl cTest (.seq (.prim (.append 1) (.cons (cLed l) .nil)) .skip)) (defScope e.st) st && rest.isEmpty) = true from h5)
    have h7 : rest = [] := List.isEmpty_iff.mp h7
    subst h7
    obtain ⟨⟨t, b⟩, h8, h9⟩ := vw_true (show vw (vWhl st) (fun p => tOk p.1 && mE (mcOf nms e.N) cTest (defScope e.st) p.1 && mSs (mcOf nms e.N) g (.seq (.prim (.append 1) (.cons (cLed l) .nil)) .skip) (defScope e.st) p.2) = true from h6)
    obtain ⟨pos, rfl⟩ := vWhl_some h8
    obtain ⟨h9, h10⟩ := and_true2 h9
    obtain ⟨h9, h11⟩ := and_true2 h9
    have x := o.xok (nms := nms) m S.nd
    have hc := o.calls T e.N
    refine pss_cons (ps_while o.pass ((ev_ok (F := F) cTest X _ true x hc).pt t h11 h9) ?_) pss_nil
    cases b with
    | nil => cases h10
    | cons st2 rest2 =>
      obtain ⟨h12, h13⟩ := and_true2 (show (mP (mcOf nms e.N) g (defScope e.st) st2 (.cons (cLed l) .nil) (.append 1) && rest2.isEmpty) = true from h10)
      have h13 : rest2 = [] := List.isEmpty_iff.mp h13
      subst h13
      exact pss_cons (p_append0 x hc h12) pss_nil
end
end SW
set_option Elab.async false
set_option linter.all false
set_option maxRecDepth 100000
set_option maxHeartbeats 1000000
/-! Snd17: all defs, by depth. -/
namespace SW
open PySem PySem.Spec PyProof.Rows L2
/-- the text's pure defs, in the order of their numbers; _law_like behind them -/
structure TabOk (ents : List Ent) (el : Ent) (nms : List Str) (D : Nat → Option Df) (L : Nat) (g : Gr) (W : Nat) (dl : Df) : Prop where
  nm : nms = ents.map Ent.nm ++ [el.nm]
  D_ : ∀ f, D f = (ents[f]?).map Ent.d
  L_ : L = ents.length
  ok : ∀ e ∈ ents, e.ok nms g = true
  sc : scB el.N el.ps (defScope el.st) = true
  parl : parB (defArgs el.st) el.ps = true
  like : likeB (mcOf nms el.N) (defScope el.st) (defBody el.st) = true
  two : el.ps.length = 2
  grw : ∃ e, ents[g.f]? = some e ∧ e.d.body = grownS g.l ∧ e.ps.length = 3 ∧ e.N.length = 3
  led : ∃ e, ents[g.l]? = some e ∧ e.d = dl ∧ e.ok nms ⟨100000, g.l⟩ = true
  ind : ∀ (F : FT) as, runD F W dl as = runD (fun _ _ => none) W dl as
  big : nms.length ≤ 100000
/-- where they stand -/
def Stand (K : PySem.W.Frag) (mg : Str → Option Value) (e : Ent) : Prop := ∃ (fa : Addr) (fd : FuncData), mg e.nm = some (.ref fa) ∧ e.fun K fa fd
section
variable {P : Program} {w : World} {K : PySem.W.Frag} {mg : Str → Option Value} {base : Heap} {ents : List Ent} {el : Ent} {nms : List Str} {D : Nat → Option Df} {L : Nat} {g : Gr} {W : Nat} {dl : Df}
theorem TabOk.name (t : TabOk ents el nms D L g W dl) {f : Nat} {n : Str} (h : nms[f]? = some n) : (∃ e, ents[f]? = some e ∧ e ∈ ents ∧ n = e.nm) ∨ (f = L ∧ n = el.nm) := by
  rw [t.nm] at h
  by_cases hf : f < ents.length
  · rw [List.getElem?_append_left (by simpa using hf), List.getElem?_map] at h
    cases e : ents[f]? with
    | none => rw [e] at h; cases h
    | some e' =>
      rw [e] at h
      cases h
      exact .inl ⟨e', rfl, List.mem_of_getElem? e, rfl⟩
  · rw [List.getElem?_append_right (by simpa using hf)] at h
    have hl : f - (ents.map Ent.nm).length < 1 := (List.getElem?_eq_some_iff.mp h).1
    have h0 : f - (ents.map Ent.nm).length = 0 := by omega
    rw [h0] at h
    cases h
    rw [List.length_map] at h0
    exact .inr ⟨by rw [t.L_]; omega, rfl⟩
theorem spD_none {np : Nat} {vs : List V} {H : Hp} {Q : VK} (h : spD np (fun _ => none) vs H Q) : False := by
  obtain ⟨_, _, _, _, _, _, _, z, _⟩ := h
  cases z
theorem FnG.no {k : Nat} {fa : Addr} {fd : FuncData} {ps : List Str} {np : Nat} : FnG P w K mg base k fa fd ps (spD np fun _ => none) := ⟨fun _ _ _ h => (spD_none h).elim, fun _ _ _ _ _ _ _ _ _ _ _ _ h => (spD_none h).elim⟩
theorem Ent.binds0 {e : Ent} {fa : Addr} {fd : FuncData} (h1 : scB e.N e.ps (defScope e.st) = true) (h2 : parB (defArgs e.st) e.ps = true) (f : e.fun K fa fd) : Binds K fd e.ps [] :=
  FunD.bindsN f fun kV doc pm an cdv ct us hl => bind_plain h2 ((scB_ok h1).nd.sublist (List.take_sublist _ _)) hl
/-- a table whose functions promise nothing, but for some -/
theorem TabOk.tbl (t : TabOk ents el nms D L g W dl) (st : ∀ e ∈ ents, Stand K mg e) (sl : Stand K mg el) {k : Nat} {F : FT} (np : Nat → Nat) (hn : ∀ f as r, F f as = some r → as.length = np f)
    (h1 : ∀ f e fa fd, ents[f]? = some e → e ∈ ents → e.fun K fa fd → FnG P w K mg base k fa fd e.ps (spD (np f) (F f))) (h2 : ∀ fa fd, el.fun K fa fd → FnG P w K mg base k fa fd el.ps (spD (np L) (F L))) : Tbl P w K mg base nms k F := by
  intro f n h
  rcases t.name h with ⟨e, he, hm, rfl⟩ | ⟨rfl, rfl⟩
  · obtain ⟨fa, fd, hg, hf⟩ := st e hm
    exact ⟨fa, fd, e.ps, np f, hg, hf.kp, Ent.binds (t.ok e hm) hf, hn f, h1 f e fa fd he hm hf⟩
  · obtain ⟨fa, fd, hg, hf⟩ := sl
    exact ⟨fa, fd, el.ps, np f, hg, hf.kp, Ent.binds0 t.sc t.parl hf, hn f, h2 fa fd hf⟩
theorem TabOk.led_ok (t : TabOk ents el nms D L g W dl) (m : MgOk mg) (st : ∀ e ∈ ents, Stand K mg e) (sl : Stand K mg el) : Tbl P w K mg base nms 1 fun f as => ifB (Nat.beq f g.l) (runD (fun _ _ => none) W dl as) none := by
  have T0 : Tbl P w K mg base nms 0 fun _ _ => none := t.tbl st sl (fun _ => 0) (fun _ _ _ h => nomatch h) (fun _ _ _ _ _ _ _ => .no) fun _ _ _ => .no
  obtain ⟨e0, h1, h2, h3⟩ := t.led
  refine t.tbl st sl (fun _ => dl.np) (fun f as r h => ?_) (fun f e fa fd he hm hf => ?_) fun fa fd hf => ?_
  · obtain ⟨_, h⟩ := ifB_some h
    exact (runD_some h).1
  · by_cases q : f = g.l
    · subst q
      rw [h1] at he
      cases he
      have := code_ok (P := P) (w := w) (base := base) (W := W) h3 hf m T0 fun X _ n hn => by
        have hn : nms[100000]? = some n := hn
        have := (List.getElem?_eq_some_iff.mp hn).1
        have := t.big
        omega
      rw [h2] at this
      refine this.imp fun vs H Q z => ?_
      rw [show Nat.beq g.l g.l = true from Nat.beq_refl _] at z
      exact z
    · have : Nat.beq f g.l = false := by rw [beqN]; exact decide_eq_false q
      rw [this]
      exact .no
  · by_cases q : L = g.l
    · exfalso
      have := (List.getElem?_eq_some_iff.mp h1).1
      rw [← q, t.L_] at this
      omega
    · have : Nat.beq L g.l = false := by rw [beqN]; exact decide_eq_false q
      rw [this]
      exact .no
theorem TabOk.grow (t : TabOk ents el nms D L g W dl) (m : MgOk mg) (st : ∀ e ∈ ents, Stand K mg e) (sl : Stand K mg el) (k : Nat) {N : List Str} {scope : Scope} (X : Cx) (o : Own X P w K mg base N scope (k + 2)) : GrowOk (mcOf nms N) (Fk D L W k) W g X := by
  intro n hn
  obtain ⟨e, h1, h2, h3, h4⟩ := t.grw
  have hm := List.mem_of_getElem? h1
  obtain ⟨fa, fd, hg, hf⟩ := st e hm
  have en : n = e.nm := by
    rcases t.name (show nms[g.f]? = some n from hn) with ⟨e', he', _, rfl⟩ | ⟨q, _⟩
    · rw [h1] at he'; cases he'; rfl
    · have := (List.getElem?_eq_some_iff.mp h1).1
      rw [q, t.L_] at this
      omega
  subst en
  have G := grown_ok (W := W) (l := g.l) (t.ok e hm) h2 h3 h4 hf m (t.led_ok (P := P) (w := w) (base := base) m st sl)
  have b := Ent.binds (t.ok e hm) hf
  have kp := hf.kp
  have G := (G.up (show 1 + 1 ≤ k + 2 by omega)).imp (sp' := rGrow (Fk D L W k) g.l W) fun vs H Q z => rGrow_up (fun as y h => by
    cases k with
    | zero => cases h
    | succ k =>
      obtain ⟨e0, h5, h6, _⟩ := t.led
      have hD : D g.l = some dl := by rw [t.D_, h5, ← h6]; rfl
      have h : (match D g.l with | none => ifB (Nat.beq g.l L) (likeE as) none | some d => runD (Fk D L W k) W d as) = some y := h
      rw [hD] at h
      show ifB (Nat.beq g.l g.l) (runD (fun _ _ => none) W dl as) none = some y
      rw [show Nat.beq g.l g.l = true from Nat.beq_refl _, ← t.ind (Fk D L W k)]
      exact h) z
  have rm := o.room
  have gd := o.guards
  have eP := o.prog
  have ew := o.w
  have eK := o.K
  have em := o.mg
  have eb := o.base
  subst eP ew eK em eb
  exact ⟨fa, hg, kp, G.call rm gd b⟩
theorem TabOk.level (t : TabOk ents el nms D L g W dl) (m : MgOk mg) (st : ∀ e ∈ ents, Stand K mg e) (sl : Stand K mg el) : ∀ k, Tbl P w K mg base nms (k + 2) (Fk D L W k)
  | 0 => t.tbl st sl (fun _ => 0) (fun _ _ _ h => nomatch h) (fun _ _ _ _ _ _ _ => .no) fun _ _ _ => .no
  | k + 1 => by
    have ih := TabOk.level t m st sl k
    have hL : D L = none := by rw [t.D_, t.L_, List.getElem?_eq_none (Nat.le_refl _)]; rfl
    have eL : Fk D L W (k + 1) L = likeE := by
      funext as
      show (match D L with | none => ifB (Nat.beq L L) (likeE as) none | some d => runD (Fk D L W k) W d as) = _
      rw [hL, show Nat.beq L L = true from Nat.beq_refl _]
      rfl
    have eD : ∀ f e, ents[f]? = some e → Fk D L W (k + 1) f = runD (Fk D L W k) W e.d := fun f e he => by
      funext as
      show (match D f with | none => ifB (Nat.beq f L) (likeE as) none | some d => runD (Fk D L W k) W d as) = _
      rw [t.D_, he]
      rfl
    refine t.tbl st sl (fun f => match ents[f]? with | some e => e.d.np | none => 2) (fun f as r h => ?_) (fun f e fa fd he hm hf => ?_) fun fa fd hf => ?_
    · cases he : ents[f]? with
      | some e => rw [eD f e he] at h; exact (runD_some h).1
      | none =>
        have h : (match D f with | none => ifB (Nat.beq f L) (likeE as) none | some d => runD (Fk D L W k) W d as) = some r := h
        rw [t.D_, he] at h
        obtain ⟨_, h⟩ := ifB_some (show ifB (Nat.beq f L) (likeE as) none = some r from h)
        obtain ⟨xs, rfl, _⟩ := likeE_some h
        rfl
    · rw [eD f e he]
      simp only [he]
      exact code_ok (t.ok e hm) hf m ih fun X o => t.grow m st sl k X o
    · rw [eL]
      have : ents[L]? = none := by rw [t.L_]; exact List.getElem?_eq_none (Nat.le_refl _)
      simp only [this]
      exact (like_ok t.sc t.like t.two hf m).up (by omega)
end
end SW
set_option Elab.async false
set_option linter.all false
set_option maxRecDepth 100000
/-! Rw2: the row's defs and their codes. -/
namespace SW
open PySem
def ents : List Ent := tab.map fun e => ⟨Str.ofString e.1, e.2.1, e.2.2.1, top e.2.2.2⟩
def gr : Gr := ⟨70, 63⟩
def elike : Ent := ⟨"_law_like", ["_law_got", "_law_due"], ⟨2, 2, .skip⟩, top 146⟩
def nms : List Str := ents.map Ent.nm ++ [elike.nm]
set_option maxHeartbeats 0
theorem ents_ok : ents.all (fun e => e.ok nms gr) = true := by decide +kernel
theorem led_ok1 : (⟨"led", n_led, c_led, top 89⟩ : Ent).ok nms ⟨100000, 63⟩ = true := by decide +kernel
theorem tabOk : TabOk ents elike nms tD 110 gr 3000 c_led where
  nm := rfl
  D_ := fun f => by
    unfold tD
    rw [nth_eq, ← List.getElem?_map]
    rfl
  L_ := rfl
  ok := fun e h => List.all_eq_true.mp ents_ok e h
  sc := by decide +kernel
  parl := by decide +kernel
  like := by decide +kernel
  two := rfl
  grw := ⟨_, rfl, rfl, rfl, rfl⟩
  led := ⟨_, rfl, rfl, led_ok1⟩
  ind := fun _ _ => rfl
  big := by decide +kernel
end SW
set_option Elab.async false
set_option linter.all false
set_option maxRecDepth 100000
set_option maxHeartbeats 1000000
/-! St0: rules in the words of the checks; the state of the draws. -/
namespace SW
open PySem PySem.Spec PyProof.Rows L2
section
variable {M : MC} {X : Cx} {sc : Scope} {tg e a b : Expr} {es : List Expr} {p q pos : Pos} {ta tb te : TE} {i : Nat} {fa : Addr} {r : List V → Hp → VK → Prop} {n : Str}
theorem vr {cl : Bool} (x : XOk M X sc cl) (i : Nat) (h : mV M i sc e = true := by decide +kernel) : PE X e (tVar i) := mV_pe x h
theorem setS (x : XOk M X sc true) (i : Nat) (he : PE X e te) (h : mLoc M true i sc tg = true := by decide +kernel) (hn : noComp e = true := by decide +kernel) : PS X (.Assign [tg] e pos) (tAsg te (gName i)) := by
  obtain ⟨y, p, rfl, hx, hk⟩ := mLoc_some h
  have nd : X.N.Nodup := by rw [x.hN]; exact x.nd
  refine ps_set nd (by rw [x.hN]; exact hx) ?_ he (comp_none hn _ _) (.inl (x.fn rfl y))
  rw [x.hsc]
  rcases hk with k | k
  · exact .inl k
  · exact .inr k.2
theorem int1 (x : XOk M X sc true) (ha : PE X a ta) (hg : gl sc "int" = true := by decide +kernel) (hs : noStar a = true := by decide +kernel) :
    PE X (.Call (.Name "int" p) [a] [] q) (tCB (fun xs H Q => (∃ i, xs = [.int i] ∧ Q (.int i) H) ∨ ∃ k, xs = [.bl k] ∧ Q (.int (if k then 1 else 0)) H) (tCons ta tNil)) :=
  pe_callTy call_int1 (x.gl hg) (x.blt "int" (by decide +kernel)) (by decide +kernel) (pa_cons ha pa_nil (star1 hs)) (by decide +kernel) (by decide +kernel) (star1 hs) any_nil
theorem len1 (x : XOk M X sc true) (ha : PE X a ta) (hg : gl sc "len" = true := by decide +kernel) (hs : noStar a = true := by decide +kernel) : PE X (.Call (.Name "len" p) [a] [] q) (tCB (rLen X.K) (tCons ta tNil)) :=
  pe_callB call_len (x.gl hg) (x.blt "len" (by decide +kernel)) boot_len (pa_cons ha pa_nil (star1 hs)) (by decide +kernel) (by decide +kernel) (star1 hs) any_nil
theorem ixS (ha : PE X a ta) (hb : PE X b tb) (h : noSlice b = true := by decide +kernel) : PE X (.Subscript a b pos) (tOp (rIx X.K) ta tb) := pe_ix ix_seq ha hb (sub_plain h)
theorem dgetS (x : XOk M X sc true) (ha : PE X a ta) (hb : PE X b tb) (h : noSlice b = true := by decide +kernel) : PE X (.Subscript a b pos) (tDGet ta tb) := pe_dget (by have := x.units; omega) ha hb (sub_plain h)
/-- a call of a def that stands at fa -/
theorem callF {cl : Bool} (x : XOk M X sc cl) {t : TA} (hm : X.mg n = some (.ref fa)) (hk : PySem.W.keepIn X.K (.ref fa) = true) (hc : CallR X (.ref fa) r) (ha : PA X (e :: es) t) (hg : gl sc n = true := by decide +kernel) (hn : okN n = true := by decide +kernel) (hs : noStar e = true := by decide +kernel) (hss : es.all noStar = true := by decide +kernel) :
    PE X (.Call (.Name n p) (e :: es) [] pos) (fun σ H Q => t σ H fun vs H1 => r vs H1 Q) := by
  refine ⟨fun pins s σ H Q I w => wpAny_Call_Name_kw (ld_glob I (x.gl hg) hm ?_ (okN_1 hn))⟩
  refine PySem.W.callWith_K (h₀ := X.base) I.ok.mod.kin hk (thn (ha.run pos pins s σ H _ I w) fun us s1 ⟨vs, H1, I1, r1, q1⟩ => ⟨I1.kIn, hc pins s1 σ H1 vs us Q I1 r1 q1⟩) (star_cons hs es) ?_
  clear ha
  induction es with
  | nil => rfl
  | cons z zs ih =>
    have h1 := List.all_eq_true.mp hss z (List.mem_cons_self ..)
    rw [star_cons h1 zs]
    exact ih (List.all_eq_true.mpr fun y hy => List.all_eq_true.mp hss y (List.mem_cons_of_mem _ hy))
theorem setSub (he : PE X e te) (ha : PE X a ta) (hb : PE X b tb) (h : noSlice b = true := by decide +kernel) (hn : noComp e = true := by decide +kernel) : PS X (.Assign [.Subscript a b p] e pos) (tAsg te (gSub ta tb rSetL)) :=
  ps_asg he (pg_sub ha hb set_list (sub_assign h)) (show swapsWith e (some (.Subscript a b p)) pos.line X.env = pure false from comp_none hn _ _) rfl
theorem arg (ha : PE X e ta) {t : TA} (hr : PA X es t) (hs : noStar e = true := by decide +kernel) : PA X (e :: es) (tCons ta t) := pa_cons ha hr (star_cons hs es)
end
/-! ### values that come and leave the heap as it is -/
def EvT (t : TE) (σ : L2.St) (H : Hp) (v : V) : Prop := ∀ Q : VK, Q v H → t σ H Q
section
variable {σ : L2.St} {H : Hp} {ta tb : TE} {i j : Int} {v y : V} {a : Addr} {K : PySem.W.Frag} {xs : List V}
theorem evRet {D : Ends} (h : EvT ta σ H v) (q : D.rt v H) : tRet ta D σ H := h _ q
theorem evSet {D : Ends} {i : Nat} {u : TS} (h : EvT ta σ H v) (q : u D (σ.set i (some v)) H) : tSeq (tAsg ta (gName i)) u D σ H := h _ q
theorem evPut {D : Ends} {u : TS} {td ty tv : TE} {H' : Hp} (hv : EvT tv σ H v) (ho : EvT td σ H (.ref a)) (hk : EvT ty σ H y) (h : DPut H a y v H') (q : u D σ H') : tSeq (sDPut td ty tv) u D σ H := hv _ (ho _ (hk _ ⟨a, H', rfl, h, q⟩))
theorem evSub {D : Ends} {u : TS} {to ti te : TE} {k : Int} {n : Nat} (hv : EvT te σ H v) (ho : EvT to σ H (.ref a)) (hi : EvT ti σ H (.int k)) (hp : H a = some (.lst xs)) (hj : L2.ixN xs.length k = some n) (q : u D σ (upd H a (.lst (xs.set n v)))) : tSeq (tAsg te (gSub to ti rSetL)) u D σ H :=
  hv _ (ho _ (hi _ ⟨a, xs, k, n, rfl, rfl, hp, hj, q⟩))
theorem evIf {D : Ends} {u p r : TS} {t : TE} {k : Bool} (h : EvT t σ H (.bl k)) (h1 : k = true → p { D with nx := u D } σ H) (h2 : k = false → r { D with nx := u D } σ H) : tSeq (tIfS (tTest t) p r) u D σ H :=
  h _ ⟨k, rfl, by
    cases k with
    | true => rw [if_pos rfl]; exact h1 rfl
    | false => rw [if_neg Bool.false_ne_true]; exact h2 rfl⟩
theorem evtVar {i : Nat} (h : σ[i]? = some (some v)) : EvT (tVar i) σ H v := fun _ q => ⟨v, h, q⟩
theorem evtC : EvT (tC v) σ H v := fun _ q => q
theorem evtOp0 {g : Int → Int → V} (ha : EvT ta σ H (.int i)) (hb : EvT tb σ H (.int j)) : EvT (tOp (rI0 g) ta tb) σ H (g i j) := fun _ q => ha _ (hb _ ⟨i, j, rfl, rfl, q⟩)
theorem evtOp {C : Int → Int → Prop} {g : Int → Int → V} (ha : EvT ta σ H (.int i)) (hb : EvT tb σ H (.int j)) (h : C i j) : EvT (tOp (rI C g) ta tb) σ H (g i j) := fun _ q => ha _ (hb _ ⟨i, j, rfl, rfl, h, q⟩)
theorem evtInt (ha : EvT ta σ H (.int i)) : EvT (tCB (fun xs H Q => (∃ i, xs = [.int i] ∧ Q (.int i) H) ∨ ∃ k, xs = [.bl k] ∧ Q (.int (if k then 1 else 0)) H) (tCons ta tNil)) σ H (.int i) := fun _ q => ha _ (.inl ⟨i, rfl, q⟩)
theorem evtGet (ha : EvT ta σ H (.ref a)) (hb : EvT tb σ H y) (h : DGet H a y (some v)) : EvT (tDGet ta tb) σ H v := fun _ q => ha _ (hb _ ⟨a, v, rfl, h, q⟩)
theorem evtIx (ha : EvT ta σ H (.ref a)) (hb : EvT tb σ H (.int i)) (h : SqL K H a xs) (hx : L2.atI xs i = some v) : EvT (tOp (rIx K) ta tb) σ H v := fun _ q => ha _ (hb _ (.inl ⟨a, xs, i, v, rfl, rfl, h, hx, q⟩))
theorem evtLen (ha : EvT ta σ H (.ref a)) (h : SqL K H a xs) : EvT (tCB (rLen K) (tCons ta tNil)) σ H (.int (xs.length : Nat)) := fun _ q => ha _ ⟨.ref a, xs.length, rfl, .inl ⟨xs, h, rfl⟩, q⟩
theorem atI_of {n : Nat} (h : xs[n]? = some v) : L2.atI xs (n : Nat) = some v := by
  have hn : n < xs.length := (List.getElem?_eq_some_iff.mp h).1
  unfold L2.atI L2.ixN
  rw [if_pos (by omega), if_pos (by omega)]
  simpa using h
end

/-! ### the state of the draws -/
def del2 (H : Hp) (d al : Addr) : Hp := delH (delH H d) al
section
variable {S H S' H' S'' H'' : Hp} {d al a : Addr} {n : Nat} {o : HO} {v : V}
theorem del2_d : del2 (upd H d o) d al = del2 H d al := by unfold del2; rw [del_upd]
theorem del2_al : del2 (upd H al o) d al = del2 H d al := by
  funext b
  unfold del2 delH
  by_cases h : b = al
  · rw [if_pos h, if_pos h]
  · rw [if_neg h, if_neg h, upd_ne h]
theorem del2_sub : Same (del2 H d al) H := del_sub.trans del_sub
theorem del2_ne (h1 : a ≠ d) (h2 : a ≠ al) : del2 H d al a = H a := by unfold del2; rw [del_ne h2, del_ne h1]
structure StA (S H : Hp) (d al : Addr) (n : Nat) : Prop where
  sub : Same S (del2 H d al)
  ne : d ≠ al
  ex : ∃ (ac : Addr) (cs ls : List Int), H d = some (.dK [(Sum.inr "cells", .ref ac), (Sum.inr "lefts", .ref al), (Sum.inr "at", .int (n : Int))]) ∧ S ac = some (.lst (cs.map V.int)) ∧ H al = some (.lst (ls.map V.int)) ∧ ls.length = cs.length ∧ 0 < cs.length
theorem StA.sh (s : StA S H d al n) : Same S H := s.sub.trans del2_sub
theorem StA.d0 (s : StA S H d al n) : S d = none := s.sub.free (by unfold del2; rw [del_ne s.ne]; exact del_eq)
theorem StA.al0 (s : StA S H d al n) : S al = none := s.sub.free (by unfold del2; exact del_eq)
/-- pure work leaves it -/
theorem Ext.del2 (s : StA S H d al n) (e : Ext S H S' H') : Ext S (del2 H d al) S' (del2 H' d al) := by
  obtain ⟨ac, cs, ls, h1, _, h2, _⟩ := s.ex
  have e1 := e.del s.d0 h1
  exact e1.del s.al0 (by rw [del_ne s.ne.symm]; exact h2)
theorem StA.ext (s : StA S H d al n) (e : Ext S H S' H') : StA S' H' d al n := by
  have e2 := Ext.del2 s e
  obtain ⟨ac, cs, ls, h1, h2, h3, h4⟩ := s.ex
  exact ⟨e2.sh, s.ne, ac, cs, ls, e.hh _ _ h1, e.ss _ _ h2, e.hh _ _ h3, h4⟩
/-- a def that draws: its arguments behind the state; at most m draws -/
def spS (np m : Nat) (Pr : List PyData → Prop) (G : List PyData → PyData → Prop) : List V → Hp → VK → Prop := fun vs H Q => ∃ S d al n ws ds, vs = .ref d :: ws ∧ ws.length + 1 = np ∧ StA S H d al n ∧ n + m ≤ 1000 ∧ DqA S ws ds ∧ Pr ds ∧
  ∀ v S' H' n' x, Ext S (del2 H d al) S' (del2 H' d al) → StA S' H' d al n' → n' ≤ n + m → G ds x → Dq S' v x → Q v H'
end
end SW
set_option Elab.async false
set_option linter.all false
set_option maxRecDepth 100000
set_option maxHeartbeats 1000000
/-! St1: _law_mixed, _law_draw. -/
namespace SW
open PySem PySem.Spec PyProof.Rows L2
section
variable {P : Program} {w : World} {K : PySem.W.Frag} {mg : Str → Option Value} {base : Heap} {fa fm : Addr} {fd fdm : FuncData}
abbrev Stn (K : PySem.W.Frag) (i : Nat) (fa : Addr) (fd : FuncData) : Prop := FunD K (defName (top i)) (defName (top i)) (defArgs (top i)) (defBody (top i)) (defScope (top i)) [] [] fa fd
def spMix : List V → Hp → VK → Prop := fun vs H Q => ∃ c k : Int, vs = [.int c, .int k] ∧ 0 ≤ k ∧ k < 1000000 ∧ ∀ z : Int, Q (.int z) H
theorem sc_mix : FnScope n__law_mixed ["_law_cell", "_law_k"] (defScope (top 134)) := scB_ok (by decide +kernel)
theorem ok_mix (F : Stn K 134 fa fd) (m : MgOk mg) : FnG P w K mg base 1 fa fd ["_law_cell", "_law_k"] spMix := by
  refine fnG_of F sc_mix (fun vs H Q ⟨c, k, h, _⟩ => by rw [h]; rfl) fun X o vs H Q ⟨c, k, e, k0, k1, q⟩ => ?_
  subst e
  have x := o.xok (nms := nms) m sc_mix.nd
  refine ⟨_, pss_cons (setS x 0 (pe_op op_mod (int1 x (vr x 0)) pe_int)) (pss_one (ps_ret (pe_op op_mod (pe_op op_mul (pe_op op_mod (pe_op op_add (pe_op op_add (pe_op op_mul (vr x 0) (pe_op op_add pe_int (pe_op op_mul (pe_op op_mul pe_int (vr x 1)) (vr x 1)))) (pe_op op_mul pe_int (vr x 1))) pe_int) pe_int) pe_int) pe_int))), ?_⟩
  have hm : c % 2147483647 < 2147483647 ∧ 0 ≤ c % 2147483647 := ⟨Int.emod_lt_of_pos _ (by decide), Int.emod_nonneg _ (by decide)⟩
  refine evSet (evtOp (evtInt (evtVar rfl)) evtC (by show (0 : Int) < 2147483647; decide)) ?_
  refine evRet (evtOp (evtOp (evtOp (evtOp0 (evtOp0 (evtOp (evtVar rfl) (evtOp0 evtC (evtOp (evtOp evtC (evtVar rfl) ?_) (evtVar rfl) ?_)) ?_) (evtOp evtC (evtVar rfl) ?_)) evtC) evtC ?_) evtC ?_) evtC ?_) (q _)
  · exact .inl ⟨by decide, by decide⟩
  · exact .inr ⟨by omega, by omega⟩
  · exact .inl ⟨by omega, by omega⟩
  · exact .inl ⟨by decide, by decide⟩
  · show (0 : Int) < 2147483647
    decide
  · exact .inr ⟨by decide, by decide⟩
  · show (0 : Int) < 2147483629
    decide

/-! ### a draw -/
def PrDraw : List PyData → Prop := fun ds => ∃ lim : Int, ds = [.int lim] ∧ 0 < lim ∧ lim < 1000000
def GDraw : List PyData → PyData → Prop := fun ds x => ∃ lim j : Int, ds = [.int lim] ∧ x = .int j ∧ 0 ≤ j ∧ j < lim
theorem val_cells {x y z : V} : valV ([(Sum.inr "cells", x), (Sum.inr "lefts", y), (Sum.inr "at", z)] : List (Key × V)) (Sum.inr "cells") = some x := rfl
theorem val_lefts {x y z : V} : valV ([(Sum.inr "cells", x), (Sum.inr "lefts", y), (Sum.inr "at", z)] : List (Key × V)) (Sum.inr "lefts") = some y := rfl
theorem val_at {x y z : V} : valV ([(Sum.inr "cells", x), (Sum.inr "lefts", y), (Sum.inr "at", z)] : List (Key × V)) (Sum.inr "at") = some z := rfl
theorem put_at {x y z v : V} : putK ([(Sum.inr "cells", x), (Sum.inr "lefts", y), (Sum.inr "at", z)] : List (Key × V)) (Sum.inr "at") v = ([(Sum.inr "cells", x), (Sum.inr "lefts", y), (Sum.inr "at", v)] : List (Key × V)) := rfl
theorem get_of {H : Hp} {d : Addr} {kvs : List (Key × V)} {z : Str} {v : V} (h : H d = some (.dK kvs)) (e : valV kvs (Sum.inr z) = some v) : DGet H d (.str z) (some v) := e ▸ DGet.k (k := Sum.inr z) h
abbrev spDraw := spS 2 1 PrDraw GDraw
theorem sc_draw : FnScope n__law_draw ["_law_state", "_law_limit"] (defScope (top 136)) := scB_ok (by decide +kernel)
theorem swap_none {o i e : Expr} {pos : Pos} {env : Env} : swappedStores [.Subscript o i pos] e env = pure none := rfl
theorem ok_draw (F : Stn K 136 fa fd) (m : MgOk mg) (Fm : Stn K 134 fm fdm) (gm : mg "_law_mixed" = some (.ref fm)) (bm : Binds K fdm ["_law_cell", "_law_k"] []) : FnG P w K mg base 2 fa fd ["_law_state", "_law_limit"] spDraw := by
  refine fnG_of F sc_draw (fun vs H Q ⟨S, d, al, n, ws, ds, e, hl, _⟩ => by rw [e]; exact hl) fun X o vs H Q ⟨S, d, al, n, ws, ds, e, hl, st, hn, hd, ⟨lim, e2, l0, l1⟩, q⟩ => ?_
  subst e e2
  have x := o.xok (nms := nms) m sc_draw.nd
  have gm' : X.mg "_law_mixed" = some (.ref fm) := by rw [o.mg]; exact gm
  have hu : X.A.units + 1 < cLine := by have := x.units; omega
  have cm : CallR X (.ref fm) spMix := by
    have rm := o.room
    have gd := o.guards
    have eP := o.prog
    have ew := o.w
    have eK := o.K
    have em := o.mg
    have eb := o.base
    subst eP ew eK em eb
    exact (ok_mix Fm m).call rm gd bm
  have km : PySem.W.keepIn X.K (.ref fm) = true := by rw [o.K]; exact Fm.kp
  refine ⟨_, pss_cons (setS x 2 (dgetS x (vr x 0) pe_str))
    (pss_cons (ps_dput hu (vr x 0) pe_str (pe_op op_add (vr x 2) pe_int) (comp_none (by decide +kernel) _ _))
    (pss_cons (setS x 3 (pe_op op_mod (int1 x (vr x 2)) (len1 x (dgetS x (vr x 0) pe_str))))
    (pss_cons (setS x 4 (ixS (dgetS x (vr x 0) pe_str) (vr x 3)))
    (pss_cons (ps_if (pt_cmpR op_gt (vr x 4) pe_int (nomark _))
      (pss_cons (setSub (pe_op op_fdiv (vr x 4) (vr x 1)) (dgetS x (vr x 0) pe_str) (vr x 3))
      (pss_one (ps_ret (pe_op op_mod (int1 x (vr x 4)) (vr x 1))))) pss_nil)
    (pss_cons (setS x 5 (callF x gm' km cm (arg (callF x gm' km cm (arg (ixS (dgetS x (vr x 0) pe_str) (vr x 3)) (arg (vr x 2) pa_nil))) (arg (pe_op op_add pe_int (vr x 2)) pa_nil))))
    (pss_one (ps_ret (pe_op op_mod (pe_op op_fdiv (int1 x (pe_op op_add (pe_op op_mul (vr x 5) pe_int) (callF x gm' km cm (arg (vr x 5) (arg (pe_op op_add pe_int (vr x 2)) pa_nil))))) pe_int) (vr x 1))))))))), ?_⟩
  obtain ⟨ac, cs, ls, h1, h2, h3, h4, h5⟩ := st.ex
  have st0 := st
  cases hd with
  | cons a r =>
  cases r
  cases a
  have hac := st.sh _ _ h2
  have nac : ac ≠ d := ne_of_none h2 st.d0
  have nal : ac ≠ al := ne_of_none h2 st.al0
  have ndl := st.ne
  refine evSet (evtGet (evtVar rfl) evtC (get_of h1 val_at)) ?_
  refine evPut (evtOp0 (evtVar rfl) evtC) (evtVar rfl) evtC (DPut.k (k := Sum.inr "at") h1 (show 3 < sizeLine by decide)) ?_
  rw [put_at]
  have e1 : ((n : Int) + 1) = ((n + 1 : Nat) : Int) := by simp
  rw [e1]
  have g1 : upd H d (.dK [(Sum.inr "cells", .ref ac), (Sum.inr "lefts", .ref al), (Sum.inr "at", .int ((n + 1 : Nat) : Int))]) d = some (.dK [(Sum.inr "cells", .ref ac), (Sum.inr "lefts", .ref al), (Sum.inr "at", .int ((n + 1 : Nat) : Int))]) := upd_same
  have g2 : upd H d (.dK [(Sum.inr "cells", .ref ac), (Sum.inr "lefts", .ref al), (Sum.inr "at", .int ((n + 1 : Nat) : Int))]) ac = some (.lst (cs.map V.int)) := by rw [upd_ne nac]; exact hac
  have g3 : upd H d (.dK [(Sum.inr "cells", .ref ac), (Sum.inr "lefts", .ref al), (Sum.inr "at", .int ((n + 1 : Nat) : Int))]) al = some (.lst (ls.map V.int)) := by rw [upd_ne ndl.symm]; exact h3
  have g4 : del2 (upd H d (.dK [(Sum.inr "cells", .ref ac), (Sum.inr "lefts", .ref al), (Sum.inr "at", .int ((n + 1 : Nat) : Int))])) d al = del2 H d al := del2_d
  generalize upd H d (.dK [(Sum.inr "cells", .ref ac), (Sum.inr "lefts", .ref al), (Sum.inr "at", .int ((n + 1 : Nat) : Int))]) = H1 at g1 g2 g3 g4 ⊢
  have hlen : (cs.map V.int).length = cs.length := List.length_map ..
  refine evSet (evtOp (evtInt (evtVar rfl)) (evtLen (evtGet (evtVar rfl) evtC (get_of g1 val_cells)) (SqL.of g2)) (by rw [hlen]; show (0 : Int) < (cs.length : Nat); omega)) ?_
  rw [hlen]
  have e2 : ((n : Int) % (cs.length : Nat)) = ((n % cs.length : Nat) : Int) := by simp
  rw [e2]
  have pl : n % cs.length < cs.length := Nat.mod_lt _ h5
  generalize n % cs.length = p at pl ⊢
  have hls : ls[p]? = some (ls[p]'(by omega)) := List.getElem?_eq_getElem (by omega)
  have hcs : cs[p]? = some (cs[p]'(by omega)) := List.getElem?_eq_getElem (by omega)
  generalize ls[p]'(by omega) = lv at hls
  generalize cs[p]'(by omega) = cv at hcs
  have als : L2.atI (ls.map V.int) (p : Nat) = some (.int lv) := atI_of (by rw [List.getElem?_map, hls]; rfl)
  have acs : L2.atI (cs.map V.int) (p : Nat) = some (.int cv) := atI_of (by rw [List.getElem?_map, hcs]; rfl)
  refine evSet (evtIx (evtGet (evtVar rfl) evtC (get_of g1 val_lefts)) (evtVar rfl) (SqL.of g3) als) ?_
  have fin : ∀ (j : Int) (H2 : Hp) (ls' : List Int), 0 ≤ j → j < lim → H2 d = some (.dK [(Sum.inr "cells", .ref ac), (Sum.inr "lefts", .ref al), (Sum.inr "at", .int ((n + 1 : Nat) : Int))]) → H2 al = some (.lst (ls'.map V.int)) → ls'.length = cs.length → del2 H2 d al = del2 H d al → Q (.int j) H2 := fun j H2 ls' j0 j1 k1 k2 k3 k4 =>
    q (.int j) S H2 (n + 1) (.int j) (by rw [k4]; exact .refl st.sub) ⟨by rw [k4]; exact st.sub, ndl, ac, cs, ls', k1, h2, k2, k3, h5⟩ (Nat.le_refl _) ⟨lim, j, rfl, rfl, j0, j1⟩ (.int j)
  refine evIf (evtOp0 (evtVar rfl) evtC) (fun hk => ?_) fun hk => ?_
  · refine evSub (evtOp (evtVar rfl) (evtVar rfl) ⟨l0, by omega⟩) (evtGet (evtVar rfl) evtC (get_of g1 val_lefts)) (evtVar rfl) g3 (n := p) ?_ ?_
    · unfold L2.ixN
      rw [if_pos (by omega), if_pos (by rw [List.length_map]; omega)]
      rfl
    · refine evRet (evtOp (evtInt (evtVar rfl)) (evtVar rfl) l0) ?_
      have e3 : (ls.map V.int).set p (.int (lv / lim)) = (ls.set p (lv / lim)).map V.int := by rw [List.map_set]
      rw [e3]
      exact fin _ _ (ls.set p (lv / lim)) (Int.emod_nonneg _ (by omega)) (Int.emod_lt_of_pos _ l0) (by rw [upd_ne ndl]; exact g1) upd_same (by rw [List.length_set]; exact h4) (by rw [del2_al]; exact g4)
  · refine (evtIx (evtGet (evtVar rfl) evtC (get_of g1 val_cells)) (evtVar rfl) (SqL.of g2) acs) _ ?_
    refine ⟨_, rfl, cv, n, rfl, by omega, by omega, fun z1 => ?_⟩
    refine (evtOp0 evtC (evtVar rfl)) _ ?_
    refine ⟨z1, 40 + (n : Int), rfl, by omega, by omega, fun z2 => ?_⟩
    refine (evtOp (C := CMul) (i := z2) (evtVar rfl) evtC (.inr ⟨by decide, by decide⟩)) _ ?_
    refine (evtVar (v := .int z2) rfl) _ ((evtOp0 (j := (n : Int)) evtC (evtVar rfl)) _ ⟨z2, 7 + (n : Int), rfl, by omega, by omega, fun z3 => ?_⟩)
    exact ⟨_, _, rfl, rfl, .inl ⟨_, rfl, _, _, rfl, rfl, ⟨by decide, by decide⟩, .int lim, rfl, _, _, rfl, rfl, l0, fin _ _ ls (Int.emod_nonneg _ (by omega)) (Int.emod_lt_of_pos _ l0) g1 g3 h4 g4⟩⟩
end
end SW
set_option Elab.async false
set_option linter.all false
set_option maxRecDepth 100000
set_option maxHeartbeats 1000000
/-! St2: readings of what draws; _law_of, _law_number, _law_letter. -/
namespace SW
open PySem PySem.Spec PyProof.Rows L2
/-- C holds on as S grows -/
def Up (C : Hp → Prop) : Prop := ∀ S S', C S → Same S S' → C S'
/-- the reading gives data of G after at most m draws -/
def GvS (C : Hp → Prop) (d al : Addr) (σ : L2.St) (t : TE) (m : Nat) (G : PyData → Prop) : Prop := ∀ (S H : Hp) (n : Nat) (Q : VK), C S → StA S H d al n → n + m ≤ 1000 →
  (∀ v S' H' n' x, Ext S (del2 H d al) S' (del2 H' d al) → StA S' H' d al n' → n' ≤ n + m → G x → Dq S' v x → Q v H') → t σ H Q
def GvA (C : Hp → Prop) (d al : Addr) (σ : L2.St) (t : TA) (m : Nat) (G : List PyData → Prop) : Prop := ∀ (S H : Hp) (n : Nat) (Q : List V → Hp → Prop), C S → StA S H d al n → n + m ≤ 1000 →
  (∀ vs S' H' n' xs, Ext S (del2 H d al) S' (del2 H' d al) → StA S' H' d al n' → n' ≤ n + m → G xs → DqA S' vs xs → Q vs H') → t σ H Q
section
variable {C : Hp → Prop} {d al : Addr} {σ : L2.St} {ta tb : TE} {t : TA} {m m1 m2 : Nat} {G G1 G2 : PyData → Prop} {Gs Gs2 : List PyData → Prop} {F : FT}
theorem gvNil : GvA C d al σ tNil 0 (fun xs => xs = []) := fun S H n Q _ st hn q => q [] S H n [] (.refl st.sub) st (Nat.le_refl _) rfl .nil
theorem gvCons (u : Up C) (h1 : GvS C d al σ ta m1 G1) (h2 : GvA C d al σ t m2 Gs) : GvA C d al σ (tCons ta t) (m1 + m2) (fun xs => ∃ x r, xs = x :: r ∧ G1 x ∧ Gs r) := fun S H n Q c st hn q =>
  h1 S H n _ c st (by omega) fun v S1 H1 n1 x e1 st1 hn1 g1 r1 => h2 S1 H1 n1 _ (u _ _ c e1.ss) st1 (by omega) fun vs S2 H2 n2 xs e2 st2 hn2 g2 r2 =>
    q (v :: vs) S2 H2 n2 (x :: xs) (e1.trans e2) st2 (by omega) ⟨x, xs, rfl, g1, g2⟩ (.cons (r1.mono e2.ss) r2)
theorem GvS.imp (h : GvS C d al σ ta m G) (hm : m ≤ m2) (hg : ∀ x, G x → G2 x) : GvS C d al σ ta m2 G2 := fun S H n Q c st hn q => h S H n Q c st (by omega) fun v S' H' n' x e st' hn' g r => q v S' H' n' x e st' (by omega) (hg x g) r
theorem GvA.imp {Gs2 : List PyData → Prop} (h : GvA C d al σ t m Gs) (hm : m ≤ m2) (hg : ∀ x, Gs x → Gs2 x) : GvA C d al σ t m2 Gs2 := fun S H n Q c st hn q => h S H n Q c st (by omega) fun v S' H' n' x e st' hn' g r => q v S' H' n' x e st' (by omega) (hg x g) r
theorem gvOne (u : Up C) (h1 : GvS C d al σ ta m G) : GvA C d al σ (tCons ta tNil) m (fun xs => ∃ x, xs = [x] ∧ G x) := (gvCons u h1 gvNil).imp (Nat.le_refl _) fun xs ⟨x, r, e1, g, e2⟩ => ⟨x, by rw [e1, e2], g⟩
theorem gvTwo (u : Up C) (h1 : GvS C d al σ ta m1 G1) (h2 : GvS C d al σ tb m2 G2) : GvA C d al σ (tCons ta (tCons tb tNil)) (m1 + m2) (fun xs => ∃ x y, xs = [x, y] ∧ G1 x ∧ G2 y) :=
  (gvCons u h1 (gvOne u h2)).imp (Nat.le_refl _) fun xs ⟨x, r, e1, g, y, e2, g2⟩ => ⟨x, y, by rw [e1, e2], g, g2⟩
theorem gvInt {i : Int} : GvS C d al σ (tC (.int i)) 0 (fun x => x = .int i) := fun S H n Q _ st hn q => q _ S H n _ (.refl st.sub) st (Nat.le_refl _) rfl (.int i)
theorem gvVar {i : Nat} {v : V} {x : PyData} (h : σ[i]? = some (some v)) (hc : ∀ S, C S → Dq S v x) : GvS C d al σ (tVar i) 0 (fun y => y = x) := fun S H n Q c st hn q => ⟨v, h, q v S H n x (.refl st.sub) st (Nat.le_refl _) rfl (hc S c)⟩
theorem gvOp {Cn : Int → Int → Prop} {g : Int → Int → Int} (u : Up C) (h1 : GvS C d al σ ta m1 G1) (h2 : GvS C d al σ tb m2 G2) (hi : ∀ x, G1 x → ∃ i, x = .int i) (hj : ∀ x, G2 x → ∃ i, x = .int i) (hc : ∀ i j, G1 (.int i) → G2 (.int j) → Cn i j) :
    GvS C d al σ (tOp (rI Cn fun i j => .int (g i j)) ta tb) (m1 + m2) (fun z => ∃ i j, G1 (.int i) ∧ G2 (.int j) ∧ z = .int (g i j)) := fun S H n Q c st hn q =>
  h1 S H n _ c st (by omega) fun v S1 H1 n1 x e1 st1 hn1 g1 r1 => h2 S1 H1 n1 _ (u _ _ c e1.ss) st1 (by omega) fun w S2 H2 n2 y e2 st2 hn2 g2 r2 => by
    obtain ⟨i, rfl⟩ := hi x g1
    obtain ⟨j, rfl⟩ := hj y g2
    cases r1
    cases r2
    exact ⟨i, j, rfl, rfl, hc i j g1 g2, q _ S2 H2 n2 _ (e1.trans e2) st2 (by omega) ⟨i, j, g1, g2, rfl⟩ (.int _)⟩
theorem gvOp0 {g : Int → Int → Int} (u : Up C) (h1 : GvS C d al σ ta m1 G1) (h2 : GvS C d al σ tb m2 G2) (hi : ∀ x, G1 x → ∃ i, x = .int i) (hj : ∀ x, G2 x → ∃ i, x = .int i) :
    GvS C d al σ (tOp (rI0 fun i j => .int (g i j)) ta tb) (m1 + m2) (fun z => ∃ i j, G1 (.int i) ∧ G2 (.int j) ∧ z = .int (g i j)) := fun S H n Q c st hn q =>
  h1 S H n _ c st (by omega) fun v S1 H1 n1 x e1 st1 hn1 g1 r1 => h2 S1 H1 n1 _ (u _ _ c e1.ss) st1 (by omega) fun w S2 H2 n2 y e2 st2 hn2 g2 r2 => by
    obtain ⟨i, rfl⟩ := hi x g1
    obtain ⟨j, rfl⟩ := hj y g2
    cases r1
    cases r2
    exact ⟨i, j, rfl, rfl, q _ S2 H2 n2 _ (e1.trans e2) st2 (by omega) ⟨i, j, g1, g2, rfl⟩ (.int _)⟩
theorem gvTup (h : GvA C d al σ t m Gs) (hl : ∀ xs, Gs xs → xs.length ≤ 1000) : GvS C d al σ (tTup t) m (fun x => ∃ xs, x = .tuple xs ∧ Gs xs) := fun S H n Q c st hn q =>
  h S H n _ c st hn fun vs S1 H1 n1 xs e1 st1 hn1 g1 r1 => ⟨by rw [r1.length]; exact Nat.le_trans (hl xs g1) (by decide), fun p hp => by
    have e2 := Ext.new st1.sh (.tup vs) hp
    exact q _ _ _ n1 _ (e1.trans (Ext.del2 st1 e2)) (st1.ext e2) hn1 ⟨xs, rfl, g1⟩ (.tup upd_same (r1.mono e2.ss))⟩
/-- a call of one that draws -/
theorem gvCall {np k i0 : Nat} {Pr : List PyData → Prop} {Go : List PyData → PyData → Prop} (h0 : σ[i0]? = some (some (.ref d))) (h : GvA C d al σ t m Gs) (hp : ∀ ds, Gs ds → Pr ds) (hl : ∀ ds, Gs ds → ds.length + 1 = np) :
    GvS C d al σ (fun σ H Q => tCons (tVar i0) t σ H fun vs H1 => spS np k Pr Go vs H1 Q) (m + k) (fun x => ∃ ds, Gs ds ∧ Go ds x) := fun S H n Q c st hn q => ⟨_, h0, h S H n _ c st (by omega) fun vs S1 H1 n1 xs e1 st1 hn1 g1 r1 =>
    ⟨S1, d, al, n1, vs, xs, rfl, by rw [r1.length]; exact hl xs g1, st1, by omega, r1, hp xs g1, fun v S2 H2 n2 x e2 st2 hn2 g2 r2 => q v S2 H2 n2 x (e1.trans e2) st2 (by omega) ⟨xs, g1, g2⟩ r2⟩⟩
theorem dqa_paired {S H : Hp} : ∀ {vs : List V} {ds : List PyData}, DqA S vs ds → Paired (Rp S H) vs (ds.map SV.dat)
  | _, _, .nil => .nil
  | _, _, .cons a r => .cons a (dqa_paired r)
/-- a call of one that does not draw -/
theorem gvPure {np : Nat} {G0 : List SV → Option SV} (h : GvA C d al σ t m Gs) (hl : ∀ ds, Gs ds → ds.length = np) (hg : ∀ ds, Gs ds → ∃ x, G0 (ds.map SV.dat) = some (.dat x) ∧ G x) : GvS C d al σ (fun σ H Q => t σ H fun vs H1 => spD np G0 vs H1 Q) m G := fun S H n Q c st hn q =>
  h S H n _ c st hn fun vs S1 H1 n1 xs e1 st1 hn1 g1 r1 => by
    obtain ⟨x, h1, h2⟩ := hg xs g1
    refine ⟨S1, xs.map SV.dat, .dat x, st1.sh, dqa_paired r1, fun a ha => ?_, by rw [List.length_map]; exact hl xs g1, h1, fun v S2 H2 e2 r2 => q v S2 H2 n1 x (e1.trans (Ext.del2 st1 e2)) (st1.ext e2) hn1 h2 r2.1⟩
    obtain ⟨y, _, rfl⟩ := List.mem_map.mp ha
    rfl
/-- plain data -/
theorem gvCode {c : SW.C} {r : SV} {x : PyData} (h : ∀ ρ, evC F c false ρ = some r) (hd : datOf r = some x) : GvS C d al σ (rdD F c) 0 (fun y => y = x) := fun S H n Q _ st hn q =>
  ⟨fun _ => True, S, σ.map fun _ => none, r, x, ⟨by simp, st.sh, fun i r h => by simp at h, fun _ _ _ _ _ _ h _ _ _ _ => by simp at h, fun _ _ _ _ _ _ => trivial⟩, h _, hd, fun v S1 H1 e1 r1 => q v S1 H1 n x (Ext.del2 st e1) (st.ext e1) (Nat.le_refl _) rfl r1⟩
/-- the item of a list at a slot -/
theorem gvIx {K : PySem.W.Frag} {i : Nat} {v : V} {xs : List PyData} (u : Up C) (h : σ[i]? = some (some v)) (hc : ∀ S, C S → Dq S v (.list xs)) (h2 : GvS C d al σ tb m G) (hj : ∀ x, G x → ∃ j : Int, x = .int j ∧ 0 ≤ j ∧ j < xs.length) :
    GvS C d al σ (tOp (rIx K) (tVar i) tb) m (fun x => x ∈ xs) := fun S H n Q c st hn q => ⟨v, h, h2 S H n _ c st hn fun w S1 H1 n1 y e1 st1 hn1 g1 r1 => by
    obtain ⟨j, rfl, j0, j1⟩ := hj y g1
    cases r1
    obtain ⟨a, vs, rfl, h3, h4⟩ := dq_lst ((hc S c).mono e1.ss)
    have hx : xs[j.toNat]? = some (xs[j.toNat]'(by omega)) := List.getElem?_eq_getElem (by omega)
    obtain ⟨z, h5, h6⟩ := h4.get hx
    have e : j = (j.toNat : Nat) := by omega
    exact .inl ⟨a, vs, j, z, rfl, rfl, SqL.of (st1.sh _ _ h3), by rw [e]; exact atI_of h5, q z S1 H1 n1 _ e1 st1 hn1 (List.getElem_mem _) h6⟩⟩
theorem gvLen {K : PySem.W.Frag} {i : Nat} {v : V} {xs : List PyData} (h : σ[i]? = some (some v)) (hc : ∀ S, C S → Dq S v (.list xs)) : GvS C d al σ (tCB (rLen K) (tCons (tVar i) tNil)) 0 (fun x => x = .int (xs.length : Nat)) := fun S H n Q c st hn q => by
  obtain ⟨a, vs, rfl, h3, h4⟩ := dq_lst (hc S c)
  refine evtLen (evtVar h) (SqL.of (st.sh _ _ h3)) _ ?_
  rw [h4.length]
  exact q _ S H n _ (.refl st.sub) st (Nat.le_refl _) rfl (.int _)
end
/-- the end of a def that draws -/
theorem gvRet {C : Hp → Prop} {d al : Addr} {σ : L2.St} {t : TE} {m n : Nat} {G : PyData → Prop} {S H : Hp} {Q : VK} {D : Ends} (h : GvS C d al σ t m G) (c : C S) (st : StA S H d al n) (hn : n + m ≤ 1000) (hD : D.rt = Q)
    (q : ∀ v S' H' n' x, Ext S (del2 H d al) S' (del2 H' d al) → StA S' H' d al n' → n' ≤ n + m → G x → Dq S' v x → Q v H') : tRet t D σ H := by
  show t σ H D.rt
  rw [hD]
  exact h S H n Q c st hn q
/-- .. a step on the way -/
theorem gvSet {C : Hp → Prop} {d al : Addr} {σ : L2.St} {t : TE} {m n i : Nat} {G : PyData → Prop} {S H : Hp} {D : Ends} {u : TS} (h : GvS C d al σ t m G) (c : C S) (st : StA S H d al n) (hn : n + m ≤ 1000)
    (q : ∀ v S' H' n' x, Ext S (del2 H d al) S' (del2 H' d al) → StA S' H' d al n' → n' ≤ n + m → G x → Dq S' v x → u D (σ.set i (some v)) H') : tSeq (tAsg t (gName i)) u D σ H := h S H n _ c st hn q
theorem gvPar {C : Hp → Prop} {d al : Addr} {σ : L2.St} {t : TA} {m n i j : Nat} {Gs : List PyData → Prop} {S H : Hp} {D : Ends} {u : TS} (h : GvA C d al σ t m Gs) (c : C S) (st : StA S H d al n) (hn : n + m ≤ 1000)
    (q : ∀ vs S' H' n' xs, Ext S (del2 H d al) S' (del2 H' d al) → StA S' H' d al n' → n' ≤ n + m → Gs xs → DqA S' vs xs → ∃ v w, vs = [v, w] ∧ u D ((σ.set i (some v)).set j (some w)) H') : tSeq (tPar i j t) u D σ H := h S H n _ c st hn q
theorem gvIf0 {C : Hp → Prop} {d al : Addr} {σ : L2.St} {t : TE} {m n : Nat} {S H : Hp} {D : Ends} {u p r : TS} {lo hi : Int} (h : GvS C d al σ t m (fun x => ∃ j : Int, x = .int j ∧ lo ≤ j ∧ j < hi)) (c : C S) (st : StA S H d al n) (hn : n + m ≤ 1000)
    (q : ∀ S' H' n' (j : Int), Ext S (del2 H d al) S' (del2 H' d al) → StA S' H' d al n' → n' ≤ n + m → (j = 0 → p { D with nx := u D } σ H') ∧ (j ≠ 0 → r { D with nx := u D } σ H')) : tSeq (tIfS (tTest (tOp rEq t (tC (.int 0)))) p r) u D σ H :=
  h S H n _ c st hn fun v S1 H1 n1 x e st1 hn1 ⟨j, ej, _⟩ r1 => by
    subst ej
    cases r1
    refine ⟨rfl, _, rfl, ?_⟩
    have k := q S1 H1 n1 j e st1 hn1
    by_cases hj : V.int j = V.int 0
    · rw [decide_eq_true hj]
      simp only [if_true]
      exact k.1 (V.int.inj hj)
    · rw [decide_eq_false hj]
      simp only [Bool.false_eq_true, if_false]
      exact k.2 fun z => hj (by rw [z])
section
variable {P : Program} {w : World} {K : PySem.W.Frag} {mg : Str → Option Value} {base : Heap} {N : List Str} {scope : Scope} {k j : Nat} {X : Cx} {fa : Addr} {fd : FuncData} {ps : List Str} {sp : List V → Hp → VK → Prop}
theorem Own.crS (o : Own X P w K mg base N scope k) (F : FnG P w K mg base j fa fd ps sp) (h : j ≤ k) (b : Binds K fd ps []) {Y : Cx} (sb : Sib X Y) : CallR Y (.ref fa) sp := by
  have rm : Room j Y.A := by rw [sb.A]; exact o.room.mono h
  have gd : Y.A.guards = some [] := by rw [sb.A]; exact o.guards
  have eP : Y.prog = P := by rw [sb.prog, o.prog]
  have ew : Y.w = w := by rw [sb.w, o.w]
  have eK : Y.K = K := by rw [sb.K, o.K]
  have em : Y.mg = mg := by rw [sb.mg, o.mg]
  have eb : Y.base = base := by rw [sb.base, o.base]
  subst eP ew eK em eb
  exact F.call rm gd b
theorem Own.cr (o : Own X P w K mg base N scope k) (F : FnG P w K mg base j fa fd ps sp) (h : j ≤ k) (b : Binds K fd ps []) : CallR X (.ref fa) sp := by
  have rm := o.room.mono h
  have gd := o.guards
  have eP := o.prog
  have ew := o.w
  have eK := o.K
  have em := o.mg
  have eb := o.base
  subst eP ew eK em eb
  exact F.call rm gd b
/-- a def that is known: where it stands, what it promises -/
structure Kn (P : Program) (w : World) (K : PySem.W.Frag) (mg : Str → Option Value) (base : Heap) (x : Str) (j : Nat) (ps : List Str) (sp : List V → Hp → VK → Prop) (fa : Addr) (fd : FuncData) : Prop where
  at_ : mg x = some (.ref fa)
  kp : PySem.W.keepIn K (.ref fa) = true
  bd : Binds K fd ps []
  ok : FnG P w K mg base j fa fd ps sp
theorem callK {x : Str} {e : Expr} {es : List Expr} {p pos : Pos} {t : TA} {sc : Scope} {nms N : List Str} (o : Own X P w K mg base N sc k) (xo : XOk (mcOf nms N) X sc true) (F : Kn P w K mg base x j ps sp fa fd) (h : j ≤ k) (ha : PA X (e :: es) t) (hg : gl sc x = true := by decide +kernel) (hn : okN x = true := by decide +kernel) (hs : noStar e = true := by decide +kernel) (hss : es.all noStar = true := by decide +kernel) :
    PE X (.Call (.Name x p) (e :: es) [] pos) (fun σ H Q => t σ H fun vs H1 => sp vs H1 Q) :=
  callF xo (by rw [o.mg]; exact F.at_) (by rw [o.K]; exact F.kp) (o.cr F.ok h F.bd) ha hg hn hs hss
end
end SW
set_option Elab.async false
set_option linter.all false
set_option maxRecDepth 100000
set_option maxHeartbeats 1000000
/-! St3: _law_of, _law_number, _law_letter, _law_some_step. -/
namespace SW
open PySem PySem.Spec PyProof.Rows L2
section
variable {P : Program} {w : World} {K : PySem.W.Frag} {mg : Str → Option Value} {base : Heap} {fa f1 f2 f3 : Addr} {fd d1 d2 d3 : FuncData} {k : Nat}
/-! ### one of some -/
def PrOf : List PyData → Prop := fun ds => ∃ xs, ds = [.list xs] ∧ 0 < xs.length ∧ xs.length < 1000000
def GOf : List PyData → PyData → Prop := fun ds x => ∃ xs, ds = [.list xs] ∧ x ∈ xs
abbrev spOf := spS 2 1 PrOf GOf
abbrev psDraw : List Str := ["_law_state", "_law_limit"]
abbrev psOf : List Str := ["_law_state", "_law_some"]
theorem sc_of : FnScope n__law_of psOf (defScope (top 137)) := scB_ok (by decide +kernel)
theorem ok_of (F : Stn K 137 fa fd) (m : MgOk mg) (D : Kn P w K mg base "_law_draw" 2 psDraw spDraw f1 d1) : FnG P w K mg base 3 fa fd psOf spOf := by
  refine fnG_of F sc_of (fun vs H Q ⟨S, d, al, n, ws, ds, e, hl, _⟩ => by rw [e]; exact hl) fun X o vs H Q ⟨S, d, al, n, ws, ds, e, hl, st, hn, hd, ⟨xs, e2, l0, l1⟩, q⟩ => ?_
  subst e e2
  have x := o.xok (nms := nms) m sc_of.nd
  refine ⟨_, pss_one (ps_ret (ixS (vr x 1) (callK o x D (Nat.le_refl _) (arg (vr x 0) (arg (len1 x (vr x 1)) pa_nil))))), ?_⟩
  cases hd with
  | cons a r =>
  cases r
  rename_i v _h
  have up : Up fun S => Dq S v (.list xs) := fun S S' c s => c.mono s
  refine gvRet (C := fun S => Dq S v (.list xs)) (d := d) (al := al) (G := fun x => x ∈ xs) (m := 1) (gvIx up rfl (fun S c => c) ((gvCall (Gs := fun ds => ds = [.int (xs.length : Nat)]) rfl (fun S H n Q c st hn q => gvCons up (gvLen rfl fun S c => c) gvNil S H n Q c st hn fun vs S' H' n' ys e st' hn' ⟨y, r, e1, e2, e3⟩ => q vs S' H' n' ys e st' hn' (by rw [e1, e2, e3])) (fun ds e => ⟨_, e, by omega, by omega⟩) fun ds e => by rw [e]; rfl).imp (Nat.le_refl _) fun x h => h) fun y ⟨ds, e1, lim, j, e2, e3, j0, j1⟩ => ?_) a st hn rfl fun v S' H' n' x e st' hn' hx r => q v S' H' n' x e st' hn' ⟨xs, rfl, hx⟩ r
  rw [e1] at e2
  cases e2
  exact ⟨j, e3, j0, j1⟩

/-! ### a number, a letter -/
abbrev IsI (lo hi : Int) : PyData → Prop := fun x => ∃ j : Int, x = .int j ∧ lo ≤ j ∧ j < hi
theorem IsI.int {lo hi : Int} {x : PyData} (h : IsI lo hi x) : ∃ i, x = .int i := let ⟨i, e, _⟩ := h; ⟨i, e⟩
theorem eq_int {j : Int} {x : PyData} (h : x = .int j) : ∃ i, x = .int i := ⟨j, h⟩
/-- a draw below a number that is told -/
theorem gvDraw {C : Hp → Prop} {d al : Addr} {σ : L2.St} {ta : TE} {lim : Int} (u : Up C) (h0 : σ[0]? = some (some (.ref d))) (h : GvS C d al σ ta 0 (fun x => x = .int lim)) (l0 : 0 < lim) (l1 : lim < 1000000) :
    GvS C d al σ (fun σ H Q => tCons (tVar 0) (tCons ta tNil) σ H fun vs H1 => spDraw vs H1 Q) 1 (IsI 0 lim) :=
  (gvCall h0 (gvOne u h) (fun ds ⟨x, e1, e2⟩ => ⟨lim, by rw [e1, e2], l0, l1⟩) (fun ds ⟨x, e1, _⟩ => by rw [e1]; rfl)).imp (Nat.le_refl _) fun x ⟨ds, ⟨y, e1, e2⟩, l, j, e3, e4, j0, j1⟩ => by
    subst e1 e2
    cases e3
    exact ⟨j, e4, j0, j1⟩
theorem gvShift {C : Hp → Prop} {d al : Addr} {σ : L2.St} {ta tb : TE} {lo hi j : Int} {g : Int → Int → Int} {lo' hi' : Int} {m : Nat} (u : Up C) (h : GvS C d al σ ta m (IsI lo hi)) (hb : GvS C d al σ tb 0 (fun x => x = .int j)) (hg : ∀ i, lo ≤ i → i < hi → lo' ≤ g i j ∧ g i j < hi') :
    GvS C d al σ (tOp (rI0 fun i j => .int (g i j)) ta tb) m (IsI lo' hi') :=
  (gvOp0 u h hb (fun _ => IsI.int) fun _ => eq_int).imp (Nat.le_refl _) fun x ⟨a, b, ⟨i, e1, i0, i1⟩, e2, e3⟩ => by
    cases e1
    cases e2
    exact ⟨_, e3, hg _ i0 i1⟩
theorem gvShiftR {C : Hp → Prop} {d al : Addr} {σ : L2.St} {ta tb : TE} {lo hi j : Int} {g : Int → Int → Int} {lo' hi' : Int} {m : Nat} (u : Up C) (hb : GvS C d al σ tb 0 (fun x => x = .int j)) (h : GvS C d al σ ta m (IsI lo hi)) (hg : ∀ i, lo ≤ i → i < hi → lo' ≤ g j i ∧ g j i < hi') :
    GvS C d al σ (tOp (rI0 fun i j => .int (g i j)) tb ta) m (IsI lo' hi') :=
  (gvOp0 u hb h (fun _ => eq_int) fun _ => IsI.int).imp (Nat.le_of_eq (Nat.zero_add m)) fun x ⟨a, b, e2, ⟨i, e1, i0, i1⟩, e3⟩ => by
    cases e1
    cases e2
    exact ⟨_, e3, hg _ i0 i1⟩
abbrev psNumber : List Str := ["_law_state", "_law_most", "_law_below"]
abbrev psFrac : List Str := ["_law_above", "_law_below"]
def FracOk (G0 : List SV → Option SV) : Prop := ∀ a b : Int, -2 ≤ a → a < 3 → 1 ≤ b → b < 3 → ∃ x, G0 [.dat (.int a), .dat (.int b)] = some (.dat x) ∧ x ∈ sevens
abbrev spNumber := spS 3 2 (fun ds => ds = [.int 2, .int 2]) fun _ x => x ∈ sevens
theorem sc_number : FnScope n__law_number psNumber (defScope (top 138)) := scB_ok (by decide +kernel)
theorem up_true : Up fun _ => True := fun _ _ _ _ => trivial
theorem ok_number (F : Stn K 138 fa fd) (m : MgOk mg) (hk : 2 ≤ k) (D : Kn P w K mg base "_law_draw" 2 psDraw spDraw f1 d1) {G0 : List SV → Option SV} {pf : List Str} {np : Nat} (R : Kn P w K mg base "_law_frac" k pf (spD np G0) f2 d2) (hR : FracOk G0) (hN : ∀ as r, G0 as = some r → as.length = np) : FnG P w K mg base (k + 1) fa fd psNumber spNumber := by
  refine fnG_of F sc_number (fun vs H Q ⟨S, d, al, n, ws, ds, e, hl, _⟩ => by rw [e]; exact hl) fun X o vs H Q ⟨S, d, al, n, ws, ds, e, hl, st, hn, hd, e2, q⟩ => ?_
  subst e e2
  have x := o.xok (nms := nms) m sc_number.nd
  refine ⟨_, pss_one (ps_ret (callK o x R (Nat.le_refl _) (arg (pe_op op_sub (callK o x D hk (arg (vr x 0) (arg (pe_op op_add (pe_op op_mul pe_int (vr x 1)) pe_int) pa_nil))) (vr x 1)) (arg (pe_op op_add pe_int (callK o x D hk (arg (vr x 0) (arg (vr x 2) pa_nil)))) pa_nil)))), ?_⟩
  cases hd with
  | cons a r =>
  cases r with
  | cons b r =>
  cases r
  cases a
  cases b
  have u := up_true
  have v1 : GvS (fun _ => True) d al (L2.start n__law_number [.ref d, .int 2, .int 2]) (tVar 1) 0 (fun x => x = .int 2) := gvVar rfl fun _ _ => .int 2
  have v2 : GvS (fun _ => True) d al (L2.start n__law_number [.ref d, .int 2, .int 2]) (tVar 2) 0 (fun x => x = .int 2) := gvVar rfl fun _ _ => .int 2
  have h1 := (gvOp0 (g := fun i j => i + j) u (gvOp (g := fun i j => i * j) (Cn := CMul) u (gvInt (i := 2)) v1 (fun _ => eq_int) (fun _ => eq_int) fun i j e1 e2 => by cases e1; exact .inl ⟨by decide, by decide⟩) (gvInt (i := 1)) (fun x ⟨i, j, _, _, e⟩ => ⟨_, e⟩) (fun _ => eq_int)).imp (m2 := 0) (G2 := fun x => x = .int 5) (Nat.le_refl _) fun x ⟨i, j, ⟨i2, j2, e1, e2, e3⟩, e4, e5⟩ => by
    cases e1
    cases e2
    cases e3
    cases e4
    exact e5
  have h2 := gvShift (g := fun i j => i - j) (lo' := -2) (hi' := 3) u (gvDraw u rfl h1 (by decide) (by decide)) v1 fun i i0 i1 => by omega
  have h3 := gvShiftR (g := fun i j => i + j) (lo' := 1) (hi' := 3) u (gvInt (i := 1)) (gvDraw u rfl v2 (by decide) (by decide)) fun i i0 i1 => by omega
  exact gvRet (gvPure (G := fun x => x ∈ sevens) (np := np) (G0 := G0) (gvTwo u h2 h3) (fun ds ⟨x, y, e, ⟨i, ex, i0, i1⟩, j, ey, j0, j1⟩ => by
    subst e ex ey
    obtain ⟨x, h, _⟩ := hR i j i0 i1 j0 j1
    exact hN _ _ h) fun ds ⟨x, y, e, ⟨i, ex, i0, i1⟩, j, ey, j0, j1⟩ => by
    subst e ex ey
    exact hR i j i0 i1 j0 j1) trivial st hn rfl fun v S' H' n' x e st' hn' hx r => q v S' H' n' x e st' hn' hx r
end
end SW
set_option Elab.async false
set_option linter.all false
set_option maxRecDepth 100000
set_option maxHeartbeats 1000000
/-! St4: _law_letter, _law_some_step. -/
namespace SW
open PySem PySem.Spec PyProof.Rows L2
noncomputable def F0 : FT := fun _ _ => none
theorem pe_code {M : MC} {X : Cx} {sc : Scope} {e : Expr} (x : XOk M X sc true) (c : C) (h : mE M c sc e = true := by decide +kernel) : PE X e (rdD F0 c) := peD ((ev_ok c X sc true x fun _ _ _ _ _ _ _ z => (by cases (show (none : Option SV) = some _ from z))).pe e h)
def cI : Int → C
  | .ofNat n => .k (.int (.ofNat n))
  | .negSucc n => .un .neg (.k (.int (.ofNat (n + 1))))
def cP (a b : Int) : C := .un .tup (.cons (cI a) (.cons (cI b) .nil))
def cL : List C → C
  | [] => .nil
  | c :: r => .cons c (cL r)
def cThrees : C := .un .lst (cL [cP 0 1, cP 1 1, cP (-1) 1])
def cFours : C := .un .lst (cL [cP 1 1, cP (-1) 1, cP 2 1, cP 1 2])
def cTops : C := .un .lst (cL [cP 0 1, cP (-1) 1, cP (-2) 1, cP (-6) 1, cP 2 1, cP (-12) 1, cP (-7) 4, cP 5 4, cP (-3) 4, cP 1 4])
section
variable {P : Program} {w : World} {K : PySem.W.Frag} {mg : Str → Option Value} {base : Heap} {fa f1 f2 f3 : Addr} {fd d1 d2 d3 : FuncData} {k : Nat}
abbrev psLetter : List Str := ["_law_state"]
abbrev spLetter := spS 1 3 (fun ds => ds = []) fun _ x => x ∈ letters
theorem sc_letter : FnScope n__law_letter psLetter (defScope (top 148)) := scB_ok (by decide +kernel)
/-- one of a list that is written down -/
theorem gvPick {C : Hp → Prop} {d al : Addr} {σ : L2.St} {ta : TE} {xs : List PyData} (u : Up C) (h0 : σ[0]? = some (some (.ref d))) (h : GvS C d al σ ta 0 (fun x => x = .list xs)) (l0 : 0 < xs.length) (l1 : xs.length < 1000000) :
    GvS C d al σ (fun σ H Q => tCons (tVar 0) (tCons ta tNil) σ H fun vs H1 => spOf vs H1 Q) 1 (fun x => x ∈ xs) :=
  (gvCall h0 (gvOne u h) (fun ds ⟨x, e1, e2⟩ => ⟨xs, by rw [e1, e2], l0, l1⟩) (fun ds ⟨x, e1, _⟩ => by rw [e1]; rfl)).imp (Nat.le_refl _) fun x ⟨ds, ⟨y, e1, e2⟩, zs, e3, e4⟩ => by
    subst e1 e2
    cases e3
    exact e4
theorem ok_letter (F : Stn K 148 fa fd) (m : MgOk mg) (hk : 3 ≤ k) (Nb : Kn P w K mg base "_law_number" k psNumber spNumber f1 d1) (Of : Kn P w K mg base "_law_of" 3 psOf spOf f2 d2) : FnG P w K mg base (k + 1) fa fd psLetter spLetter := by
  refine fnG_of F sc_letter (fun vs H Q ⟨S, d, al, n, ws, ds, e, hl, _⟩ => by rw [e]; exact hl) fun X o vs H Q ⟨S, d, al, n, ws, ds, e, hl, st, hn, hd, e2, q⟩ => ?_
  subst e e2
  have x := o.xok (nms := nms) m sc_letter.nd
  refine ⟨_, pss_one (ps_ret (pe_tup (arg (callK o x Nb (Nat.le_refl _) (arg (vr x 0) (arg pe_int (arg pe_int pa_nil)))) (arg (callK o x Of hk (arg (vr x 0) (arg (pe_code x cFours) pa_nil))) pa_nil)))), ?_⟩
  cases hd
  have u := up_true
  have h1 := gvCall (i0 := 0) (d := d) (al := al) (np := 3) (k := 2) (Pr := fun ds => ds = [.int 2, .int 2]) (Go := fun _ x => x ∈ sevens) (σ := L2.start n__law_letter [.ref d]) rfl (gvTwo u (gvInt (i := 2)) (gvInt (i := 2))) (fun ds ⟨x, y, e, e1, e2⟩ => by rw [e, e1, e2]) fun ds ⟨x, y, e, _⟩ => by rw [e]; rfl
  have h2 := gvPick (d := d) (al := al) (σ := L2.start n__law_letter [.ref d]) u rfl (gvCode (F := F0) (c := cFours) (x := .list fours) (r := .own fours) (fun _ => rfl) rfl) (by decide) (by decide)
  exact gvRet (gvTup (gvTwo u h1 h2) fun xs ⟨x, y, e, _⟩ => by rw [e]; exact (show 2 ≤ 1000 by decide)) trivial st hn rfl fun v S' H' n' x e st' hn' ⟨xs, e1, a, b, e2, ⟨_, _, h3⟩, h4⟩ r => q v S' H' n' x e st' hn' (by
    rw [e1, e2]
    exact List.mem_flatMap.mpr ⟨a, h3, List.mem_map.mpr ⟨b, h4, rfl⟩⟩) r

/-! ### a step -/
abbrev spStep := spS 1 5 (fun ds => ds = []) fun _ x => x ∈ steps
theorem sc_step : FnScope n__law_some_step psLetter (defScope (top 147)) := scB_ok (by decide +kernel)
/-- (draw - k, 1) -/
theorem gvMid {C : Hp → Prop} {d al : Addr} {σ : L2.St} {t : TE} {lim j lo hi : Int} (u : Up C) (h : GvS C d al σ t 1 (IsI 0 lim)) (e1 : lo = 0 - j) (e2 : hi = lim - j) :
    GvS C d al σ (tTup (tCons (tOp (rI0 fun i j => .int (i - j)) t (tC (.int j))) (tCons (tC (.int 1)) tNil))) 1 (fun x => ∃ i, x = pr i 1 ∧ lo ≤ i ∧ i < hi) :=
  (gvTup (gvTwo u (gvShift (g := fun i j => i - j) (lo' := lo) (hi' := hi) u h (gvInt (i := j)) fun i i0 i1 => by omega) (gvInt (i := 1))) fun xs ⟨x, y, e, _⟩ => by rw [e]; exact (show 2 ≤ 1000 by decide)).imp (Nat.le_refl _) fun x ⟨xs, e3, a, b, e4, ⟨i, e5, i0, i1⟩, e6⟩ => by
    subst e4 e5 e6
    exact ⟨i, e3, i0, i1⟩
theorem step_mid : ∀ i : Int, -1 ≤ i → i < 2 → pr i 1 ∈ mids := fun i h1 h2 => by
  have : i = -1 ∨ i = 0 ∨ i = 1 := by omega
  rcases this with rfl | rfl | rfl <;> simp [mids, pr]
theorem step_cmid : ∀ i : Int, -4 ≤ i → i < 3 → pr i 1 ∈ cmids := fun i h1 h2 => by
  have : i = -4 ∨ i = -3 ∨ i = -2 ∨ i = -1 ∨ i = 0 ∨ i = 1 ∨ i = 2 := by omega
  rcases this with rfl | rfl | rfl | rfl | rfl | rfl | rfl <;> simp [cmids, pr]
theorem ok_step (F : Stn K 147 fa fd) (m : MgOk mg) (hk : 3 ≤ k) (D : Kn P w K mg base "_law_draw" 2 psDraw spDraw f1 d1) (Of : Kn P w K mg base "_law_of" 3 psOf spOf f2 d2) : FnG P w K mg base (k + 1) fa fd psLetter spStep := by
  refine fnG_of F sc_step (fun vs H Q ⟨S, d, al, n, ws, ds, e, hl, _⟩ => by rw [e]; exact hl) fun X o vs H Q ⟨S, d, al, n, ws, ds, e, hl, st, hn, hd, e2, q⟩ => ?_
  subst e e2
  have x := o.xok (nms := nms) m sc_step.nd
  have nd : X.N.Nodup := by rw [x.hN]; exact x.nd
  have hk2 : 2 ≤ k := by omega
  refine ⟨_, pss_cons (setS x 1 (pe_code x cTops))
    (pss_cons (ps_par (i := 2) (j := 3) (x := "_law_top") (y := "_law_middle") x.calm nd (by rw [x.hN]; rfl) (by rw [x.hN]; rfl) (by decide) (by rw [x.hsc]; decide +kernel) (by rw [x.hsc]; decide +kernel)
      (arg (callK o x Of hk (arg (vr x 0) (arg (vr x 1) pa_nil))) (arg (pe_tup (arg (pe_op op_sub (callK o x D hk2 (arg (vr x 0) (arg pe_int pa_nil))) pe_int) (arg pe_int pa_nil))) pa_nil))
      (sw_two (by rw [x.hsc]; decide +kernel) (by rw [x.hsc]; decide +kernel) (by rw [x.hsc]; decide +kernel) (by decide +kernel) (by decide +kernel) (by decide +kernel) (by decide +kernel) (by decide +kernel)))
    (pss_cons (ps_if (pt_cmpR op_eq (callK o x D hk2 (arg (vr x 0) (arg pe_int pa_nil))) pe_int (nomark _))
      (pss_one (ps_ret (pe_tup (arg (callK o x Of hk (arg (vr x 0) (arg (pe_code x cThrees) pa_nil))) (arg (pe_tup (arg (pe_op op_sub (callK o x D hk2 (arg (vr x 0) (arg pe_int pa_nil))) pe_int) (arg pe_int pa_nil))) (arg (pe_code x (cP 0 1)) (arg (pe_code x (cP 1 1)) pa_nil))))))) pss_nil)
    (pss_one (ps_ret (pe_tup (arg (vr x 2) (arg (vr x 3) (arg (pe_code x (cP 1 1)) pa_nil)))))))), ?_⟩
  cases hd
  have u := up_true
  refine gvSet (C := fun _ => True) (G := fun x => x = .list tops) (m := 0) (gvCode (F := F0) (c := cTops) (r := .own tops) (fun _ => rfl) rfl) trivial st (by omega) fun v1 S1 H1 n1 x1 e1 st1 hn1 hx1 r1 => ?_
  subst hx1
  have u1 : Up fun S => Dq S v1 (.list tops) := fun _ _ c s => c.mono s
  have t2 : GvA (fun S => Dq S v1 (.list tops)) d al [some (.ref d), some v1, none, none] _ _ _ := gvTwo u1 (gvPick (xs := tops) u1 rfl (gvVar (i := 1) (v := v1) (x := .list tops) rfl fun S c => c) (by decide) (by decide)) (gvMid (lo := -1) (hi := 2) (j := 1) u1 (gvDraw u1 rfl (gvInt (i := 3)) (by decide) (by decide)) rfl rfl)
  refine gvPar t2 r1 st1 (by omega) fun vs S2 H2 n2 xs e2 st2 hn2 ⟨x2, y2, e3, hx2, i2, hy2, i20, i21⟩ r2 => ?_
  subst e3 hy2
  cases r2 with
  | cons a2 r2 =>
  cases r2 with
  | cons b2 r2 =>
  cases r2
  rename_i v2 w2
  refine ⟨_, _, rfl, ?_⟩
  have u2 : Up fun S => Dq S v2 x2 ∧ Dq S w2 (pr i2 1) := fun _ _ c s => ⟨c.1.mono s, c.2.mono s⟩
  have t3 : GvS (fun S => Dq S v2 x2 ∧ Dq S w2 (pr i2 1)) d al [some (.ref d), some v1, some v2, some w2] _ _ _ := gvDraw u2 rfl (gvInt (i := 4)) (by decide) (by decide)
  refine gvIf0 t3 ⟨a2, b2⟩ st2 (by omega) fun S3 H3 n3 j e3 st3 hn3 => ?_
  have e13 := (e1.trans e2).trans e3
  refine ⟨fun hj => ?_, fun hj => ?_⟩
  · refine gvRet (C := fun _ => True) (gvTup (gvCons u (gvPick (xs := threes) (d := d) (al := al) (σ := [some (.ref d), some v1, some v2, some w2]) u rfl (gvCode (F := F0) (c := cThrees) (r := .own threes) (fun _ => rfl) rfl) (by decide) (by decide)) (gvCons u (gvMid (lo := -4) (hi := 3) (j := 4) u (gvDraw u rfl (gvInt (i := 7)) (by decide) (by decide)) rfl rfl)
      (gvTwo u (gvCode (F := F0) (c := cP 0 1) (x := pr 0 1) (r := .dat (pr 0 1)) (fun _ => rfl) rfl) (gvCode (F := F0) (c := cP 1 1) (x := pr 1 1) (r := .dat (pr 1 1)) (fun _ => rfl) rfl)))) ?_) trivial st3 (by omega) rfl fun v S' H' n' x e st' hn' hx r => q v S' H' n' x (e13.trans e) st' (by omega) ?_ r
    · rintro xs ⟨_, _, rfl, _, _, _, rfl, _, _, _, rfl, _⟩
      exact (show 4 ≤ 1000 by decide)
    · obtain ⟨xs, rfl, a, r, rfl, h1, b, r', rfl, ⟨i, rfl, i0, i1⟩, c, c', rfl, rfl, rfl⟩ := hx
      exact List.mem_append_right _ (List.mem_flatMap.mpr ⟨a, h1, List.mem_map.mpr ⟨_, step_cmid i i0 i1, rfl⟩⟩)
  · refine gvRet (C := fun S => Dq S v2 x2 ∧ Dq S w2 (pr i2 1)) (gvTup (gvCons u2 (gvVar (d := d) (al := al) (σ := [some (.ref d), some v1, some v2, some w2]) (i := 2) (v := v2) (x := x2) rfl fun S c => c.1) (gvTwo u2 (gvVar (i := 3) (v := w2) (x := pr i2 1) rfl fun S c => c.2) (gvCode (F := F0) (c := cP 1 1) (x := pr 1 1) (r := .dat (pr 1 1)) (fun _ => rfl) rfl))) ?_) ⟨a2.mono e3.ss, b2.mono e3.ss⟩ st3 (by omega) rfl fun v S' H' n' x e st' hn' hx r => q v S' H' n' x (e13.trans e) st' (by omega) ?_ r
    · rintro xs ⟨_, _, rfl, _, _, _, rfl, _⟩
      exact (show 3 ≤ 1000 by decide)
    · obtain ⟨xs, rfl, a, r, rfl, rfl, b, c, rfl, rfl, rfl⟩ := hx
      exact List.mem_append_left _ (List.mem_flatMap.mpr ⟨_, hx2, List.mem_map.mpr ⟨_, step_mid i2 i20 i21, rfl⟩⟩)
end
end SW
set_option Elab.async false
set_option linter.all false
set_option maxRecDepth 100000
set_option maxHeartbeats 1000000
/-! St5: _law_begin. -/
namespace SW
open PySem PySem.Spec PyProof.Rows L2
section
variable {P : Program} {w : World} {K : PySem.W.Frag} {mg : Str → Option Value} {base : Heap} {fa f1 f2 f3 : Addr} {fd d1 d2 d3 : FuncData} {k : Nat}
abbrev psScript : List Str := ["_law_script"]
/-- a script of at most a line's numbers; a state that is new -/
def spBegin (K : PySem.W.Frag) : List V → Hp → VK → Prop := fun vs H Q => ∃ (a : Addr) (ns : List Int), vs = [.ref a] ∧ SqL K H a (ns.map V.int) ∧ ns.length ≤ 1000 ∧ ∀ d al S H', StA S H' d al 0 → Q (.ref d) H'
theorem sc_begin : FnScope n__law_begin psScript (defScope (top 135)) := scB_ok (by decide +kernel)
def big18 : Int := (10 : Int) ^ ((18 : Int).toNat)
def leftOf (c : Int) : Int := if big18 ≤ c then c else 0
theorem dpAll_ints {H : Hp} : ∀ ns : List Int, DpAll K H (ns.map V.int) (ns.map PyData.int)
  | [] => .nil
  | i :: r => .cons (.int i) (dpAll_ints r)
theorem ints_shaped (ns : List Int) : SeqAt.shaped (.list (ns.map PyData.int)) = true := noB_shaped (n := 6) (by
  show (ns.map PyData.int).all (noB 5) = true
  rw [List.all_map]
  exact List.all_eq_true.mpr fun _ _ => rfl) (by decide)
theorem ok_begin (F : Stn K 135 fa fd) (m : MgOk mg) : FnG P w K mg base 1 fa fd psScript (spBegin K) := by
  refine fnG_of F sc_begin (fun vs H Q ⟨a, ns, e, _⟩ => by rw [e]; rfl) fun X o vs H Q ⟨a, ns, e, hs, hl, q⟩ => ?_
  subst e
  have x := o.xok (nms := nms) m sc_begin.nd
  have nd : X.N.Nodup := by rw [x.hN]; exact x.nd
  have hu : X.A.units + 64 < cLine := by have := x.units; omega
  rw [← o.K] at hs
  have ok : ∀ {scope : Scope}, blkC n__law_begin (defScope (top 135)) scope [("_law_cell", 2)] = true → BlkOk X.N X.env.scope scope [("_law_cell", 2)] := fun {scope} h => by rw [x.hN, x.hsc]; exact blkOk_by h
  refine ⟨_, pss_cons (setS x 1 (pe_ifExp (pt_cmpR (op_neD hu) (vr x 0) (pe_lst pa_nil) (nomark _)) (pe_callTy call_list_of (x.gl (by decide +kernel)) (x.blt "list" (by decide +kernel)) (by decide +kernel) (arg (vr x 0) pa_nil) (by decide +kernel) (by decide +kernel) (star1 (by decide +kernel)) any_nil) (pe_lst (arg pe_int pa_nil))))
    (pss_one (ps_ret (pe_disp (pps_cons pe_str (vr x 1) (pps_cons pe_str (pe_lc x.calm nd (pi_seq (vr x 1)) (ok (by decide +kernel))
      (fun s H C cl fp => mLoc_pg (x.blk s H _ cl C fp) (i := 2) (by decide +kernel)) (fun s H C cl fp => pts_nil)
      (fun s H C cl fp => pe_ifExp (pt_cmpR op_ge (mV_pe (i := 2) (x.blk s H _ cl C fp) (by decide +kernel)) (pe_op op_pow pe_int pe_int) (nomark _)) (mV_pe (i := 2) (x.blk s H _ cl C fp) (by decide +kernel)) pe_int) (fun z => set_none (by decide +kernel) z)) (pps_cons pe_str pe_int pps_nil))) (by decide +kernel) (by decide +kernel) (by exact List.cons_ne_nil _ _) (by decide +kernel)))), ?_⟩
  -- from the cells on
  have rest : ∀ (ac : Addr) (cs : List Int) (H1 : Hp), H1 ac = some (.lst (cs.map V.int)) → 0 < cs.length → cs.length ≤ 1000 → tRet (tDisp [(tC (.str "cells"), tVar 1), (tC (.str "lefts"), tLc (iSeq X.K (tVar 1)) (gName 2) tYes (tIf (tTest (tOp (rI0 fun i j => .bl (decide (j ≤ i))) (tVar 2) (tOp (rI CPow fun i j => .int (i ^ j.toNat)) (tC (.int 10)) (tC (.int 18))))) (tVar 2) (tC (.int 0))) [2]), (tC (.str "at"), tC (.int 0))])
      { nx := fun _ H' => Q .non H', rt := Q } [some (.ref a), some (.ref ac), none] H1 := by
    intro ac cs H1 h1 c0 c1 p hp
    refine ⟨_, rfl, ?_⟩
    have np : ac ≠ p := ne_of_none h1 hp
    have g1 : upd H1 p (.dK []) ac = some (.lst (cs.map V.int)) := by rw [upd_ne np]; exact h1
    have g2 : upd H1 p (.dK []) p = some (.dK []) := upd_same
    have g3 : ∀ b, upd H1 p (.dK []) b = none → b ≠ p := fun b h e => by rw [e, g2] at h; cases h
    generalize upd H1 p (.dK []) = H2 at g1 g2 g3 ⊢
    refine ⟨_, rfl, ac, cs.map V.int, rfl, .inl ⟨SqL.of g1, fun Dd hD => ?_⟩⟩
    have nd1 : ac ≠ Dd := ne_of_none g1 hD
    have nd2 : Dd ≠ p := g3 Dd hD
    refine lc_list (D := Dd) (fun i H => H = upd H2 Dd (.lst ((cs.take i).map fun c => V.int (leftOf c)))) rfl (fun i H _ e => by rw [e]; exact SqL.of (by rw [upd_ne nd1]; exact g1)) (fun i y H hy e => ?_) fun H e => ?_
    · rw [List.getElem?_map] at hy
      cases hc : cs[i]? with
      | none => rw [hc] at hy; cases hy
      | some c =>
        rw [hc] at hy
        cases hy
        subst e
        refine ⟨rfl, ?_⟩
        have fin : ∃ acc, upd H2 Dd (.lst ((cs.take i).map fun c => V.int (leftOf c))) Dd = some (.lst acc) ∧ acc.length < sizeLine ∧ upd (upd H2 Dd (.lst ((cs.take i).map fun c => V.int (leftOf c)))) Dd (.lst (acc ++ [V.int (leftOf c)])) = upd H2 Dd (.lst ((cs.take (i + 1)).map fun c => V.int (leftOf c))) := by
          refine ⟨_, upd_same, ?_, ?_⟩
          · rw [List.length_map, List.length_take]
            exact Nat.lt_of_le_of_lt (Nat.le_trans (Nat.min_le_right _ _) c1) (by decide)
          · rw [upd_upd, List.take_add_one, hc]
            simp
        unfold tYes
        simp only [if_true]
        refine (evtOp0 (evtVar rfl) (evtOp evtC evtC ⟨by decide, by decide, by decide⟩)) _ ⟨_, rfl, ?_⟩
        by_cases hb : big18 ≤ c
        · have e : leftOf c = c := if_pos hb
          rw [e] at fin
          have e2 : decide ((10 : Int) ^ Int.toNat 18 ≤ c) = true := decide_eq_true hb
          rw [e2]
          simp only [if_true]
          exact ⟨_, rfl, fin⟩
        · have e : leftOf c = 0 := if_neg hb
          rw [e] at fin
          have e2 : decide ((10 : Int) ^ Int.toNat 18 ≤ c) = false := decide_eq_false hb
          rw [e2]
          simp only [Bool.false_eq_true, if_false]
          exact fin
    · rw [List.length_map, List.take_length] at e
      subst e
      refine ⟨by rw [upd_ne nd2.symm]; exact g2, [(Sum.inr "cells", .ref ac), (Sum.inr "lefts", .ref Dd), (Sum.inr "at", .int 0)], rfl, (show 3 ≤ 15 by decide), ?_⟩
      have em : mergeK [] ([(Sum.inr "cells", .ref ac), (Sum.inr "lefts", .ref Dd), (Sum.inr "at", .int 0)] : List (Key × V)) = ([(Sum.inr "cells", .ref ac), (Sum.inr "lefts", .ref Dd), (Sum.inr "at", .int 0)] : List (Key × V)) := rfl
      rw [em]
      refine q p Dd (fun b => if b = ac then some (.lst (cs.map V.int)) else none) _ ⟨fun b o h => ?_, nd2.symm, ac, cs, cs.map leftOf, upd_same, if_pos rfl, ?_, by rw [List.length_map], c0⟩
      · by_cases hb : b = ac
        · subst hb
          rw [if_pos rfl] at h
          cases h
          rw [del2_ne np nd1, upd_ne np, upd_ne nd1]
          exact g1
        · rw [if_neg hb] at h
          cases h
      · rw [upd_ne nd2, upd_same, List.map_map]
        rfl
  refine ⟨.ref a, rfl, (show 0 ≤ sizeLine by decide), fun p hp => ?_⟩
  have hs' : SqL X.K (upd H p (.lst [])) a (ns.map V.int) := (same_new hp).seq hs
  refine ⟨.list (ns.map PyData.int), .list [], .lst hs' (dpAll_ints ns), .lst (SqL.of upd_same) .nil, ints_shaped ns, rfl, _, rfl, ?_⟩
  cases ns with
  | nil =>
    have e : (!PyData.eqv (.list (([] : List Int).map PyData.int)) (.list [])) = false := by decide
    rw [e]
    simp only [Bool.false_eq_true, if_false]
    exact ⟨(show 1 ≤ sizeLine by decide), fun l hl => rest l [0] _ upd_same (by decide) (by decide)⟩
  | cons n r =>
    have e : (!PyData.eqv (.list ((n :: r).map PyData.int)) (.list [])) = true := by simp [PyData.eqv, PyData.eqvAll]
    rw [e]
    simp only [if_true]
    exact ⟨.ref a, rfl, a, (n :: r).map V.int, rfl, .inl hs', fun l hl2 => rest l (n :: r) _ upd_same (Nat.succ_pos _) hl⟩
end
end SW
set_option Elab.async false
set_option linter.all false
set_option maxRecDepth 100000
set_option maxHeartbeats 1000000
/-! St6: _law_letters_right, _law_rests_right. -/
namespace SW
open PySem PySem.Spec PyProof.Rows L2
theorem no_none {n i : Nat} {r : SV} (h : (List.replicate n (none : Option SV))[i]? = some (some r)) : False := by
  rw [List.getElem?_replicate] at h
  split at h <;> cases h
theorem isT_true {o : Option Out} (h : isT o = true) : o = some (.rt (.dat (.bool true))) := by
  unfold isT at h
  split at h
  · rw [h]
  · cases h
theorem isTV_true {o : Option SV} (h : isTV o = true) : o = some (.dat (.bool true)) := by
  unfold isTV at h
  split at h
  · rw [h]
  · cases h
section
variable {P : Program} {w : World} {K : PySem.W.Frag} {mg : Str → Option Value} {base : Heap} {nm N : List Str} {scope : Scope} {k j : Nat} {X : Cx} {F : FT} {W : Nat}
theorem Tbl.up (T : Tbl P w K mg base nm j F) (h : j ≤ k) : Tbl P w K mg base nm k F := fun f n hn => by
  obtain ⟨fa, fd, ps, np, h1, h2, h3, h4, h5⟩ := T f n hn
  exact ⟨fa, fd, ps, np, h1, h2, h3, h4, h5.up h⟩
theorem Own.low (o : Own X P w K mg base N scope k) (h : j ≤ k) : Own X P w K mg base N scope j := ⟨o.prog, o.w, o.K, o.mg, o.base, o.N, o.sc, o.calm, o.fn, o.room.mono h, o.guards, o.pass⟩
/-- the tables of the pure defs -/
structure PureOk (P : Program) (w : World) (K : PySem.W.Frag) (mg : Str → Option Value) (base : Heap) : Prop where
  tbl : Tbl P w K mg base nms 14 (FF 12)
  grow : ∀ (X : Cx) (N : List Str) (scope : Scope), Own X P w K mg base N scope 14 → GrowOk (mcOf nms N) (FF 12) 3000 gr X
/-- a suite by its code, in a def that draws -/
theorem Own.suite (o : Own X P w K mg base N scope k) (p : PureOk P w K mg base) (m : MgOk mg) (nd : N.Nodup) (hk : 14 ≤ k) (hf : scope.kind = .function) (s : SW.S) {sts : List Stmt} (h : mSs (mcOf nms N) gr s scope sts = true) : PSs X sts (rdS (FF 12) 3000 s) :=
  (st_ok (o.sok m nd hf) (o.calls (p.tbl.up hk) N) (p.grow X N scope (o.low hk)) s).2 sts h
/-- .. its end: True -/
theorem tail_run {S H : Hp} {d al : Addr} {n : Nat} {σ : L2.St} {ρ : En} {s : SW.S} {D : Ends} {Q : VK} (st : StA S H d al n) (en : EnR (Fresh H) S H σ ρ) (h : evS F W s ρ = some (.rt (.dat (.bool true)))) (hD : D.rt = Q)
    (q : ∀ v S' H', Ext S (del2 H d al) S' (del2 H' d al) → StA S' H' d al n → Dq S' v (.bool true) → Q v H') : rdS F W s D σ H :=
  ⟨S, H, S, ρ, _, .refl st.sh, en, h, fun v S' H' e r => by
    show D.rt v H'
    rw [hD]
    exact q v S' H' (Ext.del2 st e) (st.ext e) r.1⟩
/-- slots of data -/
theorem en_data {O : Addr → Prop} {S H : Hp} {σ : L2.St} {ρ : En} (sh : Same S H) (hl : ρ.length = σ.length) (h : ∀ (i : Nat) (r : SV), ρ[i]? = some (some r) → ∃ (v : V) (x : PyData), r = SV.dat x ∧ σ[i]? = some (some v) ∧ Dq S v x) : EnR O S H σ ρ :=
  have no : ∀ (i : Nat) (r : SV), ρ[i]? = some (some r) → ownd r = false := fun i r e => by
    obtain ⟨v, x, rfl, _⟩ := h i r e
    rfl
  ⟨hl, sh, fun i r e => let ⟨v, x, e1, h1, h2⟩ := h i r e; ⟨v, h1, by rw [e1]; exact h2⟩, fun i j r r' a _ e1 _ o1 => by
    rw [no i r e1] at o1
    exact (Bool.false_ne_true o1).elim, fun i r a e o => by
    rw [no i r e] at o
    cases o⟩
end
section
variable {P : Program} {w : World} {K : PySem.W.Frag} {mg : Str → Option Value} {base : Heap} {fa f1 f2 f3 : Addr} {fd d1 d2 d3 : FuncData} {k : Nat}
abbrev psTold : List Str := ["_law_state", "_law_told_so"]
abbrev PrStep : List PyData → Prop := fun ds => ∃ t, ds = [t] ∧ t ∈ steps
abbrev spLetters := spS 2 3 PrStep fun _ x => x = .bool true
theorem sc_letters : FnScope n__law_letters_right psTold (defScope (top 150)) := scB_ok (by decide +kernel)
theorem ok_letters (fact : ∀ t ∈ steps, ∀ l ∈ letters, chkL t l = true) (F : Stn K 150 fa fd) (m : MgOk mg) (p : PureOk P w K mg base) (hk : 14 ≤ k) (L : Kn P w K mg base "_law_letter" k psLetter spLetter f1 d1) : FnG P w K mg base (k + 1) fa fd psTold spLetters := by
  refine fnG_of F sc_letters (fun vs H Q ⟨S, d, al, n, ws, ds, e, hl, _⟩ => by rw [e]; exact hl) fun X o vs H Q ⟨S, d, al, n, ws, ds, e, hl, st, hn, hd, ⟨t, e2, ht⟩, q⟩ => ?_
  subst e e2
  have x := o.xok (nms := nms) m sc_letters.nd
  refine ⟨_, pss_cons (setS x 2 (callK o x L (Nat.le_refl _) (arg (vr x 0) pa_nil))) (o.suite p m sc_letters.nd hk sc_letters.kind t__law_letters_right (by decide +kernel)), ?_⟩
  cases hd with
  | cons a r =>
  cases r
  rename_i v _h
  have u : Up fun S => Dq S v t := fun _ _ c s => c.mono s
  have t1 : GvS (fun S => Dq S v t) d al [some (.ref d), some v, none, none, none, none, none, none, none, none] _ _ _ := gvCall (i0 := 0) (np := 1) (k := 3) (Pr := fun ds => ds = []) (Go := fun _ x => x ∈ letters) rfl gvNil (fun ds e => e) fun ds e => by rw [e]; rfl
  refine gvSet t1 a st (by omega) fun v1 S1 H1 n1 x1 e1 st1 hn1 ⟨_, _, hx1⟩ r1 => ?_
  have a1 := a.mono e1.ss
  refine tail_run (ρ := [none, some (.dat t), some (.dat x1), none, none, none, none, none, none, none]) st1 (en_data st1.sh rfl fun i r h => ?_) (isT_true (fact t ht x1 hx1)) rfl fun v' S' H' e st' r => q v' S' H' n1 _ (e1.trans e) st' (by omega) rfl r
  match i, h with
  | 0, h => cases h
  | 1, h => cases h; exact ⟨_, _, rfl, rfl, a1⟩
  | 2, h => cases h; exact ⟨_, _, rfl, rfl, r1⟩
  | i + 3, h => exact (no_none (n := 7) (i := i) (r := r) h).elim
abbrev spRests := spS 2 1 PrStep fun _ x => x = .bool true
def cModuli : C := .un .lst (cL [.k (.int 3), .k (.int 5), .k (.int 7), .k (.int 11), .k (.int 13), .k (.int 15), .k (.int 35)])
theorem sc_rests : FnScope n__law_rests_right psTold (defScope (top 152)) := scB_ok (by decide +kernel)
theorem ok_rests (fact : ∀ t ∈ steps, ∀ l ∈ moduli, chkR t l = true) (F : Stn K 152 fa fd) (m : MgOk mg) (p : PureOk P w K mg base) (hk : 14 ≤ k) (Of : Kn P w K mg base "_law_of" 3 psOf spOf f1 d1) : FnG P w K mg base (k + 1) fa fd psTold spRests := by
  refine fnG_of F sc_rests (fun vs H Q ⟨S, d, al, n, ws, ds, e, hl, _⟩ => by rw [e]; exact hl) fun X o vs H Q ⟨S, d, al, n, ws, ds, e, hl, st, hn, hd, ⟨t, e2, ht⟩, q⟩ => ?_
  subst e e2
  have x := o.xok (nms := nms) m sc_rests.nd
  refine ⟨_, pss_cons (setS x 2 (callK o x Of (by omega) (arg (vr x 0) (arg (pe_code x cModuli) pa_nil)))) (o.suite p m sc_rests.nd hk sc_rests.kind t__law_rests_right (by decide +kernel)), ?_⟩
  cases hd with
  | cons a r =>
  cases r
  rename_i v _h
  have u : Up fun S => Dq S v t := fun _ _ c s => c.mono s
  have t1 : GvS (fun S => Dq S v t) d al [some (.ref d), some v, none, none, none, none, none, none, none] _ _ _ := gvPick (xs := moduli) u rfl (gvCode (F := F0) (c := cModuli) (r := .own moduli) (fun _ => rfl) rfl) (by decide) (by decide)
  refine gvSet t1 a st (by omega) fun v1 S1 H1 n1 x1 e1 st1 hn1 hx1 r1 => ?_
  have a1 := a.mono e1.ss
  refine tail_run (ρ := [none, some (.dat t), some (.dat x1), none, none, none, none, none, none]) st1 (en_data st1.sh rfl fun i r h => ?_) (isT_true (fact t ht x1 hx1)) rfl fun v' S' H' e st' r => q v' S' H' n1 _ (e1.trans e) st' (by omega) rfl r
  match i, h with
  | 0, h => cases h
  | 1, h => cases h; exact ⟨_, _, rfl, rfl, a1⟩
  | 2, h => cases h; exact ⟨_, _, rfl, rfl, r1⟩
  | i + 3, h => exact (no_none (n := 6) (i := i) (r := r) h).elim
end
end SW
set_option Elab.async false
set_option linter.all false
set_option maxRecDepth 100000
set_option maxHeartbeats 1000000
/-! St7: _law_whole_right. -/
namespace SW
open PySem PySem.Spec PyProof.Rows L2
def nums : List PyData := (List.range 25).map fun (i : Nat) => pr ((i : Int) - 12) 1
theorem nums_mem {i : Int} (h1 : -12 ≤ i) (h2 : i < 13) : pr i 1 ∈ nums := List.mem_map.mpr ⟨(i + 12).toNat, List.mem_range.mpr (by omega), by
  have : (((i + 12).toNat : Nat) : Int) - 12 = i := by omega
  rw [this]⟩
/-- steps of whole numbers -/
noncomputable def isWh (t : PyData) : Bool := match t with
  | .tuple xs => xs.all fun x => match x with
    | .tuple [_, .int i] => eqI i 1
    | _ => false
  | _ => false
def FactW : Prop := ∀ t ∈ steps, isWh t = true → ∀ xs : List PyData, xs.length = 4 → (∀ x ∈ xs, x ∈ nums) → evS (FF 12) 3000 t__law_whole_right [none, some (.dat t), some (.dat (.list xs)), none, none, none, none, none, none, none] = some (.rt (.dat (.bool true)))
section
variable {S H S' H' : Hp} {d al D : Addr} {n : Nat} {o : HO}
theorem StA.put (st : StA S H d al n) (h1 : D ≠ d) (h2 : D ≠ al) (h3 : S D = none) : StA S (upd H D o) d al n := by
  obtain ⟨ac, cs, ls, g1, g2, g3, g4⟩ := st.ex
  refine ⟨fun b x h => ?_, st.ne, ac, cs, ls, by rw [upd_ne (Ne.symm h1)]; exact g1, g2, by rw [upd_ne (Ne.symm h2)]; exact g3, g4⟩
  have nb : b ≠ D := ne_of_none h h3
  have := st.sub b x h
  by_cases e1 : b = al
  · subst e1; rw [st.al0] at h; cases h
  · by_cases e2 : b = d
    · subst e2; rw [st.d0] at h; cases h
    · rw [del2_ne e2 e1] at this ⊢
      rw [upd_ne nb]
      exact this
theorem delD_upd (h1 : D ≠ d) (h2 : D ≠ al) : delH (del2 (upd H D o) d al) D = delH (del2 H d al) D := by
  funext b
  by_cases e : b = D
  · subst e; rw [del_eq, del_eq]
  · rw [del_ne e, del_ne e]
    by_cases e1 : b = al
    · subst e1
      unfold del2
      rw [del_eq, del_eq]
    · by_cases e2 : b = d
      · subst e2
        unfold del2
        rw [del_ne e1, del_ne e1, del_eq, del_eq]
      · rw [del2_ne e2 e1, del2_ne e2 e1, upd_ne e]
/-- the list that is done, taken into S -/
theorem froz_done {H0 : Hp} (st : StA S' H' d al n) (e : Ext S (del2 H0 d al) S' (delH (del2 H' d al) D)) (h0 : del2 H0 d al D = none) (h1 : D ≠ d) (h2 : D ≠ al) (h3 : S' D = none) (h4 : H' D = some o) :
    Ext S (del2 H0 d al) (upd S' D o) (del2 H' d al) ∧ StA (upd S' D o) H' d al n := by
  have sn := same_new (o := o) h3
  have sh : Same (upd S' D o) (del2 H' d al) := fun b x h => by
    by_cases eb : b = D
    · subst eb; rw [upd_same] at h; cases h; rw [del2_ne h1 h2]; exact h4
    · rw [upd_ne eb] at h; exact st.sub b x h
  refine ⟨⟨e.ss.trans sn, e.hh.trans del_sub, sh, fun b h => ?_⟩, sh, st.ne, ?_⟩
  · by_cases eb : b = D
    · subst eb; exact .inr h0
    · rw [upd_ne eb] at h; exact e.fr b h
  · obtain ⟨ac, cs, ls, g1, g2, g3, g4⟩ := st.ex
    exact ⟨ac, cs, ls, g1, sn _ _ g2, g3, g4⟩
end
section
variable {P : Program} {w : World} {K : PySem.W.Frag} {mg : Str → Option Value} {base : Heap} {fa f1 f2 f3 : Addr} {fd d1 d2 d3 : FuncData} {k : Nat}
abbrev spWhole := spS 2 4 (fun ds => ∃ t, ds = [t] ∧ t ∈ steps ∧ isWh t = true) fun _ x => x = .bool true
theorem sc_whole : FnScope n__law_whole_right psTold (defScope (top 153)) := scB_ok (by decide +kernel)
theorem ok_whole (fact : FactW) (F : Stn K 153 fa fd) (m : MgOk mg) (p : PureOk P w K mg base) (hk : 14 ≤ k) (Dr : Kn P w K mg base "_law_draw" 2 psDraw spDraw f1 d1) : FnG P w K mg base (k + 1) fa fd psTold spWhole := by
  refine fnG_of F sc_whole (fun vs H Q ⟨S, d, al, n, ws, ds, e, hl, _⟩ => by rw [e]; exact hl) fun X o vs H Q ⟨S, d, al, n, ws, ds, e, hl, st, hn, hd, ⟨t, e2, ht, hw⟩, q⟩ => ?_
  subst e e2
  have x := o.xok (nms := nms) m sc_whole.nd
  have nd : X.N.Nodup := by rw [x.hN]; exact x.nd
  have ok : ∀ {scope : Scope}, blkC n__law_whole_right (defScope (top 153)) scope [("_law_step", 9)] = true → BlkOk X.N X.env.scope scope [("_law_step", 9)] := fun {scope} h => by rw [x.hN, x.hsc]; exact blkOk_by h
  have gm : X.mg "_law_draw" = some (.ref f1) := by rw [o.mg]; exact Dr.at_
  have km : PySem.W.keepIn X.K (.ref f1) = true := by rw [o.K]; exact Dr.kp
  refine ⟨_, pss_cons (ps_setLc (i := 2) (y := "_law_numbers_so") x.calm nd (by rw [x.hN]; rfl) (by rw [x.hsc]; decide +kernel) (sw_true (by rw [x.hsc]; decide +kernel) (by rw [x.hsc]; decide +kernel) (by decide +kernel) (by decide +kernel)) (pi_range1 (x.gl (by decide +kernel)) (x.blt "range" (by decide +kernel)) (arg pe_int pa_nil)) (ok (by decide +kernel))
      (fun s H C cl fp => mLoc_pg (x.blk s H _ cl C fp) (i := 9) (by decide +kernel)) (fun s H C cl fp => pts_nil)
      (fun s H C cl fp => pe_tup (arg (pe_op op_sub (callF (x.blk s H _ cl C fp) gm km (o.crS Dr.ok (by omega) Dr.bd ⟨rfl, rfl, rfl, rfl, rfl, rfl⟩) (arg (vr (x.blk s H _ cl C fp) 0) (arg pe_int pa_nil))) pe_int) (arg pe_int pa_nil))) (fun z => set_none (by decide +kernel) z))
    (o.suite p m sc_whole.nd hk sc_whole.kind t__law_whole_right (by decide +kernel)), ?_⟩
  cases hd with
  | cons a r =>
  cases r
  rename_i v _h
  refine ⟨4, rfl, by decide, by decide, fun Dd hD => ?_⟩
  obtain ⟨ac, cs, ls, s1, s2, s3, s4⟩ := st.ex
  have nd1 : Dd ≠ d := (ne_of_none s1 hD).symm
  have nd2 : Dd ≠ al := (ne_of_none s3 hD).symm
  have hD2 : del2 H d al Dd = none := by rw [del2_ne nd1 nd2]; exact hD
  have u := up_true
  refine lc_range (lo := 0) (n := 4) (D := Dd) (fun i H' => ∃ S1 n1 ys xs, Ext S (del2 H d al) S1 (delH (del2 H' d al) Dd) ∧ StA S1 H' d al n1 ∧ S1 Dd = none ∧ H' Dd = some (.lst ys) ∧ DqA S1 ys xs ∧ xs.length = i ∧ (∀ x ∈ xs, x ∈ nums) ∧ n1 ≤ n + i) ?_ ?_ ?_
  · have z : S Dd = none := st.sub.free hD2
    refine ⟨S, n, [], [], ?_, st.put nd1 nd2 z, z, upd_same, .nil, rfl, nofun, Nat.le_refl _⟩
    rw [delD_upd nd1 nd2, del_new hD2]
    exact .refl st.sub
  · rintro i H1 hi ⟨S1, n1, ys, xs, e1, st1, z1, h1, r1, l1, m1, hn1⟩
    refine ⟨rfl, ?_⟩
    unfold tYes
    simp only [if_true]
    have t1 : GvS (fun _ => True) d al ((L2.wipe (L2.start n__law_whole_right [.ref d, v]) [9]).set 9 (some (.int (0 + (i : Nat))))) _ _ _ := gvMid (lo := -12) (hi := 13) (j := 12) u (gvDraw u rfl (gvInt (i := 25)) (by decide) (by decide)) rfl rfl
    refine t1 S1 H1 n1 _ trivial st1 (by omega) fun y S2 H2 n2 x2 e2 st2 hn2 ⟨iv, hx, i0, i1⟩ r2 => ?_
    have h1' : del2 H1 d al Dd = some (.lst ys) := by rw [del2_ne nd1 nd2]; exact h1
    have h2' := e2.hh _ _ h1'
    have z2 : S2 Dd = none := e2.out z1 h1'
    have h2 : H2 Dd = some (.lst ys) := by rw [del2_ne nd1 nd2] at h2'; exact h2'
    refine ⟨ys, h2, ?_, S2, n2, ys ++ [y], xs ++ [x2], ?_, st2.put nd1 nd2 z2, z2, upd_same, (r1.mono e2.ss).append (.cons r2 .nil), by rw [List.length_append, l1]; rfl, fun z hz => ?_, by omega⟩
    · rw [r1.length, l1]
      exact Nat.lt_trans hi (by decide)
    · rw [delD_upd nd1 nd2]
      exact e1.trans (e2.del z1 h1')
    · rcases List.mem_append.mp hz with hz | hz
      · exact m1 z hz
      · rw [List.mem_singleton.mp hz, hx]
        exact nums_mem i0 i1
  · rintro H1 ⟨S1, n1, ys, xs, e1, st1, z1, h1, r1, l1, m1, hn1⟩
    obtain ⟨e2, st2⟩ := froz_done st1 e1 hD2 nd1 nd2 z1 h1
    have sn := same_new (o := .lst ys) z1
    have a2 := a.mono e2.ss
    have r2 : Dq (upd S1 Dd (.lst ys)) (.ref Dd) (.list xs) := .lst upd_same (r1.mono sn)
    refine tail_run (ρ := [none, some (.dat t), some (.dat (.list xs)), none, none, none, none, none, none, none]) st2 (en_data st2.sh rfl fun i r h => ?_) (fact t ht hw xs l1 m1) rfl fun v' S' H' e st' r => q v' S' H' n1 _ (e2.trans e) st' (by omega) rfl r
    match i, h with
    | 0, h => cases h
    | 1, h => cases h; exact ⟨_, _, rfl, rfl, a2⟩
    | 2, h => cases h; exact ⟨_, _, rfl, rfl, r2⟩
    | i + 3, h => exact (no_none (n := 7) (i := i) (r := r) h).elim
end
end SW
set_option Elab.async false
set_option linter.all false
set_option maxRecDepth 100000
set_option maxHeartbeats 1000000
/-! St8: law. -/
namespace SW
open PySem PySem.Spec PyProof.Rows L2
def GvT (C : Hp → Prop) (d al : Addr) (σ : L2.St) (t : TT) (m : Nat) (b : Bool) : Prop := ∀ (S H : Hp) (n : Nat) (Q : Bool → Hp → Prop), C S → StA S H d al n → n + m ≤ 1000 →
  (∀ S' H' n', Ext S (del2 H d al) S' (del2 H' d al) → StA S' H' d al n' → n' ≤ n + m → Q b H') → t σ H Q
section
variable {C : Hp → Prop} {d al : Addr} {σ : L2.St} {t t1 t2 : TT} {te : TE} {m m1 m2 n : Nat} {b b1 b2 : Bool} {S H : Hp} {D : Ends} {u p : TS}
theorem gvtVal (h : GvS C d al σ te m (fun x => x = .bool b)) : GvT C d al σ (tB te) m b := fun S H n Q c st hn q => h S H n _ c st hn fun v S' H' n' x e st' hn' hx r => by
  subst hx
  cases r
  exact ⟨b, rfl, q S' H' n' e st' hn'⟩
theorem gvtNot (h : GvT C d al σ t m b) : GvT C d al σ (tNot t) m (!b) := fun S H n Q c st hn q => h S H n _ c st hn fun S' H' n' e st' hn' => q S' H' n' e st' hn'
theorem gvtOr (hu : Up C) (h1 : GvT C d al σ t1 m1 false) (h2 : GvT C d al σ t2 m2 b) : GvT C d al σ (tOr t1 t2) (m1 + m2) b := fun S H n Q c st hn q => h1 S H n _ c st (by omega) fun S1 H1 n1 e1 st1 hn1 => by
  simp only [Bool.false_eq_true, if_false]
  exact h2 S1 H1 n1 _ (hu _ _ c e1.ss) st1 (by omega) fun S2 H2 n2 e2 st2 hn2 => q S2 H2 n2 (e1.trans e2) st2 (by omega)
theorem gvtAnd (hu : Up C) (h1 : GvT C d al σ t1 m1 b1) (h2 : b1 = true → GvT C d al σ t2 m2 false) : GvT C d al σ (tAnd t1 t2) (m1 + m2) false := fun S H n Q c st hn q => h1 S H n _ c st (by omega) fun S1 H1 n1 e1 st1 hn1 => by
  cases b1 with
  | false =>
    simp only [Bool.false_eq_true, if_false]
    exact q S1 H1 n1 e1 st1 (by omega)
  | true =>
    simp only [if_true]
    exact h2 rfl S1 H1 n1 _ (hu _ _ c e1.ss) st1 (by omega) fun S2 H2 n2 e2 st2 hn2 => q S2 H2 n2 (e1.trans e2) st2 (by omega)
theorem gvIfF (h : GvT C d al σ t m false) (c : C S) (st : StA S H d al n) (hn : n + m ≤ 1000) (q : ∀ S' H' n', Ext S (del2 H d al) S' (del2 H' d al) → StA S' H' d al n' → n' ≤ n + m → u D σ H') : tSeq (tIfS t p tNext) u D σ H :=
  h S H n _ c st hn fun S' H' n' e st' hn' => by
    simp only [Bool.false_eq_true, if_false]
    exact q S' H' n' e st' hn'
theorem gvIfE (h : GvT C d al σ t m false) (c : C S) (st : StA S H d al n) (hn : n + m ≤ 1000) (q : ∀ S' H' n', Ext S (del2 H d al) S' (del2 H' d al) → StA S' H' d al n' → n' ≤ n + m → D.nx σ H') : tIfS t p tNext D σ H :=
  h S H n _ c st hn fun S' H' n' e st' hn' => by
    simp only [Bool.false_eq_true, if_false]
    exact q S' H' n' e st' hn'
/-- a test by its code -/
theorem gvtCode {F : FT} {c : SW.C} {ρ : En} (hl : ρ.length = σ.length) (h : ∀ (S : Hp), C S → ∀ (i : Nat) (r : SV), ρ[i]? = some (some r) → ∃ (v : V) (x : PyData), r = SV.dat x ∧ σ[i]? = some (some v) ∧ Dq S v x) (he : evC F c false ρ = some (.dat (.bool b))) : GvT C d al σ (rdT F c) 0 b := fun S H n Q c st hn q =>
  ⟨fun _ => True, S, ρ, b, en_data st.sh hl (h S c), he, fun S' H' e => q S' H' n (Ext.del2 st e) (st.ext e) (Nat.le_refl _)⟩
end
def cW : C := .bi .eq (.comp (.name 4) (.un .seq (.v 3)) (.cons (.bi .ne (.bi .ix (.v 4) (.k (.int 1))) (.k (.int 1))) .nil) (.k (.int 1)) [4]) (.un .lst .nil)
noncomputable def chkW (t : PyData) : Bool := match evC F0 cW false [none, none, none, some (.dat t), none] with
  | some (.dat (.bool b)) => b == isWh t
  | _ => false
theorem chkW_ok : steps.all chkW = true := by decide +kernel
theorem cW_ev {t : PyData} (h : t ∈ steps) : evC F0 cW false [none, none, none, some (.dat t), none] = some (.dat (.bool (isWh t))) := by
  have h := List.all_eq_true.mp chkW_ok t h
  unfold chkW at h
  split at h
  · rename_i b e
    rw [e, eq_of_beq h]
  · cases h
section
variable {P : Program} {w : World} {K : PySem.W.Frag} {mg : Str → Option Value} {base : Heap} {fa f1 f2 f3 f4 f5 f6 : Addr} {fd d1 d2 d3 d4 d5 d6 : FuncData} {k : Nat}
def spLaw (K : PySem.W.Frag) : List V → Hp → VK → Prop := fun vs H Q => ∃ (a : Addr) (ns : List Int), vs = [.ref a] ∧ SqL K H a (ns.map V.int) ∧ ns.length ≤ 1000 ∧ ∀ H', Q (.bl true) H'
theorem sc_law : FnScope n_law psScript (defScope (top 154)) := scB_ok (by decide +kernel)
theorem pt_call {X : Cx} {e : Expr} {t : TE} (h : PE X e t) (ht : tHead e = true := by decide +kernel) : PT X e (tB t) := pt_val h fun whole => true_plain ht whole
theorem ok_law (factT : ∀ t ∈ steps, chkT t = true) (F : Stn K 154 fa fd) (m : MgOk mg) (p : PureOk P w K mg base) (hk : 14 ≤ k)
    (Bg : Kn P w K mg base "_law_begin" k psScript (spBegin K) f1 d1) (Stp : Kn P w K mg base "_law_some_step" k psLetter spStep f2 d2)
    (Lt : Kn P w K mg base "_law_letters_right" k psTold spLetters f3 d3) (Rs : Kn P w K mg base "_law_rests_right" k psTold spRests f4 d4) (Wh : Kn P w K mg base "_law_whole_right" k psTold spWhole f5 d5) : FnG P w K mg base (k + 1) fa fd psScript (spLaw K) := by
  refine fnG_of F sc_law (fun vs H Q ⟨a, ns, e, _⟩ => by rw [e]; rfl) fun X o vs H Q ⟨a, ns, e, hs, hl, q⟩ => ?_
  subst e
  have x := o.xok (nms := nms) m sc_law.nd
  obtain ⟨ft, dt, pst, npt, t1, t2, t3, t4, t5⟩ := p.tbl 109 "_law_twice_right" (by rfl)
  have Tw : Kn P w K mg base "_law_twice_right" 14 pst (spD npt (FF 12 109)) ft dt := ⟨t1, t2, t3, t5⟩
  refine ⟨_, pss_cons (setS x 1 (callK o x Bg (Nat.le_refl _) (arg (vr x 0) pa_nil)))
    (pss_cons (ps_for o.pass x.calm (pi_range1 (x.gl (by decide +kernel)) (x.blt "range" (by decide +kernel)) (arg pe_int pa_nil)) (mLoc_pg x (i := 2) (cl := true) (by decide +kernel))
      (pss_cons (setS x 3 (callK o x Stp (Nat.le_refl _) (arg (vr x 1) pa_nil)))
      (pss_cons (ps_if (pw_or (pt_not (pt_call (callK o x Tw hk (arg (vr x 3) pa_nil)))) (pw_or1 (pt_not (pt_call (callK o x Lt (Nat.le_refl _) (arg (vr x 1) (arg (vr x 3) pa_nil))))))).pt (pss_one (ps_ret pe_bl)) pss_nil)
      (pss_cons (ps_if (pt_not (pt_call (callK o x Rs (Nat.le_refl _) (arg (vr x 1) (arg (vr x 3) pa_nil))))) (pss_one (ps_ret pe_bl)) pss_nil)
      (pss_one (ps_if (pw_and ((ev_ok (F := F0) cW X _ true x fun _ _ _ _ _ _ _ z => (by cases (show (none : Option SV) = some _ from z))).pt _ (by decide +kernel) (by decide +kernel)) (pw_and1 (pt_not (pt_call (callK o x Wh (Nat.le_refl _) (arg (vr x 1) (arg (vr x 3) pa_nil))))))).pt (pss_one (ps_ret pe_bl)) pss_nil)))))
      (fun z => set_none (by decide +kernel) z))
    (pss_one (ps_ret pe_bl))), ?_⟩
  refine ⟨_, rfl, a, ns, rfl, by rw [← o.K] at hs; rw [o.K] at hs; exact hs, hl, fun d al S H1 st => ?_⟩
  refine ⟨2, rfl, by decide, by decide, ?_⟩
  refine for_it (walk_range (lo := 0) (n := 2)) (fun i σ' H' => ∃ S1 n1 b2 b3, σ' = [some (.ref a), some (.ref d), b2, b3, none] ∧ StA S1 H' d al n1 ∧ n1 ≤ 100 * i) ⟨S, 0, none, none, rfl, st, Nat.le_refl _⟩ (fun _ _ _ _ _ => trivial) ?_ ?_
  · rintro i y σ' H2 H3 hi ⟨S1, n1, b2, b3, rfl, st1, hn1⟩ ⟨rfl, rfl⟩
    have g1 : GvS (fun _ => True) d al [some (.ref a), some (.ref d), some (.int (0 + (i : Nat))), b3, none] _ _ _ := gvCall (i0 := 1) (np := 1) (k := 5) (Pr := fun ds => ds = []) (Go := fun _ x => x ∈ steps) rfl gvNil (fun ds e => e) fun ds e => by rw [e]; rfl
    refine gvSet g1 trivial st1 (by omega) fun v S2 H2 n2 t e2 st2 hn2 ⟨_, _, ht⟩ r2 => ?_
    have u : Up fun S => Dq S v t := fun _ _ c s => c.mono s
    have v3 : GvS (fun S => Dq S v t) d al [some (.ref a), some (.ref d), some (.int (0 + (i : Nat))), some v, none] (tVar 3) 0 (fun x => x = t) := gvVar rfl fun S c => c
    have a3 := gvOne u v3
    have gT := gvPure (np := npt) (G0 := FF 12 109) (G := fun x => x = .bool true) a3 (fun ds ⟨z, e, _⟩ => by
      have := t4 [.dat t] (.dat (.bool true)) (isTV_true (factT t ht))
      rw [e]
      exact this) (fun ds ⟨z, e, ez⟩ => ⟨_, by rw [e, ez]; exact isTV_true (factT t ht), rfl⟩)
    have gL := (gvCall (i0 := 1) (np := 2) (k := 3) (Pr := PrStep) (Go := fun _ x => x = .bool true) rfl a3 (fun ds ⟨z, e, ez⟩ => ⟨t, by rw [e, ez], ht⟩) (fun ds ⟨z, e, _⟩ => by rw [e]; rfl)).imp (G2 := fun x => x = .bool true) (Nat.le_refl _) fun z ⟨_, _, h⟩ => h
    have gR := (gvCall (i0 := 1) (np := 2) (k := 1) (Pr := PrStep) (Go := fun _ x => x = .bool true) rfl a3 (fun ds ⟨z, e, ez⟩ => ⟨t, by rw [e, ez], ht⟩) (fun ds ⟨z, e, _⟩ => by rw [e]; rfl)).imp (G2 := fun x => x = .bool true) (Nat.le_refl _) fun z ⟨_, _, h⟩ => h
    refine gvIfF (gvtOr u (gvtNot (gvtVal gT)) (gvtNot (gvtVal gL))) r2 st2 (by omega) fun S3 H3 n3 e3 st3 hn3 => ?_
    have r3 := r2.mono e3.ss
    refine gvIfF (gvtNot (gvtVal gR)) r3 st3 (by omega) fun S4 H4 n4 e4 st4 hn4 => ?_
    have r4 := r3.mono e4.ss
    have gC : GvT (fun S => Dq S v t) d al [some (.ref a), some (.ref d), some (.int (0 + (i : Nat))), some v, none] (rdT F0 cW) 0 (isWh t) := gvtCode (ρ := [none, none, none, some (.dat t), none]) rfl (fun S c j r h => by
      match j, h with
      | 0, h => cases h
      | 1, h => cases h
      | 2, h => cases h
      | 3, h => cases h; exact ⟨v, t, rfl, rfl, c⟩
      | j + 4, h => exact (no_none (n := 1) (i := j) (r := r) h).elim) (cW_ev ht)
    refine gvIfE (gvtAnd u gC fun hb => gvtNot (b := true) (gvtVal ((gvCall (i0 := 1) (np := 2) (k := 4) (Pr := fun ds => ∃ t, ds = [t] ∧ t ∈ steps ∧ isWh t = true) (Go := fun _ x => x = .bool true) rfl a3 (fun ds ⟨z, e, ez⟩ => ⟨t, by rw [e, ez], ht, hb⟩) (fun ds ⟨z, e, _⟩ => by rw [e]; rfl)).imp (G2 := fun x => x = .bool true) (Nat.le_refl _) fun z ⟨_, _, h⟩ => h))) r4 st4 (by omega) fun S5 H5 n5 e5 st5 hn5 => ?_
    exact ⟨S5, n5, _, _, rfl, st5, by omega⟩
  · rintro σ' H2 ⟨S1, n1, b2, b3, rfl, st1, hn1⟩
    exact q H2
end
end SW
set_option Elab.async false
set_option linter.all false
set_option maxRecDepth 100000
set_option maxHeartbeats 1000000
/-! Fin: from the head to the law. -/
namespace SW
open PySem PySem.Spec PyProof.Rows L2
noncomputable def chkF : Bool := ([-2, -1, 0, 1, 2] : List Int).all fun a => ([1, 2] : List Int).all fun b => match FF 12 102 [.dat (.int a), .dat (.int b)] with
  | some (.dat x) => sevens.any fun y => eqP 6 x y
  | _ => false
theorem chkF_ok : chkF = true := by decide +kernel
theorem frac_ok : FracOk (FF 12 102) := fun a b a0 a1 b0 b1 => by
  have ha : a ∈ ([-2, -1, 0, 1, 2] : List Int) := by simp only [List.mem_cons, List.mem_nil_iff]; omega
  have hb : b ∈ ([1, 2] : List Int) := by simp only [List.mem_cons, List.mem_nil_iff]; omega
  have h := List.all_eq_true.mp (List.all_eq_true.mp chkF_ok a ha) b hb
  split at h
  · rename_i x e
    obtain ⟨y, h1, h2⟩ := List.any_eq_true.mp h
    exact ⟨x, e, by rw [eqP_true 6 x y h2]; exact h1⟩
  · cases h
section
variable {P : Program} {w : World} {K : PySem.W.Frag} {mg : Str → Option Value} {base h : Heap}
theorem says_mg (X : K.In h) (G : h.Ns mainGlobals mg) (c : He.SaysD fas dfs K) (gc : gcdB K = true) : MgOk mg :=
  ⟨fun x hx => He.free_ok X G (c.facts (List.mem_append_right _ (List.mem_append_left _ (List.mem_map.mpr ⟨x, hx, rfl⟩)))), PySem.W.mg_of X G (He.eqO_ok gc), fun x i hx =>
    He.int_ok X G (c.facts (List.mem_append_right _ (List.mem_append_right _ (List.mem_map.mpr ⟨(x, i), PySem.mem_of_lookup hx, rfl⟩))))⟩
theorem says_def (X : K.In h) (G : h.Ns mainGlobals mg) (c : He.SaysD fas dfs K) {nm : Str} {st : Stmt} (hd : dDef nm st ∈ dfs) :
    ∃ (fa : Addr) (fd : FuncData), mg nm = some (.ref fa) ∧ FunD K (defName st) (defName st) (defArgs st) (defBody st) (defScope st) [] [] fa fd := by
  obtain ⟨fd, F⟩ := c.defs hd
  exact ⟨_, fd, He.glo_ok X G (c.facts (List.mem_append_left _ (List.mem_map.mpr ⟨_, hd, rfl⟩))), F⟩
theorem dfs_eq : dfs = (ents ++ [elike]).map (fun e => dDef e.nm e.st) ++ lawIx.map fun p => dDef p.1 (top p.2) := by kernel_rfl
theorem says_ent (X : K.In h) (G : h.Ns mainGlobals mg) (c : He.SaysD fas dfs K) {e : Ent} (he : e ∈ ents ++ [elike]) : Stand K mg e :=
  says_def X G c (dfs_eq ▸ List.mem_append_left _ (List.mem_map.mpr ⟨e, he, rfl⟩))
theorem says_law (X : K.In h) (G : h.Ns mainGlobals mg) (c : He.SaysD fas dfs K) {nm : Str} {i : Nat} (hi : (nm, i) ∈ lawIx) : ∃ (fa : Addr) (fd : FuncData), mg nm = some (.ref fa) ∧ Stn K i fa fd :=
  says_def X G c (dfs_eq ▸ List.mem_append_right _ (List.mem_map.mpr ⟨(nm, i), hi, rfl⟩))
theorem stn_binds {i : Nat} {fa : Addr} {fd : FuncData} {ps : List Str} (F : Stn K i fa fd) (h : parB (defArgs (top i)) ps = true) (nd : ps.Nodup) : Binds K fd ps [] := FunD.bindsN F fun kV doc pm an cdv ct us hl => bind_plain h nd hl
/-- the finite facts -/
structure Facts : Prop where
  t : ∀ t ∈ steps, chkT t = true
  l : ∀ t ∈ steps, ∀ l ∈ letters, chkL t l = true
  r : ∀ t ∈ steps, ∀ l ∈ moduli, chkR t l = true
  w : FactW
theorem law_ok (fc : Facts) (X : K.In h) (G : h.Ns mainGlobals mg) (c : He.SaysD fas dfs K) (gc : gcdB K = true) {fa : Addr} {fd : FuncData} (F : Stn K 154 fa fd) : FnG P w K mg base 18 fa fd psScript (spLaw K) := by
  have m := says_mg X G c gc
  have st : ∀ e ∈ ents, Stand K mg e := fun e he => says_ent X G c (List.mem_append_left _ he)
  have sl : Stand K mg elike := says_ent X G c (List.mem_append_right _ (List.mem_singleton.mpr rfl))
  have p : PureOk P w K mg base := ⟨tabOk.level m st sl 12, fun Y N scope o => tabOk.grow m st sl 12 Y o⟩
  obtain ⟨f1, d1, g1, F1⟩ := says_law X G c (nm := "_law_mixed") (i := 134) (by simp [lawIx])
  obtain ⟨f2, d2, g2, F2⟩ := says_law X G c (nm := "_law_begin") (i := 135) (by simp [lawIx])
  obtain ⟨f3, d3, g3, F3⟩ := says_law X G c (nm := "_law_draw") (i := 136) (by simp [lawIx])
  obtain ⟨f4, d4, g4, F4⟩ := says_law X G c (nm := "_law_of") (i := 137) (by simp [lawIx])
  obtain ⟨f5, d5, g5, F5⟩ := says_law X G c (nm := "_law_number") (i := 138) (by simp [lawIx])
  obtain ⟨f6, d6, g6, F6⟩ := says_law X G c (nm := "_law_some_step") (i := 147) (by simp [lawIx])
  obtain ⟨f7, d7, g7, F7⟩ := says_law X G c (nm := "_law_letter") (i := 148) (by simp [lawIx])
  obtain ⟨f8, d8, g8, F8⟩ := says_law X G c (nm := "_law_letters_right") (i := 150) (by simp [lawIx])
  obtain ⟨f9, d9, g9, F9⟩ := says_law X G c (nm := "_law_rests_right") (i := 152) (by simp [lawIx])
  obtain ⟨fw, dw, gw, Fw⟩ := says_law X G c (nm := "_law_whole_right") (i := 153) (by simp [lawIx])
  have b1 : Binds K d1 ["_law_cell", "_law_k"] [] := stn_binds F1 (by decide +kernel) (by decide +kernel)
  have kD : Kn P w K mg base "_law_draw" 2 psDraw spDraw f3 d3 := ⟨g3, F3.kp, stn_binds F3 (by decide +kernel) (by decide +kernel), ok_draw F3 m F1 g1 b1⟩
  have kO : Kn P w K mg base "_law_of" 3 psOf spOf f4 d4 := ⟨g4, F4.kp, stn_binds F4 (by decide +kernel) (by decide +kernel), ok_of F4 m kD⟩
  obtain ⟨ff, df, pf, np, t1, t2, t3, t4, t5⟩ := p.tbl 102 "_law_frac" rfl
  have kN : Kn P w K mg base "_law_number" 15 psNumber spNumber f5 d5 := ⟨g5, F5.kp, stn_binds F5 (by decide +kernel) (by decide +kernel), ok_number F5 m (by decide) kD ⟨t1, t2, t3, t5⟩ frac_ok t4⟩
  have kL : Kn P w K mg base "_law_letter" 16 psLetter spLetter f7 d7 := ⟨g7, F7.kp, stn_binds F7 (by decide +kernel) (by decide +kernel), ok_letter F7 m (by decide) kN kO⟩
  have kS : Kn P w K mg base "_law_some_step" 17 psLetter spStep f6 d6 := ⟨g6, F6.kp, stn_binds F6 (by decide +kernel) (by decide +kernel), (ok_step F6 m (Nat.le_refl 3) kD kO).up (by decide)⟩
  have kB : Kn P w K mg base "_law_begin" 17 psScript (spBegin K) f2 d2 := ⟨g2, F2.kp, stn_binds F2 (by decide +kernel) (by decide +kernel), (ok_begin F2 m).up (by decide)⟩
  have kLt : Kn P w K mg base "_law_letters_right" 17 psTold spLetters f8 d8 := ⟨g8, F8.kp, stn_binds F8 (by decide +kernel) (by decide +kernel), ok_letters fc.l F8 m p (by decide) kL⟩
  have kR : Kn P w K mg base "_law_rests_right" 17 psTold spRests f9 d9 := ⟨g9, F9.kp, stn_binds F9 (by decide +kernel) (by decide +kernel), (ok_rests fc.r F9 m p (Nat.le_refl 14) kO).up (by decide)⟩
  have kW : Kn P w K mg base "_law_whole_right" 17 psTold spWhole fw dw := ⟨gw, Fw.kp, stn_binds Fw (by decide +kernel) (by decide +kernel), (ok_whole fc.w Fw m p (Nat.le_refl 14) kD).up (by decide)⟩
  exact ok_law fc.t F m p (by decide) kB kS kLt kR kW
end
end SW
set_option Elab.async false
set_option linter.all false
set_option maxRecDepth 100000
set_option maxHeartbeats 0
/-! Fin2: the end. -/
namespace SW
open PySem PySem.Spec PyProof.Rows L2
/-- the law's call at the caller: the script may be an object of the module's, or be tracked -/
theorem end_call {P : Program} {w : World} {K : PySem.W.Frag} {mg mb : Str → Option Value} {k : Nat} {fa a : Addr} {fd : FuncData} {s₁ : Shared} {vs : List Value} {ns : List Int} {y : Str} {sp : List V → Hp → VK → Prop}
    (inK : K.In s₁.heap) (g : s₁.heap.Ns mainGlobals mg) (b : s₁.heap.Ns builtinsNs mb) (bb : ∀ x : Str, x ≠ "__name__" → mb x = bootBuiltins x) (nl : s₁.heap.NoLimit) (gn : s₁.gens = #[])
    (ha : s₁.heap.get? a = some { cls := .type "list", data := .seq vs.toArray }) (hi : IntsAre vs ns) (hl : ns.length ≤ sizeLine) (hr : Room k callerA)
    (F : ∀ base : Heap, FnG P w K mg base k fa fd [y] sp) (bd : ∀ (s : Shared) (u : Value), BindsTo s fd ⟨[u], []⟩ [(y, u)]) (hs : ∀ H : Hp, SqL K H a (ns.map V.int) → sp [.ref a] H fun v _ => v = .bl true) :
    codeAny (model P w) callerA (.call (.ref fa) ⟨[.ref a], []⟩) (fun r s' => r = .ok (.ret (.bool true)) ∧ OldK s₁.heap s'.heap ∧ s'.os = s₁.os ∧ AllBare s'.gens) s₁ := by
  have rv := vals_ints hi
  have lenV := hi.length
  have core : ∀ H : Hp, Only H → SqL K H a (ns.map V.int) → HOk P w H s₁.heap → (∀ c, H c ≠ none → c = a) → (H a ≠ none → K.lookup a = none) →
      codeAny (model P w) callerA (.call (.ref fa) ⟨[.ref a], []⟩) (fun r s' => r = .ok (.ret (.bool true)) ∧ OldK s₁.heap s'.heap ∧ s'.os = s₁.os ∧ AllBare s'.gens) s₁ := by
    intro H on sq hok only notK
    have put : ∀ {c : Addr} {o : Obj}, s₁.heap.get? c = some o → H c = none → (hidT s₁.heap H).get? c = some o := fun e n => hidT_get e n
    have free : ∀ {c : Addr} {o : Obj} {es : Array DictEntry} {ep : Nat}, s₁.heap.get? c = some o → o.data = .dict es ep → H c = none := by
      intro c o es ep e d
      cases q : H c with
      | none => rfl
      | some z =>
        cases only c (by rw [q]; exact nofun)
        rw [ha] at e
        cases e
        cases d
    have ns' : ∀ {c : Addr} {m : Str → Option Value}, s₁.heap.Ns c m → (hidT s₁.heap H).Ns c m := by
      rintro c m ⟨o, es, ep, e, d, r⟩
      exact ⟨o, es, ep, put e (free e d), d, r⟩
    have inB : K.In (hidT s₁.heap H) := by
      intro c o e
      refine put (inK c o e) ?_
      cases q : H c with
      | none => rfl
      | some z =>
        cases only c (by rw [q]; exact nofun)
        rw [notK (by rw [q]; exact nofun)] at e
        cases e
    have md : Mod K mg (hidT s₁.heap H) := ⟨inB, ns' g, ⟨mb, ns' b, bb⟩, nl.elim fun mc z => ⟨mc, ns' z.1, z.2⟩⟩
    have env : Env0 P w K mg (hidT s₁.heap H) callerA [] s₁ H := ⟨rfl, md, fun c o e => of_hidT e, Nat.le_of_eq (hidT_size _ _), trivial, fun c hc => absurd (show c ∈ ([] : List Addr) from hc) List.not_mem_nil, hok, .of_eq gn⟩
    refine codeAny_mono ((F _).go callerA [.ref a] [.ref a] _ H s₁ [] ⟨[.ref a], []⟩ rfl hr env (.cons rfl .nil) (hs H sq) (bd s₁ (.ref a))) fun r s' q => ?_
    cases r with
    | error e => exact q.elim
    | ok fl =>
      cases fl with
      | next => exact q.elim
      | brk => exact q.elim
      | cont => exact q.elim
      | ret u =>
        obtain ⟨v, H', os, bare, un, hok', r', (z : v = .bl true)⟩ := q
        subst z
        cases (show u = Value.bool true from r')
        refine ⟨rfl, OldK.of_keep fun c o e => ?_, os, bare⟩
        cases q : H c with
        | none => exact un.keep c o e q (fun z => absurd (show c ∈ ([] : List Addr) from z) List.not_mem_nil) List.not_mem_nil
        | some u =>
          rcases on c with z | ⟨ob, xs, z⟩
          · rw [q] at z; cases z
          · obtain ⟨e1, _⟩ := hok c _ z
            obtain ⟨e2, _⟩ := hok' c _ (un.frzs c ob _ z)
            rw [e] at e1
            cases e1
            exact e2
  cases hk : K.lookup a with
  | some o =>
    have e := inK a o hk
    rw [ha] at e
    cases e
    exact core (fun _ => none) (fun _ => .inl rfl) (.inr ⟨_, vs.toArray, _, hk, rfl, rfl, rfl, by rw [List.size_toArray, lenV]; exact hl, by simpa using rv⟩) (fun c u z => (nomatch z)) (fun c z => (z rfl).elim) fun z => (z rfl).elim
  | none =>
    have one : ∀ c : Addr, (if c = a then some (HO.frz { cls := .type "list", data := .seq vs.toArray } (.lst (ns.map V.int))) else none) ≠ none → c = a := fun c z => by
      by_cases h : c = a
      · exact h
      · rw [if_neg h] at z
        exact (z rfl).elim
    refine core (fun c => if c = a then some (.frz { cls := .type "list", data := .seq vs.toArray } (.lst (ns.map V.int))) else none) (fun c => ?_) (.inl (.inr ⟨_, if_pos rfl⟩)) (fun c u z => ?_) one fun _ => hk
    · by_cases h : c = a
      · exact .inr ⟨_, _, if_pos h⟩
      · exact .inl (if_neg h)
    · have h : c = a := one c fun e => by cases e.symm.trans z
      subst h
      cases (if_pos rfl).symm.trans z
      exact ⟨ha, by rw [List.length_map]; exact hl, vs, _, rv, ha⟩
end SW
set_option Elab.async false
set_option linter.all false
set_option maxRecDepth 100000
set_option maxHeartbeats 0
open PySem PySem.W PySem.Calls PyProof.Rows
theorem fin_holds (fc : SW.Facts) : PySem.Challenge.rw_stepswithin_k98_whole_starts_through_oth.Holds := by
  w_on; o_law
  refine HandSHeadRun.head_imp (r := SW.R) (q := view SW.R.prog [0, 154]) (H := SW.hk) (ob := SW.ob) (M := 20000) (loose := SW.loose) (d := HandSHeadRun.topDef SW.R.prog 154) (kwd := []) SW.ob_eq
    SW.run (by kernel_rfl) (by kernel_rfl) (by rfl) (by decide +kernel) (by assumption) (by decide +kernel) ⟨rfl, rfl, rfl, rfl, rfl, by decide +kernel⟩ ?hw ?hc
  case hw => w_witness2
  case hc =>
    have hn : (HandSHeadRun.topDef SW.R.prog 154).name = ("law" : PySem.Str) := by kernel_rfl
    refine Att.attach_call (l := PySem.Challenge.rw_stepswithin_k98_whole_starts_through_oth) (n := 63) rfl (by kernel_rfl) fun w s₀ s₁ mg mb fa o pm cd doc a vs ns G Y ho hd hcd hmg hobj hints hlen hg => ?_
    obtain ⟨K, KX, c, gc⟩ := Y
    rw [hn] at hmg
    obtain ⟨fa', fd, g', F⟩ := SW.says_law KX G.T.g c (nm := "law") (i := 154) (by simp [SW.lawIx])
    rw [hmg] at g'
    cases g'
    exact SW.end_call KX G.T.g G.T.b G.T.builtins G.T.nolimit hg hobj hints (Nat.le_trans hlen (by decide)) (k := 18) ⟨rfl, by decide, by decide⟩ (fun base => SW.law_ok (base := base) fc KX G.T.g c gc F) (fun s u => L2.FunD.bindsA (ps := SW.psScript) F (fun kV doc pm an cdv ct us hl => SW.bind_plain (by decide +kernel) (by decide +kernel) hl) s [u] rfl) fun H sq => ⟨a, ns, rfl, sq, Nat.le_trans hlen (by decide), fun _ => rfl⟩
set_option Elab.async false
set_option linter.all false
set_option maxRecDepth 100000
/-! Fc9: the facts. -/
namespace SW.X
open PySem
theorem facts_t : ∀ t ∈ steps, chkT t = true := fun t ht => by
  have h := by_ix fT_all t ht
  unfold gT at h
  simp only [forceD_eq, forceDs_eq] at h
  rw [G_eq] at h
  exact h
theorem facts_l : ∀ t ∈ steps, ∀ l ∈ letters, chkL t l = true := fun t ht l hl => by
  have h := by_ix fL_all t ht
  unfold gL at h
  simp only [forceD_eq, forceDs_eq] at h
  rw [G_eq] at h
  exact List.all_eq_true.mp h l hl
theorem facts_r : ∀ t ∈ steps, ∀ l ∈ moduli, chkR t l = true := fun t ht l hl => by
  have h := by_ix fR_all t ht
  unfold gR at h
  simp only [forceD_eq, forceDs_eq] at h
  rw [G_eq] at h
  exact List.all_eq_true.mp h l hl
theorem facts_w : FactW := fun t ht hw xs hl hx => factW fW_all t ht hw xs hl hx
theorem facts : Facts := ⟨facts_t, facts_l, facts_r, facts_w⟩
end SW.X
theorem PySem.Challenge.cw_stepswithin_k98_whole_starts_through_oth_holds : PySem.Challenge.rw_stepswithin_k98_whole_starts_through_oth.Holds :=
  fin_holds SW.X.facts
