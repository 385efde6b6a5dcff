import PyProof.Rows.All
import Wide.All
import OpenK.AllK
import Wide.FinOn
import HandS.Head0
import HandS.Head1
import HandS.Head2
import HandS.HeadEnd
import HandS.HeadHook1
import HandS.HeadHook2
import HandS.Words
import HandS.Defaults
import PyProof.P3Statements
import HandS.ForMost
import KE.KDictKeyed
import HandS.Zip
import HandS.TupAny
import HandS.TupMul
import HandS.Deep
import HandS.Conv
import HandS.IsInst
import HandS.Flow
import HandS.Style
import HandS.TupLen
import HandS.Sort
import HandS.SortOrd
import HandS.SortInts
import KE.SortData
import HandS.DictTup
import KE.DataMinMax
import PyProof.DictMoreH
import KE.GoesMore
import HandS.RaiseMore
import KE.KDictZip
import KE.GoesZip
import PyProof.CollectWalk
import PyProof.ListRange
import HandS.TupSets
import HandS.Strs
import KE.KItem
import HandS.Wide
import HandS.ExcOwn
import HandS.ExcIs
import HandS.HotCalls
import HandS.SetFor
import HandS.OwnEq
import HandS.New0
import HandS.DictSub
import PySem.Challenge.RW_quietstreets_k01_whole_towns
set_option Elab.async false
set_option linter.all false
set_option maxRecDepth 100000
set_option maxHeartbeats 0
set_option maxRecDepth 100000
set_option maxHeartbeats 0
namespace Q
open PySem PySem.Spec PyProof.Rows L2
def top (i : Nat) : Stmt := PySem.Challenge.pw_quietstreets_k01_whole_towns.main.body.getD i (.Pass ⟨0, 0, 0, 0⟩)
abbrev s__law_cell_at : Stmt := top 20
abbrev s__law_mixed : Stmt := top 21
abbrev s__law_draw : Stmt := top 22
abbrev s__law_some_of : Stmt := top 24
abbrev s_rises : Stmt := top 10
abbrev s_is_integer : Stmt := top 9
abbrev s_are_numbers : Stmt := top 11
abbrev s_lengths_of : Stmt := top 1
abbrev s_bars_direction : Stmt := top 3
abbrev s_firsts : Stmt := top 5
abbrev s_nexts : Stmt := top 4
abbrev s_least_table : Stmt := top 6
abbrev s_least_to : Stmt := top 7
abbrev s_joins_all : Stmt := top 16
abbrev s_is_street : Stmt := top 12
abbrev s_are_streets : Stmt := top 13
abbrev s_street_between : Stmt := top 2
abbrev s_sign_stands : Stmt := top 14
abbrev s_signs_stand : Stmt := top 15
abbrev s_stands : Stmt := top 17
abbrev s_is_town : Stmt := top 18
abbrev s__law_all_signs : Stmt := top 25
abbrev s__law_some_town : Stmt := top 26
abbrev s__law_pick : Stmt := top 23
abbrev s__law_bad_streets : Stmt := top 27
abbrev s__law_bad_signs : Stmt := top 28
abbrev s_law : Stmt := top 29
def dd__law_cell_at : He.DefD := ⟨("_law_cell_at", none), "_law_cell_at", "_law_cell_at", defArgs s__law_cell_at, defBody s__law_cell_at, defScope s__law_cell_at, [], []⟩
def dd__law_mixed : He.DefD := ⟨("_law_mixed", none), "_law_mixed", "_law_mixed", defArgs s__law_mixed, defBody s__law_mixed, defScope s__law_mixed, [], []⟩
def dd__law_draw : He.DefD := ⟨("_law_draw", none), "_law_draw", "_law_draw", defArgs s__law_draw, defBody s__law_draw, defScope s__law_draw, [], []⟩
def dd__law_some_of : He.DefD := ⟨("_law_some_of", none), "_law_some_of", "_law_some_of", defArgs s__law_some_of, defBody s__law_some_of, defScope s__law_some_of, [], []⟩
def dd_rises : He.DefD := ⟨("rises", none), "rises", "rises", defArgs s_rises, defBody s_rises, defScope s_rises, [], []⟩
def dd_is_integer : He.DefD := ⟨("is_integer", none), "is_integer", "is_integer", defArgs s_is_integer, defBody s_is_integer, defScope s_is_integer, [], []⟩
def dd_are_numbers : He.DefD := ⟨("are_numbers", none), "are_numbers", "are_numbers", defArgs s_are_numbers, defBody s_are_numbers, defScope s_are_numbers, [], []⟩
def dd_lengths_of : He.DefD := ⟨("lengths_of", none), "lengths_of", "lengths_of", defArgs s_lengths_of, defBody s_lengths_of, defScope s_lengths_of, [], []⟩
def dd_bars_direction : He.DefD := ⟨("bars_direction", none), "bars_direction", "bars_direction", defArgs s_bars_direction, defBody s_bars_direction, defScope s_bars_direction, [], []⟩
def dd_firsts : He.DefD := ⟨("firsts", none), "firsts", "firsts", defArgs s_firsts, defBody s_firsts, defScope s_firsts, [], []⟩
def dd_nexts : He.DefD := ⟨("nexts", none), "nexts", "nexts", defArgs s_nexts, defBody s_nexts, defScope s_nexts, [], []⟩
def dd_least_table : He.DefD := ⟨("least_table", none), "least_table", "least_table", defArgs s_least_table, defBody s_least_table, defScope s_least_table, [], []⟩
def dd_least_to : He.DefD := ⟨("least_to", none), "least_to", "least_to", defArgs s_least_to, defBody s_least_to, defScope s_least_to, [], []⟩
def dd_joins_all : He.DefD := ⟨("joins_all", none), "joins_all", "joins_all", defArgs s_joins_all, defBody s_joins_all, defScope s_joins_all, [], []⟩
def dd_is_street : He.DefD := ⟨("is_street", none), "is_street", "is_street", defArgs s_is_street, defBody s_is_street, defScope s_is_street, [], []⟩
def dd_are_streets : He.DefD := ⟨("are_streets", none), "are_streets", "are_streets", defArgs s_are_streets, defBody s_are_streets, defScope s_are_streets, [], []⟩
def dd_street_between : He.DefD := ⟨("street_between", none), "street_between", "street_between", defArgs s_street_between, defBody s_street_between, defScope s_street_between, [], []⟩
def dd_sign_stands : He.DefD := ⟨("sign_stands", none), "sign_stands", "sign_stands", defArgs s_sign_stands, defBody s_sign_stands, defScope s_sign_stands, [], []⟩
def dd_signs_stand : He.DefD := ⟨("signs_stand", none), "signs_stand", "signs_stand", defArgs s_signs_stand, defBody s_signs_stand, defScope s_signs_stand, [], []⟩
def dd_stands : He.DefD := ⟨("stands", none), "stands", "stands", defArgs s_stands, defBody s_stands, defScope s_stands, [], []⟩
def dd_is_town : He.DefD := ⟨("is_town", none), "is_town", "is_town", defArgs s_is_town, defBody s_is_town, defScope s_is_town, [], []⟩
def dd__law_all_signs : He.DefD := ⟨("_law_all_signs", none), "_law_all_signs", "_law_all_signs", defArgs s__law_all_signs, defBody s__law_all_signs, defScope s__law_all_signs, [], []⟩
def dd__law_some_town : He.DefD := ⟨("_law_some_town", none), "_law_some_town", "_law_some_town", defArgs s__law_some_town, defBody s__law_some_town, defScope s__law_some_town, [], []⟩
def dd__law_pick : He.DefD := ⟨("_law_pick", none), "_law_pick", "_law_pick", defArgs s__law_pick, defBody s__law_pick, defScope s__law_pick, [], []⟩
def dd__law_bad_streets : He.DefD := ⟨("_law_bad_streets", none), "_law_bad_streets", "_law_bad_streets", defArgs s__law_bad_streets, defBody s__law_bad_streets, defScope s__law_bad_streets, [], []⟩
def dd__law_bad_signs : He.DefD := ⟨("_law_bad_signs", none), "_law_bad_signs", "_law_bad_signs", defArgs s__law_bad_signs, defBody s__law_bad_signs, defScope s__law_bad_signs, [], []⟩
def dd_law : He.DefD := ⟨("law", none), "law", "law", defArgs s_law, defBody s_law, defScope s_law, [], []⟩
def fn : List He.DefD := [dd__law_cell_at, dd__law_mixed, dd__law_draw, dd__law_some_of, dd_rises, dd_is_integer, dd_are_numbers, dd_lengths_of, dd_bars_direction, dd_firsts, dd_nexts, dd_least_table, dd_least_to, dd_joins_all, dd_is_street, dd_are_streets, dd_street_between, dd_sign_stands, dd_signs_stand, dd_stands, dd_is_town, dd__law_all_signs, dd__law_some_town, dd__law_pick, dd__law_bad_streets, dd__law_bad_signs, dd_law]
def fa : List He.Fa := [.glo "_law_cell_at", .glo "_law_mixed", .glo "_law_draw", .glo "_law_some_of", .glo "rises", .glo "is_integer", .glo "are_numbers", .glo "lengths_of", .glo "bars_direction", .glo "firsts", .glo "nexts", .glo "least_table", .glo "least_to", .glo "joins_all", .glo "is_street", .glo "are_streets", .glo "street_between", .glo "sign_stands", .glo "signs_stand", .glo "stands", .glo "is_town", .glo "_law_all_signs", .glo "_law_some_town", .glo "_law_pick", .glo "_law_bad_streets", .glo "_law_bad_signs", .glo "law", .free "all", .free "any", .free "bool", .free "enumerate", .free "int", .free "isinstance", .free "len", .free "list", .free "max", .free "min", .free "range", .free "sorted", .free "str", .free "tuple", .free "zip"]
abbrev R : PySem.W.OpenRow := PySem.W.OpenLaw.row PySem.Challenge.rw_quietstreets_k01_whole_towns
abbrev hk : PySem.W.Hook := He.hookD 2 fa fn
def ob (s : PySem.W.SharedT) : He.AlD := He.obsDG 2 fa fn (HandSHeadRun.getT s)
theorem ob_eq (s : PySem.W.SharedT) : ob s = hk.obs s.abs := He.obsDG_eq (HandSHeadRun.getT_eq s)
def loose0 : List PySem.Str := ["lengths_of", "street_between", "bars_direction", "nexts", "firsts", "least_table", "least_to", "is_integer", "rises", "are_numbers", "is_street", "are_streets", "sign_stands", "signs_stand", "joins_all", "stands", "is_town", "_law_cell_at", "_law_mixed", "_law_draw", "_law_pick", "_law_some_of", "_law_all_signs", "_law_some_town", "_law_bad_streets", "_law_bad_signs"]
abbrev loose : List PySem.Str := loose0
theorem run (w : World) : HandSHeadRun.RunEq R (PySem.W.view R.prog [29]) hk ob 8000 loose w := by
  intro os
  kernel_rfl
end Q
namespace Pu
open PySem
abbrev D := PyData

inductive Pt where
  | ex | it (i : Nat)
inductive Xt where
  | tx (p : Pt) (d : D) | ad (a : Addr)
inductive Slot where
  | no | sh (d : D) | ow (d : D) | bo (d : D) | gh (d : D) | xt (q : Xt)
abbrev Env := List Slot
def Slot.val : Slot → Option D
  | .no => none
  | .sh d => some d
  | .ow d => some d
  | .bo d => some d
  | .gh _ => none
  | .xt (.tx _ d) => some d
  | .xt (.ad _) => none
def Slot.own : Slot → Option D
  | .ow d => some d
  | .bo d => some d
  | _ => none
inductive Res where
  | var (i : Nat) | sh (d : D) | ow (d : D) | tx (p : Pt) (d : D)
def Res.get (ρ : Env) : Res → Option D
  | .var i => ρ[i]?.bind Slot.val
  | .sh d => some d
  | .ow d => some d
  | .tx _ d => some d
abbrev M := Env → Option (Res × Env)
abbrev T := Env → Option (Bool × Env)
abbrev Ms := Env → Option (List Res × Env)
abbrev Ds := Env → Option (List D × Env)

def eVar (i : Nat) : M := fun ρ => (ρ[i]?.bind Slot.val).map fun _ => (.var i, ρ)
def eC (d : D) : M := fun ρ => some (.sh d, ρ)
def eOp1 (f : D → Option Res) (a : M) : M := fun ρ => (a ρ).bind fun p => (p.1.get p.2).bind fun x => (f x).map fun r => (r, p.2)
def eOp2 (f : D → D → Option Res) (a b : M) : M := fun ρ => (a ρ).bind fun p => (b p.2).bind fun q => (p.1.get q.2).bind fun x => (q.1.get q.2).bind fun y => (f x y).map fun r => (r, q.2)
def msNil : Ms := fun ρ => some ([], ρ)
def msCons (a : M) (as : Ms) : Ms := fun ρ => (a ρ).bind fun p => (as p.2).bind fun q => some (p.1 :: q.1, q.2)
def getAll (ρ : Env) : List Res → Option (List D)
  | [] => some []
  | r :: rs => (r.get ρ).bind fun d => (getAll ρ rs).bind fun ds => some (d :: ds)
def ePrim (f : List D → Option Res) (as : Ms) : M := fun ρ => (as ρ).bind fun p => (getAll p.2 p.1).bind fun ds => (f ds).map fun r => (r, p.2)
def share (r : Res) (ρ : Env) : Option (D × Env) := match r with
  | .sh d => some (d, ρ)
  | .ow d => some (d, ρ)
  | .tx _ d => some (d, ρ)
  | .var i => match ρ[i]? with
    | some (.sh d) => some (d, ρ)
    | some (.ow d) => some (d, ρ.set i (.sh d))
    | some (.xt (.tx _ d)) => some (d, ρ)
    | _ => none
def dsNil : Ds := fun ρ => some ([], ρ)
def dsCons (a : M) (as : Ds) : Ds := fun ρ => (a ρ).bind fun p => (share p.1 p.2).bind fun s => (as s.2).bind fun q => some (s.1 :: q.1, q.2)
def eTup (as : Ds) : M := fun ρ => (as ρ).map fun p => (.sh (.tuple p.1), p.2)
def eLst (as : Ds) : M := fun ρ => (as ρ).map fun p => (.ow (.list p.1), p.2)

def tOf (a : M) : T := fun ρ => (a ρ).bind fun p => match p.1.get p.2 with
  | some (.bool b) => some (b, p.2)
  | _ => none
def tNot (t : T) : T := fun ρ => (t ρ).map fun p => (!p.1, p.2)
def tAnd (t u : T) : T := fun ρ => (t ρ).bind fun p => if p.1 = true then u p.2 else some (false, p.2)
def tOr (t u : T) : T := fun ρ => (t ρ).bind fun p => if p.1 = true then some (true, p.2) else u p.2
def eIf (t : T) (a b : M) : M := fun ρ => (t ρ).bind fun p => if p.1 = true then a p.2 else b p.2
def eNot (a : M) : M := fun ρ => (tOf a ρ).map fun p => (.sh (.bool (!p.1)), p.2)
def eAnd (a b : M) : M := fun ρ => (tOf a ρ).bind fun p => if p.1 = true then b p.2 else some (.sh (.bool false), p.2)
def eOr (a b : M) : M := fun ρ => (tOf a ρ).bind fun p => if p.1 = true then some (.sh (.bool true), p.2) else b p.2

inductive Out where
  | nx (ρ : Env) | rt (r : Res) (ρ : Env) | bk (ρ : Env) | ct (ρ : Env)
abbrev S := Env → Option Out
def Out.then (o : Out) (b : S) : Option Out := match o with
  | .nx ρ => b ρ
  | o => some o
def sNop : S := fun ρ => some (.nx ρ)
def sSeq (a b : S) : S := fun ρ => (a ρ).bind fun o => o.then b
def sNever : S := fun _ => none
def sExpr (a : M) : S := fun ρ => (a ρ).map fun p => .nx p.2
def sIf (t : T) (a b : S) : S := fun ρ => (t ρ).bind fun p => if p.1 = true then a p.2 else b p.2
def sBreak : S := fun ρ => some (.bk ρ)
def sCont : S := fun ρ => some (.ct ρ)
def hold (r : Res) (ρ : Env) : Option (Slot × Env) := match r with
  | .sh d => some (.sh d, ρ)
  | .ow d => some (.ow d, ρ)
  | .tx p d => some (.xt (.tx p d), ρ)
  | .var i => (share (.var i) ρ).map fun q => (.sh q.1, q.2)
def setSlot (i : Nat) (t : Slot) (ρ : Env) : Option Env := match ρ[i]? with
  | some .no => some (ρ.set i t)
  | some (.sh _) => some (ρ.set i t)
  | some (.ow _) => some (ρ.set i t)
  | some (.xt (.tx _ _)) => some (ρ.set i t)
  | _ => none
def sSet (i : Nat) (a : M) : S := fun ρ => (a ρ).bind fun p => (hold p.1 p.2).bind fun q => (setSlot i q.1 q.2).map .nx
def giveUp (r : Res) (ρ : Env) : Option (Res × Env) := match r with
  | .sh d => some (.sh d, ρ)
  | .ow d => some (.ow d, ρ)
  | .tx p d => some (.tx p d, ρ)
  | .var i => match ρ[i]? with
    | some (.sh d) => some (.sh d, ρ)
    | some (.ow d) => some (.ow d, ρ.set i .no)
    | some (.xt (.tx p d)) => some (.tx p d, ρ)
    | _ => none
def sRet (a : M) : S := fun ρ => (a ρ).bind fun p => (giveUp p.1 p.2).map fun q => .rt q.1 q.2
def sRetN : S := fun ρ => some (.rt (.sh .none) ρ)
abbrev G := D → Env → Option Env
def gName (i : Nat) : G := fun d ρ => setSlot i (.sh d) ρ
abbrev Gs := List D → Env → Option Env
def gsNil : Gs := fun ds ρ => match ds with
  | [] => some ρ
  | _ :: _ => none
def gsCons (g : G) (gs : Gs) : Gs := fun ds ρ => match ds with
  | [] => none
  | d :: r => (g d ρ).bind (gs r)
def gTup (gs : Gs) : G := fun d ρ => match d with
  | .tuple ds => gs ds ρ
  | _ => none
def sUnp (g : G) (a : M) : S := fun ρ => (a ρ).bind fun p => (share p.1 p.2).bind fun q => (g q.1 q.2).map .nx
abbrev Hs := Env → Option (List Slot × Env)
def hsNil : Hs := fun ρ => some ([], ρ)
def hsCons (a : M) (as : Hs) : Hs := fun ρ => (a ρ).bind fun p => (hold p.1 p.2).bind fun s => (as s.2).bind fun q => some (s.1 :: q.1, q.2)
def setAll : List Nat → List Slot → Env → Option Env
  | [], [], ρ => some ρ
  | i :: is, t :: ts, ρ => (setSlot i t ρ).bind (setAll is ts)
  | _, _, _ => none
def sPar (is : List Nat) (as : Hs) : S := fun ρ => (as ρ).bind fun p => (setAll is p.1 p.2).map .nx
abbrev I := Env → Option (List D × Env)
def forGo (g : G) (b : S) : List D → S
  | [], ρ => some (.nx ρ)
  | d :: ds, ρ => (g d ρ).bind fun ρ1 => (b ρ1).bind fun o => match o with
    | .nx ρ2 => forGo g b ds ρ2
    | .ct ρ2 => forGo g b ds ρ2
    | .bk ρ2 => some (.nx ρ2)
    | .rt r ρ2 => some (.rt r ρ2)
def sFor (it : I) (g : G) (b : S) : S := fun ρ => (it ρ).bind fun p => forGo g b p.1 p.2
def whileGo (t : T) (b : S) : Nat → S
  | 0, _ => none
  | n + 1, ρ => (t ρ).bind fun p => if p.1 = true then (b p.2).bind fun o => match o with
      | .nx ρ2 => whileGo t b n ρ2
      | .ct ρ2 => whileGo t b n ρ2
      | .bk ρ2 => some (.nx ρ2)
      | .rt r ρ2 => some (.rt r ρ2)
    else some (.nx p.2)
def itemsOf : D → Option (List D)
  | .tuple ds => some ds
  | .list ds => some ds
  | .dict kvs => some (kvs.map (·.1))
  | _ => none
def iOf (a : M) : I := fun ρ => (a ρ).bind fun p => (share p.1 p.2).bind fun s => (itemsOf s.1).map fun ds => (ds, s.2)
def rangeD (lo hi : Int) : List D := (List.range (hi - lo).toNat).map fun i => .int (lo + (i : Nat))
def iRange (f : List D → Option (Int × Int)) (as : Ms) : I := fun ρ => (as ρ).bind fun p => (getAll p.2 p.1).bind fun ds => (f ds).bind fun r => if (r.2 - r.1).toNat ≤ 16777216 then some (rangeD r.1 r.2, p.2) else none
def small62 (i : Int) : Bool := decide (-(2 ^ 62) ≤ i) && decide (i < 2 ^ 62)
def range1 : List D → Option (Int × Int)
  | [.int j] => if small62 j then some (0, j) else none
  | _ => none
def range2 : List D → Option (Int × Int)
  | [.int i, .int j] => if small62 i && small62 j then some (i, j) else none
  | _ => none
def pairs : List D → List D → List D
  | x :: xs, y :: ys => .tuple [x, y] :: pairs xs ys
  | _, _ => []
def zipD : List D → Option (List D)
  | [.tuple xs, .tuple ys] => some (pairs xs ys)
  | [.list xs, .list ys] => some (pairs xs ys)
  | _ => none
def iZip (as : Ds) : I := fun ρ => (as ρ).bind fun p => (zipD p.1).map fun ds => (ds, p.2)
def enumFrom : Nat → List D → List D
  | _, [] => []
  | n, x :: xs => .tuple [.int (n : Nat), x] :: enumFrom (n + 1) xs
def enumD : List D → Option (List D)
  | [.tuple xs] => some (enumFrom 0 xs)
  | [.list xs] => some (enumFrom 0 xs)
  | _ => none
def iEnum (as : Ds) : I := fun ρ => (as ρ).bind fun p => (enumD p.1).map fun ds => (ds, p.2)
def wipeE (ρ : Env) : List Nat → Env
  | [] => ρ
  | v :: vs => (wipeE ρ vs).set v .no
def putBack (old : Env) (ρ : Env) : List Nat → Env
  | [] => ρ
  | v :: vs => (putBack old ρ vs).set v (old.getD v .no)
def compGo (vs : List Nat) (g : G) (t : T) (e : M) : List D → List D → Env → Option (List D × Env)
  | [], acc, ρ => some (acc, ρ)
  | d :: ds, acc, ρ => (g d ρ).bind fun ρ1 => (t ρ1).bind fun p => if p.1 = true then (e p.2).bind fun q => (share q.1 q.2).bind fun s => compGo vs g t e ds (acc ++ [s.1]) (wipeE s.2 vs)
    else compGo vs g t e ds acc (wipeE p.2 vs)
def tYes : T := fun ρ => some (true, ρ)
def eComp (vs : List Nat) (it : I) (g : G) (t : T) (e : M) : M := fun ρ => (it ρ).bind fun p => (compGo vs g t e p.1 [] (wipeE p.2 vs)).map fun q => (.ow (.list q.1), putBack p.2 q.2 vs)

abbrev Fn := List Slot → Option (Res × List Slot)
inductive Arg where
  | sh (d : D) | bor (i : Nat)
abbrev As := Env → Option (List Arg × Env)
def asNil : As := fun ρ => some ([], ρ)
def asSh (a : M) (as : As) : As := fun ρ => (a ρ).bind fun p => (share p.1 p.2).bind fun s => (as s.2).bind fun q => some (.sh s.1 :: q.1, q.2)
def asGh (i : Nat) (as : As) : As := fun ρ => match ρ[i]? with
  | some (.gh _) => (as ρ).bind fun q => some (.bor i :: q.1, q.2)
  | _ => none
def asBo (i : Nat) (as : As) : As := fun ρ => (ρ[i]?.bind Slot.own).bind fun _ => (as ρ).bind fun q => some (.bor i :: q.1, q.2)
def bors : List Arg → List Nat
  | [] => []
  | .sh _ :: as => bors as
  | .bor i :: as => i :: bors as
def argSlot (ρ : Env) : Arg → Option Slot
  | .sh d => some (.sh d)
  | .bor i => match ρ[i]? with
    | some (.ow d) => some (.bo d)
    | some (.bo d) => some (.bo d)
    | some (.gh d) => some (.gh d)
    | _ => none
def argSlots (ρ : Env) : List Arg → Option (List Slot)
  | [] => some []
  | a :: as => (argSlot ρ a).bind fun s => (argSlots ρ as).bind fun r => some (s :: r)
def backSlot (i : Nat) (t : Slot) (ρ : Env) : Option Env := match ρ[i]?, t with
  | some (.ow _), .bo d => some (ρ.set i (.ow d))
  | some (.bo _), .bo d => some (ρ.set i (.bo d))
  | some (.gh _), .gh d => some (ρ.set i (.gh d))
  | _, _ => none
def backAll : List Arg → List Slot → Env → Option Env
  | .sh _ :: as, _ :: ts, ρ => backAll as ts ρ
  | .bor i :: as, t :: ts, ρ => (backSlot i t ρ).bind (backAll as ts)
  | [], [], ρ => some ρ
  | _, _, _ => none
def eCall (F : Fn) (as : As) : M := fun ρ => (as ρ).bind fun p => if (bors p.1).Nodup then (argSlots p.2 p.1).bind fun ss => (F ss).bind fun r => (backAll p.1 r.2 p.2).map fun ρ2 => (r.1, ρ2) else none
def finSlots : List Slot → Env → List Slot
  | .bo _ :: ss, t :: ρ => t :: finSlots ss ρ
  | .gh _ :: ss, t :: ρ => t :: finSlots ss ρ
  | s :: ss, _ :: ρ => s :: finSlots ss ρ
  | _, _ => []
def fnOfBody (n : Nat) (b : S) : Fn := fun ss => (b (ss ++ List.replicate (n - ss.length) .no)).bind fun o => match o with
  | .rt (.sh d) ρ => some (.sh d, finSlots ss ρ)
  | .rt (.ow d) ρ => some (.ow d, finSlots ss ρ)
  | .rt (.tx p d) ρ => some (.tx p d, finSlots ss ρ)
  | .nx ρ => some (.sh .none, finSlots ss ρ)
  | _ => none
end Pu
namespace Pu
open PySem
def pAdd : D → D → Option Res
  | .int i, .int j => some (.sh (.int (i + j)))
  | .str a, .str b => if a.length + b.length ≤ 16777216 then some (.sh (.str (a ++ b))) else none
  | .tuple xs, .tuple ys => if xs.length + ys.length ≤ 16777216 then some (.sh (.tuple (xs ++ ys))) else none
  | .list xs, .list ys => if xs.length + ys.length ≤ 16777216 then some (.ow (.list (xs ++ ys))) else none
  | _, _ => none
def pSub : D → D → Option Res
  | .int i, .int j => some (.sh (.int (i - j)))
  | _, _ => none
def mulOk (i j : Int) : Bool := (decide (-(2 ^ 64) < i) && decide (i < 2 ^ 64)) || (decide (-(2 ^ 64) < j) && decide (j < 2 ^ 64))
def pMul : D → D → Option Res
  | .int i, .int j => if mulOk i j then some (.sh (.int (i * j))) else none
  | .tuple xs, .int k => if !xs.isEmpty && decide (2 ≤ k) && decide (k ≤ 1000) && decide (xs.length ≤ 1000) then some (.sh (.tuple (List.replicate k.toNat xs).flatten)) else none
  | _, _ => none
def pDiv : D → D → Option Res
  | .int i, .int j => if decide (0 < j) && decide (j < 1073741824) then some (.sh (.int (i / j))) else none
  | _, _ => none
def pMod : D → D → Option Res
  | .int i, .int j => if 0 < j then some (.sh (.int (i % j))) else none
  | _, _ => none
def pPow : D → D → Option Res
  | .int i, .int j => if decide (0 ≤ j) && decide (j ≤ 1000000) && decide (i.natAbs < 2 ^ 64) then some (.sh (.int (i ^ j.toNat))) else none
  | _, _ => none
def pNeg : D → Option Res
  | .int i => some (.sh (.int (-i)))
  | _ => none
def bR (b : Bool) : Option Res := some (.sh (.bool b))
def eqOk (d e : D) : Bool := d.canLay0 && e.canLay0 && (decide (d.depth ≤ 64) || decide (e.depth ≤ 64))
def eqD (d e : D) : Option Bool := match d, e with
  | .int i, .int j => some (decide (i = j))
  | .dict xs, .dict [] => some xs.isEmpty
  | d, e => if eqOk d e then some (PyData.eqv d e) else none
def pEq (d e : D) : Option Res := (eqD d e).bind bR
def pNe (d e : D) : Option Res := (eqD d e).bind fun b => bR (!b)
def isNoneD : D → Bool
  | .none => true
  | _ => false
def pIs : D → D → Option Res
  | d, .none => bR (isNoneD d)
  | .bool a, .bool b => bR (decide (a = b))
  | _, _ => none
def pIsNot : D → D → Option Res
  | d, .none => bR (!isNoneD d)
  | .bool a, .bool b => bR (!decide (a = b))
  | _, _ => none
def keyFlat : D → Bool
  | .int _ => true
  | .str _ => true
  | _ => false
def isTupKey : D → Bool
  | .tuple xs => xs.all keyFlat
  | _ => false
def dFind (kvs : List (D × D)) (k : D) : Option D := (kvs.find? fun q => PyData.eqv q.1 k).map (·.2)
def dAsk (kvs : List (D × D)) (k : D) : Bool := (isTupKey k && kvs.all fun q => isTupKey q.1) || (keyFlat k && !kvs.isEmpty && kvs.all fun q => keyFlat q.1)
def inOk (ds : List D) (d : D) : Bool := PyData.canLayAll0 ds && d.canLay0 && (decide (d.depth ≤ 64) || decide (PyData.depthAll ds ≤ 64))
def inD (d : D) : D → Option Bool
  | .list ds => if inOk ds d then some (ds.any fun z => PyData.eqv z d) else none
  | .tuple ds => if inOk ds d then some (ds.any fun z => PyData.eqv z d) else none
  | .dict kvs => if dAsk kvs d then some (dFind kvs d).isSome else none
  | .str z => match d with
    | .str c => if c.cps.size = 1 then some (decide (c.cps.toList.headD 0 ∈ z.cps.toList)) else none
    | _ => none
  | _ => none
def pIn (d e : D) : Option Res := (inD d e).bind bR
def pNotIn (d e : D) : Option Res := (inD d e).bind fun b => bR (!b)
mutual
def ltv : D → D → Option Bool
  | .int i, .int j => some (decide (i < j))
  | .str a, .str b => some (decide (a.cps.toList < b.cps.toList))
  | .tuple xs, .tuple ys => ltAll xs ys
  | _, _ => none
def ltAll : List D → List D → Option Bool
  | [], [] => some false
  | [], _ :: _ => some true
  | _ :: _, [] => some false
  | x :: xs, y :: ys => if PyData.eqv x y then ltAll xs ys else ltv x y
end
def ltD (d e : D) : Option Bool := match d, e with
  | .int i, .int j => some (decide (i < j))
  | d, e => if eqOk d e then ltv d e else none
def pLt (d e : D) : Option Res := (ltD d e).bind bR
def pGt (d e : D) : Option Res := match d, e with
  | .int i, .int j => bR (decide (j < i))
  | _, _ => none
def pLe (d e : D) : Option Res := match d, e with
  | .int i, .int j => bR (decide (i ≤ j))
  | _, _ => none
def pGe (d e : D) : Option Res := match d, e with
  | .int i, .int j => bR (decide (j ≤ i))
  | _, _ => none
def ixD (n : Nat) (i : Int) : Option Nat := if 0 ≤ i then (if i < n then some i.toNat else none) else if -(n : Int) ≤ i then some (i + n).toNat else none
def atD (xs : List D) (i : Int) : Option D := (ixD xs.length i).bind fun j => xs[j]?
def pIx : D → D → Option Res
  | .list xs, .int i => (atD xs i).map .sh
  | .tuple xs, .int i => (atD xs i).map .sh
  | .dict kvs, k => if dAsk kvs k then (dFind kvs k).map .sh else none
  | _, _ => none
def sIxD (n d : Nat) : Option Int → Nat
  | none => d
  | some v => if v < 0 then (v + (n : Int)).toNat else min v.toNat n
def cutD (xs : List D) (lo hi : Option Int) : List D := (xs.drop (sIxD xs.length 0 lo)).take (sIxD xs.length xs.length hi - sIxD xs.length 0 lo)
def pSlice (d : D) (lo hi : Option Int) : Option Res := match d with
  | .list xs => some (.ow (.list (cutD xs lo hi)))
  | .tuple xs => some (.sh (.tuple (cutD xs lo hi)))
  | _ => none
abbrev Os := Env → Option (Option Int × Env)
def oNone : Os := fun ρ => some (none, ρ)
def oSome (a : M) : Os := fun ρ => (a ρ).bind fun p => match p.1.get p.2 with
  | some (.int i) => some (some i, p.2)
  | _ => none
def eSlice (a : M) (lo hi : Os) : M := fun ρ => (a ρ).bind fun p => (lo p.2).bind fun l => (hi l.2).bind fun h => (p.1.get h.2).bind fun d => (pSlice d l.1 h.1).map fun r => (r, h.2)
def pRev : D → Option Res
  | .list xs => some (.ow (.list xs.reverse))
  | .tuple xs => some (.sh (.tuple xs.reverse))
  | _ => none
def pLen : List D → Option Res
  | [.list xs] => some (.sh (.int (xs.length : Nat)))
  | [.tuple xs] => some (.sh (.int (xs.length : Nat)))
  | [.str x] => if x.length ≤ 16777216 then some (.sh (.int (x.length : Nat))) else none
  | [.dict kvs] => some (.sh (.int (kvs.length : Nat)))
  | _ => none
def isBool : D → Bool
  | .bool _ => true
  | _ => false
def boolOf : D → Bool
  | .bool b => b
  | _ => false
def pAll : List D → Option Res
  | [.list xs] => if xs.all isBool then some (.sh (.bool (xs.all boolOf))) else none
  | _ => none
def pAny : List D → Option Res
  | [.list xs] => if xs.all isBool then some (.sh (.bool (xs.any boolOf))) else none
  | _ => none
def pIsi (T : String) (d : D) : Option Res := match d with
  | .none => bR false
  | .bool _ => bR (T == "int" || T == "bool")
  | .int _ => bR (T == "int")
  | .str _ => bR (T == "str")
  | .list _ => bR (T == "list")
  | .tuple _ => bR (T == "tuple")
  | .dict _ => none
def pMin2 : List D → Option Res
  | [.int i, .int j] => some (.sh (.int (if j < i then j else i)))
  | _ => none
def pMax2 : List D → Option Res
  | [.int i, .int j] => some (.sh (.int (if j > i then j else i)))
  | _ => none
def pList : List D → Option Res
  | [.list xs] => some (.ow (.list xs))
  | [.tuple xs] => some (.ow (.list xs))
  | [.dict kvs] => if kvs.all (fun q => isTupKey q.1) then some (.ow (.list (kvs.map (·.1)))) else none
  | _ => none
def pTuple : List D → Option Res
  | [.list xs] => some (.sh (.tuple xs))
  | [.tuple xs] => some (.sh (.tuple xs))
  | _ => none
def updSlot (i : Nat) (d : D) (ρ : Env) : Option Env := match ρ[i]? with
  | some (.ow _) => some (ρ.set i (.ow d))
  | some (.bo _) => some (ρ.set i (.bo d))
  | _ => none
def ownAt (i : Nat) (ρ : Env) : Option D := ρ[i]?.bind Slot.own
def ownList (i : Nat) (ρ : Env) : Option (List D) := match ownAt i ρ with
  | some (.list xs) => some xs
  | _ => none
def ownDict (i : Nat) (ρ : Env) : Option (List (D × D)) := match ownAt i ρ with
  | some (.dict kvs) => some kvs
  | _ => none
def eAppend (i : Nat) (a : M) : M := fun ρ => (ownList i ρ).bind fun _ => (a ρ).bind fun p => (share p.1 p.2).bind fun s => (ownList i s.2).bind fun xs =>
  if xs.length < 16777216 then (updSlot i (.list (xs ++ [s.1])) s.2).map fun ρ' => (.sh .none, ρ') else none
def newList : Res → Option (List D)
  | .ow (.list ys) => some ys
  | _ => none
def eExtend (i : Nat) (a : M) : M := fun ρ => (ownList i ρ).bind fun _ => (a ρ).bind fun p => (newList p.1).bind fun ys => (ownList i p.2).bind fun xs =>
  if xs.length + ys.length ≤ 16777216 then (updSlot i (.list (xs ++ ys)) p.2).map fun ρ' => (.sh .none, ρ') else none
def ePop (i : Nat) : M := fun ρ => (ownList i ρ).bind fun xs => (xs[xs.length - 1]?).bind fun y => (updSlot i (.list xs.dropLast) ρ).map fun ρ' => (.sh y, ρ')
def intOf : D → Option Int
  | .int k => some k
  | _ => none
def ePopAt (i : Nat) (a : M) : M := fun ρ => (ownList i ρ).bind fun _ => (a ρ).bind fun p => (p.1.get p.2).bind fun d => (intOf d).bind fun k => (ownList i p.2).bind fun xs =>
  if 0 ≤ k ∧ k < (xs.length : Nat) ∧ k < 2 ^ 62 then (xs[k.toNat]?).bind fun y => (updSlot i (.list (xs.eraseIdx k.toNat)) p.2).map fun ρ' => (.sh y, ρ') else none
def dPut (kvs : List (D × D)) (k v : D) : List (D × D) := if (kvs.any fun q => PyData.eqv q.1 k) = true then kvs.map (fun q => if PyData.eqv q.1 k = true then (q.1, v) else q) else kvs ++ [(k, v)]
def dPutOk (kvs : List (D × D)) (k : D) : Bool := ((isTupKey k && kvs.all fun q => isTupKey q.1) || (keyFlat k && kvs.all fun q => keyFlat q.1)) && decide (kvs.length < 16777216)
def sPut (i : Nat) (a k : M) : S := fun ρ => (a ρ).bind fun p => (share p.1 p.2).bind fun s => (ownDict i s.2).bind fun _ => (k s.2).bind fun q => (share q.1 q.2).bind fun t => (ownDict i t.2).bind fun kvs =>
  if dPutOk kvs t.1 then (updSlot i (.dict (dPut kvs t.1 s.1)) t.2).map .nx else none
def sPutL (i : Nat) (a k : M) : S := fun ρ => (a ρ).bind fun p => (share p.1 p.2).bind fun s => (ownList i s.2).bind fun _ => (k s.2).bind fun q => (q.1.get q.2).bind fun d => (intOf d).bind fun j => (ownList i q.2).bind fun xs =>
  (ixD xs.length j).bind fun n => (updSlot i (.list (xs.set n s.1)) q.2).map .nx
def dDrop (kvs : List (D × D)) (k : D) : List (D × D) := kvs.filter fun q => !PyData.eqv q.1 k
def ePopKey (i : Nat) (k : M) : M := fun ρ => (ownDict i ρ).bind fun _ => (k ρ).bind fun q => (share q.1 q.2).bind fun t => (ownDict i t.2).bind fun kvs =>
  if isTupKey t.1 && kvs.all (fun q => isTupKey q.1) then (dFind kvs t.1).bind fun v => (updSlot i (.dict (dDrop kvs t.1)) t.2).map fun ρ' => (.sh v, ρ') else none
def slotDict (i : Nat) (ρ : Env) : Option (List (D × D)) := match ρ[i]?.bind Slot.val with
  | some (.dict kvs) => some kvs
  | _ => none
def eGet (i : Nat) (k x : M) : M := fun ρ => (slotDict i ρ).bind fun _ => (k ρ).bind fun p => (share p.1 p.2).bind fun s => (x s.2).bind fun q => (share q.1 q.2).bind fun t => (slotDict i t.2).bind fun kvs =>
  if dAsk kvs s.1 then some (.sh ((dFind kvs s.1).getD t.1), t.2) else none
end Pu
namespace Pu
open PySem
def rank : D → Nat
  | .none => 0
  | .bool _ => 1
  | .int _ => 2
  | .str _ => 3
  | .list _ => 4
  | .tuple _ => 5
  | .dict _ => 6
def cmpS (a b : List Nat) : Ordering := if a < b then .lt else if b < a then .gt else .eq
mutual
def cmpT : D → D → Ordering
  | .int i, .int j => compare i j
  | .str a, .str b => cmpS a.cps.toList b.cps.toList
  | .tuple xs, .tuple ys => cmpL xs ys
  | a, b => compare (rank a) (rank b)
def cmpL : List D → List D → Ordering
  | [], [] => .eq
  | [], _ :: _ => .lt
  | _ :: _, [] => .gt
  | x :: xs, y :: ys => match cmpT x y with
    | .eq => cmpL xs ys
    | .lt => .lt
    | .gt => .gt
end
def leT (a b : D) : Bool := (cmpT a b).isLE
def leL (xs ys : List D) : Bool := (cmpL xs ys).isLE
theorem cmpS_swap (a b : List Nat) : cmpS b a = (cmpS a b).swap := by
  unfold cmpS
  by_cases h1 : a < b
  · have h2 : ¬ b < a := List.lt_asymm h1
    simp [h1, h2]
  · by_cases h2 : b < a
    · simp [h1, h2]
    · simp [h1, h2]
theorem cmpT_rank {a b : D} (h : rank a ≠ rank b) : cmpT a b = compare (rank a) (rank b) := by
  cases a <;> cases b <;> first | (exact absurd rfl h) | (simp only [cmpT])
mutual
theorem cmpT_swap : ∀ a b : D, cmpT b a = (cmpT a b).swap
  | .int i, .int j => by simp only [cmpT]; exact (Int.compare_swap i j).symm
  | .str a, .str b => by simp only [cmpT]; exact cmpS_swap _ _
  | .tuple xs, .tuple ys => by simp only [cmpT]; exact cmpL_swap xs ys
  | .none, b => by
    by_cases h : rank .none = rank b
    · cases b <;> simp_all [rank, cmpT]
    · rw [cmpT_rank h, cmpT_rank (Ne.symm h)]; exact (Nat.compare_swap _ _).symm
  | .bool x, b => by
    by_cases h : rank (.bool x) = rank b
    · cases b <;> simp_all [rank, cmpT]
    · rw [cmpT_rank h, cmpT_rank (Ne.symm h)]; exact (Nat.compare_swap _ _).symm
  | .list x, b => by
    by_cases h : rank (.list x) = rank b
    · cases b <;> simp_all [rank, cmpT]
    · rw [cmpT_rank h, cmpT_rank (Ne.symm h)]; exact (Nat.compare_swap _ _).symm
  | .dict x, b => by
    by_cases h : rank (.dict x) = rank b
    · cases b <;> simp_all [rank, cmpT]
    · rw [cmpT_rank h, cmpT_rank (Ne.symm h)]; exact (Nat.compare_swap _ _).symm
  | .int i, .none => by simp [cmpT, rank]; rfl
  | .int i, .bool _ => by simp [cmpT, rank]; rfl
  | .int i, .str _ => by simp [cmpT, rank]; rfl
  | .int i, .list _ => by simp [cmpT, rank]; rfl
  | .int i, .tuple _ => by simp [cmpT, rank]; rfl
  | .int i, .dict _ => by simp [cmpT, rank]; rfl
  | .str _, .none => by simp [cmpT, rank]; rfl
  | .str _, .bool _ => by simp [cmpT, rank]; rfl
  | .str _, .int _ => by simp [cmpT, rank]; rfl
  | .str _, .list _ => by simp [cmpT, rank]; rfl
  | .str _, .tuple _ => by simp [cmpT, rank]; rfl
  | .str _, .dict _ => by simp [cmpT, rank]; rfl
  | .tuple _, .none => by simp [cmpT, rank]; rfl
  | .tuple _, .bool _ => by simp [cmpT, rank]; rfl
  | .tuple _, .int _ => by simp [cmpT, rank]; rfl
  | .tuple _, .str _ => by simp [cmpT, rank]; rfl
  | .tuple _, .list _ => by simp [cmpT, rank]; rfl
  | .tuple _, .dict _ => by simp [cmpT, rank]; rfl
theorem cmpL_swap : ∀ xs ys : List D, cmpL ys xs = (cmpL xs ys).swap
  | [], [] => by simp [cmpL]
  | [], _ :: _ => by simp [cmpL]
  | _ :: _, [] => by simp [cmpL]
  | x :: xs, y :: ys => by
    simp only [cmpL, cmpT_swap x y]
    cases h : cmpT x y with
    | lt => simp
    | gt => simp
    | eq => simpa using cmpL_swap xs ys
end
theorem leT_int (i j : Int) : leT (.int i) (.int j) = decide (i ≤ j) := by
  unfold leT
  simp only [cmpT]
  rw [Bool.eq_iff_iff]
  simp [Int.isLE_compare]
theorem cmpS_le (a b : List Nat) : (cmpS a b).isLE = decide (a ≤ b) := by
  unfold cmpS
  by_cases h1 : a < b
  · rw [if_pos h1, decide_eq_true (List.le_of_lt h1)]; rfl
  · rw [if_neg h1]
    by_cases h2 : b < a
    · rw [if_pos h2, decide_eq_false (fun h => h h2)]; rfl
    · rw [if_neg h2, decide_eq_true (show a ≤ b from h2)]; rfl
theorem leT_str (a b : Str) : leT (.str a) (.str b) = decide (a.cps.toList ≤ b.cps.toList) := by
  unfold leT
  simp only [cmpT]
  exact cmpS_le _ _
theorem leT_tup (xs ys : List D) : leT (.tuple xs) (.tuple ys) = leL xs ys := by unfold leT leL; simp only [cmpT]
theorem leL_nil (ys : List D) : leL [] ys = true := by unfold leL; cases ys <;> simp [cmpL]
theorem leL_cons_nil (x : D) (xs : List D) : leL (x :: xs) [] = false := by unfold leL; simp [cmpL]
theorem leL_cons (x y : D) (xs ys : List D) : leL (x :: xs) (y :: ys) = if leT x y then (if leT y x then leL xs ys else true) else false := by
  unfold leL leT
  simp only [cmpL, cmpT_swap x y]
  cases cmpT x y <;> simp
theorem leT_rank {a b : D} (h : rank a ≠ rank b) : leT a b = decide (rank a ≤ rank b) := by
  unfold leT
  rw [cmpT_rank h, Bool.eq_iff_iff]
  simp [Nat.isLE_compare]
theorem leT_same {a b : D} (h : rank a = rank b) (n : rank a ≠ 2 ∧ rank a ≠ 3 ∧ rank a ≠ 5) : leT a b = true := by
  cases a <;> cases b <;> simp_all [rank, leT, cmpT]
theorem leT_rank_le {a b : D} (h : leT a b = true) : rank a ≤ rank b := by
  by_cases hr : rank a = rank b
  · omega
  · rw [leT_rank hr] at h; simpa using h
theorem leT_of_lt {a b : D} (h : rank a < rank b) : leT a b = true := by
  rw [leT_rank (by omega)]; simp; omega
mutual
theorem leT_total : ∀ a b : D, leT a b = true ∨ leT b a = true
  | .int i, .int j => by simp only [leT_int, decide_eq_true_eq]; omega
  | .str a, .str b => by simp only [leT_str, decide_eq_true_eq]; exact Std.Total.total _ _
  | .tuple xs, .tuple ys => by simp only [leT_tup]; exact leL_total xs ys
  | .none, b => by
    by_cases h : rank .none = rank b
    · exact .inl (leT_same h (by simp [rank]))
    · rcases Nat.lt_or_gt_of_ne h with h | h
      · exact .inl (leT_of_lt h)
      · exact .inr (leT_of_lt h)
  | .bool x, b => by
    by_cases h : rank (.bool x) = rank b
    · exact .inl (leT_same h (by simp [rank]))
    · rcases Nat.lt_or_gt_of_ne h with h | h
      · exact .inl (leT_of_lt h)
      · exact .inr (leT_of_lt h)
  | .list x, b => by
    by_cases h : rank (.list x) = rank b
    · exact .inl (leT_same h (by simp [rank]))
    · rcases Nat.lt_or_gt_of_ne h with h | h
      · exact .inl (leT_of_lt h)
      · exact .inr (leT_of_lt h)
  | .dict x, b => by
    by_cases h : rank (.dict x) = rank b
    · exact .inl (leT_same h (by simp [rank]))
    · rcases Nat.lt_or_gt_of_ne h with h | h
      · exact .inl (leT_of_lt h)
      · exact .inr (leT_of_lt h)
  | .int i, .none => .inr (leT_of_lt (by simp [rank]))
  | .int i, .bool _ => .inr (leT_of_lt (by simp [rank]))
  | .int i, .str _ => .inl (leT_of_lt (by simp [rank]))
  | .int i, .list _ => .inl (leT_of_lt (by simp [rank]))
  | .int i, .tuple _ => .inl (leT_of_lt (by simp [rank]))
  | .int i, .dict _ => .inl (leT_of_lt (by simp [rank]))
  | .str _, .none => .inr (leT_of_lt (by simp [rank]))
  | .str _, .bool _ => .inr (leT_of_lt (by simp [rank]))
  | .str _, .int _ => .inr (leT_of_lt (by simp [rank]))
  | .str _, .list _ => .inl (leT_of_lt (by simp [rank]))
  | .str _, .tuple _ => .inl (leT_of_lt (by simp [rank]))
  | .str _, .dict _ => .inl (leT_of_lt (by simp [rank]))
  | .tuple _, .none => .inr (leT_of_lt (by simp [rank]))
  | .tuple _, .bool _ => .inr (leT_of_lt (by simp [rank]))
  | .tuple _, .int _ => .inr (leT_of_lt (by simp [rank]))
  | .tuple _, .str _ => .inr (leT_of_lt (by simp [rank]))
  | .tuple _, .list _ => .inr (leT_of_lt (by simp [rank]))
  | .tuple _, .dict _ => .inl (leT_of_lt (by simp [rank]))
theorem leL_total : ∀ xs ys : List D, leL xs ys = true ∨ leL ys xs = true
  | [], ys => .inl (leL_nil ys)
  | x :: xs, [] => .inr (leL_nil _)
  | x :: xs, y :: ys => by
    rcases leT_total x y with h | h
    · cases h' : leT y x with
      | true =>
        simp only [leL_cons, h, h', if_true]
        exact leL_total xs ys
      | false => exact .inl (by simp [leL_cons, h, h'])
    · cases h' : leT x y with
      | true =>
        simp only [leL_cons, h, h', if_true]
        exact leL_total xs ys
      | false => exact .inr (by simp [leL_cons, h, h'])
end
theorem leT_trans_rank {a b c : D} (h1 : leT a b = true) (h2 : leT b c = true) (h : ¬ (rank a = rank b ∧ rank b = rank c)) : leT a c = true := by
  have r1 := leT_rank_le h1
  have r2 := leT_rank_le h2
  exact leT_of_lt (by omega)
mutual
theorem leT_trans : ∀ a b c : D, leT a b = true → leT b c = true → leT a c = true
  | .int i, .int j, .int k, h1, h2 => by simp only [leT_int, decide_eq_true_eq] at h1 h2 ⊢; omega
  | .str x, .str y, .str z, h1, h2 => by simp only [leT_str, decide_eq_true_eq] at h1 h2 ⊢; exact List.le_trans h1 h2
  | .tuple xs, .tuple ys, .tuple zs, h1, h2 => by simp only [leT_tup] at h1 h2 ⊢; exact leL_trans xs ys zs h1 h2
  | a, b, c, h1, h2 => by
    by_cases h : rank a = rank b ∧ rank b = rank c
    · obtain ⟨e1, e2⟩ := h
      by_cases hn : rank a ≠ 2 ∧ rank a ≠ 3 ∧ rank a ≠ 5
      · exact leT_same (e1.trans e2) hn
      · cases a <;> cases b <;> cases c <;> simp [rank] at e1 e2 hn <;> first
          | (simp only [leT_int, decide_eq_true_eq] at h1 h2 ⊢; omega)
          | (simp only [leT_str, decide_eq_true_eq] at h1 h2 ⊢; exact List.le_trans h1 h2)
          | (simp only [leT_tup] at h1 h2 ⊢; exact leL_trans _ _ _ h1 h2)
    · exact leT_trans_rank h1 h2 h
termination_by a b c => sizeOf a + sizeOf b + sizeOf c
theorem leL_trans : ∀ xs ys zs : List D, leL xs ys = true → leL ys zs = true → leL xs zs = true
  | [], _, zs, _, _ => leL_nil zs
  | x :: xs, [], _, h, _ => by simp [leL_cons_nil] at h
  | x :: xs, y :: ys, [], _, h => by simp [leL_cons_nil] at h
  | x :: xs, y :: ys, z :: zs, h1, h2 => by
    simp only [leL_cons] at h1 h2 ⊢
    cases xy : leT x y with
    | false => simp [xy] at h1
    | true =>
      cases yz : leT y z with
      | false => simp [yz] at h2
      | true =>
        have xz := leT_trans x y z xy yz
        cases zx : leT z x with
        | false => simp [xz]
        | true =>
          have zy := leT_trans z x y zx xy
          have yx := leT_trans y z x yz zx
          simp only [xy, yx, if_true] at h1
          simp only [yz, zy, if_true] at h2
          simp only [xz, if_true]
          exact leL_trans xs ys zs h1 h2
termination_by xs ys zs => sizeOf xs + sizeOf ys + sizeOf zs
end
theorem leT_refl (a : D) : leT a a = true := by rcases leT_total a a with h | h <;> exact h
mutual
def okd : D → Bool
  | .int _ => true
  | .str _ => true
  | .tuple xs => okds xs
  | _ => false
def okds : List D → Bool
  | [] => true
  | x :: xs => okd x && okds xs
end
mutual
theorem leT_antisymm : ∀ a b : D, okd a = true → okd b = true → leT a b = true → leT b a = true → a = b
  | .int i, .int j, _, _, h1, h2 => by simp only [leT_int, decide_eq_true_eq] at h1 h2; congr 1; omega
  | .str x, .str y, _, _, h1, h2 => by
    simp only [leT_str, decide_eq_true_eq] at h1 h2
    have : x.cps.toList = y.cps.toList := List.le_antisymm h1 h2
    have : x.cps = y.cps := Array.toList_inj.mp this
    cases x; cases y; simp_all
  | .tuple xs, .tuple ys, ha, hb, h1, h2 => by
    simp only [leT_tup] at h1 h2
    rw [leL_antisymm xs ys (by simpa [okd] using ha) (by simpa [okd] using hb) h1 h2]
  | .int _, .str _, _, _, h1, h2 => by have := leT_rank_le h2; simp [rank] at this
  | .int _, .tuple _, _, _, h1, h2 => by have := leT_rank_le h2; simp [rank] at this
  | .str _, .int _, _, _, h1, h2 => by have := leT_rank_le h1; simp [rank] at this
  | .str _, .tuple _, _, _, h1, h2 => by have := leT_rank_le h2; simp [rank] at this
  | .tuple _, .int _, _, _, h1, h2 => by have := leT_rank_le h1; simp [rank] at this
  | .tuple _, .str _, _, _, h1, h2 => by have := leT_rank_le h1; simp [rank] at this
  | .none, _, ha, _, _, _ => by simp [okd] at ha
  | .bool _, _, ha, _, _, _ => by simp [okd] at ha
  | .list _, _, ha, _, _, _ => by simp [okd] at ha
  | .dict _, _, ha, _, _, _ => by simp [okd] at ha
  | .int _, .none, _, hb, _, _ => by simp [okd] at hb
  | .int _, .bool _, _, hb, _, _ => by simp [okd] at hb
  | .int _, .list _, _, hb, _, _ => by simp [okd] at hb
  | .int _, .dict _, _, hb, _, _ => by simp [okd] at hb
  | .str _, .none, _, hb, _, _ => by simp [okd] at hb
  | .str _, .bool _, _, hb, _, _ => by simp [okd] at hb
  | .str _, .list _, _, hb, _, _ => by simp [okd] at hb
  | .str _, .dict _, _, hb, _, _ => by simp [okd] at hb
  | .tuple _, .none, _, hb, _, _ => by simp [okd] at hb
  | .tuple _, .bool _, _, hb, _, _ => by simp [okd] at hb
  | .tuple _, .list _, _, hb, _, _ => by simp [okd] at hb
  | .tuple _, .dict _, _, hb, _, _ => by simp [okd] at hb
theorem leL_antisymm : ∀ xs ys : List D, okds xs = true → okds ys = true → leL xs ys = true → leL ys xs = true → xs = ys
  | [], [], _, _, _, _ => rfl
  | [], _ :: _, _, _, _, h => by simp [leL_cons_nil] at h
  | _ :: _, [], _, _, h, _ => by simp [leL_cons_nil] at h
  | x :: xs, y :: ys, ha, hb, h1, h2 => by
    have ha' : okd x = true ∧ okds xs = true := by simpa [okds] using ha
    have hb' : okd y = true ∧ okds ys = true := by simpa [okds] using hb
    simp only [leL_cons] at h1 h2
    cases xy : leT x y with
    | false => simp [xy] at h1
    | true =>
      cases yx : leT y x with
      | false => simp [yx] at h2
      | true =>
        simp only [xy, yx, if_true] at h1 h2
        rw [leT_antisymm x y ha'.1 hb'.1 xy yx, leL_antisymm xs ys ha'.2 hb'.2 h1 h2]
end
mutual
theorem eqv_ok : ∀ a b : D, okd a = true → okd b = true → (PyData.eqv a b = true ↔ a = b)
  | .int i, .int j, _, _ => by simp [PyData.eqv]
  | .str x, .str y, _, _ => by simp [PyData.eqv]
  | .tuple xs, .tuple ys, ha, hb => by
    have := eqvs_ok xs ys (by simpa [okd] using ha) (by simpa [okd] using hb)
    simp [PyData.eqv, this]
  | .int _, .str _, _, _ => by simp [PyData.eqv]
  | .int _, .tuple _, _, _ => by simp [PyData.eqv]
  | .str _, .int _, _, _ => by simp [PyData.eqv]
  | .str _, .tuple _, _, _ => by simp [PyData.eqv]
  | .tuple _, .int _, _, _ => by simp [PyData.eqv]
  | .tuple _, .str _, _, _ => by simp [PyData.eqv]
  | .none, _, ha, _ => by simp [okd] at ha
  | .bool _, _, ha, _ => by simp [okd] at ha
  | .list _, _, ha, _ => by simp [okd] at ha
  | .dict _, _, ha, _ => by simp [okd] at ha
  | .int _, .none, _, hb => by simp [okd] at hb
  | .int _, .bool _, _, hb => by simp [okd] at hb
  | .int _, .list _, _, hb => by simp [okd] at hb
  | .int _, .dict _, _, hb => by simp [okd] at hb
  | .str _, .none, _, hb => by simp [okd] at hb
  | .str _, .bool _, _, hb => by simp [okd] at hb
  | .str _, .list _, _, hb => by simp [okd] at hb
  | .str _, .dict _, _, hb => by simp [okd] at hb
  | .tuple _, .none, _, hb => by simp [okd] at hb
  | .tuple _, .bool _, _, hb => by simp [okd] at hb
  | .tuple _, .list _, _, hb => by simp [okd] at hb
  | .tuple _, .dict _, _, hb => by simp [okd] at hb
theorem eqvs_ok : ∀ xs ys : List D, okds xs = true → okds ys = true → (PyData.eqvAll xs ys = true ↔ xs = ys)
  | [], [], _, _ => by simp [PyData.eqvAll]
  | [], _ :: _, _, _ => by simp [PyData.eqvAll]
  | _ :: _, [], _, _ => by simp [PyData.eqvAll]
  | x :: xs, y :: ys, ha, hb => by
    have ha' : okd x = true ∧ okds xs = true := by simpa [okds] using ha
    have hb' : okd y = true ∧ okds ys = true := by simpa [okds] using hb
    simp [PyData.eqvAll, eqv_ok x y ha'.1 hb'.1, eqvs_ok xs ys ha'.2 hb'.2]
end
mutual
theorem ltv_le : ∀ (a b : D) (r : Bool), okd a = true → okd b = true → ltv a b = some r → r = !leT b a
  | .int i, .int j, r, _, _, h => by
    simp only [ltv, Option.some.injEq] at h
    subst h
    simp only [leT_int]
    rw [Bool.eq_iff_iff]
    simp
  | .str x, .str y, r, _, _, h => by
    simp only [ltv, Option.some.injEq] at h
    subst h
    simp only [leT_str]
    rw [Bool.eq_iff_iff]
    simp
  | .tuple xs, .tuple ys, r, ha, hb, h => by
    simp only [leT_tup]
    exact ltAll_le xs ys r (by simpa [okd] using ha) (by simpa [okd] using hb) (by simpa [ltv] using h)
  | .int _, .str _, _, _, _, h => by simp [ltv] at h
  | .int _, .tuple _, _, _, _, h => by simp [ltv] at h
  | .str _, .int _, _, _, _, h => by simp [ltv] at h
  | .str _, .tuple _, _, _, _, h => by simp [ltv] at h
  | .tuple _, .int _, _, _, _, h => by simp [ltv] at h
  | .tuple _, .str _, _, _, _, h => by simp [ltv] at h
  | .none, _, _, ha, _, _ => by simp [okd] at ha
  | .bool _, _, _, ha, _, _ => by simp [okd] at ha
  | .list _, _, _, ha, _, _ => by simp [okd] at ha
  | .dict _, _, _, ha, _, _ => by simp [okd] at ha
  | .int _, .none, _, _, hb, _ => by simp [okd] at hb
  | .int _, .bool _, _, _, hb, _ => by simp [okd] at hb
  | .int _, .list _, _, _, hb, _ => by simp [okd] at hb
  | .int _, .dict _, _, _, hb, _ => by simp [okd] at hb
  | .str _, .none, _, _, hb, _ => by simp [okd] at hb
  | .str _, .bool _, _, _, hb, _ => by simp [okd] at hb
  | .str _, .list _, _, _, hb, _ => by simp [okd] at hb
  | .str _, .dict _, _, _, hb, _ => by simp [okd] at hb
  | .tuple _, .none, _, _, hb, _ => by simp [okd] at hb
  | .tuple _, .bool _, _, _, hb, _ => by simp [okd] at hb
  | .tuple _, .list _, _, _, hb, _ => by simp [okd] at hb
  | .tuple _, .dict _, _, _, hb, _ => by simp [okd] at hb
theorem ltAll_le : ∀ (xs ys : List D) (r : Bool), okds xs = true → okds ys = true → ltAll xs ys = some r → r = !leL ys xs
  | [], [], r, _, _, h => by simp only [ltAll, Option.some.injEq] at h; subst h; simp [leL_nil, leL_cons_nil]
  | [], _ :: _, r, _, _, h => by simp only [ltAll, Option.some.injEq] at h; subst h; simp [leL_nil, leL_cons_nil]
  | _ :: _, [], r, _, _, h => by simp only [ltAll, Option.some.injEq] at h; subst h; simp [leL_nil, leL_cons_nil]
  | x :: xs, y :: ys, r, ha, hb, h => by
    have ha' : okd x = true ∧ okds xs = true := by simpa [okds] using ha
    have hb' : okd y = true ∧ okds ys = true := by simpa [okds] using hb
    rw [ltAll] at h
    split at h
    · rename_i hq
      have e := (eqv_ok x y ha'.1 hb'.1).mp hq
      subst e
      simp only [leL_cons, leT_refl, if_true]
      exact ltAll_le xs ys r ha'.2 hb'.2 h
    · rename_i hq
      have ne : x ≠ y := fun e => hq ((eqv_ok x y ha'.1 hb'.1).mpr e)
      have q := ltv_le x y r ha'.1 hb'.1 h
      subst q
      simp only [leL_cons]
      cases hyx : leT y x with
      | false => simp
      | true =>
        cases hxy : leT x y with
        | false => simp
        | true => exact absurd (leT_antisymm x y ha'.1 hb'.1 hxy hyx) ne
end
mutual
def cmpOk : D → D → Bool
  | .tuple xs, .tuple ys => cmpOks xs ys
  | .int _, .int _ => true
  | .str _, .str _ => true
  | _, _ => false
def cmpOks : List D → List D → Bool
  | [], _ => true
  | _ :: _, [] => true
  | x :: xs, y :: ys => cmpOk x y && cmpOks xs ys
end
def isTup1 : D → Bool
  | .tuple (_ :: _) => true
  | _ => false
def isTupD : D → Bool
  | .tuple _ => true
  | _ => false
mutual
def likeD : D → D → Bool
  | .tuple xs, .tuple ys => likeDs xs ys
  | .int _, .int _ => true
  | .str _, .str _ => true
  | _, _ => false
def likeDs : List D → List D → Bool
  | [], [] => true
  | x :: xs, y :: ys => likeD x y && likeDs xs ys
  | _, _ => false
end
mutual
theorem likeD_cmp : ∀ x y z : D, likeD x y = true → likeD x z = true → cmpOk y z = true
  | .tuple xs, .tuple ys, .tuple zs, h1, h2 => by
    simp only [likeD] at h1 h2
    simp only [cmpOk]
    exact likeDs_cmp xs ys zs h1 h2
  | .int _, .int _, .int _, _, _ => by simp [cmpOk]
  | .str _, .str _, .str _, _, _ => by simp [cmpOk]
  | .none, y, _, h1, _ => by cases y <;> simp [likeD] at h1
  | .bool _, y, _, h1, _ => by cases y <;> simp [likeD] at h1
  | .list _, y, _, h1, _ => by cases y <;> simp [likeD] at h1
  | .dict _, y, _, h1, _ => by cases y <;> simp [likeD] at h1
  | .int _, .none, _, h1, _ => by simp [likeD] at h1
  | .int _, .bool _, _, h1, _ => by simp [likeD] at h1
  | .int _, .str _, _, h1, _ => by simp [likeD] at h1
  | .int _, .list _, _, h1, _ => by simp [likeD] at h1
  | .int _, .tuple _, _, h1, _ => by simp [likeD] at h1
  | .int _, .dict _, _, h1, _ => by simp [likeD] at h1
  | .str _, .none, _, h1, _ => by simp [likeD] at h1
  | .str _, .bool _, _, h1, _ => by simp [likeD] at h1
  | .str _, .int _, _, h1, _ => by simp [likeD] at h1
  | .str _, .list _, _, h1, _ => by simp [likeD] at h1
  | .str _, .tuple _, _, h1, _ => by simp [likeD] at h1
  | .str _, .dict _, _, h1, _ => by simp [likeD] at h1
  | .tuple _, .none, _, h1, _ => by simp [likeD] at h1
  | .tuple _, .bool _, _, h1, _ => by simp [likeD] at h1
  | .tuple _, .int _, _, h1, _ => by simp [likeD] at h1
  | .tuple _, .str _, _, h1, _ => by simp [likeD] at h1
  | .tuple _, .list _, _, h1, _ => by simp [likeD] at h1
  | .tuple _, .dict _, _, h1, _ => by simp [likeD] at h1
  | .int _, .int _, .none, _, h => by simp [likeD] at h
  | .int _, .int _, .bool _, _, h => by simp [likeD] at h
  | .int _, .int _, .str _, _, h => by simp [likeD] at h
  | .int _, .int _, .list _, _, h => by simp [likeD] at h
  | .int _, .int _, .tuple _, _, h => by simp [likeD] at h
  | .int _, .int _, .dict _, _, h => by simp [likeD] at h
  | .str _, .str _, .none, _, h => by simp [likeD] at h
  | .str _, .str _, .bool _, _, h => by simp [likeD] at h
  | .str _, .str _, .int _, _, h => by simp [likeD] at h
  | .str _, .str _, .list _, _, h => by simp [likeD] at h
  | .str _, .str _, .tuple _, _, h => by simp [likeD] at h
  | .str _, .str _, .dict _, _, h => by simp [likeD] at h
  | .tuple _, .tuple _, .none, _, h => by simp [likeD] at h
  | .tuple _, .tuple _, .bool _, _, h => by simp [likeD] at h
  | .tuple _, .tuple _, .int _, _, h => by simp [likeD] at h
  | .tuple _, .tuple _, .str _, _, h => by simp [likeD] at h
  | .tuple _, .tuple _, .list _, _, h => by simp [likeD] at h
  | .tuple _, .tuple _, .dict _, _, h => by simp [likeD] at h
theorem likeDs_cmp : ∀ xs ys zs : List D, likeDs xs ys = true → likeDs xs zs = true → cmpOks ys zs = true
  | [], [], zs, _, _ => by simp [cmpOks]
  | [], _ :: _, _, h, _ => by simp [likeDs] at h
  | _ :: _, [], _, h, _ => by simp [likeDs] at h
  | _ :: _, _ :: _, [], _, h => by simp [likeDs] at h
  | x :: xs, y :: ys, z :: zs, h1, h2 => by
    simp only [likeDs, Bool.and_eq_true] at h1 h2
    simp only [cmpOks, Bool.and_eq_true]
    exact ⟨likeD_cmp x y z h1.1 h2.1, likeDs_cmp xs ys zs h1.2 h2.2⟩
end
def pairsOk (xs : List D) : Bool := (match xs with
  | [] => true
  | x :: r => (x :: r).all (likeD x)) || xs.all fun x => xs.all fun y => cmpOk x y
theorem pairsOk_at {xs : List D} (h : pairsOk xs = true) : ∀ x ∈ xs, ∀ y ∈ xs, cmpOk x y = true := by
  unfold pairsOk at h
  rw [Bool.or_eq_true] at h
  rcases h with h | h
  · cases xs with
    | nil => intro x hx; simp at hx
    | cons z r =>
      simp only [List.all_eq_true] at h
      exact fun x hx y hy => likeD_cmp z x y (h x hx) (h y hy)
  · simp only [List.all_eq_true] at h
    exact h
def sortOk (xs : List D) : Bool := (xs.all fun x => okd x && x.canLay0 && decide (x.depth ≤ 60)) && ((xs.all isTup1 || xs.all fun x => !isTupD x) || xs.all isTupD) && pairsOk xs
def insT (x : D) : List D → List D
  | [] => [x]
  | y :: ys => if leT x y then x :: y :: ys else y :: insT x ys
def isortT : List D → List D
  | [] => []
  | x :: xs => insT x (isortT xs)
theorem insT_perm (x : D) : ∀ ys : List D, (insT x ys).Perm (x :: ys)
  | [] => .refl _
  | y :: ys => by
    unfold insT
    split
    · exact .refl _
    · exact ((insT_perm x ys).cons y).trans (.swap x y ys)
theorem isortT_perm : ∀ xs : List D, (isortT xs).Perm xs
  | [] => .refl _
  | x :: xs => (insT_perm x _).trans ((isortT_perm xs).cons x)
theorem insT_sorted (x : D) : ∀ {ys : List D}, ys.Pairwise (fun a b => leT a b = true) → (insT x ys).Pairwise (fun a b => leT a b = true)
  | [], _ => by simp [insT]
  | y :: ys, h => by
    unfold insT
    rw [List.pairwise_cons] at h
    split
    · rename_i hxy
      refine List.pairwise_cons.mpr ⟨fun z hz => ?_, List.pairwise_cons.mpr h⟩
      rcases List.mem_cons.mp hz with rfl | hz
      · exact hxy
      · exact leT_trans _ _ _ hxy (h.1 z hz)
    · rename_i hxy
      refine List.pairwise_cons.mpr ⟨fun z hz => ?_, insT_sorted x h.2⟩
      rcases List.mem_cons.mp ((insT_perm x ys).mem_iff.mp hz) with rfl | hz
      · have := leT_total z y
        simp only [Bool.not_eq_true] at hxy
        rw [hxy] at this
        simpa using this
      · exact h.1 z hz
theorem isortT_sorted : ∀ xs : List D, (isortT xs).Pairwise (fun a b => leT a b = true)
  | [] => .nil
  | x :: xs => insT_sorted x (isortT_sorted xs)
theorem sorted_uniq : ∀ {l m : List D}, l.Perm m → l.Pairwise (fun a b => leT a b = true) → m.Pairwise (fun a b => leT a b = true) → (∀ x ∈ l, okd x = true) → l = m
  | [], m, p, _, _, _ => (List.Perm.nil_eq p)
  | x :: t, m, p, h1, h2, ok => by
    cases m with
    | nil => exact absurd p.symm (by simp)
    | cons y u =>
      have hx : x ∈ y :: u := p.mem_iff.mp (by simp)
      have hy : y ∈ x :: t := p.mem_iff.mpr (by simp)
      have e : x = y := by
        rw [List.pairwise_cons] at h1 h2
        rcases List.mem_cons.mp hx with e | hx'
        · exact e
        · rcases List.mem_cons.mp hy with e | hy'
          · exact e.symm
          · exact leT_antisymm x y (ok x (by simp)) (ok y hy) (h1.1 y hy') (h2.1 x hx')
      subst e
      rw [sorted_uniq (List.Perm.cons_inv p) (List.pairwise_cons.mp h1).2 (List.pairwise_cons.mp h2).2 fun z hz => ok z (by simp [hz])]
theorem isort_merge {xs : List D} (ok : ∀ x ∈ xs, okd x = true) : xs.mergeSort leT = isortT xs := by
  refine sorted_uniq ((List.mergeSort_perm xs leT).trans (isortT_perm xs).symm) ?_ (isortT_sorted xs) fun x hx => ok x ((List.mergeSort_perm xs leT).mem_iff.mp hx)
  exact List.pairwise_mergeSort (fun a b c => leT_trans a b c) (fun a b => by simpa using leT_total a b) xs
def sortD (xs : List D) : Option (List D) := if sortOk xs then some (isortT xs) else none
def itemsS : List D → Option (List D)
  | [.list xs] => some xs
  | [.tuple xs] => some xs
  | [.dict kvs] => if kvs.all (fun q => isTupKey q.1 || keyFlat q.1) then some (kvs.map (·.1)) else none
  | _ => none
def pSorted (ds : List D) : Option Res := (itemsS ds).bind fun xs => (sortD xs).map fun ys => .ow (.list ys)
end Pu
namespace Pu
open PySem
mutual
def noObj : D → Bool
  | .tuple xs => noObjs xs
  | .list _ => false
  | .dict _ => false
  | _ => true
def noObjs : List D → Bool
  | [] => true
  | x :: xs => noObj x && noObjs xs
end
def maskS : Slot → Slot
  | .ow _ => .no
  | .bo _ => .no
  | .gh _ => .no
  | .xt _ => .no
  | t => t
def lockRes : Res → Option Res
  | .ow (.list ds) => if noObjs ds then some (.ow (.list ds)) else none
  | .sh d => if noObj d then some (.sh d) else none
  | _ => none
def eLock (i : Nat) (g : M) : M := fun ρ => (ρ[i]?.bind Slot.own).bind fun d => (g ((ρ.map maskS).set i (.sh d))).bind fun p => (lockRes p.1).map fun r => (r, ρ)
def eDict : M := fun ρ => some (.ow (.dict []), ρ)
def minOk (xs : List D) : Bool := (xs.all fun x => okd x && x.canLay0 && decide (x.depth ≤ 60)) && pairsOk xs
def minT (x : D) (xs : List D) : D := xs.foldl (fun a y => if leT a y then a else y) x
def pMinL : List D → Option Res
  | [.list (x :: xs)] => if minOk (x :: xs) then some (.sh (minT x xs)) else none
  | _ => none
def boolR : Res → Option Bool
  | .sh (.bool k) => some k
  | _ => none
def eChain (f f' : D → D → Option Res) (a b c : M) : M := fun ρ => (a ρ).bind fun p => (b p.2).bind fun q => (p.1.get q.2).bind fun x => (q.1.get q.2).bind fun y => (f x y).bind fun r => (boolR r).bind fun k =>
  if k = true then (c q.2).bind fun t => (q.1.get t.2).bind fun y' => (t.1.get t.2).bind fun z => (f' y' z).map fun r' => (r', t.2) else some (.sh (.bool false), q.2)
def eListRg (it : I) : M := fun ρ => (it ρ).map fun p => (.ow (.list p.1), p.2)
def eTupRg (it : I) : M := fun ρ => (it ρ).map fun p => (.sh (.tuple p.1), p.2)
def eListZip (as : Ds) : M := fun ρ => (iZip as ρ).map fun p => (.ow (.list p.1), p.2)
def findIx (xs : List D) (d : D) : Option Nat := xs.findIdx? fun z => PyData.eqv z d
end Pu
namespace Pu
open PySem
def pStr : List D → Option Res
  | [.int i] => if i.natAbs.log2 < 1920 then some (.sh (.str (Str.ofString (toString i)))) else none
  | [.str a] => some (.sh (.str a))
  | _ => none
def zipDN : List D → Option (List D)
  | [.tuple xs, .tuple ys] => some (pairs xs ys)
  | _ => none
def iZipN (as : Ds) : I := fun ρ => (as ρ).bind fun p => (zipDN p.1).map fun ds => (ds, p.2)
def triples : List D → List D → List D → List D
  | x :: xs, y :: ys, z :: zs => .tuple [x, y, z] :: triples xs ys zs
  | _, _, _ => []
def zipD3 : List D → Option (List D)
  | [.tuple xs, .tuple ys, .tuple zs] => some (triples xs ys zs)
  | _ => none
def iZip3 (as : Ds) : I := fun ρ => (as ρ).bind fun p => (zipD3 p.1).map fun ds => (ds, p.2)
def eListZip3 (as : Ds) : M := fun ρ => (iZip3 as ρ).map fun p => (.ow (.list p.1), p.2)
def augC (i : Nat) (a : Int) : D × Env → Option Out
  | (.int b, ρ) => (setSlot i (.sh (.int (a + b))) ρ).map .nx
  | _ => none
def augA (i : Nat) (g : M) (ρ : Env) : Option Slot → Option Out
  | some (.sh (.int a)) => (g ρ).bind fun p => (share p.1 p.2).bind (augC i a)
  | _ => none
def sAug (i : Nat) (g : M) : S := fun ρ => augA i g ρ ρ[i]?
def repC (xs : List D) (ρ : Env) : D → Option (Res × Env)
  | .int k => if (decide (0 ≤ k) && decide (k ≤ 1000) && decide (xs.length ≤ 1000)) = true then some (.ow (.list (List.replicate k.toNat xs).flatten), ρ) else none
  | _ => none
def repA (b : M) : Res × Env → Option (Res × Env)
  | (.ow (.list xs), ρ) => (b ρ).bind fun q => (q.1.get q.2).bind (repC xs q.2)
  | _ => none
def eRepL (a b : M) : M := fun ρ => (a ρ).bind (repA b)
def listAt (i : Nat) (ρ : Env) : Option (List D) := match (Res.var i).get ρ with
  | some (.list xs) => some xs
  | _ => none
def shp (d : D) : Bool := d.canLay0 && decide (d.depth ≤ 64)
def idxC (d : D) (ρ : Env) (xs : List D) : Option (Res × Env) := if (shp (.list xs) && shp d) = true then (findIx xs d).map fun n => (.sh (.int (n : Nat)), ρ) else none
def idxB (i : Nat) : D × Env → Option (Res × Env) := fun s => (listAt i s.2).bind (idxC s.1 s.2)
def idxA (i : Nat) : Res × Env → Option (Res × Env) := fun p => (share p.1 p.2).bind (idxB i)
def eIndexL (i : Nat) (g : M) : M := fun ρ => (listAt i ρ).bind fun _ => (g ρ).bind (idxA i)
def exvC (i : Nat) (ρ : Env) (ys xs : List D) : Option (Res × Env) := if xs.length + ys.length ≤ 16777216 then (updSlot i (.list (xs ++ ys)) ρ).map fun ρ' => (.sh .none, ρ') else none
def exvB (i : Nat) : D × Env → Option (Res × Env)
  | (.list ys, ρ) => (ownList i ρ).bind (exvC i ρ ys)
  | _ => none
def exvA (i : Nat) : Res × Env → Option (Res × Env) := fun p => (share p.1 p.2).bind (exvB i)
def eExtendV (i : Nat) (a : M) : M := fun ρ => (ownList i ρ).bind fun _ => (a ρ).bind (exvA i)
end Pu
set_option maxRecDepth 100000
namespace Pu
open PySem
def sAugD (i : Nat) (k a : M) : S := fun ρ => (ownDict i ρ).bind fun _ => (k ρ).bind fun q => (share q.1 q.2).bind fun t => (ownDict i t.2).bind fun kvs =>
  if (isTupKey t.1 && kvs.all fun q => isTupKey q.1) = true then (dFind kvs t.1).bind fun d => (intOf d).bind fun x => (a t.2).bind fun p => (share p.1 p.2).bind fun s => (intOf s.1).bind fun y => (ownDict i s.2).bind fun kvs2 =>
    if ((kvs2.all fun q => isTupKey q.1) && decide (kvs2.length < 16777216)) = true then (updSlot i (.dict (dPut kvs2 t.1 (.int (x + y)))) s.2).map .nx else none
  else none
end Pu
set_option maxRecDepth 100000
namespace Pu
open PySem
end Pu
namespace Pu
open PySem
section
variable {ρ ρ1 ρ2 ρ3 ρ4 : Env} {a b c : M} {t u : T} {r r1 r2 r3 : Res} {d x y z : D} {ds : List D} {i : Nat} {as : Ds} {ms : Ms} {k k2 : Bool}
theorem eVar_eq (h : ρ[i]?.bind Slot.val = some d) : eVar i ρ = some (.var i, ρ) := by unfold eVar; rw [h]; rfl
theorem eOp1_eq {f : D → Option Res} (h1 : a ρ = some (r1, ρ1)) (hx : r1.get ρ1 = some x) (hf : f x = some r) : eOp1 f a ρ = some (r, ρ1) := by
  unfold eOp1; rw [h1]; simp only [Option.bind_some]; rw [hx]; simp only [Option.bind_some]; rw [hf]; rfl
theorem eOp2_eq {f : D → D → Option Res} (h1 : a ρ = some (r1, ρ1)) (h2 : b ρ1 = some (r2, ρ2)) (hx : r1.get ρ2 = some x) (hy : r2.get ρ2 = some y) (hf : f x y = some r) : eOp2 f a b ρ = some (r, ρ2) := by
  unfold eOp2; rw [h1]; simp only [Option.bind_some]; rw [h2]; simp only [Option.bind_some]; rw [hx]; simp only [Option.bind_some]; rw [hy]; simp only [Option.bind_some]; rw [hf]; rfl
theorem msCons_eq {rs : List Res} (h1 : a ρ = some (r1, ρ1)) (h2 : ms ρ1 = some (rs, ρ2)) : msCons a ms ρ = some (r1 :: rs, ρ2) := by
  unfold msCons; rw [h1]; simp only [Option.bind_some]; rw [h2]; rfl
theorem ePrim_eq {f : List D → Option Res} {rs : List Res} (h1 : ms ρ = some (rs, ρ1)) (h2 : getAll ρ1 rs = some ds) (hf : f ds = some r) : ePrim f ms ρ = some (r, ρ1) := by
  unfold ePrim; rw [h1]; simp only [Option.bind_some]; rw [h2]; simp only [Option.bind_some]; rw [hf]; rfl
theorem dsCons_eq (h1 : a ρ = some (r1, ρ1)) (h2 : share r1 ρ1 = some (d, ρ2)) (h3 : as ρ2 = some (ds, ρ3)) : dsCons a as ρ = some (d :: ds, ρ3) := by
  unfold dsCons; rw [h1]; simp only [Option.bind_some]; rw [h2]; simp only [Option.bind_some]; rw [h3]; rfl
theorem eTup_eq (h : as ρ = some (ds, ρ1)) : eTup as ρ = some (.sh (.tuple ds), ρ1) := by unfold eTup; rw [h]; rfl
theorem eLst_eq (h : as ρ = some (ds, ρ1)) : eLst as ρ = some (.ow (.list ds), ρ1) := by unfold eLst; rw [h]; rfl
theorem eSlice_eq {lo hi : Os} {l h : Option Int} (h1 : a ρ = some (r1, ρ1)) (h2 : lo ρ1 = some (l, ρ2)) (h3 : hi ρ2 = some (h, ρ3)) (hx : r1.get ρ3 = some x) (hf : pSlice x l h = some r) : eSlice a lo hi ρ = some (r, ρ3) := by
  unfold eSlice; rw [h1]; simp only [Option.bind_some]; rw [h2]; simp only [Option.bind_some]; rw [h3]; simp only [Option.bind_some]; rw [hx]; simp only [Option.bind_some]; rw [hf]; rfl
theorem oSome_eq {j : Int} (h1 : a ρ = some (r1, ρ1)) (hx : r1.get ρ1 = some (.int j)) : oSome a ρ = some (some j, ρ1) := by
  unfold oSome; rw [h1]; simp only [Option.bind_some]; rw [hx]
theorem tOf_eq (h1 : a ρ = some (r1, ρ1)) (hx : r1.get ρ1 = some (.bool k)) : tOf a ρ = some (k, ρ1) := by
  unfold tOf; rw [h1]; simp only [Option.bind_some]; rw [hx]
theorem tNot_eq (h : t ρ = some (k, ρ1)) : tNot t ρ = some (!k, ρ1) := by unfold tNot; rw [h]; rfl
theorem tAnd_eq (h1 : t ρ = some (k, ρ1)) (h2 : k = true → u ρ1 = some (k2, ρ1)) : tAnd t u ρ = some (k && k2, ρ1) := by
  unfold tAnd; rw [h1]; simp only [Option.bind_some]
  cases k with
  | true => simp [h2 rfl]
  | false => simp
theorem eOr_eq (h1 : a ρ = some (r1, ρ1)) (hx : r1.get ρ1 = some (.bool k)) (h2 : k = false → b ρ1 = some (.sh (.bool k2), ρ1)) : eOr a b ρ = some (.sh (.bool (k || k2)), ρ1) := by
  unfold eOr; rw [tOf_eq h1 hx]; simp only [Option.bind_some]
  cases k with
  | true => simp
  | false => simp [h2 rfl]
theorem eIf_t {o : Option (Res × Env)} (h : t ρ = some (true, ρ1)) (ha : a ρ1 = o) : eIf t a b ρ = o := by unfold eIf; rw [h]; simpa using ha
theorem eIf_f {o : Option (Res × Env)} (h : t ρ = some (false, ρ1)) (hb : b ρ1 = o) : eIf t a b ρ = o := by unfold eIf; rw [h]; simpa using hb
variable {s s1 s2 : S} {o : Option Out}
theorem sSeq_nx (h1 : s1 ρ = some (.nx ρ1)) (h2 : s2 ρ1 = o) : sSeq s1 s2 ρ = o := by unfold sSeq; rw [h1]; exact h2
theorem sSeq_rt (h1 : s1 ρ = some (.rt r ρ1)) : sSeq s1 s2 ρ = some (.rt r ρ1) := by unfold sSeq; rw [h1]; rfl
theorem sExpr_eq (h : a ρ = some (r, ρ1)) : sExpr a ρ = some (.nx ρ1) := by unfold sExpr; rw [h]; rfl
theorem sIf_t (h : t ρ = some (true, ρ1)) (ha : s1 ρ1 = o) : sIf t s1 s2 ρ = o := by unfold sIf; rw [h]; simpa using ha
theorem sIf_f (h : t ρ = some (false, ρ1)) (hb : s2 ρ1 = o) : sIf t s1 s2 ρ = o := by unfold sIf; rw [h]; simpa using hb
theorem sIf_b (h : t ρ = some (k, ρ1)) (ha : k = true → s1 ρ1 = o) (hb : k = false → s2 ρ1 = o) : sIf t s1 s2 ρ = o := by
  cases k with
  | true => exact sIf_t h (ha rfl)
  | false => exact sIf_f h (hb rfl)
theorem sSet_eq {v : Slot} (h1 : a ρ = some (r, ρ1)) (h2 : hold r ρ1 = some (v, ρ2)) (h3 : setSlot i v ρ2 = some ρ3) : sSet i a ρ = some (.nx ρ3) := by
  unfold sSet; rw [h1]; simp only [Option.bind_some]; rw [h2]; simp only [Option.bind_some]; rw [h3]; rfl
theorem sRet_eq (h1 : a ρ = some (r, ρ1)) (h2 : giveUp r ρ1 = some (r1, ρ2)) : sRet a ρ = some (.rt r1 ρ2) := by
  unfold sRet; rw [h1]; simp only [Option.bind_some]; rw [h2]; rfl
theorem sUnp_eq {g : G} (h1 : a ρ = some (r, ρ1)) (h2 : share r ρ1 = some (d, ρ2)) (h3 : g d ρ2 = some ρ3) : sUnp g a ρ = some (.nx ρ3) := by
  unfold sUnp; rw [h1]; simp only [Option.bind_some]; rw [h2]; simp only [Option.bind_some]; rw [h3]; rfl
theorem hsCons_eq {hs : Hs} {v : Slot} {vs : List Slot} (h1 : a ρ = some (r, ρ1)) (h2 : hold r ρ1 = some (v, ρ2)) (h3 : hs ρ2 = some (vs, ρ3)) : hsCons a hs ρ = some (v :: vs, ρ3) := by
  unfold hsCons; rw [h1]; simp only [Option.bind_some]; rw [h2]; simp only [Option.bind_some]; rw [h3]; rfl
theorem sPar_eq {hs : Hs} {is : List Nat} {vs : List Slot} (h1 : hs ρ = some (vs, ρ1)) (h2 : setAll is vs ρ1 = some ρ2) : sPar is hs ρ = some (.nx ρ2) := by
  unfold sPar; rw [h1]; simp only [Option.bind_some]; rw [h2]; rfl
theorem sFor_eq {it : I} {g : G} (h1 : it ρ = some (ds, ρ1)) (h2 : forGo g s ds ρ1 = o) : sFor it g s ρ = o := by unfold sFor; rw [h1]; exact h2
theorem iOf_eq (h1 : a ρ = some (r, ρ1)) (h2 : share r ρ1 = some (d, ρ2)) (h3 : itemsOf d = some ds) : iOf a ρ = some (ds, ρ2) := by
  unfold iOf; rw [h1]; simp only [Option.bind_some]; rw [h2]; simp only [Option.bind_some]; rw [h3]; rfl
theorem iZip_eq {es : List D} (h1 : as ρ = some (ds, ρ1)) (h2 : zipD ds = some es) : iZip as ρ = some (es, ρ1) := by unfold iZip; rw [h1]; simp only [Option.bind_some]; rw [h2]; rfl
theorem iEnum_eq {es : List D} (h1 : as ρ = some (ds, ρ1)) (h2 : enumD ds = some es) : iEnum as ρ = some (es, ρ1) := by unfold iEnum; rw [h1]; simp only [Option.bind_some]; rw [h2]; rfl
theorem iRange_eq {f : List D → Option (Int × Int)} {rs : List Res} {lo hi : Int} (h1 : ms ρ = some (rs, ρ1)) (h2 : getAll ρ1 rs = some ds) (h3 : f ds = some (lo, hi)) (h4 : (hi - lo).toNat ≤ 16777216) : iRange f ms ρ = some (rangeD lo hi, ρ1) := by
  unfold iRange; rw [h1]; simp only [Option.bind_some]; rw [h2]; simp only [Option.bind_some]; rw [h3]; simp only [Option.bind_some]; rw [if_pos h4]
theorem eComp_eq {vs : List Nat} {it : I} {g : G} {out : List D} (h1 : it ρ = some (ds, ρ1)) (h2 : compGo vs g t a ds [] (wipeE ρ1 vs) = some (out, ρ2)) (h3 : putBack ρ1 ρ2 vs = ρ3) : eComp vs it g t a ρ = some (.ow (.list out), ρ3) := by
  unfold eComp; rw [h1]; simp only [Option.bind_some]; rw [h2]; simp [h3]
theorem comp_map {α : Type} {vs : List Nat} {g : G} (enc : α → D) (p : α → Bool) (f : α → D) : ∀ (xs : List α) (acc : List D), (∀ w ∈ xs, ∃ ρ1, g (enc w) ρ = some ρ1 ∧ t ρ1 = some (p w, ρ1) ∧ (p w = true → ∃ r, a ρ1 = some (r, ρ1) ∧ share r ρ1 = some (f w, ρ1)) ∧ wipeE ρ1 vs = ρ) →
    compGo vs g t a (xs.map enc) acc ρ = some (acc ++ (xs.filter p).map f, ρ)
  | [], acc, _ => by simp [compGo]
  | w :: xs, acc, h => by
    obtain ⟨ρ1, h1, h2, h3, h4⟩ := h w (by simp)
    have ih := fun acc => comp_map enc p f xs acc fun w' hw => h w' (by simp [hw])
    simp only [List.map_cons, compGo]
    rw [h1]; simp only [Option.bind_some]; rw [h2]; simp only [Option.bind_some]
    cases hp : p w with
    | true =>
      obtain ⟨r, h5, h6⟩ := h3 hp
      simp only [if_true]
      rw [h5]; simp only [Option.bind_some]; rw [h6]; simp only [Option.bind_some]
      rw [h4, ih]
      simp [List.filter_cons, hp]
    | false =>
      simp only [Bool.false_eq_true, if_false]
      rw [h4, ih]
      simp [List.filter_cons, hp]
theorem for_foldI {α σ : Type} {g : G} (enc : α → D) (R : σ → Env) (step : σ → α → σ) (I : List α → σ → Prop) (h : ∀ (w : α) (xs : List α) (q : σ), I (w :: xs) q → I xs (step q w) ∧ ∃ ρ1, g (enc w) (R q) = some ρ1 ∧ (s ρ1 = some (.nx (R (step q w))) ∨ s ρ1 = some (.ct (R (step q w))))) : ∀ (xs : List α) (q : σ), I xs q →
    forGo g s (xs.map enc) (R q) = some (.nx (R (xs.foldl step q))) ∧ I [] (xs.foldl step q)
  | [], q, hq => ⟨rfl, hq⟩
  | w :: xs, q, hq => by
    obtain ⟨h0, ρ1, h1, h2⟩ := h w xs q hq
    have ih := for_foldI enc R step I h xs (step q w) h0
    refine ⟨?_, ih.2⟩
    simp only [List.map_cons, forGo, List.foldl_cons]
    rw [h1]; simp only [Option.bind_some]
    rcases h2 with h2 | h2 <;> (rw [h2]; simp only [Option.bind_some]; exact ih.1)
def iterM {σ : Type} (c : σ → Bool) (step : σ → σ) : Nat → σ → Option σ
  | 0, _ => none
  | n + 1, q => if c q then iterM c step n (step q) else some q
theorem while_run {σ : Type} (R : σ → Env) (c : σ → Bool) (step : σ → σ) (I : σ → Prop) (h : ∀ q, I q → t (R q) = some (c q, R q) ∧ (c q = true → I (step q) ∧ (s (R q) = some (.nx (R (step q))) ∨ s (R q) = some (.ct (R (step q)))))) : ∀ (n : Nat) (q : σ), I q → whileGo t s n (R q) = (iterM c step n q).map fun q => .nx (R q)
  | 0, q, _ => rfl
  | n + 1, q, hq => by
    obtain ⟨h1, h2⟩ := h q hq
    unfold whileGo iterM
    rw [h1]; simp only [Option.bind_some]
    cases hc : c q with
    | true =>
      obtain ⟨h3, h4⟩ := h2 hc
      simp only [if_true]
      have ih := while_run R c step I h n (step q) h3
      rcases h4 with h4 | h4 <;> (rw [h4]; simp only [Option.bind_some]; exact ih)
    | false => simp
def lastS : Option D → Slot
  | none => .no
  | some d => .sh d
theorem eAppend_eq {xs ys : List D} (h0 : ownList i ρ = some ys) (h1 : a ρ = some (r, ρ1)) (h2 : share r ρ1 = some (d, ρ2)) (h3 : ownList i ρ2 = some xs) (h4 : xs.length < 16777216) (h5 : updSlot i (.list (xs ++ [d])) ρ2 = some ρ3) : eAppend i a ρ = some (.sh .none, ρ3) := by
  unfold eAppend; rw [h0]; simp only [Option.bind_some]; rw [h1]; simp only [Option.bind_some]; rw [h2]; simp only [Option.bind_some]; rw [h3]; simp only [Option.bind_some]; rw [if_pos h4, h5]; rfl
theorem ePopAt_eq {xs ys : List D} {k : Int} {y : D} (h0 : ownList i ρ = some ys) (h1 : a ρ = some (r, ρ1)) (h2 : r.get ρ1 = some (.int k)) (h3 : ownList i ρ1 = some xs) (h4 : 0 ≤ k ∧ k < (xs.length : Nat) ∧ k < 2 ^ 62) (h5 : xs[k.toNat]? = some y) (h6 : updSlot i (.list (xs.eraseIdx k.toNat)) ρ1 = some ρ3) : ePopAt i a ρ = some (.sh y, ρ3) := by
  unfold ePopAt; rw [h0]; simp only [Option.bind_some]; rw [h1]; simp only [Option.bind_some]; rw [h2]; simp only [Option.bind_some, intOf]; rw [h3]; simp only [Option.bind_some]; rw [if_pos h4, h5]; simp only [Option.bind_some]; rw [h6]; rfl
theorem sPut_eq {kvs kv0 : List (D × D)} {k : M} {x : D} (h1 : a ρ = some (r, ρ1)) (h2 : share r ρ1 = some (d, ρ2)) (h0 : ownDict i ρ2 = some kv0) (h3 : k ρ2 = some (r1, ρ3)) (h4 : share r1 ρ3 = some (x, ρ4)) (h5 : ownDict i ρ4 = some kvs) (h6 : dPutOk kvs x = true) {ρ5 : Env} (h7 : updSlot i (.dict (dPut kvs x d)) ρ4 = some ρ5) : sPut i a k ρ = some (.nx ρ5) := by
  unfold sPut; rw [h1]; simp only [Option.bind_some]; rw [h2]; simp only [Option.bind_some]; rw [h0]; simp only [Option.bind_some]; rw [h3]; simp only [Option.bind_some]; rw [h4]; simp only [Option.bind_some]; rw [h5]; simp only [Option.bind_some]; rw [if_pos h6, h7]; rfl
theorem ePopKey_eq {kvs kv0 : List (D × D)} {x v : D} (h0 : ownDict i ρ = some kv0) (h1 : a ρ = some (r, ρ1)) (h2 : share r ρ1 = some (x, ρ2)) (h3 : ownDict i ρ2 = some kvs) (h4 : (isTupKey x && kvs.all (fun q => isTupKey q.1)) = true) (h5 : dFind kvs x = some v) (h6 : updSlot i (.dict (dDrop kvs x)) ρ2 = some ρ3) : ePopKey i a ρ = some (.sh v, ρ3) := by
  unfold ePopKey; rw [h0]; simp only [Option.bind_some]; rw [h1]; simp only [Option.bind_some]; rw [h2]; simp only [Option.bind_some]; rw [h3]; simp only [Option.bind_some]; rw [if_pos h4, h5]; simp only [Option.bind_some]; rw [h6]; rfl
theorem eGet_eq {kvs kv0 : List (D × D)} {k : M} {x : D} (h0 : slotDict i ρ = some kv0) (h1 : k ρ = some (r, ρ1)) (h2 : share r ρ1 = some (x, ρ2)) (h3 : a ρ2 = some (r1, ρ3)) (h4 : share r1 ρ3 = some (d, ρ4)) (h5 : slotDict i ρ4 = some kvs) (h6 : dAsk kvs x = true) : eGet i k a ρ = some (.sh ((dFind kvs x).getD d), ρ4) := by
  unfold eGet; rw [h0]; simp only [Option.bind_some]; rw [h1]; simp only [Option.bind_some]; rw [h2]; simp only [Option.bind_some]; rw [h3]; simp only [Option.bind_some]; rw [h4]; simp only [Option.bind_some]; rw [h5]; simp only [Option.bind_some]; rw [if_pos h6]
theorem eLock_eq {i : Nat} {g : M} (h0 : ρ[i]?.bind Slot.own = some d) (h1 : g ((ρ.map maskS).set i (.sh d)) = some (r, ρ1)) (h2 : lockRes r = some r1) : eLock i g ρ = some (r1, ρ) := by
  unfold eLock; rw [h0]; simp only [Option.bind_some]; rw [h1]; simp only [Option.bind_some]; rw [h2]; rfl
theorem for_find {α : Type} {g : G} (enc : α → D) (R : Option α → Env) (p : α → Bool) (ret : α → Out) : ∀ (xs : List α) (last : Option α), (∀ w ∈ xs, ∀ l, ∃ ρ1, g (enc w) (R l) = some ρ1 ∧ (p w = true → s ρ1 = some (ret w) ∧ ∃ r ρ', ret w = .rt r ρ') ∧ (p w = false → s ρ1 = some (.nx (R (some w))))) →
    (∀ w, xs.find? p = some w → forGo g s (xs.map enc) (R last) = some (ret w)) ∧ (xs.find? p = none → ∃ l, forGo g s (xs.map enc) (R last) = some (.nx (R l)))
  | [], last, _ => ⟨fun w h => by simp at h, fun _ => ⟨last, rfl⟩⟩
  | v :: xs, last, h => by
    obtain ⟨ρ1, h1, h2, h3⟩ := h v (by simp) last
    have ih := for_find enc R p ret xs (some v) fun w' hw => h w' (by simp [hw])
    cases hp : p v with
    | true =>
      obtain ⟨h4, r, ρ', h5⟩ := h2 hp
      refine ⟨fun w hw => ?_, fun hn => by simp [List.find?_cons, hp] at hn⟩
      simp only [List.find?_cons, hp] at hw
      cases hw
      simp only [List.map_cons, forGo]
      rw [h1]; simp only [Option.bind_some]; rw [h4, h5]; rfl
    | false =>
      have e : (v :: xs).find? p = xs.find? p := by simp [List.find?_cons, hp]
      rw [e]
      have e2 : forGo g s ((v :: xs).map enc) (R last) = forGo g s (xs.map enc) (R (some v)) := by
        simp only [List.map_cons, forGo]
        rw [h1]; simp only [Option.bind_some]; rw [h3 hp]; rfl
      rw [e2]
      exact ih
theorem asSh_eq {ar : As} {args : List Arg} (h1 : a ρ = some (r, ρ1)) (h2 : share r ρ1 = some (d, ρ2)) (h3 : ar ρ2 = some (args, ρ3)) : asSh a ar ρ = some (.sh d :: args, ρ3) := by
  unfold asSh; rw [h1]; simp only [Option.bind_some]; rw [h2]; simp only [Option.bind_some]; rw [h3]; rfl
theorem asBo_eq {ar : As} {args : List Arg} (h1 : ρ[i]?.bind Slot.own = some d) (h3 : ar ρ = some (args, ρ1)) : asBo i ar ρ = some (.bor i :: args, ρ1) := by
  unfold asBo; rw [h1]; simp only [Option.bind_some]; rw [h3]; rfl
theorem eCall_eq {F : Fn} {ar : As} {args : List Arg} {ss ts : List Slot} (h1 : ar ρ = some (args, ρ1)) (hn : (bors args).Nodup) (h2 : argSlots ρ1 args = some ss) (h3 : F ss = some (r, ts)) (h4 : backAll args ts ρ1 = some ρ2) : eCall F ar ρ = some (r, ρ2) := by
  unfold eCall; rw [h1]; simp only [Option.bind_some]; rw [if_pos hn, h2]; simp only [Option.bind_some]; rw [h3]; simp only [Option.bind_some]; rw [h4]; rfl
theorem fn_sh {n : Nat} {ss ts : List Slot} (h : s (ss ++ List.replicate (n - ss.length) .no) = some (.rt (.sh d) ρ)) (h2 : finSlots ss ρ = ts) : fnOfBody n s ss = some (.sh d, ts) := by unfold fnOfBody; rw [h]; simp [h2]
theorem fn_ow {n : Nat} {ss ts : List Slot} (h : s (ss ++ List.replicate (n - ss.length) .no) = some (.rt (.ow d) ρ)) (h2 : finSlots ss ρ = ts) : fnOfBody n s ss = some (.ow d, ts) := by unfold fnOfBody; rw [h]; simp [h2]
end
end Pu
namespace Pu
open PySem
def eDict1 (k v : M) : M := fun ρ => (k ρ).bind fun p => (share p.1 p.2).bind fun s => (v s.2).bind fun q => (share q.1 q.2).bind fun t => if isTupKey s.1 then some (.ow (.dict [(s.1, t.1)]), t.2) else none
def eDictU : M := eDict1 (eTup dsNil) (eC (.bool true))
end Pu
namespace Pu
open PySem
mutual
def nKey : D → Bool
  | .int _ => true
  | .str _ => true
  | .tuple xs => nKeys xs
  | .none => true
  | .bool _ => false
  | .list _ => false
  | .dict _ => false
def nKeys : List D → Bool
  | [] => true
  | x :: xs => nKey x && nKeys xs
end
def nOk (d : D) : Bool := isTupD d && nKey d && decide (d.depth ≤ 8)
def ghAt (i : Nat) (ρ : Env) : Option (List (D × D)) := match ρ[i]? with
  | some (.gh (.dict kvs)) => some kvs
  | _ => none
def isUnit : D → Bool
  | .tuple [] => true
  | _ => false
def sConvN (i : Nat) : S := fun ρ => match ρ[i]? with
  | some (.ow (.dict kvs)) => if kvs.all (fun q => isUnit q.1) && decide (kvs.length ≤ 1) then some (.nx (ρ.set i (.gh (.dict kvs)))) else none
  | _ => none
def bIff : Bool → Bool → Bool
  | true, x => x
  | false, x => !x
def eInN (b : Bool) (i : Nat) (k : M) : M := fun ρ => (k ρ).bind fun p => (share p.1 p.2).bind fun s => (ghAt i s.2).bind fun kvs => if nOk s.1 then some (.sh (.bool (bIff b (dFind kvs s.1).isSome)), s.2) else none
def eGetN (i : Nat) (k : M) : M := fun ρ => (ghAt i ρ).bind fun _ => (k ρ).bind fun p => (share p.1 p.2).bind fun s => (ghAt i s.2).bind fun kvs => if nOk s.1 then (dFind kvs s.1).map fun d => (.sh d, s.2) else none
def sPutN (i : Nat) (a k : M) : S := fun ρ => (a ρ).bind fun p => (share p.1 p.2).bind fun s => (ghAt i s.2).bind fun _ => (k s.2).bind fun q => (share q.1 q.2).bind fun t => (ghAt i t.2).bind fun kvs =>
  if nOk t.1 && decide (kvs.length < 16777216) then some (.nx (t.2.set i (.gh (.dict (dPut kvs t.1 s.1))))) else none
def eSortN (i : Nat) : M := fun ρ => (ghAt i ρ).bind fun kvs => (sortD (kvs.map (·.1))).map fun ys => (.ow (.list ys), ρ)
end Pu
namespace Pu
def lenD : D → Nat
  | .tuple xs => xs.length
  | _ => 0
end Pu
set_option maxRecDepth 100000
namespace Q
open PySem Pu
def b_lengths_of_1 : S :=
  sSeq (sPut 1 (eVar 4) (eTup (dsCons (eVar 2) (dsCons (eVar 3) (dsNil))))) (sPut 1 (eVar 4) (eTup (dsCons (eVar 3) (dsCons (eVar 2) (dsNil)))))
def b_lengths_of : S :=
  sSeq (sSet 1 (eDict)) (sSeq (sFor (iOf (eVar 0)) (gTup (gsCons (gName 2) (gsCons (gName 3) (gsCons (gName 4) (gsNil))))) (b_lengths_of_1)) (sRet (eVar 1)))
def F_lengths_of : Fn := fnOfBody 5 b_lengths_of
def b_street_between_1 : S :=
  sIf (tOf (eOp2 pEq (eSlice (eVar 4) (oNone) (oSome (eC (.int 2)))) (eTup (dsCons (ePrim pMin2 (msCons (eVar 1) (msCons (eVar 2) (msNil)))) (dsCons (ePrim pMax2 (msCons (eVar 1) (msCons (eVar 2) (msNil)))) (dsNil)))))) (sRet (eVar 3)) (sNop)
def b_street_between : S :=
  sSeq (sFor (iEnum (dsCons (eVar 0) (dsNil))) (gTup (gsCons (gName 3) (gsCons (gName 4) (gsNil)))) (b_street_between_1)) (sRet (eC .none))
def F_street_between : Fn := fnOfBody 5 b_street_between
def b_bars_direction : S :=
  sRet (eOr (eOp2 pIn (eTup (dsCons (eC (.str (Str.ofString "way"))) (dsCons (eVar 1) (dsCons (eVar 2) (dsNil))))) (eVar 0)) (eOp2 pIn (eTup (dsCons (eC (.str (Str.ofString "shut"))) (dsCons (ePrim pMin2 (msCons (eVar 1) (msCons (eVar 2) (msNil)))) (dsCons (ePrim pMax2 (msCons (eVar 1) (msCons (eVar 2) (msNil)))) (dsNil))))) (eVar 0)))
def F_bars_direction : Fn := fnOfBody 3 b_bars_direction
def b_nexts_1 : S :=
  sIf (tAnd (tOf (eOp2 pEq (eOp2 pIx (eVar 4) (eC (.int 0))) (eVar 6))) (tAnd (tOf (eOp2 pNe (eOp2 pIx (eVar 4) (eC (.int 1))) (eVar 5))) (tAnd (tOf (eOp2 pNotIn (eTup (dsCons (eC (.str (Str.ofString "turn"))) (dsCons (eVar 5) (dsCons (eVar 6) (dsCons (eOp2 pIx (eVar 4) (eC (.int 1))) (dsNil)))))) (eVar 1))) (tNot (tOf (eCall F_bars_direction (asSh (eVar 1) (asSh (eVar 6) (asSh (eOp2 pIx (eVar 4) (eC (.int 1))) (asNil)))))))))) (sExpr (eAppend 3 (eVar 4))) (sNop)
def b_nexts : S :=
  sSeq (sUnp (gTup (gsCons (gName 5) (gsCons (gName 6) (gsNil)))) (eVar 2)) (sSeq (sSet 3 (eLst (dsNil))) (sSeq (sFor (iOf (eVar 0)) (gName 4) (b_nexts_1)) (sRet (eVar 3))))
def F_nexts : Fn := fnOfBody 7 b_nexts
def c_firsts_1 : M :=
  eVar 3
def q_firsts_1 : T :=
  tAnd (tOf (eOp2 pEq (eOp2 pIx (eVar 3) (eC (.int 0))) (eVar 2))) (tNot (tOf (eCall F_bars_direction (asSh (eVar 1) (asSh (eOp2 pIx (eVar 3) (eC (.int 0))) (asSh (eOp2 pIx (eVar 3) (eC (.int 1))) (asNil)))))))
def b_firsts : S :=
  sRet (eComp [3] (iOf (eVar 0)) (gName 3) (q_firsts_1) (c_firsts_1))
def F_firsts : Fn := fnOfBody 4 b_firsts
def b_least_table_1 : S :=
  sPut 5 (eOp2 pIx (eVar 0) (eVar 3)) (eVar 3)
def c_least_table_1 : M :=
  eTup (dsCons (eOp2 pIx (eVar 5) (eVar 8)) (dsCons (eVar 8) (dsNil)))
def b_least_table_2 : S :=
  sIf (tOf (eOp2 pNotIn (eVar 6) (eVar 4))) (sPut 5 (ePrim pMin2 (msCons (eGet 5 (eVar 6) (eOp2 pAdd (eVar 7) (eOp2 pIx (eVar 0) (eVar 6)))) (msCons (eOp2 pAdd (eVar 7) (eOp2 pIx (eVar 0) (eVar 6))) (msNil)))) (eVar 6)) (sNop)
def b_least_table_3 : S :=
  sSeq (sUnp (gTup (gsCons (gName 7) (gsCons (gName 3) (gsNil)))) (ePrim pMinL (msCons (eLock 5 (eComp [8] (iOf (eVar 5)) (gName 8) (tYes) (c_least_table_1))) (msNil)))) (sSeq (sExpr (ePopKey 5 (eVar 3))) (sSeq (sPut 4 (eVar 7) (eVar 3)) (sFor (iOf (eCall F_nexts (asSh (eVar 0) (asSh (eVar 1) (asSh (eVar 3) (asNil)))))) (gName 6) (b_least_table_2))))
def t_least_table_1 : T :=
  tOf (eOp2 pNe (eVar 5) (eDict))
def b_least_table : S :=
  sSeq (sPar [4, 5] (hsCons (eDict) (hsCons (eDict) (hsNil)))) (sSeq (sFor (iOf (eCall F_firsts (asSh (eVar 0) (asSh (eVar 1) (asSh (eVar 2) (asNil)))))) (gName 3) (b_least_table_1)) (sSeq (whileGo (t_least_table_1) (b_least_table_3) 1000) (sRet (eVar 4))))
def F_least_table : Fn := fnOfBody 9 b_least_table
def c_least_to_1 : M :=
  eOp2 pIx (eVar 0) (eVar 3)
def q_least_to_1 : T :=
  tOf (eOp2 pEq (eOp2 pIx (eVar 3) (eC (.int 1))) (eVar 1))
def b_least_to : S :=
  sSeq (sSet 2 (eComp [3] (iOf (eVar 0)) (gName 3) (q_least_to_1) (c_least_to_1))) (sRet (eIf (tOf (eOp2 pNe (eVar 2) (eLst (dsNil)))) (ePrim pMinL (msCons (eVar 2) (msNil))) (eC .none)))
def F_least_to : Fn := fnOfBody 4 b_least_to
def b_is_integer : S :=
  sRet (eAnd (eOp1 (pIsi "int") (eVar 0)) (eAnd (eNot (eOp1 (pIsi "bool") (eVar 0))) (eChain pLe pLe (eVar 1) (eVar 0) (eVar 2))))
def F_is_integer : Fn := fnOfBody 3 b_is_integer
def c_rises_1 : M :=
  eOp2 pLt (eVar 1) (eVar 2)
def b_rises : S :=
  sRet (ePrim pAll (msCons (eComp [1, 2] (iZip (dsCons (eVar 0) (dsCons (eSlice (eVar 0) (oSome (eC (.int 1))) (oNone)) (dsNil)))) (gTup (gsCons (gName 1) (gsCons (gName 2) (gsNil)))) (tYes) (c_rises_1)) (msNil)))
def F_rises : Fn := fnOfBody 3 b_rises
def c_are_numbers_1 : M :=
  eCall F_is_integer (asSh (eVar 3) (asSh (eVar 1) (asSh (eVar 2) (asNil))))
def b_are_numbers : S :=
  sSeq (sIf (tOr (tNot (tOf (eOp1 (pIsi "tuple") (eVar 0)))) (tNot (tOf (ePrim pAll (msCons (eComp [3] (iOf (eVar 0)) (gName 3) (tYes) (c_are_numbers_1)) (msNil)))))) (sRet (eC (.bool false))) (sNop)) (sRet (eCall F_rises (asSh (eVar 0) (asNil))))
def F_are_numbers : Fn := fnOfBody 4 b_are_numbers
def b_is_street : S :=
  sSeq (sIf (tOr (tNot (tOf (eOp1 (pIsi "tuple") (eVar 1)))) (tOr (tOf (eOp2 pNe (ePrim pLen (msCons (eVar 1) (msNil))) (eC (.int 3)))) (tNot (tOf (eCall F_is_integer (asSh (eOp2 pIx (eVar 1) (eC (.int 0))) (asSh (eC (.int 0)) (asSh (eOp2 pSub (eVar 0) (eC (.int 1))) (asNil))))))))) (sRet (eC (.bool false))) (sNop)) (sRet (eAnd (eCall F_is_integer (asSh (eOp2 pIx (eVar 1) (eC (.int 1))) (asSh (eOp2 pAdd (eOp2 pIx (eVar 1) (eC (.int 0))) (eC (.int 1))) (asSh (eOp2 pSub (eVar 0) (eC (.int 1))) (asNil))))) (eCall F_is_integer (asSh (eOp2 pIx (eVar 1) (eC (.int 2))) (asSh (eC (.int 1)) (asSh (eC (.int 99)) (asNil)))))))
def F_is_street : Fn := fnOfBody 2 b_is_street
def c_are_streets_1 : M :=
  eCall F_is_street (asSh (eVar 0) (asSh (eVar 2) (asNil)))
def c_are_streets_2 : M :=
  eSlice (eVar 2) (oNone) (oSome (eC (.int 2)))
def b_are_streets : S :=
  sSeq (sIf (tOr (tNot (tOf (eOp1 (pIsi "tuple") (eVar 1)))) (tOr (tNot (tOf (eChain pLe pLe (eC (.int 1)) (ePrim pLen (msCons (eVar 1) (msNil))) (eC (.int 14))))) (tNot (tOf (ePrim pAll (msCons (eComp [2] (iOf (eVar 1)) (gName 2) (tYes) (c_are_streets_1)) (msNil))))))) (sRet (eC (.bool false))) (sNop)) (sRet (eCall F_rises (asSh (eComp [2] (iOf (eVar 1)) (gName 2) (tYes) (c_are_streets_2)) (asNil))))
def F_are_streets : Fn := fnOfBody 3 b_are_streets
def c_sign_stands_1 : M :=
  eCall F_is_integer (asSh (eVar 3) (asSh (eC (.int 0)) (asSh (eOp2 pSub (eVar 0) (eC (.int 1))) (asNil))))
def c_sign_stands_2 : M :=
  eOp2 pIsNot (eCall F_street_between (asSh (eVar 1) (asSh (eVar 4) (asSh (eVar 5) (asNil))))) (eC .none)
def b_sign_stands : S :=
  sSeq (sIf (tOr (tNot (tOf (eOp1 (pIsi "tuple") (eVar 2)))) (tOr (tNot (tOf (eChain pLe pLe (eC (.int 3)) (ePrim pLen (msCons (eVar 2) (msNil))) (eC (.int 4))))) (tNot (tOf (eOp1 (pIsi "str") (eOp2 pIx (eVar 2) (eC (.int 0)))))))) (sRet (eC (.bool false))) (sNop)) (sSeq (sIf (tOr (tOf (eOp2 pNotIn (eOp2 pIx (eVar 2) (eC (.int 0))) (eTup (dsCons (eC (.str (Str.ofString "way"))) (dsCons (eC (.str (Str.ofString "shut"))) (dsCons (eC (.str (Str.ofString "turn"))) (dsNil))))))) (tOf (eOp2 pNe (eOp2 pEq (eOp2 pIx (eVar 2) (eC (.int 0))) (eC (.str (Str.ofString "turn")))) (eOp2 pEq (ePrim pLen (msCons (eVar 2) (msNil))) (eC (.int 4)))))) (sRet (eC (.bool false))) (sNop)) (sSeq (sIf (tNot (tOf (ePrim pAll (msCons (eComp [3] (iOf (eSlice (eVar 2) (oSome (eC (.int 1))) (oNone))) (gName 3) (tYes) (c_sign_stands_1)) (msNil))))) (sRet (eC (.bool false))) (sNop)) (sSeq (sIf (tNot (tOf (ePrim pAll (msCons (eComp [4, 5] (iZip (dsCons (eSlice (eVar 2) (oSome (eC (.int 1))) (oNone)) (dsCons (eSlice (eVar 2) (oSome (eC (.int 2))) (oNone)) (dsNil)))) (gTup (gsCons (gName 4) (gsCons (gName 5) (gsNil)))) (tYes) (c_sign_stands_2)) (msNil))))) (sRet (eC (.bool false))) (sNop)) (sRet (eIf (tOf (eOp2 pEq (eOp2 pIx (eVar 2) (eC (.int 0))) (eC (.str (Str.ofString "shut"))))) (eOp2 pLt (eOp2 pIx (eVar 2) (eC (.int 1))) (eOp2 pIx (eVar 2) (eC (.int 2)))) (eOp2 pNe (eOp2 pIx (eVar 2) (eC (.int 1))) (eOp2 pIx (eVar 2) (eOp1 pNeg (eC (.int 1))))))))))
def F_sign_stands : Fn := fnOfBody 6 b_sign_stands
def c_signs_stand_1 : M :=
  eCall F_sign_stands (asSh (eVar 0) (asSh (eVar 1) (asSh (eVar 4) (asNil))))
def b_signs_stand : S :=
  sSeq (sIf (tOr (tNot (tOf (eOp1 (pIsi "tuple") (eVar 2)))) (tOf (eOp2 pGt (ePrim pLen (msCons (eVar 2) (msNil))) (eVar 3)))) (sRet (eC (.bool false))) (sNop)) (sRet (eAnd (ePrim pAll (msCons (eComp [4] (iOf (eVar 2)) (gName 4) (tYes) (c_signs_stand_1)) (msNil))) (eCall F_rises (asSh (eVar 2) (asNil)))))
def F_signs_stand : Fn := fnOfBody 5 b_signs_stand
def b_joins_all_1 : S :=
  sPut 5 (eCall F_least_table (asSh (eVar 4) (asSh (eVar 1) (asSh (eVar 6) (asNil))))) (eVar 6)
def c_joins_all_1 : M :=
  eOr (eOp2 pEq (eVar 9) (eVar 7)) (eOp2 pIsNot (eCall F_least_to (asSh (eOp2 pIx (eVar 5) (eVar 7)) (asSh (eVar 9) (asNil)))) (eC .none))
def b_joins_all_2 : S :=
  sIf (tNot (tOf (ePrim pAll (msCons (eComp [9] (iOf (eVar 2)) (gName 9) (tYes) (c_joins_all_1)) (msNil))))) (sRet (eC (.bool false))) (sNop)
def c_joins_all_2 : M :=
  eOp2 pIs (eCall F_least_to (asSh (eOp2 pIx (eVar 5) (eVar 7)) (asSh (eVar 8) (asNil)))) (eC .none)
def c_joins_all_3 : M :=
  eOp2 pIs (eCall F_least_to (asSh (eOp2 pIx (eVar 5) (eVar 8)) (asSh (eVar 7) (asNil)))) (eC .none)
def b_joins_all_3 : S :=
  sSeq (sIf (tOf (ePrim pAll (msCons (eComp [7] (iOf (eVar 2)) (gName 7) (tYes) (c_joins_all_2)) (msNil)))) (sRet (eC (.bool false))) (sNop)) (sIf (tOf (ePrim pAll (msCons (eComp [7] (iOf (eVar 2)) (gName 7) (tYes) (c_joins_all_3)) (msNil)))) (sRet (eC (.bool false))) (sNop))
def b_joins_all : S :=
  sSeq (sSet 4 (eCall F_lengths_of (asSh (eVar 0) (asNil)))) (sSeq (sSet 5 (eDict)) (sSeq (sFor (iOf (eOp2 pAdd (eVar 2) (eVar 3))) (gName 6) (b_joins_all_1)) (sSeq (sFor (iOf (eVar 2)) (gName 7) (b_joins_all_2)) (sSeq (sFor (iOf (eVar 3)) (gName 8) (b_joins_all_3)) (sRet (eC (.bool true)))))))
def F_joins_all : Fn := fnOfBody 10 b_joins_all
def c_stands_1 : M :=
  eOp2 pIn (eVar 7) (eVar 4)
def b_stands : S :=
  sSeq (sIf (tOr (tNot (tOf (eOp1 (pIsi "tuple") (eVar 0)))) (tOr (tOf (eOp2 pNe (ePrim pLen (msCons (eVar 0) (msNil))) (eC (.int 6)))) (tNot (tOf (eCall F_is_integer (asSh (eOp2 pIx (eVar 0) (eC (.int 0))) (asSh (eC (.int 2)) (asSh (eC (.int 9)) (asNil))))))))) (sRet (eC (.bool false))) (sNop)) (sSeq (sUnp (gTup (gsCons (gName 1) (gsCons (gName 2) (gsCons (gName 3) (gsCons (gName 4) (gsCons (gName 5) (gsCons (gName 6) (gsNil)))))))) (eVar 0)) (sSeq (sIf (tOr (tNot (tOf (eCall F_are_streets (asSh (eVar 1) (asSh (eVar 2) (asNil)))))) (tNot (tOf (eCall F_signs_stand (asSh (eVar 1) (asSh (eVar 2) (asSh (eVar 3) (asSh (eC (.int 6)) (asNil))))))))) (sRet (eC (.bool false))) (sNop)) (sSeq (sIf (tOr (tNot (tOf (eCall F_are_numbers (asSh (eVar 4) (asSh (eC (.int 0)) (asSh (eOp2 pSub (eVar 1) (eC (.int 1))) (asNil))))))) (tNot (tOf (eChain pLe pLe (eC (.int 2)) (ePrim pLen (msCons (eVar 4) (msNil))) (eC (.int 4)))))) (sRet (eC (.bool false))) (sNop)) (sSeq (sIf (tOr (tNot (tOf (eCall F_are_numbers (asSh (eVar 5) (asSh (eC (.int 0)) (asSh (eOp2 pSub (eVar 1) (eC (.int 1))) (asNil))))))) (tOr (tOf (eOp2 pGt (ePrim pLen (msCons (eVar 5) (msNil))) (eC (.int 3)))) (tOf (ePrim pAny (msCons (eComp [7] (iOf (eVar 5)) (gName 7) (tYes) (c_stands_1)) (msNil)))))) (sRet (eC (.bool false))) (sNop)) (sRet (eAnd (eCall F_are_numbers (asSh (eVar 6) (asSh (eC (.int 0)) (asSh (eOp2 pSub (ePrim pLen (msCons (eVar 2) (msNil))) (eC (.int 1))) (asNil))))) (eCall F_joins_all (asSh (eVar 2) (asSh (eVar 3) (asSh (eVar 4) (asSh (eVar 5) (asNil))))))))))))
def F_stands : Fn := fnOfBody 8 b_stands
def b_is_town : S :=
  sRet (eCall F_stands (asSh (eVar 0) (asNil)))
def F_is_town : Fn := fnOfBody 1 b_is_town
def b__law_cell_at_1 : S :=
  sSet 2 (eOp2 pDiv (eVar 2) (eC (.int 1000003)))
def b__law_cell_at : S :=
  sSeq (sIf (tOf (eOp2 pLt (eVar 1) (ePrim pLen (msCons (eVar 0) (msNil))))) (sRet (eOp2 pIx (eVar 0) (eVar 1))) (sNop)) (sSeq (sIf (tOf (eOp2 pEq (eVar 0) (eLst (dsNil)))) (sRet (eC (.int 0))) (sNop)) (sSeq (sSet 2 (eOp2 pIx (eVar 0) (eOp2 pMod (eVar 1) (ePrim pLen (msCons (eVar 0) (msNil)))))) (sSeq (sFor (iRange range1 (msCons (ePrim pMin2 (msCons (eOp2 pDiv (eVar 1) (ePrim pLen (msCons (eVar 0) (msNil)))) (msCons (eC (.int 60)) (msNil)))) (msNil))) (gName 3) (b__law_cell_at_1)) (sRet (eOp2 pAdd (eOp2 pAdd (eOp2 pMul (eOp2 pIx (eVar 0) (eOp2 pMod (eVar 1) (ePrim pLen (msCons (eVar 0) (msNil))))) (eC (.int 31))) (eVar 1)) (eOp2 pMul (eVar 2) (eC (.int 101))))))))
def F__law_cell_at : Fn := fnOfBody 4 b__law_cell_at
def b__law_mixed : S :=
  sSeq (sSet 3 (eOp2 pMod (eOp2 pAdd (eOp2 pAdd (eOp2 pMul (eCall F__law_cell_at (asSh (eVar 0) (asSh (eVar 1) (asNil)))) (eC (.int 1103515245))) (eOp2 pMul (eC (.int 7919)) (eVar 1))) (eC (.int 12345))) (eC (.int 2147483647)))) (sRet (eOp2 pMod (eOp2 pMod (eOp2 pMod (eOp2 pPow (eVar 3) (eC (.int 5))) (eC (.int 2147483647))) (eC (.int 999983))) (eVar 2)))
def F__law_mixed : Fn := fnOfBody 4 b__law_mixed
def b__law_draw : S :=
  sSeq (sExpr (eAppend 1 (eC (.int 0)))) (sRet (eCall F__law_mixed (asSh (eVar 0) (asSh (ePrim pLen (msCons (eVar 1) (msNil))) (asSh (eVar 2) (asNil))))))
def F__law_draw : Fn := fnOfBody 3 b__law_draw
def b__law_pick : S :=
  sRet (eOp2 pIx (eVar 2) (eCall F__law_draw (asSh (eVar 0) (asBo 1 (asSh (ePrim pLen (msCons (eVar 2) (msNil))) (asNil))))))
def F__law_pick : Fn := fnOfBody 3 b__law_pick
def b__law_some_of_1 : S :=
  sExpr (eAppend 5 (ePopAt 4 (eCall F__law_draw (asSh (eVar 0) (asBo 1 (asSh (ePrim pLen (msCons (eVar 4) (msNil))) (asNil)))))))
def t__law_some_of_1 : T :=
  tAnd (tOf (eOp2 pNe (eVar 4) (eLst (dsNil)))) (tOf (eOp2 pLt (ePrim pLen (msCons (eVar 5) (msNil))) (eVar 3)))
def b__law_some_of : S :=
  sSeq (sPar [4, 5] (hsCons (ePrim pList (msCons (eVar 2) (msNil))) (hsCons (eLst (dsNil)) (hsNil)))) (sSeq (whileGo (t__law_some_of_1) (b__law_some_of_1) 1000) (sRet (ePrim pTuple (msCons (ePrim pSorted (msCons (eVar 5) (msNil))) (msNil)))))
def F__law_some_of : Fn := fnOfBody 6 b__law_some_of
def b__law_all_signs_1 : S :=
  sExpr (eExtend 1 (eLst (dsCons (eTup (dsCons (eVar 3) (dsCons (eVar 4) (dsNil)))) (dsCons (eTup (dsCons (eVar 4) (dsCons (eVar 3) (dsNil)))) (dsNil)))))
def c__law_all_signs_1 : M :=
  eTup (dsCons (eC (.str (Str.ofString "shut"))) (dsCons (eVar 3) (dsCons (eVar 4) (dsNil))))
def c__law_all_signs_2 : M :=
  eTup (dsCons (eC (.str (Str.ofString "way"))) (dsCons (eVar 3) (dsCons (eVar 4) (dsNil))))
def c__law_all_signs_3 : M :=
  eTup (dsCons (eC (.str (Str.ofString "turn"))) (dsCons (eVar 3) (dsCons (eVar 4) (dsCons (eVar 7) (dsNil)))))
def q__law_all_signs_1 : T :=
  tAnd (tOf (eOp2 pEq (eVar 6) (eVar 4))) (tOf (eOp2 pNe (eVar 7) (eVar 3)))
def b__law_all_signs_2 : S :=
  sExpr (eExtend 2 (eComp [6, 7] (iOf (eVar 1)) (gTup (gsCons (gName 6) (gsCons (gName 7) (gsNil)))) (q__law_all_signs_1) (c__law_all_signs_3)))
def b__law_all_signs : S :=
  sSeq (sSet 1 (eLst (dsNil))) (sSeq (sFor (iOf (eOp2 pIx (eVar 0) (eC (.int 1)))) (gTup (gsCons (gName 3) (gsCons (gName 4) (gsCons (gName 5) (gsNil))))) (b__law_all_signs_1)) (sSeq (sSet 2 (eOp2 pAdd (eComp [3, 4, 5] (iOf (eOp2 pIx (eVar 0) (eC (.int 1)))) (gTup (gsCons (gName 3) (gsCons (gName 4) (gsCons (gName 5) (gsNil))))) (tYes) (c__law_all_signs_1)) (eComp [3, 4] (iOf (eVar 1)) (gTup (gsCons (gName 3) (gsCons (gName 4) (gsNil)))) (tYes) (c__law_all_signs_2)))) (sSeq (sFor (iOf (eVar 1)) (gTup (gsCons (gName 3) (gsCons (gName 4) (gsNil)))) (b__law_all_signs_2)) (sRet (ePrim pSorted (msCons (eVar 2) (msNil)))))))
def F__law_all_signs : Fn := fnOfBody 8 b__law_all_signs
def b__law_some_town_1 : S :=
  sPut 11 (eOp2 pAdd (eC (.int 1)) (eCall F__law_draw (asSh (eVar 0) (asBo 1 (asSh (eC (.int 4)) (asNil)))))) (eTup (dsCons (eCall F__law_draw (asSh (eVar 0) (asBo 1 (asSh (eVar 2) (asNil))))) (dsCons (eVar 2) (dsNil))))
def b__law_some_town_2 : S :=
  sSeq (sPar [14, 2] (hsCons (eCall F__law_draw (asSh (eVar 0) (asBo 1 (asSh (eVar 10) (asNil))))) (hsCons (eCall F__law_draw (asSh (eVar 0) (asBo 1 (asSh (eVar 10) (asNil))))) (hsNil)))) (sIf (tOf (eOp2 pLt (eVar 14) (eVar 2))) (sPut 11 (eOp2 pAdd (eC (.int 1)) (eCall F__law_draw (asSh (eVar 0) (asBo 1 (asSh (eC (.int 4)) (asNil)))))) (eTup (dsCons (eVar 14) (dsCons (eVar 2) (dsNil))))) (sNop))
def b__law_bad_streets : S :=
  sSeq (sSet 3 (eLst (dsCons (eTup (dsCons (eTup (dsCons (eVar 1) (dsCons (eVar 2) (dsCons (eC (.int 100)) (dsNil))))) (dsNil))) (dsCons (eTup (dsCons (eTup (dsCons (eVar 1) (dsCons (eVar 2) (dsCons (eC (.int 0)) (dsNil))))) (dsNil))) (dsCons (eTup (dsCons (eTup (dsCons (eVar 2) (dsCons (eVar 1) (dsCons (eC (.int 1)) (dsNil))))) (dsNil))) (dsCons (eTup (dsCons (eTup (dsCons (eVar 1) (dsCons (eVar 1) (dsCons (eC (.int 1)) (dsNil))))) (dsNil))) (dsCons (eTup (dsCons (eTup (dsCons (eVar 1) (dsCons (eVar 2) (dsCons (eC (.bool true)) (dsNil))))) (dsNil))) (dsCons (eTup (dsCons (eTup (dsCons (eVar 1) (dsCons (eVar 0) (dsCons (eC (.int 1)) (dsNil))))) (dsNil))) (dsCons (eTup (dsCons (eTup (dsCons (eVar 1) (dsCons (eVar 2) (dsNil)))) (dsNil))) (dsNil)))))))))) (sRet (eOp2 pAdd (eVar 3) (eLst (dsCons (eOp2 pMul (eTup (dsCons (eTup (dsCons (eVar 1) (dsCons (eVar 2) (dsCons (eC (.int 1)) (dsNil))))) (dsNil))) (eC (.int 2))) (dsNil)))))
def F__law_bad_streets : Fn := fnOfBody 4 b__law_bad_streets
def b__law_bad_signs : S :=
  sSeq (sSet 3 (eLst (dsCons (eTup (dsCons (eTup (dsCons (eC (.str (Str.ofString "shut"))) (dsCons (eVar 2) (dsCons (eVar 1) (dsNil))))) (dsNil))) (dsCons (eTup (dsCons (eTup (dsCons (eC (.str (Str.ofString "way"))) (dsCons (eVar 1) (dsCons (eVar 1) (dsNil))))) (dsNil))) (dsCons (eTup (dsCons (eTup (dsCons (eC (.str (Str.ofString "turn"))) (dsCons (eVar 1) (dsCons (eVar 2) (dsCons (eVar 1) (dsNil)))))) (dsNil))) (dsCons (eTup (dsCons (eTup (dsCons (eC (.str (Str.ofString "way"))) (dsCons (eVar 1) (dsCons (eVar 0) (dsNil))))) (dsNil))) (dsCons (eTup (dsCons (eTup (dsCons (eC (.str (Str.ofString "way"))) (dsCons (eC (.bool true)) (dsCons (eVar 2) (dsNil))))) (dsNil))) (dsNil)))))))) (sSeq (sExpr (eAppend 3 (eTup (dsCons (eTup (dsCons (eC (.str (Str.ofString "way"))) (dsCons (eVar 1) (dsNil)))) (dsNil))))) (sSeq (sExpr (eExtend 3 (eLst (dsCons (eTup (dsCons (eTup (dsCons (eC (.str (Str.ofString "stop"))) (dsCons (eVar 1) (dsCons (eVar 2) (dsNil))))) (dsNil))) (dsCons (eTup (dsCons (eTup (dsCons (eC (.str (Str.ofString "way"))) (dsCons (eVar 1) (dsCons (eVar 2) (dsCons (eC (.int 0)) (dsNil)))))) (dsNil))) (dsCons (eTup (dsCons (eC (.str (Str.ofString "way"))) (dsCons (eVar 1) (dsCons (eVar 2) (dsNil))))) (dsCons (eLst (dsCons (eTup (dsCons (eC (.str (Str.ofString "way"))) (dsCons (eVar 1) (dsCons (eVar 2) (dsNil))))) (dsNil))) (dsCons (eTup (dsCons (eTup (dsCons (eC (.str (Str.ofString "turn"))) (dsCons (eVar 1) (dsCons (eVar 2) (dsNil))))) (dsNil))) (dsCons (eTup (dsCons (eC .none) (dsNil))) (dsNil)))))))))) (sRet (eOp2 pAdd (eVar 3) (eLst (dsCons (eTup (dsCons (eTup (dsCons (eC (.str (Str.ofString "way"))) (dsCons (eVar 1) (dsCons (eVar 2) (dsNil))))) (dsCons (eTup (dsCons (eC (.str (Str.ofString "way"))) (dsCons (eVar 1) (dsCons (eVar 2) (dsNil))))) (dsNil)))) (dsCons (eTup (dsCons (eTup (dsCons (eC (.str (Str.ofString "way"))) (dsCons (eVar 2) (dsCons (eVar 1) (dsNil))))) (dsCons (eTup (dsCons (eC (.str (Str.ofString "shut"))) (dsCons (eVar 1) (dsCons (eVar 2) (dsNil))))) (dsNil)))) (dsCons (eTup (dsCons (eTup (dsCons (eC (.str (Str.ofString "way"))) (dsCons (eVar 1) (dsCons (ePrim pStr (msCons (eVar 2) (msNil))) (dsNil))))) (dsNil))) (dsNil)))))))))
def F__law_bad_signs : Fn := fnOfBody 4 b__law_bad_signs
end Q
namespace Pu
open PySem
abbrev SR := Env → Option Nat
abbrev RFn := List Slot → Option Nat
def isOwn : Slot → Bool
  | .ow _ => true
  | .bo _ => true
  | .gh _ => true
  | _ => false
end Pu
namespace Pu
open PySem
end Pu
namespace Pu
open PySem
end Pu
namespace Pu
open PySem
end Pu
namespace Pu
open PySem
end Pu
namespace Pu
open PySem
def isRefD : D → Bool
  | .tuple _ => true
  | .list _ => true
  | .dict _ => true
  | _ => false
def txSlot (ds : List D) : Slot := if (!ds.isEmpty && ds.all isRefD) = true then .xt (.tx .ex (.tuple ds)) else .sh (.tuple ds)
def stxB (i : Nat) (ρ : Env) : D → Option Out
  | .list ds => (setSlot i (txSlot ds) ρ).map .nx
  | _ => none
def stxA (i : Nat) : Res × Env → Option Out := fun p => (p.1.get p.2).bind (stxB i p.2)
def sSetX (i : Nat) (g : M) : S := fun ρ => (g ρ).bind (stxA i)
def txL : Option Slot → Option (List D)
  | some (.xt (.tx .ex (.tuple xs))) => some xs
  | _ => none
def txAt (i : Nat) (ρ : Env) : Option (List D) := txL ρ[i]?
def ixxB (i : Nat) : D × Env → Option (Res × Env) := fun s => (txAt i s.2).bind (idxC s.1 s.2)
def ixxA (i : Nat) : Res × Env → Option (Res × Env) := fun p => (share p.1 p.2).bind (ixxB i)
def eIndexX (i : Nat) (g : M) : M := fun ρ => (txAt i ρ).bind fun _ => (g ρ).bind (ixxA i)
end Pu
namespace Pu
open PySem
def shRes (ρ : Env) : Res → Option D
  | .sh d => some d
  | .tx _ d => some d
  | .ow _ => none
  | .var i => match ρ[i]? with
    | some (.sh d) => some d
    | some (.xt (.tx _ d)) => some d
    | _ => none
def shAll (ρ : Env) : List Res → Option (List D)
  | [] => some []
  | r :: rs => (shRes ρ r).bind fun d => (shAll ρ rs).bind fun ds => some (d :: ds)
def isVarR (i : Nat) : Option Res → Bool
  | some (.var j) => decide (j = i)
  | _ => false
def etxA (j i : Nat) : List Res × Env → Option (Res × Env) := fun p => if (isVarR i p.1[j]? && (txAt i p.2).isSome && decide (p.1.length ≤ 1000)) = true then (shAll p.2 p.1).map fun ds => (.tx (.it j) (.tuple ds), p.2) else none
def eTupX (j i : Nat) (as : Ms) : M := fun ρ => (as ρ).bind (etxA j i)
def cpXB (i : Nat) (ρ : Env) : Option Slot → Option Out
  | some (.xt (.tx p d)) => (setSlot i (.xt (.tx p d)) ρ).map .nx
  | _ => none
def sCopyX (i j : Nat) : S := fun ρ => cpXB i ρ ρ[j]?
def unpXS (j : Nat) : List D → List Slot
  | [] => []
  | d :: ds => (match j with
    | 0 => .xt (.tx .ex d)
    | _ + 1 => .sh d) :: (match j with
    | 0 => ds.map .sh
    | j + 1 => unpXS j ds)
def unpXB (is : List Nat) (j : Nat) (ρ : Env) : Option Slot → Option Out
  | some (.xt (.tx (.it k) (.tuple ds))) => if (decide (k = j) && decide (ds.length = is.length)) = true then (setAll is (unpXS j ds) ρ).map .nx else none
  | _ => none
def sUnpX (is : List Nat) (j i : Nat) : S := fun ρ => unpXB is j ρ ρ[i]?
end Pu
set_option maxRecDepth 100000
namespace Q
open PySem Pu
def b__law_some_townX_1 : S :=
  sPut 11 (eOp2 pAdd (eC (.int 1)) (eCall F__law_draw (asSh (eVar 0) (asBo 1 (asSh (eC (.int 4)) (asNil)))))) (eTup (dsCons (eCall F__law_draw (asSh (eVar 0) (asBo 1 (asSh (eVar 2) (asNil))))) (dsCons (eVar 2) (dsNil))))
def b__law_some_townX_2 : S :=
  sSeq (sPar [14, 2] (hsCons (eCall F__law_draw (asSh (eVar 0) (asBo 1 (asSh (eVar 10) (asNil))))) (hsCons (eCall F__law_draw (asSh (eVar 0) (asBo 1 (asSh (eVar 10) (asNil))))) (hsNil)))) (sIf (tOf (eOp2 pLt (eVar 14) (eVar 2))) (sPut 11 (eOp2 pAdd (eC (.int 1)) (eCall F__law_draw (asSh (eVar 0) (asBo 1 (asSh (eC (.int 4)) (asNil)))))) (eTup (dsCons (eVar 14) (dsCons (eVar 2) (dsNil))))) (sNop))
def c__law_some_townX_1 : M :=
  eOp2 pAdd (eVar 16) (eTup (dsCons (eOp2 pIx (eVar 11) (eVar 16)) (dsNil)))
def c__law_some_townX_2 : M :=
  eVar 15
def q__law_some_townX_1 : T :=
  tOf (eOp2 pNotIn (eVar 15) (eVar 5))
def b__law_some_townX_3 : S :=
  sSeq (sSet 12 (eCall F__law_some_of (asSh (eVar 0) (asBo 1 (asSh (eCall F__law_all_signs (asSh (eVar 9) (asNil))) (asSh (eCall F__law_draw (asSh (eVar 0) (asBo 1 (asSh (eC (.int 3)) (asNil))))) (asNil))))))) (sSeq (sSet 13 (eTupX 1 4 (msCons (eVar 10) (msCons (eVar 4) (msCons (eVar 12) (msCons (eVar 5) (msCons (eVar 7) (msCons (eVar 8) (msNil))))))))) (sIf (tOf (eCall F_is_town (asSh (eVar 13) (asNil)))) (sCopyX 9 13) (sNop)))
def b__law_some_townX : S :=
  sSeq (sPar [10, 11] (hsCons (eOp2 pAdd (eC (.int 2)) (eCall F__law_draw (asSh (eVar 0) (asBo 1 (asSh (eC (.int 5)) (asNil)))))) (hsCons (eDict) (hsNil)))) (sSeq (sFor (iRange range2 (msCons (eC (.int 1)) (msCons (eVar 10) (msNil)))) (gName 2) (b__law_some_townX_1)) (sSeq (sFor (iRange range1 (msCons (eCall F__law_draw (asSh (eVar 0) (asBo 1 (asSh (eC (.int 5)) (asNil))))) (msNil))) (gName 3) (b__law_some_townX_2)) (sSeq (sSetX 4 (eComp [16] (iOf (ePrim pSorted (msCons (eVar 11) (msNil)))) (gName 16) (tYes) (c__law_some_townX_1))) (sSeq (sSet 5 (eCall F__law_some_of (asSh (eVar 0) (asBo 1 (asSh (eListRg (iRange range1 (msCons (eVar 10) msNil))) (asSh (eOp2 pAdd (eC (.int 2)) (eCall F__law_draw (asSh (eVar 0) (asBo 1 (asSh (eC (.int 2)) (asNil)))))) (asNil))))))) (sSeq (sSet 6 (eComp [15] (iRange range1 (msCons (eVar 10) (msNil))) (gName 15) (q__law_some_townX_1) (c__law_some_townX_2))) (sSeq (sSet 7 (eCall F__law_some_of (asSh (eVar 0) (asBo 1 (asSh (eVar 6) (asSh (eCall F__law_draw (asSh (eVar 0) (asBo 1 (asSh (eC (.int 3)) (asNil))))) (asNil))))))) (sSeq (sSet 8 (eCall F__law_some_of (asSh (eVar 0) (asBo 1 (asSh (eListRg (iRange range1 (msCons (ePrim pLen (msCons (eVar 4) (msNil))) msNil))) (asSh (eCall F__law_draw (asSh (eVar 0) (asBo 1 (asSh (eC (.int 3)) (asNil))))) (asNil))))))) (sSeq (sSet 9 (eTupX 1 4 (msCons (eVar 10) (msCons (eVar 4) (msCons (eTup (dsNil)) (msCons (eVar 5) (msCons (eVar 7) (msCons (eVar 8) (msNil))))))))) (sSeq (sFor (iRange range1 (msCons (eC (.int 2)) (msNil))) (gName 3) (b__law_some_townX_3)) (sRet (eVar 9)))))))))))
def F__law_some_townX : Fn := fnOfBody 17 b__law_some_townX
def c_law_1 : M :=
  eVar 17
def q_law_1 : T :=
  tOf (eOp2 pNotIn (eVar 17) (eOp2 pAdd (eVar 11) (eVar 12)))
def c_law_2 : M :=
  eOp2 pAdd (eTup (dsCons (eVar 6) (dsNil))) (eSlice (eVar 2) (oSome (eC (.int 1))) (oNone))
def b_law_1 : S :=
  sExpr (eAppend 5 (eTup (dsCons (eVar 8) (dsCons (eOp2 pAdd (eOp2 pAdd (eSlice (eVar 9) (oNone) (oSome (eVar 3))) (eVar 6)) (eSlice (eVar 9) (oSome (eVar 3)) (oNone))) (dsCons (eVar 10) (dsCons (eVar 11) (dsCons (eVar 12) (dsCons (eVar 13) (dsNil)))))))))
def c_law_3 : M :=
  eTup (dsCons (eVar 8) (dsCons (eVar 9) (dsCons (eVar 6) (dsCons (eVar 11) (dsCons (eVar 12) (dsCons (eVar 13) (dsNil)))))))
def c_law_4 : M :=
  eTup (dsCons (eVar 8) (dsCons (eVar 9) (dsCons (eVar 10) (dsCons (eVar 6) (dsCons (eVar 12) (dsCons (eVar 13) (dsNil)))))))
def c_law_5 : M :=
  eTup (dsCons (eVar 8) (dsCons (eVar 9) (dsCons (eVar 10) (dsCons (eVar 11) (dsCons (eVar 6) (dsCons (eVar 13) (dsNil)))))))
def c_law_6 : M :=
  eTup (dsCons (eVar 8) (dsCons (eVar 9) (dsCons (eVar 10) (dsCons (eVar 11) (dsCons (eVar 12) (dsCons (eVar 6) (dsNil)))))))
def c_law_7 : M :=
  eOp2 pIs (eCall F_is_town (asSh (eVar 6) (asNil))) (eC (.bool false))
def l_0 : S :=
  sSet 1 (eLst (dsNil))
def l_1 : S :=
  sSet 2 (eCall F__law_some_townX (asSh (eVar 0) (asBo 1 (asNil))))
def l_2 : S :=
  sUnpX [8, 9, 10, 11, 12, 13] 1 2
def l_3 : S :=
  sIf (tOf (eOp2 pIsNot (eCall F_is_town (asSh (eVar 2) (asNil))) (eC (.bool true)))) (sRet (eC (.bool false))) (sNop)
def l_4 : S :=
  sUnp (gTup (gsCons (gName 14) (gsCons (gName 15) (gsCons (gName 16) (gsNil))))) (eCall F__law_pick (asSh (eVar 0) (asBo 1 (asSh (eVar 9) (asNil)))))
def l_5 : S :=
  sSet 3 (eIndexX 9 (eTup (dsCons (eVar 14) (dsCons (eVar 15) (dsCons (eVar 16) (dsNil))))))
def l_6 : S :=
  sSet 4 (eComp [17] (iRange range1 (msCons (eVar 8) (msNil))) (gName 17) (q_law_1) (c_law_1))
def l_7 : S :=
  sSet 5 (eOp2 pAdd (eComp [6] (iOf (eTup (dsCons (eC (.int 1)) (dsCons (eOp2 pAdd (eVar 8) (eC (.int 9))) (dsCons (eC (.bool true)) (dsCons (eVar 15) (dsNil))))))) (gName 6) (tYes) (c_law_2)) (eLst (dsCons (ePrim pList (msCons (eVar 2) (msNil))) (dsCons (eSlice (eVar 2) (oNone) (oSome (eC (.int 5)))) (dsNil)))))
def l_8 : S :=
  sFor (iOf (eCall F__law_bad_streets (asSh (eVar 8) (asSh (eVar 14) (asSh (eVar 15) (asNil)))))) (gName 6) (b_law_1)
def l_9 : S :=
  sSet 7 (eTup (dsCons (eTup (dsCons (eVar 14) (dsCons (eVar 15) (dsCons (eVar 16) (dsNil))))) (dsCons (eTup (dsCons (eVar 14) (dsCons (eVar 15) (dsCons (eOp2 pAdd (eVar 16) (eC (.int 1))) (dsNil))))) (dsNil))))
def l_10 : S :=
  sExpr (eAppend 5 (eTup (dsCons (eVar 8) (dsCons (eOp2 pAdd (eOp2 pAdd (eSlice (eVar 9) (oNone) (oSome (eVar 3))) (eVar 7)) (eSlice (eVar 9) (oSome (eOp2 pAdd (eVar 3) (eC (.int 1)))) (oNone))) (dsCons (eVar 10) (dsCons (eVar 11) (dsCons (eVar 12) (dsCons (eVar 13) (dsNil)))))))))
def l_11 : S :=
  sIf (tOf (eOp2 pGt (ePrim pLen (msCons (eVar 9) (msNil))) (eC (.int 1)))) (sExpr (eAppend 5 (eTup (dsCons (eVar 8) (dsCons (eOp1 pRev (eVar 9)) (dsCons (eVar 10) (dsCons (eVar 11) (dsCons (eVar 12) (dsCons (eVar 13) (dsNil)))))))))) (sNop)
def l_12 : S :=
  sExpr (eAppend 5 (eTup (dsCons (eVar 8) (dsCons (eTup (dsNil)) (dsCons (eTup (dsNil)) (dsCons (eVar 11) (dsCons (eVar 12) (dsCons (eTup (dsNil)) (dsNil)))))))))
def l_13 : S :=
  sExpr (eExtend 5 (eComp [6] (iOf (eCall F__law_bad_signs (asSh (eVar 8) (asSh (eVar 14) (asSh (eVar 15) (asNil)))))) (gName 6) (tYes) (c_law_3)))
def l_14 : S :=
  sExpr (eExtend 5 (eComp [6] (iOf (eTup (dsCons (eSlice (eVar 11) (oNone) (oSome (eC (.int 1)))) (dsCons (eOp1 pRev (eVar 11)) (dsCons (eOp2 pAdd (eVar 11) (eTup (dsCons (eVar 8) (dsNil)))) (dsCons (ePrim pList (msCons (eVar 11) (msNil))) (dsNil))))))) (gName 6) (tYes) (c_law_4)))
def l_15 : S :=
  sExpr (eExtend 5 (eComp [6] (iOf (eTup (dsCons (eSlice (eVar 11) (oNone) (oSome (eC (.int 1)))) (dsCons (eTup (dsCons (eVar 8) (dsNil))) (dsCons (eTup (dsCons (eOp1 pNeg (eC (.int 1))) (dsNil))) (dsCons (eC .none) (dsCons (eTup (dsCons (eC (.bool true)) (dsNil))) (dsNil)))))))) (gName 6) (tYes) (c_law_5)))
def l_16 : S :=
  sExpr (eExtend 5 (eComp [6] (iOf (eTup (dsCons (eTup (dsCons (ePrim pLen (msCons (eVar 9) (msNil))) (dsNil))) (dsCons (eTup (dsCons (eC (.int 0)) (dsCons (eC (.int 0)) (dsNil)))) (dsCons (eTup (dsCons (eOp1 pNeg (eC (.int 1))) (dsNil))) (dsCons (eLst (dsCons (eC (.int 0)) (dsNil))) (dsCons (eTup (dsCons (eC (.bool false)) (dsNil))) (dsNil)))))))) (gName 6) (tYes) (c_law_6)))
def l_17 : S :=
  sIf (tOf (eOp2 pNe (eVar 4) (eLst (dsNil)))) (sExpr (eAppend 5 (eTup (dsCons (eVar 8) (dsCons (eVar 9) (dsCons (eVar 10) (dsCons (eVar 11) (dsCons (ePrim pTuple (msCons (eRepL (eSlice (eVar 4) (oNone) (oSome (eC (.int 1)))) (eC (.int 2))) (msNil))) (dsCons (eVar 13) (dsNil)))))))))) (sNop)
def l_18 : S :=
  sRet (ePrim pAll (msCons (eComp [6] (iOf (eVar 5)) (gName 6) (tYes) (c_law_7)) (msNil)))
def b_law : S :=
  sSeq l_0 (sSeq l_1 (sSeq l_2 (sSeq l_3 (sSeq l_4 (sSeq l_5 (sSeq l_6 (sSeq l_7 (sSeq l_8 (sSeq l_9 (sSeq l_10 (sSeq l_11 (sSeq l_12 (sSeq l_13 (sSeq l_14 (sSeq l_15 (sSeq l_16 (sSeq l_17 (l_18))))))))))))))))))
def F_law : Fn := fnOfBody 18 b_law
end Q
set_option maxRecDepth 100000
namespace Pu
open PySem PySem.Spec PyProof.Rows L2

abbrev Frag := PySem.W.Frag

def kD : Key → D
  | .inl i => .int i
  | .inr x => .str x

def FL (K : Frag) (H : Hp) (a : Addr) (xs : List V) : Prop :=
  (∃ o, H a = some (.frz o (.lst xs))) ∨
    ∃ (o : Obj) (its : Array Value) (n : Nat), K.lookup a = some o ∧ o.cls = .type "list" ∧ o.dict = none ∧ o.data = .seq its n ∧ its.size ≤ sizeLine ∧ Vals xs its.toList

theorem FL.sq {K : Frag} {H : Hp} {a : Addr} {xs : List V} (h : FL K H a xs) : SqL K H a xs := by
  rcases h with h | h
  · exact .inl (.inr h)
  · exact .inr h

def Exa (H : Hp) (a : Addr) : Prop := ∃ (o : Obj) (xs : List V), H a = some (.frz o (.tup xs)) ∧ o.cls = .type "tuple" ∧ o.dict = none
def TpH (H : Hp) (a : Addr) (xs : List V) : Prop := H a = some (.tup xs) ∨ ∃ o, H a = some (.frz o (.tup xs)) ∧ xs ≠ [] ∧ ∀ x ∈ xs, ∃ b, x = .ref b
theorem TpH.sq {K : Frag} {H : Hp} {a : Addr} {xs : List V} (h : TpH H a xs) : SqT K H a xs := by
  rcases h with h | ⟨o, h, _⟩
  · exact .inl (.inl h)
  · exact .inl (.inr ⟨o, h⟩)
theorem TpH.plain {H : Hp} {a : Addr} {xs : List V} (h : TpH H a xs) (no : xs = [] ∨ ∃ x ∈ xs, ∀ b, x ≠ .ref b) : H a = some (.tup xs) := by
  rcases h with h | ⟨o, h, h1, h2⟩
  · exact h
  · rcases no with no | ⟨x, hx, no⟩
    · exact absurd no h1
    · obtain ⟨b, e⟩ := h2 x hx; exact absurd e (no b)

inductive Rep (K : Frag) (H : Hp) : D → V → Prop
  | non : Rep K H .none .non
  | bl (b : Bool) : Rep K H (.bool b) (.bl b)
  | int (i : Int) : Rep K H (.int i) (.int i)
  | str (x : Str) : Rep K H (.str x) (.str x)
  | tup {a : Addr} {xs : List V} {ds : List D} : TpH H a xs → ds.length = xs.length → (∀ (i : Nat) (d : D) (x : V), ds[i]? = some d → xs[i]? = some x → Rep K H d x) → Rep K H (.tuple ds) (.ref a)
  | lst {a : Addr} {xs : List V} {ds : List D} : FL K H a xs → ds.length = xs.length → (∀ (i : Nat) (d : D) (x : V), ds[i]? = some d → xs[i]? = some x → Rep K H d x) → Rep K H (.list ds) (.ref a)
  | dK {a : Addr} {o : Obj} {kvs : List (Key × V)} {ds : List (D × D)} : H a = some (.frz o (.dK kvs)) → kvs ≠ [] → ds.map (·.1) = kvs.map (fun q => kD q.1) →
      (∀ (i : Nat) (q : D × D) (r : Key × V), ds[i]? = some q → kvs[i]? = some r → Rep K H q.2 r.2) → Rep K H (.dict ds) (.ref a)
  | dT {a : Addr} {o : Obj} {kvs : List (List Key × V)} {ds : List (D × D)} : H a = some (.frz o (.dT kvs)) → ds.map (·.1) = kvs.map (fun q => PyData.tuple (q.1.map kD)) →
      (∀ (i : Nat) (q : D × D) (r : List Key × V), ds[i]? = some q → kvs[i]? = some r → Rep K H q.2 r.2) → Rep K H (.dict ds) (.ref a)

def Reps (K : Frag) (H : Hp) (ds : List D) (xs : List V) : Prop := ds.length = xs.length ∧ ∀ (i : Nat) (d : D) (x : V), ds[i]? = some d → xs[i]? = some x → Rep K H d x
def RepK (K : Frag) (H : Hp) (ds : List (D × D)) (kvs : List (Key × V)) : Prop := ds.map (·.1) = kvs.map (fun q => kD q.1) ∧ ∀ (i : Nat) (q : D × D) (r : Key × V), ds[i]? = some q → kvs[i]? = some r → Rep K H q.2 r.2
def RepT (K : Frag) (H : Hp) (ds : List (D × D)) (kvs : List (List Key × V)) : Prop := ds.map (·.1) = kvs.map (fun q => PyData.tuple (q.1.map kD)) ∧ ∀ (i : Nat) (q : D × D) (r : List Key × V), ds[i]? = some q → kvs[i]? = some r → Rep K H q.2 r.2

def plain : HO → Bool
  | .lst _ => true
  | .dK _ => true
  | .dT _ => true
  | .ext _ => true
  | _ => false
def Ev (H H' : Hp) : Prop := ∀ a o, H a = some o → plain o = false → H' a = some o
def Ex (H H' : Hp) : Prop := ∀ a o, H a = some o → H' a = some o
theorem Ev.refl (H : Hp) : Ev H H := fun _ _ h _ => h
theorem Ev.trans {H H1 H2 : Hp} (a : Ev H H1) (b : Ev H1 H2) : Ev H H2 := fun x o h p => b x o (a x o h p) p
theorem Ex.refl (H : Hp) : Ex H H := fun _ _ h => h
theorem Ex.trans {H H1 H2 : Hp} (a : Ex H H1) (b : Ex H1 H2) : Ex H H2 := fun x o h => b x o (a x o h)
theorem Ex.ev {H H' : Hp} (e : Ex H H') : Ev H H' := fun a o h _ => e a o h
theorem Ex.new {H : Hp} {p : Addr} {o : HO} (h : H p = none) : Ex H (upd H p o) := fun b x e => by
  rw [upd_ne (ne_of_none e h)]; exact e

section
variable {K : Frag} {H H' : Hp}
theorem Ev.fl {a : Addr} {xs : List V} (e : Ev H H') (h : FL K H a xs) : FL K H' a xs := by
  rcases h with ⟨o, h⟩ | h
  · exact .inl ⟨o, e _ _ h rfl⟩
  · exact .inr h
theorem Ev.tp {a : Addr} {xs : List V} (e : Ev H H') (h : TpH H a xs) : TpH H' a xs := by
  rcases h with h | ⟨o, h, r⟩
  · exact .inl (e _ _ h rfl)
  · exact .inr ⟨o, e _ _ h rfl, r⟩
theorem Ev.exa {a : Addr} (e : Ev H H') (h : Exa H a) : Exa H' a := let ⟨o, xs, h1, h2⟩ := h; ⟨o, xs, e _ _ h1 rfl, h2⟩
theorem Rep.ev {d : D} {v : V} (r : Rep K H d v) (e : Ev H H') : Rep K H' d v := by
  induction r with
  | non => exact .non
  | bl b => exact .bl b
  | int i => exact .int i
  | str x => exact .str x
  | tup h l _ ih => exact .tup (e.tp h) l ih
  | lst h l _ ih => exact .lst (e.fl h) l ih
  | dK h n l _ ih => exact .dK (e _ _ h rfl) n l ih
  | dT h l _ ih => exact .dT (e _ _ h rfl) l ih
theorem Reps.ev {ds : List D} {xs : List V} (r : Reps K H ds xs) (e : Ev H H') : Reps K H' ds xs := ⟨r.1, fun i d x h1 h2 => (r.2 i d x h1 h2).ev e⟩
theorem RepK.ev {ds : List (D × D)} {kvs : List (Key × V)} (r : RepK K H ds kvs) (e : Ev H H') : RepK K H' ds kvs := ⟨r.1, fun i d x h1 h2 => (r.2 i d x h1 h2).ev e⟩
theorem RepT.ev {ds : List (D × D)} {kvs : List (List Key × V)} (r : RepT K H ds kvs) (e : Ev H H') : RepT K H' ds kvs := ⟨r.1, fun i d x h1 h2 => (r.2 i d x h1 h2).ev e⟩
theorem Reps.nil : Reps K H [] [] := ⟨rfl, fun i d x h => by simp at h⟩
theorem Reps.cons {d : D} {x : V} {ds : List D} {xs : List V} (h : Rep K H d x) (r : Reps K H ds xs) : Reps K H (d :: ds) (x :: xs) := by
  refine ⟨by simp [r.1], fun i e y h1 h2 => ?_⟩
  cases i with
  | zero => simp at h1 h2; subst h1 h2; exact h
  | succ i => exact r.2 i e y (by simpa using h1) (by simpa using h2)
theorem Reps.uncons {d : D} {ds : List D} {ys : List V} (r : Reps K H (d :: ds) ys) : ∃ x xs, ys = x :: xs ∧ Rep K H d x ∧ Reps K H ds xs := by
  cases ys with
  | nil => have := r.1; simp at this
  | cons x xs => exact ⟨x, xs, rfl, r.2 0 d x rfl rfl, by have := r.1; simpa using this, fun i e y h1 h2 => r.2 (i + 1) e y (by simpa using h1) (by simpa using h2)⟩
theorem Reps.nil_inv {ys : List V} (r : Reps K H [] ys) : ys = [] := by
  have := r.1; simp at this; exact List.eq_nil_of_length_eq_zero this.symm
theorem Reps.append {ds es : List D} {xs ys : List V} (r : Reps K H ds xs) (q : Reps K H es ys) : Reps K H (ds ++ es) (xs ++ ys) := by
  induction ds generalizing xs with
  | nil => rw [r.nil_inv]; exact q
  | cons d ds ih =>
    obtain ⟨x, xs', rfl, h, r'⟩ := r.uncons
    exact .cons h (ih r')
theorem Reps.get {ds : List D} {xs : List V} {i : Nat} {d : D} (r : Reps K H ds xs) (h : ds[i]? = some d) : ∃ x, xs[i]? = some x ∧ Rep K H d x := by
  have hi : i < xs.length := by rw [← r.1]; exact (List.getElem?_eq_some_iff.mp h).1
  exact ⟨xs[i], List.getElem?_eq_getElem hi, r.2 i d _ h (List.getElem?_eq_getElem hi)⟩
theorem Reps.getV {ds : List D} {xs : List V} {i : Nat} {x : V} (r : Reps K H ds xs) (h : xs[i]? = some x) : ∃ d, ds[i]? = some d ∧ Rep K H d x := by
  have hi : i < ds.length := by rw [r.1]; exact (List.getElem?_eq_some_iff.mp h).1
  exact ⟨ds[i], List.getElem?_eq_getElem hi, r.2 i _ _ (List.getElem?_eq_getElem hi) h⟩
theorem Reps.take {ds : List D} {xs : List V} (r : Reps K H ds xs) (n : Nat) : Reps K H (ds.take n) (xs.take n) := by
  refine ⟨by simp [r.1], fun i d x h1 h2 => ?_⟩
  rw [List.getElem?_take] at h1 h2
  split at h1
  · rename_i hi
    rw [if_pos hi] at h2
    exact r.2 i d x h1 h2
  · cases h1
theorem Reps.drop {ds : List D} {xs : List V} (r : Reps K H ds xs) (n : Nat) : Reps K H (ds.drop n) (xs.drop n) := by
  refine ⟨by simp [r.1], fun i d x h1 h2 => ?_⟩
  rw [List.getElem?_drop] at h1 h2
  exact r.2 _ d x h1 h2
theorem Rep.tup' {a : Addr} {xs : List V} {ds : List D} (h : H a = some (.tup xs)) (r : Reps K H ds xs) : Rep K H (.tuple ds) (.ref a) := .tup (.inl h) r.1 r.2
theorem Rep.lst' {a : Addr} {xs : List V} {ds : List D} (h : FL K H a xs) (r : Reps K H ds xs) : Rep K H (.list ds) (.ref a) := .lst h r.1 r.2
end

inductive Ob (K : Frag) (H : Hp) (a : Addr) : D → Prop
  | lst {xs : List V} {ds : List D} : H a = some (.lst xs) → Reps K H ds xs → Ob K H a (.list ds)
  | dK {kvs : List (Key × V)} {ds : List (D × D)} : H a = some (.dK kvs) → kvs ≠ [] → RepK K H ds kvs → Ob K H a (.dict ds)
  | dT {kvs : List (List Key × V)} {ds : List (D × D)} : H a = some (.dT kvs) → RepT K H ds kvs → Ob K H a (.dict ds)
theorem Ob.plain {K : Frag} {H : Hp} {a : Addr} {d : D} (h : Ob K H a d) : ∃ o, H a = some o ∧ Pu.plain o = true := by
  cases h with
  | lst e _ => exact ⟨_, e, rfl⟩
  | dK e _ _ => exact ⟨_, e, rfl⟩
  | dT e _ => exact ⟨_, e, rfl⟩
theorem Ob.stay {K : Frag} {H H' : Hp} {a : Addr} {d : D} (h : Ob K H a d) (e : Ev H H') (k : ∀ o, H a = some o → H' a = some o) : Ob K H' a d := by
  cases h with
  | lst q r => exact .lst (k _ q) (r.ev e)
  | dK q n r => exact .dK (k _ q) n (r.ev e)
  | dT q r => exact .dT (k _ q) (r.ev e)
theorem Ob.frz {K : Frag} {H : Hp} {a : Addr} {d : D} (h : Ob K H a d) : ∃ u, H a = some u ∧ Mut (some u) ∧ Pu.plain u = true ∧ ∀ od, Rep K (upd H a (.frz od u)) d (.ref a) := by
  have ev : ∀ {o : HO} (od : Obj), H a = some o → Pu.plain o = true → Ev H (upd H a (.frz od o)) := fun {o} od e p b u q hp => by
    have : b ≠ a := by rintro rfl; rw [e] at q; cases q; rw [p] at hp; cases hp
    rw [upd_ne this]; exact q
  cases h with
  | lst e r => exact ⟨_, e, trivial, rfl, fun od => .lst' (.inl ⟨od, upd_same⟩) (r.ev (ev od e rfl))⟩
  | dK e n r => exact ⟨_, e, trivial, rfl, fun od => .dK upd_same n r.1 (r.ev (ev od e rfl)).2⟩
  | dT e r => exact ⟨_, e, trivial, rfl, fun od => .dT upd_same r.1 (r.ev (ev od e rfl)).2⟩

class Wd where
  w : World
variable [Wd]
def entN (w : World) (x : NestedKey × Addr × Value) : DictEntry := ⟨x.1.hash w, .ref x.2.1, x.2.2⟩
def phiN (w : World) (a : Addr) (xs : List (NestedKey × Addr × Value)) (h : Heap) : Prop := ∃ o es ep, h.get? a = some o ∧ o.ExactDict ∧ o.data = .dict es ep ∧ es.toList = xs.map (entN w) ∧ (xs.map (·.1)).Nodup
def EntOk (K : Frag) (H : Hp) (p : D × D) (q : NestedKey × Addr × Value) : Prop := p.1 = q.1.data ∧ q.1.depth ≤ 8 ∧ Rep K H p.1 (.ref q.2.1) ∧ ∃ v, RelV v q.2.2 ∧ Rep K H p.2 v
inductive ObN (K : Frag) (H : Hp) (a : Addr) : D → Prop
  | mk {xs : List (NestedKey × Addr × Value)} {kvs : List (D × D)} : xs.length ≤ sizeLine → (a == sysModules) = false → H a = some (.ext (phiN Wd.w a xs)) → Paired (EntOk K H) kvs xs → ObN K H a (.dict kvs)
theorem ObN.plain {K : Frag} {H : Hp} {a : Addr} {d : D} (h : ObN K H a d) : ∃ o, H a = some o ∧ Pu.plain o = true := by
  cases h with
  | mk _ _ e _ => exact ⟨_, e, rfl⟩
theorem ObN.stay {K : Frag} {H H' : Hp} {a : Addr} {d : D} (h : ObN K H a d) (e : Ev H H') (k : ∀ o, H a = some o → H' a = some o) : ObN K H' a d := by
  cases h with
  | mk l s q r => exact .mk l s (k _ q) (Paired.mapP r fun p x ⟨h1, h2, h3, v, h4, h5⟩ => ⟨h1, h2, h3.ev e, v, h4, h5.ev e⟩)

def PtOk (H : Hp) : Pt → V → Prop
  | .ex, v => ∃ a, v = .ref a ∧ Exa H a
  | .it i, v => ∃ a xs b, v = .ref a ∧ TpH H a xs ∧ xs[i]? = some (.ref b) ∧ Exa H b
theorem PtOk.ev {H H' : Hp} {p : Pt} {v : V} (h : PtOk H p v) (e : Ev H H') : PtOk H' p v := by
  cases p with
  | ex => exact let ⟨a, h1, h2⟩ := h; ⟨a, h1, e.exa h2⟩
  | it i => exact let ⟨a, xs, b, h1, h2, h3, h4⟩ := h; ⟨a, xs, b, h1, e.tp h2, h3, e.exa h4⟩
def XOk (K : Frag) (H : Hp) : Xt → V → Prop
  | .tx p d, v => Rep K H d v ∧ PtOk H p v
  | .ad a, v => v = .ref a
theorem XOk.ev {K : Frag} {H H' : Hp} {q : Xt} {v : V} (h : XOk K H q v) (e : Ev H H') : XOk K H' q v := by
  cases q with
  | tx p d => exact ⟨h.1.ev e, h.2.ev e⟩
  | ad a => exact h

def IsO (ρ : Env) (i : Nat) : Prop := ∃ d, ρ[i]? = some (.ow d) ∨ ρ[i]? = some (.bo d) ∨ ρ[i]? = some (.gh d)
def Own (σ : L2.St) (ρ : Env) (a : Addr) : Prop := ∃ i, IsO ρ i ∧ σ[i]? = some (some (.ref a))

structure ER (K : Frag) (H : Hp) (σ : L2.St) (ρ : Env) : Prop where
  len : σ.length = ρ.length
  sh : ∀ (i : Nat) (d : D), ρ[i]? = some (.sh d) → ∃ v, σ[i]? = some (some v) ∧ Rep K H d v
  ow : ∀ (i : Nat) (d : D), (ρ[i]? = some (.ow d) ∨ ρ[i]? = some (.bo d)) → ∃ a, σ[i]? = some (some (.ref a)) ∧ Ob K H a d
  ap : ∀ (i j : Nat) (a : Addr), IsO ρ i → IsO ρ j → σ[i]? = some (some (.ref a)) → σ[j]? = some (some (.ref a)) → i = j
  gh : ∀ (i : Nat) (d : D), ρ[i]? = some (.gh d) → ∃ a, σ[i]? = some (some (.ref a)) ∧ ObN K H a d
  xt : ∀ (i : Nat) (q : Xt), ρ[i]? = some (.xt q) → ∃ v, σ[i]? = some (some v) ∧ XOk K H q v
theorem ER.isO {K : Frag} {H : Hp} {σ : L2.St} {ρ : Env} (E : ER K H σ ρ) {i : Nat} (h : IsO ρ i) : ∃ a, σ[i]? = some (some (.ref a)) ∧ ∃ o, H a = some o ∧ plain o = true := by
  obtain ⟨d, h | h | h⟩ := h
  · obtain ⟨a, e, ob⟩ := E.ow i d (.inl h); exact ⟨a, e, ob.plain⟩
  · obtain ⟨a, e, ob⟩ := E.ow i d (.inr h); exact ⟨a, e, ob.plain⟩
  · obtain ⟨a, e, ob⟩ := E.gh i d h; exact ⟨a, e, ob.plain⟩
theorem IsO.ob {ρ : Env} {i : Nat} {d : D} (h : ρ[i]? = some (.ow d) ∨ ρ[i]? = some (.bo d)) : IsO ρ i := ⟨d, h.elim .inl fun h => .inr (.inl h)⟩
theorem IsO.gh {ρ : Env} {i : Nat} {d : D} (h : ρ[i]? = some (.gh d)) : IsO ρ i := ⟨d, .inr (.inr h)⟩

structure Stp (σ : L2.St) (ρ : Env) (H : Hp) (σ' : L2.St) (ρ' : Env) (H' : Hp) : Prop where
  keep : ∀ a o, H a = some o → ¬ Own σ ρ a → H' a = some o
  own : ∀ a, Own σ' ρ' a → Own σ ρ a ∨ H a = none
  bo : ∀ (i : Nat) (d : D), ρ[i]? = some (.bo d) → σ'[i]? = σ[i]? ∧ ∃ d', ρ'[i]? = some (.bo d')
  live : ∀ a o, H a = some o → ∃ o', H' a = some o'
  len : σ'.length = σ.length
  gh : ∀ (i : Nat) (d : D), ρ[i]? = some (.gh d) → σ'[i]? = σ[i]? ∧ ∃ d', ρ'[i]? = some (.gh d')

theorem Stp.refl (σ : L2.St) (ρ : Env) (H : Hp) : Stp σ ρ H σ ρ H := ⟨fun _ _ h _ => h, fun _ h => .inl h, fun _ d h => ⟨rfl, d, h⟩, fun _ o h => ⟨o, h⟩, rfl, fun _ d h => ⟨rfl, d, h⟩⟩
theorem Stp.trans {σ σ1 σ2 : L2.St} {ρ ρ1 ρ2 : Env} {H H1 H2 : Hp} (a : Stp σ ρ H σ1 ρ1 H1) (b : Stp σ1 ρ1 H1 σ2 ρ2 H2) : Stp σ ρ H σ2 ρ2 H2 where
  keep := fun x o h n => b.keep x o (a.keep x o h n) fun z => by
    rcases a.own x z with q | q
    · exact n q
    · rw [h] at q; cases q
  own := fun x z => by
    rcases b.own x z with q | q
    · exact a.own x q
    · by_cases ho : Own σ ρ x
      · exact .inl ho
      · refine .inr ?_
        cases e : H x with
        | none => rfl
        | some o => rw [a.keep x o e ho] at q; cases q
  bo := fun i d h => by
    obtain ⟨e1, d1, h1⟩ := a.bo i d h
    obtain ⟨e2, d2, h2⟩ := b.bo i d1 h1
    exact ⟨e2.trans e1, d2, h2⟩
  live := fun x o h => let ⟨o1, h1⟩ := a.live x o h; b.live x o1 h1
  len := b.len.trans a.len
  gh := fun i d h => by
    obtain ⟨e1, d1, h1⟩ := a.gh i d h
    obtain ⟨e2, d2, h2⟩ := b.gh i d1 h1
    exact ⟨e2.trans e1, d2, h2⟩
section
variable {K : Frag} {H H' : Hp} {σ σ' : L2.St} {ρ ρ' : Env}
theorem ER.plainOf (E : ER K H σ ρ) {a : Addr} (h : Own σ ρ a) : ∃ o, H a = some o ∧ plain o = true := by
  obtain ⟨i, hd, e⟩ := h
  obtain ⟨b, e', ob⟩ := E.isO hd
  rw [e] at e'; cases e'
  exact ob
theorem Stp.ev (s : Stp σ ρ H σ' ρ' H') (E : ER K H σ ρ) : Ev H H' := fun a o h p => s.keep a o h fun z => by
  obtain ⟨o', h', p'⟩ := E.plainOf z
  rw [h] at h'; cases h'; rw [p] at p'; cases p'
theorem Stp.ex (e : Ex H H') : Stp σ ρ H σ ρ H' := ⟨fun a o h _ => e a o h, fun _ h => .inl h, fun _ d h => ⟨rfl, d, h⟩, fun a o h => ⟨o, e a o h⟩, rfl, fun _ d h => ⟨rfl, d, h⟩⟩
theorem ER.ex (E : ER K H σ ρ) (e : Ex H H') : ER K H' σ ρ := ⟨E.len, fun i d h => let ⟨v, h1, h2⟩ := E.sh i d h; ⟨v, h1, h2.ev e.ev⟩,
  fun i d h => let ⟨a, h1, h2⟩ := E.ow i d h; ⟨a, h1, h2.stay e.ev fun o q => e a o q⟩, E.ap, fun i d h => let ⟨a, h1, h2⟩ := E.gh i d h; ⟨a, h1, h2.stay e.ev fun o q => e a o q⟩, fun i d h => let ⟨a, h1, h2⟩ := E.xt i d h; ⟨a, h1, h2.ev e.ev⟩⟩
end

def RR (K : Frag) (H H' : Hp) (σ : L2.St) (ρ' : Env) : Res → V → Prop
  | .var i, v => σ[i]? = some (some v)
  | .sh d, v => Rep K H' d v
  | .ow d, v => ∃ p, v = .ref p ∧ H p = none ∧ Ob K H' p d ∧ ¬ Own σ ρ' p
  | .tx p d, v => Rep K H' d v ∧ PtOk H' p v
def Mk (K : Frag) (H H' : Hp) : Res → V → Prop
  | .var _, _ => False
  | .sh d, v => Ex H H' ∧ Rep K H' d v
  | .ow d, v => Ex H H' ∧ ∃ p, v = .ref p ∧ H p = none ∧ Ob K H' p d
  | .tx _ _, _ => False
def Rr (K : Frag) (H : Hp) (d : D) (v : V) : Prop := Rep K H d v ∨ ∃ a, v = .ref a ∧ Ob K H a d
def Rrs (K : Frag) (H : Hp) (ds : List D) (vs : List V) : Prop := Paired (Rr K H) ds vs
structure StpE (σ : L2.St) (ρ : Env) (H : Hp) (ρ' : Env) (H' : Hp) : Prop extends Stp σ ρ H σ ρ' H' where
  iso : ∀ i, IsO ρ' i → IsO ρ i
theorem StpE.refl (σ : L2.St) (ρ : Env) (H : Hp) : StpE σ ρ H ρ H := ⟨.refl σ ρ H, fun _ h => h⟩
theorem StpE.trans {σ : L2.St} {ρ ρ1 ρ2 : Env} {H H1 H2 : Hp} (a : StpE σ ρ H ρ1 H1) (b : StpE σ ρ1 H1 ρ2 H2) : StpE σ ρ H ρ2 H2 := ⟨a.toStp.trans b.toStp, fun i h => a.iso i (b.iso i h)⟩
theorem StpE.ex {σ : L2.St} {ρ : Env} {H H' : Hp} (e : Ex H H') : StpE σ ρ H ρ H' := ⟨.ex e, fun _ h => h⟩

section
variable {K : Frag} {H H' H1 H2 : Hp} {σ σ' : L2.St} {ρ ρ' ρ1 ρ2 : Env}
theorem RR.read {r : Res} {v : V} {d : D} (h : RR K H H1 σ ρ1 r v) (E1 : ER K H1 σ ρ1) (s : StpE σ ρ1 H1 ρ2 H2) (E2 : ER K H2 σ ρ2) (g : r.get ρ2 = some d) : Rr K H2 d v := by
  cases r with
  | var i =>
    have h : σ[i]? = some (some v) := h
    have g : ρ2[i]?.bind Slot.val = some d := g
    cases e : ρ2[i]? with
    | none => rw [e] at g; cases g
    | some t =>
      rw [e] at g
      cases t with
      | no => cases g
      | sh z =>
        cases g
        obtain ⟨w, e1, q⟩ := E2.sh i _ e
        rw [h] at e1; cases e1
        exact .inl q
      | ow z =>
        cases g
        obtain ⟨a, e1, q⟩ := E2.ow i _ (.inl e)
        rw [h] at e1; cases e1
        exact .inr ⟨a, rfl, q⟩
      | gh z => cases g
      | xt z =>
        cases z with
        | ad a => cases g
        | tx p z =>
          cases g
          obtain ⟨w, e1, q⟩ := E2.xt i _ e
          rw [h] at e1; cases e1
          exact .inl q.1
      | bo z =>
        cases g
        obtain ⟨a, e1, q⟩ := E2.ow i _ (.inr e)
        rw [h] at e1; cases e1
        exact .inr ⟨a, rfl, q⟩
  | tx pt z =>
    cases g
    exact .inl (Rep.ev h.1 (s.toStp.ev E1))
  | sh z =>
    cases g
    exact .inl (Rep.ev h (s.toStp.ev E1))
  | ow z =>
    cases g
    obtain ⟨p, rfl, hp, ob, no⟩ := h
    exact .inr ⟨p, rfl, ob.stay (s.toStp.ev E1) fun o q => s.keep p o q no⟩
theorem RR.later {r : Res} {v : V} (h : RR K H H1 σ ρ1 r v) (E1 : ER K H1 σ ρ1) (s : StpE σ ρ1 H1 ρ2 H2) (hf : ∀ a, Own σ ρ2 a → Own σ ρ1 a ∨ H1 a = none := s.own) : RR K H H2 σ ρ2 r v := by
  cases r with
  | var i => exact h
  | tx pt z => exact ⟨h.1.ev (s.toStp.ev E1), h.2.ev (s.toStp.ev E1)⟩
  | sh z => exact Rep.ev h (s.toStp.ev E1)
  | ow z =>
    obtain ⟨p, rfl, hp, ob, no⟩ := h
    refine ⟨p, rfl, hp, ob.stay (s.toStp.ev E1) fun o q => s.keep p o q no, fun z => ?_⟩
    rcases hf p z with q | q
    · exact no q
    · obtain ⟨o, e, _⟩ := ob.plain; rw [q] at e; cases e
theorem Mk.rr {r : Res} {v : V} (m : Mk K H H' r v) (E : ER K H σ ρ) : ER K H' σ ρ ∧ StpE σ ρ H ρ H' ∧ RR K H H' σ ρ r v := by
  cases r with
  | var i => exact m.elim
  | tx _ _ => exact m.elim
  | sh d => exact ⟨E.ex m.1, .ex m.1, m.2⟩
  | ow d =>
    obtain ⟨e, p, rfl, hp, ob⟩ := m
    refine ⟨E.ex e, .ex e, p, rfl, hp, ob, fun z => ?_⟩
    obtain ⟨o, q, _⟩ := E.plainOf z
    rw [hp] at q; cases q
theorem RR.base {H0 : Hp} {r : Res} {v : V} (h : RR K H H' σ ρ r v) (k : ∀ p, H p = none → H0 p = none) : RR K H0 H' σ ρ r v := by
  cases r with
  | var i => exact h
  | tx _ _ => exact h
  | sh d => exact h
  | ow d => obtain ⟨p, e, hp, q⟩ := h; exact ⟨p, e, k p hp, q⟩
theorem Stp.back (s : Stp σ ρ H σ' ρ' H') {p : Addr} (h : H' p = none) : H p = none := by
  cases e : H p with
  | none => rfl
  | some o => obtain ⟨o', e'⟩ := s.live p o e; rw [h] at e'; cases e'
end
end Pu
set_option maxRecDepth 100000
namespace Pu
open PySem PySem.Spec PyProof.Rows L2
variable [Wd]

def tE (K : Frag) (g : M) : TE := fun σ H Q => ∃ ρ r ρ', ER K H σ ρ ∧ g ρ = some (r, ρ') ∧ ∀ v H', ER K H' σ ρ' → StpE σ ρ H ρ' H' → RR K H H' σ ρ' r v → Q v H'
def tSh (K : Frag) (g : M) : TE := fun σ H Q => ∃ ρ r ρ1 d ρ', ER K H σ ρ ∧ g ρ = some (r, ρ1) ∧ share r ρ1 = some (d, ρ') ∧ ∀ v H', ER K H' σ ρ' → StpE σ ρ H ρ' H' → Rep K H' d v → Q v H'
def tT (K : Frag) (g : T) : TT := fun σ H Q => ∃ ρ b ρ', ER K H σ ρ ∧ g ρ = some (b, ρ') ∧ ∀ H', ER K H' σ ρ' → StpE σ ρ H ρ' H' → Q b H'
def tMs (K : Frag) (g : Ms) : TA := fun σ H Q => ∃ ρ rs ρ', ER K H σ ρ ∧ g ρ = some (rs, ρ') ∧ ∀ vs H', ER K H' σ ρ' → StpE σ ρ H ρ' H' → Paired (RR K H H' σ ρ') rs vs → Q vs H'
def tDs (K : Frag) (g : Ds) : TA := fun σ H Q => ∃ ρ ds ρ', ER K H σ ρ ∧ g ρ = some (ds, ρ') ∧ ∀ vs H', ER K H' σ ρ' → StpE σ ρ H ρ' H' → Reps K H' ds vs → Q vs H'

section
variable {X : Cx} {e : Expr} {es : List Expr} {pos : Pos}
theorem _root_.L2.PE.imp {t t' : TE} (h : PE X e t) (k : ∀ σ H Q, t' σ H Q → t σ H Q) : PE X e t' := ⟨fun pins s σ H Q I q => h.run pins s σ H Q I (k σ H Q q)⟩
theorem _root_.L2.PT.imp {t t' : TT} (h : PT X e t) (k : ∀ σ H Q, t' σ H Q → t σ H Q) : PT X e t' := ⟨fun pins s σ H Q I q => h.run pins s σ H Q I (k σ H Q q)⟩
theorem _root_.L2.PA.imp {t t' : TA} (h : PA X es t) (k : ∀ σ H Q, t' σ H Q → t σ H Q) : PA X es t' := ⟨fun pos pins s σ H Q I q => h.run pos pins s σ H Q I (k σ H Q q)⟩
theorem _root_.L2.PS.imp {st : Stmt} {t t' : TS} (h : PS X st t) (k : ∀ D σ H, t' D σ H → t D σ H) : PS X st t' := ⟨fun pins s σ H D I q => h.run pins s σ H D I (k D σ H q)⟩
theorem _root_.L2.PSs.imp {st : List Stmt} {t t' : TS} (h : PSs X st t) (k : ∀ D σ H, t' D σ H → t D σ H) : PSs X st t' := ⟨fun pins s σ H D I q => h.run pins s σ H D I (k D σ H q)⟩
end

section
variable {K : Frag} {H H1 : Hp} {σ σ' : L2.St} {ρ ρ1 ρ' : Env} {a : Addr} {u : HO}
theorem ev_frz {od : Obj} (e : H1 a = some u) (p : plain u = true) : Ev H1 (upd H1 a (.frz od u)) := fun b o q hp => by
  have : b ≠ a := by rintro rfl; rw [e] at q; cases q; rw [p] at hp; cases hp
  rw [upd_ne this]; exact q
theorem Stp.updNew {o : HO} (s : Stp σ ρ H σ' ρ' H1) (h : H a = none) : Stp σ ρ H σ' ρ' (upd H1 a o) where
  keep := fun b x e n => by rw [upd_ne (ne_of_none e h)]; exact s.keep b x e n
  own := s.own
  bo := s.bo
  live := fun b x e => by rw [upd_ne (ne_of_none e h)]; exact s.live b x e
  len := s.len
  gh := s.gh
theorem ER.frzNew {od : Obj} (E : ER K H1 σ ρ1) (e : H1 a = some u) (p : plain u = true) (no : ¬ Own σ ρ1 a) : ER K (upd H1 a (.frz od u)) σ ρ1 where
  len := E.len
  sh := fun i d h => let ⟨v, h1, h2⟩ := E.sh i d h; ⟨v, h1, h2.ev (ev_frz e p)⟩
  ow := fun i d h => by
    obtain ⟨b, h1, h2⟩ := E.ow i d h
    have hb : b ≠ a := by rintro rfl; exact no ⟨i, .ob h, h1⟩
    exact ⟨b, h1, h2.stay (ev_frz e p) fun o q => by rw [upd_ne hb]; exact q⟩
  ap := E.ap
  gh := fun i d h => by
    obtain ⟨b, h1, h2⟩ := E.gh i d h
    have hb : b ≠ a := by rintro rfl; exact no ⟨i, .gh h, h1⟩
    exact ⟨b, h1, h2.stay (ev_frz e p) fun o q => by rw [upd_ne hb]; exact q⟩
  xt := fun i q h => let ⟨v, h1, h2⟩ := E.xt i q h; ⟨v, h1, h2.ev (ev_frz e p)⟩
theorem IsO.set {i j : Nat} {d : D} (h : IsO (ρ1.set i (.sh d)) j) : j ≠ i ∧ IsO ρ1 j := by
  obtain ⟨x, h⟩ := h
  by_cases hj : i = j
  · subst hj
    rw [List.getElem?_set] at h
    simp only [if_true] at h
    split at h <;> rcases h with h | h | h <;> cases h
  · rw [List.getElem?_set_ne hj] at h
    exact ⟨fun z => hj z.symm, x, h⟩
theorem ER.frzOwn {od : Obj} {i : Nat} {d : D} (E : ER K H1 σ ρ1) (hi : ρ1[i]? = some (.ow d)) (hs : σ[i]? = some (some (.ref a))) (e : H1 a = some u) (p : plain u = true) (r : Rep K (upd H1 a (.frz od u)) d (.ref a)) :
    ER K (upd H1 a (.frz od u)) σ (ρ1.set i (.sh d)) ∧ StpE σ ρ1 H1 (ρ1.set i (.sh d)) (upd H1 a (.frz od u)) := by
  have oa : Own σ ρ1 a := ⟨i, ⟨d, .inl hi⟩, hs⟩
  have hlt : i < ρ1.length := (List.getElem?_eq_some_iff.mp hi).1
  constructor
  · refine ⟨by rw [List.length_set]; exact E.len, fun j x h => ?_, fun j x h => ?_, fun j k b h1 h2 => E.ap j k b h1.set.2 h2.set.2, fun j x h => ?_, fun j x h => ?_⟩
    · by_cases hj : i = j
      · subst hj
        rw [List.getElem?_set_self hlt] at h
        cases h
        exact ⟨_, hs, r⟩
      · rw [List.getElem?_set_ne hj] at h
        obtain ⟨v, h1, h2⟩ := E.sh j x h
        exact ⟨v, h1, h2.ev (ev_frz e p)⟩
    · obtain ⟨hj, _⟩ := IsO.set (ρ1 := ρ1) (i := i) (d := d) (.ob h)
      rw [List.getElem?_set_ne (fun z => hj z.symm)] at h
      obtain ⟨b, h1, h2⟩ := E.ow j x h
      have hb : b ≠ a := by rintro rfl; exact hj (E.ap j i b (.ob h) ⟨d, .inl hi⟩ h1 hs)
      exact ⟨b, h1, h2.stay (ev_frz e p) fun o q => by rw [upd_ne hb]; exact q⟩
    · obtain ⟨hj, _⟩ := IsO.set (ρ1 := ρ1) (i := i) (d := d) (.gh h)
      rw [List.getElem?_set_ne (fun z => hj z.symm)] at h
      obtain ⟨b, h1, h2⟩ := E.gh j x h
      have hb : b ≠ a := by rintro rfl; exact hj (E.ap j i b (.gh h) ⟨d, .inl hi⟩ h1 hs)
      exact ⟨b, h1, h2.stay (ev_frz e p) fun o q => by rw [upd_ne hb]; exact q⟩
    · have hij : i ≠ j := by
        rintro rfl
        rw [List.getElem?_set_self hlt] at h; cases h
      rw [List.getElem?_set_ne hij] at h
      obtain ⟨b, h1, h2⟩ := E.xt j x h
      exact ⟨b, h1, h2.ev (ev_frz e p)⟩
  · refine ⟨⟨fun b o q n => ?_, fun b ⟨j, hj, ho⟩ => .inl ⟨j, hj.set.2, ho⟩, fun j x h => ⟨rfl, x, ?_⟩, fun b o q => ?_, rfl, fun j x h => ⟨rfl, x, ?_⟩⟩, fun j hj => hj.set.2⟩
    · have : b ≠ a := by rintro rfl; exact n oa
      rw [upd_ne this]; exact q
    · have : i ≠ j := by rintro rfl; rw [hi] at h; cases h
      rw [List.getElem?_set_ne this]; exact h
    · by_cases hb : b = a
      · subst hb; exact ⟨_, upd_same⟩
      · exact ⟨o, by rw [upd_ne hb]; exact q⟩
    · have : i ≠ j := by rintro rfl; rw [hi] at h; cases h
      rw [List.getElem?_set_ne this]; exact h
end

section
variable {X : Cx} {e : Expr} {g : M}
theorem pe_share (h : PE X e (tE X.K g)) : PE X e (tSh X.K g) := by
  refine ⟨fun pins s σ H Q I ⟨ρ, r, ρ1, d, ρ', E, hg, hs, q⟩ => ?_⟩
  refine thn (h.run pins s σ H (fun v H1 => ER X.K H1 σ ρ1 ∧ StpE σ ρ H ρ1 H1 ∧ RR X.K H H1 σ ρ1 r v) I ⟨ρ, r, ρ1, E, hg, fun v H' a b c => ⟨a, b, c⟩⟩) fun uv s1 ⟨v, H1, I1, rv, E1, s1', R1⟩ => ?_
  cases r with
  | sh z => cases hs; exact ⟨v, H1, I1, rv, q v H1 E1 s1' R1⟩
  | tx pt z => cases hs; exact ⟨v, H1, I1, rv, q v H1 E1 s1' R1.1⟩
  | ow z =>
    cases hs
    obtain ⟨p, rfl, hp, ob, no⟩ := R1
    obtain ⟨u, e1, mu, pl, rp⟩ := ob.frz
    obtain ⟨od, I2⟩ := I1.lock e1 mu
    exact ⟨_, _, I2, rv, q _ _ (E1.frzNew e1 pl no) ⟨s1'.toStp.updNew hp, s1'.iso⟩ (rp od)⟩
  | var i =>
    have R1 : σ[i]? = some (some v) := R1
    unfold share at hs
    simp only at hs
    cases hi : ρ1[i]? with
    | none => rw [hi] at hs; cases hs
    | some t =>
      rw [hi] at hs
      cases t with
      | no => cases hs
      | gh z => cases hs
      | xt z =>
        cases z with
        | ad a => cases hs
        | tx pt z =>
          cases hs
          obtain ⟨w, h1, h2⟩ := E1.xt i _ hi
          rw [R1] at h1; cases h1
          exact ⟨v, H1, I1, rv, q v H1 E1 s1' h2.1⟩
      | bo z => cases hs
      | sh z =>
        cases hs
        obtain ⟨w, h1, h2⟩ := E1.sh i _ hi
        rw [R1] at h1; cases h1
        exact ⟨v, H1, I1, rv, q v H1 E1 s1' h2⟩
      | ow z =>
        cases hs
        obtain ⟨a, h1, ob⟩ := E1.ow i _ (.inl hi)
        rw [R1] at h1; cases h1
        obtain ⟨u, e1, mu, pl, rp⟩ := ob.frz
        obtain ⟨od, I2⟩ := I1.lock e1 mu
        obtain ⟨E2, s2⟩ := E1.frzOwn (od := od) hi R1 e1 pl (rp od)
        exact ⟨_, _, I2, rv, q _ _ E2 (s1'.trans s2) (rp od)⟩
theorem pu_var {i : Nat} {x : Str} {pos : Pos} (hN : X.N[i]? = some x := by rfl) (hv : Vis X.env.scope x := by first | exact Or.inl rfl | exact Or.inr (Or.inl rfl) | exact Or.inr (Or.inr rfl)) (hd : (x == ("__debug__" : Str)) = false := by decide) (hcd : (x == ("__classdict__" : Str)) = false := by decide) :
    PE X (.Name x pos) (tE X.K (eVar i)) := (pe_var hN hv hd hcd).imp fun σ H Q ⟨ρ, r, ρ', E, hg, q⟩ => by
  unfold eVar at hg
  obtain ⟨d, h1, h2⟩ := Option.map_eq_some_iff.mp hg
  cases h2
  cases hi : ρ[i]? with
  | none => rw [hi] at h1; cases h1
  | some t =>
    rw [hi] at h1
    have hv : ∃ v, σ[i]? = some (some v) := by
      cases t with
      | no => cases h1
      | gh z => cases h1
      | xt z =>
        cases z with
        | ad a => cases h1
        | tx pt z => obtain ⟨v, e, _⟩ := E.xt i _ hi; exact ⟨v, e⟩
      | sh z => obtain ⟨v, e, _⟩ := E.sh i _ hi; exact ⟨v, e⟩
      | ow z => obtain ⟨v, e, _⟩ := E.ow i _ (.inl hi); exact ⟨_, e⟩
      | bo z => obtain ⟨v, e, _⟩ := E.ow i _ (.inr hi); exact ⟨_, e⟩
    obtain ⟨v, e⟩ := hv
    exact ⟨v, e, q v H E (.refl σ ρ H) e⟩
theorem pu_c {v : V} {d : D} (h : PE X e (tC v)) (r : ∀ K H, Rep K H d v) : PE X e (tE X.K (eC d)) := h.imp fun σ H Q ⟨ρ, _, ρ', E, hg, q⟩ => by
  cases hg
  exact q v H E (.refl σ ρ H) (r _ H)
theorem pu_int {i : Int} {j pos} : PE X (.Constant (.int i) j pos) (tE X.K (eC (.int i))) := pu_c pe_int fun _ _ => .int i
theorem pu_bl {b : Bool} {j pos} : PE X (.Constant (.bool b) j pos) (tE X.K (eC (.bool b))) := pu_c pe_bl fun _ _ => .bl b
theorem pu_non {j pos} : PE X (.Constant .none j pos) (tE X.K (eC .none)) := pu_c pe_non fun _ _ => .non
theorem pu_str {x : Str} {j pos} : PE X (.Constant (.str x) j pos) (tE X.K (eC (.str x))) := pu_c pe_str fun _ _ => .str x
end

def Prim2 (K : Frag) (f : D → D → Option Res) (r : R2) : Prop := ∀ (d1 d2 : D) (x y : V) (H : Hp) (Q : VK) (res : Res), Rr K H d1 x → Rr K H d2 y → f d1 d2 = some res → (∀ v H', Mk K H H' res v → Q v H') → r x y H Q
def Prim1 (K : Frag) (f : D → Option Res) (r : V → Hp → VK → Prop) : Prop := ∀ (d : D) (x : V) (H : Hp) (Q : VK) (res : Res), Rr K H d x → f d = some res → (∀ v H', Mk K H H' res v → Q v H') → r x H Q
def PrimN (K : Frag) (f : List D → Option Res) (r : List V → Hp → VK → Prop) : Prop := ∀ (ds : List D) (vs : List V) (H : Hp) (Q : VK) (res : Res), Rrs K H ds vs → f ds = some res → (∀ v H', Mk K H H' res v → Q v H') → r vs H Q
section
variable {X : Cx} {K : Frag} {a b : Expr} {ga gb : M} {pos : Pos}
theorem op2_reads {f : D → D → Option Res} {r : R2} (P : Prim2 K f r) {σ : L2.St} {H : Hp} {Q : VK} (h : tE K (eOp2 f ga gb) σ H Q) : tOp r (tE K ga) (tE K gb) σ H Q := by
  obtain ⟨ρ, res, ρ', E, hg, q⟩ := h
  unfold eOp2 at hg
  obtain ⟨⟨r1, ρ1⟩, h1, hg⟩ := Option.bind_eq_some_iff.mp hg
  obtain ⟨⟨r2, ρ2⟩, h2, hg⟩ := Option.bind_eq_some_iff.mp hg
  obtain ⟨x, hx, hg⟩ := Option.bind_eq_some_iff.mp hg
  obtain ⟨y, hy, hg⟩ := Option.bind_eq_some_iff.mp hg
  obtain ⟨z, hz, hg⟩ := Option.map_eq_some_iff.mp hg
  cases hg
  refine ⟨ρ, r1, ρ1, E, h1, fun v1 H1 E1 s1 R1 => ⟨ρ1, r2, ρ2, E1, h2, fun v2 H2 E2 s2 R2 => ?_⟩⟩
  refine P x y v1 v2 H2 Q _ (R1.read E1 s2 E2 hx) (R2.read E2 (.refl _ _ _) E2 hy) hz fun v H3 mk => ?_
  obtain ⟨E3, s3, R3⟩ := mk.rr E2
  exact q v H3 E3 (s1.trans (s2.trans s3)) (R3.base fun p hp => (s1.trans s2).toStp.back hp)
theorem pu_op2 {op : Operator} {f : D → D → Option Res} {r : R2} (ho : OpR X (binaryOp op) r) (P : Prim2 X.K f r) (ha : PE X a (tE X.K ga)) (hb : PE X b (tE X.K gb)) : PE X (.BinOp a op b pos) (tE X.K (eOp2 f ga gb)) :=
  (pe_op ho ha hb).imp fun σ H Q h => op2_reads P h
theorem pu_cmp {op : CmpOp} {f : D → D → Option Res} {r : R2} (ho : OpR X (compareOp op) r) (P : Prim2 X.K f r) (ha : PE X a (tE X.K ga)) (hb : PE X b (tE X.K gb)) (hm : behindInMarks op b = false := by first | exact nomark _ | rfl) : PE X (.Compare a [op] [b] pos) (tE X.K (eOp2 f ga gb)) :=
  (pe_cmpR ho ha hb hm).imp fun σ H Q h => op2_reads P h
theorem op1_reads {f : D → Option Res} {r : V → Hp → VK → Prop} (P : Prim1 K f r) {σ : L2.St} {H : Hp} {Q : VK} (h : tE K (eOp1 f ga) σ H Q) : tUn r (tE K ga) σ H Q := by
  obtain ⟨ρ, res, ρ', E, hg, q⟩ := h
  unfold eOp1 at hg
  obtain ⟨⟨r1, ρ1⟩, h1, hg⟩ := Option.bind_eq_some_iff.mp hg
  obtain ⟨x, hx, hg⟩ := Option.bind_eq_some_iff.mp hg
  obtain ⟨z, hz, hg⟩ := Option.map_eq_some_iff.mp hg
  cases hg
  refine ⟨ρ, r1, ρ1, E, h1, fun v1 H1 E1 s1 R1 => ?_⟩
  refine P x v1 H1 Q _ (R1.read E1 (.refl _ _ _) E1 hx) hz fun v H3 mk => ?_
  obtain ⟨E3, s3, R3⟩ := mk.rr E1
  exact q v H3 E3 (s1.trans s3) (R3.base fun p hp => s1.toStp.back hp)
theorem pu_un {op : UnaryOp} {f : D → Option Res} {r : V → Hp → VK → Prop} (ho : UnR X (unaryOp op) r) (P : Prim1 X.K f r) (ha : PE X a (tE X.K ga)) : PE X (.UnaryOp op a pos) (tE X.K (eOp1 f ga)) :=
  (pe_un ho ha).imp fun σ H Q h => op1_reads P h
end

section
variable {X : Cx} {K : Frag} {e : Expr} {es : List Expr} {g : M} {gs : Ms} {gd : Ds}
theorem pu_msNil : PA X [] (tMs X.K msNil) := pa_nil.imp fun σ H Q ⟨ρ, rs, ρ', E, hg, q⟩ => by
  cases hg
  exact q [] H E (.refl _ _ _) .nil
theorem pu_msCons (ha : PE X e (tE X.K g)) (hr : PA X es (tMs X.K gs)) (hs : starEach (e :: es) X.env = (false, eval e X.env) :: starEach es X.env := by rfl) : PA X (e :: es) (tMs X.K (msCons g gs)) :=
  (pa_cons ha hr hs).imp fun σ H Q ⟨ρ, rs, ρ', E, hg, q⟩ => by
    unfold msCons at hg
    obtain ⟨⟨r1, ρ1⟩, h1, hg⟩ := Option.bind_eq_some_iff.mp hg
    obtain ⟨⟨rs1, ρ2⟩, h2, hg⟩ := Option.bind_eq_some_iff.mp hg
    cases hg
    refine ⟨ρ, r1, ρ1, E, h1, fun v H1 E1 s1 R1 => ⟨ρ1, rs1, ρ2, E1, h2, fun vs H2 E2 s2 R2 => ?_⟩⟩
    exact q _ H2 E2 (s1.trans s2) (.cons (R1.later E1 s2) (Paired.mapP R2 fun r v h => RR.base h fun p hp => s1.toStp.back hp))
theorem pu_dsNil : PA X [] (tDs X.K dsNil) := pa_nil.imp fun σ H Q ⟨ρ, rs, ρ', E, hg, q⟩ => by
  cases hg
  exact q [] H E (.refl _ _ _) .nil
theorem pu_dsCons (ha : PE X e (tE X.K g)) (hr : PA X es (tDs X.K gd)) (hs : starEach (e :: es) X.env = (false, eval e X.env) :: starEach es X.env := by rfl) : PA X (e :: es) (tDs X.K (dsCons g gd)) :=
  (pa_cons (pe_share ha) hr hs).imp fun σ H Q ⟨ρ, rs, ρ', E, hg, q⟩ => by
    unfold dsCons at hg
    obtain ⟨⟨r1, ρ1⟩, h1, hg⟩ := Option.bind_eq_some_iff.mp hg
    obtain ⟨⟨d, ρ2⟩, h2, hg⟩ := Option.bind_eq_some_iff.mp hg
    obtain ⟨⟨ds, ρ3⟩, h3, hg⟩ := Option.bind_eq_some_iff.mp hg
    cases hg
    refine ⟨ρ, r1, ρ1, d, ρ2, E, h1, h2, fun v H1 E1 s1 R1 => ⟨ρ2, ds, ρ3, E1, h3, fun vs H2 E2 s2 R2 => ?_⟩⟩
    exact q _ H2 E2 (s1.trans s2) (.cons (R1.ev (s2.toStp.ev E1)) R2)
theorem getAll_reads {H0 H : Hp} {σ : L2.St} {ρ : Env} (E : ER K H σ ρ) : ∀ {rs : List Res} {vs : List V} {ds : List D}, Paired (RR K H0 H σ ρ) rs vs → getAll ρ rs = some ds → Rrs K H ds vs
  | _, _, _, .nil, h => by cases h; exact .nil
  | _, _, _, .cons r t, h => by
    unfold getAll at h
    obtain ⟨d, h1, h⟩ := Option.bind_eq_some_iff.mp h
    obtain ⟨ds, h2, h⟩ := Option.bind_eq_some_iff.mp h
    cases h
    exact .cons (r.read E (.refl _ _ _) E h1) (getAll_reads E t h2)
theorem prim_reads {f : List D → Option Res} {r : List V → Hp → VK → Prop} (P : PrimN K f r) {σ : L2.St} {H : Hp} {Q : VK} (h : tE K (ePrim f gs) σ H Q) : tCB r (tMs K gs) σ H Q := by
  obtain ⟨ρ, res, ρ', E, hg, q⟩ := h
  unfold ePrim at hg
  obtain ⟨⟨rs, ρ1⟩, h1, hg⟩ := Option.bind_eq_some_iff.mp hg
  obtain ⟨ds, hd, hg⟩ := Option.bind_eq_some_iff.mp hg
  obtain ⟨z, hz, hg⟩ := Option.map_eq_some_iff.mp hg
  cases hg
  refine ⟨ρ, rs, ρ1, E, h1, fun vs H1 E1 s1 R1 => ?_⟩
  refine P ds vs H1 Q _ (getAll_reads E1 R1 hd) hz fun v H3 mk => ?_
  obtain ⟨E3, s3, R3⟩ := mk.rr E1
  exact q v H3 E3 (s1.trans s3) (R3.base fun p hp => s1.toStp.back hp)
theorem pu_callB {x : Str} {id : String} {p pos : Pos} {f : List D → Option Res} {r : List V → Hp → VK → Prop} (hc : CallR X (.builtin id) r) (P : PrimN X.K f r) (hg : Gl X x) (hm : X.mg x = none) (hv : bootBuiltins x = some (.builtin id)) (ha : PA X (e :: es) (tMs X.K gs)) (hn : x ≠ "__name__" := by decide) (hdb : (x == ("__debug__" : Str)) = false := by decide)
    (he : starEach (e :: es) X.env = (false, eval e X.env) :: starEach es X.env := by rfl) (hpl : (backTo pos (starEach es X.env)).any (·.1) = false := by rfl) : PE X (.Call (.Name x p) (e :: es) [] pos) (tE X.K (ePrim f gs)) :=
  (pe_callB hc hg hm hv ha hn hdb he hpl).imp fun σ H Q h => prim_reads P h
theorem pu_callTy {x : Str} {T : String} {p pos : Pos} {f : List D → Option Res} {r : List V → Hp → VK → Prop} (hc : CallR X (.type T) r) (P : PrimN X.K f r) (hg : Gl X x) (hm : X.mg x = none) (hv : bootBuiltins x = some (.type T)) (ha : PA X (e :: es) (tMs X.K gs)) (hn : x ≠ "__name__" := by decide) (hdb : (x == ("__debug__" : Str)) = false := by decide)
    (he : starEach (e :: es) X.env = (false, eval e X.env) :: starEach es X.env := by rfl) (hpl : (backTo pos (starEach es X.env)).any (·.1) = false := by rfl) : PE X (.Call (.Name x p) (e :: es) [] pos) (tE X.K (ePrim f gs)) :=
  (pe_callTy hc hg hm hv ha hn hdb he hpl).imp fun σ H Q h => prim_reads P h
theorem pu_tup {k pos} (h : PA X es (tDs X.K gd)) (hz : es.length ≤ sizeLine := by decide) (hl : ∀ ρ ds ρ', gd ρ = some (ds, ρ') → ds.length = es.length) : PE X (.Tuple es k pos) (tE X.K (eTup gd)) :=
  (pe_tup h).imp fun σ H Q ⟨ρ, r, ρ', E, hg, q⟩ => by
    unfold eTup at hg
    obtain ⟨⟨ds, ρ1⟩, h1, hg⟩ := Option.map_eq_some_iff.mp hg
    cases hg
    refine ⟨ρ, ds, ρ1, E, h1, fun vs H1 E1 s1 R1 => ⟨?_, fun p hp => ?_⟩⟩
    · rw [← R1.1, hl _ _ _ h1]; exact hz
    · have ex := Ex.new (o := .tup vs) hp
      exact q _ _ (E1.ex ex) (s1.trans (.ex ex)) (.tup' upd_same (R1.ev ex.ev))
theorem pu_lst {pos} (h : PA X es (tDs X.K gd)) (hz : es.length ≤ sizeLine := by decide) (hl : ∀ ρ ds ρ', gd ρ = some (ds, ρ') → ds.length = es.length) : PE X (.List es pos) (tE X.K (eLst gd)) :=
  (pe_lst h).imp fun σ H Q ⟨ρ, r, ρ', E, hg, q⟩ => by
    unfold eLst at hg
    obtain ⟨⟨ds, ρ1⟩, h1, hg⟩ := Option.map_eq_some_iff.mp hg
    cases hg
    refine ⟨ρ, ds, ρ1, E, h1, fun vs H1 E1 s1 R1 => ⟨?_, fun p hp => ?_⟩⟩
    · rw [← R1.1, hl _ _ _ h1]; exact hz
    · have ex := Ex.new (o := .lst vs) hp
      refine q _ _ (E1.ex ex) (s1.trans (.ex ex)) ⟨p, rfl, s1.toStp.back hp, .lst upd_same (R1.ev ex.ev), fun z => ?_⟩
      obtain ⟨o, h, _⟩ := E1.plainOf z
      rw [hp] at h; cases h
theorem dsNil_len : ∀ ρ ds ρ', dsNil ρ = some (ds, ρ') → ds.length = ([] : List Expr).length := fun ρ ds ρ' h => by cases h; rfl
theorem dsCons_len {e : Expr} {es : List Expr} {g : M} {gd : Ds} (hl : ∀ ρ ds ρ', gd ρ = some (ds, ρ') → ds.length = es.length) : ∀ ρ ds ρ', dsCons g gd ρ = some (ds, ρ') → ds.length = (e :: es).length := fun ρ ds ρ' h => by
  unfold dsCons at h
  obtain ⟨⟨r1, ρ1⟩, h1, hg⟩ := Option.bind_eq_some_iff.mp h
  obtain ⟨⟨d, ρ2⟩, h2, hg⟩ := Option.bind_eq_some_iff.mp hg
  obtain ⟨⟨ds, ρ3⟩, h3, hg⟩ := Option.bind_eq_some_iff.mp hg
  cases hg
  simp [hl _ _ _ h3]
end

section
variable {X : Cx} {K : Frag} {a b : Expr} {ga gb : M} {ta tb : T} {pos : Pos}
theorem Rr.bool {H : Hp} {b : Bool} {v : V} (h : Rr K H (.bool b) v) : v = .bl b := by
  rcases h with h | ⟨p, rfl, h⟩
  · cases h; rfl
  · cases h
theorem tOf_reads {σ : L2.St} {H : Hp} {Q : Bool → Hp → Prop} (h : tT K (tOf ga) σ H Q) : tB (tE K ga) σ H Q := by
  obtain ⟨ρ, b, ρ', E, hg, q⟩ := h
  unfold tOf at hg
  obtain ⟨⟨r1, ρ1⟩, h1, hg⟩ := Option.bind_eq_some_iff.mp hg
  refine ⟨ρ, r1, ρ1, E, h1, fun v H1 E1 s1 R1 => ?_⟩
  simp only at hg
  split at hg
  · rename_i z hz
    cases hg
    exact ⟨b, (R1.read E1 (.refl _ _ _) E1 hz).bool, q H1 E1 s1⟩
  · cases hg
theorem pu_tv (h : PE X a (tE X.K ga)) (he : ∀ whole, isTrue a X.env whole = (do let v ← whole; standAt a.pos; holding [v] (truthy v)) := by intro _; rfl) : PT X a (tT X.K (tOf ga)) := (pt_val h he).imp fun σ H Q h => tOf_reads h
theorem pu_tcmp {op : CmpOp} {f : D → D → Option Res} {r : R2} (ho : OpR X (compareOp op) r) (P : Prim2 X.K f r) (ha : PE X a (tE X.K ga)) (hb : PE X b (tE X.K gb)) (hm : behindInMarks op b = false := by first | exact nomark _ | rfl) : PT X (.Compare a [op] [b] pos) (tT X.K (tOf (eOp2 f ga gb))) :=
  (pt_cmpR ho ha hb hm).imp fun σ H Q h => by
    have q : tE X.K (eOp2 f ga gb) σ H (fun x H' => ∃ k, x = V.bl k ∧ Q k H') := tOf_reads h
    exact op2_reads P q
theorem pu_tnot (ha : PT X a (tT X.K ta)) : PT X (.UnaryOp .Not a pos) (tT X.K (tNot ta)) := (pt_not ha).imp fun σ H Q ⟨ρ, b, ρ', E, hg, q⟩ => by
  unfold tNot at hg
  obtain ⟨⟨c, ρ1⟩, h1, hg⟩ := Option.map_eq_some_iff.mp hg
  cases hg
  exact ⟨ρ, c, ρ1, E, h1, fun H1 E1 s1 => q H1 E1 s1⟩
theorem tAnd_reads {σ : L2.St} {H : Hp} {Q : Bool → Hp → Prop} (h : tT K (tAnd ta tb) σ H Q) : L2.tAnd (tT K ta) (tT K tb) σ H Q := by
  obtain ⟨ρ, b, ρ', E, hg, q⟩ := h
  unfold tAnd at hg
  obtain ⟨⟨c, ρ1⟩, h1, hg⟩ := Option.bind_eq_some_iff.mp hg
  refine ⟨ρ, c, ρ1, E, h1, fun H1 E1 s1 => ?_⟩
  cases c with
  | true => exact iteT ⟨ρ1, b, ρ', E1, by simpa using hg, fun H2 E2 s2 => q H2 E2 (s1.trans s2)⟩
  | false =>
    simp at hg
    obtain ⟨rfl, rfl⟩ := hg
    exact iteF (q H1 E1 s1)
theorem tOr_reads {σ : L2.St} {H : Hp} {Q : Bool → Hp → Prop} (h : tT K (tOr ta tb) σ H Q) : L2.tOr (tT K ta) (tT K tb) σ H Q := by
  obtain ⟨ρ, b, ρ', E, hg, q⟩ := h
  unfold tOr at hg
  obtain ⟨⟨c, ρ1⟩, h1, hg⟩ := Option.bind_eq_some_iff.mp hg
  refine ⟨ρ, c, ρ1, E, h1, fun H1 E1 s1 => ?_⟩
  cases c with
  | false => exact iteF ⟨ρ1, b, ρ', E1, by simpa using hg, fun H2 E2 s2 => q H2 E2 (s1.trans s2)⟩
  | true =>
    simp at hg
    obtain ⟨rfl, rfl⟩ := hg
    exact iteT (q H1 E1 s1)
theorem _root_.L2.PW.imp {e : Expr} {t t' : TT} (h : PW X e t) (k : ∀ σ H Q, t' σ H Q → t σ H Q) : PW X e t' := ⟨fun whole pins s σ H Q I q => h.run whole pins s σ H Q I (k σ H Q q)⟩
theorem pu_wand1 (ha : PT X a (tT X.K ta)) : PW X (.BoolOp .And [a] pos) (tT X.K ta) := pw_and1 ha
theorem pu_wor1 (ha : PT X a (tT X.K ta)) : PW X (.BoolOp .Or [a] pos) (tT X.K ta) := pw_or1 ha
theorem pu_wand {rest : List Expr} (ha : PT X a (tT X.K ta)) (hb : PW X (.BoolOp .And (b :: rest) pos) (tT X.K tb)) : PW X (.BoolOp .And (a :: b :: rest) pos) (tT X.K (tAnd ta tb)) := (pw_and ha hb).imp fun σ H Q h => tAnd_reads h
theorem pu_wor {rest : List Expr} (ha : PT X a (tT X.K ta)) (hb : PW X (.BoolOp .Or (b :: rest) pos) (tT X.K tb)) : PW X (.BoolOp .Or (a :: b :: rest) pos) (tT X.K (tOr ta tb)) := (pw_or ha hb).imp fun σ H Q h => tOr_reads h

theorem pu_not (ha : PE X a (tE X.K ga)) : PE X (.UnaryOp .Not a pos) (tE X.K (eNot ga)) := (pe_not ha).imp fun σ H Q ⟨ρ, r, ρ', E, hg, q⟩ => by
  unfold eNot at hg
  obtain ⟨⟨c, ρ1⟩, h1, hg⟩ := Option.map_eq_some_iff.mp hg
  cases hg
  exact tOf_reads (Q := fun c H1 => Q (.bl (!c)) H1) ⟨ρ, c, ρ1, E, h1, fun H1 E1 s1 => q _ H1 E1 s1 (.bl _)⟩
theorem pu_and1 {op} (ha : PE X a (tE X.K ga)) : PE X (.BoolOp op [a] pos) (tE X.K ga) := pe_one ha
theorem pu_and {rest : List Expr} (ha : PE X a (tE X.K ga)) (hb : PE X (.BoolOp .And (b :: rest) pos) (tE X.K gb)) : PE X (.BoolOp .And (a :: b :: rest) pos) (tE X.K (eAnd ga gb)) := (pe_and ha hb).imp fun σ H Q ⟨ρ, r, ρ', E, hg, q⟩ => by
  unfold eAnd at hg
  obtain ⟨⟨c, ρ1⟩, h1, hg⟩ := Option.bind_eq_some_iff.mp hg
  refine tOf_reads (Q := fun c H1 => if c = true then tE X.K gb σ H1 Q else Q (.bl false) H1) ⟨ρ, c, ρ1, E, h1, fun H1 E1 s1 => ?_⟩
  cases c with
  | true => exact iteT ⟨ρ1, r, ρ', E1, by simpa using hg, fun v H2 E2 s2 R2 => q v H2 E2 (s1.trans s2) (R2.base fun p hp => s1.toStp.back hp)⟩
  | false =>
    simp at hg
    obtain ⟨rfl, rfl⟩ := hg
    exact iteF (q _ H1 E1 s1 (.bl _))
theorem pu_or {rest : List Expr} (ha : PE X a (tE X.K ga)) (hb : PE X (.BoolOp .Or (b :: rest) pos) (tE X.K gb)) : PE X (.BoolOp .Or (a :: b :: rest) pos) (tE X.K (eOr ga gb)) := (pe_or ha hb).imp fun σ H Q ⟨ρ, r, ρ', E, hg, q⟩ => by
  unfold eOr at hg
  obtain ⟨⟨c, ρ1⟩, h1, hg⟩ := Option.bind_eq_some_iff.mp hg
  refine tOf_reads (Q := fun c H1 => if c = true then Q (.bl true) H1 else tE X.K gb σ H1 Q) ⟨ρ, c, ρ1, E, h1, fun H1 E1 s1 => ?_⟩
  cases c with
  | false => exact iteF ⟨ρ1, r, ρ', E1, by simpa using hg, fun v H2 E2 s2 R2 => q v H2 E2 (s1.trans s2) (R2.base fun p hp => s1.toStp.back hp)⟩
  | true =>
    simp at hg
    obtain ⟨rfl, rfl⟩ := hg
    exact iteT (q _ H1 E1 s1 (.bl _))
theorem pu_ifExp {c : Expr} (hc : PT X c (tT X.K ta)) (ha : PE X a (tE X.K ga)) (hb : PE X b (tE X.K gb)) : PE X (.IfExp c a b pos) (tE X.K (eIf ta ga gb)) := (pe_ifExp hc ha hb).imp fun σ H Q ⟨ρ, r, ρ', E, hg, q⟩ => by
  unfold eIf at hg
  obtain ⟨⟨c, ρ1⟩, h1, hg⟩ := Option.bind_eq_some_iff.mp hg
  refine ⟨ρ, c, ρ1, E, h1, fun H1 E1 s1 => ?_⟩
  cases c with
  | true => exact iteT ⟨ρ1, r, ρ', E1, by simpa using hg, fun v H2 E2 s2 R2 => q v H2 E2 (s1.trans s2) (R2.base fun p hp => s1.toStp.back hp)⟩
  | false => exact iteF ⟨ρ1, r, ρ', E1, by simpa using hg, fun v H2 E2 s2 R2 => q v H2 E2 (s1.trans s2) (R2.base fun p hp => s1.toStp.back hp)⟩
end
end Pu
set_option maxRecDepth 100000
namespace Pu
open PySem PySem.Spec PyProof.Rows L2
variable [Wd]

def RRt (K : Frag) (σ : L2.St) (ρ : Env) (H H' : Hp) (σ' : L2.St) (ρ' : Env) : Res → V → Prop
  | .var _, _ => False
  | .sh d, v => Rep K H' d v
  | .ow d, v => ∃ p, v = .ref p ∧ (Own σ ρ p ∨ H p = none) ∧ Ob K H' p d ∧ ¬ Own σ' ρ' p
  | .tx p d, v => Rep K H' d v ∧ PtOk H' p v
def OutP (K : Frag) (Dn : Ends) (σ : L2.St) (ρ : Env) (H : Hp) : Out → Prop
  | .nx ρ' => ∀ σ' H', ER K H' σ' ρ' → Stp σ ρ H σ' ρ' H' → Dn.nx σ' H'
  | .rt r ρ' => ∀ v σ' H', ER K H' σ' ρ' → Stp σ ρ H σ' ρ' H' → RRt K σ ρ H H' σ' ρ' r v → Dn.rt v H'
  | .bk ρ' => ∀ σ' H', ER K H' σ' ρ' → Stp σ ρ H σ' ρ' H' → Dn.bk σ' H'
  | .ct ρ' => ∀ σ' H', ER K H' σ' ρ' → Stp σ ρ H σ' ρ' H' → Dn.ct σ' H'
def tS (K : Frag) (g : S) : TS := fun Dn σ H => ∃ ρ o, ER K H σ ρ ∧ g ρ = some o ∧ OutP K Dn σ ρ H o
theorem RRt.from {K : Frag} {σ σ1 σ' : L2.St} {ρ ρ1 ρ' : Env} {H H1 H' : Hp} {r : Res} {v : V} (h : RRt K σ1 ρ1 H1 H' σ' ρ' r v) (s : Stp σ ρ H σ1 ρ1 H1) : RRt K σ ρ H H' σ' ρ' r v := by
  cases r with
  | var i => exact h
  | tx _ _ => exact h
  | sh d => exact h
  | ow d =>
    obtain ⟨p, e, hp, q⟩ := h
    exact ⟨p, e, hp.elim (fun z => s.own p z) (fun z => .inr (s.back z)), q⟩
theorem OutP.from {K : Frag} {Dn : Ends} {σ σ1 : L2.St} {ρ ρ1 : Env} {H H1 : Hp} {o : Out} (h : OutP K Dn σ ρ H o) (s : Stp σ ρ H σ1 ρ1 H1) : OutP K Dn σ1 ρ1 H1 o := by
  cases o with
  | nx ρ' => exact fun σ' H' E' s' => h σ' H' E' (s.trans s')
  | rt r ρ' => exact fun v σ' H' E' s' R' => h v σ' H' E' (s.trans s') (R'.from s)
  | bk ρ' => exact fun σ' H' E' s' => h σ' H' E' (s.trans s')
  | ct ρ' => exact fun σ' H' E' s' => h σ' H' E' (s.trans s')

section
variable {X : Cx} {K : Frag} {st : Stmt} {rest : List Stmt} {e c : Expr} {g : M} {ga gb : S} {t : T} {pos : Pos}
theorem pu_nil : PSs X [] (tS X.K sNop) := pss_nil.imp fun Dn σ H ⟨ρ, o, E, hg, q⟩ => by
  cases hg
  exact q σ H E (.refl _ _ _)
theorem sSeq_reads {Dn : Ends} {σ : L2.St} {H : Hp} (h : tS K (sSeq ga gb) Dn σ H) : tSeq (tS K ga) (tS K gb) Dn σ H := by
  obtain ⟨ρ, o, E, hg, q⟩ := h
  unfold sSeq at hg
  obtain ⟨o1, h1, hg⟩ := Option.bind_eq_some_iff.mp hg
  refine ⟨ρ, o1, E, h1, ?_⟩
  cases o1 with
  | nx ρ1 => exact fun σ1 H1 E1 s1 => ⟨ρ1, o, E1, hg, q.from s1⟩
  | rt r ρ1 => cases hg; exact q
  | bk ρ1 => cases hg; exact q
  | ct ρ1 => cases hg; exact q
theorem pu_cons (h1 : PS X st (tS X.K ga)) (h2 : PSs X rest (tS X.K gb)) : PSs X (st :: rest) (tS X.K (sSeq ga gb)) := (pss_cons h1 h2).imp fun Dn σ H h => sSeq_reads h
theorem pu_one (h1 : PS X st (tS X.K ga)) : PSs X [st] (tS X.K ga) := pss_one h1
theorem pu_expr (he : PE X e (tE X.K g)) (hs : swapsWith e none pos.line X.env = pure false := by rfl) : PS X (.Expr e pos) (tS X.K (sExpr g)) := (ps_expr he hs).imp fun Dn σ H ⟨ρ, o, E, hg, q⟩ => by
  unfold sExpr at hg
  obtain ⟨⟨r, ρ1⟩, h1, hg⟩ := Option.map_eq_some_iff.mp hg
  cases hg
  exact ⟨ρ, r, ρ1, E, h1, fun v H1 E1 s1 R1 => q σ H1 E1 s1.toStp⟩
theorem pu_if {a b : List Stmt} (hc : PT X c (tT X.K t)) (ha : PSs X a (tS X.K ga)) (hb : PSs X b (tS X.K gb)) : PS X (.If c a b pos) (tS X.K (sIf t ga gb)) := (ps_if hc ha hb).imp fun Dn σ H ⟨ρ, o, E, hg, q⟩ => by
  unfold sIf at hg
  obtain ⟨⟨b, ρ1⟩, h1, hg⟩ := Option.bind_eq_some_iff.mp hg
  refine ⟨ρ, b, ρ1, E, h1, fun H1 E1 s1 => ?_⟩
  cases b with
  | true => exact iteT ⟨ρ1, o, E1, by simpa using hg, q.from s1.toStp⟩
  | false => exact iteF ⟨ρ1, o, E1, by simpa using hg, q.from s1.toStp⟩
theorem pu_ret (he : PE X e (tE X.K g)) : PS X (.Return (some e) pos) (tS X.K (sRet g)) := (ps_ret he).imp fun Dn σ H ⟨ρ, o, E, hg, q⟩ => by
  unfold sRet at hg
  obtain ⟨⟨r, ρ1⟩, h1, hg⟩ := Option.bind_eq_some_iff.mp hg
  obtain ⟨⟨r2, ρ2⟩, h2, hg⟩ := Option.map_eq_some_iff.mp hg
  cases hg
  refine ⟨ρ, r, ρ1, E, h1, fun v H1 E1 s1 R1 => ?_⟩
  cases r with
  | sh d => cases h2; exact q v σ H1 E1 s1.toStp R1
  | tx _ _ => cases h2; exact q v σ H1 E1 s1.toStp R1
  | ow d => cases h2; obtain ⟨p, e, hp, k⟩ := R1; exact q v σ H1 E1 s1.toStp ⟨p, e, .inr hp, k⟩
  | var i =>
    have R1 : σ[i]? = some (some v) := R1
    unfold giveUp at h2
    simp only at h2
    cases hi : ρ1[i]? with
    | none => rw [hi] at h2; cases h2
    | some t =>
      rw [hi] at h2
      cases t with
      | no => cases h2
      | gh z => cases h2
      | xt z =>
        cases z with
        | ad a => cases h2
        | tx pt z =>
          cases h2
          obtain ⟨w, e1, e2⟩ := E1.xt i _ hi
          rw [R1] at e1; cases e1
          exact q v σ H1 E1 s1.toStp e2
      | bo z => cases h2
      | sh z =>
        cases h2
        obtain ⟨w, e1, e2⟩ := E1.sh i _ hi
        rw [R1] at e1; cases e1
        exact q v σ H1 E1 s1.toStp e2
      | ow z =>
        cases h2
        obtain ⟨a, e1, ob⟩ := E1.ow i _ (.inl hi)
        rw [R1] at e1; cases e1
        have oa : Own σ ρ1 a := ⟨i, ⟨_, .inl hi⟩, R1⟩
        have io : ∀ j, IsO (ρ1.set i .no) j → j ≠ i ∧ IsO ρ1 j := fun j hj => by
          obtain ⟨x, hx⟩ := hj
          by_cases hji : i = j
          · subst hji
            rw [List.getElem?_set] at hx
            simp only [if_true] at hx
            split at hx <;> rcases hx with hx | hx | hx <;> cases hx
          · rw [List.getElem?_set_ne hji] at hx
            exact ⟨fun z => hji z.symm, x, hx⟩
        have E2 : ER X.K H1 σ (ρ1.set i .no) := by
          refine ⟨by rw [List.length_set]; exact E1.len, fun j x h => ?_, fun j x h => ?_, fun j k b h1 h2 => E1.ap j k b (io j h1).2 (io k h2).2, fun j x h => ?_, fun j x h => ?_⟩
          · by_cases hji : i = j
            · subst hji
              rw [List.getElem?_set] at h
              simp only [if_true] at h
              split at h <;> cases h
            · rw [List.getElem?_set_ne hji] at h; exact E1.sh j x h
          · obtain ⟨hji, _⟩ := io j (.ob h)
            rw [List.getElem?_set_ne (fun z => hji z.symm)] at h
            exact E1.ow j x h
          · obtain ⟨hji, _⟩ := io j (.gh h)
            rw [List.getElem?_set_ne (fun z => hji z.symm)] at h
            exact E1.gh j x h
          · by_cases hji : i = j
            · subst hji
              rw [List.getElem?_set] at h
              simp only [if_true] at h
              split at h <;> cases h
            · rw [List.getElem?_set_ne hji] at h; exact E1.xt j x h
        have s2 : Stp σ ρ1 H1 σ (ρ1.set i .no) H1 := ⟨fun _ _ h _ => h, fun b ⟨j, hj, ho⟩ => .inl ⟨j, (io j hj).2, ho⟩, fun j x h => ⟨rfl, x, by
          have : i ≠ j := by rintro rfl; rw [hi] at h; cases h
          rw [List.getElem?_set_ne this]; exact h⟩, fun _ o h => ⟨o, h⟩, rfl, fun j x h => ⟨rfl, x, by
          have : i ≠ j := by rintro rfl; rw [hi] at h; cases h
          rw [List.getElem?_set_ne this]; exact h⟩⟩
        refine q _ σ H1 E2 (s1.toStp.trans s2) ⟨a, rfl, s1.own a oa, ob, fun ⟨j, hj, ho⟩ => ?_⟩
        exact (io j hj).1 (E1.ap j i a (io j hj).2 ⟨_, .inl hi⟩ ho R1)

def HR (K : Frag) (H H' : Hp) (σ : L2.St) (ρ' : Env) : Slot → V → Prop
  | .sh d, v => Rep K H' d v
  | .ow d, v => ∃ p, v = .ref p ∧ H p = none ∧ Ob K H' p d ∧ ¬ Own σ ρ' p
  | .xt q, v => XOk K H' q v
  | _, _ => False
def tHold (K : Frag) (g : M) : TE := fun σ H Q => ∃ ρ r ρ1 u ρ', ER K H σ ρ ∧ g ρ = some (r, ρ1) ∧ hold r ρ1 = some (u, ρ') ∧ ∀ v H', ER K H' σ ρ' → StpE σ ρ H ρ' H' → HR K H H' σ ρ' u v → Q v H'
theorem pe_hold (h : PE X e (tE X.K g)) : PE X e (tHold X.K g) := by
  refine ⟨fun pins s σ H Q I ⟨ρ, r, ρ1, u, ρ', E, hg, hh, q⟩ => ?_⟩
  cases r with
  | tx _ _ => cases hh; exact h.run pins s σ H Q I ⟨ρ, _, ρ1, E, hg, fun v H1 E1 s1 R1 => q v H1 E1 s1 R1⟩
  | sh d => cases hh; exact h.run pins s σ H Q I ⟨ρ, _, ρ1, E, hg, fun v H1 E1 s1 R1 => q v H1 E1 s1 R1⟩
  | ow d => cases hh; exact h.run pins s σ H Q I ⟨ρ, _, ρ1, E, hg, fun v H1 E1 s1 R1 => q v H1 E1 s1 R1⟩
  | var i =>
    unfold hold at hh
    obtain ⟨⟨d, ρ2⟩, h1, h2⟩ := Option.map_eq_some_iff.mp hh
    cases h2
    exact (pe_share h).run pins s σ H Q I ⟨ρ, _, ρ1, d, ρ2, E, hg, h1, fun v H1 E1 s1 R1 => q v H1 E1 s1 R1⟩
theorem setSlot_some {i : Nat} {u : Slot} {ρ ρ' : Env} (h : setSlot i u ρ = some ρ') : i < ρ.length ∧ ρ' = ρ.set i u ∧ ∀ d, ρ[i]? ≠ some (.bo d) ∧ ρ[i]? ≠ some (.gh d) := by
  unfold setSlot at h
  cases hi : ρ[i]? with
  | none => rw [hi] at h; cases h
  | some z =>
    have hl := (List.getElem?_eq_some_iff.mp hi).1
    rw [hi] at h
    cases z with
    | no => cases h; exact ⟨hl, rfl, fun d => ⟨fun z => (by cases z), fun z => (by cases z)⟩⟩
    | sh d => cases h; exact ⟨hl, rfl, fun d => ⟨fun z => (by cases z), fun z => (by cases z)⟩⟩
    | ow d => cases h; exact ⟨hl, rfl, fun d => ⟨fun z => (by cases z), fun z => (by cases z)⟩⟩
    | bo d => cases h
    | gh d => cases h
    | xt q =>
      cases q with
      | ad a => cases h
      | tx pt d => cases h; exact ⟨hl, rfl, fun d => ⟨fun z => (by cases z), fun z => (by cases z)⟩⟩
theorem set_ok {H0 H H' : Hp} {σ0 σ : L2.St} {ρ0 ρ ρ' : Env} {i : Nat} {u : Slot} {v : V} (E : ER K H' σ ρ) (s : Stp σ0 ρ0 H0 σ ρ H') (hH : ∀ p, H p = none → H0 p = none) (h : HR K H H' σ ρ u v) (hs : setSlot i u ρ = some ρ') :
    ER K H' (σ.set i (some v)) ρ' ∧ Stp σ0 ρ0 H0 (σ.set i (some v)) ρ' H' := by
  obtain ⟨hl, rfl, nb⟩ := setSlot_some hs
  have hls : i < σ.length := by rw [E.len]; exact hl
  have at_i : (ρ.set i u)[i]? = some u := List.getElem?_set_self hl
  have at_s : (σ.set i (some v))[i]? = some (some v) := List.getElem?_set_self hls
  have else_ : ∀ j, i ≠ j → (ρ.set i u)[j]? = ρ[j]? := fun j h => List.getElem?_set_ne h
  have elses : ∀ j, i ≠ j → (σ.set i (some v))[j]? = σ[j]? := fun j h => List.getElem?_set_ne h
  have isO_else : ∀ j, i ≠ j → IsO (ρ.set i u) j → IsO ρ j := fun j h ⟨x, hx⟩ => ⟨x, by rw [else_ j h] at hx; exact hx⟩
  -- the owned address at i
  have own_i : IsO (ρ.set i u) i → ∃ p, v = .ref p ∧ H p = none ∧ ¬ Own σ ρ p ∧ ∃ d, u = .ow d ∧ Ob K H' p d := fun ⟨x, hx⟩ => by
    rw [at_i] at hx
    cases u with
    | no => rcases hx with hx | hx | hx <;> cases hx
    | sh d => rcases hx with hx | hx | hx <;> cases hx
    | bo d => exact h.elim
    | gh d => exact h.elim
    | xt q => rcases hx with hx | hx | hx <;> cases hx
    | ow d => obtain ⟨p, e, hp, ob, no⟩ := h; exact ⟨p, e, hp, no, d, rfl, ob⟩
  refine ⟨⟨by rw [List.length_set, List.length_set]; exact E.len, fun j d hj => ?_, fun j d hj => ?_, fun j k a hj hk e1 e2 => ?_, fun j d hj => ?_, fun j d hj => ?_⟩, ⟨s.keep, fun a ⟨j, hj, e1⟩ => ?_, fun j d hj => ?_, s.live, by rw [List.length_set]; exact s.len, fun j d hj => ?_⟩⟩
  · by_cases hij : i = j
    · subst hij
      rw [at_i] at hj
      cases hj
      exact ⟨v, at_s, h⟩
    · rw [else_ j hij] at hj
      rw [elses j hij]
      exact E.sh j d hj
  · by_cases hij : i = j
    · subst hij
      obtain ⟨p, rfl, _, _, d', rfl, ob⟩ := own_i (.ob hj)
      rw [at_i] at hj
      rcases hj with hj | hj
      · cases hj; exact ⟨p, at_s, ob⟩
      · cases hj
    · rw [else_ j hij] at hj
      rw [elses j hij]
      exact E.ow j d hj
  · by_cases hij : i = j
    · subst hij
      by_cases hik : i = k
      · exact hik
      · obtain ⟨p, rfl, _, no, _⟩ := own_i hj
        rw [at_s] at e1; cases e1
        rw [elses k hik] at e2
        exact (no ⟨k, isO_else k hik hk, e2⟩).elim
    · by_cases hik : i = k
      · subst hik
        obtain ⟨p, rfl, _, no, _⟩ := own_i hk
        rw [at_s] at e2; cases e2
        rw [elses j hij] at e1
        exact (no ⟨j, isO_else j hij hj, e1⟩).elim
      · rw [elses j hij] at e1
        rw [elses k hik] at e2
        exact E.ap j k a (isO_else j hij hj) (isO_else k hik hk) e1 e2
  · by_cases hij : i = j
    · subst hij
      obtain ⟨p, rfl, _, _, d', rfl, ob⟩ := own_i (.gh hj)
      rw [at_i] at hj; cases hj
    · rw [else_ j hij] at hj
      rw [elses j hij]
      exact E.gh j d hj
  · by_cases hij : i = j
    · subst hij
      rw [at_i] at hj
      cases hj
      exact ⟨v, at_s, h⟩
    · rw [else_ j hij] at hj
      rw [elses j hij]
      exact E.xt j d hj
  · by_cases hij : i = j
    · subst hij
      obtain ⟨p, rfl, hp, _, _⟩ := own_i hj
      rw [at_s] at e1; cases e1
      exact .inr (hH _ hp)
    · rw [elses j hij] at e1
      exact s.own a ⟨j, isO_else j hij hj, e1⟩
  · obtain ⟨e1, d', e2⟩ := s.bo j d hj
    have hij : i ≠ j := by rintro rfl; exact (nb _).1 e2
    exact ⟨(elses j hij).trans e1, d', (else_ j hij).trans e2⟩
  · obtain ⟨e1, d', e2⟩ := s.gh j d hj
    have hij : i ≠ j := by rintro rfl; exact (nb _).2 e2
    exact ⟨(elses j hij).trans e1, d', (else_ j hij).trans e2⟩
theorem sSet_reads {i : Nat} {Dn : Ends} {σ : L2.St} {H : Hp} (h : tS K (sSet i g) Dn σ H) : tAsg (tHold K g) (L2.gName i) Dn σ H := by
  obtain ⟨ρ, o, E, hg, q⟩ := h
  unfold sSet at hg
  obtain ⟨⟨r, ρ1⟩, h1, hg⟩ := Option.bind_eq_some_iff.mp hg
  obtain ⟨⟨u, ρ2⟩, h2, hg⟩ := Option.bind_eq_some_iff.mp hg
  obtain ⟨ρ3, h3, hg⟩ := Option.map_eq_some_iff.mp hg
  cases hg
  refine ⟨ρ, r, ρ1, u, ρ2, E, h1, h2, fun v H1 E1 s1 R1 => ?_⟩
  obtain ⟨E2, s2⟩ := set_ok E1 s1.toStp (fun _ h => h) R1 h3
  exact q _ H1 E2 s2
theorem pu_set {i : Nat} {x : Str} {pos' : Pos} (hN : X.N.Nodup) (hi : X.N[i]? = some x) (hx : Loc X.env.scope x) (he : PE X e (tE X.K g)) (hs : swapsWith e (some (.Name x pos')) pos.line X.env = pure false := by rfl) (hf : X.fn x = true ∨ X.env.scope.names.lookup x = some .local := by first | exact .inl rfl | exact .inr rfl | assumption) :
    PS X (.Assign [.Name x pos'] e pos) (tS X.K (sSet i g)) := (ps_set hN hi hx (pe_hold he) hs hf).imp fun Dn σ H h => sSet_reads h

def HRs (K : Frag) (H H' : Hp) (σ : L2.St) (ρ' : Env) : List Slot → List V → Prop
  | [], vs => vs = []
  | u :: us, vs => ∃ v vr, vs = v :: vr ∧ HR K H H' σ ρ' u v ∧ ((∃ d, u = .ow d) → ∀ (j : Nat) (d : D), us[j]? = some (.ow d) → vr[j]? ≠ some v) ∧ HRs K H H' σ ρ' us vr
def tHs (K : Frag) (g : Hs) : TA := fun σ H Q => ∃ ρ us ρ', ER K H σ ρ ∧ g ρ = some (us, ρ') ∧ ∀ vs H', ER K H' σ ρ' → StpE σ ρ H ρ' H' → HRs K H H' σ ρ' us vs → Q vs H'
theorem HR.later {H H1 H2 : Hp} {σ : L2.St} {ρ1 ρ2 : Env} {u : Slot} {v : V} (h : HR K H H1 σ ρ1 u v) (E1 : ER K H1 σ ρ1) (s : StpE σ ρ1 H1 ρ2 H2) : HR K H H2 σ ρ2 u v := by
  cases u with
  | no => exact h
  | bo d => exact h
  | gh d => exact h
  | xt d => exact XOk.ev h (s.toStp.ev E1)
  | sh d => exact Rep.ev h (s.toStp.ev E1)
  | ow d => exact RR.later (r := .ow d) h E1 s
theorem HR.base {H H0 H1 : Hp} {σ : L2.St} {ρ1 : Env} {u : Slot} {v : V} (h : HR K H H1 σ ρ1 u v) (k : ∀ p, H p = none → H0 p = none) : HR K H0 H1 σ ρ1 u v := by
  cases u with
  | no => exact h
  | bo d => exact h
  | gh d => exact h
  | xt d => exact h
  | sh d => exact h
  | ow d => exact RR.base (r := .ow d) h k
theorem HRs.base {H H0 H1 : Hp} {σ : L2.St} {ρ1 : Env} (k : ∀ p, H p = none → H0 p = none) : ∀ {us : List Slot} {vs : List V}, HRs K H H1 σ ρ1 us vs → HRs K H0 H1 σ ρ1 us vs
  | [], _, h => h
  | _ :: _, _, ⟨v, vr, e, h1, h2, h3⟩ => ⟨v, vr, e, h1.base k, h2, HRs.base k h3⟩
theorem HRs.get {H H1 : Hp} {σ : L2.St} {ρ1 : Env} : ∀ {us : List Slot} {vs : List V} {j : Nat} {d : D}, HRs K H H1 σ ρ1 us vs → us[j]? = some (.ow d) → ∃ p, vs[j]? = some (.ref p) ∧ H p = none
  | [], _, _, _, _, e => by simp at e
  | _ :: _, _, 0, d, ⟨v, vr, e1, h1, _, _⟩, e => by
    simp at e; subst e; subst e1
    obtain ⟨p, rfl, hp, _⟩ := h1
    exact ⟨p, rfl, hp⟩
  | _ :: _, _, j + 1, d, ⟨v, vr, e1, _, _, h3⟩, e => by
    subst e1
    exact HRs.get (j := j) h3 (by simpa using e)
theorem pu_hsNil : PA X [] (tHs X.K hsNil) := pa_nil.imp fun σ H Q ⟨ρ, rs, ρ', E, hg, q⟩ => by
  cases hg
  exact q [] H E (.refl _ _ _) rfl
theorem pu_hsCons {es : List Expr} {gh : Hs} (ha : PE X e (tE X.K g)) (hr : PA X es (tHs X.K gh)) (hs : starEach (e :: es) X.env = (false, eval e X.env) :: starEach es X.env := by rfl) : PA X (e :: es) (tHs X.K (hsCons g gh)) :=
  (pa_cons (pe_hold ha) hr hs).imp fun σ H Q ⟨ρ, rs, ρ', E, hg, q⟩ => by
    unfold hsCons at hg
    obtain ⟨⟨r1, ρ1⟩, h1, hg⟩ := Option.bind_eq_some_iff.mp hg
    obtain ⟨⟨u, ρ2⟩, h2, hg⟩ := Option.bind_eq_some_iff.mp hg
    obtain ⟨⟨us, ρ3⟩, h3, hg⟩ := Option.bind_eq_some_iff.mp hg
    cases hg
    refine ⟨ρ, r1, ρ1, u, ρ2, E, h1, h2, fun v H1 E1 s1 R1 => ⟨ρ2, us, ρ3, E1, h3, fun vs H2 E2 s2 R2 => ?_⟩⟩
    refine q _ H2 E2 (s1.trans s2) ⟨v, vs, rfl, R1.later E1 s2, fun ⟨d, hd⟩ j d' hj z => ?_, R2.base fun p hp => s1.toStp.back hp⟩
    subst hd
    obtain ⟨p, rfl, hp, ob, _⟩ := R1
    obtain ⟨p', e', hp'⟩ := R2.get hj
    rw [z] at e'; cases e'
    obtain ⟨o, e, _⟩ := ob.plain
    rw [hp'] at e; cases e
def setV : List Nat → List V → L2.St → L2.St
  | i :: is, v :: vs, σ => setV is vs (σ.set i (some v))
  | _, _, σ => σ
theorem HR.setd {H H1 : Hp} {σ : L2.St} {ρ : Env} {i : Nat} {u u1 : Slot} {v v1 : V} (h : HR K H H1 σ ρ u v) (hl : i < ρ.length) (hls : i < σ.length) (ne : (∃ d, u1 = .ow d) → (∃ d, u = .ow d) → v ≠ v1) (nb : ∀ d, u1 ≠ .bo d ∧ u1 ≠ .gh d) : HR K H H1 (σ.set i (some v1)) (ρ.set i u1) u v := by
  cases u with
  | no => exact h
  | bo d => exact h
  | gh d => exact h
  | xt d => exact h
  | sh d => exact h
  | ow d =>
    obtain ⟨p, rfl, hp, ob, no⟩ := h
    refine ⟨p, rfl, hp, ob, fun ⟨j, ⟨x, hx⟩, e⟩ => ?_⟩
    by_cases hij : i = j
    · subst hij
      rw [List.getElem?_set_self hl] at hx
      rw [List.getElem?_set_self hls] at e
      cases e
      rcases hx with hx | hx | hx
      · cases hx; exact ne ⟨_, rfl⟩ ⟨_, rfl⟩ rfl
      · cases hx; exact (nb _).1 rfl
      · cases hx; exact (nb _).2 rfl
    · rw [List.getElem?_set_ne hij] at hx e
      exact no ⟨j, ⟨x, hx⟩, e⟩
theorem setAll_ok {H0 H H' : Hp} {σ0 : L2.St} {ρ0 : Env} (hH : ∀ p, H p = none → H0 p = none) : ∀ {is : List Nat} {us : List Slot} {vs : List V} {σ : L2.St} {ρ ρ' : Env}, ER K H' σ ρ → Stp σ0 ρ0 H0 σ ρ H' → HRs K H H' σ ρ us vs → setAll is us ρ = some ρ' →
    ER K H' (setV is vs σ) ρ' ∧ Stp σ0 ρ0 H0 (setV is vs σ) ρ' H'
  | [], [], vs, σ, ρ, ρ', E, s, h, e => by cases e; cases h; exact ⟨E, s⟩
  | [], _ :: _, _, _, _, _, _, _, _, e => by cases e
  | _ :: _, [], _, _, _, _, _, _, _, e => by cases e
  | i :: is, u :: us, vs, σ, ρ, ρ', E, s, ⟨v, vr, e1, h1, h2, h3⟩, e => by
    subst e1
    unfold setAll at e
    obtain ⟨ρ1, e1, e⟩ := Option.bind_eq_some_iff.mp e
    obtain ⟨E1, s1⟩ := set_ok E s hH h1 e1
    obtain ⟨hl, rfl, nb⟩ := setSlot_some e1
    have hls : i < σ.length := by rw [E.len]; exact hl
    have nbo : ∀ d, u ≠ .bo d ∧ u ≠ .gh d := fun d => ⟨fun z => by subst z; exact h1, fun z => by subst z; exact h1⟩
    have go : ∀ {us : List Slot} {vr : List V}, ((∃ d, u = .ow d) → ∀ (j : Nat) (d : D), us[j]? = some (.ow d) → vr[j]? ≠ some v) → HRs K H H' σ ρ us vr → HRs K H H' (σ.set i (some v)) (ρ.set i u) us vr := by
      intro us
      induction us with
      | nil => intro vr _ h; exact h
      | cons w us ih =>
        rintro vr hn ⟨v', vr', rfl, q1, q2, q3⟩
        refine ⟨v', vr', rfl, q1.setd hl hls (fun z1 ⟨d, z2⟩ z3 => ?_) nbo, q2, ih (fun z j d hj => ?_) q3⟩
        · subst z2
          exact hn z1 0 d rfl (by rw [z3]; rfl)
        · exact hn z (j + 1) d (by simpa using hj)
    show ER K H' (setV is vr (σ.set i (some v))) ρ' ∧ Stp σ0 ρ0 H0 (setV is vr (σ.set i (some v))) ρ' H'
    exact setAll_ok hH E1 s1 (go h2 h3) e
theorem HRs.len {H H1 : Hp} {σ : L2.St} {ρ : Env} : ∀ {us : List Slot} {vs : List V}, HRs K H H1 σ ρ us vs → vs.length = us.length
  | [], _, h => by cases h; rfl
  | _ :: _, _, ⟨_, _, e, _, _, h⟩ => by subst e; simp [HRs.len h]
theorem setAll_len : ∀ {is : List Nat} {us : List Slot} {ρ ρ' : Env}, setAll is us ρ = some ρ' → us.length = is.length
  | [], [], _, _, _ => rfl
  | [], _ :: _, _, _, e => by cases e
  | _ :: _, [], _, _, e => by cases e
  | i :: is, u :: us, ρ, ρ', e => by
    unfold setAll at e
    obtain ⟨ρ1, _, e⟩ := Option.bind_eq_some_iff.mp e
    simp [setAll_len e]
theorem HRs.later {H H1 H2 : Hp} {σ : L2.St} {ρ1 ρ2 : Env} (E1 : ER K H1 σ ρ1) (s : StpE σ ρ1 H1 ρ2 H2) : ∀ {us : List Slot} {vs : List V}, HRs K H H1 σ ρ1 us vs → HRs K H H2 σ ρ2 us vs
  | [], _, h => h
  | _ :: _, _, ⟨v, vr, e, h1, h2, h3⟩ => ⟨v, vr, e, h1.later E1 s, h2, HRs.later E1 s h3⟩
theorem sPar_reads {is : List Nat} {gh : Hs} {Dn : Ends} {σ : L2.St} {H : Hp} (h : tS K (sPar is gh) Dn σ H) : tHs K gh σ H fun vs H1 => vs.length = is.length ∧ ∀ H2, Ex H1 H2 → Dn.nx (setV is vs σ) H2 := by
  obtain ⟨ρ, o, E, hg, q⟩ := h
  unfold sPar at hg
  obtain ⟨⟨us, ρ1⟩, h1, hg⟩ := Option.bind_eq_some_iff.mp hg
  obtain ⟨ρ2, h2, hg⟩ := Option.map_eq_some_iff.mp hg
  cases hg
  refine ⟨ρ, us, ρ1, E, h1, fun vs H1 E1 s1 R1 => ⟨R1.len.trans (setAll_len h2), fun H2 ex => ?_⟩⟩
  obtain ⟨E2, s2⟩ := setAll_ok (fun _ h => h) (E1.ex ex) (s1.trans (.ex ex)).toStp (R1.later E1 (.ex ex)) h2
  exact q _ H2 E2 s2
theorem pu_par2 {i j : Nat} {x y : Str} {a b : Expr} {gh : Hs} {px py pt : Pos} {kt k2 pt2} (hc : X.calm = true) (hN : X.N.Nodup) (hi : X.N[i]? = some x) (hj : X.N[j]? = some y) (hij : i ≠ j)
    (hx : X.env.scope.names.lookup x = some .local) (hy : X.env.scope.names.lookup y = some .local) (ha : PA X [a, b] (tHs X.K gh))
    (hw : swappedStores [.Tuple [.Name x px, .Name y py] kt pt] (.Tuple [a, b] k2 pt2) X.env = pure (some [x, y]))
    (hs : swapsWithSole [.Tuple [.Name x px, .Name y py] kt pt] (.Tuple [a, b] k2 pt2) pos.line X.env = pure false := by rfl) :
    PS X (.Assign [.Tuple [.Name x px, .Name y py] kt pt] (.Tuple [a, b] k2 pt2) pos) (tS X.K (sPar [i, j] gh)) := (ps_par hc hN hi hj hij hx hy ha hw hs).imp fun Dn σ H h => by
  obtain ⟨ρ, us, ρ1, E, h1, q⟩ := sPar_reads h
  refine ⟨ρ, us, ρ1, E, h1, fun vs H1 E1 s1 R1 => ?_⟩
  obtain ⟨hl, q⟩ := q vs H1 E1 s1 R1
  match vs, hl with
  | [v, w], _ => exact ⟨v, w, rfl, q H1 (.refl _)⟩
def gsNames : List Nat → TGs
  | [] => gNil
  | i :: is => gCons (L2.gName i) (gsNames is)
theorem gsNames_of : ∀ {is : List Nat} {vs : List V} {σ : L2.St} {H : Hp} {Q : L2.St → Hp → Prop}, vs.length = is.length → Q (setV is vs σ) H → gsNames is vs σ H Q
  | [], [], _, _, _, _, q => ⟨rfl, q⟩
  | _ :: is, v :: vs, _, _, _, hl, q => ⟨v, vs, rfl, gsNames_of (is := is) (by simpa using hl) q⟩
  | [], _ :: _, _, _, _, hl, _ => by simp at hl
  | _ :: _, [], _, _, _, hl, _ => by simp at hl
theorem pu_parN {is : List Nat} {ts es : List Expr} {gh : Hs} {kt k2 : Nat} {pt pt2 : Pos} (ha : PA X es (tHs X.K gh)) (hg : PG X (.Tuple ts kt pt) (L2.gTup X.K is.length (gsNames is))) (hz : is.length ≤ sizeLine := by decide)
    (hs : swapsWithSole [.Tuple ts kt pt] (.Tuple es k2 pt2) pos.line X.env = pure false := by rfl) (hw : swappedStores [.Tuple ts kt pt] (.Tuple es k2 pt2) X.env = pure none := by rfl)
    (h1 : (assignEach [.Tuple ts kt pt] X.env).map (·.2) = [assign (.Tuple ts kt pt) X.env] := by rfl) : PS X (.Assign [.Tuple ts kt pt] (.Tuple es k2 pt2) pos) (tS X.K (sPar is gh)) :=
  (ps_asg (pe_tup ha) hg hs hw h1).imp fun Dn σ H h => by
    obtain ⟨ρ, us, ρ1, E, h1, q⟩ := sPar_reads h
    refine ⟨ρ, us, ρ1, E, h1, fun vs H1 E1 s1 R1 => ?_⟩
    obtain ⟨hl, q⟩ := q vs H1 E1 s1 R1
    refine ⟨by rw [hl]; exact hz, fun p hp => ⟨p, vs, rfl, .inl (.inl upd_same), hl, gsNames_of hl (q _ (Ex.new hp))⟩⟩

def tG (K : Frag) (g : G) (ts : List Nat) : TG := fun v σ H Q => ∃ ρ d ρ', ER K H σ ρ ∧ Rep K H d v ∧ g d ρ = some ρ' ∧ ∀ σ', ER K H σ' ρ' → Stp σ ρ H σ' ρ' H → (∀ j, IsO ρ' j → IsO ρ j) → (∀ j, j ∉ ts → σ'[j]? = σ[j]?) → σ'.length = σ.length → Q σ' H
def tGs (K : Frag) (g : Gs) (ts : List Nat) : TGs := fun vs σ H Q => ∃ ρ ds ρ', ER K H σ ρ ∧ Reps K H ds vs ∧ g ds ρ = some ρ' ∧ ∀ σ', ER K H σ' ρ' → Stp σ ρ H σ' ρ' H → (∀ j, IsO ρ' j → IsO ρ j) → (∀ j, j ∉ ts → σ'[j]? = σ[j]?) → σ'.length = σ.length → Q σ' H
theorem _root_.L2.PG.imp {tg : Expr} {t t' : TG} (h : PG X tg t) (k : ∀ v σ H Q, t' v σ H Q → t v σ H Q) : PG X tg t' := ⟨fun pins s σ H v u Q I r q => h.run pins s σ H v u Q I r (k v σ H Q q)⟩
theorem _root_.L2.PGs.imp {tg : List Expr} {t t' : TGs} (h : PGs X tg t) (k : ∀ v σ H Q, t' v σ H Q → t v σ H Q) : PGs X tg t' := ⟨fun pins s σ H v u Q I r q => h.run pins s σ H v u Q I r (k v σ H Q q)⟩
theorem pu_gName {i : Nat} {x : Str} (hN : X.N.Nodup) (hi : X.N[i]? = some x) (hx : Loc X.env.scope x) (hf : X.fn x = true ∨ X.env.scope.names.lookup x = some .local := by first | exact .inl rfl | exact .inr rfl | assumption) : PG X (.Name x pos) (tG X.K (gName i) [i]) :=
  (pg_name hN hi hx hf).imp fun v σ H Q ⟨ρ, d, ρ', E, r, hg, q⟩ => by
    obtain ⟨E1, s1⟩ := set_ok (H := H) (H0 := H) E (.refl σ ρ H) (fun _ h => h) (u := .sh d) (v := v) r hg
    obtain ⟨hl, rfl, nb⟩ := setSlot_some hg
    refine q _ E1 s1 (fun j hj => (IsO.set hj).2) (fun j hj => List.getElem?_set_ne ?_) (by rw [List.length_set])
    rintro rfl; exact hj (by simp)
theorem pu_gsNil : PGs X [] (tGs X.K gsNil []) := pgs_nil.imp fun vs σ H Q ⟨ρ, ds, ρ', E, r, hg, q⟩ => by
  unfold gsNil at hg
  cases ds with
  | nil =>
    cases hg
    exact ⟨r.nil_inv, q σ E (.refl _ _ _) (fun _ h => h) (fun _ _ => rfl) rfl⟩
  | cons _ _ => cases hg
theorem pu_gsCons {es : List Expr} {g : G} {gs : Gs} {ts us : List Nat} (h1 : PG X e (tG X.K g ts)) (h2 : PGs X es (tGs X.K gs us)) (hs : (assignEach (e :: es) X.env).map (·.2) = assign e X.env :: (assignEach es X.env).map (·.2) := by rfl) : PGs X (e :: es) (tGs X.K (gsCons g gs) (ts ++ us)) :=
  (pgs_cons h1 h2 hs).imp fun vs σ H Q ⟨ρ, ds, ρ', E, r, hg, q⟩ => by
    cases ds with
    | nil => cases hg
    | cons d ds =>
      obtain ⟨ρ1, h1, hg⟩ := Option.bind_eq_some_iff.mp (show (g d ρ).bind (gs ds) = some ρ' from hg)
      obtain ⟨x, xs, rfl, r1, r2⟩ := r.uncons
      refine ⟨x, xs, rfl, ρ, d, ρ1, E, r1, h1, fun σ1 E1 s1 o1 k1 l1 => ⟨ρ1, ds, ρ', E1, r2, hg, fun σ2 E2 s2 o2 k2 l2 => ?_⟩⟩
      exact q σ2 E2 (s1.trans s2) (fun j hj => o1 j (o2 j hj)) (fun j hj => (k2 j fun z => hj (List.mem_append_right _ z)).trans (k1 j fun z => hj (List.mem_append_left _ z))) (l2.trans l1)
theorem pu_gTup {es : List Expr} {k n : Nat} {gs : Gs} {ts : List Nat} (hc : X.calm = true) (h : PGs X es (tGs X.K gs ts)) (hl : ∀ ds ρ ρ', gs ds ρ = some ρ' → ds.length = n) (hn : (assignEach es X.env).length = n := by rfl) (hst : (assignEach es X.env).findIdx? (·.1) = none := by rfl) : PG X (.Tuple es k pos) (tG X.K (gTup gs) ts) :=
  (pg_tup hc h hn hst).imp fun v σ H Q ⟨ρ, d, ρ', E, r, hg, q⟩ => by
    cases d with
    | tuple ds =>
      cases r with
      | tup ha hl' hr => exact ⟨_, _, rfl, ha.sq, by rw [← hl']; exact hl ds ρ ρ' hg, ρ, ds, ρ', E, ⟨hl', hr⟩, hg, q⟩
    | _ => cases hg
theorem gsNil_len : ∀ ds ρ ρ', gsNil ds ρ = some ρ' → ds.length = 0 := fun ds ρ ρ' h => by
  cases ds with
  | nil => rfl
  | cons _ _ => cases h
theorem gsCons_len {g : G} {gs : Gs} {n : Nat} (hl : ∀ ds ρ ρ', gs ds ρ = some ρ' → ds.length = n) : ∀ ds ρ ρ', gsCons g gs ds ρ = some ρ' → ds.length = n + 1 := fun ds ρ ρ' h => by
  cases ds with
  | nil => cases h
  | cons d ds =>
    obtain ⟨ρ1, h1, hg⟩ := Option.bind_eq_some_iff.mp (show (g d ρ).bind (gs ds) = some ρ' from h)
    simp [hl _ _ _ hg]
theorem pu_unp {tg : Expr} {gt : G} {ts : List Nat} (he : PE X e (tE X.K g)) (hg : PG X tg (tG X.K gt ts)) (hs : swapsWithSole [tg] e pos.line X.env = pure false := by rfl) (hw : swappedStores [tg] e X.env = pure none := by rfl)
    (h1 : (assignEach [tg] X.env).map (·.2) = [assign tg X.env] := by rfl) : PS X (.Assign [tg] e pos) (tS X.K (sUnp gt g)) := (ps_asg (pe_share he) hg hs hw h1).imp fun Dn σ H ⟨ρ, o, E, hg, q⟩ => by
  unfold sUnp at hg
  obtain ⟨⟨r, ρ1⟩, h1, hg⟩ := Option.bind_eq_some_iff.mp hg
  obtain ⟨⟨d, ρ2⟩, h2, hg⟩ := Option.bind_eq_some_iff.mp hg
  obtain ⟨ρ3, h3, hg⟩ := Option.map_eq_some_iff.mp hg
  cases hg
  exact ⟨ρ, r, ρ1, d, ρ2, E, h1, h2, fun v H1 E1 s1 R1 => ⟨ρ2, d, ρ3, E1, R1, h3, fun σ' E2 s2 _ _ _ => q σ' H1 E2 (s1.toStp.trans s2)⟩⟩

def sWhileP (t : T) (b : S) (ρ : Env) (o : Out) : Prop := ∃ n, whileGo t b n ρ = some o
noncomputable def sWhile (t : T) (b : S) : S := fun ρ => open Classical in if h : ∃ o, sWhileP t b ρ o then some h.choose else none
theorem whileGo_mono {t : T} {b : S} : ∀ {n : Nat} {ρ : Env} {o : Out}, whileGo t b n ρ = some o → whileGo t b (n + 1) ρ = some o
  | 0, _, _, h => by cases h
  | n + 1, ρ, o, h => by
    unfold whileGo at h ⊢
    obtain ⟨⟨c, ρ1⟩, h1, h⟩ := Option.bind_eq_some_iff.mp h
    rw [h1]
    simp only [Option.bind_some]
    simp only at h
    split at h
    · rename_i hc
      rw [if_pos hc]
      obtain ⟨o1, h2, h⟩ := Option.bind_eq_some_iff.mp h
      rw [h2]
      simp only [Option.bind_some]
      cases o1 with
      | nx ρ2 => exact whileGo_mono h
      | ct ρ2 => exact whileGo_mono h
      | bk ρ2 => exact h
      | rt r ρ2 => exact h
    · rename_i hc
      rw [if_neg hc]; exact h
theorem whileGo_le {t : T} {b : S} {n m : Nat} {ρ : Env} {o : Out} (h : whileGo t b n ρ = some o) (hm : n ≤ m) : whileGo t b m ρ = some o := by
  induction hm with
  | refl => exact h
  | step _ ih => exact whileGo_mono ih
theorem sWhile_eq {t : T} {b : S} {n : Nat} {ρ : Env} {o : Out} (h : whileGo t b n ρ = some o) : sWhile t b ρ = some o := by
  have hx : ∃ o, sWhileP t b ρ o := ⟨o, n, h⟩
  unfold sWhile
  rw [dif_pos hx]
  obtain ⟨m, hm⟩ := hx.choose_spec
  have h1 := whileGo_le h (Nat.le_max_left n m)
  rw [whileGo_le hm (Nat.le_max_right n m)] at h1
  exact h1
theorem sWhile_inv {t : T} {b : S} {ρ : Env} {o : Out} (h : sWhile t b ρ = some o) : ∃ n, whileGo t b n ρ = some o := by
  unfold sWhile at h
  split at h
  · rename_i hx
    cases h
    exact hx.choose_spec
  · cases h
theorem pu_while {body : List Stmt} (hp : PassesOwn (model X.prog X.w) X.A X.env X.xe) (hc : PT X c (tT X.K t)) (hb : PSs X body (tS X.K gb)) : PS X (.While c body [] pos) (tS X.K (sWhile t gb)) := (ps_while hp hc hb).imp fun Dn σ H ⟨ρ, o, E, hg, q⟩ => by
  obtain ⟨n, hn⟩ := sWhile_inv hg
  refine ⟨fun m σ H => ∃ ρ, ER X.K H σ ρ ∧ whileGo t gb m ρ = some o ∧ OutP X.K Dn σ ρ H o, ⟨n, ρ, E, hn, q⟩, ?_⟩
  rintro m σ1 H1 ⟨ρ1, E1, h1, q1⟩
  cases m with
  | zero => cases h1
  | succ m =>
    unfold whileGo at h1
    obtain ⟨⟨c, ρ2⟩, h2, h1⟩ := Option.bind_eq_some_iff.mp h1
    refine ⟨ρ1, c, ρ2, E1, h2, fun H2 E2 s2 => ?_⟩
    cases c with
    | false =>
      simp at h1
      subst h1
      exact iteF (q1 σ1 H2 E2 s2.toStp)
    | true =>
      simp only [if_true] at h1
      obtain ⟨o2, h3, h1⟩ := Option.bind_eq_some_iff.mp h1
      refine iteT ⟨fun σ' H' => ∃ ρ', ER X.K H' σ' ρ' ∧ whileGo t gb m ρ' = some o ∧ OutP X.K Dn σ' ρ' H' o, fun σ' H' ⟨ρ', a, b, c⟩ => ⟨m, Nat.lt_succ_self m, ρ', a, b, c⟩, ρ2, o2, E2, h3, ?_⟩
      have q2 := q1.from s2.toStp
      cases o2 with
      | nx ρ3 => exact fun σ' H' E' s' => ⟨ρ3, E', h1, q2.from s'⟩
      | ct ρ3 => exact fun σ' H' E' s' => ⟨ρ3, E', h1, q2.from s'⟩
      | bk ρ3 => cases h1; exact q2
      | rt r ρ3 => cases h1; exact q2

def ItOk (K : Frag) (J : It) (ds : List D) (H : Hp) : Prop := ds.length ≤ sizeLine ∧ ∀ (i : Nat) (H' : Hp), Ev H H' → (∀ d, ds[i]? = some d → J.go i H' ∧ ∀ x H2, J.yld i H' x H2 → Ex H' H2 ∧ Rep K H2 d x) ∧ (ds.length ≤ i → J.stop i H')
def tI (K : Frag) (g : I) : TI := fun σ H R => ∃ ρ ds ρ', ER K H σ ρ ∧ g ρ = some (ds, ρ') ∧ ∀ J H', ER K H' σ ρ' → StpE σ ρ H ρ' H' → ItOk K J ds H' → R J H'
theorem pu_for {tg iter : Expr} {body : List Stmt} {gi : I} {gt : G} {ts : List Nat} (hp : PassesOwn (model X.prog X.w) X.A X.env X.xe) (hc : X.calm = true) (hi : PI X tg iter (tI X.K gi)) (hg : PG X tg (tG X.K gt ts)) (hb : PSs X body (tS X.K gb))
    (hs : ∀ x, foldedSetIterable iter X.env x = pure x := by intro _; rfl) : PS X (.For tg iter body [] pos) (tS X.K (sFor gi gt gb)) := (ps_for hp hc hi hg hb hs).imp fun Dn σ H ⟨ρ, o, E, hg, q⟩ => by
  unfold sFor at hg
  obtain ⟨⟨ds, ρ1⟩, h1, hg⟩ := Option.bind_eq_some_iff.mp hg
  refine ⟨ρ, ds, ρ1, E, h1, fun J H1 E1 s1 ok => ?_⟩
  have q1 := q.from s1.toStp
  refine ⟨fun i m σ' H' => i + m = ds.length ∧ Ev H1 H' ∧ ∃ ρ', ER X.K H' σ' ρ' ∧ forGo gt gb (ds.drop i) ρ' = some o ∧ OutP X.K Dn σ' ρ' H' o, ⟨ds.length, by omega, .refl _, ρ1, E1, hg, q1⟩, ?_⟩
  rintro i m σ2 H2 ⟨him, ev, ρ2, E2, h2, q2⟩
  obtain ⟨ok1, ok2⟩ := ok.2 i H2 ev
  cases hd : ds[i]? with
  | none =>
    have hle := List.getElem?_eq_none_iff.mp hd
    rw [List.drop_eq_nil_of_le hle] at h2
    cases h2
    exact .inl ⟨ok2 hle, q2 σ2 H2 E2 (.refl _ _ _)⟩
  | some d =>
    obtain ⟨hlt, hge⟩ := List.getElem?_eq_some_iff.mp hd
    rw [List.drop_eq_getElem_cons hlt, hge] at h2
    unfold forGo at h2
    obtain ⟨ρ3, h3, h2⟩ := Option.bind_eq_some_iff.mp h2
    obtain ⟨o3, h4, h2⟩ := Option.bind_eq_some_iff.mp h2
    obtain ⟨go, yl⟩ := ok1 d hd
    refine .inr ⟨go, fun σ' H' => Ev H1 H' ∧ ∃ ρ', ER X.K H' σ' ρ' ∧ forGo gt gb (ds.drop (i + 1)) ρ' = some o ∧ OutP X.K Dn σ' ρ' H' o, fun σ' H' ⟨a, b⟩ => ⟨m - 1, by omega, by omega, a, b⟩, fun x H3 y => ?_⟩
    obtain ⟨ex, rp⟩ := yl x H3 y
    refine ⟨ρ2, d, ρ3, E2.ex ex, rp, h3, fun σ4 E4 s4 _ _ _ => ⟨ρ3, o3, E4, h4, ?_⟩⟩
    have q4 : OutP X.K Dn σ4 ρ3 H3 o := q2.from (Stp.trans (.ex ex) s4)
    have ev4 : Ev H1 H3 := ev.trans ex.ev
    cases o3 with
    | nx ρ5 => exact fun σ' H' E' s' => ⟨ev4.trans (s'.ev E4), ρ5, E', h2, q4.from s'⟩
    | ct ρ5 => exact fun σ' H' E' s' => ⟨ev4.trans (s'.ev E4), ρ5, E', h2, q4.from s'⟩
    | bk ρ5 => cases h2; exact q4
    | rt r ρ5 => cases h2; exact q4
end
end Pu
set_option maxRecDepth 100000
namespace Pu
open PySem PySem.Spec PyProof.Rows L2
variable [Wd]
section
variable {X : Cx} {tg iter : Expr}
theorem _root_.L2.PI.imp {w w' : TI} (h : PI X tg iter w) (k : ∀ σ H R, w' σ H R → w σ H R) : PI X tg iter w' := ⟨fun pins s σ H R I q => h.run pins s σ H R I (k σ H R q)⟩
theorem _root_.L2.PI.or {w w' : TI} (h : PI X tg iter w) (h' : PI X tg iter w') : PI X tg iter (fun σ H R => w σ H R ∨ w' σ H R) := ⟨fun pins s σ H R I q => q.elim (h.run pins s σ H R I) (h'.run pins s σ H R I)⟩
structure Szs (K : Frag) (H : Hp) : Prop where
  l : ∀ a xs, SqL K H a xs → xs.length ≤ sizeLine
  t : ∀ a xs, SqT K H a xs → xs.length ≤ sizeLine
  k : ∀ a o kvs, H a = some (.frz o (.dK kvs)) → kvs.length ≤ sizeLine
  T : ∀ a o kvs, H a = some (.frz o (.dT kvs)) → kvs.length ≤ sizeLine
theorem szs_of {pins : List (Addr × Obj)} {σ : L2.St} {H : Hp} {s : Shared} (I : Inv X pins σ H s) : Szs X.K H :=
  ⟨fun a xs h => by obtain ⟨_, _, _, z⟩ := I.list h; exact z, fun a xs h => by obtain ⟨_, _, _, z⟩ := I.tuple h; exact z, fun a o kvs h => (I.hok a _ h).2.1, fun a o kvs h => (I.hok a _ h).2.1⟩
theorem PI.szs {w : TI} (h : PI X tg iter w) : PI X tg iter (fun σ H R => w σ H fun J H' => Szs X.K H' → R J H') := ⟨fun pins s σ H R I q => thn (h.run pins s σ H _ I q) fun v s1 q1 => thn q1 fun itv s2 ⟨it, fp, tn, J, H', e, I', T, st, f, r⟩ => ⟨it, fp, tn, J, H', e, I', T, st, f, r (szs_of I')⟩⟩
end
theorem kD_rep {K : Frag} {H : Hp} (k : Key) : Rep K H (kD k) (kV k) := by
  cases k with
  | inl i => exact .int i
  | inr x => exact .str x
theorem kDs_rep {K : Frag} {H : Hp} : ∀ ks : List Key, Reps K H (ks.map kD) (ks.map kV)
  | [] => .nil
  | k :: ks => .cons (kD_rep k) (kDs_rep ks)
section
variable {K : Frag} {H : Hp} {a : Addr} {ds : List D}
theorem it_list (S : Szs K H) (r : Rep K H (.list ds) (.ref a)) : ItOk K (Itl K a) ds H := by
  refine ⟨?_, fun i H' ev => ?_⟩
  · cases r with
    | lst h l _ => rw [l]; exact S.l _ _ h.sq
  · cases r.ev ev with
    | lst h l q =>
      refine ⟨fun d hd => ?_, fun hle => ⟨_, h.sq, by rw [← l]; exact hle⟩⟩
      obtain ⟨x, hx, rx⟩ := Reps.get ⟨l, q⟩ hd
      refine ⟨⟨_, x, h.sq, hx⟩, fun y H2 ⟨e, hy⟩ => ?_⟩
      subst e
      have := hy _ h.sq
      rw [hx] at this; cases this
      exact ⟨.refl _, rx⟩
theorem it_tup (S : Szs K H) (r : Rep K H (.tuple ds) (.ref a)) : ItOk K (Itt K a) ds H := by
  refine ⟨?_, fun i H' ev => ?_⟩
  · cases r with
    | tup h l _ => rw [l]; exact S.t _ _ h.sq
  · cases r.ev ev with
    | tup h l q =>
      refine ⟨fun d hd => ?_, fun hle => ⟨_, h.sq, by rw [← l]; exact hle⟩⟩
      obtain ⟨x, hx, rx⟩ := Reps.get ⟨l, q⟩ hd
      refine ⟨⟨_, x, h.sq, hx⟩, fun y H2 ⟨e, hy⟩ => ?_⟩
      subst e
      have := hy _ h.sq
      rw [hx] at this; cases this
      exact ⟨.refl _, rx⟩
theorem it_keysK {o : Obj} {kvs : List (Key × V)} {es : List (D × D)} (S : Szs K H) (h : H a = some (.frz o (.dK kvs))) (e : es.map (·.1) = kvs.map (fun q => kD q.1)) : ItOk K (Itk a o kvs) (es.map (·.1)) H := by
  refine ⟨by rw [e, List.length_map]; exact S.k _ _ _ h, fun i H' ev => ?_⟩
  have h' := ev _ _ h rfl
  refine ⟨fun d hd => ?_, fun hle => ⟨h', by rw [e, List.length_map] at hle; exact hle⟩⟩
  rw [e, List.getElem?_map] at hd
  obtain ⟨kv, h1, h2⟩ := Option.map_eq_some_iff.mp hd
  subst h2
  refine ⟨⟨h', (List.getElem?_eq_some_iff.mp h1).1⟩, fun x H2 ⟨e2, k, v, h3, h4⟩ => ?_⟩
  subst e2 h4
  rw [h1] at h3; cases h3
  exact ⟨.refl _, kD_rep _⟩
theorem it_keysT {o : Obj} {kvs : List (List Key × V)} {es : List (D × D)} (S : Szs K H) (h : H a = some (.frz o (.dT kvs))) (e : es.map (·.1) = kvs.map (fun q => PyData.tuple (q.1.map kD))) : ItOk K (Itkt a o kvs) (es.map (·.1)) H := by
  refine ⟨by rw [e, List.length_map]; exact S.T _ _ _ h, fun i H' ev => ?_⟩
  have h' := ev _ _ h rfl
  refine ⟨fun d hd => ?_, fun hle => ⟨h', by rw [e, List.length_map] at hle; exact hle⟩⟩
  rw [e, List.getElem?_map] at hd
  obtain ⟨kv, h1, h2⟩ := Option.map_eq_some_iff.mp hd
  subst h2
  refine ⟨⟨h', (List.getElem?_eq_some_iff.mp h1).1⟩, fun x H2 ⟨e2, k, v, q, h3, h4, h5⟩ => ?_⟩
  subst e2 h4
  rw [h1] at h3; cases h3
  exact ⟨.refl _, .tup' h5 (kDs_rep _)⟩
end
section
variable {X : Cx} {tg l : Expr} {g : M}
theorem pu_iOf (hl : PE X l (tE X.K g)) : PI X tg l (tI X.K (iOf g)) :=
  (PI.szs ((pi_list (pe_share hl)).or ((pi_tup (pe_share hl)).or (pi_keys (pe_share hl))))).imp fun σ H R ⟨ρ, ds, ρ', E, hg, q⟩ => by
    unfold iOf at hg
    obtain ⟨⟨r, ρ1⟩, h1, hg⟩ := Option.bind_eq_some_iff.mp hg
    obtain ⟨⟨d, ρ2⟩, h2, hg⟩ := Option.bind_eq_some_iff.mp hg
    obtain ⟨es, h3, hg⟩ := Option.map_eq_some_iff.mp hg
    cases hg
    cases d with
    | list es => cases h3; exact .inl ⟨ρ, r, ρ1, _, ρ2, E, h1, h2, fun v H1 E1 s1 r1 => by
        obtain ⟨a, rfl⟩ : ∃ a, v = .ref a := by cases r1; exact ⟨_, rfl⟩
        refine ⟨a, rfl, ?_, fun S => q _ H1 E1 s1 (it_list S r1)⟩
        cases r1 with
        | lst h _ _ => exact ⟨_, h.sq⟩⟩
    | tuple es => cases h3; exact .inr (.inl ⟨ρ, r, ρ1, _, ρ2, E, h1, h2, fun v H1 E1 s1 r1 => by
        obtain ⟨a, rfl⟩ : ∃ a, v = .ref a := by cases r1; exact ⟨_, rfl⟩
        refine ⟨a, rfl, ?_, fun S => q _ H1 E1 s1 (it_tup S r1)⟩
        cases r1 with
        | tup h _ _ => exact ⟨_, h.sq⟩⟩)
    | dict es => cases h3; exact .inr (.inr ⟨ρ, r, ρ1, _, ρ2, E, h1, h2, fun v H1 E1 s1 r1 => by
        cases r1 with
        | dK h _ e _ => exact ⟨_, _, rfl, .inl ⟨_, h, fun S => q _ H1 E1 s1 (it_keysK S h e)⟩⟩
        | dT h e _ => exact ⟨_, _, rfl, .inr ⟨_, h, fun S => q _ H1 E1 s1 (it_keysT S h e)⟩⟩⟩)
    | _ => cases h3
theorem it_range {K : Frag} {H : Hp} {lo hi : Int} (h : (hi - lo).toNat ≤ 16777216) : ItOk K (Itr lo (hi - lo).toNat) (rangeD lo hi) H := by
  have hlen : (rangeD lo hi).length = (hi - lo).toNat := by simp [rangeD]
  refine ⟨by rw [hlen]; exact h, fun i H' ev => ⟨fun d hd => ?_, fun hle => by rw [hlen] at hle; exact hle⟩⟩
  unfold rangeD at hd
  rw [List.getElem?_map] at hd
  obtain ⟨j, h1, h2⟩ := Option.map_eq_some_iff.mp hd
  subst h2
  obtain ⟨hi2, h3⟩ := List.getElem?_eq_some_iff.mp h1
  simp at hi2 h3
  subst h3
  refine ⟨by show i < _; omega, fun x H2 ⟨e1, e2⟩ => ?_⟩
  subst e1 e2
  exact ⟨.refl _, .int _⟩
theorem Rr.int {K : Frag} {H : Hp} {i : Int} {v : V} (h : Rr K H (.int i) v) : v = .int i := by
  rcases h with h | ⟨p, rfl, h⟩
  · cases h; rfl
  · cases h
theorem small62_iff {i : Int} (h : small62 i = true) : -(2 ^ 62) ≤ i ∧ i < 2 ^ 62 := by
  unfold small62 at h
  simpa using h
theorem pu_range1 {a : Expr} {gs : Ms} {p pos : Pos} (hg : Gl X "range") (hm : X.mg "range" = none) (ha : PA X [a] (tMs X.K gs)) (hs : starEach [a] X.env = [(false, eval a X.env)] := by rfl) : PI X tg (.Call (.Name "range" p) [a] [] pos) (tI X.K (iRange range1 gs)) :=
  (pi_range1 hg hm ha hs).imp fun σ H R ⟨ρ, ds, ρ', E, hg, q⟩ => by
    unfold iRange at hg
    obtain ⟨⟨rs, ρ1⟩, h1, hg⟩ := Option.bind_eq_some_iff.mp hg
    obtain ⟨es, h2, hg⟩ := Option.bind_eq_some_iff.mp hg
    obtain ⟨⟨lo, hi⟩, h3, hg⟩ := Option.bind_eq_some_iff.mp hg
    simp only at hg
    split at hg
    · rename_i hz
      cases hg
      unfold range1 at h3
      split at h3
      · rename_i j
        split at h3
        · rename_i hj
          cases h3
          refine ⟨ρ, rs, _, E, h1, fun vs H1 E1 s1 R1 => ?_⟩
          have rr := getAll_reads E1 R1 h2
          cases rr with
          | cons r t =>
            cases t
            have e := r.int
            subst e
            have b := small62_iff hj
            refine ⟨hi, rfl, b.1, b.2, ?_⟩
            have := q (Itr 0 (hi - 0).toNat) H1 E1 s1 (it_range hz)
            simpa using this
        · cases h3
      · cases h3
    · cases hg
theorem pu_range2 {a b : Expr} {gs : Ms} {p pos : Pos} (hg : Gl X "range") (hm : X.mg "range" = none) (ha : PA X [a, b] (tMs X.K gs)) (hs : starEach [a, b] X.env = [(false, eval a X.env), (false, eval b X.env)] := by rfl) (hs2 : starEach [b] X.env = [(false, eval b X.env)] := by rfl) : PI X tg (.Call (.Name "range" p) [a, b] [] pos) (tI X.K (iRange range2 gs)) :=
  (pi_range2 hg hm ha hs hs2).imp fun σ H R ⟨ρ, ds, ρ', E, hg, q⟩ => by
    unfold iRange at hg
    obtain ⟨⟨rs, ρ1⟩, h1, hg⟩ := Option.bind_eq_some_iff.mp hg
    obtain ⟨es, h2, hg⟩ := Option.bind_eq_some_iff.mp hg
    obtain ⟨⟨lo, hi⟩, h3, hg⟩ := Option.bind_eq_some_iff.mp hg
    simp only at hg
    split at hg
    · rename_i hz
      cases hg
      unfold range2 at h3
      split at h3
      · rename_i i j
        split at h3
        · rename_i hj
          cases h3
          refine ⟨ρ, rs, _, E, h1, fun vs H1 E1 s1 R1 => ?_⟩
          have rr := getAll_reads E1 R1 h2
          cases rr with
          | cons r t =>
            cases t with
            | cons r' t =>
              cases t
              have e := r.int
              have e' := r'.int
              subst e e'
              have hj' : small62 lo = true ∧ small62 hi = true := by simpa using hj
              have b := small62_iff hj'.1
              have b' := small62_iff hj'.2
              exact ⟨lo, hi, rfl, ⟨b.1, b.2, b'.1, b'.2⟩, q (Itr lo (hi - lo).toNat) H1 E1 s1 (it_range hz)⟩
        · cases h3
      · cases h3
    · cases hg
theorem pairs_get : ∀ {xs ys : List D} {i : Nat} {d : D}, (pairs xs ys)[i]? = some d → ∃ x y, xs[i]? = some x ∧ ys[i]? = some y ∧ d = .tuple [x, y]
  | [], _, _, _, h => by simp [pairs] at h
  | _ :: _, [], _, _, h => by simp [pairs] at h
  | x :: xs, y :: ys, 0, d, h => by simp [pairs] at h; exact ⟨x, y, rfl, rfl, h.symm⟩
  | x :: xs, y :: ys, i + 1, d, h => by
    obtain ⟨a, b, h1, h2, h3⟩ := pairs_get (xs := xs) (ys := ys) (i := i) (d := d) (by simpa [pairs] using h)
    exact ⟨a, b, by simpa using h1, by simpa using h2, h3⟩
theorem pairs_len : ∀ {xs ys : List D}, (pairs xs ys).length = min xs.length ys.length
  | [], _ => by simp [pairs]
  | _ :: _, [] => by simp [pairs]
  | x :: xs, y :: ys => by
    have := pairs_len (xs := xs) (ys := ys)
    simp only [pairs, List.length_cons, this]
    omega
theorem it_zipL {K : Frag} {H : Hp} {a b : Addr} {xs ys : List D} (S : Szs K H) (r : Rep K H (.list xs) (.ref a)) (r' : Rep K H (.list ys) (.ref b)) : ItOk K (Itz K a b) (pairs xs ys) H := by
  refine ⟨?_, fun i H' ev => ?_⟩
  · rw [pairs_len]
    cases r with
    | lst h l _ => exact Nat.le_trans (Nat.min_le_left _ _) (by rw [l]; exact S.l _ _ h.sq)
  · cases r.ev ev with
    | lst h l q =>
      cases r'.ev ev with
      | lst h' l' q' =>
        refine ⟨fun d hd => ?_, fun hle => ⟨_, _, h.sq, h'.sq, by rw [pairs_len] at hle; omega⟩⟩
        obtain ⟨x, y, h1, h2, rfl⟩ := pairs_get hd
        obtain ⟨vx, hx, rx⟩ := Reps.get ⟨l, q⟩ h1
        obtain ⟨vy, hy, ry⟩ := Reps.get ⟨l', q'⟩ h2
        refine ⟨⟨_, _, vx, vy, h.sq, h'.sq, hx, hy⟩, fun v H2 ⟨T, x', y', e, hT, eH, f1, f2⟩ => ?_⟩
        subst e eH
        have := f1 _ h.sq; rw [hx] at this; cases this
        have := f2 _ h'.sq; rw [hy] at this; cases this
        have ex := Ex.new (o := .tup [vx, vy]) hT
        exact ⟨ex, .tup' upd_same (.cons (rx.ev ex.ev) (.cons (ry.ev ex.ev) .nil))⟩
theorem it_zipT {K : Frag} {H : Hp} {a b : Addr} {xs ys : List D} (S : Szs K H) (r : Rep K H (.tuple xs) (.ref a)) (r' : Rep K H (.tuple ys) (.ref b)) : ItOk K (RZ.ItzT K a b) (pairs xs ys) H := by
  refine ⟨?_, fun i H' ev => ?_⟩
  · rw [pairs_len]
    cases r with
    | tup h l _ => exact Nat.le_trans (Nat.min_le_left _ _) (by rw [l]; exact S.t _ _ h.sq)
  · cases r.ev ev with
    | tup h l q =>
      cases r'.ev ev with
      | tup h' l' q' =>
        refine ⟨fun d hd => ?_, fun hle => ⟨_, _, h.sq, h'.sq, by rw [pairs_len] at hle; omega⟩⟩
        obtain ⟨x, y, h1, h2, rfl⟩ := pairs_get hd
        obtain ⟨vx, hx, rx⟩ := Reps.get ⟨l, q⟩ h1
        obtain ⟨vy, hy, ry⟩ := Reps.get ⟨l', q'⟩ h2
        refine ⟨⟨_, _, vx, vy, h.sq, h'.sq, hx, hy⟩, fun v H2 ⟨T, x', y', e, hT, eH, f1, f2⟩ => ?_⟩
        subst e eH
        have := f1 _ h.sq; rw [hx] at this; cases this
        have := f2 _ h'.sq; rw [hy] at this; cases this
        have ex := Ex.new (o := .tup [vx, vy]) hT
        exact ⟨ex, .tup' upd_same (.cons (rx.ev ex.ev) (.cons (ry.ev ex.ev) .nil))⟩
theorem zipD_some {es fs : List D} (h : zipD es = some fs) : (∃ xs ys, es = [.tuple xs, .tuple ys] ∧ fs = pairs xs ys) ∨ ∃ xs ys, es = [.list xs, .list ys] ∧ fs = pairs xs ys := by
  unfold zipD at h
  split at h
  · cases h; exact .inl ⟨_, _, rfl, rfl⟩
  · cases h; exact .inr ⟨_, _, rfl, rfl⟩
  · cases h
theorem pu_zip {e e2 : Expr} {gd : Ds} {p pos tpos : Pos} {elts : List Expr} {kk : Nat} (hg : Gl X "zip") (hm : X.mg "zip" = none) (ha : PA X [e, e2] (tDs X.K gd))
    (hs : starEach [e, e2] X.env = (false, eval e X.env) :: starEach [e2] X.env := by rfl) (hpl : (backTo pos (starEach [e2] X.env)).any (·.1) = false := by rfl) :
    PI X (.Tuple elts kk tpos) (.Call (.Name "zip" p) [e, e2] [] pos) (tI X.K (iZip gd)) :=
  (PI.szs (RZ.pi_zipA hg hm ha hs hpl)).imp fun σ H R ⟨ρ, ds, ρ', E, hg, q⟩ => by
    unfold iZip at hg
    obtain ⟨⟨es, ρ1⟩, h1, hg⟩ := Option.bind_eq_some_iff.mp hg
    obtain ⟨fs, h2, hg⟩ := Option.map_eq_some_iff.mp hg
    cases hg
    refine ⟨ρ, es, ρ1, E, h1, fun vs H1 E1 s1 R1 => ?_⟩
    rcases zipD_some h2 with ⟨xs, ys, rfl, rfl⟩ | ⟨xs, ys, rfl, rfl⟩
    · obtain ⟨v1, vr, rfl, r1, R1⟩ := R1.uncons
      obtain ⟨v2, vr, rfl, r2, R1⟩ := R1.uncons
      cases R1.nil_inv
      obtain ⟨a, rfl⟩ : ∃ a, v1 = .ref a := by cases r1; exact ⟨_, rfl⟩
      obtain ⟨b, rfl⟩ : ∃ a, v2 = .ref a := by cases r2; exact ⟨_, rfl⟩
      have k1 := r1
      have k2 := r2
      cases k1 with
      | tup h l _ => cases k2 with
        | tup h' l' _ => exact ⟨a, b, _, _, rfl, .inr ⟨h.sq, h'.sq, fun S => q _ H1 E1 s1 (it_zipT S r1 r2)⟩⟩
    · obtain ⟨v1, vr, rfl, r1, R1⟩ := R1.uncons
      obtain ⟨v2, vr, rfl, r2, R1⟩ := R1.uncons
      cases R1.nil_inv
      obtain ⟨a, rfl⟩ : ∃ a, v1 = .ref a := by cases r1; exact ⟨_, rfl⟩
      obtain ⟨b, rfl⟩ : ∃ a, v2 = .ref a := by cases r2; exact ⟨_, rfl⟩
      have k1 := r1
      have k2 := r2
      cases k1 with
      | lst h l _ => cases k2 with
        | lst h' l' _ => exact ⟨a, b, _, _, rfl, .inl ⟨h.sq, h'.sq, fun S => q _ H1 E1 s1 (it_zipL S r1 r2)⟩⟩
end
end Pu
set_option maxRecDepth 100000
namespace Pu
open PySem PySem.Spec PyProof.Rows L2
variable [Wd]
theorem wipeE_len (ρ : Env) : ∀ vs : List Nat, (wipeE ρ vs).length = ρ.length
  | [] => rfl
  | v :: vs => by unfold wipeE; rw [List.length_set, wipeE_len ρ vs]
theorem putBack_len (old ρ : Env) : ∀ vs : List Nat, (putBack old ρ vs).length = ρ.length
  | [] => rfl
  | v :: vs => by unfold putBack; rw [List.length_set, putBack_len old ρ vs]
theorem wipe_out {σ : L2.St} {j : Nat} : ∀ {vs : List Nat}, j ∉ vs → (wipe σ vs)[j]? = σ[j]?
  | [], _ => rfl
  | v :: vs, h => by
    have h' : j ≠ v ∧ j ∉ vs := by simpa using h
    unfold wipe
    rw [List.getElem?_set_ne (fun z => h'.1 z.symm)]
    exact wipe_out h'.2
theorem wipe_in {σ : L2.St} {j : Nat} : ∀ {vs : List Nat}, j ∈ vs → j < σ.length → (wipe σ vs)[j]? = some none
  | v :: vs, h, hl => by
    unfold wipe
    by_cases hv : v = j
    · subst hv
      rw [List.getElem?_set_self (by rw [wipe_length]; exact hl)]
    · rw [List.getElem?_set_ne hv]
      exact wipe_in (by rcases List.mem_cons.mp h with z | z; exact absurd z.symm hv; exact z) hl
theorem wipeE_out {ρ : Env} {j : Nat} : ∀ {vs : List Nat}, j ∉ vs → (wipeE ρ vs)[j]? = ρ[j]?
  | [], _ => rfl
  | v :: vs, h => by
    have h' : j ≠ v ∧ j ∉ vs := by simpa using h
    unfold wipeE
    rw [List.getElem?_set_ne (fun z => h'.1 z.symm)]
    exact wipeE_out h'.2
theorem wipeE_in {ρ : Env} {j : Nat} : ∀ {vs : List Nat}, j ∈ vs → j < ρ.length → (wipeE ρ vs)[j]? = some .no
  | v :: vs, h, hl => by
    unfold wipeE
    by_cases hv : v = j
    · subst hv
      rw [List.getElem?_set_self (by rw [wipeE_len]; exact hl)]
    · rw [List.getElem?_set_ne hv]
      exact wipeE_in (by rcases List.mem_cons.mp h with z | z; exact absurd z.symm hv; exact z) hl
theorem putBack_out {old ρ : Env} {j : Nat} : ∀ {vs : List Nat}, j ∉ vs → (putBack old ρ vs)[j]? = ρ[j]?
  | [], _ => rfl
  | v :: vs, h => by
    have h' : j ≠ v ∧ j ∉ vs := by simpa using h
    unfold putBack
    rw [List.getElem?_set_ne (fun z => h'.1 z.symm)]
    exact putBack_out h'.2
theorem putBack_in {old ρ : Env} {j : Nat} : ∀ {vs : List Nat}, j ∈ vs → j < ρ.length → old.length = ρ.length → (putBack old ρ vs)[j]? = old[j]?
  | v :: vs, h, hl, hh => by
    unfold putBack
    by_cases hv : v = j
    · subst hv
      rw [List.getElem?_set_self (by rw [putBack_len]; exact hl)]
      have : v < old.length := by omega
      rw [List.getElem?_eq_getElem this]
      simp [List.getD_eq_getElem?_getD, List.getElem?_eq_getElem this]
    · rw [List.getElem?_set_ne hv]
      exact putBack_in (by rcases List.mem_cons.mp h with z | z; exact absurd z.symm hv; exact z) hl hh
theorem getElem?_wipeE {ρ : Env} {vs : List Nat} {j : Nat} {t : Slot} (h : (wipeE ρ vs)[j]? = some t) : (j ∉ vs ∧ ρ[j]? = some t) ∨ (j ∈ vs ∧ t = .no) := by
  have hl : j < ρ.length := by rw [← wipeE_len ρ vs]; exact (List.getElem?_eq_some_iff.mp h).1
  by_cases hj : j ∈ vs
  · rw [wipeE_in hj hl] at h; cases h; exact .inr ⟨hj, rfl⟩
  · rw [wipeE_out hj] at h; exact .inl ⟨hj, h⟩
theorem IsO.wipe {ρ : Env} {vs : List Nat} {j : Nat} (h : IsO (wipeE ρ vs) j) : j ∉ vs ∧ IsO ρ j := by
  obtain ⟨d, h⟩ := h
  rcases h with h | h | h
  · rcases getElem?_wipeE h with ⟨h1, h2⟩ | ⟨_, h2⟩
    · exact ⟨h1, d, .inl h2⟩
    · cases h2
  · rcases getElem?_wipeE h with ⟨h1, h2⟩ | ⟨_, h2⟩
    · exact ⟨h1, d, .inr (.inl h2)⟩
    · cases h2
  · rcases getElem?_wipeE h with ⟨h1, h2⟩ | ⟨_, h2⟩
    · exact ⟨h1, d, .inr (.inr h2)⟩
    · cases h2
theorem IsO.unwipe {ρ : Env} {vs : List Nat} {j : Nat} (h : IsO ρ j) (hj : j ∉ vs) : IsO (wipeE ρ vs) j := by
  obtain ⟨d, h⟩ := h
  exact ⟨d, by rw [wipeE_out hj]; exact h⟩
theorem wipe_ext {σ σ2 : L2.St} {vs : List Nat} (hl : σ2.length = σ.length) (h : ∀ j, j ∉ vs → σ2[j]? = σ[j]?) : wipe σ2 vs = wipe σ vs := by
  apply List.ext_getElem?
  intro j
  by_cases hj : j ∈ vs
  · by_cases hlt : j < σ.length
    · rw [wipe_in hj hlt, wipe_in hj (by omega)]
    · rw [List.getElem?_eq_none (by rw [wipe_length]; omega), List.getElem?_eq_none (by rw [wipe_length]; omega)]
  · rw [wipe_out hj, wipe_out hj, h j hj]
section
variable {K : Frag} {H H' H1 : Hp} {σ : L2.St} {ρ ρ1 ρf : Env} {vs : List Nat}
theorem ER.wipe (E : ER K H σ ρ) (vs : List Nat) : ER K H (wipe σ vs) (wipeE ρ vs) where
  len := by rw [wipe_length, wipeE_len]; exact E.len
  sh := fun i d h => by
    rcases getElem?_wipeE h with ⟨h1, h2⟩ | ⟨_, h2⟩
    · rw [wipe_out h1]; exact E.sh i d h2
    · cases h2
  ow := fun i d h => by
    obtain ⟨hi, _⟩ := IsO.wipe (ρ := ρ) (vs := vs) (j := i) (.ob h)
    rw [wipeE_out hi] at h
    rw [wipe_out hi]; exact E.ow i d h
  gh := fun i d h => by
    obtain ⟨hi, _⟩ := IsO.wipe (ρ := ρ) (vs := vs) (j := i) (.gh h)
    rw [wipeE_out hi] at h
    rw [wipe_out hi]; exact E.gh i d h
  xt := fun i d h => by
    rcases getElem?_wipeE h with ⟨h1, h2⟩ | ⟨_, h2⟩
    · rw [wipe_out h1]; exact E.xt i d h2
    · cases h2
  ap := fun i j a hi hj e1 e2 => by
    rw [wipe_out hi.wipe.1] at e1
    rw [wipe_out hj.wipe.1] at e2
    exact E.ap i j a hi.wipe.2 hj.wipe.2 e1 e2
theorem own_wipe {a : Addr} (h : Own (wipe σ vs) (wipeE ρ vs) a) : Own σ ρ a := by
  obtain ⟨j, hj, e⟩ := h
  rw [wipe_out hj.wipe.1] at e
  exact ⟨j, hj.wipe.2, e⟩
theorem Stp.wipe {σ0 : L2.St} {ρ0 : Env} {H0 : Hp} (s : Stp σ0 ρ0 H0 σ ρ H) (hb : ∀ i d, ρ0[i]? = some (.bo d) ∨ ρ0[i]? = some (.gh d) → i ∉ vs) : Stp σ0 ρ0 H0 (wipe σ vs) (wipeE ρ vs) H where
  keep := s.keep
  own := fun a h => s.own a (own_wipe h)
  bo := fun i d h => by
    obtain ⟨e1, d', e2⟩ := s.bo i d h
    have hi := hb i d (.inl h)
    exact ⟨by rw [wipe_out hi]; exact e1, d', by rw [wipeE_out hi]; exact e2⟩
  live := s.live
  len := by rw [wipe_length]; exact s.len
  gh := fun i d h => by
    obtain ⟨e1, d', e2⟩ := s.gh i d h
    have hi := hb i d (.inr h)
    exact ⟨by rw [wipe_out hi]; exact e1, d', by rw [wipeE_out hi]; exact e2⟩
theorem unwipe (E1 : ER K H1 σ ρ1) (Ef : ER K H' (wipe σ vs) ρf) (s : StpE (wipe σ vs) (wipeE ρ1 vs) H1 ρf H') : ER K H' σ (putBack ρ1 ρf vs) ∧ StpE σ ρ1 H1 (putBack ρ1 ρf vs) H' := by
  have lf : ρf.length = ρ1.length := by rw [← Ef.len, wipe_length, E1.len]
  have W := E1.wipe vs
  have ev : Ev H1 H' := s.toStp.ev W
  have pin : ∀ {j : Nat}, j ∈ vs → j < ρ1.length → (putBack ρ1 ρf vs)[j]? = ρ1[j]? := fun hj hl => putBack_in hj (by omega) lf.symm
  have lt_of : ∀ {j : Nat} {t : Slot}, (putBack ρ1 ρf vs)[j]? = some t → j < ρ1.length := fun h => by
    have := (List.getElem?_eq_some_iff.mp h).1
    rw [putBack_len] at this; omega
  have isO : ∀ j, IsO (putBack ρ1 ρf vs) j → IsO ρ1 j := fun j ⟨d, h⟩ => by
    have hl : j < ρ1.length := by rcases h with h | h | h <;> exact lt_of h
    by_cases hj : j ∈ vs
    · rw [pin hj hl] at h; exact ⟨d, h⟩
    · rw [putBack_out hj] at h
      exact (s.iso j ⟨d, h⟩).wipe.2
  refine ⟨⟨by rw [putBack_len, lf]; exact E1.len, fun j d h => ?_, fun j d h => ?_, fun i j a hi hj e1 e2 => E1.ap i j a (isO i hi) (isO j hj) e1 e2, fun j d h => ?_, fun j d h => ?_⟩, ⟨⟨fun a o h n => s.keep a o h fun z => n (own_wipe z), fun a ⟨j, hj, e⟩ => .inl ⟨j, isO j hj, e⟩, fun j d h => ⟨rfl, ?_⟩, s.live, rfl, fun j d h => ⟨rfl, ?_⟩⟩, isO⟩⟩
  · by_cases hj : j ∈ vs
    · rw [pin hj (lt_of h)] at h
      obtain ⟨v, h1, h2⟩ := E1.sh j d h
      exact ⟨v, h1, h2.ev ev⟩
    · rw [putBack_out hj] at h
      obtain ⟨v, h1, h2⟩ := Ef.sh j d h
      rw [wipe_out hj] at h1
      exact ⟨v, h1, h2⟩
  · have hl : j < ρ1.length := by rcases h with h | h <;> exact lt_of h
    by_cases hj : j ∈ vs
    · rw [pin hj hl] at h
      obtain ⟨a, h1, h2⟩ := E1.ow j d h
      refine ⟨a, h1, h2.stay ev fun o q => s.keep a o q fun ⟨k, hk, e⟩ => ?_⟩
      rw [wipe_out hk.wipe.1] at e
      have := E1.ap j k a (.ob h) hk.wipe.2 h1 e
      subst this
      exact hk.wipe.1 hj
    · rw [putBack_out hj] at h
      obtain ⟨a, h1, h2⟩ := Ef.ow j d h
      rw [wipe_out hj] at h1
      exact ⟨a, h1, h2⟩
  · have hl : j < ρ1.length := lt_of h
    by_cases hj : j ∈ vs
    · rw [pin hj hl] at h
      obtain ⟨a, h1, h2⟩ := E1.gh j d h
      refine ⟨a, h1, h2.stay ev fun o q => s.keep a o q fun ⟨k, hk, e⟩ => ?_⟩
      rw [wipe_out hk.wipe.1] at e
      have := E1.ap j k a (.gh h) hk.wipe.2 h1 e
      subst this
      exact hk.wipe.1 hj
    · rw [putBack_out hj] at h
      obtain ⟨a, h1, h2⟩ := Ef.gh j d h
      rw [wipe_out hj] at h1
      exact ⟨a, h1, h2⟩
  · by_cases hj : j ∈ vs
    · rw [pin hj (lt_of h)] at h
      obtain ⟨v, h1, h2⟩ := E1.xt j d h
      exact ⟨v, h1, h2.ev ev⟩
    · rw [putBack_out hj] at h
      obtain ⟨v, h1, h2⟩ := Ef.xt j d h
      rw [wipe_out hj] at h1
      exact ⟨v, h1, h2⟩
  · by_cases hj : j ∈ vs
    · exact ⟨d, by rw [pin hj (List.getElem?_eq_some_iff.mp h).1]; exact h⟩
    · obtain ⟨_, d', h2⟩ := s.bo j d (by rw [wipeE_out hj]; exact h)
      exact ⟨d', by rw [putBack_out hj]; exact h2⟩
  · by_cases hj : j ∈ vs
    · exact ⟨d, by rw [pin hj (List.getElem?_eq_some_iff.mp h).1]; exact h⟩
    · obtain ⟨_, d', h2⟩ := s.gh j d (by rw [wipeE_out hj]; exact h)
      exact ⟨d', by rw [putBack_out hj]; exact h2⟩
theorem ER.upd1 {a : Addr} {o o' : HO} (E : ER K H σ ρ) (e : H a = some o) (p : plain o = true) (no : ¬ Own σ ρ a) : ER K (upd H a o') σ ρ := by
  have ev : Ev H (upd H a o') := fun b x q hp => by
    have : b ≠ a := by rintro rfl; rw [e] at q; cases q; rw [p] at hp; cases hp
    rw [upd_ne this]; exact q
  refine ⟨E.len, fun i d h => let ⟨v, h1, h2⟩ := E.sh i d h; ⟨v, h1, h2.ev ev⟩, fun i d h => ?_, E.ap, fun i d h => ?_, fun i d h => let ⟨v, h1, h2⟩ := E.xt i d h; ⟨v, h1, h2.ev ev⟩⟩
  · obtain ⟨b, h1, h2⟩ := E.ow i d h
    have hb : b ≠ a := by rintro rfl; exact no ⟨i, .ob h, h1⟩
    exact ⟨b, h1, h2.stay ev fun x q => by rw [upd_ne hb]; exact q⟩
  · obtain ⟨b, h1, h2⟩ := E.gh i d h
    have hb : b ≠ a := by rintro rfl; exact no ⟨i, .gh h, h1⟩
    exact ⟨b, h1, h2.stay ev fun x q => by rw [upd_ne hb]; exact q⟩
theorem ev_upd {a : Addr} {o o' : HO} (e : H a = some o) (p : plain o = true) : Ev H (upd H a o') := fun b x q hp => by
  have : b ≠ a := by rintro rfl; rw [e] at q; cases q; rw [p] at hp; cases hp
  rw [upd_ne this]; exact q
end
section
variable {X : Cx} {K : Frag}
theorem comp_reads {gi : I} {gt : G} {ts vs : List Nat} {t : T} {ge : M} (hts : ∀ j ∈ ts, j ∈ vs) {σ : L2.St} {H : Hp} {Q : VK} (h : tE K (eComp vs gi gt t ge) σ H Q) : tLc (tI K gi) (tG K gt ts) (tT K t) (tSh K ge) vs σ H Q := by
  obtain ⟨ρ, r, ρ', E, hg, q⟩ := h
  unfold eComp at hg
  obtain ⟨⟨ds, ρ1⟩, h1, hg⟩ := Option.bind_eq_some_iff.mp hg
  obtain ⟨⟨out, ρf⟩, h2, hg⟩ := Option.map_eq_some_iff.mp hg
  cases hg
  refine ⟨ρ, ds, ρ1, E, h1, fun J H1 E1 s1 ok => ?_⟩
  intro Dd hD
  refine ⟨fun i m H' => i + m = ds.length ∧ Ev H1 H' ∧ ∃ acc xs ρ', ER K H' (wipe σ vs) ρ' ∧ compGo vs gt t ge (ds.drop i) acc ρ' = some (out, ρf) ∧ H' Dd = some (.lst xs) ∧ Reps K H' acc xs ∧ StpE (wipe σ vs) (wipeE ρ1 vs) H1 ρ' H' ∧ acc.length ≤ i, ?_, ?_⟩
  · have ex := Ex.new (o := .lst []) hD
    exact ⟨ds.length, by omega, ex.ev, [], [], wipeE ρ1 vs, (E1.wipe vs).ex ex, h2, upd_same, .nil, .ex ex, Nat.le_refl _⟩
  rintro i m H2 ⟨him, ev, acc, xs, ρ2, E2, h3, hDd, rs, s2, hacc⟩
  have noD : ∀ {σ' : L2.St} {ρ' : Env} {H' : Hp}, Stp (wipe σ vs) (wipeE ρ1 vs) H1 σ' ρ' H' → ¬ Own σ' ρ' Dd ∨ H1 Dd = none := fun s => .inr hD
  have noD2 : ¬ Own (wipe σ vs) ρ2 Dd := fun z => by
    -- owned slots were owned at the start, so they are other objects
    obtain ⟨j, hj, e⟩ := z
    have oj := s2.iso j hj
    obtain ⟨b, e', o, e2, _⟩ := (E1.wipe vs).isO oj
    rw [e] at e'; cases e'
    rw [hD] at e2; cases e2
  obtain ⟨ok1, ok2⟩ := ok.2 i H2 ev
  cases hd : ds[i]? with
  | none =>
    have hle := List.getElem?_eq_none_iff.mp hd
    rw [List.drop_eq_nil_of_le hle] at h3
    unfold compGo at h3
    cases h3
    obtain ⟨E3, s3⟩ := unwipe E1 E2 s2
    refine .inl ⟨ok2 hle, q _ H2 E3 (s1.trans s3) ⟨Dd, rfl, s1.toStp.back hD, .lst hDd rs, fun z => ?_⟩⟩
    obtain ⟨j, hj, e⟩ := z
    obtain ⟨b, e', o, e2, _⟩ := E1.isO (s3.iso j hj)
    rw [e] at e'; cases e'
    rw [hD] at e2; cases e2
  | some d =>
    obtain ⟨hlt, hge⟩ := List.getElem?_eq_some_iff.mp hd
    rw [List.drop_eq_getElem_cons hlt, hge] at h3
    unfold compGo at h3
    obtain ⟨ρ3, h4, h3⟩ := Option.bind_eq_some_iff.mp h3
    obtain ⟨⟨b, ρ4⟩, h5, h3⟩ := Option.bind_eq_some_iff.mp h3
    obtain ⟨go, yl⟩ := ok1 d hd
    refine .inr ⟨go, fun H' => Ev H1 H' ∧ ∃ acc xs ρ', ER K H' (wipe σ vs) ρ' ∧ compGo vs gt t ge (ds.drop (i + 1)) acc ρ' = some (out, ρf) ∧ H' Dd = some (.lst xs) ∧ Reps K H' acc xs ∧ StpE (wipe σ vs) (wipeE ρ1 vs) H1 ρ' H' ∧ acc.length ≤ i + 1, fun H' ⟨a, b⟩ => ⟨m - 1, by omega, by omega, a, b⟩, fun x H3 y => ?_⟩
    obtain ⟨ex, rp⟩ := yl x H3 y
    have s2x : Stp (wipe σ vs) (wipeE ρ1 vs) H1 (wipe σ vs) ρ2 H3 := s2.toStp.trans (.ex ex)
    have E2x := E2.ex ex
    have D3 : H3 Dd = some (.lst xs) := ex _ _ hDd
    refine ⟨ρ2, d, ρ3, E2x, rp, h4, fun σ4 E4 s4 iso4 same4 len4 => ?_⟩
    have hw : wipe σ4 vs = wipe σ vs := by
      refine wipe_ext (by rw [len4, wipe_length]) fun j hj => ?_
      rw [same4 j (fun z => hj (hts j z)), wipe_out hj]
    have hbo : ∀ i d, (wipeE ρ1 vs)[i]? = some (.bo d) ∨ (wipeE ρ1 vs)[i]? = some (.gh d) → i ∉ vs := fun i d h => by
      rcases h with h | h <;> rcases getElem?_wipeE h with ⟨h1, _⟩ | ⟨_, h2⟩
      · exact h1
      · cases h2
      · exact h1
      · cases h2
    refine ⟨hw, ρ3, b, ρ4, E4, h5, fun H5 E5 s5 => ?_⟩
    have st5 : Stp (wipe σ vs) (wipeE ρ1 vs) H1 σ4 ρ4 H5 := (s2x.trans s4).trans s5.toStp
    have no_own : ∀ {ρ' : Env}, (∀ j, IsO ρ' j → IsO ρ3 j) → ¬ Own σ4 ρ' Dd := fun {ρ'} k ⟨j, hj, e⟩ => by
      have o3 := k j hj
      rcases s4.own Dd ⟨j, o3, e⟩ with z | z
      · exact noD2 z
      · rw [D3] at z; cases z
    cases b with
    | false =>
      simp at h3
      refine iteF ⟨?_, acc, xs, wipeE ρ4 vs, ?_, h3, ?_, ?_, ⟨?_, ?_⟩, by omega⟩
      · exact ((ev.trans ex.ev).trans (s4.ev E2x)).trans (s5.toStp.ev E4)
      · rw [← hw]; exact E5.wipe vs
      · exact s5.keep _ _ D3 (no_own fun j h => h)
      · exact ((rs.ev ex.ev).ev (s4.ev E2x)).ev (s5.toStp.ev E4)
      · rw [← hw]; exact hw ▸ st5.wipe hbo
      · exact fun j hj => s2.iso j (iso4 j (s5.iso j hj.wipe.2))
    | true =>
      simp only [if_true] at h3
      obtain ⟨⟨r, ρ5⟩, h6, h3⟩ := Option.bind_eq_some_iff.mp h3
      obtain ⟨⟨dd, ρ6⟩, h7, h3⟩ := Option.bind_eq_some_iff.mp h3
      refine iteT ⟨ρ4, r, ρ5, dd, ρ6, E5, h6, h7, fun v H6 E6 s6 R6 => ?_⟩
      have D5 : H5 Dd = some (.lst xs) := s5.keep _ _ D3 (no_own fun j h => h)
      have no4 : ¬ Own σ4 ρ4 Dd := no_own fun j h => s5.iso j h
      have D6 : H6 Dd = some (.lst xs) := s6.keep _ _ D5 no4
      have rs6 : Reps K H6 acc xs := (((rs.ev ex.ev).ev (s4.ev E2x)).ev (s5.toStp.ev E4)).ev (s6.toStp.ev E5)
      have no6 : ¬ Own σ4 ρ6 Dd := no_own fun j h => s5.iso j (s6.iso j h)
      have evu : Ev H6 (upd H6 Dd (.lst (xs ++ [v]))) := ev_upd D6 rfl
      refine ⟨xs, D6, ?_, ?_, acc ++ [dd], xs ++ [v], wipeE ρ6 vs, ?_, h3, upd_same, (rs6.ev evu).append (.cons (R6.ev evu) .nil), ⟨?_, ?_⟩, by simp; omega⟩
      · rw [← rs6.1]
        have := ok.1
        omega
      · exact ((((ev.trans ex.ev).trans (s4.ev E2x)).trans (s5.toStp.ev E4)).trans (s6.toStp.ev E5)).trans evu
      · have := (E6.wipe vs).upd1 (o' := .lst (xs ++ [v])) D6 rfl (fun z => no6 (own_wipe z))
        rw [hw] at this
        exact this
      · have := ((st5.trans s6.toStp).wipe hbo).updNew (o := .lst (xs ++ [v])) hD
        rw [hw] at this
        exact this
      · exact fun j hj => s2.iso j (iso4 j (s5.iso j (s6.iso j hj.wipe.2)))
theorem pu_lc {elt tg iter : Expr} {ifs : List Expr} {scope : Scope} {own : List (Str × Nat)} {pos : Pos} {gi : I} {gt : G} {ts : List Nat} {t : T} {ge : M} (hc : X.calm = true) (hN : X.N.Nodup) (hi : PI X tg iter (tI X.K gi)) (ok : BlkOk X.N X.env.scope scope own)
    (hg : ∀ (s : Shared) (H : Hp) (C : Addr) (cl : List (Str × Addr)) (fp : List Addr), PG (X.blk s H scope (compEnvC scope cl C X.env) fp) tg (tG X.K gt ts)) (ht : ∀ (s : Shared) (H : Hp) (C : Addr) (cl : List (Str × Addr)) (fp : List Addr), PTs (X.blk s H scope (compEnvC scope cl C X.env) fp) ifs (tT X.K t))
    (he : ∀ (s : Shared) (H : Hp) (C : Addr) (cl : List (Str × Addr)) (fp : List Addr), PE (X.blk s H scope (compEnvC scope cl C X.env) fp) elt (tE X.K ge)) (hts : ∀ j ∈ ts, j ∈ own.map (·.2) := by decide) (hs : ∀ x, foldedSetIterable iter X.env x = pure x := by intro _; rfl) :
    PE X (.ListComp elt [⟨tg, iter, ifs, 0⟩] scope pos) (tE X.K (eComp (own.map (·.2)) gi gt t ge)) :=
  (pe_lc hc hN hi ok hg ht (fun s H C cl fp => pe_share (X := X.blk s H scope (compEnvC scope cl C X.env) fp) (he s H C cl fp)) hs).imp fun σ H Q h => comp_reads hts h
theorem pu_setLc {i : Nat} {y : Str} {py : Pos} {elt tg iter : Expr} {ifs : List Expr} {scope : Scope} {own : List (Str × Nat)} {pos spos : Pos} {gi : I} {gt : G} {ts : List Nat} {t : T} {ge : M} (hc : X.calm = true) (hN : X.N.Nodup) (hy : X.N[i]? = some y) (hyl : X.env.scope.names.lookup y = some .local)
    (hsw : swapsWith (.ListComp elt [⟨tg, iter, ifs, 0⟩] scope pos) (some (.Name y py)) spos.line X.env = pure true) (hi : PI X tg iter (tI X.K gi)) (ok : BlkOk X.N X.env.scope scope own)
    (hg : ∀ (s : Shared) (H : Hp) (C : Addr) (cl : List (Str × Addr)) (fp : List Addr), PG (X.blk s H scope (compEnvC scope cl C X.env) fp) tg (tG X.K gt ts)) (ht : ∀ (s : Shared) (H : Hp) (C : Addr) (cl : List (Str × Addr)) (fp : List Addr), PTs (X.blk s H scope (compEnvC scope cl C X.env) fp) ifs (tT X.K t))
    (he : ∀ (s : Shared) (H : Hp) (C : Addr) (cl : List (Str × Addr)) (fp : List Addr), PE (X.blk s H scope (compEnvC scope cl C X.env) fp) elt (tE X.K ge)) (hts : ∀ j ∈ ts, j ∈ own.map (·.2) := by decide) (hs : ∀ x, foldedSetIterable iter X.env x = pure x := by intro _; rfl) :
    PS X (.Assign [.Name y py] (.ListComp elt [⟨tg, iter, ifs, 0⟩] scope pos) spos) (tS X.K (sSet i (eComp (own.map (·.2)) gi gt t ge))) :=
  (ps_setLc hc hN hy hyl hsw hi ok hg ht (fun s H C cl fp => pe_share (X := X.blk s H scope (compEnvC scope cl C X.env) fp) (he s H C cl fp)) hs).imp fun Dn σ H h => by
    obtain ⟨ρ, r, ρ1, u, ρ2, E, h1, h2, q⟩ := sSet_reads h
    refine comp_reads hts ⟨ρ, r, ρ1, E, h1, fun v H1 E1 s1 R1 => ?_⟩
    -- a comprehension gives a new list
    unfold eComp at h1
    obtain ⟨⟨ds, ρa⟩, _, h1⟩ := Option.bind_eq_some_iff.mp h1
    obtain ⟨⟨out, ρf⟩, _, h1⟩ := Option.map_eq_some_iff.mp h1
    cases h1
    cases h2
    exact q v H1 E1 s1 R1
end
end Pu
set_option maxRecDepth 100000
namespace Pu
open PySem PySem.Spec PyProof.Rows L2
variable [Wd]
theorem pu_tsNil {X : Cx} : PTs X [] (tT X.K tYes) := ⟨fun pins s σ H Q I ⟨ρ, b, ρ', E, hg, q⟩ => by
  cases hg
  exact pts_nil.run pins s σ H Q I (q H E (.refl _ _ _))⟩
theorem pu_tsOne {X : Cx} {c : Expr} {t : T} (h : PT X c (tT X.K t)) : PTs X [c] (tT X.K t) := pts_one h

def RF (K : Frag) (H H' : Hp) (σ : L2.St) (ts : Env) : Res → V → Prop
  | .var _, _ => False
  | .sh d, v => Rep K H' d v
  | .ow d, v => ∃ p, v = .ref p ∧ H p = none ∧ Ob K H' p d ∧ ¬ Own σ ts p
  | .tx p d, v => Rep K H' d v ∧ PtOk H' p v
def spFn (K : Frag) (F : Fn) (n : Nat) : Sp := fun vs H Q _ => vs.length = n ∧ ∃ ss r ts, ER K H (vs.map some) ss ∧ (∀ (i : Nat) (d : D), ss[i]? ≠ some (.ow d)) ∧ F ss = some (r, ts) ∧
  ∀ v H', ER K H' (vs.map some) ts → Stp (vs.map some) ss H (vs.map some) ts H' → RF K H H' (vs.map some) ts r v → Q v H'

theorem finSlots_get : ∀ {ss ρ : Env} {i : Nat} {s : Slot}, ss[i]? = some s → i < ρ.length → ss.length ≤ ρ.length → (finSlots ss ρ)[i]? = (match s with | .bo _ => ρ[i]? | .gh _ => ρ[i]? | s => some s)
  | [], _, _, _, h, _, _ => by simp at h
  | _ :: _, [], _, _, _, h, _ => by simp at h
  | s :: ss, t :: ρ, 0, s', h, _, _ => by
    simp at h; subst h
    cases s <;> rfl
  | s :: ss, t :: ρ, i + 1, s', h, hl, hle => by
    have ih := finSlots_get (ss := ss) (ρ := ρ) (i := i) (s := s') (by simpa using h) (by simpa using hl) (by simpa using hle)
    cases s <;> (unfold finSlots; simpa using ih)
theorem finSlots_len : ∀ {ss ρ : Env}, ss.length ≤ ρ.length → (finSlots ss ρ).length = ss.length
  | [], ρ, _ => by cases ρ <;> rfl
  | _ :: _, [], h => by simp at h
  | s :: ss, t :: ρ, h => by
    have ih := finSlots_len (ss := ss) (ρ := ρ) (by simpa using h)
    cases s <;> (unfold finSlots; simpa using ih)
section
variable {K : Frag} {H H' : Hp} {vs : List V} {ss ρ' : Env} {N : List Str} {σ' : L2.St}
theorem start_get {i : Nat} (h : i < vs.length) : (start N vs)[i]? = (vs.map some)[i]? := by
  unfold L2.start
  rw [List.getElem?_append_left (by simpa using h)]
theorem ent_get {n i : Nat} (h : i < ss.length) : (ss ++ List.replicate n Slot.no)[i]? = ss[i]? := List.getElem?_append_left h
theorem ent_isO {n i : Nat} (h : IsO (ss ++ List.replicate n Slot.no) i) : i < ss.length ∧ IsO ss i := by
  obtain ⟨d, h⟩ := h
  by_cases hi : i < ss.length
  · rw [ent_get hi] at h; exact ⟨hi, d, h⟩
  · rw [List.getElem?_append_right (by omega), List.getElem?_replicate] at h
    split at h <;> rcases h with h | h | h <;> cases h
theorem ER.enter (E : ER K H (vs.map some) ss) (hN : vs.length ≤ N.length) : ER K H (start N vs) (ss ++ List.replicate (N.length - ss.length) .no) := by
  have hl : vs.length = ss.length := by have := E.len; simpa using this
  have lt : ∀ {i : Nat} {t : Slot}, (ss ++ List.replicate (N.length - ss.length) Slot.no)[i]? = some t → t ≠ .no → i < ss.length := fun {i t} h ht => by
    by_cases hi : i < ss.length
    · exact hi
    · rw [List.getElem?_append_right (by omega), List.getElem?_replicate] at h
      split at h
      · cases h; exact absurd rfl ht
      · cases h
  refine ⟨by unfold L2.start; simp; omega, fun i d h => ?_, fun i d h => ?_, fun i j a hi hj e1 e2 => ?_, fun i d h => ?_, fun i d h => ?_⟩
  · have hi := lt h (by intro z; cases z)
    rw [ent_get hi] at h
    rw [start_get (by omega)]
    exact E.sh i d h
  · have hi : i < ss.length := by rcases h with h | h <;> exact lt h (by intro z; cases z)
    rw [ent_get hi] at h
    rw [start_get (by omega)]
    exact E.ow i d h
  · have hi' := ent_isO hi
    have hj' := ent_isO hj
    rw [start_get (by omega)] at e1 e2
    exact E.ap i j a hi'.2 hj'.2 e1 e2
  · have hi : i < ss.length := lt h (by intro z; cases z)
    rw [ent_get hi] at h
    rw [start_get (by omega)]
    exact E.gh i d h
  · have hi : i < ss.length := lt h (by intro z; cases z)
    rw [ent_get hi] at h
    rw [start_get (by omega)]
    exact E.xt i d h
theorem own_enter {n : Nat} {a : Addr} (hl : vs.length = ss.length) : Own (start N vs) (ss ++ List.replicate n .no) a ↔ Own (vs.map some) ss a := by
  constructor
  · rintro ⟨i, hi, e⟩
    have := ent_isO hi
    rw [start_get (by omega)] at e
    exact ⟨i, this.2, e⟩
  · rintro ⟨i, ⟨d, hd⟩, e⟩
    have hi : i < ss.length := by rcases hd with h | h | h <;> exact (List.getElem?_eq_some_iff.mp h).1
    exact ⟨i, ⟨d, by rw [ent_get hi]; exact hd⟩, by rw [start_get (by omega)]; exact e⟩
theorem leave (E : ER K H (vs.map some) ss) (no : ∀ (i : Nat) (d : D), ss[i]? ≠ some (.ow d)) (hN : vs.length ≤ N.length) (E' : ER K H' σ' ρ') (s : Stp (start N vs) (ss ++ List.replicate (N.length - ss.length) .no) H σ' ρ' H') (hρ : N.length ≤ ρ'.length) :
    ER K H' (vs.map some) (finSlots ss ρ') ∧ Stp (vs.map some) ss H (vs.map some) (finSlots ss ρ') H' ∧ ∀ a, Own (vs.map some) (finSlots ss ρ') a → Own σ' ρ' a := by
  have hl : vs.length = ss.length := by have := E.len; simpa using this
  have ev : Ev H H' := s.ev (E.enter hN)
  have hle : ss.length ≤ ρ'.length := by omega
  have fg : ∀ {i : Nat} {s : Slot}, ss[i]? = some s → (finSlots ss ρ')[i]? = (match s with | .bo _ => ρ'[i]? | .gh _ => ρ'[i]? | s => some s) := fun {i s} h => finSlots_get h (by have := (List.getElem?_eq_some_iff.mp h).1; omega) hle
  -- a borrowed slot
  have bo : ∀ {i : Nat} {d : D}, ss[i]? = some (.bo d) → σ'[i]? = (vs.map some)[i]? ∧ ∃ d', ρ'[i]? = some (.bo d') ∧ (finSlots ss ρ')[i]? = some (.bo d') := fun {i d} h => by
    have hi := (List.getElem?_eq_some_iff.mp h).1
    obtain ⟨e1, d', e2⟩ := s.bo i d (by rw [ent_get hi]; exact h)
    rw [start_get (by omega)] at e1
    exact ⟨e1, d', e2, by rw [fg h]; exact e2⟩
  have gh : ∀ {i : Nat} {d : D}, ss[i]? = some (.gh d) → σ'[i]? = (vs.map some)[i]? ∧ ∃ d', ρ'[i]? = some (.gh d') ∧ (finSlots ss ρ')[i]? = some (.gh d') := fun {i d} h => by
    have hi := (List.getElem?_eq_some_iff.mp h).1
    obtain ⟨e1, d', e2⟩ := s.gh i d (by rw [ent_get hi]; exact h)
    rw [start_get (by omega)] at e1
    exact ⟨e1, d', e2, by rw [fg h]; exact e2⟩
  have at_ : ∀ {i : Nat} {t : Slot}, (finSlots ss ρ')[i]? = some t → ∃ s, ss[i]? = some s := fun {i t} h => by
    have hi := (List.getElem?_eq_some_iff.mp h).1
    rw [finSlots_len hle] at hi
    exact ⟨ss[i], List.getElem?_eq_getElem hi⟩
  have isO : ∀ {i : Nat}, IsO (finSlots ss ρ') i → (∃ d d', ss[i]? = some (.bo d) ∧ ρ'[i]? = some (.bo d') ∧ (finSlots ss ρ')[i]? = some (.bo d') ∧ σ'[i]? = (vs.map some)[i]?) ∨ ∃ d d', ss[i]? = some (.gh d) ∧ ρ'[i]? = some (.gh d') ∧ (finSlots ss ρ')[i]? = some (.gh d') ∧ σ'[i]? = (vs.map some)[i]? := fun {i} ⟨d, h⟩ => by
    obtain ⟨t, ht⟩ : ∃ s, ss[i]? = some s := by rcases h with h | h | h <;> exact at_ h
    cases t with
    | bo z => obtain ⟨e, d', h1, h2⟩ := bo ht; exact .inl ⟨z, d', ht, h1, h2, e⟩
    | gh z => obtain ⟨e, d', h1, h2⟩ := gh ht; exact .inr ⟨z, d', ht, h1, h2, e⟩
    | no => rw [fg ht] at h; rcases h with h | h | h <;> cases h
    | sh z => rw [fg ht] at h; rcases h with h | h | h <;> cases h
    | xt z => rw [fg ht] at h; rcases h with h | h | h <;> cases h
    | ow z => exact absurd ht (no i z)
  have isS : ∀ {i : Nat}, IsO (finSlots ss ρ') i → IsO ss i ∧ IsO ρ' i ∧ σ'[i]? = (vs.map some)[i]? := fun {i} h => by
    rcases isO h with ⟨d, d', h1, h2, _, h4⟩ | ⟨d, d', h1, h2, _, h4⟩
    · exact ⟨⟨d, .inr (.inl h1)⟩, ⟨d', .inr (.inl h2)⟩, h4⟩
    · exact ⟨⟨d, .inr (.inr h1)⟩, ⟨d', .inr (.inr h2)⟩, h4⟩
  refine ⟨⟨by rw [finSlots_len hle]; simpa using hl, fun i d h => ?_, fun i d h => ?_, fun i j a hi hj e1 e2 => ?_, fun i d h => ?_, fun i d h => ?_⟩, ⟨fun a o h n => s.keep a o h fun z => n ((own_enter hl).mp z), fun a ⟨i, hi, e⟩ => ?_, fun i d h => ?_, s.live, rfl, fun i d h => ?_⟩, fun a ⟨i, hi, e⟩ => ?_⟩
  · obtain ⟨t, ht⟩ := at_ h
    cases t with
    | bo z => obtain ⟨e, d', h1, h2⟩ := bo ht; rw [h] at h2; cases h2
    | gh z => obtain ⟨e, d', h1, h2⟩ := gh ht; rw [h] at h2; cases h2
    | no => rw [fg ht] at h; cases h
    | ow z => exact absurd ht (no i z)
    | xt z => rw [fg ht] at h; cases h
    | sh z =>
      rw [fg ht] at h; cases h
      obtain ⟨v, e1, e2⟩ := E.sh i _ ht
      exact ⟨v, e1, e2.ev ev⟩
  · rcases isO (.ob h) with ⟨z, d', h1, h2, h3, h4⟩ | ⟨z, d', h1, h2, h3, h4⟩
    · obtain ⟨a, e1, ob⟩ := E'.ow i d' (.inr h2)
      rw [h4] at e1
      rw [h3] at h
      rcases h with h | h
      · cases h
      · cases h; exact ⟨a, e1, ob⟩
    · rw [h3] at h
      rcases h with h | h <;> cases h
  · exact E.ap i j a (isS hi).1 (isS hj).1 e1 e2
  · rcases isO (.gh h) with ⟨z, d', h1, h2, h3, h4⟩ | ⟨z, d', h1, h2, h3, h4⟩
    · rw [h3] at h; cases h
    · obtain ⟨a, e1, ob⟩ := E'.gh i d' h2
      rw [h4] at e1
      rw [h3] at h
      cases h; exact ⟨a, e1, ob⟩
  · obtain ⟨t, ht⟩ := at_ h
    cases t with
    | bo z => obtain ⟨e, d', h1, h2⟩ := bo ht; rw [h] at h2; cases h2
    | gh z => obtain ⟨e, d', h1, h2⟩ := gh ht; rw [h] at h2; cases h2
    | no => rw [fg ht] at h; cases h
    | ow z => exact absurd ht (no i z)
    | sh z => rw [fg ht] at h; cases h
    | xt z =>
      rw [fg ht] at h; cases h
      obtain ⟨v, e1, e2⟩ := E.xt i _ ht
      exact ⟨v, e1, e2.ev ev⟩
  · exact .inl ⟨i, (isS hi).1, e⟩
  · obtain ⟨e, d', _, h2⟩ := bo h
    exact ⟨rfl, d', h2⟩
  · obtain ⟨e, d', _, h2⟩ := gh h
    exact ⟨rfl, d', h2⟩
  · exact ⟨i, (isS hi).2.1, by rw [(isS hi).2.2]; exact e⟩
end
section
variable {P : Program} {w : World} {K : Frag} {mg : Str → Option Value} {base : Heap}
theorem body_reads {b : S} {N : List Str} {n : Nat} {vs : List V} {H : Hp} {Q : VK} {E : XK} (hn : n ≤ N.length) (h : spFn K (fnOfBody N.length b) n vs H Q E) : tS K b { nx := fun _ H' => Q .non H', rt := Q } (start N vs) H := by
  obtain ⟨hv, ss, r, ts, E0, no, hF, q⟩ := h
  have hl : vs.length = ss.length := by have := E0.len; simpa using this
  have hN : vs.length ≤ N.length := by omega
  unfold fnOfBody at hF
  obtain ⟨o, h1, hF⟩ := Option.bind_eq_some_iff.mp hF
  refine ⟨_, o, E0.enter hN, h1, ?_⟩
  cases o with
  | bk ρ => cases hF
  | ct ρ => cases hF
  | nx ρ =>
    cases hF
    intro σ' H' E' s'
    have hρ : N.length ≤ ρ.length := by
      have h1 := s'.len
      rw [E'.len] at h1
      unfold L2.start at h1
      simp at h1
      omega
    obtain ⟨E2, s2, _⟩ := leave E0 no hN E' s' hρ
    exact q .non H' E2 s2 .non
  | rt r2 ρ =>
    intro v σ' H' E' s' R
    have hρ : N.length ≤ ρ.length := by
      have h1 := s'.len
      rw [E'.len] at h1
      unfold L2.start at h1
      simp at h1
      omega
    obtain ⟨E2, s2, o2⟩ := leave E0 no hN E' s' hρ
    cases r2 with
    | var i => exact R.elim
    | sh d => cases hF; exact q v H' E2 s2 R
    | tx _ _ => cases hF; exact q v H' E2 s2 R
    | ow d =>
      cases hF
      obtain ⟨p, rfl, hp, ob, nop⟩ := R
      refine q _ H' E2 s2 ⟨p, rfl, ?_, ob, fun z => nop (o2 p z)⟩
      rcases hp with z | z
      · rw [own_enter hl] at z
        obtain ⟨i, ⟨d', hd⟩, e⟩ := z
        exfalso
        rcases hd with hd | hd | hd
        · exact no i d' hd
        · have hi := (List.getElem?_eq_some_iff.mp hd).1
          obtain ⟨e1, d2, e2⟩ := s'.bo i d' (by rw [ent_get hi]; exact hd)
          rw [start_get (by omega)] at e1
          exact nop ⟨i, ⟨d2, .inr (.inl e2)⟩, by rw [e1]; exact e⟩
        · have hi := (List.getElem?_eq_some_iff.mp hd).1
          obtain ⟨e1, d2, e2⟩ := s'.gh i d' (by rw [ent_get hi]; exact hd)
          rw [start_get (by omega)] at e1
          exact nop ⟨i, ⟨d2, .inr (.inr e2)⟩, by rw [e1]; exact e⟩
      · exact z
theorem def_ok {x : Str} {st : Stmt} {f : Addr} {fd : FuncData} {N ps : List Str} {k : Nat} {b : S} (F : FunD K x x (defArgs st) (defBody st) (defScope st) [] [] f fd) (S : FnScope N ps (defScope st)) (hn : ps.length ≤ N.length)
    (hbody : ∀ (cdv : Value) (A : Around) (outer : List PySem.Env) (s : Shared) (H : Hp) (E : XK), Room k (A.deeper (envOfC x (defScope st) s.heap.objs.size f cdv)) → PSs (cxOf CX0 P w K mg base N x (defScope st) f cdv A outer s H E).nox (defBody st) (tS K b)) :
    FnOk P w K mg base CX0 (k + 1) f fd ps (spFn K (fnOfBody N.length b) ps.length) :=
  F.ok S (fun vs H Q E h => h.1) fun cdv A outer s H vs Q E hr h => ⟨_, (hbody cdv A outer s H E hr).nox, body_reads hn h⟩
end

def AR (K : Frag) (H : Hp) (σ : L2.St) : Arg → V → Prop
  | .sh d, v => Rep K H d v
  | .bor i, v => σ[i]? = some (some v)
def tAs (K : Frag) (g : As) : TA := fun σ H Q => ∃ ρ as ρ', ER K H σ ρ ∧ g ρ = some (as, ρ') ∧ ∀ vs H', ER K H' σ ρ' → StpE σ ρ H ρ' H' → Paired (AR K H' σ) as vs → Q vs H'
section
variable {X : Cx} {K : Frag} {e : Expr} {es : List Expr} {g : M} {ga : As}
theorem AR.ev {H H' : Hp} {σ : L2.St} {a : Arg} {v : V} (h : AR K H σ a v) (e : Ev H H') : AR K H' σ a v := by
  cases a with
  | sh d => exact Rep.ev h e
  | bor i => exact h
theorem pu_asNil : PA X [] (tAs X.K asNil) := pa_nil.imp fun σ H Q ⟨ρ, rs, ρ', E, hg, q⟩ => by
  cases hg
  exact q [] H E (.refl _ _ _) .nil
theorem pu_asSh (ha : PE X e (tE X.K g)) (hr : PA X es (tAs X.K ga)) (hs : starEach (e :: es) X.env = (false, eval e X.env) :: starEach es X.env := by rfl) : PA X (e :: es) (tAs X.K (asSh g ga)) :=
  (pa_cons (pe_share ha) hr hs).imp fun σ H Q ⟨ρ, rs, ρ', E, hg, q⟩ => by
    unfold asSh at hg
    obtain ⟨⟨r1, ρ1⟩, h1, hg⟩ := Option.bind_eq_some_iff.mp hg
    obtain ⟨⟨d, ρ2⟩, h2, hg⟩ := Option.bind_eq_some_iff.mp hg
    obtain ⟨⟨ds, ρ3⟩, h3, hg⟩ := Option.bind_eq_some_iff.mp hg
    cases hg
    refine ⟨ρ, r1, ρ1, d, ρ2, E, h1, h2, fun v H1 E1 s1 R1 => ⟨ρ2, ds, ρ3, E1, h3, fun vs H2 E2 s2 R2 => ?_⟩⟩
    exact q _ H2 E2 (s1.trans s2) (.cons (R1.ev (s2.toStp.ev E1)) R2)
theorem pu_asBo {i : Nat} (ha : PE X e (tVar i)) (hr : PA X es (tAs X.K ga)) (hs : starEach (e :: es) X.env = (false, eval e X.env) :: starEach es X.env := by rfl) : PA X (e :: es) (tAs X.K (asBo i ga)) :=
  (pa_cons ha hr hs).imp fun σ H Q ⟨ρ, rs, ρ', E, hg, q⟩ => by
    unfold asBo at hg
    obtain ⟨d, h1, hg⟩ := Option.bind_eq_some_iff.mp hg
    obtain ⟨⟨as, ρ2⟩, h2, hg⟩ := Option.bind_eq_some_iff.mp hg
    cases hg
    have hv : ∃ v, σ[i]? = some (some v) := by
      cases hi : ρ[i]? with
      | none => rw [hi] at h1; cases h1
      | some t =>
        rw [hi] at h1
        cases t with
        | no => cases h1
        | gh z => cases h1
        | xt z => cases h1
        | sh z => cases h1
        | ow z => obtain ⟨a, e1, _⟩ := E.ow i z (.inl hi); exact ⟨_, e1⟩
        | bo z => obtain ⟨a, e1, _⟩ := E.ow i z (.inr hi); exact ⟨_, e1⟩
    obtain ⟨v, hv⟩ := hv
    exact ⟨v, hv, ρ, as, ρ2, E, h2, fun vs H2 E2 s2 R2 => q _ H2 E2 s2 (.cons hv R2)⟩
theorem mem_bors : ∀ {as : List Arg} {i : Nat}, i ∈ bors as ↔ ∃ j : Nat, as[j]? = some (.bor i)
  | [], i => by simp [bors]
  | .sh d :: as, i => by
    rw [show bors (.sh d :: as) = bors as from rfl, mem_bors]
    constructor
    · rintro ⟨j, h⟩; exact ⟨j + 1, by simpa using h⟩
    · rintro ⟨j, h⟩
      cases j with
      | zero => simp at h
      | succ j => exact ⟨j, by simpa using h⟩
  | .bor k :: as, i => by
    rw [show bors (.bor k :: as) = k :: bors as from rfl, List.mem_cons, mem_bors]
    constructor
    · rintro (rfl | ⟨j, h⟩)
      · exact ⟨0, rfl⟩
      · exact ⟨j + 1, by simpa using h⟩
    · rintro ⟨j, h⟩
      cases j with
      | zero => simp at h; exact .inl h.symm
      | succ j => exact .inr ⟨j, by simpa using h⟩
theorem bors_inj : ∀ {as : List Arg}, (bors as).Nodup → ∀ {j k i : Nat}, as[j]? = some (.bor i) → as[k]? = some (.bor i) → j = k
  | [], _, j, k, i, h, _ => by simp at h
  | .sh d :: as, nd, j, k, i, h, h' => by
    cases j with
    | zero => simp at h
    | succ j =>
      cases k with
      | zero => simp at h'
      | succ k => rw [bors_inj (as := as) nd (j := j) (k := k) (i := i) (by simpa using h) (by simpa using h')]
  | .bor x :: as, nd, j, k, i, h, h' => by
    have nd' : x ∉ bors as ∧ (bors as).Nodup := by simpa [bors] using nd
    cases j with
    | zero =>
      cases k with
      | zero => rfl
      | succ k =>
        simp at h; subst h
        exact absurd (mem_bors.mpr ⟨k, by simpa using h'⟩) nd'.1
    | succ j =>
      cases k with
      | zero =>
        simp at h'; subst h'
        exact absurd (mem_bors.mpr ⟨j, by simpa using h⟩) nd'.1
      | succ k => rw [bors_inj (as := as) nd'.2 (j := j) (k := k) (i := i) (by simpa using h) (by simpa using h')]
theorem argSlots_get {ρ : Env} : ∀ {as : List Arg} {ss : List Slot}, argSlots ρ as = some ss → as.length = ss.length ∧ ∀ {j : Nat} {a : Arg}, as[j]? = some a → ∃ s, ss[j]? = some s ∧ argSlot ρ a = some s
  | [], _, h => by cases h; exact ⟨rfl, fun h => by simp at h⟩
  | a :: as, _, h => by
    unfold argSlots at h
    obtain ⟨s, h1, h⟩ := Option.bind_eq_some_iff.mp h
    obtain ⟨ss, h2, h⟩ := Option.bind_eq_some_iff.mp h
    cases h
    obtain ⟨hl, ih⟩ := argSlots_get h2
    refine ⟨by simp [hl], fun {j b} hj => ?_⟩
    cases j with
    | zero => simp at hj; subst hj; exact ⟨s, rfl, h1⟩
    | succ j => obtain ⟨t, h3, h4⟩ := ih (j := j) (by simpa using hj); exact ⟨t, by simpa using h3, h4⟩
theorem argSlot_bor {ρ : Env} {i : Nat} {s : Slot} (h : argSlot ρ (.bor i) = some s) : ∃ d, (s = .bo d ∧ (ρ[i]? = some (.ow d) ∨ ρ[i]? = some (.bo d))) ∨ (s = .gh d ∧ ρ[i]? = some (.gh d)) := by
  unfold argSlot at h
  simp only at h
  split at h
  · rename_i d e; cases h; exact ⟨d, .inl ⟨rfl, .inl e⟩⟩
  · rename_i d e; cases h; exact ⟨d, .inl ⟨rfl, .inr e⟩⟩
  · rename_i d e; cases h; exact ⟨d, .inr ⟨rfl, e⟩⟩
  · cases h
def BackTo (ρ ρ' : Env) (i : Nat) (t : Option Slot) : Prop := (∃ d', t = some (.bo d') ∧ ((∃ d, ρ[i]? = some (.ow d) ∧ ρ'[i]? = some (.ow d')) ∨ ∃ d, ρ[i]? = some (.bo d) ∧ ρ'[i]? = some (.bo d'))) ∨ ∃ d' d, t = some (.gh d') ∧ ρ[i]? = some (.gh d) ∧ ρ'[i]? = some (.gh d')
theorem BackTo.from {ρ ρ1 ρ' : Env} {i : Nat} {t : Option Slot} (h : BackTo ρ1 ρ' i t) (e : ρ1[i]? = ρ[i]?) : BackTo ρ ρ' i t := by
  unfold BackTo at h ⊢; rw [e] at h; exact h
theorem BackTo.to {ρ ρ1 ρ' : Env} {i : Nat} {t : Option Slot} (h : BackTo ρ ρ1 i t) (e : ρ'[i]? = ρ1[i]?) : BackTo ρ ρ' i t := by
  unfold BackTo at h ⊢; rw [e]; exact h
theorem BackTo.isO {ρ ρ' : Env} {i : Nat} {t : Option Slot} (h : BackTo ρ ρ' i t) : IsO ρ i := by
  rcases h with ⟨d', _, ⟨d, h, _⟩ | ⟨d, h, _⟩⟩ | ⟨d', d, _, h, _⟩
  · exact ⟨d, .inl h⟩
  · exact ⟨d, .inr (.inl h)⟩
  · exact ⟨d, .inr (.inr h)⟩
theorem backSlot_get {i : Nat} {t : Slot} {ρ ρ' : Env} (h : backSlot i t ρ = some ρ') : ρ'.length = ρ.length ∧ (∀ k : Nat, k ≠ i → ρ'[k]? = ρ[k]?) ∧ BackTo ρ ρ' i (some t) := by
  unfold backSlot at h
  split at h
  · rename_i d d' e
    cases h
    have hl := (List.getElem?_eq_some_iff.mp e).1
    exact ⟨by simp, fun k hk => List.getElem?_set_ne (fun z => hk z.symm), .inl ⟨d', rfl, .inl ⟨d, e, List.getElem?_set_self hl⟩⟩⟩
  · rename_i d d' e
    cases h
    have hl := (List.getElem?_eq_some_iff.mp e).1
    exact ⟨by simp, fun k hk => List.getElem?_set_ne (fun z => hk z.symm), .inl ⟨d', rfl, .inr ⟨d, e, List.getElem?_set_self hl⟩⟩⟩
  · rename_i d d' e
    cases h
    have hl := (List.getElem?_eq_some_iff.mp e).1
    exact ⟨by simp, fun k hk => List.getElem?_set_ne (fun z => hk z.symm), .inr ⟨d', d, rfl, e, List.getElem?_set_self hl⟩⟩
  · cases h
theorem backAll_get : ∀ {as : List Arg} {ts : List Slot} {ρ ρ' : Env}, backAll as ts ρ = some ρ' → (bors as).Nodup → ρ'.length = ρ.length ∧ (∀ k : Nat, k ∉ bors as → ρ'[k]? = ρ[k]?) ∧
    ∀ j i : Nat, as[j]? = some (.bor i) → BackTo ρ ρ' i ts[j]?
  | [], [], ρ, ρ', h, _ => by cases h; exact ⟨rfl, fun _ _ => rfl, fun j i h => by simp at h⟩
  | [], _ :: _, _, _, h, _ => by cases h
  | .sh d :: as, [], _, _, h, _ => by cases h
  | .bor i :: as, [], _, _, h, _ => by cases h
  | .sh d :: as, t :: ts, ρ, ρ', h, nd => by
    obtain ⟨h1, h2, h3⟩ := backAll_get (as := as) (ts := ts) (show backAll as ts ρ = some ρ' from h) nd
    refine ⟨h1, h2, fun j i hj => ?_⟩
    cases j with
    | zero => simp at hj
    | succ j => simpa using h3 j i (by simpa using hj)
  | .bor x :: as, t :: ts, ρ, ρ', h, nd => by
    have nd' : x ∉ bors as ∧ (bors as).Nodup := by simpa [bors] using nd
    obtain ⟨ρ1, e1, e2⟩ := Option.bind_eq_some_iff.mp (show (backSlot x t ρ).bind (backAll as ts) = some ρ' from h)
    obtain ⟨a1, a2, a4⟩ := backSlot_get e1
    obtain ⟨h1, h2, h3⟩ := backAll_get e2 nd'.2
    refine ⟨h1.trans a1, fun k hk => ?_, fun j i hj => ?_⟩
    · have hk' : k ≠ x ∧ k ∉ bors as := by simpa [bors] using hk
      rw [h2 k hk'.2, a2 k hk'.1]
    · cases j with
      | zero =>
        simp at hj; subst hj
        exact a4.to (h2 x nd'.1)
      | succ j =>
        have hj' : as[j]? = some (.bor i) := by simpa using hj
        have hi : i ≠ x := by rintro rfl; exact nd'.1 (mem_bors.mpr ⟨j, hj'⟩)
        have q := (h3 j i hj').from (a2 i hi)
        simpa using q
theorem Paired.getP {α β : Type} {F : α → β → Prop} : ∀ {l : List α} {m : List β} {j : Nat} {a : α}, Paired F l m → l[j]? = some a → ∃ b, m[j]? = some b ∧ F a b
  | _, _, _, _, .nil, h => by simp at h
  | _, _, 0, _, .cons r _, h => by simp at h; subst h; exact ⟨_, rfl, r⟩
  | _, _, j + 1, _, .cons _ t, h => by
    obtain ⟨b, h1, h2⟩ := Paired.getP (j := j) t (by simpa using h)
    exact ⟨b, by simpa using h1, h2⟩
theorem call_reads {F : Fn} {n : Nat} {E : XK} {σ : L2.St} {H : Hp} {Q : VK} (hn : ∀ ρ as ρ', ga ρ = some (as, ρ') → as.length = n) (h : tE K (eCall F ga) σ H Q) : tCall (spFn K F n) [] E (tAs K ga) σ H Q := by
  obtain ⟨ρ, r, ρ', E0, hg, q⟩ := h
  unfold eCall at hg
  obtain ⟨⟨as, ρ1⟩, h1, hg⟩ := Option.bind_eq_some_iff.mp hg
  simp only at hg
  split at hg
  case isFalse => cases hg
  rename_i nd
  obtain ⟨ss, h2, hg⟩ := Option.bind_eq_some_iff.mp hg
  obtain ⟨⟨r2, ts⟩, h3, hg⟩ := Option.bind_eq_some_iff.mp hg
  obtain ⟨ρ2, h4, hg⟩ := Option.map_eq_some_iff.mp hg
  cases hg
  refine ⟨ρ, as, ρ1, E0, h1, fun vs H1 E1 s1 R1 => ?_⟩
  show spFn K F n (vs ++ []) H1 Q E
  rw [List.append_nil]
  have lv : as.length = vs.length := Paired.length R1
  obtain ⟨ls, gs⟩ := argSlots_get h2
  obtain ⟨lb, b1, b2⟩ := backAll_get h4 nd
  -- slots of the call
  have slot : ∀ {j : Nat} {s : Slot}, ss[j]? = some s → ∃ a v, as[j]? = some a ∧ vs[j]? = some v ∧ AR K H1 σ a v ∧ argSlot ρ1 a = some s := fun {j s} hs => by
    have hj : j < as.length := by rw [ls]; exact (List.getElem?_eq_some_iff.mp hs).1
    obtain ⟨v, e1, e2⟩ := Paired.getP R1 (List.getElem?_eq_getElem hj)
    obtain ⟨t, e3, e4⟩ := gs (List.getElem?_eq_getElem hj)
    rw [hs] at e3; cases e3
    exact ⟨as[j], v, List.getElem?_eq_getElem hj, e1, e2, e4⟩
  have vmap : ∀ {j : Nat} {v : V}, vs[j]? = some v → (vs.map some)[j]? = some (some v) := fun h => by rw [List.getElem?_map, h]; rfl
  -- a slot that is owned in the call is a borrowed one
  have bor : ∀ {j : Nat}, IsO ss j → ∃ i a d, as[j]? = some (.bor i) ∧ vs[j]? = some (.ref a) ∧ σ[i]? = some (some (.ref a)) ∧ IsO ρ1 i ∧ ((ss[j]? = some (.bo d) ∧ Ob K H1 a d) ∨ (ss[j]? = some (.gh d) ∧ ObN K H1 a d)) := fun {j} ⟨d, hd⟩ => by
    obtain ⟨s, hs, ho⟩ : ∃ s, ss[j]? = some s ∧ (s = .ow d ∨ s = .bo d ∨ s = .gh d) := by rcases hd with h | h | h; exact ⟨_, h, .inl rfl⟩; exact ⟨_, h, .inr (.inl rfl)⟩; exact ⟨_, h, .inr (.inr rfl)⟩
    obtain ⟨a, v, e1, e2, e3, e4⟩ := slot hs
    cases a with
    | sh z => cases e4; rcases ho with ho | ho | ho <;> cases ho
    | bor i =>
      have e3 : σ[i]? = some (some v) := e3
      obtain ⟨d', ⟨rfl, e5⟩ | ⟨rfl, e5⟩⟩ := argSlot_bor e4
      · obtain ⟨ad, e6, ob⟩ := E1.ow i d' e5
        rw [e3] at e6; cases e6
        exact ⟨i, ad, d', e1, e2, e3, .ob e5, .inl ⟨hs, ob⟩⟩
      · obtain ⟨ad, e6, ob⟩ := E1.gh i d' e5
        rw [e3] at e6; cases e6
        exact ⟨i, ad, d', e1, e2, e3, .gh e5, .inr ⟨hs, ob⟩⟩
  have Ec : ER K H1 (vs.map some) ss := by
    refine ⟨by simp; omega, fun j d hj => ?_, fun j d hj => ?_, fun j k a hj hk e1 e2 => ?_, fun j d hj => ?_, fun j d hj => ?_⟩
    · obtain ⟨a, v, e1, e2, e3, e4⟩ := slot hj
      cases a with
      | sh z => cases e4; exact ⟨v, vmap e2, e3⟩
      | bor i => obtain ⟨d', ⟨z, _⟩ | ⟨z, _⟩⟩ := argSlot_bor e4 <;> cases z
    · obtain ⟨i, a, d', e1, e2, e3, e4, ⟨e5, ob⟩ | ⟨e5, ob⟩⟩ := bor (.ob hj)
      · rw [e5] at hj
        rcases hj with hj | hj
        · cases hj
        · cases hj; exact ⟨a, vmap e2, ob⟩
      · rw [e5] at hj
        rcases hj with hj | hj <;> cases hj
    · obtain ⟨i, a1, d1, p1, p2, p3, p4, _⟩ := bor hj
      obtain ⟨i', a2, d2, q1, q2, q3, q4, _⟩ := bor hk
      rw [vmap p2] at e1; cases e1
      rw [vmap q2] at e2; cases e2
      have := E1.ap i i' _ p4 q4 p3 q3
      subst this
      exact bors_inj nd p1 q1
    · obtain ⟨i, a, d', e1, e2, e3, e4, ⟨e5, ob⟩ | ⟨e5, ob⟩⟩ := bor (.gh hj)
      · rw [e5] at hj; cases hj
      · rw [e5] at hj; cases hj; exact ⟨a, vmap e2, ob⟩
    · obtain ⟨a, v, e1, e2, e3, e4⟩ := slot hj
      cases a with
      | sh z => cases e4
      | bor i => obtain ⟨d', ⟨z, _⟩ | ⟨z, _⟩⟩ := argSlot_bor e4 <;> cases z
  have noow : ∀ (i : Nat) (d : D), ss[i]? ≠ some (.ow d) := fun j d z => by
    obtain ⟨i, a, d', _, _, _, _, ⟨e5, _⟩ | ⟨e5, _⟩⟩ := bor ⟨d, .inl z⟩ <;> (rw [z] at e5; cases e5)
  refine ⟨by rw [← lv]; exact hn _ _ _ h1, ss, r2, ts, Ec, noow, h3, fun v H2 E2 s2 R2 => ?_⟩
  have ev : Ev H1 H2 := s2.ev Ec
  have ownc : ∀ {a : Addr}, Own (vs.map some) ss a → ∃ i, i ∈ bors as ∧ IsO ρ1 i ∧ σ[i]? = some (some (.ref a)) := fun {a} ⟨j, hj, e⟩ => by
    obtain ⟨i, a1, d1, p1, p2, p3, p4, _⟩ := bor hj
    rw [vmap p2] at e; cases e
    exact ⟨i, mem_bors.mpr ⟨j, p1⟩, p4, p3⟩
  have iso : ∀ i, IsO ρ' i → IsO ρ1 i := fun i ⟨d, hd⟩ => by
    by_cases hi : i ∈ bors as
    · obtain ⟨j, hj⟩ := mem_bors.mp hi
      exact (b2 j i hj).isO
    · rw [b1 i hi] at hd; exact ⟨d, hd⟩
  have Ef : ER K H2 σ ρ' := by
    refine ⟨by rw [lb]; exact E1.len, fun i d hi => ?_, fun i d hi => ?_, fun i j a hi hj e1 e2 => E1.ap i j a (iso i hi) (iso j hj) e1 e2, fun i d hi => ?_, fun i d hi => ?_⟩
    · by_cases hb : i ∈ bors as
      · obtain ⟨j, hj⟩ := mem_bors.mp hb
        rcases b2 j i hj with ⟨d', _, ⟨d0, _, q⟩ | ⟨d0, _, q⟩⟩ | ⟨d', d0, _, _, q⟩ <;> (rw [hi] at q; cases q)
      · rw [b1 i hb] at hi
        obtain ⟨v, e1, e2⟩ := E1.sh i d hi
        exact ⟨v, e1, e2.ev ev⟩
    · by_cases hb : i ∈ bors as
      · obtain ⟨j, hj⟩ := mem_bors.mp hb
        rcases b2 j i hj with ⟨d', q0, q⟩ | ⟨d', d0, _, _, q⟩
        · have ed : d' = d := by
            rcases q with ⟨d0, _, q⟩ | ⟨d0, _, q⟩ <;> rw [q] at hi <;> rcases hi with hi | hi <;> cases hi <;> rfl
          subst ed
          obtain ⟨a, e1, ob⟩ := E2.ow j _ (.inr q0)
          obtain ⟨v', e3, e4⟩ := Paired.getP R1 hj
          rw [vmap e3] at e1; cases e1
          exact ⟨a, e4, ob⟩
        · rw [q] at hi; rcases hi with hi | hi <;> cases hi
      · rw [b1 i hb] at hi
        obtain ⟨a, e1, ob⟩ := E1.ow i d hi
        refine ⟨a, e1, ob.stay ev fun o z => s2.keep a o z fun w => ?_⟩
        obtain ⟨i', m, o', e'⟩ := ownc w
        have := E1.ap i i' a (.ob hi) o' e1 e'
        subst this
        exact hb m
    · by_cases hb : i ∈ bors as
      · obtain ⟨j, hj⟩ := mem_bors.mp hb
        rcases b2 j i hj with ⟨d', q0, ⟨d0, _, q⟩ | ⟨d0, _, q⟩⟩ | ⟨d', d0, q0, _, q⟩
        · rw [q] at hi; cases hi
        · rw [q] at hi; cases hi
        · rw [q] at hi; cases hi
          obtain ⟨a, e1, ob⟩ := E2.gh j _ q0
          obtain ⟨v', e3, e4⟩ := Paired.getP R1 hj
          rw [vmap e3] at e1; cases e1
          exact ⟨a, e4, ob⟩
      · rw [b1 i hb] at hi
        obtain ⟨a, e1, ob⟩ := E1.gh i d hi
        refine ⟨a, e1, ob.stay ev fun o z => s2.keep a o z fun w => ?_⟩
        obtain ⟨i', m, o', e'⟩ := ownc w
        have := E1.ap i i' a (.gh hi) o' e1 e'
        subst this
        exact hb m
    · by_cases hb : i ∈ bors as
      · obtain ⟨j, hj⟩ := mem_bors.mp hb
        rcases b2 j i hj with ⟨d', _, ⟨d0, _, q⟩ | ⟨d0, _, q⟩⟩ | ⟨d', d0, _, _, q⟩ <;> (rw [hi] at q; cases q)
      · rw [b1 i hb] at hi
        obtain ⟨v, e1, e2⟩ := E1.xt i d hi
        exact ⟨v, e1, e2.ev ev⟩
  have sf : StpE σ ρ1 H1 ρ' H2 := by
    refine ⟨⟨fun a o ha n => s2.keep a o ha fun w => ?_, fun a ⟨i, hi, e⟩ => .inl ⟨i, iso i hi, e⟩, fun i d hi => ⟨rfl, ?_⟩, s2.live, rfl, fun i d hi => ⟨rfl, ?_⟩⟩, iso⟩
    · obtain ⟨i', m, o', e'⟩ := ownc w
      exact n ⟨i', o', e'⟩
    · by_cases hb : i ∈ bors as
      · obtain ⟨j, hj⟩ := mem_bors.mp hb
        rcases b2 j i hj with ⟨d', _, ⟨d0, q1, q⟩ | ⟨d0, q1, q⟩⟩ | ⟨d', d0, _, q1, q⟩
        · rw [hi] at q1; cases q1
        · exact ⟨d', q⟩
        · rw [hi] at q1; cases q1
      · exact ⟨d, by rw [b1 i hb]; exact hi⟩
    · by_cases hb : i ∈ bors as
      · obtain ⟨j, hj⟩ := mem_bors.mp hb
        rcases b2 j i hj with ⟨d', _, ⟨d0, q1, q⟩ | ⟨d0, q1, q⟩⟩ | ⟨d', d0, _, q1, q⟩
        · rw [hi] at q1; cases q1
        · rw [hi] at q1; cases q1
        · exact ⟨d', q⟩
      · exact ⟨d, by rw [b1 i hb]; exact hi⟩
  refine q v H2 Ef (s1.trans sf) ?_
  show RR K H H2 σ ρ' r2 v
  cases r2 with
  | var i => exact R2.elim
  | tx _ _ => exact R2
  | sh d => exact R2
  | ow d =>
    obtain ⟨p, rfl, hp, ob, no⟩ := R2
    refine ⟨p, rfl, s1.toStp.back hp, ob, fun ⟨i, hi, e⟩ => ?_⟩
    obtain ⟨b, e', o, e2, _⟩ := E1.isO (iso i hi)
    rw [e] at e'; cases e'
    rw [hp] at e2; cases e2
theorem asNil_len : ∀ ρ as ρ', asNil ρ = some (as, ρ') → as.length = 0 := fun ρ as ρ' h => by cases h; rfl
theorem asSh_len {n : Nat} (hl : ∀ ρ as ρ', ga ρ = some (as, ρ') → as.length = n) : ∀ ρ as ρ', asSh g ga ρ = some (as, ρ') → as.length = n + 1 := fun ρ as ρ' hg => by
  unfold asSh at hg
  obtain ⟨⟨r1, ρ1⟩, h1, hg⟩ := Option.bind_eq_some_iff.mp hg
  obtain ⟨⟨d, ρ2⟩, h2, hg⟩ := Option.bind_eq_some_iff.mp hg
  obtain ⟨⟨ds, ρ3⟩, h3, hg⟩ := Option.bind_eq_some_iff.mp hg
  cases hg
  simp [hl _ _ _ h3]
theorem asBo_len {n i : Nat} (hl : ∀ ρ as ρ', ga ρ = some (as, ρ') → as.length = n) : ∀ ρ as ρ', asBo i ga ρ = some (as, ρ') → as.length = n + 1 := fun ρ as ρ' hg => by
  unfold asBo at hg
  obtain ⟨d, h1, hg⟩ := Option.bind_eq_some_iff.mp hg
  obtain ⟨⟨as, ρ2⟩, h2, hg⟩ := Option.bind_eq_some_iff.mp hg
  cases hg
  simp [hl _ _ _ h2]
theorem pu_call {F : Fn} {k : Nat} {f : Addr} {fd : FuncData} {ps : List Str} {x : Str} {p pos : Pos} (G : FnOk X.prog X.w X.K X.mg X.base CX0 k f fd ps (spFn X.K F ps.length)) (hr : Room k X.A) (hg : Gl X x) (hm : X.mg x = some (.ref f)) (hk : PySem.W.keepIn X.K (.ref f) = true) (hb : Binds X.K fd ps [])
    (ha : PA X (e :: es) (tAs X.K ga)) (hn : ∀ ρ as ρ', ga ρ = some (as, ρ') → as.length = ps.length) (hdb : (x == ("__debug__" : Str)) = false := by decide) (he : starEach (e :: es) X.env = (false, eval e X.env) :: starEach es X.env := by rfl) (hpl : (backTo pos (starEach es X.env)).any (·.1) = false := by rfl) :
    PE X (.Call (.Name x p) (e :: es) [] pos) (tE X.K (eCall F ga)) := (pe_call G hr hg hm hk hb .nil pass0 ha hdb he hpl).imp fun σ H Q h => call_reads hn h
end
end Pu
set_option maxRecDepth 100000
namespace Pu
open PySem PySem.Spec PyProof.Rows L2
variable [Wd]
section
variable {X : Cx} {K : Frag} {H : Hp} {v : V}
theorem Rr.non (h : Rr K H .none v) : v = .non := by
  rcases h with h | ⟨p, rfl, h⟩
  · cases h; rfl
  · cases h
theorem Rr.str {x : Str} (h : Rr K H (.str x) v) : v = .str x := by
  rcases h with h | ⟨p, rfl, h⟩
  · cases h; rfl
  · cases h
theorem Rr.tup {ds : List D} (h : Rr K H (.tuple ds) v) : ∃ a xs, v = .ref a ∧ TpH H a xs ∧ Reps K H ds xs := by
  rcases h with h | ⟨p, rfl, h⟩
  · cases h with
    | tup h1 h2 h3 => exact ⟨_, _, rfl, h1, h2, h3⟩
  · cases h
theorem Rr.lst {ds : List D} (h : Rr K H (.list ds) v) : ∃ a xs, v = .ref a ∧ SqL K H a xs ∧ Reps K H ds xs := by
  rcases h with h | ⟨p, rfl, h⟩
  · cases h with
    | lst h1 h2 h3 => exact ⟨_, _, rfl, h1.sq, h2, h3⟩
  · cases h with
    | lst h1 h2 => exact ⟨_, _, rfl, .inl (.inl h1), h2⟩
theorem Mk.keep {d : D} {v : V} (h : Rep K H d v) : Mk K H H (.sh d) v := ⟨.refl _, h⟩
theorem Mk.newT {p : Addr} {xs : List V} {ds : List D} (hp : H p = none) (r : Reps K H ds xs) : Mk K H (upd H p (.tup xs)) (.sh (.tuple ds)) (.ref p) := ⟨Ex.new hp, .tup' upd_same (r.ev (Ex.new hp).ev)⟩
theorem Mk.newL {p : Addr} {xs : List V} {ds : List D} (hp : H p = none) (r : Reps K H ds xs) : Mk K H (upd H p (.lst xs)) (.ow (.list ds)) (.ref p) := ⟨Ex.new hp, p, rfl, hp, .lst upd_same (r.ev (Ex.new hp).ev)⟩
theorem opr_or {f : Value → Value → Sem Value} {r r' : R2} (h : OpR X f r) (h' : OpR X f r') : OpR X f (fun x y H Q => r x y H Q ∨ r' x y H Q) := fun pins s σ H x y v u Q I rx ry q => q.elim (h pins s σ H x y v u Q I rx ry) (h' pins s σ H x y v u Q I rx ry)
theorem callr_or {f : Value} {r r' : List V → Hp → VK → Prop} (h : CallR X f r) (h' : CallR X f r') : CallR X f (fun xs H Q => r xs H Q ∨ r' xs H Q) := fun pins s σ H xs us Q I rx q => q.elim (h pins s σ H xs us Q I rx) (h' pins s σ H xs us Q I rx)

def rCatL (K : Frag) : R2 := fun x y H Q => ∃ l b xs zs, x = .ref l ∧ y = .ref b ∧ SqL K H l xs ∧ SqL K H b zs ∧ xs.length + zs.length ≤ sizeLine ∧ ∀ p, H p = none → Q (.ref p) (upd H p (.lst (xs ++ zs)))
theorem op_catL : OpR X (binaryOp .Add) (rCatL X.K) := by
  intro pins s σ H x y v u Q I rx ry h
  obtain ⟨l, b, xs, zs, rfl, rfl, hl, hb, hz, q⟩ := h
  cases rx; cases ry
  obtain ⟨its, r1, ⟨⟨c1, d1, dt1, sl1⟩, n1, e1, hc1, hd1, hdt1⟩, _⟩ := I.list hl
  obtain ⟨jts, r2, ⟨⟨c2, d2, dt2, sl2⟩, n2, e2, hc2, hd2, hdt2⟩, _⟩ := I.list hb
  simp only at hc1 hd1 hdt1 hc2 hd2 hdt2
  subst hc1 hd1 hdt1 hc2 hd2 hdt2
  have l1 := r1.length
  have l2 := r2.length
  refine concat_meets ⟨_, e1, rfl⟩ ⟨_, e2, rfl⟩ noFill_list_add seq_list_add PySem.F.slot_list_add PySem.F.entry_list_add (PySem.F.args_list_add_2 _ _)
    (list_addW l b its.toArray jts.toArray n1 n2 none none sl1 sl2 (by rw [List.size_toArray, List.size_toArray]; omega)) ⟨e1, e2, ?_⟩
  have ea : its.toArray ++ jts.toArray = (its ++ jts).toArray := by simp
  rw [ea]
  exact ⟨.ref _, _, I.lnew (t' := s.toks) (r1.append r2) (by rw [List.length_append]; omega), rfl, q _ I.fresh⟩
theorem op_addA : OpR X (binaryOp .Add) (fun x y H Q => rI0 (fun i j => .int (i + j)) x y H Q ∨ ((∃ i j, x = V.str i ∧ y = V.str j ∧ i.length + j.length ≤ sizeLine ∧ Q (V.str (i ++ j)) H) ∨ (rCatA X.K x y H Q ∨ rCatL X.K x y H Q))) := opr_or op_add (opr_or op_add_str (opr_or op_catA op_catL))
theorem prim_add : Prim2 K pAdd (fun x y H Q => rI0 (fun i j => .int (i + j)) x y H Q ∨ ((∃ i j, x = V.str i ∧ y = V.str j ∧ i.length + j.length ≤ sizeLine ∧ Q (V.str (i ++ j)) H) ∨ (rCatA K x y H Q ∨ rCatL K x y H Q))) := by
  intro d1 d2 x y H Q res h1 h2 hf q
  unfold pAdd at hf
  split at hf
  · cases hf; exact .inl ⟨_, _, h1.int, h2.int, q _ H (.keep (.int _))⟩
  · split at hf
    · rename_i hz; cases hf; exact .inr (.inl ⟨_, _, h1.str, h2.str, hz, q _ H (.keep (.str _))⟩)
    · cases hf
  · split at hf
    · rename_i xs ys hz
      cases hf
      obtain ⟨a, vs, rfl, ha, ra⟩ := h1.tup
      obtain ⟨b, ws, rfl, hb, rb⟩ := h2.tup
      refine .inr (.inr (.inl ⟨a, b, vs, ws, rfl, rfl, ha.sq, hb.sq, by rw [← ra.1, ← rb.1]; exact hz, fun e => ?_, fun e e' => ?_, fun _ _ p hp => q _ _ (.newT hp (ra.append rb))⟩))
      · subst e
        have : xs = [] := List.eq_nil_of_length_eq_zero (by rw [ra.1]; rfl)
        subst this
        exact q _ H (.keep (.tup hb rb.1 rb.2))
      · subst e'
        have : ys = [] := List.eq_nil_of_length_eq_zero (by rw [rb.1]; rfl)
        subst this
        rw [List.append_nil] at q
        exact q _ H (.keep (.tup ha ra.1 ra.2))
    · cases hf
  · split at hf
    · rename_i hz
      cases hf
      obtain ⟨a, vs, rfl, ha, ra⟩ := h1.lst
      obtain ⟨b, ws, rfl, hb, rb⟩ := h2.lst
      exact .inr (.inr (.inr ⟨a, b, vs, ws, rfl, rfl, ha, hb, by rw [← ra.1, ← rb.1]; exact hz, fun p hp => q _ _ (.newL hp (ra.append rb))⟩))
    · cases hf
  · cases hf
theorem prim_sub : Prim2 K pSub (rI0 fun i j => .int (i - j)) := by
  intro d1 d2 x y H Q res h1 h2 hf q
  unfold pSub at hf
  split at hf
  · cases hf; exact ⟨_, _, h1.int, h2.int, q _ H (.keep (.int _))⟩
  · cases hf
theorem op_mulA : OpR X (binaryOp .Mult) (fun x y H Q => rI CMul (fun i j => .int (i * j)) x y H Q ∨ rRepT X.K x y H Q) := opr_or op_mul op_repT
theorem Reps.rep {ds : List D} {xs : List V} (r : Reps K H ds xs) : ∀ n : Nat, Reps K H (List.replicate n ds).flatten (List.replicate n xs).flatten
  | 0 => .nil
  | n + 1 => by
    rw [List.replicate_succ, List.replicate_succ, List.flatten_cons, List.flatten_cons]
    exact r.append (Reps.rep r n)
theorem prim_mul : Prim2 K pMul (fun x y H Q => rI CMul (fun i j => .int (i * j)) x y H Q ∨ rRepT K x y H Q) := by
  intro d1 d2 x y H Q res h1 h2 hf q
  unfold pMul at hf
  split at hf
  · split at hf
    · rename_i hm
      cases hf
      unfold mulOk at hm
      exact .inl ⟨_, _, h1.int, h2.int, by unfold CMul; simpa using hm, q _ H (.keep (.int _))⟩
    · cases hf
  · split at hf
    · rename_i xs k hm
      cases hf
      have hm' : ((xs ≠ [] ∧ 2 ≤ k) ∧ k ≤ 1000) ∧ xs.length ≤ 1000 := by simpa using hm
      obtain ⟨a, vs, rfl, ha, ra⟩ := h1.tup
      refine .inr ⟨a, k, vs, rfl, h2.int, ha.sq, fun e => ?_, hm'.1.1.2, hm'.1.2, by rw [← ra.1]; exact hm'.2, fun p hp => q _ _ (.newT hp (ra.rep _))⟩
      subst e
      exact hm'.1.1.1 (List.eq_nil_of_length_eq_zero (by rw [ra.1]; rfl))
    · cases hf
  · cases hf
theorem prim_div : Prim2 K pDiv (rI CDiv fun i j => .int (i / j)) := by
  intro d1 d2 x y H Q res h1 h2 hf q
  unfold pDiv at hf
  split at hf
  · split at hf
    · rename_i hm
      cases hf
      exact ⟨_, _, h1.int, h2.int, by unfold CDiv; simpa using hm, q _ H (.keep (.int _))⟩
    · cases hf
  · cases hf
theorem prim_mod : Prim2 K pMod (rI (fun _ j => 0 < j) fun i j => .int (i % j)) := by
  intro d1 d2 x y H Q res h1 h2 hf q
  unfold pMod at hf
  split at hf
  · split at hf
    · rename_i hm
      cases hf
      exact ⟨_, _, h1.int, h2.int, hm, q _ H (.keep (.int _))⟩
    · cases hf
  · cases hf
theorem prim_pow : Prim2 K pPow (rI CPow fun i j => .int (i ^ j.toNat)) := by
  intro d1 d2 x y H Q res h1 h2 hf q
  unfold pPow at hf
  split at hf
  · split at hf
    · rename_i hm
      cases hf
      simp only [Bool.and_eq_true, decide_eq_true_eq] at hm
      exact ⟨_, _, h1.int, h2.int, ⟨hm.1.1, hm.1.2, hm.2⟩, q _ H (.keep (.int _))⟩
    · cases hf
  · cases hf
theorem prim_neg : Prim1 K pNeg (rU fun i => .int (-i)) := by
  intro d x H Q res h1 hf q
  unfold pNeg at hf
  split at hf
  · cases hf; exact ⟨_, h1.int, q _ H (.keep (.int _))⟩
  · cases hf
end
end Pu
set_option maxRecDepth 100000
namespace Pu
open PySem PySem.Spec PyProof.Rows L2
variable [Wd]
section
variable {X : Cx} {K : Frag} {H : Hp}
theorem canLayAll_get : ∀ {ds : List D} {i : Nat} {d : D}, PyData.canLayAll0 ds = true → ds[i]? = some d → d.canLay0 = true
  | [], _, _, _, h => by simp at h
  | e :: ds, 0, d, h, h' => by
    simp at h'; subst h'
    have : e.canLay0 = true ∧ PyData.canLayAll0 ds = true := by simpa [PyData.canLayAll0] using h
    exact this.1
  | e :: ds, i + 1, d, h, h' => by
    have : e.canLay0 = true ∧ PyData.canLayAll0 ds = true := by simpa [PyData.canLayAll0] using h
    exact canLayAll_get this.2 (by simpa using h')
theorem dpAll_of : ∀ {ds : List D} {xs : List V}, ds.length = xs.length → (∀ (i : Nat) (d : D) (x : V), ds[i]? = some d → xs[i]? = some x → Dp K H x d) → DpAll K H xs ds
  | [], [], _, _ => .nil
  | [], _ :: _, h, _ => by simp at h
  | _ :: _, [], h, _ => by simp at h
  | d :: ds, x :: xs, hl, h => .cons (h 0 d x rfl rfl) (dpAll_of (by simpa using hl) fun i e y h1 h2 => h (i + 1) e y (by simpa using h1) (by simpa using h2))
theorem Rep.dp {d : D} {v : V} (r : Rep K H d v) : d.canLay0 = true → Dp K H v d := by
  induction r with
  | non => intro _; exact .non
  | bl b => intro _; exact .bl b
  | int i => intro _; exact .int i
  | str x => intro _; exact .str x
  | @tup a xs ds h l _ ih =>
    intro hc
    have hc' : PyData.canLayAll0 ds = true := by simpa [PyData.canLay0] using hc
    exact .tup h.sq (dpAll_of l fun i d x h1 h2 => ih i d x h1 h2 (canLayAll_get hc' h1))
  | @lst a xs ds h l _ ih =>
    intro hc
    have hc' : PyData.canLayAll0 ds = true := by simpa [PyData.canLay0] using hc
    exact .lst h.sq (dpAll_of l fun i d x h1 h2 => ih i d x h1 h2 (canLayAll_get hc' h1))
  | dK _ _ _ _ _ => intro hc; simp [PyData.canLay0] at hc
  | dT _ _ _ _ => intro hc; simp [PyData.canLay0] at hc
theorem Rr.dp {d : D} {v : V} (r : Rr K H d v) (hc : d.canLay0 = true) : Dp K H v d := by
  rcases r with r | ⟨a, rfl, ob⟩
  · exact r.dp hc
  · cases ob with
    | @lst xs ds h q =>
      have hc' : PyData.canLayAll0 ds = true := by simpa [PyData.canLay0] using hc
      exact .lst (.inl (.inl h)) (dpAll_of q.1 fun i d x h1 h2 => (q.2 i d x h1 h2).dp (canLayAll_get hc' h1))
    | dK _ _ _ => simp [PyData.canLay0] at hc
    | dT _ _ => simp [PyData.canLay0] at hc

def EmD (H : Hp) (a : Addr) (n : Nat) : Prop := (∃ kvs : List (Key × V), Rd H a (.dK kvs) ∧ kvs.length = n) ∨ ∃ kvs : List (List Key × V), Rd H a (.dT kvs) ∧ kvs.length = n
theorem raw_dict {pins : List (Addr × Obj)} {σ : L2.St} {s : Shared} {a : Addr} {n : Nat} (I : Inv X pins σ H s) (h : EmD H a n) :
    (a == sysModules) = false ∧ ∃ o es ep, s.heap.get? a = some o ∧ o.ExactDict ∧ o.data = .dict es ep ∧ es.size = n := by
  rcases h with ⟨kvs, h, hn⟩ | ⟨kvs, h, hn⟩
  · obtain ⟨_, hs, vs, kv, o, es, ep, e1, e2, e3, e4, e5, _⟩ := h.ok I.hok
    refine ⟨hs, o, es, ep, e1, e2, e3, ?_⟩
    have l1 : kvs.length = vs.length := Paired.length kv
    have l2 := e5.length
    rw [Array.length_toList] at l2
    omega
  · obtain ⟨_, hs, xs, kt, o, es, ep, e1, e2, e3, e4, _⟩ := h.ok I.hok
    refine ⟨hs, o, es, ep, e1, e2, e3, ?_⟩
    have l1 : kvs.length = xs.length := Paired.length kt
    have l2 := congrArg List.length e4
    rw [Array.length_toList, List.length_map] at l2
    omega
theorem same_empty {prog : Program} {w : World} {A : Around} {E : Value → Shared → Prop} {s : Shared} {nm : String} {a b : Addr} {oa ob : Obj} {es es' : Array DictEntry} {ep ep' : Nat} {Q : Bool → Shared → Prop}
    (ha : (a == sysModules) = false) (hb : (b == sysModules) = false) (hoa : s.heap.get? a = some oa) (hda : oa.data = .dict es ep) (hob : s.heap.get? b = some ob) (hdb : ob.data = .dict es' ep') (h0 : es'.size = 0) (h : Q (es.size == 0) s) :
    wpAny (model prog w) A (Builtin.Dict.samePairs nm a b) Q E s := by
  unfold Builtin.Dict.samePairs Builtin.Dict.showsAll
  have na : ¬ (a == sysModules) = true := by rw [ha]; exact Bool.false_ne_true
  have nb : ¬ (b == sysModules) = true := by rw [hb]; exact Bool.false_ne_true
  rw [if_neg na, if_neg nb]
  refine wpAny_bind (wpAny_pure (wpAny_bind (wpAny_pure ?_)))
  refine wpAny_bind (wpAny_dictEntries hoa hda ?_)
  dsimp only
  refine wpAny_bind (wpAny_dictEntries hob hdb ?_)
  by_cases hz : es.size = 0
  · have hq : Q true s := by rw [hz] at h; exact h
    rw [if_neg (by rw [hz, h0]; simp)]
    refine wpAny_bind (wpAny_dictEpoch hoa hda ?_)
    refine wpAny_bind ?_
    rw [Std.Legacy.Range.forIn_eq_forIn_range']
    simp only [Std.Legacy.Range.size, Nat.sub_zero, Nat.add_sub_cancel, Nat.div_one]
    rw [hz]
    exact wpAny_pure (wpAny_pure hq)
  · have hq : Q false s := by
      have : (es.size == 0) = false := by simpa using hz
      rw [this] at h; exact h
    rw [if_pos (by rw [h0]; simpa using hz)]
    exact wpAny_bind (wpAny_rule (wpAny_pure hq))
theorem eq_empty {prog : Program} {w : World} {A : Around} {E : Value → Shared → Prop} {s : Shared} {a b : Addr} {oa ob : Obj} {es es' : Array DictEntry} {ep ep' : Nat} {Q : Value → Shared → Prop}
    (ha : (a == sysModules) = false) (hb : (b == sysModules) = false) (hoa : s.heap.get? a = some oa) (xa : oa.ExactDict) (hda : oa.data = .dict es ep) (hob : s.heap.get? b = some ob) (xb : ob.ExactDict) (hdb : ob.data = .dict es' ep') (h0 : es'.size = 0) (hu : A.units < cLine) (h : Q (.bool (es.size == 0)) s) :
    wpAny (model prog w) A (compareOp .Eq (.ref a) (.ref b)) Q E s := by
  have ta : s.TypeIs (.ref a) "dict" := ⟨oa, hoa, xa.1⟩
  have tb : s.TypeIs (.ref b) "dict" := ⟨ob, hob, xb.1⟩
  refine wpAny_richCompare_same_room (op := .Eq) ta tb PySem.F.slot_dict_eq (wpAny_call_entry PySem.F.slot_dict_eq ta PySem.F.entry_dict_eq ?_ (PySem.F.args_dict_eq_2 _ _)) hu
  show wpAny _ _ (Builtin.Dict.dictSlotArgs "__eq__" ⟨[.ref a, .ref b], []⟩ >>= _) _ _ s
  refine wpAny_bind ?_
  unfold Builtin.Dict.dictSlotArgs
  refine wpAny_bind (wpAny_notOrdered_dict ta ?_)
  show wpAny _ _ (pure (Value.ref a, Value.ref b)) _ _ s
  refine wpAny_pure (wpAny_bind (wpAny_isInstance (T := "dict") tb PySem.F.sub_dict_dict ?_))
  simp only [Bool.not_true, Bool.false_eq_true, if_false]
  refine wpAny_bind (wpAny_pure (wpAny_bind (wpAny_pure (wpAny_bind (same_empty ha hb hoa hda hob hdb h0 ?_)))))
  refine wpAny_pure ⟨_, rfl, ?_, ?_⟩
  · exact fun x => nomatch x
  · simpa using h
theorem ne_empty {prog : Program} {w : World} {A : Around} {E : Value → Shared → Prop} {s : Shared} {a b : Addr} {oa ob : Obj} {es es' : Array DictEntry} {ep ep' : Nat} {Q : Value → Shared → Prop}
    (ha : (a == sysModules) = false) (hb : (b == sysModules) = false) (hoa : s.heap.get? a = some oa) (xa : oa.ExactDict) (hda : oa.data = .dict es ep) (hob : s.heap.get? b = some ob) (xb : ob.ExactDict) (hdb : ob.data = .dict es' ep') (h0 : es'.size = 0) (hu : A.units < cLine) (h : Q (.bool (!(es.size == 0))) s) :
    wpAny (model prog w) A (compareOp .NotEq (.ref a) (.ref b)) Q E s := by
  have ta : s.TypeIs (.ref a) "dict" := ⟨oa, hoa, xa.1⟩
  have tb : s.TypeIs (.ref b) "dict" := ⟨ob, hob, xb.1⟩
  refine wpAny_richCompare_same_room (op := .NotEq) ta tb PySem.F.slot_dict_ne (wpAny_call_entry PySem.F.slot_dict_ne ta PySem.F.entry_dict_ne ?_ (PySem.F.args_dict_ne_2 _ _)) hu
  show wpAny _ _ (Builtin.Dict.dictSlotArgs "__ne__" ⟨[.ref a, .ref b], []⟩ >>= _) _ _ s
  refine wpAny_bind ?_
  unfold Builtin.Dict.dictSlotArgs
  refine wpAny_bind (wpAny_notOrdered_dict ta ?_)
  show wpAny _ _ (pure (Value.ref a, Value.ref b)) _ _ s
  refine wpAny_pure (wpAny_bind (wpAny_isInstance (T := "dict") tb PySem.F.sub_dict_dict ?_))
  simp only [Bool.not_true, Bool.false_eq_true, if_false]
  refine wpAny_bind (wpAny_pure (wpAny_bind (wpAny_pure (wpAny_bind (same_empty ha hb hoa hda hob hdb h0 ?_)))))
  refine wpAny_pure ⟨_, rfl, ?_, ?_⟩
  · exact fun x => nomatch x
  · simpa using h

def rEqM (K : Frag) (neg : Bool) : R2 := fun x y H Q => (∃ d e, Dp K H x d ∧ Dp K H y e ∧ d.canLay0 = true ∧ e.canLay0 = true ∧ (d.depth ≤ 64 ∨ e.depth ≤ 64) ∧ Q (.bl (if neg then !PyData.eqv d e else PyData.eqv d e)) H) ∨
  ∃ a b n, x = .ref a ∧ y = .ref b ∧ EmD H a n ∧ EmD H b 0 ∧ Q (.bl (if neg then !(n == 0) else n == 0)) H
theorem room_min {A : Around} {d e : D} (hu : A.units + 64 < cLine) (h : d.depth ≤ 64 ∨ e.depth ≤ 64) : A.units + min d.depth e.depth < cLine := by
  have h1 := Nat.min_le_left d.depth e.depth
  have h2 := Nat.min_le_right d.depth e.depth
  rcases h with h | h <;> omega
theorem op_eqM (hu : X.A.units + 64 < cLine) : OpR X (compareOp .Eq) (rEqM X.K false) := by
  intro pins s σ H x y v u Q I rx ry h
  rcases h with ⟨d, e, hd, he, sd, se, hh, q⟩ | ⟨a, b, n, rfl, rfl, ha, hb, q⟩
  · obtain ⟨as, r1⟩ := Dp.reads I d x v hd rx
    obtain ⟨bs, r2⟩ := Dp.reads I e y u he ry
    exact SeqAt.compareEq_reads r1 r2 sd se (room_min hu hh) ⟨.bl _, H, I, rfl, q⟩
  · cases rx; cases ry
    obtain ⟨na, oa, es, ep, h1, h2, h3, h4⟩ := raw_dict I ha
    obtain ⟨nb, ob, es', ep', k1, k2, k3, k4⟩ := raw_dict I hb
    exact eq_empty na nb h1 h2 h3 k1 k2 k3 k4 (by omega) ⟨.bl (n == 0), H, I, by rw [h4]; rfl, q⟩
theorem op_neM (hu : X.A.units + 64 < cLine) : OpR X (compareOp .NotEq) (rEqM X.K true) := by
  intro pins s σ H x y v u Q I rx ry h
  rcases h with ⟨d, e, hd, he, sd, se, hh, q⟩ | ⟨a, b, n, rfl, rfl, ha, hb, q⟩
  · obtain ⟨as, r1⟩ := Dp.reads I d x v hd rx
    obtain ⟨bs, r2⟩ := Dp.reads I e y u he ry
    exact SeqAt.compareNe_reads r1 r2 sd se (room_min hu hh) ⟨.bl _, H, I, rfl, q⟩
  · cases rx; cases ry
    obtain ⟨na, oa, es, ep, h1, h2, h3, h4⟩ := raw_dict I ha
    obtain ⟨nb, ob, es', ep', k1, k2, k3, k4⟩ := raw_dict I hb
    exact ne_empty na nb h1 h2 h3 k1 k2 k3 k4 (by omega) ⟨.bl (!(n == 0)), H, I, by rw [h4]; rfl, q⟩
theorem Rr.emd {ds : List (D × D)} {v : V} (h : Rr K H (.dict ds) v) : ∃ a, v = .ref a ∧ EmD H a ds.length := by
  rcases h with h | ⟨a, rfl, h⟩
  · cases h with
    | dK h1 _ h2 _ => exact ⟨_, rfl, .inl ⟨_, .inr ⟨_, h1⟩, by have := congrArg List.length h2; simp at this; exact this.symm⟩⟩
    | dT h1 h2 _ => exact ⟨_, rfl, .inr ⟨_, .inr ⟨_, h1⟩, by have := congrArg List.length h2; simp at this; exact this.symm⟩⟩
  · cases h with
    | dK h1 _ h2 => exact ⟨_, rfl, .inl ⟨_, .inl h1, by have := congrArg List.length h2.1; simp at this; exact this.symm⟩⟩
    | dT h1 h2 => exact ⟨_, rfl, .inr ⟨_, .inl h1, by have := congrArg List.length h2.1; simp at this; exact this.symm⟩⟩
theorem eqD_reads {neg : Bool} {d1 d2 : D} {x y : V} {Q : VK} {b : Bool} (h1 : Rr K H d1 x) (h2 : Rr K H d2 y) (hf : eqD d1 d2 = some b) (q : Q (.bl (if neg then !b else b)) H) : rEqM K neg x y H Q := by
  unfold eqD at hf
  split at hf
  · rename_i i j
    cases hf
    have hq : PyData.eqv (.int i) (.int j) = decide (i = j) := by
      have e : PyData.eqv (.int i) (.int j) = (i == j) := by simp [PyData.eqv]
      rw [e, Bool.eq_iff_iff]; simp
    refine .inl ⟨.int i, .int j, h1.dp rfl, h2.dp rfl, rfl, rfl, .inl (by simp [PyData.depth]), ?_⟩
    rw [hq]; exact q
  · cases hf
    obtain ⟨a, rfl, ea⟩ := h1.emd
    obtain ⟨b, rfl, eb⟩ := h2.emd
    refine .inr ⟨a, b, _, rfl, rfl, ea, eb, ?_⟩
    rename_i xs
    have : xs.isEmpty = (xs.length == 0) := by cases xs <;> rfl
    rw [← this]; exact q
  · split at hf
    · rename_i hk
      cases hf
      unfold eqOk at hk
      have hk' : (d1.canLay0 = true ∧ d2.canLay0 = true) ∧ (d1.depth ≤ 64 ∨ d2.depth ≤ 64) := by simpa using hk
      exact .inl ⟨d1, d2, h1.dp hk'.1.1, h2.dp hk'.1.2, hk'.1.1, hk'.1.2, hk'.2, q⟩
    · cases hf
theorem prim_eq : Prim2 K pEq (rEqM K false) := by
  intro d1 d2 x y H Q res h1 h2 hf q
  obtain ⟨b, hb, hf⟩ := Option.bind_eq_some_iff.mp hf
  cases hf
  exact eqD_reads h1 h2 hb (q _ H (.keep (.bl _)))
theorem prim_ne : Prim2 K pNe (rEqM K true) := by
  intro d1 d2 x y H Q res h1 h2 hf q
  obtain ⟨b, hb, hf⟩ := Option.bind_eq_some_iff.mp hf
  cases hf
  exact eqD_reads h1 h2 hb (q _ H (.keep (.bl _)))

theorem Rr.non_iff {d : D} {v : V} (h : Rr K H d v) : decide (v = .non) = isNoneD d := by
  rcases h with h | ⟨a, rfl, h⟩
  · cases h <;> rfl
  · cases h <;> rfl
def rIsA : R2 := fun x y H Q => (y = V.non ∧ Q (V.bl (decide (x = V.non))) H) ∨ rIsB x y H Q
theorem op_isA : OpR X (compareOp .Is) rIsA := opr_or op_isN op_isBl
theorem prim_is : Prim2 K pIs rIsA := by
  intro d1 d2 x y H Q res h1 h2 hf q
  unfold pIs at hf
  split at hf
  · cases hf
    refine .inl ⟨h2.non, ?_⟩
    rw [h1.non_iff]
    exact q _ H (.keep (.bl _))
  · cases hf
    exact .inr ⟨_, _, h1.bool, h2.bool, q _ H (.keep (.bl _))⟩
  · cases hf
def rNotA : R2 := fun x y H Q => (y = V.non ∧ Q (V.bl (!decide (x = V.non))) H) ∨ rNotB x y H Q
theorem op_notA : OpR X (compareOp .IsNot) rNotA := opr_or op_notN op_notBl
theorem prim_isNot : Prim2 K pIsNot rNotA := by
  intro d1 d2 x y H Q res h1 h2 hf q
  unfold pIsNot at hf
  split at hf
  · cases hf
    refine .inl ⟨h2.non, ?_⟩
    rw [h1.non_iff]
    exact q _ H (.keep (.bl _))
  · cases hf
    exact .inr ⟨_, _, h1.bool, h2.bool, q _ H (.keep (.bl _))⟩
  · cases hf
end
end Pu
set_option maxRecDepth 100000
namespace Pu
open PySem PySem.Spec PyProof.Rows L2
variable [Wd]
section
variable {X : Cx} {K : Frag} {H : Hp}
theorem flat_rep {d : D} {v : V} (h : keyFlat d = true) (r : Rep K H d v) : ∃ k, d = kD k ∧ v = kV k := by
  cases r <;> first | (exact ⟨.inl _, rfl, rfl⟩) | (exact ⟨.inr _, rfl, rfl⟩) | (simp [keyFlat] at h)
theorem flat_reps : ∀ {ds : List D} {xs : List V}, ds.all keyFlat = true → Reps K H ds xs → ∃ ks : List Key, ds = ks.map kD ∧ xs = ks.map kV
  | [], xs, _, r => ⟨[], rfl, by rw [r.nil_inv]; rfl⟩
  | d :: ds, xs, h, r => by
    have h' : keyFlat d = true ∧ ds.all keyFlat = true := by simpa using h
    obtain ⟨x, xs, rfl, r1, r2⟩ := r.uncons
    obtain ⟨k, rfl, rfl⟩ := flat_rep h'.1 r1
    obtain ⟨ks, rfl, rfl⟩ := flat_reps h'.2 r2
    exact ⟨k :: ks, rfl, rfl⟩
theorem eqv_kD (k k' : Key) : PyData.eqv (kD k) (kD k') = decide (k = k') := by
  cases k <;> cases k' <;> simp only [kD, PyData.eqv, Sum.inl.injEq, Sum.inr.injEq, reduceCtorEq, decide_false]
  · exact Bool.beq_eq_decide_eq _ _
  · exact Bool.beq_eq_decide_eq _ _
theorem eqv_kDs : ∀ ks ks' : List Key, PyData.eqvAll (ks.map kD) (ks'.map kD) = decide (ks = ks')
  | [], [] => by simp [PyData.eqvAll]
  | [], _ :: _ => by simp [PyData.eqvAll]
  | _ :: _, [] => by simp [PyData.eqvAll]
  | k :: ks, k' :: ks' => by
    simp only [List.map_cons, PyData.eqvAll, eqv_kD, eqv_kDs ks ks']
    simp
theorem eqv_tup (ks ks' : List Key) : PyData.eqv (.tuple (ks.map kD)) (.tuple (ks'.map kD)) = decide (ks = ks') := by
  rw [← eqv_kDs]; simp [PyData.eqv]
theorem not_tup_kD (k : Key) : isTupKey (kD k) = false := by cases k <;> rfl
theorem findT {ds : List (D × D)} {kvs : List (List Key × V)} (r : RepT K H ds kvs) (k : List Key) : (∀ d, dFind ds (.tuple (k.map kD)) = some d → ∃ v, valV kvs k = some v ∧ Rep K H d v) ∧ (dFind ds (.tuple (k.map kD)) = none → valV kvs k = none) := by
  induction ds generalizing kvs with
  | nil =>
    have : kvs = [] := by have := r.1; simpa using this.symm
    subst this
    refine ⟨fun d h => ?_, fun _ => rfl⟩
    simp [dFind] at h
  | cons q ds ih =>
    cases kvs with
    | nil => have := r.1; simp at this
    | cons p kvs =>
      have e : q.1 = .tuple (p.1.map kD) ∧ ds.map (·.1) = kvs.map (fun q => PyData.tuple (q.1.map kD)) := by have := r.1; simpa using this
      have r' : RepT K H ds kvs := ⟨e.2, fun i a b h1 h2 => r.2 (i + 1) a b (by simpa using h1) (by simpa using h2)⟩
      have hq : PyData.eqv q.1 (.tuple (k.map kD)) = decide (p.1 = k) := by rw [e.1]; exact eqv_tup _ _
      by_cases hk : p.1 = k
      · have h1 : dFind (q :: ds) (.tuple (k.map kD)) = some q.2 := by simp [dFind, List.find?_cons, hq, hk]
        rw [h1, valV_pos hk]
        exact ⟨fun d h => by cases h; exact ⟨_, rfl, r.2 0 q p rfl rfl⟩, fun h => by cases h⟩
      · have h1 : dFind (q :: ds) (.tuple (k.map kD)) = dFind ds (.tuple (k.map kD)) := by simp [dFind, List.find?_cons, hq, hk]
        rw [h1, valV_neg hk]
        exact ih r'
theorem findK {ds : List (D × D)} {kvs : List (Key × V)} (r : RepK K H ds kvs) (k : Key) : (∀ d, dFind ds (kD k) = some d → ∃ v, valV kvs k = some v ∧ Rep K H d v) ∧ (dFind ds (kD k) = none → valV kvs k = none) := by
  induction ds generalizing kvs with
  | nil =>
    have : kvs = [] := by have := r.1; simpa using this.symm
    subst this
    refine ⟨fun d h => ?_, fun _ => rfl⟩
    simp [dFind] at h
  | cons q ds ih =>
    cases kvs with
    | nil => have := r.1; simp at this
    | cons p kvs =>
      have e : q.1 = kD p.1 ∧ ds.map (·.1) = kvs.map (fun q => kD q.1) := by have := r.1; simpa using this
      have r' : RepK K H ds kvs := ⟨e.2, fun i a b h1 h2 => r.2 (i + 1) a b (by simpa using h1) (by simpa using h2)⟩
      have hq : PyData.eqv q.1 (kD k) = decide (p.1 = k) := by rw [e.1]; exact eqv_kD _ _
      by_cases hk : p.1 = k
      · have h1 : dFind (q :: ds) (kD k) = some q.2 := by simp [dFind, List.find?_cons, hq, hk]
        rw [h1, valV_pos hk]
        exact ⟨fun d h => by cases h; exact ⟨_, rfl, r.2 0 q p rfl rfl⟩, fun h => by cases h⟩
      · have h1 : dFind (q :: ds) (kD k) = dFind ds (kD k) := by simp [dFind, List.find?_cons, hq, hk]
        rw [h1, valV_neg hk]
        exact ih r'
theorem Rr.dic {ds : List (D × D)} {v : V} (h : Rr K H (.dict ds) v) : ∃ a, v = .ref a ∧ ((∃ kvs, Rd H a (.dK kvs) ∧ kvs ≠ [] ∧ RepK K H ds kvs) ∨ ∃ kvs, Rd H a (.dT kvs) ∧ RepT K H ds kvs) := by
  rcases h with h | ⟨a, rfl, h⟩
  · cases h with
    | dK h1 n h2 h3 => exact ⟨_, rfl, .inl ⟨_, .inr ⟨_, h1⟩, n, h2, h3⟩⟩
    | dT h1 h2 h3 => exact ⟨_, rfl, .inr ⟨_, .inr ⟨_, h1⟩, h2, h3⟩⟩
  · cases h with
    | dK h1 n h2 => exact ⟨_, rfl, .inl ⟨_, .inl h1, n, h2⟩⟩
    | dT h1 h2 => exact ⟨_, rfl, .inr ⟨_, .inl h1, h2⟩⟩
theorem Rr.flat {d : D} {v : V} (h : Rr K H d v) (hk : keyFlat d = true) : ∃ k, d = kD k ∧ v = kV k := by
  rcases h with h | ⟨a, rfl, h⟩
  · exact flat_rep hk h
  · cases h <;> simp [keyFlat] at hk
theorem kVs_no (ks : List Key) : ks.map kV = [] ∨ ∃ x ∈ ks.map kV, ∀ b, x ≠ V.ref b := by
  cases ks with
  | nil => exact .inl rfl
  | cons k ks => exact .inr ⟨kV k, List.mem_cons_self .., fun b => by cases k <;> exact fun e => nomatch e⟩
theorem Rr.tkey {d : D} {v : V} (h : Rr K H d v) (hk : isTupKey d = true) : ∃ ks b, d = .tuple (List.map kD ks) ∧ v = .ref b ∧ H b = some (.tup (List.map kV ks)) := by
  cases d with
  | tuple ds =>
    obtain ⟨a, xs, rfl, ha, r⟩ := h.tup
    obtain ⟨ks, rfl, rfl⟩ := flat_reps (by simpa [isTupKey] using hk) r
    exact ⟨ks, a, rfl, rfl, ha.plain (kVs_no ks)⟩
  | _ => simp [isTupKey] at hk
theorem dget_of {ds : List (D × D)} {k : D} {x y : V} (hd : Rr K H (.dict ds) x) (hk : Rr K H k y) (ha : dAsk ds k = true) : ∃ a o, x = .ref a ∧ DGet H a y o ∧ (∀ d, dFind ds k = some d → ∃ v, o = some v ∧ Rep K H d v) ∧ (dFind ds k = none → o = none) := by
  obtain ⟨a, rfl, h⟩ := hd.dic
  unfold dAsk at ha
  have ha' : (isTupKey k = true ∧ ds.all (fun q => isTupKey q.1) = true) ∨ ((keyFlat k = true ∧ ds ≠ []) ∧ ds.all (fun q => keyFlat q.1) = true) := by simpa using ha
  rcases ha' with ⟨h1, h2⟩ | ⟨⟨h1, h3⟩, h2⟩
  · obtain ⟨ks, b, rfl, rfl, hb⟩ := hk.tkey h1
    rcases h with ⟨kvs, h4, h5, h6⟩ | ⟨kvs, h4, h6⟩
    · exfalso
      cases kvs with
      | nil => exact h5 rfl
      | cons p kvs =>
        cases ds with
        | nil => have := h6.1; simp at this
        | cons q ds =>
          have e : q.1 = kD p.1 := by have := h6.1; simp at this; exact this.1
          have : isTupKey q.1 = true := by have := List.all_eq_true.mp h2 q (by simp); exact this
          rw [e, not_tup_kD] at this; cases this
    · obtain ⟨f1, f2⟩ := findT h6 ks
      exact ⟨a, valV kvs ks, rfl, .inr ⟨kvs, ks, b, h4, rfl, hb, rfl⟩, fun d hd => let ⟨v, e, r⟩ := f1 d hd; ⟨v, e, r⟩, f2⟩
  · obtain ⟨kk, rfl, rfl⟩ := hk.flat h1
    rcases h with ⟨kvs, h4, h5, h6⟩ | ⟨kvs, h4, h6⟩
    · obtain ⟨f1, f2⟩ := findK h6 kk
      exact ⟨a, valV kvs kk, rfl, .inl ⟨kvs, kk, h4, rfl, rfl⟩, fun d hd => let ⟨v, e, r⟩ := f1 d hd; ⟨v, e, r⟩, f2⟩
    · exfalso
      cases ds with
      | nil => exact h3 rfl
      | cons q ds =>
        cases kvs with
        | nil => have := h6.1; simp at this
        | cons p kvs =>
          have e : q.1 = .tuple (p.1.map kD) := by have := h6.1; simp at this; exact this.1
          have : keyFlat q.1 = true := by have := List.all_eq_true.mp h2 q (by simp); exact this
          rw [e] at this; simp [keyFlat] at this

def rInM (K : Frag) (neg : Bool) : R2 := fun x y H Q => (∃ d ds, Dp K H x d ∧ (Dp K H y (.list ds) ∨ Dp K H y (.tuple ds)) ∧ PyData.canLayAll0 ds = true ∧ d.canLay0 = true ∧ (d.depth ≤ 64 ∨ PyData.depthAll ds ≤ 64) ∧ Q (.bl (if neg then !ds.any (fun z => PyData.eqv z d) else ds.any fun z => PyData.eqv z d)) H) ∨
  ((∃ a o, y = .ref a ∧ DGet H a x o ∧ Q (.bl (if neg then !o.isSome else o.isSome)) H) ∨ ∃ (c : Nat) (z : Str), x = .str ⟨#[c]⟩ ∧ y = .str z ∧ Q (.bl (if neg then !decide (c ∈ z.cps.toList) else decide (c ∈ z.cps.toList))) H)
theorem room_in {A : Around} {d : D} {ds : List D} (hu : A.units + 65 < cLine) (h : d.depth ≤ 64 ∨ PyData.depthAll ds ≤ 64) : A.units + 1 + min (PyData.depthAll ds) d.depth < cLine := by
  have h1 := Nat.min_le_left (PyData.depthAll ds) d.depth
  have h2 := Nat.min_le_right (PyData.depthAll ds) d.depth
  rcases h with h | h <;> omega
theorem op_inM (hu : X.A.units + 65 < cLine) : OpR X (compareOp .In) (rInM X.K false) := by
  intro pins s σ H x y v u Q I rx ry h
  rcases h with ⟨d, ds, hd, he, c1, c2, hh, q⟩ | ⟨a, o, rfl, g, q⟩ | ⟨c, z, rfl, rfl, q⟩
  · obtain ⟨as, r1⟩ := Dp.reads I d x v hd rx
    rcases he with he | he
    · obtain ⟨bs, r2⟩ := Dp.reads I _ y u he ry
      exact SeqAt.in_list_reads r2 r1 c1 c2 (room_in hu hh) ⟨.bl _, H, I, rfl, q⟩
    · obtain ⟨bs, r2⟩ := Dp.reads I _ y u he ry
      exact SeqAt.in_tuple_reads r2 r1 c1 c2 (room_in hu hh) ⟨.bl _, H, I, rfl, q⟩
  · obtain rfl : u = Value.ref a := ry
    exact d_in (by omega) I g rx fun s3 I3 => ⟨.bl o.isSome, H, I3, rfl, q⟩
  · exact op_in_sign pins s σ H _ _ v u Q I rx ry ⟨c, z, rfl, rfl, q⟩
theorem op_notInM (hu : X.A.units + 65 < cLine) : OpR X (compareOp .NotIn) (rInM X.K true) := by
  intro pins s σ H x y v u Q I rx ry h
  rcases h with ⟨d, ds, hd, he, c1, c2, hh, q⟩ | ⟨a, o, rfl, g, q⟩ | ⟨c, z, rfl, rfl, q⟩
  · obtain ⟨as, r1⟩ := Dp.reads I d x v hd rx
    rcases he with he | he
    · obtain ⟨bs, r2⟩ := Dp.reads I _ y u he ry
      exact SeqAt.notIn_list_reads r2 r1 c1 c2 (room_in hu hh) ⟨.bl _, H, I, rfl, q⟩
    · obtain ⟨bs, r2⟩ := Dp.reads I _ y u he ry
      exact SeqAt.notIn_tuple_reads r2 r1 c1 c2 (room_in hu hh) ⟨.bl _, H, I, rfl, q⟩
  · obtain rfl : u = Value.ref a := ry
    exact d_notIn (by omega) I g rx fun s3 I3 => ⟨.bl (!o.isSome), H, I3, rfl, q⟩
  · exact op_notIn_sign pins s σ H _ _ v u Q I rx ry ⟨c, z, rfl, rfl, q⟩
theorem inD_reads {neg : Bool} {d1 d2 : D} {x y : V} {Q : VK} {b : Bool} (h1 : Rr K H d1 x) (h2 : Rr K H d2 y) (hf : inD d1 d2 = some b) (q : Q (.bl (if neg then !b else b)) H) : rInM K neg x y H Q := by
  unfold inD at hf
  split at hf
  · split at hf
    · rename_i ds hk
      cases hf
      unfold inOk at hk
      have hk' : (PyData.canLayAll0 ds = true ∧ d1.canLay0 = true) ∧ (d1.depth ≤ 64 ∨ PyData.depthAll ds ≤ 64) := by simpa using hk
      exact .inl ⟨d1, ds, h1.dp hk'.1.2, .inl (h2.dp (by simpa [PyData.canLay0] using hk'.1.1)), hk'.1.1, hk'.1.2, hk'.2, q⟩
    · cases hf
  · split at hf
    · rename_i ds hk
      cases hf
      unfold inOk at hk
      have hk' : (PyData.canLayAll0 ds = true ∧ d1.canLay0 = true) ∧ (d1.depth ≤ 64 ∨ PyData.depthAll ds ≤ 64) := by simpa using hk
      exact .inl ⟨d1, ds, h1.dp hk'.1.2, .inr (h2.dp (by simpa [PyData.canLay0] using hk'.1.1)), hk'.1.1, hk'.1.2, hk'.2, q⟩
    · cases hf
  · split at hf
    · rename_i kvs hk
      cases hf
      obtain ⟨a, o, rfl, g, f1, f2⟩ := dget_of h2 h1 hk
      refine .inr (.inl ⟨a, o, rfl, g, ?_⟩)
      have e : o.isSome = (dFind kvs d1).isSome := by
        cases hd : dFind kvs d1 with
        | none => rw [f2 hd]; rfl
        | some d => obtain ⟨v, rfl, _⟩ := f1 d hd; rfl
      rw [e]; exact q
    · cases hf
  · split at hf
    · rename_i z _ c
      split at hf
      · rename_i hc
        cases hf
        obtain ⟨⟨l⟩⟩ := c
        match l, hc with
        | [n], _ => exact .inr (.inr ⟨n, z, h1.str, h2.str, q⟩)
      · cases hf
    · cases hf
  · cases hf
theorem prim_in : Prim2 K pIn (rInM K false) := by
  intro d1 d2 x y H Q res h1 h2 hf q
  obtain ⟨b, hb, hf⟩ := Option.bind_eq_some_iff.mp hf
  cases hf
  exact inD_reads h1 h2 hb (q _ H (.keep (.bl _)))
theorem prim_notIn : Prim2 K pNotIn (rInM K true) := by
  intro d1 d2 x y H Q res h1 h2 hf q
  obtain ⟨b, hb, hf⟩ := Option.bind_eq_some_iff.mp hf
  cases hf
  exact inD_reads h1 h2 hb (q _ H (.keep (.bl _)))

theorem at_reps {ds : List D} {xs : List V} {i : Int} {d : D} (r : Reps K H ds xs) (h : atD ds i = some d) : ∃ v, atI xs i = some v ∧ Rep K H d v := by
  unfold atD at h
  obtain ⟨j, h1, h2⟩ := Option.bind_eq_some_iff.mp h
  obtain ⟨v, h3, h4⟩ := r.get h2
  refine ⟨v, ?_, h4⟩
  unfold atI
  have : ixN xs.length i = some j := by rw [← r.1]; exact h1
  rw [this]; exact h3
end
end Pu
set_option maxRecDepth 100000
namespace Pu
open PySem PySem.Spec PyProof.Rows L2
variable [Wd]
section
variable {X : Cx} {K : Frag} {H : Hp} {e a b : Expr} {ga gb g : M} {pos : Pos}
theorem _root_.L2.PE.or {t t' : TE} (h : PE X e t) (h' : PE X e t') : PE X e (fun σ H Q => t σ H Q ∨ t' σ H Q) := ⟨fun pins s σ H Q I q => q.elim (h.run pins s σ H Q I) (h'.run pins s σ H Q I)⟩
theorem pu_sub (hu : X.A.units + 1 < cLine) (ha : PE X a (tE X.K ga)) (hb : PE X b (tE X.K gb)) (hi : PlainIx b := by exact fun _ _ => rfl) : PE X (.Subscript a b pos) (tE X.K (eOp2 pIx ga gb)) :=
  ((pe_ix (IxR.or ix_list ix_tup) ha hb hi).or (pe_dget hu ha hb hi)).imp fun σ H Q ⟨ρ, res, ρ', E, hg, q⟩ => by
    unfold eOp2 at hg
    obtain ⟨⟨r1, ρ1⟩, h1, hg⟩ := Option.bind_eq_some_iff.mp hg
    obtain ⟨⟨r2, ρ2⟩, h2, hg⟩ := Option.bind_eq_some_iff.mp hg
    obtain ⟨x, hx, hg⟩ := Option.bind_eq_some_iff.mp hg
    obtain ⟨y, hy, hg⟩ := Option.bind_eq_some_iff.mp hg
    obtain ⟨z, hz, hg⟩ := Option.map_eq_some_iff.mp hg
    cases hg
    have fin : ∀ {v1 v2 : V} {H1 H2 : Hp} (E1 : ER X.K H1 σ ρ1) (s1 : StpE σ ρ H ρ1 H1) (R1 : RR X.K H H1 σ ρ1 r1 v1) (E2 : ER X.K H2 σ ρ2) (s2 : StpE σ ρ1 H1 ρ2 H2) (R2 : RR X.K H1 H2 σ ρ2 r2 v2) {d : D} {v : V}, res = Res.sh d → Rep X.K H2 d v → Q v H2 := fun E1 s1 R1 E2 s2 R2 _ _ e r => by
      subst e; exact q _ _ E2 (s1.trans s2) r
    unfold pIx at hz
    split at hz
    · obtain ⟨d, hd, hz⟩ := Option.map_eq_some_iff.mp hz
      refine .inl ⟨ρ, r1, ρ1, E, h1, fun v1 H1 E1 s1 R1 => ⟨ρ1, r2, ρ2, E1, h2, fun v2 H2 E2 s2 R2 => ?_⟩⟩
      obtain ⟨p, xs, rfl, hs, rs⟩ := (R1.read E1 s2 E2 hx).lst
      obtain ⟨v, hv, rv⟩ := at_reps rs hd
      exact .inl ⟨p, xs, _, v, rfl, (R2.read E2 (.refl _ _ _) E2 hy).int, hs, hv, fin E1 s1 R1 E2 s2 R2 hz.symm rv⟩
    · obtain ⟨d, hd, hz⟩ := Option.map_eq_some_iff.mp hz
      refine .inl ⟨ρ, r1, ρ1, E, h1, fun v1 H1 E1 s1 R1 => ⟨ρ1, r2, ρ2, E1, h2, fun v2 H2 E2 s2 R2 => ?_⟩⟩
      obtain ⟨p, xs, rfl, hs, rs⟩ := (R1.read E1 s2 E2 hx).tup
      obtain ⟨v, hv, rv⟩ := at_reps rs hd
      exact .inr ⟨p, xs, _, v, rfl, (R2.read E2 (.refl _ _ _) E2 hy).int, hs.sq, hv, fin E1 s1 R1 E2 s2 R2 hz.symm rv⟩
    · split at hz
      · rename_i hk
        obtain ⟨d, hd, hz⟩ := Option.map_eq_some_iff.mp hz
        refine .inr ⟨ρ, r1, ρ1, E, h1, fun v1 H1 E1 s1 R1 => ⟨ρ1, r2, ρ2, E1, h2, fun v2 H2 E2 s2 R2 => ?_⟩⟩
        obtain ⟨p, o, rfl, hg, f1, f2⟩ := dget_of (R1.read E1 s2 E2 hx) (R2.read E2 (.refl _ _ _) E2 hy) hk
        obtain ⟨v, rfl, rv⟩ := f1 d hd
        exact ⟨p, v, rfl, hg, fin E1 s1 R1 E2 s2 R2 hz.symm rv⟩
      · cases hz
    · cases hz

def tOs (K : Frag) (g : Os) : TO := fun σ H Q => ∃ ρ o ρ', ER K H σ ρ ∧ g ρ = some (o, ρ') ∧ ∀ H', ER K H' σ ρ' → StpE σ ρ H ρ' H' → Q o H'
theorem _root_.L2.PO.imp {e : Option Expr} {t t' : TO} (h : PO X e t) (k : ∀ σ H Q, t' σ H Q → t σ H Q) : PO X e t' := ⟨fun pins s σ H Q I q => h.run pins s σ H Q I (k σ H Q q)⟩
theorem pu_oNone : PO X none (tOs X.K oNone) := po_none.imp fun σ H Q ⟨ρ, o, ρ', E, hg, q⟩ => by
  cases hg; exact q H E (.refl _ _ _)
theorem pu_oSome (ha : PE X a (tE X.K ga)) : PO X (some a) (tOs X.K (oSome ga)) := (po_some ha).imp fun σ H Q ⟨ρ, o, ρ', E, hg, q⟩ => by
  unfold oSome at hg
  obtain ⟨⟨r1, ρ1⟩, h1, hg⟩ := Option.bind_eq_some_iff.mp hg
  simp only at hg
  split at hg
  · rename_i i hi
    cases hg
    exact ⟨ρ, r1, _, E, h1, fun v H1 E1 s1 R1 => ⟨i, (R1.read E1 (.refl _ _ _) E1 hi).int, q H1 E1 s1⟩⟩
  · cases hg
theorem cut_reps {ds : List D} {xs : List V} (r : Reps K H ds xs) (lo hi : Option Int) : Reps K H (cutD ds lo hi) (cutV xs lo hi) := by
  have e : ∀ n d o, sIxD n d o = HT.sIx n d o := fun n d o => by cases o <;> rfl
  unfold cutD cutV
  rw [e, e, r.1]
  exact (r.drop _).take _
theorem cut_all {ds : List D} {lo hi : Option Int} (h1 : sIxD ds.length 0 lo = 0) (h2 : sIxD ds.length ds.length hi = ds.length) : cutD ds lo hi = ds := by
  unfold cutD
  rw [h1, h2]
  simp
theorem pu_slice {lo hi : Option Expr} {gl gh : Os} {p2 : Pos} (ha : PE X a (tE X.K ga)) (hl : PO X lo (tOs X.K gl)) (hh : PO X hi (tOs X.K gh)) : PE X (.Subscript a (.Slice lo hi none p2) pos) (tE X.K (eSlice ga gl gh)) :=
  (pe_slice (SlR.or sl_list sl_tupA) ha hl hh).imp fun σ H Q ⟨ρ, res, ρ', E, hg, q⟩ => by
    unfold eSlice at hg
    obtain ⟨⟨r1, ρ1⟩, h1, hg⟩ := Option.bind_eq_some_iff.mp hg
    obtain ⟨⟨l, ρ2⟩, h2, hg⟩ := Option.bind_eq_some_iff.mp hg
    obtain ⟨⟨h, ρ3⟩, h3, hg⟩ := Option.bind_eq_some_iff.mp hg
    obtain ⟨d, h4, hg⟩ := Option.bind_eq_some_iff.mp hg
    obtain ⟨z, hz, hg⟩ := Option.map_eq_some_iff.mp hg
    cases hg
    refine ⟨ρ, r1, ρ1, E, h1, fun v1 H1 E1 s1 R1 => ⟨ρ1, l, ρ2, E1, h2, fun H2 E2 s2 => ⟨ρ2, h, ρ3, E2, h3, fun H3 E3 s3 => ?_⟩⟩⟩
    have rr := R1.read E1 (s2.trans s3) E3 h4
    have st := s1.trans (s2.trans s3)
    have fin : ∀ v H4, Mk X.K H3 H4 res v → Q v H4 := fun v H4 mk => by
      obtain ⟨E4, s4, R4⟩ := mk.rr E3
      exact q v H4 E4 (st.trans s4) (R4.base fun p hp => st.toStp.back hp)
    unfold pSlice at hz
    split at hz
    · cases hz
      obtain ⟨p, xs, rfl, hs, rs⟩ := rr.lst
      exact .inl ⟨p, xs, rfl, hs, fun p' hp => fin _ _ (.newL hp (cut_reps rs l h))⟩
    · cases hz
      obtain ⟨p, xs, rfl, hs, rs⟩ := rr.tup
      have e : ∀ n d o, sIxD n d o = HT.sIx n d o := fun n d o => by cases o <;> rfl
      refine .inr ⟨p, xs, rfl, hs.sq, fun ⟨e1, e2⟩ => ?_, fun _ p' hp => fin _ _ (.newT hp (cut_reps rs l h))⟩
      rw [cut_all (by rw [e, rs.1]; exact e1) (by rw [e, rs.1]; exact e2)] at fin
      exact fin _ _ (.keep (.tup hs rs.1 rs.2))
    · cases hz

theorem Rrs.one {d : D} {vs : List V} (h : Rrs K H [d] vs) : ∃ v, vs = [v] ∧ Rr K H d v := by
  cases h with
  | cons r t => cases t; exact ⟨_, rfl, r⟩
theorem Rrs.two {d d' : D} {vs : List V} (h : Rrs K H [d, d'] vs) : ∃ v w, vs = [v, w] ∧ Rr K H d v ∧ Rr K H d' w := by
  cases h with
  | cons r t => obtain ⟨w, rfl, r'⟩ := Rrs.one t; exact ⟨_, w, rfl, r, r'⟩
theorem call_lenA : CallR X (.builtin "len") (fun xs H Q => (∃ x n, xs = [x] ∧ LenV X.K x H n ∧ Q (.int n) H) ∨ ∃ a n, xs = [.ref a] ∧ EmD H a n ∧ Q (.int n) H) := callr_or call_len (fun pins s σ H xs us Q I rx h => by
  obtain ⟨a, n, rfl, h, q⟩ := h
  cases rx with
  | cons r t =>
    cases t
    cases r
    rcases h with ⟨kvs, h, rfl⟩ | ⟨kvs, h, rfl⟩
    · exact d_len I h fun t s' I' => ⟨.int _, H, I', ⟨_, rfl⟩, q⟩
    · obtain ⟨z, hd, ys, rel, dd⟩ := dt_rd I.hok h
      have hl : kvs.length = ys.length := Paired.length rel
      refine call_len_dictH hd dd (by rw [sizeLine_eq] at z; omega) ?_
      rw [← hl]
      exact ⟨.int _, H, I.tok _, ⟨_, rfl⟩, q⟩)
theorem prim_len : PrimN K pLen (fun xs H Q => (∃ x n, xs = [x] ∧ LenV K x H n ∧ Q (.int n) H) ∨ ∃ a n, xs = [.ref a] ∧ EmD H a n ∧ Q (.int n) H) := by
  intro ds vs H Q res h hf q
  unfold pLen at hf
  split at hf
  · cases hf
    obtain ⟨v, rfl, r⟩ := h.one
    obtain ⟨a, xs, rfl, hs, rs⟩ := r.lst
    exact .inl ⟨_, _, rfl, .inl ⟨xs, hs, rs.1⟩, q _ H (.keep (.int _))⟩
  · cases hf
    obtain ⟨v, rfl, r⟩ := h.one
    obtain ⟨a, xs, rfl, hs, rs⟩ := r.tup
    exact .inl ⟨_, _, rfl, .inr ⟨xs, hs.sq, rs.1⟩, q _ H (.keep (.int _))⟩
  · split at hf
    · rename_i hz
      cases hf
      obtain ⟨v, rfl, r⟩ := h.one
      rw [r.str]
      exact .inl ⟨_, _, rfl, ⟨hz, rfl⟩, q _ H (.keep (.int _))⟩
    · cases hf
  · cases hf
    obtain ⟨v, rfl, r⟩ := h.one
    obtain ⟨a, rfl, em⟩ := r.emd
    exact .inr ⟨a, _, rfl, em, q _ H (.keep (.int _))⟩
  · cases hf
theorem bools_of : ∀ {ds : List D} {xs : List V}, ds.all isBool = true → Reps K H ds xs → xs = (ds.map boolOf).map V.bl
  | [], xs, _, r => by rw [r.nil_inv]; rfl
  | d :: ds, xs, h, r => by
    have h' : isBool d = true ∧ ds.all isBool = true := by simpa using h
    obtain ⟨x, xs, rfl, r1, r2⟩ := r.uncons
    rw [bools_of h'.2 r2]
    cases d with
    | bool b => cases r1; rfl
    | _ => simp [isBool] at h'
theorem prim_all : PrimN K pAll (rAll K) := by
  intro ds vs H Q res h hf q
  unfold pAll at hf
  split at hf
  · split at hf
    · rename_i xs hk
      cases hf
      obtain ⟨v, rfl, r⟩ := h.one
      obtain ⟨a, ys, rfl, hs, rs⟩ := r.lst
      rw [bools_of hk rs] at hs
      refine ⟨a, _, rfl, hs, ?_⟩
      have e : ((xs.map boolOf).all id) = xs.all boolOf := by simp [List.all_map]
      rw [e]
      exact q _ H (.keep (.bl _))
    · cases hf
  · cases hf
theorem prim_any : PrimN K pAny (rAny K) := by
  intro ds vs H Q res h hf q
  unfold pAny at hf
  split at hf
  · split at hf
    · rename_i xs hk
      cases hf
      obtain ⟨v, rfl, r⟩ := h.one
      obtain ⟨a, ys, rfl, hs, rs⟩ := r.lst
      rw [bools_of hk rs] at hs
      refine ⟨a, _, rfl, hs, ?_⟩
      have e : ((xs.map boolOf).any id) = xs.any boolOf := by simp [List.any_map]
      rw [e]
      exact q _ H (.keep (.bl _))
    · cases hf
  · cases hf
theorem prim_min2 : PrimN K pMin2 (fun xs H Q => ∃ i j, xs = [V.int i, V.int j] ∧ Q (V.int (if j < i then j else i)) H) := by
  intro ds vs H Q res h hf q
  unfold pMin2 at hf
  split at hf
  · cases hf
    obtain ⟨v, w, rfl, r, r'⟩ := h.two
    rw [r.int, r'.int]
    exact ⟨_, _, rfl, q _ H (.keep (.int _))⟩
  · cases hf
theorem prim_max2 : PrimN K pMax2 (fun xs H Q => ∃ i j, xs = [V.int i, V.int j] ∧ Q (V.int (if j > i then j else i)) H) := by
  intro ds vs H Q res h hf q
  unfold pMax2 at hf
  split at hf
  · cases hf
    obtain ⟨v, w, rfl, r, r'⟩ := h.two
    rw [r.int, r'.int]
    exact ⟨_, _, rfl, q _ H (.keep (.int _))⟩
  · cases hf
theorem tyOf_rep {d : D} {v : V} (r : Rr K H d v) : (∀ kvs, d ≠ .dict kvs) → ∃ T : String, TyX K H v (.type T) ∧ ∀ U : String, U = "int" ∨ U = "bool" ∨ U = "tuple" ∨ U = "str" ∨ U = "list" → ∃ b, kitB T U = some b ∧ pIsi U d = bR b := by
  intro nd
  have kl : ∀ {a : Addr} {xs : List V}, FL K H a xs → TyX K H (.ref a) (.type "list") := fun h => by
    rcases h with ⟨o, h⟩ | ⟨o, its, n, h, c, _⟩
    · exact .base (.frz h)
    · exact .kList h c
  rcases r with r | ⟨a, rfl, ob⟩
  · cases r with
    | non => exact ⟨"NoneType", .base .non, fun U hU => by rcases hU with rfl | rfl | rfl | rfl | rfl <;> exact ⟨_, by decide +kernel, rfl⟩⟩
    | bl b => exact ⟨"bool", .base (.bl b), fun U hU => by rcases hU with rfl | rfl | rfl | rfl | rfl <;> exact ⟨_, by decide +kernel, rfl⟩⟩
    | int i => exact ⟨"int", .base (.int i), fun U hU => by rcases hU with rfl | rfl | rfl | rfl | rfl <;> exact ⟨_, by decide +kernel, rfl⟩⟩
    | str x => exact ⟨"str", .base (.str x), fun U hU => by rcases hU with rfl | rfl | rfl | rfl | rfl <;> exact ⟨_, by decide +kernel, rfl⟩⟩
    | tup h _ _ =>
      rcases h with h | ⟨o, h, _⟩
      · exact ⟨"tuple", .base (.tup h), fun U hU => by rcases hU with rfl | rfl | rfl | rfl | rfl <;> exact ⟨_, by decide +kernel, rfl⟩⟩
      · exact ⟨"tuple", .fTuple h, fun U hU => by rcases hU with rfl | rfl | rfl | rfl | rfl <;> exact ⟨_, by decide +kernel, rfl⟩⟩
    | lst h _ _ => exact ⟨"list", kl h, fun U hU => by rcases hU with rfl | rfl | rfl | rfl | rfl <;> exact ⟨_, by decide +kernel, rfl⟩⟩
    | dK _ _ _ _ => exact absurd rfl (nd _)
    | dT _ _ _ => exact absurd rfl (nd _)
  · cases ob with
    | lst h _ => exact ⟨"list", .base (.lst h), fun U hU => by rcases hU with rfl | rfl | rfl | rfl | rfl <;> exact ⟨_, by decide +kernel, rfl⟩⟩
    | dK _ _ _ => exact absurd rfl (nd _)
    | dT _ _ => exact absurd rfl (nd _)
theorem pu_isi {T : String} {x : Str} {p p2 pos : Pos} (hT : T = "int" ∨ T = "bool" ∨ T = "tuple" ∨ T = "str" ∨ T = "list") (hg : Gl X "isinstance") (hm : X.mg "isinstance" = none) (he : PE X e (tE X.K g)) (hc : PE X (.Name x p2) (tC (.ty T)))
    (hs : starEach [e, .Name x p2] X.env = (false, eval e X.env) :: starEach [.Name x p2] X.env := by rfl) (hs2 : starEach [.Name x p2] X.env = (false, eval (.Name x p2) X.env) :: starEach [] X.env := by rfl) (hpl : (backTo pos (starEach [.Name x p2] X.env)).any (·.1) = false := by rfl) :
    PE X (.Call (.Name "isinstance" p) [e, .Name x p2] [] pos) (tE X.K (eOp1 (pIsi T) g)) :=
  (pe_callB call_isi hg hm (by decide +kernel) (pa_cons he (pa_cons hc pa_nil hs2) hs) (by decide) (by decide) hs hpl).imp fun σ H Q ⟨ρ, res, ρ', E, hg, q⟩ => by
    unfold eOp1 at hg
    obtain ⟨⟨r1, ρ1⟩, h1, hg⟩ := Option.bind_eq_some_iff.mp hg
    obtain ⟨d, hd, hg⟩ := Option.bind_eq_some_iff.mp hg
    obtain ⟨z, hz, hg⟩ := Option.map_eq_some_iff.mp hg
    cases hg
    refine ⟨ρ, r1, ρ1, E, h1, fun v H1 E1 s1 R1 => ?_⟩
    have nd : ∀ kvs, d ≠ .dict kvs := fun kvs e => by subst e; cases hz
    obtain ⟨T', ty, k⟩ := tyOf_rep (R1.read E1 (.refl _ _ _) E1 hd) nd
    obtain ⟨b, k1, k2⟩ := k T hT
    rw [k2] at hz
    cases hz
    exact ⟨v, .ty T, .type T', .type T, b, rfl, .ty T, ty, kit_ty k1, q _ H1 E1 s1 (.bl b)⟩
def rListA (K : Frag) : List V → Hp → VK → Prop := fun xs H Q => (∃ p ys, xs = [V.ref p] ∧ (SqL K H p ys ∨ SqT K H p ys) ∧ ∀ l, H l = none → Q (.ref l) (upd H l (.lst ys))) ∨
  ∃ d kvs, xs = [V.ref d] ∧ Rd H d (.dT kvs) ∧ ∀ (p : Addr) (bs : List Addr), H p = none → IsKeys H kvs bs → Q (.ref p) (upd H p (.lst (bs.map V.ref)))
theorem call_listA (hc : X.calm = true) : CallR X (.type "list") (rListA X.K) := callr_or call_list_of (call_list_dT hc)
theorem keys_reps : ∀ {kvs : List (List Key × V)} {bs : List Addr} {ds : List D}, IsKeys H kvs bs → ds = kvs.map (fun q => PyData.tuple (q.1.map kD)) → Reps K H ds (bs.map V.ref)
  | _, _, _, .nil, e => by subst e; exact .nil
  | _, _, _, .cons r t, e => by subst e; exact .cons (.tup' r (kDs_rep _)) (keys_reps t rfl)
theorem prim_list : PrimN K pList (rListA K) := by
  intro ds vs H Q res h hf q
  unfold pList at hf
  split at hf
  · cases hf
    obtain ⟨v, rfl, r⟩ := h.one
    obtain ⟨a, ys, rfl, hs, rs⟩ := r.lst
    exact .inl ⟨a, ys, rfl, .inl hs, fun l hl => q _ _ (.newL hl rs)⟩
  · cases hf
    obtain ⟨v, rfl, r⟩ := h.one
    obtain ⟨a, ys, rfl, hs, rs⟩ := r.tup
    exact .inl ⟨a, ys, rfl, .inr hs.sq, fun l hl => q _ _ (.newL hl rs)⟩
  · split at hf
    · rename_i kvs hk
      cases hf
      obtain ⟨v, rfl, r⟩ := h.one
      obtain ⟨a, rfl, hd⟩ := r.dic
      rcases hd with ⟨ks, h4, h5, h6⟩ | ⟨ks, h4, h6⟩
      · exfalso
        cases ks with
        | nil => exact h5 rfl
        | cons p ks =>
          cases kvs with
          | nil => have := h6.1; simp at this
          | cons z kvs =>
            have e : z.1 = kD p.1 := by have := h6.1; simp at this; exact this.1
            have : isTupKey z.1 = true := by have := List.all_eq_true.mp hk z (by simp); exact this
            rw [e, not_tup_kD] at this; cases this
      · exact .inr ⟨a, ks, rfl, h4, fun p bs hp hb => q _ _ (.newL hp (keys_reps hb h6.1))⟩
    · cases hf
  · cases hf
theorem prim_tuple : PrimN K pTuple (fun xs H Q => ∃ p ys, xs = [V.ref p] ∧ ((SqL K H p ys ∧ ∀ l, H l = none → Q (.ref l) (upd H l (.tup ys))) ∨ SqT K H p ys ∧ Q (.ref p) H)) := by
  intro ds vs H Q res h hf q
  unfold pTuple at hf
  split at hf
  · cases hf
    obtain ⟨v, rfl, r⟩ := h.one
    obtain ⟨a, ys, rfl, hs, rs⟩ := r.lst
    exact ⟨a, ys, rfl, .inl ⟨hs, fun l hl => q _ _ (.newT hl rs)⟩⟩
  · cases hf
    obtain ⟨v, rfl, r⟩ := h.one
    obtain ⟨a, ys, rfl, hs, rs⟩ := r.tup
    exact ⟨a, ys, rfl, .inr ⟨hs.sq, q _ _ (.keep (.tup hs rs.1 rs.2))⟩⟩
  · cases hf
end
end Pu
set_option maxRecDepth 100000
namespace Pu
open PySem PySem.Spec PyProof.Rows L2
variable [Wd]
section
variable {X : Cx} {K : Frag} {H : Hp} {σ : L2.St} {ρ ρ' : Env} {i : Nat} {a : Addr} {d d' : D} {o o' : HO}
theorem updSlot_get (h : updSlot i d' ρ = some ρ') : i < ρ.length ∧ ρ'.length = ρ.length ∧ (∀ k : Nat, k ≠ i → ρ'[k]? = ρ[k]?) ∧ ((∃ d, ρ[i]? = some (.ow d) ∧ ρ'[i]? = some (.ow d')) ∨ ∃ d, ρ[i]? = some (.bo d) ∧ ρ'[i]? = some (.bo d')) := by
  unfold updSlot at h
  split at h
  · rename_i d e
    cases h
    have hl := (List.getElem?_eq_some_iff.mp e).1
    exact ⟨hl, by simp, fun k hk => List.getElem?_set_ne (fun z => hk z.symm), .inl ⟨d, e, List.getElem?_set_self hl⟩⟩
  · rename_i d e
    cases h
    have hl := (List.getElem?_eq_some_iff.mp e).1
    exact ⟨hl, by simp, fun k hk => List.getElem?_set_ne (fun z => hk z.symm), .inr ⟨d, e, List.getElem?_set_self hl⟩⟩
  · cases h
theorem ownAt_isO (h : ownAt i ρ = some d) : ρ[i]? = some (.ow d) ∨ ρ[i]? = some (.bo d) := by
  unfold ownAt at h
  obtain ⟨t, h1, h2⟩ := Option.bind_eq_some_iff.mp h
  cases t with
  | no => cases h2
  | sh z => cases h2
  | ow z => cases h2; exact .inl h1
  | bo z => cases h2; exact .inr h1
  | gh z => cases h2
  | xt z => cases h2
theorem upd_own (E : ER K H σ ρ) (hs : σ[i]? = some (some (.ref a))) (e : H a = some o) (p : plain o = true) (hu : updSlot i d' ρ = some ρ') (ob : Ob K (upd H a o') a d') : ER K (upd H a o') σ ρ' ∧ StpE σ ρ H ρ' (upd H a o') := by
  obtain ⟨hl, hl', he, hi⟩ := updSlot_get hu
  have oi : IsO ρ i := by rcases hi with ⟨d, h, _⟩ | ⟨d, h, _⟩; exact ⟨d, .inl h⟩; exact ⟨d, .inr (.inl h)⟩
  have oi' : ρ'[i]? = some (.ow d') ∨ ρ'[i]? = some (.bo d') := by rcases hi with ⟨d, _, h⟩ | ⟨d, _, h⟩; exact .inl h; exact .inr h
  have iso : ∀ j, IsO ρ' j → IsO ρ j := fun j ⟨x, hx⟩ => by
    by_cases hj : j = i
    · subst hj; exact oi
    · rw [he j hj] at hx; exact ⟨x, hx⟩
  have ev : Ev H (upd H a o') := ev_upd e p
  have oa : Own σ ρ a := ⟨i, oi, hs⟩
  refine ⟨⟨by rw [hl']; exact E.len, fun j x h => ?_, fun j x h => ?_, fun j k b hj hk e1 e2 => E.ap j k b (iso j hj) (iso k hk) e1 e2, fun j x h => ?_, fun j x h => ?_⟩, ⟨⟨fun b x h n => ?_, fun b ⟨j, hj, h⟩ => .inl ⟨j, iso j hj, h⟩, fun j x h => ⟨rfl, ?_⟩, fun b x h => ?_, rfl, fun j x h => ⟨rfl, ?_⟩⟩, iso⟩⟩
  · by_cases hj : j = i
    · subst hj; rcases oi' with z | z <;> (rw [z] at h; cases h)
    · rw [he j hj] at h
      obtain ⟨v, h1, h2⟩ := E.sh j x h
      exact ⟨v, h1, h2.ev ev⟩
  · by_cases hj : j = i
    · subst hj
      have : x = d' := by rcases oi' with z | z <;> rw [z] at h <;> rcases h with h | h <;> cases h <;> rfl
      subst this
      exact ⟨a, hs, ob⟩
    · rw [he j hj] at h
      obtain ⟨b, h1, h2⟩ := E.ow j x h
      have hb : b ≠ a := by rintro rfl; exact hj (E.ap j i b (.ob h) oi h1 hs)
      exact ⟨b, h1, h2.stay ev fun y q => by rw [upd_ne hb]; exact q⟩
  · have hj : j ≠ i := by rintro rfl; rcases oi' with z | z <;> (rw [z] at h; cases h)
    rw [he j hj] at h
    obtain ⟨b, h1, h2⟩ := E.gh j x h
    have hb : b ≠ a := by rintro rfl; exact hj (E.ap j i b (.gh h) oi h1 hs)
    exact ⟨b, h1, h2.stay ev fun y q => by rw [upd_ne hb]; exact q⟩
  · have hj : j ≠ i := by rintro rfl; rcases oi' with z | z <;> (rw [z] at h; cases h)
    rw [he j hj] at h
    obtain ⟨b, h1, h2⟩ := E.xt j x h
    exact ⟨b, h1, h2.ev ev⟩
  · have : b ≠ a := by rintro rfl; exact n oa
    rw [upd_ne this]; exact h
  · by_cases hj : j = i
    · subst hj
      rcases hi with ⟨d, z, _⟩ | ⟨d, _, z⟩
      · rw [h] at z; cases z
      · exact ⟨d', z⟩
    · exact ⟨x, by rw [he j hj]; exact h⟩
  · by_cases hb : b = a
    · subst hb; exact ⟨_, upd_same⟩
    · exact ⟨x, by rw [upd_ne hb]; exact h⟩
  · have hj : j ≠ i := by rintro rfl; rcases hi with ⟨d, z, _⟩ | ⟨d, z, _⟩ <;> (rw [h] at z; cases z)
    exact ⟨x, by rw [he j hj]; exact h⟩
theorem ownList_ob {xs : List D} (E : ER K H σ ρ) (h : ownList i ρ = some xs) : ∃ a vs, σ[i]? = some (some (.ref a)) ∧ H a = some (.lst vs) ∧ Reps K H xs vs ∧ IsO ρ i := by
  unfold ownList at h
  split at h
  · rename_i ys e
    cases h
    have io := ownAt_isO e
    obtain ⟨a, h1, h2⟩ := E.ow i _ io
    cases h2 with
    | lst h3 h4 => exact ⟨a, _, h1, h3, h4, .ob io⟩
  · cases h
theorem ownDict_ob {kvs : List (D × D)} (E : ER K H σ ρ) (h : ownDict i ρ = some kvs) : ∃ a, σ[i]? = some (some (.ref a)) ∧ Ob K H a (.dict kvs) ∧ IsO ρ i := by
  unfold ownDict at h
  split at h
  · rename_i ys e
    cases h
    have io := ownAt_isO e
    obtain ⟨a, h1, h2⟩ := E.ow i _ io
    exact ⟨a, h1, h2, .ob io⟩
  · cases h
end
section
variable {X : Cx} {e : Expr} {g : M} {i : Nat} {x : Str} {p apos cpos : Pos}
theorem pu_append (hv : PE X (.Name x p) (tVar i)) (he : PE X e (tE X.K g)) (hs1 : starEach [e] X.env = (false, eval e X.env) :: starEach [] X.env := by rfl)
    (hb : attributeBase (.Name x p) "append" X.env (eval (.Name x p) X.env) = eval (.Name x p) X.env := by rfl)
    (hf : ((((backTo cpos (starEach [e] X.env)).all fun x => !x.fst) && (backToKw cpos (keywordEach [] X.env)).all fun x => x.fst.isSome) && decide (([e].length + ([] : List Keyword).length + if ([] : List Keyword).isEmpty = true then 0 else 1) < 30)) = true := by rfl)
    (hl : (apos.endLine == cpos.line) = true := by rfl) (hpl : (backTo cpos (starEach [] X.env)).any (·.1) = false := by rfl) :
    PE X (.Call (.Attribute (.Name x p) "append" apos) [e] [] cpos) (tE X.K (eAppend i g)) :=
  (pe_bm PySem.F.plainAttrs_list PySem.F.slot_list_append PySem.F.type_list_append mt_append hv (pa_cons (pe_share he) pa_nil hs1) hb hf hl hs1 hpl).imp fun σ H Q ⟨ρ, r, ρ', E, hg, q⟩ => by
    unfold eAppend at hg
    obtain ⟨xs0, h0, hg⟩ := Option.bind_eq_some_iff.mp hg
    obtain ⟨⟨r1, ρ1⟩, h1, hg⟩ := Option.bind_eq_some_iff.mp hg
    obtain ⟨⟨d, ρ2⟩, h2, hg⟩ := Option.bind_eq_some_iff.mp hg
    obtain ⟨xs, h3, hg⟩ := Option.bind_eq_some_iff.mp hg
    simp only at hg
    split at hg
    · rename_i hz
      obtain ⟨ρ3, h4, hg⟩ := Option.map_eq_some_iff.mp hg
      cases hg
      obtain ⟨a, vs0, e1, e2, e3, _⟩ := ownList_ob E h0
      refine ⟨.ref a, e1, .inl ⟨rfl, _, .inl (.inl e2)⟩, ρ, r1, ρ1, d, ρ2, E, h1, h2, fun v H1 E1 s1 R1 => ?_⟩
      obtain ⟨a', vs, f1, f2, f3, _⟩ := ownList_ob E1 h3
      rw [e1] at f1; cases f1
      refine ⟨a, vs, v, rfl, rfl, f2, by rw [← f3.1]; exact hz, ?_⟩
      have evu : Ev H1 (upd H1 a (.lst (vs ++ [v]))) := ev_upd f2 rfl
      obtain ⟨E3, s3⟩ := upd_own (o' := .lst (vs ++ [v])) E1 e1 f2 rfl h4 (.lst upd_same ((f3.ev evu).append (.cons (R1.ev evu) .nil)))
      exact q _ _ E3 (s1.trans s3) .non
    · cases hg
theorem pu_extend (hv : PE X (.Name x p) (tVar i)) (he : PE X e (tE X.K g)) (hs1 : starEach [e] X.env = (false, eval e X.env) :: starEach [] X.env := by rfl)
    (hb : attributeBase (.Name x p) "extend" X.env (eval (.Name x p) X.env) = eval (.Name x p) X.env := by rfl)
    (hf : ((((backTo cpos (starEach [e] X.env)).all fun x => !x.fst) && (backToKw cpos (keywordEach [] X.env)).all fun x => x.fst.isSome) && decide (([e].length + ([] : List Keyword).length + if ([] : List Keyword).isEmpty = true then 0 else 1) < 30)) = true := by rfl)
    (hl : (apos.endLine == cpos.line) = true := by rfl) (hpl : (backTo cpos (starEach [] X.env)).any (·.1) = false := by rfl) :
    PE X (.Call (.Attribute (.Name x p) "extend" apos) [e] [] cpos) (tE X.K (eExtend i g)) :=
  (pe_bm PySem.F.plainAttrs_list PySem.F.slot_list_extend PySem.F.type_list_extend mt_extend hv (pa_cons he pa_nil hs1) hb hf hl hs1 hpl).imp fun σ H Q ⟨ρ, r, ρ', E, hg, q⟩ => by
    unfold eExtend at hg
    obtain ⟨xs0, h0, hg⟩ := Option.bind_eq_some_iff.mp hg
    obtain ⟨⟨r1, ρ1⟩, h1, hg⟩ := Option.bind_eq_some_iff.mp hg
    obtain ⟨ys, h2, hg⟩ := Option.bind_eq_some_iff.mp hg
    obtain ⟨xs, h3, hg⟩ := Option.bind_eq_some_iff.mp hg
    simp only at hg
    split at hg
    · rename_i hz
      obtain ⟨ρ3, h4, hg⟩ := Option.map_eq_some_iff.mp hg
      cases hg
      have h2' : r1 = .ow (.list ys) := by
        cases r1 with
        | ow dd => cases dd <;> first | (cases h2; rfl) | (cases h2)
        | _ => cases h2
      subst h2'
      obtain ⟨a, vs0, e1, e2, e3, _⟩ := ownList_ob E h0
      refine ⟨.ref a, e1, .inl ⟨rfl, _, .inl (.inl e2)⟩, ρ, _, ρ1, E, h1, fun v H1 E1 s1 R1 => ?_⟩
      obtain ⟨a', vs, f1, f2, f3, _⟩ := ownList_ob E1 h3
      rw [e1] at f1; cases f1
      obtain ⟨b, rfl, hb, ob, no⟩ := R1
      cases ob with
      | lst g1 g2 =>
        refine ⟨a, b, vs, _, rfl, rfl, f2, g1, by rw [← f3.1, ← g2.1]; exact hz, ?_⟩
        obtain ⟨E3, s3⟩ := upd_own (o' := .lst (vs ++ _)) E1 e1 f2 rfl h4 (.lst upd_same ((f3.ev (ev_upd f2 rfl)).append (g2.ev (ev_upd f2 rfl))))
        exact q _ _ E3 (s1.trans s3) .non
    · cases hg
theorem pu_popAt (hv : PE X (.Name x p) (tVar i)) (he : PE X e (tE X.K g)) (hs1 : starEach [e] X.env = (false, eval e X.env) :: starEach [] X.env := by rfl)
    (hb : attributeBase (.Name x p) "pop" X.env (eval (.Name x p) X.env) = eval (.Name x p) X.env := by rfl)
    (hf : ((((backTo cpos (starEach [e] X.env)).all fun x => !x.fst) && (backToKw cpos (keywordEach [] X.env)).all fun x => x.fst.isSome) && decide (([e].length + ([] : List Keyword).length + if ([] : List Keyword).isEmpty = true then 0 else 1) < 30)) = true := by rfl)
    (hl : (apos.endLine == cpos.line) = true := by rfl) (hpl : (backTo cpos (starEach [] X.env)).any (·.1) = false := by rfl) :
    PE X (.Call (.Attribute (.Name x p) "pop" apos) [e] [] cpos) (tE X.K (ePopAt i g)) :=
  (pe_bm PySem.F.plainAttrs_list PySem.F.slot_list_pop PySem.F.type_list_pop mt_popAt hv (pa_cons he pa_nil hs1) hb hf hl hs1 hpl).imp fun σ H Q ⟨ρ, r, ρ', E, hg, q⟩ => by
    unfold ePopAt at hg
    obtain ⟨xs0, h0, hg⟩ := Option.bind_eq_some_iff.mp hg
    obtain ⟨⟨r1, ρ1⟩, h1, hg⟩ := Option.bind_eq_some_iff.mp hg
    obtain ⟨d, h2, hg⟩ := Option.bind_eq_some_iff.mp hg
    obtain ⟨k, h2', hg⟩ := Option.bind_eq_some_iff.mp hg
    obtain ⟨xs, h3, hg⟩ := Option.bind_eq_some_iff.mp hg
    simp only at hg
    split at hg
    · rename_i hz
      obtain ⟨y, h5, hg⟩ := Option.bind_eq_some_iff.mp hg
      obtain ⟨ρ3, h4, hg⟩ := Option.map_eq_some_iff.mp hg
      cases hg
      have ed : d = .int k := by cases d <;> first | (cases h2'; rfl) | (cases h2')
      subst ed
      obtain ⟨a, vs0, e1, e2, e3, _⟩ := ownList_ob E h0
      refine ⟨.ref a, e1, .inl ⟨rfl, _, .inl (.inl e2)⟩, ρ, r1, ρ1, E, h1, fun v H1 E1 s1 R1 => ?_⟩
      obtain ⟨a', vs, f1, f2, f3, _⟩ := ownList_ob E1 h3
      rw [e1] at f1; cases f1
      have ev' := (R1.read E1 (.refl _ _ _) E1 h2).int
      subst ev'
      obtain ⟨w, w1, w2⟩ := f3.get h5
      have hsi : seqIndex? k vs.length = some k.toNat := by
        have := f3.1
        have hk : ¬ k < 0 := by omega
        simp only [seqIndex?, hk, if_false]
        rw [if_pos (by simp; omega)]
      refine ⟨a, vs, k, k.toNat, w, rfl, rfl, f2, by omega, by omega, hsi, w1, ?_⟩
      have evu : Ev H1 (upd H1 a (.lst (vs.eraseIdx k.toNat))) := ev_upd f2 rfl
      have rd : Reps X.K H1 (xs.eraseIdx k.toNat) (vs.eraseIdx k.toNat) := by
        rw [List.eraseIdx_eq_take_drop_succ, List.eraseIdx_eq_take_drop_succ]; exact (f3.take _).append (f3.drop _)
      obtain ⟨E3, s3⟩ := upd_own (o' := .lst (vs.eraseIdx k.toNat)) E1 e1 f2 rfl h4 (.lst upd_same (rd.ev evu))
      exact q _ _ E3 (s1.trans s3) (w2.ev evu)
    · cases hg
end
section
variable {X : Cx} {K : Frag} {H : Hp}
def RepG {κ : Type} (K : Frag) (H : Hp) (F : κ → D) (ds : List (D × D)) (kvs : List (κ × V)) : Prop := ds.map (·.1) = kvs.map (fun q => F q.1) ∧ ∀ (i : Nat) (q : D × D) (r : κ × V), ds[i]? = some q → kvs[i]? = some r → Rep K H q.2 r.2
section
variable {κ : Type} [DecidableEq κ] {F : κ → D}
theorem RepG.uncons {q : D × D} {ds : List (D × D)} {kvs : List (κ × V)} (r : RepG K H F (q :: ds) kvs) : ∃ p ks, kvs = p :: ks ∧ q.1 = F p.1 ∧ Rep K H q.2 p.2 ∧ RepG K H F ds ks := by
  cases kvs with
  | nil => have := r.1; simp at this
  | cons p ks =>
    have e : q.1 = F p.1 ∧ ds.map (·.1) = ks.map (fun q => F q.1) := by have := r.1; simpa using this
    exact ⟨p, ks, rfl, e.1, r.2 0 q p rfl rfl, e.2, fun i a b h1 h2 => r.2 (i + 1) a b (by simpa using h1) (by simpa using h2)⟩
theorem RepG.nil_inv {kvs : List (κ × V)} (r : RepG K H F [] kvs) : kvs = [] := by have := r.1; simpa using this.symm
theorem RepG.cons {q : D × D} {p : κ × V} {ds : List (D × D)} {ks : List (κ × V)} (e : q.1 = F p.1) (h : Rep K H q.2 p.2) (r : RepG K H F ds ks) : RepG K H F (q :: ds) (p :: ks) := by
  refine ⟨by simp [e, r.1], fun i a b h1 h2 => ?_⟩
  cases i with
  | zero => simp at h1 h2; subst h1 h2; exact h
  | succ i => exact r.2 i a b (by simpa using h1) (by simpa using h2)
theorem RepG.ev {H' : Hp} {ds : List (D × D)} {kvs : List (κ × V)} (r : RepG K H F ds kvs) (e : Ev H H') : RepG K H' F ds kvs := ⟨r.1, fun i a b h1 h2 => (r.2 i a b h1 h2).ev e⟩
theorem RepG.nil : RepG K H F [] [] := ⟨rfl, fun i a b h => by simp at h⟩
theorem RepG.any (hF : ∀ a b, PyData.eqv (F a) (F b) = decide (a = b)) (k : κ) : ∀ {ds : List (D × D)} {kvs : List (κ × V)}, RepG K H F ds kvs → (ds.any fun q => PyData.eqv q.1 (F k)) = kvs.any fun kv => decide (kv.1 = k)
  | [], _, r => by rw [r.nil_inv]; rfl
  | q :: ds, _, r => by
    obtain ⟨p, ks, rfl, e, _, r'⟩ := r.uncons
    simp only [List.any_cons, e, hF, RepG.any hF k r']
theorem RepG.mapPut (hF : ∀ a b, PyData.eqv (F a) (F b) = decide (a = b)) (k : κ) {d : D} {v : V} (h : Rep K H d v) : ∀ {ds : List (D × D)} {kvs : List (κ × V)}, RepG K H F ds kvs →
    RepG K H F (ds.map fun q => if PyData.eqv q.1 (F k) = true then (q.1, d) else q) (kvs.map fun kv => if kv.1 = k then (kv.1, v) else kv)
  | [], _, r => by rw [r.nil_inv]; exact .nil
  | q :: ds, _, r => by
    obtain ⟨p, ks, rfl, e, h1, r'⟩ := r.uncons
    simp only [List.map_cons, e, hF]
    by_cases hk : p.1 = k
    · simp only [hk, decide_true, if_true]
      exact .cons rfl h (RepG.mapPut hF k h r')
    · simp only [hk, decide_false, if_false, Bool.false_eq_true]
      exact .cons e h1 (RepG.mapPut hF k h r')
theorem RepG.snoc {k : κ} {d : D} {v : V} (h : Rep K H d v) : ∀ {ds : List (D × D)} {kvs : List (κ × V)}, RepG K H F ds kvs → RepG K H F (ds ++ [(F k, d)]) (kvs ++ [(k, v)])
  | [], _, r => by rw [r.nil_inv]; exact .cons rfl h .nil
  | q :: ds, _, r => by
    obtain ⟨p, ks, rfl, e, h1, r'⟩ := r.uncons
    exact .cons e h1 (RepG.snoc h r')
theorem RepG.put (hF : ∀ a b, PyData.eqv (F a) (F b) = decide (a = b)) (k : κ) {d : D} {v : V} (h : Rep K H d v) {ds : List (D × D)} {kvs : List (κ × V)} (r : RepG K H F ds kvs) : RepG K H F (dPut ds (F k) d) (putK kvs k v) := by
  unfold dPut putK
  rw [r.any hF k]
  split
  · exact r.mapPut hF k h
  · exact r.snoc h
theorem RepG.drop (hF : ∀ a b, PyData.eqv (F a) (F b) = decide (a = b)) (k : κ) : ∀ {ds : List (D × D)} {kvs : List (κ × V)}, RepG K H F ds kvs → RepG K H F (dDrop ds (F k)) (dropK kvs k)
  | [], _, r => by rw [r.nil_inv]; exact .nil
  | q :: ds, _, r => by
    obtain ⟨p, ks, rfl, e, h1, r'⟩ := r.uncons
    have ih := RepG.drop hF k r'
    unfold dDrop dropK at ih ⊢
    by_cases hk : p.1 = k
    · rw [List.filter_cons_of_neg (by simp [e, hF, hk]), List.filter_cons_of_neg (by simp [hk])]
      exact ih
    · rw [List.filter_cons_of_pos (by simp [e, hF, hk]), List.filter_cons_of_pos (by simp [hk])]
      exact .cons e h1 ih
theorem putK_ne {kvs : List (κ × V)} {k : κ} {v : V} : putK kvs k v ≠ [] := by
  unfold putK
  split
  · rename_i h
    intro z
    rw [List.map_eq_nil_iff] at z
    subst z; simp at h
  · simp
end
theorem Inv.empT {pins : List (Addr × Obj)} {σ : L2.St} {s : Shared} {a : Addr} (I : Inv X pins σ H s) (h : H a = some (.dT [])) : Inv X pins σ (upd H a (.dK [])) s := by
  obtain ⟨_, hs, xs, kt, o, es, ep, h1, h2, h3, h4, _⟩ := I.hok a _ h
  have hx : xs = [] := by cases kt; rfl
  subst hx
  have he : es = #[] := by
    have h4' : es.toList = [] := h4
    exact Array.toList_eq_nil_iff.mp h4'
  subst he
  have new : ObjOk X.prog X.w (upd H a (.dK [])) s.heap a (.dK []) := ⟨Nat.zero_le _, hs, [], .nil, o, #[], ep, h1, h2, h3, fun _ hx => by simp at hx, Pairs.nil, List.nodup_nil⟩
  exact Inv.write (h' := s.heap) (t' := s.toks) I (by rw [h]; exact True.intro) (.inl rfl) (fun b u _ q => q) ⟨o, h1⟩ new
def tConv (t : TE) : TE := fun σ H Q => t σ H fun v H1 => Q v H1 ∨ ∃ a, H1 a = some (.dT []) ∧ Q v (upd H1 a (.dK []))
theorem pe_conv {e : Expr} {t : TE} (h : PE X e t) : PE X e (tConv t) := ⟨fun pins s σ H Q I q => thn (h.run pins s σ H _ I q) fun u s1 ⟨v, H1, I1, rv, q1⟩ => by
  rcases q1 with q1 | ⟨a, ha, q1⟩
  · exact ⟨v, H1, I1, rv, q1⟩
  · exact ⟨v, _, Inv.empT I1 ha, rv, q1⟩⟩
theorem pu_put {ev ek : Expr} {ga gk : M} {i : Nat} {x : Str} {p pos pos' : Pos} (hu : X.A.units + 1 < cLine) (hv : PE X (.Name x p) (tVar i)) (ha : PE X ev (tE X.K ga)) (hk : PE X ek (tE X.K gk)) (hs : swapsWith ev (some (.Subscript (.Name x p) ek pos')) pos.line X.env = pure false := by rfl) :
    PS X (.Assign [.Subscript (.Name x p) ek pos'] ev pos) (tS X.K (sPut i ga gk)) := (ps_dput hu hv (pe_conv (pe_share hk)) (pe_share ha) hs).imp fun Dn σ H ⟨ρ, o, E, hg, q⟩ => by
  unfold sPut at hg
  obtain ⟨⟨r1, ρ1⟩, h1, hg⟩ := Option.bind_eq_some_iff.mp hg
  obtain ⟨⟨d, ρ2⟩, h2, hg⟩ := Option.bind_eq_some_iff.mp hg
  obtain ⟨kvs0, h0, hg⟩ := Option.bind_eq_some_iff.mp hg
  obtain ⟨⟨r3, ρ3⟩, h3, hg⟩ := Option.bind_eq_some_iff.mp hg
  obtain ⟨⟨k, ρ4⟩, h4, hg⟩ := Option.bind_eq_some_iff.mp hg
  obtain ⟨kvs, h5, hg⟩ := Option.bind_eq_some_iff.mp hg
  simp only at hg
  split at hg
  case isFalse => cases hg
  rename_i hok
  obtain ⟨ρ5, h6, hg⟩ := Option.map_eq_some_iff.mp hg
  cases hg
  refine ⟨ρ, r1, ρ1, d, ρ2, E, h1, h2, fun v H1 E1 s1 R1 => ?_⟩
  obtain ⟨a, e1, ob0, _⟩ := ownDict_ob E1 h0
  refine ⟨.ref a, e1, ρ2, r3, ρ3, k, ρ4, E1, h3, h4, fun y H2 E2 s2 R2 => ?_⟩
  obtain ⟨a', f1, ob, io⟩ := ownDict_ob E2 h5
  rw [e1] at f1; cases f1
  have hok' : ((isTupKey k = true ∧ kvs.all (fun q => isTupKey q.1) = true) ∨ (keyFlat k = true ∧ kvs.all (fun q => keyFlat q.1) = true)) ∧ kvs.length < 16777216 := by
    unfold dPutOk at hok; simpa using hok
  have Rv : Rep X.K H2 d v := R1.ev (s2.toStp.ev E1)
  rcases hok'.1 with ⟨c1, c2⟩ | ⟨c1, c2⟩
  · obtain ⟨ks, b, rfl, rfl, hb⟩ := Rr.tkey (.inl R2) c1
    cases ob with
    | dK g1 gn g2 =>
      exfalso
      rename_i ms
      obtain ⟨mm, mr, rfl⟩ : ∃ m r, ms = m :: r := by cases ms with
        | nil => exact absurd rfl gn
        | cons m r => exact ⟨m, r, rfl⟩
      cases kvs with
      | nil => have := g2.1; simp at this
      | cons z kvs =>
        have e : z.1 = kD mm.1 := by have := g2.1; simp at this; exact this.1
        have : isTupKey z.1 = true := List.all_eq_true.mp c2 z (by simp)
        rw [e, not_tup_kD] at this; cases this
    | @dT ms _ g1 g2 =>
      refine .inl ⟨a, _, rfl, .inr ⟨ms, ks, b, g1, rfl, hb, ?_, rfl⟩, ?_⟩
      · have := congrArg List.length g2.1
        simp at this
        rw [← this]; exact hok'.2
      · have evu : Ev H2 (upd H2 a (.dT (putK ms ks v))) := ev_upd g1 rfl
        have rp : RepG X.K H2 (fun ks : List Key => PyData.tuple (ks.map kD)) kvs ms := g2
        obtain ⟨E3, s3⟩ := upd_own (o' := .dT (putK ms ks v)) E2 e1 g1 rfl h6 (.dT upd_same ((rp.put eqv_tup ks Rv).ev evu))
        exact q _ _ E3 (s1.trans (s2.trans s3)).toStp
  · obtain ⟨kk, rfl, rfl⟩ := Rr.flat (.inl R2) c1
    cases ob with
    | @dK ms _ g1 gn g2 =>
      refine .inl ⟨a, _, rfl, .inl ⟨ms, kk, g1, rfl, ?_, rfl⟩, ?_⟩
      · have := congrArg List.length g2.1
        simp at this
        rw [← this]; exact hok'.2
      · have evu : Ev H2 (upd H2 a (.dK (putK ms kk v))) := ev_upd g1 rfl
        have rp : RepG X.K H2 kD kvs ms := g2
        obtain ⟨E3, s3⟩ := upd_own (o' := .dK (putK ms kk v)) E2 e1 g1 rfl h6 (.dK upd_same putK_ne ((rp.put eqv_kD kk Rv).ev evu))
        exact q _ _ E3 (s1.trans (s2.trans s3)).toStp
    | @dT ms _ g1 g2 =>
      have hn : kvs = [] := by
        cases kvs with
        | nil => rfl
        | cons z kvs =>
          exfalso
          cases ms with
          | nil => have := g2.1; simp at this
          | cons m ms =>
            have e : z.1 = .tuple (m.1.map kD) := by have := g2.1; simp at this; exact this.1
            have : keyFlat z.1 = true := List.all_eq_true.mp c2 z (by simp)
            rw [e] at this; simp [keyFlat] at this
      subst hn
      have hm : ms = [] := by have := g2.1; simpa using this.symm
      subst hm
      refine .inr ⟨a, g1, a, upd (upd H2 a (.dK [])) a (.dK (putK [] kk v)), rfl, .inl ⟨[], kk, upd_same, rfl, by show 0 < sizeLine; decide, rfl⟩, ?_⟩
      rw [upd_upd]
      have evu : Ev H2 (upd H2 a (.dK (putK [] kk v))) := ev_upd g1 rfl
      have rp : RepG X.K H2 kD [] [] := .nil
      obtain ⟨E3, s3⟩ := upd_own (o' := .dK (putK [] kk v)) E2 e1 g1 rfl h6 (.dK upd_same putK_ne ((rp.put eqv_kD kk Rv).ev evu))
      exact q _ _ E3 (s1.trans (s2.trans s3)).toStp
theorem pu_dict {pos : Pos} : PE X (.Dict [] [] pos) (tE X.K (fun ρ => some (.ow (.dict []), ρ))) := pe_dnewT.imp fun σ H Q ⟨ρ, r, ρ', E, hg, q⟩ => by
  cases hg
  intro p hp
  have ex := Ex.new (o := .dT []) hp
  refine q _ _ (E.ex ex) (.ex ex) ⟨p, rfl, hp, .dT upd_same ⟨rfl, fun i q r h => by simp at h⟩, fun z => ?_⟩
  obtain ⟨o, h, _⟩ := E.plainOf z
  rw [hp] at h; cases h
end
end Pu
set_option maxRecDepth 100000
namespace Pu
open PySem PySem.Spec PyProof.Rows L2
variable [Wd]
def LtAt (A : Around) (s : Shared) (v u : Value) (b : Bool) : Prop := ∀ (prog : Program) (w : World) (E : Value → Shared → Prop) (Q : Value → Shared → Prop), Q (.bool b) s → wpAny (model prog w) A (richCompare .Lt v u) Q E s
inductive LexAt (A : Around) (s : Shared) : List Value → List Value → Bool → Prop
  | nn : LexAt A s [] [] false
  | nc {w : Value} {ws : List Value} : LexAt A s [] (w :: ws) true
  | cn {v : Value} {vs : List Value} : LexAt A s (v :: vs) [] false
  | eq {v w : Value} {vs ws : List Value} {b : Bool} : SeqAt.EqAt A s v w true → LexAt A s vs ws b → LexAt A s (v :: vs) (w :: ws) b
  | ne {v w : Value} {vs ws : List Value} {b : Bool} : SeqAt.EqAt A s v w false → LtAt A s v w b → LexAt A s (v :: vs) (w :: ws) b
section
open PySem.SeqAt
open PySem.AutoSeq1 (wpAny_loadPart')
open PySem.MeetsSeq PySem.MeetsSeq2 PySem.MeetsSeq3
theorem tuple_lt_lex (l b : Addr) (items items2 : Array Value) (n n2 : Nat) (dd dd2 : Option Addr) (sl sl2 : Array (Option Value)) (r : Bool) :
    Meets (Builtin.«tuple.__lt__» ⟨[.ref l, .ref b], []⟩)
      (fun A R s => s.heap.get? l = some ⟨.type "tuple", dd, .seq items n, sl⟩ ∧ s.heap.get? b = some ⟨.type "tuple", dd2, .seq items2 n2, sl2⟩ ∧ LexAt A.in1 s items.toList items2.toList r ∧ R (.ok (.ret (.bool r))) s) :=
  .of_wp fun prog w A R s h => by
    obtain ⟨hp, g, d, tk, os⟩ := s
    obtain ⟨hl, hb, hx, h⟩ := h
    have f2 := AutoSeq1.sub_tuple_tuple
    wp_walk using wpAny_loadPart' hl, wpAny_loadPart' hb, wpAny_forIn_list _ (fun rest q s' => q.1 = none ∧ s' = ⟨hp, g, d, tk, os⟩ ∧ ∃ (vs ws : List Value), rest = vs.zip ws ∧ LexAt A.in1 ⟨hp, g, d, tk, os⟩ vs ws r ∧ vs.length + items2.size = ws.length + items.size) _
    case turn =>
      rintro ⟨y, x⟩ rest q s' ⟨hq, rfl, vs, ws, hz, hlx, hlen⟩
      cases hlx with
      | nn => simp at hz
      | nc => simp at hz
      | cn => simp at hz
      | @eq v w' vs ws b' e t =>
        simp only [List.zip_cons_cons, List.cons.injEq, Prod.mk.injEq] at hz
        obtain ⟨⟨rfl, rfl⟩, hrest⟩ := hz
        refine wpAny_bind (e prog w _ _ ?_)
        wp_walk
        exact ⟨rfl, rfl, vs, ws, hrest, t, by simp only [List.length_cons] at hlen; omega⟩
      | @ne v w' vs ws b' e t =>
        simp only [List.zip_cons_cons, List.cons.injEq, Prod.mk.injEq] at hz
        obtain ⟨⟨rfl, rfl⟩, hrest⟩ := hz
        refine wpAny_bind (e prog w _ _ ?_)
        have t' := t prog w
        wp_walk using t'
        exact ⟨_, rfl, by simpa using h⟩
    case fin =>
      rintro ⟨b1, b2⟩ s' ⟨hq, rfl, vs, ws, hz, hlx, hlen⟩
      simp only at hq
      subst hq
      have hv : r = decide (items.size < items2.size) := by
        cases hlx with
        | nn => simp only [List.length_nil] at hlen; exact (decide_eq_false (by omega)).symm
        | nc => simp only [List.length_nil, List.length_cons] at hlen; exact (decide_eq_true (by omega)).symm
        | cn => simp only [List.length_nil, List.length_cons] at hlen; exact (decide_eq_false (by omega)).symm
        | eq e t => simp at hz
        | ne e t => simp at hz
      rw [hv] at h
      wp_walk
      exact ⟨_, rfl, by simpa [Builtin.Tuple.tupleCompareSizes] using h⟩
    case h =>
      exact ⟨rfl, rfl, items.toList, items2.toList, rfl, hx, by simp; omega⟩
end
mutual
theorem ltAt_reads : ∀ (d e : D) (A : Around) (s : Shared) (v u : Value) (as bs : List Addr) (b : Bool), Reads s.heap v d as → Reads s.heap u e bs → d.canLay0 = true → e.canLay0 = true → ltv d e = some b → A.units + min d.depth e.depth < cLine → LtAt A s v u b
  | .int i, .int j, A, s, _, _, _, _, b, ra, rb, _, _, hl, _ => by
    cases ra; cases rb
    simp only [ltv, Option.some.injEq] at hl
    subst hl
    intro prog w E Q q
    exact HT.rcLt_int A s i _ j _ prog w E Q q
  | .str x, .str y, A, s, _, _, _, _, b, ra, rb, _, _, hl, _ => by
    cases ra; cases rb
    simp only [ltv, Option.some.injEq] at hl
    subst hl
    intro prog w E Q q
    exact (PyProof.Rows.lt_str q : wpAny (model prog w) A (compareOp .Lt _ _) Q E s)
  | .tuple xs, .tuple ys, A, s, _, _, _, _, b, ra, rb, ha, hb, hl, hu => by
    cases ra with
    | @tuple a o vs n _ as h1 h2 h3 h4 =>
      cases rb with
      | @tuple a' o' ws n' _ bs k1 k2 k3 k4 =>
        have hl' : ltAll xs ys = some b := by simpa [ltv] using hl
        have hu' : A.units + 1 + min (PyData.depthAll xs) (PyData.depthAll ys) < cLine := by
          have e1 : (PyData.tuple xs).depth = PyData.depthAll xs + 1 := by simp [PyData.depth]
          have e2 : (PyData.tuple ys).depth = PyData.depthAll ys + 1 := by simp [PyData.depth]
          rw [e1, e2] at hu
          omega
        have lx := lexAt_reads xs ys A.in1 s vs.toList ws.toList _ _ b h4 k4 (by simpa [PyData.canLay0] using ha) (by simpa [PyData.canLay0] using hb) hl' (by show A.units + 1 + _ < _; exact hu')
        intro prog w E Q q
        obtain ⟨cls, dd, data, sl⟩ := o
        obtain ⟨cls2, dd2, data2, sl2⟩ := o'
        simp only at h2 h3 k2 k3
        subst h2 h3 k2 k3
        exact richCompare_meets_room (op := .Lt) ⟨_, h1, rfl⟩ ⟨_, k1, rfl⟩ PySem.F.slot_tuple_lt PySem.F.entry_tuple_lt (PySem.F.args_tuple_lt_2 _ _) (tuple_lt_lex a a' vs ws n n' dd dd2 sl sl2 b)
          ⟨h1, k1, lx, (fun x => nomatch x), q⟩ (by omega)
  | .none, e, _, _, _, _, _, _, _, _, _, _, _, hl, _ => by simp [ltv] at hl
  | .bool _, e, _, _, _, _, _, _, _, _, _, _, _, hl, _ => by simp [ltv] at hl
  | .list _, e, _, _, _, _, _, _, _, _, _, _, _, hl, _ => by simp [ltv] at hl
  | .dict _, e, _, _, _, _, _, _, _, _, _, _, _, hl, _ => by simp [ltv] at hl
  | .int _, .none, _, _, _, _, _, _, _, _, _, _, _, hl, _ => by simp [ltv] at hl
  | .int _, .bool _, _, _, _, _, _, _, _, _, _, _, _, hl, _ => by simp [ltv] at hl
  | .int _, .str _, _, _, _, _, _, _, _, _, _, _, _, hl, _ => by simp [ltv] at hl
  | .int _, .list _, _, _, _, _, _, _, _, _, _, _, _, hl, _ => by simp [ltv] at hl
  | .int _, .tuple _, _, _, _, _, _, _, _, _, _, _, _, hl, _ => by simp [ltv] at hl
  | .int _, .dict _, _, _, _, _, _, _, _, _, _, _, _, hl, _ => by simp [ltv] at hl
  | .str _, .none, _, _, _, _, _, _, _, _, _, _, _, hl, _ => by simp [ltv] at hl
  | .str _, .bool _, _, _, _, _, _, _, _, _, _, _, _, hl, _ => by simp [ltv] at hl
  | .str _, .int _, _, _, _, _, _, _, _, _, _, _, _, hl, _ => by simp [ltv] at hl
  | .str _, .list _, _, _, _, _, _, _, _, _, _, _, _, hl, _ => by simp [ltv] at hl
  | .str _, .tuple _, _, _, _, _, _, _, _, _, _, _, _, hl, _ => by simp [ltv] at hl
  | .str _, .dict _, _, _, _, _, _, _, _, _, _, _, _, hl, _ => by simp [ltv] at hl
  | .tuple _, .none, _, _, _, _, _, _, _, _, _, _, _, hl, _ => by simp [ltv] at hl
  | .tuple _, .bool _, _, _, _, _, _, _, _, _, _, _, _, hl, _ => by simp [ltv] at hl
  | .tuple _, .int _, _, _, _, _, _, _, _, _, _, _, _, hl, _ => by simp [ltv] at hl
  | .tuple _, .str _, _, _, _, _, _, _, _, _, _, _, _, hl, _ => by simp [ltv] at hl
  | .tuple _, .list _, _, _, _, _, _, _, _, _, _, _, _, hl, _ => by simp [ltv] at hl
  | .tuple _, .dict _, _, _, _, _, _, _, _, _, _, _, _, hl, _ => by simp [ltv] at hl
theorem lexAt_reads : ∀ (xs ys : List D) (A : Around) (s : Shared) (vs ws : List Value) (as bs : List Addr) (b : Bool), ReadsAll s.heap vs xs as → ReadsAll s.heap ws ys bs → PyData.canLayAll0 xs = true → PyData.canLayAll0 ys = true → ltAll xs ys = some b → A.units + min (PyData.depthAll xs) (PyData.depthAll ys) < cLine → LexAt A s vs ws b
  | [], [], _, _, _, _, _, _, b, ra, rb, _, _, hl, _ => by
    cases ra; cases rb
    simp only [ltAll, Option.some.injEq] at hl
    subst hl; exact .nn
  | [], _ :: _, _, _, _, _, _, _, b, ra, rb, _, _, hl, _ => by
    cases ra; cases rb
    simp only [ltAll, Option.some.injEq] at hl
    subst hl; exact .nc
  | _ :: _, [], _, _, _, _, _, _, b, ra, rb, _, _, hl, _ => by
    cases ra; cases rb
    simp only [ltAll, Option.some.injEq] at hl
    subst hl; exact .cn
  | x :: xs, y :: ys, A, s, _, _, _, _, b, ra, rb, ha, hb, hl, hu => by
    cases ra with
    | cons r1 r2 =>
      cases rb with
      | cons k1 k2 =>
        have ha' : x.canLay0 = true ∧ PyData.canLayAll0 xs = true := by simpa [PyData.canLayAll0] using ha
        have hb' : y.canLay0 = true ∧ PyData.canLayAll0 ys = true := by simpa [PyData.canLayAll0] using hb
        have e1 : PyData.depthAll (x :: xs) = max x.depth (PyData.depthAll xs) := by simp [PyData.depthAll]
        have e2 : PyData.depthAll (y :: ys) = max y.depth (PyData.depthAll ys) := by simp [PyData.depthAll]
        rw [e1, e2] at hu
        have q := SeqAt.eqAt_reads x y A s _ _ _ _ r1 k1 ha'.1 hb'.1 (by omega)
        rw [ltAll] at hl
        split at hl
        · rename_i hq
          rw [hq] at q
          exact .eq q (lexAt_reads xs ys A s _ _ _ _ b r2 k2 ha'.2 hb'.2 hl (by omega))
        · rename_i hq
          have hq' : PyData.eqv x y = false := by simpa using hq
          rw [hq'] at q
          exact .ne q (ltAt_reads x y A s _ _ _ _ b r1 k1 ha'.1 hb'.1 hl (by omega))
end
section
variable {X : Cx} {K : Frag} {H : Hp}
def rLtM (K : Frag) : R2 := fun x y H Q => ∃ d e b, Dp K H x d ∧ Dp K H y e ∧ d.canLay0 = true ∧ e.canLay0 = true ∧ (d.depth ≤ 64 ∨ e.depth ≤ 64) ∧ ltv d e = some b ∧ Q (.bl b) H
theorem op_ltM (hu : X.A.units + 64 < cLine) : OpR X (compareOp .Lt) (rLtM X.K) := by
  intro pins s σ H x y v u Q I rx ry h
  obtain ⟨d, e, b, hd, he, c1, c2, hh, hl, q⟩ := h
  obtain ⟨as, r1⟩ := Dp.reads I d x v hd rx
  obtain ⟨bs, r2⟩ := Dp.reads I e y u he ry
  exact ltAt_reads d e X.A s v u as bs b r1 r2 c1 c2 hl (room_min hu hh) _ _ _ _ ⟨.bl b, H, I, rfl, q⟩
theorem prim_lt : Prim2 K pLt (rLtM K) := by
  intro d1 d2 x y H Q res h1 h2 hf q
  obtain ⟨b, hb, hf⟩ := Option.bind_eq_some_iff.mp hf
  cases hf
  unfold ltD at hb
  split at hb
  · cases hb
    exact ⟨_, _, _, h1.dp (by simp [PyData.canLay0]), h2.dp (by simp [PyData.canLay0]), by simp [PyData.canLay0], by simp [PyData.canLay0], .inl (by simp [PyData.depth]), by simp [ltv], q _ H (.keep (.bl _))⟩
  · split at hb
    · rename_i hk
      unfold eqOk at hk
      have hk' : (d1.canLay0 = true ∧ d2.canLay0 = true) ∧ (d1.depth ≤ 64 ∨ d2.depth ≤ 64) := by simpa using hk
      exact ⟨d1, d2, b, h1.dp hk'.1.1, h2.dp hk'.1.2, hk'.1.1, hk'.1.2, hk'.2, hb, q _ H (.keep (.bl _))⟩
    · cases hb
theorem prim_gt : Prim2 K pGt (rI0 fun i j => .bl (decide (j < i))) := by
  intro d1 d2 x y H Q res h1 h2 hf q
  unfold pGt at hf
  split at hf
  · cases hf; exact ⟨_, _, h1.int, h2.int, q _ H (.keep (.bl _))⟩
  · cases hf
theorem prim_le : Prim2 K pLe (rI0 fun i j => .bl (decide (i ≤ j))) := by
  intro d1 d2 x y H Q res h1 h2 hf q
  unfold pLe at hf
  split at hf
  · cases hf; exact ⟨_, _, h1.int, h2.int, q _ H (.keep (.bl _))⟩
  · cases hf
end
end Pu
set_option maxRecDepth 100000
namespace Pu
open PySem PySem.Spec PyProof.Rows L2
variable [Wd]
open PySem.W (EachIs dataLe dataLt alike alikeAll AllAlike Sortable)
mutual
theorem alike_of : ∀ a b : D, cmpOk a b = true → alike a b = true
  | .tuple xs, .tuple ys, h => by rw [alike]; exact alikes_of xs ys (by simpa [cmpOk] using h)
  | .int _, .int _, _ => by rw [alike]
  | .str _, .str _, _ => by rw [alike]
  | .none, _, h => by simp [cmpOk] at h
  | .bool _, _, h => by simp [cmpOk] at h
  | .list _, _, h => by simp [cmpOk] at h
  | .dict _, _, h => by simp [cmpOk] at h
  | .int _, .none, h => by simp [cmpOk] at h
  | .int _, .bool _, h => by simp [cmpOk] at h
  | .int _, .str _, h => by simp [cmpOk] at h
  | .int _, .list _, h => by simp [cmpOk] at h
  | .int _, .tuple _, h => by simp [cmpOk] at h
  | .int _, .dict _, h => by simp [cmpOk] at h
  | .str _, .none, h => by simp [cmpOk] at h
  | .str _, .bool _, h => by simp [cmpOk] at h
  | .str _, .int _, h => by simp [cmpOk] at h
  | .str _, .list _, h => by simp [cmpOk] at h
  | .str _, .tuple _, h => by simp [cmpOk] at h
  | .str _, .dict _, h => by simp [cmpOk] at h
  | .tuple _, .none, h => by simp [cmpOk] at h
  | .tuple _, .bool _, h => by simp [cmpOk] at h
  | .tuple _, .int _, h => by simp [cmpOk] at h
  | .tuple _, .str _, h => by simp [cmpOk] at h
  | .tuple _, .list _, h => by simp [cmpOk] at h
  | .tuple _, .dict _, h => by simp [cmpOk] at h
theorem alikes_of : ∀ xs ys : List D, cmpOks xs ys = true → alikeAll xs ys = true
  | [], ys, _ => by cases ys <;> simp [alikeAll]
  | _ :: _, [], _ => by simp [alikeAll]
  | x :: xs, y :: ys, h => by
    have h' : cmpOk x y = true ∧ cmpOks xs ys = true := by simpa [cmpOks] using h
    simp [alikeAll, alike_of x y h'.1, alikes_of xs ys h'.2]
end
mutual
theorem dataLt_le : ∀ a b : D, okd a = true → okd b = true → cmpOk a b = true → dataLt a b = !leT b a
  | .int i, .int j, _, _, _ => by
    rw [leT_int]
    show PyProof.Rows.lexLt PyProof.Rows.itemOrd [.inl i] [.inl j] = _
    have e : PyProof.Rows.lexLt PyProof.Rows.itemOrd [.inl i] [.inl j] = decide (i < j) := by
      have := congrFun (congrFun (PySem.W.dataLe_int (β := Int) id) j) i
      rw [PySem.W.dataLe_eq] at this
      have t2 : (!dataLt (.int i) (.int j)) = decide (j ≤ i) := this
      have t3 : dataLt (.int i) (.int j) = !decide (j ≤ i) := by rw [← t2]; simp
      show dataLt (.int i) (.int j) = _
      rw [t3, Bool.eq_iff_iff]; simp
    rw [e, Bool.eq_iff_iff]; simp
  | .str x, .str y, _, _, _ => by
    rw [leT_str]
    have := congrFun (congrFun (PySem.W.dataLe_str (β := Str) id) y) x
    rw [PySem.W.dataLe_eq] at this
    have t2 : (!dataLt (.str x) (.str y)) = decide (y.cps.toList ≤ x.cps.toList) := this
    rw [← t2]; simp
  | .tuple xs, .tuple ys, ha, hb, hc => by
    rw [leT_tup]
    exact rowLt_le xs ys (by simpa [okd] using ha) (by simpa [okd] using hb) (by simpa [cmpOk] using hc)
  | .none, _, ha, _, _ => by simp [okd] at ha
  | .bool _, _, ha, _, _ => by simp [okd] at ha
  | .list _, _, ha, _, _ => by simp [okd] at ha
  | .dict _, _, ha, _, _ => by simp [okd] at ha
  | .int _, .none, _, _, h => by simp [cmpOk] at h
  | .int _, .bool _, _, _, h => by simp [cmpOk] at h
  | .int _, .str _, _, _, h => by simp [cmpOk] at h
  | .int _, .list _, _, _, h => by simp [cmpOk] at h
  | .int _, .tuple _, _, _, h => by simp [cmpOk] at h
  | .int _, .dict _, _, _, h => by simp [cmpOk] at h
  | .str _, .none, _, _, h => by simp [cmpOk] at h
  | .str _, .bool _, _, _, h => by simp [cmpOk] at h
  | .str _, .int _, _, _, h => by simp [cmpOk] at h
  | .str _, .list _, _, _, h => by simp [cmpOk] at h
  | .str _, .tuple _, _, _, h => by simp [cmpOk] at h
  | .str _, .dict _, _, _, h => by simp [cmpOk] at h
  | .tuple _, .none, _, _, h => by simp [cmpOk] at h
  | .tuple _, .bool _, _, _, h => by simp [cmpOk] at h
  | .tuple _, .int _, _, _, h => by simp [cmpOk] at h
  | .tuple _, .str _, _, _, h => by simp [cmpOk] at h
  | .tuple _, .list _, _, _, h => by simp [cmpOk] at h
  | .tuple _, .dict _, _, _, h => by simp [cmpOk] at h
theorem rowLt_le : ∀ xs ys : List D, okds xs = true → okds ys = true → cmpOks xs ys = true → PyProof.Rows.lexLt PyProof.Rows.itemOrd (PySem.W.keyToksAll xs) (PySem.W.keyToksAll ys) = !leL ys xs
  | [], [], _, _, _ => by rw [leL_nil]; exact PyProof.Rows.lex_irrefl _
  | [], y :: ys, _, _, _ => by
    rw [leL_cons_nil]
    simp only [PySem.W.keyToksAll]
    rw [PySem.W.lex_atom (by simp)]
    decide +kernel
  | x :: xs, [], _, _, _ => by
    rw [leL_nil]
    simp only [PySem.W.keyToksAll]
    rw [PySem.W.lex_atom (by simp)]
    decide +kernel
  | x :: xs, y :: ys, ha, hb, hc => by
    have ha' : okd x = true ∧ okds xs = true := by simpa [okds] using ha
    have hb' : okd y = true ∧ okds ys = true := by simpa [okds] using hb
    have hc' : cmpOk x y = true ∧ cmpOks xs ys = true := by simpa [cmpOks] using hc
    rw [PySem.W.dataLt_cons (alike_of x y hc'.1), leL_cons]
    by_cases hq : PyData.eqv x y = true
    · rw [if_pos hq]
      have e := (eqv_ok x y ha'.1 hb'.1).mp hq
      subst e
      simp only [leT_refl, if_true]
      exact rowLt_le xs ys ha'.2 hb'.2 hc'.2
    · rw [if_neg hq, dataLt_le x y ha'.1 hb'.1 hc'.1]
      have ne : x ≠ y := fun e => hq ((eqv_ok x y ha'.1 hb'.1).mpr e)
      cases hyx : leT y x with
      | false => simp
      | true =>
        cases hxy : leT x y with
        | false => simp
        | true => exact absurd (leT_antisymm x y ha'.1 hb'.1 hxy hyx) ne
end
end Pu
namespace Pu
open PySem PySem.Spec PyProof.Rows PySem.SeqAt
open PySem.W (EachIs dataLt alike alikeAll AllAlike SortsAt dataKind dataKind_some dataKind_inv looks_reads Looks kas_mapM kas_first_eq)
section
variable {prog : Program} {w : World} {A : Around} {s : Shared}
theorem call_tupLt {E : Value → Shared → Prop} {Q : Value → Shared → Prop} {l b : Addr} {vs ws : Array Value} {e r : Nat → Bool} (hl : s.heap.IsTuple l vs) (hb : s.heap.IsTuple b ws)
    (he : ∀ j (h1 : j < vs.size) (h2 : j < ws.size), EqAt A.in1 s vs[j] ws[j] (e j)) (hr : ∀ j (h1 : j < vs.size) (h2 : j < ws.size), e j = false → RcLt A.in1 s vs[j] ws[j] (r j))
    (hq : Q (.bool (firstLt e r (decide (vs.size < ws.size)) (List.range (min vs.size ws.size)))) s) : wpAny (model prog w) A (call (.builtin "tuple.__lt__") [.ref l, .ref b]) Q E s := by
  obtain ⟨⟨c1, g1, d1, z1⟩, ho1, hc1, n1, hd1⟩ := id hl
  obtain ⟨⟨c2, g2, d2, z2⟩, ho2, hc2, n2, hd2⟩ := id hb
  simp only at hc1 hd1 hc2 hd2
  subst hc1 hd1 hc2 hd2
  exact call_meets F.slot_tuple_lt ⟨_, ho1, rfl⟩ F.entry_tuple_lt (F.args_tuple_lt_2 _ _) (tuple_ltAt l b vs ws n1 n2 g1 g2 z1 z2 e r) ⟨ho1, ho2, he, hr, hq⟩
theorem oneLt_tup {xs ys : List PyData} {a b : Value} {as bs : List Addr} {E : Value → Shared → Prop} {Q : Bool → Shared → Prop} (ra : Reads s.heap a (.tuple xs) as) (rb : Reads s.heap b (.tuple ys) bs) (h : alike (.tuple xs) (.tuple ys) = true)
    (hu : A.units + min (PyData.tuple xs).depth (PyData.tuple ys).depth < cLine) (hq : Q (dataLt (.tuple xs) (.tuple ys)) s) : wpAny (model prog w) A (oneLt' true a b) Q E s := by
  have hal : alikeAll xs ys = true := by simpa [alike] using h
  cases ra with
  | @tuple l o vs n _ as1 p1 p2 p3 p4 => cases rb with
    | @tuple l' o' ws n' _ bs1 q1 q2 q3 q4 =>
      have z1 : vs.size = xs.length := by simpa using ReadsAll.length _ _ _ p4
      have z2 : ws.size = ys.length := by simpa using ReadsAll.length _ _ _ q4
      rw [PySem.W.dataLt_tuple, ← PySem.W.firstLt_toks xs ys hal, ← z1, ← z2] at hq
      rw [oneLt'_eq, if_pos rfl]
      refine wpAny_bind (wpAny_cRoomFor (PySem.SeqAt.room_here hu) (wpAny_bind (wpAny_callSpecialIfBound?_slot (T := "tuple") ⟨_, p1, p2⟩ F.slot_tuple_lt (call_tupLt (e := pairEq xs ys) (r := fun j => dataLt (xs.getD j .none) (ys.getD j .none)) ⟨_, p1, p2, _, p3⟩ ⟨_, q1, q2, _, q3⟩ (fun j j1 j2 => ?_) (fun j j1 j2 hj => ?_) (wpAny_truthy_bool hq)))))
      · have t1 := PySem.W.eqAt_alikeAll xs ys A.in1 s vs.toList ws.toList _ _ p4 q4 hal (PySem.SeqAt.room_in hu) j (by simpa using j1) (by simpa using j2)
        simpa using t1
      · have t1 := PySem.W.rcLt_alikeAll xs ys A.in1 s vs.toList ws.toList _ _ p4 q4 hal (PySem.SeqAt.room_in hu) j (by simpa using j1) (by simpa using j2) hj
        simpa using t1
theorem tup_firsts {M : Model} {B : Around} {E : Value → Shared → Prop} : ∀ {vs : List Value} {ds : List PyData}, EachIs (fun v d => ∃ as, Reads s.heap v d as) vs ds → (∀ d ∈ ds, ∃ xs, d = .tuple xs) →
    ∃ fs : List (Option Value), fs.length = vs.length ∧ (ds.head? = some (.tuple []) → fs.head? = some none) ∧ ∀ {Q : List (Option Value) → Shared → Prop}, Q fs s → wpAny M B (vs.mapM firstOfTuple') Q E s
  | _, _, .nil, _ => ⟨[], rfl, fun h => by simp at h, fun {Q} hq => by rw [List.mapM_nil]; exact wpAny_pure hq⟩
  | _, _, .cons (b := d) ⟨as, r⟩ tl, ht => by
    obtain ⟨fs, h1, h2, h3⟩ := tup_firsts (M := M) (B := B) (E := E) tl fun d hd => ht d (List.mem_cons_of_mem _ hd)
    obtain ⟨xs, rfl⟩ := ht d (List.mem_cons_self ..)
    cases r with
    | @tuple l o vs' n _ _ p1 p2 p3 p4 =>
      refine ⟨vs'[0]? :: fs, by rw [List.length_cons, List.length_cons, h1], fun h => ?_, fun {Q} hq => ?_⟩
      · have hx : xs = [] := by simpa using h
        subst hx
        have : vs'.toList = [] := by cases hh : vs'.toList with | nil => rfl | cons f r => rw [hh] at p4; cases p4
        have : vs' = #[] := Array.toList_eq_nil_iff.mp this
        subst this; rfl
      · rw [List.mapM_cons, kas_first_eq]
        refine wpAny_bind (wpAny_bind (Looks.here (show Looks M s.heap (typeOf (.ref l)) o.cls from (Looks.ld p1).andThen .now) ?_))
        rw [p2, if_neg (by simp)]
        exact wpAny_bind (listItems_at p1 p3 (wpAny_pure (wpAny_bind (h3 (wpAny_pure hq)))))
theorem sorts_empty {vs : List Value} {ds : List PyData} (e : EachIs (fun v d => ∃ as, Reads s.heap v d as) vs ds) (hal : AllAlike ds) (ht : ∀ d ∈ ds, ∃ xs, d = .tuple xs) (h0 : ds.head? = some (.tuple [])) (hu : ∀ d, d ∈ ds → A.units + d.depth < cLine) : SortsAt prog w A s (dataKind s.heap ds) vs := by
  refine ⟨fun v hv => let ⟨d, hd, as, r⟩ := e.left v hv; ⟨_, dataKind_some hal hd r⟩, oneType', fun E x y a b Q ha hb hq => ?_, fun h2 E Q hq => ?_⟩
  · obtain ⟨d, as, hd, ra, rfl⟩ := dataKind_inv ha
    obtain ⟨d', as', hd', rb, rfl⟩ := dataKind_inv hb
    have hdd := hal d hd d' hd'
    have hr : A.units + min d.depth d'.depth < cLine := Nat.lt_of_le_of_lt (Nat.add_le_add_left (Nat.min_le_left _ _) _) (hu d hd)
    obtain ⟨xs, rfl⟩ := ht d hd
    obtain ⟨ys, rfl⟩ := ht d' hd'
    rw [keyLt'_oneType]
    exact oneLt_tup ra rb hdd hr hq
  · obtain ⟨fs, g1, g2, g3⟩ := tup_firsts (M := model prog w) (B := A) (E := E) e ht
    have g2 := g2 h0
    obtain ⟨fr, rfl⟩ : ∃ fr, fs = none :: fr := by cases fs with | nil => simp at g2 | cons f fr => simp at g2; exact ⟨fr, by rw [g2]⟩
    have tt : ∀ v ∈ vs, Looks (model prog w) s.heap (typeOf v) (.type "tuple") := fun v hv => by
      obtain ⟨d, hd, as, r⟩ := e.left v hv
      obtain ⟨xs, rfl⟩ := ht d hd
      exact looks_reads r
    obtain ⟨v1, vr, rfl⟩ : ∃ v1 vr, vs = v1 :: vr := by cases vs with | nil => simp at h2 | cons v1 vr => exact ⟨v1, vr, rfl⟩
    rw [keyKind'_eq, List.mapM_toArray, map_eq_pure_bind]
    refine wpAny_bind (wpAny_bind (g3 (wpAny_pure ?_)))
    rw [if_neg (by simp), if_neg (by simp), oneTypeOnly'_eq, List.mapM_toArray, map_eq_pure_bind]
    refine wpAny_bind (wpAny_bind (wpAny_bind (kas_mapM (r := Value.type "tuple") _ (fun v hv Q' hq' => (tt v hv).here hq') (wpAny_pure ?_))))
    have al : ((List.map (fun _ => Value.type "tuple") (v1 :: vr)).toArray.all fun x => x == Value.type "tuple") = true := by simp
    rw [show (List.map (fun _ => Value.type "tuple") (v1 :: vr)).toArray[0]? = some (Value.type "tuple") from by simp]
    simp only [al, if_true]
    exact wpAny_pure (wpAny_pure hq)
theorem tup_firsts2 {M : Model} {B : Around} {E : Value → Shared → Prop} : ∀ {vs : List Value} {ds : List PyData}, EachIs (fun v d => ∃ as, Reads s.heap v d as) vs ds → (∀ d ∈ ds, ∃ xs, d = .tuple xs) →
    ∃ fs : List (Option Value), (PyData.tuple [] ∈ ds → none ∈ fs) ∧ (∀ x xs, ds.head? = some (.tuple (x :: xs)) → ∃ f, fs.head? = some (some f)) ∧ ∀ {Q : List (Option Value) → Shared → Prop}, Q fs s → wpAny M B (vs.mapM firstOfTuple') Q E s
  | _, _, .nil, _ => ⟨[], (fun h => nomatch h), (fun _ _ h => by simp at h), fun {Q} hq => by rw [List.mapM_nil]; exact wpAny_pure hq⟩
  | _, _, .cons (b := d) ⟨as, r⟩ tl, ht => by
    obtain ⟨fs, h1, h2, h3⟩ := tup_firsts2 (M := M) (B := B) (E := E) tl fun d hd => ht d (List.mem_cons_of_mem _ hd)
    obtain ⟨xs, rfl⟩ := ht d (List.mem_cons_self ..)
    cases r with
    | @tuple l o vs' n _ _ p1 p2 p3 p4 =>
      refine ⟨vs'[0]? :: fs, fun h => ?_, fun x ys h => ?_, fun {Q} hq => ?_⟩
      · rcases List.mem_cons.mp h with h | h
        · have hx : xs = [] := by simpa using h.symm
          subst hx
          have : vs'.toList = [] := by cases hh : vs'.toList with | nil => rfl | cons f r => rw [hh] at p4; cases p4
          have : vs' = #[] := Array.toList_eq_nil_iff.mp this
          subst this; exact List.mem_cons_self
        · exact List.mem_cons_of_mem _ (h1 h)
      · have hx : xs = x :: ys := by simpa using h
        subst hx
        cases hh : vs'.toList with
        | nil => rw [hh] at p4; cases p4
        | cons f r => exact ⟨f, by rw [← Array.getElem?_toList, hh]; rfl⟩
      · rw [List.mapM_cons, kas_first_eq]
        refine wpAny_bind (wpAny_bind (Looks.here (show Looks M s.heap (typeOf (.ref l)) o.cls from (Looks.ld p1).andThen .now) ?_))
        rw [p2, if_neg (by simp)]
        exact wpAny_bind (listItems_at p1 p3 (wpAny_pure (wpAny_bind (h3 (wpAny_pure hq)))))
theorem sorts_later {vs : List Value} {ds : List PyData} (e : EachIs (fun v d => ∃ as, Reads s.heap v d as) vs ds) (hal : AllAlike ds) (ht : ∀ d ∈ ds, ∃ xs, d = .tuple xs) {x0 : PyData} {xs0 : List PyData} (h0 : ds.head? = some (.tuple (x0 :: xs0))) (hm : PyData.tuple [] ∈ ds) (hu : ∀ d, d ∈ ds → A.units + d.depth < cLine) : SortsAt prog w A s (dataKind s.heap ds) vs := by
  refine ⟨fun v hv => let ⟨d, hd, as, r⟩ := e.left v hv; ⟨_, dataKind_some hal hd r⟩, general', fun E x y a b Q ha hb hq => ?_, fun h2 E Q hq => ?_⟩
  · obtain ⟨d, as, hd, ra, rfl⟩ := dataKind_inv ha
    obtain ⟨d', as', hd', rb, rfl⟩ := dataKind_inv hb
    have hdd := hal d hd d' hd'
    have hr : A.units + min d.depth d'.depth < cLine := Nat.lt_of_le_of_lt (Nat.add_le_add_left (Nat.min_le_left _ _) _) (hu d hd)
    obtain ⟨xs, rfl⟩ := ht d hd
    show wpAny (model prog w) A (oneLt' false x y) _ _ _
    rw [oneLt'_eq, if_neg (by simp)]
    exact wpAny_bind (PySem.W.rcLt_alike _ _ A s x y _ _ ra rb hdd (by simp) hr prog w E _ (wpAny_truthy_bool hq))
  · obtain ⟨fs, g1, g2, g3⟩ := tup_firsts2 (M := model prog w) (B := A) (E := E) e ht
    have g1 := g1 hm
    obtain ⟨f, g2⟩ := g2 _ _ h0
    rw [keyKind'_eq, List.mapM_toArray, map_eq_pure_bind]
    refine wpAny_bind (wpAny_bind (g3 (wpAny_pure ?_)))
    have n1 : ¬ (fs.toArray.all (·.isSome)) = true := by
      intro z
      have := (Array.all_eq_true_iff_forall_mem.mp z) none (by simpa using g1)
      cases this
    have n2 : (fs.toArray[0]?.bind id).isSome = true := by
      cases fs with
      | nil => simp at g2
      | cons f' fr => simp at g2; subst g2; rfl
    rw [if_neg n1, if_pos n2]
    exact wpAny_pure hq
end
end Pu
set_option maxRecDepth 100000
namespace Pu
open PySem PySem.Spec PyProof.Rows L2
variable [Wd]
open PySem.W (sortingHeap EachIs dataLe dataLt alike alikeAll AllAlike Sortable)
section
variable {X : Cx} {K : Frag} {H : Hp} {pins : List (Addr × Obj)} {σ : L2.St} {s : Shared}
theorem each_of {R : Value → D → Prop} : ∀ {ds : List D} {ys : List V} {acc : List Value}, Vals ys acc → Reps K H ds ys → (∀ x v d, RelV x v → Rep K H d x → d ∈ ds → R v d) → EachIs R acc ds
  | [], ys, acc, rv, rp, _ => by
    have := rp.nil_inv; subst this
    cases rv; exact .nil
  | d :: ds, ys, acc, rv, rp, k => by
    obtain ⟨x, xs, rfl, h, rp'⟩ := rp.uncons
    cases rv with
    | cons r rv' => exact .cons (k _ _ _ r h (by simp)) (each_of rv' rp' fun x v d a b c => k x v d a b (by simp [c]))
theorem vals_of_each : ∀ {out : List Value} {ds : List D}, EachIs (fun v d => ∃ x, RelV x v ∧ Rep K H d x) out ds → ∃ zs, Vals zs out ∧ Reps K H ds zs
  | _, _, .nil => ⟨[], .nil, .nil⟩
  | _, _, .cons ⟨x, r, h⟩ t => let ⟨zs, a, b⟩ := vals_of_each t; ⟨x :: zs, .cons r a, .cons h b⟩
theorem sortOk_at {ds : List D} (ok : sortOk ds = true) : (∀ d ∈ ds, okd d = true ∧ d.canLay0 = true ∧ d.depth ≤ 60) ∧ (Sortable ds ∨ (ds.head? = some (.tuple []) ∧ ∀ d ∈ ds, ∃ xs, d = .tuple xs) ∨ ((∃ x xs, ds.head? = some (.tuple (x :: xs))) ∧ PyData.tuple [] ∈ ds ∧ ∀ d ∈ ds, ∃ xs, d = .tuple xs)) ∧ ∀ d ∈ ds, ∀ e ∈ ds, cmpOk d e = true := by
  unfold sortOk at ok
  simp only [Bool.and_eq_true, Bool.or_eq_true, List.all_eq_true, decide_eq_true_eq] at ok
  obtain ⟨⟨h1, h2⟩, h3⟩ := ok
  refine ⟨fun d hd => ⟨(h1 d hd).1.1, (h1 d hd).1.2, (h1 d hd).2⟩, ?_, pairsOk_at h3⟩
  rcases h2 with (h2 | h2) | h4
  · refine .inl (.inl fun d hd => ?_)
    have := h2 d hd
    unfold isTup1 at this
    split at this
    · exact ⟨_, _, rfl⟩
    · cases this
  rotate_left
  · have ht : ∀ d ∈ ds, ∃ xs, d = .tuple xs := fun d hd => by
      have := h4 d hd
      unfold isTupD at this
      split at this
      · exact ⟨_, rfl⟩
      · cases this
    cases ds with
    | nil => exact .inl (.inl fun d hd => nomatch hd)
    | cons d0 dr =>
      obtain ⟨xs0, rfl⟩ := ht d0 List.mem_cons_self
      cases xs0 with
      | nil => exact .inr (.inl ⟨rfl, ht⟩)
      | cons x0 xr =>
        by_cases hm : PyData.tuple [] ∈ (PyData.tuple (x0 :: xr) :: dr)
        · exact .inr (.inr ⟨⟨_, _, rfl⟩, hm, ht⟩)
        · refine .inl (.inl fun d hd => ?_)
          obtain ⟨xs, rfl⟩ := ht d hd
          cases xs with
          | nil => exact absurd hd hm
          | cons y ys => exact ⟨_, _, rfl⟩
  · refine .inl (.inr fun d hd => ⟨?_, fun xs e => ?_⟩)
    · rintro rfl
      have := (h1 _ hd).1.1
      simp [okd] at this
    · subst e
      have := h2 _ hd
      simp [isTupD] at this
theorem sort_core {h' : Heap} {tk : Nat} {acc : List Value} {ys : List V} {ds : List D} {Q : VK} {E : Value → Shared → Prop} (hu : X.A.units + 64 < cLine) (I1 : Inv X pins σ H { s with heap := h', toks := tk }) (rv : Vals ys acc) (rp : Reps X.K H ds ys) (ok : sortOk ds = true) (hL : acc.length ≤ sizeLine)
    (q : ∀ p zs, H p = none → Reps X.K H (ds.mergeSort leT) zs → Q (.ref p) (upd H p (.lst zs))) :
    wpAny (model X.prog X.w) X.A.in1 (call (.builtin "list.sort") [.ref h'.objs.size]) (fun _ s' => EP X pins σ Q (.ref h'.objs.size) s') E { s with heap := h'.push (seqObj "list" acc.toArray 0), toks := tk } := by
  obtain ⟨o1, o2, o3⟩ := sortOk_at ok
  have hob : (h'.push (seqObj "list" acc.toArray 0)).get? h'.objs.size = some (seqObj "list" acc.toArray 0) := Heap.get?_push_size _ rfl
  have kp : ∀ b o, h'.get? b = some o → (sortingHeap (h'.push (seqObj "list" acc.toArray 0)) h'.objs.size acc).get? b = some o := fun b o e => PySem.W.sortingHeap_old (Nat.ne_of_lt (Heap.lt_size e)) (Heap.get?_push_of_some _ e)
  have er : EachIs (fun v d => ∃ as, Reads (sortingHeap (h'.push (seqObj "list" acc.toArray 0)) h'.objs.size acc) v (id d) as) acc ds := each_of rv rp fun x v d r h hd => by
    obtain ⟨as, h1⟩ := Dp.reads I1 d x v (h.dp (o1 d hd).2.1) r
    exact ⟨as, PyProof.Rows.Reads.keeps kp h1⟩
  have e0 : EachIs (fun v d => ∃ x, RelV x v ∧ Rep X.K H d x) acc ds := each_of rv rp fun x v d r h _ => ⟨x, r, h⟩
  have hal : AllAlike (ds.map id) := by
    rw [List.map_id]
    exact fun d hd e he => alike_of d e (o3 d hd e he)
  have bd : ∀ d, d ∈ ds.map id → X.A.in1.in1.units + d.depth < cLine := fun d hd => by
    rw [List.map_id] at hd
    have := (o1 d hd).2.2
    show X.A.units + 1 + 1 + d.depth < cLine
    omega
  have ee := PySem.W.each_map (R := fun v d => ∃ as, Reads (sortingHeap (h'.push (seqObj "list" acc.toArray 0)) h'.objs.size acc) v d as) id er
  have sa : PySem.W.SortsAt X.prog X.w X.A.in1.in1 { s with heap := sortingHeap (h'.push (seqObj "list" acc.toArray 0)) h'.objs.size acc, toks := tk } (PySem.W.dataKind (sortingHeap (h'.push (seqObj "list" acc.toArray 0)) h'.objs.size acc) (ds.map id)) acc := by
    rcases o2 with o2 | ⟨oh, ot⟩ | ⟨⟨x0, xr, oh⟩, om, ot⟩
    · exact PySem.W.SortsAt.data (s := { s with heap := sortingHeap (h'.push (seqObj "list" acc.toArray 0)) h'.objs.size acc, toks := tk }) ee hal (by rw [List.map_id]; exact o2) bd
    · exact sorts_empty (s := { s with heap := sortingHeap (h'.push (seqObj "list" acc.toArray 0)) h'.objs.size acc, toks := tk }) ee hal (by rw [List.map_id]; exact ot) (by rw [List.map_id]; exact oh) bd
    · exact sorts_later (s := { s with heap := sortingHeap (h'.push (seqObj "list" acc.toArray 0)) h'.objs.size acc, toks := tk }) ee hal (by rw [List.map_id]; exact ot) (by rw [List.map_id]; exact oh) (by rw [List.map_id]; exact om) bd
  refine wpAny_call_entry slot_list_sort ⟨_, hob, rfl⟩ entry_list_sort (PySem.W.list_sort_vals (κ := PySem.W.dataKind (sortingHeap (h'.push (seqObj "list" acc.toArray 0)) h'.objs.size acc) (ds.map id)) (s := { s with heap := h'.push (seqObj "list" acc.toArray 0), toks := tk }) hob
    sa hL ⟨.none, rfl, ?_⟩) (args_list_sort _)
  have so := PySem.W.sortVals_data (h' := sortingHeap (h'.push (seqObj "list" acc.toArray 0)) h'.objs.size acc) false e0 er hal
  generalize PySem.W.sortVals (PySem.W.dataKind (sortingHeap (h'.push (seqObj "list" acc.toArray 0)) h'.objs.size acc) (ds.map id)) false acc acc = out at so
  have es : ds.mergeSort (dataLe false id) = ds.mergeSort leT := by
    have h1 : EachIs Eq ds ds := by
      clear so er e0 hal ee sa bd o1 o2 o3 ok rp q
      induction ds with
      | nil => exact .nil
      | cons d ds ih => exact .cons rfl ih
    have h2 := PySem.W.sort_each (r := dataLe false id) (s := leT) h1 fun p hp r hr => by
      obtain ⟨p1, p2⟩ := p; obtain ⟨r1, r2⟩ := r
      have e1 : p1 = p2 := by
        have : ∀ {as bs : List D}, EachIs Eq as bs → (p1, p2) ∈ as.zip bs → p1 = p2 := by
          intro as bs h
          induction h with
          | nil => intro h; simp at h
          | cons h _ ih => intro z; simp at z; rcases z with ⟨rfl, rfl⟩ | z; exact h; exact ih z
        exact this h1 hp
      have e2 : r1 = r2 := by
        have : ∀ {as bs : List D}, EachIs Eq as bs → (r1, r2) ∈ as.zip bs → r1 = r2 := by
          intro as bs h
          induction h with
          | nil => intro h; simp at h
          | cons h _ ih => intro z; simp at z; rcases z with ⟨rfl, rfl⟩ | z; exact h; exact ih z
        exact this h1 hr
      subst e1 e2
      have m1 := (List.of_mem_zip hp).1
      have m2 := (List.of_mem_zip hr).1
      show dataLe false id p1 r1 = leT p1 r1
      rw [PySem.W.dataLe_eq]
      show (!dataLt r1 p1) = leT p1 r1
      rw [dataLt_le r1 p1 (o1 _ m2).1 (o1 _ m1).1 (o3 _ m2 _ m1)]
      simp
    have : ∀ {as bs : List D}, EachIs Eq as bs → as = bs := by
      intro as bs h
      induction h with
      | nil => rfl
      | cons h _ ih => rw [h, ih]
    exact this h2
  rw [es] at so
  obtain ⟨zs, rz, rpz⟩ := vals_of_each so
  obtain ⟨ep, he'⟩ := sortedHeap_at (vs := acc) (out := out.toArray) hob
  have hlen : zs.length ≤ sizeLine := by
    have l1 := rz.length
    have l2 := so.length
    rw [List.length_mergeSort] at l2
    have l3 := e0.length
    omega
  refine ⟨.ref h'.objs.size, upd H h'.objs.size (.lst zs), I1.laid (t' := tk) (fun b u e => ?_) (Nat.le_refl _)
    (show ObjOk X.prog X.w _ _ _ (.lst zs) from ⟨hlen, out, ep, rz, he'⟩), rfl, q _ zs (I1.hok.fresh (Nat.le_refl _)) rpz⟩
  have hb : b < h'.objs.size := Heap.lt_size e
  rw [sortedHeap_old (Nat.ne_of_lt hb) (by rw [size_push']; exact Nat.lt_succ_of_lt hb)]
  exact Heap.get?_push_of_some _ e
def ItV (K : Frag) (H : Hp) (a : Addr) (ds : List D) : Prop := (∃ ys, (SqL K H a ys ∨ SqT K H a ys) ∧ Reps K H ds ys) ∨ (∃ kvs : List (List Key × V), Rd H a (.dT kvs) ∧ ds = kvs.map fun q => PyData.tuple (q.1.map kD)) ∨ ∃ kvs : List (Key × V), Rd H a (.dK kvs) ∧ ds = kvs.map fun q => kD q.1
theorem keys_repK (K : Frag) (H : Hp) : ∀ kvs : List (Key × V), Reps K H (kvs.map fun q => kD q.1) (kvs.map fun q => kV q.1)
  | [] => .nil
  | ⟨.inl i, _⟩ :: r => .cons (.int i) (keys_repK K H r)
  | ⟨.inr x, _⟩ :: r => .cons (.str x) (keys_repK K H r)
theorem vals_at : ∀ {ys : List V} {acc : List Value}, ys.length = acc.length → (∀ (j : Nat) (v : Value), acc[j]? = some v → ∃ y, ys[j]? = some y ∧ RelV y v) → Vals ys acc
  | [], [], _, _ => .nil
  | [], _ :: _, h, _ => by simp at h
  | _ :: _, [], h, _ => by simp at h
  | y :: ys, v :: acc, h, k => by
    obtain ⟨z, e, r⟩ := k 0 v rfl
    simp at e; subst e
    exact .cons r (vals_at (by simpa using h) fun j v' e => by simpa using k (j + 1) v' (by simpa using e))
theorem collectV {a : Addr} {ds : List D} {R : List Value → Shared → Prop} {E : Value → Shared → Prop} (hc : X.calm = true) (I : Inv X pins σ H s) (h : ItV X.K H a ds)
    (k : ∀ (h' : Heap) (tk : Nat) (acc : List Value) (ys : List V), (∀ b o, s.heap.get? b = some o → h'.get? b = some o) → Vals ys acc → Reps X.K H ds ys → acc.length ≤ sizeLine → R acc { s with heap := h', toks := tk }) :
    wpAny (model X.prog X.w) X.A.in1 (collect (.ref a)) R E s := by
  rcases h with ⟨ys, hs, rp⟩ | ⟨kvs, hd, rfl⟩ | ⟨kvs, hd, rfl⟩
  · rcases hs with hs | hs
    · obtain ⟨its, rv, ⟨o, n, e, hc, _, hd⟩, hz⟩ := I.list hs
      have hl : its.length ≤ sizeLine := by rw [← rv.length]; exact hz
      exact wpAny_collect_seq a (T := "list") (.inl rfl) e hc hd (fun h' kp => by simpa using k h' s.toks its ys kp rv rp hl) (by simpa using hl)
    · obtain ⟨its, rv, ⟨o, e, hc, n, hd⟩, hz⟩ := I.tuple hs
      have hl : its.length ≤ sizeLine := by rw [← rv.length]; exact hz
      exact wpAny_collect_seq a (T := "tuple") (.inr rfl) e hc hd (fun h' kp => by simpa using k h' s.toks its ys kp rv rp hl) (by simpa using hl)
  · obtain ⟨z, hs, ks, pr, o, es, ep, ho, hx, hdt, he, hn⟩ := (show ObjOk X.prog X.w H s.heap a (.dT kvs) from hd.ok I.hok)
    have l1 : es.size = ks.length := size_of_entries he
    have l2 : kvs.length = ks.length := Paired.length pr
    refine PySem.W.kdu_collect (kdl_raw hs hx hdt) (I.ok.hd hc) ho (by omega) fun h' tk acc' kp it => ?_
    have ea : acc'.toList = ks.map fun x => Value.ref x.2.1 := by
      have hl : acc'.toList.length = ks.length := by rw [Array.length_toList, it.1]; exact l1
      apply List.ext_getElem?
      intro j
      rw [List.getElem?_map]
      cases hj : acc'.toList[j]? with
      | none =>
        have h1 := List.getElem?_eq_none_iff.mp hj
        rw [List.getElem?_eq_none (by omega)]
        all_goals rfl
      | some v =>
        obtain ⟨en, hen, hv⟩ := it.2 j v (by rw [← Array.getElem?_toList]; exact hj)
        have qe := entry_at he j
        rw [hen] at qe
        cases hb : ks[j]? with
        | none =>
          rw [hb] at qe
          exact nomatch (show some en = none from qe)
        | some b =>
          rw [hb] at qe
          have e2 : en = entryOfKey (tupleKind (mixKind X.prog X.w)) b := Option.some.inj qe
          rw [hv, e2]
          all_goals rfl
    have eb : acc'.toList = (ks.map fun x => x.2.1).map Value.ref := by rw [ea, List.map_map]; all_goals rfl
    refine k h' tk acc'.toList ((ks.map fun x => x.2.1).map V.ref) kp (by rw [eb]; exact vals_refs _) (keys_reps (isKeys_of pr) rfl) ?_
    rw [eb, List.length_map, List.length_map]; omega
  · obtain ⟨z, lo, vs, rel, dd⟩ := dk_rd I.hok hd
    obtain ⟨ep, hat⟩ := dd.dictAt
    have hkeys : vs.map (·.1) = kvs.map (·.1) := rel.keys.symm
    have hl : vs.length = kvs.length := by
      have e := congrArg List.length hkeys
      rw [List.length_map, List.length_map] at e
      exact e
    have h16 : vs.length ≤ sizeLine := by omega
    refine PySem.W.kdu_collect (A := X.A.in1) (PySem.W.kdl_dict (knd := mixKind X.prog X.w) (kvs := vs) (ep := ep) lo) (I.ok.hd hc) hat h16 fun h' tk acc hk hacc => ?_
    have hal : acc.toList.length = kvs.length := by rw [Array.length_toList, hacc.1, hl]
    refine k h' tk acc.toList (kvs.map fun q => kV q.1) hk (vals_at (by rw [List.length_map, hal]) fun j v e => ?_) (keys_repK _ _ kvs) (by rw [hal]; omega)
    obtain ⟨kk, x, e1, e2⟩ := hacc.2 j v (by rw [← Array.getElem?_toList]; exact e)
    have e3 : (vs.map (·.1))[j]? = some kk := by rw [List.getElem?_map, e1]; all_goals rfl
    rw [hkeys] at e3
    refine ⟨kV kk, ?_, relV_key e2⟩
    rw [List.getElem?_map] at e3 ⊢
    cases hj : kvs[j]? with
    | none => rw [hj] at e3; cases e3
    | some z => rw [hj] at e3; cases e3; rfl
def rSortM (K : Frag) : List V → Hp → VK → Prop := fun xs H Q => ∃ (a : Addr) (ds : List D), xs = [.ref a] ∧ ItV K H a ds ∧ sortOk ds = true ∧ ∀ p zs, H p = none → Reps K H (ds.mergeSort leT) zs → Q (.ref p) (upd H p (.lst zs))
theorem call_sortM (hc : X.calm = true) (hu : X.A.units + 64 < cLine) : CallR X (.builtin "sorted") (rSortM X.K) := by
  intro pins s σ H xs us Q I r h
  obtain ⟨a, ds, rfl, it, ok, q⟩ := h
  obtain rfl := Vals.ref1 r
  refine Calls.call_function_entry kind_sorted plain_sorted entry_sorted (args_sorted1 _) ?_
  unfold Builtin.«sorted»
  refine wpAny_bind (m := checkCount "sorted" 1 1 _) (wpAny_pure ?_)
  refine wpAny_bind (collectV hc I it fun h' tk acc ys hk rv rp hL => ?_)
  refine wpAny_bind (wpAny_newList ?_ hL)
  refine wpAny_bind (wpAny_holding (wpAny_mono (sort_core (s := s) (h' := h') (tk := tk) hu (I.kept hk) rv rp ok hL q) (fun _ s' x => ?_) fun _ _ e => e))
  exact wpAny_pure ⟨_, rfl, x⟩
theorem Rr.itV {d : D} {v : V} {xs : List D} (h : Rr K H d v) (e : itemsS [d] = some xs) : ∃ a, v = .ref a ∧ ItV K H a xs := by
  unfold itemsS at e
  split at e
  · rename_i z; cases z; cases e
    obtain ⟨a, ys, rfl, hs, rs⟩ := h.lst
    exact ⟨a, rfl, .inl ⟨ys, .inl hs, rs⟩⟩
  · rename_i z; cases z; cases e
    obtain ⟨a, ys, rfl, hs, rs⟩ := h.tup
    exact ⟨a, rfl, .inl ⟨ys, .inr hs.sq, rs⟩⟩
  · rename_i z; cases z
    split at e
    · cases e
      obtain ⟨a, rfl, hd⟩ := h.dic
      rcases hd with ⟨ks, h4, h5, h6⟩ | ⟨ks, h4, h6⟩
      · exact ⟨a, rfl, .inr (.inr ⟨ks, h4, h6.1⟩)⟩
      · exact ⟨a, rfl, .inr (.inl ⟨ks, h4, h6.1⟩)⟩
    · cases e
  · cases e
theorem prim_sorted : PrimN K pSorted (rSortM K) := by
  intro ds vs H Q res h hf q
  unfold pSorted at hf
  obtain ⟨xs, h1, h2⟩ := Option.bind_eq_some_iff.mp hf
  obtain ⟨ys, h3, h4⟩ := Option.map_eq_some_iff.mp h2
  cases h4
  cases ds with
  | nil => simp [itemsS] at h1
  | cons d ds =>
    cases ds with
    | cons _ _ => simp [itemsS] at h1
    | nil =>
      obtain ⟨v, rfl, r⟩ := h.one
      obtain ⟨a, rfl, it⟩ := r.itV h1
      unfold sortD at h3
      split at h3
      · rename_i ok
        cases h3
        exact ⟨a, xs, rfl, it, ok, fun p zs hp rz => q _ _ (.newL hp (by rw [isort_merge fun x hx => ((sortOk_at ok).1 x hx).1] at rz; exact rz))⟩
      · cases h3
end
end Pu
set_option maxRecDepth 100000
namespace Pu
open PySem PySem.Spec PyProof.Rows L2
variable [Wd]
section
variable {X : Cx} {K : Frag} {H H' : Hp} {σ : L2.St} {ρ : Env}
mutual
theorem noObj_rep : ∀ {d : D} {v : V} {a : Addr} {od : Obj} {u u' : HO}, noObj d = true → Rep K H d v → H a = some (.frz od u) → Pu.plain u = true → Rep K (upd H a u') d v
  | .none, _, _, _, _, _, _, r, _, _ => by cases r; exact .non
  | .bool b, _, _, _, _, _, _, r, _, _ => by cases r; exact .bl b
  | .int b, _, _, _, _, _, _, r, _, _ => by cases r; exact .int b
  | .str b, _, _, _, _, _, _, r, _, _ => by cases r; exact .str b
  | .list _, _, _, _, _, _, h, _, _, _ => by simp [noObj] at h
  | .dict _, _, _, _, _, _, h, _, _, _ => by simp [noObj] at h
  | .tuple ds, _, a, od, u, u', h, r, ha, pl => by
    cases r with
    | @tup b xs _ e l k =>
      have hn : b ≠ a := by
        rintro rfl
        rcases e with e | ⟨o, e, _⟩
        · rw [e] at ha; cases ha
        · rw [e] at ha; cases ha; cases pl
      have r' := noObj_reps (u' := u') (by simpa [noObj] using h) ⟨l, k⟩ ha pl
      refine .tup ?_ r'.1 r'.2
      rcases e with e | ⟨o, e, w⟩
      · exact .inl (by rw [upd_ne hn]; exact e)
      · exact .inr ⟨o, by rw [upd_ne hn]; exact e, w⟩
theorem noObj_reps : ∀ {ds : List D} {vs : List V} {a : Addr} {od : Obj} {u u' : HO}, noObjs ds = true → Reps K H ds vs → H a = some (.frz od u) → Pu.plain u = true → Reps K (upd H a u') ds vs
  | [], _, _, _, _, _, _, r, _, _ => by rw [r.nil_inv]; exact .nil
  | d :: ds, _, a, od, u, u', h, r, ha, pl => by
    obtain ⟨x, xs, rfl, h1, r'⟩ := r.uncons
    have h' : noObj d = true ∧ noObjs ds = true := by simpa [noObjs] using h
    exact .cons (noObj_rep h'.1 h1 ha pl) (noObj_reps h'.2 r' ha pl)
end
theorem mask_at {i : Nat} : (ρ.map maskS)[i]? = ρ[i]?.map maskS := by simp
theorem pu_lock {e : Expr} {g : M} {i : Nat} (h : PE X e (tE X.K g)) : PE X e (tE X.K (eLock i g)) := (pe_lock h).imp fun σ H Q ⟨ρ, r, ρ', E, hg, q⟩ => by
  unfold eLock at hg
  obtain ⟨d, h1, hg⟩ := Option.bind_eq_some_iff.mp hg
  obtain ⟨⟨r1, ρ1⟩, h2, hg⟩ := Option.bind_eq_some_iff.mp hg
  obtain ⟨r2, h3, hg⟩ := Option.map_eq_some_iff.mp hg
  cases hg
  have hi : ρ[i]? = some (.ow d) ∨ ρ[i]? = some (.bo d) := ownAt_isO h1
  obtain ⟨a, hs, ob⟩ := E.ow i d hi
  obtain ⟨u, e1, mu, pl, rp⟩ := ob.frz
  have hlt : i < ρ.length := by rcases hi with hi | hi <;> exact (List.getElem?_eq_some_iff.mp hi).1
  have noO : ∀ j, ¬ IsO ((ρ.map maskS).set i (.sh d)) j := fun j ⟨z, hz⟩ => by
    by_cases hj : i = j
    · subst hj
      rw [List.getElem?_set_self (by simpa using hlt)] at hz
      rcases hz with hz | hz | hz <;> cases hz
    · rw [List.getElem?_set_ne hj, mask_at] at hz
      cases e : ρ[j]? with
      | none => rw [e] at hz; rcases hz with hz | hz | hz <;> cases hz
      | some t => rw [e] at hz; cases t <;> rcases hz with hz | hz | hz <;> cases hz
  have nOwn : ∀ b, ¬ Own σ ((ρ.map maskS).set i (.sh d)) b := fun b ⟨j, hj, _⟩ => noO j hj
  refine ⟨a, u, e1, mu, fun od => ⟨(ρ.map maskS).set i (.sh d), r1, ρ1, ?_, h2, fun v H1 E1 s1 R1 => ?_⟩⟩
  · refine ⟨by rw [List.length_set, List.length_map]; exact E.len, fun j x hz => ?_, fun j x hz => absurd (.ob hz) (noO j), fun j k b h1 => absurd h1 (noO j), fun j x hz => absurd (.gh hz) (noO j), fun j x hz => ?_⟩
    by_cases hj : i = j
    · subst hj
      rw [List.getElem?_set_self (by simpa using hlt)] at hz
      cases hz
      exact ⟨_, hs, rp od⟩
    · rw [List.getElem?_set_ne hj, mask_at] at hz
      cases e : ρ[j]? with
      | none => rw [e] at hz; cases hz
      | some t =>
        rw [e] at hz
        cases t with
        | no => cases hz
        | ow _ => cases hz
        | bo _ => cases hz
        | gh _ => cases hz
        | xt _ => cases hz
        | sh y =>
          cases hz
          obtain ⟨v, k1, k2⟩ := E.sh j _ e
          exact ⟨v, k1, k2.ev (ev_frz e1 pl)⟩
    · by_cases hj : i = j
      · subst hj
        rw [List.getElem?_set_self (by simpa using hlt)] at hz
        cases hz
      · rw [List.getElem?_set_ne hj, mask_at] at hz
        cases e : ρ[j]? with
        | none => rw [e] at hz; cases hz
        | some t => rw [e] at hz; cases t <;> cases hz
  · have kept : ∀ b o, upd H a (.frz od u) b = some o → H1 b = some o := fun b o hb => s1.keep b o hb (nOwn b)
    have ka : H1 a = some (.frz od u) := kept a _ upd_same
    have ex : Ex H (upd H1 a u) := fun b o hb => by
      by_cases hba : b = a
      · subst hba; rw [upd_same, ← e1]; exact hb
      · rw [upd_ne hba]; exact kept b o (by rw [upd_ne hba]; exact hb)
    refine ⟨ka, ?_⟩
    cases r1 with
    | var _ => cases h3
    | tx _ _ => cases h3
    | ow d1 =>
      cases d1 with
      | none => cases h3
      | bool _ => cases h3
      | int _ => cases h3
      | str _ => cases h3
      | tuple _ => cases h3
      | dict _ => cases h3
      | list ds =>
      simp only [lockRes] at h3
      split at h3
      · rename_i hno
        cases h3
        obtain ⟨p, rfl, hp, ob1, _⟩ := R1
        cases ob1 with
        | lst f1 f2 =>
          have hpa : p ≠ a := by rintro rfl; rw [ka] at f1; cases f1
          have hp0 : H p = none := by rw [upd_ne hpa] at hp; exact hp
          refine q _ _ (E.ex ex) (.ex ex) ⟨p, rfl, hp0, .lst (by rw [upd_ne hpa]; exact f1) (noObj_reps hno f2 ka pl), fun z => ?_⟩
          obtain ⟨o, k1, _⟩ := E.plainOf z
          rw [hp0] at k1; cases k1
      · cases h3
    | sh d1 =>
      simp only [lockRes] at h3
      split at h3
      · rename_i hno
        cases h3
        exact q _ _ (E.ex ex) (.ex ex) (noObj_rep hno R1 ka pl)
      · cases h3
def rMinD (K : Frag) (f : D → List D → D) : List V → Hp → VK → Prop := fun xs H Q => ∃ (a : Addr) (ys : List V) (x : D) (ds : List D), xs = [.ref a] ∧ SqL K H a ys ∧ Reps K H (x :: ds) ys ∧ minOk (x :: ds) = true ∧ ∀ v, Rep K H (f x ds) v → Q v H
theorem minOk_at {ds : List D} (ok : minOk ds = true) : (∀ d ∈ ds, okd d = true ∧ d.canLay0 = true ∧ d.depth ≤ 60) ∧ ∀ d ∈ ds, ∀ e ∈ ds, cmpOk d e = true := by
  unfold minOk at ok
  simp only [Bool.and_eq_true, List.all_eq_true, decide_eq_true_eq] at ok
  obtain ⟨h1, h3⟩ := ok
  exact ⟨fun d hd => ⟨(h1 d hd).1.1, (h1 d hd).1.2, (h1 d hd).2⟩, pairsOk_at h3⟩
theorem depth_all : ∀ {ds : List D}, (∀ d ∈ ds, d.depth ≤ 60) → PyData.depthAll ds ≤ 60
  | [], _ => by simp [PyData.depthAll]
  | d :: ds, h => by
    have h1 := h d (by simp)
    have h2 := depth_all (ds := ds) fun e he => h e (List.mem_cons_of_mem _ he)
    simp only [PyData.depthAll]
    omega
theorem minD_eq (S : List D) (hS : ∀ d ∈ S, okd d = true) (hc : ∀ d ∈ S, ∀ e ∈ S, cmpOk d e = true) : ∀ (ds : List D) (x : D), x ∈ S → (∀ d ∈ ds, d ∈ S) → PySem.W.minD x ds = minT x ds
  | [], x, _, _ => rfl
  | d :: ds, x, hx, hd => by
    have h1 : PySem.W.minD x (d :: ds) = PySem.W.minD (if PySem.W.dataLt d x then d else x) ds := rfl
    have h2 : minT x (d :: ds) = minT (if leT x d then x else d) ds := rfl
    have e : (if PySem.W.dataLt d x then d else x) = if leT x d then x else d := by
      rw [dataLt_le d x (hS _ (hd d (by simp))) (hS _ hx) (hc _ (hd d (by simp)) _ hx)]
      cases leT x d <;> simp
    rw [h1, h2, e]
    refine minD_eq S hS hc ds _ ?_ fun z hz => hd z (by simp [hz])
    split
    · exact hx
    · exact hd d (by simp)
theorem rep_of_read {pins : List (Addr × Obj)} {s : Shared} {ds : List D} {ys : List V} {its : List Value} {i : Nat} {v : Value} {h' : Heap} {m : D} {bs : List Addr} (I : Inv X pins σ H s) (rv : Vals ys its) (rp : Reps X.K H ds ys) (hi : its[i]? = some v) (hr : Reads h' v m bs) (hk : ∀ b o, s.heap.get? b = some o → h'.get? b = some o) (hc : ∀ d ∈ ds, d.canLay0 = true) :
    ∃ y, RelV y v ∧ Rep X.K H m y := by
  have : ∃ y, ys[i]? = some y ∧ RelV y v := by
    clear rp hr
    induction rv generalizing i with
    | nil => simp at hi
    | cons r t ih =>
      cases i with
      | zero => simp at hi; subst hi; exact ⟨_, rfl, r⟩
      | succ i => simpa using ih (by simpa using hi)
  obtain ⟨y, hy, ry⟩ := this
  obtain ⟨d, hd, hrep⟩ := rp.getV hy
  have hcd := hc d (List.mem_of_getElem? hd)
  obtain ⟨as, r1⟩ := Dp.reads I d y v (hrep.dp hcd) ry
  obtain ⟨e, _⟩ := PySem.Reads.unique (PyProof.Rows.Reads.keeps hk r1) m bs hr
  subst e
  exact ⟨y, ry, hrep⟩
theorem call_minD (hc : X.calm = true) (hu : X.A.units + 64 < cLine) : CallR X (.builtin "min") (rMinD X.K minT) := by
  intro pins s σ H xs us Q I r h
  obtain ⟨a, ys, x, ds, rfl, hs, rp, ok, q⟩ := h
  obtain rfl := Vals.ref1 r
  obtain ⟨o1, o2⟩ := minOk_at ok
  obtain ⟨its, rv, hl, _⟩ := I.list hs
  obtain ⟨as, hr⟩ := Dp.readsAll I (x :: ds) ys its (dpAll_of rp.1 fun i d y h1 h2 => (rp.2 i d y h1 h2).dp (o1 d (List.mem_of_getElem? h1)).2.1) rv
  refine PySem.W.min_list_data (I.ok.hd hc) hl.isList (by simpa using hr) ⟨fun d hd e he => alike_of d e (o2 d hd e he), fun d hd e => ?_⟩ ?_ fun i v h' tk bs hi hm hk => ?_
  · subst e; have := (o1 _ hd).1; simp [okd] at this
  · have := depth_all fun d hd => (o1 d hd).2.2
    omega
  · rw [minD_eq (x :: ds) (fun d hd => (o1 d hd).1) o2 ds x (by simp) (fun d hd => by simp [hd])] at hm
    obtain ⟨y, ry, hy⟩ := rep_of_read I rv rp (by simpa using hi) hm hk fun d hd => (o1 d hd).2.1
    exact ⟨y, H, I.kept hk, ry, q y hy⟩
theorem prim_minL : PrimN K pMinL (rMinD K minT) := by
  intro ds vs H Q res h hf q
  unfold pMinL at hf
  split at hf
  · split at hf
    · rename_i ok
      cases hf
      obtain ⟨v, rfl, r⟩ := h.one
      obtain ⟨a, ys, rfl, hs, rs⟩ := r.lst
      exact ⟨a, ys, _, _, rfl, hs, rs, ok, fun v hv => q _ _ ⟨.refl _, hv⟩⟩
    · cases hf
  · cases hf
theorem chain_reads {f f' : D → D → Option Res} {r r' : R2} {ga gb gc : M} (P : Prim2 K f r) (P' : Prim2 K f' r') {Q : VK} (h : tE K (eChain f f' ga gb gc) σ H Q) : tChain r r' (tE K ga) (tE K gb) (tE K gc) σ H Q := by
  obtain ⟨ρ, res, ρ', E, hg, q⟩ := h
  unfold eChain at hg
  obtain ⟨⟨r1, ρ1⟩, h1, hg⟩ := Option.bind_eq_some_iff.mp hg
  obtain ⟨⟨r2, ρ2⟩, h2, hg⟩ := Option.bind_eq_some_iff.mp hg
  obtain ⟨x, hx, hg⟩ := Option.bind_eq_some_iff.mp hg
  obtain ⟨y, hy, hg⟩ := Option.bind_eq_some_iff.mp hg
  obtain ⟨z, hz, hg⟩ := Option.bind_eq_some_iff.mp hg
  obtain ⟨k, hk, hg⟩ := Option.bind_eq_some_iff.mp hg
  have ez : z = .sh (.bool k) := by
    unfold boolR at hk
    split at hk
    · cases hk; rfl
    · cases hk
  subst ez
  refine ⟨ρ, r1, ρ1, E, h1, fun v1 H1 E1 s1 R1 => ⟨ρ1, r2, ρ2, E1, h2, fun v2 H2 E2 s2 R2 => ?_⟩⟩
  refine P x y v1 v2 H2 _ _ (R1.read E1 s2 E2 hx) (R2.read E2 (.refl _ _ _) E2 hy) hz fun v H3 mk => ?_
  obtain ⟨ex, rb⟩ := mk
  cases rb
  refine ⟨k, rfl, ?_⟩
  have E3 := E2.ex ex
  have s3 : StpE σ ρ2 H2 ρ2 H3 := .ex ex
  cases k with
  | false =>
    simp at hg
    obtain ⟨rfl, rfl⟩ := hg
    exact iteF (q _ H3 E3 (s1.trans (s2.trans s3)) (.bl _))
  | true =>
    obtain ⟨_, hkk, hg⟩ := Option.bind_eq_some_iff.mp hg
    cases hkk
    rw [if_pos rfl] at hg
    obtain ⟨⟨r4, ρ4⟩, h4, hg⟩ := Option.bind_eq_some_iff.mp hg
    obtain ⟨y', hy', hg⟩ := Option.bind_eq_some_iff.mp hg
    obtain ⟨w, hw, hg⟩ := Option.bind_eq_some_iff.mp hg
    obtain ⟨z', hz', hg⟩ := Option.map_eq_some_iff.mp hg
    cases hg
    refine iteT ⟨ρ2, r4, ρ4, E3, h4, fun v4 H4 E4 s4 R4 => ?_⟩
    have R2' : RR K H1 H3 σ ρ2 r2 v2 := R2.later E2 s3
    refine P' y' w v2 v4 H4 Q _ (R2'.read E3 s4 E4 hy') (R4.read E4 (.refl _ _ _) E4 hw) hz' fun v H5 mk => ?_
    obtain ⟨E5, s5, R5⟩ := mk.rr E4
    exact q v H5 E5 (s1.trans (s2.trans (s3.trans (s4.trans s5)))) (R5.base fun p hp => (s1.trans (s2.trans (s3.trans s4))).toStp.back hp)
theorem pu_chain {a b c : Expr} {pos : Pos} {op op' : CmpOp} {f f' : D → D → Option Res} {r r' : R2} {ga gb gc : M} (ho : OpR X (compareOp op) r) (P : Prim2 X.K f r) (ho' : OpR X (compareOp op') r') (P' : Prim2 X.K f' r') (ha : PE X a (tE X.K ga)) (hb : PE X b (tE X.K gb)) (hc : PE X c (tE X.K gc))
    (hm : lastMarks [op, op'] [b, c] = false := by with_unfolding_all rfl) : PE X (.Compare a [op, op'] [b, c] pos) (tE X.K (eChain f f' ga gb gc)) := (pe_chain ho ho' ha hb hc hm).imp fun σ H Q h => chain_reads P P' h
theorem pu_tchain {a b c : Expr} {pos : Pos} {op op' : CmpOp} {f f' : D → D → Option Res} {r r' : R2} {ga gb gc : M} (ho : OpR X (compareOp op) r) (P : Prim2 X.K f r) (ho' : OpR X (compareOp op') r') (P' : Prim2 X.K f' r') (ha : PE X a (tE X.K ga)) (hb : PE X b (tE X.K gb)) (hc : PE X c (tE X.K gc))
    (hm : lastMarks [op, op'] [b, c] = false := by with_unfolding_all rfl) : PT X (.Compare a [op, op'] [b, c] pos) (tT X.K (tOf (eChain f f' ga gb gc))) := (pt_chain ho ho' ha hb hc hm).imp fun σ H Q h => by
  have q : tE X.K (eChain f f' ga gb gc) σ H (fun x H' => ∃ k, x = V.bl k ∧ Q k H') := tOf_reads h
  exact chain_reads P P' q
def rPop1T : V → List V → Hp → VK → Prop := fun x xs H Q => ∃ (a : Addr) (kvs : List (List Key × V)) (k : List Key) (b : Addr) (v : V), x = .ref a ∧ xs = [.ref b] ∧ H a = some (.dT kvs) ∧ H b = some (.tup (k.map kV)) ∧ valV kvs k = some v ∧ Q v (upd H a (.dT (dropK kvs k)))
theorem mt_pop1T (hu : X.A.units + 1 < cLine) : MtR X "dict.pop" rPop1T := by
  intro pins s σ H x xs v us Q I rx rxs h
  obtain ⟨a, kvs, k, b, v0, rfl, rfl, ha, hb, hv, q1⟩ := h
  cases rx
  obtain ⟨u1, rfl, r1⟩ := rxs.one
  cases r1
  obtain ⟨z, hd, xs', rel, dd⟩ := dt_of I.hok ha
  have hz : xs'.length ≤ sizeLine := by rw [← Paired.length rel]; exact z
  have r := rel.val k
  rw [hv] at r
  cases hp : atKey xs' k with
  | none => rw [hp] at r; exact (show False from r).elim
  | some p =>
    rw [hp] at r
    refine PySem.call_pop_heap (knd := tupleKind (mixKind X.prog X.w)) (more := []) (.inl rfl) (PySem.F.args_dict_pop_2 _ _) (tupleKind_room_in1 hu) (key_of I.hok hb) hd dd hp (fun h' dd' hs => ?_) hz
    obtain ⟨o, es, ep, hq, h2, h3, h4, _, h5⟩ := dd'
    have I2 : Inv X pins σ (upd H a (.dT (dropK kvs k))) { s with heap := h', toks := s.toks + (tupleKind (mixKind X.prog X.w)).draws k } :=
      d_write I (by rw [ha]; exact True.intro) hs ⟨o, hq⟩ ⟨Nat.le_trans (dropK_le kvs k) z, hd, _, (L2.DX.KT_drop k rel).keeps (fun c ys ec => (by rw [upd_ne (ne_of ec ha (fun z => nomatch z))]; exact ec)), o, es, ep, hq, h2, h3, h4, h5⟩
    exact ⟨v0, _, I2, r, q1⟩
theorem pu_popKey {e : Expr} {g : M} {i : Nat} {x : Str} {p apos cpos : Pos} (hu : X.A.units + 1 < cLine) (hv : PE X (.Name x p) (tVar i)) (he : PE X e (tE X.K g)) (hs1 : starEach [e] X.env = (false, eval e X.env) :: starEach [] X.env := by rfl)
    (hb : attributeBase (.Name x p) "pop" X.env (eval (.Name x p) X.env) = eval (.Name x p) X.env := by rfl)
    (hf : ((((backTo cpos (starEach [e] X.env)).all fun x => !x.fst) && (backToKw cpos (keywordEach [] X.env)).all fun x => x.fst.isSome) && decide (([e].length + ([] : List Keyword).length + if ([] : List Keyword).isEmpty = true then 0 else 1) < 30)) = true := by rfl)
    (hl : (apos.endLine == cpos.line) = true := by rfl) (hpl : (backTo cpos (starEach [] X.env)).any (·.1) = false := by rfl) :
    PE X (.Call (.Attribute (.Name x p) "pop" apos) [e] [] cpos) (tE X.K (ePopKey i g)) :=
  (pe_bm PySem.F.plainAttrs_dict PySem.F.slot_dict_pop PySem.F.type_dict_pop (mt_pop1T hu) hv (pa_cons (pe_share he) pa_nil hs1) hb hf hl hs1 hpl).imp fun σ H Q ⟨ρ, r, ρ', E, hg, q⟩ => by
    unfold ePopKey at hg
    obtain ⟨kv0, h0, hg⟩ := Option.bind_eq_some_iff.mp hg
    obtain ⟨⟨r1, ρ1⟩, h1, hg⟩ := Option.bind_eq_some_iff.mp hg
    obtain ⟨⟨k, ρ2⟩, h2, hg⟩ := Option.bind_eq_some_iff.mp hg
    obtain ⟨kvs, h3, hg⟩ := Option.bind_eq_some_iff.mp hg
    simp only at hg
    split at hg
    · rename_i hz
      obtain ⟨y, h5, hg⟩ := Option.bind_eq_some_iff.mp hg
      obtain ⟨ρ3, h4, hg⟩ := Option.map_eq_some_iff.mp hg
      cases hg
      have hz' : isTupKey k = true ∧ kvs.all (fun q => isTupKey q.1) = true := by simpa using hz
      obtain ⟨a, e1, ob0, _⟩ := ownDict_ob E h0
      have ty : tyV X.K "dict" (.ref a) H := by
        cases ob0 with
        | dK f _ _ => exact .inr (.inr (.inl ⟨rfl, .inl ⟨_, f⟩⟩))
        | dT f _ => exact .inr (.inr (.inl ⟨rfl, .inr ⟨_, f⟩⟩))
      refine ⟨.ref a, e1, ty, ρ, r1, ρ1, k, ρ2, E, h1, h2, fun v H1 E1 s1 R1 => ?_⟩
      obtain ⟨a', f1, ob, io⟩ := ownDict_ob E1 h3
      rw [e1] at f1; cases f1
      obtain ⟨ks, b, rfl, rfl, hb⟩ := Rr.tkey (.inl R1) hz'.1
      cases ob with
      | dK g1 gn g2 =>
        exfalso
        rename_i ms
        obtain ⟨mm, mr, rfl⟩ : ∃ m r, ms = m :: r := by cases ms with
          | nil => exact absurd rfl gn
          | cons m r => exact ⟨m, r, rfl⟩
        cases kvs with
        | nil => have := g2.1; simp at this
        | cons z kvs =>
          have e : z.1 = kD mm.1 := by have := g2.1; simp at this; exact this.1
          have : isTupKey z.1 = true := List.all_eq_true.mp hz'.2 z (by simp)
          rw [e, not_tup_kD] at this; cases this
      | @dT ms _ g1 g2 =>
        obtain ⟨w, w1, w2⟩ := (findT g2 ks).1 y h5
        refine ⟨a, ms, ks, b, w, rfl, rfl, g1, hb, w1, ?_⟩
        have evu : Ev H1 (upd H1 a (.dT (dropK ms ks))) := ev_upd g1 rfl
        have rp : RepG X.K H1 (fun ks : List Key => PyData.tuple (ks.map kD)) kvs ms := g2
        obtain ⟨E3, s3⟩ := upd_own (o' := .dT (dropK ms ks)) E1 e1 g1 rfl h4 (.dT upd_same ((rp.drop eqv_tup ks).ev evu))
        exact q _ _ E3 (s1.trans s3) (w2.ev evu)
    · cases hg
theorem slotDict_rr {i : Nat} {kvs : List (D × D)} (E : ER K H σ ρ) (h : slotDict i ρ = some kvs) : ∃ v, σ[i]? = some (some v) ∧ Rr K H (.dict kvs) v := by
  unfold slotDict at h
  split at h
  · rename_i ks hk
    cases h
    obtain ⟨t, ht, hv⟩ := Option.bind_eq_some_iff.mp hk
    cases t with
    | no => cases hv
    | gh z => cases hv
    | xt z =>
      cases z with
      | ad a => cases hv
      | tx p y => cases hv; obtain ⟨v, e, r⟩ := E.xt i _ ht; exact ⟨v, e, .inl r.1⟩
    | sh z => cases hv; obtain ⟨v, e, r⟩ := E.sh i _ ht; exact ⟨v, e, .inl r⟩
    | ow z => cases hv; obtain ⟨a, e, r⟩ := E.ow i _ (.inl ht); exact ⟨_, e, .inr ⟨a, rfl, r⟩⟩
    | bo z => cases hv; obtain ⟨a, e, r⟩ := E.ow i _ (.inr ht); exact ⟨_, e, .inr ⟨a, rfl, r⟩⟩
  · cases h
theorem pu_get {e f : Expr} {g gf : M} {i : Nat} {x : Str} {p apos cpos : Pos} (hu : X.A.units + 1 < cLine) (hv : PE X (.Name x p) (tVar i)) (he : PE X e (tE X.K g)) (hf : PE X f (tE X.K gf))
    (m : M2 X (.Name x p) "get" apos e f cpos := by exact ⟨rfl, rfl, rfl, rfl⟩) : PE X (.Call (.Attribute (.Name x p) "get" apos) [e, f] [] cpos) (tE X.K (eGet i g gf)) :=
  (pe_dget2 hu hv (pe_share he) (pe_share hf) m).imp fun σ H Q ⟨ρ, r, ρ', E, hg, q⟩ => by
    unfold eGet at hg
    obtain ⟨kv0, h0, hg⟩ := Option.bind_eq_some_iff.mp hg
    obtain ⟨⟨r1, ρ1⟩, h1, hg⟩ := Option.bind_eq_some_iff.mp hg
    obtain ⟨⟨k, ρ2⟩, h2, hg⟩ := Option.bind_eq_some_iff.mp hg
    obtain ⟨⟨r3, ρ3⟩, h3, hg⟩ := Option.bind_eq_some_iff.mp hg
    obtain ⟨⟨d, ρ4⟩, h4, hg⟩ := Option.bind_eq_some_iff.mp hg
    obtain ⟨kvs, h5, hg⟩ := Option.bind_eq_some_iff.mp hg
    simp only at hg
    split at hg
    · rename_i hz
      obtain ⟨rfl, rfl⟩ : _ = r ∧ ρ4 = ρ' := by simpa using hg
      obtain ⟨v, e1, rr0⟩ := slotDict_rr E h0
      obtain ⟨a, rfl, dd0⟩ := rr0.dic
      have isd : IsD H a := by
        rcases dd0 with ⟨ks, z4, _, _⟩ | ⟨ks, z4, _⟩
        · exact .inl ⟨_, z4⟩
        · exact .inr ⟨_, z4⟩
      refine ⟨.ref a, e1, a, rfl, isd, ρ, r1, ρ1, k, ρ2, E, h1, h2, fun y H1 E1 s1 R1 => ⟨ρ2, r3, ρ3, d, ρ4, E1, h3, h4, fun z H2 E2 s2 R2 => ?_⟩⟩
      obtain ⟨v', e2, rr⟩ := slotDict_rr E2 h5
      rw [e1] at e2; cases e2
      obtain ⟨a', o, ea, dg, k1, k2⟩ := dget_of rr (.inl (R1.ev (s2.toStp.ev E1))) hz
      cases ea
      refine ⟨o, dg, ?_⟩
      cases hfnd : dFind kvs k with
      | none =>
        rw [k2 hfnd]
        have := q z H2 E2 (s1.trans s2)
        rw [hfnd] at this
        exact this R2
      | some w =>
        obtain ⟨u, rfl, ru⟩ := k1 w hfnd
        have := q u H2 E2 (s1.trans s2)
        rw [hfnd] at this
        exact this ru
    · cases hg
end
end Pu
set_option maxRecDepth 100000
namespace Pu
open PySem PySem.Spec PyProof.Rows L2
variable [Wd]
section
open AutoSeq1 (wpAny_loadPart')
theorem enum_newT (l : Addr) (items : Array Value) (n : Nat) (dct : Option Addr) (sl : Array (Option Value)) :
    Meets (Builtin.«enumerate.__new__» ⟨[.type "enumerate", .ref l], []⟩) (fun _ R s => s.heap.get? l = some { cls := .type "tuple", dict := dct, data := .seq items n, slots := sl } ∧
      R (.ok (.ret (.ref (s.heap.push { cls := .type "tuple_iterator", data := .fields #[.ref l, .int 0 0] }).objs.size)))
        { s with heap := (s.heap.push { cls := .type "tuple_iterator", data := .fields #[.ref l, .int 0 0] }).push { cls := .type "enumerate", data := .fields #[.none, .bool false, .ref s.heap.objs.size, rawInt 0, .none, .none] } }) :=
  .of_wp fun prog w A R s h => by
    obtain ⟨hp, g, d, tk, os⟩ := s; obtain ⟨hl, h⟩ := h
    have hsub := sub_enumerate
    have hL : Heap.IsTuple (Shared.heap ⟨hp, g, d, tk, os⟩) l items := ⟨_, hl, rfl, n, rfl⟩
    wp_walk using wpAny_loadPart' hl
    refine wpAny_stack_any fun st => wpAny_pure ?_
    split
    · rename_i c _ _ _ _ _
      cases (c == Value.type "enumerate")
      · wp_walk using wpAny_loadPart' hl, wpAny_pyIter_tuple hL
        exact ⟨_, rfl, h⟩
      · wp_walk using wpAny_loadPart' hl, wpAny_pyIter_tuple hL
        exact ⟨_, rfl, h⟩
    · wp_walk using wpAny_loadPart' hl, wpAny_pyIter_tuple hL
      exact ⟨_, rfl, h⟩
variable {prog : Program} {w : World} {A : Around} {E : Value → Shared → Prop} {s : Shared}
theorem call_enum_tuple {l : Addr} {items : Array Value} {Q : Value → Shared → Prop} (hL : s.heap.IsTuple l items)
    (h : ∀ h', IsEnum h' (s.heap.objs.size + 1) s.heap.objs.size 0 .none → h'.IsTupleIter s.heap.objs.size l 0 → h'.objs.size = s.heap.objs.size + 2 →
      (∀ b o, s.heap.get? b = some o → h'.get? b = some o) → Q (.ref (s.heap.objs.size + 1)) { s with heap := h' }) :
    wpAny (model prog w) A (call (.type "enumerate") [.ref l]) Q E s := by
  obtain ⟨⟨c, dct, dt, sl⟩, hl, hc, n, hd⟩ := hL
  replace hc : c = .type "tuple" := hc
  replace hd : dt = .seq items n := hd
  subst hc hd
  refine callType_new F.called_enumerate (by decide) (F.typeCall_enumerate_1 _) (F.newCall_enumerate_1 _) (fun obj => F.args_object_init_2 obj _) F.entry_enumerate_new
    (enum_newT l items n dct sl) ⟨hl, ?_⟩
  have hz : (s.heap.push { cls := .type "tuple_iterator", data := .fields #[.ref l, .int 0 0] }).objs.size = s.heap.objs.size + 1 := Heap.size_push ..
  show _ ∧ _
  rw [hz]
  have he : IsEnum ((s.heap.push { cls := .type "tuple_iterator", data := .fields #[.ref l, .int 0 0] }).push
      { cls := .type "enumerate", data := .fields #[.none, .bool false, .ref s.heap.objs.size, rawInt 0, .none, .none] }) (s.heap.objs.size + 1) s.heap.objs.size 0 .none := by
    have := Heap.get?_push_size (s.heap.push { cls := .type "tuple_iterator", data := .fields #[.ref l, .int 0 0] })
      (o := { cls := .type "enumerate", data := .fields #[.none, .bool false, .ref s.heap.objs.size, rawInt 0, .none, .none] }) rfl
    rw [hz] at this; exact this
  refine ⟨⟨_, he, rfl⟩, h _ he ⟨_, Heap.get?_push_of_some _ (Heap.get?_push_size _ rfl), rfl, rfl⟩ (by rw [Heap.size_push, hz]) fun b o x => Heap.get?_push_of_some _ (Heap.get?_push_of_some _ x)⟩
end
section
variable {prog : Program} {w : World} {A : Around} {E : Value → Shared → Prop} {s : Shared}
theorem enum_endT {e it l : Addr} {i : Nat} {items : Array Value} {old : Value} {Q : Option Value → Shared → Prop} (hh : A.handled = none)
    (he : IsEnum s.heap e it i old) (hit : s.heap.IsTupleIter it l i) (hl : s.heap.IsTuple l items) (hx : items[i]? = none)
    (hQ : ∀ h', Heap.ExtBut it s.heap h' → Q none { s with heap := h' }) : wpAny (model prog w) A (pyNext (.ref e)) Q E s := by
  have hT : s.TypeIs (.ref e) "enumerate" := ⟨_, he, rfl⟩
  unfold pyNext
  refine wpAny_bind (wpAny_attempt (wpAny_callSpecial?_slot (name := Str.ofString "__next__") hT F.slot_enumerate_next
    (wpAny_call_entry F.slot_enumerate_next hT F.entry_enumerate_next ?_ (F.args_enumerate_next_1 _))))
  show wpAny _ _ (field (.ref e) 2 >>= _) _ _ _
  refine wpAny_bind (wpAny_field he rfl (x := .ref it) rfl ?_)
  refine wpAny_bind (wpAny_nextOf_tuple_end hh hit hl hx fun h' x he' hx' => ?_)
  obtain ⟨o, ho, hc⟩ := hx'
  refine wpAny_bind (wpAny_isInstance (T := "StopIteration") (b := true) ⟨o, ho, hc⟩ isSubtype_stop ?_)
  exact wpAny_pure (hQ _ he')
end
def Itet (K : Frag) (a : Addr) : It :=
  ⟨fun i H => ∃ (xs : List V) (x : V), SqT K H a xs ∧ xs[i]? = some x, fun i H v H' => ∃ T x, v = .ref T ∧ H T = none ∧ H' = upd H T (.tup [.int (i : Nat), x]) ∧ ∀ xs, SqT K H a xs → xs[i]? = some x, fun i H => ∃ xs : List V, SqT K H a xs ∧ xs.length ≤ i⟩
theorem turn_enumT {P : Program} {w : World} {K : Frag} {elts : List Expr} {kk : Nat} {tpos : Pos} (a e it : Addr) :
    Turn P w K (.Tuple elts kk tpos) (Itet K a) [e, it] e (fun i h => (∃ old, IsEnum h e it ((i : Nat) : Int) old) ∧ h.IsTupleIter it a i ∧ e ≠ it) where
  mem := by simp
  obj := fun i h st b hb => by
    obtain ⟨⟨old, he⟩, ⟨o, ho, hc, hd⟩, _⟩ := st
    have e' : b = e ∨ b = it := by simpa using hb
    rcases e' with z | z
    · rw [z]; exact ⟨_, he, fun v q => nomatch q⟩
    · rw [z]; exact ⟨o, ho, fun v q => by rw [hd] at q; cases q⟩
  keep := fun i h h' st k => let ⟨⟨old, he⟩, hi, hne⟩ := st; ⟨⟨old, k e (by simp) _ he⟩, hi.at fun o q => k it (by simp) o q, hne⟩
  item := by
    intro X hP hw hK hc i pins s σ H E I hf st hg
    subst hP hw hK
    obtain ⟨⟨old, he⟩, hit, hne⟩ := st
    obtain ⟨xs, x, hq, hx⟩ := hg
    obtain ⟨its, rv, p, hz⟩ := I.tuple hq
    obtain ⟨u, hu, ru⟩ := rv.get hx
    have hel : e < s.heap.objs.size := Heap.lt_size he
    have hil : it < s.heap.objs.size := by obtain ⟨_, q, _⟩ := hit; exact Heap.lt_size q
    have hea : e ≠ a := by
      rintro rfl
      obtain ⟨o, ho, hc', _⟩ := p
      rw [he] at ho; cases ho
      exact absurd hc' (by simp)
    have hia : a ≠ it := by
      rintro rfl
      obtain ⟨o, ho, hc', _⟩ := p
      obtain ⟨o', ho', hc'', _⟩ := hit
      rw [ho] at ho'; cases ho'
      rw [hc'] at hc''; exact absurd hc'' (by simp)
    have hlt : i < its.toArray.size := by
      have := (List.getElem?_eq_some_iff.mp hu).1
      simpa using this
    refine wpAny_pyNext_enum_itemD (PySem.Draws.tuple (A := X.A.in1) (I.ok.hd hc) it a hia its.toArray) he ⟨hit, p⟩ hlt hne (by simp [hne, hea]) fun u' h' tk hp ho st' hT hsz hk => ?_
    have eu : u' = u := by
      have h1 : its.toArray[i]? = some u' := hp
      rw [List.getElem?_toArray, hu] at h1
      exact (Option.some.inj h1).symm
    subst eu
    have hit' := st'.1
    refine ⟨_, rfl, wpAny_letOwnedTupleGo_enum (s := { s with heap := h', toks := tk + 1 }) ho fun h'' he' sb => ?_⟩
    have hT2 : h''.get? s.heap.objs.size = some { cls := .type "tuple", data := .seq #[.int i tk, u'] } := (sb.2 _ (Nat.ne_of_gt hel)).trans hT
    have new : ObjOk X.prog X.w (upd H s.heap.objs.size (.tup [.int (i : Nat), x])) h'' s.heap.objs.size (.tup [.int (i : Nat), x]) :=
      ⟨by show 2 ≤ sizeLine; decide, [.int i tk, u'], .cons ⟨_, rfl⟩ (.cons ru .nil), ⟨_, hT2, rfl, _, rfl⟩⟩
    have I1 : Inv X pins σ (upd H s.heap.objs.size (.tup [.int (i : Nat), x])) { s with heap := h'', toks := tk + 1 } :=
      I.turnedNew (ch := [e, it]) (fun b ob hb q => (sb.2 b (fun z => hb (by simp [z]))).trans (hk b ob (fun z => hb (by simp [z])) (fun z => hb (by simp [z])) q)) hf (Nat.le_refl _) new
    refine ⟨.ref s.heap.objs.size, _, I1, rfl, ⟨_, x, rfl, I.hok.fresh (Nat.le_refl _), rfl, fun ys hy => by rw [I.tuple_inj hy hq]; exact hx⟩, ⟨⟨u', ?_⟩, hit'.at fun o q => (sb.2 it (Ne.symm hne)).trans q, hne⟩, fun b hb => ?_⟩
    · have e1 : ((i + 1 : Nat) : Int) = (i : Int) + 1 := by omega
      rw [e1]; exact he'
    · have hb' : b < s.heap.objs.size := by
        have e' : b = e ∨ b = it := by simpa using hb
        rcases e' with z | z
        · rw [z]; exact hel
        · rw [z]; exact hil
      rw [upd_ne (Nat.ne_of_lt hb')]
      exact (hf b hb).1
  done := by
    intro X hP hw hK hc i pins s σ H E I hf st hg
    subst hP hw hK
    obtain ⟨⟨old, he⟩, hit, hne⟩ := st
    obtain ⟨xs, hq, hx⟩ := hg
    obtain ⟨its, rv, p, hz⟩ := I.tuple hq
    obtain ⟨f0, f1, f2, f3, f4, f5⟩ := hf it (by simp)
    have hl := rv.length
    exact enum_endT (I.ok.hd hc) he hit p (by simp; omega) fun h' eb => ⟨rfl, I.turned (t' := s.toks) (fun b o hb q => eb b o hb q) f0 f1 f3 f4 f5⟩
  self := fun A i s Q E st h => let ⟨⟨_, he⟩, _⟩ := st; wpAny_pyIter_enum he h
def iEnumT (K : Frag) (ta : TA) : TI := fun σ H R => ta σ H fun vs H1 => ∃ a xs, vs = [.ref a] ∧ SqT K H1 a xs ∧ R (Itet K a) H1
theorem pi_enumT {X : Cx} {e : Expr} {ta : TA} {p pos tpos : Pos} {elts : List Expr} {kk : Nat} (hg : Gl X "enumerate") (hm : X.mg "enumerate" = none) (ha : PA X [e] ta) (hs : starEach [e] X.env = [(false, eval e X.env)] := by rfl) :
    PI X (.Tuple elts kk tpos) (.Call (.Name "enumerate" p) [e] [] pos) (iEnumT X.K ta) := by
  refine ⟨fun pins s σ H R I h => ?_⟩
  refine Call_ (ld_blt I hg hm boot_enumerate (PyProof.Rows.callWith_type1 (thn (ha.run pos pins s σ H _ I h) fun us s1 ⟨vs, H1, I1, r1, q1⟩ => ?_) hs rfl))
  obtain ⟨a, xs, ex, hq, q⟩ := q1
  subst ex
  cases r1 with
  | cons r rr =>
    cases rr
    cases r
    obtain ⟨its, rv, p', hz⟩ := I1.tuple hq
    refine call_enum_tuple p' fun h' he hit hsz hk => wpAny_pyIter_enum he ?_
    have I2 : Inv X pins σ H1 { s1 with heap := h' } := I1.kept (t' := s1.toks) hk
    refine ⟨s1.heap.objs.size + 1, [s1.heap.objs.size + 1, s1.heap.objs.size], _, _, H1, rfl, I2, turn_enumT a (s1.heap.objs.size + 1) s1.heap.objs.size, ⟨⟨.none, he⟩, hit, Nat.succ_ne_self _⟩, fun b hb => ?_, q⟩
    have e' : b = s1.heap.objs.size + 1 ∨ b = s1.heap.objs.size := by simpa using hb
    have hle : s1.heap.objs.size ≤ b := by
      rcases e' with z | z
      · rw [z]; exact Nat.le_add_right _ _
      · rw [z]; exact Nat.le_refl _
    exact I1.fpOk hle (I1.hok.fresh hle)
theorem enumFrom_at : ∀ (xs : List D) (n i : Nat) (d : D), (enumFrom n xs)[i]? = some d → ∃ x, xs[i]? = some x ∧ d = .tuple [.int ((n + i : Nat) : Int), x]
  | [], n, i, d, h => by simp [enumFrom] at h
  | x :: xs, n, 0, d, h => by simp [enumFrom] at h; exact ⟨x, rfl, by rw [← h]; rfl⟩
  | x :: xs, n, i + 1, d, h => by
    simp [enumFrom] at h
    obtain ⟨y, h1, h2⟩ := enumFrom_at xs (n + 1) i d h
    refine ⟨y, by simpa using h1, ?_⟩
    rw [h2]; congr 3; omega
theorem enumFrom_len : ∀ (xs : List D) (n : Nat), (enumFrom n xs).length = xs.length
  | [], _ => rfl
  | _ :: xs, n => by simp [enumFrom, enumFrom_len xs (n + 1)]
section
variable {K : Frag} {H : Hp} {a : Addr} {ds : List D}
theorem pair_new {H' : Hp} {T : Addr} {i : Nat} {d : D} {x : V} (hT : H' T = none) (rx : Rep K H' d x) : Ex H' (upd H' T (.tup [.int (i : Nat), x])) ∧ Rep K (upd H' T (.tup [.int (i : Nat), x])) (.tuple [.int (i : Nat), d]) (.ref T) :=
  ⟨Ex.new hT, .tup' upd_same (.cons (.int _) (.cons (rx.ev (Ex.new hT).ev) .nil))⟩
theorem it_enumL (S : Szs K H) (r : Rep K H (.list ds) (.ref a)) : ItOk K (Ite K a) (enumFrom 0 ds) H := by
  refine ⟨?_, fun i H' ev => ?_⟩
  · rw [enumFrom_len]
    cases r with
    | lst h l _ => rw [l]; exact S.l _ _ h.sq
  · cases r.ev ev with
    | lst h l q =>
      refine ⟨fun d hd => ?_, fun hle => ⟨_, h.sq, by rw [enumFrom_len] at hle; rw [← l]; exact hle⟩⟩
      obtain ⟨z, hz, rfl⟩ := enumFrom_at _ _ _ _ hd
      obtain ⟨x, hx, rx⟩ := Reps.get ⟨l, q⟩ hz
      refine ⟨⟨_, x, h.sq, hx⟩, fun y H2 ⟨T, x', e1, e2, e3, e4⟩ => ?_⟩
      subst e1 e3
      have := e4 _ h.sq
      rw [hx] at this; cases this
      rw [Nat.zero_add]
      exact pair_new e2 rx
theorem it_enumT (S : Szs K H) (r : Rep K H (.tuple ds) (.ref a)) : ItOk K (Itet K a) (enumFrom 0 ds) H := by
  refine ⟨?_, fun i H' ev => ?_⟩
  · rw [enumFrom_len]
    cases r with
    | tup h l _ => rw [l]; exact S.t _ _ h.sq
  · cases r.ev ev with
    | tup h l q =>
      refine ⟨fun d hd => ?_, fun hle => ⟨_, h.sq, by rw [enumFrom_len] at hle; rw [← l]; exact hle⟩⟩
      obtain ⟨z, hz, rfl⟩ := enumFrom_at _ _ _ _ hd
      obtain ⟨x, hx, rx⟩ := Reps.get ⟨l, q⟩ hz
      refine ⟨⟨_, x, h.sq, hx⟩, fun y H2 ⟨T, x', e1, e2, e3, e4⟩ => ?_⟩
      subst e1 e3
      have := e4 _ h.sq
      rw [hx] at this; cases this
      rw [Nat.zero_add]
      exact pair_new e2 rx
end
theorem pu_enum {X : Cx} {e : Expr} {gd : Ds} {p pos tpos : Pos} {elts : List Expr} {kk : Nat} (hg : Gl X "enumerate") (hm : X.mg "enumerate" = none) (ha : PA X [e] (tDs X.K gd))
    (hs : starEach [e] X.env = [(false, eval e X.env)] := by rfl) :
    PI X (.Tuple elts kk tpos) (.Call (.Name "enumerate" p) [e] [] pos) (tI X.K (iEnum gd)) :=
  (PI.szs ((pi_enum hg hm ha hs).or (pi_enumT hg hm ha hs))).imp fun σ H R ⟨ρ, ds, ρ', E, hg, q⟩ => by
    unfold iEnum at hg
    obtain ⟨⟨es, ρ1⟩, h1, hg⟩ := Option.bind_eq_some_iff.mp hg
    obtain ⟨fs, h2, hg⟩ := Option.map_eq_some_iff.mp hg
    cases hg
    unfold enumD at h2
    simp only at h2
    split at h2
    · cases h2
      refine .inr ⟨ρ, _, ρ1, E, h1, fun vs H1 E1 s1 R1 => ?_⟩
      obtain ⟨v1, vr, rfl, r1, R1⟩ := R1.uncons
      cases R1.nil_inv
      obtain ⟨a, rfl⟩ : ∃ a, v1 = .ref a := by cases r1; exact ⟨_, rfl⟩
      have k1 := r1
      cases k1 with
      | tup h l _ => exact ⟨a, _, rfl, h.sq, fun S => q _ H1 E1 s1 (it_enumT S r1)⟩
    · cases h2
      refine .inl ⟨ρ, _, ρ1, E, h1, fun vs H1 E1 s1 R1 => ?_⟩
      obtain ⟨v1, vr, rfl, r1, R1⟩ := R1.uncons
      cases R1.nil_inv
      obtain ⟨a, rfl⟩ : ∃ a, v1 = .ref a := by cases r1; exact ⟨_, rfl⟩
      have k1 := r1
      cases k1 with
      | lst h l _ => exact ⟨a, _, rfl, h.sq, fun S => q _ H1 E1 s1 (it_enumL S r1)⟩
    · cases h2
end Pu
set_option maxRecDepth 100000
namespace Pu
open PySem PySem.Spec PyProof.Rows L2
variable [Wd]
section
variable {X : Cx} {K : Frag} {H : Hp} {σ : L2.St}
theorem reps_map {α : Type} (f : α → D) (g : α → V) (h : ∀ a, Rep K H (f a) (g a)) : ∀ l : List α, Reps K H (l.map f) (l.map g)
  | [] => .nil
  | a :: l => .cons (h a) (reps_map f g h l)
theorem range_reps (a b : Int) : Reps K H (rangeD a b) (rgV a b) := reps_map _ _ (fun i => .int _) _
theorem rg1_reads {ga : M} {Q : Int → Int → Hp → Prop} {ρ ρ' : Env} {ds : List D} (E : ER K H σ ρ) (hg : iRange range1 (msCons ga msNil) ρ = some (ds, ρ'))
    (q : ∀ j H', ER K H' σ ρ' → StpE σ ρ H ρ' H' → ds = rangeD 0 j → RgOk 0 j → Q 0 j H') : tRg1 (tE K ga) σ H Q := by
  unfold iRange msCons msNil at hg
  obtain ⟨⟨rs, ρ1⟩, h1, g1⟩ := Option.bind_eq_some_iff.mp hg
  obtain ⟨es, h2, g2⟩ := Option.bind_eq_some_iff.mp g1
  obtain ⟨⟨lo, hi⟩, h3, g3⟩ := Option.bind_eq_some_iff.mp g2
  obtain ⟨⟨r1, ρ2⟩, h4, h1'⟩ := Option.bind_eq_some_iff.mp h1
  clear hg g1 g2 h1
  cases h1'
  unfold getAll at h2
  obtain ⟨d, h5, h2'⟩ := Option.bind_eq_some_iff.mp h2
  clear h2
  cases h2'
  have h6 : ∃ j, d = .int j ∧ small62 j = true ∧ lo = 0 ∧ hi = j := by
    unfold range1 at h3
    cases d with
    | int j =>
      simp only at h3
      split at h3
      · rename_i hs; cases h3; exact ⟨_, rfl, hs, rfl, rfl⟩
      · cases h3
    | _ => cases h3
  obtain ⟨j, rfl, hs, rfl, rfl⟩ := h6
  have h7 : (hi - 0).toNat ≤ 16777216 ∧ ds = rangeD 0 hi ∧ ρ' = ρ2 := by
    simp only at g3
    split at g3
    · rename_i hz; cases g3; exact ⟨hz, rfl, rfl⟩
    · cases g3
  obtain ⟨hz, rfl, rfl⟩ := h7
  refine ⟨ρ, r1, _, E, h4, fun v H1 E1 s1 R1 => ?_⟩
  have ev := (R1.read E1 (.refl _ _ _) E1 h5).int
  subst ev
  unfold small62 at hs
  simp at hs
  exact ⟨hi, rfl, q hi H1 E1 s1 rfl ⟨by omega, by omega, by omega, by omega, by omega⟩⟩
theorem pu_listRg1 {a : Expr} {ga : M} {p p' pos pos' : Pos} (hc : X.calm = true) (hg : Gl X "list") (hm : X.mg "list" = none) (hg' : Gl X "range") (hm' : X.mg "range" = none) (ha : PE X a (tE X.K ga))
    (na : starEach [.Call (.Name "range" p') [a] [] pos'] X.env = (false, eval (.Call (.Name "range" p') [a] [] pos') X.env) :: starEach [] X.env := by rfl) (nb : starEach [a] X.env = (false, eval a X.env) :: starEach [] X.env := by rfl) :
    PE X (.Call (.Name "list" p) [.Call (.Name "range" p') [a] [] pos'] [] pos) (tE X.K (eListRg (iRange range1 (msCons ga msNil)))) :=
  (pe_listRg hc hg hm (prg_1 hg' hm' ha nb) na).imp fun σ H Q ⟨ρ, r, ρ', E, hg, q⟩ => by
    unfold eListRg at hg
    obtain ⟨⟨ds, ρ1⟩, h1, hg⟩ := Option.map_eq_some_iff.mp hg
    cases hg
    refine rg1_reads E h1 fun j H' E' s' e ok => ⟨ok, fun p hp => ?_⟩
    subst e
    have ex := Ex.new (o := .lst (rgV 0 j)) hp
    refine q _ _ (E'.ex ex) (s'.trans (.ex ex)) ⟨p, rfl, s'.toStp.back hp, .lst upd_same (range_reps _ _), fun z => ?_⟩
    obtain ⟨o, h, _⟩ := E'.plainOf z
    rw [hp] at h; cases h
theorem pu_whileN (n : Nat) {c : Expr} {t : T} {gb : S} {pos : Pos} {body : List Stmt} (hp : PassesOwn (model X.prog X.w) X.A X.env X.xe) (hc : PT X c (tT X.K t)) (hb : PSs X body (tS X.K gb)) : PS X (.While c body [] pos) (tS X.K (whileGo t gb n)) := (pu_while hp hc hb).imp fun Dn σ H ⟨ρ, o, E, hg, q⟩ => ⟨ρ, o, E, sWhile_eq hg, q⟩
end
end Pu
namespace Pu
open PySem PySem.Spec PyProof.Rows L2
def blkCheck (N : List Str) (sc scope : Scope) (own : List (Str × Nat)) : Bool :=
  decide (scope.kind = .function) && scope.names.all (fun y => decide (scope.names.lookup y.1 = some y.2)) && own.all (fun p => decide (N[p.2]? = some p.1)) &&
  scope.names.all (fun y => decide (y.2 = .free → sc.names.lookup y.1 = some .cell ∨ sc.names.lookup y.1 = some .free)) &&
  scope.names.all (fun y => decide (y.2 = .local ∨ y.2 = .cell → y.1 ∈ own.map (·.1) ∨ y.1 ∉ N))
theorem blk_of {N : List Str} {sc scope : Scope} {own : List (Str × Nat)} (h : blkCheck N sc scope own = true) : BlkOk N sc scope own := by
  unfold blkCheck at h
  simp only [Bool.and_eq_true, List.all_eq_true, decide_eq_true_eq] at h
  obtain ⟨⟨⟨⟨h1, h2⟩, h3⟩, h4⟩, h5⟩ := h
  exact ⟨h1, h2, h3, h4, h5⟩
end Pu
namespace Pu
open PySem PySem.Spec PyProof.Rows L2
variable [Wd]
theorem int_reps {K : Frag} {H : Hp} : ∀ ns : List Int, Reps K H (ns.map PyData.int) (ns.map V.int)
  | [] => .nil
  | n :: ns => .cons (.int n) (int_reps ns)
theorem law_enter {K : Frag} {F : Fn} {H : Hp} {a : Addr} {ns : List Int} {E : XK} (hl : ∃ ts, F [.sh (.list (ns.map PyData.int))] = some (.sh (.bool true), ts)) (hO : Only H) (hS : SqL K H a (ns.map V.int)) : spFn K F 1 [.ref a] H (fun v _ => v = .bl true) E := by
  obtain ⟨ts, h⟩ := hl
  have fl : FL K H a (ns.map V.int) := by
    rcases hS with (hS | hS) | hS
    · rcases hO a with z | ⟨o, xs, z⟩
      · rw [z] at hS; cases hS
      · rw [z] at hS; cases hS
    · exact .inl hS
    · exact .inr hS
  refine ⟨rfl, _, _, ts, ⟨rfl, fun i d hi => ?_, fun i d hi => ?_, fun i j b hi => ?_, fun i d hi => ?_, fun i d hi => ?_⟩, fun i d hi => ?_, h, fun v H' _ _ r => by cases r; rfl⟩
  · cases i with
    | zero => cases hi; exact ⟨_, rfl, .lst' fl (int_reps ns)⟩
    | succ i => simp at hi
  · cases i with
    | zero => rcases hi with hi | hi <;> cases hi
    | succ i => simp at hi
  · obtain ⟨d, hi⟩ := hi
    cases i with
    | zero => rcases hi with hi | hi | hi <;> cases hi
    | succ i => simp at hi
  · cases i with
    | zero => cases hi
    | succ i => simp at hi
  · cases i with
    | zero => cases hi
    | succ i => simp at hi
  · cases i with
    | zero => cases hi
    | succ i => simp at hi
end Pu
set_option maxRecDepth 100000
namespace Pu
open PySem PySem.Spec PyProof.Rows L2
variable [Wd]
section
variable {prog : Program} {w : World} {A : Around} {E : Value → Shared → Prop} {s : Shared}
theorem adjust_rev (n : Nat) : Builtin.Slice.sliceAdjust none none (-1) (n : Int) = ((n : Int) - 1, -1) := by
  unfold Builtin.Slice.sliceAdjust
  simp
theorem places_rev (n : Nat) : Builtin.Slice.slicePlaces ((n : Int) - 1) (-1) (-1) = n := by
  unfold Builtin.Slice.slicePlaces
  have h1 : ¬ ((-1 : Int) > 0) := by omega
  simp only [h1, if_false]
  split
  · rw [show (- -1 : Int) = 1 by decide, Int.ediv_one]; omega
  · omega
theorem sliceApplied_rev {sl : Addr} {vs : Value} {n : Nat} {Q : Int × Int × Nat → Shared → Prop} (hs : s.heap.IsSliceOf sl .none .none vs) (ps : IsPart vs (some (-1)))
    (h : Q ((n : Int) - 1, -1, n) s) : wpAny (model prog w) A (Builtin.Slice.sliceApplied (.ref sl) (pure (n : Int))) Q E s := by
  obtain ⟨os, hos, hcs, hds⟩ := id hs
  unfold Builtin.Slice.sliceApplied Builtin.Slice.sliceFields
  refine wpAny_bind (wpAny_bind (wpAny_field hos hds (x := .none) rfl (wpAny_bind (wpAny_field hos hds (x := .none) rfl (wpAny_bind (wpAny_field hos hds (x := vs) rfl (wpAny_pure ?_)))))))
  refine wpAny_bind (HT.slicePart_ ps ?_)
  show wpAny _ _ (if ((-1 : Int) == 0) = true then _ else _) _ _ s
  rw [if_neg (by decide)]
  refine wpAny_bind (HT.slicePart_ .none (wpAny_bind (HT.slicePart_ .none (wpAny_bind (wpAny_pure ?_)))))
  show wpAny _ _ (match Builtin.Slice.sliceAdjust none none (-1) (n : Int) with | (lo, hi) => pure (lo, (-1 : Int), Builtin.Slice.slicePlaces lo hi (-1))) _ _ s
  rw [adjust_rev n]
  show wpAny _ _ (pure ((n : Int) - 1, (-1 : Int), Builtin.Slice.slicePlaces ((n : Int) - 1) (-1) (-1))) _ _ s
  rw [places_rev]
  exact wpAny_pure h
theorem pick_rev (xs : Array Value) : ((List.range xs.size).filterMap fun (m : Nat) => xs[(((xs.size : Int) - 1) + (m : Int) * -1).toNat]?).toArray = xs.toList.reverse.toArray := by
  have e1 : ((List.range xs.size).filterMap fun (m : Nat) => xs[(((xs.size : Int) - 1) + (m : Int) * -1).toNat]?) = ((List.range xs.size).map fun k => xs.size - 1 - k).filterMap (xs[·]?) := by
    rw [List.filterMap_map]
    have key : ∀ l : List Nat, (∀ m ∈ l, m < xs.size) → (l.filterMap fun (m : Nat) => xs[(((xs.size : Int) - 1) + (m : Int) * -1).toNat]?) = l.filterMap ((fun x => xs[x]?) ∘ fun k => xs.size - 1 - k) := fun l => by
      induction l with
      | nil => intro _; rfl
      | cons m l ih =>
        intro h
        have hm := h m (by simp)
        have e : (((xs.size : Int) - 1) + (m : Int) * -1).toNat = xs.size - 1 - m := by omega
        rw [List.filterMap_cons, List.filterMap_cons, ih fun y hy => h y (by simp [hy]), e]; rfl
    exact key _ fun m hm => List.mem_range.mp hm
  rw [e1, PySem.W.krv_range, List.filterMap_reverse, PySem.W.krv_all]
theorem getItem_tuple_rev {t sl : Addr} {items : Array Value} {vs : Value} {Q : Value → Shared → Prop} (ht : IsTup s.heap t items) (hs : s.heap.IsSliceOf sl .none .none vs) (ps : IsPart vs (some (-1)))
    (h : Q (.ref s.heap.objs.size) { s with heap := s.heap.push { cls := .type "tuple", data := .seq items.toList.reverse.toArray } })
    (hsz : items.size ≤ sizeLine) : wpAny (model prog w) A (getItem (.ref t) (.ref sl)) Q E s := by
  have htake : sizeOk (.seq items.toList.reverse.toArray) := by
    show items.toList.reverse.toArray.size ≤ sizeLine
    rw [List.size_toArray, List.length_reverse, Array.length_toList]; exact hsz
  obtain ⟨os, hos, hcs, hds⟩ := id hs
  have hTs : s.TypeIs (.ref sl) "slice" := ⟨os, hos, hcs⟩
  unfold getItem
  try with_reducible refine wpAny_holding ?_
  first | refine wpAny_bind (wpAny_pure ?_) | skip
  refine wpAny_bind (wpAny_sequenceKey ht.typeIs (by decide) ?_)
  refine wpAny_bind (wpAny_callSpecial?_slot (name := Str.ofString "__getitem__") ht.typeIs PyProof.Rows.slot_tuple_getitem
    (wpAny_call_entry PyProof.Rows.slot_tuple_getitem ht.typeIs entry_tuple_getitem ?_ (args_tuple_getitem _ _)))
  show wpAny _ _ (Builtin.Tuple.tupleItemsOf (.ref t) >>= _) _ _ s
  refine wpAny_bind (tupleItemsOf_ ht ?_)
  refine wpAny_bind (wpAny_typeOf hTs ?_)
  rw [if_pos (by decide)]
  refine wpAny_bind (sliceApplied_rev hs ps ?_)
  have hno : ¬ ((((items.size : Int) - 1) == 0 && (-1 : Int) == 1 && items.size == items.size) = true) := by
    intro q
    rw [Bool.and_eq_true, Bool.and_eq_true] at q
    exact absurd q.1.2 (by decide)
  show wpAny _ _ (if (((items.size : Int) - 1) == 0 && (-1 : Int) == 1 && items.size == items.size) = true then _ else _) _ _ s
  rw [if_neg hno, pick_rev]
  first
    | exact wpAny_bind (m := Builtin.Tuple.tupleExact _) (wpAny_newObj_type (wpAny_pure ⟨_, rfl, wpAny_pure h⟩) htake)
    | exact wpAny_bind (m := Builtin.Tuple.tupleExact _) (wpAny_newObj_type (wpAny_bind (wpAny_pure (wpAny_pure ⟨_, rfl, wpAny_pure h⟩))) htake)
    | exact wpAny_bind (wpAny_bind (m := Builtin.Tuple.tupleExact _) (wpAny_newObj_type (wpAny_pure (wpAny_pure ⟨_, rfl, wpAny_pure h⟩)) htake))
    | exact wpAny_bind (wpAny_bind (m := Builtin.Tuple.tupleExact _) (wpAny_newObj_type (wpAny_pure ⟨_, rfl, wpAny_pure h⟩) htake))
end
section
variable {X : Cx} {K : Frag} {H : Hp} {a : Expr} {ga : M} {pos : Pos}
def tRevT (K : Frag) (te : TE) : TE := fun σ H Q => te σ H fun x H1 => ∃ a xs, x = .ref a ∧ SqT K H1 a xs ∧ ∀ p, H1 p = none → Q (.ref p) (upd H1 p (.tup xs.reverse))
theorem pe_revT {e : Expr} {te : TE} {k : Nat} {p1 p2 p3 pos : Pos} (he : PE X e te) : PE X (.Subscript e (.Slice none none (some (.UnaryOp .USub (.Constant (.int 1) k p1) p2)) p3) pos) (tRevT X.K te) := by
  refine ⟨fun pins s σ H Q I h => ?_⟩
  refine Subscript_ (thn (he.run pins s σ H _ I h) fun v s1 ⟨x, H1, I1, r1, q1⟩ => ?_)
  obtain ⟨a, xs, ex, hx, q⟩ := q1
  subst ex
  cases r1
  have hst : PO X (some (.UnaryOp .USub (.Constant (.int 1) k p1) p2)) (tPart (tUn (rU fun i => .int (-i)) (tC (.int 1)))) := po_some (pe_un un_neg pe_int)
  refine wpAny_Slice (thn (po_none.run pins s1 σ H1 (fun o H2 => o = none ∧ H2 = H1) I1 ⟨rfl, rfl⟩) fun vl s2 ⟨l, H2, I2, pl, el, e2⟩ => ?_)
  subst el e2
  refine thn (po_none.run pins s2 σ H2 (fun o H3 => o = none ∧ H3 = H2) I2 ⟨rfl, rfl⟩) fun vu s3 ⟨u, H3, I3, pu, eu, e3⟩ => ?_
  subst eu e3
  refine thn (hst.run pins s3 σ H3 (fun o H4 => o = some (-1) ∧ H4 = H3) I3 ⟨1, rfl, -1, rfl, rfl, rfl⟩) fun vs s4 ⟨o, H4, I4, ps, eo, e4⟩ => ?_
  subst eo e4
  cases pl
  cases pu
  have I5 : Inv X pins σ H4 { s4 with heap := s4.heap.push { cls := .type "slice", data := .fields #[.none, .none, vs] } } := I4.kept (t' := s4.toks) fun b ob q => Heap.get?_push_of_some _ q
  obtain ⟨its, r, ht, hz⟩ := I5.tuple hx
  have hlen := r.length
  show wpAny (model X.prog X.w) X.A (subscriptTail e (.Slice none none (some (.UnaryOp .USub (.Constant (.int 1) k p1) p2)) p3) (.ref a) (.ref s4.heap.objs.size)) (EP X pins σ Q) X.xe { s4 with heap := s4.heap.push { cls := .type "slice", data := .fields #[.none, .none, vs] } }
  refine tail_any (ops := [.ref a, .ref s4.heap.objs.size]) ht.typeIs (PyProof.Rows.slot_tuple_getitem.lookup) ?_ (by with_unfolding_all rfl)
  refine getItem_tuple_rev ht (Heap.IsSliceOf.new _ .none .none vs) ps ?_ (by rw [List.size_toArray]; omega)
  refine ⟨.ref _, _, I5.laid (t' := s4.toks) (o := .tup xs.reverse) (fun b ob q => Heap.get?_push_of_some _ q) (Nat.le_refl _) ?_, rfl, q _ (I5.hok.fresh (Nat.le_refl _))⟩
  exact ⟨by rw [List.length_reverse]; exact hz, _, r.reverse, IsTup.new _ _⟩
theorem Reps.rev {ds : List D} {xs : List V} (r : Reps K H ds xs) : Reps K H ds.reverse xs.reverse := by
  refine ⟨by rw [List.length_reverse, List.length_reverse, r.1], fun i d x hd hx => ?_⟩
  have hi : i < ds.length := by
    have := List.getElem?_eq_some_iff.mp hd
    obtain ⟨h, _⟩ := this
    rwa [List.length_reverse] at h
  rw [List.getElem?_reverse hi] at hd
  rw [List.getElem?_reverse (by rw [← r.1]; exact hi), ← r.1] at hx
  exact r.2 _ d x hd hx
theorem pu_rev {k : Nat} {p1 p2 p3 : Pos} (ha : PE X a (tE X.K ga)) : PE X (.Subscript a (.Slice none none (some (.UnaryOp .USub (.Constant (.int 1) k p1) p2)) p3) pos) (tE X.K (eOp1 pRev ga)) :=
  ((pe_revL ha).or (pe_revT ha)).imp fun σ H Q ⟨ρ, res, ρ', E, hg, q⟩ => by
    unfold eOp1 at hg
    obtain ⟨⟨r1, ρ1⟩, h1, hg⟩ := Option.bind_eq_some_iff.mp hg
    obtain ⟨d, hd, hg⟩ := Option.bind_eq_some_iff.mp hg
    obtain ⟨z, hz, hg⟩ := Option.map_eq_some_iff.mp hg
    cases hg
    have fin : ∀ {H1 : Hp} {v : V} {H4 : Hp}, ER X.K H1 σ ρ1 → StpE σ ρ H ρ1 H1 → Mk X.K H1 H4 res v → Q v H4 := fun E1 s1 mk => by
      obtain ⟨E4, s4, R4⟩ := mk.rr E1
      exact q _ _ E4 (s1.trans s4) (R4.base fun p hp => s1.toStp.back hp)
    unfold pRev at hz
    split at hz
    · cases hz
      refine .inl ⟨ρ, r1, ρ1, E, h1, fun v1 H1 E1 s1 R1 => ?_⟩
      obtain ⟨p, xs, rfl, hs, rs⟩ := (R1.read E1 (.refl _ _ _) E1 hd).lst
      exact ⟨p, xs, rfl, hs, fun p' hp => fin E1 s1 (.newL hp rs.rev)⟩
    · cases hz
      refine .inr ⟨ρ, r1, ρ1, E, h1, fun v1 H1 E1 s1 R1 => ?_⟩
      obtain ⟨p, xs, rfl, hs, rs⟩ := (R1.read E1 (.refl _ _ _) E1 hd).tup
      exact ⟨p, xs, rfl, hs.sq, fun p' hp => fin E1 s1 (.newT hp rs.rev)⟩
    · cases hz
end
end Pu
set_option maxRecDepth 100000
namespace Pu
open PySem PySem.Spec PyProof.Rows L2
variable [Wd]
section
variable {X : Cx} {K : Frag} {H : Hp}
def rStr : List V → Hp → VK → Prop := fun xs H Q => (∃ i, xs = [.int i] ∧ i.natAbs.log2 < 1920 ∧ Q (.str (toString i)) H) ∨ ∃ a, xs = [.str a] ∧ Q (.str a) H
theorem call_strA : CallR X (.type "str") rStr := callr_or call_str_int SkE.call_str_str
theorem prim_str : PrimN K pStr rStr := by
  intro ds vs H Q res h hf q
  unfold pStr at hf
  split at hf
  · split at hf
    · rename_i i hi
      cases hf
      obtain ⟨v, rfl, r⟩ := h.one
      rw [r.int]
      exact .inl ⟨_, rfl, hi, q _ H (.keep (.str _))⟩
    · cases hf
  · cases hf
    obtain ⟨v, rfl, r⟩ := h.one
    rw [r.str]
    exact .inr ⟨_, rfl, q _ H (.keep (.str _))⟩
  · cases hf
end
end Pu
set_option maxRecDepth 100000
namespace Pu
open PySem PySem.Spec PyProof.Rows L2
variable [Wd]
section
variable {prog : Program} {w : World} {A : Around} {E : Value → Shared → Prop} {s : Shared}
end
section
variable {X : Cx} {K : Frag} {H : Hp} {a : Expr} {ga : M} {pos : Pos}
end
end Pu
set_option maxRecDepth 100000
namespace Pu
open PySem PySem.Spec PyProof.Rows L2
open Sem (wp)
variable [Wd]
section
variable {prog : Program} {w : World} {A : Around} {E : Value → Shared → Prop} {s : Shared} {z TI TO i1 i2 : Addr} {fp1 fp2 : List Addr} {n1 n2 i : Nat} {P1 P2 : Nat → Value → Prop} {St1 St2 : Nat → Heap → Prop} {a1 a2 : Value}
def ZipAt (z TI TO i1 i2 : Addr) (St1 St2 : Nat → Heap → Prop) (S i : Nat) (h : Heap) : Prop :=
  IsTupOf2 h TI (.ref i1) (.ref i2) ∧ (∃ a1 a2, IsTupOf2 h TO a1 a2) ∧ St1 i h ∧ St2 i h ∧
    (IsZip h z TI TO .none ∨ ∃ T f oT, IsZipHeld h z TI TO T f ∧ h.get? T = some oT ∧ T ≠ S ∧ T ≠ z ∧ T ≠ TO ∧ T ≠ i1 ∧ T ≠ i2)
def PairsIn (P1 P2 : Nat → Value → Prop) (bs : Nat) (wr : List Addr) (h : Heap) (acc : Array Value) (i : Nat) : Prop :=
  acc.size = i ∧ (∀ j v, acc[j]? = some v → ∃ T x1 x2, v = .ref T ∧ P1 j x1 ∧ P2 j x2 ∧ IsTupOf2 h T x1 x2 ∧ T ∉ wr ∧ bs ≤ T) ∧ ∀ (j k : Nat) (v : Value), acc[j]? = some v → acc[k]? = some v → j = k
theorem PairsIn.keep {bs : Nat} {wr : List Addr} {h h' : Heap} {acc : Array Value} {i : Nat} (q : PairsIn P1 P2 bs wr h acc i) (hk : ∀ c o, c ∉ wr → h.get? c = some o → h'.get? c = some o) : PairsIn P1 P2 bs wr h' acc i :=
  ⟨q.1, fun j v e => by obtain ⟨T, x1, x2, a, b, c, d, f, g⟩ := q.2.1 j v e; exact ⟨T, x1, x2, a, b, c, hk _ _ f d, f, g⟩, q.2.2⟩
theorem PairsIn.push {bs : Nat} {wr : List Addr} {h : Heap} {acc : Array Value} {i : Nat} {T : Addr} {x1 x2 : Value} (q : PairsIn P1 P2 bs wr h acc i) (p1 : P1 i x1) (p2 : P2 i x2) (hT : IsTupOf2 h T x1 x2) (hw : T ∉ wr) (hb : bs ≤ T) (hnew : ∀ j : Nat, acc[j]? ≠ some (Value.ref T)) :
    PairsIn P1 P2 bs wr h (acc.push (.ref T)) (i + 1) := by
  refine ⟨by rw [Array.size_push, q.1], fun j v hj => ?_, fun j k v hj hk => ?_⟩
  · rw [Array.getElem?_push] at hj
    split at hj
    · rename_i e; rw [q.1] at e; cases hj; rw [e]; exact ⟨T, x1, x2, rfl, p1, p2, hT, hw, hb⟩
    · exact q.2.1 j v hj
  · rw [Array.getElem?_push] at hj hk
    split at hj <;> split at hk
    · omega
    · cases hj; exact absurd hk (hnew _)
    · cases hk; exact absurd hj (hnew _)
    · exact q.2.2 j k v hj hk
theorem ZipAt.keep {Sx : Addr} {h h' : Heap} (S : ZipSep2 z TI TO i1 i2 fp1 fp2) (D1 : Draws prog w A i1 fp1 n1 P1 St1) (D2 : Draws prog w A i2 fp2 n2 P2 St2) (hS : Sx ≠ z ∧ Sx ≠ TI ∧ Sx ≠ TO ∧ Sx ∉ fp1 ∧ Sx ∉ fp2)
    (st : ZipAt z TI TO i1 i2 St1 St2 Sx i h) (hk : ∀ c o, c ≠ Sx → h.get? c = some o → h'.get? c = some o) : ZipAt z TI TO i1 i2 St1 St2 Sx i h' := by
  obtain ⟨hTI, ⟨a1, a2, hTO⟩, st1, st2, hz⟩ := st
  obtain ⟨s1, s2, s3, s4, s5⟩ := hS
  refine ⟨hk _ _ s2.symm hTI, ⟨a1, a2, hk _ _ s3.symm hTO⟩, D1.frame _ _ _ st1 fun b hb o e => hk b o (fun q => s4 (q ▸ hb)) e, D2.frame _ _ _ st2 fun b hb o e => hk b o (fun q => s5 (q ▸ hb)) e, ?_⟩
  rcases hz with hz | ⟨T, f, oT, hz, hT, t0, t1⟩
  · exact .inl (hk _ _ s1.symm hz)
  · exact .inr ⟨T, f, oT, hk _ _ s1.symm hz, hk _ _ t0 hT, t0, t1⟩
end
end Pu
set_option maxRecDepth 100000
namespace Pu
open PySem PySem.Spec PyProof.Rows L2
open Sem (wp)
variable [Wd]
theorem vals_refs : ∀ ts : List (Addr × V × V), Vals (ts.map fun t => V.ref t.1) (ts.map fun t => Value.ref t.1)
  | [] => .nil
  | t :: r => .cons rfl (vals_refs r)
end Pu
set_option maxRecDepth 100000
namespace Pu
open PySem PySem.Spec PyProof.Rows L2
variable [Wd]
section
variable {X : Cx}
end
end Pu
set_option maxRecDepth 100000
namespace Pu
open PySem PySem.Spec PyProof.Rows L2
open Sem (wp)
variable [Wd]
section
variable {prog : Program} {w : World} {A : Around} {E : Value → Shared → Prop} {s : Shared} {z TI TO i1 i2 : Addr} {fp1 fp2 : List Addr} {n1 n2 i : Nat} {P1 P2 : Nat → Value → Prop} {St1 St2 : Nat → Heap → Prop} {a1 a2 : Value}
end
end Pu
set_option maxRecDepth 100000
namespace Pu
open PySem PySem.Spec PyProof.Rows L2
open Sem (wp)
variable [Wd]
end Pu
set_option maxRecDepth 100000
namespace Pu
open PySem PySem.Spec PyProof.Rows L2
open Sem (wp)
variable [Wd]
end Pu
set_option maxRecDepth 100000
namespace Pu
open PySem PySem.Spec PyProof.Rows L2
variable [Wd]
end Pu
set_option maxRecDepth 100000
namespace Pu
open PySem PySem.Spec PyProof.Rows L2
open Sem (wp)
variable [Wd]
section
variable {prog : Program} {w : World} {A : Around} {E : Value → Shared → Prop} {s : Shared} {z TI TO i1 i2 i3 : Addr} {fp1 fp2 fp3 : List Addr} {n1 n2 n3 i : Nat} {P1 P2 P3 : Nat → Value → Prop} {St1 St2 St3 : Nat → Heap → Prop} {a1 a2 a3 : Value}
def ZipAt3 (z TI TO i1 i2 i3 : Addr) (St1 St2 St3 : Nat → Heap → Prop) (S i : Nat) (h : Heap) : Prop :=
  IsTupOf3 h TI (.ref i1) (.ref i2) (.ref i3) ∧ (∃ a1 a2 a3, IsTupOf3 h TO a1 a2 a3) ∧ St1 i h ∧ St2 i h ∧ St3 i h ∧
    (IsZip h z TI TO .none ∨ ∃ T f oT, IsZipHeld h z TI TO T f ∧ h.get? T = some oT ∧ T ≠ S ∧ T ≠ z ∧ T ≠ TO ∧ T ≠ i1 ∧ T ≠ i2 ∧ T ≠ i3)
def TripsIn (P1 P2 P3 : Nat → Value → Prop) (bs : Nat) (wr : List Addr) (h : Heap) (acc : Array Value) (i : Nat) : Prop :=
  acc.size = i ∧ (∀ j v, acc[j]? = some v → ∃ T x1 x2 x3, v = .ref T ∧ P1 j x1 ∧ P2 j x2 ∧ P3 j x3 ∧ IsTupOf3 h T x1 x2 x3 ∧ T ∉ wr ∧ bs ≤ T) ∧ ∀ (j k : Nat) (v : Value), acc[j]? = some v → acc[k]? = some v → j = k
theorem TripsIn.keep {bs : Nat} {wr : List Addr} {h h' : Heap} {acc : Array Value} {i : Nat} (q : TripsIn P1 P2 P3 bs wr h acc i) (hk : ∀ c o, c ∉ wr → h.get? c = some o → h'.get? c = some o) : TripsIn P1 P2 P3 bs wr h' acc i :=
  ⟨q.1, fun j v e => by obtain ⟨T, x1, x2, x3, a, b, c, c', d, f, g⟩ := q.2.1 j v e; exact ⟨T, x1, x2, x3, a, b, c, c', hk _ _ f d, f, g⟩, q.2.2⟩
theorem TripsIn.push {bs : Nat} {wr : List Addr} {h : Heap} {acc : Array Value} {i : Nat} {T : Addr} {x1 x2 x3 : Value} (q : TripsIn P1 P2 P3 bs wr h acc i) (p1 : P1 i x1) (p2 : P2 i x2) (p3 : P3 i x3) (hT : IsTupOf3 h T x1 x2 x3) (hw : T ∉ wr) (hb : bs ≤ T) (hnew : ∀ j : Nat, acc[j]? ≠ some (Value.ref T)) :
    TripsIn P1 P2 P3 bs wr h (acc.push (.ref T)) (i + 1) := by
  refine ⟨by rw [Array.size_push, q.1], fun j v hj => ?_, fun j k v hj hk => ?_⟩
  · rw [Array.getElem?_push] at hj
    split at hj
    · rename_i e; rw [q.1] at e; cases hj; rw [e]; exact ⟨T, x1, x2, x3, rfl, p1, p2, p3, hT, hw, hb⟩
    · exact q.2.1 j v hj
  · rw [Array.getElem?_push] at hj hk
    split at hj <;> split at hk
    · omega
    · cases hj; exact absurd hk (hnew _)
    · cases hk; exact absurd hj (hnew _)
    · exact q.2.2 j k v hj hk
theorem ZipAt3.keep {Sx : Addr} {h h' : Heap} (S : ZipSep3 z TI TO i1 i2 i3 fp1 fp2 fp3) (D1 : Draws prog w A i1 fp1 n1 P1 St1) (D2 : Draws prog w A i2 fp2 n2 P2 St2) (D3 : Draws prog w A i3 fp3 n3 P3 St3) (hS : Sx ≠ z ∧ Sx ≠ TI ∧ Sx ≠ TO ∧ Sx ∉ fp1 ∧ Sx ∉ fp2 ∧ Sx ∉ fp3)
    (st : ZipAt3 z TI TO i1 i2 i3 St1 St2 St3 Sx i h) (hk : ∀ c o, c ≠ Sx → h.get? c = some o → h'.get? c = some o) : ZipAt3 z TI TO i1 i2 i3 St1 St2 St3 Sx i h' := by
  obtain ⟨hTI, ⟨a1, a2, a3, hTO⟩, st1, st2, st3, hz⟩ := st
  obtain ⟨s1, s2, s3, s4, s5, s6⟩ := hS
  refine ⟨hk _ _ s2.symm hTI, ⟨a1, a2, a3, hk _ _ s3.symm hTO⟩, D1.frame _ _ _ st1 fun b hb o e => hk b o (fun q => s4 (q ▸ hb)) e, D2.frame _ _ _ st2 fun b hb o e => hk b o (fun q => s5 (q ▸ hb)) e, D3.frame _ _ _ st3 fun b hb o e => hk b o (fun q => s6 (q ▸ hb)) e, ?_⟩
  rcases hz with hz | ⟨T, f, oT, hz, hT, t0, t1⟩
  · exact .inl (hk _ _ s1.symm hz)
  · exact .inr ⟨T, f, oT, hk _ _ s1.symm hz, hk _ _ t0 hT, t0, t1⟩
end
end Pu
set_option maxRecDepth 100000
namespace Pu
open PySem PySem.Spec PyProof.Rows L2
open Sem (wp)
variable [Wd]
end Pu
set_option maxRecDepth 100000
namespace Pu
open PySem PySem.Spec PyProof.Rows L2
variable [Wd]
theorem repL_reads {K : Frag} {ga gb : M} {σ : L2.St} {H : Hp} {Q : VK} (h : tE K (eRepL ga gb) σ H Q) : tOp rRep (tE K ga) (tE K gb) σ H Q := by
  obtain ⟨ρ, res, ρ', E, hg, q⟩ := h
  unfold eRepL at hg
  obtain ⟨⟨r1, ρ1⟩, h1, hg⟩ := Option.bind_eq_some_iff.mp hg
  unfold repA at hg
  split at hg
  · rename_i xs ρ1' heq
    cases heq
    obtain ⟨⟨r2, ρ2⟩, h2, hg⟩ := Option.bind_eq_some_iff.mp hg
    obtain ⟨y, hy, hg⟩ := Option.bind_eq_some_iff.mp hg
    unfold repC at hg
    split at hg
    · rename_i k
      split at hg
      · rename_i hm
        cases hg
        refine ⟨ρ, _, ρ1, E, h1, fun v1 H1 E1 s1 R1 => ⟨ρ1, r2, ρ2, E1, h2, fun v2 H2 E2 s2 R2 => ?_⟩⟩
        obtain ⟨p, rfl, hp, ob, no⟩ := RR.later (r := .ow (.list xs)) R1 E1 s2
        have rd := R2.read E2 (.refl _ _ _) E2 hy
        have hm' : (0 ≤ k ∧ k ≤ 1000) ∧ xs.length ≤ 1000 := by simpa using hm
        cases ob with
        | lst e r =>
          rename_i vs
          refine ⟨p, k, vs, rfl, rd.int, e, by omega, by omega, ?_, fun p' hp' => ?_⟩
          · rw [← r.1]
            have : xs.length * k.toNat ≤ 1000 * 1000 := Nat.mul_le_mul hm'.2 (by omega)
            have e : (1000 * 1000 : Nat) ≤ sizeLine := by decide
            omega
          · have mk : Mk K H2 (upd H2 p' (.lst (List.replicate k.toNat vs).flatten)) (.ow (.list (List.replicate k.toNat xs).flatten)) (.ref p') := .newL hp' (r.rep _)
            obtain ⟨E3, s3, R3⟩ := mk.rr E2
            exact q _ _ E3 (s1.trans (s2.trans s3)) (R3.base fun p hp => (s1.trans s2).toStp.back hp)
      · cases hg
    · cases hg
  · cases hg
theorem pu_repL {X : Cx} {a b : Expr} {ga gb : M} {pos : Pos} (ha : PE X a (tE X.K ga)) (hb : PE X b (tE X.K gb)) : PE X (.BinOp a .Mult b pos) (tE X.K (eRepL ga gb)) :=
  (pe_op op_rep ha hb).imp fun σ H Q h => repL_reads h
end Pu
set_option maxRecDepth 100000
namespace Pu
open PySem PySem.Spec PyProof.Rows L2
open Sem (wp)
variable [Wd]
section
variable {X : Cx}
end
end Pu
set_option maxRecDepth 100000
namespace Pu
open PySem PySem.Spec PyProof.Rows L2
variable [Wd]
section
variable {X : Cx} {K : Frag} {H : Hp}
end
end Pu
set_option maxRecDepth 100000
namespace Pu
open PySem PySem.Spec PyProof.Rows L2
variable [Wd]
section
variable {X : Cx}
end
end Pu
set_option maxRecDepth 100000
namespace Pu
open PySem PySem.Spec PyProof.Rows L2
variable [Wd]
def Flat (v : Value) : Prop := (∃ i t, v = .int i t) ∨ ∃ x t, v = .str x t
theorem Flat.cls {v : Value} (h : Flat v) (n : Nat) : ofAClassStatement n v = pure false := by rcases h with ⟨i, t, rfl⟩ | ⟨x, t, rfl⟩ <;> (cases n <;> rfl)
section
variable {P : Program} {w : World} {A : Around} {E : Value → Shared → Prop} {s : Shared}
abbrev IsK (P : Program) (w : World) (h : Heap) (k : List Key) (a : Addr) : Prop := IsTupleKey (mixKind P w) h k a
abbrev khash (P : Program) (w : World) (k : List Key) : Int := tupleKeyHash (mixKind P w) k
end
end Pu
set_option maxRecDepth 100000
namespace Pu
open PySem PySem.Spec PyProof.Rows L2
variable [Wd]
section
variable {P : Program} {w : World} {A : Around} {E : Value → Shared → Prop} {s : Shared}
def krows (P : Program) (w : World) (L : List (Addr × List Key)) : List (Int × Value) := L.map fun p => (khash P w p.2, Value.ref p.1)
structure SetK (P : Program) (w : World) (h : Heap) (a : Addr) (L : List (Addr × List Key)) (es : Array (Int × Value)) (ep : Nat) (t : SetTable) : Prop where
  ob : ∃ o, h.get? a = some o ∧ o.ExactSet ∧ o.data = .set es ep t
  rows : es.toList = krows P w L
  tab : TabOk t (L.map fun p => khash P w p.2)
  nd : (L.map (·.2)).Nodup
  tup : ∀ p ∈ L, IsK P w h p.2 p.1
  led : w.params.followText "set-order" = true ∨ t.led = true
  msk : t.mask = 7 ∨ t.mask = 31
  room : L.length * 5 < t.mask * 3
variable {a : Addr} {L : List (Addr × List Key)} {es : Array (Int × Value)} {ep : Nat} {t : SetTable}
theorem krows_len (L : List (Addr × List Key)) : (krows P w L).length = L.length := by unfold krows; rw [List.length_map]
theorem SetK.size {h : Heap} (R : SetK P w h a L es ep t) : es.size = L.length := by rw [← krows_len (P := P) (w := w), ← R.rows, Array.length_toList]
theorem SetK.at {h : Heap} (R : SetK P w h a L es ep t) {i : Nat} {p : Addr × List Key} (e : L[i]? = some p) : es[i]? = some (khash P w p.2, Value.ref p.1) := by
  have : (krows P w L)[i]? = some (khash P w p.2, Value.ref p.1) := by unfold krows; rw [List.getElem?_map, e]; rfl
  rw [← R.rows, Array.getElem?_toList] at this
  exact this
end
end Pu
set_option maxRecDepth 100000
namespace Pu
open PySem PySem.Spec PyProof.Rows L2
variable [Wd]
section
variable {P : Program} {w : World} {A : Around} {E : Value → Shared → Prop} {s : Shared} {a : Addr} {L : List (Addr × List Key)} {es : Array (Int × Value)} {ep : Nat} {t : SetTable}
end
end Pu
set_option maxRecDepth 100000
namespace Pu
open PySem PySem.Spec PyProof.Rows L2
variable [Wd]
section
variable {P : Program} {w : World} {A : Around} {E : Value → Shared → Prop} {s : Shared}
set_option maxHeartbeats 3200000 in
end
end Pu
set_option maxRecDepth 100000
namespace Pu
open PySem PySem.Spec PyProof.Rows L2
variable [Wd]
section
variable {X : Cx} {K : Frag} {H : Hp}
end
section
variable {X : Cx} {K : Frag} {H : Hp}
end
end Pu
set_option maxRecDepth 100000
namespace Pu
open PySem PySem.Spec PyProof.Rows L2
variable [Wd]
section
variable {P : Program} {w : World} {A : Around} {E : Value → Shared → Prop} {s : Shared}
set_option maxHeartbeats 3200000 in
end
end Pu
set_option maxRecDepth 100000
namespace Pu
open PySem PySem.Spec PyProof.Rows L2
variable [Wd]
section
variable {X : Cx} {K : Frag} {H : Hp}
end
end Pu
set_option maxRecDepth 100000
namespace Pu
open PySem PySem.Spec PyProof.Rows L2
variable [Wd]
section
variable {X : Cx} {K : Frag} {H : Hp}
end
end Pu
set_option maxRecDepth 100000
namespace Pu
open PySem PySem.Spec PyProof.Rows L2
variable [Wd]
section
variable {P : Program} {w : World} {A : Around} {E : Value → Shared → Prop} {s : Shared} {Kk : Type} [DecidableEq Kk] {knd : HeapKind P w Kk}
end
section
variable {X : Cx} {K : Frag} {H : Hp}
end
end Pu
namespace Pu
open PySem
end Pu
set_option maxRecDepth 100000
namespace Pu
open PySem PySem.Spec PyProof.Rows L2
variable [Wd]
section
variable {K : PySem.W.Frag}
end
end Pu
set_option maxRecDepth 100000
namespace Pu
open PySem PySem.Spec PyProof.Rows L2
open Sem (wp)
variable [Wd]
section
variable {X : Cx}
end
end Pu
set_option maxRecDepth 100000
namespace Pu
open PySem PySem.Spec PyProof.Rows L2
variable [Wd]
section
variable {P : Program} {w : World} {K : Frag} {H : Hp} {h : Heap}
end

section
variable {K : Frag} {H : Hp}
end

section
variable {X : Cx} {pins : List (Addr × Obj)} {σ : L2.St} {H : Hp} {s : Shared} {a b : Addr} {A : Around} {E : Value → Shared → Prop} {kvs : List (D × D)} {xs : List (NestedKey × Addr × Value)}
end

section
variable {X : Cx}
end
end Pu
set_option maxRecDepth 100000
namespace Pu
open PySem PySem.Spec PyProof.Rows L2
variable [Wd]
section
variable {K : Frag} {H : Hp} {σ : L2.St} {ρ : Env} {i : Nat} {a : Addr} {d d' : D} {o o' : HO}
end
section
variable {X : Cx} {i : Nat}
end
end Pu
set_option maxRecDepth 100000
namespace Pu
open PySem PySem.Spec PyProof.Rows L2
variable [Wd]
section
variable {X : Cx} {i : Nat}
end
end Pu
set_option maxRecDepth 100000
namespace Pu
open PySem PySem.Spec PyProof.Rows L2
variable [Wd]
def tX (K : Frag) (cv : Nat → Value) (W : WX) (r : SR) : L2.St → Hp → Prop := fun σ H => ∃ ρ c, ER K H σ ρ ∧ r ρ = some c ∧ ∀ σ' ρ' H', ER K H' σ' ρ' → Stp σ ρ H σ' ρ' H' → W (cv c) none σ' H'
def spX (K : Frag) (cv : Nat → Value) (F : Fn) (R : RFn) (n : Nat) : Sp := fun vs H Q E => spFn K F n vs H Q E ∨
  (vs.length = n ∧ ∃ ss c, ER K H (vs.map some) ss ∧ (∀ i, ¬ IsO ss i) ∧ R ss = some c ∧ ∀ H', Ex H H' → E (cv c) none H')
section
variable {X : Cx} {cv : Nat → Value} {W : WX} {st : Stmt} {rest : List Stmt} {e c : Expr} {g : M} {ga gb : S} {ra rb : SR} {t : T} {pos : Pos}
theorem tX.from {K : Frag} {σ σ1 : L2.St} {ρ ρ1 : Env} {H H1 : Hp} {k : Nat} (h : ∀ σ' ρ' H', ER K H' σ' ρ' → Stp σ ρ H σ' ρ' H' → W (cv k) none σ' H') (s : Stp σ ρ H σ1 ρ1 H1) : ∀ σ' ρ' H', ER K H' σ' ρ' → Stp σ1 ρ1 H1 σ' ρ' H' → W (cv k) none σ' H' := fun σ' ρ' H' E' s' => h σ' ρ' H' E' (s.trans s')
end
section
variable {P : Program} {w : World} {K : Frag} {mg : Str → Option Value} {base : Heap} {cv : Nat → Value}
end
end Pu
set_option maxRecDepth 100000
namespace Pu
open PySem PySem.Spec PyProof.Rows L2
variable [Wd]
section
variable {X : Cx} {p : Addr × Obj} {D : Addr} {b : Bool} {bs cs : List Bool} {e : Expr} {es : List Expr} {H0 : Hp}
end
end Pu
set_option maxRecDepth 100000
namespace Pu
open PySem PySem.Spec PyProof.Rows L2
variable [Wd]
section
variable {X : Cx} {p : Addr × Obj} {D : Addr} {b : Bool} {bs cs : List Bool} {e : Expr} {es : List Expr} {H0 : Hp}
end

end Pu
set_option maxRecDepth 100000
namespace Pu
open PySem PySem.Spec PyProof.Rows L2
variable [Wd]
section
variable {X : Cx} {k : Nat} {f : Addr} {fd : FuncData} {ca : Nat → Addr}
end
theorem no_own {ρ : Env} (h : (ρ.all fun s => !isOwn s) = true) (i : Nat) : ¬ IsO ρ i := fun ⟨d, hd⟩ => by
  have key : ∀ s, ρ[i]? = some s → isOwn s = false := fun s e => by
    have := List.all_eq_true.mp h s (List.mem_of_getElem? e)
    simpa using this
  rcases hd with e | e | e <;> exact absurd (key _ e) (by simp [isOwn])
end Pu
set_option maxRecDepth 100000
namespace Pu
open PySem PySem.Spec PyProof.Rows L2
variable [Wd]
section
variable {X : Cx} {cv : Nat → Value} {W : WX} {e c a b : Expr} {g ga gb : M} {ra rb : SR} {t : T} {pos : Pos}
end
section
variable {X : Cx} {a : Addr} {bs : List Bool} {H0 : Hp} {c : Nat}
end
end Pu
set_option maxRecDepth 100000
namespace Pu
open PySem PySem.Spec PyProof.Rows L2
variable [Wd]
inductive FEs (X : Cx) (cv : Nat → Value) (m : Nat) : List Expr → List Addr → List Fn → List RFn → Prop
  | nil : FEs X cv m [] [] [] []
  | cons {x : Str} {p : Pos} {f : Addr} {fd : FuncData} {ps : List Str} {k : Nat} {F : Fn} {R : RFn} {es : List Expr} {fs : List Addr} {Fs : List Fn} {Rs : List RFn} : FnOk X.prog X.w X.K X.mg X.base (CX X.prog X.w) k f fd ps (spX X.K cv F R m) → Room k X.A → Gl X x → X.mg x = some (.ref f) → PySem.W.keepIn X.K (.ref f) = true → Binds X.K fd ps [] →
      (x == ("__debug__" : Str)) = false → starEach (.Name x p :: es) X.env = (false, eval (.Name x p) X.env) :: starEach es X.env → FEs X cv m es fs Fs Rs → FEs X cv m (.Name x p :: es) (f :: fs) (F :: Fs) (R :: Rs)
section
variable {X : Cx} {cv : Nat → Value} {W : WX} {m : Nat}
theorem FEs.pa : ∀ {es : List Expr} {fs : List Addr} {Fs : List Fn} {Rs : List RFn}, FEs X cv m es fs Fs Rs → PA X es (fun σ H Q => Q (fs.map V.ref) H)
  | _, _, _, _, .nil => pa_nil
  | _, _, _, _, .cons _ _ hg hm _ _ hd hs t => (pa_cons (pe_glob (v := .ref _) hg hm rfl hd) t.pa hs).imp fun σ H Q h => h
theorem FEs.len : ∀ {es : List Expr} {fs : List Addr} {Fs : List Fn} {Rs : List RFn}, FEs X cv m es fs Fs Rs → Fs.length = fs.length ∧ Rs.length = fs.length
  | _, _, _, _, .nil => ⟨rfl, rfl⟩
  | _, _, _, _, .cons _ _ _ _ _ _ _ _ t => ⟨by simp [t.len.1], by simp [t.len.2]⟩
theorem FEs.at : ∀ {es : List Expr} {fs : List Addr} {Fs : List Fn} {Rs : List RFn}, FEs X cv m es fs Fs Rs → ∀ {j : Nat} {F : Fn} {R : RFn}, Fs[j]? = some F → Rs[j]? = some R → ∃ f fd ps k, fs[j]? = some f ∧ FnOk X.prog X.w X.K X.mg X.base (CX X.prog X.w) k f fd ps (spX X.K cv F R m) ∧ Room k X.A ∧ PySem.W.keepIn X.K (.ref f) = true ∧ Binds X.K fd ps []
  | _, _, _, _, .nil, j, F, R, h, _ => by simp at h
  | _, _, _, _, .cons a b c d e g _ _ t, j, F, R, hF, hR => by
    cases j with
    | zero =>
      obtain rfl : _ = F := by simpa using hF
      obtain rfl : _ = R := by simpa using hR
      exact ⟨_, _, _, _, rfl, a, b, e, g⟩
    | succ j => exact t.at (by simpa using hF) (by simpa using hR)
end
end Pu
set_option maxRecDepth 100000
namespace Pu
open PySem PySem.Spec PyProof.Rows L2
variable [Wd]
section
variable {X : Cx} {cv : Nat → Value} {W : WX} {e : Expr} {g : M} {ra : SR} {pos : Pos}
end
section
variable {X : Cx} {k : Nat} {f : Addr} {fd : FuncData} {ca : Nat → Addr}
end
end Pu
set_option maxRecDepth 100000
namespace Pu
open PySem PySem.Spec PyProof.Rows L2
variable [Wd]
section
variable {K : Frag} {cv : Nat → Value} {C : Addr} {F : Fn} {R : RFn}
end
section
variable {prog : Program} {w : World} {A : Around} {E : Value → Shared → Prop} {s : Shared} {K : Frag} {C f a : Addr}
end
section
variable {X : Cx} {C f : Addr} {fd : FuncData} {k : Nat}
end
section
end
section
variable {X : Cx} {CX : CXT} {k : Nat} {f C : Addr} {fd : FuncData} {ps : List Str} {sp : Sp} {E : L2.St → XK} {x : Str} {p pos : Pos} {e : Expr} {es : List Expr} {t : TA}
end
section
variable {X : Cx} {C fI fL : Addr} {fdI fdL : FuncData} {kI kL : Nat} {F : Fn} {R : RFn} {cv : Nat → Value} {W : WX} {x : Str} {p p1 p2 p3 : Pos} {e1 e2 : Expr} {i j : Nat}
end
end Pu
set_option maxRecDepth 100000
namespace Pu
open PySem PySem.Spec PyProof.Rows L2
variable [Wd]
section
variable {X : Cx}
def rTupX (K : Frag) : List V → Hp → VK → Prop := fun xs H Q => ∃ p ys, xs = [V.ref p] ∧ SqL K H p ys ∧ ∀ l o, H l = none → o.cls = .type "tuple" → o.dict = none → Q (.ref l) (upd H l (.frz o (.tup ys)))
theorem call_tupX : CallR X (.type "tuple") (rTupX X.K) := by
  intro pins s σ H xs us Q I r h
  obtain ⟨p, ys, rfl, hq, q⟩ := h
  cases r with
  | cons rx rt =>
    cases rt
    cases rx
    obtain ⟨its, r', pl, hz⟩ := I.list hq
    have hlen := r'.length
    refine call_tuple_list pl.isList (fun h' kp => ?_) (by simp only [List.size_toArray] <;> omega)
    have I1 : Inv X pins σ H { s with heap := h' } := I.kept (t' := s.toks) kp
    have new : ObjOk X.prog X.w (upd H h'.objs.size (.frz { cls := .type "tuple", data := .seq its.toArray } (.tup ys))) (h'.push { cls := .type "tuple", data := .seq its.toArray }) h'.objs.size (.frz { cls := .type "tuple", data := .seq its.toArray } (.tup ys)) :=
      ⟨Heap.get?_push_size _ rfl, hz, its, r', IsTup.new _ _⟩
    have I2 : Inv X pins σ (upd H h'.objs.size (.frz { cls := .type "tuple", data := .seq its.toArray } (.tup ys))) { s with heap := h'.push { cls := .type "tuple", data := .seq its.toArray } } :=
      I1.laid (t' := s.toks) (fun b o e => Heap.get?_push_of_some _ e) (Nat.le_refl _) new
    exact ⟨.ref h'.objs.size, _, I2, rfl, q _ _ (I1.hok.fresh (Nat.le_refl _)) rfl rfl⟩
theorem isRef_rep {K : Frag} {H : Hp} {d : D} {v : V} (r : Rep K H d v) (h : isRefD d = true) : ∃ b, v = .ref b := by
  cases r with
  | tup _ _ _ => exact ⟨_, rfl⟩
  | lst _ _ _ => exact ⟨_, rfl⟩
  | dK _ _ _ _ => exact ⟨_, rfl⟩
  | dT _ _ _ => exact ⟨_, rfl⟩
  | _ => cases h
theorem reps_refs {K : Frag} {H : Hp} : ∀ {ds : List D} {vs : List V}, Reps K H ds vs → ds.all isRefD = true → ∀ x ∈ vs, ∃ b, x = .ref b
  | [], _, r, _ => by rw [r.nil_inv]; simp
  | d :: ds, _, r, h => by
    obtain ⟨x, xs, rfl, h1, h2⟩ := r.uncons
    have h' : isRefD d = true ∧ ds.all isRefD = true := by simpa using h
    intro y hy
    rcases List.mem_cons.mp hy with rfl | hy
    · exact isRef_rep h1 h'.1
    · exact reps_refs h2 h'.2 y hy
theorem setX_reads {K : Frag} {i : Nat} {g : M} {Dn : Ends} {σ : L2.St} {H : Hp} (h : tS K (sSetX i g) Dn σ H) :
    tAsg (tCB (fun xs H Q => (∃ p ys, xs = [V.ref p] ∧ ((SqL K H p ys ∧ ∀ l, H l = none → Q (.ref l) (upd H l (.tup ys))) ∨ (SqT K H p ys ∧ Q (.ref p) H))) ∨ rTupX K xs H Q) (tMs K (msCons g msNil))) (L2.gName i) Dn σ H := by
  obtain ⟨ρ, o, E, hg, q⟩ := h
  unfold sSetX at hg
  obtain ⟨⟨r, ρ1⟩, h1, hg⟩ := Option.bind_eq_some_iff.mp hg
  unfold stxA at hg
  obtain ⟨d, h2, hg⟩ := Option.bind_eq_some_iff.mp hg
  unfold stxB at hg
  split at hg
  case h_2 => cases hg
  rename_i d ds
  obtain ⟨ρ3, h3, hg⟩ := Option.map_eq_some_iff.mp hg
  cases hg
  refine ⟨ρ, [r], ρ1, E, by unfold msCons msNil; rw [h1]; rfl, fun vs H1 E1 s1 R1 => ?_⟩
  cases R1 with
  | @cons _ v _ _ R1 Rt =>
    cases Rt
    have rd := R1.read E1 (.refl _ _ _) E1 h2
    obtain ⟨a, ys, rfl, hs, rs⟩ := rd.lst
    unfold txSlot at h3
    split at h3
    · rename_i hc
      rw [Bool.and_eq_true] at hc
      refine .inr ⟨a, ys, rfl, hs, fun l o hl hc1 hc2 => ?_⟩
      have ex := Ex.new (o := .frz o (.tup ys)) hl
      have ne : ys ≠ [] := by
        intro z; subst z
        have : ds = [] := List.eq_nil_of_length_eq_zero (by rw [rs.1]; rfl)
        subst this
        simp at hc
      have rt : Rep K (upd H1 l (.frz o (.tup ys))) (.tuple ds) (.ref l) := .tup (.inr ⟨o, upd_same, ne, reps_refs rs hc.2⟩) (rs.ev ex.ev).1 (rs.ev ex.ev).2
      obtain ⟨E2, s2⟩ := set_ok (H := H) (E1.ex ex) (s1.toStp.trans (.ex ex)) (fun _ h => h) (u := .xt (.tx .ex (.tuple ds))) (v := .ref l) ⟨rt, l, rfl, o, ys, upd_same, hc1, hc2⟩ h3
      exact q _ _ E2 s2
    · refine .inl ⟨a, ys, rfl, .inl ⟨hs, fun l hl => ?_⟩⟩
      have ex := Ex.new (o := .tup ys) hl
      have rt : Rep K (upd H1 l (.tup ys)) (.tuple ds) (.ref l) := .tup' upd_same (rs.ev ex.ev)
      obtain ⟨E2, s2⟩ := set_ok (H := H) (E1.ex ex) (s1.toStp.trans (.ex ex)) (fun _ h => h) (u := .sh (.tuple ds)) (v := .ref l) rt h3
      exact q _ _ E2 s2
theorem pu_setX {i : Nat} {x : Str} {e : Expr} {g : M} {p pos pos' pos2 : Pos} (hN : X.N.Nodup) (hi : X.N[i]? = some x) (hx : Loc X.env.scope x) (hg : Gl X "tuple") (hm : X.mg "tuple" = none) (hv : bootBuiltins "tuple" = some (.type "tuple")) (ha : PE X e (tE X.K g))
    (he : starEach [e] X.env = (false, eval e X.env) :: starEach [] X.env := by rfl) (hpl : (backTo pos2 (starEach [] X.env)).any (·.1) = false := by rfl)
    (hs : swapsWith (.Call (.Name "tuple" p) [e] [] pos2) (some (.Name x pos')) pos.line X.env = pure false := by rfl) (hf : X.fn x = true ∨ X.env.scope.names.lookup x = some .local := by first | exact .inl rfl | exact .inr rfl | assumption) :
    PS X (.Assign [.Name x pos'] (.Call (.Name "tuple" p) [e] [] pos2) pos) (tS X.K (sSetX i g)) :=
  (ps_set hN hi hx (pe_callTy (callr_or call_tuple_of call_tupX) hg hm hv (pu_msCons ha pu_msNil he) (by decide) (by decide) he hpl) hs hf).imp fun Dn σ H h => setX_reads h

def rIndexT (K : Frag) : V → List V → Hp → VK → Prop := fun x xs H Q => ∃ (a : Addr) (y : V) (d : PyData) (ds : List PyData) (ys : List V) (j : Nat) (z : PyData), x = V.ref a ∧ xs = [y] ∧ SqT K H a ys ∧ DpAll K H ys ds ∧ Dp K H y d ∧
  SeqAt.shaped (.list ds) = true ∧ SeqAt.shaped d = true ∧ ds[j]? = some z ∧ PyData.eqv z d = true ∧ (∀ (m : Nat) (z' : PyData), m < j → ds[m]? = some z' → PyData.eqv z' d = false) ∧ Q (.int (j : Nat)) H
theorem mt_indexT (hu : X.A.units + 65 < cLine) : MtR X "tuple.index" (rIndexT X.K) := by
  intro pins s σ H x xs v us Q I rx rxs h
  obtain ⟨a, y, d, ds, ys, j, z, rfl, rfl, hs, ha, hy, sl, sd, hz, hzj, hno, q⟩ := h
  cases rx
  cases rxs with
  | cons ry rt =>
    rename_i uy ut
    cases rt
    obtain ⟨bs, r1⟩ := Dp.reads I d y uy hy ry
    have hxs : PyData.canLayAll0 ds = true := SeqAt.canLay_of_shaped sl
    have hroom : X.A.units + 1 + min (PyData.depthAll ds) d.depth < cLine := room_in_shaped sd hu
    obtain ⟨its, rv, ⟨⟨cls, dd, data, sls⟩, ho, hc, n, hdt⟩, hlen⟩ := I.tuple hs
    simp only at hc hdt
    subst hc hdt
    obtain ⟨as, h4⟩ := Dp.readsAll I ds _ its ha rv
    have hn : its.length = ds.length := SeqAt.ReadsAll.length ds its as h4
    have hmap : its.map (SeqAt.readOf s.heap) = ds := SeqAt.readsAll_map ds its as hxs h4
    obtain ⟨hjd, _⟩ := List.getElem?_eq_some_iff.mp hz
    have hjl : j < its.length := by omega
    have hj : j < its.toArray.size := by simpa using hjl
    have at_ : ∀ (m : Nat) (hm : m < its.toArray.size) (z' : PyData), ds[m]? = some z' → SeqAt.readOf s.heap its.toArray[m] = z' := by
      intro m hm z' hz'
      have hml : m < its.length := by simpa using hm
      rw [← hmap, List.getElem?_map, List.getElem?_eq_getElem hml] at hz'
      have e1 : SeqAt.readOf s.heap its[m] = z' := Option.some.inj (show some (SeqAt.readOf s.heap its[m]) = some z' from hz')
      simpa using e1
    refine call_meets PySem.F.slot_tuple_index ⟨_, ho, rfl⟩ PySem.F.entry_tuple_index (PySem.F.args_tuple_index_2 _ _)
      (TI.tuple_indexAt a its.toArray n dd sls uy (fun u => PyData.eqv (SeqAt.readOf s.heap u) d) j hj ?_ ?_) ⟨ho, SeqAt.items_eqAt (vs := its.toArray) (show ReadsAll s.heap its.toArray.toList ds as from h4) r1 hxs (SeqAt.canLay_of_shaped sd) hroom, ?_⟩
    · show PyData.eqv (SeqAt.readOf s.heap its.toArray[j]) d = true
      rw [at_ j hj z hz]
      exact hzj
    · intro m hm hmj
      have hmd : m < ds.length := by omega
      have hz' : ds[m]? = some ds[m] := List.getElem?_eq_getElem hmd
      show PyData.eqv (SeqAt.readOf s.heap its.toArray[m]) d = false
      rw [at_ m hm _ hz']
      exact hno m _ hmj hz'
    · exact ⟨.int (j : Nat), H, I.tok _, ⟨_, rfl⟩, q⟩
def tBMX (r : V → List V → Hp → VK → Prop) (to : TE) (t : TA) : TE := fun σ H Q => to σ H fun x H1 => (∃ a, x = .ref a ∧ Exa H1 a) ∧ t σ H1 fun xs H2 => r x xs H2 Q
theorem pe_bmX {o e : Expr} {es : List Expr} {to : TE} {t : TA} {name : Str} {apos cpos : Pos} {id : String} {r : V → List V → Hp → VK → Prop} (pa : PlainAttrs "tuple") (slot : PySem.Slot "tuple" name id) (hty : typeOf (.builtin id) = pure (.type "method_descriptor")) (hm : MtR X id r) (ho : PE X o to) (ha : PA X (e :: es) t)
    (hbase : attributeBase o name X.env (eval o X.env) = eval o X.env := by rfl)
    (hfew : ((backTo cpos (starEach (e :: es) X.env)).all (fun x => !x.1) && (backToKw cpos (keywordEach [] X.env)).all (fun x => x.1.isSome)
      && decide ((e :: es).length + ([] : List Keyword).length + (if ([] : List Keyword).isEmpty then 0 else 1) < 30)) = true := by rfl)
    (hline : (apos.endLine == cpos.line) = true := by rfl) (hs : starEach (e :: es) X.env = (false, eval e X.env) :: starEach es X.env := by rfl) (hplain : (backTo cpos (starEach es X.env)).any (·.1) = false := by rfl) :
    PE X (.Call (.Attribute o name apos) (e :: es) [] cpos) (tBMX r to t) := by
  refine ⟨fun pins s σ H Q I h => ?_⟩
  refine wpAny_Call_method_late hbase hfew hline rfl (thn (ho.run pins s σ H _ I h) fun v s1 ⟨x, H1, I1, r1, ty, q1⟩ => ?_)
  have hh : s1.TypeIs v "tuple" ∧ ∀ a, v = .ref a → ∃ ob, s1.heap.get? a = some ob ∧ ob.dict = none := by
    obtain ⟨a, rfl, o, xs, h1, h2, h3⟩ := ty
    cases r1
    have g : s1.heap.get? a = some o := (show ObjOk X.prog X.w H1 s1.heap a (.frz o (.tup xs)) from I1.hok a _ h1).1
    refine ⟨⟨o, g, h2⟩, fun b e => ?_⟩
    cases e
    exact ⟨o, g, h3⟩
  obtain ⟨h1, h2⟩ := hh
  refine ⟨"tuple", id, pa, slot, hty, h1, h2, ?_⟩
  have hA := ha.run cpos pins s1 σ H1 _ I1 q1
  rw [hs] at hA ⊢
  refine Calls.callWith_builtin (by show (false || (backTo cpos (starEach es X.env)).any (·.1)) = false; rw [hplain] <;> rfl) (Calls.evalArgs_plain ?_)
  exact thn hA fun us s2 ⟨vs, H2, I2, r2, q2⟩ => hm pins s2 σ H2 x vs v us Q I2 r1 r2 q2
theorem txAt_some {i : Nat} {ρ : Env} {xs : List D} (h : txAt i ρ = some xs) : ρ[i]? = some (.xt (.tx .ex (.tuple xs))) := by
  unfold txAt txL at h
  split at h
  · rename_i e; cases h; exact e
  · cases h
theorem pu_indexX {e : Expr} {g : M} {i : Nat} {x : Str} {p apos cpos : Pos} (hu : X.A.units + 65 < cLine) (hv : PE X (.Name x p) (tVar i)) (he : PE X e (tE X.K g)) (hs1 : starEach [e] X.env = (false, eval e X.env) :: starEach [] X.env := by rfl)
    (hb : attributeBase (.Name x p) "index" X.env (eval (.Name x p) X.env) = eval (.Name x p) X.env := by rfl)
    (hf : ((((backTo cpos (starEach [e] X.env)).all fun x => !x.fst) && (backToKw cpos (keywordEach [] X.env)).all fun x => x.fst.isSome) && decide (([e].length + ([] : List Keyword).length + if ([] : List Keyword).isEmpty = true then 0 else 1) < 30)) = true := by rfl)
    (hl : (apos.endLine == cpos.line) = true := by rfl) (hpl : (backTo cpos (starEach [] X.env)).any (·.1) = false := by rfl) :
    PE X (.Call (.Attribute (.Name x p) "index" apos) [e] [] cpos) (tE X.K (eIndexX i g)) :=
  (pe_bmX PySem.F.plainAttrs_tuple PySem.F.slot_tuple_index PySem.F.type_tuple_index (mt_indexT hu) hv (pa_cons (pe_share he) pa_nil hs1) hb hf hl hs1 hpl).imp fun σ H Q ⟨ρ, r, ρ', E, hg, q⟩ => by
    unfold eIndexX at hg
    obtain ⟨xs0, h0, hg⟩ := Option.bind_eq_some_iff.mp hg
    obtain ⟨⟨r1, ρ1⟩, h1, hg⟩ := Option.bind_eq_some_iff.mp hg
    unfold ixxA at hg
    obtain ⟨⟨d, ρ2⟩, h2, hg⟩ := Option.bind_eq_some_iff.mp hg
    unfold ixxB at hg
    obtain ⟨xs, h3, hg⟩ := Option.bind_eq_some_iff.mp hg
    unfold idxC at hg
    split at hg
    · rename_i hz
      rw [Bool.and_eq_true] at hz
      obtain ⟨n, h4, hg⟩ := Option.map_eq_some_iff.mp hg
      cases hg
      obtain ⟨v, hv, rv, a, rfl, xa⟩ := E.xt i _ (txAt_some h0)
      refine ⟨.ref a, hv, ⟨a, rfl, xa⟩, ρ, r1, ρ1, d, _, E, h1, h2, fun w H1 E1 s1 R1 => ?_⟩
      obtain ⟨v', hv', rv', _⟩ := E1.xt i _ (txAt_some h3)
      rw [hv] at hv'; cases hv'
      have l1 : SeqAt.shaped (.list xs) = true := hz.1
      have l2 : SeqAt.shaped d = true := hz.2
      unfold findIx at h4
      rw [List.findIdx?_eq_some_iff_getElem] at h4
      obtain ⟨hn, hp, hno⟩ := h4
      have lay : (PyData.tuple xs).canLay0 = true := by
        have : PyData.canLayAll0 xs = true := SeqAt.canLay_of_shaped l1
        simpa [PyData.canLay0] using this
      cases rv'.dp lay with
      | @tup _ ys _ sq dp =>
      refine ⟨a, w, d, xs, _, n, xs[n], rfl, rfl, sq, dp, R1.dp (SeqAt.canLay_of_shaped l2), l1, l2, List.getElem?_eq_getElem hn, hp, fun m z' hm hz' => ?_, q _ H1 E1 s1 (.int _)⟩
      have := hno m hm
      obtain ⟨hml, e⟩ := List.getElem?_eq_some_iff.mp hz'
      subst e
      simpa using this
    · cases hg
end
end Pu
set_option maxRecDepth 100000
namespace Pu
open PySem PySem.Spec PyProof.Rows L2
variable [Wd]
section
variable {X : Cx} {K : Frag}
theorem shRes_rep {H0 H : Hp} {σ : L2.St} {ρ : Env} (E : ER K H σ ρ) {r : Res} {v : V} {d : D} (R : RR K H0 H σ ρ r v) (h : shRes ρ r = some d) : Rep K H d v := by
  cases r with
  | sh z => cases h; exact R
  | tx p z => cases h; exact R.1
  | ow z => cases h
  | var i =>
    have R : σ[i]? = some (some v) := R
    unfold shRes at h
    simp only at h
    cases hi : ρ[i]? with
    | none => rw [hi] at h; cases h
    | some t =>
      rw [hi] at h
      cases t with
      | sh z =>
        cases h
        obtain ⟨w, h1, h2⟩ := E.sh i _ hi
        rw [R] at h1; cases h1; exact h2
      | xt q =>
        cases q with
        | ad a => cases h
        | tx p z =>
          cases h
          obtain ⟨w, h1, h2⟩ := E.xt i _ hi
          rw [R] at h1; cases h1; exact h2.1
      | no => cases h
      | ow z => cases h
      | bo z => cases h
      | gh z => cases h
theorem shAll_reps {H0 H : Hp} {σ : L2.St} {ρ : Env} (E : ER K H σ ρ) : ∀ {rs : List Res} {vs : List V} {ds : List D}, Paired (RR K H0 H σ ρ) rs vs → shAll ρ rs = some ds → Reps K H ds vs
  | _, _, _, .nil, h => by cases h; exact .nil
  | _, _, _, .cons r t, h => by
    unfold shAll at h
    obtain ⟨d, h1, h⟩ := Option.bind_eq_some_iff.mp h
    obtain ⟨ds, h2, h⟩ := Option.bind_eq_some_iff.mp h
    cases h
    exact .cons (shRes_rep E r h1) (shAll_reps E t h2)
theorem paired_at {α β : Type} {R : α → β → Prop} : ∀ {xs : List α} {ys : List β} {j : Nat} {x : α}, Paired R xs ys → xs[j]? = some x → ∃ y, ys[j]? = some y ∧ R x y
  | _, _, _, _, .nil, h => by simp at h
  | _, _, 0, _, .cons r t, h => by simp at h; subst h; exact ⟨_, rfl, r⟩
  | _, _, j + 1, _, .cons r t, h => by
    obtain ⟨y, h1, h2⟩ := paired_at (j := j) t (by simpa using h)
    exact ⟨y, by simpa using h1, h2⟩
theorem pu_tupX {es : List Expr} {as : Ms} {j i k : Nat} {pos : Pos} (h : PA X es (tMs X.K as)) : PE X (.Tuple es k pos) (tE X.K (eTupX j i as)) :=
  (pe_tup h).imp fun σ H Q ⟨ρ, r, ρ', E, hg, q⟩ => by
    unfold eTupX at hg
    obtain ⟨⟨rs, ρ1⟩, h1, hg⟩ := Option.bind_eq_some_iff.mp hg
    unfold etxA at hg
    split at hg
    case isFalse => cases hg
    rename_i hc
    simp only [Bool.and_eq_true, decide_eq_true_eq] at hc
    obtain ⟨⟨c1, c2⟩, c3⟩ := hc
    obtain ⟨ds, h2, hg⟩ := Option.map_eq_some_iff.mp hg
    cases hg
    refine ⟨ρ, rs, ρ1, E, h1, fun vs H1 E1 s1 R1 => ⟨?_, fun p hp => ?_⟩⟩
    · rw [← Paired.length R1, sizeLine_eq]
      have : rs.length ≤ 1000 := c3
      omega
    · have ex := Ex.new (o := .tup vs) hp
      have rr := (shAll_reps E1 R1 h2).ev ex.ev
      have rj : rs[j]? = some (.var i) := by
        have c1 : isVarR i rs[j]? = true := c1
        unfold isVarR at c1
        split at c1
        · rename_i e; rw [e, of_decide_eq_true c1]
        · cases c1
      obtain ⟨xs, hx⟩ := Option.isSome_iff_exists.mp (show (txAt i ρ1).isSome = true from c2)
      obtain ⟨v, hv, rv⟩ := paired_at R1 rj
      have rv : σ[i]? = some (some v) := rv
      obtain ⟨v', hv', _, a, rfl, xa⟩ := E1.xt i _ (txAt_some hx)
      rw [rv] at hv'; cases hv'
      exact q _ _ (E1.ex ex) (s1.trans (.ex ex)) ⟨.tup' upd_same rr, p, vs, a, rfl, .inl upd_same, hv, ex.ev.exa xa⟩
theorem pu_copyX {i j : Nat} {x y : Str} {p pos pos' : Pos} (hN : X.N.Nodup) (hi : X.N[i]? = some x) (hx : Loc X.env.scope x) (hv : PE X (.Name y p) (tVar j))
    (hs : swapsWith (.Name y p) (some (.Name x pos')) pos.line X.env = pure false := by rfl) (hf : X.fn x = true ∨ X.env.scope.names.lookup x = some .local := by first | exact .inl rfl | exact .inr rfl | assumption) :
    PS X (.Assign [.Name x pos'] (.Name y p) pos) (tS X.K (sCopyX i j)) := (ps_set hN hi hx hv hs hf).imp fun Dn σ H ⟨ρ, o, E, hg, q⟩ => by
  unfold sCopyX cpXB at hg
  split at hg
  case h_2 => cases hg
  rename_i pt d e
  obtain ⟨ρ3, h3, hg⟩ := Option.map_eq_some_iff.mp hg
  cases hg
  obtain ⟨v, h1, h2⟩ := E.xt j _ e
  obtain ⟨E2, s2⟩ := set_ok (H := H) (H0 := H) E (.refl σ ρ H) (fun _ h => h) (u := .xt (.tx pt d)) (v := v) h2 h3
  exact ⟨v, h1, q _ H E2 s2⟩
theorem sh_hrs {H H1 : Hp} {σ : L2.St} {ρ : Env} : ∀ {ds : List D} {vs : List V}, Reps K H1 ds vs → HRs K H H1 σ ρ (ds.map Slot.sh) vs
  | [], _, r => r.nil_inv
  | d :: ds, _, r => by
    obtain ⟨x, xs, rfl, h1, h2⟩ := r.uncons
    exact ⟨x, xs, rfl, h1, fun ⟨z, e⟩ => (by cases e), sh_hrs h2⟩
theorem unp_hrs {H H1 : Hp} {σ : L2.St} {ρ : Env} : ∀ {j : Nat} {ds : List D} {vs : List V} {b : Addr}, Reps K H1 ds vs → vs[j]? = some (.ref b) → Exa H1 b → HRs K H H1 σ ρ (unpXS j ds) vs
  | _, [], _, _, r, _, _ => by unfold unpXS; exact r.nil_inv
  | 0, d :: ds, _, b, r, hb, xa => by
    obtain ⟨x, xs, rfl, h1, h2⟩ := r.uncons
    simp at hb
    subst hb
    exact ⟨_, xs, rfl, ⟨h1, b, rfl, xa⟩, fun ⟨z, e⟩ => (by cases e), sh_hrs h2⟩
  | j + 1, d :: ds, _, b, r, hb, xa => by
    obtain ⟨x, xs, rfl, h1, h2⟩ := r.uncons
    exact ⟨x, xs, rfl, h1, fun ⟨z, e⟩ => (by cases e), unp_hrs (j := j) h2 (by simpa using hb) xa⟩
theorem TpH.fn {H : Hp} {a : Addr} {xs ys : List V} (h : TpH H a xs) (k : TpH H a ys) : xs = ys := by
  rcases h with h | ⟨o, h, _⟩ <;> rcases k with k | ⟨o', k, _⟩ <;> (rw [h] at k; cases k) <;> rfl
theorem pu_unpX {is : List Nat} {j i : Nat} {x : Str} {ts : List Expr} {kt : Nat} {pt p pos : Pos} (hv : PE X (.Name x p) (tVar i)) (hg : PG X (.Tuple ts kt pt) (L2.gTup X.K is.length (gsNames is)))
    (hs : swapsWithSole [.Tuple ts kt pt] (.Name x p) pos.line X.env = pure false := by rfl) (hw : swappedStores [.Tuple ts kt pt] (.Name x p) X.env = pure none := by rfl)
    (h1 : (assignEach [.Tuple ts kt pt] X.env).map (·.2) = [assign (.Tuple ts kt pt) X.env] := by rfl) : PS X (.Assign [.Tuple ts kt pt] (.Name x p) pos) (tS X.K (sUnpX is j i)) :=
  (ps_asg hv hg hs hw h1).imp fun Dn σ H ⟨ρ, o, E, hgo, q⟩ => by
    unfold sUnpX unpXB at hgo
    split at hgo
    case h_2 => cases hgo
    rename_i k ds e
    split at hgo
    case isFalse => cases hgo
    rename_i hc
    simp only [Bool.and_eq_true, decide_eq_true_eq] at hc
    obtain ⟨rfl, hl⟩ := hc
    obtain ⟨ρ3, h3, hgo⟩ := Option.map_eq_some_iff.mp hgo
    cases hgo
    obtain ⟨v, hv1, rv, a, xs, b, rfl, ta, hb, xa⟩ := E.xt i _ e
    cases rv with
    | @tup _ ys _ ta' l r =>
      obtain rfl := ta.fn ta'
      have rs : Reps X.K H ds xs := ⟨l, r⟩
      obtain ⟨E2, s2⟩ := setAll_ok (H := H) (fun _ h => h) E (.refl σ ρ H) (unp_hrs (σ := σ) (ρ := ρ) rs hb xa) h3
      exact ⟨.ref a, hv1, a, xs, rfl, ta.sq, by rw [← l]; exact hl, gsNames_of (by rw [← l]; exact hl) (q _ H E2 s2)⟩
end
end Pu
set_option maxRecDepth 100000
set_option maxHeartbeats 0
namespace Q
open PySem PySem.Spec PyProof.Rows L2 Pu
abbrev FnP (K : PySem.W.Frag) (x : Str) (st : Stmt) (f : Addr) (fd : FuncData) : Prop := FunD K x x (defArgs st) (defBody st) (defScope st) [] [] f fd
theorem bt_all : bootBuiltins "all" = some (.builtin "all") := by decide +kernel
theorem bt_any : bootBuiltins "any" = some (.builtin "any") := by decide +kernel
theorem bt_bool : bootBuiltins "bool" = some (.type "bool") := by decide +kernel
theorem bt_int : bootBuiltins "int" = some (.type "int") := by decide +kernel
theorem bt_len : bootBuiltins "len" = some (.builtin "len") := by decide +kernel
theorem bt_list : bootBuiltins "list" = some (.type "list") := by decide +kernel
theorem bt_max : bootBuiltins "max" = some (.builtin "max") := by decide +kernel
theorem bt_min : bootBuiltins "min" = some (.builtin "min") := by decide +kernel
theorem bt_sorted : bootBuiltins "sorted" = some (.builtin "sorted") := by decide +kernel
theorem bt_str : bootBuiltins "str" = some (.type "str") := by decide +kernel
theorem bt_tuple : bootBuiltins "tuple" = some (.type "tuple") := by decide +kernel
theorem room65 {k : Nat} {A : Around} (r : Room k A) : A.units + 65 < cLine := by have := r.un; omega
theorem room1 {k : Nat} {A : Around} (r : Room k A) : A.units + 1 < cLine := by have := r.un; omega
structure Gs (K : PySem.W.Frag) (mg : Str → Option Value) where
  m_all : mg "all" = none
  m_any : mg "any" = none
  m_bool : mg "bool" = none
  m_enumerate : mg "enumerate" = none
  m_int : mg "int" = none
  m_isinstance : mg "isinstance" = none
  m_len : mg "len" = none
  m_list : mg "list" = none
  m_max : mg "max" = none
  m_min : mg "min" = none
  m_range : mg "range" = none
  m_sorted : mg "sorted" = none
  m_str : mg "str" = none
  m_tuple : mg "tuple" = none
  m_zip : mg "zip" = none
  f__law_cell_at : Addr
  d__law_cell_at : FuncData
  F__law_cell_at : FnP K "_law_cell_at" s__law_cell_at f__law_cell_at d__law_cell_at
  g__law_cell_at : mg "_law_cell_at" = some (.ref f__law_cell_at)
  b__law_cell_at : Binds K d__law_cell_at ["script", "k"] []
  f__law_mixed : Addr
  d__law_mixed : FuncData
  F__law_mixed : FnP K "_law_mixed" s__law_mixed f__law_mixed d__law_mixed
  g__law_mixed : mg "_law_mixed" = some (.ref f__law_mixed)
  b__law_mixed : Binds K d__law_mixed ["script", "k", "many"] []
  f__law_draw : Addr
  d__law_draw : FuncData
  F__law_draw : FnP K "_law_draw" s__law_draw f__law_draw d__law_draw
  g__law_draw : mg "_law_draw" = some (.ref f__law_draw)
  b__law_draw : Binds K d__law_draw ["script", "state", "many"] []
  f__law_some_of : Addr
  d__law_some_of : FuncData
  F__law_some_of : FnP K "_law_some_of" s__law_some_of f__law_some_of d__law_some_of
  g__law_some_of : mg "_law_some_of" = some (.ref f__law_some_of)
  b__law_some_of : Binds K d__law_some_of ["script", "state", "some", "count"] []
  f_rises : Addr
  d_rises : FuncData
  F_rises : FnP K "rises" s_rises f_rises d_rises
  g_rises : mg "rises" = some (.ref f_rises)
  b_rises : Binds K d_rises ["some"] []
  f_is_integer : Addr
  d_is_integer : FuncData
  F_is_integer : FnP K "is_integer" s_is_integer f_is_integer d_is_integer
  g_is_integer : mg "is_integer" = some (.ref f_is_integer)
  b_is_integer : Binds K d_is_integer ["value", "low", "high"] []
  f_are_numbers : Addr
  d_are_numbers : FuncData
  F_are_numbers : FnP K "are_numbers" s_are_numbers f_are_numbers d_are_numbers
  g_are_numbers : mg "are_numbers" = some (.ref f_are_numbers)
  b_are_numbers : Binds K d_are_numbers ["value", "low", "high"] []
  f_lengths_of : Addr
  d_lengths_of : FuncData
  F_lengths_of : FnP K "lengths_of" s_lengths_of f_lengths_of d_lengths_of
  g_lengths_of : mg "lengths_of" = some (.ref f_lengths_of)
  b_lengths_of : Binds K d_lengths_of ["streets"] []
  f_bars_direction : Addr
  d_bars_direction : FuncData
  F_bars_direction : FnP K "bars_direction" s_bars_direction f_bars_direction d_bars_direction
  g_bars_direction : mg "bars_direction" = some (.ref f_bars_direction)
  b_bars_direction : Binds K d_bars_direction ["signs", "a", "b"] []
  f_firsts : Addr
  d_firsts : FuncData
  F_firsts : FnP K "firsts" s_firsts f_firsts d_firsts
  g_firsts : mg "firsts" = some (.ref f_firsts)
  b_firsts : Binds K d_firsts ["lengths", "signs", "start"] []
  f_nexts : Addr
  d_nexts : FuncData
  F_nexts : FnP K "nexts" s_nexts f_nexts d_nexts
  g_nexts : mg "nexts" = some (.ref f_nexts)
  b_nexts : Binds K d_nexts ["lengths", "signs", "direction"] []
  f_least_table : Addr
  d_least_table : FuncData
  F_least_table : FnP K "least_table" s_least_table f_least_table d_least_table
  g_least_table : mg "least_table" = some (.ref f_least_table)
  b_least_table : Binds K d_least_table ["lengths", "signs", "start"] []
  f_least_to : Addr
  d_least_to : FuncData
  F_least_to : FnP K "least_to" s_least_to f_least_to d_least_to
  g_least_to : mg "least_to" = some (.ref f_least_to)
  b_least_to : Binds K d_least_to ["table", "goal"] []
  f_joins_all : Addr
  d_joins_all : FuncData
  F_joins_all : FnP K "joins_all" s_joins_all f_joins_all d_joins_all
  g_joins_all : mg "joins_all" = some (.ref f_joins_all)
  b_joins_all : Binds K d_joins_all ["streets", "signs", "gates", "houses"] []
  f_is_street : Addr
  d_is_street : FuncData
  F_is_street : FnP K "is_street" s_is_street f_is_street d_is_street
  g_is_street : mg "is_street" = some (.ref f_is_street)
  b_is_street : Binds K d_is_street ["places", "value"] []
  f_are_streets : Addr
  d_are_streets : FuncData
  F_are_streets : FnP K "are_streets" s_are_streets f_are_streets d_are_streets
  g_are_streets : mg "are_streets" = some (.ref f_are_streets)
  b_are_streets : Binds K d_are_streets ["places", "value"] []
  f_street_between : Addr
  d_street_between : FuncData
  F_street_between : FnP K "street_between" s_street_between f_street_between d_street_between
  g_street_between : mg "street_between" = some (.ref f_street_between)
  b_street_between : Binds K d_street_between ["streets", "a", "b"] []
  f_sign_stands : Addr
  d_sign_stands : FuncData
  F_sign_stands : FnP K "sign_stands" s_sign_stands f_sign_stands d_sign_stands
  g_sign_stands : mg "sign_stands" = some (.ref f_sign_stands)
  b_sign_stands : Binds K d_sign_stands ["places", "streets", "value"] []
  f_signs_stand : Addr
  d_signs_stand : FuncData
  F_signs_stand : FnP K "signs_stand" s_signs_stand f_signs_stand d_signs_stand
  g_signs_stand : mg "signs_stand" = some (.ref f_signs_stand)
  b_signs_stand : Binds K d_signs_stand ["places", "streets", "value", "most"] []
  f_stands : Addr
  d_stands : FuncData
  F_stands : FnP K "stands" s_stands f_stands d_stands
  g_stands : mg "stands" = some (.ref f_stands)
  b_stands : Binds K d_stands ["value"] []
  f_is_town : Addr
  d_is_town : FuncData
  F_is_town : FnP K "is_town" s_is_town f_is_town d_is_town
  g_is_town : mg "is_town" = some (.ref f_is_town)
  b_is_town : Binds K d_is_town ["value"] []
  f__law_all_signs : Addr
  d__law_all_signs : FuncData
  F__law_all_signs : FnP K "_law_all_signs" s__law_all_signs f__law_all_signs d__law_all_signs
  g__law_all_signs : mg "_law_all_signs" = some (.ref f__law_all_signs)
  b__law_all_signs : Binds K d__law_all_signs ["town"] []
  f__law_some_town : Addr
  d__law_some_town : FuncData
  F__law_some_townX : FnP K "_law_some_town" s__law_some_town f__law_some_town d__law_some_town
  g__law_some_town : mg "_law_some_town" = some (.ref f__law_some_town)
  b__law_some_townX : Binds K d__law_some_town ["script", "state"] []
  f__law_pick : Addr
  d__law_pick : FuncData
  F__law_pick : FnP K "_law_pick" s__law_pick f__law_pick d__law_pick
  g__law_pick : mg "_law_pick" = some (.ref f__law_pick)
  b__law_pick : Binds K d__law_pick ["script", "state", "some"] []
  f__law_bad_streets : Addr
  d__law_bad_streets : FuncData
  F__law_bad_streets : FnP K "_law_bad_streets" s__law_bad_streets f__law_bad_streets d__law_bad_streets
  g__law_bad_streets : mg "_law_bad_streets" = some (.ref f__law_bad_streets)
  b__law_bad_streets : Binds K d__law_bad_streets ["n", "a", "b"] []
  f__law_bad_signs : Addr
  d__law_bad_signs : FuncData
  F__law_bad_signs : FnP K "_law_bad_signs" s__law_bad_signs f__law_bad_signs d__law_bad_signs
  g__law_bad_signs : mg "_law_bad_signs" = some (.ref f__law_bad_signs)
  b__law_bad_signs : Binds K d__law_bad_signs ["n", "a", "b"] []
section
variable [Wd] {P : Program} {K : PySem.W.Frag} {mg : Str → Option Value} {base : Heap}
theorem sc__law_cell_at : FnScope ["script", "k", "spare", "again"] ["script", "k"] (defScope s__law_cell_at) := ⟨rfl, rfl, rfl, by decide +kernel, rfl, by decide +kernel, by decide +kernel⟩
theorem ok__law_cell_at (G : Gs K mg) : FnOk P Wd.w K mg base CX0 1 G.f__law_cell_at G.d__law_cell_at ["script", "k"] (spFn K F__law_cell_at 2) := by
  have S := sc__law_cell_at
  refine def_ok (N := ["script", "k", "spare", "again"]) (ps := ["script", "k"]) G.F__law_cell_at S (by decide) fun cdv A outer s H E hr => ?_
  have hu1 := room1 hr
  have hu64 := hr.units
  have hu65 := room65 hr
  exact pu_cons (pu_if (pu_tcmp (op_ltM hu64) prim_lt (pu_var (i := 1)) (pu_callB call_lenA prim_len rfl G.m_len bt_len (pu_msCons (pu_var (i := 0)) (pu_msNil)))) (pu_one (pu_ret (pu_sub hu1 (pu_var (i := 0)) (pu_var (i := 1))))) (pu_nil))
      (pu_cons (pu_if (pu_tcmp (op_eqM hu64) prim_eq (pu_var (i := 0)) (pu_lst (pu_dsNil) (by decide) (dsNil_len))) (pu_one (pu_ret (pu_int))) (pu_nil))
      (pu_cons (pu_set (i := 2) S.nd rfl (Or.inl rfl) (pu_sub hu1 (pu_var (i := 0)) (pu_op2 op_mod prim_mod (pu_var (i := 1)) (pu_callB call_lenA prim_len rfl G.m_len bt_len (pu_msCons (pu_var (i := 0)) (pu_msNil))))))
      (pu_cons (pu_for PassesOwn.never rfl (pu_range1 rfl G.m_range (pu_msCons (pu_callB (call_min2 rfl) prim_min2 rfl G.m_min bt_min (pu_msCons (pu_op2 op_fdiv prim_div (pu_var (i := 1)) (pu_callB call_lenA prim_len rfl G.m_len bt_len (pu_msCons (pu_var (i := 0)) (pu_msNil)))) (pu_msCons (pu_int) (pu_msNil)))) (pu_msNil))) (pu_gName (i := 3) S.nd rfl (by first | exact Or.inl rfl | exact Or.inr rfl)) (pu_one (pu_set (i := 2) S.nd rfl (Or.inl rfl) (pu_op2 op_fdiv prim_div (pu_var (i := 2)) (pu_int)))))
      (pu_one (pu_ret (pu_op2 op_addA prim_add (pu_op2 op_addA prim_add (pu_op2 op_mulA prim_mul (pu_sub hu1 (pu_var (i := 0)) (pu_op2 op_mod prim_mod (pu_var (i := 1)) (pu_callB call_lenA prim_len rfl G.m_len bt_len (pu_msCons (pu_var (i := 0)) (pu_msNil))))) (pu_int)) (pu_var (i := 1))) (pu_op2 op_mulA prim_mul (pu_var (i := 2)) (pu_int))))))))
theorem sc__law_mixed : FnScope ["script", "k", "many", "spun"] ["script", "k", "many"] (defScope s__law_mixed) := ⟨rfl, rfl, rfl, by decide +kernel, rfl, by decide +kernel, by decide +kernel⟩
theorem ok__law_mixed (G : Gs K mg) : FnOk P Wd.w K mg base CX0 2 G.f__law_mixed G.d__law_mixed ["script", "k", "many"] (spFn K F__law_mixed 3) := by
  have S := sc__law_mixed
  refine def_ok (N := ["script", "k", "many", "spun"]) (ps := ["script", "k", "many"]) G.F__law_mixed S (by decide) fun cdv A outer s H E hr => ?_
  have hu1 := room1 hr
  have hu64 := hr.units
  have hu65 := room65 hr
  exact pu_cons (pu_set (i := 3) S.nd rfl (Or.inl rfl) (pu_op2 op_mod prim_mod (pu_op2 op_addA prim_add (pu_op2 op_addA prim_add (pu_op2 op_mulA prim_mul (pu_call (ok__law_cell_at G) (hr.mono (by first | decide | omega)) rfl G.g__law_cell_at G.F__law_cell_at.kp G.b__law_cell_at (pu_asSh (pu_var (i := 0)) (pu_asSh (pu_var (i := 1)) (pu_asNil))) (asSh_len (asSh_len (asNil_len)))) (pu_int)) (pu_op2 op_mulA prim_mul (pu_int) (pu_var (i := 1)))) (pu_int)) (pu_int)))
      (pu_one (pu_ret (pu_op2 op_mod prim_mod (pu_op2 op_mod prim_mod (pu_op2 op_mod prim_mod (pu_op2 op_pow prim_pow (pu_var (i := 3)) (pu_int)) (pu_int)) (pu_int)) (pu_var (i := 2)))))
theorem sc__law_draw : FnScope ["script", "state", "many"] ["script", "state", "many"] (defScope s__law_draw) := ⟨rfl, rfl, rfl, by decide +kernel, rfl, by decide +kernel, by decide +kernel⟩
theorem ok__law_draw (G : Gs K mg) : FnOk P Wd.w K mg base CX0 3 G.f__law_draw G.d__law_draw ["script", "state", "many"] (spFn K F__law_draw 3) := by
  have S := sc__law_draw
  refine def_ok (N := ["script", "state", "many"]) (ps := ["script", "state", "many"]) G.F__law_draw S (by decide) fun cdv A outer s H E hr => ?_
  have hu1 := room1 hr
  have hu64 := hr.units
  have hu65 := room65 hr
  exact pu_cons (pu_expr (pu_append (pv 1) (pu_int)))
      (pu_one (pu_ret (pu_call (ok__law_mixed G) (hr.mono (by first | decide | omega)) rfl G.g__law_mixed G.F__law_mixed.kp G.b__law_mixed (pu_asSh (pu_var (i := 0)) (pu_asSh (pu_callB call_lenA prim_len rfl G.m_len bt_len (pu_msCons (pu_var (i := 1)) (pu_msNil))) (pu_asSh (pu_var (i := 2)) (pu_asNil)))) (asSh_len (asSh_len (asSh_len (asNil_len)))))))
theorem sc__law_some_of : FnScope ["script", "state", "some", "count", "left", "found"] ["script", "state", "some", "count"] (defScope s__law_some_of) := ⟨rfl, rfl, rfl, by decide +kernel, rfl, by decide +kernel, by decide +kernel⟩
theorem ok__law_some_of (G : Gs K mg) : FnOk P Wd.w K mg base CX0 4 G.f__law_some_of G.d__law_some_of ["script", "state", "some", "count"] (spFn K F__law_some_of 4) := by
  have S := sc__law_some_of
  refine def_ok (N := ["script", "state", "some", "count", "left", "found"]) (ps := ["script", "state", "some", "count"]) G.F__law_some_of S (by decide) fun cdv A outer s H E hr => ?_
  have hu1 := room1 hr
  have hu64 := hr.units
  have hu65 := room65 hr
  exact pu_cons (pu_par2 (i := 4) (j := 5) rfl S.nd rfl rfl (by decide) rfl rfl (pu_hsCons (pu_callTy (call_listA rfl) prim_list rfl G.m_list bt_list (pu_msCons (pu_var (i := 2)) (pu_msNil))) (pu_hsCons (pu_lst (pu_dsNil) (by decide) (dsNil_len)) (pu_hsNil))) rfl)
      (pu_cons (pu_whileN 1000 PassesOwn.never (PW.pt (pu_wand (pu_tcmp (op_neM hu64) prim_ne (pu_var (i := 4)) (pu_lst (pu_dsNil) (by decide) (dsNil_len))) (pu_wand1 (pu_tcmp (op_ltM hu64) prim_lt (pu_callB call_lenA prim_len rfl G.m_len bt_len (pu_msCons (pu_var (i := 5)) (pu_msNil))) (pu_var (i := 3)))))) (pu_one (pu_expr (pu_append (pv 5) (pu_popAt (pv 4) (pu_call (ok__law_draw G) (hr.mono (by first | decide | omega)) rfl G.g__law_draw G.F__law_draw.kp G.b__law_draw (pu_asSh (pu_var (i := 0)) (pu_asBo (pv 1) (pu_asSh (pu_callB call_lenA prim_len rfl G.m_len bt_len (pu_msCons (pu_var (i := 4)) (pu_msNil))) (pu_asNil)))) (asSh_len (asBo_len (asSh_len (asNil_len))))))))))
      (pu_one (pu_ret (pu_callTy call_tuple_of prim_tuple rfl G.m_tuple bt_tuple (pu_msCons (pu_callB (call_sortM rfl hu64) prim_sorted rfl G.m_sorted bt_sorted (pu_msCons (pu_var (i := 5)) (pu_msNil))) (pu_msNil))))))
theorem sc_rises : FnScope ["some", "one", "other"] ["some"] (defScope s_rises) := ⟨rfl, rfl, rfl, by decide +kernel, rfl, by decide +kernel, by decide +kernel⟩
theorem ok_rises (G : Gs K mg) : FnOk P Wd.w K mg base CX0 1 G.f_rises G.d_rises ["some"] (spFn K F_rises 1) := by
  have S := sc_rises
  refine def_ok (N := ["some", "one", "other"]) (ps := ["some"]) G.F_rises S (by decide) fun cdv A outer s H E hr => ?_
  have hu1 := room1 hr
  have hu64 := hr.units
  have hu65 := room65 hr
  exact pu_one (pu_ret (pu_callB (cr_all rfl) prim_all rfl G.m_all bt_all (pu_msCons (pu_lc rfl S.nd (pu_zip rfl G.m_zip (pu_dsCons (pu_var (i := 0)) (pu_dsCons (pu_slice (pu_var (i := 0)) (pu_oSome (pu_int)) (pu_oNone)) (pu_dsNil)))) (own := [((Str.ofString "one"), 1), ((Str.ofString "other"), 2)]) (blk_of (by rfl)) (fun _ _ _ _ _ => pu_gTup rfl (pu_gsCons (pu_gName (i := 1) S.nd rfl (by first | exact Or.inl rfl | exact Or.inr rfl)) (pu_gsCons (pu_gName (i := 2) S.nd rfl (by first | exact Or.inl rfl | exact Or.inr rfl)) (pu_gsNil))) (gsCons_len (gsCons_len (gsNil_len)))) (fun _ _ _ _ _ => pu_tsNil) (fun _ _ _ _ _ => pu_cmp (op_ltM hu64) prim_lt (pu_var (i := 1)) (pu_var (i := 2)))) (pu_msNil))))
theorem sc_is_integer : FnScope ["value", "low", "high"] ["value", "low", "high"] (defScope s_is_integer) := ⟨rfl, rfl, rfl, by decide +kernel, rfl, by decide +kernel, by decide +kernel⟩
theorem ok_is_integer (G : Gs K mg) : FnOk P Wd.w K mg base CX0 1 G.f_is_integer G.d_is_integer ["value", "low", "high"] (spFn K F_is_integer 3) := by
  have S := sc_is_integer
  refine def_ok (N := ["value", "low", "high"]) (ps := ["value", "low", "high"]) G.F_is_integer S (by decide) fun cdv A outer s H E hr => ?_
  have hu1 := room1 hr
  have hu64 := hr.units
  have hu65 := room65 hr
  exact pu_one (pu_ret (pu_and (pu_isi (.inl rfl) rfl G.m_isinstance (pu_var (i := 0)) (pe_bltn rfl G.m_int bt_int rfl)) (pu_and (pu_not (pu_isi (.inr (.inl rfl)) rfl G.m_isinstance (pu_var (i := 0)) (pe_bltn rfl G.m_bool bt_bool rfl))) (pu_and1 (pu_chain op_le prim_le op_le prim_le (pu_var (i := 1)) (pu_var (i := 0)) (pu_var (i := 2)))))))
theorem sc_are_numbers : FnScope ["value", "low", "high", "one"] ["value", "low", "high"] (defScope s_are_numbers) := ⟨rfl, rfl, rfl, by decide +kernel, rfl, by decide +kernel, by decide +kernel⟩
theorem ok_are_numbers (G : Gs K mg) : FnOk P Wd.w K mg base CX0 2 G.f_are_numbers G.d_are_numbers ["value", "low", "high"] (spFn K F_are_numbers 3) := by
  have S := sc_are_numbers
  refine def_ok (N := ["value", "low", "high", "one"]) (ps := ["value", "low", "high"]) G.F_are_numbers S (by decide) fun cdv A outer s H E hr => ?_
  have hu1 := room1 hr
  have hu64 := hr.units
  have hu65 := room65 hr
  exact pu_cons (pu_if (PW.pt (pu_wor (pu_tnot (pu_tv (pu_isi (.inr (.inr (.inl rfl))) rfl G.m_isinstance (pu_var (i := 0)) (pe_bltn rfl G.m_tuple bt_tuple rfl)))) (pu_wor1 (pu_tnot (pu_tv (pu_callB (cr_all rfl) prim_all rfl G.m_all bt_all (pu_msCons (pu_lc rfl S.nd (pu_iOf (pu_var (i := 0))) (own := [((Str.ofString "one"), 3)]) (blk_of (by rfl)) (fun _ _ _ _ _ => pu_gName (i := 3) S.nd rfl (by first | exact Or.inl rfl | exact Or.inr rfl)) (fun _ _ _ _ _ => pu_tsNil) (fun _ _ _ _ _ => pu_call (ok_is_integer G) (hr.mono (by first | decide | omega)) rfl G.g_is_integer G.F_is_integer.kp G.b_is_integer (pu_asSh (pu_var (i := 3)) (pu_asSh (pu_var (i := 1)) (pu_asSh (pu_var (i := 2)) (pu_asNil)))) (asSh_len (asSh_len (asSh_len (asNil_len)))))) (pu_msNil)))))))) (pu_one (pu_ret (pu_bl))) (pu_nil))
      (pu_one (pu_ret (pu_call (ok_rises G) (hr.mono (by first | decide | omega)) rfl G.g_rises G.F_rises.kp G.b_rises (pu_asSh (pu_var (i := 0)) (pu_asNil)) (asSh_len (asNil_len)))))
theorem sc_lengths_of : FnScope ["streets", "found", "a", "b", "length"] ["streets"] (defScope s_lengths_of) := ⟨rfl, rfl, rfl, by decide +kernel, rfl, by decide +kernel, by decide +kernel⟩
theorem ok_lengths_of (G : Gs K mg) : FnOk P Wd.w K mg base CX0 1 G.f_lengths_of G.d_lengths_of ["streets"] (spFn K F_lengths_of 1) := by
  have S := sc_lengths_of
  refine def_ok (N := ["streets", "found", "a", "b", "length"]) (ps := ["streets"]) G.F_lengths_of S (by decide) fun cdv A outer s H E hr => ?_
  have hu1 := room1 hr
  have hu64 := hr.units
  have hu65 := room65 hr
  exact pu_cons (pu_set (i := 1) S.nd rfl (Or.inl rfl) (pu_dict))
      (pu_cons (pu_for PassesOwn.never rfl (pu_iOf (pu_var (i := 0))) (pu_gTup rfl (pu_gsCons (pu_gName (i := 2) S.nd rfl (by first | exact Or.inl rfl | exact Or.inr rfl)) (pu_gsCons (pu_gName (i := 3) S.nd rfl (by first | exact Or.inl rfl | exact Or.inr rfl)) (pu_gsCons (pu_gName (i := 4) S.nd rfl (by first | exact Or.inl rfl | exact Or.inr rfl)) (pu_gsNil)))) (gsCons_len (gsCons_len (gsCons_len (gsNil_len))))) (pu_cons (pu_put hu1 (pv 1) (pu_var (i := 4)) (pu_tup (pu_dsCons (pu_var (i := 2)) (pu_dsCons (pu_var (i := 3)) (pu_dsNil))) (by decide) (dsCons_len (dsCons_len (dsNil_len)))))
      (pu_one (pu_put hu1 (pv 1) (pu_var (i := 4)) (pu_tup (pu_dsCons (pu_var (i := 3)) (pu_dsCons (pu_var (i := 2)) (pu_dsNil))) (by decide) (dsCons_len (dsCons_len (dsNil_len))))))))
      (pu_one (pu_ret (pu_var (i := 1)))))
theorem sc_bars_direction : FnScope ["signs", "a", "b"] ["signs", "a", "b"] (defScope s_bars_direction) := ⟨rfl, rfl, rfl, by decide +kernel, rfl, by decide +kernel, by decide +kernel⟩
theorem ok_bars_direction (G : Gs K mg) : FnOk P Wd.w K mg base CX0 1 G.f_bars_direction G.d_bars_direction ["signs", "a", "b"] (spFn K F_bars_direction 3) := by
  have S := sc_bars_direction
  refine def_ok (N := ["signs", "a", "b"]) (ps := ["signs", "a", "b"]) G.F_bars_direction S (by decide) fun cdv A outer s H E hr => ?_
  have hu1 := room1 hr
  have hu64 := hr.units
  have hu65 := room65 hr
  exact pu_one (pu_ret (pu_or (pu_cmp (op_inM hu65) prim_in (pu_tup (pu_dsCons (pu_str) (pu_dsCons (pu_var (i := 1)) (pu_dsCons (pu_var (i := 2)) (pu_dsNil)))) (by decide) (dsCons_len (dsCons_len (dsCons_len (dsNil_len))))) (pu_var (i := 0))) (pu_and1 (pu_cmp (op_inM hu65) prim_in (pu_tup (pu_dsCons (pu_str) (pu_dsCons (pu_callB (call_min2 rfl) prim_min2 rfl G.m_min bt_min (pu_msCons (pu_var (i := 1)) (pu_msCons (pu_var (i := 2)) (pu_msNil)))) (pu_dsCons (pu_callB (call_max2 rfl) prim_max2 rfl G.m_max bt_max (pu_msCons (pu_var (i := 1)) (pu_msCons (pu_var (i := 2)) (pu_msNil)))) (pu_dsNil)))) (by decide) (dsCons_len (dsCons_len (dsCons_len (dsNil_len))))) (pu_var (i := 0))))))
theorem sc_firsts : FnScope ["lengths", "signs", "start", "one"] ["lengths", "signs", "start"] (defScope s_firsts) := ⟨rfl, rfl, rfl, by decide +kernel, rfl, by decide +kernel, by decide +kernel⟩
theorem ok_firsts (G : Gs K mg) : FnOk P Wd.w K mg base CX0 2 G.f_firsts G.d_firsts ["lengths", "signs", "start"] (spFn K F_firsts 3) := by
  have S := sc_firsts
  refine def_ok (N := ["lengths", "signs", "start", "one"]) (ps := ["lengths", "signs", "start"]) G.F_firsts S (by decide) fun cdv A outer s H E hr => ?_
  have hu1 := room1 hr
  have hu64 := hr.units
  have hu65 := room65 hr
  exact pu_one (pu_ret (pu_lc rfl S.nd (pu_iOf (pu_var (i := 0))) (own := [((Str.ofString "one"), 3)]) (blk_of (by rfl)) (fun _ _ _ _ _ => pu_gName (i := 3) S.nd rfl (by first | exact Or.inl rfl | exact Or.inr rfl)) (fun _ _ _ _ _ => pu_tsOne (PW.pt (pu_wand (pu_tcmp (op_eqM hu64) prim_eq (pu_sub hu1 (pu_var (i := 3)) (pu_int)) (pu_var (i := 2))) (pu_wand1 (pu_tnot (pu_tv (pu_call (ok_bars_direction G) (hr.mono (by first | decide | omega)) rfl G.g_bars_direction G.F_bars_direction.kp G.b_bars_direction (pu_asSh (pu_var (i := 1)) (pu_asSh (pu_sub hu1 (pu_var (i := 3)) (pu_int)) (pu_asSh (pu_sub hu1 (pu_var (i := 3)) (pu_int)) (pu_asNil)))) (asSh_len (asSh_len (asSh_len (asNil_len))))))))))) (fun _ _ _ _ _ => pu_var (i := 3))))
theorem sc_nexts : FnScope ["lengths", "signs", "direction", "found", "one", "a", "b"] ["lengths", "signs", "direction"] (defScope s_nexts) := ⟨rfl, rfl, rfl, by decide +kernel, rfl, by decide +kernel, by decide +kernel⟩
theorem ok_nexts (G : Gs K mg) : FnOk P Wd.w K mg base CX0 2 G.f_nexts G.d_nexts ["lengths", "signs", "direction"] (spFn K F_nexts 3) := by
  have S := sc_nexts
  refine def_ok (N := ["lengths", "signs", "direction", "found", "one", "a", "b"]) (ps := ["lengths", "signs", "direction"]) G.F_nexts S (by decide) fun cdv A outer s H E hr => ?_
  have hu1 := room1 hr
  have hu64 := hr.units
  have hu65 := room65 hr
  exact pu_cons (pu_unp (pu_var (i := 2)) (pu_gTup rfl (pu_gsCons (pu_gName (i := 5) S.nd rfl (by first | exact Or.inl rfl | exact Or.inr rfl)) (pu_gsCons (pu_gName (i := 6) S.nd rfl (by first | exact Or.inl rfl | exact Or.inr rfl)) (pu_gsNil))) (gsCons_len (gsCons_len (gsNil_len)))))
      (pu_cons (pu_set (i := 3) S.nd rfl (Or.inl rfl) (pu_lst (pu_dsNil) (by decide) (dsNil_len)))
      (pu_cons (pu_for PassesOwn.never rfl (pu_iOf (pu_var (i := 0))) (pu_gName (i := 4) S.nd rfl (by first | exact Or.inl rfl | exact Or.inr rfl)) (pu_one (pu_if (PW.pt (pu_wand (pu_tcmp (op_eqM hu64) prim_eq (pu_sub hu1 (pu_var (i := 4)) (pu_int)) (pu_var (i := 6))) (pu_wand (pu_tcmp (op_neM hu64) prim_ne (pu_sub hu1 (pu_var (i := 4)) (pu_int)) (pu_var (i := 5))) (pu_wand (pu_tcmp (op_notInM hu65) prim_notIn (pu_tup (pu_dsCons (pu_str) (pu_dsCons (pu_var (i := 5)) (pu_dsCons (pu_var (i := 6)) (pu_dsCons (pu_sub hu1 (pu_var (i := 4)) (pu_int)) (pu_dsNil))))) (by decide) (dsCons_len (dsCons_len (dsCons_len (dsCons_len (dsNil_len)))))) (pu_var (i := 1))) (pu_wand1 (pu_tnot (pu_tv (pu_call (ok_bars_direction G) (hr.mono (by first | decide | omega)) rfl G.g_bars_direction G.F_bars_direction.kp G.b_bars_direction (pu_asSh (pu_var (i := 1)) (pu_asSh (pu_var (i := 6)) (pu_asSh (pu_sub hu1 (pu_var (i := 4)) (pu_int)) (pu_asNil)))) (asSh_len (asSh_len (asSh_len (asNil_len)))))))))))) (pu_one (pu_expr (pu_append (pv 3) (pu_var (i := 4))))) (pu_nil))))
      (pu_one (pu_ret (pu_var (i := 3))))))
theorem sc_least_table : FnScope ["lengths", "signs", "start", "one", "found", "line", "other", "least", "direction"] ["lengths", "signs", "start"] (defScope s_least_table) := ⟨rfl, rfl, rfl, by decide +kernel, rfl, by decide +kernel, by decide +kernel⟩
theorem ok_least_table (G : Gs K mg) : FnOk P Wd.w K mg base CX0 3 G.f_least_table G.d_least_table ["lengths", "signs", "start"] (spFn K F_least_table 3) := by
  have S := sc_least_table
  refine def_ok (N := ["lengths", "signs", "start", "one", "found", "line", "other", "least", "direction"]) (ps := ["lengths", "signs", "start"]) G.F_least_table S (by decide) fun cdv A outer s H E hr => ?_
  have hu1 := room1 hr
  have hu64 := hr.units
  have hu65 := room65 hr
  exact pu_cons (pu_parN (is := [4, 5]) (pu_hsCons (pu_dict) (pu_hsCons (pu_dict) (pu_hsNil))) (pg_tup rfl (pgs_cons (pg_name (i := 4) S.nd rfl (Or.inl rfl)) (pgs_cons (pg_name (i := 5) S.nd rfl (Or.inr rfl)) (pgs_nil)))))
      (pu_cons (pu_for PassesOwn.never rfl (pu_iOf (pu_call (ok_firsts G) (hr.mono (by first | decide | omega)) rfl G.g_firsts G.F_firsts.kp G.b_firsts (pu_asSh (pu_var (i := 0)) (pu_asSh (pu_var (i := 1)) (pu_asSh (pu_var (i := 2)) (pu_asNil)))) (asSh_len (asSh_len (asSh_len (asNil_len)))))) (pu_gName (i := 3) S.nd rfl (by first | exact Or.inl rfl | exact Or.inr rfl)) (pu_one (pu_put hu1 (pv 5) (pu_sub hu1 (pu_var (i := 0)) (pu_var (i := 3))) (pu_var (i := 3)))))
      (pu_cons (pu_whileN 1000 PassesOwn.never (pu_tcmp (op_neM hu64) prim_ne (pu_var (i := 5)) (pu_dict)) (pu_cons (pu_unp (pu_callB (call_minD rfl hu64) prim_minL rfl G.m_min bt_min (pu_msCons (pu_lock (i := 5) (pu_lc rfl S.nd (pu_iOf (pu_var (i := 5))) (own := [((Str.ofString "direction"), 8)]) (blk_of (by rfl)) (fun _ _ _ _ _ => pu_gName (i := 8) S.nd rfl (by first | exact Or.inl rfl | exact Or.inr rfl)) (fun _ _ _ _ _ => pu_tsNil) (fun _ _ _ _ _ => pu_tup (pu_dsCons (pu_sub hu1 (pu_var (i := 5)) (pu_var (i := 8))) (pu_dsCons (pu_var (i := 8)) (pu_dsNil))) (by decide) (dsCons_len (dsCons_len (dsNil_len)))))) (pu_msNil))) (pu_gTup rfl (pu_gsCons (pu_gName (i := 7) S.nd rfl (by first | exact Or.inl rfl | exact Or.inr rfl)) (pu_gsCons (pu_gName (i := 3) S.nd rfl (by first | exact Or.inl rfl | exact Or.inr rfl)) (pu_gsNil))) (gsCons_len (gsCons_len (gsNil_len)))))
      (pu_cons (pu_expr (pu_popKey hu1 (pv 5) (pu_var (i := 3))))
      (pu_cons (pu_put hu1 (pv 4) (pu_var (i := 7)) (pu_var (i := 3)))
      (pu_one (pu_for PassesOwn.never rfl (pu_iOf (pu_call (ok_nexts G) (hr.mono (by first | decide | omega)) rfl G.g_nexts G.F_nexts.kp G.b_nexts (pu_asSh (pu_var (i := 0)) (pu_asSh (pu_var (i := 1)) (pu_asSh (pu_var (i := 3)) (pu_asNil)))) (asSh_len (asSh_len (asSh_len (asNil_len)))))) (pu_gName (i := 6) S.nd rfl (by first | exact Or.inl rfl | exact Or.inr rfl)) (pu_one (pu_if (pu_tcmp (op_notInM hu65) prim_notIn (pu_var (i := 6)) (pu_var (i := 4))) (pu_one (pu_put hu1 (pv 5) (pu_callB (call_min2 rfl) prim_min2 rfl G.m_min bt_min (pu_msCons (pu_get hu1 (pv 5) (pu_var (i := 6)) (pu_op2 op_addA prim_add (pu_var (i := 7)) (pu_sub hu1 (pu_var (i := 0)) (pu_var (i := 6))))) (pu_msCons (pu_op2 op_addA prim_add (pu_var (i := 7)) (pu_sub hu1 (pu_var (i := 0)) (pu_var (i := 6)))) (pu_msNil)))) (pu_var (i := 6)))) (pu_nil)))))))))
      (pu_one (pu_ret (pu_var (i := 4))))))
theorem sc_least_to : FnScope ["table", "goal", "some", "direction"] ["table", "goal"] (defScope s_least_to) := ⟨rfl, rfl, rfl, by decide +kernel, rfl, by decide +kernel, by decide +kernel⟩
theorem ok_least_to (G : Gs K mg) : FnOk P Wd.w K mg base CX0 1 G.f_least_to G.d_least_to ["table", "goal"] (spFn K F_least_to 2) := by
  have S := sc_least_to
  refine def_ok (N := ["table", "goal", "some", "direction"]) (ps := ["table", "goal"]) G.F_least_to S (by decide) fun cdv A outer s H E hr => ?_
  have hu1 := room1 hr
  have hu64 := hr.units
  have hu65 := room65 hr
  exact pu_cons (pu_setLc (i := 2) rfl S.nd rfl rfl rfl (pu_iOf (pu_var (i := 0))) (own := [((Str.ofString "direction"), 3)]) (blk_of (by rfl)) (fun _ _ _ _ _ => pu_gName (i := 3) S.nd rfl (by first | exact Or.inl rfl | exact Or.inr rfl)) (fun _ _ _ _ _ => pu_tsOne (pu_tcmp (op_eqM hu64) prim_eq (pu_sub hu1 (pu_var (i := 3)) (pu_int)) (pu_var (i := 1)))) (fun _ _ _ _ _ => pu_sub hu1 (pu_var (i := 0)) (pu_var (i := 3))))
      (pu_one (pu_ret (pu_ifExp (pu_tcmp (op_neM hu64) prim_ne (pu_var (i := 2)) (pu_lst (pu_dsNil) (by decide) (dsNil_len))) (pu_callB (call_minD rfl hu64) prim_minL rfl G.m_min bt_min (pu_msCons (pu_var (i := 2)) (pu_msNil))) (pu_non))))
theorem sc_joins_all : FnScope ["streets", "signs", "gates", "houses", "lengths", "tables", "place", "gate", "house", "other"] ["streets", "signs", "gates", "houses"] (defScope s_joins_all) := ⟨rfl, rfl, rfl, by decide +kernel, rfl, by decide +kernel, by decide +kernel⟩
theorem ok_joins_all (G : Gs K mg) : FnOk P Wd.w K mg base CX0 4 G.f_joins_all G.d_joins_all ["streets", "signs", "gates", "houses"] (spFn K F_joins_all 4) := by
  have S := sc_joins_all
  refine def_ok (N := ["streets", "signs", "gates", "houses", "lengths", "tables", "place", "gate", "house", "other"]) (ps := ["streets", "signs", "gates", "houses"]) G.F_joins_all S (by decide) fun cdv A outer s H E hr => ?_
  have hu1 := room1 hr
  have hu64 := hr.units
  have hu65 := room65 hr
  exact pu_cons (pu_set (i := 4) S.nd rfl (Or.inl rfl) (pu_call (ok_lengths_of G) (hr.mono (by first | decide | omega)) rfl G.g_lengths_of G.F_lengths_of.kp G.b_lengths_of (pu_asSh (pu_var (i := 0)) (pu_asNil)) (asSh_len (asNil_len))))
      (pu_cons (pu_set (i := 5) S.nd rfl (Or.inr rfl) (pu_dict))
      (pu_cons (pu_for PassesOwn.never rfl (pu_iOf (pu_op2 op_addA prim_add (pu_var (i := 2)) (pu_var (i := 3)))) (pu_gName (i := 6) S.nd rfl (by first | exact Or.inl rfl | exact Or.inr rfl)) (pu_one (pu_put hu1 (pv 5) (pu_call (ok_least_table G) (hr.mono (by first | decide | omega)) rfl G.g_least_table G.F_least_table.kp G.b_least_table (pu_asSh (pu_var (i := 4)) (pu_asSh (pu_var (i := 1)) (pu_asSh (pu_var (i := 6)) (pu_asNil)))) (asSh_len (asSh_len (asSh_len (asNil_len))))) (pu_var (i := 6)))))
      (pu_cons (pu_for PassesOwn.never rfl (pu_iOf (pu_var (i := 2))) (pu_gName (i := 7) S.nd rfl (by first | exact Or.inl rfl | exact Or.inr rfl)) (pu_one (pu_if (pu_tnot (pu_tv (pu_callB (cr_all rfl) prim_all rfl G.m_all bt_all (pu_msCons (pu_lc rfl S.nd (pu_iOf (pu_var (i := 2))) (own := [((Str.ofString "other"), 9)]) (blk_of (by rfl)) (fun _ _ _ _ _ => pu_gName (i := 9) S.nd rfl (by first | exact Or.inl rfl | exact Or.inr rfl)) (fun _ _ _ _ _ => pu_tsNil) (fun _ _ _ _ _ => pu_or (pu_cmp (op_eqM hu64) prim_eq (pu_var (i := 9)) (pu_var (i := 7))) (pu_and1 (pu_cmp op_notA prim_isNot (pu_call (ok_least_to G) (hr.mono (by first | decide | omega)) rfl G.g_least_to G.F_least_to.kp G.b_least_to (pu_asSh (pu_sub hu1 (pu_var (i := 5)) (pu_var (i := 7))) (pu_asSh (pu_var (i := 9)) (pu_asNil))) (asSh_len (asSh_len (asNil_len)))) (pu_non))))) (pu_msNil))))) (pu_one (pu_ret (pu_bl))) (pu_nil))))
      (pu_cons (pu_for PassesOwn.never rfl (pu_iOf (pu_var (i := 3))) (pu_gName (i := 8) S.nd rfl (by first | exact Or.inl rfl | exact Or.inr rfl)) (pu_cons (pu_if (pu_tv (pu_callB (cr_all rfl) prim_all rfl G.m_all bt_all (pu_msCons (pu_lc rfl S.nd (pu_iOf (pu_var (i := 2))) (own := [((Str.ofString "gate"), 7)]) (blk_of (by rfl)) (fun _ _ _ _ _ => pu_gName (i := 7) S.nd rfl (by first | exact Or.inl rfl | exact Or.inr rfl)) (fun _ _ _ _ _ => pu_tsNil) (fun _ _ _ _ _ => pu_cmp op_isA prim_is (pu_call (ok_least_to G) (hr.mono (by first | decide | omega)) rfl G.g_least_to G.F_least_to.kp G.b_least_to (pu_asSh (pu_sub hu1 (pu_var (i := 5)) (pu_var (i := 7))) (pu_asSh (pu_var (i := 8)) (pu_asNil))) (asSh_len (asSh_len (asNil_len)))) (pu_non))) (pu_msNil)))) (pu_one (pu_ret (pu_bl))) (pu_nil))
      (pu_one (pu_if (pu_tv (pu_callB (cr_all rfl) prim_all rfl G.m_all bt_all (pu_msCons (pu_lc rfl S.nd (pu_iOf (pu_var (i := 2))) (own := [((Str.ofString "gate"), 7)]) (blk_of (by rfl)) (fun _ _ _ _ _ => pu_gName (i := 7) S.nd rfl (by first | exact Or.inl rfl | exact Or.inr rfl)) (fun _ _ _ _ _ => pu_tsNil) (fun _ _ _ _ _ => pu_cmp op_isA prim_is (pu_call (ok_least_to G) (hr.mono (by first | decide | omega)) rfl G.g_least_to G.F_least_to.kp G.b_least_to (pu_asSh (pu_sub hu1 (pu_var (i := 5)) (pu_var (i := 8))) (pu_asSh (pu_var (i := 7)) (pu_asNil))) (asSh_len (asSh_len (asNil_len)))) (pu_non))) (pu_msNil)))) (pu_one (pu_ret (pu_bl))) (pu_nil)))))
      (pu_one (pu_ret (pu_bl)))))))
theorem sc_is_street : FnScope ["places", "value"] ["places", "value"] (defScope s_is_street) := ⟨rfl, rfl, rfl, by decide +kernel, rfl, by decide +kernel, by decide +kernel⟩
theorem ok_is_street (G : Gs K mg) : FnOk P Wd.w K mg base CX0 2 G.f_is_street G.d_is_street ["places", "value"] (spFn K F_is_street 2) := by
  have S := sc_is_street
  refine def_ok (N := ["places", "value"]) (ps := ["places", "value"]) G.F_is_street S (by decide) fun cdv A outer s H E hr => ?_
  have hu1 := room1 hr
  have hu64 := hr.units
  have hu65 := room65 hr
  exact pu_cons (pu_if (PW.pt (pu_wor (pu_tnot (pu_tv (pu_isi (.inr (.inr (.inl rfl))) rfl G.m_isinstance (pu_var (i := 1)) (pe_bltn rfl G.m_tuple bt_tuple rfl)))) (pu_wor (pu_tcmp (op_neM hu64) prim_ne (pu_callB call_lenA prim_len rfl G.m_len bt_len (pu_msCons (pu_var (i := 1)) (pu_msNil))) (pu_int)) (pu_wor1 (pu_tnot (pu_tv (pu_call (ok_is_integer G) (hr.mono (by first | decide | omega)) rfl G.g_is_integer G.F_is_integer.kp G.b_is_integer (pu_asSh (pu_sub hu1 (pu_var (i := 1)) (pu_int)) (pu_asSh (pu_int) (pu_asSh (pu_op2 op_sub prim_sub (pu_var (i := 0)) (pu_int)) (pu_asNil)))) (asSh_len (asSh_len (asSh_len (asNil_len))))))))))) (pu_one (pu_ret (pu_bl))) (pu_nil))
      (pu_one (pu_ret (pu_and (pu_call (ok_is_integer G) (hr.mono (by first | decide | omega)) rfl G.g_is_integer G.F_is_integer.kp G.b_is_integer (pu_asSh (pu_sub hu1 (pu_var (i := 1)) (pu_int)) (pu_asSh (pu_op2 op_addA prim_add (pu_sub hu1 (pu_var (i := 1)) (pu_int)) (pu_int)) (pu_asSh (pu_op2 op_sub prim_sub (pu_var (i := 0)) (pu_int)) (pu_asNil)))) (asSh_len (asSh_len (asSh_len (asNil_len))))) (pu_and1 (pu_call (ok_is_integer G) (hr.mono (by first | decide | omega)) rfl G.g_is_integer G.F_is_integer.kp G.b_is_integer (pu_asSh (pu_sub hu1 (pu_var (i := 1)) (pu_int)) (pu_asSh (pu_int) (pu_asSh (pu_int) (pu_asNil)))) (asSh_len (asSh_len (asSh_len (asNil_len)))))))))
theorem sc_are_streets : FnScope ["places", "value", "one"] ["places", "value"] (defScope s_are_streets) := ⟨rfl, rfl, rfl, by decide +kernel, rfl, by decide +kernel, by decide +kernel⟩
theorem ok_are_streets (G : Gs K mg) : FnOk P Wd.w K mg base CX0 3 G.f_are_streets G.d_are_streets ["places", "value"] (spFn K F_are_streets 2) := by
  have S := sc_are_streets
  refine def_ok (N := ["places", "value", "one"]) (ps := ["places", "value"]) G.F_are_streets S (by decide) fun cdv A outer s H E hr => ?_
  have hu1 := room1 hr
  have hu64 := hr.units
  have hu65 := room65 hr
  exact pu_cons (pu_if (PW.pt (pu_wor (pu_tnot (pu_tv (pu_isi (.inr (.inr (.inl rfl))) rfl G.m_isinstance (pu_var (i := 1)) (pe_bltn rfl G.m_tuple bt_tuple rfl)))) (pu_wor (pu_tnot (pu_tchain op_le prim_le op_le prim_le (pu_int) (pu_callB call_lenA prim_len rfl G.m_len bt_len (pu_msCons (pu_var (i := 1)) (pu_msNil))) (pu_int))) (pu_wor1 (pu_tnot (pu_tv (pu_callB (cr_all rfl) prim_all rfl G.m_all bt_all (pu_msCons (pu_lc rfl S.nd (pu_iOf (pu_var (i := 1))) (own := [((Str.ofString "one"), 2)]) (blk_of (by rfl)) (fun _ _ _ _ _ => pu_gName (i := 2) S.nd rfl (by first | exact Or.inl rfl | exact Or.inr rfl)) (fun _ _ _ _ _ => pu_tsNil) (fun _ _ _ _ _ => pu_call (ok_is_street G) (hr.mono (by first | decide | omega)) rfl G.g_is_street G.F_is_street.kp G.b_is_street (pu_asSh (pu_var (i := 0)) (pu_asSh (pu_var (i := 2)) (pu_asNil))) (asSh_len (asSh_len (asNil_len))))) (pu_msNil))))))))) (pu_one (pu_ret (pu_bl))) (pu_nil))
      (pu_one (pu_ret (pu_call (ok_rises G) (hr.mono (by first | decide | omega)) rfl G.g_rises G.F_rises.kp G.b_rises (pu_asSh (pu_lc rfl S.nd (pu_iOf (pu_var (i := 1))) (own := [((Str.ofString "one"), 2)]) (blk_of (by rfl)) (fun _ _ _ _ _ => pu_gName (i := 2) S.nd rfl (by first | exact Or.inl rfl | exact Or.inr rfl)) (fun _ _ _ _ _ => pu_tsNil) (fun _ _ _ _ _ => pu_slice (pu_var (i := 2)) (pu_oNone) (pu_oSome (pu_int)))) (pu_asNil)) (asSh_len (asNil_len)))))
theorem sc_street_between : FnScope ["streets", "a", "b", "index", "street"] ["streets", "a", "b"] (defScope s_street_between) := ⟨rfl, rfl, rfl, by decide +kernel, rfl, by decide +kernel, by decide +kernel⟩
theorem ok_street_between (G : Gs K mg) : FnOk P Wd.w K mg base CX0 1 G.f_street_between G.d_street_between ["streets", "a", "b"] (spFn K F_street_between 3) := by
  have S := sc_street_between
  refine def_ok (N := ["streets", "a", "b", "index", "street"]) (ps := ["streets", "a", "b"]) G.F_street_between S (by decide) fun cdv A outer s H E hr => ?_
  have hu1 := room1 hr
  have hu64 := hr.units
  have hu65 := room65 hr
  exact pu_cons (pu_for PassesOwn.never rfl (pu_enum rfl G.m_enumerate (pu_dsCons (pu_var (i := 0)) (pu_dsNil))) (pu_gTup rfl (pu_gsCons (pu_gName (i := 3) S.nd rfl (by first | exact Or.inl rfl | exact Or.inr rfl)) (pu_gsCons (pu_gName (i := 4) S.nd rfl (by first | exact Or.inl rfl | exact Or.inr rfl)) (pu_gsNil))) (gsCons_len (gsCons_len (gsNil_len)))) (pu_one (pu_if (pu_tcmp (op_eqM hu64) prim_eq (pu_slice (pu_var (i := 4)) (pu_oNone) (pu_oSome (pu_int))) (pu_tup (pu_dsCons (pu_callB (call_min2 rfl) prim_min2 rfl G.m_min bt_min (pu_msCons (pu_var (i := 1)) (pu_msCons (pu_var (i := 2)) (pu_msNil)))) (pu_dsCons (pu_callB (call_max2 rfl) prim_max2 rfl G.m_max bt_max (pu_msCons (pu_var (i := 1)) (pu_msCons (pu_var (i := 2)) (pu_msNil)))) (pu_dsNil))) (by decide) (dsCons_len (dsCons_len (dsNil_len))))) (pu_one (pu_ret (pu_var (i := 3)))) (pu_nil))))
      (pu_one (pu_ret (pu_non)))
theorem sc_sign_stands : FnScope ["places", "streets", "value", "one", "a", "b"] ["places", "streets", "value"] (defScope s_sign_stands) := ⟨rfl, rfl, rfl, by decide +kernel, rfl, by decide +kernel, by decide +kernel⟩
theorem ok_sign_stands (G : Gs K mg) : FnOk P Wd.w K mg base CX0 2 G.f_sign_stands G.d_sign_stands ["places", "streets", "value"] (spFn K F_sign_stands 3) := by
  have S := sc_sign_stands
  refine def_ok (N := ["places", "streets", "value", "one", "a", "b"]) (ps := ["places", "streets", "value"]) G.F_sign_stands S (by decide) fun cdv A outer s H E hr => ?_
  have hu1 := room1 hr
  have hu64 := hr.units
  have hu65 := room65 hr
  exact pu_cons (pu_if (PW.pt (pu_wor (pu_tnot (pu_tv (pu_isi (.inr (.inr (.inl rfl))) rfl G.m_isinstance (pu_var (i := 2)) (pe_bltn rfl G.m_tuple bt_tuple rfl)))) (pu_wor (pu_tnot (pu_tchain op_le prim_le op_le prim_le (pu_int) (pu_callB call_lenA prim_len rfl G.m_len bt_len (pu_msCons (pu_var (i := 2)) (pu_msNil))) (pu_int))) (pu_wor1 (pu_tnot (pu_tv (pu_isi (.inr (.inr (.inr (.inl rfl)))) rfl G.m_isinstance (pu_sub hu1 (pu_var (i := 2)) (pu_int)) (pe_bltn rfl G.m_str bt_str rfl)))))))) (pu_one (pu_ret (pu_bl))) (pu_nil))
      (pu_cons (pu_if (PW.pt (pu_wor (pu_tcmp (op_notInM hu65) prim_notIn (pu_sub hu1 (pu_var (i := 2)) (pu_int)) (pu_tup (pu_dsCons (pu_str) (pu_dsCons (pu_str) (pu_dsCons (pu_str) (pu_dsNil)))) (by decide) (dsCons_len (dsCons_len (dsCons_len (dsNil_len)))))) (pu_wor1 (pu_tcmp (op_neM hu64) prim_ne (pu_cmp (op_eqM hu64) prim_eq (pu_sub hu1 (pu_var (i := 2)) (pu_int)) (pu_str)) (pu_cmp (op_eqM hu64) prim_eq (pu_callB call_lenA prim_len rfl G.m_len bt_len (pu_msCons (pu_var (i := 2)) (pu_msNil))) (pu_int)))))) (pu_one (pu_ret (pu_bl))) (pu_nil))
      (pu_cons (pu_if (pu_tnot (pu_tv (pu_callB (cr_all rfl) prim_all rfl G.m_all bt_all (pu_msCons (pu_lc rfl S.nd (pu_iOf (pu_slice (pu_var (i := 2)) (pu_oSome (pu_int)) (pu_oNone))) (own := [((Str.ofString "one"), 3)]) (blk_of (by rfl)) (fun _ _ _ _ _ => pu_gName (i := 3) S.nd rfl (by first | exact Or.inl rfl | exact Or.inr rfl)) (fun _ _ _ _ _ => pu_tsNil) (fun _ _ _ _ _ => pu_call (ok_is_integer G) (hr.mono (by first | decide | omega)) rfl G.g_is_integer G.F_is_integer.kp G.b_is_integer (pu_asSh (pu_var (i := 3)) (pu_asSh (pu_int) (pu_asSh (pu_op2 op_sub prim_sub (pu_var (i := 0)) (pu_int)) (pu_asNil)))) (asSh_len (asSh_len (asSh_len (asNil_len)))))) (pu_msNil))))) (pu_one (pu_ret (pu_bl))) (pu_nil))
      (pu_cons (pu_if (pu_tnot (pu_tv (pu_callB (cr_all rfl) prim_all rfl G.m_all bt_all (pu_msCons (pu_lc rfl S.nd (pu_zip rfl G.m_zip (pu_dsCons (pu_slice (pu_var (i := 2)) (pu_oSome (pu_int)) (pu_oNone)) (pu_dsCons (pu_slice (pu_var (i := 2)) (pu_oSome (pu_int)) (pu_oNone)) (pu_dsNil)))) (own := [((Str.ofString "a"), 4), ((Str.ofString "b"), 5)]) (blk_of (by rfl)) (fun _ _ _ _ _ => pu_gTup rfl (pu_gsCons (pu_gName (i := 4) S.nd rfl (by first | exact Or.inl rfl | exact Or.inr rfl)) (pu_gsCons (pu_gName (i := 5) S.nd rfl (by first | exact Or.inl rfl | exact Or.inr rfl)) (pu_gsNil))) (gsCons_len (gsCons_len (gsNil_len)))) (fun _ _ _ _ _ => pu_tsNil) (fun _ _ _ _ _ => pu_cmp op_notA prim_isNot (pu_call (ok_street_between G) (hr.mono (by first | decide | omega)) rfl G.g_street_between G.F_street_between.kp G.b_street_between (pu_asSh (pu_var (i := 1)) (pu_asSh (pu_var (i := 4)) (pu_asSh (pu_var (i := 5)) (pu_asNil)))) (asSh_len (asSh_len (asSh_len (asNil_len))))) (pu_non))) (pu_msNil))))) (pu_one (pu_ret (pu_bl))) (pu_nil))
      (pu_one (pu_ret (pu_ifExp (pu_tcmp (op_eqM hu64) prim_eq (pu_sub hu1 (pu_var (i := 2)) (pu_int)) (pu_str)) (pu_cmp (op_ltM hu64) prim_lt (pu_sub hu1 (pu_var (i := 2)) (pu_int)) (pu_sub hu1 (pu_var (i := 2)) (pu_int))) (pu_cmp (op_neM hu64) prim_ne (pu_sub hu1 (pu_var (i := 2)) (pu_int)) (pu_sub hu1 (pu_var (i := 2)) (pu_un un_neg prim_neg (pu_int))))))))))
theorem sc_signs_stand : FnScope ["places", "streets", "value", "most", "one"] ["places", "streets", "value", "most"] (defScope s_signs_stand) := ⟨rfl, rfl, rfl, by decide +kernel, rfl, by decide +kernel, by decide +kernel⟩
theorem ok_signs_stand (G : Gs K mg) : FnOk P Wd.w K mg base CX0 3 G.f_signs_stand G.d_signs_stand ["places", "streets", "value", "most"] (spFn K F_signs_stand 4) := by
  have S := sc_signs_stand
  refine def_ok (N := ["places", "streets", "value", "most", "one"]) (ps := ["places", "streets", "value", "most"]) G.F_signs_stand S (by decide) fun cdv A outer s H E hr => ?_
  have hu1 := room1 hr
  have hu64 := hr.units
  have hu65 := room65 hr
  exact pu_cons (pu_if (PW.pt (pu_wor (pu_tnot (pu_tv (pu_isi (.inr (.inr (.inl rfl))) rfl G.m_isinstance (pu_var (i := 2)) (pe_bltn rfl G.m_tuple bt_tuple rfl)))) (pu_wor1 (pu_tcmp op_gt prim_gt (pu_callB call_lenA prim_len rfl G.m_len bt_len (pu_msCons (pu_var (i := 2)) (pu_msNil))) (pu_var (i := 3)))))) (pu_one (pu_ret (pu_bl))) (pu_nil))
      (pu_one (pu_ret (pu_and (pu_callB (cr_all rfl) prim_all rfl G.m_all bt_all (pu_msCons (pu_lc rfl S.nd (pu_iOf (pu_var (i := 2))) (own := [((Str.ofString "one"), 4)]) (blk_of (by rfl)) (fun _ _ _ _ _ => pu_gName (i := 4) S.nd rfl (by first | exact Or.inl rfl | exact Or.inr rfl)) (fun _ _ _ _ _ => pu_tsNil) (fun _ _ _ _ _ => pu_call (ok_sign_stands G) (hr.mono (by first | decide | omega)) rfl G.g_sign_stands G.F_sign_stands.kp G.b_sign_stands (pu_asSh (pu_var (i := 0)) (pu_asSh (pu_var (i := 1)) (pu_asSh (pu_var (i := 4)) (pu_asNil)))) (asSh_len (asSh_len (asSh_len (asNil_len)))))) (pu_msNil))) (pu_and1 (pu_call (ok_rises G) (hr.mono (by first | decide | omega)) rfl G.g_rises G.F_rises.kp G.b_rises (pu_asSh (pu_var (i := 2)) (pu_asNil)) (asSh_len (asNil_len)))))))
theorem sc_stands : FnScope ["value", "places", "streets", "signs", "gates", "houses", "quiet", "house"] ["value"] (defScope s_stands) := ⟨rfl, rfl, rfl, by decide +kernel, rfl, by decide +kernel, by decide +kernel⟩
theorem ok_stands (G : Gs K mg) : FnOk P Wd.w K mg base CX0 5 G.f_stands G.d_stands ["value"] (spFn K F_stands 1) := by
  have S := sc_stands
  refine def_ok (N := ["value", "places", "streets", "signs", "gates", "houses", "quiet", "house"]) (ps := ["value"]) G.F_stands S (by decide) fun cdv A outer s H E hr => ?_
  have hu1 := room1 hr
  have hu64 := hr.units
  have hu65 := room65 hr
  exact pu_cons (pu_if (PW.pt (pu_wor (pu_tnot (pu_tv (pu_isi (.inr (.inr (.inl rfl))) rfl G.m_isinstance (pu_var (i := 0)) (pe_bltn rfl G.m_tuple bt_tuple rfl)))) (pu_wor (pu_tcmp (op_neM hu64) prim_ne (pu_callB call_lenA prim_len rfl G.m_len bt_len (pu_msCons (pu_var (i := 0)) (pu_msNil))) (pu_int)) (pu_wor1 (pu_tnot (pu_tv (pu_call (ok_is_integer G) (hr.mono (by first | decide | omega)) rfl G.g_is_integer G.F_is_integer.kp G.b_is_integer (pu_asSh (pu_sub hu1 (pu_var (i := 0)) (pu_int)) (pu_asSh (pu_int) (pu_asSh (pu_int) (pu_asNil)))) (asSh_len (asSh_len (asSh_len (asNil_len))))))))))) (pu_one (pu_ret (pu_bl))) (pu_nil))
      (pu_cons (pu_unp (pu_var (i := 0)) (pu_gTup rfl (pu_gsCons (pu_gName (i := 1) S.nd rfl (by first | exact Or.inl rfl | exact Or.inr rfl)) (pu_gsCons (pu_gName (i := 2) S.nd rfl (by first | exact Or.inl rfl | exact Or.inr rfl)) (pu_gsCons (pu_gName (i := 3) S.nd rfl (by first | exact Or.inl rfl | exact Or.inr rfl)) (pu_gsCons (pu_gName (i := 4) S.nd rfl (by first | exact Or.inl rfl | exact Or.inr rfl)) (pu_gsCons (pu_gName (i := 5) S.nd rfl (by first | exact Or.inl rfl | exact Or.inr rfl)) (pu_gsCons (pu_gName (i := 6) S.nd rfl (by first | exact Or.inl rfl | exact Or.inr rfl)) (pu_gsNil))))))) (gsCons_len (gsCons_len (gsCons_len (gsCons_len (gsCons_len (gsCons_len (gsNil_len)))))))))
      (pu_cons (pu_if (PW.pt (pu_wor (pu_tnot (pu_tv (pu_call (ok_are_streets G) (hr.mono (by first | decide | omega)) rfl G.g_are_streets G.F_are_streets.kp G.b_are_streets (pu_asSh (pu_var (i := 1)) (pu_asSh (pu_var (i := 2)) (pu_asNil))) (asSh_len (asSh_len (asNil_len)))))) (pu_wor1 (pu_tnot (pu_tv (pu_call (ok_signs_stand G) (hr.mono (by first | decide | omega)) rfl G.g_signs_stand G.F_signs_stand.kp G.b_signs_stand (pu_asSh (pu_var (i := 1)) (pu_asSh (pu_var (i := 2)) (pu_asSh (pu_var (i := 3)) (pu_asSh (pu_int) (pu_asNil))))) (asSh_len (asSh_len (asSh_len (asSh_len (asNil_len))))))))))) (pu_one (pu_ret (pu_bl))) (pu_nil))
      (pu_cons (pu_if (PW.pt (pu_wor (pu_tnot (pu_tv (pu_call (ok_are_numbers G) (hr.mono (by first | decide | omega)) rfl G.g_are_numbers G.F_are_numbers.kp G.b_are_numbers (pu_asSh (pu_var (i := 4)) (pu_asSh (pu_int) (pu_asSh (pu_op2 op_sub prim_sub (pu_var (i := 1)) (pu_int)) (pu_asNil)))) (asSh_len (asSh_len (asSh_len (asNil_len))))))) (pu_wor1 (pu_tnot (pu_tchain op_le prim_le op_le prim_le (pu_int) (pu_callB call_lenA prim_len rfl G.m_len bt_len (pu_msCons (pu_var (i := 4)) (pu_msNil))) (pu_int)))))) (pu_one (pu_ret (pu_bl))) (pu_nil))
      (pu_cons (pu_if (PW.pt (pu_wor (pu_tnot (pu_tv (pu_call (ok_are_numbers G) (hr.mono (by first | decide | omega)) rfl G.g_are_numbers G.F_are_numbers.kp G.b_are_numbers (pu_asSh (pu_var (i := 5)) (pu_asSh (pu_int) (pu_asSh (pu_op2 op_sub prim_sub (pu_var (i := 1)) (pu_int)) (pu_asNil)))) (asSh_len (asSh_len (asSh_len (asNil_len))))))) (pu_wor (pu_tcmp op_gt prim_gt (pu_callB call_lenA prim_len rfl G.m_len bt_len (pu_msCons (pu_var (i := 5)) (pu_msNil))) (pu_int)) (pu_wor1 (pu_tv (pu_callB (cr_any rfl) prim_any rfl G.m_any bt_any (pu_msCons (pu_lc rfl S.nd (pu_iOf (pu_var (i := 5))) (own := [((Str.ofString "house"), 7)]) (blk_of (by rfl)) (fun _ _ _ _ _ => pu_gName (i := 7) S.nd rfl (by first | exact Or.inl rfl | exact Or.inr rfl)) (fun _ _ _ _ _ => pu_tsNil) (fun _ _ _ _ _ => pu_cmp (op_inM hu65) prim_in (pu_var (i := 7)) (pu_var (i := 4)))) (pu_msNil)))))))) (pu_one (pu_ret (pu_bl))) (pu_nil))
      (pu_one (pu_ret (pu_and (pu_call (ok_are_numbers G) (hr.mono (by first | decide | omega)) rfl G.g_are_numbers G.F_are_numbers.kp G.b_are_numbers (pu_asSh (pu_var (i := 6)) (pu_asSh (pu_int) (pu_asSh (pu_op2 op_sub prim_sub (pu_callB call_lenA prim_len rfl G.m_len bt_len (pu_msCons (pu_var (i := 2)) (pu_msNil))) (pu_int)) (pu_asNil)))) (asSh_len (asSh_len (asSh_len (asNil_len))))) (pu_and1 (pu_call (ok_joins_all G) (hr.mono (by first | decide | omega)) rfl G.g_joins_all G.F_joins_all.kp G.b_joins_all (pu_asSh (pu_var (i := 2)) (pu_asSh (pu_var (i := 3)) (pu_asSh (pu_var (i := 4)) (pu_asSh (pu_var (i := 5)) (pu_asNil))))) (asSh_len (asSh_len (asSh_len (asSh_len (asNil_len))))))))))))))
theorem sc_is_town : FnScope ["value"] ["value"] (defScope s_is_town) := ⟨rfl, rfl, rfl, by decide +kernel, rfl, by decide +kernel, by decide +kernel⟩
theorem ok_is_town (G : Gs K mg) : FnOk P Wd.w K mg base CX0 6 G.f_is_town G.d_is_town ["value"] (spFn K F_is_town 1) := by
  have S := sc_is_town
  refine def_ok (N := ["value"]) (ps := ["value"]) G.F_is_town S (by decide) fun cdv A outer s H E hr => ?_
  have hu1 := room1 hr
  have hu64 := hr.units
  have hu65 := room65 hr
  exact pu_one (pu_ret (pu_call (ok_stands G) (hr.mono (by first | decide | omega)) rfl G.g_stands G.F_stands.kp G.b_stands (pu_asSh (pu_var (i := 0)) (pu_asNil)) (asSh_len (asNil_len))))
theorem sc__law_all_signs : FnScope ["town", "ways", "found", "a", "b", "length", "c", "d"] ["town"] (defScope s__law_all_signs) := ⟨rfl, rfl, rfl, by decide +kernel, rfl, by decide +kernel, by decide +kernel⟩
theorem ok__law_all_signs (G : Gs K mg) : FnOk P Wd.w K mg base CX0 1 G.f__law_all_signs G.d__law_all_signs ["town"] (spFn K F__law_all_signs 1) := by
  have S := sc__law_all_signs
  refine def_ok (N := ["town", "ways", "found", "a", "b", "length", "c", "d"]) (ps := ["town"]) G.F__law_all_signs S (by decide) fun cdv A outer s H E hr => ?_
  have hu1 := room1 hr
  have hu64 := hr.units
  have hu65 := room65 hr
  exact pu_cons (pu_set (i := 1) S.nd rfl (Or.inl rfl) (pu_lst (pu_dsNil) (by decide) (dsNil_len)))
      (pu_cons (pu_for PassesOwn.never rfl (pu_iOf (pu_sub hu1 (pu_var (i := 0)) (pu_int))) (pu_gTup rfl (pu_gsCons (pu_gName (i := 3) S.nd rfl (by first | exact Or.inl rfl | exact Or.inr rfl)) (pu_gsCons (pu_gName (i := 4) S.nd rfl (by first | exact Or.inl rfl | exact Or.inr rfl)) (pu_gsCons (pu_gName (i := 5) S.nd rfl (by first | exact Or.inl rfl | exact Or.inr rfl)) (pu_gsNil)))) (gsCons_len (gsCons_len (gsCons_len (gsNil_len))))) (pu_one (pu_expr (pu_extend (pv 1) (pu_lst (pu_dsCons (pu_tup (pu_dsCons (pu_var (i := 3)) (pu_dsCons (pu_var (i := 4)) (pu_dsNil))) (by decide) (dsCons_len (dsCons_len (dsNil_len)))) (pu_dsCons (pu_tup (pu_dsCons (pu_var (i := 4)) (pu_dsCons (pu_var (i := 3)) (pu_dsNil))) (by decide) (dsCons_len (dsCons_len (dsNil_len)))) (pu_dsNil))) (by decide) (dsCons_len (dsCons_len (dsNil_len))))))))
      (pu_cons (pu_set (i := 2) S.nd rfl (Or.inl rfl) (pu_op2 op_addA prim_add (pu_lc rfl S.nd (pu_iOf (pu_sub hu1 (pu_var (i := 0)) (pu_int))) (own := [((Str.ofString "a"), 3), ((Str.ofString "b"), 4), ((Str.ofString "length"), 5)]) (blk_of (by rfl)) (fun _ _ _ _ _ => pu_gTup rfl (pu_gsCons (pu_gName (i := 3) S.nd rfl (by first | exact Or.inl rfl | exact Or.inr rfl)) (pu_gsCons (pu_gName (i := 4) S.nd rfl (by first | exact Or.inl rfl | exact Or.inr rfl)) (pu_gsCons (pu_gName (i := 5) S.nd rfl (by first | exact Or.inl rfl | exact Or.inr rfl)) (pu_gsNil)))) (gsCons_len (gsCons_len (gsCons_len (gsNil_len))))) (fun _ _ _ _ _ => pu_tsNil) (fun _ _ _ _ _ => pu_tup (pu_dsCons (pu_str) (pu_dsCons (pu_var (i := 3)) (pu_dsCons (pu_var (i := 4)) (pu_dsNil)))) (by decide) (dsCons_len (dsCons_len (dsCons_len (dsNil_len)))))) (pu_lc rfl S.nd (pu_iOf (pu_var (i := 1))) (own := [((Str.ofString "a"), 3), ((Str.ofString "b"), 4)]) (blk_of (by rfl)) (fun _ _ _ _ _ => pu_gTup rfl (pu_gsCons (pu_gName (i := 3) S.nd rfl (by first | exact Or.inl rfl | exact Or.inr rfl)) (pu_gsCons (pu_gName (i := 4) S.nd rfl (by first | exact Or.inl rfl | exact Or.inr rfl)) (pu_gsNil))) (gsCons_len (gsCons_len (gsNil_len)))) (fun _ _ _ _ _ => pu_tsNil) (fun _ _ _ _ _ => pu_tup (pu_dsCons (pu_str) (pu_dsCons (pu_var (i := 3)) (pu_dsCons (pu_var (i := 4)) (pu_dsNil)))) (by decide) (dsCons_len (dsCons_len (dsCons_len (dsNil_len))))))))
      (pu_cons (pu_for PassesOwn.never rfl (pu_iOf (pu_var (i := 1))) (pu_gTup rfl (pu_gsCons (pu_gName (i := 3) S.nd rfl (by first | exact Or.inl rfl | exact Or.inr rfl)) (pu_gsCons (pu_gName (i := 4) S.nd rfl (by first | exact Or.inl rfl | exact Or.inr rfl)) (pu_gsNil))) (gsCons_len (gsCons_len (gsNil_len)))) (pu_one (pu_expr (pu_extend (pv 2) (pu_lc rfl S.nd (pu_iOf (pu_var (i := 1))) (own := [((Str.ofString "c"), 6), ((Str.ofString "d"), 7)]) (blk_of (by rfl)) (fun _ _ _ _ _ => pu_gTup rfl (pu_gsCons (pu_gName (i := 6) S.nd rfl (by first | exact Or.inl rfl | exact Or.inr rfl)) (pu_gsCons (pu_gName (i := 7) S.nd rfl (by first | exact Or.inl rfl | exact Or.inr rfl)) (pu_gsNil))) (gsCons_len (gsCons_len (gsNil_len)))) (fun _ _ _ _ _ => pu_tsOne (PW.pt (pu_wand (pu_tcmp (op_eqM hu64) prim_eq (pu_var (i := 6)) (pu_var (i := 4))) (pu_wand1 (pu_tcmp (op_neM hu64) prim_ne (pu_var (i := 7)) (pu_var (i := 3))))))) (fun _ _ _ _ _ => pu_tup (pu_dsCons (pu_str) (pu_dsCons (pu_var (i := 3)) (pu_dsCons (pu_var (i := 4)) (pu_dsCons (pu_var (i := 7)) (pu_dsNil))))) (by decide) (dsCons_len (dsCons_len (dsCons_len (dsCons_len (dsNil_len)))))))))))
      (pu_one (pu_ret (pu_callB (call_sortM rfl hu64) prim_sorted rfl G.m_sorted bt_sorted (pu_msCons (pu_var (i := 2)) (pu_msNil))))))))
theorem sc__law_some_town : FnScope ["script", "state", "b", "again", "rows", "gates", "rest", "houses", "quiet", "town", "n", "streets", "signs", "other", "a", "place", "pair"] ["script", "state"] (defScope s__law_some_town) := ⟨rfl, rfl, rfl, by decide +kernel, rfl, by decide +kernel, by decide +kernel⟩
theorem ok__law_some_townX (G : Gs K mg) : FnOk P Wd.w K mg base CX0 7 G.f__law_some_town G.d__law_some_town ["script", "state"] (spFn K F__law_some_townX 2) := by
  have S := sc__law_some_town
  refine def_ok (N := ["script", "state", "b", "again", "rows", "gates", "rest", "houses", "quiet", "town", "n", "streets", "signs", "other", "a", "place", "pair"]) (ps := ["script", "state"]) G.F__law_some_townX S (by decide) fun cdv A outer s H E hr => ?_
  have hu1 := room1 hr
  have hu64 := hr.units
  have hu65 := room65 hr
  exact pu_cons (pu_parN (is := [10, 11]) (pu_hsCons (pu_op2 op_addA prim_add (pu_int) (pu_call (ok__law_draw G) (hr.mono (by first | decide | omega)) rfl G.g__law_draw G.F__law_draw.kp G.b__law_draw (pu_asSh (pu_var (i := 0)) (pu_asBo (pv 1) (pu_asSh (pu_int) (pu_asNil)))) (asSh_len (asBo_len (asSh_len (asNil_len)))))) (pu_hsCons (pu_dict) (pu_hsNil))) (pg_tup rfl (pgs_cons (pg_name (i := 10) S.nd rfl (Or.inl rfl)) (pgs_cons (pg_name (i := 11) S.nd rfl (Or.inr rfl)) (pgs_nil)))))
      (pu_cons (pu_for PassesOwn.never rfl (pu_range2 rfl G.m_range (pu_msCons (pu_int) (pu_msCons (pu_var (i := 10)) (pu_msNil)))) (pu_gName (i := 2) S.nd rfl (by first | exact Or.inl rfl | exact Or.inr rfl)) (pu_one (pu_put hu1 (pv 11) (pu_op2 op_addA prim_add (pu_int) (pu_call (ok__law_draw G) (hr.mono (by first | decide | omega)) rfl G.g__law_draw G.F__law_draw.kp G.b__law_draw (pu_asSh (pu_var (i := 0)) (pu_asBo (pv 1) (pu_asSh (pu_int) (pu_asNil)))) (asSh_len (asBo_len (asSh_len (asNil_len)))))) (pu_tup (pu_dsCons (pu_call (ok__law_draw G) (hr.mono (by first | decide | omega)) rfl G.g__law_draw G.F__law_draw.kp G.b__law_draw (pu_asSh (pu_var (i := 0)) (pu_asBo (pv 1) (pu_asSh (pu_var (i := 2)) (pu_asNil)))) (asSh_len (asBo_len (asSh_len (asNil_len))))) (pu_dsCons (pu_var (i := 2)) (pu_dsNil))) (by decide) (dsCons_len (dsCons_len (dsNil_len)))))))
      (pu_cons (pu_for PassesOwn.never rfl (pu_range1 rfl G.m_range (pu_msCons (pu_call (ok__law_draw G) (hr.mono (by first | decide | omega)) rfl G.g__law_draw G.F__law_draw.kp G.b__law_draw (pu_asSh (pu_var (i := 0)) (pu_asBo (pv 1) (pu_asSh (pu_int) (pu_asNil)))) (asSh_len (asBo_len (asSh_len (asNil_len))))) (pu_msNil))) (pu_gName (i := 3) S.nd rfl (by first | exact Or.inl rfl | exact Or.inr rfl)) (pu_cons (pu_par2 (i := 14) (j := 2) rfl S.nd rfl rfl (by decide) rfl rfl (pu_hsCons (pu_call (ok__law_draw G) (hr.mono (by first | decide | omega)) rfl G.g__law_draw G.F__law_draw.kp G.b__law_draw (pu_asSh (pu_var (i := 0)) (pu_asBo (pv 1) (pu_asSh (pu_var (i := 10)) (pu_asNil)))) (asSh_len (asBo_len (asSh_len (asNil_len))))) (pu_hsCons (pu_call (ok__law_draw G) (hr.mono (by first | decide | omega)) rfl G.g__law_draw G.F__law_draw.kp G.b__law_draw (pu_asSh (pu_var (i := 0)) (pu_asBo (pv 1) (pu_asSh (pu_var (i := 10)) (pu_asNil)))) (asSh_len (asBo_len (asSh_len (asNil_len))))) (pu_hsNil))) rfl)
      (pu_one (pu_if (pu_tcmp (op_ltM hu64) prim_lt (pu_var (i := 14)) (pu_var (i := 2))) (pu_one (pu_put hu1 (pv 11) (pu_op2 op_addA prim_add (pu_int) (pu_call (ok__law_draw G) (hr.mono (by first | decide | omega)) rfl G.g__law_draw G.F__law_draw.kp G.b__law_draw (pu_asSh (pu_var (i := 0)) (pu_asBo (pv 1) (pu_asSh (pu_int) (pu_asNil)))) (asSh_len (asBo_len (asSh_len (asNil_len)))))) (pu_tup (pu_dsCons (pu_var (i := 14)) (pu_dsCons (pu_var (i := 2)) (pu_dsNil))) (by decide) (dsCons_len (dsCons_len (dsNil_len)))))) (pu_nil)))))
      (pu_cons (pu_setX (i := 4) S.nd rfl (Or.inl rfl) rfl G.m_tuple bt_tuple (pu_lc rfl S.nd (pu_iOf (pu_callB (call_sortM rfl hu64) prim_sorted rfl G.m_sorted bt_sorted (pu_msCons (pu_var (i := 11)) (pu_msNil)))) (own := [((Str.ofString "pair"), 16)]) (blk_of (by rfl)) (fun _ _ _ _ _ => pu_gName (i := 16) S.nd rfl (by first | exact Or.inl rfl | exact Or.inr rfl)) (fun _ _ _ _ _ => pu_tsNil) (fun _ _ _ _ _ => pu_op2 op_addA prim_add (pu_var (i := 16)) (pu_tup (pu_dsCons (pu_sub hu1 (pu_var (i := 11)) (pu_var (i := 16))) (pu_dsNil)) (by decide) (dsCons_len (dsNil_len))))))
      (pu_cons (pu_set (i := 5) S.nd rfl (Or.inr rfl) (pu_call (ok__law_some_of G) (hr.mono (by first | decide | omega)) rfl G.g__law_some_of G.F__law_some_of.kp G.b__law_some_of (pu_asSh (pu_var (i := 0)) (pu_asBo (pv 1) (pu_asSh (pu_listRg1 rfl rfl G.m_list rfl G.m_range (pu_var (i := 10))) (pu_asSh (pu_op2 op_addA prim_add (pu_int) (pu_call (ok__law_draw G) (hr.mono (by first | decide | omega)) rfl G.g__law_draw G.F__law_draw.kp G.b__law_draw (pu_asSh (pu_var (i := 0)) (pu_asBo (pv 1) (pu_asSh (pu_int) (pu_asNil)))) (asSh_len (asBo_len (asSh_len (asNil_len)))))) (pu_asNil))))) (asSh_len (asBo_len (asSh_len (asSh_len (asNil_len)))))))
      (pu_cons (pu_setLc (i := 6) rfl S.nd rfl rfl rfl (pu_range1 rfl G.m_range (pu_msCons (pu_var (i := 10)) (pu_msNil))) (own := [((Str.ofString "place"), 15)]) (blk_of (by rfl)) (fun _ _ _ _ _ => pu_gName (i := 15) S.nd rfl (by first | exact Or.inl rfl | exact Or.inr rfl)) (fun _ _ _ _ _ => pu_tsOne (pu_tcmp (op_notInM hu65) prim_notIn (pu_var (i := 15)) (pu_var (i := 5)))) (fun _ _ _ _ _ => pu_var (i := 15)))
      (pu_cons (pu_set (i := 7) S.nd rfl (Or.inl rfl) (pu_call (ok__law_some_of G) (hr.mono (by first | decide | omega)) rfl G.g__law_some_of G.F__law_some_of.kp G.b__law_some_of (pu_asSh (pu_var (i := 0)) (pu_asBo (pv 1) (pu_asSh (pu_var (i := 6)) (pu_asSh (pu_call (ok__law_draw G) (hr.mono (by first | decide | omega)) rfl G.g__law_draw G.F__law_draw.kp G.b__law_draw (pu_asSh (pu_var (i := 0)) (pu_asBo (pv 1) (pu_asSh (pu_int) (pu_asNil)))) (asSh_len (asBo_len (asSh_len (asNil_len))))) (pu_asNil))))) (asSh_len (asBo_len (asSh_len (asSh_len (asNil_len)))))))
      (pu_cons (pu_set (i := 8) S.nd rfl (Or.inl rfl) (pu_call (ok__law_some_of G) (hr.mono (by first | decide | omega)) rfl G.g__law_some_of G.F__law_some_of.kp G.b__law_some_of (pu_asSh (pu_var (i := 0)) (pu_asBo (pv 1) (pu_asSh (pu_listRg1 rfl rfl G.m_list rfl G.m_range (pu_callB call_lenA prim_len rfl G.m_len bt_len (pu_msCons (pu_var (i := 4)) (pu_msNil)))) (pu_asSh (pu_call (ok__law_draw G) (hr.mono (by first | decide | omega)) rfl G.g__law_draw G.F__law_draw.kp G.b__law_draw (pu_asSh (pu_var (i := 0)) (pu_asBo (pv 1) (pu_asSh (pu_int) (pu_asNil)))) (asSh_len (asBo_len (asSh_len (asNil_len))))) (pu_asNil))))) (asSh_len (asBo_len (asSh_len (asSh_len (asNil_len)))))))
      (pu_cons (pu_set (i := 9) S.nd rfl (Or.inl rfl) (pu_tupX (j := 1) (i := 4) (pu_msCons (pu_var (i := 10)) (pu_msCons (pu_var (i := 4)) (pu_msCons (pu_tup (pu_dsNil) (by decide) (dsNil_len)) (pu_msCons (pu_var (i := 5)) (pu_msCons (pu_var (i := 7)) (pu_msCons (pu_var (i := 8)) (pu_msNil)))))))))
      (pu_cons (pu_for PassesOwn.never rfl (pu_range1 rfl G.m_range (pu_msCons (pu_int) (pu_msNil))) (pu_gName (i := 3) S.nd rfl (by first | exact Or.inl rfl | exact Or.inr rfl)) (pu_cons (pu_set (i := 12) S.nd rfl (Or.inl rfl) (pu_call (ok__law_some_of G) (hr.mono (by first | decide | omega)) rfl G.g__law_some_of G.F__law_some_of.kp G.b__law_some_of (pu_asSh (pu_var (i := 0)) (pu_asBo (pv 1) (pu_asSh (pu_call (ok__law_all_signs G) (hr.mono (by first | decide | omega)) rfl G.g__law_all_signs G.F__law_all_signs.kp G.b__law_all_signs (pu_asSh (pu_var (i := 9)) (pu_asNil)) (asSh_len (asNil_len))) (pu_asSh (pu_call (ok__law_draw G) (hr.mono (by first | decide | omega)) rfl G.g__law_draw G.F__law_draw.kp G.b__law_draw (pu_asSh (pu_var (i := 0)) (pu_asBo (pv 1) (pu_asSh (pu_int) (pu_asNil)))) (asSh_len (asBo_len (asSh_len (asNil_len))))) (pu_asNil))))) (asSh_len (asBo_len (asSh_len (asSh_len (asNil_len)))))))
      (pu_cons (pu_set (i := 13) S.nd rfl (Or.inl rfl) (pu_tupX (j := 1) (i := 4) (pu_msCons (pu_var (i := 10)) (pu_msCons (pu_var (i := 4)) (pu_msCons (pu_var (i := 12)) (pu_msCons (pu_var (i := 5)) (pu_msCons (pu_var (i := 7)) (pu_msCons (pu_var (i := 8)) (pu_msNil)))))))))
      (pu_one (pu_if (pu_tv (pu_call (ok_is_town G) (hr.mono (by first | decide | omega)) rfl G.g_is_town G.F_is_town.kp G.b_is_town (pu_asSh (pu_var (i := 13)) (pu_asNil)) (asSh_len (asNil_len)))) (pu_one (pu_copyX (i := 9) (j := 13) S.nd rfl (Or.inl rfl) (pv 13))) (pu_nil))))))
      (pu_one (pu_ret (pu_var (i := 9)))))))))))))
theorem sc__law_pick : FnScope ["script", "state", "some"] ["script", "state", "some"] (defScope s__law_pick) := ⟨rfl, rfl, rfl, by decide +kernel, rfl, by decide +kernel, by decide +kernel⟩
theorem ok__law_pick (G : Gs K mg) : FnOk P Wd.w K mg base CX0 4 G.f__law_pick G.d__law_pick ["script", "state", "some"] (spFn K F__law_pick 3) := by
  have S := sc__law_pick
  refine def_ok (N := ["script", "state", "some"]) (ps := ["script", "state", "some"]) G.F__law_pick S (by decide) fun cdv A outer s H E hr => ?_
  have hu1 := room1 hr
  have hu64 := hr.units
  have hu65 := room65 hr
  exact pu_one (pu_ret (pu_sub hu1 (pu_var (i := 2)) (pu_call (ok__law_draw G) (hr.mono (by first | decide | omega)) rfl G.g__law_draw G.F__law_draw.kp G.b__law_draw (pu_asSh (pu_var (i := 0)) (pu_asBo (pv 1) (pu_asSh (pu_callB call_lenA prim_len rfl G.m_len bt_len (pu_msCons (pu_var (i := 2)) (pu_msNil))) (pu_asNil)))) (asSh_len (asBo_len (asSh_len (asNil_len)))))))
theorem sc__law_bad_streets : FnScope ["n", "a", "b", "found"] ["n", "a", "b"] (defScope s__law_bad_streets) := ⟨rfl, rfl, rfl, by decide +kernel, rfl, by decide +kernel, by decide +kernel⟩
theorem ok__law_bad_streets (G : Gs K mg) : FnOk P Wd.w K mg base CX0 1 G.f__law_bad_streets G.d__law_bad_streets ["n", "a", "b"] (spFn K F__law_bad_streets 3) := by
  have S := sc__law_bad_streets
  refine def_ok (N := ["n", "a", "b", "found"]) (ps := ["n", "a", "b"]) G.F__law_bad_streets S (by decide) fun cdv A outer s H E hr => ?_
  have hu1 := room1 hr
  have hu64 := hr.units
  have hu65 := room65 hr
  exact pu_cons (pu_set (i := 3) S.nd rfl (Or.inl rfl) (pu_lst (pu_dsCons (pu_tup (pu_dsCons (pu_tup (pu_dsCons (pu_var (i := 1)) (pu_dsCons (pu_var (i := 2)) (pu_dsCons (pu_int) (pu_dsNil)))) (by decide) (dsCons_len (dsCons_len (dsCons_len (dsNil_len))))) (pu_dsNil)) (by decide) (dsCons_len (dsNil_len))) (pu_dsCons (pu_tup (pu_dsCons (pu_tup (pu_dsCons (pu_var (i := 1)) (pu_dsCons (pu_var (i := 2)) (pu_dsCons (pu_int) (pu_dsNil)))) (by decide) (dsCons_len (dsCons_len (dsCons_len (dsNil_len))))) (pu_dsNil)) (by decide) (dsCons_len (dsNil_len))) (pu_dsCons (pu_tup (pu_dsCons (pu_tup (pu_dsCons (pu_var (i := 2)) (pu_dsCons (pu_var (i := 1)) (pu_dsCons (pu_int) (pu_dsNil)))) (by decide) (dsCons_len (dsCons_len (dsCons_len (dsNil_len))))) (pu_dsNil)) (by decide) (dsCons_len (dsNil_len))) (pu_dsCons (pu_tup (pu_dsCons (pu_tup (pu_dsCons (pu_var (i := 1)) (pu_dsCons (pu_var (i := 1)) (pu_dsCons (pu_int) (pu_dsNil)))) (by decide) (dsCons_len (dsCons_len (dsCons_len (dsNil_len))))) (pu_dsNil)) (by decide) (dsCons_len (dsNil_len))) (pu_dsCons (pu_tup (pu_dsCons (pu_tup (pu_dsCons (pu_var (i := 1)) (pu_dsCons (pu_var (i := 2)) (pu_dsCons (pu_bl) (pu_dsNil)))) (by decide) (dsCons_len (dsCons_len (dsCons_len (dsNil_len))))) (pu_dsNil)) (by decide) (dsCons_len (dsNil_len))) (pu_dsCons (pu_tup (pu_dsCons (pu_tup (pu_dsCons (pu_var (i := 1)) (pu_dsCons (pu_var (i := 0)) (pu_dsCons (pu_int) (pu_dsNil)))) (by decide) (dsCons_len (dsCons_len (dsCons_len (dsNil_len))))) (pu_dsNil)) (by decide) (dsCons_len (dsNil_len))) (pu_dsCons (pu_tup (pu_dsCons (pu_tup (pu_dsCons (pu_var (i := 1)) (pu_dsCons (pu_var (i := 2)) (pu_dsNil))) (by decide) (dsCons_len (dsCons_len (dsNil_len)))) (pu_dsNil)) (by decide) (dsCons_len (dsNil_len))) (pu_dsNil)))))))) (by decide) (dsCons_len (dsCons_len (dsCons_len (dsCons_len (dsCons_len (dsCons_len (dsCons_len (dsNil_len))))))))))
      (pu_one (pu_ret (pu_op2 op_addA prim_add (pu_var (i := 3)) (pu_lst (pu_dsCons (pu_op2 op_mulA prim_mul (pu_tup (pu_dsCons (pu_tup (pu_dsCons (pu_var (i := 1)) (pu_dsCons (pu_var (i := 2)) (pu_dsCons (pu_int) (pu_dsNil)))) (by decide) (dsCons_len (dsCons_len (dsCons_len (dsNil_len))))) (pu_dsNil)) (by decide) (dsCons_len (dsNil_len))) (pu_int)) (pu_dsNil)) (by decide) (dsCons_len (dsNil_len))))))
theorem sc__law_bad_signs : FnScope ["n", "a", "b", "found"] ["n", "a", "b"] (defScope s__law_bad_signs) := ⟨rfl, rfl, rfl, by decide +kernel, rfl, by decide +kernel, by decide +kernel⟩
theorem ok__law_bad_signs (G : Gs K mg) : FnOk P Wd.w K mg base CX0 1 G.f__law_bad_signs G.d__law_bad_signs ["n", "a", "b"] (spFn K F__law_bad_signs 3) := by
  have S := sc__law_bad_signs
  refine def_ok (N := ["n", "a", "b", "found"]) (ps := ["n", "a", "b"]) G.F__law_bad_signs S (by decide) fun cdv A outer s H E hr => ?_
  have hu1 := room1 hr
  have hu64 := hr.units
  have hu65 := room65 hr
  exact pu_cons (pu_set (i := 3) S.nd rfl (Or.inl rfl) (pu_lst (pu_dsCons (pu_tup (pu_dsCons (pu_tup (pu_dsCons (pu_str) (pu_dsCons (pu_var (i := 2)) (pu_dsCons (pu_var (i := 1)) (pu_dsNil)))) (by decide) (dsCons_len (dsCons_len (dsCons_len (dsNil_len))))) (pu_dsNil)) (by decide) (dsCons_len (dsNil_len))) (pu_dsCons (pu_tup (pu_dsCons (pu_tup (pu_dsCons (pu_str) (pu_dsCons (pu_var (i := 1)) (pu_dsCons (pu_var (i := 1)) (pu_dsNil)))) (by decide) (dsCons_len (dsCons_len (dsCons_len (dsNil_len))))) (pu_dsNil)) (by decide) (dsCons_len (dsNil_len))) (pu_dsCons (pu_tup (pu_dsCons (pu_tup (pu_dsCons (pu_str) (pu_dsCons (pu_var (i := 1)) (pu_dsCons (pu_var (i := 2)) (pu_dsCons (pu_var (i := 1)) (pu_dsNil))))) (by decide) (dsCons_len (dsCons_len (dsCons_len (dsCons_len (dsNil_len)))))) (pu_dsNil)) (by decide) (dsCons_len (dsNil_len))) (pu_dsCons (pu_tup (pu_dsCons (pu_tup (pu_dsCons (pu_str) (pu_dsCons (pu_var (i := 1)) (pu_dsCons (pu_var (i := 0)) (pu_dsNil)))) (by decide) (dsCons_len (dsCons_len (dsCons_len (dsNil_len))))) (pu_dsNil)) (by decide) (dsCons_len (dsNil_len))) (pu_dsCons (pu_tup (pu_dsCons (pu_tup (pu_dsCons (pu_str) (pu_dsCons (pu_bl) (pu_dsCons (pu_var (i := 2)) (pu_dsNil)))) (by decide) (dsCons_len (dsCons_len (dsCons_len (dsNil_len))))) (pu_dsNil)) (by decide) (dsCons_len (dsNil_len))) (pu_dsNil)))))) (by decide) (dsCons_len (dsCons_len (dsCons_len (dsCons_len (dsCons_len (dsNil_len))))))))
      (pu_cons (pu_expr (pu_append (pv 3) (pu_tup (pu_dsCons (pu_tup (pu_dsCons (pu_str) (pu_dsCons (pu_var (i := 1)) (pu_dsNil))) (by decide) (dsCons_len (dsCons_len (dsNil_len)))) (pu_dsNil)) (by decide) (dsCons_len (dsNil_len)))))
      (pu_cons (pu_expr (pu_extend (pv 3) (pu_lst (pu_dsCons (pu_tup (pu_dsCons (pu_tup (pu_dsCons (pu_str) (pu_dsCons (pu_var (i := 1)) (pu_dsCons (pu_var (i := 2)) (pu_dsNil)))) (by decide) (dsCons_len (dsCons_len (dsCons_len (dsNil_len))))) (pu_dsNil)) (by decide) (dsCons_len (dsNil_len))) (pu_dsCons (pu_tup (pu_dsCons (pu_tup (pu_dsCons (pu_str) (pu_dsCons (pu_var (i := 1)) (pu_dsCons (pu_var (i := 2)) (pu_dsCons (pu_int) (pu_dsNil))))) (by decide) (dsCons_len (dsCons_len (dsCons_len (dsCons_len (dsNil_len)))))) (pu_dsNil)) (by decide) (dsCons_len (dsNil_len))) (pu_dsCons (pu_tup (pu_dsCons (pu_str) (pu_dsCons (pu_var (i := 1)) (pu_dsCons (pu_var (i := 2)) (pu_dsNil)))) (by decide) (dsCons_len (dsCons_len (dsCons_len (dsNil_len))))) (pu_dsCons (pu_lst (pu_dsCons (pu_tup (pu_dsCons (pu_str) (pu_dsCons (pu_var (i := 1)) (pu_dsCons (pu_var (i := 2)) (pu_dsNil)))) (by decide) (dsCons_len (dsCons_len (dsCons_len (dsNil_len))))) (pu_dsNil)) (by decide) (dsCons_len (dsNil_len))) (pu_dsCons (pu_tup (pu_dsCons (pu_tup (pu_dsCons (pu_str) (pu_dsCons (pu_var (i := 1)) (pu_dsCons (pu_var (i := 2)) (pu_dsNil)))) (by decide) (dsCons_len (dsCons_len (dsCons_len (dsNil_len))))) (pu_dsNil)) (by decide) (dsCons_len (dsNil_len))) (pu_dsCons (pu_tup (pu_dsCons (pu_non) (pu_dsNil)) (by decide) (dsCons_len (dsNil_len))) (pu_dsNil))))))) (by decide) (dsCons_len (dsCons_len (dsCons_len (dsCons_len (dsCons_len (dsCons_len (dsNil_len))))))))))
      (pu_one (pu_ret (pu_op2 op_addA prim_add (pu_var (i := 3)) (pu_lst (pu_dsCons (pu_tup (pu_dsCons (pu_tup (pu_dsCons (pu_str) (pu_dsCons (pu_var (i := 1)) (pu_dsCons (pu_var (i := 2)) (pu_dsNil)))) (by decide) (dsCons_len (dsCons_len (dsCons_len (dsNil_len))))) (pu_dsCons (pu_tup (pu_dsCons (pu_str) (pu_dsCons (pu_var (i := 1)) (pu_dsCons (pu_var (i := 2)) (pu_dsNil)))) (by decide) (dsCons_len (dsCons_len (dsCons_len (dsNil_len))))) (pu_dsNil))) (by decide) (dsCons_len (dsCons_len (dsNil_len)))) (pu_dsCons (pu_tup (pu_dsCons (pu_tup (pu_dsCons (pu_str) (pu_dsCons (pu_var (i := 2)) (pu_dsCons (pu_var (i := 1)) (pu_dsNil)))) (by decide) (dsCons_len (dsCons_len (dsCons_len (dsNil_len))))) (pu_dsCons (pu_tup (pu_dsCons (pu_str) (pu_dsCons (pu_var (i := 1)) (pu_dsCons (pu_var (i := 2)) (pu_dsNil)))) (by decide) (dsCons_len (dsCons_len (dsCons_len (dsNil_len))))) (pu_dsNil))) (by decide) (dsCons_len (dsCons_len (dsNil_len)))) (pu_dsCons (pu_tup (pu_dsCons (pu_tup (pu_dsCons (pu_str) (pu_dsCons (pu_var (i := 1)) (pu_dsCons (pu_callTy call_strA prim_str rfl G.m_str bt_str (pu_msCons (pu_var (i := 2)) (pu_msNil))) (pu_dsNil)))) (by decide) (dsCons_len (dsCons_len (dsCons_len (dsNil_len))))) (pu_dsNil)) (by decide) (dsCons_len (dsNil_len))) (pu_dsNil)))) (by decide) (dsCons_len (dsCons_len (dsCons_len (dsNil_len))))))))))
theorem sc_law : FnScope ["script", "state", "town", "at", "fresh", "bad", "one", "more", "n", "streets", "signs", "gates", "houses", "quiet", "a", "b", "length", "place"] ["script"] (defScope s_law) := ⟨rfl, rfl, rfl, by decide +kernel, rfl, by decide +kernel, by decide +kernel⟩
theorem ok_law {f : Addr} {fd : FuncData} (G : Gs K mg) (F : FnP K "law" s_law f fd) : FnOk P Wd.w K mg base CX0 8 f fd ["script"] (spFn K F_law 1) := by
  have S := sc_law
  refine def_ok (N := ["script", "state", "town", "at", "fresh", "bad", "one", "more", "n", "streets", "signs", "gates", "houses", "quiet", "a", "b", "length", "place"]) (ps := ["script"]) F S (by decide) fun cdv A outer s H E hr => ?_
  have hu1 := room1 hr
  have hu64 := hr.units
  have hu65 := room65 hr
  exact pu_cons (pu_set (i := 1) S.nd rfl (Or.inl rfl) (pu_lst (pu_dsNil) (by decide) (dsNil_len)))
      (pu_cons (pu_set (i := 2) S.nd rfl (Or.inr rfl) (pu_call (ok__law_some_townX G) (hr.mono (by first | decide | omega)) rfl G.g__law_some_town G.F__law_some_townX.kp G.b__law_some_townX (pu_asSh (pu_var (i := 0)) (pu_asBo (pv 1) (pu_asNil))) (asSh_len (asBo_len (asNil_len)))))
      (pu_cons (pu_unpX (is := [8, 9, 10, 11, 12, 13]) (j := 1) (i := 2) (pv 2) (pg_tup rfl (pgs_cons (pg_name (i := 8) S.nd rfl (Or.inr rfl)) (pgs_cons (pg_name (i := 9) S.nd rfl (Or.inr rfl)) (pgs_cons (pg_name (i := 10) S.nd rfl (Or.inr rfl)) (pgs_cons (pg_name (i := 11) S.nd rfl (Or.inr rfl)) (pgs_cons (pg_name (i := 12) S.nd rfl (Or.inr rfl)) (pgs_cons (pg_name (i := 13) S.nd rfl (Or.inr rfl)) (pgs_nil)))))))))
      (pu_cons (pu_if (pu_tcmp op_notA prim_isNot (pu_call (ok_is_town G) (hr.mono (by first | decide | omega)) rfl G.g_is_town G.F_is_town.kp G.b_is_town (pu_asSh (pu_var (i := 2)) (pu_asNil)) (asSh_len (asNil_len))) (pu_bl)) (pu_one (pu_ret (pu_bl))) (pu_nil))
      (pu_cons (pu_unp (pu_call (ok__law_pick G) (hr.mono (by first | decide | omega)) rfl G.g__law_pick G.F__law_pick.kp G.b__law_pick (pu_asSh (pu_var (i := 0)) (pu_asBo (pv 1) (pu_asSh (pu_var (i := 9)) (pu_asNil)))) (asSh_len (asBo_len (asSh_len (asNil_len))))) (pu_gTup rfl (pu_gsCons (pu_gName (i := 14) S.nd rfl (by first | exact Or.inl rfl | exact Or.inr rfl)) (pu_gsCons (pu_gName (i := 15) S.nd rfl (by first | exact Or.inl rfl | exact Or.inr rfl)) (pu_gsCons (pu_gName (i := 16) S.nd rfl (by first | exact Or.inl rfl | exact Or.inr rfl)) (pu_gsNil)))) (gsCons_len (gsCons_len (gsCons_len (gsNil_len))))))
      (pu_cons (pu_set (i := 3) S.nd rfl (Or.inl rfl) (pu_indexX hu65 (pv 9) (pu_tup (pu_dsCons (pu_var (i := 14)) (pu_dsCons (pu_var (i := 15)) (pu_dsCons (pu_var (i := 16)) (pu_dsNil)))) (by decide) (dsCons_len (dsCons_len (dsCons_len (dsNil_len)))))))
      (pu_cons (pu_setLc (i := 4) rfl S.nd rfl rfl rfl (pu_range1 rfl G.m_range (pu_msCons (pu_var (i := 8)) (pu_msNil))) (own := [((Str.ofString "place"), 17)]) (blk_of (by rfl)) (fun _ _ _ _ _ => pu_gName (i := 17) S.nd rfl (by first | exact Or.inl rfl | exact Or.inr rfl)) (fun _ _ _ _ _ => pu_tsOne (pu_tcmp (op_notInM hu65) prim_notIn (pu_var (i := 17)) (pu_op2 op_addA prim_add (pu_var (i := 11)) (pu_var (i := 12))))) (fun _ _ _ _ _ => pu_var (i := 17)))
      (pu_cons (pu_set (i := 5) S.nd rfl (Or.inl rfl) (pu_op2 op_addA prim_add (pu_lc rfl S.nd (pu_iOf (pu_tup (pu_dsCons (pu_int) (pu_dsCons (pu_op2 op_addA prim_add (pu_var (i := 8)) (pu_int)) (pu_dsCons (pu_bl) (pu_dsCons (pu_var (i := 15)) (pu_dsNil))))) (by decide) (dsCons_len (dsCons_len (dsCons_len (dsCons_len (dsNil_len))))))) (own := [((Str.ofString "one"), 6)]) (blk_of (by rfl)) (fun _ _ _ _ _ => pu_gName (i := 6) S.nd rfl (by first | exact Or.inl rfl | exact Or.inr rfl)) (fun _ _ _ _ _ => pu_tsNil) (fun _ _ _ _ _ => pu_op2 op_addA prim_add (pu_tup (pu_dsCons (pu_var (i := 6)) (pu_dsNil)) (by decide) (dsCons_len (dsNil_len))) (pu_slice (pu_var (i := 2)) (pu_oSome (pu_int)) (pu_oNone)))) (pu_lst (pu_dsCons (pu_callTy (call_listA rfl) prim_list rfl G.m_list bt_list (pu_msCons (pu_var (i := 2)) (pu_msNil))) (pu_dsCons (pu_slice (pu_var (i := 2)) (pu_oNone) (pu_oSome (pu_int))) (pu_dsNil))) (by decide) (dsCons_len (dsCons_len (dsNil_len))))))
      (pu_cons (pu_for PassesOwn.never rfl (pu_iOf (pu_call (ok__law_bad_streets G) (hr.mono (by first | decide | omega)) rfl G.g__law_bad_streets G.F__law_bad_streets.kp G.b__law_bad_streets (pu_asSh (pu_var (i := 8)) (pu_asSh (pu_var (i := 14)) (pu_asSh (pu_var (i := 15)) (pu_asNil)))) (asSh_len (asSh_len (asSh_len (asNil_len)))))) (pu_gName (i := 6) S.nd rfl (by first | exact Or.inl rfl | exact Or.inr rfl)) (pu_one (pu_expr (pu_append (pv 5) (pu_tup (pu_dsCons (pu_var (i := 8)) (pu_dsCons (pu_op2 op_addA prim_add (pu_op2 op_addA prim_add (pu_slice (pu_var (i := 9)) (pu_oNone) (pu_oSome (pu_var (i := 3)))) (pu_var (i := 6))) (pu_slice (pu_var (i := 9)) (pu_oSome (pu_var (i := 3))) (pu_oNone))) (pu_dsCons (pu_var (i := 10)) (pu_dsCons (pu_var (i := 11)) (pu_dsCons (pu_var (i := 12)) (pu_dsCons (pu_var (i := 13)) (pu_dsNil))))))) (by decide) (dsCons_len (dsCons_len (dsCons_len (dsCons_len (dsCons_len (dsCons_len (dsNil_len))))))))))))
      (pu_cons (pu_set (i := 7) S.nd rfl (Or.inl rfl) (pu_tup (pu_dsCons (pu_tup (pu_dsCons (pu_var (i := 14)) (pu_dsCons (pu_var (i := 15)) (pu_dsCons (pu_var (i := 16)) (pu_dsNil)))) (by decide) (dsCons_len (dsCons_len (dsCons_len (dsNil_len))))) (pu_dsCons (pu_tup (pu_dsCons (pu_var (i := 14)) (pu_dsCons (pu_var (i := 15)) (pu_dsCons (pu_op2 op_addA prim_add (pu_var (i := 16)) (pu_int)) (pu_dsNil)))) (by decide) (dsCons_len (dsCons_len (dsCons_len (dsNil_len))))) (pu_dsNil))) (by decide) (dsCons_len (dsCons_len (dsNil_len)))))
      (pu_cons (pu_expr (pu_append (pv 5) (pu_tup (pu_dsCons (pu_var (i := 8)) (pu_dsCons (pu_op2 op_addA prim_add (pu_op2 op_addA prim_add (pu_slice (pu_var (i := 9)) (pu_oNone) (pu_oSome (pu_var (i := 3)))) (pu_var (i := 7))) (pu_slice (pu_var (i := 9)) (pu_oSome (pu_op2 op_addA prim_add (pu_var (i := 3)) (pu_int))) (pu_oNone))) (pu_dsCons (pu_var (i := 10)) (pu_dsCons (pu_var (i := 11)) (pu_dsCons (pu_var (i := 12)) (pu_dsCons (pu_var (i := 13)) (pu_dsNil))))))) (by decide) (dsCons_len (dsCons_len (dsCons_len (dsCons_len (dsCons_len (dsCons_len (dsNil_len))))))))))
      (pu_cons (pu_if (pu_tcmp op_gt prim_gt (pu_callB call_lenA prim_len rfl G.m_len bt_len (pu_msCons (pu_var (i := 9)) (pu_msNil))) (pu_int)) (pu_one (pu_expr (pu_append (pv 5) (pu_tup (pu_dsCons (pu_var (i := 8)) (pu_dsCons (pu_rev (pu_var (i := 9))) (pu_dsCons (pu_var (i := 10)) (pu_dsCons (pu_var (i := 11)) (pu_dsCons (pu_var (i := 12)) (pu_dsCons (pu_var (i := 13)) (pu_dsNil))))))) (by decide) (dsCons_len (dsCons_len (dsCons_len (dsCons_len (dsCons_len (dsCons_len (dsNil_len))))))))))) (pu_nil))
      (pu_cons (pu_expr (pu_append (pv 5) (pu_tup (pu_dsCons (pu_var (i := 8)) (pu_dsCons (pu_tup (pu_dsNil) (by decide) (dsNil_len)) (pu_dsCons (pu_tup (pu_dsNil) (by decide) (dsNil_len)) (pu_dsCons (pu_var (i := 11)) (pu_dsCons (pu_var (i := 12)) (pu_dsCons (pu_tup (pu_dsNil) (by decide) (dsNil_len)) (pu_dsNil))))))) (by decide) (dsCons_len (dsCons_len (dsCons_len (dsCons_len (dsCons_len (dsCons_len (dsNil_len))))))))))
      (pu_cons (pu_expr (pu_extend (pv 5) (pu_lc rfl S.nd (pu_iOf (pu_call (ok__law_bad_signs G) (hr.mono (by first | decide | omega)) rfl G.g__law_bad_signs G.F__law_bad_signs.kp G.b__law_bad_signs (pu_asSh (pu_var (i := 8)) (pu_asSh (pu_var (i := 14)) (pu_asSh (pu_var (i := 15)) (pu_asNil)))) (asSh_len (asSh_len (asSh_len (asNil_len)))))) (own := [((Str.ofString "one"), 6)]) (blk_of (by rfl)) (fun _ _ _ _ _ => pu_gName (i := 6) S.nd rfl (by first | exact Or.inl rfl | exact Or.inr rfl)) (fun _ _ _ _ _ => pu_tsNil) (fun _ _ _ _ _ => pu_tup (pu_dsCons (pu_var (i := 8)) (pu_dsCons (pu_var (i := 9)) (pu_dsCons (pu_var (i := 6)) (pu_dsCons (pu_var (i := 11)) (pu_dsCons (pu_var (i := 12)) (pu_dsCons (pu_var (i := 13)) (pu_dsNil))))))) (by decide) (dsCons_len (dsCons_len (dsCons_len (dsCons_len (dsCons_len (dsCons_len (dsNil_len)))))))))))
      (pu_cons (pu_expr (pu_extend (pv 5) (pu_lc rfl S.nd (pu_iOf (pu_tup (pu_dsCons (pu_slice (pu_var (i := 11)) (pu_oNone) (pu_oSome (pu_int))) (pu_dsCons (pu_rev (pu_var (i := 11))) (pu_dsCons (pu_op2 op_addA prim_add (pu_var (i := 11)) (pu_tup (pu_dsCons (pu_var (i := 8)) (pu_dsNil)) (by decide) (dsCons_len (dsNil_len)))) (pu_dsCons (pu_callTy (call_listA rfl) prim_list rfl G.m_list bt_list (pu_msCons (pu_var (i := 11)) (pu_msNil))) (pu_dsNil))))) (by decide) (dsCons_len (dsCons_len (dsCons_len (dsCons_len (dsNil_len))))))) (own := [((Str.ofString "one"), 6)]) (blk_of (by rfl)) (fun _ _ _ _ _ => pu_gName (i := 6) S.nd rfl (by first | exact Or.inl rfl | exact Or.inr rfl)) (fun _ _ _ _ _ => pu_tsNil) (fun _ _ _ _ _ => pu_tup (pu_dsCons (pu_var (i := 8)) (pu_dsCons (pu_var (i := 9)) (pu_dsCons (pu_var (i := 10)) (pu_dsCons (pu_var (i := 6)) (pu_dsCons (pu_var (i := 12)) (pu_dsCons (pu_var (i := 13)) (pu_dsNil))))))) (by decide) (dsCons_len (dsCons_len (dsCons_len (dsCons_len (dsCons_len (dsCons_len (dsNil_len)))))))))))
      (pu_cons (pu_expr (pu_extend (pv 5) (pu_lc rfl S.nd (pu_iOf (pu_tup (pu_dsCons (pu_slice (pu_var (i := 11)) (pu_oNone) (pu_oSome (pu_int))) (pu_dsCons (pu_tup (pu_dsCons (pu_var (i := 8)) (pu_dsNil)) (by decide) (dsCons_len (dsNil_len))) (pu_dsCons (pu_tup (pu_dsCons (pu_un un_neg prim_neg (pu_int)) (pu_dsNil)) (by decide) (dsCons_len (dsNil_len))) (pu_dsCons (pu_non) (pu_dsCons (pu_tup (pu_dsCons (pu_bl) (pu_dsNil)) (by decide) (dsCons_len (dsNil_len))) (pu_dsNil)))))) (by decide) (dsCons_len (dsCons_len (dsCons_len (dsCons_len (dsCons_len (dsNil_len)))))))) (own := [((Str.ofString "one"), 6)]) (blk_of (by rfl)) (fun _ _ _ _ _ => pu_gName (i := 6) S.nd rfl (by first | exact Or.inl rfl | exact Or.inr rfl)) (fun _ _ _ _ _ => pu_tsNil) (fun _ _ _ _ _ => pu_tup (pu_dsCons (pu_var (i := 8)) (pu_dsCons (pu_var (i := 9)) (pu_dsCons (pu_var (i := 10)) (pu_dsCons (pu_var (i := 11)) (pu_dsCons (pu_var (i := 6)) (pu_dsCons (pu_var (i := 13)) (pu_dsNil))))))) (by decide) (dsCons_len (dsCons_len (dsCons_len (dsCons_len (dsCons_len (dsCons_len (dsNil_len)))))))))))
      (pu_cons (pu_expr (pu_extend (pv 5) (pu_lc rfl S.nd (pu_iOf (pu_tup (pu_dsCons (pu_tup (pu_dsCons (pu_callB call_lenA prim_len rfl G.m_len bt_len (pu_msCons (pu_var (i := 9)) (pu_msNil))) (pu_dsNil)) (by decide) (dsCons_len (dsNil_len))) (pu_dsCons (pu_tup (pu_dsCons (pu_int) (pu_dsCons (pu_int) (pu_dsNil))) (by decide) (dsCons_len (dsCons_len (dsNil_len)))) (pu_dsCons (pu_tup (pu_dsCons (pu_un un_neg prim_neg (pu_int)) (pu_dsNil)) (by decide) (dsCons_len (dsNil_len))) (pu_dsCons (pu_lst (pu_dsCons (pu_int) (pu_dsNil)) (by decide) (dsCons_len (dsNil_len))) (pu_dsCons (pu_tup (pu_dsCons (pu_bl) (pu_dsNil)) (by decide) (dsCons_len (dsNil_len))) (pu_dsNil)))))) (by decide) (dsCons_len (dsCons_len (dsCons_len (dsCons_len (dsCons_len (dsNil_len)))))))) (own := [((Str.ofString "one"), 6)]) (blk_of (by rfl)) (fun _ _ _ _ _ => pu_gName (i := 6) S.nd rfl (by first | exact Or.inl rfl | exact Or.inr rfl)) (fun _ _ _ _ _ => pu_tsNil) (fun _ _ _ _ _ => pu_tup (pu_dsCons (pu_var (i := 8)) (pu_dsCons (pu_var (i := 9)) (pu_dsCons (pu_var (i := 10)) (pu_dsCons (pu_var (i := 11)) (pu_dsCons (pu_var (i := 12)) (pu_dsCons (pu_var (i := 6)) (pu_dsNil))))))) (by decide) (dsCons_len (dsCons_len (dsCons_len (dsCons_len (dsCons_len (dsCons_len (dsNil_len)))))))))))
      (pu_cons (pu_if (pu_tcmp (op_neM hu64) prim_ne (pu_var (i := 4)) (pu_lst (pu_dsNil) (by decide) (dsNil_len))) (pu_one (pu_expr (pu_append (pv 5) (pu_tup (pu_dsCons (pu_var (i := 8)) (pu_dsCons (pu_var (i := 9)) (pu_dsCons (pu_var (i := 10)) (pu_dsCons (pu_var (i := 11)) (pu_dsCons (pu_callTy call_tuple_of prim_tuple rfl G.m_tuple bt_tuple (pu_msCons (pu_repL (pu_slice (pu_var (i := 4)) (pu_oNone) (pu_oSome (pu_int))) (pu_int)) (pu_msNil))) (pu_dsCons (pu_var (i := 13)) (pu_dsNil))))))) (by decide) (dsCons_len (dsCons_len (dsCons_len (dsCons_len (dsCons_len (dsCons_len (dsNil_len))))))))))) (pu_nil))
      (pu_one (pu_ret (pu_callB (cr_all rfl) prim_all rfl G.m_all bt_all (pu_msCons (pu_lc rfl S.nd (pu_iOf (pu_var (i := 5))) (own := [((Str.ofString "one"), 6)]) (blk_of (by rfl)) (fun _ _ _ _ _ => pu_gName (i := 6) S.nd rfl (by first | exact Or.inl rfl | exact Or.inr rfl)) (fun _ _ _ _ _ => pu_tsNil) (fun _ _ _ _ _ => pu_cmp op_isA prim_is (pu_call (ok_is_town G) (hr.mono (by first | decide | omega)) rfl G.g_is_town G.F_is_town.kp G.b_is_town (pu_asSh (pu_var (i := 6)) (pu_asNil)) (asSh_len (asNil_len))) (pu_bl))) (pu_msNil))))))))))))))))))))))
end
end Q
set_option maxRecDepth 100000
set_option maxHeartbeats 0
namespace Q
open PySem PySem.Spec PyProof.Rows L2 Pu
def LawTrue : Prop := ∀ ns : List Int, ns.length ≤ 63 → ∃ ts, F_law [.sh (.list (ns.map PyData.int))] = some (.sh (.bool true), ts)
theorem sp_law [Wd] {K : PySem.W.Frag} (hl : LawTrue) (H : Hp) (a : Addr) (ns : List Int) (hn : ns.length ≤ 63) (hO : Only H) (hS : SqL K H a (ns.map V.int)) : spFn K F_law 1 [.ref a] H (fun v _ => v = .bl true) fun _ _ _ => False := law_enter (hl ns hn) hO hS
theorem facts {P : Program} {w : World} {K : PySem.W.Frag} {h : Heap} {mg : Str → Option Value} {f : Addr} (X : K.In h) (G0 : h.Ns mainGlobals mg) (hfa : mg ("law" : Str) = some (.ref f)) (c : He.SaysD fa fn K) :
    ∃ fd : FuncData, (∀ (s : Shared) (v : Value), BindsTo s fd ⟨[v], []⟩ [("script", v)]) ∧ ∀ base : Heap, K.In base → base.Ns mainGlobals mg → FnOk P w K mg base CX0 8 f fd ["script"] (@spFn ⟨w⟩ K F_law 1) := by
  obtain ⟨e__law_cell_at, z__law_cell_at⟩ := c.def_ 0 (d := dd__law_cell_at) rfl
  obtain ⟨e__law_mixed, z__law_mixed⟩ := c.def_ 1 (d := dd__law_mixed) rfl
  obtain ⟨e__law_draw, z__law_draw⟩ := c.def_ 2 (d := dd__law_draw) rfl
  obtain ⟨e__law_some_of, z__law_some_of⟩ := c.def_ 3 (d := dd__law_some_of) rfl
  obtain ⟨e_rises, z_rises⟩ := c.def_ 4 (d := dd_rises) rfl
  obtain ⟨e_is_integer, z_is_integer⟩ := c.def_ 5 (d := dd_is_integer) rfl
  obtain ⟨e_are_numbers, z_are_numbers⟩ := c.def_ 6 (d := dd_are_numbers) rfl
  obtain ⟨e_lengths_of, z_lengths_of⟩ := c.def_ 7 (d := dd_lengths_of) rfl
  obtain ⟨e_bars_direction, z_bars_direction⟩ := c.def_ 8 (d := dd_bars_direction) rfl
  obtain ⟨e_firsts, z_firsts⟩ := c.def_ 9 (d := dd_firsts) rfl
  obtain ⟨e_nexts, z_nexts⟩ := c.def_ 10 (d := dd_nexts) rfl
  obtain ⟨e_least_table, z_least_table⟩ := c.def_ 11 (d := dd_least_table) rfl
  obtain ⟨e_least_to, z_least_to⟩ := c.def_ 12 (d := dd_least_to) rfl
  obtain ⟨e_joins_all, z_joins_all⟩ := c.def_ 13 (d := dd_joins_all) rfl
  obtain ⟨e_is_street, z_is_street⟩ := c.def_ 14 (d := dd_is_street) rfl
  obtain ⟨e_are_streets, z_are_streets⟩ := c.def_ 15 (d := dd_are_streets) rfl
  obtain ⟨e_street_between, z_street_between⟩ := c.def_ 16 (d := dd_street_between) rfl
  obtain ⟨e_sign_stands, z_sign_stands⟩ := c.def_ 17 (d := dd_sign_stands) rfl
  obtain ⟨e_signs_stand, z_signs_stand⟩ := c.def_ 18 (d := dd_signs_stand) rfl
  obtain ⟨e_stands, z_stands⟩ := c.def_ 19 (d := dd_stands) rfl
  obtain ⟨e_is_town, z_is_town⟩ := c.def_ 20 (d := dd_is_town) rfl
  obtain ⟨e__law_all_signs, z__law_all_signs⟩ := c.def_ 21 (d := dd__law_all_signs) rfl
  obtain ⟨e__law_some_town, z__law_some_town⟩ := c.def_ 22 (d := dd__law_some_town) rfl
  obtain ⟨e__law_pick, z__law_pick⟩ := c.def_ 23 (d := dd__law_pick) rfl
  obtain ⟨e__law_bad_streets, z__law_bad_streets⟩ := c.def_ 24 (d := dd__law_bad_streets) rfl
  obtain ⟨e__law_bad_signs, z__law_bad_signs⟩ := c.def_ 25 (d := dd__law_bad_signs) rfl
  obtain ⟨e_law, z_law⟩ := c.def_ 26 (d := dd_law) rfl
  have e := hfa.symm.trans (He.glo_ok X G0 (c.fact 26 (f := .glo "law") rfl))
  cases e
  have b := FunD.bindsA (ps := ["script"]) z_law fun _ _ _ _ _ _ us hl => match us, hl with | [_], _ => rfl
  let G : Gs K mg := {
    m_all := He.free_ok X G0 (c.fact 27 (f := .free "all") rfl)
    m_any := He.free_ok X G0 (c.fact 28 (f := .free "any") rfl)
    m_bool := He.free_ok X G0 (c.fact 29 (f := .free "bool") rfl)
    m_enumerate := He.free_ok X G0 (c.fact 30 (f := .free "enumerate") rfl)
    m_int := He.free_ok X G0 (c.fact 31 (f := .free "int") rfl)
    m_isinstance := He.free_ok X G0 (c.fact 32 (f := .free "isinstance") rfl)
    m_len := He.free_ok X G0 (c.fact 33 (f := .free "len") rfl)
    m_list := He.free_ok X G0 (c.fact 34 (f := .free "list") rfl)
    m_max := He.free_ok X G0 (c.fact 35 (f := .free "max") rfl)
    m_min := He.free_ok X G0 (c.fact 36 (f := .free "min") rfl)
    m_range := He.free_ok X G0 (c.fact 37 (f := .free "range") rfl)
    m_sorted := He.free_ok X G0 (c.fact 38 (f := .free "sorted") rfl)
    m_str := He.free_ok X G0 (c.fact 39 (f := .free "str") rfl)
    m_tuple := He.free_ok X G0 (c.fact 40 (f := .free "tuple") rfl)
    m_zip := He.free_ok X G0 (c.fact 41 (f := .free "zip") rfl)
    f__law_cell_at := _
    d__law_cell_at := e__law_cell_at
    F__law_cell_at := z__law_cell_at
    g__law_cell_at := He.glo_ok X G0 (c.fact 0 (f := .glo "_law_cell_at") rfl)
    b__law_cell_at := z__law_cell_at.bindsN fun _ _ _ _ _ _ us hl => match us, hl with | [_, _], _ => rfl
    f__law_mixed := _
    d__law_mixed := e__law_mixed
    F__law_mixed := z__law_mixed
    g__law_mixed := He.glo_ok X G0 (c.fact 1 (f := .glo "_law_mixed") rfl)
    b__law_mixed := z__law_mixed.bindsN fun _ _ _ _ _ _ us hl => match us, hl with | [_, _, _], _ => rfl
    f__law_draw := _
    d__law_draw := e__law_draw
    F__law_draw := z__law_draw
    g__law_draw := He.glo_ok X G0 (c.fact 2 (f := .glo "_law_draw") rfl)
    b__law_draw := z__law_draw.bindsN fun _ _ _ _ _ _ us hl => match us, hl with | [_, _, _], _ => rfl
    f__law_some_of := _
    d__law_some_of := e__law_some_of
    F__law_some_of := z__law_some_of
    g__law_some_of := He.glo_ok X G0 (c.fact 3 (f := .glo "_law_some_of") rfl)
    b__law_some_of := z__law_some_of.bindsN fun _ _ _ _ _ _ us hl => match us, hl with | [_, _, _, _], _ => rfl
    f_rises := _
    d_rises := e_rises
    F_rises := z_rises
    g_rises := He.glo_ok X G0 (c.fact 4 (f := .glo "rises") rfl)
    b_rises := z_rises.bindsN fun _ _ _ _ _ _ us hl => match us, hl with | [_], _ => rfl
    f_is_integer := _
    d_is_integer := e_is_integer
    F_is_integer := z_is_integer
    g_is_integer := He.glo_ok X G0 (c.fact 5 (f := .glo "is_integer") rfl)
    b_is_integer := z_is_integer.bindsN fun _ _ _ _ _ _ us hl => match us, hl with | [_, _, _], _ => rfl
    f_are_numbers := _
    d_are_numbers := e_are_numbers
    F_are_numbers := z_are_numbers
    g_are_numbers := He.glo_ok X G0 (c.fact 6 (f := .glo "are_numbers") rfl)
    b_are_numbers := z_are_numbers.bindsN fun _ _ _ _ _ _ us hl => match us, hl with | [_, _, _], _ => rfl
    f_lengths_of := _
    d_lengths_of := e_lengths_of
    F_lengths_of := z_lengths_of
    g_lengths_of := He.glo_ok X G0 (c.fact 7 (f := .glo "lengths_of") rfl)
    b_lengths_of := z_lengths_of.bindsN fun _ _ _ _ _ _ us hl => match us, hl with | [_], _ => rfl
    f_bars_direction := _
    d_bars_direction := e_bars_direction
    F_bars_direction := z_bars_direction
    g_bars_direction := He.glo_ok X G0 (c.fact 8 (f := .glo "bars_direction") rfl)
    b_bars_direction := z_bars_direction.bindsN fun _ _ _ _ _ _ us hl => match us, hl with | [_, _, _], _ => rfl
    f_firsts := _
    d_firsts := e_firsts
    F_firsts := z_firsts
    g_firsts := He.glo_ok X G0 (c.fact 9 (f := .glo "firsts") rfl)
    b_firsts := z_firsts.bindsN fun _ _ _ _ _ _ us hl => match us, hl with | [_, _, _], _ => rfl
    f_nexts := _
    d_nexts := e_nexts
    F_nexts := z_nexts
    g_nexts := He.glo_ok X G0 (c.fact 10 (f := .glo "nexts") rfl)
    b_nexts := z_nexts.bindsN fun _ _ _ _ _ _ us hl => match us, hl with | [_, _, _], _ => rfl
    f_least_table := _
    d_least_table := e_least_table
    F_least_table := z_least_table
    g_least_table := He.glo_ok X G0 (c.fact 11 (f := .glo "least_table") rfl)
    b_least_table := z_least_table.bindsN fun _ _ _ _ _ _ us hl => match us, hl with | [_, _, _], _ => rfl
    f_least_to := _
    d_least_to := e_least_to
    F_least_to := z_least_to
    g_least_to := He.glo_ok X G0 (c.fact 12 (f := .glo "least_to") rfl)
    b_least_to := z_least_to.bindsN fun _ _ _ _ _ _ us hl => match us, hl with | [_, _], _ => rfl
    f_joins_all := _
    d_joins_all := e_joins_all
    F_joins_all := z_joins_all
    g_joins_all := He.glo_ok X G0 (c.fact 13 (f := .glo "joins_all") rfl)
    b_joins_all := z_joins_all.bindsN fun _ _ _ _ _ _ us hl => match us, hl with | [_, _, _, _], _ => rfl
    f_is_street := _
    d_is_street := e_is_street
    F_is_street := z_is_street
    g_is_street := He.glo_ok X G0 (c.fact 14 (f := .glo "is_street") rfl)
    b_is_street := z_is_street.bindsN fun _ _ _ _ _ _ us hl => match us, hl with | [_, _], _ => rfl
    f_are_streets := _
    d_are_streets := e_are_streets
    F_are_streets := z_are_streets
    g_are_streets := He.glo_ok X G0 (c.fact 15 (f := .glo "are_streets") rfl)
    b_are_streets := z_are_streets.bindsN fun _ _ _ _ _ _ us hl => match us, hl with | [_, _], _ => rfl
    f_street_between := _
    d_street_between := e_street_between
    F_street_between := z_street_between
    g_street_between := He.glo_ok X G0 (c.fact 16 (f := .glo "street_between") rfl)
    b_street_between := z_street_between.bindsN fun _ _ _ _ _ _ us hl => match us, hl with | [_, _, _], _ => rfl
    f_sign_stands := _
    d_sign_stands := e_sign_stands
    F_sign_stands := z_sign_stands
    g_sign_stands := He.glo_ok X G0 (c.fact 17 (f := .glo "sign_stands") rfl)
    b_sign_stands := z_sign_stands.bindsN fun _ _ _ _ _ _ us hl => match us, hl with | [_, _, _], _ => rfl
    f_signs_stand := _
    d_signs_stand := e_signs_stand
    F_signs_stand := z_signs_stand
    g_signs_stand := He.glo_ok X G0 (c.fact 18 (f := .glo "signs_stand") rfl)
    b_signs_stand := z_signs_stand.bindsN fun _ _ _ _ _ _ us hl => match us, hl with | [_, _, _, _], _ => rfl
    f_stands := _
    d_stands := e_stands
    F_stands := z_stands
    g_stands := He.glo_ok X G0 (c.fact 19 (f := .glo "stands") rfl)
    b_stands := z_stands.bindsN fun _ _ _ _ _ _ us hl => match us, hl with | [_], _ => rfl
    f_is_town := _
    d_is_town := e_is_town
    F_is_town := z_is_town
    g_is_town := He.glo_ok X G0 (c.fact 20 (f := .glo "is_town") rfl)
    b_is_town := z_is_town.bindsN fun _ _ _ _ _ _ us hl => match us, hl with | [_], _ => rfl
    f__law_all_signs := _
    d__law_all_signs := e__law_all_signs
    F__law_all_signs := z__law_all_signs
    g__law_all_signs := He.glo_ok X G0 (c.fact 21 (f := .glo "_law_all_signs") rfl)
    b__law_all_signs := z__law_all_signs.bindsN fun _ _ _ _ _ _ us hl => match us, hl with | [_], _ => rfl
    f__law_some_town := _
    d__law_some_town := e__law_some_town
    F__law_some_townX := z__law_some_town
    g__law_some_town := He.glo_ok X G0 (c.fact 22 (f := .glo "_law_some_town") rfl)
    b__law_some_townX := z__law_some_town.bindsN fun _ _ _ _ _ _ us hl => match us, hl with | [_, _], _ => rfl
    f__law_pick := _
    d__law_pick := e__law_pick
    F__law_pick := z__law_pick
    g__law_pick := He.glo_ok X G0 (c.fact 23 (f := .glo "_law_pick") rfl)
    b__law_pick := z__law_pick.bindsN fun _ _ _ _ _ _ us hl => match us, hl with | [_, _, _], _ => rfl
    f__law_bad_streets := _
    d__law_bad_streets := e__law_bad_streets
    F__law_bad_streets := z__law_bad_streets
    g__law_bad_streets := He.glo_ok X G0 (c.fact 24 (f := .glo "_law_bad_streets") rfl)
    b__law_bad_streets := z__law_bad_streets.bindsN fun _ _ _ _ _ _ us hl => match us, hl with | [_, _, _], _ => rfl
    f__law_bad_signs := _
    d__law_bad_signs := e__law_bad_signs
    F__law_bad_signs := z__law_bad_signs
    g__law_bad_signs := He.glo_ok X G0 (c.fact 25 (f := .glo "_law_bad_signs") rfl)
    b__law_bad_signs := z__law_bad_signs.bindsN fun _ _ _ _ _ _ us hl => match us, hl with | [_, _, _], _ => rfl }
  exact ⟨e_law, fun s v => b s [v] rfl, fun base _ _ => by
    letI : Wd := ⟨w⟩
    exact ok_law G z_law⟩
end Q
open PySem PySem.W PySem.Calls PyProof.Rows
theorem Q.holds_of (hl : Q.LawTrue) : PySem.Challenge.rw_quietstreets_k01_whole_towns.Holds := by
  w_on; o_law
  refine HandSHeadRun.head_any (r := OpenLaw.row PySem.Challenge.rw_quietstreets_k01_whole_towns) (q := view (OpenLaw.row PySem.Challenge.rw_quietstreets_k01_whole_towns).prog [29]) (H := Q.hk) (ob := Q.ob) (M := 8000) (loose := Q.loose) (d := HandSHeadRun.topDef (OpenLaw.row PySem.Challenge.rw_quietstreets_k01_whole_towns).prog 29) (kwd := []) Q.ob_eq
    (by kernel_rfl) (fun s => by kernel_rfl) Q.run (by kernel_rfl) (by kernel_rfl) (by kernel_rfl) (by rfl) (by first | assumption | decide +kernel) (by decide +kernel) ⟨rfl, rfl, rfl, rfl, rfl, by decide +kernel⟩ ?hw ?hc
  case hw => w_witness2
  case hc =>
    refine L2.walk_ofE (l := PySem.Challenge.rw_quietstreets_k01_whole_towns) (n := 63) (k := 8) (x := "script") (CX := L2.CX0) rfl (by decide) (by kernel_rfl) ⟨rfl, by decide, by decide⟩ ?F (fun _ _ _ _ z => z)
    intro w mg fa h Y G hmg0
    obtain ⟨K, KX, c⟩ := Y
    have hmg : mg ("law" : PySem.Str) = some (.ref fa) := by
      have e : (HandSHeadRun.topDef (OpenLaw.row PySem.Challenge.rw_quietstreets_k01_whole_towns).prog 29).name = ("law" : PySem.Str) := by kernel_rfl
      rw [← e]
      exact hmg0
    obtain ⟨fd, hb, hF⟩ := Q.facts (P := (PySem.Challenge.rw_quietstreets_k01_whole_towns).prog) (w := w) KX G hmg c
    exact ⟨K, fd, _, KX, hb, fun H a ns hn hO hS => @Q.sp_law ⟨w⟩ K hl H a ns hn hO hS, hF⟩
set_option maxRecDepth 100000
namespace Q
open PySem Pu
def wayD (a b : Int) : D := .tuple [.str (Str.ofString "way"), .int a, .int b]
def shutD (a b : Int) : D := .tuple [.str (Str.ofString "shut"), .int a, .int b]
def turnD (a b c : Int) : D := .tuple [.str (Str.ofString "turn"), .int a, .int b, .int c]
def dirD (p : Int × Int) : D := .tuple [.int p.1, .int p.2]
def lenD (L : List ((Int × Int) × Int)) : D := .dict (L.map fun q => (dirD q.1, .int q.2))
def hasS (S : List D) (d : D) : Bool := S.any fun z => PyData.eqv z d
def OkS (S : List D) : Prop := PyData.canLayAll0 S = true
theorem pIn_tup {S : List D} {d : D} (h : OkS S) (h1 : d.canLay0 = true) (h2 : d.depth ≤ 64) : pIn d (.tuple S) = some (.sh (.bool (hasS S d))) := by
  unfold OkS at h
  simp [pIn, inD, inOk, h, h1, h2, bR, hasS]
theorem pNotIn_tup {S : List D} {d : D} (h : OkS S) (h1 : d.canLay0 = true) (h2 : d.depth ≤ 64) : pNotIn d (.tuple S) = some (.sh (.bool (!hasS S d))) := by
  unfold OkS at h
  simp [pNotIn, inD, inOk, h, h1, h2, bR, hasS]
theorem lay_way (a b : Int) : (wayD a b).canLay0 = true := by simp only [wayD, PyData.canLay0, PyData.canLayAll0, Bool.and_true]; decide +kernel
theorem lay_shut (a b : Int) : (shutD a b).canLay0 = true := by simp only [shutD, PyData.canLay0, PyData.canLayAll0, Bool.and_true]; decide +kernel
theorem lay_turn (a b c : Int) : (turnD a b c).canLay0 = true := by simp only [turnD, PyData.canLay0, PyData.canLayAll0, Bool.and_true]; decide +kernel
theorem dep_way (a b : Int) : (wayD a b).depth ≤ 64 := by simp [wayD, PyData.depth, PyData.depthAll]
theorem dep_turn (a b c : Int) : (turnD a b c).depth ≤ 64 := by simp [turnD, PyData.depth, PyData.depthAll]
theorem dep_shut (a b : Int) : (shutD a b).depth ≤ 64 := by simp [shutD, PyData.depth, PyData.depthAll]
def mn (a b : Int) : Int := if b < a then b else a
def mx (a b : Int) : Int := if b > a then b else a
def bars (S : List D) (a b : Int) : Bool := hasS S (wayD a b) || hasS S (shutD (mn a b) (mx a b))
theorem bars_eq {S : List D} {a b : Int} (h : OkS S) : F_bars_direction [.sh (.tuple S), .sh (.int a), .sh (.int b)] = some (.sh (.bool (bars S a b)), [.sh (.tuple S), .sh (.int a), .sh (.int b)]) := by
  apply fn_sh
  · apply sRet_eq
    · apply eOr_eq
      · apply eOp2_eq (hf := pIn_tup (d := wayD a b) h (lay_way a b) (dep_way a b))
        all_goals (repeat' (first | exact eVar_eq rfl | with_reducible apply eOp2_eq | with_reducible apply eOp1_eq | with_reducible apply ePrim_eq | with_reducible apply msCons_eq | with_reducible apply eTup_eq | with_reducible apply eLst_eq | with_reducible apply dsCons_eq | with_reducible apply tOf_eq | with_reducible apply tNot_eq | with_reducible apply eSlice_eq | with_reducible apply oSome_eq | with_reducible apply asSh_eq | with_reducible apply iOf_eq | with_reducible apply iZip_eq | with_reducible apply iEnum_eq | rfl))
      · rfl
      · intro _
        apply eOp2_eq (hf := pIn_tup (d := shutD (mn a b) (mx a b)) h (lay_shut _ _) (dep_shut _ _))
        all_goals (repeat' (first | exact eVar_eq rfl | with_reducible apply eOp2_eq | with_reducible apply eOp1_eq | with_reducible apply ePrim_eq | with_reducible apply msCons_eq | with_reducible apply eTup_eq | with_reducible apply eLst_eq | with_reducible apply dsCons_eq | with_reducible apply tOf_eq | with_reducible apply tNot_eq | with_reducible apply eSlice_eq | with_reducible apply oSome_eq | with_reducible apply asSh_eq | with_reducible apply iOf_eq | with_reducible apply iZip_eq | with_reducible apply iEnum_eq | rfl))
    · rfl
  · rfl
def nxt (S : List D) (a b : Int) (o : Int × Int) : Bool := decide (o.1 = b) && (!decide (o.2 = a) && (!hasS S (turnD a b o.2) && !bars S b o.2))
def nextsM (L : List ((Int × Int) × Int)) (S : List D) (a b : Int) : List (Int × Int) := (L.map (·.1)).filter (nxt S a b)
theorem keys_len (L : List ((Int × Int) × Int)) : (L.map fun q => (dirD q.1, PyData.int q.2)).map (·.1) = (L.map (·.1)).map dirD := by simp
theorem foldl_filter {α σ : Type} (p : α → Bool) (last : α → σ) : ∀ (xs : List α) (t : σ) (acc : List α), (xs.foldl (fun (q : σ × List α) w => (last w, if p w then q.2 ++ [w] else q.2)) (t, acc)).2 = acc ++ xs.filter p
  | [], _, acc => by simp
  | w :: xs, t, acc => by
    simp only [List.foldl_cons]
    rw [foldl_filter p last xs]
    cases h : p w <;> simp [List.filter_cons, h]
theorem call_bars {S : List D} {a b : Int} (h : OkS S) : F_bars_direction [.sh (.tuple S), .sh (.int a), .sh (.int b)] = some (.sh (.bool (bars S a b)), [.sh (.tuple S), .sh (.int a), .sh (.int b)]) := bars_eq h
theorem nexts_eq {L : List ((Int × Int) × Int)} {S : List D} {a b : Int} (hS : OkS S) (hL : L.length ≤ 1000) :
    F_nexts [.sh (lenD L), .sh (.tuple S), .sh (dirD (a, b))] = some (.ow (.list ((nextsM L S a b).map dirD)), [.sh (lenD L), .sh (.tuple S), .sh (dirD (a, b))]) := by
  have loop := for_foldI (s := sIf (tAnd (tOf (eOp2 pEq (eOp2 pIx (eVar 4) (eC (.int 0))) (eVar 6))) (tAnd (tOf (eOp2 pNe (eOp2 pIx (eVar 4) (eC (.int 1))) (eVar 5))) (tAnd (tOf (eOp2 pNotIn (eTup (dsCons (eC (.str (Str.ofString "turn"))) (dsCons (eVar 5) (dsCons (eVar 6) (dsCons (eOp2 pIx (eVar 4) (eC (.int 1))) (dsNil)))))) (eVar 1))) (tNot (tOf (eCall F_bars_direction (asSh (eVar 1) (asSh (eVar 6) (asSh (eOp2 pIx (eVar 4) (eC (.int 1))) (asNil)))))))))) (sExpr (eAppend 3 (eVar 4))) (sNop)) (g := gName 4) dirD
    (fun q : Option D × List (Int × Int) => [.sh (lenD L), .sh (.tuple S), .sh (dirD (a, b)), .ow (.list (q.2.map dirD)), lastS q.1, .sh (.int a), .sh (.int b)])
    (fun q w => (some (dirD w), if nxt S a b w then q.2 ++ [w] else q.2)) (fun rest q => q.2.length + rest.length ≤ 1000)
    (fun w xs q hI => by
      obtain ⟨t, acc⟩ := q
      refine ⟨?_, [.sh (lenD L), .sh (.tuple S), .sh (dirD (a, b)), .ow (.list (acc.map dirD)), .sh (dirD w), .sh (.int a), .sh (.int b)], by cases t <;> rfl, .inl ?_⟩
      · have hI' : acc.length + (xs.length + 1) ≤ 1000 := hI
        show (if nxt S a b w then acc ++ [w] else acc).length + xs.length ≤ 1000
        split
        · rw [List.length_append]; simp only [List.length_cons, List.length_nil]; omega
        · omega
      · apply sIf_b (k := nxt S a b w)
        · apply tAnd_eq
          · (repeat' (first | exact eVar_eq rfl | with_reducible apply eOp2_eq | with_reducible apply eOp1_eq | with_reducible apply ePrim_eq | with_reducible apply msCons_eq | with_reducible apply eTup_eq | with_reducible apply eLst_eq | with_reducible apply dsCons_eq | with_reducible apply tOf_eq | with_reducible apply tNot_eq | with_reducible apply eSlice_eq | with_reducible apply oSome_eq | with_reducible apply asSh_eq | with_reducible apply iOf_eq | with_reducible apply iZip_eq | with_reducible apply iEnum_eq | rfl))
          · intro _
            apply tAnd_eq
            · (repeat' (first | exact eVar_eq rfl | with_reducible apply eOp2_eq | with_reducible apply eOp1_eq | with_reducible apply ePrim_eq | with_reducible apply msCons_eq | with_reducible apply eTup_eq | with_reducible apply eLst_eq | with_reducible apply dsCons_eq | with_reducible apply tOf_eq | with_reducible apply tNot_eq | with_reducible apply eSlice_eq | with_reducible apply oSome_eq | with_reducible apply asSh_eq | with_reducible apply iOf_eq | with_reducible apply iZip_eq | with_reducible apply iEnum_eq | rfl))
            · intro _
              apply tAnd_eq
              · apply tOf_eq
                · apply eOp2_eq (hf := pNotIn_tup (d := turnD a b w.2) hS (lay_turn _ _ _) (dep_turn _ _ _))
                  all_goals (repeat' (first | exact eVar_eq rfl | with_reducible apply eOp2_eq | with_reducible apply eOp1_eq | with_reducible apply ePrim_eq | with_reducible apply msCons_eq | with_reducible apply eTup_eq | with_reducible apply eLst_eq | with_reducible apply dsCons_eq | with_reducible apply tOf_eq | with_reducible apply tNot_eq | with_reducible apply eSlice_eq | with_reducible apply oSome_eq | with_reducible apply asSh_eq | with_reducible apply iOf_eq | with_reducible apply iZip_eq | with_reducible apply iEnum_eq | rfl))
                · rfl
              · intro _
                apply tNot_eq
                apply tOf_eq
                · apply eCall_eq (h3 := call_bars hS)
                  all_goals first | exact List.nodup_nil | (repeat' (first | exact eVar_eq rfl | with_reducible apply eOp2_eq | with_reducible apply eOp1_eq | with_reducible apply ePrim_eq | with_reducible apply msCons_eq | with_reducible apply eTup_eq | with_reducible apply eLst_eq | with_reducible apply dsCons_eq | with_reducible apply tOf_eq | with_reducible apply tNot_eq | with_reducible apply eSlice_eq | with_reducible apply oSome_eq | with_reducible apply asSh_eq | with_reducible apply iOf_eq | with_reducible apply iZip_eq | with_reducible apply iEnum_eq | rfl))
                · rfl
        · intro hk
          simp only [hk, if_true, List.map_append, List.map_cons, List.map_nil, lastS]
          refine sExpr_eq (eAppend_eq (ys := acc.map dirD) (xs := acc.map dirD) rfl (eVar_eq (d := dirD w) rfl) rfl rfl ?_ rfl)
          have hI' : acc.length + (xs.length + 1) ≤ 1000 := hI
          rw [List.length_map]; omega
        · intro hk
          simp [sNop, hk, lastS])
  have hI : ([] : List (Int × Int)).length + (L.map (·.1)).length ≤ 1000 := by simpa using hL
  obtain ⟨run, _⟩ := loop (L.map (·.1)) (none, []) hI
  have e2 : ((L.map (·.1)).foldl (fun (q : Option D × List (Int × Int)) w => (some (dirD w), if nxt S a b w then q.2 ++ [w] else q.2)) (none, [])).2 = nextsM L S a b := by
    rw [foldl_filter (nxt S a b) (fun w => some (dirD w))]; rfl
  generalize (L.map (·.1)).foldl (fun (q : Option D × List (Int × Int)) w => (some (dirD w), if nxt S a b w then q.2 ++ [w] else q.2)) (none, []) = fin at run e2
  rw [← e2]
  apply fn_ow
  · apply sSeq_nx
    · apply sUnp_eq
      · exact eVar_eq (d := dirD (a, b)) rfl
      · rfl
      · rfl
    · apply sSeq_nx
      · apply sSet_eq
        · apply eLst_eq; rfl
        · rfl
        · rfl
      · apply sSeq_nx
        · apply sFor_eq
          · apply iOf_eq
            · exact eVar_eq (d := lenD L) rfl
            · rfl
            · exact congrArg some (keys_len L)
          · exact run
        · apply sRet_eq
          · exact eVar_eq (d := .list (fin.2.map dirD)) rfl
          · rfl
  · rfl
end Q
set_option maxRecDepth 100000
namespace Q
open PySem Pu
abbrev Dir := Int × Int
abbrev Tab := List (Dir × Int)
theorem eqv_int (i j : Int) : PyData.eqv (.int i) (.int j) = decide (i = j) := by
  have e : PyData.eqv (.int i) (.int j) = (i == j) := by simp [PyData.eqv]
  rw [e, Bool.eq_iff_iff]; simp
theorem eqv_dir (p q : Dir) : PyData.eqv (dirD p) (dirD q) = decide (p = q) := by
  have e : PyData.eqv (dirD p) (dirD q) = (PyData.eqv (.int p.1) (.int q.1) && (PyData.eqv (.int p.2) (.int q.2) && true)) := by simp [dirD, PyData.eqv, PyData.eqvAll]
  rw [e, eqv_int, eqv_int, Bool.eq_iff_iff]
  simp [Prod.ext_iff]
def kvD (L : Tab) : List (D × D) := L.map fun q => (dirD q.1, .int q.2)
def getM (L : Tab) (k : Dir) : Option Int := (L.find? fun q => decide (q.1 = k)).map (·.2)
def hasK (L : Tab) (k : Dir) : Bool := L.any fun q => decide (q.1 = k)
def putM (L : Tab) (k : Dir) (v : Int) : Tab := if hasK L k then L.map (fun q => if q.1 = k then (q.1, v) else q) else L ++ [(k, v)]
def dropM (L : Tab) (k : Dir) : Tab := L.filter fun q => !decide (q.1 = k)
theorem dFind_kv (L : Tab) (k : Dir) : dFind (kvD L) (dirD k) = (getM L k).map .int := by
  unfold dFind kvD getM
  rw [List.find?_map]
  have : ((fun q : D × D => q.1.eqv (dirD k)) ∘ fun q : Dir × Int => (dirD q.1, PyData.int q.2)) = fun q => decide (q.1 = k) := by
    funext q; exact eqv_dir q.1 k
  rw [this]
  cases L.find? (fun q => decide (q.1 = k)) <;> rfl
theorem any_kv (L : Tab) (k : Dir) : ((kvD L).any fun q => PyData.eqv q.1 (dirD k)) = hasK L k := by
  unfold kvD hasK
  rw [List.any_map]
  congr 1
  funext q; exact eqv_dir q.1 k
theorem dPut_kv (L : Tab) (k : Dir) (v : Int) : dPut (kvD L) (dirD k) (.int v) = kvD (putM L k v) := by
  unfold dPut putM
  rw [any_kv]
  split
  · unfold kvD
    rw [List.map_map, List.map_map]
    congr 1
    funext q
    simp only [Function.comp, eqv_dir]
    by_cases h : q.1 = k <;> simp [h]
  · simp [kvD]
theorem dDrop_kv (L : Tab) (k : Dir) : dDrop (kvD L) (dirD k) = kvD (dropM L k) := by
  unfold dDrop dropM kvD
  rw [List.filter_map]
  congr 1
  apply List.filter_congr
  intro q _
  simp [Function.comp, eqv_dir]
theorem tupKey_dir (p : Dir) : isTupKey (dirD p) = true := rfl
theorem allTup_kv (L : Tab) : ((kvD L).all fun q => isTupKey q.1) = true := by
  rw [List.all_eq_true]
  intro q hq
  obtain ⟨p, _, rfl⟩ := List.mem_map.mp hq
  rfl
theorem dAsk_kv (L : Tab) (k : Dir) : dAsk (kvD L) (dirD k) = true := by unfold dAsk; rw [tupKey_dir, allTup_kv]; rfl
theorem dPutOk_kv {L : Tab} (k : Dir) (h : L.length < 16777216) : dPutOk (kvD L) (dirD k) = true := by
  unfold dPutOk
  rw [tupKey_dir, allTup_kv]
  have : (kvD L).length < 16777216 := by simpa [kvD] using h
  simp [this]
theorem pIx_kv {L : Tab} {k : Dir} {v : Int} (h : getM L k = some v) : pIx (lenD L) (dirD k) = some (.sh (.int v)) := by
  show (if dAsk (kvD L) (dirD k) then (dFind (kvD L) (dirD k)).map Res.sh else none) = _
  rw [dAsk_kv, dFind_kv, h]; rfl
theorem pNotIn_kv (L : Tab) (k : Dir) : pNotIn (dirD k) (lenD L) = some (.sh (.bool (!(getM L k).isSome))) := by
  show ((if dAsk (kvD L) (dirD k) then some (dFind (kvD L) (dirD k)).isSome else none).bind fun b => bR (!b)) = _
  rw [dAsk_kv, dFind_kv]
  cases getM L k <;> rfl
theorem getM_mem {L : Tab} {k : Dir} (h : k ∈ L.map (·.1)) : ∃ v, getM L k = some v := by
  obtain ⟨q, hq, rfl⟩ := List.mem_map.mp h
  unfold getM
  cases e : L.find? (fun z => decide (z.1 = q.1)) with
  | none =>
    have := List.find?_eq_none.mp e q hq
    simp at this
  | some z => exact ⟨z.2, rfl⟩
theorem putM_len (L : Tab) (k : Dir) (v : Int) : (putM L k v).length ≤ L.length + 1 := by unfold putM; split <;> simp
abbrev Street := Int × Int × Int
def strD (s : Street) : D := .tuple [.int s.1, .int s.2.1, .int s.2.2]
def lengthsM (ss : List Street) : Tab := ss.foldl (fun L s => putM (putM L (s.1, s.2.1) s.2.2) (s.2.1, s.1) s.2.2) []
theorem put_step {L : Tab} {k : Dir} {v : Int} {i : Nat} {ρ ρ' : Pu.Env} {a kx : M} {r r' : Res} (h1 : a ρ = some (r, ρ)) (h2 : share r ρ = some (.int v, ρ)) (h0 : ownDict i ρ = some (kvD L)) (h3 : kx ρ = some (r', ρ)) (h4 : share r' ρ = some (dirD k, ρ)) (hl : L.length < 16777216) (h7 : updSlot i (lenD (putM L k v)) ρ = some ρ') : sPut i a kx ρ = some (.nx ρ') := by
  refine sPut_eq h1 h2 h0 h3 h4 h0 (dPutOk_kv k hl) ?_
  rw [dPut_kv]; exact h7
def optD : Option Street → Slot × Slot × Slot
  | none => (.no, .no, .no)
  | some s => (.sh (.int s.1), .sh (.int s.2.1), .sh (.int s.2.2))
theorem lengths_eq {ss : List Street} (hs : ss.length ≤ 400) : F_lengths_of [.sh (.tuple (ss.map strD))] = some (.ow (lenD (lengthsM ss)), [.sh (.tuple (ss.map strD))]) := by
  have loop := for_foldI (s := sSeq (sPut 1 (eVar 4) (eTup (dsCons (eVar 2) (dsCons (eVar 3) (dsNil))))) (sPut 1 (eVar 4) (eTup (dsCons (eVar 3) (dsCons (eVar 2) (dsNil)))))) (g := gTup (gsCons (gName 2) (gsCons (gName 3) (gsCons (gName 4) (gsNil))))) strD
    (fun q : Option Street × Tab => [.sh (.tuple (ss.map strD)), .ow (lenD q.2), (optD q.1).1, (optD q.1).2.1, (optD q.1).2.2])
    (fun q w => (some w, putM (putM q.2 (w.1, w.2.1) w.2.2) (w.2.1, w.1) w.2.2)) (fun rest q => q.2.length + 2 * rest.length ≤ 1000)
    (fun w xs q hI => by
      obtain ⟨t, L⟩ := q
      have hI' : L.length + 2 * (xs.length + 1) ≤ 1000 := hI
      have l1 := putM_len L (w.1, w.2.1) w.2.2
      have l2 := putM_len (putM L (w.1, w.2.1) w.2.2) (w.2.1, w.1) w.2.2
      refine ⟨?_, [.sh (.tuple (ss.map strD)), .ow (lenD L), .sh (.int w.1), .sh (.int w.2.1), .sh (.int w.2.2)], by cases t <;> rfl, .inl ?_⟩
      · show (putM (putM L (w.1, w.2.1) w.2.2) (w.2.1, w.1) w.2.2).length + 2 * xs.length ≤ 1000
        omega
      · apply sSeq_nx
        · apply put_step (L := L) (k := (w.1, w.2.1)) (v := w.2.2)
          all_goals first | omega | (repeat' (first | exact eVar_eq rfl | with_reducible apply eOp2_eq | with_reducible apply eOp1_eq | with_reducible apply ePrim_eq | with_reducible apply msCons_eq | with_reducible apply eTup_eq | with_reducible apply eLst_eq | with_reducible apply dsCons_eq | with_reducible apply tOf_eq | with_reducible apply tNot_eq | with_reducible apply eSlice_eq | with_reducible apply oSome_eq | with_reducible apply asSh_eq | with_reducible apply iOf_eq | with_reducible apply iZip_eq | with_reducible apply iEnum_eq | rfl))
        · apply put_step (L := putM L (w.1, w.2.1) w.2.2) (k := (w.2.1, w.1)) (v := w.2.2)
          all_goals first | omega | (repeat' (first | exact eVar_eq rfl | with_reducible apply eOp2_eq | with_reducible apply eOp1_eq | with_reducible apply ePrim_eq | with_reducible apply msCons_eq | with_reducible apply eTup_eq | with_reducible apply eLst_eq | with_reducible apply dsCons_eq | with_reducible apply tOf_eq | with_reducible apply tNot_eq | with_reducible apply eSlice_eq | with_reducible apply oSome_eq | with_reducible apply asSh_eq | with_reducible apply iOf_eq | with_reducible apply iZip_eq | with_reducible apply iEnum_eq | rfl)))
  have hI : ([] : Tab).length + 2 * ss.length ≤ 1000 := by simp; omega
  obtain ⟨run, _⟩ := loop ss (none, []) hI
  have e2 : (ss.foldl (fun (q : Option Street × Tab) w => (some w, putM (putM q.2 (w.1, w.2.1) w.2.2) (w.2.1, w.1) w.2.2)) (none, [])).2 = lengthsM ss := by
    have : ∀ (ss : List Street) (t : Option Street) (L : Tab), (ss.foldl (fun (q : Option Street × Tab) w => (some w, putM (putM q.2 (w.1, w.2.1) w.2.2) (w.2.1, w.1) w.2.2)) (t, L)).2 = ss.foldl (fun L s => putM (putM L (s.1, s.2.1) s.2.2) (s.2.1, s.1) s.2.2) L := by
      intro ss
      induction ss with
      | nil => intro t L; rfl
      | cons s ss ih => intro t L; exact ih _ _
    exact this ss none []
  generalize ss.foldl (fun (q : Option Street × Tab) w => (some w, putM (putM q.2 (w.1, w.2.1) w.2.2) (w.2.1, w.1) w.2.2)) (none, []) = fin at run e2
  rw [← e2]
  apply fn_ow
  · apply sSeq_nx
    · apply sSet_eq
      · rfl
      · rfl
      · rfl
    · apply sSeq_nx
      · apply sFor_eq
        · apply iOf_eq
          · exact eVar_eq (d := .tuple (ss.map strD)) rfl
          · rfl
          · rfl
        · exact run
      · apply sRet_eq
        · exact eVar_eq (d := lenD fin.2) rfl
        · rfl
  · rfl
def fst (S : List D) (s : Int) (o : Dir) : Bool := decide (o.1 = s) && !bars S o.1 o.2
def firstsM (L : Tab) (S : List D) (s : Int) : List Dir := (L.map (·.1)).filter (fst S s)
theorem firsts_eq {L : Tab} {S : List D} {s : Int} (hS : OkS S) : F_firsts [.sh (lenD L), .sh (.tuple S), .sh (.int s)] = some (.ow (.list ((firstsM L S s).map dirD)), [.sh (lenD L), .sh (.tuple S), .sh (.int s)]) := by
  have run := comp_map (ρ := [.sh (lenD L), .sh (.tuple S), .sh (.int s), .no]) (vs := [3]) (g := gName 3) (a := eVar 3) (t := tAnd (tOf (eOp2 pEq (eOp2 pIx (eVar 3) (eC (.int 0))) (eVar 2))) (tNot (tOf (eCall F_bars_direction (asSh (eVar 1) (asSh (eOp2 pIx (eVar 3) (eC (.int 0))) (asSh (eOp2 pIx (eVar 3) (eC (.int 1))) (asNil))))))))
    dirD (fst S s) dirD (L.map (·.1)) [] fun w _ => by
      refine ⟨[.sh (lenD L), .sh (.tuple S), .sh (.int s), .sh (dirD w)], rfl, ?_, fun _ => ⟨.var 3, eVar_eq (d := dirD w) rfl, rfl⟩, rfl⟩
      apply tAnd_eq
      · (repeat' (first | exact eVar_eq rfl | with_reducible apply eOp2_eq | with_reducible apply eOp1_eq | with_reducible apply ePrim_eq | with_reducible apply msCons_eq | with_reducible apply eTup_eq | with_reducible apply eLst_eq | with_reducible apply dsCons_eq | with_reducible apply tOf_eq | with_reducible apply tNot_eq | with_reducible apply eSlice_eq | with_reducible apply oSome_eq | with_reducible apply asSh_eq | with_reducible apply iOf_eq | with_reducible apply iZip_eq | with_reducible apply iEnum_eq | rfl))
      · intro _
        apply tNot_eq
        apply tOf_eq
        · apply eCall_eq (h3 := call_bars (a := w.1) (b := w.2) hS)
          all_goals first | exact List.nodup_nil | (repeat' (first | exact eVar_eq rfl | with_reducible apply eOp2_eq | with_reducible apply eOp1_eq | with_reducible apply ePrim_eq | with_reducible apply msCons_eq | with_reducible apply eTup_eq | with_reducible apply eLst_eq | with_reducible apply dsCons_eq | with_reducible apply tOf_eq | with_reducible apply tNot_eq | with_reducible apply eSlice_eq | with_reducible apply oSome_eq | with_reducible apply asSh_eq | with_reducible apply iOf_eq | with_reducible apply iZip_eq | with_reducible apply iEnum_eq | rfl))
        · rfl
  apply fn_ow
  · apply sRet_eq
    · apply eComp_eq
      · apply iOf_eq
        · exact eVar_eq (d := lenD L) rfl
        · rfl
        · exact congrArg some (keys_len L)
      · exact run
      · rfl
    · rfl
  · rfl
end Q
set_option maxRecDepth 100000
namespace Q
open PySem Pu
def prD (p : Int × Dir) : D := .tuple [.int p.1, dirD p.2]
def leP (p q : Int × Dir) : Bool := leT (prD p) (prD q)
def minP (x : Int × Dir) (xs : List (Int × Dir)) : Int × Dir := xs.foldl (fun a y => if leP a y then a else y) x
theorem minT_pr : ∀ (xs : List (Int × Dir)) (x : Int × Dir), minT (prD x) (xs.map prD) = prD (minP x xs)
  | [], x => rfl
  | y :: xs, x => by
    show minT (if leT (prD x) (prD y) then prD x else prD y) (xs.map prD) = prD (minP (if leP x y then x else y) xs)
    have : (if leT (prD x) (prD y) then prD x else prD y) = prD (if leP x y then x else y) := by
      unfold leP; cases leT (prD x) (prD y) <;> rfl
    rw [this, minT_pr xs]
theorem minOk_pr (xs : List (Int × Dir)) : minOk (xs.map prD) = true := by
  unfold minOk
  rw [Bool.and_eq_true]
  constructor
  · rw [List.all_eq_true]
    intro d hd
    obtain ⟨p, _, rfl⟩ := List.mem_map.mp hd
    simp [prD, dirD, okd, okds, PyData.canLay0, PyData.canLayAll0, PyData.depth, PyData.depthAll]
  · unfold Pu.pairsOk
    rw [Bool.or_eq_true]
    left
    cases xs with
    | nil => rfl
    | cons x xs =>
      simp only [List.map_cons]
      rw [List.all_eq_true]
      intro d hd
      rw [← List.map_cons] at hd
      obtain ⟨p, _, rfl⟩ := List.mem_map.mp hd
      simp [prD, dirD, likeD, likeDs]
theorem noObjs_pr : ∀ xs : List (Int × Dir), noObjs (xs.map prD) = true
  | [] => by simp [noObjs]
  | x :: xs => by simp [noObjs, noObj, prD, dirD, noObjs_pr xs]
def flip (q : Dir × Int) : Int × Dir := (q.2, q.1)
theorem getM_of {L : Tab} (hn : (L.map (·.1)).Nodup) {q : Dir × Int} (h : q ∈ L) : getM L q.1 = some q.2 := by
  unfold getM
  induction L with
  | nil => simp at h
  | cons z L ih =>
    rw [List.map_cons, List.nodup_cons] at hn
    rw [List.find?_cons]
    rcases List.mem_cons.mp h with rfl | h
    · simp
    · have : z.1 ≠ q.1 := fun e => hn.1 (by rw [e]; exact List.mem_map.mpr ⟨q, h, rfl⟩)
      simp only [decide_eq_false this]
      exact ih hn.2 h
def lenOf (L : Tab) (o : Dir) : Int := (getM L o).getD 0
def relax (L found : Tab) (least : Int) (line : Tab) (o : Dir) : Tab := if (getM found o).isSome then line else putM line o (mn ((getM line o).getD (least + lenOf L o)) (least + lenOf L o))
def turnM (L : Tab) (S : List D) (found line : Tab) : Tab × Tab := match line with
  | [] => (found, line)
  | q :: r =>
    let m := minP (flip q) (r.map flip)
    let found' := putM found m.2 m.1
    (found', (nextsM L S m.2.1 m.2.2).foldl (relax L found' m.1) (dropM line m.2))
theorem nodup_put {L : Tab} {k : Dir} {v : Int} (h : (L.map (·.1)).Nodup) : ((putM L k v).map (·.1)).Nodup := by
  unfold putM
  split
  · have : (L.map fun q => if q.1 = k then (q.1, v) else q).map (·.1) = L.map (·.1) := by
      rw [List.map_map]; congr 1; funext q; simp only [Function.comp]; split <;> rfl
    rw [this]; exact h
  · rename_i hk
    rw [List.map_append, List.nodup_append]
    refine ⟨h, by simp, ?_⟩
    intro a ha b hb
    simp at hb
    subst hb
    rintro rfl
    apply hk
    obtain ⟨q, hq, e⟩ := List.mem_map.mp ha
    unfold hasK
    rw [List.any_eq_true]
    exact ⟨q, hq, by simpa using e⟩
theorem nodup_drop {L : Tab} {k : Dir} (h : (L.map (·.1)).Nodup) : ((dropM L k).map (·.1)).Nodup := h.sublist ((List.filter_sublist).map _)
theorem mem_put {L : Tab} {k x : Dir} {v : Int} : x ∈ (putM L k v).map (·.1) ↔ x = k ∨ x ∈ L.map (·.1) := by
  unfold putM
  split
  · rename_i hk
    have : (L.map fun q => if q.1 = k then (q.1, v) else q).map (·.1) = L.map (·.1) := by
      rw [List.map_map]; congr 1; funext q; simp only [Function.comp]; split <;> rfl
    rw [this]
    constructor
    · exact .inr
    · rintro (rfl | h)
      · unfold hasK at hk
        rw [List.any_eq_true] at hk
        obtain ⟨q, hq, e⟩ := hk
        exact List.mem_map.mpr ⟨q, hq, by simpa using e⟩
      · exact h
  · simp [or_comm]
theorem mem_drop {L : Tab} {k x : Dir} : x ∈ (dropM L k).map (·.1) ↔ x ≠ k ∧ x ∈ L.map (·.1) := by
  unfold dropM
  constructor
  · intro h
    obtain ⟨q, hq, rfl⟩ := List.mem_map.mp h
    obtain ⟨h1, h2⟩ := List.mem_filter.mp hq
    exact ⟨by simpa using h2, List.mem_map.mpr ⟨q, h1, rfl⟩⟩
  · rintro ⟨h1, h2⟩
    obtain ⟨q, hq, rfl⟩ := List.mem_map.mp h2
    exact List.mem_map.mpr ⟨q, List.mem_filter.mpr ⟨hq, by simpa using h1⟩, rfl⟩
theorem get_some {L : Tab} {k : Dir} : (getM L k).isSome = true ↔ k ∈ L.map (·.1) := by
  constructor
  · intro h
    unfold getM at h
    cases e : L.find? (fun q => decide (q.1 = k)) with
    | none => rw [e] at h; cases h
    | some z =>
      have h1 := List.find?_some e
      have h2 := List.mem_of_find?_eq_some e
      exact List.mem_map.mpr ⟨z, h2, by simpa using h1⟩
  · intro h
    obtain ⟨v, e⟩ := getM_mem h
    rw [e]; rfl
theorem minP_mem : ∀ (xs : List (Int × Dir)) (x : Int × Dir), minP x xs = x ∨ minP x xs ∈ xs
  | [], x => .inl rfl
  | y :: xs, x => by
    have h : minP x (y :: xs) = minP (if leP x y then x else y) xs := rfl
    rw [h]
    rcases minP_mem xs (if leP x y then x else y) with e | e
    · rw [e]
      split
      · exact .inl rfl
      · exact .inr (by simp)
    · exact .inr (by simp [e])
theorem relax_keys {L found line : Tab} {least : Int} {o x : Dir} : x ∈ (relax L found least line o).map (·.1) → (x = o ∧ o ∉ found.map (·.1)) ∨ x ∈ line.map (·.1) := by
  unfold relax
  split
  · exact .inr
  · rename_i h
    rw [get_some] at h
    rw [mem_put]
    rintro (rfl | h')
    · exact .inl ⟨rfl, h⟩
    · exact .inr h'
theorem relaxes_keys {L found : Tab} {least : Int} : ∀ {os : List Dir} {line : Tab} {x : Dir}, x ∈ (os.foldl (relax L found least) line).map (·.1) → (x ∈ os ∧ x ∉ found.map (·.1)) ∨ x ∈ line.map (·.1)
  | [], _, _, h => .inr h
  | o :: os, line, x, h => by
    rcases relaxes_keys (os := os) (line := relax L found least line o) h with h | h
    · exact .inl ⟨by simp [h.1], h.2⟩
    · rcases relax_keys h with ⟨rfl, h⟩ | h
      · exact .inl ⟨by simp, h⟩
      · exact .inr h
theorem relax_nodup {L found line : Tab} {least : Int} {o : Dir} (h : (line.map (·.1)).Nodup) : ((relax L found least line o).map (·.1)).Nodup := by
  unfold relax
  split
  · exact h
  · exact nodup_put h
theorem relaxes_nodup {L found : Tab} {least : Int} : ∀ {os : List Dir} {line : Tab}, (line.map (·.1)).Nodup → ((os.foldl (relax L found least) line).map (·.1)).Nodup
  | [], _, h => h
  | o :: os, line, h => relaxes_nodup (os := os) (relax_nodup h)
structure TI (L found line : Tab) : Prop where
  nf : (found.map (·.1)).Nodup
  nl : (line.map (·.1)).Nodup
  sf : ∀ x ∈ found.map (·.1), x ∈ L.map (·.1)
  sl : ∀ x ∈ line.map (·.1), x ∈ L.map (·.1)
  ap : ∀ x ∈ line.map (·.1), x ∉ found.map (·.1)
theorem head_min {q : Dir × Int} {r : Tab} : ∃ z ∈ (q :: r : Tab), minP (flip q) (r.map flip) = flip z := by
  rcases minP_mem (r.map flip) (flip q) with e | e
  · exact ⟨q, by simp, e⟩
  · obtain ⟨z, hz, e'⟩ := List.mem_map.mp e
    exact ⟨z, by simp [hz], e'.symm⟩
theorem nexts_sub {L : Tab} {S : List D} {a b : Int} {x : Dir} (h : x ∈ nextsM L S a b) : x ∈ L.map (·.1) := (List.mem_filter.mp h).1
theorem TI.turn {L : Tab} {S : List D} {found line : Tab} (h : TI L found line) (hn : line ≠ []) : TI L (turnM L S found line).1 (turnM L S found line).2 ∧ (turnM L S found line).1.length = found.length + 1 := by
  cases line with
  | nil => exact absurd rfl hn
  | cons q r =>
    obtain ⟨z, hz, em⟩ := head_min (q := q) (r := r)
    have hzl : z.1 ∈ ((q :: r : Tab)).map (·.1) := List.mem_map.mpr ⟨z, hz, rfl⟩
    unfold turnM
    simp only [em]
    show TI L (putM found z.1 z.2) ((nextsM L S z.1.1 z.1.2).foldl (relax L (putM found z.1 z.2) z.2) (dropM (q :: r) z.1)) ∧ (putM found z.1 z.2).length = found.length + 1
    refine ⟨⟨nodup_put h.nf, relaxes_nodup (nodup_drop h.nl), fun x hx => ?_, fun x hx => ?_, fun x hx => ?_⟩, ?_⟩
    · rcases mem_put.mp hx with rfl | hx
      · exact h.sl _ hzl
      · exact h.sf x hx
    · rcases relaxes_keys hx with ⟨hx, _⟩ | hx
      · exact nexts_sub hx
      · exact h.sl x (mem_drop.mp hx).2
    · rcases relaxes_keys hx with ⟨_, hx⟩ | hx
      · exact hx
      · rw [mem_put]
        rintro (rfl | h')
        · exact (mem_drop.mp hx).1 rfl
        · exact h.ap x (mem_drop.mp hx).2 h'
    · unfold putM
      have : ¬ hasK found z.1 = true := fun e => by
        apply h.ap _ hzl
        unfold hasK at e
        rw [List.any_eq_true] at e
        obtain ⟨y, hy, e⟩ := e
        exact List.mem_map.mpr ⟨y, hy, by simpa using e⟩
      rw [if_neg this]
      simp
theorem nodup_len : ∀ {l m : List Dir}, l.Nodup → (∀ x ∈ l, x ∈ m) → l.length ≤ m.length
  | [], m, _, _ => by simp
  | x :: l, m, hn, hs => by
    rw [List.nodup_cons] at hn
    have hx : x ∈ m := hs x (by simp)
    have := nodup_len (l := l) (m := m.erase x) hn.2 fun y hy => by
      rw [List.mem_erase_of_ne (by rintro rfl; exact hn.1 hy)]
      exact hs y (by simp [hy])
    rw [List.length_erase_of_mem hx] at this
    have hp : 0 < m.length := List.length_pos_of_mem hx
    simp only [List.length_cons]
    omega
def dijkI (L : Tab) (S : List D) : Nat → Tab × Tab → Option (Tab × Tab) := iterM (fun q => !q.2.isEmpty) (fun q => turnM L S q.1 q.2)
theorem dijkI_some {L : Tab} {S : List D} : ∀ (n : Nat) (q : Tab × Tab), TI L q.1 q.2 → L.length < n + q.1.length → ∃ q', dijkI L S n q = some q' ∧ TI L q'.1 q'.2 ∧ q'.2 = []
  | 0, q, h, hl => by
    exfalso
    have := nodup_len h.nf h.sf
    simp at this
    omega
  | n + 1, q, h, hl => by
    unfold dijkI iterM
    cases hq : q.2.isEmpty with
    | true => exact ⟨q, by simp, h, by simpa using hq⟩
    | false =>
      have hne : q.2 ≠ [] := by intro e; rw [e] at hq; simp at hq
      obtain ⟨h1, h2⟩ := h.turn (S := S) hne
      simp only [Bool.not_false, if_true]
      exact dijkI_some n (turnM L S q.1 q.2) h1 (by rw [h2]; omega)
def line0 (L : Tab) (S : List D) (s : Int) : Tab := (firstsM L S s).foldl (fun l o => putM l o (lenOf L o)) []
def dijkM (L : Tab) (S : List D) (s : Int) : Tab := ((dijkI L S 1000 ([], line0 L S s)).getD ([], [])).1
theorem line0_keys {L : Tab} : ∀ {os : List Dir} {l : Tab} {x : Dir}, x ∈ (os.foldl (fun l o => putM l o (lenOf L o)) l).map (·.1) → x ∈ os ∨ x ∈ l.map (·.1)
  | [], _, _, h => .inr h
  | o :: os, l, x, h => by
    rcases line0_keys (os := os) (l := putM l o (lenOf L o)) h with h | h
    · exact .inl (by simp [h])
    · rcases mem_put.mp h with rfl | h
      · exact .inl (by simp)
      · exact .inr h
theorem line0_nodup {L : Tab} : ∀ {os : List Dir} {l : Tab}, (l.map (·.1)).Nodup → ((os.foldl (fun l o => putM l o (lenOf L o)) l).map (·.1)).Nodup
  | [], _, h => h
  | o :: os, l, h => line0_nodup (os := os) (nodup_put h)
theorem TI.start (L : Tab) (S : List D) (s : Int) : TI L [] (line0 L S s) := ⟨by simp, line0_nodup (by simp), by simp, fun x hx => by
  rcases line0_keys hx with h | h
  · exact (List.mem_filter.mp h).1
  · simp at h, by simp⟩
end Q
set_option maxRecDepth 100000
namespace Q
open PySem Pu
theorem iter_proj {σ τ : Type} (f : σ → τ) {c : σ → Bool} {step : σ → σ} {c' : τ → Bool} {step' : τ → τ} (hc : ∀ q, c q = c' (f q)) (hs : ∀ q, c q = true → f (step q) = step' (f q)) : ∀ (n : Nat) (q : σ), (iterM c step n q).map f = iterM c' step' n (f q)
  | 0, q => rfl
  | n + 1, q => by
    unfold iterM
    rw [← hc q]
    cases h : c q with
    | true => simp only [if_true]; rw [iter_proj f hc hs n (step q), hs q h]
    | false => simp
theorem get_step {L : Tab} {k : Dir} {x : Int} {i : Nat} {ρ : Pu.Env} {a kx : M} {r r' : Res} (h0 : slotDict i ρ = some (kvD L)) (h1 : kx ρ = some (r, ρ)) (h2 : share r ρ = some (dirD k, ρ)) (h3 : a ρ = some (r', ρ)) (h4 : share r' ρ = some (.int x, ρ)) : eGet i kx a ρ = some (.sh (.int ((getM L k).getD x)), ρ) := by
  rw [eGet_eq h0 h1 h2 h3 h4 h0 (dAsk_kv L k), dFind_kv]
  cases getM L k <;> rfl
theorem lenOf_get {L : Tab} {o : Dir} (h : o ∈ L.map (·.1)) : getM L o = some (lenOf L o) := by
  obtain ⟨v, e⟩ := getM_mem h
  unfold lenOf; rw [e]; rfl
theorem tab_len {L f : Tab} (hn : (f.map (·.1)).Nodup) (hs : ∀ x ∈ f.map (·.1), x ∈ L.map (·.1)) : f.length ≤ L.length := by
  have := nodup_len hn hs
  simpa using this
abbrev TS3 := (Option D × Option D × Option D) × (Tab × Tab)
def envT (L : Tab) (S : List D) (s : Int) (q : TS3) : Pu.Env := [.sh (lenD L), .sh (.tuple S), .sh (.int s), lastS q.1.1, .ow (lenD q.2.1), .ow (lenD q.2.2), lastS q.1.2.1, lastS q.1.2.2, .no]
def stepT (L : Tab) (S : List D) (q : TS3) : TS3 := match q.2.2 with
  | [] => q
  | z :: r =>
    let m := minP (flip z) (r.map flip)
    ((some (dirD m.2), (nextsM L S m.2.1 m.2.2).foldl (fun _ o => some (dirD o)) q.1.2.1, some (.int m.1)), turnM L S q.2.1 q.2.2)
theorem relax_loop {L : Tab} {S : List D} {s : Int} {found : Tab} {m : Int × Dir} (hL : L.length ≤ 1000) : ∀ (os : List Dir) (t : Option D) (ln : Tab), ((∀ o ∈ os, o ∈ L.map (·.1)) ∧ ln.length + os.length ≤ 3000) →
    forGo (gName 6) (sIf (tOf (eOp2 pNotIn (eVar 6) (eVar 4))) (sPut 5 (ePrim pMin2 (msCons (eGet 5 (eVar 6) (eOp2 pAdd (eVar 7) (eOp2 pIx (eVar 0) (eVar 6)))) (msCons (eOp2 pAdd (eVar 7) (eOp2 pIx (eVar 0) (eVar 6))) (msNil)))) (eVar 6)) (sNop)) (os.map dirD)
      [.sh (lenD L), .sh (.tuple S), .sh (.int s), .sh (dirD m.2), .ow (lenD found), .ow (lenD ln), lastS t, .sh (.int m.1), .no] =
    some (.nx [.sh (lenD L), .sh (.tuple S), .sh (.int s), .sh (dirD m.2), .ow (lenD found), .ow (lenD (os.foldl (relax L found m.1) ln)), lastS (os.foldl (fun _ o => some (dirD o)) t), .sh (.int m.1), .no]) := by
  intro os t ln hI
  have loop := for_foldI (s := sIf (tOf (eOp2 pNotIn (eVar 6) (eVar 4))) (sPut 5 (ePrim pMin2 (msCons (eGet 5 (eVar 6) (eOp2 pAdd (eVar 7) (eOp2 pIx (eVar 0) (eVar 6)))) (msCons (eOp2 pAdd (eVar 7) (eOp2 pIx (eVar 0) (eVar 6))) (msNil)))) (eVar 6)) (sNop)) (g := gName 6) dirD
    (fun q : Option D × Tab => [.sh (lenD L), .sh (.tuple S), .sh (.int s), .sh (dirD m.2), .ow (lenD found), .ow (lenD q.2), lastS q.1, .sh (.int m.1), .no])
    (fun q o => (some (dirD o), relax L found m.1 q.2 o)) (fun rest q => (∀ o ∈ rest, o ∈ L.map (·.1)) ∧ q.2.length + rest.length ≤ 3000)
    (fun o xs q hI => by
      obtain ⟨t, ln⟩ := q
      obtain ⟨h1, h2⟩ := hI
      have h2' : ln.length + (xs.length + 1) ≤ 3000 := h2
      have ho := lenOf_get (h1 o (by simp))
      refine ⟨⟨fun x hx => h1 x (by simp [hx]), ?_⟩, [.sh (lenD L), .sh (.tuple S), .sh (.int s), .sh (dirD m.2), .ow (lenD found), .ow (lenD ln), .sh (dirD o), .sh (.int m.1), .no], by cases t <;> rfl, .inl ?_⟩
      · show (relax L found m.1 ln o).length + xs.length ≤ 3000
        unfold relax
        split
        · omega
        · have := putM_len ln o (mn ((getM ln o).getD (m.1 + lenOf L o)) (m.1 + lenOf L o))
          omega
      · apply sIf_b (k := !(getM found o).isSome)
        · apply tOf_eq
          · apply eOp2_eq (hf := pNotIn_kv found o)
            all_goals (repeat' (first | exact eVar_eq rfl | with_reducible apply eOp2_eq | with_reducible apply eOp1_eq | with_reducible apply ePrim_eq | with_reducible apply msCons_eq | with_reducible apply eTup_eq | with_reducible apply eLst_eq | with_reducible apply dsCons_eq | with_reducible apply tOf_eq | with_reducible apply tNot_eq | with_reducible apply eSlice_eq | with_reducible apply oSome_eq | with_reducible apply asSh_eq | with_reducible apply iOf_eq | with_reducible apply iZip_eq | with_reducible apply iEnum_eq | rfl))
          · rfl
        · intro hk
          have hk' : ¬ (getM found o).isSome = true := by simpa using hk
          have e : relax L found m.1 ln o = putM ln o (mn ((getM ln o).getD (m.1 + lenOf L o)) (m.1 + lenOf L o)) := by unfold relax; rw [if_neg hk']
          rw [e]
          apply put_step (L := ln) (k := o) (v := mn ((getM ln o).getD (m.1 + lenOf L o)) (m.1 + lenOf L o))
          · apply ePrim_eq
            · apply msCons_eq
              · apply get_step (L := ln) (k := o) (x := m.1 + lenOf L o)
                · rfl
                · exact eVar_eq (d := dirD o) rfl
                · rfl
                · apply eOp2_eq (x := .int m.1) (y := .int (lenOf L o))
                  · exact eVar_eq (d := .int m.1) rfl
                  · apply eOp2_eq (hf := pIx_kv ho)
                    all_goals (repeat' (first | exact eVar_eq rfl | with_reducible apply eOp2_eq | with_reducible apply eOp1_eq | with_reducible apply ePrim_eq | with_reducible apply msCons_eq | with_reducible apply eTup_eq | with_reducible apply eLst_eq | with_reducible apply dsCons_eq | with_reducible apply tOf_eq | with_reducible apply tNot_eq | with_reducible apply eSlice_eq | with_reducible apply oSome_eq | with_reducible apply asSh_eq | with_reducible apply iOf_eq | with_reducible apply iZip_eq | with_reducible apply iEnum_eq | rfl))
                  · rfl
                  · rfl
                  · rfl
                · rfl
              · apply msCons_eq
                · apply eOp2_eq (x := .int m.1) (y := .int (lenOf L o))
                  · exact eVar_eq (d := .int m.1) rfl
                  · apply eOp2_eq (hf := pIx_kv ho)
                    all_goals (repeat' (first | exact eVar_eq rfl | with_reducible apply eOp2_eq | with_reducible apply eOp1_eq | with_reducible apply ePrim_eq | with_reducible apply msCons_eq | with_reducible apply eTup_eq | with_reducible apply eLst_eq | with_reducible apply dsCons_eq | with_reducible apply tOf_eq | with_reducible apply tNot_eq | with_reducible apply eSlice_eq | with_reducible apply oSome_eq | with_reducible apply asSh_eq | with_reducible apply iOf_eq | with_reducible apply iZip_eq | with_reducible apply iEnum_eq | rfl))
                  · rfl
                  · rfl
                  · rfl
                · rfl
            · rfl
            · rfl
          · rfl
          · rfl
          · exact eVar_eq (d := dirD o) rfl
          · rfl
          · omega
          · rfl
        · intro hk
          have hk' : (getM found o).isSome = true := by simpa using hk
          have e : relax L found m.1 ln o = ln := by unfold relax; rw [if_pos hk']
          rw [e]; rfl)
  have r := (loop os (t, ln) hI).1
  have e : ∀ (os : List Dir) (t : Option D) (ln : Tab), os.foldl (fun (q : Option D × Tab) o => (some (dirD o), relax L found m.1 q.2 o)) (t, ln) = (os.foldl (fun _ o => some (dirD o)) t, os.foldl (relax L found m.1) ln) := by
    intro os
    induction os with
    | nil => intro t ln; rfl
    | cons o os ih => intro t ln; exact ih _ _
  rw [e] at r
  exact r
theorem put_lens {L : Tab} {S : List D} {s : Int} (hL : L.length ≤ 1000) : ∀ (os : List Dir) (t : Option D) (ln : Tab), ((∀ o ∈ os, o ∈ L.map (·.1)) ∧ ln.length + os.length ≤ 3000) →
    forGo (gName 3) (sPut 5 (eOp2 pIx (eVar 0) (eVar 3)) (eVar 3)) (os.map dirD)
      [.sh (lenD L), .sh (.tuple S), .sh (.int s), lastS t, .ow (lenD []), .ow (lenD ln), .no, .no, .no] =
    some (.nx [.sh (lenD L), .sh (.tuple S), .sh (.int s), lastS (os.foldl (fun _ o => some (dirD o)) t), .ow (lenD []), .ow (lenD (os.foldl (fun l o => putM l o (lenOf L o)) ln)), .no, .no, .no]) := by
  intro os t ln hI
  have loop := for_foldI (s := sPut 5 (eOp2 pIx (eVar 0) (eVar 3)) (eVar 3)) (g := gName 3) dirD
    (fun q : Option D × Tab => [.sh (lenD L), .sh (.tuple S), .sh (.int s), lastS q.1, .ow (lenD []), .ow (lenD q.2), .no, .no, .no])
    (fun q o => (some (dirD o), putM q.2 o (lenOf L o))) (fun rest q => (∀ o ∈ rest, o ∈ L.map (·.1)) ∧ q.2.length + rest.length ≤ 3000)
    (fun o xs q hI => by
      obtain ⟨t, ln⟩ := q
      obtain ⟨h1, h2⟩ := hI
      have h2' : ln.length + (xs.length + 1) ≤ 3000 := h2
      have ho := lenOf_get (h1 o (by simp))
      have hl := putM_len ln o (lenOf L o)
      refine ⟨⟨fun x hx => h1 x (by simp [hx]), ?_⟩, [.sh (lenD L), .sh (.tuple S), .sh (.int s), .sh (dirD o), .ow (lenD []), .ow (lenD ln), .no, .no, .no], by cases t <;> rfl, .inl ?_⟩
      · show (putM ln o (lenOf L o)).length + xs.length ≤ 3000
        omega
      · apply put_step (L := ln) (k := o) (v := lenOf L o)
        · apply eOp2_eq (hf := pIx_kv ho)
          all_goals (repeat' (first | exact eVar_eq rfl | with_reducible apply eOp2_eq | with_reducible apply eOp1_eq | with_reducible apply ePrim_eq | with_reducible apply msCons_eq | with_reducible apply eTup_eq | with_reducible apply eLst_eq | with_reducible apply dsCons_eq | with_reducible apply tOf_eq | with_reducible apply tNot_eq | with_reducible apply eSlice_eq | with_reducible apply oSome_eq | with_reducible apply asSh_eq | with_reducible apply iOf_eq | with_reducible apply iZip_eq | with_reducible apply iEnum_eq | rfl))
        · rfl
        · rfl
        · exact eVar_eq (d := dirD o) rfl
        · rfl
        · omega
        · rfl)
  have r := (loop os (t, ln) hI).1
  have e : ∀ (os : List Dir) (t : Option D) (ln : Tab), os.foldl (fun (q : Option D × Tab) o => (some (dirD o), putM q.2 o (lenOf L o))) (t, ln) = (os.foldl (fun _ o => some (dirD o)) t, os.foldl (fun l o => putM l o (lenOf L o)) ln) := by
    intro os
    induction os with
    | nil => intro t ln; rfl
    | cons o os ih => intro t ln; exact ih _ _
  rw [e] at r
  exact r
theorem pairs_comp {L : Tab} {S : List D} {s : Int} {q : TS3} (hn : (q.2.2.map (·.1)).Nodup) :
    eLock 5 (eComp [8] (iOf (eVar 5)) (gName 8) (tYes) (eTup (dsCons (eOp2 pIx (eVar 5) (eVar 8)) (dsCons (eVar 8) (dsNil))))) (envT L S s q) = some (.ow (.list (q.2.2.map fun z => prD (flip z))), envT L S s q) := by
  obtain ⟨⟨t1, t2, t3⟩, found, line⟩ := q
  have run := comp_map (ρ := [.sh (lenD L), .sh (.tuple S), .sh (.int s), maskS (lastS t1), .no, .sh (lenD line), maskS (lastS t2), maskS (lastS t3), .no]) (vs := [8]) (g := gName 8) (t := tYes) (a := eTup (dsCons (eOp2 pIx (eVar 5) (eVar 8)) (dsCons (eVar 8) (dsNil))))
    (fun z : Dir × Int => dirD z.1) (fun _ => true) (fun z => prD (flip z)) line [] fun w hw => by
      refine ⟨[.sh (lenD L), .sh (.tuple S), .sh (.int s), maskS (lastS t1), .no, .sh (lenD line), maskS (lastS t2), maskS (lastS t3), .sh (dirD w.1)], rfl, rfl, fun _ => ⟨.sh (prD (flip w)), ?_, rfl⟩, rfl⟩
      apply eTup_eq
      apply dsCons_eq
      · apply eOp2_eq (hf := pIx_kv (getM_of hn hw))
        all_goals (repeat' (first | exact eVar_eq rfl | with_reducible apply eOp2_eq | with_reducible apply eOp1_eq | with_reducible apply ePrim_eq | with_reducible apply msCons_eq | with_reducible apply eTup_eq | with_reducible apply eLst_eq | with_reducible apply dsCons_eq | with_reducible apply tOf_eq | with_reducible apply tNot_eq | with_reducible apply eSlice_eq | with_reducible apply oSome_eq | with_reducible apply asSh_eq | with_reducible apply iOf_eq | with_reducible apply iZip_eq | with_reducible apply iEnum_eq | rfl))
      · rfl
      · (repeat' (first | exact eVar_eq rfl | with_reducible apply eOp2_eq | with_reducible apply eOp1_eq | with_reducible apply ePrim_eq | with_reducible apply msCons_eq | with_reducible apply eTup_eq | with_reducible apply eLst_eq | with_reducible apply dsCons_eq | with_reducible apply tOf_eq | with_reducible apply tNot_eq | with_reducible apply eSlice_eq | with_reducible apply oSome_eq | with_reducible apply asSh_eq | with_reducible apply iOf_eq | with_reducible apply iZip_eq | with_reducible apply iEnum_eq | rfl))
  have ef : line.filter (fun _ => true) = line := List.filter_eq_self.mpr fun _ _ => rfl
  rw [ef, List.nil_append] at run
  apply eLock_eq
  · rfl
  · apply eComp_eq
    · apply iOf_eq
      · exact eVar_eq (d := lenD line) rfl
      · rfl
      · show some ((line.map fun z => (dirD z.1, PyData.int z.2)).map (·.1)) = some (line.map fun z => dirD z.1)
        rw [List.map_map]; rfl
    · exact run
    · rfl
  · have h := noObjs_pr (line.map flip)
    rw [List.map_map] at h
    have h' : noObjs (line.map fun z => prD (flip z)) = true := h
    simp only [lockRes, h', if_true]
theorem turn_run {L : Tab} {S : List D} {s : Int} {q : TS3} (hS : OkS S) (hL : L.length ≤ 1000) (h : TI L q.2.1 q.2.2) (hne : q.2.2 ≠ []) :
    (sSeq (sUnp (gTup (gsCons (gName 7) (gsCons (gName 3) (gsNil)))) (ePrim pMinL (msCons (eLock 5 (eComp [8] (iOf (eVar 5)) (gName 8) (tYes) (eTup (dsCons (eOp2 pIx (eVar 5) (eVar 8)) (dsCons (eVar 8) (dsNil)))))) (msNil)))) (sSeq (sExpr (ePopKey 5 (eVar 3))) (sSeq (sPut 4 (eVar 7) (eVar 3)) (sFor (iOf (eCall F_nexts (asSh (eVar 0) (asSh (eVar 1) (asSh (eVar 3) (asNil)))))) (gName 6) (sIf (tOf (eOp2 pNotIn (eVar 6) (eVar 4))) (sPut 5 (ePrim pMin2 (msCons (eGet 5 (eVar 6) (eOp2 pAdd (eVar 7) (eOp2 pIx (eVar 0) (eVar 6)))) (msCons (eOp2 pAdd (eVar 7) (eOp2 pIx (eVar 0) (eVar 6))) (msNil)))) (eVar 6)) (sNop)))))) (envT L S s q) = some (.nx (envT L S s (stepT L S q))) := by
  have pc := pairs_comp (L := L) (S := S) (s := s) (q := q) h.nl
  obtain ⟨⟨t1, t2, t3⟩, found, line⟩ := q
  cases line with
  | nil => exact absurd rfl hne
  | cons z r =>
    obtain ⟨y, hy, em⟩ := head_min (q := z) (r := r)
    have hy2 := getM_of h.nl hy
    have lf : found.length ≤ L.length := tab_len h.nf h.sf
    have ll : (z :: r : Tab).length ≤ L.length := tab_len h.nl h.sl
    have ld : (dropM (z :: r) y.1).length ≤ (z :: r : Tab).length := List.length_filter_le _ _
    have ln : (nextsM L S y.1.1 y.1.2).length ≤ L.length := by
      have h9 := List.length_filter_le (nxt S y.1.1 y.1.2) (L.map (·.1))
      rw [List.length_map] at h9
      exact h9
    have es : stepT L S ((t1, t2, t3), found, z :: r) = ((some (dirD y.1), (nextsM L S y.1.1 y.1.2).foldl (fun _ o => some (dirD o)) t2, some (.int y.2)), putM found y.1 y.2, (nextsM L S y.1.1 y.1.2).foldl (relax L (putM found y.1 y.2) y.2) (dropM (z :: r) y.1)) := by
      simp only [stepT, turnM, em]; rfl
    rw [es]
    apply sSeq_nx
    · apply sUnp_eq (d := prD (flip y))
      · apply ePrim_eq
        · apply msCons_eq
          · exact pc
          · rfl
        · rfl
        · show pMinL [.list (prD (flip z) :: r.map fun z => prD (flip z))] = some (.sh (prD (flip y)))
          have e1 : (r.map fun z => prD (flip z)) = (r.map flip).map prD := by rw [List.map_map]; rfl
          have ok := minOk_pr (flip z :: r.map flip)
          rw [List.map_cons] at ok
          rw [e1]
          simp only [pMinL, ok, if_true]
          rw [minT_pr, em]
      · rfl
      · show (setSlot 7 (.sh (.int y.2)) _).bind _ = _
        cases t1 <;> cases t3 <;> rfl
    · apply sSeq_nx
      · apply sExpr_eq
        apply ePopKey_eq (kvs := kvD (z :: r)) (kv0 := kvD (z :: r)) (x := dirD y.1) (v := .int y.2)
        · rfl
        · exact eVar_eq (d := dirD y.1) rfl
        · rfl
        · rfl
        · rw [tupKey_dir, allTup_kv]; rfl
        · rw [dFind_kv, hy2]; rfl
        · rw [dDrop_kv]; rfl
      · apply sSeq_nx
        · apply put_step (L := found) (k := y.1) (v := y.2)
          · exact eVar_eq (d := .int y.2) rfl
          · rfl
          · rfl
          · exact eVar_eq (d := dirD y.1) rfl
          · rfl
          · omega
          · rfl
        · apply sFor_eq
          · apply iOf_eq
            · apply eCall_eq (h3 := nexts_eq (L := L) (S := S) (a := y.1.1) (b := y.1.2) hS hL)
              all_goals first | exact List.nodup_nil | (repeat' (first | exact eVar_eq rfl | with_reducible apply eOp2_eq | with_reducible apply eOp1_eq | with_reducible apply ePrim_eq | with_reducible apply msCons_eq | with_reducible apply eTup_eq | with_reducible apply eLst_eq | with_reducible apply dsCons_eq | with_reducible apply tOf_eq | with_reducible apply tNot_eq | with_reducible apply eSlice_eq | with_reducible apply oSome_eq | with_reducible apply asSh_eq | with_reducible apply iOf_eq | with_reducible apply iZip_eq | with_reducible apply iEnum_eq | rfl))
            · rfl
            · rfl
          · exact relax_loop (S := S) (s := s) (found := putM found y.1 y.2) (m := (y.2, y.1)) hL (nextsM L S y.1.1 y.1.2) t2 (dropM (z :: r) y.1) ⟨fun o ho => nexts_sub ho, by omega⟩
theorem table_eq {L : Tab} {S : List D} {s : Int} (hS : OkS S) (hL : L.length ≤ 900) :
    F_least_table [.sh (lenD L), .sh (.tuple S), .sh (.int s)] = some (.ow (lenD (dijkM L S s)), [.sh (lenD L), .sh (.tuple S), .sh (.int s)]) := by
  have hL' : L.length ≤ 1000 := by omega
  have lf : (firstsM L S s).length ≤ L.length := by
    have h9 := List.length_filter_le (fst S s) (L.map (·.1))
    rw [List.length_map] at h9
    exact h9
  have run := while_run (t := tOf (eOp2 pNe (eVar 5) (eDict))) (s := (sSeq (sUnp (gTup (gsCons (gName 7) (gsCons (gName 3) (gsNil)))) (ePrim pMinL (msCons (eLock 5 (eComp [8] (iOf (eVar 5)) (gName 8) (tYes) (eTup (dsCons (eOp2 pIx (eVar 5) (eVar 8)) (dsCons (eVar 8) (dsNil)))))) (msNil)))) (sSeq (sExpr (ePopKey 5 (eVar 3))) (sSeq (sPut 4 (eVar 7) (eVar 3)) (sFor (iOf (eCall F_nexts (asSh (eVar 0) (asSh (eVar 1) (asSh (eVar 3) (asNil)))))) (gName 6) (sIf (tOf (eOp2 pNotIn (eVar 6) (eVar 4))) (sPut 5 (ePrim pMin2 (msCons (eGet 5 (eVar 6) (eOp2 pAdd (eVar 7) (eOp2 pIx (eVar 0) (eVar 6)))) (msCons (eOp2 pAdd (eVar 7) (eOp2 pIx (eVar 0) (eVar 6))) (msNil)))) (eVar 6)) (sNop)))))))
    (envT L S s) (fun q => !q.2.2.isEmpty) (stepT L S) (fun q => TI L q.2.1 q.2.2) (fun q hq => by
      refine ⟨?_, fun hc => ?_⟩
      · apply tOf_eq
        · apply eOp2_eq (x := lenD q.2.2) (y := .dict []) (r := .sh (.bool (!q.2.2.isEmpty)))
          · exact eVar_eq (d := lenD q.2.2) rfl
          · rfl
          · rfl
          · rfl
          · show bR (!(kvD q.2.2).isEmpty) = _
            have : (kvD q.2.2).isEmpty = q.2.2.isEmpty := by unfold kvD; cases q.2.2 <;> rfl
            rw [this]; rfl
        · rfl
      · have hne : q.2.2 ≠ [] := by intro e; rw [e] at hc; simp at hc
        refine ⟨?_, .inl (turn_run hS hL' hq hne)⟩
        have := (hq.turn (S := S) hne).1
        unfold stepT
        split
        · exact hq
        · exact this)
  have st := TI.start L S s
  have r1 := run 1000 ((((firstsM L S s).foldl (fun _ o => some (dirD o)) none), none, none), ([], line0 L S s)) st
  obtain ⟨q', e1, e2, e3⟩ := dijkI_some (S := S) 1000 ([], line0 L S s) st (by simp; omega)
  have ip := iter_proj (fun q : TS3 => q.2) (c := fun q => !q.2.2.isEmpty) (step := stepT L S) (c' := fun q => !q.2.isEmpty) (step' := fun q => turnM L S q.1 q.2) (fun _ => rfl) (fun q _ => by
    unfold stepT
    split
    · rename_i h; obtain ⟨qa, qb, qc⟩ := q; simp only at h; subst h; rfl
    · rfl) 1000 ((((firstsM L S s).foldl (fun _ o => some (dirD o)) none), none, none), ([], line0 L S s))
  have e4 : iterM (fun q : Tab × Tab => !q.2.isEmpty) (fun q => turnM L S q.1 q.2) 1000 ([], line0 L S s) = some q' := e1
  rw [e4] at ip
  obtain ⟨w, w1, w2⟩ := Option.map_eq_some_iff.mp ip
  rw [w1] at r1
  have ed : dijkM L S s = w.2.1 := by unfold dijkM; rw [e1, w2]; rfl
  rw [ed]
  apply fn_ow
  · apply sSeq_nx
    · apply sPar_eq
      · apply hsCons_eq
        · rfl
        · rfl
        · apply hsCons_eq
          · rfl
          · rfl
          · rfl
      · rfl
    · apply sSeq_nx
      · apply sFor_eq
        · apply iOf_eq
          · apply eCall_eq (h3 := firsts_eq (L := L) (S := S) (s := s) hS)
            all_goals first | exact List.nodup_nil | (repeat' (first | exact eVar_eq rfl | with_reducible apply eOp2_eq | with_reducible apply eOp1_eq | with_reducible apply ePrim_eq | with_reducible apply msCons_eq | with_reducible apply eTup_eq | with_reducible apply eLst_eq | with_reducible apply dsCons_eq | with_reducible apply tOf_eq | with_reducible apply tNot_eq | with_reducible apply eSlice_eq | with_reducible apply oSome_eq | with_reducible apply asSh_eq | with_reducible apply iOf_eq | with_reducible apply iZip_eq | with_reducible apply iEnum_eq | rfl))
          · rfl
          · rfl
        · exact put_lens (S := S) (s := s) hL' (firstsM L S s) none [] ⟨fun o ho => (List.mem_filter.mp ho).1, by simp; omega⟩
      · apply sSeq_nx
        · exact r1
        · apply sRet_eq
          · exact eVar_eq (d := lenD w.2.1) rfl
          · rfl
  · rfl
end Q
set_option maxRecDepth 100000
namespace Q
open PySem Pu
def minI (x : Int) (xs : List Int) : Int := xs.foldl (fun a y => if a ≤ y then a else y) x
theorem minT_int : ∀ (xs : List Int) (x : Int), minT (.int x) (xs.map .int) = .int (minI x xs)
  | [], x => rfl
  | y :: xs, x => by
    show minT (if leT (.int x) (.int y) then .int x else .int y) (xs.map .int) = .int (minI (if x ≤ y then x else y) xs)
    have : (if leT (.int x) (.int y) then (.int x : D) else .int y) = .int (if x ≤ y then x else y) := by
      rw [leT_int]; by_cases h : x ≤ y <;> simp [h]
    rw [this, minT_int xs]
theorem minOk_int (xs : List Int) : minOk (xs.map .int) = true := by
  unfold minOk
  rw [Bool.and_eq_true]
  constructor
  · rw [List.all_eq_true]
    intro d hd
    obtain ⟨p, _, rfl⟩ := List.mem_map.mp hd
    simp [okd, PyData.canLay0, PyData.depth]
  · unfold Pu.pairsOk
    rw [Bool.or_eq_true]
    left
    cases xs with
    | nil => rfl
    | cons x xs =>
      simp only [List.map_cons]
      rw [List.all_eq_true]
      intro d hd
      rw [← List.map_cons] at hd
      obtain ⟨p, _, rfl⟩ := List.mem_map.mp hd
      simp [likeD]
def optI : Option Int → D
  | none => .none
  | some i => .int i
def toM (T : Tab) (g : Int) : List Int := (T.filter fun q => decide (q.1.2 = g)).map (·.2)
def leastM (T : Tab) (g : Int) : Option Int := match toM T g with
  | [] => none
  | x :: xs => some (minI x xs)
theorem intsLay (xs : List Int) : PyData.canLayAll0 (xs.map .int) = true := by
  induction xs with
  | nil => simp [PyData.canLayAll0]
  | cons x xs ih => simp [PyData.canLayAll0, PyData.canLay0, ih]
theorem eqv_list (xs ys : List D) : PyData.eqv (.list xs) (.list ys) = PyData.eqvAll xs ys := by simp [PyData.eqv]
theorem to_eq {T : Tab} {g : Int} (hn : (T.map (·.1)).Nodup) : F_least_to [.sh (lenD T), .sh (.int g)] = some (.sh (optI (leastM T g)), [.sh (lenD T), .sh (.int g)]) := by
  have run := comp_map (ρ := [.sh (lenD T), .sh (.int g), .no, .no]) (vs := [3]) (g := gName 3) (t := tOf (eOp2 pEq (eOp2 pIx (eVar 3) (eC (.int 1))) (eVar 1))) (a := eOp2 pIx (eVar 0) (eVar 3))
    (fun z : Dir × Int => dirD z.1) (fun q => decide (q.1.2 = g)) (fun z => .int z.2) T [] fun w hw => by
      refine ⟨[.sh (lenD T), .sh (.int g), .no, .sh (dirD w.1)], rfl, ?_, fun _ => ⟨.sh (.int w.2), ?_, rfl⟩, rfl⟩
      · (repeat' (first | exact eVar_eq rfl | with_reducible apply eOp2_eq | with_reducible apply eOp1_eq | with_reducible apply ePrim_eq | with_reducible apply msCons_eq | with_reducible apply eTup_eq | with_reducible apply eLst_eq | with_reducible apply dsCons_eq | with_reducible apply tOf_eq | with_reducible apply tNot_eq | with_reducible apply eSlice_eq | with_reducible apply oSome_eq | with_reducible apply asSh_eq | with_reducible apply iOf_eq | with_reducible apply iZip_eq | with_reducible apply iEnum_eq | rfl))
      · apply eOp2_eq (hf := pIx_kv (getM_of hn hw))
        all_goals (repeat' (first | exact eVar_eq rfl | with_reducible apply eOp2_eq | with_reducible apply eOp1_eq | with_reducible apply ePrim_eq | with_reducible apply msCons_eq | with_reducible apply eTup_eq | with_reducible apply eLst_eq | with_reducible apply dsCons_eq | with_reducible apply tOf_eq | with_reducible apply tNot_eq | with_reducible apply eSlice_eq | with_reducible apply oSome_eq | with_reducible apply asSh_eq | with_reducible apply iOf_eq | with_reducible apply iZip_eq | with_reducible apply iEnum_eq | rfl))
  rw [List.nil_append] at run
  have e : ((T.filter fun q => decide (q.1.2 = g)).map fun z => PyData.int z.2) = (toM T g).map .int := by unfold toM; rw [List.map_map]; rfl
  rw [e] at run
  apply fn_sh
  · apply sSeq_nx
    · apply sSet_eq
      · apply eComp_eq
        · apply iOf_eq
          · exact eVar_eq (d := lenD T) rfl
          · rfl
          · show some ((T.map fun z => (dirD z.1, PyData.int z.2)).map (·.1)) = some (T.map fun z => dirD z.1)
            rw [List.map_map]; rfl
        · exact run
        · rfl
      · rfl
      · rfl
    · have ne : ∀ b, (!(toM T g).isEmpty) = b → tOf (eOp2 pNe (eVar 2) (eLst (dsNil))) [.sh (lenD T), .sh (.int g), .ow (.list ((toM T g).map .int)), .no] = some (b, [.sh (lenD T), .sh (.int g), .ow (.list ((toM T g).map .int)), .no]) := fun b hb => by
        apply tOf_eq
        · apply eOp2_eq (x := .list ((toM T g).map .int)) (y := .list []) (r := .sh (.bool b))
          · exact eVar_eq (d := .list ((toM T g).map .int)) rfl
          · rfl
          · rfl
          · rfl
          · have h1 : eqOk (.list ((toM T g).map .int)) (.list []) = true := by simp [eqOk, PyData.canLay0, intsLay, PyData.canLayAll0, PyData.depth, PyData.depthAll]
            have h2 : PyData.eqv (.list ((toM T g).map .int)) (.list []) = (toM T g).isEmpty := by
              rw [eqv_list]; cases toM T g <;> simp [PyData.eqvAll]
            show ((if eqOk (.list ((toM T g).map .int)) (.list []) then some (PyData.eqv (.list ((toM T g).map .int)) (.list [])) else none).bind fun b => bR (!b)) = some (.sh (.bool b))
            rw [h1, h2]
            simp only [if_true, Option.bind_some, hb]; rfl
        · rfl
      have ret : sRet (eIf (tOf (eOp2 pNe (eVar 2) (eLst (dsNil)))) (ePrim pMinL (msCons (eVar 2) (msNil))) (eC .none)) [.sh (lenD T), .sh (.int g), .ow (.list ((toM T g).map .int)), .no] = some (.rt (.sh (optI (leastM T g))) [.sh (lenD T), .sh (.int g), .ow (.list ((toM T g).map .int)), .no]) := by
        cases h : toM T g with
        | nil =>
          have el : leastM T g = none := by unfold leastM; rw [h]
          rw [h] at ne
          rw [el]
          apply sRet_eq
          · exact eIf_f (ne false rfl) rfl
          · rfl
        | cons x xs =>
          have el : leastM T g = some (minI x xs) := by unfold leastM; rw [h]
          rw [h] at ne
          rw [el]
          apply sRet_eq
          · apply eIf_t (ne true rfl)
            apply ePrim_eq
            · apply msCons_eq
              · exact eVar_eq (d := .list ((x :: xs).map .int)) rfl
              · rfl
            · rfl
            · have ok := minOk_int (x :: xs)
              rw [List.map_cons] at ok
              show pMinL [.list (.int x :: xs.map .int)] = _
              simp only [pMinL, ok, if_true]
              rw [minT_int]
          · rfl
      exact ret
  · rfl
def intsD (xs : List Int) : D := .tuple (xs.map .int)
def tabsD (f : Int → Tab) (ps : List Int) : List (D × D) := ps.map fun p => (.int p, lenD (f p))
theorem tabs_find {f : Int → Tab} {ps : List Int} {p : Int} (h : p ∈ ps) : dFind (tabsD f ps) (.int p) = some (lenD (f p)) := by
  unfold dFind tabsD
  induction ps with
  | nil => simp at h
  | cons x ps ih =>
    rw [List.map_cons, List.find?_cons]
    by_cases e : x = p
    · subst e; simp [eqv_int]
    · simp only [eqv_int, decide_eq_false e]
      exact ih (by rcases List.mem_cons.mp h with h | h; exact absurd h.symm e; exact h)
theorem tabs_ask {f : Int → Tab} {ps : List Int} {p : Int} (h : p ∈ ps) : dAsk (tabsD f ps) (.int p) = true := by
  have h1 : (tabsD f ps).isEmpty = false := by unfold tabsD; cases ps with
    | nil => simp at h
    | cons _ _ => rfl
  have h2 : ((tabsD f ps).all fun q => keyFlat q.1) = true := by
    rw [List.all_eq_true]; intro q hq
    obtain ⟨z, _, rfl⟩ := List.mem_map.mp hq
    rfl
  unfold dAsk
  rw [h1, h2]; simp [keyFlat]
theorem tabs_ix {f : Int → Tab} {ps : List Int} {p : Int} (h : p ∈ ps) : pIx (.dict (tabsD f ps)) (.int p) = some (.sh (lenD (f p))) := by
  show (if dAsk (tabsD f ps) (.int p) then (dFind (tabsD f ps) (.int p)).map Res.sh else none) = _
  rw [tabs_ask h, tabs_find h]; rfl
theorem tabs_put {f : Int → Tab} {ps : List Int} {p : Int} (h : p ∉ ps) : dPut (tabsD f ps) (.int p) (lenD (f p)) = tabsD f (ps ++ [p]) := by
  have : ((tabsD f ps).any fun q => PyData.eqv q.1 (.int p)) = false := by
    rw [List.any_eq_false]; intro q hq
    obtain ⟨z, hz, rfl⟩ := List.mem_map.mp hq
    simp only [eqv_int, decide_eq_true_eq]
    rintro rfl; exact h hz
  unfold dPut
  rw [this]
  simp [tabsD]
theorem tabs_putOk {f : Int → Tab} {ps : List Int} {p : Int} (h : ps.length < 16777216) : dPutOk (tabsD f ps) (.int p) = true := by
  have h2 : ((tabsD f ps).all fun q => keyFlat q.1) = true := by
    rw [List.all_eq_true]; intro q hq
    obtain ⟨z, _, rfl⟩ := List.mem_map.mp hq
    rfl
  unfold dPutOk
  rw [h2]
  have : (tabsD f ps).length < 16777216 := by simpa [tabsD] using h
  simp [keyFlat, this]
def lenSl (b : Bool) (d : D) : Slot := if b then .sh d else .ow d
theorem dijk_nodup (L : Tab) (S : List D) (s : Int) (hL : L.length ≤ 900) : ((dijkM L S s).map (·.1)).Nodup := by
  obtain ⟨q', e1, e2, e3⟩ := dijkI_some (S := S) 1000 ([], line0 L S s) (TI.start L S s) (by simp; omega)
  unfold dijkM; rw [e1]; exact e2.nf
theorem tables_loop {ss : List Street} {L : Tab} {S gs hs : List D} (hS : OkS S) (hL : L.length ≤ 900) : ∀ (ps : List Int) (b : Bool) (t : Option D) (done : List Int), (done ++ ps).Nodup → done.length + ps.length ≤ 1000 →
    forGo (gName 6) (sPut 5 (eCall F_least_table (asSh (eVar 4) (asSh (eVar 1) (asSh (eVar 6) (asNil))))) (eVar 6)) (ps.map .int) [.sh (.tuple (ss.map strD)), .sh (.tuple S), .sh (.tuple gs), .sh (.tuple hs), lenSl b (lenD L), .ow (.dict (tabsD (dijkM L S) done)), lastS t, .no, .no, .no] =
    some (.nx [.sh (.tuple (ss.map strD)), .sh (.tuple S), .sh (.tuple gs), .sh (.tuple hs), lenSl (b || !ps.isEmpty) (lenD L), .ow (.dict (tabsD (dijkM L S) (done ++ ps))), lastS (ps.foldl (fun _ p => some (.int p)) t), .no, .no, .no])
  | [], b, t, done, _, _ => by simp [forGo]
  | p :: ps, b, t, done, hn, hl => by
    have hp : p ∉ done := fun h => by
      rw [List.nodup_append] at hn
      exact hn.2.2 p h p (by simp) rfl
    have ih := tables_loop (ss := ss) (gs := gs) (hs := hs) hS hL ps true (some (.int p)) (done ++ [p]) (by simpa using hn) (by simp at hl ⊢; omega)
    have st : (gName 6 (.int p) [.sh (.tuple (ss.map strD)), .sh (.tuple S), .sh (.tuple gs), .sh (.tuple hs), lenSl b (lenD L), .ow (.dict (tabsD (dijkM L S) done)), lastS t, .no, .no, .no]) = some [.sh (.tuple (ss.map strD)), .sh (.tuple S), .sh (.tuple gs), .sh (.tuple hs), lenSl b (lenD L), .ow (.dict (tabsD (dijkM L S) done)), .sh (.int p), .no, .no, .no] := by cases t <;> rfl
    have body : sPut 5 (eCall F_least_table (asSh (eVar 4) (asSh (eVar 1) (asSh (eVar 6) (asNil))))) (eVar 6) [.sh (.tuple (ss.map strD)), .sh (.tuple S), .sh (.tuple gs), .sh (.tuple hs), lenSl b (lenD L), .ow (.dict (tabsD (dijkM L S) done)), .sh (.int p), .no, .no, .no] = some (.nx [.sh (.tuple (ss.map strD)), .sh (.tuple S), .sh (.tuple gs), .sh (.tuple hs), .sh (lenD L), .ow (.dict (tabsD (dijkM L S) (done ++ [p]))), .sh (.int p), .no, .no, .no]) := by
      apply sPut_eq (d := lenD (dijkM L S p)) (kvs := tabsD (dijkM L S) done) (kv0 := tabsD (dijkM L S) done) (x := .int p)
      · apply eCall_eq (ρ1 := [.sh (.tuple (ss.map strD)), .sh (.tuple S), .sh (.tuple gs), .sh (.tuple hs), .sh (lenD L), .ow (.dict (tabsD (dijkM L S) done)), .sh (.int p), .no, .no, .no]) (h3 := table_eq (L := L) (S := S) (s := p) hS hL)
        · apply asSh_eq (d := lenD L) (r := .var 4)
          · apply eVar_eq (d := lenD L); cases b <;> rfl
          · cases b <;> rfl
          · apply asSh_eq
            · exact eVar_eq (d := .tuple S) rfl
            · rfl
            · apply asSh_eq
              · exact eVar_eq (d := .int p) rfl
              · rfl
              · rfl
        · exact List.nodup_nil
        · rfl
        · rfl
      · rfl
      · rfl
      · exact eVar_eq (d := .int p) rfl
      · rfl
      · rfl
      · exact tabs_putOk (by simp at hl; omega)
      · rw [tabs_put hp]; rfl
    simp only [List.map_cons, forGo]
    rw [st]; simp only [Option.bind_some]; rw [body]; simp only [Option.bind_some]
    have e1 : (Slot.sh (lenD L)) = lenSl true (lenD L) := rfl
    have e2 : (Slot.sh (.int p)) = lastS (some (.int p)) := rfl
    rw [e1, e2, ih]
    simp
theorem pAll_map {α : Type} (f : α → Bool) (xs : List α) : pAll [.list (xs.map fun w => .bool (f w))] = some (.sh (.bool (xs.all f))) := by
  have h1 : ((xs.map fun w => PyData.bool (f w)).all isBool) = true := by
    rw [List.all_eq_true]; intro d hd
    obtain ⟨z, _, rfl⟩ := List.mem_map.mp hd
    rfl
  have h2 : ((xs.map fun w => PyData.bool (f w)).all Pu.boolOf) = xs.all f := by
    rw [List.all_map]; rfl
  simp only [pAll, h1, h2, if_true]
theorem isNone_opt (o : Option Int) : isNoneD (optI o) = o.isNone := by cases o <;> rfl
end Q
set_option maxRecDepth 100000
namespace Q
open PySem Pu
theorem filter_all {α : Type} (xs : List α) : xs.filter (fun _ => true) = xs := List.filter_eq_self.mpr fun _ _ => rfl
section
variable {L : Tab} {S : List D} {gates houses : List Int} {sd : D} {l p g h : Slot}
def envJ (L : Tab) (S : List D) (gates houses : List Int) (sd : D) (l p g h o : Slot) : Pu.Env := [.sh sd, .sh (.tuple S), .sh (intsD gates), .sh (intsD houses), l, .ow (.dict (tabsD (dijkM L S) (gates ++ houses))), p, g, h, o]
theorem call_to {f : Int → Tab} {x y : Int} {i j : Nat} {ρ : Pu.Env} {ps : List Int} (hn : ((f x).map (·.1)).Nodup) (h5 : ρ[5]? = some (.ow (.dict (tabsD f ps)))) (hi : ρ[i]? = some (.sh (.int x))) (hj : ρ[j]? = some (.sh (.int y))) (hx : x ∈ ps) :
    eCall F_least_to (asSh (eOp2 pIx (eVar 5) (eVar i)) (asSh (eVar j) (asNil))) ρ = some (.sh (optI (leastM (f x) y)), ρ) := by
  apply eCall_eq (ρ1 := ρ) (args := [.sh (lenD (f x)), .sh (.int y)]) (h3 := to_eq (T := f x) (g := y) hn)
  · apply asSh_eq (r := .sh (lenD (f x)))
    · apply eOp2_eq (x := .dict (tabsD f ps)) (y := .int x) (r1 := .var 5) (r2 := .var i) (ρ1 := ρ) (hf := tabs_ix hx)
      · exact eVar_eq (d := .dict (tabsD f ps)) (by rw [h5]; rfl)
      · exact eVar_eq (d := .int x) (by rw [hi]; rfl)
      · show ρ[5]?.bind Slot.val = _; rw [h5]; rfl
      · show ρ[i]?.bind Slot.val = _; rw [hi]; rfl
    · rfl
    · apply asSh_eq (r := .var j) (d := .int y)
      · exact eVar_eq (d := .int y) (by rw [hj]; rfl)
      · simp only [share, hj]; rfl
      · rfl
  · exact List.nodup_nil
  · rfl
  · rfl
def gateOk (f : Int → Tab) (gates : List Int) (g : Int) : Bool := gates.all fun o => decide (o = g) || (leastM (f g) o).isSome
theorem gate_test (hL : L.length ≤ 900) {x : Int} (hx : x ∈ gates) :
    tOf (ePrim pAll (msCons (eComp [9] (iOf (eVar 2)) (gName 9) (tYes) (eOr (eOp2 pEq (eVar 9) (eVar 7)) (eOp2 pIsNot (eCall F_least_to (asSh (eOp2 pIx (eVar 5) (eVar 7)) (asSh (eVar 9) (asNil)))) (eC .none)))) (msNil))) (envJ L S gates houses sd l p (.sh (.int x)) h .no) =
    some (gateOk (dijkM L S) gates x, envJ L S gates houses sd l p (.sh (.int x)) h .no) := by
  have run := comp_map (ρ := envJ L S gates houses sd l p (.sh (.int x)) h .no) (vs := [9]) (g := gName 9) (t := tYes) (a := eOr (eOp2 pEq (eVar 9) (eVar 7)) (eOp2 pIsNot (eCall F_least_to (asSh (eOp2 pIx (eVar 5) (eVar 7)) (asSh (eVar 9) (asNil)))) (eC .none)))
    PyData.int (fun _ => true) (fun o => .bool (decide (o = x) || (leastM (dijkM L S x) o).isSome)) gates [] fun w hw => by
      refine ⟨envJ L S gates houses sd l p (.sh (.int x)) h (.sh (.int w)), rfl, rfl, fun _ => ⟨.sh (.bool (decide (w = x) || (leastM (dijkM L S x) w).isSome)), ?_, rfl⟩, rfl⟩
      apply eOr_eq
      · apply eOp2_eq (x := .int w) (y := .int x) (r := .sh (.bool (decide (w = x))))
        · exact eVar_eq (d := .int w) rfl
        · exact eVar_eq (d := .int x) rfl
        · rfl
        · rfl
        · rfl
      · rfl
      · intro _
        apply eOp2_eq (x := optI (leastM (dijkM L S x) w)) (y := .none)
        · exact call_to (f := dijkM L S) (ps := gates ++ houses) (dijk_nodup L S x hL) rfl rfl rfl (by simp [hx])
        · rfl
        · rfl
        · rfl
        · show bR (!isNoneD (optI (leastM (dijkM L S x) w))) = _
          rw [isNone_opt]; cases leastM (dijkM L S x) w <;> rfl
  rw [filter_all, List.nil_append] at run
  apply tOf_eq
  · apply ePrim_eq (hf := pAll_map _ gates)
    · apply msCons_eq
      · apply eComp_eq
        · apply iOf_eq
          · exact eVar_eq (d := intsD gates) rfl
          · rfl
          · rfl
        · exact run
        · rfl
      · rfl
    · rfl
  · rfl
theorem none_test1 (hL : L.length ≤ 900) {y : Int} {g0 : Slot} :
    tOf (ePrim pAll (msCons (eComp [7] (iOf (eVar 2)) (gName 7) (tYes) (eOp2 pIs (eCall F_least_to (asSh (eOp2 pIx (eVar 5) (eVar 7)) (asSh (eVar 8) (asNil)))) (eC .none))) (msNil))) (envJ L S gates houses sd l p g0 (.sh (.int y)) .no) =
    some (gates.all (fun g => (leastM (dijkM L S g) y).isNone), envJ L S gates houses sd l p g0 (.sh (.int y)) .no) := by
  have run := comp_map (ρ := envJ L S gates houses sd l p .no (.sh (.int y)) .no) (vs := [7]) (g := gName 7) (t := tYes) (a := eOp2 pIs (eCall F_least_to (asSh (eOp2 pIx (eVar 5) (eVar 7)) (asSh (eVar 8) (asNil)))) (eC .none))
    PyData.int (fun _ => true) (fun o => .bool (leastM (dijkM L S o) y).isNone) gates [] fun w hw => by
      refine ⟨envJ L S gates houses sd l p (.sh (.int w)) (.sh (.int y)) .no, rfl, rfl, fun _ => ⟨.sh (.bool (leastM (dijkM L S w) y).isNone), ?_, rfl⟩, rfl⟩
      apply eOp2_eq (x := optI (leastM (dijkM L S w) y)) (y := .none)
      · exact call_to (f := dijkM L S) (ps := gates ++ houses) (dijk_nodup L S w hL) rfl rfl rfl (by simp [hw])
      · rfl
      · rfl
      · rfl
      · show bR (isNoneD (optI (leastM (dijkM L S w) y))) = _
        rw [isNone_opt]; rfl
  rw [filter_all, List.nil_append] at run
  apply tOf_eq
  · apply ePrim_eq (hf := pAll_map _ gates)
    · apply msCons_eq
      · apply eComp_eq
        · apply iOf_eq
          · exact eVar_eq (d := intsD gates) rfl
          · rfl
          · rfl
        · exact run
        · rfl
      · rfl
    · rfl
  · rfl
theorem none_test2 (hL : L.length ≤ 900) {y : Int} {g0 : Slot} (hy : y ∈ houses) :
    tOf (ePrim pAll (msCons (eComp [7] (iOf (eVar 2)) (gName 7) (tYes) (eOp2 pIs (eCall F_least_to (asSh (eOp2 pIx (eVar 5) (eVar 8)) (asSh (eVar 7) (asNil)))) (eC .none))) (msNil))) (envJ L S gates houses sd l p g0 (.sh (.int y)) .no) =
    some (gates.all (fun g => (leastM (dijkM L S y) g).isNone), envJ L S gates houses sd l p g0 (.sh (.int y)) .no) := by
  have run := comp_map (ρ := envJ L S gates houses sd l p .no (.sh (.int y)) .no) (vs := [7]) (g := gName 7) (t := tYes) (a := eOp2 pIs (eCall F_least_to (asSh (eOp2 pIx (eVar 5) (eVar 8)) (asSh (eVar 7) (asNil)))) (eC .none))
    PyData.int (fun _ => true) (fun o => .bool (leastM (dijkM L S y) o).isNone) gates [] fun w hw => by
      refine ⟨envJ L S gates houses sd l p (.sh (.int w)) (.sh (.int y)) .no, rfl, rfl, fun _ => ⟨.sh (.bool (leastM (dijkM L S y) w).isNone), ?_, rfl⟩, rfl⟩
      apply eOp2_eq (x := optI (leastM (dijkM L S y) w)) (y := .none)
      · exact call_to (f := dijkM L S) (ps := gates ++ houses) (dijk_nodup L S y hL) rfl rfl rfl (by simp [hy])
      · rfl
      · rfl
      · rfl
      · show bR (isNoneD (optI (leastM (dijkM L S y) w))) = _
        rw [isNone_opt]; rfl
  rw [filter_all, List.nil_append] at run
  apply tOf_eq
  · apply ePrim_eq (hf := pAll_map _ gates)
    · apply msCons_eq
      · apply eComp_eq
        · apply iOf_eq
          · exact eVar_eq (d := intsD gates) rfl
          · rfl
          · rfl
        · exact run
        · rfl
      · rfl
    · rfl
  · rfl
def homeOk (f : Int → Tab) (gates : List Int) (y : Int) : Bool := !(gates.all fun g => (leastM (f g) y).isNone) && !(gates.all fun g => (leastM (f y) g).isNone)
def joinsM (ss : List Street) (S : List D) (gates houses : List Int) : Bool :=
  (gates.all fun g => gateOk (dijkM (lengthsM ss) S) gates g) && houses.all fun y => homeOk (dijkM (lengthsM ss) S) gates y
theorem find_all {α : Type} (p : α → Bool) (xs : List α) : (xs.find? fun w => !p w) = none ↔ xs.all p = true := by
  rw [List.find?_eq_none, List.all_eq_true]
  constructor
  · intro h x hx
    have := h x hx
    simpa using this
  · intro h x hx
    simp [h x hx]
theorem lengths_len : ∀ (ss : List Street) (L : Tab), (ss.foldl (fun L s => putM (putM L (s.1, s.2.1) s.2.2) (s.2.1, s.1) s.2.2) L).length ≤ L.length + 2 * ss.length
  | [], L => by simp
  | s :: ss, L => by
    have h1 := putM_len L (s.1, s.2.1) s.2.2
    have h2 := putM_len (putM L (s.1, s.2.1) s.2.2) (s.2.1, s.1) s.2.2
    have := lengths_len ss (putM (putM L (s.1, s.2.1) s.2.2) (s.2.1, s.1) s.2.2)
    simp only [List.foldl_cons, List.length_cons]
    omega
theorem joins_eq {ss : List Street} {S : List D} {gates houses : List Int} (hS : OkS S) (hs : ss.length ≤ 400) (hn : (gates ++ houses).Nodup) (hl : gates.length + houses.length ≤ 1000) :
    F_joins_all [.sh (.tuple (ss.map strD)), .sh (.tuple S), .sh (intsD gates), .sh (intsD houses)] = some (.sh (.bool (joinsM ss S gates houses)), [.sh (.tuple (ss.map strD)), .sh (.tuple S), .sh (intsD gates), .sh (intsD houses)]) := by
  have hL : (lengthsM ss).length ≤ 900 := by
    have := lengths_len ss []
    unfold lengthsM; simp at this; omega
  have tl := tables_loop (ss := ss) (L := lengthsM ss) (gs := gates.map .int) (hs := houses.map .int) hS hL (gates ++ houses) false none [] (by simpa using hn) (by simp; omega)
  generalize hl2 : lenSl (false || !(gates ++ houses).isEmpty) (lenD (lengthsM ss)) = l at tl
  generalize hp2 : lastS ((gates ++ houses).foldl (fun _ p => some (PyData.int p)) none) = p at tl
  have gl := for_find (s := sIf (tNot (tOf (ePrim pAll (msCons (eComp [9] (iOf (eVar 2)) (gName 9) (tYes) (eOr (eOp2 pEq (eVar 9) (eVar 7)) (eOp2 pIsNot (eCall F_least_to (asSh (eOp2 pIx (eVar 5) (eVar 7)) (asSh (eVar 9) (asNil)))) (eC .none)))) (msNil))))) (sRet (eC (.bool false))) (sNop)) (g := gName 7) PyData.int
    (fun z => envJ (lengthsM ss) S gates houses (.tuple (ss.map strD)) l p (lastS (z.map PyData.int)) .no .no) (fun g => !gateOk (dijkM (lengthsM ss) S) gates g) (fun g => .rt (.sh (.bool false)) (envJ (lengthsM ss) S gates houses (.tuple (ss.map strD)) l p (.sh (.int g)) .no .no)) gates none fun w hw z => by
      refine ⟨envJ (lengthsM ss) S gates houses (.tuple (ss.map strD)) l p (.sh (.int w)) .no .no, by cases z <;> rfl, fun hp => ⟨?_, _, _, rfl⟩, fun hp => ?_⟩
      · apply sIf_t
        · have := tNot_eq (gate_test (sd := .tuple (ss.map strD)) (l := l) (p := p) (h := .no) (houses := houses) (S := S) hL hw)
          rw [hp] at this; exact this
        · rfl
      · apply sIf_f
        · have := tNot_eq (gate_test (sd := .tuple (ss.map strD)) (l := l) (p := p) (h := .no) (houses := houses) (S := S) hL hw)
          rw [hp] at this; exact this
        · rfl
  have start : ∀ o, (sSeq (sFor (iOf (eVar 2)) (gName 7) (sIf (tNot (tOf (ePrim pAll (msCons (eComp [9] (iOf (eVar 2)) (gName 9) (tYes) (eOr (eOp2 pEq (eVar 9) (eVar 7)) (eOp2 pIsNot (eCall F_least_to (asSh (eOp2 pIx (eVar 5) (eVar 7)) (asSh (eVar 9) (asNil)))) (eC .none)))) (msNil))))) (sRet (eC (.bool false))) (sNop))) (sSeq (sFor (iOf (eVar 3)) (gName 8) (sSeq (sIf (tOf (ePrim pAll (msCons (eComp [7] (iOf (eVar 2)) (gName 7) (tYes) (eOp2 pIs (eCall F_least_to (asSh (eOp2 pIx (eVar 5) (eVar 7)) (asSh (eVar 8) (asNil)))) (eC .none))) (msNil)))) (sRet (eC (.bool false))) (sNop)) (sIf (tOf (ePrim pAll (msCons (eComp [7] (iOf (eVar 2)) (gName 7) (tYes) (eOp2 pIs (eCall F_least_to (asSh (eOp2 pIx (eVar 5) (eVar 8)) (asSh (eVar 7) (asNil)))) (eC .none))) (msNil)))) (sRet (eC (.bool false))) (sNop)))) (sRet (eC (.bool true))))) (envJ (lengthsM ss) S gates houses (.tuple (ss.map strD)) l p .no .no .no) = some o →
      F_joins_all [.sh (.tuple (ss.map strD)), .sh (.tuple S), .sh (intsD gates), .sh (intsD houses)] = fnOfBody 10 (fun _ => some o) [.sh (.tuple (ss.map strD)), .sh (.tuple S), .sh (intsD gates), .sh (intsD houses)] := fun o ho => by
    have : b_joins_all ([.sh (.tuple (ss.map strD)), .sh (.tuple S), .sh (intsD gates), .sh (intsD houses)] ++ List.replicate (10 - [Slot.sh (.tuple (ss.map strD)), .sh (.tuple S), .sh (intsD gates), .sh (intsD houses)].length) .no) = some o := by
      apply sSeq_nx
      · apply sSet_eq
        · apply eCall_eq (h3 := lengths_eq hs)
          all_goals first | exact List.nodup_nil | (repeat' (first | exact eVar_eq rfl | with_reducible apply eOp2_eq | with_reducible apply eOp1_eq | with_reducible apply ePrim_eq | with_reducible apply msCons_eq | with_reducible apply eTup_eq | with_reducible apply eLst_eq | with_reducible apply dsCons_eq | with_reducible apply tOf_eq | with_reducible apply tNot_eq | with_reducible apply eSlice_eq | with_reducible apply oSome_eq | with_reducible apply asSh_eq | with_reducible apply iOf_eq | with_reducible apply iZip_eq | with_reducible apply iEnum_eq | rfl))
        · rfl
        · rfl
      · apply sSeq_nx
        · apply sSet_eq
          · rfl
          · rfl
          · rfl
        · apply sSeq_nx
          · apply sFor_eq (ds := (gates ++ houses).map .int)
            · apply iOf_eq (d := intsD (gates ++ houses)) (r := .sh (intsD (gates ++ houses)))
              · apply eOp2_eq (x := intsD gates) (y := intsD houses)
                · exact eVar_eq (d := intsD gates) rfl
                · exact eVar_eq (d := intsD houses) rfl
                · rfl
                · rfl
                · show (if (gates.map PyData.int).length + (houses.map PyData.int).length ≤ 16777216 then some (Res.sh (.tuple (gates.map PyData.int ++ houses.map PyData.int))) else none) = _
                  rw [if_pos (by simp; omega), ← List.map_append]; rfl
              · rfl
              · rfl
            · exact tl
          · exact ho
    unfold F_joins_all fnOfBody
    rw [this]
  cases hg : gates.all (fun g => gateOk (dijkM (lengthsM ss) S) gates g) with
  | false =>
    cases hf : gates.find? (fun g => !gateOk (dijkM (lengthsM ss) S) gates g) with
    | none => rw [(find_all _ gates).mp hf] at hg; cases hg
    | some w =>
      have e := gl.1 w hf
      rw [start _ (sSeq_rt (sFor_eq (iOf_eq (eVar_eq (d := intsD gates) rfl) rfl rfl) e))]
      have : joinsM ss S gates houses = false := by unfold joinsM; rw [hg]; rfl
      rw [this]; rfl
  | true =>
    obtain ⟨z, e⟩ := gl.2 ((find_all _ gates).mpr hg)
    have hlp := for_find (s := sSeq (sIf (tOf (ePrim pAll (msCons (eComp [7] (iOf (eVar 2)) (gName 7) (tYes) (eOp2 pIs (eCall F_least_to (asSh (eOp2 pIx (eVar 5) (eVar 7)) (asSh (eVar 8) (asNil)))) (eC .none))) (msNil)))) (sRet (eC (.bool false))) (sNop)) (sIf (tOf (ePrim pAll (msCons (eComp [7] (iOf (eVar 2)) (gName 7) (tYes) (eOp2 pIs (eCall F_least_to (asSh (eOp2 pIx (eVar 5) (eVar 8)) (asSh (eVar 7) (asNil)))) (eC .none))) (msNil)))) (sRet (eC (.bool false))) (sNop))) (g := gName 8) PyData.int
      (fun y => envJ (lengthsM ss) S gates houses (.tuple (ss.map strD)) l p (lastS (z.map PyData.int)) (lastS (y.map PyData.int)) .no) (fun y => !homeOk (dijkM (lengthsM ss) S) gates y) (fun y => .rt (.sh (.bool false)) (envJ (lengthsM ss) S gates houses (.tuple (ss.map strD)) l p (lastS (z.map PyData.int)) (.sh (.int y)) .no)) houses none fun w hw y => by
        have t1 := none_test1 (sd := .tuple (ss.map strD)) (l := l) (p := p) (g0 := lastS (z.map PyData.int)) (houses := houses) (gates := gates) (S := S) hL (y := w)
        have t2 := none_test2 (sd := .tuple (ss.map strD)) (l := l) (p := p) (g0 := lastS (z.map PyData.int)) (houses := houses) (gates := gates) (S := S) hL hw
        refine ⟨envJ (lengthsM ss) S gates houses (.tuple (ss.map strD)) l p (lastS (z.map PyData.int)) (.sh (.int w)) .no, by cases y <;> rfl, fun hp => ⟨?_, _, _, rfl⟩, fun hp => ?_⟩
        · unfold homeOk at hp
          cases h1 : gates.all (fun g => (leastM (dijkM (lengthsM ss) S g) w).isNone) with
          | true => rw [h1] at t1; exact sSeq_rt (sIf_t t1 rfl)
          | false =>
            rw [h1] at t1 hp
            cases h2 : gates.all (fun g => (leastM (dijkM (lengthsM ss) S w) g).isNone) with
            | true => rw [h2] at t2; exact sSeq_nx (sIf_f t1 rfl) (sIf_t t2 rfl)
            | false => rw [h2] at hp; cases hp
        · unfold homeOk at hp
          cases h1 : gates.all (fun g => (leastM (dijkM (lengthsM ss) S g) w).isNone) with
          | true => rw [h1] at hp; cases hp
          | false =>
            rw [h1] at t1 hp
            cases h2 : gates.all (fun g => (leastM (dijkM (lengthsM ss) S w) g).isNone) with
            | true => rw [h2] at hp; cases hp
            | false => rw [h2] at t2; exact sSeq_nx (sIf_f t1 rfl) (sIf_f t2 rfl)
    cases hh : houses.all (fun y => homeOk (dijkM (lengthsM ss) S) gates y) with
    | false =>
      cases hf : houses.find? (fun y => !homeOk (dijkM (lengthsM ss) S) gates y) with
      | none => rw [(find_all _ houses).mp hf] at hh; cases hh
      | some w =>
        have e2 := hlp.1 w hf
        rw [start _ (sSeq_nx (sFor_eq (iOf_eq (eVar_eq (d := intsD gates) rfl) rfl rfl) e) (sSeq_rt (sFor_eq (iOf_eq (eVar_eq (d := intsD houses) rfl) rfl rfl) e2)))]
        have : joinsM ss S gates houses = false := by unfold joinsM; rw [hg, hh]; rfl
        rw [this]; rfl
    | true =>
      obtain ⟨y, e2⟩ := hlp.2 ((find_all _ houses).mpr hh)
      rw [start _ (sSeq_nx (sFor_eq (iOf_eq (eVar_eq (d := intsD gates) rfl) rfl rfl) e) (sSeq_nx (sFor_eq (iOf_eq (eVar_eq (d := intsD houses) rfl) rfl rfl) e2) rfl))]
      have : joinsM ss S gates houses = true := by unfold joinsM; rw [hg, hh]; rfl
      rw [this]; rfl
end
end Q
set_option maxRecDepth 100000
namespace Q
open PySem Pu
def risesM {α : Type} (lt : α → α → Bool) (xs : List α) : Bool := (xs.zip (xs.drop 1)).all fun p => lt p.1 p.2
theorem cut1 (xs : List D) : Pu.cutD xs (some 1) none = xs.drop 1 := by
  unfold Pu.cutD sIxD
  cases xs with
  | nil => rfl
  | cons x xs => simp
theorem pairs_zip {α : Type} (enc : α → D) : ∀ (xs ys : List α), pairs (xs.map enc) (ys.map enc) = (xs.zip ys).map fun p => .tuple [enc p.1, enc p.2]
  | [], _ => by simp [pairs]
  | _ :: _, [] => by simp [pairs]
  | x :: xs, y :: ys => by simp [pairs, pairs_zip enc xs ys]
theorem rises_comp {α : Type} (enc : α → D) (lt : α → α → Bool) (hlt : ∀ x y, pLt (enc x) (enc y) = some (.sh (.bool (lt x y)))) {s0 : Slot} (xs : List (α × α)) :
    compGo [1, 2] (gTup (gsCons (gName 1) (gsCons (gName 2) (gsNil)))) (tYes) (eOp2 pLt (eVar 1) (eVar 2)) (xs.map fun p => .tuple [enc p.1, enc p.2]) [] [s0, .no, .no] = some (xs.map fun p => .bool (lt p.1 p.2), [s0, .no, .no]) := by
  have run := comp_map (ρ := [s0, .no, .no]) (vs := [1, 2]) (g := gTup (gsCons (gName 1) (gsCons (gName 2) (gsNil)))) (t := tYes) (a := eOp2 pLt (eVar 1) (eVar 2))
    (fun p : α × α => .tuple [enc p.1, enc p.2]) (fun _ => true) (fun p => .bool (lt p.1 p.2)) xs [] fun w _ => by
      refine ⟨[s0, .sh (enc w.1), .sh (enc w.2)], rfl, rfl, fun _ => ⟨.sh (.bool (lt w.1 w.2)), ?_, rfl⟩, rfl⟩
      apply eOp2_eq (hf := hlt w.1 w.2)
      · exact eVar_eq (d := enc w.1) rfl
      · exact eVar_eq (d := enc w.2) rfl
      · rfl
      · rfl
  rw [filter_all, List.nil_append] at run
  exact run
theorem risesT_eq {α : Type} (enc : α → D) (lt : α → α → Bool) (hlt : ∀ x y, pLt (enc x) (enc y) = some (.sh (.bool (lt x y)))) (xs : List α) :
    F_rises [.sh (.tuple (xs.map enc))] = some (.sh (.bool (risesM lt xs)), [.sh (.tuple (xs.map enc))]) := by
  apply fn_sh
  · apply sRet_eq
    · apply ePrim_eq (hf := pAll_map (fun p : α × α => lt p.1 p.2) (xs.zip (xs.drop 1)))
      · apply msCons_eq
        · apply eComp_eq
          · apply iZip_eq (es := (xs.zip (xs.drop 1)).map fun p => .tuple [enc p.1, enc p.2])
            · apply dsCons_eq
              · exact eVar_eq (d := .tuple (xs.map enc)) rfl
              · rfl
              · apply dsCons_eq (d := .tuple ((xs.drop 1).map enc))
                · apply eSlice_eq
                  · exact eVar_eq (d := .tuple (xs.map enc)) rfl
                  · apply oSome_eq
                    · rfl
                    · rfl
                  · rfl
                  · rfl
                  · show some (Res.sh (.tuple (Pu.cutD (xs.map enc) (some 1) none))) = _
                    rw [cut1, ← List.map_drop]
                · rfl
                · rfl
            · show some (pairs (xs.map enc) ((xs.drop 1).map enc)) = _
              rw [pairs_zip]
          · exact rises_comp enc lt hlt _
          · rfl
        · rfl
      · rfl
    · rfl
  · rfl
theorem risesL_eq {α : Type} (enc : α → D) (lt : α → α → Bool) (hlt : ∀ x y, pLt (enc x) (enc y) = some (.sh (.bool (lt x y)))) (xs : List α) :
    F_rises [.sh (.list (xs.map enc))] = some (.sh (.bool (risesM lt xs)), [.sh (.list (xs.map enc))]) := by
  apply fn_sh
  · apply sRet_eq
    · apply ePrim_eq (hf := pAll_map (fun p : α × α => lt p.1 p.2) (xs.zip (xs.drop 1)))
      · apply msCons_eq
        · apply eComp_eq
          · apply iZip_eq (es := (xs.zip (xs.drop 1)).map fun p => .tuple [enc p.1, enc p.2])
            · apply dsCons_eq
              · exact eVar_eq (d := .list (xs.map enc)) rfl
              · rfl
              · apply dsCons_eq (d := .list ((xs.drop 1).map enc))
                · apply eSlice_eq
                  · exact eVar_eq (d := .list (xs.map enc)) rfl
                  · apply oSome_eq
                    · rfl
                    · rfl
                  · rfl
                  · rfl
                  · show some (Res.ow (.list (Pu.cutD (xs.map enc) (some 1) none))) = _
                    rw [cut1, ← List.map_drop]
                · rfl
                · rfl
            · show some (pairs (xs.map enc) ((xs.drop 1).map enc)) = _
              rw [pairs_zip]
          · exact rises_comp enc lt hlt _
          · rfl
        · rfl
      · rfl
    · rfl
  · rfl
end Q
set_option maxRecDepth 100000
namespace Q
open PySem Pu
theorem rises_lt {xs : List Int} (h : risesM (fun a b => decide (a < b)) xs = true) : xs.Pairwise (· < ·) := by
  induction xs with
  | nil => exact .nil
  | cons x xs ih =>
    cases xs with
    | nil => simp
    | cons y ys =>
      have h' : decide (x < y) = true ∧ risesM (fun a b => decide (a < b)) (y :: ys) = true := by
        unfold risesM at h ⊢
        simpa using h
      have hp := ih h'.2
      refine List.pairwise_cons.mpr ⟨fun z hz => ?_, hp⟩
      have hxy : x < y := by simpa using h'.1
      rcases List.mem_cons.mp hz with rfl | hz
      · exact hxy
      · exact Int.lt_trans hxy ((List.pairwise_cons.mp hp).1 z hz)
theorem lt_nodup {xs : List Int} (h : xs.Pairwise (· < ·)) : xs.Nodup := h.imp fun hlt => Int.ne_of_lt hlt
def townD (n : Int) (ss : List Street) (S : List D) (gates houses quiet : List Int) : D := .tuple [.int n, .tuple (ss.map strD), .tuple S, intsD gates, intsD houses, intsD quiet]
theorem in_ints (xs : List Int) (y : Int) : pIn (.int y) (intsD xs) = some (.sh (.bool (xs.any fun g => decide (g = y)))) := by
  have h : PyData.canLay0 (.int y) = true := by simp [PyData.canLay0]
  have h2 : PyData.depth (.int y) ≤ 64 := by simp [PyData.depth]
  have := pIn_tup (S := xs.map .int) (d := .int y) (intsLay xs) h h2
  rw [show intsD xs = .tuple (xs.map .int) from rfl, this]
  unfold hasS
  rw [List.any_map]
  have : ((fun z => PyData.eqv z (.int y)) ∘ PyData.int) = fun g => decide (g = y) := by funext g; exact eqv_int g y
  rw [this]
section
variable {n : Int} {ss : List Street} {S : List D} {gates houses quiet : List Int}
end
end Q
set_option maxRecDepth 100000
namespace Q
open PySem Pu
def nsD (ns : List Int) : D := .list (ns.map .int)
theorem len_ns (ns : List Int) : pLen [nsD ns] = some (.sh (.int ns.length)) := by simp [pLen, nsD]
theorem at_ns {ns : List Int} {k : Int} (h0 : 0 ≤ k) (h1 : k < ns.length) : ∃ v : Int, pIx (nsD ns) (.int k) = some (.sh (.int v)) := by
  have hk : k.toNat < ns.length := by omega
  refine ⟨ns[k.toNat], ?_⟩
  have : atD (ns.map PyData.int) k = some (.int ns[k.toNat]) := by
    unfold atD ixD
    rw [if_pos h0, List.length_map, if_pos h1]
    simp [hk]
  show (atD (ns.map PyData.int) k).map Res.sh = _
  rw [this]; rfl
theorem eq_nil_ns (ns : List Int) : pEq (nsD ns) (.list []) = some (.sh (.bool ns.isEmpty)) := by
  have h1 : eqOk (nsD ns) (.list []) = true := by simp [nsD, eqOk, PyData.canLay0, intsLay, PyData.canLayAll0, PyData.depth, PyData.depthAll]
  have h2 : PyData.eqv (nsD ns) (.list []) = ns.isEmpty := by
    unfold nsD; rw [eqv_list]; cases ns <;> simp [PyData.eqvAll]
  show ((if eqOk (nsD ns) (.list []) then some (PyData.eqv (nsD ns) (.list [])) else none).bind bR) = _
  rw [h1, h2]; rfl
theorem cell_ex (ns : List Int) (k : Int) (hk : 0 ≤ k) (hk2 : k < 1000000) (hn : ns.length ≤ 63) : ∃ c : Int, F__law_cell_at [.sh (nsD ns), .sh (.int k)] = some (.sh (.int c), [.sh (nsD ns), .sh (.int k)]) := by
  have tl : ∀ (ρ : Pu.Env), ρ[0]? = some (.sh (nsD ns)) → ePrim pLen (msCons (eVar 0) (msNil)) ρ = some (.sh (.int ns.length), ρ) := fun ρ h => by
    apply ePrim_eq (hf := len_ns ns) (rs := [.var 0])
    · apply msCons_eq
      · exact eVar_eq (d := nsD ns) (by rw [h]; rfl)
      · rfl
    · show (ρ[0]?.bind Slot.val).bind _ = _; rw [h]; rfl
  have T1 : tOf (eOp2 pLt (eVar 1) (ePrim pLen (msCons (eVar 0) (msNil)))) [.sh (nsD ns), .sh (.int k), .no, .no] = some (decide (k < ns.length), [.sh (nsD ns), .sh (.int k), .no, .no]) := by
    apply tOf_eq
    · apply eOp2_eq (x := .int k) (y := .int ns.length) (r := .sh (.bool (decide (k < ns.length))))
      · exact eVar_eq (d := .int k) rfl
      · exact tl _ rfl
      · rfl
      · rfl
      · rfl
    · rfl
  by_cases h : k < ns.length
  · obtain ⟨v, e⟩ := at_ns hk h
    refine ⟨v, ?_⟩
    rw [decide_eq_true h] at T1
    apply fn_sh
    · apply sSeq_rt
      apply sIf_t T1
      apply sRet_eq
      · apply eOp2_eq (hf := e)
        · exact eVar_eq (d := nsD ns) rfl
        · exact eVar_eq (d := .int k) rfl
        · rfl
        · rfl
      · rfl
    · rfl
  · rw [decide_eq_false h] at T1
    have T2 : tOf (eOp2 pEq (eVar 0) (eLst (dsNil))) [.sh (nsD ns), .sh (.int k), .no, .no] = some (ns.isEmpty, [.sh (nsD ns), .sh (.int k), .no, .no]) := by
      apply tOf_eq
      · apply eOp2_eq (hf := eq_nil_ns ns)
        · exact eVar_eq (d := nsD ns) rfl
        · rfl
        · rfl
        · rfl
      · rfl
    cases hn0 : ns.isEmpty with
    | true =>
      rw [hn0] at T2
      exact ⟨0, fn_sh (sSeq_nx (sIf_f T1 rfl) (sSeq_rt (sIf_t T2 (sRet_eq rfl rfl)))) rfl⟩
    | false =>
      rw [hn0] at T2
      have hp : 0 < ns.length := by cases ns with
        | nil => simp at hn0
        | cons _ _ => simp
      have hp' : (0 : Int) < ns.length := by omega
      obtain ⟨v, e⟩ := at_ns (ns := ns) (k := k % ns.length) (Int.emod_nonneg _ (by omega)) (Int.emod_lt_of_pos _ hp')
      have hmod : pMod (.int k) (.int ns.length) = some (.sh (.int (k % ns.length))) := by
        show (if (0 : Int) < ns.length then some (Res.sh (.int (k % ns.length))) else none) = _
        rw [if_pos hp']
      have hdiv : pDiv (.int k) (.int ns.length) = some (.sh (.int (k / ns.length))) := by
        show (if decide ((0 : Int) < ns.length) && decide ((ns.length : Int) < 1073741824) then some (Res.sh (.int (k / ns.length))) else none) = _
        rw [if_pos (by simp; omega)]
      have ix : ∀ (ρ : Pu.Env), ρ[0]? = some (.sh (nsD ns)) → ρ[1]? = some (.sh (.int k)) → eOp2 pIx (eVar 0) (eOp2 pMod (eVar 1) (ePrim pLen (msCons (eVar 0) (msNil)))) ρ = some (.sh (.int v), ρ) := fun ρ h0 h1 => by
        apply eOp2_eq (x := nsD ns) (y := .int (k % ns.length)) (hf := e) (r1 := .var 0) (r2 := .sh (.int (k % ns.length))) (ρ1 := ρ)
        · exact eVar_eq (d := nsD ns) (by rw [h0]; rfl)
        · apply eOp2_eq (hf := hmod) (r1 := .var 1) (r2 := .sh (.int ns.length)) (ρ1 := ρ)
          · exact eVar_eq (d := .int k) (by rw [h1]; rfl)
          · exact tl _ h0
          · show ρ[1]?.bind Slot.val = _; rw [h1]; rfl
          · rfl
        · show ρ[0]?.bind Slot.val = _; rw [h0]; rfl
        · rfl
      have loop := for_foldI (s := sSet 2 (eOp2 pDiv (eVar 2) (eC (.int 1000003)))) (g := gName 3) (fun i : Nat => PyData.int ((0 : Int) + (i : Nat)))
        (fun q : Option D × Int => [.sh (nsD ns), .sh (.int k), .sh (.int q.2), lastS q.1]) (fun q i => (some (.int ((0 : Int) + (i : Nat))), q.2 / 1000003)) (fun _ _ => True)
        (fun i xs q _ => by
          obtain ⟨t, c⟩ := q
          refine ⟨trivial, [.sh (nsD ns), .sh (.int k), .sh (.int c), .sh (.int ((0 : Int) + (i : Nat)))], by cases t <;> rfl, .inl ?_⟩
          apply sSet_eq
          · apply eOp2_eq (x := .int c) (y := .int 1000003)
            · exact eVar_eq (d := .int c) rfl
            · rfl
            · rfl
            · rfl
            · rfl
          · rfl
          · rfl)
      have hb : 0 ≤ k / (ns.length : Int) := Int.ediv_nonneg hk (by omega)
      have hb2 : k / (ns.length : Int) ≤ k := Int.ediv_le_self _ hk
      have run := (loop (List.range ((if (60 : Int) < k / ns.length then 60 else k / ns.length) - 0).toNat) (none, v) trivial).1
      generalize (List.range ((if (60 : Int) < k / ns.length then 60 else k / ns.length) - 0).toNat).foldl (fun (q : Option D × Int) (i : Nat) => (some (PyData.int ((0 : Int) + (i : Nat))), q.2 / 1000003)) (none, v) = fin at run
      refine ⟨v * 31 + k + fin.2 * 101, ?_⟩
      apply fn_sh
      · apply sSeq_nx (sIf_f T1 rfl)
        apply sSeq_nx (sIf_f T2 rfl)
        apply sSeq_nx
        · apply sSet_eq
          · exact ix _ rfl rfl
          · rfl
          · rfl
        · apply sSeq_nx
          · apply sFor_eq
            · apply iRange_eq (lo := 0) (hi := if (60 : Int) < k / ns.length then 60 else k / ns.length) (ds := [.int (if (60 : Int) < k / ns.length then 60 else k / ns.length)])
              · apply msCons_eq
                · apply ePrim_eq (ds := [.int (k / ns.length), .int 60])
                  · apply msCons_eq
                    · apply eOp2_eq (hf := hdiv)
                      · exact eVar_eq (d := .int k) rfl
                      · exact tl _ rfl
                      · rfl
                      · rfl
                    · rfl
                  · rfl
                  · rfl
                · rfl
              · rfl
              · have hs : small62 (if (60 : Int) < k / ns.length then 60 else k / ns.length) = true := by
                  unfold small62; split <;> simp <;> omega
                simp only [range1, hs, if_true]
              · split <;> omega
            · exact run
          · apply sRet_eq
            · apply eOp2_eq (x := .int (v * 31 + k)) (y := .int (fin.2 * 101))
              · apply eOp2_eq (x := .int (v * 31)) (y := .int k)
                · apply eOp2_eq (x := .int v) (y := .int 31)
                  · exact ix _ rfl rfl
                  · rfl
                  · rfl
                  · rfl
                  · show (if mulOk v 31 then some (Res.sh (.int (v * 31))) else none) = _
                    rw [if_pos (by unfold mulOk; simp)]
                · exact eVar_eq (d := .int k) rfl
                · rfl
                · rfl
                · rfl
              · apply eOp2_eq (x := .int fin.2) (y := .int 101)
                · exact eVar_eq (d := .int fin.2) rfl
                · rfl
                · rfl
                · rfl
                · show (if mulOk fin.2 101 then some (Res.sh (.int (fin.2 * 101))) else none) = _
                  rw [if_pos (by unfold mulOk; simp)]
              · rfl
              · rfl
              · rfl
            · rfl
      · rfl
theorem mod_pos (i : Int) {j : Int} (h : 0 < j) : pMod (.int i) (.int j) = some (.sh (.int (i % j))) := by
  show (if 0 < j then some (Res.sh (.int (i % j))) else none) = _
  rw [if_pos h]
theorem mixed_ex (ns : List Int) (k many : Int) (hk : 0 ≤ k) (hk2 : k < 1000000) (hn : ns.length ≤ 63) (hm : 0 < many) : ∃ c : Int, F__law_mixed [.sh (nsD ns), .sh (.int k), .sh (.int many)] = some (.sh (.int (c % many)), [.sh (nsD ns), .sh (.int k), .sh (.int many)]) := by
  obtain ⟨c, e⟩ := cell_ex ns k hk hk2 hn
  have h0 : 0 ≤ (c * 1103515245 + 7919 * k + 12345) % 2147483647 := Int.emod_nonneg _ (by omega)
  have h1 : (c * 1103515245 + 7919 * k + 12345) % 2147483647 < 2147483647 := Int.emod_lt_of_pos _ (by omega)
  generalize hs : (c * 1103515245 + 7919 * k + 12345) % 2147483647 = s at h0 h1
  refine ⟨s ^ 5 % 2147483647 % 999983, ?_⟩
  apply fn_sh
  · apply sSeq_nx
    · apply sSet_eq (r := .sh (.int s))
      · rw [← hs]
        apply eOp2_eq (x := .int (c * 1103515245 + 7919 * k + 12345)) (y := .int 2147483647) (hf := mod_pos _ (j := 2147483647) (by omega))
        · apply eOp2_eq (x := .int (c * 1103515245 + 7919 * k)) (y := .int 12345)
          · apply eOp2_eq (x := .int (c * 1103515245)) (y := .int (7919 * k))
            · apply eOp2_eq (x := .int c) (y := .int 1103515245)
              · apply eCall_eq (h3 := e)
                all_goals first | exact List.nodup_nil | (repeat' (first | exact eVar_eq rfl | with_reducible apply eOp2_eq | with_reducible apply eOp1_eq | with_reducible apply ePrim_eq | with_reducible apply msCons_eq | with_reducible apply eTup_eq | with_reducible apply eLst_eq | with_reducible apply dsCons_eq | with_reducible apply tOf_eq | with_reducible apply tNot_eq | with_reducible apply eSlice_eq | with_reducible apply oSome_eq | with_reducible apply asSh_eq | with_reducible apply iOf_eq | with_reducible apply iZip_eq | with_reducible apply iEnum_eq | rfl))
              · rfl
              · rfl
              · rfl
              · show (if mulOk c 1103515245 then some (Res.sh (.int (c * 1103515245))) else none) = _
                rw [if_pos (by unfold mulOk; simp)]
            · apply eOp2_eq (x := .int 7919) (y := .int k)
              · rfl
              · exact eVar_eq (d := .int k) rfl
              · rfl
              · rfl
              · show (if mulOk 7919 k then some (Res.sh (.int (7919 * k))) else none) = _
                rw [if_pos (by unfold mulOk; simp)]
            · rfl
            · rfl
            · rfl
          · rfl
          · rfl
          · rfl
          · rfl
        · rfl
        · rfl
        · rfl
      · rfl
      · rfl
    · apply sRet_eq
      · apply eOp2_eq (hf := mod_pos (s ^ 5 % 2147483647 % 999983) hm)
        · apply eOp2_eq (hf := mod_pos (s ^ 5 % 2147483647) (j := 999983) (by omega))
          · apply eOp2_eq (hf := mod_pos (s ^ 5) (j := 2147483647) (by omega))
            · apply eOp2_eq (x := .int s) (y := .int 5)
              · exact eVar_eq (d := .int s) rfl
              · rfl
              · rfl
              · rfl
              · show (if decide ((0 : Int) ≤ 5) && decide ((5 : Int) ≤ 1000000) && decide (s.natAbs < 2 ^ 64) then some (Res.sh (.int (s ^ (5 : Int).toNat))) else none) = _
                rw [if_pos (by simp; omega)]
                try rfl
            · rfl
            · rfl
            · rfl
          · rfl
          · rfl
          · rfl
        · exact eVar_eq (d := .int many) rfl
        · rfl
        · rfl
      · rfl
  · rfl
def zs (n : Nat) : D := .list (List.replicate n (.int 0))
def drawV (ns : List Int) (n : Nat) (many : Int) : Int := match F__law_draw [.sh (nsD ns), .bo (zs n), .sh (.int many)] with
  | some (.sh (.int v), _) => v
  | _ => 0
theorem draw_eq {ns : List Int} {n : Nat} {many : Int} (hn : ns.length ≤ 63) (hz : n < 900000) (hm : 0 < many) : F__law_draw [.sh (nsD ns), .bo (zs n), .sh (.int many)] = some (.sh (.int (drawV ns n many)), [.sh (nsD ns), .bo (zs (n + 1)), .sh (.int many)]) ∧ 0 ≤ drawV ns n many ∧ drawV ns n many < many := by
  obtain ⟨c, e⟩ := mixed_ex ns ((n + 1 : Nat) : Int) many (by omega) (by omega) hn hm
  have ez : List.replicate n (PyData.int 0) ++ [.int 0] = List.replicate (n + 1) (.int 0) := by rw [List.replicate_succ']
  have run : F__law_draw [.sh (nsD ns), .bo (zs n), .sh (.int many)] = some (.sh (.int (c % many)), [.sh (nsD ns), .bo (zs (n + 1)), .sh (.int many)]) := by
    apply fn_sh
    · apply sSeq_nx
      · apply sExpr_eq
        apply eAppend_eq (ys := List.replicate n (.int 0)) (xs := List.replicate n (.int 0)) (d := .int 0) (ρ3 := [.sh (nsD ns), .bo (zs (n + 1)), .sh (.int many)])
        · rfl
        · rfl
        · rfl
        · rfl
        · rw [List.length_replicate]; omega
        · rw [ez]; rfl
      · apply sRet_eq
        · apply eCall_eq (h3 := e)
          · apply asSh_eq
            · exact eVar_eq (d := nsD ns) rfl
            · rfl
            · apply asSh_eq (r := .sh (.int ((n + 1 : Nat) : Int)))
              · apply ePrim_eq (ds := [zs (n + 1)])
                · apply msCons_eq
                  · exact eVar_eq (d := zs (n + 1)) rfl
                  · rfl
                · rfl
                · show some (Res.sh (.int ((List.replicate (n + 1) (PyData.int 0)).length : Nat))) = _
                  rw [List.length_replicate]
              · rfl
              · apply asSh_eq
                · exact eVar_eq (d := .int many) rfl
                · rfl
                · rfl
          · exact List.nodup_nil
          · rfl
          · rfl
        · rfl
    · rfl
  have ev : drawV ns n many = c % many := by unfold drawV; rw [run]
  rw [ev]
  exact ⟨run, Int.emod_nonneg _ (by omega), Int.emod_lt_of_pos _ hm⟩
theorem pick_eq {ns : List Int} {n : Nat} {xs : List D} (hn : ns.length ≤ 63) (hz : n < 900000) (hx : 0 < xs.length) : ∃ (j : Nat) (d : D), xs[j]? = some d ∧ (j : Int) = drawV ns n xs.length ∧ F__law_pick [.sh (nsD ns), .bo (zs n), .sh (.tuple xs)] = some (.sh d, [.sh (nsD ns), .bo (zs (n + 1)), .sh (.tuple xs)]) := by
  obtain ⟨e, h0, h1⟩ := draw_eq (ns := ns) (n := n) (many := xs.length) hn hz (by omega)
  have hj : (drawV ns n xs.length).toNat < xs.length := by omega
  refine ⟨(drawV ns n xs.length).toNat, xs[(drawV ns n xs.length).toNat], by simp [hj], by omega, ?_⟩
  apply fn_sh
  · apply sRet_eq
    · apply eOp2_eq (x := .tuple xs) (y := .int (drawV ns n xs.length)) (r := .sh xs[(drawV ns n xs.length).toNat])
      · exact eVar_eq (d := .tuple xs) rfl
      · apply eCall_eq (args := [.sh (nsD ns), .bor 1, .sh (.int xs.length)]) (h3 := e)
        · apply asSh_eq
          · exact eVar_eq (d := nsD ns) rfl
          · rfl
          · apply asBo_eq (d := zs n)
            · rfl
            · apply asSh_eq (r := .sh (.int xs.length))
              · apply ePrim_eq (ds := [.tuple xs])
                · apply msCons_eq
                  · exact eVar_eq (d := .tuple xs) rfl
                  · rfl
                · rfl
                · rfl
              · rfl
              · rfl
        · simp [bors]
        · rfl
        · rfl
      · rfl
      · rfl
      · show (atD xs (drawV ns n xs.length)).map Res.sh = _
        have : atD xs (drawV ns n xs.length) = some xs[(drawV ns n xs.length).toNat] := by
          unfold atD ixD
          rw [if_pos h0, if_pos h1]
          simp [hj]
        rw [this]; rfl
    · rfl
  · rfl
end Q
set_option maxRecDepth 100000
namespace Q
open PySem Pu
structure SortL (xs : List D) : Prop where
  ok : ∀ x ∈ xs, okd x = true ∧ x.canLay0 = true ∧ x.depth ≤ 60
  tup : (∀ x ∈ xs, isTup1 x = true) ∨ ∀ x ∈ xs, isTupD x = false
  cmp : ∀ x ∈ xs, ∀ y ∈ xs, cmpOk x y = true
theorem SortL.sub {xs ys : List D} (h : SortL xs) (hs : ∀ y ∈ ys, y ∈ xs) : SortL ys := ⟨fun x hx => h.ok x (hs x hx), h.tup.elim (fun t => .inl fun x hx => t x (hs x hx)) (fun t => .inr fun x hx => t x (hs x hx)), fun x hx y hy => h.cmp x (hs x hx) y (hs y hy)⟩
theorem SortL.sortOk {xs : List D} (h : SortL xs) : sortOk xs = true := by
  unfold Pu.sortOk
  rw [Bool.and_eq_true, Bool.and_eq_true]
  refine ⟨⟨?_, ?_⟩, ?_⟩
  · rw [List.all_eq_true]
    intro x hx
    obtain ⟨h1, h2, h3⟩ := h.ok x hx
    simp [h1, h2, h3]
  · rw [Bool.or_eq_true, Bool.or_eq_true]
    left
    rcases h.tup with t | t
    · exact .inl (List.all_eq_true.mpr t)
    · refine .inr (List.all_eq_true.mpr fun x hx => ?_)
      rw [t x hx]; rfl
  · unfold Pu.pairsOk
    rw [Bool.or_eq_true]
    right
    rw [List.all_eq_true]
    intro x hx
    rw [List.all_eq_true]
    exact fun y hy => h.cmp x hx y hy
theorem SortL.lay {xs : List D} (h : SortL xs) : PyData.canLayAll0 xs = true := by
  induction xs with
  | nil => simp [PyData.canLayAll0]
  | cons x xs ih => simp [PyData.canLayAll0, (h.ok x (by simp)).2.1, ih (h.sub fun y hy => by simp [hy])]
theorem sorted_list {xs : List D} (h : SortL xs) : pSorted [.list xs] = some (.ow (.list (isortT xs))) := by
  simp [pSorted, itemsS, sortD, h.sortOk]
theorem ne_nil_list {xs : List D} (h : PyData.canLayAll0 xs = true) : pNe (.list xs) (.list []) = some (.sh (.bool (!xs.isEmpty))) := by
  have h1 : eqOk (.list xs) (.list []) = true := by simp [eqOk, PyData.canLay0, h, PyData.canLayAll0, PyData.depth, PyData.depthAll]
  have h2 : PyData.eqv (.list xs) (.list []) = xs.isEmpty := by rw [eqv_list]; cases xs <;> simp [PyData.eqvAll]
  show ((if eqOk (.list xs) (.list []) then some (PyData.eqv (.list xs) (.list [])) else none).bind fun b => bR (!b)) = _
  rw [h1, h2]; rfl
abbrev SO := Nat × List D × List D
def stepO (ns : List Int) (q : SO) : SO := (q.1 + 1, q.2.1.eraseIdx (drawV ns q.1 q.2.1.length).toNat, q.2.2 ++ (q.2.1[(drawV ns q.1 q.2.1.length).toNat]?).toList)
def goO (count : Int) (q : SO) : Bool := !q.2.1.isEmpty && decide ((q.2.2.length : Int) < count)
structure IO (xs : List D) (n : Nat) (q : SO) : Prop where
  perm : (q.2.2 ++ q.2.1).Perm xs
  num : q.1 = n + q.2.2.length
theorem erase_perm {l : List D} {j : Nat} {y : D} (h : l[j]? = some y) : (y :: l.eraseIdx j).Perm l := by
  induction l generalizing j with
  | nil => simp at h
  | cons x l ih =>
    cases j with
    | zero => simp at h; subst h; exact .refl _
    | succ j =>
      simp only [List.getElem?_cons_succ] at h
      simp only [List.eraseIdx_cons_succ]
      exact (List.Perm.swap _ _ _).trans ((ih h).cons x)
theorem IO.step {ns : List Int} {xs : List D} {n : Nat} {count : Int} {q : SO} (hn : ns.length ≤ 63) (hz : n + xs.length < 900000) (h : IO xs n q) (hc : goO count q = true) :
    ∃ y, q.2.1[(drawV ns q.1 q.2.1.length).toNat]? = some y ∧ 0 ≤ drawV ns q.1 q.2.1.length ∧ drawV ns q.1 q.2.1.length < q.2.1.length ∧ stepO ns q = (q.1 + 1, q.2.1.eraseIdx (drawV ns q.1 q.2.1.length).toNat, q.2.2 ++ [y]) ∧ IO xs n (stepO ns q) ∧ q.1 < 900000 := by
  have hl := h.perm.length_eq
  rw [List.length_append] at hl
  have hne : 0 < q.2.1.length := by
    unfold goO at hc
    simp only [Bool.and_eq_true] at hc
    have := hc.1
    cases hq : q.2.1 with
    | nil => rw [hq] at this; simp at this
    | cons _ _ => simp
  have hq1 : q.1 < 900000 := by rw [h.num]; omega
  obtain ⟨_, h0, h1⟩ := draw_eq (ns := ns) (n := q.1) (many := q.2.1.length) hn hq1 (by omega)
  have hj : (drawV ns q.1 q.2.1.length).toNat < q.2.1.length := by omega
  have hy : q.2.1[(drawV ns q.1 q.2.1.length).toNat]? = some q.2.1[(drawV ns q.1 q.2.1.length).toNat] := by simp [hj]
  have es : stepO ns q = (q.1 + 1, q.2.1.eraseIdx (drawV ns q.1 q.2.1.length).toNat, q.2.2 ++ [q.2.1[(drawV ns q.1 q.2.1.length).toNat]]) := by unfold stepO; rw [hy]; rfl
  refine ⟨_, hy, h0, h1, es, ?_, hq1⟩
  rw [es]
  constructor
  · show ((q.2.2 ++ [q.2.1[(drawV ns q.1 q.2.1.length).toNat]]) ++ q.2.1.eraseIdx (drawV ns q.1 q.2.1.length).toNat).Perm xs
    rw [List.append_assoc]
    exact ((erase_perm hy).append_left _).trans h.perm
  · show q.1 + 1 = n + (q.2.2 ++ [q.2.1[(drawV ns q.1 q.2.1.length).toNat]]).length
    have := h.num
    rw [List.length_append]; simp; omega
theorem iter_end {ns : List Int} {xs : List D} {n : Nat} {count : Int} (hn : ns.length ≤ 63) (hz : n + xs.length < 900000) : ∀ (m : Nat) (q : SO), IO xs n q → q.2.1.length < m → ∃ q', iterM (goO count) (stepO ns) m q = some q' ∧ IO xs n q' ∧ goO count q' = false ∧ ((q'.2.2.length : Int) ≤ count ∨ q'.2.2 = q.2.2)
  | 0, q, _, h => by omega
  | m + 1, q, hq, h => by
    unfold iterM
    cases hc : goO count q with
    | false => exact ⟨q, by simp, hq, hc, .inr rfl⟩
    | true =>
      obtain ⟨y, hy, h0, h1, es, hI, _⟩ := hq.step hn hz hc
      have hl : (q.2.1.eraseIdx (drawV ns q.1 q.2.1.length).toNat).length < m := by
        rw [List.length_eraseIdx]; split <;> omega
      obtain ⟨q', e1, e2, e3, e4⟩ := iter_end hn hz m (stepO ns q) hI (by rw [es]; exact hl)
      refine ⟨q', by simpa using e1, e2, e3, .inl ?_⟩
      rcases e4 with e4 | e4
      · exact e4
      · rw [e4, es]
        unfold goO at hc
        simp only [Bool.and_eq_true, decide_eq_true_eq] at hc
        have := hc.2
        show ((q.2.2 ++ [y]).length : Int) ≤ count
        rw [List.length_append]; simp; omega
def envO (ns : List Int) (src : D) (count : Int) (q : SO) : Pu.Env := [.sh (nsD ns), .bo (zs q.1), .sh src, .sh (.int count), .ow (.list q.2.1), .ow (.list q.2.2)]
theorem some_run {ns : List Int} {n : Nat} {xs : List D} {src : D} {count : Int} (hn : ns.length ≤ 63) (hz : n + xs.length < 900000) (hx : xs.length < 1000) (hc0 : 0 ≤ count) (hs : SortL xs) (hsrc : pList [src] = some (.ow (.list xs))) :
    ∃ found left : List D, (found ++ left).Perm xs ∧ found.length = min count.toNat xs.length ∧ F__law_some_of [.sh (nsD ns), .bo (zs n), .sh src, .sh (.int count)] = some (.sh (.tuple (isortT found)), [.sh (nsD ns), .bo (zs (n + found.length)), .sh src, .sh (.int count)]) := by
  have run := while_run (t := tAnd (tOf (eOp2 pNe (eVar 4) (eLst (dsNil)))) (tOf (eOp2 pLt (ePrim pLen (msCons (eVar 5) (msNil))) (eVar 3)))) (s := sExpr (eAppend 5 (ePopAt 4 (eCall F__law_draw (asSh (eVar 0) (asBo 1 (asSh (ePrim pLen (msCons (eVar 4) (msNil))) (asNil))))))))
    (envO ns src count) (goO count) (stepO ns) (IO xs n) (fun q hq => by
      have hl := hq.perm.length_eq
      rw [List.length_append] at hl
      have sl : SortL q.2.1 := hs.sub fun y hy => hq.perm.mem_iff.mp (by simp [hy])
      refine ⟨?_, fun hc => ?_⟩
      · apply tAnd_eq
        · apply tOf_eq
          · apply eOp2_eq (hf := ne_nil_list sl.lay)
            · exact eVar_eq (d := .list q.2.1) rfl
            · rfl
            · rfl
            · rfl
          · rfl
        · intro _
          apply tOf_eq
          · apply eOp2_eq (x := .int q.2.2.length) (y := .int count) (r := .sh (.bool (decide ((q.2.2.length : Int) < count))))
            · apply ePrim_eq (ds := [.list q.2.2])
              · apply msCons_eq
                · exact eVar_eq (d := .list q.2.2) rfl
                · rfl
              · rfl
              · rfl
            · exact eVar_eq (d := .int count) rfl
            · rfl
            · rfl
            · rfl
          · rfl
      · obtain ⟨y, hy, h0, h1, es, hI, hq1⟩ := hq.step hn hz hc
        refine ⟨hI, .inl ?_⟩
        rw [es]
        have hlp : 0 < q.2.1.length := by omega
        obtain ⟨dr, _, _⟩ := draw_eq (ns := ns) (n := q.1) (many := q.2.1.length) hn hq1 (by omega)
        apply sExpr_eq
        apply eAppend_eq (ys := q.2.2) (xs := q.2.2) (d := y) (r := .sh y) (ρ1 := [.sh (nsD ns), .bo (zs (q.1 + 1)), .sh src, .sh (.int count), .ow (.list (q.2.1.eraseIdx (drawV ns q.1 q.2.1.length).toNat)), .ow (.list q.2.2)])
        · rfl
        · apply ePopAt_eq (ys := q.2.1) (xs := q.2.1) (k := drawV ns q.1 q.2.1.length) (y := y) (r := .sh (.int (drawV ns q.1 q.2.1.length))) (ρ1 := [.sh (nsD ns), .bo (zs (q.1 + 1)), .sh src, .sh (.int count), .ow (.list q.2.1), .ow (.list q.2.2)])
          · rfl
          · apply eCall_eq (args := [.sh (nsD ns), .bor 1, .sh (.int q.2.1.length)]) (h3 := dr)
            · apply asSh_eq
              · exact eVar_eq (d := nsD ns) rfl
              · rfl
              · apply asBo_eq (d := zs q.1)
                · rfl
                · apply asSh_eq (r := .sh (.int q.2.1.length))
                  · apply ePrim_eq (ds := [.list q.2.1])
                    · apply msCons_eq
                      · exact eVar_eq (d := .list q.2.1) rfl
                      · rfl
                    · rfl
                    · rfl
                  · rfl
                  · rfl
            · simp [bors]
            · rfl
            · rfl
          · rfl
          · rfl
          · exact ⟨h0, h1, by omega⟩
          · exact hy
          · rfl
        · rfl
        · rfl
        · omega
        · rfl)
  have I0 : IO xs n (n, xs, []) := ⟨by simp, by simp⟩
  have r1 := run 1000 (n, xs, []) I0
  obtain ⟨q', e1, e2, e3, e4⟩ := iter_end (count := count) hn hz 1000 (n, xs, []) I0 hx
  rw [e1] at r1
  have hl := e2.perm.length_eq
  rw [List.length_append] at hl
  have hlen : q'.2.2.length = min count.toNat xs.length := by
    have hle : (q'.2.2.length : Int) ≤ count := by
      rcases e4 with e4 | e4
      · exact e4
      · rw [e4]; simpa using hc0
    unfold goO at e3
    rw [Bool.and_eq_false_iff] at e3
    rcases e3 with e3 | e3
    · have : q'.2.1 = [] := by simpa using e3
      rw [this] at hl; simp at hl; omega
    · simp at e3; omega
  refine ⟨q'.2.2, q'.2.1, e2.perm, hlen, ?_⟩
  have sf : SortL q'.2.2 := hs.sub fun y hy => e2.perm.mem_iff.mp (by simp [hy])
  have en : zs (n + q'.2.2.length) = zs q'.1 := by rw [e2.num]
  rw [en]
  apply fn_sh
  · apply sSeq_nx
    · apply sPar_eq
      · apply hsCons_eq
        · apply ePrim_eq (hf := hsrc)
          · apply msCons_eq
            · exact eVar_eq (d := src) rfl
            · rfl
          · rfl
        · rfl
        · apply hsCons_eq
          · rfl
          · rfl
          · rfl
      · rfl
    · apply sSeq_nx
      · exact r1
      · apply sRet_eq
        · apply ePrim_eq (ds := [.list (isortT q'.2.2)])
          · apply msCons_eq
            · apply ePrim_eq (hf := sorted_list sf)
              · apply msCons_eq
                · exact eVar_eq (d := .list q'.2.2) rfl
                · rfl
              · rfl
            · rfl
          · rfl
          · rfl
        · rfl
  · rfl
end Q
set_option maxRecDepth 100000
namespace Q
open PySem Pu
mutual
theorem ltv_some : ∀ a b : D, cmpOk a b = true → ∃ r, ltv a b = some r
  | .int i, .int j, _ => ⟨_, by simp [ltv]; rfl⟩
  | .str i, .str j, _ => ⟨_, by simp [ltv]; rfl⟩
  | .tuple xs, .tuple ys, h => by
    simp only [ltv]
    exact ltAll_some xs ys (by simpa [cmpOk] using h)
  | .none, y, h => by cases y <;> simp [cmpOk] at h
  | .bool _, y, h => by cases y <;> simp [cmpOk] at h
  | .list _, y, h => by cases y <;> simp [cmpOk] at h
  | .dict _, y, h => by cases y <;> simp [cmpOk] at h
  | .int _, .none, h => by simp [cmpOk] at h
  | .int _, .bool _, h => by simp [cmpOk] at h
  | .int _, .str _, h => by simp [cmpOk] at h
  | .int _, .list _, h => by simp [cmpOk] at h
  | .int _, .tuple _, h => by simp [cmpOk] at h
  | .int _, .dict _, h => by simp [cmpOk] at h
  | .str _, .none, h => by simp [cmpOk] at h
  | .str _, .bool _, h => by simp [cmpOk] at h
  | .str _, .int _, h => by simp [cmpOk] at h
  | .str _, .list _, h => by simp [cmpOk] at h
  | .str _, .tuple _, h => by simp [cmpOk] at h
  | .str _, .dict _, h => by simp [cmpOk] at h
  | .tuple _, .none, h => by simp [cmpOk] at h
  | .tuple _, .bool _, h => by simp [cmpOk] at h
  | .tuple _, .int _, h => by simp [cmpOk] at h
  | .tuple _, .str _, h => by simp [cmpOk] at h
  | .tuple _, .list _, h => by simp [cmpOk] at h
  | .tuple _, .dict _, h => by simp [cmpOk] at h
theorem ltAll_some : ∀ xs ys : List D, cmpOks xs ys = true → ∃ r, ltAll xs ys = some r
  | [], [], _ => ⟨false, by simp [ltAll]⟩
  | [], _ :: _, _ => ⟨true, by simp [ltAll]⟩
  | _ :: _, [], _ => ⟨false, by simp [ltAll]⟩
  | x :: xs, y :: ys, h => by
    simp only [cmpOks, Bool.and_eq_true] at h
    simp only [ltAll]
    split
    · exact ltAll_some xs ys h.2
    · exact ltv_some x y h.1
end
theorem pLt_le {x y : D} (hx : okd x = true ∧ x.canLay0 = true ∧ x.depth ≤ 60) (hy : okd y = true ∧ y.canLay0 = true ∧ y.depth ≤ 60) (tx : isTup1 x = true) (hc : cmpOk x y = true) : pLt x y = some (.sh (.bool (!leT y x))) := by
  obtain ⟨r, hr⟩ := ltv_some x y hc
  have hr2 := ltv_le x y r hx.1 hy.1 hr
  have ok : eqOk x y = true := by
    unfold eqOk
    rw [hx.2.1, hy.2.1]
    have : decide (x.depth ≤ 64) = true := by simp; omega
    rw [this]; rfl
  have : ltD x y = some r := by
    unfold isTup1 at tx
    split at tx
    · unfold ltD
      simp only [ok, if_true]
      exact hr
    · cases tx
  unfold pLt
  rw [this, hr2]; rfl
theorem sorted_rises {xs : List D} (hs : xs.Pairwise (fun a b => leT a b = true)) (hn : xs.Nodup) (ok : ∀ x ∈ xs, okd x = true) : ((xs.zip (xs.drop 1)).all fun p => !leT p.2 p.1) = true := by
  induction xs with
  | nil => rfl
  | cons x xs ih =>
    cases xs with
    | nil => rfl
    | cons y ys =>
      rw [List.pairwise_cons] at hs
      rw [List.nodup_cons] at hn
      have h1 := ih hs.2 hn.2 fun z hz => ok z (by simp [hz])
      simp only [List.drop_succ_cons, List.drop_zero, List.zip_cons_cons, List.all_cons, Bool.and_eq_true] at h1 ⊢
      refine ⟨?_, by simpa using h1⟩
      cases h : leT y x with
      | false => rfl
      | true =>
        have e := leT_antisymm x y (ok x (by simp)) (ok y (by simp)) (hs.1 y (by simp)) h
        exact absurd (by rw [e]; simp) hn.1
end Q
set_option maxRecDepth 100000
namespace Pu
open PySem

def varK (i : Nat) (ρ : Env) : D → Option (Res × Env) := fun d => some (.var i, ρ)
theorem x_varK {i : Nat} {ρ : Env} {d : D} : varK i ρ d = some (.var i, ρ) := Eq.trans rfl rfl
theorem x_var {i : Nat} {ρ : Env} : eVar i ρ = (ρ[i]?.bind Slot.val).bind (varK i ρ) := by unfold eVar varK; cases ρ[i]?.bind Slot.val <;> rfl
theorem x_c {d : D} {ρ : Env} : eC d ρ = some (.sh d, ρ) := Eq.trans rfl rfl
def resK (ρ : Env) : Res → Option (Res × Env) := fun r => some (r, ρ)
theorem x_resK {ρ : Env} {r : Res} : resK ρ r = some (r, ρ) := Eq.trans rfl rfl
def op1B (f : D → Option Res) (ρ : Env) : D → Option (Res × Env) := fun x => (f x).bind (resK ρ)
theorem x_op1B {f : D → Option Res} {ρ : Env} {x : D} : op1B f ρ x = (f x).bind (resK ρ) := Eq.trans rfl rfl
def op1A (f : D → Option Res) : (Res × Env) → Option (Res × Env) := fun p_ => ((p_.1).get (p_.2)).bind (op1B f (p_.2))
theorem x_op1A {f : D → Option Res} {r : Res} {ρ : Env} : op1A f (r, ρ) = (r.get ρ).bind (op1B f ρ) := Eq.trans rfl rfl
theorem x_op1 {f : D → Option Res} {a : M} {ρ : Env} : eOp1 f a ρ = (a ρ).bind (op1A f) := by unfold eOp1 op1A op1B resK; simp only [Option.map_eq_bind]; rfl
def op2D (f : D → D → Option Res) (x : D) (ρ : Env) : D → Option (Res × Env) := fun y => (f x y).bind (resK ρ)
theorem x_op2D {f : D → D → Option Res} {x : D} {ρ : Env} {y : D} : op2D f x ρ y = (f x y).bind (resK ρ) := Eq.trans rfl rfl
def op2C (f : D → D → Option Res) (s : Res) (ρ : Env) : D → Option (Res × Env) := fun x => (s.get ρ).bind (op2D f x ρ)
theorem x_op2C {f : D → D → Option Res} {s : Res} {ρ : Env} {x : D} : op2C f s ρ x = (s.get ρ).bind (op2D f x ρ) := Eq.trans rfl rfl
def op2B (f : D → D → Option Res) (r : Res) : (Res × Env) → Option (Res × Env) := fun p_ => (r.get (p_.2)).bind (op2C f (p_.1) (p_.2))
theorem x_op2B {f : D → D → Option Res} {r : Res} {s : Res} {ρ : Env} : op2B f r (s, ρ) = (r.get ρ).bind (op2C f s ρ) := Eq.trans rfl rfl
def op2A (f : D → D → Option Res) (b : M) : (Res × Env) → Option (Res × Env) := fun p_ => (b (p_.2)).bind (op2B f (p_.1))
theorem x_op2A {f : D → D → Option Res} {b : M} {r : Res} {ρ : Env} : op2A f b (r, ρ) = (b ρ).bind (op2B f r) := Eq.trans rfl rfl
theorem x_op2 {f : D → D → Option Res} {a : M} {b : M} {ρ : Env} : eOp2 f a b ρ = (a ρ).bind (op2A f b) := by unfold eOp2 op2A op2B op2C op2D resK; simp only [Option.map_eq_bind]; rfl
theorem x_msNil {ρ : Env} : msNil ρ = some ([], ρ) := Eq.trans rfl rfl
def msB (r : Res) : (List Res × Env) → Option (List Res × Env) := fun p_ => some (r :: (p_.1), (p_.2))
theorem x_msB {r : Res} {q : List Res} {ρ : Env} : msB r (q, ρ) = some (r :: q, ρ) := Eq.trans rfl rfl
def msA (ms : Ms) : (Res × Env) → Option (List Res × Env) := fun p_ => (ms (p_.2)).bind (msB (p_.1))
theorem x_msA {ms : Ms} {r : Res} {ρ : Env} : msA ms (r, ρ) = (ms ρ).bind (msB r) := Eq.trans rfl rfl
theorem x_msCons {a : M} {ms : Ms} {ρ : Env} : msCons a ms ρ = (a ρ).bind (msA ms) := Eq.trans rfl rfl
theorem x_getNil {ρ : Env} : getAll ρ [] = some [] := Eq.trans rfl rfl
def gaB (d : D) : List D → Option (List D) := fun ds => some (d :: ds)
theorem x_gaB {d : D} {ds : List D} : gaB d ds = some (d :: ds) := Eq.trans rfl rfl
def gaA (ρ : Env) (rs : List Res) : D → Option (List D) := fun d => (getAll ρ rs).bind (gaB d)
theorem x_gaA {ρ : Env} {rs : List Res} {d : D} : gaA ρ rs d = (getAll ρ rs).bind (gaB d) := Eq.trans rfl rfl
theorem x_getCons {ρ : Env} {r : Res} {rs : List Res} : getAll ρ (r :: rs) = (r.get ρ).bind (gaA ρ rs) := Eq.trans rfl rfl
def prB (f : List D → Option Res) (ρ : Env) : List D → Option (Res × Env) := fun ds => (f ds).bind (resK ρ)
theorem x_prB {f : List D → Option Res} {ρ : Env} {ds : List D} : prB f ρ ds = (f ds).bind (resK ρ) := Eq.trans rfl rfl
def prA (f : List D → Option Res) : (List Res × Env) → Option (Res × Env) := fun p_ => (getAll (p_.2) (p_.1)).bind (prB f (p_.2))
theorem x_prA {f : List D → Option Res} {rs : List Res} {ρ : Env} : prA f (rs, ρ) = (getAll ρ rs).bind (prB f ρ) := Eq.trans rfl rfl
theorem x_prim {f : List D → Option Res} {ms : Ms} {ρ : Env} : ePrim f ms ρ = (ms ρ).bind (prA f) := by unfold ePrim prA prB resK; simp only [Option.map_eq_bind]; rfl
theorem x_getV {ρ : Env} {i : Nat} : Res.get ρ (.var i) = ρ[i]?.bind Slot.val := Eq.trans rfl rfl
theorem x_getS {ρ : Env} {d : D} : Res.get ρ (.sh d) = some d := Eq.trans rfl rfl
theorem x_getO {ρ : Env} {d : D} : Res.get ρ (.ow d) = some d := Eq.trans rfl rfl
theorem x_valS {d : D} : Slot.val (.sh d) = some d := Eq.trans rfl rfl
theorem x_valO {d : D} : Slot.val (.ow d) = some d := Eq.trans rfl rfl
theorem x_valB {d : D} : Slot.val (.bo d) = some d := Eq.trans rfl rfl
theorem x_ownO {d : D} : Slot.own (.ow d) = some d := Eq.trans rfl rfl
theorem x_ownB {d : D} : Slot.own (.bo d) = some d := Eq.trans rfl rfl
theorem x_shS {d : D} {ρ : Env} : share (.sh d) ρ = some (d, ρ) := Eq.trans rfl rfl
theorem x_shO {d : D} {ρ : Env} : share (.ow d) ρ = some (d, ρ) := Eq.trans rfl rfl
def shareV (i : Nat) (ρ : Env) : Option Slot → Option (D × Env)
  | some (.sh d) => some (d, ρ)
  | some (.ow d) => some (d, ρ.set i (.sh d))
  | some (.xt (.tx _ d)) => some (d, ρ)
  | _ => none
theorem x_shVX {i : Nat} {ρ : Env} {p : Pt} {d : D} : shareV i ρ (some (.xt (.tx p d))) = some (d, ρ) := Eq.trans rfl rfl
theorem x_valX {p : Pt} {d : D} : Slot.val (.xt (.tx p d)) = some d := Eq.trans rfl rfl
theorem x_shV {i : Nat} {ρ : Env} : share (.var i) ρ = shareV i ρ ρ[i]? := by unfold share shareV; rfl
theorem x_shVS {i : Nat} {ρ : Env} {d : D} : shareV i ρ (some (.sh d)) = some (d, ρ) := Eq.trans rfl rfl
theorem x_shVO {i : Nat} {ρ : Env} {d : D} : shareV i ρ (some (.ow d)) = some (d, ρ.set i (.sh d)) := Eq.trans rfl rfl
theorem x_dsNil {ρ : Env} : dsNil ρ = some ([], ρ) := Eq.trans rfl rfl
def dsC (d : D) : (List D × Env) → Option (List D × Env) := fun p_ => some (d :: (p_.1), (p_.2))
theorem x_dsC {d : D} {q : List D} {ρ : Env} : dsC d (q, ρ) = some (d :: q, ρ) := Eq.trans rfl rfl
def dsB (as : Ds) : (D × Env) → Option (List D × Env) := fun p_ => (as (p_.2)).bind (dsC (p_.1))
theorem x_dsB {as : Ds} {d : D} {ρ : Env} : dsB as (d, ρ) = (as ρ).bind (dsC d) := Eq.trans rfl rfl
def dsA (as : Ds) : (Res × Env) → Option (List D × Env) := fun p_ => (share (p_.1) (p_.2)).bind (dsB as)
theorem x_dsA {as : Ds} {r : Res} {ρ : Env} : dsA as (r, ρ) = (share r ρ).bind (dsB as) := Eq.trans rfl rfl
theorem x_dsCons {a : M} {as : Ds} {ρ : Env} : dsCons a as ρ = (a ρ).bind (dsA as) := Eq.trans rfl rfl
def tupK  : (List D × Env) → Option (Res × Env) := fun p_ => some (.sh (.tuple (p_.1)), (p_.2))
theorem x_tupK  {ds : List D} {ρ : Env} : tupK  (ds, ρ) = some (.sh (.tuple ds), ρ) := Eq.trans rfl rfl
def lstK  : (List D × Env) → Option (Res × Env) := fun p_ => some (.ow (.list (p_.1)), (p_.2))
theorem x_lstK  {ds : List D} {ρ : Env} : lstK  (ds, ρ) = some (.ow (.list ds), ρ) := Eq.trans rfl rfl
theorem x_tup {as : Ds} {ρ : Env} : eTup as ρ = (as ρ).bind tupK := by unfold eTup tupK; simp only [Option.map_eq_bind]; rfl
theorem x_lst {as : Ds} {ρ : Env} : eLst as ρ = (as ρ).bind lstK := by unfold eLst lstK; simp only [Option.map_eq_bind]; rfl
theorem x_dict {ρ : Env} : eDict ρ = some (.ow (.dict []), ρ) := Eq.trans rfl rfl
theorem x_dictU {ρ : Env} : eDictU ρ = some (.ow (.dict [(.tuple [], .bool true)]), ρ) := Eq.trans rfl rfl
def boolV (ρ : Env) : Option D → Option (Bool × Env)
  | some (.bool b) => some (b, ρ)
  | _ => none
def tOfK  : (Res × Env) → Option (Bool × Env) := fun p_ => boolV (p_.2) ((p_.1).get (p_.2))
theorem x_tOfK  {r : Res} {ρ : Env} : tOfK  (r, ρ) = boolV ρ (r.get ρ) := Eq.trans rfl rfl
theorem x_tOf {a : M} {ρ : Env} : tOf a ρ = (a ρ).bind tOfK := by unfold tOf tOfK boolV; rfl
theorem x_boolV {ρ : Env} {k : Bool} : boolV ρ (some (.bool k)) = some (k, ρ) := Eq.trans rfl rfl
theorem x_boolVi {ρ : Env} {c : Prop} [Decidable c] {x y : D} : boolV ρ (if c then some x else some y) = if c then boolV ρ (some x) else boolV ρ (some y) := by split <;> rfl
def notK  : (Bool × Env) → Option (Bool × Env) := fun p_ => some (!(p_.1), (p_.2))
theorem x_notK  {k : Bool} {ρ : Env} : notK  (k, ρ) = some (!k, ρ) := Eq.trans rfl rfl
theorem x_tNot {t : T} {ρ : Env} : tNot t ρ = (t ρ).bind notK := by unfold tNot notK; simp only [Option.map_eq_bind]; rfl
def tAndK (u : T) : (Bool × Env) → Option (Bool × Env) := fun p_ => if (p_.1) = true then u (p_.2) else some (false, (p_.2))
theorem x_tAndK {u : T} {k : Bool} {ρ : Env} : tAndK u (k, ρ) = if k = true then u ρ else some (false, ρ) := Eq.trans rfl rfl
theorem x_tAnd {t : T} {u : T} {ρ : Env} : tAnd t u ρ = (t ρ).bind (tAndK u) := Eq.trans rfl rfl
def tOrK (u : T) : (Bool × Env) → Option (Bool × Env) := fun p_ => if (p_.1) = true then some (true, (p_.2)) else u (p_.2)
theorem x_tOrK {u : T} {k : Bool} {ρ : Env} : tOrK u (k, ρ) = if k = true then some (true, ρ) else u ρ := Eq.trans rfl rfl
theorem x_tOr {t : T} {u : T} {ρ : Env} : tOr t u ρ = (t ρ).bind (tOrK u) := Eq.trans rfl rfl
def eIfK (a : M) (b : M) : (Bool × Env) → Option (Res × Env) := fun p_ => if (p_.1) = true then a (p_.2) else b (p_.2)
theorem x_eIfK {a : M} {b : M} {k : Bool} {ρ : Env} : eIfK a b (k, ρ) = if k = true then a ρ else b ρ := Eq.trans rfl rfl
theorem x_eIf {t : T} {a : M} {b : M} {ρ : Env} : eIf t a b ρ = (t ρ).bind (eIfK a b) := Eq.trans rfl rfl
def eNotK  : (Bool × Env) → Option (Res × Env) := fun p_ => some (.sh (.bool (!(p_.1))), (p_.2))
theorem x_eNotK  {k : Bool} {ρ : Env} : eNotK  (k, ρ) = some (.sh (.bool (!k)), ρ) := Eq.trans rfl rfl
theorem x_eNot {a : M} {ρ : Env} : eNot a ρ = (tOf a ρ).bind eNotK := by unfold eNot eNotK; simp only [Option.map_eq_bind]; rfl
def eAndK (b : M) : (Bool × Env) → Option (Res × Env) := fun p_ => if (p_.1) = true then b (p_.2) else some (.sh (.bool false), (p_.2))
theorem x_eAndK {b : M} {k : Bool} {ρ : Env} : eAndK b (k, ρ) = if k = true then b ρ else some (.sh (.bool false), ρ) := Eq.trans rfl rfl
theorem x_eAnd {a : M} {b : M} {ρ : Env} : eAnd a b ρ = (tOf a ρ).bind (eAndK b) := Eq.trans rfl rfl
def eOrK (b : M) : (Bool × Env) → Option (Res × Env) := fun p_ => if (p_.1) = true then some (.sh (.bool true), (p_.2)) else b (p_.2)
theorem x_eOrK {b : M} {k : Bool} {ρ : Env} : eOrK b (k, ρ) = if k = true then some (.sh (.bool true), ρ) else b ρ := Eq.trans rfl rfl
theorem x_eOr {a : M} {b : M} {ρ : Env} : eOr a b ρ = (tOf a ρ).bind (eOrK b) := Eq.trans rfl rfl
theorem x_tYes {ρ : Env} : tYes ρ = some (true, ρ) := Eq.trans rfl rfl
def chH (f' : D → D → Option Res) (y : D) (ρ : Env) : D → Option (Res × Env) := fun z => (f' y z).bind (resK ρ)
theorem x_chH {f' : D → D → Option Res} {y : D} {ρ : Env} {z : D} : chH f' y ρ z = (f' y z).bind (resK ρ) := Eq.trans rfl rfl
def chG (f' : D → D → Option Res) (t : Res) (ρ : Env) : D → Option (Res × Env) := fun y => (t.get ρ).bind (chH f' y ρ)
theorem x_chG {f' : D → D → Option Res} {t : Res} {ρ : Env} {y : D} : chG f' t ρ y = (t.get ρ).bind (chH f' y ρ) := Eq.trans rfl rfl
def chF (f' : D → D → Option Res) (q : Res) : (Res × Env) → Option (Res × Env) := fun p_ => (q.get (p_.2)).bind (chG f' (p_.1) (p_.2))
theorem x_chF {f' : D → D → Option Res} {q : Res} {t : Res} {ρ : Env} : chF f' q (t, ρ) = (q.get ρ).bind (chG f' t ρ) := Eq.trans rfl rfl
def chE (f' : D → D → Option Res) (c : M) (q : Res) (ρ : Env) : Bool → Option (Res × Env) := fun k => if k = true then (c ρ).bind (chF f' q) else some (.sh (.bool false), ρ)
theorem x_chE {f' : D → D → Option Res} {c : M} {q : Res} {ρ : Env} {k : Bool} : chE f' c q ρ k = if k = true then (c ρ).bind (chF f' q) else some (.sh (.bool false), ρ) := Eq.trans rfl rfl
def chD (f' : D → D → Option Res) (c : M) (q : Res) (ρ : Env) : Res → Option (Res × Env) := fun r => (boolR r).bind (chE f' c q ρ)
theorem x_chD {f' : D → D → Option Res} {c : M} {q : Res} {ρ : Env} {r : Res} : chD f' c q ρ r = (boolR r).bind (chE f' c q ρ) := Eq.trans rfl rfl
def chC (f : D → D → Option Res) (f' : D → D → Option Res) (c : M) (q : Res) (ρ : Env) (x : D) : D → Option (Res × Env) := fun y => (f x y).bind (chD f' c q ρ)
theorem x_chC {f : D → D → Option Res} {f' : D → D → Option Res} {c : M} {q : Res} {ρ : Env} {x : D} {y : D} : chC f f' c q ρ x y = (f x y).bind (chD f' c q ρ) := Eq.trans rfl rfl
def chB2 (f : D → D → Option Res) (f' : D → D → Option Res) (c : M) (q : Res) (ρ : Env) : D → Option (Res × Env) := fun x => (q.get ρ).bind (chC f f' c q ρ x)
theorem x_chB2 {f : D → D → Option Res} {f' : D → D → Option Res} {c : M} {q : Res} {ρ : Env} {x : D} : chB2 f f' c q ρ x = (q.get ρ).bind (chC f f' c q ρ x) := Eq.trans rfl rfl
def chB (f : D → D → Option Res) (f' : D → D → Option Res) (c : M) (p : Res) : (Res × Env) → Option (Res × Env) := fun p_ => (p.get (p_.2)).bind (chB2 f f' c (p_.1) (p_.2))
theorem x_chB {f : D → D → Option Res} {f' : D → D → Option Res} {c : M} {p : Res} {q : Res} {ρ : Env} : chB f f' c p (q, ρ) = (p.get ρ).bind (chB2 f f' c q ρ) := Eq.trans rfl rfl
def chA (f : D → D → Option Res) (f' : D → D → Option Res) (b : M) (c : M) : (Res × Env) → Option (Res × Env) := fun p_ => (b (p_.2)).bind (chB f f' c (p_.1))
theorem x_chA {f : D → D → Option Res} {f' : D → D → Option Res} {b : M} {c : M} {p : Res} {ρ : Env} : chA f f' b c (p, ρ) = (b ρ).bind (chB f f' c p) := Eq.trans rfl rfl
theorem x_chain {f : D → D → Option Res} {f' : D → D → Option Res} {a : M} {b : M} {c : M} {ρ : Env} : eChain f f' a b c ρ = (a ρ).bind (chA f f' b c) := by unfold eChain chA chB chB2 chC chD chE chF chG chH resK; simp only [Option.map_eq_bind]; rfl
theorem x_boolR {k : Bool} : boolR (.sh (.bool k)) = some k := Eq.trans rfl rfl
def slD (l : Option Int) (h : Option Int) (ρ : Env) : D → Option (Res × Env) := fun d => (pSlice d l h).bind (resK ρ)
theorem x_slD {l : Option Int} {h : Option Int} {ρ : Env} {d : D} : slD l h ρ d = (pSlice d l h).bind (resK ρ) := Eq.trans rfl rfl
def slC (r : Res) (l : Option Int) : (Option Int × Env) → Option (Res × Env) := fun p_ => (r.get (p_.2)).bind (slD l (p_.1) (p_.2))
theorem x_slC {r : Res} {l : Option Int} {h : Option Int} {ρ : Env} : slC r l (h, ρ) = (r.get ρ).bind (slD l h ρ) := Eq.trans rfl rfl
def slB (hi : Os) (r : Res) : (Option Int × Env) → Option (Res × Env) := fun p_ => (hi (p_.2)).bind (slC r (p_.1))
theorem x_slB {hi : Os} {r : Res} {l : Option Int} {ρ : Env} : slB hi r (l, ρ) = (hi ρ).bind (slC r l) := Eq.trans rfl rfl
def slA (lo : Os) (hi : Os) : (Res × Env) → Option (Res × Env) := fun p_ => (lo (p_.2)).bind (slB hi (p_.1))
theorem x_slA {lo : Os} {hi : Os} {r : Res} {ρ : Env} : slA lo hi (r, ρ) = (lo ρ).bind (slB hi r) := Eq.trans rfl rfl
theorem x_slice {a : M} {lo : Os} {hi : Os} {ρ : Env} : eSlice a lo hi ρ = (a ρ).bind (slA lo hi) := by unfold eSlice slA slB slC slD resK; simp only [Option.map_eq_bind]; rfl
theorem x_oNone {ρ : Env} : oNone ρ = some (none, ρ) := Eq.trans rfl rfl
def intO (ρ : Env) : Option D → Option (Option Int × Env)
  | some (.int i) => some (some i, ρ)
  | _ => none
def oSomeK  : (Res × Env) → Option (Option Int × Env) := fun p_ => intO (p_.2) ((p_.1).get (p_.2))
theorem x_oSomeK  {r : Res} {ρ : Env} : oSomeK  (r, ρ) = intO ρ (r.get ρ) := Eq.trans rfl rfl
theorem x_oSome {a : M} {ρ : Env} : oSome a ρ = (a ρ).bind oSomeK := by unfold oSome oSomeK intO; rfl
theorem x_intO {ρ : Env} {j : Int} : intO ρ (some (.int j)) = some (some j, ρ) := Eq.trans rfl rfl
theorem x_thenN {ρ : Env} {s : S} : (Out.nx ρ).then s = s ρ := Eq.trans rfl rfl
theorem x_thenB {ρ : Env} {s : S} : (Out.bk ρ).then s = some (.bk ρ) := Eq.trans rfl rfl
theorem x_thenC {ρ : Env} {s : S} : (Out.ct ρ).then s = some (.ct ρ) := Eq.trans rfl rfl
theorem x_thenR {r : Res} {ρ : Env} {s : S} : (Out.rt r ρ).then s = some (.rt r ρ) := Eq.trans rfl rfl
theorem x_nop {ρ : Env} : sNop ρ = some (.nx ρ) := Eq.trans rfl rfl
def seqK (s : S) : Out → Option Out := fun o => o.then s
theorem x_seqK {s : S} {o : Out} : seqK s o = o.then s := Eq.trans rfl rfl
theorem x_seq {s1 : S} {s2 : S} {ρ : Env} : sSeq s1 s2 ρ = (s1 ρ).bind (seqK s2) := Eq.trans rfl rfl
theorem x_never {ρ : Env} : sNever ρ = none := Eq.trans rfl rfl
def exprK  : (Res × Env) → Option Out := fun p_ => some (.nx (p_.2))
theorem x_exprK  {r : Res} {ρ : Env} : exprK  (r, ρ) = some (.nx ρ) := Eq.trans rfl rfl
theorem x_expr {a : M} {ρ : Env} : sExpr a ρ = (a ρ).bind exprK := by unfold sExpr exprK; simp only [Option.map_eq_bind]; rfl
def ifK (s1 : S) (s2 : S) : (Bool × Env) → Option Out := fun p_ => if (p_.1) = true then s1 (p_.2) else s2 (p_.2)
theorem x_ifK {s1 : S} {s2 : S} {k : Bool} {ρ : Env} : ifK s1 s2 (k, ρ) = if k = true then s1 ρ else s2 ρ := Eq.trans rfl rfl
theorem x_if {t : T} {s1 : S} {s2 : S} {ρ : Env} : sIf t s1 s2 ρ = (t ρ).bind (ifK s1 s2) := Eq.trans rfl rfl
theorem x_break {ρ : Env} : sBreak ρ = some (.bk ρ) := Eq.trans rfl rfl
theorem x_cont {ρ : Env} : sCont ρ = some (.ct ρ) := Eq.trans rfl rfl
theorem x_hoX {p : Pt} {d : D} {ρ : Env} : hold (.tx p d) ρ = some (.xt (.tx p d), ρ) := Eq.trans rfl rfl
theorem x_shX {p : Pt} {d : D} {ρ : Env} : share (.tx p d) ρ = some (d, ρ) := Eq.trans rfl rfl
theorem x_getX {p : Pt} {d : D} {ρ : Env} : Res.get ρ (.tx p d) = some d := Eq.trans rfl rfl
theorem x_hoS {d : D} {ρ : Env} : hold (.sh d) ρ = some (.sh d, ρ) := Eq.trans rfl rfl
theorem x_hoO {d : D} {ρ : Env} : hold (.ow d) ρ = some (.ow d, ρ) := Eq.trans rfl rfl
def hoK  : (D × Env) → Option (Slot × Env) := fun p_ => some (.sh (p_.1), (p_.2))
theorem x_hoK  {d : D} {ρ : Env} : hoK  (d, ρ) = some (.sh d, ρ) := Eq.trans rfl rfl
theorem x_hoV {i : Nat} {ρ : Env} : hold (.var i) ρ = (share (.var i) ρ).bind hoK := by unfold hold hoK; simp only [Option.map_eq_bind]; rfl
def putV (i : Nat) (w : Slot) (ρ : Env) : Option Slot → Option Env
  | some .no => some (ρ.set i w)
  | some (.sh _) => some (ρ.set i w)
  | some (.ow _) => some (ρ.set i w)
  | some (.xt (.tx _ _)) => some (ρ.set i w)
  | _ => none
theorem x_putX {i : Nat} {w : Slot} {ρ : Env} {p : Pt} {d : D} : putV i w ρ (some (.xt (.tx p d))) = some (ρ.set i w) := Eq.trans rfl rfl
theorem x_set {i : Nat} {w : Slot} {ρ : Env} : setSlot i w ρ = putV i w ρ ρ[i]? := by unfold setSlot putV; rfl
theorem x_putN {i : Nat} {w : Slot} {ρ : Env} : putV i w ρ (some .no) = some (ρ.set i w) := Eq.trans rfl rfl
theorem x_putS {i : Nat} {w : Slot} {ρ : Env} {d : D} : putV i w ρ (some (.sh d)) = some (ρ.set i w) := Eq.trans rfl rfl
theorem x_putO {i : Nat} {w : Slot} {ρ : Env} {d : D} : putV i w ρ (some (.ow d)) = some (ρ.set i w) := Eq.trans rfl rfl
def nxK  : Env → Option Out := fun ρ => some (.nx ρ)
theorem x_nxK  {ρ : Env} : nxK  ρ = some (.nx ρ) := Eq.trans rfl rfl
def setB (i : Nat) : (Slot × Env) → Option Out := fun p_ => (setSlot i (p_.1) (p_.2)).bind nxK
theorem x_setB {i : Nat} {w : Slot} {ρ : Env} : setB i (w, ρ) = (setSlot i w ρ).bind nxK := Eq.trans rfl rfl
def setA (i : Nat) : (Res × Env) → Option Out := fun p_ => (hold (p_.1) (p_.2)).bind (setB i)
theorem x_setA {i : Nat} {r : Res} {ρ : Env} : setA i (r, ρ) = (hold r ρ).bind (setB i) := Eq.trans rfl rfl
theorem x_sSet {i : Nat} {a : M} {ρ : Env} : sSet i a ρ = (a ρ).bind (setA i) := by unfold sSet setA setB nxK; simp only [Option.map_eq_bind]; rfl
theorem x_augC {i : Nat} {a : Int} {b : Int} {ρ : Env} : augC i a (.int b, ρ) = (setSlot i (.sh (.int (a + b))) ρ).bind nxK := by show (setSlot i (.sh (.int (a + b))) ρ).map Out.nx = _; rw [Option.map_eq_bind]; rfl
def augB (i : Nat) (a : Int) : (Res × Env) → Option Out := fun p_ => (share (p_.1) (p_.2)).bind (augC i a)
theorem x_augB {i : Nat} {a : Int} {r : Res} {ρ : Env} : augB i a (r, ρ) = (share r ρ).bind (augC i a) := Eq.trans rfl rfl
theorem x_augA {i : Nat} {a : Int} {g : M} {ρ : Env} : augA i g ρ (some (.sh (.int a))) = (g ρ).bind (augB i a) := Eq.trans rfl rfl
theorem x_sAug {i : Nat} {g : M} {ρ : Env} : sAug i g ρ = augA i g ρ ρ[i]? := Eq.trans rfl rfl
theorem x_giS {d : D} {ρ : Env} : giveUp (.sh d) ρ = some (.sh d, ρ) := Eq.trans rfl rfl
theorem x_giO {d : D} {ρ : Env} : giveUp (.ow d) ρ = some (.ow d, ρ) := Eq.trans rfl rfl
def giveV (i : Nat) (ρ : Env) : Option Slot → Option (Res × Env)
  | some (.sh d) => some (.sh d, ρ)
  | some (.ow d) => some (.ow d, ρ.set i .no)
  | some (.xt (.tx p d)) => some (.tx p d, ρ)
  | _ => none
theorem x_giVX {i : Nat} {ρ : Env} {p : Pt} {d : D} : giveV i ρ (some (.xt (.tx p d))) = some (.tx p d, ρ) := Eq.trans rfl rfl
theorem x_giX {p : Pt} {d : D} {ρ : Env} : giveUp (.tx p d) ρ = some (.tx p d, ρ) := Eq.trans rfl rfl
theorem x_giV {i : Nat} {ρ : Env} : giveUp (.var i) ρ = giveV i ρ ρ[i]? := by unfold giveUp giveV; rfl
theorem x_giVS {i : Nat} {ρ : Env} {d : D} : giveV i ρ (some (.sh d)) = some (.sh d, ρ) := Eq.trans rfl rfl
theorem x_giVO {i : Nat} {ρ : Env} {d : D} : giveV i ρ (some (.ow d)) = some (.ow d, ρ.set i .no) := Eq.trans rfl rfl
def rtK  : (Res × Env) → Option Out := fun p_ => some (.rt (p_.1) (p_.2))
theorem x_rtK  {r : Res} {ρ : Env} : rtK  (r, ρ) = some (.rt r ρ) := Eq.trans rfl rfl
def retA  : (Res × Env) → Option Out := fun p_ => (giveUp (p_.1) (p_.2)).bind rtK
theorem x_retA  {r : Res} {ρ : Env} : retA  (r, ρ) = (giveUp r ρ).bind rtK := Eq.trans rfl rfl
theorem x_ret {a : M} {ρ : Env} : sRet a ρ = (a ρ).bind retA := by unfold sRet retA rtK; simp only [Option.map_eq_bind]; rfl
theorem x_retN {ρ : Env} : sRetN ρ = some (.rt (.sh .none) ρ) := Eq.trans rfl rfl
theorem x_name {i : Nat} {d : D} {ρ : Env} : gName i d ρ = setSlot i (.sh d) ρ := Eq.trans rfl rfl
theorem x_gTup {gs : Gs} {ds : List D} {ρ : Env} : gTup gs (.tuple ds) ρ = gs ds ρ := Eq.trans rfl rfl
theorem x_gsCons {g : G} {gs : Gs} {d : D} {ds : List D} {ρ : Env} : gsCons g gs (d :: ds) ρ = (g d ρ).bind (gs ds) := Eq.trans rfl rfl
theorem x_gsNil {ρ : Env} : gsNil [] ρ = some ρ := Eq.trans rfl rfl
def unpB (g : G) : (D × Env) → Option Out := fun p_ => (g (p_.1) (p_.2)).bind nxK
theorem x_unpB {g : G} {d : D} {ρ : Env} : unpB g (d, ρ) = (g d ρ).bind nxK := Eq.trans rfl rfl
def unpA (g : G) : (Res × Env) → Option Out := fun p_ => (share (p_.1) (p_.2)).bind (unpB g)
theorem x_unpA {g : G} {r : Res} {ρ : Env} : unpA g (r, ρ) = (share r ρ).bind (unpB g) := Eq.trans rfl rfl
theorem x_unp {g : G} {a : M} {ρ : Env} : sUnp g a ρ = (a ρ).bind (unpA g) := by unfold sUnp unpA unpB nxK; simp only [Option.map_eq_bind]; rfl
theorem x_hsNil {ρ : Env} : hsNil ρ = some ([], ρ) := Eq.trans rfl rfl
def hsC (w : Slot) : (List Slot × Env) → Option (List Slot × Env) := fun p_ => some (w :: (p_.1), (p_.2))
theorem x_hsC {w : Slot} {ws : List Slot} {ρ : Env} : hsC w (ws, ρ) = some (w :: ws, ρ) := Eq.trans rfl rfl
def hsB (hs : Hs) : (Slot × Env) → Option (List Slot × Env) := fun p_ => (hs (p_.2)).bind (hsC (p_.1))
theorem x_hsB {hs : Hs} {w : Slot} {ρ : Env} : hsB hs (w, ρ) = (hs ρ).bind (hsC w) := Eq.trans rfl rfl
def hsA (hs : Hs) : (Res × Env) → Option (List Slot × Env) := fun p_ => (hold (p_.1) (p_.2)).bind (hsB hs)
theorem x_hsA {hs : Hs} {r : Res} {ρ : Env} : hsA hs (r, ρ) = (hold r ρ).bind (hsB hs) := Eq.trans rfl rfl
theorem x_hsCons {a : M} {hs : Hs} {ρ : Env} : hsCons a hs ρ = (a ρ).bind (hsA hs) := Eq.trans rfl rfl
theorem x_setNil {ρ : Env} : setAll [] [] ρ = some ρ := Eq.trans rfl rfl
theorem x_setCons {i : Nat} {is : List Nat} {w : Slot} {ws : List Slot} {ρ : Env} : setAll (i :: is) (w :: ws) ρ = (setSlot i w ρ).bind (setAll is ws) := Eq.trans rfl rfl
def parK (is : List Nat) : (List Slot × Env) → Option Out := fun p_ => (setAll is (p_.1) (p_.2)).bind nxK
theorem x_parK {is : List Nat} {ws : List Slot} {ρ : Env} : parK is (ws, ρ) = (setAll is ws ρ).bind nxK := Eq.trans rfl rfl
theorem x_par {is : List Nat} {hs : Hs} {ρ : Env} : sPar is hs ρ = (hs ρ).bind (parK is) := by unfold sPar parK nxK; simp only [Option.map_eq_bind]; rfl
def forA (g : G) (s : S) : (List D × Env) → Option Out := fun p_ => forGo g s (p_.1) (p_.2)
theorem x_forA {g : G} {s : S} {ds : List D} {ρ : Env} : forA g s (ds, ρ) = forGo g s ds ρ := Eq.trans rfl rfl
theorem x_for {it : I} {g : G} {s : S} {ρ : Env} : sFor it g s ρ = (it ρ).bind (forA g s) := Eq.trans rfl rfl
def itK (ρ : Env) : List D → Option (List D × Env) := fun ds => some (ds, ρ)
theorem x_itK {ρ : Env} {ds : List D} : itK ρ ds = some (ds, ρ) := Eq.trans rfl rfl
def iOfB  : (D × Env) → Option (List D × Env) := fun p_ => (itemsOf (p_.1)).bind (itK (p_.2))
theorem x_iOfB  {d : D} {ρ : Env} : iOfB  (d, ρ) = (itemsOf d).bind (itK ρ) := Eq.trans rfl rfl
def iOfA  : (Res × Env) → Option (List D × Env) := fun p_ => (share (p_.1) (p_.2)).bind iOfB
theorem x_iOfA  {r : Res} {ρ : Env} : iOfA  (r, ρ) = (share r ρ).bind iOfB := Eq.trans rfl rfl
theorem x_iOf {a : M} {ρ : Env} : iOf a ρ = (a ρ).bind iOfA := by unfold iOf iOfA iOfB itK; simp only [Option.map_eq_bind]; rfl
theorem x_itT {ds : List D} : itemsOf (.tuple ds) = some ds := Eq.trans rfl rfl
theorem x_itL {ds : List D} : itemsOf (.list ds) = some ds := Eq.trans rfl rfl
theorem x_itD {kvs : List (D × D)} : itemsOf (.dict kvs) = some (kvs.map (·.1)) := Eq.trans rfl rfl
def zipK  : (List D × Env) → Option (List D × Env) := fun p_ => (zipD (p_.1)).bind (itK (p_.2))
theorem x_zipK  {ds : List D} {ρ : Env} : zipK  (ds, ρ) = (zipD ds).bind (itK ρ) := Eq.trans rfl rfl
theorem x_iZip {as : Ds} {ρ : Env} : iZip as ρ = (as ρ).bind zipK := by unfold iZip zipK itK; simp only [Option.map_eq_bind]; rfl
theorem x_zipT {xs : List D} {ys : List D} : zipD [.tuple xs, .tuple ys] = some (pairs xs ys) := Eq.trans rfl rfl
theorem x_zipL {xs : List D} {ys : List D} : zipD [.list xs, .list ys] = some (pairs xs ys) := Eq.trans rfl rfl
def zipNK  : (List D × Env) → Option (List D × Env) := fun p_ => (zipDN (p_.1)).bind (itK (p_.2))
theorem x_zipNK  {ds : List D} {ρ : Env} : zipNK  (ds, ρ) = (zipDN ds).bind (itK ρ) := Eq.trans rfl rfl
theorem x_iZipN {as : Ds} {ρ : Env} : iZipN as ρ = (as ρ).bind zipNK := by unfold iZipN zipNK itK; simp only [Option.map_eq_bind]; rfl
theorem x_zipNT {xs : List D} {ys : List D} : zipDN [.tuple xs, .tuple ys] = some (pairs xs ys) := Eq.trans rfl rfl
def enumK  : (List D × Env) → Option (List D × Env) := fun p_ => (enumD (p_.1)).bind (itK (p_.2))
theorem x_enumK  {ds : List D} {ρ : Env} : enumK  (ds, ρ) = (enumD ds).bind (itK ρ) := Eq.trans rfl rfl
theorem x_iEnum {as : Ds} {ρ : Env} : iEnum as ρ = (as ρ).bind enumK := by unfold iEnum enumK itK; simp only [Option.map_eq_bind]; rfl
theorem x_enumT {xs : List D} : enumD [.tuple xs] = some (enumFrom 0 xs) := Eq.trans rfl rfl
theorem x_enumL {xs : List D} : enumD [.list xs] = some (enumFrom 0 xs) := Eq.trans rfl rfl
def rgC (ρ : Env) : (Int × Int) → Option (List D × Env) := fun p_ => if ((p_.2) - (p_.1)).toNat ≤ 16777216 then some (rangeD (p_.1) (p_.2), ρ) else none
theorem x_rgC {ρ : Env} {l : Int} {h : Int} : rgC ρ (l, h) = if (h - l).toNat ≤ 16777216 then some (rangeD l h, ρ) else none := Eq.trans rfl rfl
def rgB (f : List D → Option (Int × Int)) (ρ : Env) : List D → Option (List D × Env) := fun ds => (f ds).bind (rgC ρ)
theorem x_rgB {f : List D → Option (Int × Int)} {ρ : Env} {ds : List D} : rgB f ρ ds = (f ds).bind (rgC ρ) := Eq.trans rfl rfl
def rgA (f : List D → Option (Int × Int)) : (List Res × Env) → Option (List D × Env) := fun p_ => (getAll (p_.2) (p_.1)).bind (rgB f (p_.2))
theorem x_rgA {f : List D → Option (Int × Int)} {rs : List Res} {ρ : Env} : rgA f (rs, ρ) = (getAll ρ rs).bind (rgB f ρ) := Eq.trans rfl rfl
theorem x_iRange {f : List D → Option (Int × Int)} {ms : Ms} {ρ : Env} : iRange f ms ρ = (ms ρ).bind (rgA f) := Eq.trans rfl rfl
theorem x_range1 {j : Int} : range1 [.int j] = if small62 j = true then some (0, j) else none := Eq.trans rfl rfl
theorem x_range2 {i j : Int} : range2 [.int i, .int j] = if (small62 i && small62 j) = true then some (i, j) else none := Eq.trans rfl rfl
def compB (vs : List Nat) (old : Env) : (List D × Env) → Option (Res × Env) := fun p_ => some (.ow (.list (p_.1)), putBack old (p_.2) vs)
theorem x_compB {vs : List Nat} {old : Env} {ds : List D} {ρ : Env} : compB vs old (ds, ρ) = some (.ow (.list ds), putBack old ρ vs) := Eq.trans rfl rfl
def compA (vs : List Nat) (g : G) (t : T) (a : M) : (List D × Env) → Option (Res × Env) := fun p_ => (compGo vs g t a (p_.1) [] (wipeE (p_.2) vs)).bind (compB vs (p_.2))
theorem x_compA {vs : List Nat} {g : G} {t : T} {a : M} {ds : List D} {ρ : Env} : compA vs g t a (ds, ρ) = (compGo vs g t a ds [] (wipeE ρ vs)).bind (compB vs ρ) := Eq.trans rfl rfl
theorem x_comp {vs : List Nat} {it : I} {g : G} {t : T} {a : M} {ρ : Env} : eComp vs it g t a ρ = (it ρ).bind (compA vs g t a) := by unfold eComp compA compB; simp only [Option.map_eq_bind]; rfl
theorem x_wipe0 {ρ : Env} : wipeE ρ [] = ρ := Eq.trans rfl rfl
theorem x_wipe1 {ρ : Env} {i : Nat} {vs : List Nat} : wipeE ρ (i :: vs) = (wipeE ρ vs).set i .no := Eq.trans rfl rfl
theorem x_back0 {old : Env} {ρ : Env} : putBack old ρ [] = ρ := Eq.trans rfl rfl
theorem x_back1 {old : Env} {ρ : Env} {i : Nat} {vs : List Nat} : putBack old ρ (i :: vs) = (putBack old ρ vs).set i (old.getD i .no) := Eq.trans rfl rfl
theorem x_asNil {ρ : Env} : asNil ρ = some ([], ρ) := Eq.trans rfl rfl
def asC (d : D) : (List Arg × Env) → Option (List Arg × Env) := fun p_ => some (.sh d :: (p_.1), (p_.2))
theorem x_asC {d : D} {q : List Arg} {ρ : Env} : asC d (q, ρ) = some (.sh d :: q, ρ) := Eq.trans rfl rfl
def asB (ar : As) : (D × Env) → Option (List Arg × Env) := fun p_ => (ar (p_.2)).bind (asC (p_.1))
theorem x_asB {ar : As} {d : D} {ρ : Env} : asB ar (d, ρ) = (ar ρ).bind (asC d) := Eq.trans rfl rfl
def asA (ar : As) : (Res × Env) → Option (List Arg × Env) := fun p_ => (share (p_.1) (p_.2)).bind (asB ar)
theorem x_asA {ar : As} {r : Res} {ρ : Env} : asA ar (r, ρ) = (share r ρ).bind (asB ar) := Eq.trans rfl rfl
theorem x_asSh {a : M} {ar : As} {ρ : Env} : asSh a ar ρ = (a ρ).bind (asA ar) := Eq.trans rfl rfl
def abC (i : Nat) : (List Arg × Env) → Option (List Arg × Env) := fun p_ => some (.bor i :: (p_.1), (p_.2))
theorem x_abC {i : Nat} {q : List Arg} {ρ : Env} : abC i (q, ρ) = some (.bor i :: q, ρ) := Eq.trans rfl rfl
def abB (i : Nat) (ar : As) (ρ : Env) : D → Option (List Arg × Env) := fun d => (ar ρ).bind (abC i)
theorem x_abB {i : Nat} {ar : As} {ρ : Env} {d : D} : abB i ar ρ d = (ar ρ).bind (abC i) := Eq.trans rfl rfl
theorem x_asBo {i : Nat} {ar : As} {ρ : Env} : asBo i ar ρ = (ρ[i]?.bind Slot.own).bind (abB i ar ρ) := Eq.trans rfl rfl
theorem x_bors0  : bors [] = [] := Eq.trans rfl rfl
theorem x_borsS {d : D} {args : List Arg} : bors (.sh d :: args) = bors args := Eq.trans rfl rfl
theorem x_borsB {i : Nat} {args : List Arg} : bors (.bor i :: args) = i :: bors args := Eq.trans rfl rfl
def argV : Option Slot → Option Slot
  | some (.ow d) => some (.bo d)
  | some (.bo d) => some (.bo d)
  | some (.gh d) => some (.gh d)
  | _ => none
theorem x_argS {ρ : Env} {d : D} : argSlot ρ (.sh d) = some (.sh d) := Eq.trans rfl rfl
theorem x_argB {ρ : Env} {i : Nat} : argSlot ρ (.bor i) = argV ρ[i]? := by unfold argSlot argV; rfl
theorem x_argVO {d : D} : argV (some (.ow d)) = some (.bo d) := Eq.trans rfl rfl
theorem x_argVB {d : D} : argV (some (.bo d)) = some (.bo d) := Eq.trans rfl rfl
theorem x_argVG {d : D} : argV (some (.gh d)) = some (.gh d) := Eq.trans rfl rfl
theorem x_args0 {ρ : Env} : argSlots ρ [] = some [] := Eq.trans rfl rfl
def arC (s : Slot) : List Slot → Option (List Slot) := fun rs => some (s :: rs)
theorem x_arC {s : Slot} {rs : List Slot} : arC s rs = some (s :: rs) := Eq.trans rfl rfl
def arB (ρ : Env) (args : List Arg) : Slot → Option (List Slot) := fun s => (argSlots ρ args).bind (arC s)
theorem x_arB {ρ : Env} {args : List Arg} {s : Slot} : arB ρ args s = (argSlots ρ args).bind (arC s) := Eq.trans rfl rfl
theorem x_args1 {ρ : Env} {w : Arg} {args : List Arg} : argSlots ρ (w :: args) = (argSlot ρ w).bind (arB ρ args) := Eq.trans rfl rfl
def backV (i : Nat) (ρ : Env) : Option Slot → Slot → Option Env
  | some (.ow _), .bo d => some (ρ.set i (.ow d))
  | some (.bo _), .bo d => some (ρ.set i (.bo d))
  | some (.gh _), .gh d => some (ρ.set i (.gh d))
  | _, _ => none
theorem x_backSlot {i : Nat} {w : Slot} {ρ : Env} : backSlot i w ρ = backV i ρ ρ[i]? w := by unfold backSlot backV; rfl
theorem x_backVO {i : Nat} {ρ : Env} {d : D} {e : D} : backV i ρ (some (.ow d)) (.bo e) = some (ρ.set i (.ow e)) := Eq.trans rfl rfl
theorem x_backVB {i : Nat} {ρ : Env} {d : D} {e : D} : backV i ρ (some (.bo d)) (.bo e) = some (ρ.set i (.bo e)) := Eq.trans rfl rfl
theorem x_backVG {i : Nat} {ρ : Env} {d : D} {e : D} : backV i ρ (some (.gh d)) (.gh e) = some (ρ.set i (.gh e)) := Eq.trans rfl rfl
theorem x_backA0 {ρ : Env} : backAll [] [] ρ = some ρ := Eq.trans rfl rfl
theorem x_backAS {d : D} {w : Slot} {args : List Arg} {ws : List Slot} {ρ : Env} : backAll (.sh d :: args) (w :: ws) ρ = backAll args ws ρ := Eq.trans rfl rfl
theorem x_backAB {i : Nat} {w : Slot} {args : List Arg} {ws : List Slot} {ρ : Env} : backAll (.bor i :: args) (w :: ws) ρ = (backSlot i w ρ).bind (backAll args ws) := Eq.trans rfl rfl
def caD (r : Res) : Env → Option (Res × Env) := fun ρ => some (r, ρ)
theorem x_caD {r : Res} {ρ : Env} : caD r ρ = some (r, ρ) := Eq.trans rfl rfl
def caC (args : List Arg) (ρ : Env) : (Res × List Slot) → Option (Res × Env) := fun p_ => (backAll args (p_.2) ρ).bind (caD (p_.1))
theorem x_caC {args : List Arg} {ρ : Env} {r : Res} {ts : List Slot} : caC args ρ (r, ts) = (backAll args ts ρ).bind (caD r) := Eq.trans rfl rfl
def caB (F : Fn) (args : List Arg) (ρ : Env) : List Slot → Option (Res × Env) := fun ss => (F ss).bind (caC args ρ)
theorem x_caB {F : Fn} {args : List Arg} {ρ : Env} {ss : List Slot} : caB F args ρ ss = (F ss).bind (caC args ρ) := Eq.trans rfl rfl
def caA (F : Fn) : (List Arg × Env) → Option (Res × Env) := fun p_ => if (bors (p_.1)).Nodup then (argSlots (p_.2) (p_.1)).bind (caB F (p_.1) (p_.2)) else none
theorem x_caA {F : Fn} {args : List Arg} {ρ : Env} : caA F (args, ρ) = if (bors args).Nodup then (argSlots ρ args).bind (caB F args ρ) else none := Eq.trans rfl rfl
theorem x_call {F : Fn} {ar : As} {ρ : Env} : eCall F ar ρ = (ar ρ).bind (caA F) := by unfold eCall caA caB caC caD; simp only [Option.map_eq_bind]; rfl
def outF (ss : List Slot) : Out → Option (Res × List Slot)
  | .rt (.sh d) ρ => some (.sh d, finSlots ss ρ)
  | .rt (.ow d) ρ => some (.ow d, finSlots ss ρ)
  | .rt (.tx p d) ρ => some (.tx p d, finSlots ss ρ)
  | .nx ρ => some (.sh .none, finSlots ss ρ)
  | _ => none
theorem x_fn {n : Nat} {s : S} {ss : List Slot} : fnOfBody n s ss = (s (ss ++ List.replicate (n - ss.length) .no)).bind (outF ss) := by unfold fnOfBody outF; rfl
theorem x_outX {ss : List Slot} {p : Pt} {d : D} {ρ : Env} : outF ss (.rt (.tx p d) ρ) = some (.tx p d, finSlots ss ρ) := Eq.trans rfl rfl
theorem x_outS {ss : List Slot} {d : D} {ρ : Env} : outF ss (.rt (.sh d) ρ) = some (.sh d, finSlots ss ρ) := Eq.trans rfl rfl
theorem x_outO {ss : List Slot} {d : D} {ρ : Env} : outF ss (.rt (.ow d) ρ) = some (.ow d, finSlots ss ρ) := Eq.trans rfl rfl
theorem x_outN {ss : List Slot} {ρ : Env} : outF ss (.nx ρ) = some (.sh .none, finSlots ss ρ) := Eq.trans rfl rfl
theorem x_fin1 {d : D} {ss : List Slot} {t : Slot} {ρ : Pu.Env} : finSlots (.sh d :: ss) (t :: ρ) = .sh d :: finSlots ss ρ := by simp [finSlots]
theorem x_fin2 {d : D} {ss : List Slot} {t : Slot} {ρ : Pu.Env} : finSlots (.bo d :: ss) (t :: ρ) = t :: finSlots ss ρ := by simp [finSlots]
theorem x_fin3 {d : D} {ss : List Slot} {t : Slot} {ρ : Pu.Env} : finSlots (.gh d :: ss) (t :: ρ) = t :: finSlots ss ρ := by simp [finSlots]
theorem x_fin0 {ρ : Pu.Env} : finSlots [] ρ = [] := by cases ρ <;> simp [finSlots]
def listO : Option D → Option (List D)
  | some (.list xs) => some xs
  | _ => none
def dictO : Option D → Option (List (D × D))
  | some (.dict xs) => some xs
  | _ => none
theorem x_ownList {i : Nat} {ρ : Env} : ownList i ρ = listO (ρ[i]?.bind Slot.own) := by unfold ownList ownAt listO; rfl
theorem x_ownDict {i : Nat} {ρ : Env} : ownDict i ρ = dictO (ρ[i]?.bind Slot.own) := by unfold ownDict ownAt dictO; rfl
theorem x_slotDict {i : Nat} {ρ : Env} : slotDict i ρ = dictO (ρ[i]?.bind Slot.val) := by unfold slotDict dictO; rfl
theorem x_listO {xs : List D} : listO (some (.list xs)) = some xs := Eq.trans rfl rfl
theorem x_dictO {xs : List (D × D)} : dictO (some (.dict xs)) = some xs := Eq.trans rfl rfl
def updV (i : Nat) (d : D) (ρ : Env) : Option Slot → Option Env
  | some (.ow _) => some (ρ.set i (.ow d))
  | some (.bo _) => some (ρ.set i (.bo d))
  | _ => none
theorem x_upd {i : Nat} {d : D} {ρ : Env} : updSlot i d ρ = updV i d ρ ρ[i]? := by unfold updSlot updV; rfl
theorem x_updO {i : Nat} {d : D} {ρ : Env} {e : D} : updV i d ρ (some (.ow e)) = some (ρ.set i (.ow d)) := Eq.trans rfl rfl
theorem x_updB {i : Nat} {d : D} {ρ : Env} {e : D} : updV i d ρ (some (.bo e)) = some (ρ.set i (.bo d)) := Eq.trans rfl rfl
def apE  : Env → Option (Res × Env) := fun ρ => some (.sh .none, ρ)
theorem x_apE  {ρ : Env} : apE  ρ = some (.sh .none, ρ) := Eq.trans rfl rfl
def apD (i : Nat) (d : D) (ρ : Env) : List D → Option (Res × Env) := fun xs => if xs.length < 16777216 then (updSlot i (.list (xs ++ [d])) ρ).bind apE else none
theorem x_apD {i : Nat} {d : D} {ρ : Env} {xs : List D} : apD i d ρ xs = if xs.length < 16777216 then (updSlot i (.list (xs ++ [d])) ρ).bind apE else none := Eq.trans rfl rfl
def apC (i : Nat) : (D × Env) → Option (Res × Env) := fun p_ => (ownList i (p_.2)).bind (apD i (p_.1) (p_.2))
theorem x_apC {i : Nat} {d : D} {ρ : Env} : apC i (d, ρ) = (ownList i ρ).bind (apD i d ρ) := Eq.trans rfl rfl
def apB (i : Nat) : (Res × Env) → Option (Res × Env) := fun p_ => (share (p_.1) (p_.2)).bind (apC i)
theorem x_apB {i : Nat} {r : Res} {ρ : Env} : apB i (r, ρ) = (share r ρ).bind (apC i) := Eq.trans rfl rfl
def apA (i : Nat) (a : M) (ρ : Env) : List D → Option (Res × Env) := fun l => (a ρ).bind (apB i)
theorem x_apA {i : Nat} {a : M} {ρ : Env} {l : List D} : apA i a ρ l = (a ρ).bind (apB i) := Eq.trans rfl rfl
theorem x_append {i : Nat} {a : M} {ρ : Env} : eAppend i a ρ = (ownList i ρ).bind (apA i a ρ) := by unfold eAppend apA apB apC apD apE; simp only [Option.map_eq_bind]; rfl
theorem x_newList {ys : List D} : Pu.newList (.ow (.list ys)) = some ys := Eq.trans rfl rfl
def exD (i : Nat) (ys : List D) (ρ : Env) : List D → Option (Res × Env) := fun xs => if xs.length + ys.length ≤ 16777216 then (updSlot i (.list (xs ++ ys)) ρ).bind apE else none
theorem x_exD {i : Nat} {ys : List D} {ρ : Env} {xs : List D} : exD i ys ρ xs = if xs.length + ys.length ≤ 16777216 then (updSlot i (.list (xs ++ ys)) ρ).bind apE else none := Eq.trans rfl rfl
def exC (i : Nat) (ρ : Env) : List D → Option (Res × Env) := fun ys => (ownList i ρ).bind (exD i ys ρ)
theorem x_exC {i : Nat} {ρ : Env} {ys : List D} : exC i ρ ys = (ownList i ρ).bind (exD i ys ρ) := Eq.trans rfl rfl
def exB (i : Nat) : (Res × Env) → Option (Res × Env) := fun p_ => (Pu.newList (p_.1)).bind (exC i (p_.2))
theorem x_exB {i : Nat} {r : Res} {ρ : Env} : exB i (r, ρ) = (Pu.newList r).bind (exC i ρ) := Eq.trans rfl rfl
def exA (i : Nat) (a : M) (ρ : Env) : List D → Option (Res × Env) := fun l => (a ρ).bind (exB i)
theorem x_exA {i : Nat} {a : M} {ρ : Env} {l : List D} : exA i a ρ l = (a ρ).bind (exB i) := Eq.trans rfl rfl
theorem x_extend {i : Nat} {a : M} {ρ : Env} : eExtend i a ρ = (ownList i ρ).bind (exA i a ρ) := by unfold eExtend exA exB exC exD apE; simp only [Option.map_eq_bind]; rfl
def ppC (y : D) : Env → Option (Res × Env) := fun ρ => some (.sh y, ρ)
theorem x_ppC {y : D} {ρ : Env} : ppC y ρ = some (.sh y, ρ) := Eq.trans rfl rfl
def ppB (i : Nat) (ρ : Env) (xs : List D) : D → Option (Res × Env) := fun y => (updSlot i (.list xs.dropLast) ρ).bind (ppC y)
theorem x_ppB {i : Nat} {ρ : Env} {xs : List D} {y : D} : ppB i ρ xs y = (updSlot i (.list xs.dropLast) ρ).bind (ppC y) := Eq.trans rfl rfl
def ppA (i : Nat) (ρ : Env) : List D → Option (Res × Env) := fun xs => (xs[xs.length - 1]?).bind (ppB i ρ xs)
theorem x_ppA {i : Nat} {ρ : Env} {xs : List D} : ppA i ρ xs = (xs[xs.length - 1]?).bind (ppB i ρ xs) := Eq.trans rfl rfl
theorem x_pop {i : Nat} {ρ : Env} : ePop i ρ = (ownList i ρ).bind (ppA i ρ) := by unfold ePop ppA ppB ppC; simp only [Option.map_eq_bind]; rfl
def paE (i : Nat) (k : Int) (xs : List D) (ρ : Env) : D → Option (Res × Env) := fun y => (updSlot i (.list (xs.eraseIdx k.toNat)) ρ).bind (ppC y)
theorem x_paE {i : Nat} {k : Int} {xs : List D} {ρ : Env} {y : D} : paE i k xs ρ y = (updSlot i (.list (xs.eraseIdx k.toNat)) ρ).bind (ppC y) := Eq.trans rfl rfl
def paD (i : Nat) (k : Int) (ρ : Env) : List D → Option (Res × Env) := fun xs => if 0 ≤ k ∧ k < (xs.length : Nat) ∧ k < 2 ^ 62 then (xs[k.toNat]?).bind (paE i k xs ρ) else none
theorem x_paD {i : Nat} {k : Int} {ρ : Env} {xs : List D} : paD i k ρ xs = if 0 ≤ k ∧ k < (xs.length : Nat) ∧ k < 2 ^ 62 then (xs[k.toNat]?).bind (paE i k xs ρ) else none := Eq.trans rfl rfl
def paC (i : Nat) (ρ : Env) : Int → Option (Res × Env) := fun k => (ownList i ρ).bind (paD i k ρ)
theorem x_paC {i : Nat} {ρ : Env} {k : Int} : paC i ρ k = (ownList i ρ).bind (paD i k ρ) := Eq.trans rfl rfl
def paB2 (i : Nat) (ρ : Env) : D → Option (Res × Env) := fun d => (intOf d).bind (paC i ρ)
theorem x_paB2 {i : Nat} {ρ : Env} {d : D} : paB2 i ρ d = (intOf d).bind (paC i ρ) := Eq.trans rfl rfl
def paB (i : Nat) : (Res × Env) → Option (Res × Env) := fun p_ => ((p_.1).get (p_.2)).bind (paB2 i (p_.2))
theorem x_paB {i : Nat} {r : Res} {ρ : Env} : paB i (r, ρ) = (r.get ρ).bind (paB2 i ρ) := Eq.trans rfl rfl
def paA (i : Nat) (a : M) (ρ : Env) : List D → Option (Res × Env) := fun l => (a ρ).bind (paB i)
theorem x_paA {i : Nat} {a : M} {ρ : Env} {l : List D} : paA i a ρ l = (a ρ).bind (paB i) := Eq.trans rfl rfl
theorem x_popAt {i : Nat} {a : M} {ρ : Env} : ePopAt i a ρ = (ownList i ρ).bind (paA i a ρ) := by unfold ePopAt paA paB paB2 paC paD paE ppC; simp only [Option.map_eq_bind]; rfl
theorem x_intOf {k : Int} : intOf (.int k) = some k := Eq.trans rfl rfl
def ptF (i : Nat) (v : D) (k : D) (ρ : Env) : List (D × D) → Option Out := fun kvs => if dPutOk kvs k = true then (updSlot i (.dict (dPut kvs k v)) ρ).bind nxK else none
theorem x_ptF {i : Nat} {v : D} {k : D} {ρ : Env} {kvs : List (D × D)} : ptF i v k ρ kvs = if dPutOk kvs k = true then (updSlot i (.dict (dPut kvs k v)) ρ).bind nxK else none := Eq.trans rfl rfl
def ptE (i : Nat) (v : D) : (D × Env) → Option Out := fun p_ => (ownDict i (p_.2)).bind (ptF i v (p_.1) (p_.2))
theorem x_ptE {i : Nat} {v : D} {k : D} {ρ : Env} : ptE i v (k, ρ) = (ownDict i ρ).bind (ptF i v k ρ) := Eq.trans rfl rfl
def ptD (i : Nat) (v : D) : (Res × Env) → Option Out := fun p_ => (share (p_.1) (p_.2)).bind (ptE i v)
theorem x_ptD {i : Nat} {v : D} {r : Res} {ρ : Env} : ptD i v (r, ρ) = (share r ρ).bind (ptE i v) := Eq.trans rfl rfl
def ptC (i : Nat) (k : M) (v : D) (ρ : Env) : List (D × D) → Option Out := fun kvs => (k ρ).bind (ptD i v)
theorem x_ptC {i : Nat} {k : M} {v : D} {ρ : Env} {kvs : List (D × D)} : ptC i k v ρ kvs = (k ρ).bind (ptD i v) := Eq.trans rfl rfl
def ptB (i : Nat) (k : M) : (D × Env) → Option Out := fun p_ => (ownDict i (p_.2)).bind (ptC i k (p_.1) (p_.2))
theorem x_ptB {i : Nat} {k : M} {v : D} {ρ : Env} : ptB i k (v, ρ) = (ownDict i ρ).bind (ptC i k v ρ) := Eq.trans rfl rfl
def ptA (i : Nat) (k : M) : (Res × Env) → Option Out := fun p_ => (share (p_.1) (p_.2)).bind (ptB i k)
theorem x_ptA {i : Nat} {k : M} {r : Res} {ρ : Env} : ptA i k (r, ρ) = (share r ρ).bind (ptB i k) := Eq.trans rfl rfl
theorem x_put {i : Nat} {a : M} {k : M} {ρ : Env} : sPut i a k ρ = (a ρ).bind (ptA i k) := by unfold sPut ptA ptB ptC ptD ptE ptF nxK; simp only [Option.map_eq_bind]; rfl
def plG (i : Nat) (v : D) (xs : List D) (ρ : Env) : Nat → Option Out := fun n => (updSlot i (.list (xs.set n v)) ρ).bind nxK
theorem x_plG {i : Nat} {v : D} {xs : List D} {ρ : Env} {n : Nat} : plG i v xs ρ n = (updSlot i (.list (xs.set n v)) ρ).bind nxK := Eq.trans rfl rfl
def plF (i : Nat) (v : D) (j : Int) (ρ : Env) : List D → Option Out := fun xs => (ixD xs.length j).bind (plG i v xs ρ)
theorem x_plF {i : Nat} {v : D} {j : Int} {ρ : Env} {xs : List D} : plF i v j ρ xs = (ixD xs.length j).bind (plG i v xs ρ) := Eq.trans rfl rfl
def plE (i : Nat) (v : D) (ρ : Env) : Int → Option Out := fun j => (ownList i ρ).bind (plF i v j ρ)
theorem x_plE {i : Nat} {v : D} {ρ : Env} {j : Int} : plE i v ρ j = (ownList i ρ).bind (plF i v j ρ) := Eq.trans rfl rfl
def plD (i : Nat) (v : D) (ρ : Env) : D → Option Out := fun d => (intOf d).bind (plE i v ρ)
theorem x_plD {i : Nat} {v : D} {ρ : Env} {d : D} : plD i v ρ d = (intOf d).bind (plE i v ρ) := Eq.trans rfl rfl
def plC (i : Nat) (v : D) : (Res × Env) → Option Out := fun p_ => ((p_.1).get (p_.2)).bind (plD i v (p_.2))
theorem x_plC {i : Nat} {v : D} {r : Res} {ρ : Env} : plC i v (r, ρ) = (r.get ρ).bind (plD i v ρ) := Eq.trans rfl rfl
def plB2 (i : Nat) (k : M) (v : D) (ρ : Env) : List D → Option Out := fun l => (k ρ).bind (plC i v)
theorem x_plB2 {i : Nat} {k : M} {v : D} {ρ : Env} {l : List D} : plB2 i k v ρ l = (k ρ).bind (plC i v) := Eq.trans rfl rfl
def plB (i : Nat) (k : M) : (D × Env) → Option Out := fun p_ => (ownList i (p_.2)).bind (plB2 i k (p_.1) (p_.2))
theorem x_plB {i : Nat} {k : M} {v : D} {ρ : Env} : plB i k (v, ρ) = (ownList i ρ).bind (plB2 i k v ρ) := Eq.trans rfl rfl
def plA (i : Nat) (k : M) : (Res × Env) → Option Out := fun p_ => (share (p_.1) (p_.2)).bind (plB i k)
theorem x_plA {i : Nat} {k : M} {r : Res} {ρ : Env} : plA i k (r, ρ) = (share r ρ).bind (plB i k) := Eq.trans rfl rfl
theorem x_putL {i : Nat} {a : M} {k : M} {ρ : Env} : sPutL i a k ρ = (a ρ).bind (plA i k) := by unfold sPutL plA plB plB2 plC plD plE plF plG nxK; simp only [Option.map_eq_bind]; rfl
def adH (i : Nat) (k : D) (v : Int) (ρ : Env) : List (D × D) → Option Out := fun kvs => if ((kvs.all fun q => isTupKey q.1) && decide (kvs.length < 16777216)) = true then (updSlot i (.dict (dPut kvs k (.int v))) ρ).bind nxK else none
theorem x_adH {i : Nat} {k : D} {v : Int} {ρ : Env} {kvs : List (D × D)} : adH i k v ρ kvs = if ((kvs.all fun q => isTupKey q.1) && decide (kvs.length < 16777216)) = true then (updSlot i (.dict (dPut kvs k (.int v))) ρ).bind nxK else none := Eq.trans rfl rfl
def adG (i : Nat) (k : D) (x : Int) (ρ : Env) : Int → Option Out := fun y => (ownDict i ρ).bind (adH i k (x + y) ρ)
theorem x_adG {i : Nat} {k : D} {x : Int} {ρ : Env} {y : Int} : adG i k x ρ y = (ownDict i ρ).bind (adH i k (x + y) ρ) := Eq.trans rfl rfl
def adF2 (i : Nat) (k : D) (x : Int) : (D × Env) → Option Out := fun p_ => (intOf (p_.1)).bind (adG i k x (p_.2))
theorem x_adF2 {i : Nat} {k : D} {x : Int} {d : D} {ρ : Env} : adF2 i k x (d, ρ) = (intOf d).bind (adG i k x ρ) := Eq.trans rfl rfl
def adF (i : Nat) (k : D) (x : Int) : (Res × Env) → Option Out := fun p_ => (share (p_.1) (p_.2)).bind (adF2 i k x)
theorem x_adF {i : Nat} {k : D} {x : Int} {r : Res} {ρ : Env} : adF i k x (r, ρ) = (share r ρ).bind (adF2 i k x) := Eq.trans rfl rfl
def adE (i : Nat) (a : M) (k : D) (ρ : Env) : Int → Option Out := fun x => (a ρ).bind (adF i k x)
theorem x_adE {i : Nat} {a : M} {k : D} {ρ : Env} {x : Int} : adE i a k ρ x = (a ρ).bind (adF i k x) := Eq.trans rfl rfl
def adD2 (i : Nat) (a : M) (k : D) (ρ : Env) : D → Option Out := fun d => (intOf d).bind (adE i a k ρ)
theorem x_adD2 {i : Nat} {a : M} {k : D} {ρ : Env} {d : D} : adD2 i a k ρ d = (intOf d).bind (adE i a k ρ) := Eq.trans rfl rfl
def adD (i : Nat) (a : M) (k : D) (ρ : Env) : List (D × D) → Option Out := fun kvs => if (isTupKey k && kvs.all fun q => isTupKey q.1) = true then (dFind kvs k).bind (adD2 i a k ρ) else none
theorem x_adD {i : Nat} {a : M} {k : D} {ρ : Env} {kvs : List (D × D)} : adD i a k ρ kvs = if (isTupKey k && kvs.all fun q => isTupKey q.1) = true then (dFind kvs k).bind (adD2 i a k ρ) else none := Eq.trans rfl rfl
def adC (i : Nat) (a : M) : (D × Env) → Option Out := fun p_ => (ownDict i (p_.2)).bind (adD i a (p_.1) (p_.2))
theorem x_adC {i : Nat} {a : M} {k : D} {ρ : Env} : adC i a (k, ρ) = (ownDict i ρ).bind (adD i a k ρ) := Eq.trans rfl rfl
def adB (i : Nat) (a : M) : (Res × Env) → Option Out := fun p_ => (share (p_.1) (p_.2)).bind (adC i a)
theorem x_adB {i : Nat} {a : M} {r : Res} {ρ : Env} : adB i a (r, ρ) = (share r ρ).bind (adC i a) := Eq.trans rfl rfl
def adA (i : Nat) (k : M) (a : M) (ρ : Env) : List (D × D) → Option Out := fun l => (k ρ).bind (adB i a)
theorem x_adA {i : Nat} {k : M} {a : M} {ρ : Env} {l : List (D × D)} : adA i k a ρ l = (k ρ).bind (adB i a) := Eq.trans rfl rfl
theorem x_augD {i : Nat} {k : M} {a : M} {ρ : Env} : sAugD i k a ρ = (ownDict i ρ).bind (adA i k a ρ) := by unfold sAugD adA adB adC adD adD2 adE adF adF2 adG adH nxK; simp only [Option.map_eq_bind]; rfl
def gtF (k : D) (x : D) (ρ : Env) : List (D × D) → Option (Res × Env) := fun kvs => if dAsk kvs k = true then some (.sh ((dFind kvs k).getD x), ρ) else none
theorem x_gtF {k : D} {x : D} {ρ : Env} {kvs : List (D × D)} : gtF k x ρ kvs = if dAsk kvs k = true then some (.sh ((dFind kvs k).getD x), ρ) else none := Eq.trans rfl rfl
def gtE (i : Nat) (k : D) : (D × Env) → Option (Res × Env) := fun p_ => (slotDict i (p_.2)).bind (gtF k (p_.1) (p_.2))
theorem x_gtE {i : Nat} {k : D} {x : D} {ρ : Env} : gtE i k (x, ρ) = (slotDict i ρ).bind (gtF k x ρ) := Eq.trans rfl rfl
def gtD (i : Nat) (k : D) : (Res × Env) → Option (Res × Env) := fun p_ => (share (p_.1) (p_.2)).bind (gtE i k)
theorem x_gtD {i : Nat} {k : D} {r : Res} {ρ : Env} : gtD i k (r, ρ) = (share r ρ).bind (gtE i k) := Eq.trans rfl rfl
def gtC (i : Nat) (a : M) : (D × Env) → Option (Res × Env) := fun p_ => (a (p_.2)).bind (gtD i (p_.1))
theorem x_gtC {i : Nat} {a : M} {k : D} {ρ : Env} : gtC i a (k, ρ) = (a ρ).bind (gtD i k) := Eq.trans rfl rfl
def gtB (i : Nat) (a : M) : (Res × Env) → Option (Res × Env) := fun p_ => (share (p_.1) (p_.2)).bind (gtC i a)
theorem x_gtB {i : Nat} {a : M} {r : Res} {ρ : Env} : gtB i a (r, ρ) = (share r ρ).bind (gtC i a) := Eq.trans rfl rfl
def gtA (i : Nat) (k : M) (a : M) (ρ : Env) : List (D × D) → Option (Res × Env) := fun l => (k ρ).bind (gtB i a)
theorem x_gtA {i : Nat} {k : M} {a : M} {ρ : Env} {l : List (D × D)} : gtA i k a ρ l = (k ρ).bind (gtB i a) := Eq.trans rfl rfl
theorem x_get {i : Nat} {k : M} {a : M} {ρ : Env} : eGet i k a ρ = (slotDict i ρ).bind (gtA i k a ρ) := by unfold eGet gtA gtB gtC gtD gtE gtF; rfl
def pkF (i : Nat) (k : D) (kvs : List (D × D)) (ρ : Env) : D → Option (Res × Env) := fun v => (updSlot i (.dict (dDrop kvs k)) ρ).bind (ppC v)
theorem x_pkF {i : Nat} {k : D} {kvs : List (D × D)} {ρ : Env} {v : D} : pkF i k kvs ρ v = (updSlot i (.dict (dDrop kvs k)) ρ).bind (ppC v) := Eq.trans rfl rfl
def pkE (i : Nat) (k : D) (ρ : Env) : List (D × D) → Option (Res × Env) := fun kvs => if (isTupKey k && kvs.all (fun q => isTupKey q.1)) = true then (dFind kvs k).bind (pkF i k kvs ρ) else none
theorem x_pkE {i : Nat} {k : D} {ρ : Env} {kvs : List (D × D)} : pkE i k ρ kvs = if (isTupKey k && kvs.all (fun q => isTupKey q.1)) = true then (dFind kvs k).bind (pkF i k kvs ρ) else none := Eq.trans rfl rfl
def pkD (i : Nat) : (D × Env) → Option (Res × Env) := fun p_ => (ownDict i (p_.2)).bind (pkE i (p_.1) (p_.2))
theorem x_pkD {i : Nat} {k : D} {ρ : Env} : pkD i (k, ρ) = (ownDict i ρ).bind (pkE i k ρ) := Eq.trans rfl rfl
def pkC (i : Nat) : (Res × Env) → Option (Res × Env) := fun p_ => (share (p_.1) (p_.2)).bind (pkD i)
theorem x_pkC {i : Nat} {r : Res} {ρ : Env} : pkC i (r, ρ) = (share r ρ).bind (pkD i) := Eq.trans rfl rfl
def pkA (i : Nat) (k : M) (ρ : Env) : List (D × D) → Option (Res × Env) := fun l => (k ρ).bind (pkC i)
theorem x_pkA {i : Nat} {k : M} {ρ : Env} {l : List (D × D)} : pkA i k ρ l = (k ρ).bind (pkC i) := Eq.trans rfl rfl
theorem x_popKey {i : Nat} {k : M} {ρ : Env} : ePopKey i k ρ = (ownDict i ρ).bind (pkA i k ρ) := by unfold ePopKey pkA pkC pkD pkE pkF ppC; simp only [Option.map_eq_bind]; rfl
def rgL  : (List D × Env) → Option (Res × Env) := fun p_ => some (.ow (.list (p_.1)), (p_.2))
theorem x_rgL  {ds : List D} {ρ : Env} : rgL  (ds, ρ) = some (.ow (.list ds), ρ) := Eq.trans rfl rfl
theorem x_listRg {it : I} {ρ : Env} : eListRg it ρ = (it ρ).bind rgL := by unfold eListRg rgL; simp only [Option.map_eq_bind]; rfl
def rgT  : (List D × Env) → Option (Res × Env) := fun p_ => some (.sh (.tuple (p_.1)), (p_.2))
theorem x_rgT  {ds : List D} {ρ : Env} : rgT  (ds, ρ) = some (.sh (.tuple ds), ρ) := Eq.trans rfl rfl
theorem x_tupRg {it : I} {ρ : Env} : eTupRg it ρ = (it ρ).bind rgT := by unfold eTupRg rgT; simp only [Option.map_eq_bind]; rfl
def zip3K  : (List D × Env) → Option (List D × Env) := fun p_ => (zipD3 (p_.1)).bind (itK (p_.2))
theorem x_zip3K  {ds : List D} {ρ : Env} : zip3K  (ds, ρ) = (zipD3 ds).bind (itK ρ) := Eq.trans rfl rfl
theorem x_iZip3 {as : Ds} {ρ : Env} : iZip3 as ρ = (as ρ).bind zip3K := by unfold iZip3 zip3K itK; simp only [Option.map_eq_bind]; rfl
theorem x_zip3T {xs : List D} {ys : List D} {zs : List D} : zipD3 [.tuple xs, .tuple ys, .tuple zs] = some (triples xs ys zs) := Eq.trans rfl rfl
theorem x_listZip3 {as : Ds} {ρ : Env} : eListZip3 as ρ = (iZip3 as ρ).bind rgL := by unfold eListZip3 rgL; simp only [Option.map_eq_bind]; rfl
theorem x_repC {xs : List D} {k : Int} {ρ : Env} : repC xs ρ (.int k) = if (decide (0 ≤ k) && decide (k ≤ 1000) && decide (xs.length ≤ 1000)) = true then some (.ow (.list (List.replicate k.toNat xs).flatten), ρ) else none := Eq.trans rfl rfl
def repB (xs : List D) : (Res × Env) → Option (Res × Env) := fun p_ => ((p_.1).get (p_.2)).bind (repC xs (p_.2))
theorem x_repB {xs : List D} {r : Res} {ρ : Env} : repB xs (r, ρ) = (r.get ρ).bind (repC xs ρ) := Eq.trans rfl rfl
theorem x_repA {b : M} {xs : List D} {ρ : Env} : repA b (.ow (.list xs), ρ) = (b ρ).bind (repB xs) := Eq.trans rfl rfl
theorem x_eRepL {a : M} {b : M} {ρ : Env} : eRepL a b ρ = (a ρ).bind (repA b) := Eq.trans rfl rfl
def listV : Option D → Option (List D)
  | some (.list xs) => some xs
  | _ => none
def idxG (i : Nat) (g : M) (ρ : Env) : List D → Option (Res × Env) := fun _ => (g ρ).bind (idxA i)
theorem x_listV {xs : List D} : listV (some (.list xs)) = some xs := Eq.trans rfl rfl
theorem x_listAt {i : Nat} {ρ : Env} : listAt i ρ = listV ((Res.var i).get ρ) := by unfold listAt listV; cases (Res.var i).get ρ with | none => rfl | some d => cases d <;> rfl
theorem x_idxG {i : Nat} {g : M} {ρ : Env} {xs : List D} : idxG i g ρ xs = (g ρ).bind (idxA i) := Eq.trans rfl rfl
theorem x_idxA {i : Nat} {r : Res} {ρ : Env} : idxA i (r, ρ) = (share r ρ).bind (idxB i) := Eq.trans rfl rfl
theorem x_idxB {i : Nat} {d : D} {ρ : Env} : idxB i (d, ρ) = (listAt i ρ).bind (idxC d ρ) := Eq.trans rfl rfl
theorem x_eIndexL {i : Nat} {g : M} {ρ : Env} : eIndexL i g ρ = (listAt i ρ).bind (idxG i g ρ) := Eq.trans rfl rfl
def noneK  : Env → Option (Res × Env) := fun ρ => some (.sh .none, ρ)
theorem x_noneK  {ρ : Env} : noneK  ρ = some (.sh .none, ρ) := Eq.trans rfl rfl
theorem x_exvC {i : Nat} {ρ : Env} {ys : List D} {xs : List D} : exvC i ρ ys xs = if xs.length + ys.length ≤ 16777216 then (updSlot i (.list (xs ++ ys)) ρ).bind noneK else none := by unfold exvC noneK; simp only [Option.map_eq_bind]; rfl
theorem x_exvB {i : Nat} {ys : List D} {ρ : Env} : exvB i (.list ys, ρ) = (ownList i ρ).bind (exvC i ρ ys) := Eq.trans rfl rfl
theorem x_exvA {i : Nat} {r : Res} {ρ : Env} : exvA i (r, ρ) = (share r ρ).bind (exvB i) := Eq.trans rfl rfl
def exvG (i : Nat) (a : M) (ρ : Env) : List D → Option (Res × Env) := fun _ => (a ρ).bind (exvA i)
theorem x_exvG {i : Nat} {a : M} {ρ : Env} {xs : List D} : exvG i a ρ xs = (a ρ).bind (exvA i) := Eq.trans rfl rfl
theorem x_eExtendV {i : Nat} {a : M} {ρ : Env} : eExtendV i a ρ = (ownList i ρ).bind (exvG i a ρ) := Eq.trans rfl rfl
theorem x_listZip {as : Ds} {ρ : Env} : eListZip as ρ = (iZip as ρ).bind rgL := by unfold eListZip rgL; simp only [Option.map_eq_bind]; rfl
def ghO : Option Slot → Option (List (D × D))
  | some (.gh (.dict kvs)) => some kvs
  | _ => none
theorem x_ghAt {i : Nat} {ρ : Env} : ghAt i ρ = ghO ρ[i]? := by unfold ghAt ghO; rfl
theorem x_ghO {kvs : List (D × D)} : ghO (some (.gh (.dict kvs))) = some kvs := Eq.trans rfl rfl
theorem x_bIffT {b : Bool} : bIff true b = b := Eq.trans rfl rfl
theorem x_bIffF {b : Bool} : bIff false b = !b := Eq.trans rfl rfl
def inND (b : Bool) (d : D) (ρ : Env) : List (D × D) → Option (Res × Env) := fun kvs => if nOk d = true then some (.sh (.bool (bIff b (dFind kvs d).isSome)), ρ) else none
theorem x_inND {b : Bool} {d : D} {ρ : Env} {kvs : List (D × D)} : inND b d ρ kvs = if nOk d = true then some (.sh (.bool (bIff b (dFind kvs d).isSome)), ρ) else none := Eq.trans rfl rfl
def inNC (b : Bool) (i : Nat) : (D × Env) → Option (Res × Env) := fun p_ => (ghAt i (p_.2)).bind (inND b (p_.1) (p_.2))
theorem x_inNC {b : Bool} {i : Nat} {d : D} {ρ : Env} : inNC b i (d, ρ) = (ghAt i ρ).bind (inND b d ρ) := Eq.trans rfl rfl
def inNB (b : Bool) (i : Nat) : (Res × Env) → Option (Res × Env) := fun p_ => (share (p_.1) (p_.2)).bind (inNC b i)
theorem x_inNB {b : Bool} {i : Nat} {r : Res} {ρ : Env} : inNB b i (r, ρ) = (share r ρ).bind (inNC b i) := Eq.trans rfl rfl
theorem x_inN {b : Bool} {i : Nat} {k : M} {ρ : Env} : eInN b i k ρ = (k ρ).bind (inNB b i) := by unfold eInN inNB inNC inND; rfl
def gnE (ρ : Env) : D → Option (Res × Env) := fun v => some (.sh v, ρ)
theorem x_gnE {ρ : Env} {v : D} : gnE ρ v = some (.sh v, ρ) := Eq.trans rfl rfl
def gnD (d : D) (ρ : Env) : List (D × D) → Option (Res × Env) := fun kvs => if nOk d = true then (dFind kvs d).bind (gnE ρ) else none
theorem x_gnD {d : D} {ρ : Env} {kvs : List (D × D)} : gnD d ρ kvs = if nOk d = true then (dFind kvs d).bind (gnE ρ) else none := Eq.trans rfl rfl
def gnC (i : Nat) : (D × Env) → Option (Res × Env) := fun p_ => (ghAt i (p_.2)).bind (gnD (p_.1) (p_.2))
theorem x_gnC {i : Nat} {d : D} {ρ : Env} : gnC i (d, ρ) = (ghAt i ρ).bind (gnD d ρ) := Eq.trans rfl rfl
def gnB (i : Nat) : (Res × Env) → Option (Res × Env) := fun p_ => (share (p_.1) (p_.2)).bind (gnC i)
theorem x_gnB {i : Nat} {r : Res} {ρ : Env} : gnB i (r, ρ) = (share r ρ).bind (gnC i) := Eq.trans rfl rfl
def gnA (i : Nat) (k : M) (ρ : Env) : List (D × D) → Option (Res × Env) := fun l => (k ρ).bind (gnB i)
theorem x_gnA {i : Nat} {k : M} {ρ : Env} {l : List (D × D)} : gnA i k ρ l = (k ρ).bind (gnB i) := Eq.trans rfl rfl
theorem x_getNd {i : Nat} {k : M} {ρ : Env} : eGetN i k ρ = (ghAt i ρ).bind (gnA i k ρ) := by unfold eGetN gnA gnB gnC gnD gnE; simp only [Option.map_eq_bind]; rfl
def pnF (i : Nat) (v : D) (k : D) (ρ : Env) : List (D × D) → Option Out := fun kvs => if (nOk k && decide (kvs.length < 16777216)) = true then some (.nx (ρ.set i (.gh (.dict (dPut kvs k v))))) else none
theorem x_pnF {i : Nat} {v : D} {k : D} {ρ : Env} {kvs : List (D × D)} : pnF i v k ρ kvs = if (nOk k && decide (kvs.length < 16777216)) = true then some (.nx (ρ.set i (.gh (.dict (dPut kvs k v))))) else none := Eq.trans rfl rfl
def pnE (i : Nat) (v : D) : (D × Env) → Option Out := fun p_ => (ghAt i (p_.2)).bind (pnF i v (p_.1) (p_.2))
theorem x_pnE {i : Nat} {v : D} {k : D} {ρ : Env} : pnE i v (k, ρ) = (ghAt i ρ).bind (pnF i v k ρ) := Eq.trans rfl rfl
def pnD (i : Nat) (v : D) : (Res × Env) → Option Out := fun p_ => (share (p_.1) (p_.2)).bind (pnE i v)
theorem x_pnD {i : Nat} {v : D} {r : Res} {ρ : Env} : pnD i v (r, ρ) = (share r ρ).bind (pnE i v) := Eq.trans rfl rfl
def pnC (i : Nat) (k : M) (v : D) (ρ : Env) : List (D × D) → Option Out := fun l => (k ρ).bind (pnD i v)
theorem x_pnC {i : Nat} {k : M} {v : D} {ρ : Env} {l : List (D × D)} : pnC i k v ρ l = (k ρ).bind (pnD i v) := Eq.trans rfl rfl
def pnB (i : Nat) (k : M) : (D × Env) → Option Out := fun p_ => (ghAt i (p_.2)).bind (pnC i k (p_.1) (p_.2))
theorem x_pnB {i : Nat} {k : M} {v : D} {ρ : Env} : pnB i k (v, ρ) = (ghAt i ρ).bind (pnC i k v ρ) := Eq.trans rfl rfl
def pnA (i : Nat) (k : M) : (Res × Env) → Option Out := fun p_ => (share (p_.1) (p_.2)).bind (pnB i k)
theorem x_pnA {i : Nat} {k : M} {r : Res} {ρ : Env} : pnA i k (r, ρ) = (share r ρ).bind (pnB i k) := Eq.trans rfl rfl
theorem x_putNd {i : Nat} {a : M} {k : M} {ρ : Env} : sPutN i a k ρ = (a ρ).bind (pnA i k) := by unfold sPutN pnA pnB pnC pnD pnE pnF; rfl
def snB (ρ : Env) : List D → Option (Res × Env) := fun ys => some (.ow (.list ys), ρ)
theorem x_snB {ρ : Env} {ys : List D} : snB ρ ys = some (.ow (.list ys), ρ) := Eq.trans rfl rfl
def snA (ρ : Env) : List (D × D) → Option (Res × Env) := fun kvs => (sortD (kvs.map (·.1))).bind (snB ρ)
theorem x_snA {ρ : Env} {kvs : List (D × D)} : snA ρ kvs = (sortD (kvs.map (·.1))).bind (snB ρ) := Eq.trans rfl rfl
theorem x_sortN {i : Nat} {ρ : Env} : eSortN i ρ = (ghAt i ρ).bind (snA ρ) := by unfold eSortN snA snB; simp only [Option.map_eq_bind]; rfl
def convV (i : Nat) (ρ : Env) : Option Slot → Option Out
  | some (.ow (.dict kvs)) => if (kvs.all (fun q => isUnit q.1) && decide (kvs.length ≤ 1)) = true then some (.nx (ρ.set i (.gh (.dict kvs)))) else none
  | _ => none
def aghV (i : Nat) (ar : As) (ρ : Env) : Option Slot → Option (List Arg × Env)
  | some (.gh _) => (ar ρ).bind (abC i)
  | _ => none
theorem x_convN {i : Nat} {ρ : Env} : sConvN i ρ = convV i ρ ρ[i]? := by unfold sConvN convV; rfl
theorem x_convV0 {i : Nat} {ρ : Env} : convV i ρ (some (.ow (.dict []))) = some (.nx (ρ.set i (.gh (.dict [])))) := Eq.trans rfl rfl
theorem x_convV1 {i : Nat} {ρ : Env} {v : D} : convV i ρ (some (.ow (.dict [(.tuple [], v)]))) = some (.nx (ρ.set i (.gh (.dict [(.tuple [], v)])))) := Eq.trans rfl rfl
theorem x_asGh {i : Nat} {ar : As} {ρ : Env} : asGh i ar ρ = aghV i ar ρ ρ[i]? := by unfold asGh aghV; rfl
theorem x_aghV {i : Nat} {ar : As} {ρ : Env} {d : D} : aghV i ar ρ (some (.gh d)) = (ar ρ).bind (abC i) := Eq.trans rfl rfl
def forK (g : G) (s : S) (ds : List D) : Out → Option Out
  | .nx ρ2 => forGo g s ds ρ2
  | .ct ρ2 => forGo g s ds ρ2
  | .bk ρ2 => some (.nx ρ2)
  | .rt r ρ2 => some (.rt r ρ2)
def forB (g : G) (s : S) (ds : List D) : Env → Option Out := fun ρ => (s ρ).bind (forK g s ds)
theorem x_forB {g : G} {s : S} {ds : List D} {ρ : Env} : forB g s ds ρ = (s ρ).bind (forK g s ds) := Eq.trans rfl rfl
theorem x_forC {g : G} {s : S} {d : D} {ds : List D} {ρ : Env} : forGo g s (d :: ds) ρ = (g d ρ).bind (forB g s ds) := by
  conv => lhs; unfold forGo
  rfl
theorem x_forKN {g : G} {s : S} {ds : List D} {ρ : Env} : forK g s ds (.nx ρ) = forGo g s ds ρ := Eq.trans rfl rfl
theorem x_forKC {g : G} {s : S} {ds : List D} {ρ : Env} : forK g s ds (.ct ρ) = forGo g s ds ρ := Eq.trans rfl rfl
theorem x_forKB {g : G} {s : S} {ds : List D} {ρ : Env} : forK g s ds (.bk ρ) = some (.nx ρ) := Eq.trans rfl rfl
theorem x_forKR {g : G} {s : S} {ds : List D} {r : Res} {ρ : Env} : forK g s ds (.rt r ρ) = some (.rt r ρ) := Eq.trans rfl rfl
def cgD (vs : List Nat) (g : G) (t : T) (a : M) (ds : List D) (acc : List D) : (D × Env) → Option (List D × Env) := fun p_ => compGo vs g t a ds (acc ++ [(p_.1)]) (wipeE (p_.2) vs)
theorem x_cgD {vs : List Nat} {g : G} {t : T} {a : M} {ds : List D} {acc : List D} {d : D} {ρ : Env} : cgD vs g t a ds acc (d, ρ) = compGo vs g t a ds (acc ++ [d]) (wipeE ρ vs) := Eq.trans rfl rfl
def cgC (vs : List Nat) (g : G) (t : T) (a : M) (ds : List D) (acc : List D) : (Res × Env) → Option (List D × Env) := fun p_ => (share (p_.1) (p_.2)).bind (cgD vs g t a ds acc)
theorem x_cgC {vs : List Nat} {g : G} {t : T} {a : M} {ds : List D} {acc : List D} {r : Res} {ρ : Env} : cgC vs g t a ds acc (r, ρ) = (share r ρ).bind (cgD vs g t a ds acc) := Eq.trans rfl rfl
def cgB (vs : List Nat) (g : G) (t : T) (a : M) (ds : List D) (acc : List D) : (Bool × Env) → Option (List D × Env) := fun p_ => if (p_.1) = true then (a (p_.2)).bind (cgC vs g t a ds acc) else compGo vs g t a ds acc (wipeE (p_.2) vs)
theorem x_cgB {vs : List Nat} {g : G} {t : T} {a : M} {ds : List D} {acc : List D} {k : Bool} {ρ : Env} : cgB vs g t a ds acc (k, ρ) = if k = true then (a ρ).bind (cgC vs g t a ds acc) else compGo vs g t a ds acc (wipeE ρ vs) := Eq.trans rfl rfl
def cgA (vs : List Nat) (g : G) (t : T) (a : M) (ds : List D) (acc : List D) : Env → Option (List D × Env) := fun ρ => (t ρ).bind (cgB vs g t a ds acc)
theorem x_cgA {vs : List Nat} {g : G} {t : T} {a : M} {ds : List D} {acc : List D} {ρ : Env} : cgA vs g t a ds acc ρ = (t ρ).bind (cgB vs g t a ds acc) := Eq.trans rfl rfl
theorem x_compN {vs : List Nat} {g : G} {t : T} {a : M} {acc : List D} {ρ : Env} : compGo vs g t a [] acc ρ = some (acc, ρ) := Eq.trans rfl rfl
theorem x_compC {vs : List Nat} {g : G} {t : T} {a : M} {d : D} {ds : List D} {acc : List D} {ρ : Env} : compGo vs g t a (d :: ds) acc ρ = (g d ρ).bind (cgA vs g t a ds acc) := Eq.trans rfl rfl
section
variable {α β : Type} {k k2 : Bool} {ρ : Env} {ts : List Slot}
theorem y_bite {c : Prop} [Decidable c] {x y : Option α} {f : α → Option β} : (if c then x else y).bind f = if c then x.bind f else y.bind f := by split <;> rfl
theorem y_mite {c : Prop} [Decidable c] {x y : Option α} {f : α → β} : (if c then x else y).map f = if c then x.map f else y.map f := by split <;> rfl
theorem y_tAnd : (if k = true then some (k2, ρ) else some (false, ρ)) = some (k && k2, ρ) := by cases k <;> rfl
theorem y_tOr : (if k = true then some (true, ρ) else some (k2, ρ)) = some (k || k2, ρ) := by cases k <;> rfl
theorem y_eAnd : (if k = true then some (Res.sh (.bool k2), ρ) else some (Res.sh (.bool false), ρ)) = some (Res.sh (.bool (k && k2)), ρ) := by cases k <;> rfl
theorem y_eOr : (if k = true then some (Res.sh (.bool true), ρ) else some (Res.sh (.bool k2), ρ)) = some (Res.sh (.bool (k || k2)), ρ) := by cases k <;> rfl
theorem y_fOr : (if k = true then some (Res.sh (.bool false), ts) else some (Res.sh (.bool k2), ts)) = some (Res.sh (.bool (!k && k2)), ts) := by cases k <;> rfl
theorem y_gen {c : Prop} [Decidable c] : (if c then some (Res.sh (.bool k), ts) else some (Res.sh (.bool k2), ts)) = some (Res.sh (.bool (if c then k else k2)), ts) := by split <;> rfl
theorem y_b1 : (if k = true then k2 else false) = (k && k2) := by cases k <;> rfl
theorem y_b2 : (if k = true then true else k2) = (k || k2) := by cases k <;> rfl
theorem y_b3 : (if k = true then false else k2) = (!k && k2) := by cases k <;> rfl
theorem y_b4 : (if k = true then k2 else true) = (!k || k2) := by cases k <;> rfl
theorem y_nd1 {i : Nat} : [i].Nodup = True := by simp
theorem y_bs {a : α} {f : α → Option β} : (some a).bind f = f a := Eq.trans rfl rfl
theorem y_ms {a : α} {f : α → β} : (some a).map f = some (f a) := Eq.trans rfl rfl
theorem y_bn {f : α → Option β} : Option.bind (none : Option α) f = none := Eq.trans rfl rfl
theorem y_mn {f : α → β} : Option.map f (none : Option α) = none := Eq.trans rfl rfl
theorem y_nn : (!!k) = k := by cases k <;> rfl
end
section
variable {i j : Int} {x y z w v : D} {r xs ys : List D} {k l : Bool}
theorem z_add : pAdd (.int i) (.int j) = some (.sh (.int (i + j))) := Eq.trans rfl rfl
theorem z_sub : pSub (.int i) (.int j) = some (.sh (.int (i - j))) := Eq.trans rfl rfl
theorem z_neg : pNeg (.int i) = some (.sh (.int (-i))) := Eq.trans rfl rfl
theorem z_eq : pEq (.int i) (.int j) = some (.sh (.bool (decide (i = j)))) := Eq.trans rfl rfl
theorem z_ne : pNe (.int i) (.int j) = some (.sh (.bool (!decide (i = j)))) := Eq.trans rfl rfl
theorem z_lt : pLt (.int i) (.int j) = some (.sh (.bool (decide (i < j)))) := Eq.trans rfl rfl
theorem z_gt : pGt (.int i) (.int j) = some (.sh (.bool (decide (j < i)))) := Eq.trans rfl rfl
theorem z_le : pLe (.int i) (.int j) = some (.sh (.bool (decide (i ≤ j)))) := Eq.trans rfl rfl
theorem z_ge : pGe (.int i) (.int j) = some (.sh (.bool (decide (j ≤ i)))) := Eq.trans rfl rfl
theorem z_isB : pIs (.bool k) (.bool l) = some (.sh (.bool (decide (k = l)))) := Eq.trans rfl rfl
theorem z_isnB : pIsNot (.bool k) (.bool l) = some (.sh (.bool (!decide (k = l)))) := Eq.trans rfl rfl
theorem z_isN : pIs x .none = some (.sh (.bool (isNoneD x))) := by cases x <;> rfl
theorem z_isnN : pIsNot x .none = some (.sh (.bool (!isNoneD x))) := by cases x <;> rfl
theorem z_min : pMin2 [.int i, .int j] = some (.sh (.int (if j < i then j else i))) := Eq.trans rfl rfl
theorem z_max : pMax2 [.int i, .int j] = some (.sh (.int (if j > i then j else i))) := Eq.trans rfl rfl
theorem z_lenT : pLen [.tuple xs] = some (.sh (.int (xs.length : Nat))) := Eq.trans rfl rfl
theorem z_lenL : pLen [.list xs] = some (.sh (.int (xs.length : Nat))) := Eq.trans rfl rfl
theorem z_lenD {kvs : List (D × D)} : pLen [.dict kvs] = some (.sh (.int (kvs.length : Nat))) := Eq.trans rfl rfl
theorem z_tupL : pTuple [.list xs] = some (.sh (.tuple xs)) := Eq.trans rfl rfl
theorem z_tupT : pTuple [.tuple xs] = some (.sh (.tuple xs)) := Eq.trans rfl rfl
theorem z_lstL : pList [.list xs] = some (.ow (.list xs)) := Eq.trans rfl rfl
theorem z_lstT : pList [.tuple xs] = some (.ow (.list xs)) := Eq.trans rfl rfl
theorem z_ix0 : pIx (.tuple (x :: r)) (.int 0) = some (.sh x) := by
  have : (0 : Int) < (((x :: r).length : Nat) : Int) := by rw [List.length_cons]; omega
  simp [pIx, atD, ixD, this]
theorem z_ix1 : pIx (.tuple (x :: y :: r)) (.int 1) = some (.sh y) := by
  have : (1 : Int) < (((x :: y :: r).length : Nat) : Int) := by simp; omega
  simp only [pIx, atD, ixD, this, if_true]; rfl
theorem z_ix2 : pIx (.tuple (x :: y :: z :: r)) (.int 2) = some (.sh z) := by
  have : (2 : Int) < (((x :: y :: z :: r).length : Nat) : Int) := by simp; omega
  simp only [pIx, atD, ixD, this, if_true]; rfl
theorem z_ix3 : pIx (.tuple (x :: y :: z :: w :: r)) (.int 3) = some (.sh w) := by
  have : (3 : Int) < (((x :: y :: z :: w :: r).length : Nat) : Int) := by simp; omega
  simp only [pIx, atD, ixD, this, if_true]; rfl
theorem z_ix4 : pIx (.tuple (x :: y :: z :: w :: v :: r)) (.int 4) = some (.sh v) := by
  have : (4 : Int) < (((x :: y :: z :: w :: v :: r).length : Nat) : Int) := by simp; omega
  simp only [pIx, atD, ixD, this, if_true]; rfl
theorem z_ix5 {u : D} : pIx (.tuple (x :: y :: z :: w :: v :: u :: r)) (.int 5) = some (.sh u) := by
  have : (5 : Int) < (((x :: y :: z :: w :: v :: u :: r).length : Nat) : Int) := by simp; omega
  simp only [pIx, atD, ixD, this, if_true]; rfl
theorem z_isiTT : pIsi "tuple" (.tuple xs) = some (.sh (.bool true)) := Eq.trans rfl rfl
theorem z_isiTL : pIsi "tuple" (.list xs) = some (.sh (.bool false)) := Eq.trans rfl rfl
theorem z_isiLL : pIsi "list" (.list xs) = some (.sh (.bool true)) := Eq.trans rfl rfl
theorem z_isiII : pIsi "int" (.int i) = some (.sh (.bool true)) := Eq.trans rfl rfl
theorem z_isiBI : pIsi "bool" (.int i) = some (.sh (.bool false)) := Eq.trans rfl rfl
theorem z_isiSS {s : Str} : pIsi "str" (.str s) = some (.sh (.bool true)) := Eq.trans rfl rfl
end
def freeS : Slot → Bool
  | .bo _ => false
  | .gh _ => false
  | .xt (.ad _) => false
  | _ => true
theorem w_putF {t w : Slot} {i : Nat} {ρ : Env} (h : freeS t = true) : putV i w ρ (some t) = some (ρ.set i w) := by
  cases t with
  | xt q => cases q <;> first | rfl | cases h
  | _ => first | rfl | cases h
def goesOn (o : Option Out) (P : Env → Prop) (Q : Out → Prop) : Prop :=
  (∃ ρ2, o = some (.nx ρ2) ∧ P ρ2) ∨ (∃ ρ2, o = some (.ct ρ2) ∧ P ρ2) ∨ (∃ ρ2, o = some (.bk ρ2) ∧ Q (.nx ρ2)) ∨ (∃ r ρ2, o = some (.rt r ρ2) ∧ Q (.rt r ρ2))
theorem goesOn.nx {o : Option Out} {P : Env → Prop} {Q : Out → Prop} {ρ : Env} (h : o = some (.nx ρ)) (hp : P ρ) : goesOn o P Q := .inl ⟨ρ, h, hp⟩
theorem goesOn.ct {o : Option Out} {P : Env → Prop} {Q : Out → Prop} {ρ : Env} (h : o = some (.ct ρ)) (hp : P ρ) : goesOn o P Q := .inr (.inl ⟨ρ, h, hp⟩)
theorem goesOn.bk {o : Option Out} {P : Env → Prop} {Q : Out → Prop} {ρ : Env} (h : o = some (.bk ρ)) (hp : Q (.nx ρ)) : goesOn o P Q := .inr (.inr (.inl ⟨ρ, h, hp⟩))
theorem goesOn.rt {o : Option Out} {P : Env → Prop} {Q : Out → Prop} {r : Res} {ρ : Env} (h : o = some (.rt r ρ)) (hp : Q (.rt r ρ)) : goesOn o P Q := .inr (.inr (.inr ⟨r, ρ, h, hp⟩))
theorem for_inv {α : Type} {g : G} {s : S} (enc : α → D) (P : List α → Env → Prop) (Q : Out → Prop)
    (step : ∀ w xs ρ, P (w :: xs) ρ → ∃ ρ1, g (enc w) ρ = some ρ1 ∧ goesOn (s ρ1) (P xs) Q) (done : ∀ ρ, P [] ρ → Q (.nx ρ)) :
    ∀ (xs : List α) (ρ : Env), P xs ρ → ∃ o, forGo g s (xs.map enc) ρ = some o ∧ Q o
  | [], ρ, h => ⟨_, rfl, done ρ h⟩
  | w :: xs, ρ, h => by
    obtain ⟨ρ1, h1, h2⟩ := step w xs ρ h
    rw [List.map_cons, x_forC, h1, Option.bind_some, x_forB]
    rcases h2 with ⟨ρ2, h2, h3⟩ | ⟨ρ2, h2, h3⟩ | ⟨ρ2, h2, h3⟩ | ⟨r, ρ2, h2, h3⟩ <;> rw [h2, Option.bind_some]
    · exact for_inv enc P Q step done xs ρ2 h3
    · exact for_inv enc P Q step done xs ρ2 h3
    · exact ⟨_, rfl, h3⟩
    · exact ⟨_, rfl, h3⟩
theorem for_st {α σ : Type} {g : G} {s : S} (enc : α → D) (R : List α → σ → Env → Prop) (f : σ → α → σ)
    (step : ∀ w xs q ρ, R (w :: xs) q ρ → ∃ ρ1 ρ2, g (enc w) ρ = some ρ1 ∧ (s ρ1 = some (.nx ρ2) ∨ s ρ1 = some (.ct ρ2)) ∧ R xs (f q w) ρ2) :
    ∀ (xs : List α) (q : σ) (ρ : Env), R xs q ρ → ∃ ρ', forGo g s (xs.map enc) ρ = some (.nx ρ') ∧ R [] (xs.foldl f q) ρ'
  | [], q, ρ, h => ⟨_, rfl, h⟩
  | w :: xs, q, ρ, h => by
    obtain ⟨ρ1, ρ2, h1, h2, h3⟩ := step w xs q ρ h
    obtain ⟨ρ', e, h4⟩ := for_st enc R f step xs (f q w) ρ2 h3
    refine ⟨ρ', ?_, h4⟩
    rw [List.map_cons, x_forC, h1, Option.bind_some, x_forB]
    rcases h2 with h2 | h2 <;> (rw [h2, Option.bind_some]; exact e)
theorem enum_map {α : Type} (enc : α → D) : ∀ (xs : List α) (k : Nat), enumFrom k (xs.map enc) = (xs.zipIdx k).map fun p => .tuple [.int (p.2 : Nat), enc p.1]
  | [], _ => rfl
  | x :: xs, k => by simp only [List.map_cons, enumFrom, List.zipIdx_cons, enum_map enc xs (k + 1)]
end Pu
local macro_rules | `(tactic| simp! only [$ts,*]) => `(tactic| simp only [↓Pu.x_varK, ↓Pu.x_var, ↓Pu.x_c, ↓Pu.x_resK, ↓Pu.x_op1B, ↓Pu.x_op1A, ↓Pu.x_op1, ↓Pu.x_op2D, ↓Pu.x_op2C, ↓Pu.x_op2B, ↓Pu.x_op2A, ↓Pu.x_op2, ↓Pu.x_msNil, ↓Pu.x_msB, ↓Pu.x_msA, ↓Pu.x_msCons, ↓Pu.x_getNil, ↓Pu.x_gaB, ↓Pu.x_gaA, ↓Pu.x_getCons, ↓Pu.x_prB, ↓Pu.x_prA, ↓Pu.x_prim, ↓Pu.x_getV, ↓Pu.x_getS, ↓Pu.x_getO, ↓Pu.x_shS, ↓Pu.x_shO, ↓Pu.x_shVX, ↓Pu.x_valX, ↓Pu.x_shV, ↓Pu.x_dsNil, ↓Pu.x_dsC, ↓Pu.x_dsB, ↓Pu.x_dsA, ↓Pu.x_dsCons, ↓Pu.x_tupK, ↓Pu.x_lstK, ↓Pu.x_tup, ↓Pu.x_lst, ↓Pu.x_dict, ↓Pu.x_dictU, ↓Pu.x_tOfK, ↓Pu.x_tOf, ↓Pu.x_notK, ↓Pu.x_tNot, ↓Pu.x_tAndK, ↓Pu.x_tAnd, ↓Pu.x_tOrK, ↓Pu.x_tOr, ↓Pu.x_eIfK, ↓Pu.x_eIf, ↓Pu.x_eNotK, ↓Pu.x_eNot, ↓Pu.x_eAndK, ↓Pu.x_eAnd, ↓Pu.x_eOrK, ↓Pu.x_eOr, ↓Pu.x_tYes, ↓Pu.x_chH, ↓Pu.x_chG, ↓Pu.x_chF, ↓Pu.x_chE, ↓Pu.x_chD, ↓Pu.x_chC, ↓Pu.x_chB2, ↓Pu.x_chB, ↓Pu.x_chA, ↓Pu.x_chain, ↓Pu.x_slD, ↓Pu.x_slC, ↓Pu.x_slB, ↓Pu.x_slA, ↓Pu.x_slice, ↓Pu.x_oNone, ↓Pu.x_oSomeK, ↓Pu.x_oSome, ↓Pu.x_thenN, ↓Pu.x_thenB, ↓Pu.x_thenC, ↓Pu.x_thenR, ↓Pu.x_nop, ↓Pu.x_seqK, ↓Pu.x_seq, ↓Pu.x_never, ↓Pu.x_exprK, ↓Pu.x_expr, ↓Pu.x_ifK, ↓Pu.x_if, ↓Pu.x_break, ↓Pu.x_cont, ↓Pu.x_hoX, ↓Pu.x_shX, ↓Pu.x_getX, ↓Pu.x_hoS, ↓Pu.x_hoO, ↓Pu.x_hoK, ↓Pu.x_hoV, ↓Pu.x_putX, ↓Pu.x_set, ↓Pu.x_nxK, ↓Pu.x_setB, ↓Pu.x_setA, ↓Pu.x_sSet, ↓Pu.x_augC, ↓Pu.x_augB, ↓Pu.x_augA, ↓Pu.x_sAug, ↓Pu.x_giS, ↓Pu.x_giO, ↓Pu.x_giVX, ↓Pu.x_giX, ↓Pu.x_giV, ↓Pu.x_rtK, ↓Pu.x_retA, ↓Pu.x_ret, ↓Pu.x_retN, ↓Pu.x_name, ↓Pu.x_gTup, ↓Pu.x_gsCons, ↓Pu.x_gsNil, ↓Pu.x_unpB, ↓Pu.x_unpA, ↓Pu.x_unp, ↓Pu.x_hsNil, ↓Pu.x_hsC, ↓Pu.x_hsB, ↓Pu.x_hsA, ↓Pu.x_hsCons, ↓Pu.x_setNil, ↓Pu.x_setCons, ↓Pu.x_parK, ↓Pu.x_par, ↓Pu.x_forA, ↓Pu.x_for, ↓Pu.x_itK, ↓Pu.x_iOfB, ↓Pu.x_iOfA, ↓Pu.x_iOf, ↓Pu.x_itT, ↓Pu.x_itL, ↓Pu.x_itD, ↓Pu.x_zipK, ↓Pu.x_iZip, ↓Pu.x_zipT, ↓Pu.x_zipL, ↓Pu.x_zipNK, ↓Pu.x_iZipN, ↓Pu.x_zipNT, ↓Pu.x_enumK, ↓Pu.x_iEnum, ↓Pu.x_enumT, ↓Pu.x_enumL, ↓Pu.x_rgC, ↓Pu.x_rgB, ↓Pu.x_rgA, ↓Pu.x_iRange, ↓Pu.x_range1, ↓Pu.x_range2, ↓Pu.x_compB, ↓Pu.x_compA, ↓Pu.x_comp, ↓Pu.x_wipe0, ↓Pu.x_wipe1, ↓Pu.x_back0, ↓Pu.x_back1, ↓Pu.x_asNil, ↓Pu.x_asC, ↓Pu.x_asB, ↓Pu.x_asA, ↓Pu.x_asSh, ↓Pu.x_abC, ↓Pu.x_abB, ↓Pu.x_asBo, ↓Pu.x_bors0, ↓Pu.x_borsS, ↓Pu.x_borsB, ↓Pu.x_argS, ↓Pu.x_argB, ↓Pu.x_args0, ↓Pu.x_arC, ↓Pu.x_arB, ↓Pu.x_args1, ↓Pu.x_backSlot, ↓Pu.x_backA0, ↓Pu.x_backAS, ↓Pu.x_backAB, ↓Pu.x_caD, ↓Pu.x_caC, ↓Pu.x_caB, ↓Pu.x_caA, ↓Pu.x_call, ↓Pu.x_fn, ↓Pu.x_outX, ↓Pu.x_outS, ↓Pu.x_outO, ↓Pu.x_outN, ↓Pu.x_fin1, ↓Pu.x_fin2, ↓Pu.x_fin3, ↓Pu.x_fin0, ↓Pu.x_ownList, ↓Pu.x_ownDict, ↓Pu.x_slotDict, ↓Pu.x_upd, ↓Pu.x_apE, ↓Pu.x_apD, ↓Pu.x_apC, ↓Pu.x_apB, ↓Pu.x_apA, ↓Pu.x_append, ↓Pu.x_newList, ↓Pu.x_exD, ↓Pu.x_exC, ↓Pu.x_exB, ↓Pu.x_exA, ↓Pu.x_extend, ↓Pu.x_ppC, ↓Pu.x_ppB, ↓Pu.x_ppA, ↓Pu.x_pop, ↓Pu.x_paE, ↓Pu.x_paD, ↓Pu.x_paC, ↓Pu.x_paB2, ↓Pu.x_paB, ↓Pu.x_paA, ↓Pu.x_popAt, ↓Pu.x_intOf, ↓Pu.x_ptF, ↓Pu.x_ptE, ↓Pu.x_ptD, ↓Pu.x_ptC, ↓Pu.x_ptB, ↓Pu.x_ptA, ↓Pu.x_put, ↓Pu.x_plG, ↓Pu.x_plF, ↓Pu.x_plE, ↓Pu.x_plD, ↓Pu.x_plC, ↓Pu.x_plB2, ↓Pu.x_plB, ↓Pu.x_plA, ↓Pu.x_putL, ↓Pu.x_adH, ↓Pu.x_adG, ↓Pu.x_adF2, ↓Pu.x_adF, ↓Pu.x_adE, ↓Pu.x_adD2, ↓Pu.x_adD, ↓Pu.x_adC, ↓Pu.x_adB, ↓Pu.x_adA, ↓Pu.x_augD, ↓Pu.x_gtF, ↓Pu.x_gtE, ↓Pu.x_gtD, ↓Pu.x_gtC, ↓Pu.x_gtB, ↓Pu.x_gtA, ↓Pu.x_get, ↓Pu.x_pkF, ↓Pu.x_pkE, ↓Pu.x_pkD, ↓Pu.x_pkC, ↓Pu.x_pkA, ↓Pu.x_popKey, ↓Pu.x_rgL, ↓Pu.x_listRg, ↓Pu.x_rgT, ↓Pu.x_tupRg, ↓Pu.x_zip3K, ↓Pu.x_iZip3, ↓Pu.x_zip3T, ↓Pu.x_listZip3, ↓Pu.x_repC, ↓Pu.x_repB, ↓Pu.x_repA, ↓Pu.x_eRepL, ↓Pu.x_listV, ↓Pu.x_listAt, ↓Pu.x_idxG, ↓Pu.x_idxA, ↓Pu.x_idxB, ↓Pu.x_eIndexL, ↓Pu.x_noneK, ↓Pu.x_exvC, ↓Pu.x_exvB, ↓Pu.x_exvA, ↓Pu.x_exvG, ↓Pu.x_eExtendV, ↓Pu.x_listZip, ↓Pu.x_ghAt, ↓Pu.x_bIffT, ↓Pu.x_bIffF, ↓Pu.x_inND, ↓Pu.x_inNC, ↓Pu.x_inNB, ↓Pu.x_inN, ↓Pu.x_gnE, ↓Pu.x_gnD, ↓Pu.x_gnC, ↓Pu.x_gnB, ↓Pu.x_gnA, ↓Pu.x_getNd, ↓Pu.x_pnF, ↓Pu.x_pnE, ↓Pu.x_pnD, ↓Pu.x_pnC, ↓Pu.x_pnB, ↓Pu.x_pnA, ↓Pu.x_putNd, ↓Pu.x_snB, ↓Pu.x_snA, ↓Pu.x_sortN, ↓Pu.x_convN, ↓Pu.x_asGh, ↓Pu.x_forB, ↓Pu.x_forKN, ↓Pu.x_forKC, ↓Pu.x_forKB, ↓Pu.x_forKR, ↓Pu.x_cgD, ↓Pu.x_cgC, ↓Pu.x_cgB, ↓Pu.x_cgA, Pu.x_valS, Pu.x_valO, Pu.x_valB, Pu.x_ownO, Pu.x_ownB, Pu.x_shVS, Pu.x_shVO, Pu.x_boolV, Pu.x_boolVi, Pu.x_boolR, Pu.x_intO, Pu.x_putN, Pu.x_putS, Pu.x_putO, Pu.x_giVS, Pu.x_giVO, Pu.x_ghO, Pu.x_convV0, Pu.x_convV1, Pu.x_aghV, Pu.x_argVO, Pu.x_argVB, Pu.x_argVG, Pu.x_backVO, Pu.x_backVB, Pu.x_backVG, Pu.x_listO, Pu.x_dictO, Pu.x_updO, Pu.x_updB, Pu.y_bite, Pu.y_mite, Pu.y_tAnd, Pu.y_tOr, Pu.y_eAnd, Pu.y_eOr, Pu.y_fOr, Pu.y_gen, Pu.y_b1, Pu.y_b2, Pu.y_b3, Pu.y_b4, Pu.y_nd1, Pu.y_bs, Pu.y_ms, Pu.y_bn, Pu.y_mn, Pu.y_nn, Pu.z_add, Pu.z_sub, Pu.z_neg, Pu.z_eq, Pu.z_ne, Pu.z_lt, Pu.z_gt, Pu.z_le, Pu.z_ge, Pu.z_isB, Pu.z_isnB, Pu.z_isN, Pu.z_isnN, Pu.z_min, Pu.z_max, Pu.z_lenT, Pu.z_lenL, Pu.z_lenD, Pu.z_tupL, Pu.z_tupT, Pu.z_lstL, Pu.z_lstT, Pu.z_ix0, Pu.z_ix1, Pu.z_ix2, Pu.z_ix3, Pu.z_ix4, Pu.z_ix5, Pu.z_isiTT, Pu.z_isiTL, Pu.z_isiLL, Pu.z_isiII, Pu.z_isiBI, Pu.z_isiSS, List.length_cons, List.length_nil, List.cons_append, List.nil_append, Nat.reduceAdd, Nat.reduceSub, Nat.reduceLeDiff, List.replicate_succ, List.replicate_zero, List.getElem?_cons_zero, List.getElem?_cons_succ, Bool.not_true, Bool.not_false, if_true, if_false, Bool.false_eq_true, reduceIte, List.nodup_nil, List.set_cons_zero, List.set_cons_succ, Bool.true_and, Bool.and_true, Bool.false_and, Bool.and_false, Bool.true_or, Bool.or_true, Bool.false_or, Bool.or_false, List.getD_cons_zero, List.getD_cons_succ, ite_self, Int.cast_ofNat_Int, decide_true, decide_false, Int.reduceEq, Int.reduceLT, Int.reduceLE, Int.reduceNe, Int.reduceSub, Int.reduceAdd, $ts,*]) | `(tactic| simp! only [$ts,*] at $h:ident) => `(tactic| simp only [↓Pu.x_varK, ↓Pu.x_var, ↓Pu.x_c, ↓Pu.x_resK, ↓Pu.x_op1B, ↓Pu.x_op1A, ↓Pu.x_op1, ↓Pu.x_op2D, ↓Pu.x_op2C, ↓Pu.x_op2B, ↓Pu.x_op2A, ↓Pu.x_op2, ↓Pu.x_msNil, ↓Pu.x_msB, ↓Pu.x_msA, ↓Pu.x_msCons, ↓Pu.x_getNil, ↓Pu.x_gaB, ↓Pu.x_gaA, ↓Pu.x_getCons, ↓Pu.x_prB, ↓Pu.x_prA, ↓Pu.x_prim, ↓Pu.x_getV, ↓Pu.x_getS, ↓Pu.x_getO, ↓Pu.x_shS, ↓Pu.x_shO, ↓Pu.x_shVX, ↓Pu.x_valX, ↓Pu.x_shV, ↓Pu.x_dsNil, ↓Pu.x_dsC, ↓Pu.x_dsB, ↓Pu.x_dsA, ↓Pu.x_dsCons, ↓Pu.x_tupK, ↓Pu.x_lstK, ↓Pu.x_tup, ↓Pu.x_lst, ↓Pu.x_dict, ↓Pu.x_dictU, ↓Pu.x_tOfK, ↓Pu.x_tOf, ↓Pu.x_notK, ↓Pu.x_tNot, ↓Pu.x_tAndK, ↓Pu.x_tAnd, ↓Pu.x_tOrK, ↓Pu.x_tOr, ↓Pu.x_eIfK, ↓Pu.x_eIf, ↓Pu.x_eNotK, ↓Pu.x_eNot, ↓Pu.x_eAndK, ↓Pu.x_eAnd, ↓Pu.x_eOrK, ↓Pu.x_eOr, ↓Pu.x_tYes, ↓Pu.x_chH, ↓Pu.x_chG, ↓Pu.x_chF, ↓Pu.x_chE, ↓Pu.x_chD, ↓Pu.x_chC, ↓Pu.x_chB2, ↓Pu.x_chB, ↓Pu.x_chA, ↓Pu.x_chain, ↓Pu.x_slD, ↓Pu.x_slC, ↓Pu.x_slB, ↓Pu.x_slA, ↓Pu.x_slice, ↓Pu.x_oNone, ↓Pu.x_oSomeK, ↓Pu.x_oSome, ↓Pu.x_thenN, ↓Pu.x_thenB, ↓Pu.x_thenC, ↓Pu.x_thenR, ↓Pu.x_nop, ↓Pu.x_seqK, ↓Pu.x_seq, ↓Pu.x_never, ↓Pu.x_exprK, ↓Pu.x_expr, ↓Pu.x_ifK, ↓Pu.x_if, ↓Pu.x_break, ↓Pu.x_cont, ↓Pu.x_hoX, ↓Pu.x_shX, ↓Pu.x_getX, ↓Pu.x_hoS, ↓Pu.x_hoO, ↓Pu.x_hoK, ↓Pu.x_hoV, ↓Pu.x_putX, ↓Pu.x_set, ↓Pu.x_nxK, ↓Pu.x_setB, ↓Pu.x_setA, ↓Pu.x_sSet, ↓Pu.x_augC, ↓Pu.x_augB, ↓Pu.x_augA, ↓Pu.x_sAug, ↓Pu.x_giS, ↓Pu.x_giO, ↓Pu.x_giVX, ↓Pu.x_giX, ↓Pu.x_giV, ↓Pu.x_rtK, ↓Pu.x_retA, ↓Pu.x_ret, ↓Pu.x_retN, ↓Pu.x_name, ↓Pu.x_gTup, ↓Pu.x_gsCons, ↓Pu.x_gsNil, ↓Pu.x_unpB, ↓Pu.x_unpA, ↓Pu.x_unp, ↓Pu.x_hsNil, ↓Pu.x_hsC, ↓Pu.x_hsB, ↓Pu.x_hsA, ↓Pu.x_hsCons, ↓Pu.x_setNil, ↓Pu.x_setCons, ↓Pu.x_parK, ↓Pu.x_par, ↓Pu.x_forA, ↓Pu.x_for, ↓Pu.x_itK, ↓Pu.x_iOfB, ↓Pu.x_iOfA, ↓Pu.x_iOf, ↓Pu.x_itT, ↓Pu.x_itL, ↓Pu.x_itD, ↓Pu.x_zipK, ↓Pu.x_iZip, ↓Pu.x_zipT, ↓Pu.x_zipL, ↓Pu.x_zipNK, ↓Pu.x_iZipN, ↓Pu.x_zipNT, ↓Pu.x_enumK, ↓Pu.x_iEnum, ↓Pu.x_enumT, ↓Pu.x_enumL, ↓Pu.x_rgC, ↓Pu.x_rgB, ↓Pu.x_rgA, ↓Pu.x_iRange, ↓Pu.x_range1, ↓Pu.x_range2, ↓Pu.x_compB, ↓Pu.x_compA, ↓Pu.x_comp, ↓Pu.x_wipe0, ↓Pu.x_wipe1, ↓Pu.x_back0, ↓Pu.x_back1, ↓Pu.x_asNil, ↓Pu.x_asC, ↓Pu.x_asB, ↓Pu.x_asA, ↓Pu.x_asSh, ↓Pu.x_abC, ↓Pu.x_abB, ↓Pu.x_asBo, ↓Pu.x_bors0, ↓Pu.x_borsS, ↓Pu.x_borsB, ↓Pu.x_argS, ↓Pu.x_argB, ↓Pu.x_args0, ↓Pu.x_arC, ↓Pu.x_arB, ↓Pu.x_args1, ↓Pu.x_backSlot, ↓Pu.x_backA0, ↓Pu.x_backAS, ↓Pu.x_backAB, ↓Pu.x_caD, ↓Pu.x_caC, ↓Pu.x_caB, ↓Pu.x_caA, ↓Pu.x_call, ↓Pu.x_fn, ↓Pu.x_outX, ↓Pu.x_outS, ↓Pu.x_outO, ↓Pu.x_outN, ↓Pu.x_fin1, ↓Pu.x_fin2, ↓Pu.x_fin3, ↓Pu.x_fin0, ↓Pu.x_ownList, ↓Pu.x_ownDict, ↓Pu.x_slotDict, ↓Pu.x_upd, ↓Pu.x_apE, ↓Pu.x_apD, ↓Pu.x_apC, ↓Pu.x_apB, ↓Pu.x_apA, ↓Pu.x_append, ↓Pu.x_newList, ↓Pu.x_exD, ↓Pu.x_exC, ↓Pu.x_exB, ↓Pu.x_exA, ↓Pu.x_extend, ↓Pu.x_ppC, ↓Pu.x_ppB, ↓Pu.x_ppA, ↓Pu.x_pop, ↓Pu.x_paE, ↓Pu.x_paD, ↓Pu.x_paC, ↓Pu.x_paB2, ↓Pu.x_paB, ↓Pu.x_paA, ↓Pu.x_popAt, ↓Pu.x_intOf, ↓Pu.x_ptF, ↓Pu.x_ptE, ↓Pu.x_ptD, ↓Pu.x_ptC, ↓Pu.x_ptB, ↓Pu.x_ptA, ↓Pu.x_put, ↓Pu.x_plG, ↓Pu.x_plF, ↓Pu.x_plE, ↓Pu.x_plD, ↓Pu.x_plC, ↓Pu.x_plB2, ↓Pu.x_plB, ↓Pu.x_plA, ↓Pu.x_putL, ↓Pu.x_adH, ↓Pu.x_adG, ↓Pu.x_adF2, ↓Pu.x_adF, ↓Pu.x_adE, ↓Pu.x_adD2, ↓Pu.x_adD, ↓Pu.x_adC, ↓Pu.x_adB, ↓Pu.x_adA, ↓Pu.x_augD, ↓Pu.x_gtF, ↓Pu.x_gtE, ↓Pu.x_gtD, ↓Pu.x_gtC, ↓Pu.x_gtB, ↓Pu.x_gtA, ↓Pu.x_get, ↓Pu.x_pkF, ↓Pu.x_pkE, ↓Pu.x_pkD, ↓Pu.x_pkC, ↓Pu.x_pkA, ↓Pu.x_popKey, ↓Pu.x_rgL, ↓Pu.x_listRg, ↓Pu.x_rgT, ↓Pu.x_tupRg, ↓Pu.x_zip3K, ↓Pu.x_iZip3, ↓Pu.x_zip3T, ↓Pu.x_listZip3, ↓Pu.x_repC, ↓Pu.x_repB, ↓Pu.x_repA, ↓Pu.x_eRepL, ↓Pu.x_listV, ↓Pu.x_listAt, ↓Pu.x_idxG, ↓Pu.x_idxA, ↓Pu.x_idxB, ↓Pu.x_eIndexL, ↓Pu.x_noneK, ↓Pu.x_exvC, ↓Pu.x_exvB, ↓Pu.x_exvA, ↓Pu.x_exvG, ↓Pu.x_eExtendV, ↓Pu.x_listZip, ↓Pu.x_ghAt, ↓Pu.x_bIffT, ↓Pu.x_bIffF, ↓Pu.x_inND, ↓Pu.x_inNC, ↓Pu.x_inNB, ↓Pu.x_inN, ↓Pu.x_gnE, ↓Pu.x_gnD, ↓Pu.x_gnC, ↓Pu.x_gnB, ↓Pu.x_gnA, ↓Pu.x_getNd, ↓Pu.x_pnF, ↓Pu.x_pnE, ↓Pu.x_pnD, ↓Pu.x_pnC, ↓Pu.x_pnB, ↓Pu.x_pnA, ↓Pu.x_putNd, ↓Pu.x_snB, ↓Pu.x_snA, ↓Pu.x_sortN, ↓Pu.x_convN, ↓Pu.x_asGh, ↓Pu.x_forB, ↓Pu.x_forKN, ↓Pu.x_forKC, ↓Pu.x_forKB, ↓Pu.x_forKR, ↓Pu.x_cgD, ↓Pu.x_cgC, ↓Pu.x_cgB, ↓Pu.x_cgA, Pu.x_valS, Pu.x_valO, Pu.x_valB, Pu.x_ownO, Pu.x_ownB, Pu.x_shVS, Pu.x_shVO, Pu.x_boolV, Pu.x_boolVi, Pu.x_boolR, Pu.x_intO, Pu.x_putN, Pu.x_putS, Pu.x_putO, Pu.x_giVS, Pu.x_giVO, Pu.x_ghO, Pu.x_convV0, Pu.x_convV1, Pu.x_aghV, Pu.x_argVO, Pu.x_argVB, Pu.x_argVG, Pu.x_backVO, Pu.x_backVB, Pu.x_backVG, Pu.x_listO, Pu.x_dictO, Pu.x_updO, Pu.x_updB, Pu.y_bite, Pu.y_mite, Pu.y_tAnd, Pu.y_tOr, Pu.y_eAnd, Pu.y_eOr, Pu.y_fOr, Pu.y_gen, Pu.y_b1, Pu.y_b2, Pu.y_b3, Pu.y_b4, Pu.y_nd1, Pu.y_bs, Pu.y_ms, Pu.y_bn, Pu.y_mn, Pu.y_nn, Pu.z_add, Pu.z_sub, Pu.z_neg, Pu.z_eq, Pu.z_ne, Pu.z_lt, Pu.z_gt, Pu.z_le, Pu.z_ge, Pu.z_isB, Pu.z_isnB, Pu.z_isN, Pu.z_isnN, Pu.z_min, Pu.z_max, Pu.z_lenT, Pu.z_lenL, Pu.z_lenD, Pu.z_tupL, Pu.z_tupT, Pu.z_lstL, Pu.z_lstT, Pu.z_ix0, Pu.z_ix1, Pu.z_ix2, Pu.z_ix3, Pu.z_ix4, Pu.z_ix5, Pu.z_isiTT, Pu.z_isiTL, Pu.z_isiLL, Pu.z_isiII, Pu.z_isiBI, Pu.z_isiSS, List.length_cons, List.length_nil, List.cons_append, List.nil_append, Nat.reduceAdd, Nat.reduceSub, Nat.reduceLeDiff, List.replicate_succ, List.replicate_zero, List.getElem?_cons_zero, List.getElem?_cons_succ, Bool.not_true, Bool.not_false, if_true, if_false, Bool.false_eq_true, reduceIte, List.nodup_nil, List.set_cons_zero, List.set_cons_succ, Bool.true_and, Bool.and_true, Bool.false_and, Bool.and_false, Bool.true_or, Bool.or_true, Bool.false_or, Bool.or_false, List.getD_cons_zero, List.getD_cons_succ, ite_self, Int.cast_ofNat_Int, decide_true, decide_false, Int.reduceEq, Int.reduceLT, Int.reduceLE, Int.reduceNe, Int.reduceSub, Int.reduceAdd, $ts,*] at $h:ident)
set_option maxRecDepth 100000
namespace Q
open PySem Pu
theorem getM_put (L : Tab) (k x : Dir) (v : Int) : getM (putM L k v) x = if x = k then some v else getM L x := by
  unfold putM hasK
  split
  · rename_i h
    rw [List.any_eq_true] at h
    obtain ⟨q, hq, e⟩ := h
    simp only [decide_eq_true_eq] at e
    have : ∃ q ∈ L, q.1 = k := ⟨q, hq, e⟩
    clear hq e q
    unfold getM
    induction L with
    | nil => simp at this
    | cons z L ih =>
      rw [List.map_cons, List.find?_cons]
      by_cases hz : z.1 = k
      · by_cases hx : x = k
        · subst hx; simp [hz]
        · have : ¬ z.1 = x := fun e => hx (by rw [← e, hz])
          have hk : ¬ k = x := fun e => hx e.symm
          simp only [hz, if_true, decide_eq_false hk, hx, if_false, List.find?_cons, decide_eq_false this]
          by_cases hr : ∃ q ∈ L, q.1 = k
          · have := ih hr; simp only [hx, if_false] at this; exact this
          · have e : L.map (fun q => if q.1 = k then (q.1, v) else q) = L := by
              conv => rhs; rw [← List.map_id L]
              exact List.map_congr_left fun q hq => by
                have : ¬ q.1 = k := fun e => hr ⟨q, hq, e⟩
                simp [this]
            rw [e]
      · have hr : ∃ q ∈ L, q.1 = k := by
          obtain ⟨q, hq, e⟩ := this
          rcases List.mem_cons.mp hq with rfl | hq
          · exact absurd e hz
          · exact ⟨q, hq, e⟩
        have ih := ih hr
        simp only [hz, if_false]
        by_cases hx : z.1 = x
        · have : ¬ x = k := fun e => hz (by rw [hx, e])
          simp [hx, this]
        · simp only [decide_eq_false hx, List.find?_cons]
          exact ih
  · rename_i h
    unfold getM
    rw [List.find?_append]
    by_cases hx : x = k
    · subst hx
      have : L.find? (fun q => decide (q.1 = x)) = none := by
        rw [List.find?_eq_none]
        intro q hq e
        exact h (List.any_eq_true.mpr ⟨q, hq, e⟩)
      rw [this]; simp
    · have : ¬ k = x := fun e => hx e.symm
      cases e : L.find? (fun q => decide (q.1 = x)) <;> simp [hx, this]
theorem getM_drop (L : Tab) (k x : Dir) : getM (dropM L k) x = if x = k then none else getM L x := by
  unfold dropM getM
  induction L with
  | nil => simp
  | cons z L ih =>
    by_cases hz : z.1 = k
    · simp only [List.filter_cons, hz, decide_true, Bool.not_true, Bool.false_eq_true, if_false, ih]
      split
      · rfl
      · rename_i hx
        have : ¬ k = x := fun e => hx e.symm
        simp [List.find?_cons, hz, this]
    · simp only [List.filter_cons, decide_eq_false hz, Bool.not_false, if_true, List.find?_cons]
      by_cases hx : z.1 = x
      · have : ¬ x = k := fun e => hz (by rw [hx, e])
        simp [hx, this]
      · simp only [decide_eq_false hx]; exact ih
theorem mn_le_l (a b : Int) : mn a b ≤ a := by unfold mn; split <;> omega
theorem mn_le_r (a b : Int) : mn a b ≤ b := by unfold mn; split <;> omega
theorem mn_cases (a b : Int) : mn a b = a ∨ mn a b = b := by unfold mn; split <;> simp
theorem mn_idem (a b : Int) : mn (mn a b) b = mn a b := by
  unfold mn
  by_cases h : b < a
  · simp [h]
  · simp [h]
theorem relaxes_get {L found : Tab} {least : Int} : ∀ (os : List Dir) (line : Tab) (x : Dir), getM (os.foldl (relax L found least) line) x = if x ∈ os ∧ getM found x = none then some (mn ((getM line x).getD (least + lenOf L x)) (least + lenOf L x)) else getM line x
  | [], line, x => by simp
  | o :: os, line, x => by
    rw [List.foldl_cons, relaxes_get os]
    unfold relax
    cases hf : getM found o with
    | some w =>
      simp only [Option.isSome_some, if_true]
      by_cases hx : x = o
      · subst hx; simp [hf]
      · simp [hx]
    | none =>
      simp only [Option.isSome_none, Bool.false_eq_true, if_false, getM_put]
      by_cases hx : x = o
      · subst hx
        simp only [hf, and_true, if_true, List.mem_cons, true_or, Option.getD_some]
        split
        · rw [mn_idem]
        · rfl
      · simp [hx]
theorem leP_fst {p q : Int × Dir} (h : leP p q = true) : p.1 ≤ q.1 := by
  unfold leP prD at h
  rw [leT_tup, leL_cons, leT_int] at h
  split at h
  · rename_i e; simpa using e
  · cases h
theorem leP_false {p q : Int × Dir} (h : leP p q = false) : q.1 ≤ p.1 := by
  have := leT_total (prD p) (prD q)
  unfold leP at h
  rw [h] at this
  exact leP_fst (by simpa [leP] using this)
theorem minP_le : ∀ (xs : List (Int × Dir)) (x : Int × Dir), (minP x xs).1 ≤ x.1 ∧ ∀ y ∈ xs, (minP x xs).1 ≤ y.1
  | [], x => ⟨Int.le_refl _, by simp⟩
  | y :: xs, x => by
    have h : minP x (y :: xs) = minP (if leP x y then x else y) xs := rfl
    rw [h]
    obtain ⟨h1, h2⟩ := minP_le xs (if leP x y then x else y)
    cases e : leP x y with
    | true =>
      rw [e] at h1 h2; simp only [if_true] at h1 h2 ⊢
      have := leP_fst e
      refine ⟨h1, fun z hz => ?_⟩
      rcases List.mem_cons.mp hz with rfl | hz
      · omega
      · exact h2 z hz
    | false =>
      rw [e] at h1 h2; simp only [Bool.false_eq_true, if_false] at h1 h2 ⊢
      have := leP_false e
      refine ⟨by omega, fun z hz => ?_⟩
      rcases List.mem_cons.mp hz with rfl | hz
      · exact h1
      · exact h2 z hz
inductive Drv (L : Tab) (S : List D) (s : Int) : Dir → Int → Prop where
  | first {o : Dir} : o ∈ firstsM L S s → Drv L S s o (lenOf L o)
  | next {k o : Dir} {v : Int} : Drv L S s k v → o ∈ nextsM L S k.1 k.2 → Drv L S s o (v + lenOf L o)
structure DI (L : Tab) (S : List D) (s : Int) (found line : Tab) : Prop where
  ti : TI L found line
  df : ∀ k v, getM found k = some v → Drv L S s k v
  dl : ∀ k v, getM line k = some v → Drv L S s k v
  fi : ∀ o ∈ firstsM L S s, ∃ v, v ≤ lenOf L o ∧ (getM found o = some v ∨ getM line o = some v)
  nx : ∀ k v, getM found k = some v → ∀ o ∈ nextsM L S k.1 k.2, ∃ w, w ≤ v + lenOf L o ∧ (getM found o = some w ∨ getM line o = some w)
  mo : ∀ k v, getM found k = some v → ∀ j w, getM line j = some w → v ≤ w
theorem getM_mem' {L : Tab} {k : Dir} {v : Int} (h : getM L k = some v) : (k, v) ∈ L := by
  unfold getM at h
  cases e : L.find? (fun q => decide (q.1 = k)) with
  | none => rw [e] at h; simp at h
  | some q =>
    rw [e] at h
    simp only [Option.map_some, Option.some.injEq] at h
    have h1 := List.find?_some e
    have h2 := List.mem_of_find?_eq_some e
    simp only [decide_eq_true_eq] at h1
    rw [← h1, ← h]; exact h2
theorem DI.turn {L : Tab} {S : List D} {s : Int} {found line : Tab} (h : DI L S s found line) (hp : ∀ o ∈ L.map (·.1), 0 ≤ lenOf L o) (hn : line ≠ []) : DI L S s (turnM L S found line).1 (turnM L S found line).2 := by
  have ti := (h.ti.turn (S := S) hn).1
  cases line with
  | nil => exact absurd rfl hn
  | cons q r =>
    obtain ⟨z, hz, em⟩ := head_min (q := q) (r := r)
    have hle : ∀ j w, getM (q :: r) j = some w → z.2 ≤ w := fun j w hj => by
      have hm := getM_mem' hj
      have := minP_le (r.map flip) (flip q)
      rw [em] at this
      rcases List.mem_cons.mp hm with e | hm
      · rw [← e] at this; exact this.1
      · exact this.2 (flip (j, w)) (List.mem_map.mpr ⟨_, hm, rfl⟩)
    have hzg : getM (q :: r) z.1 = some z.2 := getM_of h.ti.nl hz
    have hzf : getM found z.1 = none := by
      cases e : getM found z.1 with
      | none => rfl
      | some v => exact absurd (get_some.mp (by rw [e]; rfl)) (h.ti.ap z.1 (List.mem_map.mpr ⟨z, hz, rfl⟩))
    unfold turnM at ti ⊢
    simp only [em] at ti ⊢
    change TI L (putM found z.1 z.2) ((nextsM L S z.1.1 z.1.2).foldl (relax L (putM found z.1 z.2) z.2) (dropM (q :: r) z.1)) at ti
    show DI L S s (putM found z.1 z.2) ((nextsM L S z.1.1 z.1.2).foldl (relax L (putM found z.1 z.2) z.2) (dropM (q :: r) z.1))
    have dz : Drv L S s z.1 z.2 := h.dl _ _ hzg
    have gl : ∀ x, getM ((nextsM L S z.1.1 z.1.2).foldl (relax L (putM found z.1 z.2) z.2) (dropM (q :: r) z.1)) x = if x ∈ nextsM L S z.1.1 z.1.2 ∧ (x ≠ z.1 ∧ getM found x = none) then some (mn ((getM (q :: r) x).getD (z.2 + lenOf L x)) (z.2 + lenOf L x)) else if x = z.1 then none else getM (q :: r) x := fun x => by
      rw [relaxes_get, getM_put, getM_drop]
      by_cases hx : x = z.1
      · subst hx; simp
      · simp [hx]
    -- what was in the line is found or still there, and no greater
    have stay : ∀ o w, getM (q :: r) o = some w → ∃ w', w' ≤ w ∧ (getM (putM found z.1 z.2) o = some w' ∨ getM ((nextsM L S z.1.1 z.1.2).foldl (relax L (putM found z.1 z.2) z.2) (dropM (q :: r) z.1)) o = some w') := fun o w ho => by
      by_cases hx : o = z.1
      · subst hx
        rw [hzg] at ho; cases ho
        exact ⟨z.2, Int.le_refl _, .inl (by rw [getM_put]; simp)⟩
      · rw [gl]
        split
        · refine ⟨_, ?_, .inr rfl⟩
          rw [ho]; exact mn_le_l _ _
        · exact ⟨w, Int.le_refl _, .inr (by simp [hx, ho])⟩
    have keep : ∀ o w, getM found o = some w → getM (putM found z.1 z.2) o = some w := fun o w ho => by
      rw [getM_put]
      have : ¬ o = z.1 := fun e => by rw [e, hzf] at ho; cases ho
      simp [this, ho]
    refine ⟨ti, fun k v hk => ?_, fun k v hk => ?_, fun o ho => ?_, fun k v hk o ho => ?_, fun k v hk j w hj => ?_⟩
    · rw [getM_put] at hk
      split at hk
      · rename_i e; cases hk; rw [e]; exact dz
      · exact h.df k v hk
    · rw [gl] at hk
      split at hk
      · rename_i hc
        cases hk
        cases e : getM (q :: r) k with
        | none =>
          rw [Option.getD_none]
          rcases mn_cases (z.2 + lenOf L k) (z.2 + lenOf L k) with e' | e' <;> (rw [e']; exact .next dz hc.1)
        | some u =>
          rw [Option.getD_some]
          rcases mn_cases u (z.2 + lenOf L k) with e' | e'
          · rw [e']; exact h.dl k u e
          · rw [e']; exact .next dz hc.1
      · split at hk
        · cases hk
        · exact h.dl k v hk
    · obtain ⟨v, hv, hh⟩ := h.fi o ho
      rcases hh with hh | hh
      · exact ⟨v, hv, .inl (keep o v hh)⟩
      · obtain ⟨w, hw, hh⟩ := stay o v hh
        exact ⟨w, by omega, hh⟩
    · rw [getM_put] at hk
      split at hk
      · rename_i e
        cases hk
        subst e
        by_cases hx : o = z.1
        · have := hp o (nexts_sub ho)
          exact ⟨z.2, by omega, .inl (by rw [getM_put]; simp [hx])⟩
        · cases hf : getM found o with
          | some w =>
            have := h.mo o w hf z.1 z.2 hzg
            have := hp o (nexts_sub ho)
            exact ⟨w, by omega, .inl (keep o w hf)⟩
          | none =>
            refine ⟨mn ((getM (q :: r) o).getD (z.2 + lenOf L o)) (z.2 + lenOf L o), mn_le_r _ _, .inr ?_⟩
            rw [gl, if_pos ⟨ho, hx, hf⟩]
      · obtain ⟨w, hw, hh⟩ := h.nx k v hk o ho
        rcases hh with hh | hh
        · exact ⟨w, hw, .inl (keep o w hh)⟩
        · obtain ⟨w', hw', hh⟩ := stay o w hh
          exact ⟨w', by omega, hh⟩
    · have hvz : v ≤ z.2 := by
        rw [getM_put] at hk
        split at hk
        · cases hk; exact Int.le_refl _
        · exact h.mo k v hk z.1 z.2 hzg
      have hzw : z.2 ≤ w := by
        rw [gl] at hj
        split at hj
        · rename_i hc
          cases hj
          have hl := hp j (nexts_sub hc.1)
          cases e : getM (q :: r) j with
          | none => rw [Option.getD_none]; rcases mn_cases (z.2 + lenOf L j) (z.2 + lenOf L j) with e' | e' <;> omega
          | some u =>
            have := hle j u e
            rw [Option.getD_some]
            rcases mn_cases u (z.2 + lenOf L j) with e' | e' <;> omega
        · split at hj
          · cases hj
          · exact hle j w hj
      omega
theorem line0_get {L : Tab} : ∀ (os : List Dir) (l : Tab) (x : Dir), getM (os.foldl (fun l o => putM l o (lenOf L o)) l) x = if x ∈ os then some (lenOf L x) else getM l x
  | [], l, x => by simp
  | o :: os, l, x => by
    rw [List.foldl_cons, line0_get os, getM_put]
    by_cases hx : x = o
    · subst hx; simp
    · simp [hx]
theorem DI.start (L : Tab) (S : List D) (s : Int) : DI L S s [] (line0 L S s) := by
  have e : ∀ x, getM (line0 L S s) x = if x ∈ firstsM L S s then some (lenOf L x) else none := fun x => by
    unfold line0; rw [line0_get]; rfl
  have n : ∀ k v, getM ([] : Tab) k = some v → False := fun k v h => by simp [getM] at h
  refine ⟨TI.start L S s, fun k v h => (n k v h).elim, fun k v h => ?_, fun o ho => ⟨lenOf L o, Int.le_refl _, .inr (by rw [e, if_pos ho])⟩, fun k v h => (n k v h).elim, fun k v h => (n k v h).elim⟩
  rw [e] at h
  split at h
  · cases h; exact .first (by assumption)
  · cases h
theorem dijkI_DI {L : Tab} {S : List D} {s : Int} (hp : ∀ o ∈ L.map (·.1), 0 ≤ lenOf L o) : ∀ (n : Nat) (q q' : Tab × Tab), DI L S s q.1 q.2 → dijkI L S n q = some q' → DI L S s q'.1 q'.2 ∧ q'.2 = []
  | 0, q, q', _, e => by simp [dijkI, iterM] at e
  | n + 1, q, q', h, e => by
    unfold dijkI iterM at e
    cases hq : q.2.isEmpty with
    | true =>
      rw [hq] at e
      simp only [Bool.not_true, Bool.false_eq_true, if_false, Option.some.injEq] at e
      subst e
      exact ⟨h, by simpa using hq⟩
    | false =>
      have hne : q.2 ≠ [] := by intro e; rw [e] at hq; simp at hq
      rw [hq] at e
      simp only [Bool.not_false, if_true] at e
      exact dijkI_DI hp n (turnM L S q.1 q.2) q' (h.turn hp hne) e
theorem dijk_spec {L : Tab} {S : List D} {s : Int} (hp : ∀ o ∈ L.map (·.1), 0 ≤ lenOf L o) (hl : L.length < 1000) : (∀ k v, getM (dijkM L S s) k = some v → Drv L S s k v) ∧ (∀ k v, Drv L S s k v → ∃ w, w ≤ v ∧ getM (dijkM L S s) k = some w) := by
  obtain ⟨q', e, -, -⟩ := dijkI_some (S := S) 1000 ([], line0 L S s) (TI.start L S s) (by simpa using hl)
  have h := dijkI_DI hp 1000 _ q' (DI.start L S s) e
  have ed : dijkM L S s = q'.1 := by unfold dijkM; rw [e]; rfl
  rw [ed]
  obtain ⟨h, hn⟩ := h
  refine ⟨h.df, fun k v d => ?_⟩
  have no : ∀ o w, getM q'.2 o = some w → False := fun o w hw => by rw [hn] at hw; simp [getM] at hw
  induction d with
  | first ho =>
    obtain ⟨v, hv, hh⟩ := h.fi _ ho
    rcases hh with hh | hh
    · exact ⟨v, hv, hh⟩
    · exact (no _ _ hh).elim
  | next _ ho ih =>
    obtain ⟨w, hw, hh⟩ := ih
    obtain ⟨u, hu, hh⟩ := h.nx _ _ hh _ ho
    rcases hh with hh | hh
    · exact ⟨u, by omega, hh⟩
    · exact (no _ _ hh).elim
end Q
set_option maxRecDepth 100000
namespace Q
open PySem Pu
theorem comp_D {vs : List Nat} {g : G} {t : T} {a : M} {ρ : Pu.Env} (p : D → Bool) (f : D → D) (ds acc : List D) (h : ∀ w ∈ ds, ∃ ρ1, g w ρ = some ρ1 ∧ t ρ1 = some (p w, ρ1) ∧ (p w = true → ∃ r, a ρ1 = some (r, ρ1) ∧ share r ρ1 = some (f w, ρ1)) ∧ wipeE ρ1 vs = ρ) :
    compGo vs g t a ds acc ρ = some (acc ++ (ds.filter p).map f, ρ) := by
  have := comp_map (t := t) (a := a) (g := g) (vs := vs) (ρ := ρ) (fun d : D => d) p f ds acc h
  simpa using this
theorem comp_D1 {vs : List Nat} {g : G} {a : M} {ρ : Pu.Env} (f : D → D) (ds : List D) (h : ∀ w ∈ ds, ∃ ρ1, g w ρ = some ρ1 ∧ (∃ r, a ρ1 = some (r, ρ1) ∧ share r ρ1 = some (f w, ρ1)) ∧ wipeE ρ1 vs = ρ) :
    compGo vs g tYes a ds [] ρ = some (ds.map f, ρ) := by
  have := comp_D (t := tYes) (a := a) (g := g) (vs := vs) (ρ := ρ) (fun _ => true) f ds [] fun w hw => by
    obtain ⟨ρ1, h1, h2, h3⟩ := h w hw
    exact ⟨ρ1, h1, rfl, fun _ => h2, h3⟩
  rw [filter_all] at this
  simpa using this
theorem comp_M {α : Type} {vs : List Nat} {g : G} {a : M} {ρ : Pu.Env} (enc : α → D) (f : α → D) (xs : List α) (h : ∀ w ∈ xs, ∃ ρ1, g (enc w) ρ = some ρ1 ∧ (∃ r, a ρ1 = some (r, ρ1) ∧ share r ρ1 = some (f w, ρ1)) ∧ wipeE ρ1 vs = ρ) :
    compGo vs g tYes a (xs.map enc) [] ρ = some (xs.map f, ρ) := by
  have := comp_map (t := tYes) (a := a) (g := g) (vs := vs) (ρ := ρ) enc (fun _ => true) f xs [] fun w hw => by
    obtain ⟨ρ1, h1, h2, h3⟩ := h w hw
    exact ⟨ρ1, h1, rfl, fun _ => h2, h3⟩
  rw [filter_all] at this
  simpa using this
def isIntD (lo hi : Int) : D → Bool
  | .int i => decide (lo ≤ i) && decide (i ≤ hi)
  | _ => false
def noDict : D → Bool
  | .dict _ => false
  | _ => true
def items : D → List D
  | .tuple xs => xs
  | .list xs => xs
  | _ => []
def tame (v : D) : Bool := noDict v && (items v).all noDict
theorem integerD {v : D} (lo hi : Int) (h : noDict v = true) : F_is_integer [.sh v, .sh (.int lo), .sh (.int hi)] = some (.sh (.bool (isIntD lo hi v)), [.sh v, .sh (.int lo), .sh (.int hi)]) := by
  cases v with
  | int i => simp! only [F_is_integer, b_is_integer, isIntD]
  | dict => cases h
  | _ => rfl
theorem pAll_bools {α : Type} (ds : List α) (f : α → Bool) : pAll [.list (ds.map fun d => .bool (f d))] = some (.sh (.bool (ds.all f))) := by
  have h1 : (ds.map fun d => PyData.bool (f d)).all isBool = true := by simp [isBool]
  have h2 : (ds.map fun d => PyData.bool (f d)).all Pu.boolOf = ds.all f := by rw [List.all_map]; rfl
  simp only [pAll, h1, h2, if_true]
theorem pAny_bools {α : Type} (ds : List α) (f : α → Bool) : pAny [.list (ds.map fun d => .bool (f d))] = some (.sh (.bool (ds.any f))) := by
  have h1 : (ds.map fun d => PyData.bool (f d)).all isBool = true := by simp [isBool]
  have h2 : (ds.map fun d => PyData.bool (f d)).any Pu.boolOf = ds.any f := by rw [List.any_map]; rfl
  simp only [pAny, h1, h2, if_true]
def intV : D → Int
  | .int i => i
  | _ => 0
def risesI (xs : List D) : Bool := risesM (fun a b => decide (a < b)) (xs.map intV)
theorem ints_of {lo hi : Int} {xs : List D} (h : xs.all (isIntD lo hi) = true) : xs = (xs.map intV).map .int := by
  induction xs with
  | nil => rfl
  | cons x xs ih =>
    simp only [List.all_cons, Bool.and_eq_true] at h
    have : x = .int (intV x) := by cases x <;> first | rfl | simp [isIntD] at h
    rw [List.map_cons, List.map_cons, ← ih h.2, ← this]
theorem rises_ints (ys : List Int) : F_rises [.sh (.tuple (ys.map .int))] = some (.sh (.bool (risesM (fun a b => decide (a < b)) ys)), [.sh (.tuple (ys.map .int))]) :=
  risesT_eq PyData.int (fun a b => decide (a < b)) (fun x y => by rfl) ys
def numsD (lo hi : Int) : D → Bool
  | .tuple xs => xs.all (isIntD lo hi) && risesI xs
  | _ => false
theorem numbersD {v : D} (lo hi : Int) (h : tame v = true) : F_are_numbers [.sh v, .sh (.int lo), .sh (.int hi)] = some (.sh (.bool (numsD lo hi v)), [.sh v, .sh (.int lo), .sh (.int hi)]) := by
  cases v with
  | tuple xs =>
    have c := comp_D1 (ρ := [.sh (.tuple xs), .sh (.int lo), .sh (.int hi), .no]) (vs := [3]) (g := gName 3) (a := c_are_numbers_1) (fun d => .bool (isIntD lo hi d)) xs fun w hw => by
      have hw2 : noDict w = true := by simp [tame, items] at h; exact h.2 w hw
      exact ⟨[.sh (.tuple xs), .sh (.int lo), .sh (.int hi), .sh w], rfl, ⟨_, by simp! only [c_are_numbers_1, integerD lo hi hw2]; rfl, rfl⟩, rfl⟩
    by_cases hx : xs.all (isIntD lo hi) = true
    · have e := ints_of hx
      have r := rises_ints (xs.map intV)
      rw [← e] at r
      simp! only [F_are_numbers, b_are_numbers, c, pAll_bools, hx, r, numsD, risesI]
    · simp! only [F_are_numbers, b_are_numbers, c, pAll_bools, hx, numsD]
  | dict => simp [tame, noDict] at h
  | _ => rfl
end Q
set_option maxRecDepth 100000
namespace Q
open PySem Pu
def dlt (p q : Dir) : Bool := if p.1 = q.1 then decide (p.2 < q.2) else decide (p.1 < q.1)
theorem pLt_dir (p q : Dir) : pLt (dirD p) (dirD q) = some (.sh (.bool (dlt p q))) := by
  by_cases h : p.1 = q.1
  · by_cases h2 : p.2 = q.2 <;> simp [pLt, ltD, dirD, eqOk, PyData.canLay0, PyData.canLayAll0, PyData.depth, PyData.depthAll, ltv, ltAll, eqv_int, h, h2, dlt, bR]
  · simp [pLt, ltD, dirD, eqOk, PyData.canLay0, PyData.canLayAll0, PyData.depth, PyData.depthAll, ltv, ltAll, eqv_int, h, dlt, bR]
theorem isIntD_int (lo hi i : Int) : isIntD lo hi (.int i) = (decide (lo ≤ i) && decide (i ≤ hi)) := rfl
theorem isIntD_of {lo hi : Int} {x : D} (h : isIntD lo hi x = true) : ∃ i, x = .int i ∧ lo ≤ i ∧ i ≤ hi := by
  cases x with
  | int i => exact ⟨i, rfl, by simpa [isIntD] using h⟩
  | _ => simp [isIntD] at h
def isStreetD (n : Int) : D → Bool
  | .tuple [.int a, b, c] => (decide (0 ≤ a) && decide (a ≤ n - 1)) && (isIntD (a + 1) (n - 1) b && isIntD 1 99 c)
  | _ => false
theorem streetD {v : D} (n : Int) (h : tame v = true) : F_is_street [.sh (.int n), .sh v] = some (.sh (.bool (isStreetD n v)), [.sh (.int n), .sh v]) := by
  cases v with
  | tuple xs =>
    by_cases hl : xs.length = 3
    · match xs, hl with
      | [a, b, c], _ =>
        have h' : noDict a = true ∧ noDict b = true ∧ noDict c = true := by simpa [tame, items, noDict] using h
        cases a with
        | int i => 
          simp! only [F_is_street, b_is_street, integerD (v := .int i) _ _ h'.1, integerD (v := b) _ _ h'.2.1, integerD (v := c) _ _ h'.2.2, isIntD_int, isStreetD]
        | dict => simp [noDict] at h'
        | _ => simp! only [F_is_street, b_is_street, integerD _ _ h'.1, isIntD, isStreetD]
    · have e : isStreetD n (.tuple xs) = false := by
        unfold isStreetD; split <;> simp_all
      have : ¬ ((xs.length : Int) = 3) := by omega
      simp! only [F_is_street, b_is_street, e, this]
  | dict => simp [tame, noDict] at h
  | _ => rfl
def tame2 (v : D) : Bool := noDict v && (items v).all tame
def strOf : D → Street
  | .tuple [.int a, .int b, .int c] => (a, b, c)
  | _ => (0, 0, 0)
theorem street_of {n : Int} {x : D} (h : isStreetD n x = true) : x = strD (strOf x) := by
  unfold isStreetD at h
  split at h
  · rename_i a b c
    simp only [Bool.and_eq_true] at h
    cases b <;> simp [isIntD] at h
    cases c <;> simp at h
    rfl
  · cases h
theorem streets_of {n : Int} {xs : List D} (h : xs.all (isStreetD n) = true) : xs = (xs.map strOf).map strD := by
  rw [List.map_map]
  conv => lhs; rw [← List.map_id xs]
  exact List.map_congr_left fun x hx => street_of (List.all_eq_true.mp h x hx)
def risesS (ss : List Street) : Bool := risesM dlt (ss.map fun s => (s.1, s.2.1))
def streetsD (n : Int) : D → Bool
  | .tuple xs => (decide ((1 : Int) ≤ xs.length) && decide ((xs.length : Int) ≤ 14)) && xs.all (isStreetD n) && risesS (xs.map strOf)
  | _ => false
theorem arestreetsD {v : D} (n : Int) (h : tame2 v = true) : F_are_streets [.sh (.int n), .sh v] = some (.sh (.bool (streetsD n v)), [.sh (.int n), .sh v]) := by
  cases v with
  | tuple xs =>
    have c := comp_D1 (ρ := [.sh (.int n), .sh (.tuple xs), .no]) (vs := [2]) (g := gName 2) (a := c_are_streets_1) (fun d => .bool (isStreetD n d)) xs fun w hw => by
      have hw2 : tame w = true := by simp [tame2, items] at h; exact h.2 w hw
      exact ⟨[.sh (.int n), .sh (.tuple xs), .sh w], rfl, ⟨_, by simp! only [c_are_streets_1, streetD n hw2]; rfl, rfl⟩, rfl⟩
    by_cases hx : xs.all (isStreetD n) = true
    · have e := streets_of hx
      have c2 := comp_M (ρ := [.sh (.int n), .sh (.tuple xs), .no]) (vs := [2]) (g := gName 2) (a := c_are_streets_2) strD (fun s => dirD (s.1, s.2.1)) (xs.map strOf) fun w hw =>
        ⟨[.sh (.int n), .sh (.tuple xs), .sh (strD w)], rfl, ⟨.sh (dirD (w.1, w.2.1)), rfl, rfl⟩, rfl⟩
      rw [← e] at c2
      have r := risesL_eq dirD dlt pLt_dir ((xs.map strOf).map fun s => (s.1, s.2.1))
      rw [List.map_map] at r
      simp only [Function.comp_def] at r
      simp! only [F_are_streets, b_are_streets, c, pAll_bools, hx, streetsD, c2, r, risesS]
    · simp! only [F_are_streets, b_are_streets, c, pAll_bools, hx, streetsD]
  | dict => simp [tame2, noDict] at h
  | _ => rfl
def isB (a b : Int) (s : Street) : Bool := decide (s.1 = mn a b) && decide (s.2.1 = mx a b)
def ixV : Option Nat → D
  | none => .none
  | some i => .int (i : Nat)
theorem pEq_dir (p q : Dir) : pEq (dirD p) (dirD q) = some (.sh (.bool (decide (p = q)))) := by
  simp [pEq, eqD, dirD, eqOk, PyData.canLay0, PyData.canLayAll0, PyData.depth, PyData.depthAll, bR]
  exact eqv_dir p q
theorem slice2 (s : Street) : pSlice (strD s) none (some 2) = some (.sh (dirD (s.1, s.2.1))) := rfl
theorem isB_dir (a b : Int) (s : Street) : decide (((s.1, s.2.1) : Dir) = (mn a b, mx a b)) = isB a b s := by
  unfold isB
  by_cases h1 : s.1 = mn a b <;> by_cases h2 : s.2.1 = mx a b <;> simp [h1, h2]
theorem findIdx_zip {α : Type} (l : List α) (p : α → Bool) (k : Nat) : (l.findIdx? p).map (· + k) = ((l.zipIdx k).find? (fun x => p x.1)).map (·.2) := by
  induction l generalizing k with
  | nil => rfl
  | cons x l ih =>
    rw [List.findIdx?_cons, List.zipIdx_cons, List.find?_cons]
    cases h : p x with
    | true => simp [h]
    | false =>
      simp only [h]
      rw [← ih (k + 1)]
      cases l.findIdx? p <;> simp; omega
theorem betweenD (ss : List Street) (a b : Int) : F_street_between [.sh (.tuple (ss.map strD)), .sh (.int a), .sh (.int b)] = some (.sh (ixV (ss.findIdx? (isB a b))), [.sh (.tuple (ss.map strD)), .sh (.int a), .sh (.int b)]) := by
  have loop := for_inv (g := gTup (gsCons (gName 3) (gsCons (gName 4) gsNil))) (s := b_street_between_1) (fun p : Street × Nat => .tuple [.int (p.2 : Nat), strD p.1])
    (fun xs ρ => xs.find? (fun p => isB a b p.1) = ss.zipIdx.find? (fun p => isB a b p.1) ∧ ∃ t3 t4, freeS t3 = true ∧ freeS t4 = true ∧ ρ = [.sh (.tuple (ss.map strD)), .sh (.int a), .sh (.int b), t3, t4])
    (fun o => match ss.zipIdx.find? (fun p => isB a b p.1) with
      | none => ∃ ρ, o = .nx ρ ∧ ∃ t3 t4, ρ = [.sh (.tuple (ss.map strD)), .sh (.int a), .sh (.int b), t3, t4]
      | some w => ∃ ρ, o = .rt (.sh (.int (w.2 : Nat))) ρ ∧ ∃ t3 t4, ρ = [.sh (.tuple (ss.map strD)), .sh (.int a), .sh (.int b), t3, t4])
    (fun w xs ρ h => by
      obtain ⟨h1, t3, t4, f3, f4, rfl⟩ := h
      rw [List.find?_cons] at h1
      have e := pEq_dir (w.1.1, w.1.2.1) (mn a b, mx a b)
      rw [isB_dir] at e
      have e2 : pEq (dirD (w.1.1, w.1.2.1)) (.tuple [.int (if b < a then b else a), .int (if b > a then b else a)]) = some (.sh (.bool (isB a b w.1))) := e
      have hg : gTup (gsCons (gName 3) (gsCons (gName 4) gsNil)) (.tuple [.int (w.2 : Nat), strD w.1]) [.sh (.tuple (ss.map strD)), .sh (.int a), .sh (.int b), t3, t4] = some [.sh (.tuple (ss.map strD)), .sh (.int a), .sh (.int b), .sh (.int (w.2 : Nat)), .sh (strD w.1)] := by
        simp! only [w_putF f3, w_putF f4]
      cases hb : isB a b w.1 with
      | true =>
        simp only [hb] at h1 e2
        refine ⟨_, hg, .rt (by simp! only [b_street_between_1, slice2, e2]; rfl) ?_⟩
        rw [← h1]; exact ⟨_, rfl, _, _, rfl⟩
      | false =>
        simp only [hb] at h1 e2
        exact ⟨_, hg, .nx (by simp! only [b_street_between_1, slice2, e2]; rfl) ⟨h1, _, _, rfl, rfl, rfl⟩⟩)
    (fun ρ h => by
      obtain ⟨h1, t3, t4, f3, f4, rfl⟩ := h
      rw [← h1]
      exact ⟨_, rfl, _, _, rfl⟩) ss.zipIdx [.sh (.tuple (ss.map strD)), .sh (.int a), .sh (.int b), .no, .no] ⟨rfl, _, _, rfl, rfl, rfl⟩
  have key : ss.findIdx? (isB a b) = (ss.zipIdx.find? (fun p => isB a b p.1)).map (·.2) := by
    have := findIdx_zip ss (isB a b) 0
    simpa using this
  obtain ⟨o, e, h⟩ := loop
  rw [← enum_map] at e
  rw [key]
  cases hf : ss.zipIdx.find? (fun p => isB a b p.1) with
  | none =>
    rw [hf] at h
    obtain ⟨ρ, rfl, t3, t4, rfl⟩ := h
    simp! only [F_street_between, b_street_between, e, ixV]
  | some w =>
    rw [hf] at h
    obtain ⟨ρ, rfl, t3, t4, rfl⟩ := h
    simp! only [F_street_between, b_street_between, e, ixV]
end Q
set_option maxRecDepth 100000
namespace Q
open PySem Pu
def isW (k : Dir) (s : Street) : Bool := decide (k = (s.1, s.2.1)) || decide (k = (s.2.1, s.1))
theorem len_get : ∀ (ss : List Street) (L : Tab) (k : Dir), getM (ss.foldl (fun L s => putM (putM L (s.1, s.2.1) s.2.2) (s.2.1, s.1) s.2.2) L) k = match ss.reverse.find? (isW k) with
    | some s => some s.2.2
    | none => getM L k
  | [], L, k => by simp
  | s :: ss, L, k => by
    rw [List.foldl_cons, len_get ss, List.reverse_cons, List.find?_append]
    cases h : ss.reverse.find? (isW k) with
    | some t => rfl
    | none =>
      simp only [Option.none_or, getM_put, List.find?_cons, List.find?_nil, isW]
      by_cases h1 : k = (s.2.1, s.1)
      · simp [h1]
      · by_cases h2 : k = (s.1, s.2.1)
        · subst h2; simp [h1]
        · simp [h1, h2]
structure Sts (n : Int) (ss : List Street) : Prop where
  ok : ∀ s ∈ ss, 0 ≤ s.1 ∧ s.1 < s.2.1 ∧ s.2.1 < n ∧ 1 ≤ s.2.2 ∧ s.2.2 ≤ 99
  un : ∀ s ∈ ss, ∀ t ∈ ss, s.1 = t.1 → s.2.1 = t.2.1 → s = t
def Adj (ss : List Street) (a b l : Int) : Prop := (a, b, l) ∈ ss ∨ (b, a, l) ∈ ss
theorem Adj.symm {ss : List Street} {a b l : Int} (h : Adj ss a b l) : Adj ss b a l := h.elim .inr .inl
theorem len_adj {n : Int} {ss : List Street} (h : Sts n ss) (a b l : Int) : getM (lengthsM ss) (a, b) = some l ↔ Adj ss a b l := by
  have e := len_get ss [] (a, b)
  change getM (lengthsM ss) (a, b) = _ at e
  rw [e]
  constructor
  · intro h1
    cases hf : ss.reverse.find? (isW (a, b)) with
    | none => rw [hf] at h1; simp [getM] at h1
    | some s =>
      rw [hf] at h1
      simp only [Option.some.injEq] at h1
      have h2 := List.find?_some hf
      have h3 := List.mem_reverse.mp (List.mem_of_find?_eq_some hf)
      obtain ⟨x, y, z⟩ := s
      simp only [isW, Bool.or_eq_true, decide_eq_true_eq, Prod.mk.injEq] at h2 h1
      subst h1
      rcases h2 with ⟨rfl, rfl⟩ | ⟨rfl, rfl⟩
      · exact .inl h3
      · exact .inr h3
  · intro h1
    have : ∃ s, ss.reverse.find? (isW (a, b)) = some s := by
      cases hf : ss.reverse.find? (isW (a, b)) with
      | some s => exact ⟨s, rfl⟩
      | none =>
        rw [List.find?_eq_none] at hf
        rcases h1 with h1 | h1
        · exact absurd (by simp [isW]) (hf _ (List.mem_reverse.mpr h1))
        · exact absurd (by simp [isW]) (hf _ (List.mem_reverse.mpr h1))
    obtain ⟨s, hf⟩ := this
    rw [hf]
    have h2 := List.find?_some hf
    have h3 := List.mem_reverse.mp (List.mem_of_find?_eq_some hf)
    obtain ⟨x, y, z⟩ := s
    have o3 := h.ok _ h3
    simp only [isW, Bool.or_eq_true, decide_eq_true_eq, Prod.mk.injEq] at h2
    simp only [Option.some.injEq]
    rcases h2 with ⟨rfl, rfl⟩ | ⟨rfl, rfl⟩ <;> rcases h1 with h1 | h1
    · have := h.un _ h3 _ h1 rfl rfl; cases this; rfl
    · have := h.ok _ h1; simp only at this o3; omega
    · have := h.ok _ h1; simp only at this o3; omega
    · have := h.un _ h3 _ h1 rfl rfl; cases this; rfl
theorem len_key {n : Int} {ss : List Street} (h : Sts n ss) (k : Dir) : k ∈ (lengthsM ss).map (·.1) ↔ ∃ l, Adj ss k.1 k.2 l := by
  rw [← get_some]
  constructor
  · intro h1
    cases e : getM (lengthsM ss) k with
    | none => rw [e] at h1; cases h1
    | some l => exact ⟨l, (len_adj h k.1 k.2 l).mp e⟩
  · rintro ⟨l, hl⟩
    rw [show k = (k.1, k.2) from rfl, (len_adj h k.1 k.2 l).mpr hl]; rfl
theorem len_pos {n : Int} {ss : List Street} (h : Sts n ss) : ∀ o ∈ (lengthsM ss).map (·.1), 1 ≤ lenOf (lengthsM ss) o := fun o ho => by
  obtain ⟨l, hl⟩ := (len_key h o).mp ho
  have e : lenOf (lengthsM ss) o = l := by unfold lenOf; rw [show o = (o.1, o.2) from rfl, (len_adj h o.1 o.2 l).mpr hl]; rfl
  rw [e]
  rcases hl with hl | hl <;> exact (h.ok _ hl).2.2.2.1
theorem lengths_le (ss : List Street) : (lengthsM ss).length ≤ 2 * ss.length := by
  have := lengths_len ss []
  unfold lengthsM
  simpa using this
inductive Wk (ss : List Street) (x : Int) : Nat → Int → Prop where
  | nil : Wk ss x 0 x
  | step {m : Nat} {z y l : Int} : Wk ss x m z → Adj ss z y l → Wk ss x (m + 1) y
theorem Wk.trans {ss : List Street} {x y z : Int} {m k : Nat} (h1 : Wk ss x m y) (h2 : Wk ss y k z) : Wk ss x (m + k) z := by
  induction h2 with
  | nil => exact h1
  | step _ ha ih => exact .step ih ha
theorem Wk.one {ss : List Street} {x y l : Int} (h : Adj ss x y l) : Wk ss x 1 y := .step .nil h
theorem Wk.symm {ss : List Street} {x y : Int} {m : Nat} (h : Wk ss x m y) : Wk ss y m x := by
  induction h with
  | nil => exact .nil
  | @step m z y l _ ha ih =>
    have := (Wk.one ha.symm).trans ih
    rwa [Nat.add_comm] at this
def Far (ss : List Street) (x y : Int) (m : Nat) : Prop := Wk ss x m y ∧ ∀ k, k < m → ¬ Wk ss x k y
theorem far_ex {ss : List Street} {x y : Int} : ∀ m, Wk ss x m y → ∃ k, Far ss x y k := by
  intro m
  induction m using Nat.strongRecOn with
  | _ m ih =>
    intro h
    by_cases hk : ∃ k, k < m ∧ Wk ss x k y
    · obtain ⟨k, hk, hw⟩ := hk; exact ih k hk hw
    · exact ⟨m, h, fun k hkm hw => hk ⟨k, hkm, hw⟩⟩
theorem far_drv {n : Int} {ss : List Street} (h : Sts n ss) {x : Int} : ∀ (m : Nat) (y : Int), Far ss x y (m + 1) → ∃ z v, Far ss x z m ∧ Drv (lengthsM ss) [] x (z, y) v := by
  intro m
  induction m with
  | zero =>
    intro y hy
    cases hy.1 with
    | step hz ha =>
      cases hz
      refine ⟨x, _, ⟨.nil, fun k hk => by omega⟩, .first ?_⟩
      unfold firstsM
      rw [List.mem_filter]
      exact ⟨(len_key h _).mpr ⟨_, ha⟩, by simp [fst, bars, hasS]⟩
  | succ m ih =>
    intro y hy
    cases hy.1 with
    | @step _ z _ l hz ha =>
      have fz : Far ss x z (m + 1) := ⟨hz, fun k hk hw => hy.2 (k + 1) (by omega) (.step hw ha)⟩
      obtain ⟨w, v, fw, dw⟩ := ih z fz
      refine ⟨z, _, fz, .next dw ?_⟩
      unfold nextsM
      rw [List.mem_filter]
      refine ⟨(len_key h _).mpr ⟨_, ha⟩, ?_⟩
      have : ¬ y = w := fun e => hy.2 m (by omega) (e ▸ fw.1)
      simp [nxt, bars, hasS, this]
def Tree0 (n : Int) (ss : List Street) : Prop := ∀ b, 1 ≤ b → b < n → ∃ a l, 0 ≤ a ∧ a < b ∧ (a, b, l) ∈ ss
def Tree (n : Int) (ss : List Street) : Prop := ∀ b, 0 ≤ b → b < n → ∃ k, Wk ss 0 k b
theorem tree_zero {n : Int} {ss : List Street} (h : Tree n ss) : ∀ (m : Nat) (b : Int), b.toNat ≤ m → 0 ≤ b → b < n → ∃ k, Wk ss 0 k b := fun _ b _ h0 h1 => h b h0 h1
theorem tree0_zero {n : Int} {ss : List Street} (h : Tree0 n ss) : ∀ (m : Nat) (b : Int), b.toNat ≤ m → 0 ≤ b → b < n → ∃ k, Wk ss 0 k b := by
  intro m
  induction m with
  | zero => intro b hb h0 hn; have : b = 0 := by omega
            subst this; exact ⟨0, .nil⟩
  | succ m ih =>
    intro b hb h0 hn
    by_cases hb0 : b = 0
    · subst hb0; exact ⟨0, .nil⟩
    · obtain ⟨a, l, ha0, hab, hm⟩ := h b (by omega) hn
      obtain ⟨k, hk⟩ := ih a (by omega) ha0 (by omega)
      exact ⟨k + 1, .step hk (.inl hm)⟩
theorem Tree0.tree {n : Int} {ss : List Street} (h : Tree0 n ss) : Tree n ss := fun b h0 h1 => tree0_zero h b.toNat b (Nat.le_refl _) h0 h1
theorem wk_last {ss : List Street} {x y : Int} {k : Nat} (w : Wk ss x k y) (hne : x ≠ y) : ∃ z l, Adj ss z y l := by
  cases w with
  | nil => exact absurd rfl hne
  | step _ a => exact ⟨_, _, a⟩
theorem tree_drv {n : Int} {ss : List Street} (h : Sts n ss) (ht : Tree n ss) {x y : Int} (hx : 0 ≤ x ∧ x < n) (hy : 0 ≤ y ∧ y < n) (hne : x ≠ y) : ∃ z v, Drv (lengthsM ss) [] x (z, y) v := by
  obtain ⟨k, hk⟩ := tree_zero ht x.toNat x (by omega) hx.1 hx.2
  obtain ⟨j, hj⟩ := tree_zero ht y.toNat y (by omega) hy.1 hy.2
  obtain ⟨m, hm⟩ := far_ex _ (hk.symm.trans hj)
  cases m with
  | zero => cases hm.1; exact absurd rfl hne
  | succ m => obtain ⟨z, v, -, d⟩ := far_drv h m y hm; exact ⟨z, v, d⟩
theorem least_some {T : Tab} {g : Int} : (leastM T g).isSome = true ↔ ∃ k v, (k, v) ∈ T ∧ k.2 = g := by
  unfold leastM
  cases e : toM T g with
  | nil =>
    simp only [Option.isSome_none, Bool.false_eq_true, false_iff]
    rintro ⟨k, v, hm, hk⟩
    have : v ∈ toM T g := by
      unfold toM
      exact List.mem_map.mpr ⟨(k, v), List.mem_filter.mpr ⟨hm, by simpa using hk⟩, rfl⟩
    rw [e] at this; simp at this
  | cons v r =>
    simp only [Option.isSome_some, true_iff]
    have : v ∈ toM T g := by rw [e]; simp
    unfold toM at this
    obtain ⟨q, hq, _⟩ := List.mem_map.mp this
    rw [List.mem_filter] at hq
    exact ⟨q.1, q.2, hq.1, by simpa using hq.2⟩
theorem dijk_some {L : Tab} {S : List D} {s g : Int} (hp : ∀ o ∈ L.map (·.1), 0 ≤ lenOf L o) (hl : L.length ≤ 900) : (leastM (dijkM L S s) g).isSome = true ↔ ∃ z v, Drv L S s (z, g) v := by
  have sp := dijk_spec (S := S) (s := s) hp (by omega)
  rw [least_some]
  constructor
  · rintro ⟨k, v, hm, hk⟩
    have nd := dijk_nodup L S s hl
    have := sp.1 k v (getM_of nd hm)
    subst hk
    exact ⟨k.1, v, this⟩
  · rintro ⟨z, v, d⟩
    obtain ⟨w, _, hw⟩ := sp.2 _ _ d
    exact ⟨(z, g), w, getM_mem' hw, rfl⟩
theorem joins_tree {n : Int} {ss : List Street} (h : Sts n ss) (ht : Tree n ss) (hl : ss.length ≤ 400) {gates houses : List Int} (hg : ∀ g ∈ gates, 0 ≤ g ∧ g < n) (hh : ∀ g ∈ houses, 0 ≤ g ∧ g < n) (hd : ∀ x ∈ gates, x ∉ houses) (h0 : gates ≠ []) : joinsM ss [] gates houses = true := by
  have hp : ∀ o ∈ (lengthsM ss).map (·.1), 0 ≤ lenOf (lengthsM ss) o := fun o ho => by have := len_pos h o ho; omega
  have hll : (lengthsM ss).length ≤ 900 := by have := lengths_le ss; omega
  have key : ∀ x y, 0 ≤ x ∧ x < n → 0 ≤ y ∧ y < n → x ≠ y → (leastM (dijkM (lengthsM ss) [] x) y).isSome = true := fun x y hx hy hne => (dijk_some hp hll).mpr (tree_drv h ht hx hy hne)
  unfold joinsM
  rw [Bool.and_eq_true]
  constructor
  · rw [List.all_eq_true]
    intro g hg1
    unfold gateOk
    rw [List.all_eq_true]
    intro o ho
    by_cases e : o = g
    · simp [e]
    · simp [key g o (hg g hg1) (hg o ho) (Ne.symm e)]
  · rw [List.all_eq_true]
    intro y hy
    unfold homeOk
    cases gates with
    | nil => exact absurd rfl h0
    | cons g gs =>
      have hne : g ≠ y := fun e => hd g (by simp) (e ▸ hy)
      have k1 := key g y (hg g (by simp)) (hh y hy) hne
      have k2 := key y g (hh y hy) (hg g (by simp)) (Ne.symm hne)
      have e1 : (leastM (dijkM (lengthsM ss) [] g) y).isNone = false := by rw [← Option.not_isSome, k1]; rfl
      have e2 : (leastM (dijkM (lengthsM ss) [] y) g).isNone = false := by rw [← Option.not_isSome, k2]; rfl
      simp only [List.all_cons, e1, e2, Bool.false_and, Bool.not_false, Bool.and_self]
end Q
set_option maxRecDepth 100000
namespace Q
open PySem Pu
def joined (ss : List Street) (a b : Int) : Bool := (ss.findIdx? (isB a b)).isSome
theorem none_ixV (o : Option Nat) : (!isNoneD (ixV o)) = o.isSome := by cases o <;> rfl
theorem all2 (a b : Bool) : pAll [.list [.bool a, .bool b]] = some (.sh (.bool (a && b))) := by simp [pAll, isBool, Pu.boolOf]
theorem all1 (a : Bool) : pAll [.list [.bool a]] = some (.sh (.bool a)) := by simp [pAll, isBool, Pu.boolOf]
theorem all3 (a b c : Bool) : pAll [.list [.bool a, .bool b, .bool c]] = some (.sh (.bool (a && (b && c)))) := by simp [pAll, isBool, Pu.boolOf]
theorem eqv_str (a b : Str) : PyData.eqv (.str a) (.str b) = decide (a = b) := by
  have := eqv_ok (.str a) (.str b) (by simp [okd]) (by simp [okd])
  by_cases h : a = b
  · rw [decide_eq_true h]; exact this.mpr (by rw [h])
  · rw [decide_eq_false h]
    cases e : PyData.eqv (.str a) (.str b) with
    | false => rfl
    | true => have := this.mp e; cases this; exact absurd rfl h
def signD (n : Int) (ss : List Street) : D → Bool
  | .tuple [.str k, .int a, .int b] => (decide (k = Str.ofString "way") || decide (k = Str.ofString "shut")) && ((decide (0 ≤ a) && decide (a ≤ n - 1)) && (decide (0 ≤ b) && decide (b ≤ n - 1))) && joined ss a b && (if k = Str.ofString "shut" then decide (a < b) else !decide (a = b))
  | .tuple [.str k, .int a, .int b, .int c] => decide (k = Str.ofString "turn") && ((decide (0 ≤ a) && decide (a ≤ n - 1)) && ((decide (0 ≤ b) && decide (b ≤ n - 1)) && (decide (0 ≤ c) && decide (c ≤ n - 1)))) && (joined ss a b && joined ss b c) && !decide (a = c)
  | _ => false
theorem sl1 (x0 : D) (r : List D) : pSlice (.tuple (x0 :: r)) (some 1) none = some (.sh (.tuple r)) := by
  have := cut1 (x0 :: r)
  simp only [pSlice, this]; rfl
theorem sl2_3 (x y z : D) : pSlice (.tuple [x, y, z]) (some 2) none = some (.sh (.tuple [z])) := rfl
theorem sl2_4 (x y z w : D) : pSlice (.tuple [x, y, z, w]) (some 2) none = some (.sh (.tuple [z, w])) := rfl
theorem ixm1_3 (x y z : D) : pIx (.tuple [x, y, z]) (.int (-1)) = some (.sh z) := rfl
theorem ixm1_4 (x y z w : D) : pIx (.tuple [x, y, z, w]) (.int (-1)) = some (.sh w) := rfl
def kinds : List D := [.str (Str.ofString "way"), .str (Str.ofString "shut"), .str (Str.ofString "turn")]
theorem notin_kinds {k : Str} (h : PyData.strOk k = true) : pNotIn (.str k) (.tuple [.str (Str.ofString "way"), .str (Str.ofString "shut"), .str (Str.ofString "turn")]) = some (.sh (.bool (!(decide (k = Str.ofString "way") || (decide (k = Str.ofString "shut") || decide (k = Str.ofString "turn")))))) := by
  have hk : PyData.canLayAll0 kinds = true := by decide +kernel
  have h1 : inOk kinds (.str k) = true := by simp [inOk, hk, PyData.canLay0, h, PyData.depth]
  have h2 : (kinds.any fun z => PyData.eqv z (.str k)) = (decide (k = Str.ofString "way") || (decide (k = Str.ofString "shut") || decide (k = Str.ofString "turn"))) := by
    simp only [kinds, List.any_cons, List.any_nil, eqv_str, Bool.or_false, eq_comm]
  show ((if inOk kinds (.str k) then some (kinds.any fun z => PyData.eqv z (.str k)) else none).bind fun b => bR (!b)) = _
  rw [if_pos h1, h2]; rfl
theorem pEq_str {a b : Str} (ha : PyData.strOk a = true) (hb : PyData.strOk b = true) : pEq (.str a) (.str b) = some (.sh (.bool (decide (a = b)))) := by
  have h1 : eqOk (.str a) (.str b) = true := by simp [eqOk, PyData.canLay0, ha, hb, PyData.depth]
  show ((if eqOk (.str a) (.str b) then some (PyData.eqv (.str a) (.str b)) else none).bind bR) = _
  rw [if_pos h1, eqv_str]; rfl
theorem pNe_bool (a b : Bool) : pNe (.bool a) (.bool b) = some (.sh (.bool (a != b))) := by cases a <;> cases b <;> rfl
theorem ok_turn : PyData.strOk (Str.ofString "turn") = true := by decide +kernel
theorem ok_shut : PyData.strOk (Str.ofString "shut") = true := by decide +kernel
theorem ok_way : PyData.strOk (Str.ofString "way") = true := by decide +kernel
theorem ne_ts : Str.ofString "turn" ≠ Str.ofString "shut" := by decide +kernel
theorem ne_tw : Str.ofString "turn" ≠ Str.ofString "way" := by decide +kernel
theorem ne_sw : Str.ofString "shut" ≠ Str.ofString "way" := by decide +kernel
theorem signstandsD {v : D} (n : Int) (ss : List Street) (ht : tame v = true) (hs : ∀ k, Option.some (PyData.str k) = (items v)[0]? → PyData.strOk k = true) : F_sign_stands [.sh (.int n), .sh (.tuple (ss.map strD)), .sh v] = some (.sh (.bool (signD n ss v)), [.sh (.int n), .sh (.tuple (ss.map strD)), .sh v]) := by
  cases v with
  | tuple xs =>
    match xs with
    | [] => rfl
    | [a] => simp! only [F_sign_stands, b_sign_stands, signD]
    | [a, b] => simp! only [F_sign_stands, b_sign_stands, signD]
    | [x, y, z] =>
      have h' : noDict x = true ∧ noDict y = true ∧ noDict z = true := by simpa [tame, items, noDict] using ht
      cases x with
      | str k =>
        have hk := hs k rfl
        by_cases hy : isIntD 0 (n - 1) y = true
        · by_cases hz : isIntD 0 (n - 1) z = true
          · obtain ⟨a, rfl, ha⟩ := isIntD_of hy
            obtain ⟨b, rfl, hb⟩ := isIntD_of hz
            simp! only [F_sign_stands, b_sign_stands, c_sign_stands_1, c_sign_stands_2, x_compN, x_compC, integerD _ _ h'.2.1, integerD _ _ h'.2.2, notin_kinds hk, pEq_str hk ok_turn, pEq_str hk ok_shut, pNe_bool, sl1, sl2_3, ixm1_3, all2, all1, hy, hz, pairs, betweenD, none_ixV, Int.reduceNeg]
            have e1 : (decide (0 ≤ a) && decide (a ≤ n - 1)) = true := hy
            have e2 : (decide (0 ≤ b) && decide (b ≤ n - 1)) = true := hz
            congr 3
            simp only [signD, e1, e2, joined]
            by_cases h1 : k = Str.ofString "turn"
            · subst h1; simp [ne_ts, ne_tw]
            · by_cases h2 : k = Str.ofString "shut"
              · subst h2; simp [ne_ts.symm, ne_sw]
              · by_cases h3 : k = Str.ofString "way"
                · subst h3; simp [ne_tw.symm, ne_sw.symm]
                · simp [h1, h2, h3]
          · simp! only [F_sign_stands, b_sign_stands, c_sign_stands_1, c_sign_stands_2, x_compN, x_compC, integerD _ _ h'.2.1, integerD _ _ h'.2.2, notin_kinds hk, pEq_str hk ok_turn, pEq_str hk ok_shut, pNe_bool, sl1, sl2_3, ixm1_3, all2, all1, hy, hz]
            have : signD n ss (.tuple [.str k, y, z]) = false := by
              cases y <;> cases z <;> first | rfl | (simp only [isIntD_int] at hz; simp [signD, hz])
            rw [this]
        · simp! only [F_sign_stands, b_sign_stands, c_sign_stands_1, c_sign_stands_2, x_compN, x_compC, integerD _ _ h'.2.1, integerD _ _ h'.2.2, notin_kinds hk, pEq_str hk ok_turn, pEq_str hk ok_shut, pNe_bool, sl1, sl2_3, ixm1_3, all2, all1, hy]
          have : signD n ss (.tuple [.str k, y, z]) = false := by
            cases y <;> cases z <;> first | rfl | (simp only [isIntD_int] at hy; simp [signD, hy])
          rw [this]
      | dict => simp [noDict] at h'
      | _ => rfl
    | [x, y, z, w] =>
      have h' : noDict x = true ∧ noDict y = true ∧ noDict z = true ∧ noDict w = true := by simpa [tame, items, noDict] using ht
      cases x with
      | str k =>
        have hk := hs k rfl
        by_cases hi : (isIntD 0 (n - 1) y && (isIntD 0 (n - 1) z && isIntD 0 (n - 1) w)) = true
        · have hi' := hi
          simp only [Bool.and_eq_true] at hi'
          obtain ⟨a, rfl, ha⟩ := isIntD_of hi'.1
          obtain ⟨b, rfl, hb⟩ := isIntD_of hi'.2.1
          obtain ⟨c, rfl, hc⟩ := isIntD_of hi'.2.2
          simp! only [F_sign_stands, b_sign_stands, c_sign_stands_1, c_sign_stands_2, x_compN, x_compC, integerD _ _ h'.2.1, integerD _ _ h'.2.2.1, integerD _ _ h'.2.2.2, notin_kinds hk, pEq_str hk ok_turn, pEq_str hk ok_shut, pNe_bool, sl1, sl2_4, ixm1_4, all3, all2, hi, pairs, betweenD, none_ixV, Int.reduceNeg]
          have e1 : (decide (0 ≤ a) && decide (a ≤ n - 1)) = true := hi'.1
          have e2 : (decide (0 ≤ b) && decide (b ≤ n - 1)) = true := hi'.2.1
          have e3 : (decide (0 ≤ c) && decide (c ≤ n - 1)) = true := hi'.2.2
          congr 3
          simp only [signD, e1, e2, e3, joined]
          by_cases h1 : k = Str.ofString "turn"
          · subst h1; simp [ne_ts, ne_tw]
          · simp [h1]
        · simp! only [F_sign_stands, b_sign_stands, c_sign_stands_1, c_sign_stands_2, x_compN, x_compC, integerD _ _ h'.2.1, integerD _ _ h'.2.2.1, integerD _ _ h'.2.2.2, notin_kinds hk, pEq_str hk ok_turn, pEq_str hk ok_shut, pNe_bool, sl1, sl2_4, ixm1_4, all3, all2, hi]
          have : signD n ss (.tuple [.str k, y, z, w]) = false := by
            cases y <;> cases z <;> cases w <;> first | rfl | (simp only [isIntD_int] at hi; simp [signD, hi])
          rw [this]
      | dict => simp [noDict] at h'
      | _ => rfl
    | x :: y :: z :: w :: u :: r =>
      have : ¬ ((r.length + 1 + 1 + 1 + 1 + 1 : Nat) : Int) ≤ 4 := by omega
      simp! only [F_sign_stands, b_sign_stands, signD, this]
  | dict => simp [tame, noDict] at ht
  | _ => rfl
def headOk (x : D) : Bool := match (items x)[0]? with
  | Option.some (PyData.str k) => PyData.strOk k
  | _ => true
def tame3 (v : D) : Bool := noDict v && (items v).all tame && (items v).all headOk
def signsD (n : Int) (ss : List Street) (most : Int) : D → Bool
  | .tuple xs => !decide (most < (xs.length : Int)) && xs.all (signD n ss) && ((xs.zip (xs.drop 1)).all fun p => !leT p.2 p.1)
  | _ => false
theorem sign_ok {n : Int} {ss : List Street} {x : D} (h : signD n ss x = true) (hs : tame3 (.tuple [x]) = true) : (okd x = true ∧ x.canLay0 = true ∧ x.depth ≤ 60) ∧ isTup1 x = true := by
  unfold signD at h
  split at h
  · rename_i k a b
    have hk : PyData.strOk k = true := by simpa [tame3, items, noDict, tame, headOk] using hs
    refine ⟨⟨by simp [okd, okds], by simp [PyData.canLay0, PyData.canLayAll0, hk], by simp [PyData.depth, PyData.depthAll]⟩, rfl⟩
  · rename_i k a b c
    have hk : PyData.strOk k = true := by simpa [tame3, items, noDict, tame, headOk] using hs
    refine ⟨⟨by simp [okd, okds], by simp [PyData.canLay0, PyData.canLayAll0, hk], by simp [PyData.depth, PyData.depthAll]⟩, rfl⟩
  · cases h
theorem sign_cmp {n : Int} {ss : List Street} {x y : D} (h : signD n ss x = true) (h' : signD n ss y = true) : cmpOk x y = true := by
  unfold signD at h h'
  split at h <;> split at h' <;> first | (cases h; done) | (cases h'; done) | simp [cmpOk, cmpOks]
theorem rises_signs {n : Int} {ss : List Street} {xs : List D} (ht : tame3 (.tuple xs) = true) (hx : xs.all (signD n ss) = true) : F_rises [.sh (.tuple xs)] = some (.sh (.bool ((xs.zip (xs.drop 1)).all fun p => !leT p.2 p.1)), [.sh (.tuple xs)]) := by
  have hz : ∀ p ∈ xs.zip (xs.drop 1), p.1 ∈ xs ∧ p.2 ∈ xs := fun p hp => by
    obtain ⟨a, b⟩ := p
    have := List.of_mem_zip hp
    exact ⟨this.1, List.mem_of_mem_drop this.2⟩
  have hok : ∀ x ∈ xs, (okd x = true ∧ x.canLay0 = true ∧ x.depth ≤ 60) ∧ isTup1 x = true := fun x hx1 => by
    refine sign_ok (List.all_eq_true.mp hx x hx1) ?_
    simp only [tame3, items, noDict, Bool.and_eq_true, List.all_eq_true, Bool.true_and] at ht ⊢
    refine ⟨fun y hy => ?_, fun y hy => ?_⟩
    · rw [List.mem_singleton] at hy; subst hy; exact ht.1 y hx1
    · rw [List.mem_singleton] at hy; subst hy; exact ht.2 y hx1
  have c := comp_M (ρ := [.sh (.tuple xs), .no, .no]) (vs := [1, 2]) (g := gTup (gsCons (gName 1) (gsCons (gName 2) gsNil))) (a := c_rises_1) (fun p : D × D => .tuple [p.1, p.2]) (fun p => .bool (!leT p.2 p.1)) (xs.zip (xs.drop 1)) fun p hp => by
    have h1 := hok p.1 (hz p hp).1
    have h2 := hok p.2 (hz p hp).2
    have e := pLt_le h1.1 h2.1 h1.2 (sign_cmp (List.all_eq_true.mp hx _ (hz p hp).1) (List.all_eq_true.mp hx _ (hz p hp).2))
    exact ⟨[.sh (.tuple xs), .sh p.1, .sh p.2], rfl, ⟨_, by simp! only [c_rises_1, e]; rfl, rfl⟩, rfl⟩
  have pz : pairs xs (xs.drop 1) = (xs.zip (xs.drop 1)).map fun p => .tuple [p.1, p.2] := by
    have := pairs_zip (fun d : D => d) xs (xs.drop 1)
    simpa using this
  have hsl : pSlice (.tuple xs) (some 1) none = some (.sh (.tuple (xs.drop 1))) := by simp only [pSlice, cut1]
  simp! only [F_rises, b_rises, hsl, pz, c, pAll_bools]
theorem signsstandD {v : D} (n : Int) (ss : List Street) (most : Int) (ht : tame3 v = true) : F_signs_stand [.sh (.int n), .sh (.tuple (ss.map strD)), .sh v, .sh (.int most)] = some (.sh (.bool (signsD n ss most v)), [.sh (.int n), .sh (.tuple (ss.map strD)), .sh v, .sh (.int most)]) := by
  cases v with
  | tuple xs =>
    have c := comp_D1 (ρ := [.sh (.int n), .sh (.tuple (ss.map strD)), .sh (.tuple xs), .sh (.int most), .no]) (vs := [4]) (g := gName 4) (a := c_signs_stand_1) (fun d => .bool (signD n ss d)) xs fun w hw => by
      have ht' := ht
      simp only [tame3, items, noDict, Bool.and_eq_true, List.all_eq_true, Bool.true_and] at ht'
      have e := signstandsD (v := w) n ss (ht'.1 w hw) fun k hk => by
        have := ht'.2 w hw
        unfold headOk at this; rw [← hk] at this; exact this
      exact ⟨[.sh (.int n), .sh (.tuple (ss.map strD)), .sh (.tuple xs), .sh (.int most), .sh w], rfl, ⟨_, by simp! only [c_signs_stand_1, e]; rfl, rfl⟩, rfl⟩
    by_cases hx : xs.all (signD n ss) = true
    · simp! only [F_signs_stand, b_signs_stand, c, pAll_bools, hx, signsD, rises_signs ht hx]
    · simp! only [F_signs_stand, b_signs_stand, c, pAll_bools, hx, signsD]
  | dict => simp [tame3, noDict] at ht
  | _ => rfl
end Q
set_option maxRecDepth 100000
namespace Q
open PySem Pu
def iv (v : D) : List Int := (items v).map intV
def disj (g h : List Int) : Bool := h.any fun y => g.any fun x => decide (x = y)
def standsD : D → Bool
  | .tuple [.int n, ss, S, g, h, q] => (decide (2 ≤ n) && decide (n ≤ 9)) && (streetsD n ss && signsD n ((items ss).map strOf) 6 S) && (numsD 0 (n - 1) g && (decide (2 ≤ ((iv g).length : Int)) && decide (((iv g).length : Int) ≤ 4))) &&
      (numsD 0 (n - 1) h && (!decide (3 < ((iv h).length : Int)) && !disj (iv g) (iv h))) && (numsD 0 (((items ss).length : Int) - 1) q && joinsM ((items ss).map strOf) (items S) (iv g) (iv h))
  | _ => false
def tameT : D → Bool
  | .tuple [n, ss, S, g, h, q] => noDict n && tame2 ss && tame3 S && tame g && tame h && tame q
  | v => noDict v
theorem nums_ints {lo hi : Int} {g : D} (h : numsD lo hi g = true) : g = intsD (iv g) ∧ (iv g).Pairwise (· < ·) := by
  unfold numsD at h
  split at h
  · rename_i xs
    simp only [Bool.and_eq_true] at h
    exact ⟨congrArg PyData.tuple (ints_of h.1), rises_lt h.2⟩
  · cases h
theorem streets_tup {n : Int} {ss : D} (h : streetsD n ss = true) : ss = .tuple (((items ss).map strOf).map strD) ∧ (items ss).length ≤ 14 := by
  unfold streetsD at h
  split at h
  · rename_i xs
    simp only [Bool.and_eq_true, decide_eq_true_eq] at h
    refine ⟨congrArg PyData.tuple (streets_of h.1.2), ?_⟩
    show xs.length ≤ 14
    omega
  · cases h
theorem signs_tup {n most : Int} {ss : List Street} {S : D} (ht : tame3 S = true) (h : signsD n ss most S = true) : S = .tuple (items S) ∧ OkS (items S) := by
  unfold signsD at h
  split at h
  · rename_i xs
    refine ⟨rfl, ?_⟩
    simp only [Bool.and_eq_true] at h
    have hx := h.1.2
    show PyData.canLayAll0 xs = true
    have hall : ∀ x ∈ xs, x.canLay0 = true := fun x hx1 => by
      refine (sign_ok (List.all_eq_true.mp hx x hx1) ?_).1.2.1
      simp only [tame3, items, noDict, Bool.and_eq_true, List.all_eq_true, Bool.true_and] at ht ⊢
      refine ⟨fun y hy => ?_, fun y hy => ?_⟩
      · rw [List.mem_singleton] at hy; subst hy; exact ht.1 y hx1
      · rw [List.mem_singleton] at hy; subst hy; exact ht.2 y hx1
    clear h hx ht
    induction xs with
    | nil => simp [PyData.canLayAll0]
    | cons x xs ih => simp only [PyData.canLayAll0, hall x (by simp), ih fun y hy => hall y (by simp [hy]), Bool.and_self]
  · cases h
theorem stands_any {v : D} (ht : tameT v = true) : F_stands [.sh v] = some (.sh (.bool (standsD v)), [.sh v]) := by
  cases v with
  | tuple xs =>
    by_cases hl : xs.length = 6
    · match xs, hl with
      | [n, ss, S, g, h, q], _ =>
        have ht' : noDict n = true ∧ tame2 ss = true ∧ tame3 S = true ∧ tame g = true ∧ tame h = true ∧ tame q = true := by simpa [tameT, and_assoc] using ht
        obtain ⟨t1, t2, t3, t4, t5, t6⟩ := ht'
        cases n with
        | int n =>
          by_cases c1 : (decide (2 ≤ n) && decide (n ≤ 9)) = true
          · by_cases c2 : streetsD n ss = true
            · obtain ⟨es, hsl⟩ := streets_tup c2
              have e2 := arestreetsD (v := ss) n t2
              generalize hst : (items ss).map strOf = st at *
              have e3 := signsstandD (v := S) n st 6 t3
              rw [← es] at e3
              by_cases c3 : signsD n st 6 S = true
              · obtain ⟨eS, okS⟩ := signs_tup t3 c3
                by_cases c4 : numsD 0 (n - 1) g = true
                · obtain ⟨eg, pg⟩ := nums_ints c4
                  have lg : pLen [g] = some (.sh (.int (iv g).length)) := by rw [eg]; simp [pLen, intsD, iv, items]
                  by_cases c5 : numsD 0 (n - 1) h = true
                  · obtain ⟨eh, ph⟩ := nums_ints c5
                    have lh : pLen [h] = some (.sh (.int (iv h).length)) := by rw [eh]; simp [pLen, intsD, iv, items]
                    have ih : itemsOf h = some ((iv h).map PyData.int) := by rw [eh]; simp [itemsOf, intsD, iv, items, intV]
                    have ls : pLen [ss] = some (.sh (.int (items ss).length)) := by rw [es]; simp [pLen, items]
                    have c := comp_M (ρ := [.sh (.tuple [.int n, ss, S, g, h, q]), .sh (.int n), .sh ss, .sh S, .sh g, .sh h, .sh q, .no]) (vs := [7]) (g := gName 7) (a := c_stands_1) PyData.int (fun y => .bool ((iv g).any fun x => decide (x = y))) (iv h) fun w hw => by
                      have e := in_ints (iv g) w
                      rw [← eg] at e
                      exact ⟨[.sh (.tuple [.int n, ss, S, g, h, q]), .sh (.int n), .sh ss, .sh S, .sh g, .sh h, .sh q, .sh (.int w)], rfl, ⟨_, by simp! only [c_stands_1, e]; rfl, rfl⟩, rfl⟩
                    by_cases c6 : ((decide (2 ≤ ((iv g).length : Int)) && decide (((iv g).length : Int) ≤ 4)) && (!decide (3 < ((iv h).length : Int)) && !disj (iv g) (iv h))) = true
                    · have c6' := c6
                      simp only [Bool.and_eq_true] at c6'
                      have nd : (iv g ++ iv h).Nodup := by
                        rw [List.nodup_append]
                        refine ⟨lt_nodup pg, lt_nodup ph, fun x hx y hy => ?_⟩
                        rintro rfl
                        have hd := c6'.2.2
                        unfold disj at hd
                        simp only [Bool.not_eq_true', List.any_eq_false, List.any_eq_true, decide_eq_true_eq, not_exists, not_and] at hd
                        exact hd x hy x hx rfl
                      have jl : (iv g).length + (iv h).length ≤ 1000 := by
                        have h1 := c6'.1.2
                        have h2 := c6'.2.1
                        simp at h1 h2; omega
                      have stl : st.length ≤ 400 := by rw [← hst, List.length_map]; omega
                      have ej := joins_eq (ss := st) (S := items S) (gates := iv g) (houses := iv h) okS stl nd jl
                      rw [← es, ← eS, ← eg, ← eh] at ej
                      have hd : ((iv h).any fun y => (iv g).any fun x => decide (x = y)) = false := by have := c6'.2.2; unfold disj at this; simpa using this
                      have h3 : decide (3 < ((iv h).length : Int)) = false := by have := c6'.2.1; simpa using this
                      simp! only [F_stands, b_stands, integerD _ _ t1, isIntD_int, standsD, c1, e2, e3, c2, c3, hst, numbersD _ _ t4, numbersD _ _ t5, numbersD _ _ t6, c4, c5, lg, lh, ih, ls, c, pAny_bools, c6'.1.1, c6'.1.2, h3, hd, disj, ej]
                    · have e6 : standsD (.tuple [.int n, ss, S, g, h, q]) = false := by
                        cases e : standsD (.tuple [.int n, ss, S, g, h, q]) with
                        | false => rfl
                        | true =>
                          exfalso
                          apply c6
                          unfold standsD at e
                          simp only [Bool.and_eq_true] at e ⊢
                          exact ⟨e.1.1.2.2, e.1.2.2⟩
                      by_cases c7 : (decide (2 ≤ ((iv g).length : Int)) && decide (((iv g).length : Int) ≤ 4)) = true
                      · have c8 : (decide (3 < ((iv h).length : Int)) || ((iv h).any fun y => (iv g).any fun x => decide (x = y))) = true := by
                          cases e : (decide (3 < ((iv h).length : Int)) || ((iv h).any fun y => (iv g).any fun x => decide (x = y))) with
                          | true => rfl
                          | false =>
                            exfalso; apply c6
                            rw [c7, Bool.true_and]
                            unfold disj
                            rw [Bool.or_eq_false_iff] at e
                            rw [e.1, e.2]; rfl
                        simp! only [F_stands, b_stands, integerD _ _ t1, isIntD_int, e6, c1, e2, e3, c2, c3, hst, numbersD _ _ t4, numbersD _ _ t5, c4, c5, lg, lh, ih, c, pAny_bools, c7, c8]
                      · simp! only [F_stands, b_stands, integerD _ _ t1, isIntD_int, e6, c1, e2, e3, c2, c3, hst, numbersD _ _ t4, numbersD _ _ t5, c4, c5, lg, lh, ih, c, pAny_bools, c7]
                  · simp! only [F_stands, b_stands, integerD _ _ t1, isIntD_int, standsD, c1, e2, e3, c2, c3, hst, numbersD _ _ t4, numbersD _ _ t5, c4, c5, lg]
                · simp! only [F_stands, b_stands, integerD _ _ t1, isIntD_int, standsD, c1, e2, e3, c2, c3, hst, numbersD _ _ t4, c4]
              · simp! only [F_stands, b_stands, integerD _ _ t1, isIntD_int, standsD, c1, e2, e3, c2, c3, hst]
            · simp! only [F_stands, b_stands, integerD _ _ t1, isIntD_int, standsD, c1, arestreetsD _ t2, c2]
          · simp! only [F_stands, b_stands, integerD _ _ t1, isIntD_int, standsD, c1]
        | dict => simp [noDict] at t1
        | _ => simp! only [F_stands, b_stands, integerD _ _ t1, isIntD, standsD]
    · have e : standsD (.tuple xs) = false := by
        unfold standsD; split <;> simp_all
      have : ¬ ((xs.length : Int) = 6) := by omega
      simp! only [F_stands, b_stands, e, this]
  | dict => simp [tameT, noDict] at ht
  | _ => rfl
theorem town_any {v : D} (ht : tameT v = true) : F_is_town [.sh v] = some (.sh (.bool (standsD v)), [.sh v]) := by
  simp! only [F_is_town, b_is_town, stands_any ht]
end Q
set_option maxRecDepth 100000
namespace Q
open PySem Pu
theorem signs_sorted {n most : Int} {ss : List Street} {xs : List D} (h1 : (xs.length : Int) ≤ most) (h2 : ∀ x ∈ xs, signD n ss x = true) (h3 : xs.Pairwise (fun a b => leT a b = true)) (h4 : xs.Nodup) (h5 : ∀ x ∈ xs, okd x = true) : signsD n ss most (.tuple xs) = true := by
  have e1 : decide (most < (xs.length : Int)) = false := by simp; omega
  simp only [signsD, e1, Bool.not_false, Bool.true_and, Bool.and_eq_true]
  exact ⟨List.all_eq_true.mpr h2, sorted_rises h3 h4 h5⟩
end Q
set_option maxRecDepth 100000
namespace Q
open PySem Pu
inductive Sg where
  | way (a b : Int) | shut (a b : Int) | turn (a b c : Int)
  deriving DecidableEq
def sgD : Sg → D
  | .way a b => wayD a b
  | .shut a b => shutD a b
  | .turn a b c => turnD a b c
theorem sgD_inj {x y : Sg} (h : sgD x = sgD y) : x = y := by
  have n1 := ne_ts; have n2 := ne_tw; have n3 := ne_sw
  cases x <;> cases y <;> simp [sgD, wayD, shutD, turnD] at h <;> first | (obtain ⟨rfl, rfl⟩ := h; rfl) | (obtain ⟨rfl, rfl, rfl⟩ := h; rfl) | (exfalso; first | exact n3 h.1 | exact n3 h.1.symm | exact n2 h.1 | exact n1 h.1)
def insM {α : Type} (le : α → α → Bool) (x : α) : List α → List α
  | [] => [x]
  | y :: ys => if le x y then x :: y :: ys else y :: insM le x ys
def isortM {α : Type} (le : α → α → Bool) : List α → List α
  | [] => []
  | x :: xs => insM le x (isortM le xs)
theorem ins_map {α : Type} {enc : α → D} {le : α → α → Bool} (h : ∀ x y, leT (enc x) (enc y) = le x y) (x : α) : ∀ ys : List α, insT (enc x) (ys.map enc) = (insM le x ys).map enc
  | [] => rfl
  | y :: ys => by
    simp only [List.map_cons, insT, insM, h]
    split
    · rfl
    · simp only [List.map_cons, ins_map h x ys]
theorem isort_map {α : Type} {enc : α → D} {le : α → α → Bool} (h : ∀ x y, leT (enc x) (enc y) = le x y) : ∀ xs : List α, isortT (xs.map enc) = (isortM le xs).map enc
  | [] => rfl
  | x :: xs => by simp only [List.map_cons, isortT, isortM, isort_map h xs, ins_map h]
theorem insM_perm {α : Type} (le : α → α → Bool) (x : α) : ∀ ys : List α, (insM le x ys).Perm (x :: ys)
  | [] => .refl _
  | y :: ys => by
    unfold insM
    split
    · exact .refl _
    · exact ((insM_perm le x ys).cons y).trans (.swap x y ys)
theorem isortM_perm {α : Type} (le : α → α → Bool) : ∀ xs : List α, (isortM le xs).Perm xs
  | [] => .refl _
  | x :: xs => (insM_perm le x _).trans ((isortM_perm le xs).cons x)
def le2 (a b c d : Int) : Bool := if a ≤ c then (if c ≤ a then decide (b ≤ d) else true) else false
def le3 (a b c d e f : Int) : Bool := if a ≤ d then (if d ≤ a then le2 b c e f else true) else false
def sgLe : Sg → Sg → Bool
  | .shut a b, .shut c d => le2 a b c d
  | .shut _ _, _ => true
  | .turn _ _ _, .shut _ _ => false
  | .turn a b c, .turn d e f => le3 a b c d e f
  | .turn _ _ _, .way _ _ => true
  | .way a b, .way c d => le2 a b c d
  | .way _ _, _ => false
theorem leL_nil : leL [] [] = true := rfl
theorem leL_int2 (a b c d : Int) : leL [.int a, .int b] [.int c, .int d] = le2 a b c d := by
  simp only [leL_cons, leT_int, leL_nil, le2, decide_eq_true_eq]
  split <;> try rfl
  split <;> try rfl
  by_cases h : b ≤ d <;> simp [h]
theorem leL_int3 (a b c d e f : Int) : leL [.int a, .int b, .int c] [.int d, .int e, .int f] = le3 a b c d e f := by
  rw [leL_cons, leL_int2]; simp only [leT_int, le3, decide_eq_true_eq]
theorem s_ss : leT (.str (Str.ofString "shut")) (.str (Str.ofString "shut")) = true := by decide +kernel
theorem s_st : leT (.str (Str.ofString "shut")) (.str (Str.ofString "turn")) = true := by decide +kernel
theorem s_sw : leT (.str (Str.ofString "shut")) (.str (Str.ofString "way")) = true := by decide +kernel
theorem s_ts : leT (.str (Str.ofString "turn")) (.str (Str.ofString "shut")) = false := by decide +kernel
theorem s_tt : leT (.str (Str.ofString "turn")) (.str (Str.ofString "turn")) = true := by decide +kernel
theorem s_tw : leT (.str (Str.ofString "turn")) (.str (Str.ofString "way")) = true := by decide +kernel
theorem s_ws : leT (.str (Str.ofString "way")) (.str (Str.ofString "shut")) = false := by decide +kernel
theorem s_wt : leT (.str (Str.ofString "way")) (.str (Str.ofString "turn")) = false := by decide +kernel
theorem s_ww : leT (.str (Str.ofString "way")) (.str (Str.ofString "way")) = true := by decide +kernel
theorem sg_le (x y : Sg) : leT (sgD x) (sgD y) = sgLe x y := by
  cases x <;> cases y <;> simp [sgD, wayD, shutD, turnD, leT_tup, leL_cons (PyData.str _), s_ss, s_st, s_sw, s_ts, s_tt, s_tw, s_ws, s_wt, s_ww, leL_int2, leL_int3, sgLe]
theorem sg_ok (x : Sg) : okd (sgD x) = true ∧ (sgD x).canLay0 = true ∧ (sgD x).depth ≤ 60 := by
  cases x with
  | way a b => exact ⟨rfl, lay_way a b, by simp [sgD, wayD, PyData.depth, PyData.depthAll]⟩
  | shut a b => exact ⟨rfl, lay_shut a b, by simp [sgD, shutD, PyData.depth, PyData.depthAll]⟩
  | turn a b c => exact ⟨rfl, lay_turn a b c, by simp [sgD, turnD, PyData.depth, PyData.depthAll]⟩
theorem sg_cmp (x y : Sg) : cmpOk (sgD x) (sgD y) = true := by cases x <;> cases y <;> simp [sgD, wayD, shutD, turnD, cmpOk, cmpOks]
theorem sg_tup (x : Sg) : isTup1 (sgD x) = true := by cases x <;> rfl
theorem sg_sort (xs : List Sg) : SortL (xs.map sgD) := by
  refine ⟨fun x hx => ?_, .inl fun x hx => ?_, fun x hx y hy => ?_⟩
  · obtain ⟨s, _, rfl⟩ := List.mem_map.mp hx; exact sg_ok s
  · obtain ⟨s, _, rfl⟩ := List.mem_map.mp hx; exact sg_tup s
  · obtain ⟨s, _, rfl⟩ := List.mem_map.mp hx; obtain ⟨t, _, rfl⟩ := List.mem_map.mp hy; exact sg_cmp s t
theorem sg_tame (xs : List Sg) : tame3 (.tuple (xs.map sgD)) = true := by
  simp only [tame3, noDict, items, Bool.true_and, Bool.and_eq_true, List.all_eq_true]
  refine ⟨fun x hx => ?_, fun x hx => ?_⟩ <;> (obtain ⟨s, _, rfl⟩ := List.mem_map.mp hx; cases s)
  · rfl
  · rfl
  · rfl
  · exact ok_way
  · exact ok_shut
  · exact ok_turn
def waysM (ss : List Street) : List Dir := ss.flatMap fun s => [(s.1, s.2.1), (s.2.1, s.1)]
def turnsM (ws : List Dir) : List Sg := ws.flatMap fun w => (ws.filter fun v => decide (v.1 = w.2) && !decide (v.2 = w.1)).map fun v => .turn w.1 w.2 v.2
def allSg (ss : List Street) : List Sg := (ss.map fun s => .shut s.1 s.2.1) ++ ((waysM ss).map fun w => .way w.1 w.2) ++ turnsM (waysM ss)
theorem foldl_flat {α β : Type} (f : α → List β) : ∀ (xs : List α) (acc : List β), xs.foldl (fun acc x => acc ++ f x) acc = acc ++ xs.flatMap f
  | [], acc => by simp
  | x :: xs, acc => by rw [List.foldl_cons, foldl_flat f xs]; simp [List.flatMap_cons, List.append_assoc]
theorem allsigns_eq {ss : List Street} {nd : D} {r : List D} (hs : ss.length ≤ 100) : F__law_all_signs [.sh (.tuple (nd :: .tuple (ss.map strD) :: r))] = some (.ow (.list ((isortM sgLe (allSg ss)).map sgD)), [.sh (.tuple (nd :: .tuple (ss.map strD) :: r))]) := by
  generalize htd : PyData.tuple (nd :: .tuple (ss.map strD) :: r) = td
  have hix : pIx td (.int 1) = some (.sh (.tuple (ss.map strD))) := by rw [← htd, z_ix1]
  obtain ⟨ρ1, e1, h1⟩ := for_st (g := gTup (gsCons (gName 3) (gsCons (gName 4) (gsCons (gName 5) gsNil)))) (s := b__law_all_signs_1) strD
    (fun rest (q : List Dir) ρ => q.length + 2 * rest.length ≤ 1000 ∧ ∃ t3 t4 t5, freeS t3 = true ∧ freeS t4 = true ∧ freeS t5 = true ∧ ρ = [.sh td, .ow (.list (q.map dirD)), .no, t3, t4, t5, .no, .no])
    (fun q s => q ++ [(s.1, s.2.1), (s.2.1, s.1)])
    (fun w xs q ρ h => by
      obtain ⟨hl, t3, t4, t5, f3, f4, f5, rfl⟩ := h
      simp only [List.length_cons] at hl
      have hg : gTup (gsCons (gName 3) (gsCons (gName 4) (gsCons (gName 5) gsNil))) (strD w) [.sh td, .ow (.list (q.map dirD)), .no, t3, t4, t5, .no, .no] = some [.sh td, .ow (.list (q.map dirD)), .no, .sh (.int w.1), .sh (.int w.2.1), .sh (.int w.2.2), .no, .no] := by
        simp! only [strD, w_putF f3, w_putF f4, w_putF f5]
      have hc : (q.map dirD).length + 2 ≤ 16777216 := by rw [List.length_map]; omega
      refine ⟨_, _, hg, .inl (by simp! only [b__law_all_signs_1, hc]; rfl), ?_, .sh (.int w.1), .sh (.int w.2.1), .sh (.int w.2.2), rfl, rfl, rfl, ?_⟩
      · rw [List.length_append]; simp only [List.length_cons, List.length_nil]; omega
      · rw [List.map_append]; rfl) ss [] _ ⟨by simp; omega, .no, .no, .no, rfl, rfl, rfl, rfl⟩
  obtain ⟨-, t3, t4, t5, f3, f4, f5, rfl⟩ := h1
  rw [foldl_flat] at e1
  simp only [List.nil_append] at e1
  change forGo _ _ _ _ = some (.nx [.sh td, .ow (.list ((waysM ss).map dirD)), .no, t3, t4, t5, .no, .no]) at e1
  have hw : (waysM ss).length = 2 * ss.length := by
    unfold waysM; clear e1 hix htd hs; induction ss with
    | nil => rfl
    | cons s ss ih => rw [List.flatMap_cons, List.length_append, ih]; simp; omega
  have c1 := comp_M (ρ := [.sh td, .ow (.list ((waysM ss).map dirD)), .no, .no, .no, .no, .no, .no]) (vs := [3, 4, 5]) (g := gTup (gsCons (gName 3) (gsCons (gName 4) (gsCons (gName 5) gsNil)))) (a := c__law_all_signs_1) strD (fun s => sgD (.shut s.1 s.2.1)) ss fun w hw =>
    ⟨[.sh td, .ow (.list ((waysM ss).map dirD)), .no, .sh (.int w.1), .sh (.int w.2.1), .sh (.int w.2.2), .no, .no], rfl, ⟨_, rfl, rfl⟩, rfl⟩
  have c2 := comp_M (ρ := [.sh td, .sh (.list ((waysM ss).map dirD)), .no, .no, .no, t5, .no, .no]) (vs := [3, 4]) (g := gTup (gsCons (gName 3) (gsCons (gName 4) gsNil))) (a := c__law_all_signs_2) dirD (fun w => sgD (.way w.1 w.2)) (waysM ss) fun w hw =>
    ⟨[.sh td, .sh (.list ((waysM ss).map dirD)), .no, .sh (.int w.1), .sh (.int w.2), t5, .no, .no], rfl, ⟨_, rfl, rfl⟩, rfl⟩
  generalize hW : waysM ss = W at *
  have hA : (ss.map fun s => sgD (.shut s.1 s.2.1)).length + (W.map fun w => sgD (.way w.1 w.2)).length ≤ 16777216 := by
    rw [List.length_map, List.length_map]; omega
  obtain ⟨ρ2, e2, h2⟩ := for_st (g := gTup (gsCons (gName 3) (gsCons (gName 4) gsNil))) (s := b__law_all_signs_2) dirD
    (fun rest (q : List Sg) ρ => q.length + 200 * rest.length ≤ 100000 ∧ ∃ t3 t4, freeS t3 = true ∧ freeS t4 = true ∧ ρ = [.sh td, .sh (.list (W.map dirD)), .ow (.list (q.map sgD)), t3, t4, t5, .no, .no])
    (fun q w => q ++ (W.filter fun v => decide (v.1 = w.2) && !decide (v.2 = w.1)).map fun v => .turn w.1 w.2 v.2)
    (fun w xs q ρ h => by
      obtain ⟨hl, t3, t4, f3, f4, rfl⟩ := h
      simp only [List.length_cons] at hl
      have hg : gTup (gsCons (gName 3) (gsCons (gName 4) gsNil)) (dirD w) [.sh td, .sh (.list (W.map dirD)), .ow (.list (q.map sgD)), t3, t4, t5, .no, .no] = some [.sh td, .sh (.list (W.map dirD)), .ow (.list (q.map sgD)), .sh (.int w.1), .sh (.int w.2), t5, .no, .no] := by
        simp! only [dirD, w_putF f3, w_putF f4]
      have c3 := comp_map (ρ := [.sh td, .sh (.list (W.map dirD)), .ow (.list (q.map sgD)), .sh (.int w.1), .sh (.int w.2), t5, .no, .no]) (vs := [6, 7]) (g := gTup (gsCons (gName 6) (gsCons (gName 7) gsNil))) (t := q__law_all_signs_1) (a := c__law_all_signs_3) dirD (fun v => decide (v.1 = w.2) && !decide (v.2 = w.1)) (fun v => sgD (.turn w.1 w.2 v.2)) W [] fun v hv => by
        refine ⟨[.sh td, .sh (.list (W.map dirD)), .ow (.list (q.map sgD)), .sh (.int w.1), .sh (.int w.2), t5, .sh (.int v.1), .sh (.int v.2)], rfl, ?_, fun _ => ⟨_, rfl, rfl⟩, rfl⟩
        simp! only [q__law_all_signs_1]
      rw [List.nil_append] at c3
      have hf : (W.filter fun v => decide (v.1 = w.2) && !decide (v.2 = w.1)).length ≤ W.length := List.length_filter_le _ _
      have hc : (q.map sgD).length + ((W.filter fun v => decide (v.1 = w.2) && !decide (v.2 = w.1)).map (fun v => sgD (.turn w.1 w.2 v.2))).length ≤ 16777216 := by rw [List.length_map, List.length_map]; omega
      refine ⟨_, _, hg, .inl (by simp! only [b__law_all_signs_2, c3, hc]; rfl), ?_, .sh (.int w.1), .sh (.int w.2), rfl, rfl, ?_⟩
      · rw [List.length_append, List.length_map]; omega
      · rw [List.map_append, List.map_map]; rfl) W ((ss.map fun s => .shut s.1 s.2.1) ++ (W.map fun w => .way w.1 w.2)) [.sh td, .sh (.list (W.map dirD)), .ow (.list (((ss.map fun s => Sg.shut s.1 s.2.1) ++ (W.map fun w => Sg.way w.1 w.2)).map sgD)), t3, t4, t5, .no, .no] ⟨by rw [List.length_append, List.length_map, List.length_map]; omega, t3, t4, f3, f4, rfl⟩
  obtain ⟨-, u3, u4, _, _, rfl⟩ := h2
  rw [foldl_flat] at e2
  have hAll : (ss.map fun s => Sg.shut s.1 s.2.1) ++ (W.map fun w => Sg.way w.1 w.2) ++ W.flatMap (fun w => (W.filter fun v => decide (v.1 = w.2) && !decide (v.2 = w.1)).map fun v => .turn w.1 w.2 v.2) = allSg ss := by
    unfold allSg turnsM; rw [hW]
  rw [hAll] at e2
  simp only [List.map_append, List.map_map] at e2
  simp only [Function.comp_def] at e2
  have hso := sorted_list (sg_sort (allSg ss))
  rw [isort_map sg_le] at hso
  rw [List.map_nil] at e1
  simp! only [F__law_all_signs, b__law_all_signs, hix, e1, c1, c2, pAdd, hA, e2, hso]
theorem allsigns_at {ss : List Street} {nd td : D} {r : List D} {xs : List Sg} {ys : List D} (h : td = .tuple (nd :: .tuple (ss.map strD) :: r)) (hx : isortM sgLe (allSg ss) = xs) (hy : xs.map sgD = ys) (hs : ss.length ≤ 100) : F__law_all_signs [.sh td] = some (.ow (.list ys), [.sh td]) := by
  subst h hx hy
  exact allsigns_eq hs
end Q
set_option maxRecDepth 100000
namespace Q
open PySem Pu
structure Tw where
  n : Int
  ss : List Street
  S : List Sg
  gates : List Int
  houses : List Int
  quiet : List Int
def Tw.d (t : Tw) : D := townD t.n t.ss (t.S.map sgD) t.gates t.houses t.quiet
abbrev Up (xs : List Int) : Prop := xs.Pairwise (· < ·)
def sgLt (x y : Sg) : Prop := sgLe y x = false
structure Tw.Ok (t : Tw) : Prop where
  n2 : 2 ≤ t.n
  n6 : t.n ≤ 6
  sts : Sts t.n t.ss
  l4 : ∀ s ∈ t.ss, s.2.2 ≤ 4
  up : (t.ss.map fun s => (s.1, s.2.1)).Pairwise (fun p q => dlt p q = true)
  s1 : 1 ≤ t.ss.length
  s9 : t.ss.length ≤ 9
  tree : Tree t.n t.ss
  sub : ∀ s ∈ t.S, s ∈ allSg t.ss
  sup : t.S.Pairwise sgLt
  sl : t.S.length ≤ 2
  gr : ∀ g ∈ t.gates, 0 ≤ g ∧ g < t.n
  gu : Up t.gates
  g2 : 2 ≤ t.gates.length
  g3 : t.gates.length ≤ 3
  hr : ∀ g ∈ t.houses, 0 ≤ g ∧ g < t.n
  hu : Up t.houses
  h2 : t.houses.length ≤ 2
  gh : ∀ g ∈ t.gates, g ∉ t.houses
  qr : ∀ q ∈ t.quiet, 0 ≤ q ∧ q < t.ss.length
  qu : Up t.quiet
  q2 : t.quiet.length ≤ 2
  joins : joinsM t.ss (t.S.map sgD) t.gates t.houses = true
theorem strOf_map (ss : List Street) : (ss.map strD).map strOf = ss := by
  rw [List.map_map]
  conv => rhs; rw [← List.map_id ss]
  exact List.map_congr_left fun s _ => rfl
theorem intV_map (xs : List Int) : (xs.map PyData.int).map intV = xs := by
  rw [List.map_map]
  conv => rhs; rw [← List.map_id xs]
  exact List.map_congr_left fun s _ => rfl
theorem iv_ints (xs : List Int) : iv (intsD xs) = xs := intV_map xs
theorem stands_town (n : Int) (ss : List Street) (S : List D) (g h q : List Int) : standsD (townD n ss S g h q) = ((decide (2 ≤ n) && decide (n ≤ 9)) && (streetsD n (.tuple (ss.map strD)) && signsD n ss 6 (.tuple S)) && (numsD 0 (n - 1) (intsD g) && (decide (2 ≤ (g.length : Int)) && decide ((g.length : Int) ≤ 4))) &&
      (numsD 0 (n - 1) (intsD h) && (!decide (3 < (h.length : Int)) && !disj g h)) && (numsD 0 ((ss.length : Int) - 1) (intsD q) && joinsM ss S g h)) := by
  unfold townD standsD
  simp only [iv_ints]
  have e1 : (items (.tuple (ss.map strD))).map strOf = ss := strOf_map ss
  have e2 : ((items (.tuple (ss.map strD))).length : Int) = ss.length := by simp [items]
  rw [e1, e2]
  rfl
theorem rises_of {α : Type} {lt : α → α → Bool} {xs : List α} (h : xs.Pairwise (fun p q => lt p q = true)) : risesM lt xs = true := by
  unfold risesM
  induction xs with
  | nil => rfl
  | cons x xs ih =>
    cases xs with
    | nil => rfl
    | cons y ys =>
      rw [List.pairwise_cons] at h
      have := ih h.2
      simp only [List.drop_succ_cons, List.drop_zero, List.zip_cons_cons, List.all_cons, Bool.and_eq_true] at this ⊢
      exact ⟨h.1 y (by simp), by simpa using this⟩
theorem nums_up {lo hi : Int} {xs : List Int} : numsD lo hi (intsD xs) = true ↔ (∀ x ∈ xs, lo ≤ x ∧ x ≤ hi) ∧ Up xs := by
  have e : numsD lo hi (intsD xs) = ((xs.map PyData.int).all (isIntD lo hi) && risesM (fun a b => decide (a < b)) ((xs.map PyData.int).map intV)) := rfl
  rw [e, intV_map, Bool.and_eq_true, List.all_map, List.all_eq_true]
  constructor
  · rintro ⟨h1, h2⟩
    exact ⟨fun x hx => by simpa [isIntD] using h1 x hx, rises_lt h2⟩
  · rintro ⟨h1, h2⟩
    refine ⟨fun x hx => by simpa [isIntD] using h1 x hx, ?_⟩
    exact rises_of (h2.imp fun h => by simpa using h)
theorem street_okD {n : Int} {s : Street} (h : 0 ≤ s.1 ∧ s.1 < s.2.1 ∧ s.2.1 < n ∧ 1 ≤ s.2.2 ∧ s.2.2 ≤ 99) : isStreetD n (strD s) = true := by
  simp only [strD, isStreetD, isIntD, Bool.and_eq_true, decide_eq_true_eq]
  omega
theorem streets_okD {n : Int} {ss : List Street} (h : Sts n ss) (hu : (ss.map fun s => (s.1, s.2.1)).Pairwise (fun p q => dlt p q = true)) (h1 : 1 ≤ ss.length) (h2 : ss.length ≤ 14) : streetsD n (.tuple (ss.map strD)) = true := by
  unfold streetsD
  simp only [Bool.and_eq_true, decide_eq_true_eq, List.length_map]
  refine ⟨⟨by omega, ?_⟩, ?_⟩
  · rw [List.all_map, List.all_eq_true]
    exact fun s hs => street_okD (h.ok s hs)
  · unfold risesS
    rw [strOf_map]
    exact rises_of hu
theorem isB_adj {n : Int} {ss : List Street} (h : Sts n ss) (a b : Int) : joined ss a b = true ↔ ∃ l, Adj ss a b l := by
  unfold joined
  rw [List.findIdx?_isSome, List.any_eq_true]
  constructor
  · rintro ⟨s, hs, e⟩
    have e1 : s.1 = mn a b ∧ s.2.1 = mx a b := by simpa [isB] using e
    have o := h.ok _ hs
    obtain ⟨x, y, z⟩ := s
    simp only at o e1
    unfold mn mx at e1
    by_cases hab : b < a
    · rw [if_pos hab, if_neg (by omega)] at e1; obtain ⟨rfl, rfl⟩ := e1; exact ⟨z, .inr hs⟩
    · by_cases hba : b > a
      · rw [if_neg hab, if_pos hba] at e1; obtain ⟨rfl, rfl⟩ := e1; exact ⟨z, .inl hs⟩
      · rw [if_neg hab, if_neg hba] at e1; omega
  · rintro ⟨l, hl | hl⟩
    · have o := h.ok _ hl
      simp only at o
      refine ⟨_, hl, ?_⟩
      have e1 : mn a b = a := by unfold mn; rw [if_neg (by omega)]
      have e2 : mx a b = b := by unfold mx; rw [if_pos (by omega)]
      simp [isB, e1, e2]
    · have o := h.ok _ hl
      simp only at o
      refine ⟨_, hl, ?_⟩
      have e1 : mn a b = b := by unfold mn; rw [if_pos (by omega)]
      have e2 : mx a b = a := by unfold mx; rw [if_neg (by omega)]
      simp [isB, e1, e2]
theorem ways_adj {ss : List Street} (w : Dir) : w ∈ waysM ss ↔ ∃ l, Adj ss w.1 w.2 l := by
  unfold waysM
  rw [List.mem_flatMap]
  constructor
  · rintro ⟨s, hs, e⟩
    obtain ⟨x, y, z⟩ := s
    simp only [List.mem_cons, List.not_mem_nil, or_false] at e
    rcases e with rfl | rfl
    · exact ⟨z, .inl hs⟩
    · exact ⟨z, .inr hs⟩
  · rintro ⟨l, hl | hl⟩
    · exact ⟨_, hl, by simp⟩
    · exact ⟨_, hl, by simp⟩
def SgOk (ss : List Street) : Sg → Prop
  | .way a b => ∃ l, Adj ss a b l
  | .shut a b => ∃ l, (a, b, l) ∈ ss
  | .turn a b c => (∃ l, Adj ss a b l) ∧ (∃ l, Adj ss b c l) ∧ a ≠ c
theorem allSg_mem {ss : List Street} (s : Sg) : s ∈ allSg ss ↔ SgOk ss s := by
  unfold allSg turnsM
  rw [List.mem_append, List.mem_append, List.mem_map, List.mem_map, List.mem_flatMap]
  cases s with
  | way a b =>
    constructor
    · rintro ((⟨s, _, e⟩ | ⟨w, hw, e⟩) | ⟨w, _, e⟩)
      · cases e
      · cases e; exact (ways_adj w).mp hw
      · obtain ⟨v, _, e⟩ := List.mem_map.mp e; cases e
    · intro h
      exact .inl (.inr ⟨(a, b), (ways_adj (a, b)).mpr h, rfl⟩)
  | shut a b =>
    constructor
    · rintro ((⟨s, hs, e⟩ | ⟨w, hw, e⟩) | ⟨w, _, e⟩)
      · cases e; exact ⟨s.2.2, hs⟩
      · cases e
      · obtain ⟨v, _, e⟩ := List.mem_map.mp e; cases e
    · rintro ⟨l, h⟩
      exact .inl (.inl ⟨_, h, rfl⟩)
  | turn a b c =>
    constructor
    · rintro ((⟨s, _, e⟩ | ⟨w, hw, e⟩) | ⟨w, hw, e⟩)
      · cases e
      · cases e
      · obtain ⟨v, hv, e⟩ := List.mem_map.mp e
        cases e
        rw [List.mem_filter] at hv
        simp only [Bool.and_eq_true, decide_eq_true_eq, Bool.not_eq_true', decide_eq_false_iff_not] at hv
        refine ⟨(ways_adj w).mp hw, ?_, fun e => hv.2.2 e.symm⟩
        have := (ways_adj v).mp hv.1
        rw [hv.2.1] at this; exact this
    · rintro ⟨h1, h2, h3⟩
      refine .inr ⟨(a, b), (ways_adj (a, b)).mpr h1, List.mem_map.mpr ⟨(b, c), ?_, rfl⟩⟩
      rw [List.mem_filter]
      exact ⟨(ways_adj (b, c)).mpr h2, by simp [Ne.symm h3]⟩
theorem adj_range {n : Int} {ss : List Street} (h : Sts n ss) {a b l : Int} (hl : Adj ss a b l) : (0 ≤ a ∧ a ≤ n - 1) ∧ (0 ≤ b ∧ b ≤ n - 1) ∧ a ≠ b := by
  rcases hl with hl | hl <;> (have := h.ok _ hl; simp only at this; omega)
theorem sign_okD {n : Int} {ss : List Street} (h : Sts n ss) (s : Sg) : signD n ss (sgD s) = true ↔ SgOk ss s := by
  have n1 := ne_ts; have n2 := ne_tw; have n3 := ne_sw
  cases s with
  | way a b =>
    simp only [sgD, wayD, signD, SgOk, decide_true, Bool.true_or, Bool.true_and, Bool.and_eq_true, decide_eq_true_eq, if_neg (Ne.symm n3), isB_adj h, Bool.not_eq_true', decide_eq_false_iff_not]
    constructor
    · rintro ⟨⟨_, h2⟩, _⟩; exact h2
    · rintro ⟨l, hl⟩; have := adj_range h hl; exact ⟨⟨⟨this.1, this.2.1⟩, l, hl⟩, this.2.2⟩
  | shut a b =>
    simp only [sgD, shutD, signD, SgOk, decide_true, Bool.or_true, Bool.true_and, Bool.and_eq_true, decide_eq_true_eq, if_true, isB_adj h]
    constructor
    · rintro ⟨⟨_, l, h2⟩, h3⟩
      rcases h2 with h2 | h2
      · exact ⟨l, h2⟩
      · have := h.ok _ h2; simp only at this; omega
    · rintro ⟨l, hl⟩; have := adj_range h (.inl hl); have o := h.ok _ hl; simp only at o; exact ⟨⟨⟨this.1, this.2.1⟩, l, .inl hl⟩, o.2.1⟩
  | turn a b c =>
    simp only [sgD, turnD, signD, SgOk, decide_true, Bool.true_and, Bool.and_eq_true, decide_eq_true_eq, isB_adj h, Bool.not_eq_true', decide_eq_false_iff_not]
    constructor
    · rintro ⟨⟨_, h2⟩, h3⟩; exact ⟨h2.1, h2.2, h3⟩
    · rintro ⟨⟨l, h1⟩, ⟨m, h2⟩, h3⟩; have o1 := adj_range h h1; have o2 := adj_range h h2; exact ⟨⟨⟨o1.1, o1.2.1, o2.2.1⟩, ⟨l, h1⟩, m, h2⟩, h3⟩
theorem sgLt_ne {x y : Sg} (h : sgLt x y) : x ≠ y := by
  rintro rfl
  unfold sgLt at h
  rw [← sg_le, leT_refl] at h; cases h
theorem sgLt_le {x y : Sg} (h : sgLt x y) : sgLe x y = true := by
  unfold sgLt at h
  have := leT_total (sgD x) (sgD y)
  rw [sg_le, sg_le, h] at this
  simpa using this
theorem signs_okD {n most : Int} {ss : List Street} (h : Sts n ss) {S : List Sg} (h1 : (S.length : Int) ≤ most) (h2 : ∀ s ∈ S, s ∈ allSg ss) (h3 : S.Pairwise sgLt) : signsD n ss most (.tuple (S.map sgD)) = true := by
  apply signs_sorted
  · rw [List.length_map]; exact h1
  · intro x hx
    obtain ⟨s, hs, rfl⟩ := List.mem_map.mp hx
    exact (sign_okD h s).mpr ((allSg_mem s).mp (h2 s hs))
  · rw [List.pairwise_map]
    exact h3.imp fun hxy => by rw [sg_le]; exact sgLt_le hxy
  · rw [List.Nodup, List.pairwise_map]
    exact h3.imp fun hxy e => sgLt_ne hxy (sgD_inj e)
  · intro x hx
    obtain ⟨s, hs, rfl⟩ := List.mem_map.mp hx
    exact (sg_ok s).1
theorem disj_of {g h : List Int} : disj g h = false ↔ ∀ x ∈ g, x ∉ h := by
  unfold disj
  rw [List.any_eq_false]
  constructor
  · intro hh x hx hy
    have := hh x hy
    simp only [List.any_eq_true, decide_eq_true_eq, not_exists, not_and] at this
    exact this x hx rfl
  · intro hh y hy
    simp only [List.any_eq_true, decide_eq_true_eq, not_exists, not_and]
    rintro x hx rfl
    exact hh x hx hy
theorem Tw.Ok.stands {t : Tw} (h : t.Ok) : standsD t.d = true := by
  unfold Tw.d
  rw [stands_town, streets_okD h.sts h.up h.s1 (by have := h.s9; omega), signs_okD h.sts (by have := h.sl; omega) h.sub h.sup, nums_up.mpr ⟨fun x hx => by have := h.gr x hx; omega, h.gu⟩, nums_up.mpr ⟨fun x hx => by have := h.hr x hx; omega, h.hu⟩, nums_up.mpr ⟨fun x hx => by have := h.qr x hx; omega, h.qu⟩, h.joins, disj_of.mpr h.gh]
  have := h.n2; have := h.n6; have := h.g2; have := h.g3; have := h.h2
  simp; omega
theorem tame_town (n : Int) (ss : List Street) (S : List Sg) (g h q : List Int) : tameT (townD n ss (S.map sgD) g h q) = true := by
  have t1 : ∀ xs : List Int, tame (intsD xs) = true := fun xs => by simp [tame, intsD, items, noDict]
  have t2 : tame2 (.tuple (ss.map strD)) = true := by simp [tame2, noDict, items, tame, strD]
  simp only [townD, tameT, t1, t2, sg_tame, noDict, Bool.and_self]
end Q
set_option maxRecDepth 100000
namespace Q
open PySem Pu
theorem draw1 {ns : List Int} {k : Nat} {m : Int} (hn : ns.length ≤ 63) (hk : k ≤ 800000) (hm : 0 < m) : F__law_draw [.sh (nsD ns), .bo (zs k), .sh (.int m)] = some (.sh (.int (drawV ns k m)), [.sh (nsD ns), .bo (zs (k + 1)), .sh (.int m)]) := (draw_eq hn (by omega) hm).1
theorem draw0 {ns : List Int} {k : Nat} {m : Int} (hn : ns.length ≤ 63) (hk : k ≤ 800000) (hm : 0 < m) : 0 ≤ drawV ns k m ∧ drawV ns k m < m := (draw_eq hn (by omega) hm).2
def leI (a b : Int) : Bool := decide (a ≤ b)
theorem int_sort (xs : List Int) : SortL (xs.map .int) := by
  refine ⟨fun x hx => ?_, .inr fun x hx => ?_, fun x hx y hy => ?_⟩
  · obtain ⟨s, _, rfl⟩ := List.mem_map.mp hx; exact ⟨rfl, by simp [PyData.canLay0], by simp [PyData.depth]⟩
  · obtain ⟨s, _, rfl⟩ := List.mem_map.mp hx; rfl
  · obtain ⟨s, _, rfl⟩ := List.mem_map.mp hx; obtain ⟨t, _, rfl⟩ := List.mem_map.mp hy; simp [cmpOk]
theorem int_le (x y : Int) : leT (.int x) (.int y) = leI x y := leT_int x y
def dle (p q : Dir) : Bool := le2 p.1 p.2 q.1 q.2
theorem dir_le (p q : Dir) : leT (dirD p) (dirD q) = dle p q := by
  unfold dirD dle; rw [leT_tup, leL_int2]
theorem dir_sort (xs : List Dir) : SortL (xs.map dirD) := by
  refine ⟨fun x hx => ?_, .inl fun x hx => ?_, fun x hx y hy => ?_⟩
  · obtain ⟨s, _, rfl⟩ := List.mem_map.mp hx; exact ⟨rfl, by simp [dirD, PyData.canLay0, PyData.canLayAll0], by simp [dirD, PyData.depth, PyData.depthAll]⟩
  · obtain ⟨s, _, rfl⟩ := List.mem_map.mp hx; rfl
  · obtain ⟨s, _, rfl⟩ := List.mem_map.mp hx; obtain ⟨t, _, rfl⟩ := List.mem_map.mp hy; simp [dirD, cmpOk, cmpOks]
theorem perm_map_inv {α β : Type} {f : α → β} {l m : List β} (h : l.Perm m) : ∀ xs : List α, m = xs.map f → ∃ l' : List α, l = l'.map f ∧ l'.Perm xs := by
  induction h with
  | nil => intro xs e; cases xs with
    | nil => exact ⟨[], rfl, .refl _⟩
    | cons _ _ => simp at e
  | cons x _ ih => intro xs e; cases xs with
    | nil => simp at e
    | cons a xs =>
      rw [List.map_cons, List.cons.injEq] at e
      obtain ⟨l', h1, h2⟩ := ih xs e.2
      exact ⟨a :: l', by rw [List.map_cons, ← h1, e.1], h2.cons a⟩
  | swap x y l => intro xs e; match xs with
    | [] => simp at e
    | [_] => simp at e
    | a :: b :: xs =>
      simp only [List.map_cons, List.cons.injEq] at e
      exact ⟨b :: a :: xs, by simp only [List.map_cons, e.1, e.2.1, e.2.2], .swap a b xs⟩
  | trans _ _ ih1 ih2 =>
    intro xs e
    obtain ⟨m', h1, h2⟩ := ih2 xs e
    obtain ⟨l', h3, h4⟩ := ih1 m' h1
    exact ⟨l', h3, h4.trans h2⟩
theorem isortM_sorted {α : Type} {enc : α → D} {le : α → α → Bool} (hle : ∀ x y, leT (enc x) (enc y) = le x y) (xs : List α) : (isortM le xs).Pairwise (fun a b => le a b = true) := by
  have := isortT_sorted (xs.map enc)
  rw [isort_map hle, List.pairwise_map] at this
  exact this.imp fun h => by rw [hle] at h; exact h
structure Some {α : Type} (le : α → α → Bool) (xs f : List α) (count : Nat) : Prop where
  sub : ∀ x ∈ f, x ∈ xs
  len : f.length = min count xs.length
  srt : f.Pairwise (fun a b => le a b = true)
  nd : xs.Nodup → f.Nodup
theorem some_typed {α : Type} {enc : α → D} {le : α → α → Bool} (hle : ∀ x y, leT (enc x) (enc y) = le x y) {ns : List Int} {k : Nat} {xs : List α} {src : D} {count : Int} (hn : ns.length ≤ 63) (hk : k ≤ 800000) (hx : xs.length < 1000) (hc : 0 ≤ count) (hs : SortL (xs.map enc)) (hsrc : pList [src] = some (.ow (.list (xs.map enc)))) :
    ∃ (f : List α) (k' : Nat), Some le xs f count.toNat ∧ k' ≤ k + xs.length ∧ F__law_some_of [.sh (nsD ns), .bo (zs k), .sh src, .sh (.int count)] = some (.sh (.tuple (f.map enc)), [.sh (nsD ns), .bo (zs k'), .sh src, .sh (.int count)]) := by
  obtain ⟨f, left, hp, hl, e⟩ := some_run (ns := ns) (n := k) (xs := xs.map enc) (src := src) (count := count) hn (by rw [List.length_map]; omega) (by rw [List.length_map]; exact hx) hc hs hsrc
  obtain ⟨l', h1, h2⟩ := perm_map_inv hp xs rfl
  obtain ⟨f', r', rfl, rfl, rfl⟩ := List.map_eq_append_iff.mp h1.symm
  rw [isort_map hle] at e
  rw [List.length_map, List.length_map] at hl
  have hpf := isortM_perm le f'
  refine ⟨isortM le f', k + (f'.map enc).length, ⟨fun x hx => h2.mem_iff.mp (by rw [List.mem_append]; exact .inl (hpf.mem_iff.mp hx)), by rw [hpf.length_eq, hl], isortM_sorted hle f', fun hnd => ?_⟩, ?_, e⟩
  · have := (h2.nodup_iff.mpr hnd)
    exact hpf.nodup_iff.mpr (List.nodup_append.mp this).1
  · have := h2.length_eq
    rw [List.length_append] at this
    rw [List.length_map]; omega
theorem up_of {xs : List Int} (h : xs.Pairwise (fun a b => leI a b = true)) (hn : xs.Nodup) : Up xs := by
  have h2 : xs.Pairwise (fun a b => leI a b = true ∧ a ≠ b) := h.and hn
  exact h2.imp fun ⟨h1, h2⟩ => by simp only [leI, decide_eq_true_eq] at h1; omega
theorem sup_of {xs : List Sg} (h : xs.Pairwise (fun a b => sgLe a b = true)) (hn : xs.Nodup) : xs.Pairwise sgLt := by
  have h2 : xs.Pairwise (fun a b => sgLe a b = true ∧ a ≠ b) := h.and hn
  refine h2.imp fun {a b} ⟨h1, h2⟩ => ?_
  unfold sgLt
  cases e : sgLe b a with
  | false => rfl
  | true => exact absurd (sgD_inj (leT_antisymm _ _ (sg_ok a).1 (sg_ok b).1 (by rw [sg_le]; exact h1) (by rw [sg_le]; exact e))) h2
structure TabOk (n : Int) (q : Tab) : Prop where
  nd : (q.map (·.1)).Nodup
  ok : ∀ k v, getM q k = some v → 0 ≤ k.1 ∧ k.1 < k.2 ∧ k.2 < n ∧ 1 ≤ v ∧ v ≤ 4
theorem TabOk.put {n : Int} {q : Tab} (h : TabOk n q) {a b v : Int} (ha : 0 ≤ a) (hab : a < b) (hb : b < n) (hv : 1 ≤ v) (hv4 : v ≤ 4) : TabOk n (putM q (a, b) v) := by
  refine ⟨nodup_put h.nd, fun k w hk => ?_⟩
  rw [getM_put] at hk
  split at hk
  · rename_i e; cases hk; subst e; exact ⟨ha, hab, hb, hv, hv4⟩
  · exact h.ok k w hk
def eT (ns : List Int) (k : Nat) (n : Int) (q : Tab) (t2 t3 t14 : Slot) : Pu.Env := [.sh (nsD ns), .bo (zs k), t2, t3, .no, .no, .no, .no, .no, .no, .sh (.int n), .ow (.dict (kvD q)), .no, .no, t14, .no, .no]
theorem put_kv {q : Tab} {a b v : Int} : dPut (kvD q) (.tuple [.int a, .int b]) (.int v) = kvD (putM q (a, b) v) := dPut_kv q (a, b) v
theorem putOk_kv {q : Tab} {a b : Int} (h : q.length < 16777216) : dPutOk (kvD q) (.tuple [.int a, .int b]) = true := dPutOk_kv (L := q) (a, b) h
theorem tree_loop {ns : List Int} {n : Int} {k0 : Nat} (hn : ns.length ≤ 63) (hk0 : k0 ≤ 100000) (n2 : 2 ≤ n) (n6 : n ≤ 6) :
    ∃ k q t2, freeS t2 = true ∧ k ≤ k0 + 10 ∧ q.length ≤ 5 ∧ TabOk n q ∧ (∀ b, 1 ≤ b → b < n → ∃ a v, 0 ≤ a ∧ a < b ∧ getM q (a, b) = some v) ∧
      forGo (gName 2) b__law_some_town_1 (rangeD 1 n) (eT ns k0 n [] .no .no .no) = some (.nx (eT ns k n q t2 .no .no)) := by
  have loop := for_inv (g := gName 2) (s := b__law_some_town_1) (fun i : Nat => PyData.int (1 + (i : Nat)))
    (fun rest ρ => ∃ k q t2, freeS t2 = true ∧ ρ = eT ns k n q t2 .no .no ∧ k + 2 * rest.length ≤ k0 + 10 ∧ q.length + rest.length ≤ 5 ∧ TabOk n q ∧ (∀ i ∈ rest, (i : Int) < n - 1) ∧ ∀ b : Int, 1 ≤ b → b < n → (∃ i ∈ rest, b = 1 + (i : Nat)) ∨ ∃ a v, 0 ≤ a ∧ a < b ∧ getM q (a, b) = some v)
    (fun o => ∃ k q t2, freeS t2 = true ∧ k ≤ k0 + 10 ∧ q.length ≤ 5 ∧ TabOk n q ∧ (∀ b, 1 ≤ b → b < n → ∃ a v, 0 ≤ a ∧ a < b ∧ getM q (a, b) = some v) ∧ o = .nx (eT ns k n q t2 .no .no))
    (fun i rest ρ h => by
      obtain ⟨k, q, t2, f2, rfl, hk, hl, hq, hr, hb⟩ := h
      rw [List.length_cons] at hk hl
      have hi := hr i (by simp)
      have d1 := draw1 (ns := ns) (k := k) (m := 4) hn (by omega) (by omega)
      have d1' := draw0 (ns := ns) (k := k) (m := 4) hn (by omega) (by omega)
      have d2 := draw1 (ns := ns) (k := k + 1) (m := 1 + (i : Nat)) hn (by omega) (by omega)
      have d2' := draw0 (ns := ns) (k := k + 1) (m := 1 + (i : Nat)) hn (by omega) (by omega)
      have hg : gName 2 (.int (1 + (i : Nat))) (eT ns k n q t2 .no .no) = some (eT ns k n q (.sh (.int (1 + (i : Nat)))) .no .no) := by
        simp! only [eT, w_putF f2]
      have hpo := putOk_kv (q := q) (a := drawV ns (k + 1) (1 + (i : Nat))) (b := 1 + (i : Nat)) (by omega)
      refine ⟨_, hg, .nx (ρ := eT ns (k + 1 + 1) n (putM q (drawV ns (k + 1) (1 + (i : Nat)), 1 + (i : Nat)) (1 + drawV ns k 4)) (.sh (.int (1 + (i : Nat)))) .no .no) (by simp! only [b__law_some_town_1, eT, d1, d2, hpo, put_kv]) ⟨_, _, _, rfl, rfl, by omega, ?_, ?_, fun j hj => hr j (by simp [hj]), fun b h1 h2 => ?_⟩⟩
      · have := putM_len q (drawV ns (k + 1) (1 + (i : Nat)), 1 + (i : Nat)) (1 + drawV ns k 4); omega
      · exact hq.put d2'.1 d2'.2 (by omega) (by omega) (by omega)
      · rcases hb b h1 h2 with ⟨j, hj, e⟩ | ⟨a, v, ha, hab, hv⟩
        · rcases List.mem_cons.mp hj with rfl | hj
          · exact .inr ⟨_, _, d2'.1, by omega, by rw [getM_put]; simp [e]; rfl⟩
          · exact .inl ⟨j, hj, e⟩
        · rw [show (∃ a v, 0 ≤ a ∧ a < b ∧ getM (putM q (drawV ns (k + 1) (1 + (i : Nat)), 1 + (i : Nat)) (1 + drawV ns k 4)) (a, b) = some v) = (∃ a v, 0 ≤ a ∧ a < b ∧ (if (a, b) = ((drawV ns (k + 1) (1 + (i : Nat)), 1 + (i : Nat)) : Dir) then some (1 + drawV ns k 4) else getM q (a, b)) = some v) from by simp only [getM_put]]
          right
          by_cases e : (a, b) = ((drawV ns (k + 1) (1 + (i : Nat)), 1 + (i : Nat)) : Dir)
          · exact ⟨a, _, ha, hab, by rw [if_pos e]⟩
          · exact ⟨a, v, ha, hab, by rw [if_neg e]; exact hv⟩)
    (fun ρ h => by
      obtain ⟨k, q, t2, f2, rfl, hk, hl, hq, hr, hb⟩ := h
      refine ⟨k, q, t2, f2, by simpa using hk, by simpa using hl, hq, fun b h1 h2 => ?_, rfl⟩
      rcases hb b h1 h2 with ⟨j, hj, _⟩ | h
      · simp at hj
      · exact h)
    (List.range (n - 1).toNat) (eT ns k0 n [] .no .no .no) ⟨k0, [], .no, rfl, rfl, by rw [List.length_range]; omega, by rw [List.length_range]; simp; omega, ⟨by simp, fun k v h => by simp [getM] at h⟩, fun i hi => by have := List.mem_range.mp hi; omega, fun b h1 h2 => .inl ⟨(b - 1).toNat, List.mem_range.mpr (by omega), by omega⟩⟩
  obtain ⟨o, e, k, q, t2, h1, h2, h3, h4, h5, rfl⟩ := loop
  exact ⟨k, q, t2, h1, h2, h3, h4, h5, e⟩
end Q
set_option maxRecDepth 100000
namespace Q
open PySem Pu
def TreeT (n : Int) (q : Tab) : Prop := ∀ b, 1 ≤ b → b < n → ∃ a v, 0 ≤ a ∧ a < b ∧ getM q (a, b) = some v
theorem TreeT.put {n : Int} {q : Tab} (h : TreeT n q) (k : Dir) (v : Int) : TreeT n (putM q k v) := fun b h1 h2 => by
  obtain ⟨a, w, ha, hab, hw⟩ := h b h1 h2
  by_cases e : (a, b) = k
  · exact ⟨a, v, ha, hab, by rw [getM_put, if_pos e]⟩
  · exact ⟨a, w, ha, hab, by rw [getM_put, if_neg e]; exact hw⟩
theorem range0 (m : Int) : rangeD 0 m = (List.range m.toNat).map fun i : Nat => PyData.int (0 + (i : Nat)) := by
  unfold rangeD; simp
theorem more_loop {ns : List Int} {n r : Int} {k0 : Nat} {q0 : Tab} {t : Slot} (hn : ns.length ≤ 63) (hk0 : k0 ≤ 100000) (n2 : 2 ≤ n) (ht : freeS t = true) (hq0 : TabOk n q0) (htr : TreeT n q0) (hl0 : q0.length ≤ 5) (hr : r < 5) :
    ∃ k q t2 t3 t14, freeS t2 = true ∧ freeS t3 = true ∧ k ≤ k0 + 12 ∧ q.length ≤ 9 ∧ TabOk n q ∧ TreeT n q ∧
      forGo (gName 3) b__law_some_town_2 (rangeD 0 r) (eT ns k0 n q0 t .no .no) = some (.nx (eT ns k n q t2 t3 t14)) := by
  have loop := for_inv (g := gName 3) (s := b__law_some_town_2) (fun i : Nat => PyData.int (0 + (i : Nat)))
    (fun rest ρ => ∃ k q t2 t3 t14, freeS t2 = true ∧ freeS t3 = true ∧ freeS t14 = true ∧ ρ = eT ns k n q t2 t3 t14 ∧ k + 3 * rest.length ≤ k0 + 12 ∧ q.length + rest.length ≤ 9 ∧ TabOk n q ∧ TreeT n q)
    (fun o => ∃ k q t2 t3 t14, freeS t2 = true ∧ freeS t3 = true ∧ k ≤ k0 + 12 ∧ q.length ≤ 9 ∧ TabOk n q ∧ TreeT n q ∧ o = .nx (eT ns k n q t2 t3 t14))
    (fun i rest ρ h => by
      obtain ⟨k, q, t2, t3, t14, f2, f3, f14, rfl, hk, hl, hq, ht⟩ := h
      rw [List.length_cons] at hk hl
      have d1 := draw1 (ns := ns) (k := k) (m := n) hn (by omega) (by omega)
      have d1' := draw0 (ns := ns) (k := k) (m := n) hn (by omega) (by omega)
      have d2 := draw1 (ns := ns) (k := k + 1) (m := n) hn (by omega) (by omega)
      have d2' := draw0 (ns := ns) (k := k + 1) (m := n) hn (by omega) (by omega)
      have d3 := draw1 (ns := ns) (k := k + 1 + 1) (m := 4) hn (by omega) (by omega)
      have d3' := draw0 (ns := ns) (k := k + 1 + 1) (m := 4) hn (by omega) (by omega)
      have hg : gName 3 (.int (0 + (i : Nat))) (eT ns k n q t2 t3 t14) = some (eT ns k n q t2 (.sh (.int (0 + (i : Nat)))) t14) := by
        simp! only [eT, w_putF f3]
      generalize drawV ns k n = a at *
      generalize drawV ns (k + 1) n = b at *
      generalize drawV ns (k + 1 + 1) 4 = v at *
      by_cases hab : a < b
      · have hpo := putOk_kv (q := q) (a := a) (b := b) (by omega)
        have hd : decide (a < b) = true := decide_eq_true hab
        refine ⟨_, hg, .nx (ρ := eT ns (k + 1 + 1 + 1) n (putM q (a, b) (1 + v)) (.sh (.int b)) (.sh (.int (0 + (i : Nat)))) (.sh (.int a))) (by simp! only [b__law_some_town_2, eT, d1, d2, d3, hpo, put_kv, w_putF f2, w_putF f14, hd]) ⟨_, _, _, _, _, rfl, rfl, rfl, rfl, by omega, ?_, hq.put d1'.1 hab d2'.2 (by omega) (by omega), ht.put _ _⟩⟩
        have := putM_len q (a, b) (1 + v); omega
      · have hd : decide (a < b) = false := decide_eq_false hab
        exact ⟨_, hg, .nx (ρ := eT ns (k + 1 + 1) n q (.sh (.int b)) (.sh (.int (0 + (i : Nat)))) (.sh (.int a))) (by simp! only [b__law_some_town_2, eT, d1, d2, w_putF f2, w_putF f14, hd]) ⟨_, _, _, _, _, rfl, rfl, rfl, rfl, by omega, by omega, hq, ht⟩⟩)
    (fun ρ h => by
      obtain ⟨k, q, t2, t3, t14, f2, f3, f14, rfl, hk, hl, hq, ht⟩ := h
      exact ⟨k, q, t2, t3, t14, f2, f3, by simpa using hk, by simpa using hl, hq, ht, rfl⟩)
    (List.range r.toNat) (eT ns k0 n q0 t .no .no) ⟨k0, q0, t, .no, .no, ht, rfl, rfl, rfl, by rw [List.length_range]; omega, by rw [List.length_range]; omega, hq0, htr⟩
  obtain ⟨o, e, k, q, t2, t3, t14, h1, h2, h3, h4, h5, h6, rfl⟩ := loop
  rw [← range0] at e
  exact ⟨k, q, t2, t3, t14, h1, h2, h3, h4, h5, h6, e⟩
def rowsM (q : Tab) : List Street := (isortM dle (q.map (·.1))).map fun p => (p.1, p.2, lenOf q p)
theorem keys_kv (q : Tab) : (kvD q).map (·.1) = (q.map (·.1)).map dirD := by unfold kvD; simp
theorem sorted_kv (q : Tab) : pSorted [.dict (kvD q)] = some (.ow (.list ((isortM dle (q.map (·.1))).map dirD))) := by
  have h1 : ((kvD q).all fun x => isTupKey x.1 || keyFlat x.1) = true := by
    rw [List.all_eq_true]
    intro x hx
    have := List.all_eq_true.mp (allTup_kv q) x hx
    rw [this]; rfl
  have h2 : sortD ((q.map (·.1)).map dirD) = some ((isortM dle (q.map (·.1))).map dirD) := by
    unfold sortD
    rw [if_pos (dir_sort _).sortOk, isort_map dir_le]
  simp only [pSorted, itemsS, h1, if_true, keys_kv, Option.bind_some, h2, Option.map_some]
theorem mem_rows {q : Tab} (h : (q.map (·.1)).Nodup) (s : Street) : s ∈ rowsM q ↔ getM q (s.1, s.2.1) = some s.2.2 := by
  unfold rowsM
  rw [List.mem_map]
  constructor
  · rintro ⟨p, hp, rfl⟩
    have hm := (isortM_perm dle _).mem_iff.mp hp
    exact lenOf_get hm
  · intro e
    have hm : ((s.1, s.2.1) : Dir) ∈ q.map (·.1) := get_some.mp (by rw [e]; rfl)
    refine ⟨(s.1, s.2.1), (isortM_perm dle _).mem_iff.mpr hm, ?_⟩
    unfold lenOf
    rw [e]; rfl
theorem rows_sts {n : Int} {q : Tab} (h : TabOk n q) : Sts n (rowsM q) := by
  refine ⟨fun s hs => ?_, fun s hs t ht e1 e2 => ?_⟩
  · have := h.ok _ _ ((mem_rows h.nd s).mp hs)
    simp only at this; omega
  · have h1 := (mem_rows h.nd s).mp hs
    have h2 := (mem_rows h.nd t).mp ht
    rw [e1, e2, h2] at h1
    obtain ⟨a, b, c⟩ := s
    obtain ⟨d, e, f⟩ := t
    simp only at e1 e2 h1
    cases h1; subst e1 e2; rfl
theorem dle_dlt {p q : Dir} (h : dle p q = true) (hn : p ≠ q) : dlt p q = true := by
  unfold dle le2 at h
  unfold dlt
  split at h
  · split at h
    · rename_i h1 h2
      have e : p.1 = q.1 := by omega
      simp only [decide_eq_true_eq] at h
      rw [if_pos e]
      have : p.2 ≠ q.2 := fun e2 => hn (Prod.ext e e2)
      simp only [decide_eq_true_eq]; omega
    · rename_i h1 h2
      rw [if_neg (by omega)]
      simp only [decide_eq_true_eq]; omega
  · cases h
theorem rows_up {q : Tab} (h : (q.map (·.1)).Nodup) : ((rowsM q).map fun s => (s.1, s.2.1)).Pairwise (fun p q => dlt p q = true) := by
  have e : (rowsM q).map (fun s => ((s.1, s.2.1) : Dir)) = isortM dle (q.map (·.1)) := by
    unfold rowsM
    rw [List.map_map]
    conv => rhs; rw [← List.map_id (isortM dle (q.map (·.1)))]
    exact List.map_congr_left fun p _ => rfl
  rw [e]
  have h1 := isortM_sorted dir_le (q.map (·.1))
  have h2 : (isortM dle (q.map (·.1))).Nodup := (isortM_perm dle _).nodup_iff.mpr h
  exact (h1.and h2).imp fun ⟨a, b⟩ => dle_dlt a b
theorem rows_len (q : Tab) : (rowsM q).length = q.length := by
  unfold rowsM
  rw [List.length_map, (isortM_perm dle _).length_eq, List.length_map]
theorem rows_tree {n : Int} {q : Tab} (h : TabOk n q) (ht : TreeT n q) : Tree n (rowsM q) := Tree0.tree fun b h1 h2 => by
  obtain ⟨a, v, ha, hab, hv⟩ := ht b h1 h2
  exact ⟨a, v, ha, hab, (mem_rows h.nd (a, b, v)).mpr hv⟩
end Q
set_option maxRecDepth 100000
namespace Q
open PySem Pu
def rangeI (m : Int) : List Int := (List.range m.toNat).map fun i : Nat => (i : Int)
theorem range_ints (m : Int) : rangeD 0 m = (rangeI m).map PyData.int := by
  rw [range0, rangeI, List.map_map]
  exact List.map_congr_left fun i _ => by simp
theorem mem_rangeI {m x : Int} : x ∈ rangeI m ↔ 0 ≤ x ∧ x < m := by
  unfold rangeI
  rw [List.mem_map]
  constructor
  · rintro ⟨i, hi, rfl⟩; have := List.mem_range.mp hi; omega
  · rintro ⟨h1, h2⟩; exact ⟨x.toNat, List.mem_range.mpr (by omega), by omega⟩
theorem rangeI_nodup (m : Int) : (rangeI m).Nodup := by
  unfold rangeI
  rw [List.Nodup, List.pairwise_map]
  exact List.nodup_range.imp fun h e => h (by omega)
theorem rangeI_len (m : Int) : (rangeI m).length = m.toNat := by unfold rangeI; simp
theorem notin_ints (xs : List Int) (y : Int) : pNotIn (.int y) (intsD xs) = some (.sh (.bool (!(xs.any fun g => decide (g = y))))) := by
  have h : PyData.canLay0 (.int y) = true := by simp [PyData.canLay0]
  have h2 : PyData.depth (.int y) ≤ 64 := by simp [PyData.depth]
  have := pNotIn_tup (S := xs.map .int) (d := .int y) (intsLay xs) h h2
  rw [show intsD xs = .tuple (xs.map .int) from rfl, this]
  unfold hasS
  rw [List.any_map]
  have : ((fun z => PyData.eqv z (.int y)) ∘ PyData.int) = fun g => decide (g = y) := by funext g; exact eqv_int g y
  rw [this]
theorem small_of {i : Int} (h0 : 0 ≤ i) (h1 : i ≤ 1000000) : small62 i = true := by
  unfold small62; simp; omega
theorem ways_nodup {n : Int} {ss : List Street} (h : Sts n ss) (hu : (ss.map fun s => ((s.1, s.2.1) : Dir)).Pairwise (fun p q => dlt p q = true)) : (waysM ss).Nodup := by
  unfold waysM
  induction ss with
  | nil => simp
  | cons s ss ih =>
    rw [List.map_cons, List.pairwise_cons] at hu
    have hs : Sts n ss := ⟨fun t ht => h.ok t (by simp [ht]), fun a ha b hb => h.un a (by simp [ha]) b (by simp [hb])⟩
    have ih := ih hs hu.2
    rw [List.flatMap_cons, List.nodup_append]
    have o := h.ok s (by simp)
    refine ⟨by simp; omega, ih, fun x hx y hy e => ?_⟩
    subst e
    obtain ⟨t, ht, e⟩ := List.mem_flatMap.mp hy
    have ot := hs.ok t ht
    have hne : ¬ (s.1 = t.1 ∧ s.2.1 = t.2.1) := fun ⟨e1, e2⟩ => by
      have := hu.1 (t.1, t.2.1) (List.mem_map.mpr ⟨t, ht, rfl⟩)
      unfold dlt at this
      simp only [e1, e2, if_true, decide_eq_true_eq] at this
      omega
    simp only [List.mem_cons, List.not_mem_nil, or_false] at hx e
    rcases hx with rfl | rfl <;> rcases e with e | e <;> simp only [Prod.mk.injEq] at e <;> first | exact hne e | exact hne ⟨e.2, e.1⟩ | omega
theorem allSg_nodup {n : Int} {ss : List Street} (h : Sts n ss) (hu : (ss.map fun s => ((s.1, s.2.1) : Dir)).Pairwise (fun p q => dlt p q = true)) : (allSg ss).Nodup := by
  have hw := ways_nodup h hu
  have hp : ((ss.map fun s => ((s.1, s.2.1) : Dir))).Nodup := hu.imp fun {p q} e e2 => by subst e2; unfold dlt at e; simp at e
  unfold allSg
  rw [List.nodup_append, List.nodup_append]
  refine ⟨⟨?_, ?_, ?_⟩, ?_, ?_⟩
  · rw [List.Nodup, List.pairwise_map] at hp ⊢
    exact hp.imp fun hne e => by simp only [Sg.shut.injEq] at e; exact hne (Prod.ext e.1 e.2)
  · rw [List.Nodup, List.pairwise_map]
    exact hw.imp fun {p q} hne e => by simp only [Sg.way.injEq] at e; exact hne (Prod.ext e.1 e.2)
  · intro x hx y hy e
    obtain ⟨_, _, rfl⟩ := List.mem_map.mp hx
    obtain ⟨_, _, rfl⟩ := List.mem_map.mp hy
    cases e
  · unfold turnsM
    generalize hW : waysM ss = W at hw
    clear hW
    have : ∀ l : List Dir, l.Nodup → (l.flatMap fun w => (W.filter fun v => decide (v.1 = w.2) && !decide (v.2 = w.1)).map fun v => Sg.turn w.1 w.2 v.2).Nodup := fun l hl => by
      induction l with
      | nil => simp
      | cons a l ih =>
        rw [List.nodup_cons] at hl
        rw [List.flatMap_cons, List.nodup_append]
        refine ⟨?_, ih hl.2, fun x hx y hy e => ?_⟩
        · rw [List.Nodup, List.pairwise_map]
          refine List.Pairwise.imp_of_mem ?_ (hw.filter _)
          intro u v hu hv hne e
          simp only [Sg.turn.injEq] at e
          rw [List.mem_filter] at hu hv
          simp only [Bool.and_eq_true, decide_eq_true_eq] at hu hv
          exact hne (Prod.ext (by rw [hu.2.1, hv.2.1]) e.2.2)
        · subst e
          obtain ⟨v, _, rfl⟩ := List.mem_map.mp hx
          obtain ⟨b, hb, e⟩ := List.mem_flatMap.mp hy
          obtain ⟨u, _, e⟩ := List.mem_map.mp e
          simp only [Sg.turn.injEq] at e
          have : b = a := Prod.ext e.1 e.2.1
          subst this
          exact hl.1 hb
    exact this W hw
  · intro x hx y hy e
    subst e
    unfold turnsM at hy
    obtain ⟨b, hb, e⟩ := List.mem_flatMap.mp hy
    obtain ⟨u, _, rfl⟩ := List.mem_map.mp e
    rcases List.mem_append.mp hx with hx | hx
    · obtain ⟨_, _, e⟩ := List.mem_map.mp hx; cases e
    · obtain ⟨_, _, e⟩ := List.mem_map.mp hx; cases e
end Q
set_option maxRecDepth 100000
namespace Q
open PySem Pu
def headD (x : D) : D := (items x).headD .none
end Q
set_option maxRecDepth 100000
namespace Q
open PySem Pu
end Q
set_option maxRecDepth 100000
namespace Q
open PySem Pu
def badS (n a b : Int) : List D :=
  [.tuple [shutD b a], .tuple [wayD a a], .tuple [turnD a b a], .tuple [wayD a n], .tuple [.tuple [.str (Str.ofString "way"), .bool true, .int b]], .tuple [.tuple [.str (Str.ofString "way"), .int a]],
   .tuple [.tuple [.str (Str.ofString "stop"), .int a, .int b]], .tuple [.tuple [.str (Str.ofString "way"), .int a, .int b, .int 0]], wayD a b, .list [wayD a b], .tuple [.tuple [.str (Str.ofString "turn"), .int a, .int b]], .tuple [.none],
   .tuple [wayD a b, wayD a b], .tuple [wayD b a, shutD a b], .tuple [.tuple [.str (Str.ofString "way"), .int a, .str (Str.ofString (toString b))]]]
theorem str_int {b : Int} (h : b.natAbs.log2 < 1920) : pStr [.int b] = some (.sh (.str (Str.ofString (toString b)))) := by
  show (if b.natAbs.log2 < 1920 then some (Res.sh (.str (Str.ofString (toString b)))) else none) = _
  rw [if_pos h]
theorem bad_signs_eq {n a b : Int} (h : b.natAbs.log2 < 1920) : F__law_bad_signs [.sh (.int n), .sh (.int a), .sh (.int b)] = some (.ow (.list (badS n a b)), [.sh (.int n), .sh (.int a), .sh (.int b)]) := by
  simp! only [F__law_bad_signs, b__law_bad_signs, str_int h, pAdd, Nat.reduceLT]
  rfl
theorem signsD_tup (n most : Int) (ss : List Street) (xs : List D) : signsD n ss most (.tuple xs) = (!decide (most < (xs.length : Int)) && xs.all (signD n ss) && ((xs.zip (xs.drop 1)).all fun p => !leT p.2 p.1)) := rfl
theorem signs_bad {n most : Int} {ss : List Street} {xs : List D} {x : D} (hx : x ∈ xs) (h : signD n ss x = false) : signsD n ss most (.tuple xs) = false := by
  rw [signsD_tup]
  have e : xs.all (signD n ss) = false := by rw [List.all_eq_false]; exact ⟨x, hx, by rw [h]; simp⟩
  rw [e]; simp
theorem rises_pw : ∀ (xs : List D), (xs.zip (xs.drop 1)).all (fun p => !leT p.2 p.1) = true → xs.Pairwise (fun a b => leT b a = false)
  | [], _ => .nil
  | [x], _ => by simp
  | x :: y :: ys, h => by
    simp only [List.drop_succ_cons, List.drop_zero, List.zip_cons_cons, List.all_cons, Bool.and_eq_true] at h
    have hp := rises_pw (y :: ys) (by simpa using h.2)
    refine List.pairwise_cons.mpr ⟨fun z hz => ?_, hp⟩
    have hyx : leT y x = false := by simpa using h.1
    rcases List.mem_cons.mp hz with rfl | hz
    · exact hyx
    · have hzy := (List.pairwise_cons.mp hp).1 z hz
      have hxy : leT x y = true := by rcases leT_total x y with e | e; exact e; rw [hyx] at e; cases e
      cases e : leT z x with
      | false => rfl
      | true => rw [leT_trans z x y e hxy] at hzy; cases hzy
theorem signs_norise {n most : Int} {ss : List Street} {xs : List D} (h : ¬ xs.Pairwise (fun a b => leT b a = false)) : signsD n ss most (.tuple xs) = false := by
  cases e : signsD n ss most (.tuple xs) with
  | false => rfl
  | true =>
    rw [signsD_tup] at e
    simp only [Bool.and_eq_true] at e
    exact absurd (rises_pw xs e.2) h
theorem sgF {n : Int} {ss : List Street} (h : Sts n ss) {s : Sg} (hn : ¬ SgOk ss s) : signD n ss (sgD s) = false := by
  cases e : signD n ss (sgD s) with
  | false => rfl
  | true => exact absurd ((sign_okD h s).mp e) hn
theorem tame3_sg (s : Sg) : tame3 (.tuple [sgD s]) = true := sg_tame [s]
theorem bad_signs {n : Int} {ss : List Street} (h : Sts n ss) {a b l : Int} (hs : (a, b, l) ∈ ss) (most : Int) : ∀ v ∈ badS n a b, tame3 v = true ∧ signsD n ss most v = false := by
  have o := h.ok _ hs
  simp only at o
  have one : ∀ s : Sg, ¬ SgOk ss s → tame3 (.tuple [sgD s]) = true ∧ signsD n ss most (.tuple [sgD s]) = false := fun s hn => ⟨tame3_sg s, signs_bad (by simp) (sgF h hn)⟩
  have okst : PyData.strOk (Str.ofString "stop") = true := by decide +kernel
  have n1 : Str.ofString "stop" ≠ Str.ofString "way" := by decide +kernel
  have n2 : Str.ofString "stop" ≠ Str.ofString "shut" := by decide +kernel
  intro v hv
  simp only [badS, List.mem_cons, List.not_mem_nil, or_false] at hv
  rcases hv with rfl | rfl | rfl | rfl | rfl | rfl | rfl | rfl | rfl | rfl | rfl | rfl | rfl | rfl | rfl
  · exact one (.shut b a) fun ⟨l, hl⟩ => by have := h.ok _ hl; simp only at this; omega
  · exact one (.way a a) fun ⟨l, hl⟩ => by have := adj_range h hl; omega
  · exact one (.turn a b a) fun ⟨_, _, hl⟩ => hl rfl
  · exact one (.way a n) fun ⟨l, hl⟩ => by have := adj_range h hl; omega
  · exact ⟨by simp [tame3, noDict, items, tame, headOk, ok_way], signs_bad (x := .tuple [.str (Str.ofString "way"), .bool true, .int b]) (by simp) rfl⟩
  · exact ⟨by simp [tame3, noDict, items, tame, headOk, ok_way], signs_bad (x := .tuple [.str (Str.ofString "way"), .int a]) (by simp) rfl⟩
  · exact ⟨by simp [tame3, noDict, items, tame, headOk, okst], signs_bad (x := .tuple [.str (Str.ofString "stop"), .int a, .int b]) (by simp) (by simp [signD, n1, n2])⟩
  · exact ⟨by simp [tame3, noDict, items, tame, headOk, ok_way], signs_bad (x := .tuple [.str (Str.ofString "way"), .int a, .int b, .int 0]) (by simp) (by simp [signD, ne_tw.symm])⟩
  · exact ⟨by simp [tame3, noDict, items, tame, headOk, wayD], signs_bad (x := .int a) (by simp) rfl⟩
  · exact ⟨by simp [tame3, noDict, items, tame, headOk, wayD, ok_way], rfl⟩
  · exact ⟨by simp [tame3, noDict, items, tame, headOk, ok_turn], signs_bad (x := .tuple [.str (Str.ofString "turn"), .int a, .int b]) (by simp) (by simp [signD, ne_tw, ne_ts])⟩
  · exact ⟨rfl, signs_bad (x := .none) (by simp) rfl⟩
  · refine ⟨sg_tame [.way a b, .way a b], signs_norise fun hp => ?_⟩
    rw [List.pairwise_cons] at hp
    have := hp.1 (wayD a b) (by simp)
    rw [leT_refl] at this; cases this
  · refine ⟨sg_tame [.way b a, .shut a b], signs_norise fun hp => ?_⟩
    rw [List.pairwise_cons] at hp
    have := hp.1 (shutD a b) (by simp)
    have e := sg_le (.shut a b) (.way b a)
    change leT (shutD a b) (wayD b a) = true at e
    rw [e] at this; cases this
  · exact ⟨by simp [tame3, noDict, items, tame, headOk, ok_way], signs_bad (x := .tuple [.str (Str.ofString "way"), .int a, .str (Str.ofString (toString b))]) (List.mem_singleton.mpr rfl) rfl⟩
end Q
set_option maxRecDepth 100000
namespace Q
open PySem Pu
theorem etx_at {as : Ms} {j i : Nat} {ρ : Pu.Env} {rs : List Res} {ds xs : List D} (h1 : as ρ = some (rs, ρ)) (h2 : rs[j]? = some (.var i)) (h3 : ρ[i]? = some (.xt (.tx .ex (.tuple xs)))) (h4 : rs.length ≤ 1000) (h5 : shAll ρ rs = some ds) : eTupX j i as ρ = some (.tx (.it j) (.tuple ds), ρ) := by
  have e1 : txAt i ρ = some xs := by unfold txAt; rw [h3]; rfl
  unfold eTupX
  rw [h1, Option.bind_some]
  show (if (isVarR i rs[j]? && (txAt i ρ).isSome && decide (rs.length ≤ 1000)) = true then (shAll ρ rs).map fun ds => (Res.tx (.it j) (.tuple ds), ρ) else none) = _
  rw [h2, e1, h5]
  simp [isVarR, h4]
theorem rows_compX {ns : List Int} {k : Nat} {n : Int} {q : Tab} {t2 t3 t14 : Slot} :
    compGo [16] (gName 16) tYes c__law_some_townX_1 ((isortM dle (q.map (·.1))).map dirD) [] (eT ns k n q t2 t3 t14) = some ((rowsM q).map strD, eT ns k n q t2 t3 t14) := by
  have := comp_M (ρ := eT ns k n q t2 t3 t14) (vs := [16]) (g := gName 16) (a := c__law_some_townX_1) dirD (fun p => strD (p.1, p.2, lenOf q p)) (isortM dle (q.map (·.1))) fun p hp => by
    have hm := (isortM_perm dle _).mem_iff.mp hp
    have e : pIx (.dict (kvD q)) (dirD p) = some (.sh (.int (lenOf q p))) := pIx_kv (lenOf_get hm)
    have e2 : pAdd (dirD p) (.tuple [.int (lenOf q p)]) = some (.sh (strD (p.1, p.2, lenOf q p))) := rfl
    refine ⟨(eT ns k n q t2 t3 t14).set 16 (.sh (dirD p)), rfl, ⟨.sh (strD (p.1, p.2, lenOf q p)), ?_, rfl⟩, rfl⟩
    simp! only [c__law_some_townX_1, eT, e, e2]
  rw [this]
  unfold rowsM
  rw [List.map_map]; rfl
def eUX (ns : List Int) (k : Nat) (t : Tw) (q : Tab) (t2 t3 : Slot) (rd : D) (t12 t13 t14 : Slot) : Pu.Env := [.sh (nsD ns), .bo (zs k), t2, t3, .xt (.tx .ex (.tuple (t.ss.map strD))), .sh (intsD t.gates), .sh rd, .sh (intsD t.houses), .sh (intsD t.quiet), .xt (.tx (.it 1) t.d), .sh (.int t.n), .ow (.dict (kvD q)), t12, t13, t14, .no, .no]
theorem sign_loopX {ns : List Int} {q : Tab} {t2 t3 t14 : Slot} {rd : D} {k0 : Nat} {t0 : Tw} (hn : ns.length ≤ 63) (hk0 : k0 ≤ 100000) (f3 : freeS t3 = true) (h0 : t0.Ok) :
    ∃ k t u3 t12 t13, k ≤ k0 + 2002 ∧ t.Ok ∧ forGo (gName 3) b__law_some_townX_3 (rangeD 0 2) (eUX ns k0 t0 q t2 t3 rd .no .no t14) = some (.nx (eUX ns k t q t2 u3 rd t12 t13 t14)) := by
  have loop := for_inv (g := gName 3) (s := b__law_some_townX_3) (fun i : Nat => PyData.int (0 + (i : Nat)))
    (fun rest ρ => ∃ k t t3 t12 t13, freeS t3 = true ∧ freeS t12 = true ∧ freeS t13 = true ∧ ρ = eUX ns k t q t2 t3 rd t12 t13 t14 ∧ k + 1001 * rest.length ≤ k0 + 2002 ∧ t.Ok)
    (fun o => ∃ k t t3 t12 t13, k ≤ k0 + 2002 ∧ t.Ok ∧ o = .nx (eUX ns k t q t2 t3 rd t12 t13 t14))
    (fun i rest ρ h => by
      obtain ⟨k, t, t3, t12, t13, f3, f12, f13, rfl, hk, ht⟩ := h
      rw [List.length_cons] at hk
      have hg : gName 3 (.int (0 + (i : Nat))) (eUX ns k t q t2 t3 rd t12 t13 t14) = some (eUX ns k t q t2 (.sh (.int (0 + (i : Nat)))) rd t12 t13 t14) := by
        simp! only [eUX, w_putF f3]
      have ha := allsigns_at (td := t.d) (ss := t.ss) (ys := (isortM sgLe (allSg t.ss)).map sgD) rfl rfl rfl (by have := ht.s9; omega)
      have d1 := draw1 (ns := ns) (k := k) (m := 3) hn (by omega) (by omega)
      have d1' := draw0 (ns := ns) (k := k) (m := 3) hn (by omega) (by omega)
      have hlen : (isortM sgLe (allSg t.ss)).length < 1000 := by
        rw [(isortM_perm sgLe _).length_eq]
        have hw : (waysM t.ss).length = 2 * t.ss.length := by
          unfold waysM
          generalize t.ss = ss
          induction ss with
          | nil => rfl
          | cons s ss ih => rw [List.flatMap_cons, List.length_append, ih]; simp; omega
        have ht2 : (turnsM (waysM t.ss)).length ≤ (waysM t.ss).length * (waysM t.ss).length := by
          unfold turnsM
          generalize waysM t.ss = ws
          have : ∀ l : List Dir, (l.flatMap fun w => (ws.filter fun v => decide (v.1 = w.2) && !decide (v.2 = w.1)).map fun v => Sg.turn w.1 w.2 v.2).length ≤ l.length * ws.length := fun l => by
            induction l with
            | nil => simp
            | cons a l ih =>
              rw [List.flatMap_cons, List.length_append, List.length_map, List.length_cons, Nat.add_mul, Nat.one_mul]
              have := List.length_filter_le (fun v => decide (v.1 = a.2) && !decide (v.2 = a.1)) ws
              omega
          exact this ws
        unfold allSg
        rw [List.length_append, List.length_append, List.length_map, List.length_map, hw]
        rw [hw] at ht2
        have h9 := ht.s9
        have : 2 * t.ss.length * (2 * t.ss.length) ≤ 18 * 18 := Nat.mul_le_mul (by omega) (by omega)
        omega
      obtain ⟨f, k', hf, hk', e⟩ := some_typed (k := k + 1) (count := drawV ns k 3) (src := .list ((isortM sgLe (allSg t.ss)).map sgD)) sg_le hn (by omega) hlen d1'.1 (sg_sort (isortM sgLe (allSg t.ss))) rfl
      have hf1 : ∀ s ∈ f, s ∈ allSg t.ss := fun s hs => (isortM_perm sgLe _).mem_iff.mp (hf.sub s hs)
      have hT := town_any (v := townD t.n t.ss (f.map sgD) t.gates t.houses t.quiet) (tame_town _ _ _ _ _ _)
      have ed : PyData.tuple [.int t.n, .tuple (t.ss.map strD), .tuple (f.map sgD), intsD t.gates, intsD t.houses, intsD t.quiet] = townD t.n t.ss (f.map sgD) t.gates t.houses t.quiet := rfl
      have et : eTupX 1 4 (msCons (eVar 10) (msCons (eVar 4) (msCons (eVar 12) (msCons (eVar 5) (msCons (eVar 7) (msCons (eVar 8) (msNil))))))) (eUX ns k' t q t2 (.sh (.int (0 + (i : Nat)))) rd (.sh (.tuple (f.map sgD))) t13 t14) = some (.tx (.it 1) (townD t.n t.ss (f.map sgD) t.gates t.houses t.quiet), eUX ns k' t q t2 (.sh (.int (0 + (i : Nat)))) rd (.sh (.tuple (f.map sgD))) t13 t14) := etx_at (rs := [.var 10, .var 4, .var 12, .var 5, .var 7, .var 8]) rfl rfl rfl (by decide) rfl
      simp only [eUX] at et
      have cp : ∀ (ρ : Pu.Env) (p : Pt) (d : D), cpXB 9 ρ (some (.xt (.tx p d))) = (setSlot 9 (.xt (.tx p d)) ρ).map .nx := fun _ _ _ => rfl
      have cq : ∀ ρ : Pu.Env, sCopyX 9 13 ρ = cpXB 9 ρ ρ[13]? := fun _ => rfl
      cases hst : standsD (townD t.n t.ss (f.map sgD) t.gates t.houses t.quiet) with
      | false =>
        rw [hst] at hT
        refine ⟨_, hg, .nx (ρ := eUX ns k' t q t2 (.sh (.int (0 + (i : Nat)))) rd (.sh (.tuple (f.map sgD))) (.xt (.tx (.it 1) (townD t.n t.ss (f.map sgD) t.gates t.houses t.quiet))) t14) (by simp! only [b__law_some_townX_3, eUX, ha, d1, e, w_putF f12, w_putF f13, et, hT]) ⟨_, _, _, _, _, rfl, rfl, rfl, rfl, by omega, ht⟩⟩
      | true =>
        rw [hst] at hT
        rw [stands_town] at hst
        simp only [Bool.and_eq_true] at hst
        have hS := hst.1.1.1.2.2
        have hj := hst.2.2
        have hfl : f.length ≤ 2 := by rw [hf.len]; omega
        have hnd : f.Nodup := hf.nd ((isortM_perm sgLe _).nodup_iff.mpr ?nd)
        case nd => exact allSg_nodup ht.sts ht.up
        refine ⟨_, hg, .nx (ρ := eUX ns k' ⟨t.n, t.ss, f, t.gates, t.houses, t.quiet⟩ q t2 (.sh (.int (0 + (i : Nat)))) rd (.sh (.tuple (f.map sgD))) (.xt (.tx (.it 1) (townD t.n t.ss (f.map sgD) t.gates t.houses t.quiet))) t14) (by simp! only [b__law_some_townX_3, eUX, ha, d1, e, w_putF f12, w_putF f13, et, hT, cq, cp, Option.map_some]; rfl) ⟨_, _, _, _, _, rfl, rfl, rfl, rfl, by omega, ?_⟩⟩
        exact ⟨ht.n2, ht.n6, ht.sts, ht.l4, ht.up, ht.s1, ht.s9, ht.tree, hf1, sup_of hf.srt hnd, hfl, ht.gr, ht.gu, ht.g2, ht.g3, ht.hr, ht.hu, ht.h2, ht.gh, ht.qr, ht.qu, ht.q2, hj⟩)
    (fun ρ h => by
      obtain ⟨k, t, t3, t12, t13, f3, f12, f13, rfl, hk, ht⟩ := h
      exact ⟨k, t, t3, t12, t13, by simpa using hk, ht, rfl⟩)
    (List.range (2 : Int).toNat) (eUX ns k0 t0 q t2 t3 rd .no .no t14) ⟨k0, t0, t3, .no, .no, f3, rfl, rfl, rfl, by rw [List.length_range]; show k0 + 1001 * 2 ≤ _; omega, h0⟩
  obtain ⟨o, e, k, t, u3, t12, t13, h1, h2, rfl⟩ := loop
  rw [← range0] at e
  exact ⟨k, t, u3, t12, t13, h1, h2, e⟩
theorem some_townX {ns : List Int} {k0 : Nat} (hn : ns.length ≤ 63) (hk0 : k0 ≤ 50000) : ∃ (t : Tw) (k : Nat), t.Ok ∧ k ≤ k0 + 3000 ∧ F__law_some_townX [.sh (nsD ns), .bo (zs k0)] = some (.tx (.it 1) t.d, [.sh (nsD ns), .bo (zs k)]) := by
  have d0 := draw1 (ns := ns) (k := k0) (m := 5) hn (by omega) (by omega)
  have d0' := draw0 (ns := ns) (k := k0) (m := 5) hn (by omega) (by omega)
  generalize hnn : 2 + drawV ns k0 5 = n
  have n2 : 2 ≤ n := by omega
  have n6 : n ≤ 6 := by omega
  obtain ⟨k1, q1, t2, f2, hk1, hl1, hq1, ht1, e1⟩ := tree_loop (ns := ns) (n := n) (k0 := k0 + 1) hn (by omega) n2 n6
  have d1 := draw1 (ns := ns) (k := k1) (m := 5) hn (by omega) (by omega)
  have d1' := draw0 (ns := ns) (k := k1) (m := 5) hn (by omega) (by omega)
  obtain ⟨k2, q, u2, t3, t14, fu2, f3, hk2, hl, hq, ht, e2⟩ := more_loop (ns := ns) (n := n) (r := drawV ns k1 5) (k0 := k1 + 1) hn (by omega) n2 f2 hq1 ht1 hl1 d1'.2
  have e3 := rows_compX (ns := ns) (k := k2) (n := n) (q := q) (t2 := u2) (t3 := t3) (t14 := t14)
  have e4 := sorted_kv q
  have sts := rows_sts hq
  have tree := rows_tree hq ht
  have rl := rows_len q
  have s1 : 1 ≤ (rowsM q).length := by
    obtain ⟨k, w⟩ := tree 1 (by omega) (by omega)
    obtain ⟨a, l, hm⟩ := wk_last w (by omega)
    exact hm.elim List.length_pos_of_mem List.length_pos_of_mem
  -- gates
  have d3 := draw1 (ns := ns) (k := k2) (m := 2) hn (by omega) (by omega)
  have d3' := draw0 (ns := ns) (k := k2) (m := 2) hn (by omega) (by omega)
  have nl := rangeI_len n
  obtain ⟨g, k3, hg, hk3, e5⟩ := some_typed (k := k2 + 1) (xs := rangeI n) (count := 2 + drawV ns k2 2) (src := .list ((rangeI n).map .int)) int_le hn (by omega) (by omega) (by omega) (int_sort _) rfl
  have gl := hg.len
  -- houses
  have c1 : ∀ (ρ : Pu.Env) (rd : Slot), ρ = [.sh (nsD ns), .bo (zs k3), u2, t3, .xt (.tx .ex (.tuple ((rowsM q).map strD))), .sh (intsD g), rd, .no, .no, .no, .sh (.int n), .ow (.dict (kvD q)), .no, .no, t14, .no, .no] →
      compGo [15] (gName 15) q__law_some_townX_1 c__law_some_townX_2 ((rangeI n).map PyData.int) [] ρ = some ((((rangeI n).filter fun x => !(g.any fun y => decide (y = x)))).map PyData.int, ρ) := fun ρ rd hρ => by
    have := comp_map (ρ := ρ) (vs := [15]) (g := gName 15) (t := q__law_some_townX_1) (a := c__law_some_townX_2) PyData.int (fun x => !(g.any fun y => decide (y = x))) PyData.int (rangeI n) [] fun x _ => by
      subst hρ
      refine ⟨[.sh (nsD ns), .bo (zs k3), u2, t3, .xt (.tx .ex (.tuple ((rowsM q).map strD))), .sh (intsD g), rd, .no, .no, .no, .sh (.int n), .ow (.dict (kvD q)), .no, .no, t14, .sh (.int x), .no], rfl, ?_, fun _ => ⟨_, rfl, rfl⟩, rfl⟩
      simp! only [q__law_some_townX_1, notin_ints]
    rw [List.nil_append] at this; exact this
  have c1' := c1 _ .no rfl
  generalize hrest : (rangeI n).filter (fun x => !(g.any fun y => decide (y = x))) = rest at c1'
  have d4 := draw1 (ns := ns) (k := k3) (m := 3) hn (by omega) (by omega)
  have d4' := draw0 (ns := ns) (k := k3) (m := 3) hn (by omega) (by omega)
  have rstl : rest.length ≤ 6 := by
    rw [← hrest]
    have := List.length_filter_le (fun x => !(g.any fun y => decide (y = x))) (rangeI n)
    omega
  obtain ⟨h, k4, hh, hk4, e6⟩ := some_typed (k := k3 + 1) (xs := rest) (count := drawV ns k3 3) (src := .list (rest.map .int)) int_le hn (by omega) (by omega) (by omega) (int_sort _) rfl
  have hlh := hh.len
  -- quiet
  have d5 := draw1 (ns := ns) (k := k4) (m := 3) hn (by omega) (by omega)
  have d5' := draw0 (ns := ns) (k := k4) (m := 3) hn (by omega) (by omega)
  have ql := rangeI_len ((rowsM q).length : Int)
  obtain ⟨w, k5, hw, hk5, e7⟩ := some_typed (k := k4 + 1) (xs := rangeI ((rowsM q).length : Int)) (count := drawV ns k4 3) (src := .list ((rangeI ((rowsM q).length : Int)).map .int)) int_le hn (by omega) (by omega) (by omega) (int_sort _) rfl
  have wl := hw.len
  have hr : ∀ x ∈ h, (0 ≤ x ∧ x < n) ∧ x ∉ g := fun x hx => by
    have := hh.sub x hx
    rw [← hrest, List.mem_filter] at this
    refine ⟨mem_rangeI.mp this.1, fun hxg => ?_⟩
    have h2 := this.2
    simp only [Bool.not_eq_true', List.any_eq_false, decide_eq_true_eq] at h2
    exact h2 x hxg rfl
  have rnd : rest.Nodup := by rw [← hrest]; exact (rangeI_nodup n).filter _
  have gr : ∀ x ∈ g, 0 ≤ x ∧ x < n := fun x hx => mem_rangeI.mp (hg.sub x hx)
  have ok : Tw.Ok ⟨n, rowsM q, [], g, h, w⟩ := ⟨n2, n6, sts, fun s hs => (hq.ok _ _ ((mem_rows hq.nd s).mp hs)).2.2.2.2, rows_up hq.nd, s1, (by show (rowsM q).length ≤ 9; omega), tree, (by simp), .nil, (by simp), gr, up_of hg.srt (hg.nd (rangeI_nodup n)),
    (by show 2 ≤ g.length; omega), (by show g.length ≤ 3; omega), fun x hx => (hr x hx).1, up_of hh.srt (hh.nd rnd), (by show h.length ≤ 2; omega), fun x hx hx2 => (hr x hx2).2 hx, fun x hx => mem_rangeI.mp (hw.sub x hx), up_of hw.srt (hw.nd (rangeI_nodup _)), (by show w.length ≤ 2; omega),
    joins_tree sts tree (by omega) gr (fun x hx => (hr x hx).1) (fun x hx hx2 => (hr x hx2).2 hx) (by intro e; have e : g = [] := e; rw [e] at gl; simp at gl; omega)⟩
  obtain ⟨k6, t, u3, t12, t13, hk6, tok, e8⟩ := sign_loopX (ns := ns) (q := q) (t2 := u2) (t3 := t3) (t14 := t14) (rd := .list (rest.map .int)) (k0 := k5) hn (by omega) f3 ok
  refine ⟨t, k6, tok, by omega, ?_⟩
  have sm1 : (small62 1 && small62 n) = true := by rw [small_of (i := 1) (by omega) (by omega), small_of (i := n) (by omega) (by omega)]; rfl
  have sm0 : small62 1 = true := small_of (by omega) (by omega)
  have sm2 : small62 n = true := small_of (by omega) (by omega)
  have sm3 : small62 (drawV ns k1 5) = true := small_of (by omega) (by omega)
  have sm4 : small62 ((rowsM q).length : Int) = true := small_of (by omega) (by omega)
  have sm5 : small62 2 = true := small_of (by omega) (by omega)
  have b1 : (n - 1).toNat ≤ 16777216 := by omega
  have b2 : (n - 0).toNat ≤ 16777216 := by omega
  have b3 : (drawV ns k1 5 - 0).toNat ≤ 16777216 := by omega
  have b4 : (((rowsM q).length : Int) - 0).toNat ≤ 16777216 := by omega
  have b5 : ((2 : Int) - 0).toNat ≤ 16777216 := by omega
  have b1X : b__law_some_townX_1 = b__law_some_town_1 := rfl
  have b2X : b__law_some_townX_2 = b__law_some_town_2 := rfl
  simp only [eT] at e1 e2 e3
  simp only [eUX, Tw.d] at e8
  have kv0 : PyData.dict (kvD []) = .dict [] := rfl
  rw [kv0] at e1
  rw [range_ints] at e2 e8
  have td : PyData.tuple [.int n, .tuple ((rowsM q).map strD), .tuple [], intsD g, intsD h, intsD w] = townD n (rowsM q) (([] : List Sg).map sgD) g h w := rfl
  have gd : PyData.tuple (g.map .int) = intsD g := rfl
  have hd : PyData.tuple (h.map .int) = intsD h := rfl
  have wd : PyData.tuple (w.map .int) = intsD w := rfl
  have et : eTupX 1 4 (msCons (eVar 10) (msCons (eVar 4) (msCons (eTup dsNil) (msCons (eVar 5) (msCons (eVar 7) (msCons (eVar 8) (msNil))))))) [.sh (nsD ns), .bo (zs k5), u2, t3, .xt (.tx .ex (.tuple ((rowsM q).map strD))), .sh (intsD g), .sh (.list (rest.map .int)), .sh (intsD h), .sh (intsD w), .no, .sh (.int n), .ow (.dict (kvD q)), .no, .no, t14, .no, .no] = some (.tx (.it 1) (townD n (rowsM q) (([] : List Sg).map sgD) g h w), [.sh (nsD ns), .bo (zs k5), u2, t3, .xt (.tx .ex (.tuple ((rowsM q).map strD))), .sh (intsD g), .sh (.list (rest.map .int)), .sh (intsD h), .sh (intsD w), .no, .sh (.int n), .ow (.dict (kvD q)), .no, .no, t14, .no, .no]) := etx_at (rs := [.var 10, .var 4, .sh (.tuple []), .var 5, .var 7, .var 8]) rfl rfl rfl (by decide) rfl
  have tx : txSlot ((rowsM q).map strD) = .xt (.tx .ex (.tuple ((rowsM q).map strD))) := by
    unfold txSlot
    rw [if_pos]
    rw [Bool.and_eq_true]
    refine ⟨?_, by rw [List.all_map, List.all_eq_true]; exact fun s _ => rfl⟩
    have : rowsM q ≠ [] := by intro z; rw [z] at s1; simp at s1
    simp [this]
  have stx : ∀ ρ : Pu.Env, stxB 4 ρ (.list ((rowsM q).map strD)) = (setSlot 4 (.xt (.tx .ex (.tuple ((rowsM q).map strD)))) ρ).map .nx := fun ρ => by rw [← tx]; rfl
  have sx : ∀ (g : M) (ρ : Pu.Env), sSetX 4 g ρ = (g ρ).bind (stxA 4) := fun _ _ => rfl
  have sa : ∀ (r : Res) (ρ : Pu.Env), stxA 4 (r, ρ) = (r.get ρ).bind (stxB 4 ρ) := fun _ _ => rfl
  simp! only [F__law_some_townX, b__law_some_townX, b1X, b2X, d0, hnn, sm1, b1, e1, d1, sm3, b3, e2, e4, sx, sa, stx, Option.map_some, e3, sm2, b2, range_ints, d3, e5, gd, c1', d4, e6, hd, sm4, b4, d5, e7, wd, et, sm5, b5, e8, sm0, List.length_map, Tw.d]
  rw [if_pos (by decide)]
end Q
set_option maxRecDepth 100000
namespace Q
open PySem Pu
def t6 (n ss S g h q : D) : D := .tuple [n, ss, S, g, h, q]
theorem bad6 {n : Int} {ss S g h q : D} (hs : tame2 ss = true) (hS : tame3 S = true) (hg : tame g = true) (hh : tame h = true) (hq : tame q = true)
    (hb : streetsD n ss = false ∨ signsD n ((items ss).map strOf) 6 S = false ∨ numsD 0 (n - 1) g = false ∨ decide (2 ≤ ((iv g).length : Int)) = false ∨ numsD 0 (n - 1) h = false ∨ disj (iv g) (iv h) = true ∨ numsD 0 (((items ss).length : Int) - 1) q = false) :
    tameT (t6 (.int n) ss S g h q) = true ∧ standsD (t6 (.int n) ss S g h q) = false := by
  refine ⟨by simp [t6, tameT, noDict, hs, hS, hg, hh, hq], ?_⟩
  simp only [t6, standsD]
  rcases hb with e | e | e | e | e | e | e <;> rw [e] <;> simp
theorem streets_bad {n : Int} {xs : List D} {x : D} (hx : x ∈ xs) (h : isStreetD n x = false) : streetsD n (.tuple xs) = false := by
  have e : xs.all (isStreetD n) = false := by rw [List.all_eq_false]; exact ⟨x, hx, by rw [h]; simp⟩
  show ((decide ((1 : Int) ≤ xs.length) && decide ((xs.length : Int) ≤ 14)) && xs.all (isStreetD n) && risesS (xs.map strOf)) = false
  rw [e]; simp
theorem risesM_at {α : Type} {lt : α → α → Bool} {x y : α} {post : List α} : ∀ (pre : List α), risesM lt (pre ++ x :: y :: post) = true → lt x y = true
  | [], h => by
    simp only [risesM, List.nil_append, List.drop_succ_cons, List.drop_zero, List.zip_cons_cons, List.all_cons, Bool.and_eq_true] at h
    exact h.1
  | p :: pre, h => by
    refine risesM_at (post := post) pre ?_
    rw [List.cons_append] at h
    cases e : pre ++ x :: y :: post with
    | nil => rfl
    | cons z zs =>
      rw [e] at h
      simp only [risesM, List.drop_succ_cons, List.drop_zero, List.zip_cons_cons, List.all_cons, Bool.and_eq_true] at h
      exact h.2
theorem streets_norise {n : Int} {pre post : List D} {x y : D} (h : dlt ((strOf x).1, (strOf x).2.1) ((strOf y).1, (strOf y).2.1) = false) : streetsD n (.tuple (pre ++ x :: y :: post)) = false := by
  have e : risesS ((pre ++ x :: y :: post).map strOf) = false := by
    cases e : risesS ((pre ++ x :: y :: post).map strOf) with
    | false => rfl
    | true =>
      unfold risesS at e
      rw [List.map_map, List.map_append, List.map_cons, List.map_cons] at e
      have := risesM_at _ e
      rw [← h]; exact this.symm
  show ((decide ((1 : Int) ≤ (pre ++ x :: y :: post).length) && decide (((pre ++ x :: y :: post).length : Int) ≤ 14)) && (pre ++ x :: y :: post).all (isStreetD n) && risesS ((pre ++ x :: y :: post).map strOf)) = false
  rw [e]; simp
theorem dlt_self (p : Dir) : dlt p p = false := by unfold dlt; simp
theorem dlt_asym {p q : Dir} (h : dlt p q = true) : dlt q p = false := by
  unfold dlt at h ⊢
  split at h <;> simp only [decide_eq_true_eq] at h <;> split <;> simp only [decide_eq_false_iff_not] <;> omega
def badSt (n a b : Int) : List (List D) := [[.tuple [.int a, .int b, .int 100]], [.tuple [.int a, .int b, .int 0]], [.tuple [.int b, .int a, .int 1]], [.tuple [.int a, .int a, .int 1]], [.tuple [.int a, .int b, .bool true]], [.tuple [.int a, .int n, .int 1]], [.tuple [.int a, .int b]], [.tuple [.int a, .int b, .int 1], .tuple [.int a, .int b, .int 1]]]
theorem bad_streets_eq {n a b : Int} : F__law_bad_streets [.sh (.int n), .sh (.int a), .sh (.int b)] = some (.ow (.list ((badSt n a b).map .tuple)), [.sh (.int n), .sh (.int a), .sh (.int b)]) := by
  have m : pMul (.tuple [.tuple [.int a, .int b, .int 1]]) (.int 2) = some (.sh (.tuple [.tuple [.int a, .int b, .int 1], .tuple [.int a, .int b, .int 1]])) := rfl
  simp! only [F__law_bad_streets, b__law_bad_streets, m, pAdd, Nat.reduceLT]
  rfl
section
variable {t : Tw}
theorem tame_ints (xs : List Int) : tame (intsD xs) = true := by simp [tame, intsD, items, noDict]
theorem tame2_app {xs ys zs : List D} (hx : ∀ x ∈ xs, tame x = true) (hy : ∀ x ∈ ys, tame x = true) (hz : ∀ x ∈ zs, tame x = true) : tame2 (.tuple (xs ++ ys ++ zs)) = true := by
  simp only [tame2, noDict, items, Bool.true_and, List.all_eq_true, List.mem_append]
  rintro x ((h | h) | h)
  · exact hx x h
  · exact hy x h
  · exact hz x h
theorem tame_str (s : Street) : tame (strD s) = true := by simp [tame, strD, items, noDict]
theorem tame_strs (ss : List Street) : ∀ x ∈ ss.map strD, tame x = true := fun x hx => by obtain ⟨s, -, rfl⟩ := List.mem_map.mp hx; exact tame_str s
def tS6 (t : Tw) (x : D) : D := t6 (.int t.n) x (.tuple (t.S.map sgD)) (intsD t.gates) (intsD t.houses) (intsD t.quiet)
theorem badS6 {x : D} (h1 : tame2 x = true) (h2 : streetsD t.n x = false) : tameT (tS6 t x) = true ∧ standsD (tS6 t x) = false :=
  bad6 h1 (sg_tame _) (tame_ints _) (tame_ints _) (tame_ints _) (.inl h2)
def r5 (t : Tw) : List D := [.tuple (t.ss.map strD), .tuple (t.S.map sgD), intsD t.gates, intsD t.houses, intsD t.quiet]
def bad1 (t : Tw) (b : Int) : List D := [.tuple (.int 1 :: r5 t), .tuple (.int (t.n + 9) :: r5 t), .tuple (.bool true :: r5 t), .tuple (.int b :: r5 t), .list (.int t.n :: r5 t), .tuple [.int t.n, .tuple (t.ss.map strD), .tuple (t.S.map sgD), intsD t.gates, intsD t.houses]]
def bad2 (t : Tw) (j : Nat) (a b : Int) : List D := (badSt t.n a b).map fun one => tS6 t (.tuple ((t.ss.map strD).take j ++ one ++ (t.ss.map strD).drop j))
def bad3 (t : Tw) (j : Nat) (a b l : Int) : List D := [tS6 t (.tuple ((t.ss.map strD).take j ++ [.tuple [.int a, .int b, .int l], .tuple [.int a, .int b, .int (l + 1)]] ++ (t.ss.map strD).drop (j + 1)))]
def bad4 (t : Tw) : List D := if 1 < t.ss.length then [tS6 t (.tuple (t.ss.map strD).reverse)] else []
def bad5 (t : Tw) : List D := [t6 (.int t.n) (.tuple []) (.tuple []) (intsD t.gates) (intsD t.houses) (.tuple [])]
def bad67 (t : Tw) (a b : Int) : List D := (badS t.n a b).map fun one => t6 (.int t.n) (.tuple (t.ss.map strD)) one (intsD t.gates) (intsD t.houses) (intsD t.quiet)
def bad7 (t : Tw) : List D := [intsD (t.gates.take 1), intsD t.gates.reverse, intsD (t.gates ++ [t.n]), .list (t.gates.map .int)].map fun one => t6 (.int t.n) (.tuple (t.ss.map strD)) (.tuple (t.S.map sgD)) one (intsD t.houses) (intsD t.quiet)
def bad8 (t : Tw) : List D := [intsD (t.gates.take 1), intsD [t.n], intsD [-1], .none, .tuple [.bool true]].map fun one => t6 (.int t.n) (.tuple (t.ss.map strD)) (.tuple (t.S.map sgD)) (intsD t.gates) one (intsD t.quiet)
def bad9 (t : Tw) : List D := [intsD [(t.ss.length : Int)], intsD [0, 0], intsD [-1], .list [.int 0], .tuple [.bool false]].map fun one => t6 (.int t.n) (.tuple (t.ss.map strD)) (.tuple (t.S.map sgD)) (intsD t.gates) (intsD t.houses) one
def bad0 (t : Tw) (fr : List Int) : List D := match fr with
  | [] => []
  | f :: _ => [t6 (.int t.n) (.tuple (t.ss.map strD)) (.tuple (t.S.map sgD)) (intsD t.gates) (intsD [f, f]) (intsD t.quiet)]
abbrev BadT (v : D) : Prop := tameT v = true ∧ standsD v = false
theorem bad1_ok (h : t.Ok) {a b l : Int} (hs : (a, b, l) ∈ t.ss) : ∀ v ∈ bad1 t b, BadT v := by
  have o := h.sts.ok _ hs
  simp only at o
  have n6 := h.n6
  have n2 := h.n2
  have t1 : ∀ x : D, noDict x = true → tameT (.tuple (x :: r5 t)) = true := fun x hx => by
    simp only [r5, tameT, hx, tame_ints, sg_tame, show tame2 (.tuple (t.ss.map strD)) = true from by simp [tame2, noDict, items, tame_str], Bool.and_self]
  intro v hv
  simp only [bad1, List.mem_cons, List.not_mem_nil, or_false] at hv
  rcases hv with rfl | rfl | rfl | rfl | rfl | rfl
  · exact ⟨t1 _ rfl, by simp [r5, standsD]⟩
  · refine ⟨t1 _ rfl, ?_⟩
    have : decide (t.n + 9 ≤ 9) = false := by simp; omega
    simp only [r5, standsD, this]; simp
  · exact ⟨t1 _ rfl, rfl⟩
  · refine ⟨t1 _ rfl, ?_⟩
    have : streetsD b (.tuple (t.ss.map strD)) = false := streets_bad (x := strD (a, b, l)) (List.mem_map.mpr ⟨_, hs, rfl⟩) (by
      have : ¬ b ≤ b - 1 := by omega
      simp [isStreetD, strD, isIntD, this])
    simp only [r5, standsD, this]; simp
  · exact ⟨rfl, rfl⟩
  · exact ⟨rfl, rfl⟩
theorem bad2_ok (h : t.Ok) {j : Nat} {a b l : Int} (hj : t.ss[j]? = some (a, b, l)) : ∀ v ∈ bad2 t j a b, BadT v := by
  have hs := List.mem_of_getElem? hj
  have o := h.sts.ok _ hs
  simp only at o
  intro v hv
  obtain ⟨one, ho, rfl⟩ := List.mem_map.mp hv
  have tt : ∀ x ∈ one, tame x = true := by
    simp only [badSt, List.mem_cons, List.not_mem_nil, or_false] at ho
    rcases ho with rfl | rfl | rfl | rfl | rfl | rfl | rfl | rfl <;> intro x hx <;> simp only [List.mem_cons, List.not_mem_nil, or_false, or_self] at hx <;> subst hx <;> rfl
  refine badS6 (tame2_app (fun x hx => tame_strs _ x (List.mem_of_mem_take hx)) tt fun x hx => tame_strs _ x (List.mem_of_mem_drop hx)) ?_
  have one' : ∀ x, isStreetD t.n x = false → x ∈ one → streetsD t.n (.tuple ((t.ss.map strD).take j ++ one ++ (t.ss.map strD).drop j)) = false := fun x h1 h2 => streets_bad (x := x) (by simp [h2]) h1
  simp only [badSt, List.mem_cons, List.not_mem_nil, or_false] at ho
  rcases ho with rfl | rfl | rfl | rfl | rfl | rfl | rfl | rfl
  · exact one' _ (by simp [isStreetD, isIntD]) (List.mem_singleton.mpr rfl)
  · exact one' _ (by simp [isStreetD, isIntD]) (List.mem_singleton.mpr rfl)
  · exact one' _ (by have : ¬ b + 1 ≤ a := by omega
                     simp [isStreetD, isIntD, this]) (List.mem_singleton.mpr rfl)
  · exact one' _ (by have : ¬ a + 1 ≤ a := by omega
                     simp [isStreetD, isIntD, this]) (List.mem_singleton.mpr rfl)
  · exact one' _ (by simp [isStreetD, isIntD]) (List.mem_singleton.mpr rfl)
  · exact one' _ (by have : ¬ t.n ≤ t.n - 1 := by omega
                     simp [isStreetD, isIntD, this]) (List.mem_singleton.mpr rfl)
  · exact one' _ rfl (List.mem_singleton.mpr rfl)
  · rw [List.append_assoc, show [PyData.tuple [.int a, .int b, .int 1], .tuple [.int a, .int b, .int 1]] ++ (t.ss.map strD).drop j = .tuple [.int a, .int b, .int 1] :: .tuple [.int a, .int b, .int 1] :: (t.ss.map strD).drop j from rfl]
    exact streets_norise (dlt_self _)
theorem bad3_ok {j : Nat} {a b l : Int} : ∀ v ∈ bad3 t j a b l, BadT v := by
  intro v hv
  simp only [bad3, List.mem_singleton] at hv
  subst hv
  refine badS6 (tame2_app (fun x hx => tame_strs _ x (List.mem_of_mem_take hx)) (by simp [tame, items, noDict]) fun x hx => tame_strs _ x (List.mem_of_mem_drop hx)) ?_
  rw [List.append_assoc, show [PyData.tuple [.int a, .int b, .int l], .tuple [.int a, .int b, .int (l + 1)]] ++ (t.ss.map strD).drop (j + 1) = .tuple [.int a, .int b, .int l] :: .tuple [.int a, .int b, .int (l + 1)] :: (t.ss.map strD).drop (j + 1) from rfl]
  exact streets_norise (dlt_self _)
theorem bad4_ok (h : t.Ok) : ∀ v ∈ bad4 t, BadT v := by
  intro v hv
  unfold bad4 at hv
  split at hv
  · rename_i hl
    simp only [List.mem_singleton] at hv
    subst hv
    have up := h.up
    obtain ⟨x, y, r, e⟩ : ∃ x y r, t.ss = x :: y :: r := by
      match t.ss, hl with
      | x :: y :: r, _ => exact ⟨x, y, r, rfl⟩
    refine badS6 (by simp only [tame2, noDict, items, Bool.true_and, List.all_reverse, List.all_eq_true]; exact tame_strs _) ?_
    rw [e] at up ⊢
    have hxy := (List.pairwise_cons.mp up).1 (y.1, y.2.1) (by simp)
    rw [List.map_cons, List.map_cons, List.reverse_cons, List.reverse_cons, List.append_assoc]
    exact streets_norise (dlt_asym hxy)
  · simp at hv
theorem bad5_ok : ∀ v ∈ bad5 t, BadT v := by
  intro v hv
  simp only [bad5, List.mem_singleton] at hv
  subst hv
  exact bad6 rfl rfl (tame_ints _) (tame_ints _) rfl (.inl rfl)
theorem tame2_ss : tame2 (.tuple (t.ss.map strD)) = true := by simp [tame2, noDict, items, tame_str]
theorem bad67_ok (h : t.Ok) {a b l : Int} (hs : (a, b, l) ∈ t.ss) : ∀ v ∈ bad67 t a b, BadT v := by
  intro v hv
  obtain ⟨one, ho, rfl⟩ := List.mem_map.mp hv
  have hb := bad_signs h.sts hs 6 one ho
  refine bad6 tame2_ss hb.1 (tame_ints _) (tame_ints _) (tame_ints _) (.inr (.inl ?_))
  rw [show (items (.tuple (t.ss.map strD))).map strOf = t.ss from strOf_map t.ss]; exact hb.2
theorem nums_no {lo hi : Int} {xs : List Int} (h : ¬ ((∀ x ∈ xs, lo ≤ x ∧ x ≤ hi) ∧ Up xs)) : numsD lo hi (intsD xs) = false := by
  cases e : numsD lo hi (intsD xs) with
  | false => rfl
  | true => exact absurd (nums_up.mp e) h
theorem bad7_ok (h : t.Ok) : ∀ v ∈ bad7 t, BadT v := by
  have g2 := h.g2
  have gu := h.gu
  intro v hv
  obtain ⟨one, ho, rfl⟩ := List.mem_map.mp hv
  have key : tame one = true ∧ (numsD 0 (t.n - 1) one = false ∨ decide (2 ≤ ((iv one).length : Int)) = false) := by
    simp only [List.mem_cons, List.not_mem_nil, or_false] at ho
    rcases ho with rfl | rfl | rfl | rfl
    · refine ⟨tame_ints _, .inr ?_⟩
      rw [iv_ints, List.length_take]; simp; omega
    · refine ⟨tame_ints _, .inl (nums_no fun ⟨_, h2⟩ => ?_)⟩
      obtain ⟨x, y, r, e⟩ : ∃ x y r, t.gates = x :: y :: r := by
        match t.gates, g2 with
        | x :: y :: r, _ => exact ⟨x, y, r, rfl⟩
      unfold Up at h2 gu
      rw [List.pairwise_reverse] at h2
      rw [e] at h2 gu
      have a1 := (List.pairwise_cons.mp gu).1 y (by simp)
      have a2 := (List.pairwise_cons.mp h2).1 y (by simp)
      omega
    · exact ⟨tame_ints _, .inl (nums_no fun ⟨h1, _⟩ => by have := h1 t.n (by simp); omega)⟩
    · exact ⟨by simp [tame, items, noDict], .inl rfl⟩
  refine bad6 tame2_ss (sg_tame _) key.1 (tame_ints _) (tame_ints _) ?_
  rcases key.2 with e | e
  · exact .inr (.inr (.inl e))
  · exact .inr (.inr (.inr (.inl e)))
theorem bad8_ok (h : t.Ok) : ∀ v ∈ bad8 t, BadT v := by
  have g2 := h.g2
  intro v hv
  obtain ⟨one, ho, rfl⟩ := List.mem_map.mp hv
  have key : tame one = true ∧ (numsD 0 (t.n - 1) one = false ∨ disj (iv (intsD t.gates)) (iv one) = true) := by
    simp only [List.mem_cons, List.not_mem_nil, or_false] at ho
    rcases ho with rfl | rfl | rfl | rfl | rfl
    · refine ⟨tame_ints _, .inr ?_⟩
      obtain ⟨x, r, e⟩ : ∃ x r, t.gates = x :: r := by
        match t.gates, g2 with
        | x :: r, _ => exact ⟨x, r, rfl⟩
      rw [iv_ints, iv_ints, e]
      simp [disj]
    · exact ⟨tame_ints _, .inl (nums_no fun ⟨h1, _⟩ => by have := h1 t.n (by simp); omega)⟩
    · exact ⟨tame_ints _, .inl (nums_no fun ⟨h1, _⟩ => by have := h1 (-1) (by simp); omega)⟩
    · exact ⟨rfl, .inl rfl⟩
    · exact ⟨rfl, .inl rfl⟩
  refine bad6 tame2_ss (sg_tame _) (tame_ints _) key.1 (tame_ints _) ?_
  rcases key.2 with e | e
  · exact .inr (.inr (.inr (.inr (.inl e))))
  · exact .inr (.inr (.inr (.inr (.inr (.inl e)))))
theorem bad9_ok : ∀ v ∈ bad9 t, BadT v := by
  intro v hv
  obtain ⟨one, ho, rfl⟩ := List.mem_map.mp hv
  have el : ((items (.tuple (t.ss.map strD))).length : Int) = t.ss.length := by simp [items]
  have key : tame one = true ∧ numsD 0 ((t.ss.length : Int) - 1) one = false := by
    simp only [List.mem_cons, List.not_mem_nil, or_false] at ho
    rcases ho with rfl | rfl | rfl | rfl | rfl
    · exact ⟨tame_ints _, nums_no fun ⟨h1, _⟩ => by have := h1 _ (List.mem_singleton.mpr rfl); omega⟩
    · exact ⟨tame_ints _, nums_no fun ⟨_, h2⟩ => by have := (List.pairwise_cons.mp h2).1 0 (by simp); omega⟩
    · exact ⟨tame_ints _, nums_no fun ⟨h1, _⟩ => by have := h1 (-1) (by simp); omega⟩
    · exact ⟨rfl, rfl⟩
    · exact ⟨rfl, rfl⟩
  refine bad6 tame2_ss (sg_tame _) (tame_ints _) (tame_ints _) key.1 ?_
  rw [el]
  exact .inr (.inr (.inr (.inr (.inr (.inr key.2)))))
theorem bad0_ok {fr : List Int} : ∀ v ∈ bad0 t fr, BadT v := by
  intro v hv
  cases fr with
  | nil => simp [bad0] at hv
  | cons f r =>
    simp only [bad0, List.mem_singleton] at hv
    subst hv
    refine bad6 tame2_ss (sg_tame _) (tame_ints _) (tame_ints _) (tame_ints _) (.inr (.inr (.inr (.inr (.inl (nums_no fun ⟨_, h2⟩ => ?_))))))
    have := (List.pairwise_cons.mp h2).1 f (by simp)
    omega
end
end Q
set_option maxRecDepth 100000
namespace Q
open PySem Pu
inductive Tch (L : Tab) (S : List D) : Dir → Dir → Int → Prop where
  | one {k : Dir} : k ∈ L.map (·.1) → bars S k.1 k.2 = false → Tch L S k k (lenOf L k)
  | snoc {k o p : Dir} {v : Int} : Tch L S k o v → p ∈ nextsM L S o.1 o.2 → Tch L S k p (v + lenOf L p)
theorem next_iff {L : Tab} {S : List D} {a b : Int} {p : Dir} : p ∈ nextsM L S a b ↔ p ∈ L.map (·.1) ∧ p.1 = b ∧ p.2 ≠ a ∧ hasS S (turnD a b p.2) = false ∧ bars S b p.2 = false := by
  unfold nextsM
  rw [List.mem_filter]
  simp only [nxt, Bool.and_eq_true, decide_eq_true_eq, Bool.not_eq_true', decide_eq_false_iff_not, ne_eq]
theorem Tch.free {L : Tab} {S : List D} {k o : Dir} {v : Int} (h : Tch L S k o v) : o ∈ L.map (·.1) ∧ bars S o.1 o.2 = false := by
  cases h with
  | one h1 h2 => exact ⟨h1, h2⟩
  | snoc _ h =>
    rw [next_iff] at h
    exact ⟨h.1, by rw [h.2.1]; exact h.2.2.2.2⟩
theorem Tch.cons {L : Tab} {S : List D} {a b c : Dir} {v : Int} (ha : a ∈ L.map (·.1)) (hf : bars S a.1 a.2 = false) (hn : b ∈ nextsM L S a.1 a.2) (h : Tch L S b c v) : Tch L S a c (lenOf L a + v) := by
  induction h with
  | one _ _ => exact .snoc (.one ha hf) hn
  | @snoc o p v _ h ih =>
    have := Tch.snoc ih h
    rw [Int.add_assoc] at this; exact this
def swp (p : Dir) : Dir := (p.2, p.1)
theorem key_swap {n : Int} {ss : List Street} (h : Sts n ss) {p : Dir} : swp p ∈ (lengthsM ss).map (·.1) ↔ p ∈ (lengthsM ss).map (·.1) := by
  rw [len_key h, len_key h]
  exact ⟨fun ⟨l, hl⟩ => ⟨l, hl.symm⟩, fun ⟨l, hl⟩ => ⟨l, hl.symm⟩⟩
end Q
set_option maxRecDepth 100000
namespace Q
open PySem Pu
structure Cut (L L' : Tab) (a b n l f : Int) : Prop where
  ab : a ≠ b
  an : a ≠ n
  bn : b ≠ n
  old : ∀ p ∈ L.map (·.1), p.1 ≠ n ∧ p.2 ≠ n ∧ p.1 ≠ p.2
  kab : (a, b) ∈ L.map (·.1)
  kba : (b, a) ∈ L.map (·.1)
  lab : lenOf L (a, b) = l
  lba : lenOf L (b, a) = l
  key : ∀ p, p ∈ L'.map (·.1) ↔ (p ∈ L.map (·.1) ∧ p ≠ (a, b) ∧ p ≠ (b, a)) ∨ p = (a, n) ∨ p = (n, a) ∨ p = (b, n) ∨ p = (n, b)
  len : ∀ p ∈ L.map (·.1), p ≠ (a, b) → p ≠ (b, a) → lenOf L' p = lenOf L p
  l1 : lenOf L' (a, n) = f
  l2 : lenOf L' (n, a) = f
  l3 : lenOf L' (b, n) = l - f
  l4 : lenOf L' (n, b) = l - f
theorem Cut.flip {L L' : Tab} {a b n l f : Int} (h : Cut L L' a b n l f) : Cut L L' b a n l (l - f) where
  ab := h.ab.symm
  an := h.bn
  bn := h.an
  old := h.old
  kab := h.kba
  kba := h.kab
  lab := h.lba
  lba := h.lab
  key := fun p => by
    rw [h.key]
    constructor
    · rintro (⟨h1, h2, h3⟩ | e | e | e | e)
      · exact .inl ⟨h1, h3, h2⟩
      · exact .inr (.inr (.inr (.inl e)))
      · exact .inr (.inr (.inr (.inr e)))
      · exact .inr (.inl e)
      · exact .inr (.inr (.inl e))
    · rintro (⟨h1, h2, h3⟩ | e | e | e | e)
      · exact .inl ⟨h1, h3, h2⟩
      · exact .inr (.inr (.inr (.inl e)))
      · exact .inr (.inr (.inr (.inr e)))
      · exact .inr (.inl e)
      · exact .inr (.inr (.inl e))
  len := fun p hp h1 h2 => h.len p hp h2 h1
  l1 := h.l3
  l2 := h.l4
  l3 := by rw [h.l1]; omega
  l4 := by rw [h.l2]; omega
section
variable {L L' : Tab} {a b n l f : Int}
end
end Q
set_option maxRecDepth 100000
namespace Q
open PySem Pu
section
variable {L L' : Tab} {a b n l f : Int}
end
end Q
set_option maxRecDepth 100000
namespace Q
open PySem Pu
end Q
set_option maxRecDepth 100000
namespace Q
open PySem Pu
theorem cut_from (xs : List D) (k : Nat) : Pu.cutD xs (some (k : Int)) none = xs.drop k := by
  unfold Pu.cutD sIxD
  simp only [show ¬ ((k : Int) < 0) by omega, if_false, Int.toNat_natCast]
  by_cases h : k ≤ xs.length
  · rw [Nat.min_eq_left h, List.take_of_length_le (by simp)]
  · rw [Nat.min_eq_right (by omega), List.drop_of_length_le (by omega), List.drop_of_length_le (by omega)]; simp
theorem cut_to (xs : List D) (k : Nat) : Pu.cutD xs none (some (k : Int)) = xs.take k := by
  unfold Pu.cutD sIxD
  simp only [show ¬ ((k : Int) < 0) by omega, if_false, Int.toNat_natCast, List.drop_zero, Nat.sub_zero]
  by_cases h : k ≤ xs.length
  · rw [Nat.min_eq_left h]
  · rw [Nat.min_eq_right (by omega), List.take_of_length_le (by omega), List.take_of_length_le (by omega)]
structure Goes (L : Tab) (ys : List Int) : Prop where
  st : ∀ (i : Nat) (a b : Int), ys[i]? = some a → ys[i + 1]? = some b → (a, b) ∈ L.map (·.1)
  nb : ∀ (i : Nat) (a b : Int), ys[i]? = some a → ys[i + 2]? = some b → a ≠ b
theorem Goes.rev {n : Int} {ss : List Street} (hs : Sts n ss) {ys : List Int} (h : Goes (lengthsM ss) ys) : Goes (lengthsM ss) ys.reverse := by
  have key : ∀ (i : Nat) (a : Int), ys.reverse[i]? = some a → i < ys.length ∧ ys[ys.length - 1 - i]? = some a := fun i a hi => by
    have hl : i < ys.length := by
      have := (List.getElem?_eq_some_iff.mp hi).1
      simpa using this
    rw [List.getElem?_reverse hl] at hi
    exact ⟨hl, hi⟩
  constructor
  · intro i a b h1 h2
    obtain ⟨l1, e1⟩ := key i a h1
    obtain ⟨l2, e2⟩ := key (i + 1) b h2
    have := h.st (ys.length - 1 - (i + 1)) b a e2 (by rw [show ys.length - 1 - (i + 1) + 1 = ys.length - 1 - i by omega]; exact e1)
    exact (key_swap hs (p := (b, a))).mpr this
  · intro i a b h1 h2
    obtain ⟨l1, e1⟩ := key i a h1
    obtain ⟨l2, e2⟩ := key (i + 2) b h2
    exact fun e => h.nb (ys.length - 1 - (i + 2)) b a e2 (by rw [show ys.length - 1 - (i + 2) + 2 = ys.length - 1 - i by omega]; exact e1) e.symm
end Q
set_option maxRecDepth 100000
namespace Q
open PySem Pu
theorem str_sort (xs : List Street) : SortL (xs.map strD) := by
  refine ⟨fun x hx => ?_, .inl fun x hx => ?_, fun x hx y hy => ?_⟩
  · obtain ⟨s, _, rfl⟩ := List.mem_map.mp hx; exact ⟨rfl, by simp [strD, PyData.canLay0, PyData.canLayAll0], by simp [strD, PyData.depth, PyData.depthAll]⟩
  · obtain ⟨s, _, rfl⟩ := List.mem_map.mp hx; rfl
  · obtain ⟨s, _, rfl⟩ := List.mem_map.mp hx; obtain ⟨t, _, rfl⟩ := List.mem_map.mp hy; simp [strD, cmpOk, cmpOks]
section
variable {t : Tw} {a b l f : Int}
end
end Q
set_option maxRecDepth 100000
namespace Q
open PySem Pu
theorem index_at {j n : Nat} {g : M} {ρ : Pu.Env} {r : Res} {xs : List D} {d : D} (h1 : ρ[j]? = some (.xt (.tx .ex (.tuple xs)))) (h2 : g ρ = some (r, ρ)) (h3 : share r ρ = some (d, ρ)) (h4 : (shp (.list xs) && shp d) = true) (h5 : findIx xs d = some n) : eIndexX j g ρ = some (.sh (.int (n : Nat)), ρ) := by
  have e1 : txAt j ρ = some xs := by unfold txAt; rw [h1]; rfl
  unfold eIndexX ixxA
  rw [e1, Option.bind_some, h2, Option.bind_some, h3, Option.bind_some]
  unfold ixxB
  rw [e1, Option.bind_some]
  unfold idxC
  rw [if_pos h4, h5]; rfl
theorem find_nd {α : Type} [DecidableEq α] {xs : List α} {j : Nat} {x : α} (nd : xs.Nodup) (h : xs[j]? = some x) : xs.findIdx? (fun z => decide (z = x)) = some j := by
  obtain ⟨h1, h2⟩ := List.getElem?_eq_some_iff.mp h
  rw [List.findIdx?_eq_some_iff_getElem]
  refine ⟨h1, by rw [h2]; simp, fun k hk => ?_⟩
  simp only [decide_eq_true_eq]
  intro e
  have := (List.getElem_inj nd).mp (e.trans h2.symm)
  omega
theorem find_strs (ss : List Street) (s : Street) : findIx (ss.map strD) (strD s) = ss.findIdx? fun z => decide (z = s) := by
  unfold findIx
  rw [List.findIdx?_map]
  congr 1
  funext z
  show PyData.eqv (strD z) (strD s) = decide (z = s)
  simp [strD, PyData.eqv, PyData.eqvAll, Prod.ext_iff]
  rw [Bool.eq_iff_iff]; simp [Prod.ext_iff, and_assoc]
theorem shp_str (s : Street) : shp (strD s) = true := by
  unfold shp; simp [strD, PyData.canLay0, PyData.canLayAll0, PyData.depth, PyData.depthAll]
theorem shp_strs (ss : List Street) : shp (.list (ss.map strD)) = true := by
  unfold shp
  have h1 : PyData.canLayAll0 (ss.map strD) = true := (str_sort ss).lay
  have h2 : PyData.depthAll (ss.map strD) ≤ 2 := by
    induction ss with
    | nil => simp [PyData.depthAll]
    | cons s ss ih => rw [List.map_cons]; simp only [PyData.depthAll]; have := ih (str_sort ss).lay; simp [strD, PyData.depth, PyData.depthAll]; omega
  simp [PyData.canLay0, h1, PyData.depth]; omega
theorem str_nd1 {t : Tw} (h : t.Ok) : t.ss.Nodup := by
  have up := h.up
  rw [List.pairwise_map] at up
  exact up.imp fun {x y} e e2 => by subst e2; rw [dlt_self] at e; cases e
theorem p_add_tup {xs ys : List D} (h : xs.length + ys.length ≤ 16777216) : pAdd (.tuple xs) (.tuple ys) = some (.sh (.tuple (xs ++ ys))) := by
  simp only [pAdd, h, if_true]
def e01 (ns : List Int) (k : Nat) (t : Tw) (s3 s4 s5 s6 s7 : Slot) (a b l : Int) : Pu.Env := [.sh (nsD ns), .ow (zs k), .xt (.tx (.it 1) t.d), s3, s4, s5, s6, s7, .sh (.int t.n), .xt (.tx .ex (.tuple (t.ss.map strD))), .sh (.tuple (t.S.map sgD)), .sh (intsD t.gates), .sh (intsD t.houses), .sh (intsD t.quiet), .sh (.int a), .sh (.int b), .sh (.int l), .no]
def freshZ (t : Tw) : List Int := (rangeI t.n).filter fun x => !((t.gates ++ t.houses).any fun y => decide (y = x))
theorem street_loop {ns : List Int} {k j : Nat} {t : Tw} {fr : D} {s6 : Slot} {a b l : Int} {acc : List D} (h9 : t.ss.length ≤ 9) (ha : acc.length ≤ 100) (f6 : freeS s6 = true) :
    ∃ u6, freeS u6 = true ∧ forGo (gName 6) b_law_1 ((badSt t.n a b).map .tuple) (e01 ns k t (.sh (.int (j : Nat))) (.ow fr) (.ow (.list acc)) s6 .no a b l) = some (.nx (e01 ns k t (.sh (.int (j : Nat))) (.ow fr) (.ow (.list (acc ++ bad2 t j a b))) u6 .no a b l)) := by
  obtain ⟨ρ', e, -, -, u6, fu, rfl⟩ := for_st (g := gName 6) (s := b_law_1) (PyData.tuple)
    (fun rest (p : List D) ρ => p.length + rest.length ≤ 200 ∧ (∀ x ∈ rest, x.length ≤ 2) ∧ ∃ u6, freeS u6 = true ∧ ρ = e01 ns k t (.sh (.int (j : Nat))) (.ow fr) (.ow (.list p)) u6 .no a b l)
    (fun p one => p ++ [tS6 t (.tuple ((t.ss.map strD).take j ++ one ++ (t.ss.map strD).drop j))])
    (fun one rest p ρ hR => by
      obtain ⟨h1, h2, u6, fu, rfl⟩ := hR
      rw [List.length_cons] at h1
      have c1 : pSlice (.tuple (t.ss.map strD)) none (some (j : Nat)) = some (.sh (.tuple ((t.ss.map strD).take j))) := by
        show some (Res.sh (.tuple (Pu.cutD (t.ss.map strD) none (some ((j : Nat) : Int))))) = _
        rw [cut_to]
      have c2 : pSlice (.tuple (t.ss.map strD)) (some ((j : Nat) : Int)) none = some (.sh (.tuple ((t.ss.map strD).drop j))) := by
        show some (Res.sh (.tuple (Pu.cutD (t.ss.map strD) (some ((j : Nat) : Int)) none))) = _
        rw [cut_from]
      have ho := h2 one (by simp)
      have l1 : ((t.ss.map strD).take j).length ≤ 9 := by rw [List.length_take, List.length_map]; omega
      have l2 : ((t.ss.map strD).drop j).length ≤ 9 := by rw [List.length_drop, List.length_map]; omega
      have a1 : pAdd (.tuple ((t.ss.map strD).take j)) (.tuple one) = some (.sh (.tuple ((t.ss.map strD).take j ++ one))) := p_add_tup (by omega)
      have a2 : pAdd (.tuple ((t.ss.map strD).take j ++ one)) (.tuple ((t.ss.map strD).drop j)) = some (.sh (.tuple ((t.ss.map strD).take j ++ one ++ (t.ss.map strD).drop j))) := p_add_tup (by rw [List.length_append]; omega)
      have lp : p.length < 16777216 := by omega
      refine ⟨e01 ns k t (.sh (.int (j : Nat))) (.ow fr) (.ow (.list p)) (.sh (.tuple one)) .no a b l, e01 ns k t (.sh (.int (j : Nat))) (.ow fr) (.ow (.list (p ++ [tS6 t (.tuple ((t.ss.map strD).take j ++ one ++ (t.ss.map strD).drop j))]))) (.sh (.tuple one)) .no a b l, by simp! only [e01, w_putF fu], .inl ?_, ?_, fun x hx => h2 x (by simp [hx]), _, rfl, rfl⟩
      · simp! only [b_law_1, e01, c1, c2, a1, a2, lp, tS6, t6]
      · rw [List.length_append]; simp; omega)
    (badSt t.n a b) acc (e01 ns k t (.sh (.int (j : Nat))) (.ow fr) (.ow (.list acc)) s6 .no a b l) ⟨by simp [badSt]; omega, by simp [badSt], s6, f6, rfl⟩
  have fold : ∀ (xs : List (List D)) (acc : List D), xs.foldl (fun p one => p ++ [tS6 t (.tuple ((t.ss.map strD).take j ++ one ++ (t.ss.map strD).drop j))]) acc = acc ++ xs.map fun one => tS6 t (.tuple ((t.ss.map strD).take j ++ one ++ (t.ss.map strD).drop j)) := fun xs => by
    induction xs with
    | nil => intro acc; simp
    | cons x xs ih => intro acc; rw [List.foldl_cons, ih]; simp
  rw [fold] at e
  exact ⟨u6, fu, e⟩
def B2 (t : Tw) (j : Nat) (a b : Int) : List D := bad1 t b ++ bad2 t j a b
def B4 (t : Tw) (j : Nat) (a b l : Int) : List D := B2 t j a b ++ bad3 t j a b l ++ bad4 t
def B6 (t : Tw) (j : Nat) (a b l : Int) : List D := B4 t j a b l ++ bad5 t ++ bad67 t a b
def B9 (t : Tw) (j : Nat) (a b l : Int) : List D := B6 t j a b l ++ bad7 t ++ bad8 t ++ bad9 t
def B0 (t : Tw) (j : Nat) (a b l : Int) (fr : List Int) : List D := B9 t j a b l ++ bad0 t fr
theorem B0_bad {t : Tw} (h : t.Ok) {j : Nat} {a b l : Int} {fr : List Int} (hj : t.ss[j]? = some (a, b, l)) : ∀ v ∈ B0 t j a b l fr, BadT v := by
  have hs := List.mem_of_getElem? hj
  intro v hv
  simp only [B0, B9, B6, B4, B2, List.mem_append] at hv
  rcases hv with (((((((((hv | hv) | hv) | hv) | hv) | hv) | hv) | hv) | hv) | hv)
  · exact bad1_ok h hs v hv
  · exact bad2_ok h hj v hv
  · exact bad3_ok v hv
  · exact bad4_ok h v hv
  · exact bad5_ok v hv
  · exact bad67_ok h hs v hv
  · exact bad7_ok h v hv
  · exact bad8_ok h v hv
  · exact bad9_ok v hv
  · exact bad0_ok v hv
theorem law_true (ns : List Int) (hn : ns.length ≤ 63) : ∃ ts, F_law [.sh (nsD ns)] = some (.sh (.bool true), ts) := by
  obtain ⟨t, k1, ht, hk1, e1⟩ := some_townX (ns := ns) (k0 := 0) hn (by omega)
  have it := town_any (v := t.d) (tame_town _ _ _ _ _ _)
  rw [ht.stands] at it
  obtain ⟨j, d, hj, -, e3⟩ := pick_eq (ns := ns) (n := k1) (xs := t.ss.map strD) hn (by omega) (by rw [List.length_map]; exact ht.s1)
  rw [List.getElem?_map] at hj
  obtain ⟨⟨a, b, l⟩, hjs, rfl⟩ := Option.map_eq_some_iff.mp hj
  have hab := List.mem_of_getElem? hjs
  have hr := ht.sts.ok _ hab
  simp only at hr
  have hn6 := ht.n6
  have h9 := ht.s9
  have hbad := B0_bad ht (fr := freshZ t) hjs
  have td : t.d = .tuple [.int t.n, .tuple (t.ss.map strD), .tuple (t.S.map sgD), intsD t.gates, intsD t.houses, intsD t.quiet] := rfl
  have s0 : l_0 [.sh (nsD ns), .no, .no, .no, .no, .no, .no, .no, .no, .no, .no, .no, .no, .no, .no, .no, .no, .no] = some (.nx [.sh (nsD ns), .ow (zs 0), .no, .no, .no, .no, .no, .no, .no, .no, .no, .no, .no, .no, .no, .no, .no, .no]) := rfl
  have s1 : l_1 [.sh (nsD ns), .ow (zs 0), .no, .no, .no, .no, .no, .no, .no, .no, .no, .no, .no, .no, .no, .no, .no, .no] = some (.nx [.sh (nsD ns), .ow (zs k1), .xt (.tx (.it 1) t.d), .no, .no, .no, .no, .no, .no, .no, .no, .no, .no, .no, .no, .no, .no, .no]) := by
    simp! only [l_1, e1]
  have s2 : l_2 [.sh (nsD ns), .ow (zs k1), .xt (.tx (.it 1) t.d), .no, .no, .no, .no, .no, .no, .no, .no, .no, .no, .no, .no, .no, .no, .no] = some (.nx [.sh (nsD ns), .ow (zs k1), .xt (.tx (.it 1) t.d), .no, .no, .no, .no, .no, .sh (.int t.n), .xt (.tx .ex (.tuple (t.ss.map strD))), .sh (.tuple (t.S.map sgD)), .sh (intsD t.gates), .sh (intsD t.houses), .sh (intsD t.quiet), .no, .no, .no, .no]) := rfl
  have s3 : l_3 [.sh (nsD ns), .ow (zs k1), .xt (.tx (.it 1) t.d), .no, .no, .no, .no, .no, .sh (.int t.n), .xt (.tx .ex (.tuple (t.ss.map strD))), .sh (.tuple (t.S.map sgD)), .sh (intsD t.gates), .sh (intsD t.houses), .sh (intsD t.quiet), .no, .no, .no, .no] = some (.nx [.sh (nsD ns), .ow (zs k1), .xt (.tx (.it 1) t.d), .no, .no, .no, .no, .no, .sh (.int t.n), .xt (.tx .ex (.tuple (t.ss.map strD))), .sh (.tuple (t.S.map sgD)), .sh (intsD t.gates), .sh (intsD t.houses), .sh (intsD t.quiet), .no, .no, .no, .no]) := by
    have : pIsNot (.bool true) (.bool true) = some (.sh (.bool false)) := rfl
    simp! only [l_3, it, this]
  have s4 : l_4 [.sh (nsD ns), .ow (zs k1), .xt (.tx (.it 1) t.d), .no, .no, .no, .no, .no, .sh (.int t.n), .xt (.tx .ex (.tuple (t.ss.map strD))), .sh (.tuple (t.S.map sgD)), .sh (intsD t.gates), .sh (intsD t.houses), .sh (intsD t.quiet), .no, .no, .no, .no] = some (.nx (e01 ns (k1 + 1) t .no .no .no .no .no a b l)) := by
    simp! only [l_4, e01, e3, strD]
  have s5 : l_5 (e01 ns (k1 + 1) t .no .no .no .no .no a b l) = some (.nx (e01 ns (k1 + 1) t (.sh (.int (j : Nat))) .no .no .no .no a b l)) := by
    have fx : findIx (t.ss.map strD) (strD (a, b, l)) = some j := by rw [find_strs]; exact find_nd (str_nd1 ht) hjs
    have ix := index_at (j := 9) (n := j) (g := eTup (dsCons (eVar 14) (dsCons (eVar 15) (dsCons (eVar 16) (dsNil))))) (ρ := e01 ns (k1 + 1) t .no .no .no .no .no a b l) (r := .sh (strD (a, b, l))) (d := strD (a, b, l)) (xs := t.ss.map strD) rfl (by simp! only [e01, strD]) rfl (by rw [shp_str, shp_strs]; rfl) fx
    simp only [e01] at ix
    simp! only [l_5, e01, ix]
  have s6 : l_6 (e01 ns (k1 + 1) t (.sh (.int (j : Nat))) .no .no .no .no a b l) = some (.nx (e01 ns (k1 + 1) t (.sh (.int (j : Nat))) (.ow (.list ((freshZ t).map .int))) .no .no .no a b l)) := by
    have ap : pAdd (intsD t.gates) (intsD t.houses) = some (.sh (intsD (t.gates ++ t.houses))) := by
      have g3 := ht.g3
      have h2 := ht.h2
      have := p_add_tup (xs := t.gates.map PyData.int) (ys := t.houses.map PyData.int) (by rw [List.length_map, List.length_map]; omega)
      rw [← List.map_append] at this; exact this
    have c := comp_map (ρ := e01 ns (k1 + 1) t (.sh (.int (j : Nat))) .no .no .no .no a b l) (vs := [17]) (g := gName 17) (t := q_law_1) (a := c_law_1) PyData.int (fun x => !((t.gates ++ t.houses).any fun y => decide (y = x))) PyData.int (rangeI t.n) [] fun x _ => by
      refine ⟨(e01 ns (k1 + 1) t (.sh (.int (j : Nat))) .no .no .no .no a b l).set 17 (.sh (.int x)), rfl, ?_, fun _ => ⟨_, rfl, rfl⟩, rfl⟩
      simp! only [q_law_1, e01, ap, notin_ints]
    rw [List.nil_append] at c
    change _ = some ((freshZ t).map PyData.int, _) at c
    simp only [e01] at c
    have n2 := ht.n2
    have sm := small_of (i := t.n) (by omega) (by omega)
    have gd : (t.n - 0).toNat ≤ 16777216 := by omega
    simp! only [l_6, e01, range_ints, c, sm, gd]
  have s7 : l_7 (e01 ns (k1 + 1) t (.sh (.int (j : Nat))) (.ow (.list ((freshZ t).map .int))) .no .no .no a b l) = some (.nx (e01 ns (k1 + 1) t (.sh (.int (j : Nat))) (.ow (.list ((freshZ t).map .int))) (.ow (.list (bad1 t b))) .no .no a b l)) := by
    have c1 : pSlice t.d (some 1) none = some (.sh (.tuple (r5 t))) := rfl
    have c2 : pSlice t.d none (some 5) = some (.sh (.tuple [.int t.n, .tuple (t.ss.map strD), .tuple (t.S.map sgD), intsD t.gates, intsD t.houses])) := rfl
    have c3 : ∀ x : D, pAdd (.tuple [x]) (.tuple (r5 t)) = some (.sh (.tuple (x :: r5 t))) := fun x => p_add_tup (by simp [r5])
    have c4 : pList [t.d] = some (.ow (.list (PyData.int t.n :: r5 t))) := rfl
    have c5 : ∀ xs ys : List D, xs.length + ys.length ≤ 100 → pAdd (.list xs) (.list ys) = some (.ow (.list (xs ++ ys))) := fun xs ys h => by
      have h : xs.length + ys.length ≤ 16777216 := by omega
      simp only [pAdd, h, if_true]
    have c := comp_D1 (ρ := e01 ns (k1 + 1) t (.sh (.int (j : Nat))) (.ow (.list ((freshZ t).map .int))) .no .no .no a b l) (vs := [6]) (g := gName 6) (a := c_law_2) (fun x => PyData.tuple (x :: r5 t)) [PyData.int 1, PyData.int (t.n + 9), PyData.bool true, PyData.int b] fun x _ => by
      refine ⟨e01 ns (k1 + 1) t (.sh (.int (j : Nat))) (.ow (.list ((freshZ t).map .int))) .no (.sh x) .no a b l, rfl, ⟨.sh (.tuple (x :: r5 t)), ?_, rfl⟩, rfl⟩
      simp! only [c_law_2, e01, c1, c3]
    simp only [e01] at c
    simp! only [l_7, e01, c, c2, c4, c5]
    rw [c5 _ _ (by simp)]
    rfl
  obtain ⟨u6, fu, l8⟩ := street_loop (ns := ns) (k := k1 + 1) (j := j) (t := t) (fr := .list ((freshZ t).map .int)) (s6 := .no) (a := a) (b := b) (l := l) (acc := bad1 t b) h9 (by simp [bad1]) rfl
  have s8 : l_8 (e01 ns (k1 + 1) t (.sh (.int (j : Nat))) (.ow (.list ((freshZ t).map .int))) (.ow (.list (bad1 t b))) .no .no a b l) = some (.nx (e01 ns (k1 + 1) t (.sh (.int (j : Nat))) (.ow (.list ((freshZ t).map .int))) (.ow (.list (B2 t j a b))) u6 .no a b l)) := by
    have bs := bad_streets_eq (n := t.n) (a := a) (b := b)
    simp only [e01] at l8
    simp! only [l_8, e01, bs, l8, B2]
  -- one street twice
  have s9 : l_9 ((e01 ns (k1 + 1) t (.sh (.int (j : Nat))) (.ow (.list ((freshZ t).map .int))) (.ow (.list (B2 t j a b))) u6 .no a b l)) = some (.nx ((e01 ns (k1 + 1) t (.sh (.int (j : Nat))) (.ow (.list ((freshZ t).map .int))) (.ow (.list (B2 t j a b))) u6 (.sh (.tuple [.tuple [.int a, .int b, .int l], .tuple [.int a, .int b, .int (l + 1)]])) a b l))) := by
    simp! only [l_9, e01]
  have ls : (t.ss.map strD).length ≤ 9 := by rw [List.length_map]; exact h9
  have sl1 : pSlice (.tuple (t.ss.map strD)) none (some (j : Nat)) = some (.sh (.tuple ((t.ss.map strD).take j))) := by
    show some (Res.sh (.tuple (Pu.cutD (t.ss.map strD) none (some ((j : Nat) : Int))))) = _
    rw [cut_to]
  have sl2 : pSlice (.tuple (t.ss.map strD)) (some ((j : Nat) + 1 : Int)) none = some (.sh (.tuple ((t.ss.map strD).drop (j + 1)))) := by
    show some (Res.sh (.tuple (Pu.cutD (t.ss.map strD) (some (((j : Nat) : Int) + 1)) none))) = _
    rw [show ((j : Nat) : Int) + 1 = ((j + 1 : Nat) : Int) from by push_cast; rfl, cut_from]
  have len2 : (B2 t j a b).length = 14 := by simp [B2, bad1, bad2, badSt]
  have s10 : l_10 ((e01 ns (k1 + 1) t (.sh (.int (j : Nat))) (.ow (.list ((freshZ t).map .int))) (.ow (.list (B2 t j a b))) u6 (.sh (.tuple [.tuple [.int a, .int b, .int l], .tuple [.int a, .int b, .int (l + 1)]])) a b l)) = some (.nx ((e01 ns (k1 + 1) t (.sh (.int (j : Nat))) (.ow (.list ((freshZ t).map .int))) (.ow (.list (B2 t j a b ++ bad3 t j a b l))) u6 (.sh (.tuple [.tuple [.int a, .int b, .int l], .tuple [.int a, .int b, .int (l + 1)]])) a b l))) := by
    have l1 : ((t.ss.map strD).take j).length ≤ 9 := by rw [List.length_take]; omega
    have l2 : ((t.ss.map strD).drop (j + 1)).length ≤ 9 := by rw [List.length_drop]; omega
    have a1 : pAdd (.tuple ((t.ss.map strD).take j)) (.tuple [.tuple [.int a, .int b, .int l], .tuple [.int a, .int b, .int (l + 1)]]) = some (.sh (.tuple ((t.ss.map strD).take j ++ [.tuple [.int a, .int b, .int l], .tuple [.int a, .int b, .int (l + 1)]]))) := p_add_tup (by simp only [List.length_cons, List.length_nil]; omega)
    have a2 : pAdd (.tuple ((t.ss.map strD).take j ++ [.tuple [.int a, .int b, .int l], .tuple [.int a, .int b, .int (l + 1)]])) (.tuple ((t.ss.map strD).drop (j + 1))) = some (.sh (.tuple ((t.ss.map strD).take j ++ [.tuple [.int a, .int b, .int l], .tuple [.int a, .int b, .int (l + 1)]] ++ (t.ss.map strD).drop (j + 1)))) := p_add_tup (by rw [List.length_append]; simp only [List.length_cons, List.length_nil]; omega)
    have lp : (B2 t j a b).length < 16777216 := by omega
    simp! only [l_10, e01, sl1, sl2, a1, a2, lp, bad3, tS6, t6]
  have s11 : l_11 ((e01 ns (k1 + 1) t (.sh (.int (j : Nat))) (.ow (.list ((freshZ t).map .int))) (.ow (.list (B2 t j a b ++ bad3 t j a b l))) u6 (.sh (.tuple [.tuple [.int a, .int b, .int l], .tuple [.int a, .int b, .int (l + 1)]])) a b l)) = some (.nx ((e01 ns (k1 + 1) t (.sh (.int (j : Nat))) (.ow (.list ((freshZ t).map .int))) (.ow (.list (B4 t j a b l))) u6 (.sh (.tuple [.tuple [.int a, .int b, .int l], .tuple [.int a, .int b, .int (l + 1)]])) a b l))) := by
    have lp : (B2 t j a b ++ bad3 t j a b l).length < 16777216 := by rw [List.length_append, len2]; simp [bad3]
    have rv : pRev (.tuple (t.ss.map strD)) = some (.sh (.tuple (t.ss.map strD).reverse)) := rfl
    by_cases hl : 1 < t.ss.length
    · have h3 : decide ((1 : Int) < ((t.ss.map strD).length : Int)) = true := by rw [List.length_map]; simp; omega
      simp! only [l_11, e01, h3, rv, lp, B4, bad4, hl, if_true, tS6, t6]
    · have h3 : decide ((1 : Int) < ((t.ss.map strD).length : Int)) = false := by rw [List.length_map]; simp; omega
      simp! only [l_11, e01, h3, B4, bad4, hl, if_false, List.append_nil]
  have len4 : (B4 t j a b l).length ≤ 16 := by
    have h4 : (bad4 t).length ≤ 1 := by unfold bad4; split <;> simp
    rw [B4, List.length_append, List.length_append, len2]; simp only [bad3, List.length_cons, List.length_nil]; omega
  have s12 : l_12 ((e01 ns (k1 + 1) t (.sh (.int (j : Nat))) (.ow (.list ((freshZ t).map .int))) (.ow (.list (B4 t j a b l))) u6 (.sh (.tuple [.tuple [.int a, .int b, .int l], .tuple [.int a, .int b, .int (l + 1)]])) a b l)) = some (.nx ((e01 ns (k1 + 1) t (.sh (.int (j : Nat))) (.ow (.list ((freshZ t).map .int))) (.ow (.list (B4 t j a b l ++ bad5 t))) u6 (.sh (.tuple [.tuple [.int a, .int b, .int l], .tuple [.int a, .int b, .int (l + 1)]])) a b l))) := by
    have lp : (B4 t j a b l).length < 16777216 := by omega
    simp! only [l_12, e01, lp, bad5, t6]
  have s13 : l_13 ((e01 ns (k1 + 1) t (.sh (.int (j : Nat))) (.ow (.list ((freshZ t).map .int))) (.ow (.list (B4 t j a b l ++ bad5 t))) u6 (.sh (.tuple [.tuple [.int a, .int b, .int l], .tuple [.int a, .int b, .int (l + 1)]])) a b l)) = some (.nx ((e01 ns (k1 + 1) t (.sh (.int (j : Nat))) (.ow (.list ((freshZ t).map .int))) (.ow (.list (B6 t j a b l))) u6 (.sh (.tuple [.tuple [.int a, .int b, .int l], .tuple [.int a, .int b, .int (l + 1)]])) a b l))) := by
    have lp : (B4 t j a b l ++ bad5 t).length + (bad67 t a b).length ≤ 16777216 := by simp [bad67, badS, bad5]; omega
    have hb := bad_signs_eq (n := t.n) (a := a) (b := b) (by
      by_cases hb : b.natAbs = 0
      · rw [hb]; decide
      · have : b.natAbs.log2 < 7 := (Nat.log2_lt hb).mpr (by omega)
        omega)
    have c := comp_D1 (ρ := (e01 ns (k1 + 1) t (.sh (.int (j : Nat))) (.ow (.list ((freshZ t).map .int))) (.ow (.list (B4 t j a b l ++ bad5 t))) .no (.sh (.tuple [.tuple [.int a, .int b, .int l], .tuple [.int a, .int b, .int (l + 1)]])) a b l)) (vs := [6]) (g := gName 6) (a := c_law_3) (fun one => t6 (.int t.n) (.tuple (t.ss.map strD)) one (intsD t.gates) (intsD t.houses) (intsD t.quiet)) (badS t.n a b) fun x _ => by
      refine ⟨(e01 ns (k1 + 1) t (.sh (.int (j : Nat))) (.ow (.list ((freshZ t).map .int))) (.ow (.list (B4 t j a b l ++ bad5 t))) .no (.sh (.tuple [.tuple [.int a, .int b, .int l], .tuple [.int a, .int b, .int (l + 1)]])) a b l).set 6 (.sh x), rfl, ⟨.sh (t6 (.int t.n) (.tuple (t.ss.map strD)) x (intsD t.gates) (intsD t.houses) (intsD t.quiet)), ?_, rfl⟩, rfl⟩
      simp! only [c_law_3, e01, t6]
    change _ = some (bad67 t a b, _) at c
    simp only [e01] at c
    simp! only [l_13, e01, hb, c, lp, B6]
  have len6 : (B6 t j a b l).length ≤ 40 := by
    rw [B6, List.length_append, List.length_append]; simp only [bad5, bad67, badS, List.length_map, List.length_cons, List.length_nil]; omega
  have cut1' : ∀ xs : List D, pSlice (.tuple xs) none (some 1) = some (.sh (.tuple (xs.take 1))) := fun xs => by
    show some (Res.sh (.tuple (Pu.cutD xs none (some ((1 : Nat) : Int))))) = _
    rw [cut_to]
  have s14 : l_14 ((e01 ns (k1 + 1) t (.sh (.int (j : Nat))) (.ow (.list ((freshZ t).map .int))) (.ow (.list (B6 t j a b l))) u6 (.sh (.tuple [.tuple [.int a, .int b, .int l], .tuple [.int a, .int b, .int (l + 1)]])) a b l)) = some (.nx ((e01 ns (k1 + 1) t (.sh (.int (j : Nat))) (.ow (.list ((freshZ t).map .int))) (.ow (.list (B6 t j a b l ++ bad7 t))) u6 (.sh (.tuple [.tuple [.int a, .int b, .int l], .tuple [.int a, .int b, .int (l + 1)]])) a b l))) := by
    have g1 : pSlice (intsD t.gates) none (some 1) = some (.sh (intsD (t.gates.take 1))) := by
      have := cut1' (t.gates.map .int); rw [← List.map_take] at this; exact this
    have g2 : pRev (intsD t.gates) = some (.sh (intsD t.gates.reverse)) := by
      show some (Res.sh (.tuple (t.gates.map PyData.int).reverse)) = _
      rw [← List.map_reverse]; rfl
    have g3 : pAdd (intsD t.gates) (.tuple [.int t.n]) = some (.sh (intsD (t.gates ++ [t.n]))) := by
      have g3 := ht.g3
      have := p_add_tup (xs := t.gates.map PyData.int) (ys := [t.n].map PyData.int) (by rw [List.length_map]; simp; omega)
      rw [← List.map_append] at this; exact this
    have g4 : pList [intsD t.gates] = some (.ow (.list (t.gates.map PyData.int))) := rfl
    have c := comp_D1 (ρ := (e01 ns (k1 + 1) t (.sh (.int (j : Nat))) (.ow (.list ((freshZ t).map .int))) (.ow (.list (B6 t j a b l))) .no (.sh (.tuple [.tuple [.int a, .int b, .int l], .tuple [.int a, .int b, .int (l + 1)]])) a b l)) (vs := [6]) (g := gName 6) (a := c_law_4) (fun one => t6 (.int t.n) (.tuple (t.ss.map strD)) (.tuple (t.S.map sgD)) one (intsD t.houses) (intsD t.quiet)) [intsD (t.gates.take 1), intsD t.gates.reverse, intsD (t.gates ++ [t.n]), .list (t.gates.map PyData.int)] fun x _ => by
      refine ⟨(e01 ns (k1 + 1) t (.sh (.int (j : Nat))) (.ow (.list ((freshZ t).map .int))) (.ow (.list (B6 t j a b l))) .no (.sh (.tuple [.tuple [.int a, .int b, .int l], .tuple [.int a, .int b, .int (l + 1)]])) a b l).set 6 (.sh x), rfl, ⟨.sh (t6 (.int t.n) (.tuple (t.ss.map strD)) (.tuple (t.S.map sgD)) x (intsD t.houses) (intsD t.quiet)), ?_, rfl⟩, rfl⟩
      simp! only [c_law_4, e01, t6]
    change _ = some (bad7 t, _) at c
    have lp : (B6 t j a b l).length + (bad7 t).length ≤ 16777216 := by simp only [bad7, List.length_map, List.length_cons, List.length_nil]; omega
    simp only [e01] at c
    simp! only [l_14, e01, g1, g2, g3, g4, c, lp]
  have s15 : l_15 ((e01 ns (k1 + 1) t (.sh (.int (j : Nat))) (.ow (.list ((freshZ t).map .int))) (.ow (.list (B6 t j a b l ++ bad7 t))) u6 (.sh (.tuple [.tuple [.int a, .int b, .int l], .tuple [.int a, .int b, .int (l + 1)]])) a b l)) = some (.nx ((e01 ns (k1 + 1) t (.sh (.int (j : Nat))) (.ow (.list ((freshZ t).map .int))) (.ow (.list (B6 t j a b l ++ bad7 t ++ bad8 t))) u6 (.sh (.tuple [.tuple [.int a, .int b, .int l], .tuple [.int a, .int b, .int (l + 1)]])) a b l))) := by
    have g1 : pSlice (intsD t.gates) none (some 1) = some (.sh (intsD (t.gates.take 1))) := by
      have := cut1' (t.gates.map .int); rw [← List.map_take] at this; exact this
    have neg : pNeg (.int 1) = some (.sh (.int (-1))) := rfl
    have c := comp_D1 (ρ := (e01 ns (k1 + 1) t (.sh (.int (j : Nat))) (.ow (.list ((freshZ t).map .int))) (.ow (.list (B6 t j a b l ++ bad7 t))) .no (.sh (.tuple [.tuple [.int a, .int b, .int l], .tuple [.int a, .int b, .int (l + 1)]])) a b l)) (vs := [6]) (g := gName 6) (a := c_law_5) (fun one => t6 (.int t.n) (.tuple (t.ss.map strD)) (.tuple (t.S.map sgD)) (intsD t.gates) one (intsD t.quiet)) [intsD (t.gates.take 1), .tuple [.int t.n], .tuple [.int (-1)], .none, .tuple [.bool true]] fun x _ => by
      refine ⟨(e01 ns (k1 + 1) t (.sh (.int (j : Nat))) (.ow (.list ((freshZ t).map .int))) (.ow (.list (B6 t j a b l ++ bad7 t))) .no (.sh (.tuple [.tuple [.int a, .int b, .int l], .tuple [.int a, .int b, .int (l + 1)]])) a b l).set 6 (.sh x), rfl, ⟨.sh (t6 (.int t.n) (.tuple (t.ss.map strD)) (.tuple (t.S.map sgD)) (intsD t.gates) x (intsD t.quiet)), ?_, rfl⟩, rfl⟩
      simp! only [c_law_5, e01, t6]
    change _ = some (bad8 t, _) at c
    have lp : (B6 t j a b l ++ bad7 t).length + (bad8 t).length ≤ 16777216 := by rw [List.length_append]; simp only [bad7, bad8, List.length_map, List.length_cons, List.length_nil]; omega
    simp only [e01] at c
    simp! only [l_15, e01, g1, neg, c, lp]
  have s16 : l_16 ((e01 ns (k1 + 1) t (.sh (.int (j : Nat))) (.ow (.list ((freshZ t).map .int))) (.ow (.list (B6 t j a b l ++ bad7 t ++ bad8 t))) u6 (.sh (.tuple [.tuple [.int a, .int b, .int l], .tuple [.int a, .int b, .int (l + 1)]])) a b l)) = some (.nx ((e01 ns (k1 + 1) t (.sh (.int (j : Nat))) (.ow (.list ((freshZ t).map .int))) (.ow (.list (B9 t j a b l))) u6 (.sh (.tuple [.tuple [.int a, .int b, .int l], .tuple [.int a, .int b, .int (l + 1)]])) a b l))) := by
    have neg : pNeg (.int 1) = some (.sh (.int (-1))) := rfl
    have ll : (t.ss.map strD).length = t.ss.length := List.length_map _
    have c := comp_D1 (ρ := (e01 ns (k1 + 1) t (.sh (.int (j : Nat))) (.ow (.list ((freshZ t).map .int))) (.ow (.list (B6 t j a b l ++ bad7 t ++ bad8 t))) .no (.sh (.tuple [.tuple [.int a, .int b, .int l], .tuple [.int a, .int b, .int (l + 1)]])) a b l)) (vs := [6]) (g := gName 6) (a := c_law_6) (fun one => t6 (.int t.n) (.tuple (t.ss.map strD)) (.tuple (t.S.map sgD)) (intsD t.gates) (intsD t.houses) one) [.tuple [.int (t.ss.length : Int)], .tuple [.int 0, .int 0], .tuple [.int (-1)], .list [.int 0], .tuple [.bool false]] fun x _ => by
      refine ⟨(e01 ns (k1 + 1) t (.sh (.int (j : Nat))) (.ow (.list ((freshZ t).map .int))) (.ow (.list (B6 t j a b l ++ bad7 t ++ bad8 t))) .no (.sh (.tuple [.tuple [.int a, .int b, .int l], .tuple [.int a, .int b, .int (l + 1)]])) a b l).set 6 (.sh x), rfl, ⟨.sh (t6 (.int t.n) (.tuple (t.ss.map strD)) (.tuple (t.S.map sgD)) (intsD t.gates) (intsD t.houses) x), ?_, rfl⟩, rfl⟩
      simp! only [c_law_6, e01, t6]
    change _ = some (bad9 t, _) at c
    have lp : (B6 t j a b l ++ bad7 t ++ bad8 t).length + (bad9 t).length ≤ 16777216 := by rw [List.length_append, List.length_append]; simp only [bad7, bad8, bad9, List.length_map, List.length_cons, List.length_nil]; omega
    simp only [e01] at c
    simp! only [l_16, e01, neg, ll, c, lp, B9]
  have len9 : (B9 t j a b l).length ≤ 60 := by
    rw [B9, List.length_append, List.length_append, List.length_append]; simp only [bad7, bad8, bad9, List.length_map, List.length_cons, List.length_nil]; omega
  have s17 : l_17 ((e01 ns (k1 + 1) t (.sh (.int (j : Nat))) (.ow (.list ((freshZ t).map .int))) (.ow (.list (B9 t j a b l))) u6 (.sh (.tuple [.tuple [.int a, .int b, .int l], .tuple [.int a, .int b, .int (l + 1)]])) a b l)) = some (.nx ((e01 ns (k1 + 1) t (.sh (.int (j : Nat))) (.ow (.list ((freshZ t).map .int))) (.ow (.list (B0 t j a b l (freshZ t)))) u6 (.sh (.tuple [.tuple [.int a, .int b, .int l], .tuple [.int a, .int b, .int (l + 1)]])) a b l))) := by
    have lp : (B9 t j a b l).length < 16777216 := by omega
    unfold B0
    cases hf : freshZ t with
    | nil =>
      have ne : pNe (.list ([] : List D)) (.list []) = some (.sh (.bool false)) := rfl
      simp! only [l_17, e01, List.map_nil, ne, bad0, List.append_nil]
    | cons f r =>
      have hf1 : ∀ x ∈ f :: r, 0 ≤ x ∧ x < t.n := fun x hx => by rw [← hf] at hx; exact mem_rangeI.mp (List.mem_filter.mp hx).1
      have ne : pNe (.list ((f :: r).map PyData.int)) (.list []) = some (.sh (.bool true)) := ne_nil_list (xs := (f :: r).map PyData.int) (intsLay (f :: r))
      have g1 : pSlice (.list ((f :: r).map PyData.int)) none (some 1) = some (.ow (.list [.int f])) := by
        show some (Res.ow (.list (Pu.cutD ((f :: r).map PyData.int) none (some ((1 : Nat) : Int))))) = _
        rw [cut_to]; rfl
      simp! only [l_17, e01, ne, g1, lp, bad0, t6]
      rfl
  have all0 : pAll [.list ((B0 t j a b l (freshZ t)).map fun _ => PyData.bool true)] = some (.sh (.bool true)) := by
    rw [pAll_bools (B0 t j a b l (freshZ t)) (fun _ => true)]
    have : (B0 t j a b l (freshZ t)).all (fun _ => true) = true := by rw [List.all_eq_true]; simp
    rw [this]
  have c7 := comp_D1 (ρ := (e01 ns (k1 + 1) t (.sh (.int (j : Nat))) (.ow (.list ((freshZ t).map .int))) (.sh (.list (B0 t j a b l (freshZ t)))) .no (.sh (.tuple [.tuple [.int a, .int b, .int l], .tuple [.int a, .int b, .int (l + 1)]])) a b l)) (vs := [6]) (g := gName 6) (a := c_law_7) (fun _ => .bool true) (B0 t j a b l (freshZ t)) fun v hv => by
    have hb := hbad v hv
    have e := town_any hb.1
    rw [hb.2] at e
    have is : pIs (.bool false) (.bool false) = some (.sh (.bool true)) := rfl
    refine ⟨(e01 ns (k1 + 1) t (.sh (.int (j : Nat))) (.ow (.list ((freshZ t).map .int))) (.sh (.list (B0 t j a b l (freshZ t)))) .no (.sh (.tuple [.tuple [.int a, .int b, .int l], .tuple [.int a, .int b, .int (l + 1)]])) a b l).set 6 (.sh v), rfl, ⟨_, by simp! only [c_law_7, e01, e, is]; rfl, rfl⟩, rfl⟩
  simp only [e01] at c7
  have s18 : l_18 ((e01 ns (k1 + 1) t (.sh (.int (j : Nat))) (.ow (.list ((freshZ t).map .int))) (.ow (.list (B0 t j a b l (freshZ t)))) u6 (.sh (.tuple [.tuple [.int a, .int b, .int l], .tuple [.int a, .int b, .int (l + 1)]])) a b l)) = some (.rt (.sh (.bool true)) ((e01 ns (k1 + 1) t (.sh (.int (j : Nat))) (.ow (.list ((freshZ t).map .int))) (.sh (.list (B0 t j a b l (freshZ t)))) u6 (.sh (.tuple [.tuple [.int a, .int b, .int l], .tuple [.int a, .int b, .int (l + 1)]])) a b l))) := by
    simp! only [l_18, e01, c7, all0]
  have f : b_law ([.sh (nsD ns)] ++ List.replicate 17 .no) = _ := sSeq_nx s0 (sSeq_nx s1 (sSeq_nx s2 (sSeq_nx s3 (sSeq_nx s4 (sSeq_nx s5 (sSeq_nx s6 (sSeq_nx s7 (sSeq_nx s8 (sSeq_nx s9 (sSeq_nx s10 (sSeq_nx s11 (sSeq_nx s12 (sSeq_nx s13 (sSeq_nx s14 (sSeq_nx s15 (sSeq_nx s16 (sSeq_nx s17 s18)))))))))))))))))
  exact ⟨_, fn_sh f rfl⟩
end Q
open PySem PySem.W PyProof.Rows
theorem PySem.Challenge.cw_quietstreets_k01_whole_towns_holds : PySem.Challenge.rw_quietstreets_k01_whole_towns.Holds := by
  exact Q.holds_of Q.law_true

