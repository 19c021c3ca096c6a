import Derived.Test.YtpmhiiemklhbhaaGreatSG
set_option linter.unusedVariables false
namespace Go.Sm
open Go.RowKit Go.Lib
section
variable {X:Prg} {sl:List (Nat × Dat)} {ow:List Own} {w:World} {ok:Nat→Prop} {α:Type}
def mkg (by_:Nat) (n:Int):Option Unit:=if 0<n∧n*((by_:Int)+1)≤140737488355328 then some () else none
def cut0:Value→Value
| .slice a _ c=>.slice a 0 c
| v=>v
end
structure NP where
  cs:List Dat
def eNP (x:NP):Dat:=.nod x.cs
def eOP:Option NP→Dat
| none=>.val (.pointer none)
| some x=>.nod x.cs
open Classical in
noncomputable def npOpen {α:Type} (c:α→NP) (x:NP):Option α:=if h:∃ y,c y=x then some h.choose else none
theorem CallF.denil {X:Prg} {f:FuncId} {args args':List Dat} {ow:List Own} {d:Value→Dat} {ow':Value→List Own} (h:CallF X f args' ow d ow') (hr:ReL RNil args args'):CallF X f args ow d ow':=
 fun w vs ok hb he=>h w vs ok hb (EncL.re RNil.enc (fun _ _ h=>h) hr he)
end Go.Sm
