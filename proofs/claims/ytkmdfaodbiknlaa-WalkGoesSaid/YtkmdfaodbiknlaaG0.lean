/- Printed by a program of this session's own (gen.py): Lean functions for Go functions, and the proofs that the Go code comes to their answers. -/
import Derived.Test.YtkmdfaodbiknlaaSJ
set_option linter.unusedVariables false
set_option linter.unusedSimpArgs false
set_option maxRecDepth 20000
namespace Go.Proofs.Ytkmdfaodbiknlaa.S
open Go Go.Sm
structure law09_Op where
  fKind : Int
  fI : Int
  fX : Int
  fOdd : Bool
  deriving DecidableEq
def e_sl22 (x : List Int) : Dat := .sl 1 (List.map (eI .i64) x)
structure tree_Node_int where
  fKids : List NP
  fItems : List Int
  fN : Int

def c_tree_Node_int (y : tree_Node_int) : NP := ⟨[.sl 1 (List.map eNP y.fKids), .sl 1 (List.map (eI .i64) y.fItems), .val (.int .i64 y.fN)]⟩
noncomputable def o_tree_Node_int (x : NP) : Option tree_Node_int := npOpen c_tree_Node_int x
theorem o_tree_Node_int_eq {x : NP} {y : tree_Node_int} (h : o_tree_Node_int x = some y) : x = c_tree_Node_int y := npOpen_eq h
def e_sl80 (x : List NP) : Dat := .sl 1 (List.map eNP x)
structure tree_Tree_int where
  fRoot : Option NP

def e_law09_Op (x : law09_Op) : Dat := .agg [.val (.int .i64 x.fKind), .val (.int .i64 x.fI), .val (.int .i64 x.fX), .val (.bool x.fOdd)]
def e_tree_Tree_int (x : tree_Tree_int) : Dat := .agg [(eOP x.fRoot)]
def e_sl40 (x : List (List UInt8)) : Dat := .sl 1 (List.map eS x)
structure tree_Node_string where
  fKids : List NP
  fItems : List (List UInt8)
  fN : Int

def c_tree_Node_string (y : tree_Node_string) : NP := ⟨[.sl 1 (List.map eNP y.fKids), .sl 1 (List.map eS y.fItems), .val (.int .i64 y.fN)]⟩
noncomputable def o_tree_Node_string (x : NP) : Option tree_Node_string := npOpen c_tree_Node_string x
theorem o_tree_Node_string_eq {x : NP} {y : tree_Node_string} (h : o_tree_Node_string x = some y) : x = c_tree_Node_string y := npOpen_eq h
def e_sl96 (x : List NP) : Dat := .sl 1 (List.map eNP x)
structure tree_Tree_string where
  fRoot : Option NP

noncomputable def rfA42_0 : Code := lft (lft (rgt (lft (rgt (rgt (Try.f42.body.getD .skip))))))
noncomputable def rfB42_0 : Code := rgt (lft (rgt (lft (rgt (rgt (Try.f42.body.getD .skip))))))
structure walk_frame_int where
  fN : Option NP
  fFirst : Int
  fNext : Int

def e_walk_frame_int (x : walk_frame_int) : Dat := .agg [(eOP x.fN), .val (.int .i64 x.fFirst), .val (.int .i64 x.fNext)]
noncomputable def rfA37_0 : Code := lft (lft (rgt (lft (rgt (Try.f37.body.getD .skip)))))
noncomputable def rfB37_0 : Code := rgt (lft (rgt (lft (rgt (Try.f37.body.getD .skip)))))
noncomputable def rfA10_0 : Code := lft (lft (rgt (lft (rgt (lft (lft (rgt (lft (lft (rgt (lft (rgt (rgt (rgt (rgt (rgt (rgt (rgt (Try.f10.body.getD .skip)))))))))))))))))))
noncomputable def rfB10_0 : Code := rgt (lft (rgt (lft (rgt (lft (lft (rgt (lft (lft (rgt (lft (rgt (rgt (rgt (rgt (rgt (rgt (rgt (Try.f10.body.getD .skip)))))))))))))))))))
noncomputable def rfA10_1 : Code := lft (lft (rgt (lft (rgt (rgt (rgt (lft (lft (rgt (lft (lft (rgt (lft (rgt (rgt (rgt (rgt (rgt (rgt (rgt (Try.f10.body.getD .skip)))))))))))))))))))))
noncomputable def rfB10_1 : Code := rgt (lft (rgt (lft (rgt (rgt (rgt (lft (lft (rgt (lft (lft (rgt (lft (rgt (rgt (rgt (rgt (rgt (rgt (rgt (Try.f10.body.getD .skip)))))))))))))))))))))
theorem drawsX : X.P.follows .mixedOrders = true := rfl
theorem fn3 : IsFn X 3 := ⟨Try.f3, Try.func3, by kernel_rfl, rfl⟩
theorem fn4 : IsFn X 4 := ⟨Try.f4, Try.func4, by kernel_rfl, rfl⟩
theorem fn5 : IsFn X 5 := ⟨Try.f5, Try.func5, by kernel_rfl, rfl⟩
theorem fn6 : IsFn X 6 := ⟨Try.f6, Try.func6, by kernel_rfl, rfl⟩
theorem fn7 : IsFn X 7 := ⟨Try.f7, Try.func7, by kernel_rfl, rfl⟩
theorem fn8 : IsFn X 8 := ⟨Try.f8, Try.func8, by kernel_rfl, rfl⟩
theorem fn9 : IsFn X 9 := ⟨Try.f9, Try.func9, by kernel_rfl, rfl⟩
theorem fn10 : IsFn X 10 := ⟨Try.f10, Try.func10, by kernel_rfl, rfl⟩
theorem fn11 : IsFn X 11 := ⟨Try.f11, Try.func11, by kernel_rfl, rfl⟩
theorem fn12 : IsFn X 12 := ⟨Try.f12, Try.func12, by kernel_rfl, rfl⟩
theorem fn13 : IsFn X 13 := ⟨Try.f13, Try.func13, by kernel_rfl, rfl⟩
theorem fn14 : IsFn X 14 := ⟨Try.f14, Try.func14, by kernel_rfl, rfl⟩
theorem fn15 : IsFn X 15 := ⟨Try.f15, Try.func15, by kernel_rfl, rfl⟩
theorem fn16 : IsFn X 16 := ⟨Try.f16, Try.func16, by kernel_rfl, rfl⟩
theorem fn17 : IsFn X 17 := ⟨Try.f17, Try.func17, by kernel_rfl, rfl⟩
theorem fn18 : IsFn X 18 := ⟨Try.f18, Try.func18, by kernel_rfl, rfl⟩
theorem fn19 : IsFn X 19 := ⟨Try.f19, Try.func19, by kernel_rfl, rfl⟩
theorem fn20 : IsFn X 20 := ⟨Try.f20, Try.func20, by kernel_rfl, rfl⟩
theorem fn21 : IsFn X 21 := ⟨Try.f21, Try.func21, by kernel_rfl, rfl⟩
theorem fn22 : IsFn X 22 := ⟨Try.f22, Try.func22, by kernel_rfl, rfl⟩
theorem fn23 : IsFn X 23 := ⟨Try.f23, Try.func23, by kernel_rfl, rfl⟩
theorem fn24 : IsFn X 24 := ⟨Try.f24, Try.func24, by kernel_rfl, rfl⟩
theorem fn25 : IsFn X 25 := ⟨Try.f25, Try.func25, by kernel_rfl, rfl⟩
theorem fn26 : IsFn X 26 := ⟨Try.f26, Try.func26, by kernel_rfl, rfl⟩
theorem fn27 : IsFn X 27 := ⟨Try.f27, Try.func27, by kernel_rfl, rfl⟩
theorem fn28 : IsFn X 28 := ⟨Try.f28, Try.func28, by kernel_rfl, rfl⟩
theorem fn29 : IsFn X 29 := ⟨Try.f29, Try.func29, by kernel_rfl, rfl⟩
theorem fn30 : IsFn X 30 := ⟨Try.f30, Try.func30, by kernel_rfl, rfl⟩
theorem fn31 : IsFn X 31 := ⟨Try.f31, Try.func31, by kernel_rfl, rfl⟩
theorem fn32 : IsFn X 32 := ⟨Try.f32, Try.func32, by kernel_rfl, rfl⟩
theorem fn33 : IsFn X 33 := ⟨Try.f33, Try.func33, by kernel_rfl, rfl⟩
theorem fn34 : IsFn X 34 := ⟨Try.f34, Try.func34, by kernel_rfl, rfl⟩
theorem fn35 : IsFn X 35 := ⟨Try.f35, Try.func35, by kernel_rfl, rfl⟩
theorem fn36 : IsFn X 36 := ⟨Try.f36, Try.func36, by kernel_rfl, rfl⟩
theorem fn37 : IsFn X 37 := ⟨Try.f37, Try.func37, by kernel_rfl, rfl⟩
theorem fn38 : IsFn X 38 := ⟨Try.f38, Try.func38, by kernel_rfl, rfl⟩
theorem fn39 : IsFn X 39 := ⟨Try.f39, Try.func39, by kernel_rfl, rfl⟩
theorem fn40 : IsFn X 40 := ⟨Try.f40, Try.func40, by kernel_rfl, rfl⟩
theorem fn41 : IsFn X 41 := ⟨Try.f41, Try.func41, by kernel_rfl, rfl⟩
theorem fn42 : IsFn X 42 := ⟨Try.f42, Try.func42, by kernel_rfl, rfl⟩
theorem fn43 : IsFn X 43 := ⟨Try.f43, Try.func43, by kernel_rfl, rfl⟩
theorem fn44 : IsFn X 44 := ⟨Try.f44, Try.func44, by kernel_rfl, rfl⟩
theorem fn45 : IsFn X 45 := ⟨Try.f45, Try.func45, by kernel_rfl, rfl⟩
theorem fn46 : IsFn X 46 := ⟨Try.f46, Try.func46, by kernel_rfl, rfl⟩
theorem fn47 : IsFn X 47 := ⟨Try.f47, Try.func47, by kernel_rfl, rfl⟩
theorem fn48 : IsFn X 48 := ⟨Try.f48, Try.func48, by kernel_rfl, rfl⟩
theorem fn49 : IsFn X 49 := ⟨Try.f49, Try.func49, by kernel_rfl, rfl⟩
theorem fn50 : IsFn X 50 := ⟨Try.f50, Try.func50, by kernel_rfl, rfl⟩
theorem fn51 : IsFn X 51 := ⟨Try.f51, Try.func51, by kernel_rfl, rfl⟩
theorem fn52 : IsFn X 52 := ⟨Try.f52, Try.func52, by kernel_rfl, rfl⟩
theorem fn53 : IsFn X 53 := ⟨Try.f53, Try.func53, by kernel_rfl, rfl⟩
theorem fn54 : IsFn X 54 := ⟨Try.f54, Try.func54, by kernel_rfl, rfl⟩
theorem fn55 : IsFn X 55 := ⟨Try.f55, Try.func55, by kernel_rfl, rfl⟩
theorem fn56 : IsFn X 56 := ⟨Try.f56, Try.func56, by kernel_rfl, rfl⟩
theorem fn57 : IsFn X 57 := ⟨Try.f57, Try.func57, by kernel_rfl, rfl⟩
theorem fn58 : IsFn X 58 := ⟨Try.f58, Try.func58, by kernel_rfl, rfl⟩
theorem fn59 : IsFn X 59 := ⟨Try.f59, Try.func59, by kernel_rfl, rfl⟩
theorem fn60 : IsFn X 60 := ⟨Try.f60, Try.func60, by kernel_rfl, rfl⟩
theorem fn61 : IsFn X 61 := ⟨Try.f61, Try.func61, by kernel_rfl, rfl⟩
theorem fn62 : IsFn X 62 := ⟨Try.f62, Try.func62, by kernel_rfl, rfl⟩
theorem fn63 : IsFn X 63 := ⟨Try.f63, Try.func63, by kernel_rfl, rfl⟩
theorem fn64 : IsFn X 64 := ⟨Try.f64, Try.func64, by kernel_rfl, rfl⟩
theorem fn65 : IsFn X 65 := ⟨Try.f65, Try.func65, by kernel_rfl, rfl⟩
theorem fn66 : IsFn X 66 := ⟨Try.f66, Try.func66, by kernel_rfl, rfl⟩
theorem fn67 : IsFn X 67 := ⟨Try.f67, Try.func67, by kernel_rfl, rfl⟩
theorem fn68 : IsFn X 68 := ⟨Try.f68, Try.func68, by kernel_rfl, rfl⟩
theorem fn69 : IsFn X 69 := ⟨Try.f69, Try.func69, by kernel_rfl, rfl⟩
theorem fn70 : IsFn X 70 := ⟨Try.f70, Try.func70, by kernel_rfl, rfl⟩
theorem fn71 : IsFn X 71 := ⟨Try.f71, Try.func71, by kernel_rfl, rfl⟩
theorem fn72 : IsFn X 72 := ⟨Try.f72, Try.func72, by kernel_rfl, rfl⟩
theorem fn73 : IsFn X 73 := ⟨Try.f73, Try.func73, by kernel_rfl, rfl⟩
theorem fn74 : IsFn X 74 := ⟨Try.f74, Try.func74, by kernel_rfl, rfl⟩
theorem fn75 : IsFn X 75 := ⟨Try.f75, Try.func75, by kernel_rfl, rfl⟩
theorem fn76 : IsFn X 76 := ⟨Try.f76, Try.func76, by kernel_rfl, rfl⟩
theorem fn77 : IsFn X 77 := ⟨Try.f77, Try.func77, by kernel_rfl, rfl⟩
theorem fn78 : IsFn X 78 := ⟨Try.f78, Try.func78, by kernel_rfl, rfl⟩
theorem fn79 : IsFn X 79 := ⟨Try.f79, Try.func79, by kernel_rfl, rfl⟩
theorem fn80 : IsFn X 80 := ⟨Try.f80, Try.func80, by kernel_rfl, rfl⟩
theorem fn81 : IsFn X 81 := ⟨Try.f81, Try.func81, by kernel_rfl, rfl⟩
theorem fn82 : IsFn X 82 := ⟨Try.f82, Try.func82, by kernel_rfl, rfl⟩
theorem fn83 : IsFn X 83 := ⟨Try.f83, Try.func83, by kernel_rfl, rfl⟩
theorem fn84 : IsFn X 84 := ⟨Try.f84, Try.func84, by kernel_rfl, rfl⟩
theorem fn85 : IsFn X 85 := ⟨Try.f85, Try.func85, by kernel_rfl, rfl⟩
theorem fn86 : IsFn X 86 := ⟨Try.f86, Try.func86, by kernel_rfl, rfl⟩
theorem fn87 : IsFn X 87 := ⟨Try.f87, Try.func87, by kernel_rfl, rfl⟩
theorem fn88 : IsFn X 88 := ⟨Try.f88, Try.func88, by kernel_rfl, rfl⟩
theorem fn89 : IsFn X 89 := ⟨Try.f89, Try.func89, by kernel_rfl, rfl⟩
theorem fn90 : IsFn X 90 := ⟨Try.f90, Try.func90, by kernel_rfl, rfl⟩
theorem fn91 : IsFn X 91 := ⟨Try.f91, Try.func91, by kernel_rfl, rfl⟩
theorem fn92 : IsFn X 92 := ⟨Try.f92, Try.func92, by kernel_rfl, rfl⟩
theorem fn93 : IsFn X 93 := ⟨Try.f93, Try.func93, by kernel_rfl, rfl⟩
theorem fn94 : IsFn X 94 := ⟨Try.f94, Try.func94, by kernel_rfl, rfl⟩
theorem fn95 : IsFn X 95 := ⟨Try.f95, Try.func95, by kernel_rfl, rfl⟩
theorem fn96 : IsFn X 96 := ⟨Try.f96, Try.func96, by kernel_rfl, rfl⟩
theorem fn97 : IsFn X 97 := ⟨Try.f97, Try.func97, by kernel_rfl, rfl⟩
theorem fn98 : IsFn X 98 := ⟨Try.f98, Try.func98, by kernel_rfl, rfl⟩
theorem fn99 : IsFn X 99 := ⟨Try.f99, Try.func99, by kernel_rfl, rfl⟩
theorem fn100 : IsFn X 100 := ⟨Try.f100, Try.func100, by kernel_rfl, rfl⟩
theorem fn101 : IsFn X 101 := ⟨Try.f101, Try.func101, by kernel_rfl, rfl⟩
theorem fn102 : IsFn X 102 := ⟨Try.f102, Try.func102, by kernel_rfl, rfl⟩
theorem fn103 : IsFn X 103 := ⟨Try.f103, Try.func103, by kernel_rfl, rfl⟩
theorem fn104 : IsFn X 104 := ⟨Try.f104, Try.func104, by kernel_rfl, rfl⟩
theorem fn105 : IsFn X 105 := ⟨Try.f105, Try.func105, by kernel_rfl, rfl⟩
theorem fn106 : IsFn X 106 := ⟨Try.f106, Try.func106, by kernel_rfl, rfl⟩
theorem fn107 : IsFn X 107 := ⟨Try.f107, Try.func107, by kernel_rfl, rfl⟩
theorem fn108 : IsFn X 108 := ⟨Try.f108, Try.func108, by kernel_rfl, rfl⟩
theorem fn109 : IsFn X 109 := ⟨Try.f109, Try.func109, by kernel_rfl, rfl⟩
end Go.Proofs.Ytkmdfaodbiknlaa.S
