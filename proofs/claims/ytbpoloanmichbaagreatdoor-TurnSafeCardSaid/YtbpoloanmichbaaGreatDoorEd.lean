/-
  Proved here: the calls that 'examples' makes, as data. No condition.
-/
import Derived.Test.YtbpoloanmichbaaGreatDoorSc
set_option maxRecDepth 1000000
namespace dj
open Go Go.Sim
def I (n:Nat):Value:= .int .i64 (.ofNat n)
def bT:Value:= .bool true
def bF:Value:= .bool false
def S (b o n c:Nat):Value:= .slice (some ⟨b,o,none⟩) n c
def G (b o k n c:Nat):Value:= .slice (some ⟨b,o,some k⟩) n c
def vj:List Value:=[bF,bF,bF,bF,bF,bF,bF,bT,bF,bF,bF,bT,bF,bT,bT,bF,bF,bT,bF,bT,bT,bT,bT,bT]
def GV:Nat→Option (List Value):=PA [(0,vj)]
def e0:vi where
 f:=128
 args:=[.agg ⟨[I 0,I 2,I 0,bF, .int .u64 (.ofNat 12638214688346347271),S 156 0 2 2, .slice none 0 0, .slice none 0 0,I 6,I 6,G 148 0 0 36 36,G 458 0 0 2 2,G 580 0 0 1 1, .slice none 0 0,G 464 0 0 2 2, .slice none 0 0]⟩, .agg ⟨[I 1,I 1]⟩, .string ⟨⟨[119,111,114,107,101,114]⟩⟩]
 next:=294
 same:=[(78,131,[.string ⟨⟨[98,97,115,101]⟩⟩,bT,bT,I 0,I 1,I 1,I 0,I 0,I 3,I 10,I 0,I 0, .string ⟨⟨[]⟩⟩,I 0,I 0,I 1, .slice none 0 0,S 154 0 1 1, .slice none 0 0, .string ⟨⟨[119,111,114,107,101,114]⟩⟩,bF,bF,I 1,I 0,I 0,I 40,I 64,I 2,I 5,I 0,I 0, .string ⟨⟨[]⟩⟩,I 0,I 0,I 0, .slice none 0 0, .slice none 0 0, .slice none 0 0]),
 (77,9,[.string ⟨⟨[119,111,114,107,101,114]⟩⟩]),
 (74,89,[I 1,I 0,I 0,I 1,I 0,I 0,I 1,I 0,I 0,I 1,I 0,I 0,I 1,I 0,I 0,I 1,I 0,I 0,I 1,I 0,I 0,I 1,I 0,I 0,I 1,I 0,I 0,I 1,I 0,I 0,I 1,I 0,I 0,I 1,I 0,I 0,I 1,I 0,I 0,I 1,I 0,I 0,I 1,I 0,I 0,I 1,I 0,I 0,I 1,I 0,I 0,I 1,I 0,I 0,I 1,I 0,I 0,I 1,I 0,I 0,I 1,I 0,I 0,I 1,I 0,I 0,I 1,I 0,I 0,I 1,I 0,I 0,I 1,I 0,I 0,I 1,I 0,I 0,I 1,I 0,I 0,I 1,I 0,I 0,I 1,I 0,I 0,I 1,I 0,I 0,I 1,I 0,I 0,I 1,I 0,I 0,I 1,I 0,I 0,I 1,I 0,I 0,I 1,I 0,I 0,I 1,I 0,I 0]),
 (229,141,[I 1,I 1,I 200,I 100, .slice none 0 0,bF,I 2,I 2,I 200,I 100, .slice none 0 0,bF]),
 (290,73,[I 1,I 1, .string ⟨⟨[98,97,115,101]⟩⟩,I 384,I 384,I 10,I 0,I 0,I 0,I 0, .slice none 0 0, .slice none 0 0]),
 (232,144,[I 1,S 450 0 36 36, .slice none 0 0,I 2,S 460 0 36 36, .slice none 0 0]),
 (225,4,[bF,bF,bF,bF,bF,bF,bF,bF,bF,bF,bF,bF,bF,bF,bF,bF,bF,bF,bF,bF,bF,bF,bF,bF,bF,bF,bF,bF,bF,bF,bF,bF,bF,bF,bF,bF]),
 (230,4,[bF,bF,bF,bF,bF,bF,bF,bF,bF,bF,bF,bF,bF,bF,bF,bF,bF,bF,bF,bF,bF,bF,bF,bF,bF,bF,bF,bF,bF,bF,bF,bF,bF,bF,bF,bF])]
 old:=[]
 v:= .tuple ⟨[.agg ⟨[I 384,I 128]⟩,bT]⟩
 next':=3926
 chg:=[]
 new:=[]
def e1:vi where
 f:=128
 args:=[.agg ⟨[I 0,I 3,I 0,bF, .int .u64 (.ofNat 12638214688346347271),S 156 0 2 2, .slice none 0 0, .slice none 0 0,I 6,I 6,G 148 0 0 36 36,G 458 0 0 2 2,G 7874 0 0 2 2, .slice none 0 0,G 464 0 0 2 2, .slice none 0 0]⟩, .agg ⟨[I 1,I 1]⟩, .string ⟨⟨[119,111,114,107,101,114]⟩⟩]
 next:=3938
 same:=[(78,131,[.string ⟨⟨[98,97,115,101]⟩⟩,bT,bT,I 0,I 1,I 1,I 0,I 0,I 3,I 10,I 0,I 0, .string ⟨⟨[]⟩⟩,I 0,I 0,I 1, .slice none 0 0,S 154 0 1 1, .slice none 0 0, .string ⟨⟨[119,111,114,107,101,114]⟩⟩,bF,bF,I 1,I 0,I 0,I 40,I 64,I 2,I 5,I 0,I 0, .string ⟨⟨[]⟩⟩,I 0,I 0,I 0, .slice none 0 0, .slice none 0 0, .slice none 0 0]),
 (77,9,[.string ⟨⟨[119,111,114,107,101,114]⟩⟩]),
 (74,89,[I 1,I 0,I 0,I 1,I 0,I 0,I 1,I 0,I 0,I 1,I 0,I 0,I 1,I 0,I 0,I 1,I 0,I 0,I 1,I 0,I 0,I 1,I 0,I 0,I 1,I 0,I 0,I 1,I 0,I 0,I 1,I 0,I 0,I 1,I 0,I 0,I 1,I 0,I 0,I 1,I 0,I 0,I 1,I 0,I 0,I 1,I 0,I 0,I 1,I 0,I 0,I 1,I 0,I 0,I 1,I 0,I 0,I 1,I 0,I 0,I 1,I 0,I 0,I 1,I 0,I 0,I 1,I 0,I 0,I 1,I 0,I 0,I 1,I 0,I 0,I 1,I 0,I 0,I 1,I 0,I 0,I 1,I 0,I 0,I 1,I 0,I 0,I 1,I 0,I 0,I 1,I 0,I 0,I 1,I 0,I 0,I 1,I 0,I 0,I 1,I 0,I 0,I 1,I 0,I 0,I 1,I 0,I 0]),
 (229,141,[I 1,I 1,I 200,I 100, .slice none 0 0,bF,I 2,I 2,I 200,I 100, .slice none 0 0,bF]),
 (3937,73,[I 1,I 1, .string ⟨⟨[98,97,115,101]⟩⟩,I 384,I 384,I 10,I 0,I 0,I 0,I 0, .slice none 0 0, .slice none 0 0,I 2,I 1, .string ⟨⟨[119,111,114,107,101,114]⟩⟩,I 384,I 128,I 5,I 0,I 0,I 0,I 0, .slice none 0 0, .slice none 0 0]),
 (232,144,[I 1,S 450 0 36 36, .slice none 0 0,I 2,S 460 0 36 36, .slice none 0 0]),
 (225,4,[bF,bF,bF,bF,bF,bF,bF,bF,bF,bF,bF,bF,bF,bF,bF,bF,bF,bF,bF,bF,bF,bF,bF,bF,bF,bF,bF,bF,bF,bF,bF,bF,bF,bF,bF,bF]),
 (230,4,[bF,bF,bF,bF,bF,bF,bF,bF,bF,bF,bF,bF,bF,bF,bF,bF,bF,bF,bF,bF,bF,bF,bF,bF,bF,bF,bF,bF,bF,bF,bF,bF,bF,bF,bF,bF])]
 old:=[]
 v:= .tuple ⟨[.agg ⟨[I 128,I 384]⟩,bT]⟩
 next':=7626
 chg:=[]
 new:=[]
def e2:vi where
 f:=128
 args:=[.agg ⟨[I 0,I 5,I 0,bF, .int .u64 (.ofNat 12638214688346347271),S 156 0 2 2, .slice none 0 0, .slice none 0 0,I 6,I 6,G 148 0 0 36 36,G 458 0 0 2 2,G 16210 0 0 4 4, .slice none 0 0,G 464 0 0 2 2, .slice none 0 0]⟩, .agg ⟨[I 4,I 4]⟩, .string ⟨⟨[119,111,114,107,101,114]⟩⟩]
 next:=8109
 same:=[(78,131,[.string ⟨⟨[98,97,115,101]⟩⟩,bT,bT,I 0,I 1,I 1,I 0,I 0,I 3,I 10,I 0,I 0, .string ⟨⟨[]⟩⟩,I 0,I 0,I 1, .slice none 0 0,S 154 0 1 1, .slice none 0 0, .string ⟨⟨[119,111,114,107,101,114]⟩⟩,bF,bF,I 1,I 0,I 0,I 40,I 64,I 2,I 5,I 0,I 0, .string ⟨⟨[]⟩⟩,I 0,I 0,I 0, .slice none 0 0, .slice none 0 0, .slice none 0 0]),
 (77,9,[.string ⟨⟨[119,111,114,107,101,114]⟩⟩]),
 (74,89,[I 1,I 0,I 0,I 1,I 0,I 0,I 1,I 0,I 0,I 1,I 0,I 0,I 1,I 0,I 0,I 1,I 0,I 0,I 1,I 0,I 0,I 1,I 0,I 0,I 1,I 0,I 0,I 1,I 0,I 0,I 1,I 0,I 0,I 1,I 0,I 0,I 1,I 0,I 0,I 1,I 0,I 0,I 1,I 0,I 0,I 1,I 0,I 0,I 1,I 0,I 0,I 1,I 0,I 0,I 1,I 0,I 0,I 1,I 0,I 0,I 1,I 0,I 0,I 1,I 0,I 0,I 1,I 0,I 0,I 1,I 0,I 0,I 1,I 0,I 0,I 1,I 0,I 0,I 1,I 0,I 0,I 1,I 0,I 0,I 1,I 0,I 0,I 1,I 0,I 0,I 1,I 0,I 0,I 1,I 0,I 0,I 1,I 0,I 0,I 1,I 0,I 0,I 1,I 0,I 0,I 1,I 0,I 0]),
 (229,141,[I 1,I 1,I 200,I 100, .slice none 0 0,bF,I 2,I 2,I 200,I 100, .slice none 0 0,bF]),
 (8105,73,[I 1,I 1, .string ⟨⟨[98,97,115,101]⟩⟩,I 384,I 384,I 10,I 0,I 0,I 0,I 0, .slice none 0 0, .slice none 0 0,I 2,I 1, .string ⟨⟨[119,111,114,107,101,114]⟩⟩,I 384,I 128,I 5,I 0,I 0,I 0,I 0, .slice none 0 0, .slice none 0 0,I 3,I 1, .string ⟨⟨[119,111,114,107,101,114]⟩⟩,I 128,I 384,I 5,I 0,I 0,I 0,I 0, .slice none 0 0, .slice none 0 0,I 4,I 2, .string ⟨⟨[98,97,115,101]⟩⟩,I 1152,I 1152,I 10,I 0,I 0,I 0,I 0, .slice none 0 0, .slice none 0 0]),
 (232,144,[I 1,S 450 0 36 36, .slice none 0 0,I 2,S 460 0 36 36, .slice none 0 0]),
 (225,4,[bF,bF,bF,bF,bF,bF,bF,bF,bF,bF,bF,bF,bF,bF,bF,bF,bF,bF,bF,bF,bF,bF,bF,bF,bF,bF,bF,bF,bF,bF,bF,bF,bF,bF,bF,bF]),
 (230,4,[bF,bF,bF,bF,bF,bF,bF,bF,bF,bF,bF,bF,bF,bF,bF,bF,bF,bF,bF,bF,bF,bF,bF,bF,bF,bF,bF,bF,bF,bF,bF,bF,bF,bF,bF,bF])]
 old:=[]
 v:= .tuple ⟨[.agg ⟨[I 1152,I 896]⟩,bT]⟩
 next':=16897
 chg:=[]
 new:=[]
def e3:vi where
 f:=128
 args:=[.agg ⟨[I 0,I 6,I 0,bF, .int .u64 (.ofNat 12638214688346347271),S 156 0 2 2, .slice none 0 0, .slice none 0 0,I 6,I 6,G 148 0 0 36 36,G 458 0 0 2 2,G 33828 0 0 5 5, .slice none 0 0,G 464 0 0 2 2, .slice none 0 0]⟩, .agg ⟨[I 4,I 4]⟩, .string ⟨⟨[119,111,114,107,101,114]⟩⟩]
 next:=16915
 same:=[(78,131,[.string ⟨⟨[98,97,115,101]⟩⟩,bT,bT,I 0,I 1,I 1,I 0,I 0,I 3,I 10,I 0,I 0, .string ⟨⟨[]⟩⟩,I 0,I 0,I 1, .slice none 0 0,S 154 0 1 1, .slice none 0 0, .string ⟨⟨[119,111,114,107,101,114]⟩⟩,bF,bF,I 1,I 0,I 0,I 40,I 64,I 2,I 5,I 0,I 0, .string ⟨⟨[]⟩⟩,I 0,I 0,I 0, .slice none 0 0, .slice none 0 0, .slice none 0 0]),
 (77,9,[.string ⟨⟨[119,111,114,107,101,114]⟩⟩]),
 (74,89,[I 1,I 0,I 0,I 1,I 0,I 0,I 1,I 0,I 0,I 1,I 0,I 0,I 1,I 0,I 0,I 1,I 0,I 0,I 1,I 0,I 0,I 1,I 0,I 0,I 1,I 0,I 0,I 1,I 0,I 0,I 1,I 0,I 0,I 1,I 0,I 0,I 1,I 0,I 0,I 1,I 0,I 0,I 1,I 0,I 0,I 1,I 0,I 0,I 1,I 0,I 0,I 1,I 0,I 0,I 1,I 0,I 0,I 1,I 0,I 0,I 1,I 0,I 0,I 1,I 0,I 0,I 1,I 0,I 0,I 1,I 0,I 0,I 1,I 0,I 0,I 1,I 0,I 0,I 1,I 0,I 0,I 1,I 0,I 0,I 1,I 0,I 0,I 1,I 0,I 0,I 1,I 0,I 0,I 1,I 0,I 0,I 1,I 0,I 0,I 1,I 0,I 0,I 1,I 0,I 0,I 1,I 0,I 0]),
 (229,141,[I 1,I 1,I 200,I 100, .slice none 0 0,bF,I 2,I 2,I 200,I 100, .slice none 0 0,bF]),
 (16914,73,[I 1,I 1, .string ⟨⟨[98,97,115,101]⟩⟩,I 384,I 384,I 10,I 0,I 0,I 0,I 0, .slice none 0 0, .slice none 0 0,I 2,I 1, .string ⟨⟨[119,111,114,107,101,114]⟩⟩,I 384,I 128,I 5,I 0,I 0,I 0,I 0, .slice none 0 0, .slice none 0 0,I 3,I 1, .string ⟨⟨[119,111,114,107,101,114]⟩⟩,I 128,I 384,I 5,I 0,I 0,I 0,I 0, .slice none 0 0, .slice none 0 0,I 4,I 2, .string ⟨⟨[98,97,115,101]⟩⟩,I 1152,I 1152,I 10,I 0,I 0,I 0,I 0, .slice none 0 0, .slice none 0 0,I 5,I 2, .string ⟨⟨[119,111,114,107,101,114]⟩⟩,I 1152,I 896,I 5,I 0,I 0,I 0,I 0, .slice none 0 0, .slice none 0 0]),
 (232,144,[I 1,S 450 0 36 36, .slice none 0 0,I 2,S 460 0 36 36, .slice none 0 0]),
 (225,4,[bF,bF,bF,bF,bF,bF,bF,bF,bF,bF,bF,bF,bF,bF,bF,bF,bF,bF,bF,bF,bF,bF,bF,bF,bF,bF,bF,bF,bF,bF,bF,bF,bF,bF,bF,bF]),
 (230,4,[bF,bF,bF,bF,bF,bF,bF,bF,bF,bF,bF,bF,bF,bF,bF,bF,bF,bF,bF,bF,bF,bF,bF,bF,bF,bF,bF,bF,bF,bF,bF,bF,bF,bF,bF,bF])]
 old:=[]
 v:= .tuple ⟨[.agg ⟨[I 896,I 1152]⟩,bT]⟩
 next':=25795
 chg:=[]
 new:=[]
def e4:vi where
 f:=213
 args:=[.agg ⟨[I 0,I 7,I 0,bF, .int .u64 (.ofNat 12638214688346347271),S 156 0 2 2, .slice none 0 0, .slice none 0 0,I 6,I 6,G 148 0 0 36 36,G 458 0 0 2 2,G 51628 0 0 6 6, .slice none 0 0,G 464 0 0 2 2, .slice none 0 0]⟩,I 1]
 next:=25823
 same:=[(78,131,[.string ⟨⟨[98,97,115,101]⟩⟩,bT,bT,I 0,I 1,I 1,I 0,I 0,I 3,I 10,I 0,I 0, .string ⟨⟨[]⟩⟩,I 0,I 0,I 1, .slice none 0 0,S 154 0 1 1, .slice none 0 0, .string ⟨⟨[119,111,114,107,101,114]⟩⟩,bF,bF,I 1,I 0,I 0,I 40,I 64,I 2,I 5,I 0,I 0, .string ⟨⟨[]⟩⟩,I 0,I 0,I 0, .slice none 0 0, .slice none 0 0, .slice none 0 0]),
 (77,9,[.string ⟨⟨[119,111,114,107,101,114]⟩⟩]),
 (74,89,[I 1,I 0,I 0,I 1,I 0,I 0,I 1,I 0,I 0,I 1,I 0,I 0,I 1,I 0,I 0,I 1,I 0,I 0,I 1,I 0,I 0,I 1,I 0,I 0,I 1,I 0,I 0,I 1,I 0,I 0,I 1,I 0,I 0,I 1,I 0,I 0,I 1,I 0,I 0,I 1,I 0,I 0,I 1,I 0,I 0,I 1,I 0,I 0,I 1,I 0,I 0,I 1,I 0,I 0,I 1,I 0,I 0,I 1,I 0,I 0,I 1,I 0,I 0,I 1,I 0,I 0,I 1,I 0,I 0,I 1,I 0,I 0,I 1,I 0,I 0,I 1,I 0,I 0,I 1,I 0,I 0,I 1,I 0,I 0,I 1,I 0,I 0,I 1,I 0,I 0,I 1,I 0,I 0,I 1,I 0,I 0,I 1,I 0,I 0,I 1,I 0,I 0,I 1,I 0,I 0,I 1,I 0,I 0]),
 (229,141,[I 1,I 1,I 200,I 100, .slice none 0 0,bF,I 2,I 2,I 200,I 100, .slice none 0 0,bF]),
 (25814,73,[I 1,I 1, .string ⟨⟨[98,97,115,101]⟩⟩,I 384,I 384,I 10,I 0,I 0,I 0,I 0, .slice none 0 0, .slice none 0 0,I 2,I 1, .string ⟨⟨[119,111,114,107,101,114]⟩⟩,I 384,I 128,I 5,I 0,I 0,I 0,I 0, .slice none 0 0, .slice none 0 0,I 3,I 1, .string ⟨⟨[119,111,114,107,101,114]⟩⟩,I 128,I 384,I 5,I 0,I 0,I 0,I 0, .slice none 0 0, .slice none 0 0,I 4,I 2, .string ⟨⟨[98,97,115,101]⟩⟩,I 1152,I 1152,I 10,I 0,I 0,I 0,I 0, .slice none 0 0, .slice none 0 0,I 5,I 2, .string ⟨⟨[119,111,114,107,101,114]⟩⟩,I 1152,I 896,I 5,I 0,I 0,I 0,I 0, .slice none 0 0, .slice none 0 0,I 6,I 2, .string ⟨⟨[119,111,114,107,101,114]⟩⟩,I 896,I 1152,I 5,I 0,I 0,I 0,I 0, .slice none 0 0, .slice none 0 0]),
 (232,144,[I 1,S 450 0 36 36, .slice none 0 0,I 2,S 460 0 36 36, .slice none 0 0]),
 (225,4,[bF,bF,bF,bF,bF,bF,bF,bF,bF,bF,bF,bF,bF,bF,bF,bF,bF,bF,bF,bF,bF,bF,bF,bF,bF,bF,bF,bF,bF,bF,bF,bF,bF,bF,bF,bF]),
 (230,4,[bF,bF,bF,bF,bF,bF,bF,bF,bF,bF,bF,bF,bF,bF,bF,bF,bF,bF,bF,bF,bF,bF,bF,bF,bF,bF,bF,bF,bF,bF,bF,bF,bF,bF,bF,bF])]
 old:=[]
 v:=S 51654 0 36 36
 next':=29828
 chg:=[]
 new:=[(25827,4,[bT,bT,bT,bT,bF,bF,bT,bT,bT,bT,bT,bF,bT,bT,bT,bT,bF,bF,bT,bT,bT,bT,bF,bF,bF,bT,bF,bF,bF,bF,bF,bF,bF,bF,bF,bF])]
def e5:vi where
 f:=213
 args:=[.agg ⟨[I 0,I 7,I 0,bF, .int .u64 (.ofNat 12638214688346347271),S 156 0 2 2, .slice none 0 0, .slice none 0 0,I 6,I 6,G 148 0 0 36 36,G 458 0 0 2 2,G 51628 0 0 6 6, .slice none 0 0,G 464 0 0 2 2, .slice none 0 0]⟩,I 2]
 next:=30163
 same:=[(78,131,[.string ⟨⟨[98,97,115,101]⟩⟩,bT,bT,I 0,I 1,I 1,I 0,I 0,I 3,I 10,I 0,I 0, .string ⟨⟨[]⟩⟩,I 0,I 0,I 1, .slice none 0 0,S 154 0 1 1, .slice none 0 0, .string ⟨⟨[119,111,114,107,101,114]⟩⟩,bF,bF,I 1,I 0,I 0,I 40,I 64,I 2,I 5,I 0,I 0, .string ⟨⟨[]⟩⟩,I 0,I 0,I 0, .slice none 0 0, .slice none 0 0, .slice none 0 0]),
 (77,9,[.string ⟨⟨[119,111,114,107,101,114]⟩⟩]),
 (74,89,[I 1,I 0,I 0,I 1,I 0,I 0,I 1,I 0,I 0,I 1,I 0,I 0,I 1,I 0,I 0,I 1,I 0,I 0,I 1,I 0,I 0,I 1,I 0,I 0,I 1,I 0,I 0,I 1,I 0,I 0,I 1,I 0,I 0,I 1,I 0,I 0,I 1,I 0,I 0,I 1,I 0,I 0,I 1,I 0,I 0,I 1,I 0,I 0,I 1,I 0,I 0,I 1,I 0,I 0,I 1,I 0,I 0,I 1,I 0,I 0,I 1,I 0,I 0,I 1,I 0,I 0,I 1,I 0,I 0,I 1,I 0,I 0,I 1,I 0,I 0,I 1,I 0,I 0,I 1,I 0,I 0,I 1,I 0,I 0,I 1,I 0,I 0,I 1,I 0,I 0,I 1,I 0,I 0,I 1,I 0,I 0,I 1,I 0,I 0,I 1,I 0,I 0,I 1,I 0,I 0,I 1,I 0,I 0]),
 (229,141,[I 1,I 1,I 200,I 100, .slice none 0 0,bF,I 2,I 2,I 200,I 100, .slice none 0 0,bF]),
 (25814,73,[I 1,I 1, .string ⟨⟨[98,97,115,101]⟩⟩,I 384,I 384,I 10,I 0,I 0,I 0,I 0, .slice none 0 0, .slice none 0 0,I 2,I 1, .string ⟨⟨[119,111,114,107,101,114]⟩⟩,I 384,I 128,I 5,I 0,I 0,I 0,I 0, .slice none 0 0, .slice none 0 0,I 3,I 1, .string ⟨⟨[119,111,114,107,101,114]⟩⟩,I 128,I 384,I 5,I 0,I 0,I 0,I 0, .slice none 0 0, .slice none 0 0,I 4,I 2, .string ⟨⟨[98,97,115,101]⟩⟩,I 1152,I 1152,I 10,I 0,I 0,I 0,I 0, .slice none 0 0, .slice none 0 0,I 5,I 2, .string ⟨⟨[119,111,114,107,101,114]⟩⟩,I 1152,I 896,I 5,I 0,I 0,I 0,I 0, .slice none 0 0, .slice none 0 0,I 6,I 2, .string ⟨⟨[119,111,114,107,101,114]⟩⟩,I 896,I 1152,I 5,I 0,I 0,I 0,I 0, .slice none 0 0, .slice none 0 0]),
 (232,144,[I 1,S 450 0 36 36, .slice none 0 0,I 2,S 460 0 36 36, .slice none 0 0]),
 (225,4,[bF,bF,bF,bF,bF,bF,bF,bF,bF,bF,bF,bF,bF,bF,bF,bF,bF,bF,bF,bF,bF,bF,bF,bF,bF,bF,bF,bF,bF,bF,bF,bF,bF,bF,bF,bF]),
 (230,4,[bF,bF,bF,bF,bF,bF,bF,bF,bF,bF,bF,bF,bF,bF,bF,bF,bF,bF,bF,bF,bF,bF,bF,bF,bF,bF,bF,bF,bF,bF,bF,bF,bF,bF,bF,bF])]
 old:=[]
 v:=S 60334 0 36 36
 next':=34796
 chg:=[]
 new:=[(30167,4,[bF,bF,bF,bF,bF,bF,bF,bF,bF,bF,bT,bF,bF,bF,bT,bT,bT,bT,bF,bF,bT,bT,bT,bT,bF,bT,bT,bT,bT,bT,bF,bF,bT,bT,bT,bT])]
def e6:vi where
 f:=21
 args:=[]
 next:=0
 same:=[]
 old:=[]
 v:= .tuple ⟨[.agg ⟨[I 0,I 7,I 0,bF, .int .u64 (.ofNat 12638214688346347271),S 156 0 2 2, .slice none 0 0, .slice none 0 0,I 6,I 6,G 148 0 0 36 36,G 458 0 0 2 2,G 51628 0 0 6 6, .slice none 0 0,G 70246 0 0 2 2, .slice none 0 0]⟩,I 0]⟩
 next':=35124
 chg:=[]
 new:=[(78,131,[.string ⟨⟨[98,97,115,101]⟩⟩,bT,bT,I 0,I 1,I 1,I 0,I 0,I 3,I 10,I 0,I 0, .string ⟨⟨[]⟩⟩,I 0,I 0,I 1, .slice none 0 0,S 154 0 1 1, .slice none 0 0, .string ⟨⟨[119,111,114,107,101,114]⟩⟩,bF,bF,I 1,I 0,I 0,I 40,I 64,I 2,I 5,I 0,I 0, .string ⟨⟨[]⟩⟩,I 0,I 0,I 0, .slice none 0 0, .slice none 0 0, .slice none 0 0]),
 (77,9,[.string ⟨⟨[119,111,114,107,101,114]⟩⟩]),
 (74,89,[I 1,I 0,I 0,I 1,I 0,I 0,I 1,I 0,I 0,I 1,I 0,I 0,I 1,I 0,I 0,I 1,I 0,I 0,I 1,I 0,I 0,I 1,I 0,I 0,I 1,I 0,I 0,I 1,I 0,I 0,I 1,I 0,I 0,I 1,I 0,I 0,I 1,I 0,I 0,I 1,I 0,I 0,I 1,I 0,I 0,I 1,I 0,I 0,I 1,I 0,I 0,I 1,I 0,I 0,I 1,I 0,I 0,I 1,I 0,I 0,I 1,I 0,I 0,I 1,I 0,I 0,I 1,I 0,I 0,I 1,I 0,I 0,I 1,I 0,I 0,I 1,I 0,I 0,I 1,I 0,I 0,I 1,I 0,I 0,I 1,I 0,I 0,I 1,I 0,I 0,I 1,I 0,I 0,I 1,I 0,I 0,I 1,I 0,I 0,I 1,I 0,I 0,I 1,I 0,I 0,I 1,I 0,I 0]),
 (229,141,[I 1,I 1,I 200,I 100, .slice none 0 0,bF,I 2,I 2,I 200,I 100, .slice none 0 0,bF]),
 (25814,73,[I 1,I 1, .string ⟨⟨[98,97,115,101]⟩⟩,I 384,I 384,I 10,I 0,I 0,I 0,I 0, .slice none 0 0, .slice none 0 0,I 2,I 1, .string ⟨⟨[119,111,114,107,101,114]⟩⟩,I 384,I 128,I 5,I 0,I 0,I 0,I 0, .slice none 0 0, .slice none 0 0,I 3,I 1, .string ⟨⟨[119,111,114,107,101,114]⟩⟩,I 128,I 384,I 5,I 0,I 0,I 0,I 0, .slice none 0 0, .slice none 0 0,I 4,I 2, .string ⟨⟨[98,97,115,101]⟩⟩,I 1152,I 1152,I 10,I 0,I 0,I 0,I 0, .slice none 0 0, .slice none 0 0,I 5,I 2, .string ⟨⟨[119,111,114,107,101,114]⟩⟩,I 1152,I 896,I 5,I 0,I 0,I 0,I 0, .slice none 0 0, .slice none 0 0,I 6,I 2, .string ⟨⟨[119,111,114,107,101,114]⟩⟩,I 896,I 1152,I 5,I 0,I 0,I 0,I 0, .slice none 0 0, .slice none 0 0]),
 (35123,144,[I 1,G 59800 0 0 36 36, .slice none 0 0,I 2,G 69736 0 0 36 36, .slice none 0 0]),
 (29900,4,[bT,bT,bT,bT,bF,bF,bT,bT,bT,bT,bT,bF,bT,bT,bT,bT,bF,bF,bT,bT,bT,bT,bF,bF,bF,bT,bF,bF,bF,bF,bF,bF,bF,bF,bF,bF]),
 (34868,4,[bF,bF,bF,bF,bF,bF,bF,bF,bF,bF,bT,bF,bF,bF,bT,bT,bT,bT,bF,bF,bT,bT,bT,bT,bF,bT,bT,bT,bT,bT,bF,bF,bT,bT,bT,bT])]
def e7:vi where
 f:=145
 args:=[.agg ⟨[I 0,I 7,I 0,bF, .int .u64 (.ofNat 5592185433959994140),S 156 0 2 2, .slice none 0 0, .slice none 0 0,I 6,I 6,G 148 0 0 36 36,G 74316 0 0 2 2,G 74536 0 0 6 6, .slice none 0 0,G 70246 0 0 2 2, .slice none 0 0]⟩,I 1]
 next:=41068
 same:=[(78,131,[.string ⟨⟨[98,97,115,101]⟩⟩,bT,bT,I 0,I 1,I 1,I 0,I 0,I 3,I 10,I 0,I 0, .string ⟨⟨[]⟩⟩,I 0,I 0,I 1, .slice none 0 0,S 154 0 1 1, .slice none 0 0, .string ⟨⟨[119,111,114,107,101,114]⟩⟩,bF,bF,I 1,I 0,I 0,I 40,I 64,I 2,I 5,I 0,I 0, .string ⟨⟨[]⟩⟩,I 0,I 0,I 0, .slice none 0 0, .slice none 0 0, .slice none 0 0]),
 (77,9,[.string ⟨⟨[119,111,114,107,101,114]⟩⟩]),
 (74,89,[I 1,I 0,I 0,I 1,I 0,I 0,I 1,I 0,I 0,I 1,I 0,I 0,I 1,I 0,I 0,I 1,I 0,I 0,I 1,I 0,I 0,I 1,I 0,I 0,I 1,I 0,I 0,I 1,I 0,I 0,I 1,I 0,I 0,I 1,I 0,I 0,I 1,I 0,I 0,I 1,I 0,I 0,I 1,I 0,I 0,I 1,I 0,I 0,I 1,I 0,I 0,I 1,I 0,I 0,I 1,I 0,I 0,I 1,I 0,I 0,I 1,I 0,I 0,I 1,I 0,I 0,I 1,I 0,I 0,I 1,I 0,I 0,I 1,I 0,I 0,I 1,I 0,I 0,I 1,I 0,I 0,I 1,I 0,I 0,I 1,I 0,I 0,I 1,I 0,I 0,I 1,I 0,I 0,I 1,I 0,I 0,I 1,I 0,I 0,I 1,I 0,I 0,I 1,I 0,I 0,I 1,I 0,I 0]),
 (37158,141,[I 1,I 1,I 200,I 100, .slice none 0 0,bF,I 2,I 2,I 200,I 100, .slice none 0 0,bF]),
 (37268,73,[I 1,I 1, .string ⟨⟨[98,97,115,101]⟩⟩,I 384,I 384,I 10,I 0,I 0,I 0,I 0, .slice none 0 0, .slice none 0 0,I 2,I 1, .string ⟨⟨[119,111,114,107,101,114]⟩⟩,I 384,I 128,I 5,I 0,I 0,I 0,I 0, .slice none 0 0, .slice none 0 0,I 3,I 1, .string ⟨⟨[119,111,114,107,101,114]⟩⟩,I 128,I 384,I 5,I 0,I 0,I 0,I 0, .slice none 0 0, .slice none 0 0,I 4,I 2, .string ⟨⟨[98,97,115,101]⟩⟩,I 1152,I 1152,I 10,I 0,I 0,I 0,I 0, .slice none 0 0, .slice none 0 0,I 5,I 2, .string ⟨⟨[119,111,114,107,101,114]⟩⟩,I 1152,I 896,I 5,I 0,I 0,I 0,I 0, .slice none 0 0, .slice none 0 0,I 6,I 2, .string ⟨⟨[119,111,114,107,101,114]⟩⟩,I 896,I 1152,I 5,I 0,I 0,I 0,I 0, .slice none 0 0, .slice none 0 0]),
 (35123,144,[I 1,G 59800 0 0 36 36, .slice none 0 0,I 2,G 69736 0 0 36 36, .slice none 0 0]),
 (29900,4,[bT,bT,bT,bT,bF,bF,bT,bT,bT,bT,bT,bF,bT,bT,bT,bT,bF,bF,bT,bT,bT,bT,bF,bF,bF,bT,bF,bF,bF,bF,bF,bF,bF,bF,bF,bF]),
 (34868,4,[bF,bF,bF,bF,bF,bF,bF,bF,bF,bF,bT,bF,bF,bF,bT,bT,bT,bT,bF,bF,bT,bT,bT,bT,bF,bT,bT,bT,bT,bT,bF,bF,bT,bT,bT,bT])]
 old:=[]
 v:=S 87718 0 36 36
 next':=43899
 chg:=[]
 new:=[(43859,4,[bT,bT,bT,bT,bF,bF,bT,bT,bT,bT,bT,bF,bT,bT,bT,bT,bF,bF,bT,bT,bT,bT,bF,bF,bF,bT,bF,bF,bF,bF,bF,bF,bF,bF,bF,bF])]
def e8:vi where
 f:=145
 args:=[.agg ⟨[I 0,I 7,I 0,bF, .int .u64 (.ofNat 5592185433959994140),S 156 0 2 2, .slice none 0 0, .slice none 0 0,I 6,I 6,G 148 0 0 36 36,G 74316 0 0 2 2,G 74536 0 0 6 6, .slice none 0 0,G 70246 0 0 2 2, .slice none 0 0]⟩,I 2]
 next:=44078
 same:=[(78,131,[.string ⟨⟨[98,97,115,101]⟩⟩,bT,bT,I 0,I 1,I 1,I 0,I 0,I 3,I 10,I 0,I 0, .string ⟨⟨[]⟩⟩,I 0,I 0,I 1, .slice none 0 0,S 154 0 1 1, .slice none 0 0, .string ⟨⟨[119,111,114,107,101,114]⟩⟩,bF,bF,I 1,I 0,I 0,I 40,I 64,I 2,I 5,I 0,I 0, .string ⟨⟨[]⟩⟩,I 0,I 0,I 0, .slice none 0 0, .slice none 0 0, .slice none 0 0]),
 (77,9,[.string ⟨⟨[119,111,114,107,101,114]⟩⟩]),
 (74,89,[I 1,I 0,I 0,I 1,I 0,I 0,I 1,I 0,I 0,I 1,I 0,I 0,I 1,I 0,I 0,I 1,I 0,I 0,I 1,I 0,I 0,I 1,I 0,I 0,I 1,I 0,I 0,I 1,I 0,I 0,I 1,I 0,I 0,I 1,I 0,I 0,I 1,I 0,I 0,I 1,I 0,I 0,I 1,I 0,I 0,I 1,I 0,I 0,I 1,I 0,I 0,I 1,I 0,I 0,I 1,I 0,I 0,I 1,I 0,I 0,I 1,I 0,I 0,I 1,I 0,I 0,I 1,I 0,I 0,I 1,I 0,I 0,I 1,I 0,I 0,I 1,I 0,I 0,I 1,I 0,I 0,I 1,I 0,I 0,I 1,I 0,I 0,I 1,I 0,I 0,I 1,I 0,I 0,I 1,I 0,I 0,I 1,I 0,I 0,I 1,I 0,I 0,I 1,I 0,I 0,I 1,I 0,I 0]),
 (37158,141,[I 1,I 1,I 200,I 100, .slice none 0 0,bF,I 2,I 2,I 200,I 100, .slice none 0 0,bF]),
 (37268,73,[I 1,I 1, .string ⟨⟨[98,97,115,101]⟩⟩,I 384,I 384,I 10,I 0,I 0,I 0,I 0, .slice none 0 0, .slice none 0 0,I 2,I 1, .string ⟨⟨[119,111,114,107,101,114]⟩⟩,I 384,I 128,I 5,I 0,I 0,I 0,I 0, .slice none 0 0, .slice none 0 0,I 3,I 1, .string ⟨⟨[119,111,114,107,101,114]⟩⟩,I 128,I 384,I 5,I 0,I 0,I 0,I 0, .slice none 0 0, .slice none 0 0,I 4,I 2, .string ⟨⟨[98,97,115,101]⟩⟩,I 1152,I 1152,I 10,I 0,I 0,I 0,I 0, .slice none 0 0, .slice none 0 0,I 5,I 2, .string ⟨⟨[119,111,114,107,101,114]⟩⟩,I 1152,I 896,I 5,I 0,I 0,I 0,I 0, .slice none 0 0, .slice none 0 0,I 6,I 2, .string ⟨⟨[119,111,114,107,101,114]⟩⟩,I 896,I 1152,I 5,I 0,I 0,I 0,I 0, .slice none 0 0, .slice none 0 0]),
 (35123,144,[I 1,G 59800 0 0 36 36, .slice none 0 0,I 2,G 69736 0 0 36 36, .slice none 0 0]),
 (29900,4,[bT,bT,bT,bT,bF,bF,bT,bT,bT,bT,bT,bF,bT,bT,bT,bT,bF,bF,bT,bT,bT,bT,bF,bF,bF,bT,bF,bF,bF,bF,bF,bF,bF,bF,bF,bF]),
 (34868,4,[bF,bF,bF,bF,bF,bF,bF,bF,bF,bF,bT,bF,bF,bF,bT,bT,bT,bT,bF,bF,bT,bT,bT,bT,bF,bT,bT,bT,bT,bT,bF,bF,bT,bT,bT,bT])]
 old:=[]
 v:=S 94374 0 36 36
 next':=47188
 chg:=[]
 new:=[(47187,4,[bF,bF,bF,bF,bF,bF,bF,bF,bF,bF,bT,bF,bF,bF,bT,bT,bT,bT,bF,bF,bT,bT,bT,bT,bF,bT,bT,bT,bT,bT,bF,bF,bT,bT,bT,bT])]
def e9:vi where
 f:=22
 args:=[.agg ⟨[I 0,I 7,I 0,bF, .int .u64 (.ofNat 12638214688346347271),S 156 0 2 2, .slice none 0 0, .slice none 0 0,I 6,I 6,G 148 0 0 36 36,G 458 0 0 2 2,G 51628 0 0 6 6, .slice none 0 0,G 70246 0 0 2 2, .slice none 0 0]⟩, .slice none 0 0, .slice none 0 0]
 next:=35125
 same:=[(78,131,[.string ⟨⟨[98,97,115,101]⟩⟩,bT,bT,I 0,I 1,I 1,I 0,I 0,I 3,I 10,I 0,I 0, .string ⟨⟨[]⟩⟩,I 0,I 0,I 1, .slice none 0 0,S 154 0 1 1, .slice none 0 0, .string ⟨⟨[119,111,114,107,101,114]⟩⟩,bF,bF,I 1,I 0,I 0,I 40,I 64,I 2,I 5,I 0,I 0, .string ⟨⟨[]⟩⟩,I 0,I 0,I 0, .slice none 0 0, .slice none 0 0, .slice none 0 0]),
 (77,9,[.string ⟨⟨[119,111,114,107,101,114]⟩⟩]),
 (74,89,[I 1,I 0,I 0,I 1,I 0,I 0,I 1,I 0,I 0,I 1,I 0,I 0,I 1,I 0,I 0,I 1,I 0,I 0,I 1,I 0,I 0,I 1,I 0,I 0,I 1,I 0,I 0,I 1,I 0,I 0,I 1,I 0,I 0,I 1,I 0,I 0,I 1,I 0,I 0,I 1,I 0,I 0,I 1,I 0,I 0,I 1,I 0,I 0,I 1,I 0,I 0,I 1,I 0,I 0,I 1,I 0,I 0,I 1,I 0,I 0,I 1,I 0,I 0,I 1,I 0,I 0,I 1,I 0,I 0,I 1,I 0,I 0,I 1,I 0,I 0,I 1,I 0,I 0,I 1,I 0,I 0,I 1,I 0,I 0,I 1,I 0,I 0,I 1,I 0,I 0,I 1,I 0,I 0,I 1,I 0,I 0,I 1,I 0,I 0,I 1,I 0,I 0,I 1,I 0,I 0,I 1,I 0,I 0]),
 (229,141,[I 1,I 1,I 200,I 100, .slice none 0 0,bF,I 2,I 2,I 200,I 100, .slice none 0 0,bF]),
 (25814,73,[I 1,I 1, .string ⟨⟨[98,97,115,101]⟩⟩,I 384,I 384,I 10,I 0,I 0,I 0,I 0, .slice none 0 0, .slice none 0 0,I 2,I 1, .string ⟨⟨[119,111,114,107,101,114]⟩⟩,I 384,I 128,I 5,I 0,I 0,I 0,I 0, .slice none 0 0, .slice none 0 0,I 3,I 1, .string ⟨⟨[119,111,114,107,101,114]⟩⟩,I 128,I 384,I 5,I 0,I 0,I 0,I 0, .slice none 0 0, .slice none 0 0,I 4,I 2, .string ⟨⟨[98,97,115,101]⟩⟩,I 1152,I 1152,I 10,I 0,I 0,I 0,I 0, .slice none 0 0, .slice none 0 0,I 5,I 2, .string ⟨⟨[119,111,114,107,101,114]⟩⟩,I 1152,I 896,I 5,I 0,I 0,I 0,I 0, .slice none 0 0, .slice none 0 0,I 6,I 2, .string ⟨⟨[119,111,114,107,101,114]⟩⟩,I 896,I 1152,I 5,I 0,I 0,I 0,I 0, .slice none 0 0, .slice none 0 0]),
 (35123,144,[I 1,G 59800 0 0 36 36, .slice none 0 0,I 2,G 69736 0 0 36 36, .slice none 0 0]),
 (29900,4,[bT,bT,bT,bT,bF,bF,bT,bT,bT,bT,bT,bF,bT,bT,bT,bT,bF,bF,bT,bT,bT,bT,bF,bF,bF,bT,bF,bF,bF,bF,bF,bF,bF,bF,bF,bF]),
 (34868,4,[bF,bF,bF,bF,bF,bF,bF,bF,bF,bF,bT,bF,bF,bF,bT,bT,bT,bT,bF,bF,bT,bT,bT,bT,bF,bT,bT,bT,bT,bT,bF,bF,bT,bT,bT,bT])]
 old:=[]
 v:= .tuple ⟨[.agg ⟨[I 1,I 7,I 0,bF, .int .u64 (.ofNat 5592185433959994140),S 156 0 2 2, .slice none 0 0, .slice none 0 0,I 6,I 6,G 148 0 0 36 36,G 94720 0 0 2 2,G 74536 0 0 6 6, .slice none 0 0,G 94710 0 0 2 2, .slice none 0 0]⟩, .slice none 0 0,I 0]⟩
 next':=47389
 chg:=[]
 new:=[(47360,141,[I 1,I 1,I 200,I 100, .slice none 0 0,bF,I 2,I 2,I 200,I 100, .slice none 0 0,bF]),
 (37268,73,[I 1,I 1, .string ⟨⟨[98,97,115,101]⟩⟩,I 384,I 384,I 10,I 0,I 0,I 0,I 0, .slice none 0 0, .slice none 0 0,I 2,I 1, .string ⟨⟨[119,111,114,107,101,114]⟩⟩,I 384,I 128,I 5,I 0,I 0,I 0,I 0, .slice none 0 0, .slice none 0 0,I 3,I 1, .string ⟨⟨[119,111,114,107,101,114]⟩⟩,I 128,I 384,I 5,I 0,I 0,I 0,I 0, .slice none 0 0, .slice none 0 0,I 4,I 2, .string ⟨⟨[98,97,115,101]⟩⟩,I 1152,I 1152,I 10,I 0,I 0,I 0,I 0, .slice none 0 0, .slice none 0 0,I 5,I 2, .string ⟨⟨[119,111,114,107,101,114]⟩⟩,I 1152,I 896,I 5,I 0,I 0,I 0,I 0, .slice none 0 0, .slice none 0 0,I 6,I 2, .string ⟨⟨[119,111,114,107,101,114]⟩⟩,I 896,I 1152,I 5,I 0,I 0,I 0,I 0, .slice none 0 0, .slice none 0 0]),
 (47355,144,[I 1,S 87798 0 36 36, .slice none 0 0,I 2,S 94376 0 36 36, .slice none 0 0]),
 (43899,4,[bT,bT,bT,bT,bF,bF,bT,bT,bT,bT,bT,bF,bT,bT,bT,bT,bF,bF,bT,bT,bT,bT,bF,bF,bF,bT,bF,bF,bF,bF,bF,bF,bF,bF,bF,bF]),
 (47188,4,[bF,bF,bF,bF,bF,bF,bF,bF,bF,bF,bT,bF,bF,bF,bT,bT,bT,bT,bF,bF,bT,bT,bT,bT,bF,bT,bT,bT,bT,bT,bF,bF,bT,bT,bT,bT])]
def JB:vi where
 f:=145
 args:=[.agg ⟨[I 1,I 7,I 0,bT, .int .u64 (.ofNat 16992900253283192625),S 156 0 2 2, .slice none 0 0, .slice none 0 0,I 6,I 6,G 148 0 0 36 36,G 98906 0 0 2 2,G 99126 0 0 6 6, .slice none 0 0,G 94710 0 0 2 2, .slice none 0 0]⟩,I 1]
 next:=53363
 same:=[(78,131,[.string ⟨⟨[98,97,115,101]⟩⟩,bT,bT,I 0,I 1,I 1,I 0,I 0,I 3,I 10,I 0,I 0, .string ⟨⟨[]⟩⟩,I 0,I 0,I 1, .slice none 0 0,S 154 0 1 1, .slice none 0 0, .string ⟨⟨[119,111,114,107,101,114]⟩⟩,bF,bF,I 1,I 0,I 0,I 40,I 64,I 2,I 5,I 0,I 0, .string ⟨⟨[]⟩⟩,I 0,I 0,I 0, .slice none 0 0, .slice none 0 0, .slice none 0 0]),
 (77,9,[.string ⟨⟨[119,111,114,107,101,114]⟩⟩]),
 (74,89,[I 1,I 0,I 0,I 1,I 0,I 0,I 1,I 0,I 0,I 1,I 0,I 0,I 1,I 0,I 0,I 1,I 0,I 0,I 1,I 0,I 0,I 1,I 0,I 0,I 1,I 0,I 0,I 1,I 0,I 0,I 1,I 0,I 0,I 1,I 0,I 0,I 1,I 0,I 0,I 1,I 0,I 0,I 1,I 0,I 0,I 1,I 0,I 0,I 1,I 0,I 0,I 1,I 0,I 0,I 1,I 0,I 0,I 1,I 0,I 0,I 1,I 0,I 0,I 1,I 0,I 0,I 1,I 0,I 0,I 1,I 0,I 0,I 1,I 0,I 0,I 1,I 0,I 0,I 1,I 0,I 0,I 1,I 0,I 0,I 1,I 0,I 0,I 1,I 0,I 0,I 1,I 0,I 0,I 1,I 0,I 0,I 1,I 0,I 0,I 1,I 0,I 0,I 1,I 0,I 0,I 1,I 0,I 0]),
 (49453,141,[I 1,I 1,I 200,I 100, .slice none 0 0,bF,I 2,I 2,I 200,I 100, .slice none 0 0,bF]),
 (49563,73,[I 1,I 1, .string ⟨⟨[98,97,115,101]⟩⟩,I 384,I 384,I 10,I 0,I 0,I 0,I 0, .slice none 0 0, .slice none 0 0,I 2,I 1, .string ⟨⟨[119,111,114,107,101,114]⟩⟩,I 384,I 128,I 5,I 0,I 0,I 0,I 0, .slice none 0 0, .slice none 0 0,I 3,I 1, .string ⟨⟨[119,111,114,107,101,114]⟩⟩,I 128,I 384,I 5,I 0,I 0,I 0,I 0, .slice none 0 0, .slice none 0 0,I 4,I 2, .string ⟨⟨[98,97,115,101]⟩⟩,I 1152,I 1152,I 10,I 0,I 0,I 0,I 0, .slice none 0 0, .slice none 0 0,I 5,I 2, .string ⟨⟨[119,111,114,107,101,114]⟩⟩,I 1152,I 896,I 5,I 0,I 0,I 0,I 0, .slice none 0 0, .slice none 0 0,I 6,I 2, .string ⟨⟨[119,111,114,107,101,114]⟩⟩,I 896,I 1152,I 5,I 0,I 0,I 0,I 0, .slice none 0 0, .slice none 0 0]),
 (47355,144,[I 1,S 87798 0 36 36, .slice none 0 0,I 2,S 94376 0 36 36, .slice none 0 0]),
 (43899,4,[bT,bT,bT,bT,bF,bF,bT,bT,bT,bT,bT,bF,bT,bT,bT,bT,bF,bF,bT,bT,bT,bT,bF,bF,bF,bT,bF,bF,bF,bF,bF,bF,bF,bF,bF,bF]),
 (47188,4,[bF,bF,bF,bF,bF,bF,bF,bF,bF,bF,bT,bF,bF,bF,bT,bT,bT,bT,bF,bF,bT,bT,bT,bT,bF,bT,bT,bT,bT,bT,bF,bF,bT,bT,bT,bT])]
 old:=[]
 v:=S 112308 0 36 36
 next':=56194
 chg:=[]
 new:=[(56154,4,[bT,bT,bT,bT,bF,bF,bT,bT,bT,bT,bT,bF,bT,bT,bT,bT,bF,bF,bT,bT,bT,bT,bF,bF,bF,bT,bF,bF,bF,bF,bF,bF,bF,bF,bF,bF])]
def JC:vi where
 f:=145
 args:=[.agg ⟨[I 1,I 7,I 0,bT, .int .u64 (.ofNat 16992900253283192625),S 156 0 2 2, .slice none 0 0, .slice none 0 0,I 6,I 6,G 148 0 0 36 36,G 98906 0 0 2 2,G 99126 0 0 6 6, .slice none 0 0,G 94710 0 0 2 2, .slice none 0 0]⟩,I 2]
 next:=56373
 same:=[(78,131,[.string ⟨⟨[98,97,115,101]⟩⟩,bT,bT,I 0,I 1,I 1,I 0,I 0,I 3,I 10,I 0,I 0, .string ⟨⟨[]⟩⟩,I 0,I 0,I 1, .slice none 0 0,S 154 0 1 1, .slice none 0 0, .string ⟨⟨[119,111,114,107,101,114]⟩⟩,bF,bF,I 1,I 0,I 0,I 40,I 64,I 2,I 5,I 0,I 0, .string ⟨⟨[]⟩⟩,I 0,I 0,I 0, .slice none 0 0, .slice none 0 0, .slice none 0 0]),
 (77,9,[.string ⟨⟨[119,111,114,107,101,114]⟩⟩]),
 (74,89,[I 1,I 0,I 0,I 1,I 0,I 0,I 1,I 0,I 0,I 1,I 0,I 0,I 1,I 0,I 0,I 1,I 0,I 0,I 1,I 0,I 0,I 1,I 0,I 0,I 1,I 0,I 0,I 1,I 0,I 0,I 1,I 0,I 0,I 1,I 0,I 0,I 1,I 0,I 0,I 1,I 0,I 0,I 1,I 0,I 0,I 1,I 0,I 0,I 1,I 0,I 0,I 1,I 0,I 0,I 1,I 0,I 0,I 1,I 0,I 0,I 1,I 0,I 0,I 1,I 0,I 0,I 1,I 0,I 0,I 1,I 0,I 0,I 1,I 0,I 0,I 1,I 0,I 0,I 1,I 0,I 0,I 1,I 0,I 0,I 1,I 0,I 0,I 1,I 0,I 0,I 1,I 0,I 0,I 1,I 0,I 0,I 1,I 0,I 0,I 1,I 0,I 0,I 1,I 0,I 0,I 1,I 0,I 0]),
 (49453,141,[I 1,I 1,I 200,I 100, .slice none 0 0,bF,I 2,I 2,I 200,I 100, .slice none 0 0,bF]),
 (49563,73,[I 1,I 1, .string ⟨⟨[98,97,115,101]⟩⟩,I 384,I 384,I 10,I 0,I 0,I 0,I 0, .slice none 0 0, .slice none 0 0,I 2,I 1, .string ⟨⟨[119,111,114,107,101,114]⟩⟩,I 384,I 128,I 5,I 0,I 0,I 0,I 0, .slice none 0 0, .slice none 0 0,I 3,I 1, .string ⟨⟨[119,111,114,107,101,114]⟩⟩,I 128,I 384,I 5,I 0,I 0,I 0,I 0, .slice none 0 0, .slice none 0 0,I 4,I 2, .string ⟨⟨[98,97,115,101]⟩⟩,I 1152,I 1152,I 10,I 0,I 0,I 0,I 0, .slice none 0 0, .slice none 0 0,I 5,I 2, .string ⟨⟨[119,111,114,107,101,114]⟩⟩,I 1152,I 896,I 5,I 0,I 0,I 0,I 0, .slice none 0 0, .slice none 0 0,I 6,I 2, .string ⟨⟨[119,111,114,107,101,114]⟩⟩,I 896,I 1152,I 5,I 0,I 0,I 0,I 0, .slice none 0 0, .slice none 0 0]),
 (47355,144,[I 1,S 87798 0 36 36, .slice none 0 0,I 2,S 94376 0 36 36, .slice none 0 0]),
 (43899,4,[bT,bT,bT,bT,bF,bF,bT,bT,bT,bT,bT,bF,bT,bT,bT,bT,bF,bF,bT,bT,bT,bT,bF,bF,bF,bT,bF,bF,bF,bF,bF,bF,bF,bF,bF,bF]),
 (47188,4,[bF,bF,bF,bF,bF,bF,bF,bF,bF,bF,bT,bF,bF,bF,bT,bT,bT,bT,bF,bF,bT,bT,bT,bT,bF,bT,bT,bT,bT,bT,bF,bF,bT,bT,bT,bT])]
 old:=[]
 v:=S 118964 0 36 36
 next':=59483
 chg:=[]
 new:=[(59482,4,[bF,bF,bF,bF,bF,bF,bF,bF,bF,bF,bT,bF,bF,bF,bT,bT,bT,bT,bF,bF,bT,bT,bT,bT,bF,bT,bT,bT,bT,bT,bF,bF,bT,bT,bT,bT])]
def e12:vi where
 f:=22
 args:=[.agg ⟨[I 1,I 7,I 0,bF, .int .u64 (.ofNat 5592185433959994140),S 156 0 2 2, .slice none 0 0, .slice none 0 0,I 6,I 6,G 148 0 0 36 36,G 94720 0 0 2 2,G 74536 0 0 6 6, .slice none 0 0,G 94710 0 0 2 2, .slice none 0 0]⟩,S 94780 0 1 1, .slice none 0 0]
 next:=47391
 same:=[(78,131,[.string ⟨⟨[98,97,115,101]⟩⟩,bT,bT,I 0,I 1,I 1,I 0,I 0,I 3,I 10,I 0,I 0, .string ⟨⟨[]⟩⟩,I 0,I 0,I 1, .slice none 0 0,S 154 0 1 1, .slice none 0 0, .string ⟨⟨[119,111,114,107,101,114]⟩⟩,bF,bF,I 1,I 0,I 0,I 40,I 64,I 2,I 5,I 0,I 0, .string ⟨⟨[]⟩⟩,I 0,I 0,I 0, .slice none 0 0, .slice none 0 0, .slice none 0 0]),
 (77,9,[.string ⟨⟨[119,111,114,107,101,114]⟩⟩]),
 (74,89,[I 1,I 0,I 0,I 1,I 0,I 0,I 1,I 0,I 0,I 1,I 0,I 0,I 1,I 0,I 0,I 1,I 0,I 0,I 1,I 0,I 0,I 1,I 0,I 0,I 1,I 0,I 0,I 1,I 0,I 0,I 1,I 0,I 0,I 1,I 0,I 0,I 1,I 0,I 0,I 1,I 0,I 0,I 1,I 0,I 0,I 1,I 0,I 0,I 1,I 0,I 0,I 1,I 0,I 0,I 1,I 0,I 0,I 1,I 0,I 0,I 1,I 0,I 0,I 1,I 0,I 0,I 1,I 0,I 0,I 1,I 0,I 0,I 1,I 0,I 0,I 1,I 0,I 0,I 1,I 0,I 0,I 1,I 0,I 0,I 1,I 0,I 0,I 1,I 0,I 0,I 1,I 0,I 0,I 1,I 0,I 0,I 1,I 0,I 0,I 1,I 0,I 0,I 1,I 0,I 0,I 1,I 0,I 0]),
 (47360,141,[I 1,I 1,I 200,I 100, .slice none 0 0,bF,I 2,I 2,I 200,I 100, .slice none 0 0,bF]),
 (37268,73,[I 1,I 1, .string ⟨⟨[98,97,115,101]⟩⟩,I 384,I 384,I 10,I 0,I 0,I 0,I 0, .slice none 0 0, .slice none 0 0,I 2,I 1, .string ⟨⟨[119,111,114,107,101,114]⟩⟩,I 384,I 128,I 5,I 0,I 0,I 0,I 0, .slice none 0 0, .slice none 0 0,I 3,I 1, .string ⟨⟨[119,111,114,107,101,114]⟩⟩,I 128,I 384,I 5,I 0,I 0,I 0,I 0, .slice none 0 0, .slice none 0 0,I 4,I 2, .string ⟨⟨[98,97,115,101]⟩⟩,I 1152,I 1152,I 10,I 0,I 0,I 0,I 0, .slice none 0 0, .slice none 0 0,I 5,I 2, .string ⟨⟨[119,111,114,107,101,114]⟩⟩,I 1152,I 896,I 5,I 0,I 0,I 0,I 0, .slice none 0 0, .slice none 0 0,I 6,I 2, .string ⟨⟨[119,111,114,107,101,114]⟩⟩,I 896,I 1152,I 5,I 0,I 0,I 0,I 0, .slice none 0 0, .slice none 0 0]),
 (47355,144,[I 1,S 87798 0 36 36, .slice none 0 0,I 2,S 94376 0 36 36, .slice none 0 0]),
 (43899,4,[bT,bT,bT,bT,bF,bF,bT,bT,bT,bT,bT,bF,bT,bT,bT,bT,bF,bF,bT,bT,bT,bT,bF,bF,bF,bT,bF,bF,bF,bF,bF,bF,bF,bF,bF,bF]),
 (47188,4,[bF,bF,bF,bF,bF,bF,bF,bF,bF,bF,bT,bF,bF,bF,bT,bT,bT,bT,bF,bF,bT,bT,bT,bT,bF,bT,bT,bT,bT,bT,bF,bF,bT,bT,bT,bT]),
 (47390,63,[I 1,I 10, .slice none 0 0,I 0,I 0,I 0,I 0, .string ⟨⟨[]⟩⟩,bF])]
 old:=[]
 v:= .tuple ⟨[.agg ⟨[I 2,I 7,I 0,bT, .int .u64 (.ofNat 16992900253283192625),S 156 0 2 2, .slice none 0 0, .slice none 0 0,I 6,I 6,G 148 0 0 36 36,G 119310 0 0 2 2,G 99126 0 0 6 6, .slice none 0 0,G 119300 0 0 2 2, .slice none 0 0]⟩, .slice none 0 0,I 0]⟩
 next':=59684
 chg:=[]
 new:=[(59655,141,[I 1,I 1,I 200,I 100, .slice none 0 0,bF,I 2,I 2,I 200,I 100, .slice none 0 0,bF]),
 (49563,73,[I 1,I 1, .string ⟨⟨[98,97,115,101]⟩⟩,I 384,I 384,I 10,I 0,I 0,I 0,I 0, .slice none 0 0, .slice none 0 0,I 2,I 1, .string ⟨⟨[119,111,114,107,101,114]⟩⟩,I 384,I 128,I 5,I 0,I 0,I 0,I 0, .slice none 0 0, .slice none 0 0,I 3,I 1, .string ⟨⟨[119,111,114,107,101,114]⟩⟩,I 128,I 384,I 5,I 0,I 0,I 0,I 0, .slice none 0 0, .slice none 0 0,I 4,I 2, .string ⟨⟨[98,97,115,101]⟩⟩,I 1152,I 1152,I 10,I 0,I 0,I 0,I 0, .slice none 0 0, .slice none 0 0,I 5,I 2, .string ⟨⟨[119,111,114,107,101,114]⟩⟩,I 1152,I 896,I 5,I 0,I 0,I 0,I 0, .slice none 0 0, .slice none 0 0,I 6,I 2, .string ⟨⟨[119,111,114,107,101,114]⟩⟩,I 896,I 1152,I 5,I 0,I 0,I 0,I 0, .slice none 0 0, .slice none 0 0]),
 (59650,144,[I 1,S 112388 0 36 36, .slice none 0 0,I 2,S 118966 0 36 36, .slice none 0 0]),
 (56194,4,[bT,bT,bT,bT,bF,bF,bT,bT,bT,bT,bT,bF,bT,bT,bT,bT,bF,bF,bT,bT,bT,bT,bF,bF,bF,bT,bF,bF,bF,bF,bF,bF,bF,bF,bF,bF]),
 (59483,4,[bF,bF,bF,bF,bF,bF,bF,bF,bF,bF,bT,bF,bF,bF,bT,bT,bT,bT,bF,bF,bT,bT,bT,bT,bF,bT,bT,bT,bT,bT,bF,bF,bT,bT,bT,bT])]
def e13:vi where
 f:=145
 args:=[.agg ⟨[I 2,I 7,I 0,bT, .int .u64 (.ofNat 9946870998896839494),S 156 0 2 2, .slice none 0 0, .slice none 0 0,I 6,I 6,G 148 0 0 36 36,G 119310 0 0 2 2,G 99126 0 0 6 6, .slice none 0 0,G 119300 0 0 2 2, .slice none 0 0]⟩,I 1]
 next:=60997
 same:=[(78,131,[.string ⟨⟨[98,97,115,101]⟩⟩,bT,bT,I 0,I 1,I 1,I 0,I 0,I 3,I 10,I 0,I 0, .string ⟨⟨[]⟩⟩,I 0,I 0,I 1, .slice none 0 0,S 154 0 1 1, .slice none 0 0, .string ⟨⟨[119,111,114,107,101,114]⟩⟩,bF,bF,I 1,I 0,I 0,I 40,I 64,I 2,I 5,I 0,I 0, .string ⟨⟨[]⟩⟩,I 0,I 0,I 0, .slice none 0 0, .slice none 0 0, .slice none 0 0]),
 (77,9,[.string ⟨⟨[119,111,114,107,101,114]⟩⟩]),
 (74,89,[I 1,I 0,I 0,I 1,I 0,I 0,I 1,I 0,I 0,I 1,I 0,I 0,I 1,I 0,I 0,I 1,I 0,I 0,I 1,I 0,I 0,I 1,I 0,I 0,I 1,I 0,I 0,I 1,I 0,I 0,I 1,I 0,I 0,I 1,I 0,I 0,I 1,I 0,I 0,I 1,I 0,I 0,I 1,I 0,I 0,I 1,I 0,I 0,I 1,I 0,I 0,I 1,I 0,I 0,I 1,I 0,I 0,I 1,I 0,I 0,I 1,I 0,I 0,I 1,I 0,I 0,I 1,I 0,I 0,I 1,I 0,I 0,I 1,I 0,I 0,I 1,I 0,I 0,I 1,I 0,I 0,I 1,I 0,I 0,I 1,I 0,I 0,I 1,I 0,I 0,I 1,I 0,I 0,I 1,I 0,I 0,I 1,I 0,I 0,I 1,I 0,I 0,I 1,I 0,I 0,I 1,I 0,I 0]),
 (59655,141,[I 1,I 1,I 200,I 100, .slice none 0 0,bF,I 2,I 2,I 200,I 100, .slice none 0 0,bF]),
 (49563,73,[I 1,I 1, .string ⟨⟨[98,97,115,101]⟩⟩,I 384,I 384,I 10,I 0,I 0,I 0,I 0, .slice none 0 0, .slice none 0 0,I 2,I 1, .string ⟨⟨[119,111,114,107,101,114]⟩⟩,I 384,I 128,I 5,I 0,I 0,I 0,I 0, .slice none 0 0, .slice none 0 0,I 3,I 1, .string ⟨⟨[119,111,114,107,101,114]⟩⟩,I 128,I 384,I 5,I 0,I 0,I 0,I 0, .slice none 0 0, .slice none 0 0,I 4,I 2, .string ⟨⟨[98,97,115,101]⟩⟩,I 1152,I 1152,I 10,I 0,I 0,I 0,I 0, .slice none 0 0, .slice none 0 0,I 5,I 2, .string ⟨⟨[119,111,114,107,101,114]⟩⟩,I 1152,I 896,I 5,I 0,I 0,I 0,I 0, .slice none 0 0, .slice none 0 0,I 6,I 2, .string ⟨⟨[119,111,114,107,101,114]⟩⟩,I 896,I 1152,I 5,I 0,I 0,I 0,I 0, .slice none 0 0, .slice none 0 0]),
 (59650,144,[I 1,S 112388 0 36 36, .slice none 0 0,I 2,S 118966 0 36 36, .slice none 0 0]),
 (56194,4,[bT,bT,bT,bT,bF,bF,bT,bT,bT,bT,bT,bF,bT,bT,bT,bT,bF,bF,bT,bT,bT,bT,bF,bF,bF,bT,bF,bF,bF,bF,bF,bF,bF,bF,bF,bF]),
 (59483,4,[bF,bF,bF,bF,bF,bF,bF,bF,bF,bF,bT,bF,bF,bF,bT,bT,bT,bT,bF,bF,bT,bT,bT,bT,bF,bT,bT,bT,bT,bT,bF,bF,bT,bT,bT,bT])]
 old:=[]
 v:=S 127576 0 36 36
 next':=63828
 chg:=[]
 new:=[(63788,4,[bT,bT,bT,bT,bF,bF,bT,bT,bT,bT,bT,bF,bT,bT,bT,bT,bF,bF,bT,bT,bT,bT,bF,bF,bF,bT,bF,bF,bF,bF,bF,bF,bF,bF,bF,bF])]
def e14:vi where
 f:=145
 args:=[.agg ⟨[I 2,I 7,I 0,bT, .int .u64 (.ofNat 9946870998896839494),S 156 0 2 2, .slice none 0 0, .slice none 0 0,I 6,I 6,G 148 0 0 36 36,G 119310 0 0 2 2,G 99126 0 0 6 6, .slice none 0 0,G 119300 0 0 2 2, .slice none 0 0]⟩,I 2]
 next:=64007
 same:=[(78,131,[.string ⟨⟨[98,97,115,101]⟩⟩,bT,bT,I 0,I 1,I 1,I 0,I 0,I 3,I 10,I 0,I 0, .string ⟨⟨[]⟩⟩,I 0,I 0,I 1, .slice none 0 0,S 154 0 1 1, .slice none 0 0, .string ⟨⟨[119,111,114,107,101,114]⟩⟩,bF,bF,I 1,I 0,I 0,I 40,I 64,I 2,I 5,I 0,I 0, .string ⟨⟨[]⟩⟩,I 0,I 0,I 0, .slice none 0 0, .slice none 0 0, .slice none 0 0]),
 (77,9,[.string ⟨⟨[119,111,114,107,101,114]⟩⟩]),
 (74,89,[I 1,I 0,I 0,I 1,I 0,I 0,I 1,I 0,I 0,I 1,I 0,I 0,I 1,I 0,I 0,I 1,I 0,I 0,I 1,I 0,I 0,I 1,I 0,I 0,I 1,I 0,I 0,I 1,I 0,I 0,I 1,I 0,I 0,I 1,I 0,I 0,I 1,I 0,I 0,I 1,I 0,I 0,I 1,I 0,I 0,I 1,I 0,I 0,I 1,I 0,I 0,I 1,I 0,I 0,I 1,I 0,I 0,I 1,I 0,I 0,I 1,I 0,I 0,I 1,I 0,I 0,I 1,I 0,I 0,I 1,I 0,I 0,I 1,I 0,I 0,I 1,I 0,I 0,I 1,I 0,I 0,I 1,I 0,I 0,I 1,I 0,I 0,I 1,I 0,I 0,I 1,I 0,I 0,I 1,I 0,I 0,I 1,I 0,I 0,I 1,I 0,I 0,I 1,I 0,I 0,I 1,I 0,I 0]),
 (59655,141,[I 1,I 1,I 200,I 100, .slice none 0 0,bF,I 2,I 2,I 200,I 100, .slice none 0 0,bF]),
 (49563,73,[I 1,I 1, .string ⟨⟨[98,97,115,101]⟩⟩,I 384,I 384,I 10,I 0,I 0,I 0,I 0, .slice none 0 0, .slice none 0 0,I 2,I 1, .string ⟨⟨[119,111,114,107,101,114]⟩⟩,I 384,I 128,I 5,I 0,I 0,I 0,I 0, .slice none 0 0, .slice none 0 0,I 3,I 1, .string ⟨⟨[119,111,114,107,101,114]⟩⟩,I 128,I 384,I 5,I 0,I 0,I 0,I 0, .slice none 0 0, .slice none 0 0,I 4,I 2, .string ⟨⟨[98,97,115,101]⟩⟩,I 1152,I 1152,I 10,I 0,I 0,I 0,I 0, .slice none 0 0, .slice none 0 0,I 5,I 2, .string ⟨⟨[119,111,114,107,101,114]⟩⟩,I 1152,I 896,I 5,I 0,I 0,I 0,I 0, .slice none 0 0, .slice none 0 0,I 6,I 2, .string ⟨⟨[119,111,114,107,101,114]⟩⟩,I 896,I 1152,I 5,I 0,I 0,I 0,I 0, .slice none 0 0, .slice none 0 0]),
 (59650,144,[I 1,S 112388 0 36 36, .slice none 0 0,I 2,S 118966 0 36 36, .slice none 0 0]),
 (56194,4,[bT,bT,bT,bT,bF,bF,bT,bT,bT,bT,bT,bF,bT,bT,bT,bT,bF,bF,bT,bT,bT,bT,bF,bF,bF,bT,bF,bF,bF,bF,bF,bF,bF,bF,bF,bF]),
 (59483,4,[bF,bF,bF,bF,bF,bF,bF,bF,bF,bF,bT,bF,bF,bF,bT,bT,bT,bT,bF,bF,bT,bT,bT,bT,bF,bT,bT,bT,bT,bT,bF,bF,bT,bT,bT,bT])]
 old:=[]
 v:=S 134232 0 36 36
 next':=67117
 chg:=[]
 new:=[(67116,4,[bF,bF,bF,bF,bF,bF,bF,bF,bF,bF,bT,bF,bF,bF,bT,bT,bT,bT,bF,bF,bT,bT,bT,bT,bF,bT,bT,bT,bT,bT,bF,bF,bT,bT,bT,bT])]
def e15:vi where
 f:=22
 args:=[.agg ⟨[I 2,I 7,I 0,bT, .int .u64 (.ofNat 16992900253283192625),S 156 0 2 2, .slice none 0 0, .slice none 0 0,I 6,I 6,G 148 0 0 36 36,G 119310 0 0 2 2,G 99126 0 0 6 6, .slice none 0 0,G 119300 0 0 2 2, .slice none 0 0]⟩,S 119372 0 1 1, .slice none 0 0]
 next:=59687
 same:=[(78,131,[.string ⟨⟨[98,97,115,101]⟩⟩,bT,bT,I 0,I 1,I 1,I 0,I 0,I 3,I 10,I 0,I 0, .string ⟨⟨[]⟩⟩,I 0,I 0,I 1, .slice none 0 0,S 154 0 1 1, .slice none 0 0, .string ⟨⟨[119,111,114,107,101,114]⟩⟩,bF,bF,I 1,I 0,I 0,I 40,I 64,I 2,I 5,I 0,I 0, .string ⟨⟨[]⟩⟩,I 0,I 0,I 0, .slice none 0 0, .slice none 0 0, .slice none 0 0]),
 (77,9,[.string ⟨⟨[119,111,114,107,101,114]⟩⟩]),
 (74,89,[I 1,I 0,I 0,I 1,I 0,I 0,I 1,I 0,I 0,I 1,I 0,I 0,I 1,I 0,I 0,I 1,I 0,I 0,I 1,I 0,I 0,I 1,I 0,I 0,I 1,I 0,I 0,I 1,I 0,I 0,I 1,I 0,I 0,I 1,I 0,I 0,I 1,I 0,I 0,I 1,I 0,I 0,I 1,I 0,I 0,I 1,I 0,I 0,I 1,I 0,I 0,I 1,I 0,I 0,I 1,I 0,I 0,I 1,I 0,I 0,I 1,I 0,I 0,I 1,I 0,I 0,I 1,I 0,I 0,I 1,I 0,I 0,I 1,I 0,I 0,I 1,I 0,I 0,I 1,I 0,I 0,I 1,I 0,I 0,I 1,I 0,I 0,I 1,I 0,I 0,I 1,I 0,I 0,I 1,I 0,I 0,I 1,I 0,I 0,I 1,I 0,I 0,I 1,I 0,I 0,I 1,I 0,I 0]),
 (59655,141,[I 1,I 1,I 200,I 100, .slice none 0 0,bF,I 2,I 2,I 200,I 100, .slice none 0 0,bF]),
 (49563,73,[I 1,I 1, .string ⟨⟨[98,97,115,101]⟩⟩,I 384,I 384,I 10,I 0,I 0,I 0,I 0, .slice none 0 0, .slice none 0 0,I 2,I 1, .string ⟨⟨[119,111,114,107,101,114]⟩⟩,I 384,I 128,I 5,I 0,I 0,I 0,I 0, .slice none 0 0, .slice none 0 0,I 3,I 1, .string ⟨⟨[119,111,114,107,101,114]⟩⟩,I 128,I 384,I 5,I 0,I 0,I 0,I 0, .slice none 0 0, .slice none 0 0,I 4,I 2, .string ⟨⟨[98,97,115,101]⟩⟩,I 1152,I 1152,I 10,I 0,I 0,I 0,I 0, .slice none 0 0, .slice none 0 0,I 5,I 2, .string ⟨⟨[119,111,114,107,101,114]⟩⟩,I 1152,I 896,I 5,I 0,I 0,I 0,I 0, .slice none 0 0, .slice none 0 0,I 6,I 2, .string ⟨⟨[119,111,114,107,101,114]⟩⟩,I 896,I 1152,I 5,I 0,I 0,I 0,I 0, .slice none 0 0, .slice none 0 0]),
 (59650,144,[I 1,S 112388 0 36 36, .slice none 0 0,I 2,S 118966 0 36 36, .slice none 0 0]),
 (56194,4,[bT,bT,bT,bT,bF,bF,bT,bT,bT,bT,bT,bF,bT,bT,bT,bT,bF,bF,bT,bT,bT,bT,bF,bF,bF,bT,bF,bF,bF,bF,bF,bF,bF,bF,bF,bF]),
 (59483,4,[bF,bF,bF,bF,bF,bF,bF,bF,bF,bF,bT,bF,bF,bF,bT,bT,bT,bT,bF,bF,bT,bT,bT,bT,bF,bT,bT,bT,bT,bT,bF,bF,bT,bT,bT,bT]),
 (59686,63,[I 1,I 1,S 119370 0 1 1,I 0,I 0,I 0,I 0, .string ⟨⟨[]⟩⟩,bF]),
 (59685,3,[I 2])]
 old:=[]
 v:= .tuple ⟨[.agg ⟨[I 3,I 7,I 0,bT, .int .u64 (.ofNat 9946870998896839494),S 156 0 2 2, .slice none 0 0, .slice none 0 0,I 6,I 6,G 148 0 0 36 36,G 134578 0 0 2 2,G 99126 0 0 6 6, .slice none 0 0,G 134568 0 0 2 2, .slice none 0 0]⟩,G 121968 0 0 1 1,I 0]⟩
 next':=67318
 chg:=[]
 new:=[(67289,141,[I 1,I 1,I 200,I 100, .slice none 0 0,bF,I 2,I 2,I 200,I 100, .slice none 0 0,bF]),
 (67284,144,[I 1,S 127656 0 36 36, .slice none 0 0,I 2,S 134234 0 36 36, .slice none 0 0]),
 (63828,4,[bT,bT,bT,bT,bF,bF,bT,bT,bT,bT,bT,bF,bT,bT,bT,bT,bF,bF,bT,bT,bT,bT,bF,bF,bF,bT,bF,bF,bF,bF,bF,bF,bF,bF,bF,bF]),
 (67117,4,[bF,bF,bF,bF,bF,bF,bF,bF,bF,bF,bT,bF,bF,bF,bT,bT,bT,bT,bF,bF,bT,bT,bT,bT,bF,bT,bT,bT,bT,bT,bF,bF,bT,bT,bT,bT]),
 (60984,66,[I 5,I 1,I 1, .string ⟨⟨[]⟩⟩])]
end dj
