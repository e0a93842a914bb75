/-
  Proved here: the calls that 'examples' makes, as data. No condition.
-/
import Derived.Test.YtaallgkomohenaaGreatDoorSim3
set_option maxRecDepth 1000000
namespace Go.Proofs.YtaallgkomohenaaGreatDoor.Ex
open Go Go.Sim Go.Proofs
def I (n : Nat) : Value := .int .i64 (.ofNat n)
def bT : Value := .bool true
def bF : Value := .bool false
def A (b o : Nat) : Value := .pointer (some ⟨b, o, none⟩)
def S (b o n c : Nat) : Value := .slice (some ⟨b, o, none⟩) n c
def G (b o k n c : Nat) : Value := .slice (some ⟨b, o, some k⟩) n c
def passableCells : List Value := [bF, bF, bF, bF, bF, bF, bF, bT, bF, bF, bF, bT, bF, bT, bT, bF, bF, bT, bF, bT, bT, bT, bT, bT]
def GV : Nat → Option (List Value) := lookG [(0, passableCells)]
def e0 : Ent where
  f := 141
  args := [.agg ⟨[I 6, I 6, G 148 0 0 36 36]⟩, S 654 0 36 36, I 1, .agg ⟨[I 1, I 1]⟩]
  next := 665
  same := [(74, 53, [I 1, I 0, I 0, I 1, I 0, I 0, I 1, I 0, I 0, I 1, I 0, I 0, I 1, I 0, I 0, I 1, I 0, I 0, I 1, I 0, I 0, I 1, I 0, I 0, I 1, I 0, I 0, I 1, I 0, I 0, I 1, I 0, I 0, I 1, I 0, I 0, I 1, I 0, I 0, I 1, I 0, I 0, I 1, I 0, I 0, I 1, I 0, I 0, I 1, I 0, I 0, I 1, I 0, I 0, I 1, I 0, I 0, I 1, I 0, I 0, I 1, I 0, I 0, I 1, I 0, I 0, I 1, I 0, I 0, I 1, I 0, I 0, I 1, I 0, I 0, I 1, I 0, I 0, I 1, I 0, I 0, I 1, I 0, I 0, I 1, I 0, I 0, I 1, I 0, I 0, I 1, I 0, I 0, I 1, I 0, I 0, I 1, I 0, I 0, I 1, I 0, I 0, I 1, I 0, I 0, I 1, I 0, I 0]),
  (327, 4, [bF, bF, bF, bF, bF, bF, bF, bT, bF, bF, bF, bF, bF, bF, bF, bF, bF, bF, bF, bF, bF, bF, bF, bF, bF, bF, bF, bF, bF, bF, bF, bF, bF, bF, bF, bF])]
  old := []
  v := G 7836 0 0 35 35
  next' := 3920
  chg := []
  new := [(3918, 48, [I 1, I 0, I 0, I 1, I 2, I 1, I 1, I 2, I 0, I 0, I 2, I 0, I 0, I 2, I 2, I 2, I 3, I 1, I 1, I 3, I 3, I 0, I 3, I 2, I 0, I 3, I 2, I 3, I 3, I 3, I 4, I 1, I 1, I 4, I 4, I 0, I 4, I 2, I 0, I 4, I 2, I 4, I 4, I 3, I 3, I 4, I 5, I 1, I 1, I 5, I 4, I 4, I 5, I 0, I 5, I 2, I 0, I 5, I 2, I 5, I 5, I 3, I 3, I 5, I 5, I 4, I 4, I 5, I 5, I 5])]

def e1 : Ent where
  f := 141
  args := [.agg ⟨[I 6, I 6, G 148 0 0 36 36]⟩, S 7956 0 36 36, I 1, .agg ⟨[I 1, I 1]⟩]
  next := 4325
  same := [(74, 53, [I 1, I 0, I 0, I 1, I 0, I 0, I 1, I 0, I 0, I 1, I 0, I 0, I 1, I 0, I 0, I 1, I 0, I 0, I 1, I 0, I 0, I 1, I 0, I 0, I 1, I 0, I 0, I 1, I 0, I 0, I 1, I 0, I 0, I 1, I 0, I 0, I 1, I 0, I 0, I 1, I 0, I 0, I 1, I 0, I 0, I 1, I 0, I 0, I 1, I 0, I 0, I 1, I 0, I 0, I 1, I 0, I 0, I 1, I 0, I 0, I 1, I 0, I 0, I 1, I 0, I 0, I 1, I 0, I 0, I 1, I 0, I 0, I 1, I 0, I 0, I 1, I 0, I 0, I 1, I 0, I 0, I 1, I 0, I 0, I 1, I 0, I 0, I 1, I 0, I 0, I 1, I 0, I 0, I 1, I 0, I 0, I 1, I 0, I 0, I 1, I 0, I 0, I 1, I 0, I 0, I 1, I 0, I 0]),
  (3978, 4, [bF, bF, bF, bF, bF, bF, bF, bT, bF, bF, bF, bF, bF, bF, bF, bF, bF, bF, bF, bF, bF, bF, bF, bF, bF, bF, bF, bF, bF, bF, bF, bF, bF, bF, bF, bF])]
  old := []
  v := G 15156 0 0 35 35
  next' := 7580
  chg := []
  new := [(7578, 48, [I 1, I 0, I 0, I 1, I 2, I 1, I 1, I 2, I 0, I 0, I 2, I 0, I 0, I 2, I 2, I 2, I 3, I 1, I 1, I 3, I 3, I 0, I 3, I 2, I 0, I 3, I 2, I 3, I 3, I 3, I 4, I 1, I 1, I 4, I 4, I 0, I 4, I 2, I 0, I 4, I 2, I 4, I 4, I 3, I 3, I 4, I 5, I 1, I 1, I 5, I 4, I 4, I 5, I 0, I 5, I 2, I 0, I 5, I 2, I 5, I 5, I 3, I 3, I 5, I 5, I 4, I 4, I 5, I 5, I 5])]

def e2 : Ent where
  f := 141
  args := [.agg ⟨[I 6, I 6, G 148 0 0 36 36]⟩, S 16354 0 36 36, I 1, .agg ⟨[I 4, I 4]⟩]
  next := 8864
  same := [(74, 53, [I 1, I 0, I 0, I 1, I 0, I 0, I 1, I 0, I 0, I 1, I 0, I 0, I 1, I 0, I 0, I 1, I 0, I 0, I 1, I 0, I 0, I 1, I 0, I 0, I 1, I 0, I 0, I 1, I 0, I 0, I 1, I 0, I 0, I 1, I 0, I 0, I 1, I 0, I 0, I 1, I 0, I 0, I 1, I 0, I 0, I 1, I 0, I 0, I 1, I 0, I 0, I 1, I 0, I 0, I 1, I 0, I 0, I 1, I 0, I 0, I 1, I 0, I 0, I 1, I 0, I 0, I 1, I 0, I 0, I 1, I 0, I 0, I 1, I 0, I 0, I 1, I 0, I 0, I 1, I 0, I 0, I 1, I 0, I 0, I 1, I 0, I 0, I 1, I 0, I 0, I 1, I 0, I 0, I 1, I 0, I 0, I 1, I 0, I 0, I 1, I 0, I 0, I 1, I 0, I 0, I 1, I 0, I 0]),
  (8177, 4, [bF, bF, bF, bF, bF, bF, bF, bT, bF, bF, bF, bF, bF, bF, bF, bF, bF, bF, bF, bF, bF, bF, bF, bF, bF, bF, bF, bF, bT, bF, bF, bF, bF, bF, bF, bF])]
  old := []
  v := G 33708 0 0 34 34
  next' := 16855
  chg := []
  new := [(16854, 48, [I 4, I 3, I 3, I 4, I 5, I 4, I 4, I 5, I 3, I 3, I 5, I 3, I 3, I 5, I 5, I 5, I 4, I 2, I 2, I 4, I 3, I 2, I 5, I 2, I 2, I 3, I 2, I 5, I 2, I 2, I 4, I 1, I 1, I 4, I 3, I 1, I 5, I 1, I 1, I 3, I 1, I 5, I 2, I 1, I 1, I 2, I 4, I 0, I 0, I 4, I 3, I 0, I 5, I 0, I 0, I 3, I 0, I 5, I 2, I 0, I 0, I 2, I 1, I 0, I 0, I 1, I 0, I 0])]

def e3 : Ent where
  f := 141
  args := [.agg ⟨[I 6, I 6, G 148 0 0 36 36]⟩, S 33980 0 36 36, I 1, .agg ⟨[I 4, I 4]⟩]
  next := 17686
  same := [(74, 53, [I 1, I 0, I 0, I 1, I 0, I 0, I 1, I 0, I 0, I 1, I 0, I 0, I 1, I 0, I 0, I 1, I 0, I 0, I 1, I 0, I 0, I 1, I 0, I 0, I 1, I 0, I 0, I 1, I 0, I 0, I 1, I 0, I 0, I 1, I 0, I 0, I 1, I 0, I 0, I 1, I 0, I 0, I 1, I 0, I 0, I 1, I 0, I 0, I 1, I 0, I 0, I 1, I 0, I 0, I 1, I 0, I 0, I 1, I 0, I 0, I 1, I 0, I 0, I 1, I 0, I 0, I 1, I 0, I 0, I 1, I 0, I 0, I 1, I 0, I 0, I 1, I 0, I 0, I 1, I 0, I 0, I 1, I 0, I 0, I 1, I 0, I 0, I 1, I 0, I 0, I 1, I 0, I 0, I 1, I 0, I 0, I 1, I 0, I 0, I 1, I 0, I 0, I 1, I 0, I 0, I 1, I 0, I 0]),
  (16990, 4, [bF, bF, bF, bF, bF, bF, bF, bT, bF, bF, bF, bF, bF, bF, bF, bF, bF, bF, bF, bF, bF, bF, bF, bF, bF, bF, bF, bF, bT, bF, bF, bF, bF, bF, bF, bF])]
  old := []
  v := G 51352 0 0 34 34
  next' := 25677
  chg := []
  new := [(25676, 48, [I 4, I 3, I 3, I 4, I 5, I 4, I 4, I 5, I 3, I 3, I 5, I 3, I 3, I 5, I 5, I 5, I 4, I 2, I 2, I 4, I 3, I 2, I 5, I 2, I 2, I 3, I 2, I 5, I 2, I 2, I 4, I 1, I 1, I 4, I 3, I 1, I 5, I 1, I 1, I 3, I 1, I 5, I 2, I 1, I 1, I 2, I 4, I 0, I 0, I 4, I 3, I 0, I 5, I 0, I 0, I 3, I 0, I 5, I 2, I 0, I 0, I 2, I 1, I 0, I 0, I 1, I 0, I 0])]

def e4 : Ent where
  f := 40
  args := [.agg ⟨[I 0, I 7, I 0, bF, .int .u64 (.ofNat 12638214688346347271), S 156 0 2 2, .slice none 0 0, .slice none 0 0, I 6, I 6, G 148 0 0 36 36, G 458 0 0 2 2, G 51628 0 0 6 6, .slice none 0 0, G 464 0 0 2 2, .slice none 0 0]⟩, .agg ⟨[I 1, S 450 0 36 36, .slice none 0 0]⟩]
  next := 25817
  same := [(78, 65, [.string ⟨⟨[98, 97, 115, 101]⟩⟩, bT, bT, I 0, I 1, I 1, I 0, I 0, I 3, I 10, I 0, I 0, .string ⟨⟨[]⟩⟩, I 0, I 0, I 1, .slice none 0 0, S 154 0 1 1, .slice none 0 0, .string ⟨⟨[119, 111, 114, 107, 101, 114]⟩⟩, bF, bF, I 1, I 0, I 0, I 40, I 64, I 2, I 5, I 0, I 0, .string ⟨⟨[]⟩⟩, I 0, I 0, I 0, .slice none 0 0, .slice none 0 0, .slice none 0 0]),
  (77, 9, [.string ⟨⟨[119, 111, 114, 107, 101, 114]⟩⟩]),
  (74, 53, [I 1, I 0, I 0, I 1, I 0, I 0, I 1, I 0, I 0, I 1, I 0, I 0, I 1, I 0, I 0, I 1, I 0, I 0, I 1, I 0, I 0, I 1, I 0, I 0, I 1, I 0, I 0, I 1, I 0, I 0, I 1, I 0, I 0, I 1, I 0, I 0, I 1, I 0, I 0, I 1, I 0, I 0, I 1, I 0, I 0, I 1, I 0, I 0, I 1, I 0, I 0, I 1, I 0, I 0, I 1, I 0, I 0, I 1, I 0, I 0, I 1, I 0, I 0, I 1, I 0, I 0, I 1, I 0, I 0, I 1, I 0, I 0, I 1, I 0, I 0, I 1, I 0, I 0, I 1, I 0, I 0, I 1, I 0, I 0, I 1, I 0, I 0, I 1, I 0, I 0, I 1, I 0, I 0, I 1, I 0, I 0, I 1, I 0, I 0, I 1, I 0, I 0, I 1, I 0, I 0, I 1, I 0, I 0]),
  (229, 70, [I 1, I 1, I 200, I 100, .slice none 0 0, bF, I 2, I 2, I 200, I 100, .slice none 0 0, bF]),
  (25814, 132, [I 1, I 1, .string ⟨⟨[98, 97, 115, 101]⟩⟩, I 384, I 384, I 10, I 0, I 0, I 0, I 0, .slice none 0 0, .slice none 0 0, I 2, I 1, .string ⟨⟨[119, 111, 114, 107, 101, 114]⟩⟩, I 384, I 128, I 5, I 0, I 0, I 0, I 0, .slice none 0 0, .slice none 0 0, I 3, I 1, .string ⟨⟨[119, 111, 114, 107, 101, 114]⟩⟩, I 128, I 384, I 5, I 0, I 0, I 0, I 0, .slice none 0 0, .slice none 0 0, I 4, I 2, .string ⟨⟨[98, 97, 115, 101]⟩⟩, I 1152, I 1152, I 10, I 0, I 0, I 0, I 0, .slice none 0 0, .slice none 0 0, I 5, I 2, .string ⟨⟨[119, 111, 114, 107, 101, 114]⟩⟩, I 1152, I 896, I 5, I 0, I 0, I 0, I 0, .slice none 0 0, .slice none 0 0, I 6, I 2, .string ⟨⟨[119, 111, 114, 107, 101, 114]⟩⟩, I 896, I 1152, I 5, I 0, I 0, I 0, I 0, .slice none 0 0, .slice none 0 0]),
  (232, 74, [I 1, S 450 0 36 36, .slice none 0 0, I 2, S 460 0 36 36, .slice none 0 0]),
  (225, 4, [bF, bF, bF, bF, bF, bF, bF, bF, bF, bF, bF, bF, bF, bF, bF, bF, bF, bF, bF, bF, bF, bF, bF, bF, bF, bF, bF, bF, bF, bF, bF, bF, bF, bF, bF, bF]),
  (230, 4, [bF, bF, bF, bF, bF, bF, bF, bF, bF, bF, bF, bF, bF, bF, bF, bF, bF, bF, bF, bF, bF, bF, bF, bF, bF, bF, bF, bF, bF, bF, bF, bF, bF, bF, bF, bF])]
  old := []
  v := .agg ⟨[I 1, G 59800 0 0 36 36, .slice none 0 0]⟩
  next' := 30154
  chg := []
  new := [(29900, 4, [bT, bT, bT, bT, bF, bF, bT, bT, bT, bT, bT, bF, bT, bT, bT, bT, bF, bF, bT, bT, bT, bT, bF, bF, bF, bT, bF, bF, bF, bF, bF, bF, bF, bF, bF, bF])]

def e5 : Ent where
  f := 40
  args := [.agg ⟨[I 0, I 7, I 0, bF, .int .u64 (.ofNat 12638214688346347271), S 156 0 2 2, .slice none 0 0, .slice none 0 0, I 6, I 6, G 148 0 0 36 36, G 458 0 0 2 2, G 51628 0 0 6 6, .slice none 0 0, G 464 0 0 2 2, .slice none 0 0]⟩, .agg ⟨[I 2, S 460 0 36 36, .slice none 0 0]⟩]
  next := 30157
  same := [(78, 65, [.string ⟨⟨[98, 97, 115, 101]⟩⟩, bT, bT, I 0, I 1, I 1, I 0, I 0, I 3, I 10, I 0, I 0, .string ⟨⟨[]⟩⟩, I 0, I 0, I 1, .slice none 0 0, S 154 0 1 1, .slice none 0 0, .string ⟨⟨[119, 111, 114, 107, 101, 114]⟩⟩, bF, bF, I 1, I 0, I 0, I 40, I 64, I 2, I 5, I 0, I 0, .string ⟨⟨[]⟩⟩, I 0, I 0, I 0, .slice none 0 0, .slice none 0 0, .slice none 0 0]),
  (77, 9, [.string ⟨⟨[119, 111, 114, 107, 101, 114]⟩⟩]),
  (74, 53, [I 1, I 0, I 0, I 1, I 0, I 0, I 1, I 0, I 0, I 1, I 0, I 0, I 1, I 0, I 0, I 1, I 0, I 0, I 1, I 0, I 0, I 1, I 0, I 0, I 1, I 0, I 0, I 1, I 0, I 0, I 1, I 0, I 0, I 1, I 0, I 0, I 1, I 0, I 0, I 1, I 0, I 0, I 1, I 0, I 0, I 1, I 0, I 0, I 1, I 0, I 0, I 1, I 0, I 0, I 1, I 0, I 0, I 1, I 0, I 0, I 1, I 0, I 0, I 1, I 0, I 0, I 1, I 0, I 0, I 1, I 0, I 0, I 1, I 0, I 0, I 1, I 0, I 0, I 1, I 0, I 0, I 1, I 0, I 0, I 1, I 0, I 0, I 1, I 0, I 0, I 1, I 0, I 0, I 1, I 0, I 0, I 1, I 0, I 0, I 1, I 0, I 0, I 1, I 0, I 0, I 1, I 0, I 0]),
  (229, 70, [I 1, I 1, I 200, I 100, .slice none 0 0, bF, I 2, I 2, I 200, I 100, .slice none 0 0, bF]),
  (25814, 132, [I 1, I 1, .string ⟨⟨[98, 97, 115, 101]⟩⟩, I 384, I 384, I 10, I 0, I 0, I 0, I 0, .slice none 0 0, .slice none 0 0, I 2, I 1, .string ⟨⟨[119, 111, 114, 107, 101, 114]⟩⟩, I 384, I 128, I 5, I 0, I 0, I 0, I 0, .slice none 0 0, .slice none 0 0, I 3, I 1, .string ⟨⟨[119, 111, 114, 107, 101, 114]⟩⟩, I 128, I 384, I 5, I 0, I 0, I 0, I 0, .slice none 0 0, .slice none 0 0, I 4, I 2, .string ⟨⟨[98, 97, 115, 101]⟩⟩, I 1152, I 1152, I 10, I 0, I 0, I 0, I 0, .slice none 0 0, .slice none 0 0, I 5, I 2, .string ⟨⟨[119, 111, 114, 107, 101, 114]⟩⟩, I 1152, I 896, I 5, I 0, I 0, I 0, I 0, .slice none 0 0, .slice none 0 0, I 6, I 2, .string ⟨⟨[119, 111, 114, 107, 101, 114]⟩⟩, I 896, I 1152, I 5, I 0, I 0, I 0, I 0, .slice none 0 0, .slice none 0 0]),
  (232, 74, [I 1, S 450 0 36 36, .slice none 0 0, I 2, S 460 0 36 36, .slice none 0 0]),
  (225, 4, [bF, bF, bF, bF, bF, bF, bF, bF, bF, bF, bF, bF, bF, bF, bF, bF, bF, bF, bF, bF, bF, bF, bF, bF, bF, bF, bF, bF, bF, bF, bF, bF, bF, bF, bF, bF]),
  (230, 4, [bF, bF, bF, bF, bF, bF, bF, bF, bF, bF, bF, bF, bF, bF, bF, bF, bF, bF, bF, bF, bF, bF, bF, bF, bF, bF, bF, bF, bF, bF, bF, bF, bF, bF, bF, bF])]
  old := []
  v := .agg ⟨[I 2, G 69736 0 0 36 36, .slice none 0 0]⟩
  next' := 35122
  chg := []
  new := [(34868, 4, [bF, bF, bF, bF, bF, bF, bF, bF, bF, bF, bT, bF, bF, bF, bT, bT, bT, bT, bF, bF, bT, bT, bT, bT, bF, bT, bT, bT, bT, bT, bF, bF, bT, bT, bT, bT])]

def e6 : Ent where
  f := 7
  args := []
  next := 0
  same := []
  old := []
  v := .tuple ⟨[.agg ⟨[I 0, I 7, I 0, bF, .int .u64 (.ofNat 12638214688346347271), S 156 0 2 2, .slice none 0 0, .slice none 0 0, I 6, I 6, G 148 0 0 36 36, G 458 0 0 2 2, G 51628 0 0 6 6, .slice none 0 0, G 70246 0 0 2 2, .slice none 0 0]⟩, I 0]⟩
  next' := 35124
  chg := []
  new := [(78, 65, [.string ⟨⟨[98, 97, 115, 101]⟩⟩, bT, bT, I 0, I 1, I 1, I 0, I 0, I 3, I 10, I 0, I 0, .string ⟨⟨[]⟩⟩, I 0, I 0, I 1, .slice none 0 0, S 154 0 1 1, .slice none 0 0, .string ⟨⟨[119, 111, 114, 107, 101, 114]⟩⟩, bF, bF, I 1, I 0, I 0, I 40, I 64, I 2, I 5, I 0, I 0, .string ⟨⟨[]⟩⟩, I 0, I 0, I 0, .slice none 0 0, .slice none 0 0, .slice none 0 0]),
  (77, 9, [.string ⟨⟨[119, 111, 114, 107, 101, 114]⟩⟩]),
  (74, 53, [I 1, I 0, I 0, I 1, I 0, I 0, I 1, I 0, I 0, I 1, I 0, I 0, I 1, I 0, I 0, I 1, I 0, I 0, I 1, I 0, I 0, I 1, I 0, I 0, I 1, I 0, I 0, I 1, I 0, I 0, I 1, I 0, I 0, I 1, I 0, I 0, I 1, I 0, I 0, I 1, I 0, I 0, I 1, I 0, I 0, I 1, I 0, I 0, I 1, I 0, I 0, I 1, I 0, I 0, I 1, I 0, I 0, I 1, I 0, I 0, I 1, I 0, I 0, I 1, I 0, I 0, I 1, I 0, I 0, I 1, I 0, I 0, I 1, I 0, I 0, I 1, I 0, I 0, I 1, I 0, I 0, I 1, I 0, I 0, I 1, I 0, I 0, I 1, I 0, I 0, I 1, I 0, I 0, I 1, I 0, I 0, I 1, I 0, I 0, I 1, I 0, I 0, I 1, I 0, I 0, I 1, I 0, I 0]),
  (229, 70, [I 1, I 1, I 200, I 100, .slice none 0 0, bF, I 2, I 2, I 200, I 100, .slice none 0 0, bF]),
  (25814, 132, [I 1, I 1, .string ⟨⟨[98, 97, 115, 101]⟩⟩, I 384, I 384, I 10, I 0, I 0, I 0, I 0, .slice none 0 0, .slice none 0 0, I 2, I 1, .string ⟨⟨[119, 111, 114, 107, 101, 114]⟩⟩, I 384, I 128, I 5, I 0, I 0, I 0, I 0, .slice none 0 0, .slice none 0 0, I 3, I 1, .string ⟨⟨[119, 111, 114, 107, 101, 114]⟩⟩, I 128, I 384, I 5, I 0, I 0, I 0, I 0, .slice none 0 0, .slice none 0 0, I 4, I 2, .string ⟨⟨[98, 97, 115, 101]⟩⟩, I 1152, I 1152, I 10, I 0, I 0, I 0, I 0, .slice none 0 0, .slice none 0 0, I 5, I 2, .string ⟨⟨[119, 111, 114, 107, 101, 114]⟩⟩, I 1152, I 896, I 5, I 0, I 0, I 0, I 0, .slice none 0 0, .slice none 0 0, I 6, I 2, .string ⟨⟨[119, 111, 114, 107, 101, 114]⟩⟩, I 896, I 1152, I 5, I 0, I 0, I 0, I 0, .slice none 0 0, .slice none 0 0]),
  (35123, 74, [I 1, G 59800 0 0 36 36, .slice none 0 0, I 2, G 69736 0 0 36 36, .slice none 0 0]),
  (29900, 4, [bT, bT, bT, bT, bF, bF, bT, bT, bT, bT, bT, bF, bT, bT, bT, bT, bF, bF, bT, bT, bT, bT, bF, bF, bF, bT, bF, bF, bF, bF, bF, bF, bF, bF, bF, bF]),
  (34868, 4, [bF, bF, bF, bF, bF, bF, bF, bF, bF, bF, bT, bF, bF, bF, bT, bT, bT, bT, bF, bF, bT, bT, bT, bT, bF, bT, bT, bT, bT, bT, bF, bF, bT, bT, bT, bT])]

def e7 : Ent where
  f := 125
  args := [.agg ⟨[I 0, I 7, I 0, bF, .int .u64 (.ofNat 5592185433959994140), S 156 0 2 2, .slice none 0 0, .slice none 0 0, I 6, I 6, G 148 0 0 36 36, G 74334 0 0 2 2, G 74338 0 0 6 6, .slice none 0 0, G 70246 0 0 2 2, .slice none 0 0]⟩, .slice none 0 0]
  next := 37273
  same := [(78, 65, [.string ⟨⟨[98, 97, 115, 101]⟩⟩, bT, bT, I 0, I 1, I 1, I 0, I 0, I 3, I 10, I 0, I 0, .string ⟨⟨[]⟩⟩, I 0, I 0, I 1, .slice none 0 0, S 154 0 1 1, .slice none 0 0, .string ⟨⟨[119, 111, 114, 107, 101, 114]⟩⟩, bF, bF, I 1, I 0, I 0, I 40, I 64, I 2, I 5, I 0, I 0, .string ⟨⟨[]⟩⟩, I 0, I 0, I 0, .slice none 0 0, .slice none 0 0, .slice none 0 0]),
  (77, 9, [.string ⟨⟨[119, 111, 114, 107, 101, 114]⟩⟩]),
  (74, 53, [I 1, I 0, I 0, I 1, I 0, I 0, I 1, I 0, I 0, I 1, I 0, I 0, I 1, I 0, I 0, I 1, I 0, I 0, I 1, I 0, I 0, I 1, I 0, I 0, I 1, I 0, I 0, I 1, I 0, I 0, I 1, I 0, I 0, I 1, I 0, I 0, I 1, I 0, I 0, I 1, I 0, I 0, I 1, I 0, I 0, I 1, I 0, I 0, I 1, I 0, I 0, I 1, I 0, I 0, I 1, I 0, I 0, I 1, I 0, I 0, I 1, I 0, I 0, I 1, I 0, I 0, I 1, I 0, I 0, I 1, I 0, I 0, I 1, I 0, I 0, I 1, I 0, I 0, I 1, I 0, I 0, I 1, I 0, I 0, I 1, I 0, I 0, I 1, I 0, I 0, I 1, I 0, I 0, I 1, I 0, I 0, I 1, I 0, I 0, I 1, I 0, I 0, I 1, I 0, I 0, I 1, I 0, I 0]),
  (37167, 70, [I 1, I 1, I 200, I 100, .slice none 0 0, bF, I 2, I 2, I 200, I 100, .slice none 0 0, bF]),
  (37169, 132, [I 1, I 1, .string ⟨⟨[98, 97, 115, 101]⟩⟩, I 384, I 384, I 10, I 0, I 0, I 0, I 0, .slice none 0 0, .slice none 0 0, I 2, I 1, .string ⟨⟨[119, 111, 114, 107, 101, 114]⟩⟩, I 384, I 128, I 5, I 0, I 0, I 0, I 0, .slice none 0 0, .slice none 0 0, I 3, I 1, .string ⟨⟨[119, 111, 114, 107, 101, 114]⟩⟩, I 128, I 384, I 5, I 0, I 0, I 0, I 0, .slice none 0 0, .slice none 0 0, I 4, I 2, .string ⟨⟨[98, 97, 115, 101]⟩⟩, I 1152, I 1152, I 10, I 0, I 0, I 0, I 0, .slice none 0 0, .slice none 0 0, I 5, I 2, .string ⟨⟨[119, 111, 114, 107, 101, 114]⟩⟩, I 1152, I 896, I 5, I 0, I 0, I 0, I 0, .slice none 0 0, .slice none 0 0, I 6, I 2, .string ⟨⟨[119, 111, 114, 107, 101, 114]⟩⟩, I 896, I 1152, I 5, I 0, I 0, I 0, I 0, .slice none 0 0, .slice none 0 0]),
  (35123, 74, [I 1, G 59800 0 0 36 36, .slice none 0 0, I 2, G 69736 0 0 36 36, .slice none 0 0]),
  (29900, 4, [bT, bT, bT, bT, bF, bF, bT, bT, bT, bT, bT, bF, bT, bT, bT, bT, bF, bF, bT, bT, bT, bT, bF, bF, bF, bT, bF, bF, bF, bF, bF, bF, bF, bF, bF, bF]),
  (34868, 4, [bF, bF, bF, bF, bF, bF, bF, bF, bF, bF, bT, bF, bF, bF, bT, bT, bT, bT, bF, bF, bT, bT, bT, bT, bF, bT, bT, bT, bT, bT, bF, bF, bT, bT, bT, bT])]
  old := []
  v := .agg ⟨[I 0, I 7, I 0, bF, .int .u64 (.ofNat 5592185433959994140), S 156 0 2 2, .slice none 0 0, .slice none 0 0, I 6, I 6, G 148 0 0 36 36, G 74334 0 0 2 2, G 74554 0 0 6 6, .slice none 0 0, G 70246 0 0 2 2, .slice none 0 0]⟩
  next' := 41065
  chg := []
  new := [(37277, 132, [I 1, I 1, .string ⟨⟨[98, 97, 115, 101]⟩⟩, I 384, I 384, I 10, I 0, I 0, I 0, I 0, .slice none 0 0, .slice none 0 0, I 2, I 1, .string ⟨⟨[119, 111, 114, 107, 101, 114]⟩⟩, I 384, I 128, I 5, I 0, I 0, I 0, I 0, .slice none 0 0, .slice none 0 0, I 3, I 1, .string ⟨⟨[119, 111, 114, 107, 101, 114]⟩⟩, I 128, I 384, I 5, I 0, I 0, I 0, I 0, .slice none 0 0, .slice none 0 0, I 4, I 2, .string ⟨⟨[98, 97, 115, 101]⟩⟩, I 1152, I 1152, I 10, I 0, I 0, I 0, I 0, .slice none 0 0, .slice none 0 0, I 5, I 2, .string ⟨⟨[119, 111, 114, 107, 101, 114]⟩⟩, I 1152, I 896, I 5, I 0, I 0, I 0, I 0, .slice none 0 0, .slice none 0 0, I 6, I 2, .string ⟨⟨[119, 111, 114, 107, 101, 114]⟩⟩, I 896, I 1152, I 5, I 0, I 0, I 0, I 0, .slice none 0 0, .slice none 0 0])]

def e8 : Ent where
  f := 252
  args := [.agg ⟨[I 0, I 7, I 0, bF, .int .u64 (.ofNat 5592185433959994140), S 156 0 2 2, .slice none 0 0, .slice none 0 0, I 6, I 6, G 148 0 0 36 36, G 74334 0 0 2 2, G 74554 0 0 6 6, .slice none 0 0, G 70246 0 0 2 2, .slice none 0 0]⟩, .agg ⟨[I 1, G 59800 0 0 36 36, .slice none 0 0]⟩]
  next := 41069
  same := [(78, 65, [.string ⟨⟨[98, 97, 115, 101]⟩⟩, bT, bT, I 0, I 1, I 1, I 0, I 0, I 3, I 10, I 0, I 0, .string ⟨⟨[]⟩⟩, I 0, I 0, I 1, .slice none 0 0, S 154 0 1 1, .slice none 0 0, .string ⟨⟨[119, 111, 114, 107, 101, 114]⟩⟩, bF, bF, I 1, I 0, I 0, I 40, I 64, I 2, I 5, I 0, I 0, .string ⟨⟨[]⟩⟩, I 0, I 0, I 0, .slice none 0 0, .slice none 0 0, .slice none 0 0]),
  (77, 9, [.string ⟨⟨[119, 111, 114, 107, 101, 114]⟩⟩]),
  (74, 53, [I 1, I 0, I 0, I 1, I 0, I 0, I 1, I 0, I 0, I 1, I 0, I 0, I 1, I 0, I 0, I 1, I 0, I 0, I 1, I 0, I 0, I 1, I 0, I 0, I 1, I 0, I 0, I 1, I 0, I 0, I 1, I 0, I 0, I 1, I 0, I 0, I 1, I 0, I 0, I 1, I 0, I 0, I 1, I 0, I 0, I 1, I 0, I 0, I 1, I 0, I 0, I 1, I 0, I 0, I 1, I 0, I 0, I 1, I 0, I 0, I 1, I 0, I 0, I 1, I 0, I 0, I 1, I 0, I 0, I 1, I 0, I 0, I 1, I 0, I 0, I 1, I 0, I 0, I 1, I 0, I 0, I 1, I 0, I 0, I 1, I 0, I 0, I 1, I 0, I 0, I 1, I 0, I 0, I 1, I 0, I 0, I 1, I 0, I 0, I 1, I 0, I 0, I 1, I 0, I 0, I 1, I 0, I 0]),
  (37167, 70, [I 1, I 1, I 200, I 100, .slice none 0 0, bF, I 2, I 2, I 200, I 100, .slice none 0 0, bF]),
  (37277, 132, [I 1, I 1, .string ⟨⟨[98, 97, 115, 101]⟩⟩, I 384, I 384, I 10, I 0, I 0, I 0, I 0, .slice none 0 0, .slice none 0 0, I 2, I 1, .string ⟨⟨[119, 111, 114, 107, 101, 114]⟩⟩, I 384, I 128, I 5, I 0, I 0, I 0, I 0, .slice none 0 0, .slice none 0 0, I 3, I 1, .string ⟨⟨[119, 111, 114, 107, 101, 114]⟩⟩, I 128, I 384, I 5, I 0, I 0, I 0, I 0, .slice none 0 0, .slice none 0 0, I 4, I 2, .string ⟨⟨[98, 97, 115, 101]⟩⟩, I 1152, I 1152, I 10, I 0, I 0, I 0, I 0, .slice none 0 0, .slice none 0 0, I 5, I 2, .string ⟨⟨[119, 111, 114, 107, 101, 114]⟩⟩, I 1152, I 896, I 5, I 0, I 0, I 0, I 0, .slice none 0 0, .slice none 0 0, I 6, I 2, .string ⟨⟨[119, 111, 114, 107, 101, 114]⟩⟩, I 896, I 1152, I 5, I 0, I 0, I 0, I 0, .slice none 0 0, .slice none 0 0]),
  (35123, 74, [I 1, G 59800 0 0 36 36, .slice none 0 0, I 2, G 69736 0 0 36 36, .slice none 0 0]),
  (29900, 4, [bT, bT, bT, bT, bF, bF, bT, bT, bT, bT, bT, bF, bT, bT, bT, bT, bF, bF, bT, bT, bT, bT, bF, bF, bF, bT, bF, bF, bF, bF, bF, bF, bF, bF, bF, bF]),
  (34868, 4, [bF, bF, bF, bF, bF, bF, bF, bF, bF, bF, bT, bF, bF, bF, bT, bT, bT, bT, bF, bF, bT, bT, bT, bT, bF, bT, bT, bT, bT, bT, bF, bF, bT, bT, bT, bT])]
  old := []
  v := .agg ⟨[I 1, S 87816 0 36 36, .slice none 0 0]⟩
  next' := 44072
  chg := []
  new := [(43908, 4, [bT, bT, bT, bT, bF, bF, bT, bT, bT, bT, bT, bF, bT, bT, bT, bT, bF, bF, bT, bT, bT, bT, bF, bF, bF, bT, bF, bF, bF, bF, bF, bF, bF, bF, bF, bF])]

def e9 : Ent where
  f := 252
  args := [.agg ⟨[I 0, I 7, I 0, bF, .int .u64 (.ofNat 5592185433959994140), S 156 0 2 2, .slice none 0 0, .slice none 0 0, I 6, I 6, G 148 0 0 36 36, G 74334 0 0 2 2, G 74554 0 0 6 6, .slice none 0 0, G 70246 0 0 2 2, .slice none 0 0]⟩, .agg ⟨[I 2, G 69736 0 0 36 36, .slice none 0 0]⟩]
  next := 44078
  same := [(78, 65, [.string ⟨⟨[98, 97, 115, 101]⟩⟩, bT, bT, I 0, I 1, I 1, I 0, I 0, I 3, I 10, I 0, I 0, .string ⟨⟨[]⟩⟩, I 0, I 0, I 1, .slice none 0 0, S 154 0 1 1, .slice none 0 0, .string ⟨⟨[119, 111, 114, 107, 101, 114]⟩⟩, bF, bF, I 1, I 0, I 0, I 40, I 64, I 2, I 5, I 0, I 0, .string ⟨⟨[]⟩⟩, I 0, I 0, I 0, .slice none 0 0, .slice none 0 0, .slice none 0 0]),
  (77, 9, [.string ⟨⟨[119, 111, 114, 107, 101, 114]⟩⟩]),
  (74, 53, [I 1, I 0, I 0, I 1, I 0, I 0, I 1, I 0, I 0, I 1, I 0, I 0, I 1, I 0, I 0, I 1, I 0, I 0, I 1, I 0, I 0, I 1, I 0, I 0, I 1, I 0, I 0, I 1, I 0, I 0, I 1, I 0, I 0, I 1, I 0, I 0, I 1, I 0, I 0, I 1, I 0, I 0, I 1, I 0, I 0, I 1, I 0, I 0, I 1, I 0, I 0, I 1, I 0, I 0, I 1, I 0, I 0, I 1, I 0, I 0, I 1, I 0, I 0, I 1, I 0, I 0, I 1, I 0, I 0, I 1, I 0, I 0, I 1, I 0, I 0, I 1, I 0, I 0, I 1, I 0, I 0, I 1, I 0, I 0, I 1, I 0, I 0, I 1, I 0, I 0, I 1, I 0, I 0, I 1, I 0, I 0, I 1, I 0, I 0, I 1, I 0, I 0, I 1, I 0, I 0, I 1, I 0, I 0]),
  (37167, 70, [I 1, I 1, I 200, I 100, .slice none 0 0, bF, I 2, I 2, I 200, I 100, .slice none 0 0, bF]),
  (37277, 132, [I 1, I 1, .string ⟨⟨[98, 97, 115, 101]⟩⟩, I 384, I 384, I 10, I 0, I 0, I 0, I 0, .slice none 0 0, .slice none 0 0, I 2, I 1, .string ⟨⟨[119, 111, 114, 107, 101, 114]⟩⟩, I 384, I 128, I 5, I 0, I 0, I 0, I 0, .slice none 0 0, .slice none 0 0, I 3, I 1, .string ⟨⟨[119, 111, 114, 107, 101, 114]⟩⟩, I 128, I 384, I 5, I 0, I 0, I 0, I 0, .slice none 0 0, .slice none 0 0, I 4, I 2, .string ⟨⟨[98, 97, 115, 101]⟩⟩, I 1152, I 1152, I 10, I 0, I 0, I 0, I 0, .slice none 0 0, .slice none 0 0, I 5, I 2, .string ⟨⟨[119, 111, 114, 107, 101, 114]⟩⟩, I 1152, I 896, I 5, I 0, I 0, I 0, I 0, .slice none 0 0, .slice none 0 0, I 6, I 2, .string ⟨⟨[119, 111, 114, 107, 101, 114]⟩⟩, I 896, I 1152, I 5, I 0, I 0, I 0, I 0, .slice none 0 0, .slice none 0 0]),
  (35123, 74, [I 1, G 59800 0 0 36 36, .slice none 0 0, I 2, G 69736 0 0 36 36, .slice none 0 0]),
  (29900, 4, [bT, bT, bT, bT, bF, bF, bT, bT, bT, bT, bT, bF, bT, bT, bT, bT, bF, bF, bT, bT, bT, bT, bF, bF, bF, bT, bF, bF, bF, bF, bF, bF, bF, bF, bF, bF]),
  (34868, 4, [bF, bF, bF, bF, bF, bF, bF, bF, bF, bF, bT, bF, bF, bF, bT, bT, bT, bT, bF, bF, bT, bT, bT, bT, bF, bT, bT, bT, bT, bT, bF, bF, bT, bT, bT, bT])]
  old := []
  v := .agg ⟨[I 2, S 94394 0 36 36, .slice none 0 0]⟩
  next' := 47363
  chg := []
  new := [(47197, 4, [bF, bF, bF, bF, bF, bF, bF, bF, bF, bF, bT, bF, bF, bF, bT, bT, bT, bT, bF, bF, bT, bT, bT, bT, bF, bT, bT, bT, bT, bT, bF, bF, bT, bT, bT, bT])]

def e10 : Ent where
  f := 125
  args := [.agg ⟨[I 1, I 7, I 0, bF, .int .u64 (.ofNat 16992900253283192625), S 156 0 2 2, .slice none 0 0, .slice none 0 0, I 6, I 6, G 148 0 0 36 36, G 98866 0 0 2 2, G 98870 0 0 6 6, .slice none 0 0, G 94728 0 0 2 2, .slice none 0 0]⟩, .slice none 0 0]
  next := 49539
  same := [(78, 65, [.string ⟨⟨[98, 97, 115, 101]⟩⟩, bT, bT, I 0, I 1, I 1, I 0, I 0, I 3, I 10, I 0, I 0, .string ⟨⟨[]⟩⟩, I 0, I 0, I 1, .slice none 0 0, S 154 0 1 1, .slice none 0 0, .string ⟨⟨[119, 111, 114, 107, 101, 114]⟩⟩, bF, bF, I 1, I 0, I 0, I 40, I 64, I 2, I 5, I 0, I 0, .string ⟨⟨[]⟩⟩, I 0, I 0, I 0, .slice none 0 0, .slice none 0 0, .slice none 0 0]),
  (77, 9, [.string ⟨⟨[119, 111, 114, 107, 101, 114]⟩⟩]),
  (74, 53, [I 1, I 0, I 0, I 1, I 0, I 0, I 1, I 0, I 0, I 1, I 0, I 0, I 1, I 0, I 0, I 1, I 0, I 0, I 1, I 0, I 0, I 1, I 0, I 0, I 1, I 0, I 0, I 1, I 0, I 0, I 1, I 0, I 0, I 1, I 0, I 0, I 1, I 0, I 0, I 1, I 0, I 0, I 1, I 0, I 0, I 1, I 0, I 0, I 1, I 0, I 0, I 1, I 0, I 0, I 1, I 0, I 0, I 1, I 0, I 0, I 1, I 0, I 0, I 1, I 0, I 0, I 1, I 0, I 0, I 1, I 0, I 0, I 1, I 0, I 0, I 1, I 0, I 0, I 1, I 0, I 0, I 1, I 0, I 0, I 1, I 0, I 0, I 1, I 0, I 0, I 1, I 0, I 0, I 1, I 0, I 0, I 1, I 0, I 0, I 1, I 0, I 0, I 1, I 0, I 0, I 1, I 0, I 0]),
  (49433, 70, [I 1, I 1, I 200, I 100, .slice none 0 0, bF, I 2, I 2, I 200, I 100, .slice none 0 0, bF]),
  (49435, 132, [I 1, I 1, .string ⟨⟨[98, 97, 115, 101]⟩⟩, I 384, I 384, I 10, I 0, I 0, I 0, I 0, .slice none 0 0, .slice none 0 0, I 2, I 1, .string ⟨⟨[119, 111, 114, 107, 101, 114]⟩⟩, I 384, I 128, I 5, I 0, I 0, I 0, I 0, .slice none 0 0, .slice none 0 0, I 3, I 1, .string ⟨⟨[119, 111, 114, 107, 101, 114]⟩⟩, I 128, I 384, I 5, I 0, I 0, I 0, I 0, .slice none 0 0, .slice none 0 0, I 4, I 2, .string ⟨⟨[98, 97, 115, 101]⟩⟩, I 1152, I 1152, I 10, I 0, I 0, I 0, I 0, .slice none 0 0, .slice none 0 0, I 5, I 2, .string ⟨⟨[119, 111, 114, 107, 101, 114]⟩⟩, I 1152, I 896, I 5, I 0, I 0, I 0, I 0, .slice none 0 0, .slice none 0 0, I 6, I 2, .string ⟨⟨[119, 111, 114, 107, 101, 114]⟩⟩, I 896, I 1152, I 5, I 0, I 0, I 0, I 0, .slice none 0 0, .slice none 0 0]),
  (47364, 74, [I 1, S 87816 0 36 36, .slice none 0 0, I 2, S 94394 0 36 36, .slice none 0 0]),
  (43908, 4, [bT, bT, bT, bT, bF, bF, bT, bT, bT, bT, bT, bF, bT, bT, bT, bT, bF, bF, bT, bT, bT, bT, bF, bF, bF, bT, bF, bF, bF, bF, bF, bF, bF, bF, bF, bF]),
  (47197, 4, [bF, bF, bF, bF, bF, bF, bF, bF, bF, bF, bT, bF, bF, bF, bT, bT, bT, bT, bF, bF, bT, bT, bT, bT, bF, bT, bT, bT, bT, bT, bF, bF, bT, bT, bT, bT])]
  old := []
  v := .agg ⟨[I 1, I 7, I 0, bF, .int .u64 (.ofNat 16992900253283192625), S 156 0 2 2, .slice none 0 0, .slice none 0 0, I 6, I 6, G 148 0 0 36 36, G 98866 0 0 2 2, G 99086 0 0 6 6, .slice none 0 0, G 94728 0 0 2 2, .slice none 0 0]⟩
  next' := 53331
  chg := []
  new := [(49543, 132, [I 1, I 1, .string ⟨⟨[98, 97, 115, 101]⟩⟩, I 384, I 384, I 10, I 0, I 0, I 0, I 0, .slice none 0 0, .slice none 0 0, I 2, I 1, .string ⟨⟨[119, 111, 114, 107, 101, 114]⟩⟩, I 384, I 128, I 5, I 0, I 0, I 0, I 0, .slice none 0 0, .slice none 0 0, I 3, I 1, .string ⟨⟨[119, 111, 114, 107, 101, 114]⟩⟩, I 128, I 384, I 5, I 0, I 0, I 0, I 0, .slice none 0 0, .slice none 0 0, I 4, I 2, .string ⟨⟨[98, 97, 115, 101]⟩⟩, I 1152, I 1152, I 10, I 0, I 0, I 0, I 0, .slice none 0 0, .slice none 0 0, I 5, I 2, .string ⟨⟨[119, 111, 114, 107, 101, 114]⟩⟩, I 1152, I 896, I 5, I 0, I 0, I 0, I 0, .slice none 0 0, .slice none 0 0, I 6, I 2, .string ⟨⟨[119, 111, 114, 107, 101, 114]⟩⟩, I 896, I 1152, I 5, I 0, I 0, I 0, I 0, .slice none 0 0, .slice none 0 0])]

def e11 : Ent where
  f := 252
  args := [.agg ⟨[I 1, I 7, I 0, bF, .int .u64 (.ofNat 16992900253283192625), S 156 0 2 2, .slice none 0 0, .slice none 0 0, I 6, I 6, G 148 0 0 36 36, G 98866 0 0 2 2, G 99086 0 0 6 6, .slice none 0 0, G 94728 0 0 2 2, .slice none 0 0]⟩, .agg ⟨[I 1, S 87816 0 36 36, .slice none 0 0]⟩]
  next := 53335
  same := [(78, 65, [.string ⟨⟨[98, 97, 115, 101]⟩⟩, bT, bT, I 0, I 1, I 1, I 0, I 0, I 3, I 10, I 0, I 0, .string ⟨⟨[]⟩⟩, I 0, I 0, I 1, .slice none 0 0, S 154 0 1 1, .slice none 0 0, .string ⟨⟨[119, 111, 114, 107, 101, 114]⟩⟩, bF, bF, I 1, I 0, I 0, I 40, I 64, I 2, I 5, I 0, I 0, .string ⟨⟨[]⟩⟩, I 0, I 0, I 0, .slice none 0 0, .slice none 0 0, .slice none 0 0]),
  (77, 9, [.string ⟨⟨[119, 111, 114, 107, 101, 114]⟩⟩]),
  (74, 53, [I 1, I 0, I 0, I 1, I 0, I 0, I 1, I 0, I 0, I 1, I 0, I 0, I 1, I 0, I 0, I 1, I 0, I 0, I 1, I 0, I 0, I 1, I 0, I 0, I 1, I 0, I 0, I 1, I 0, I 0, I 1, I 0, I 0, I 1, I 0, I 0, I 1, I 0, I 0, I 1, I 0, I 0, I 1, I 0, I 0, I 1, I 0, I 0, I 1, I 0, I 0, I 1, I 0, I 0, I 1, I 0, I 0, I 1, I 0, I 0, I 1, I 0, I 0, I 1, I 0, I 0, I 1, I 0, I 0, I 1, I 0, I 0, I 1, I 0, I 0, I 1, I 0, I 0, I 1, I 0, I 0, I 1, I 0, I 0, I 1, I 0, I 0, I 1, I 0, I 0, I 1, I 0, I 0, I 1, I 0, I 0, I 1, I 0, I 0, I 1, I 0, I 0, I 1, I 0, I 0, I 1, I 0, I 0]),
  (49433, 70, [I 1, I 1, I 200, I 100, .slice none 0 0, bF, I 2, I 2, I 200, I 100, .slice none 0 0, bF]),
  (49543, 132, [I 1, I 1, .string ⟨⟨[98, 97, 115, 101]⟩⟩, I 384, I 384, I 10, I 0, I 0, I 0, I 0, .slice none 0 0, .slice none 0 0, I 2, I 1, .string ⟨⟨[119, 111, 114, 107, 101, 114]⟩⟩, I 384, I 128, I 5, I 0, I 0, I 0, I 0, .slice none 0 0, .slice none 0 0, I 3, I 1, .string ⟨⟨[119, 111, 114, 107, 101, 114]⟩⟩, I 128, I 384, I 5, I 0, I 0, I 0, I 0, .slice none 0 0, .slice none 0 0, I 4, I 2, .string ⟨⟨[98, 97, 115, 101]⟩⟩, I 1152, I 1152, I 10, I 0, I 0, I 0, I 0, .slice none 0 0, .slice none 0 0, I 5, I 2, .string ⟨⟨[119, 111, 114, 107, 101, 114]⟩⟩, I 1152, I 896, I 5, I 0, I 0, I 0, I 0, .slice none 0 0, .slice none 0 0, I 6, I 2, .string ⟨⟨[119, 111, 114, 107, 101, 114]⟩⟩, I 896, I 1152, I 5, I 0, I 0, I 0, I 0, .slice none 0 0, .slice none 0 0]),
  (47364, 74, [I 1, S 87816 0 36 36, .slice none 0 0, I 2, S 94394 0 36 36, .slice none 0 0]),
  (43908, 4, [bT, bT, bT, bT, bF, bF, bT, bT, bT, bT, bT, bF, bT, bT, bT, bT, bF, bF, bT, bT, bT, bT, bF, bF, bF, bT, bF, bF, bF, bF, bF, bF, bF, bF, bF, bF]),
  (47197, 4, [bF, bF, bF, bF, bF, bF, bF, bF, bF, bF, bT, bF, bF, bF, bT, bT, bT, bT, bF, bF, bT, bT, bT, bT, bF, bT, bT, bT, bT, bT, bF, bF, bT, bT, bT, bT])]
  old := []
  v := .agg ⟨[I 1, S 112348 0 36 36, .slice none 0 0]⟩
  next' := 56338
  chg := []
  new := [(56174, 4, [bT, bT, bT, bT, bF, bF, bT, bT, bT, bT, bT, bF, bT, bT, bT, bT, bF, bF, bT, bT, bT, bT, bF, bF, bF, bT, bF, bF, bF, bF, bF, bF, bF, bF, bF, bF])]

def e12 : Ent where
  f := 252
  args := [.agg ⟨[I 1, I 7, I 0, bF, .int .u64 (.ofNat 16992900253283192625), S 156 0 2 2, .slice none 0 0, .slice none 0 0, I 6, I 6, G 148 0 0 36 36, G 98866 0 0 2 2, G 99086 0 0 6 6, .slice none 0 0, G 94728 0 0 2 2, .slice none 0 0]⟩, .agg ⟨[I 2, S 94394 0 36 36, .slice none 0 0]⟩]
  next := 56344
  same := [(78, 65, [.string ⟨⟨[98, 97, 115, 101]⟩⟩, bT, bT, I 0, I 1, I 1, I 0, I 0, I 3, I 10, I 0, I 0, .string ⟨⟨[]⟩⟩, I 0, I 0, I 1, .slice none 0 0, S 154 0 1 1, .slice none 0 0, .string ⟨⟨[119, 111, 114, 107, 101, 114]⟩⟩, bF, bF, I 1, I 0, I 0, I 40, I 64, I 2, I 5, I 0, I 0, .string ⟨⟨[]⟩⟩, I 0, I 0, I 0, .slice none 0 0, .slice none 0 0, .slice none 0 0]),
  (77, 9, [.string ⟨⟨[119, 111, 114, 107, 101, 114]⟩⟩]),
  (74, 53, [I 1, I 0, I 0, I 1, I 0, I 0, I 1, I 0, I 0, I 1, I 0, I 0, I 1, I 0, I 0, I 1, I 0, I 0, I 1, I 0, I 0, I 1, I 0, I 0, I 1, I 0, I 0, I 1, I 0, I 0, I 1, I 0, I 0, I 1, I 0, I 0, I 1, I 0, I 0, I 1, I 0, I 0, I 1, I 0, I 0, I 1, I 0, I 0, I 1, I 0, I 0, I 1, I 0, I 0, I 1, I 0, I 0, I 1, I 0, I 0, I 1, I 0, I 0, I 1, I 0, I 0, I 1, I 0, I 0, I 1, I 0, I 0, I 1, I 0, I 0, I 1, I 0, I 0, I 1, I 0, I 0, I 1, I 0, I 0, I 1, I 0, I 0, I 1, I 0, I 0, I 1, I 0, I 0, I 1, I 0, I 0, I 1, I 0, I 0, I 1, I 0, I 0, I 1, I 0, I 0, I 1, I 0, I 0]),
  (49433, 70, [I 1, I 1, I 200, I 100, .slice none 0 0, bF, I 2, I 2, I 200, I 100, .slice none 0 0, bF]),
  (49543, 132, [I 1, I 1, .string ⟨⟨[98, 97, 115, 101]⟩⟩, I 384, I 384, I 10, I 0, I 0, I 0, I 0, .slice none 0 0, .slice none 0 0, I 2, I 1, .string ⟨⟨[119, 111, 114, 107, 101, 114]⟩⟩, I 384, I 128, I 5, I 0, I 0, I 0, I 0, .slice none 0 0, .slice none 0 0, I 3, I 1, .string ⟨⟨[119, 111, 114, 107, 101, 114]⟩⟩, I 128, I 384, I 5, I 0, I 0, I 0, I 0, .slice none 0 0, .slice none 0 0, I 4, I 2, .string ⟨⟨[98, 97, 115, 101]⟩⟩, I 1152, I 1152, I 10, I 0, I 0, I 0, I 0, .slice none 0 0, .slice none 0 0, I 5, I 2, .string ⟨⟨[119, 111, 114, 107, 101, 114]⟩⟩, I 1152, I 896, I 5, I 0, I 0, I 0, I 0, .slice none 0 0, .slice none 0 0, I 6, I 2, .string ⟨⟨[119, 111, 114, 107, 101, 114]⟩⟩, I 896, I 1152, I 5, I 0, I 0, I 0, I 0, .slice none 0 0, .slice none 0 0]),
  (47364, 74, [I 1, S 87816 0 36 36, .slice none 0 0, I 2, S 94394 0 36 36, .slice none 0 0]),
  (43908, 4, [bT, bT, bT, bT, bF, bF, bT, bT, bT, bT, bT, bF, bT, bT, bT, bT, bF, bF, bT, bT, bT, bT, bF, bF, bF, bT, bF, bF, bF, bF, bF, bF, bF, bF, bF, bF]),
  (47197, 4, [bF, bF, bF, bF, bF, bF, bF, bF, bF, bF, bT, bF, bF, bF, bT, bT, bT, bT, bF, bF, bT, bT, bT, bT, bF, bT, bT, bT, bT, bT, bF, bF, bT, bT, bT, bT])]
  old := []
  v := .agg ⟨[I 2, S 118926 0 36 36, .slice none 0 0]⟩
  next' := 59629
  chg := []
  new := [(59463, 4, [bF, bF, bF, bF, bF, bF, bF, bF, bF, bF, bT, bF, bF, bF, bT, bT, bT, bT, bF, bF, bT, bT, bT, bT, bF, bT, bT, bT, bT, bT, bF, bF, bT, bT, bT, bT])]


end Go.Proofs.YtaallgkomohenaaGreatDoor.Ex
