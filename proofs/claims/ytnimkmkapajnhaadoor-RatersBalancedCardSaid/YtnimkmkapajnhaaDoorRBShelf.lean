import Derived.Shelf.Small.Bits
import Derived.Shelf.Strconv.Itoa0
import Derived.Shelf.Strconv.Itoa1
import Derived.Shelf.LaysM
import Derived.Shelf.Strconv.Itoa2
import Derived.Shelf.Slices.Turned
import Derived.Test.YtnimkmkapajnhaaDoorProg
namespace Go.Proofs
open Go.Shelf
def Tryd.lays128_ren:Go.Shelf.Ren:=⟨fun | 128=>88 | n=>n,fun | 51=>79 | 3=>3 | 4=>4 | 46=>100 | 5=>5 | 9=>9 | n=>n,fun | n=>n⟩
theorem Tryd.lays128:Go.Proofs.Lays.n128 Tryd.prog Tryd.lays128_ren:={
  mixed:=by kernel_rfl
  f128:=Tryd.func88.trans (congrArg some (by kernel_rfl))
  t3:=Tryd.underlying3
  a3:=Tryd.isAgg3
  z3:=Tryd.sizeOf3
  v3:=Tryd.zeroValue3
  t4:=Tryd.underlying4
  a4:=Tryd.isAgg4
  z4:=Tryd.sizeOf4
  v4:=Tryd.zeroValue4
  t5:=Tryd.underlying5
  a5:=Tryd.isAgg5
  z5:=Tryd.sizeOf5
  v5:=Tryd.zeroValue5
  t9:=Tryd.underlying9
  a9:=Tryd.isAgg9
  z9:=Tryd.sizeOf9
  v9:=Tryd.zeroValue9
  t46:=Tryd.underlying100
  a46:=Tryd.isAgg100
  z46:=Tryd.sizeOf100
  v46:=Tryd.zeroValue100
  t51:=Tryd.underlying79
  a51:=Tryd.isAgg79
  z51:=Tryd.sizeOf79
  v51:=Tryd.zeroValue79 }
theorem Tryd.bits_Len32 (x:Int) (w:World) (h0:0≤x) (h1:x≤4294967295) :
    Calls Tryd.prog 88 #[.int .u32 x] w fun e w'=>e = .returned (.int .i64 (Lib.bitLen x.toNat))∧w' = w:=Any.bits_Len32 Tryd.lays128 x w h0 h1
def Tryd.lays283_ren:Go.Shelf.Ren:=⟨fun | 283=>97 | n=>n,fun | 3=>3 | 9=>9 | 4=>4 | n=>n,fun | n=>n⟩
theorem Tryd.lays283:Go.Proofs.Lays.n283 Tryd.prog Tryd.lays283_ren:={
  mixed:=by kernel_rfl
  f283:=Tryd.func97.trans (congrArg some (by kernel_rfl))
  t3:=Tryd.underlying3
  a3:=Tryd.isAgg3
  z3:=Tryd.sizeOf3
  v3:=Tryd.zeroValue3
  t4:=Tryd.underlying4
  a4:=Tryd.isAgg4
  z4:=Tryd.sizeOf4
  v4:=Tryd.zeroValue4
  t9:=Tryd.underlying9
  a9:=Tryd.isAgg9
  z9:=Tryd.sizeOf9
  v9:=Tryd.zeroValue9 }
open Go.Lib in
theorem Tryd.internal_strconv_small (i:Nat) (h:i < 100) (w:World) :
    Calls Tryd.prog 97 #[.int .i64 i] w fun e w'=>e = .returned (.string ⟨(Lib.decDigits i).toArray⟩)∧w' = w:=Any.internal_strconv_small Tryd.lays283 i h w
end Go.Proofs
