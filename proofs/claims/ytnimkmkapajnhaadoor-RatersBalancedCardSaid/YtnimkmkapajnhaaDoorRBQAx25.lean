import Derived.Test.YtnimkmkapajnhaaDoorRBQAx0
import Derived.Test.YtnimkmkapajnhaaDoorRBQAx2
import Derived.Test.YtnimkmkapajnhaaDoorRBQAx4
import Derived.Test.YtnimkmkapajnhaaDoorRBQAx5
import Derived.Test.YtnimkmkapajnhaaDoorRBQAx7
import Derived.Test.YtnimkmkapajnhaaDoorRBQAx8
import Derived.Test.YtnimkmkapajnhaaDoorRBQAx9
import Derived.Test.YtnimkmkapajnhaaDoorRBQAx24
namespace Go.Proofs.YtnimkmkapajnhaaDoor.QA
open Go.RowKit Go.Proofs.YtnimkmkapajnhaaDoorW.PrintWords Go.Proofs.YtnimkmkapajnhaaDoorW.PrintLast Go.Proofs.YtnimkmkapajnhaaDoorW.PrintMore
attribute [local go_sem] yE yA yI yJ wY wX yC yD
set_option linter.unusedVariables false
set_option linter.unusedSimpArgs false
def U10.f (a0:Int):Option (Int):=some (IntKind.u64.wrap ((IntKind.u64.wrap (a0 * 6364136223846793005))+1442695040888963407))
set_option maxHeartbeats 8000000 in
set_option maxRecDepth 100000 in
theorem U10.calls (a0:Int) (r:Int) (w:World) (h:U10.f a0 = some r) :
  Calls Tryd.prog 87 #[.int .u64 a0] w fun e w'=>e = .returned (.int .u64 r)∧yM w w':=by
 have H:(some (IntKind.u64.wrap ((IntKind.u64.wrap (a0 * 6364136223846793005))+1442695040888963407))) = some r:=h;clear h;obtain rfl:=Option.some.inj H;go_enter Tryd.func87,Tryd.ntmps87
 go_wp2
 go_ret
 exact ⟨zz2,zz9⟩
def U8.f (a0:Int):Option (Int × Int):=(U10.f a0).bind fun t874=>(some ((t874 / 4294967296) % 4294967296,t874))
set_option maxHeartbeats 8000000 in
set_option maxRecDepth 100000 in
theorem U8.calls (a0:Int) (r1:Int) (r2:Int) (w:World) (h:U8.f a0 = some (r1,r2)) :
  Calls Tryd.prog 75 #[.int .u64 a0] w fun e w'=>e = .returned (.tuple #[.int .u32 r1,.int .u64 r2])∧yM w w':=by
 have H:((U10.f a0).bind fun t874=>(some ((t874 / 4294967296) % 4294967296,t874))) = some (r1,r2):=h;clear h;replace H:=zzb H;obtain ⟨t874,A2,H⟩:=H;simp only [Option.some.injEq,Prod.mk.injEq] at H;obtain ⟨rfl,rfl⟩:=H;go_enter Tryd.func75,Tryd.ntmps75
 go_wp2_with (first|((with_reducible refine wI (f:=87) rfl ?_);refine wR (some 6) rfl rfl Tryd.func87 (zz0) rfl #[.int .u64 a0] rfl (zz20) ?_;(with_reducible refine (U10.calls a0 t874 _ A2.out).mono ?_);rintro e w' ⟨rfl,⟨nd,rfl⟩⟩;refine ⟨_,rfl,?_⟩))
 go_ret2
 exact ⟨zz2,zz9⟩
def U7.f (a0:Int) (a1:Int):Option (Int × Int):=if a1 < 1 then (some (0,a0)) else (if a1 > 2147483648 then (some (0,a0)) else ((U8.f a0).bind fun bt875=>(some (wrap64 ((IntKind.u64.wrap ((IntKind.u64.wrap (bt875.1)) * (IntKind.u64.wrap (a1)))) / 4294967296),bt875.2))))
set_option maxHeartbeats 8000000 in
set_option maxRecDepth 100000 in
theorem U7.calls (a0:Int) (a1:Int) (r1:Int) (r2:Int) (w:World) (h:U7.f a0 a1 = some (r1,r2)) :
  Calls Tryd.prog 60 #[.int .u64 a0,.int .i64 a1] w fun e w'=>e = .returned (.tuple #[.int .i64 r1,.int .u64 r2])∧yM w w':=by
 have H:(if a1 < 1 then (some (0,a0)) else (if a1 > 2147483648 then (some (0,a0)) else ((U8.f a0).bind fun bt875=>(some (wrap64 ((IntKind.u64.wrap ((IntKind.u64.wrap (bt875.1)) * (IntKind.u64.wrap (a1)))) / 4294967296),bt875.2))))) = some (r1,r2):=h;clear h;replace H:=zzj H;rcases H with ⟨c3,H⟩|⟨c3,H⟩
 ·have c3b0:=qM c3;clear c3;simp only [Option.some.injEq,Prod.mk.injEq] at H;obtain ⟨rfl,rfl⟩:=H;go_enter Tryd.func60,Tryd.ntmps60
  go_wp2
  go_ret2
  exact ⟨zz2,zz9⟩
 ·have c3b0:=qN c3;clear c3;replace H:=zzj H;rcases H with ⟨c4,H⟩|⟨c4,H⟩
  ·have c4b0:=qM c4;clear c4;simp only [Option.some.injEq,Prod.mk.injEq] at H;obtain ⟨rfl,rfl⟩:=H;go_enter Tryd.func60,Tryd.ntmps60
   go_wp2
   go_ret2
   exact ⟨zz2,zz9⟩
  ·have c4b0:=qN c4;clear c4;replace H:=Option.bind_eq_some_iff.mp H;obtain ⟨⟨t875,t876⟩,A50,H⟩:=H;have A5:=wA.mk A50;clear A50;simp only [Option.some.injEq,Prod.mk.injEq] at H;obtain ⟨rfl,rfl⟩:=H;go_enter Tryd.func60,Tryd.ntmps60
   go_wp2_with (first|((with_reducible refine wI (f:=75) rfl ?_);refine wR (some 17) rfl rfl Tryd.func75 (zz0) rfl #[.int .u64 a0] rfl (zz20) ?_;(with_reducible refine (U8.calls a0 t875 t876 _ A5.out).mono ?_);rintro e w' ⟨rfl,⟨nd,rfl⟩⟩;refine ⟨_,rfl,?_⟩))
   go_ret2
   exact ⟨zz2,zz9⟩
end Go.Proofs.YtnimkmkapajnhaaDoor.QA
