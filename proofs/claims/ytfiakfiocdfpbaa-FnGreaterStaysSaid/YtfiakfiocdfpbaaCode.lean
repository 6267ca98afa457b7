/- The code of the functions that the laws reach, for the evaluator. -/
import Derived.Test.YtfiakfiocdfpbaaNat0
import Derived.KernelRfl
set_option linter.unusedVariables false
namespace Go.Proofs.Ytfiakfiocdfpbaa.VS
@[simp] abbrev z0(a b:Nat):VOper:=⟨some a,.move (.t b),none,[]⟩
@[simp] abbrev z1(a b c:Nat):VOper:=⟨some a,.fieldAddr b (.t c),none,[]⟩
@[simp] abbrev z2(a b c:Nat):VOper:=⟨some a,.load false b (.t c),none,[]⟩
@[simp] abbrev z3(a b c:Nat):VOper:=⟨some a,.load true b (.t c),none,[]⟩
@[simp] abbrev z4(a:Nat)(b:Int):VOper:=⟨some a,.move (.c (.d (.int .i64 b))),none,[]⟩
@[simp] abbrev z5(a b c d:Nat)(e:List Nat):VOper:=⟨some a,.indexAddr b none (.t c) (.t d),none,e⟩
@[simp] abbrev z6(a b:Nat)(c:Int):VOper:=⟨some a,.bin .add (.t b) (.c (.d (.int .i64 c))),none,[]⟩
@[simp] abbrev z7(a:Nat):VOper:=⟨some a,.move (.c (.d (.bool false))),none,[]⟩
@[simp] abbrev z8(a b c:Nat):VOper:=⟨none,.store false a (.t b) (.t c),none,[]⟩
@[simp] abbrev z9(a b:Nat)(c d:Int):VOper:=⟨some a,.alloc b [.int .i64 c,.int .i64 d,.sl .nil []],none,[]⟩
@[simp] abbrev zA(a b c:Nat):VOper:=⟨some a,.pick (.t b) (.t c) (.c (.d (.bool false))),none,[]⟩
@[simp] abbrev zB(a b c:Nat):VOper:=⟨some a,.bin .lss (.t b) (.t c),none,[]⟩
@[simp] abbrev zC(a b:Nat):VOper:=⟨some a,.len false (.t b),none,[]⟩
@[simp] abbrev zD(a b c:Nat)(d:List Nat):VOper:=⟨some a,.load false b (.t c),none,d⟩
@[simp] abbrev zE(a b c d:Nat):VOper:=⟨some a,.call true (.c (.fn b [])) [.t c,.t d],none,[]⟩
@[simp] abbrev zF(a b c d:Nat)(e:List Nat):VOper:=⟨some a,.call true (.c (.fn b [])) [.t c,.t d],none,e⟩
@[simp] abbrev zG(a b c:Nat):VOper:=⟨some a,.move (.t b),some (c,true),[]⟩
@[simp] abbrev zH(a b c d:Nat)(e:List Nat):VOper:=⟨some a,.load false b (.t c),some (d,true),e⟩
@[simp] abbrev zI(a b c:Nat)(d:List Nat):VOper:=⟨some a,.load true b (.t c),none,d⟩
@[simp] abbrev zJ(a b c d:Nat)(e:List Nat):VOper:=⟨some a,.fieldAddr b (.t c),some (d,true),e⟩
@[simp] abbrev zK(a b c:Nat)(d:List Nat):VOper:=⟨some a,.move (.t b),some (c,false),d⟩
@[simp] abbrev zL(a b c:Nat):VOper:=⟨some a,.call true (.c (.fn b [])) [.t c],none,[]⟩
@[simp] abbrev zM(a b:Nat)(c:List Nat):VOper:=⟨some a,.move (.t b),none,c⟩
@[simp] abbrev zN(a b c:Nat):VOper:=⟨some a,.box b (.t c),none,[]⟩
@[simp] abbrev zO(a b c:Nat):VOper:=⟨some a,.move (.t b),some (c,false),[]⟩
@[simp] abbrev zP(a b c d:Nat):VOper:=⟨some a,.indexAddr b none (.t c) (.t d),none,[]⟩
@[simp] abbrev zQ(a b c:Nat)(d:List Nat):VOper:=⟨some a,.move (.t b),some (c,true),d⟩
@[simp] abbrev zR(a b c:Nat)(d:List Nat):VOper:=⟨some a,.pick (.t b) (.c (.d (.bool true))) (.t c),none,d⟩
@[simp] abbrev zS(a b c d:Nat)(e:List Nat):VOper:=⟨some a,.fieldAddr b (.t c),some (d,false),e⟩
@[simp] abbrev zT(a b c d:Nat)(e:List Nat):VOper:=⟨some a,.load false b (.t c),some (d,false),e⟩
@[simp] abbrev zU(a b c d:Nat)(e:List Nat):VOper:=⟨some a,.pick (.t b) (.t c) (.c (.d (.bool false))),some (d,false),e⟩
@[simp] abbrev zV(a b c:Nat):VOper:=⟨some a,.pick (.t b) (.c (.d (.bool true))) (.t c),none,[]⟩
@[simp] abbrev zW(a b c:Nat)(d:List Nat):VOper:=⟨none,.store false a (.t b) (.t c),none,d⟩
@[simp] abbrev zX(a b c d e:Nat)(f:List Nat):VOper:=⟨some a,.indexAddr b none (.t c) (.t d),some (e,true),f⟩
@[simp] abbrev zY(a b c d:Nat):VOper:=⟨some a,.call false (.c (.fn b [])) [.t c,.t d],none,[]⟩
@[simp] abbrev zZ(a b:Nat)(c:Int):VOper:=⟨some a,.bin .eql (.t b) (.c (.d (.int .i64 c))),none,[]⟩
@[simp] abbrev za(a:Nat):VOper:=⟨some a,.move (.c (.d (.sl .nil []))),none,[]⟩
@[simp] abbrev zb(a b c d:Nat):VOper:=⟨some a,.load false b (.t c),some (d,true),[]⟩
@[simp] abbrev zc(a b c:Nat)(d:List Nat):VOper:=⟨some a,.fieldAddr b (.t c),none,d⟩
@[simp] abbrev zd(a b c:Nat):VOper:=⟨some a,.bin .add (.t b) (.t c),none,[]⟩
@[simp] abbrev ze(a b c d:Nat):VOper:=⟨some a,.pick (.t b) (.t c) (.c (.d (.bool false))),some (d,false),[]⟩
@[simp] abbrev zf(a b c d:Nat):VOper:=⟨some a,.fieldAddr b (.t c),some (d,true),[]⟩
@[simp] abbrev zg(a b c:Nat)(d:Int):VOper:=⟨some a,.call false (.c (.fn b [])) [.t c,.c (.d (.int .i64 d))],none,[]⟩
@[simp] abbrev zh(a b c d:Nat)(e:List Nat):VOper:=⟨some a,.load true b (.t c),some (d,true),e⟩
@[simp] abbrev zi(a b c d e:Nat)(f:List Nat):VOper:=⟨some a,.indexAddr b none (.t c) (.t d),some (e,false),f⟩
@[simp] abbrev zj(a b c d e:Nat):VOper:=⟨some a,.append b c (.t d) (.t e),none,[]⟩
@[simp] abbrev zk(a b:Nat)(c d:Int)(e f g:Nat):VOper:=⟨some a,.buildSlice b (.agg [.int .i64 c,.int .i64 d,.sl .nil []]) e [(f,.t g)],none,[]⟩
@[simp] abbrev zl(a b:Nat)(c:Int):VOper:=⟨some a,.bin .sub (.t b) (.c (.d (.int .i64 c))),none,[]⟩
@[simp] abbrev zm(a b c:Nat)(d e:Int):VOper:=⟨some a,.call true (.c (.fn b [])) [.t c,.c (.d (.int .i64 d)),.c (.d (.int .i64 e))],none,[]⟩
@[simp] abbrev zn(a b c d:Nat):VOper:=⟨some a,.load true b (.t c),some (d,true),[]⟩
@[simp] abbrev zo(a b:Nat)(c:Int)(d:List Nat):VOper:=⟨some a,.bin .sub (.t b) (.c (.d (.int .i64 c))),none,d⟩
@[simp] abbrev zp(a b:Nat)(c:List Nat):VOper:=⟨some a,.nilCheck (.t b),none,c⟩
@[simp] abbrev zq(a b c d e f g:Nat):VOper:=⟨some a,.call false (.c (.fn b [])) [.t c,.t d,.t e,.t f,.t g],none,[]⟩
@[simp] abbrev zr(a b:Nat)(c:Int)(d:Nat)(e:List Nat):VOper:=⟨some a,.bin .sub (.t b) (.c (.d (.int .i64 c))),some (d,true),e⟩
@[simp] abbrev zs(a b c:Nat):VOper:=⟨some a,.bin .sub (.t b) (.t c),none,[]⟩
@[simp] abbrev zt(a b c d:Nat):VOper:=⟨some a,.call true (.c (.fn b [])) [.t c],some (d,true),[]⟩
@[simp] abbrev zu(a b c d:Nat):VOper:=⟨some a,.load false b (.t c),some (d,false),[]⟩
@[simp] abbrev zv(a b c d e:Nat):VOper:=⟨some a,.call true (.c (.fn b [])) [.t c,.t d],some (e,false),[]⟩
@[simp] abbrev zw(a b c d:Nat):VOper:=⟨some a,.fieldAddr b (.t c),some (d,false),[]⟩
@[simp] abbrev zx(a b c d e:Nat)(f:List Nat):VOper:=⟨some a,.call true (.c (.fn b [])) [.t c,.t d,.t e],none,f⟩
@[simp] abbrev zy(a b c:Nat):VOper:=⟨some a,.call false (.c (.fn b [])) [.t c],none,[]⟩
@[simp] abbrev zz(a b:Nat)(c:List Nat):VOper:=⟨some a,.not (.t b),none,c⟩
@[simp] abbrev z00(a b:Nat)(c:Int)(d:Nat)(e:List Nat):VOper:=⟨some a,.bin .gtr (.t b) (.c (.d (.int .i64 c))),some (d,false),e⟩
@[simp] abbrev z01(a b:Nat)(c:Int)(d:Nat)(e:List Nat):VOper:=⟨some a,.bin .lss (.t b) (.c (.d (.int .i64 c))),some (d,true),e⟩
@[simp] abbrev z02(a b c:Nat)(d:List Nat):VOper:=⟨some a,.bin .add (.t b) (.t c),none,d⟩
@[simp] abbrev z03(a b c:Nat):VOper:=⟨some a,.extract (.t b) c,none,[]⟩
@[simp] abbrev z04(a b c d e:Nat)(f:List Nat):VOper:=⟨some a,.call true (.c (.fn b [])) [.t c,.t d],some (e,true),f⟩
@[simp] abbrev z05(a b c:Nat)(d:List Nat):VOper:=⟨some a,.pick (.t b) (.t c) (.c (.d (.bool false))),none,d⟩
@[simp] abbrev z06(a b:Nat)(c:Int):VOper:=⟨some a,.bin .mul (.t b) (.c (.d (.int .i64 c))),none,[]⟩
@[simp] abbrev z07(a:Nat):VOper:=⟨some a,.move (.c (.d (.bool true))),none,[]⟩
@[simp] abbrev z08(a b:Nat)(c:Int)(d:List Nat):VOper:=⟨some a,.bin .lss (.t b) (.c (.d (.int .i64 c))),none,d⟩
@[simp] abbrev z09(a:Nat):VOper:=⟨some a,.move (.c (.d (.int .i64 (-1)))),none,[]⟩
@[simp] abbrev z0A(a b:Nat)(c d:Int)(e:Nat):VOper:=⟨some a,.buildSlice b (.agg [.int .i64 c,.int .i64 d,.sl .nil []]) e [],none,[]⟩
@[simp] abbrev z0B(a b c:Nat)(d:List Nat):VOper:=⟨some a,.len false (.t b),some (c,true),d⟩
@[simp] abbrev z0C(a b:Nat)(c:List Nat):VOper:=⟨some a,.len false (.t b),none,c⟩
@[simp] abbrev z0D(a b:Nat)(c:Int):VOper:=⟨some a,.bin .gtr (.t b) (.c (.d (.int .i64 c))),none,[]⟩
@[simp] abbrev z0E(a b:Nat):VOper:=⟨some a,.call true (.c (.fn b [])) [],none,[]⟩
@[simp] abbrev z0F(a b c:Nat)(d:List Nat):VOper:=⟨some a,.bin .lss (.t b) (.t c),none,d⟩
@[simp] abbrev z0G(a b c:Nat):VOper:=⟨some a,.bin .gtr (.t b) (.t c),none,[]⟩
@[simp] abbrev z0H(a b:Nat)(c d:Int)(e f:Nat)(g h:Int):VOper:=⟨some a,.buildSlice b (.agg [.int .i64 c,.int .i64 d,.sl .nil []]) e [(f,.c (.d (.agg [.int .i64 g,.int .i64 h,.sl .nil []])))],none,[]⟩
@[simp] abbrev z0I(a b c d:Nat)(e:Int):VOper:=⟨some a,.indexAddr b (some c) (.t d) (.c (.d (.int .i64 e))),none,[]⟩
@[simp] abbrev z0J(a b c:Nat)(d:List Nat):VOper:=⟨some a,.not (.t b),some (c,false),d⟩
@[simp] abbrev z0K(a b:Nat):VOper:=⟨some a,.nilCheck (.t b),none,[]⟩
@[simp] abbrev z0L(a b:Nat)(c:Int)(d:Nat):VOper:=⟨some a,.bin .eql (.t b) (.c (.d (.int .i64 c))),some (d,true),[]⟩
@[simp] abbrev z0M(a b c d:Nat):VOper:=⟨some a,.bin .leq (.t b) (.c (.d (.int .u8 c))),some (d,true),[]⟩
@[simp] abbrev z0N(a b c d:Nat)(e:List Nat):VOper:=⟨some a,.pick (.t b) (.c (.d (.bool true))) (.t c),some (d,true),e⟩
@[simp] abbrev z0O(a b c:Nat):VOper:=⟨some a,.not (.t b),some (c,false),[]⟩
@[simp] abbrev z0P(a b:Nat):VOper:=⟨some a,.bin .eql (.t b) (.c (.d (.int .i64 (-1)))),none,[]⟩
@[simp] abbrev z0Q(a b c:Nat):VOper:=⟨some a,.len false (.t b),some (c,true),[]⟩
@[simp] abbrev z0R(a b:Nat)(c:Int)(d:Nat)(e:List Nat):VOper:=⟨some a,.bin .neq (.t b) (.c (.d (.int .i64 c))),some (d,false),e⟩
@[simp] abbrev z0S(a b:Nat):VOper:=⟨some a,.not (.t b),none,[]⟩
@[simp] abbrev z0T(a b c d:Nat)(e:List Nat):VOper:=⟨some a,.call false (.t b) [.t c,.t d],none,e⟩
@[simp] abbrev z0U(a b c d e:Nat):VOper:=⟨some a,.call true (.c (.fn b [])) [.t c,.t d],some (e,true),[]⟩
@[simp] abbrev z0V(a b c d e:Nat)(f:List Nat):VOper:=⟨some a,.call true (.c (.fn b [])) [.t c,.t d],some (e,false),f⟩
@[simp] abbrev z0W(a b c:Nat):VOper:=⟨some a,.bin .neq (.t b) (.t c),none,[]⟩
@[simp] abbrev z0X(a b:Nat)(c:Int)(d:Nat):VOper:=⟨some a,.buildSlice b (.int .i64 c) d [],none,[]⟩
@[simp] abbrev z0Y(a b:Nat)(c:Int):VOper:=⟨some a,.bin .lss (.t b) (.c (.d (.int .i64 c))),none,[]⟩
@[simp] abbrev z0Z(a b c:Nat):VOper:=⟨some a,.bin .shr (.t b) (.c (.d (.int .u64 c))),none,[]⟩
@[simp] abbrev z0a(a b c d:Nat):VOper:=⟨some a,.callS b (.c (.fn c [])) [.t d],none,[]⟩
@[simp] abbrev z0b(a:Nat)(b c:Int)(d e f g h i:Nat):VOper:=⟨some a,.build [.int .i64 b,.int .i64 c,.sl .nil []] [(d,e,.t f),(g,h,.t i)],none,[]⟩
@[simp] abbrev z0c(a b c:Nat)(d:List Nat):VOper:=⟨some a,.bin .shr (.t b) (.c (.d (.int .u64 c))),none,d⟩
@[simp] abbrev z0d(a b:Nat)(c:Int)(d:List Nat):VOper:=⟨some a,.bin .and (.t b) (.c (.d (.int .i64 c))),none,d⟩
@[simp] abbrev z0e(a b:Nat)(c:Int)(d:List Nat):VOper:=⟨some a,.bin .add (.t b) (.c (.d (.int .i64 c))),none,d⟩
@[simp] abbrev z0f(a b c:Nat)(d:Int)(e:Nat):VOper:=⟨some a,.indexAddr b none (.t c) (.c (.d (.int .i64 d))),some (e,true),[]⟩
@[simp] abbrev z0g(a b:Nat):VOper:=⟨some a,.conv (.kind .i64) (.t b),none,[]⟩
@[simp] abbrev z0h(a b c d e:Nat):VOper:=⟨some a,.indexAddr b none (.t c) (.t d),some (e,true),[]⟩
@[simp] abbrev z0i(a b c:Nat)(d e:Int)(f:Nat):VOper:=⟨some a,.call true (.c (.fn b [])) [.t c,.c (.d (.int .i64 d)),.c (.d (.int .i64 e))],some (f,false),[]⟩
@[simp] abbrev z0j(a:Nat)(b c:Int)(d e f g h:Nat):VOper:=⟨some a,.build [.int .i64 b,.int .i64 c,.sl .nil []] [(d,e,.c (.d (.int .i64 (-1)))),(f,g,.t h)],none,[]⟩
@[simp] abbrev z0k(a b:Nat)(c:Int)(d:Nat):VOper:=⟨some a,.bin .gtr (.t b) (.c (.d (.int .i64 c))),some (d,true),[]⟩
@[simp] abbrev z0l(a b c:Nat):VOper:=⟨some a,.bin .eql (.t b) (.t c),none,[]⟩
@[simp] abbrev z0m(a b c d:Nat):VOper:=⟨some a,.bin .neq (.t b) (.t c),some (d,false),[]⟩
@[simp] abbrev z0n(a:Nat)(b c:Int)(d e f g h i:Nat):VOper:=⟨some a,.build [.int .i64 b,.int .i64 c] [(d,e,.t f),(g,h,.t i)],none,[]⟩
@[simp] abbrev z0o(a b c d:Nat):VOper:=⟨some a,.bin .lss (.t b) (.t c),some (d,true),[]⟩
@[simp] abbrev z0p(a b c:Nat)(d:List Nat):VOper:=⟨some a,.call true (.c (.fn b [])) [.t c],none,d⟩
@[simp] abbrev z0q(a b c d:Nat):VOper:=⟨some a,.index (.t b) (.t c),some (d,true),[]⟩
@[simp] abbrev z0r(a b c d:Nat)(e:List Nat):VOper:=⟨some a,.bin .neq (.t b) (.t c),some (d,true),e⟩
@[simp] abbrev z0s(a b c d:Nat)(e:List Nat):VOper:=⟨some a,.bin .eql (.t b) (.t c),some (d,true),e⟩
@[simp] abbrev z0t(a b c d e:Nat):VOper:=⟨some a,.call false (.c (.fn b [])) [.t c,.t d,.t e],none,[]⟩
@[simp] abbrev z0u(a b:Nat):VOper:=⟨some a,.conv (.kind .u64) (.t b),none,[]⟩
@[simp] abbrev z0v(a b c d:Nat):VOper:=⟨some a,.load true b (.t c),some (d,false),[]⟩
@[simp] abbrev z0w(a b c:Nat):VOper:=⟨some a,.bin .geq (.t b) (.c (.d (.int .u8 c))),none,[]⟩
@[simp] abbrev z0x(a b c d e:Nat):VOper:=⟨some a,.call true (.c (.fn b [])) [.t c,.t d,.t e],none,[]⟩
@[simp] abbrev z0y(a b c:Nat):VOper:=⟨some a,.makeFunc b [.t c],none,[]⟩
@[simp] abbrev z0z(a b c:Nat):VOper:=⟨some a,.call false (.t b) [.t c],none,[]⟩
@[simp] abbrev z10(a b c d e:Nat):VOper:=⟨some a,.indexAddr b none (.t c) (.t d),some (e,false),[]⟩
@[simp] abbrev z11(a b c d:Nat)(e:List Nat):VOper:=⟨some a,.load true b (.t c),some (d,false),e⟩
@[simp] abbrev z12(a b c:Nat)(d:List Nat):VOper:=⟨none,.store true a (.t b) (.t c),none,d⟩
@[simp] abbrev z13(a b c d:Nat)(e:List Nat):VOper:=⟨none,.storeN a (.t b) (.t c) [d],none,e⟩
@[simp] abbrev z14(a b c d:Nat):VOper:=⟨some a,.bin .eql (.t b) (.t c),some (d,true),[]⟩
@[simp] abbrev z15(a b:Nat):VOper:=⟨some a,.len true (.t b),none,[]⟩
@[simp] abbrev z16(a b c d:Nat)(e:List Nat):VOper:=⟨some a,.loadS false b (.t c) d,none,e⟩
@[simp] abbrev yR(a:Nat)(b:List Nat)(c:List VOper):VCode:= .region false a b c
@[simp] abbrev yT(a:Nat)(b:List Nat)(c:List VOper):VCode:= .region true a b c
def qL1:List VOper:=[zN 2 0 0,zN 3 1 1,z7 4]
def qL0:List VOper:=[z1 6 0 2,z2 7 1 6,z1 8 0 3,z2 9 1 8,z0W 10 7 9,z0 11 10,zw 12 1 2 11,zu 13 1 12 11,zw 14 1 3 11,zu 15 1 14 11,z0m 16 13 15 11,zV 17 11 16,z0 18 17,zw 19 2 2 18,zu 20 1 19 18,⟨some 21,.len false (.t 20),some (18,false),[]⟩,zw 22 2 3 18,zu 23 1 22 18,⟨some 24,.len false (.t 23),some (18,false),[]⟩,z0m 25 21 24 18,zV 26 18 25]
def qLZ:List VOper:=[z7 4]
def qSJ:List VOper:=[z4 5 0]
def qOG:List VOper:=[z0 27 5,z1 28 2 2,z2 29 1 28,zC 30 29,zB 31 27 30]
def qQi:List VOper:=[z1 34 2 2,zD 35 1 34 [0],z0 36 5,z5 37 3 35 36 [1,2],zI 38 3 37 [3],z1 39 2 3,zD 40 1 39 [5],z0 41 5,z5 42 3 40 41 [6,7],zI 43 3 42 [8],zF 44 3 38 43 [4,9],zz 45 44 [10]]
def qQh:List VOper:=[z7 4]
def qQj:List VOper:=[z0 32 5,z6 33 32 1,z0 5 33]
def qOr:VCode:=(.seq (.seq (yR 0 [2,3,5,31] qOG) (.cond (.t 31) .skip (.exit 0))) (.seq (.block 1 (.seq (yT 0 [2,3,5,45] qQi) (.cond (.t 45) (.seq (yR 0 [4] qQh) .ret) .skip))) (yR 0 [2,3,5] qQj)))
def qQg:List VOper:=[z07 4]
def v3:VFn:=⟨2,[.tmp 4],(.seq (yR 2 [2,3] qL1) (.seq (.seq (yR 0 [2,3,26] qL0) (.cond (.t 26) (.seq (yR 0 [4] qLZ) .ret) .skip)) (.seq (.seq (yR 0 [2,3,5] qSJ) (.block 0 (.loop [2,3,5] qOr))) (.seq (yR 0 [4] qQg) .ret))))⟩
def qQf:List VOper:=[zN 2 0 0,zN 3 1 1,z4 4 0]
def qQe:List VOper:=[z1 9 0 2,z2 10 1 9,z1 11 0 3,z2 12 1 11,z0n 13 0 0 0 1 10 1 1 12,z1 14 1 2,z2 15 1 14,z1 16 1 3,z2 17 1 16,z0n 18 0 0 0 1 15 1 1 17,z1 19 2 2,z2 20 1 19,zC 21 20,z1 22 2 3,z2 23 1 22,zC 24 23,z0n 25 0 0 0 1 21 1 1 24,⟨some 26,.buildSlice 2 (.agg [.int .i64 0,.int .i64 0]) 3 [(0,.t 13),(1,.t 18),(2,.t 25)],none,[]⟩,zC 27 26,z4 28 0]
def qEB:List VOper:=[zB 29 28 27]
def qIq:List VOper:=[zP 30 2 26 28,z3 31 2 30,⟨some 6,.alloc 0 [.int .i64 0,.int .i64 0],none,[]⟩,z8 2 6 31]
def qIp:List VOper:=[z0I 33 1 2 6 0,z2 34 1 33,z0I 35 1 2 6 1,z2 36 1 35,zB 37 34 36,z0 32 37]
def qIo:List VOper:=[z09 4]
def qLD:List VOper:=[z0I 39 1 2 6 0,z2 40 1 39,z0I 41 1 2 6 1,z2 42 1 41,z0G 43 40 42,z0 38 43]
def qLC:List VOper:=[z4 4 1]
def qQd:List VOper:=[z6 44 28 1,z0 28 44]
def qxt:VCode:=(.seq (yR 0 [2,3,26,27,28,29] qEB) (.seq (.cond (.t 29) .skip (.exit 0)) (.seq (.block 1 (.seq (yR 1 [2,3,6,26,27,28] qIq) (.block 2 (.seq (yR 0 [2,3,6,26,27,28,32] qIp) (.cond (.t 32) (.seq (yR 0 [4] qIo) .ret) (.seq (yR 0 [2,3,26,27,28,38] qLD) (.cond (.t 38) (.seq (yR 0 [4] qLC) .ret) .skip))))))) (yR 0 [2,3,26,27,28] qQd))))
def qQc:List VOper:=[z1 45 2 2,z2 46 1 45,zC 47 46,z4 48 0]
def qrL:List VOper:=[zB 49 48 47]
def qzq:List VOper:=[z0 50 48,z0 7 50]
def qIs:List VOper:=[z1 51 2 2,zD 52 1 51 [0],z0 53 7,z5 54 3 52 53 [1,2],zI 55 3 54 [3],z1 56 2 3,zD 57 1 56 [5],z0 58 7,z5 59 3 57 58 [6,7],zI 60 3 59 [8],zF 61 6 55 60 [4,9],zM 8 61 [0,1,2,3,4,5,6,7,8,9,10]]
def qzp:List VOper:=[z0 62 8,⟨some 63,.bin .neq (.t 62) (.c (.d (.int .i64 0))),none,[]⟩]
def qzo:List VOper:=[z0 64 8,z0 4 64]
def qzn:List VOper:=[z6 65 48 1,z0 48 65]
def qCy:VCode:=(.seq (yR 0 [2,3,47,48,49] qrL) (.seq (.cond (.t 49) .skip (.exit 3)) (.seq (.block 4 (.seq (yR 0 [2,3,7,47,48] qzq) (.seq (yT 0 [2,3,8,47,48] qIs) (.seq (yR 0 [2,3,8,47,48,63] qzp) (.cond (.t 63) (.seq (yR 0 [4] qzo) .ret) .skip))))) (yR 0 [2,3,47,48] qzn))))
def qIr:List VOper:=[z4 4 0]
def v6:VFn:=⟨2,[.tmp 4],(.seq (yR 2 [2,3] qQf) (.seq (.seq (yR 0 [2,3,26,27,28] qQe) (.block 0 (.loop [2,3,26,27,28] qxt))) (.seq (.seq (yR 0 [2,3,47,48] qQc) (.block 3 (.loop [2,3,47,48] qCy))) (.seq (yR 0 [4] qIr) .ret))))⟩
def qwk:List VOper:=[z4 4 0]
def qwj:List VOper:=[z4 5 0]
def qwi:List VOper:=[z0 6 5,z0 7 0,zC 8 7,zB 9 6 8]
def qwg:List VOper:=[z0 12 0,z0 13 5,zP 14 3 12 13,z1 15 0 14,z2 16 1 15,z0 17 1,z0l 18 16 17]
def qwf:List VOper:=[z0 19 5,z0 4 19]
def qwh:List VOper:=[z0 10 5,z6 11 10 1,z0 5 11]
def qCF:VCode:=(.seq (.seq (yR 0 [0,1,5,9] qwi) (.cond (.t 9) .skip (.exit 0))) (.seq (.block 1 (.seq (yR 0 [0,1,5,18] qwg) (.cond (.t 18) (.seq (yR 0 [4] qwf) .ret) .skip))) (yR 0 [0,1,5] qwh)))
def qwe:List VOper:=[z09 4]
def v13:VFn:=⟨2,[.tmp 4],(.seq (yR 0 [0,1] qwk) (.seq (.seq (yR 0 [0,1,5] qwj) (.block 0 (.loop [0,1,5] qCF))) (.seq (yR 0 [4] qwe) .ret)))⟩
def qMj:List VOper:=[zN 3 0 1,z4 4 0]
def qMi:List VOper:=[z0 5 0,z0y 6 18 3,zY 7 19 5 6,z0 4 7]
def v14:VFn:=⟨2,[.tmp 4],(.seq (yR 1 [0,3] qMj) (.seq (yR 0 [4] qMi) .ret))⟩
def qMh:List VOper:=[zN 2 0 0,z7 3]
def qMg:List VOper:=[z1 4 0 2,z2 5 1 4,z2 6 1 1,z0l 7 5 6,z0 3 7]
def v18:VFn:=⟨2,[.tmp 3],(.seq (yR 1 [1,2] qMh) (.seq (yR 0 [3] qMg) .ret))⟩
def qwd:List VOper:=[z4 4 0]
def qwc:List VOper:=[z0 6 0,zC 7 6,z4 8 0]
def qwb:List VOper:=[zB 9 8 7]
def qwa:List VOper:=[z0 10 8,z0 5 10]
def qv9:List VOper:=[z0 11 1,z0 12 0,z0 13 5,zP 14 3 12 13,z3 15 3 14,z0z 16 11 15]
def qv8:List VOper:=[z0 17 5,z0 4 17]
def qv7:List VOper:=[z6 18 8 1,z0 8 18]
def qCE:VCode:=(.seq (yR 0 [0,1,7,8,9] qwb) (.seq (.cond (.t 9) .skip (.exit 0)) (.seq (.block 1 (.seq (yR 0 [0,1,5,7,8] qwa) (.seq (yR 0 [0,1,5,7,8,16] qv9) (.cond (.t 16) (.seq (yR 0 [4] qv8) .ret) .skip)))) (yR 0 [0,1,7,8] qv7))))
def qv6:List VOper:=[z09 4]
def v19:VFn:=⟨2,[.tmp 4],(.seq (yR 0 [0,1] qwd) (.seq (.seq (yR 0 [0,1,7,8] qwc) (.block 0 (.loop [0,1,7,8] qCE))) (.seq (yR 0 [4] qv6) .ret)))⟩
def qMf:List VOper:=[zN 1 0 0,z4 2 0]
def qMe:List VOper:=[z4 3 1]
def qMd:List VOper:=[z4 4 0]
def qIK:List VOper:=[z0 5 4,z1 6 2 1,z2 7 1 6,zC 8 7,zB 9 5 8]
def qMb:List VOper:=[z0 12 3,z1 13 2 1,z2 14 1 13,z0 15 4,zP 16 3 14 15,z3 17 3 16,zL 18 22 17,zd 19 12 18,z0 3 19]
def qMc:List VOper:=[z0 10 4,z6 11 10 1,z0 4 11]
def qFt:VCode:=(.seq (.seq (yR 0 [1,3,4,9] qIK) (.cond (.t 9) .skip (.exit 0))) (.seq (.block 1 (yR 0 [1,3,4] qMb)) (yR 0 [1,3,4] qMc)))
def qMa:List VOper:=[z0 20 3,z0 2 20]
def v22:VFn:=⟨1,[.tmp 2],(.seq (yR 1 [1] qMf) (.seq (yR 0 [1,3] qMe) (.seq (.seq (yR 0 [1,3,4] qMd) (.block 0 (.loop [1,3,4] qFt))) (.seq (yR 0 [2] qMa) .ret))))⟩
def qL9:List VOper:=[zN 1 0 0,z4 2 0]
def qL8:List VOper:=[⟨some 3,.alloc 0 [.int .i64 0],none,[]⟩,⟨none,.store false 1 (.t 3) (.c (.d (.int .i64 0))),none,[]⟩]
def qL7:List VOper:=[z3 4 3 1,z0y 5 24 3,zY 6 25 4 5]
def qL6:List VOper:=[z2 7 1 3,z0 2 7]
def v23:VFn:=⟨1,[.tmp 2],(.seq (yR 1 [1] qL9) (.seq (yR 1 [1,3] qL8) (.seq (yR 0 [3] qL7) (.seq (yR 0 [2] qL6) .ret))))⟩
def qL5:List VOper:=[zN 2 0 0]
def qL4:List VOper:=[z2 3 1 1,z6 4 3 1,z8 1 1 4]
def v24:VFn:=⟨2,[],(.seq (yR 1 [1] qL5) (yR 0 [] qL4))⟩
def qIJ:List VOper:=[zN 2 0 0]
def qII:List VOper:=[z0 6 1,z3 7 3 2,z0z 8 6 7]
def qIH:List VOper:=[z1 9 2 2,z2 10 1 9,zC 11 10,z4 12 0]
def qzr:List VOper:=[zB 13 12 11]
def qIG:List VOper:=[zP 14 3 10 12,z3 15 3 14,z9 5 0 0 0,z8 3 5 15]
def qIF:List VOper:=[z3 16 3 5,z0 17 1,zY 18 25 16 17]
def qIE:List VOper:=[z6 19 12 1,z0 12 19]
def qsM:VCode:=(.seq (yR 0 [1,10,11,12,13] qzr) (.seq (.cond (.t 13) .skip (.exit 0)) (.seq (.block 1 (.seq (yR 1 [1,5,10,11,12] qIG) (yR 0 [1,10,11,12] qIF))) (yR 0 [1,10,11,12] qIE))))
def v25:VFn:=⟨2,[],(.seq (yR 1 [1,2] qIJ) (.seq (yR 0 [1,2] qII) (.seq (yR 0 [1,10,11,12] qIH) (.block 0 (.loop [1,10,11,12] qsM)))))⟩
def qL3:List VOper:=[z7 4]
def qL2:List VOper:=[z0 5 1,z0 6 0,zC 7 6,zl 8 7 1,⟨some 9,.call true (.c (.fn 30 [])) [.t 5,.c (.d (.int .i64 0)),.t 8],none,[]⟩,z0 4 9]
def v29:VFn:=⟨2,[.tmp 4],(.seq (yR 0 [0,1] qL3) (.seq (yR 0 [4] qL2) .ret))⟩
def qID:List VOper:=[z7 6]
def qIC:List VOper:=[z0 7 0,z0 8 1,⟨some 9,.bin .geq (.t 7) (.t 8),none,[]⟩,z0 10 9,zG 11 0 10,zG 12 2 10,⟨some 13,.bin .leq (.t 11) (.t 12),some (10,true),[]⟩,zA 14 10 13,z0 6 14]
def v30:VFn:=⟨3,[.tmp 6],(.seq (yR 0 [0,1,2] qID) (.seq (yR 0 [6] qIC) .ret))⟩
def qIB:List VOper:=[z7 6]
def qIA:List VOper:=[z0 7 0,z0 8 1,⟨some 9,.bin .geq (.t 7) (.t 8),none,[]⟩,z0 10 9,zG 11 0 10,zG 12 2 10,⟨some 13,.bin .leq (.t 11) (.t 12),some (10,true),[]⟩,zA 14 10 13,z0 6 14]
def v31:VFn:=⟨3,[.tmp 6],(.seq (yR 0 [0,1,2] qIB) (.seq (yR 0 [6] qIA) .ret))⟩
def qIz:List VOper:=[z7 4]
def qIy:List VOper:=[z0 5 1,z0 6 0,zC 7 6,zl 8 7 1,⟨some 9,.call true (.c (.fn 31 [])) [.t 5,.c (.d (.int .i64 0)),.t 8],none,[]⟩,z0 10 9,zG 11 0 10,zG 12 1 10,z0h 13 3 11 12 10,zf 14 2 13 10,zb 15 1 14 10,zA 16 10 15,z0 4 16]
def v33:VFn:=⟨2,[.tmp 4],(.seq (yR 0 [0,1] qIz) (.seq (yR 0 [4] qIy) .ret))⟩
def qIx:List VOper:=[z7 4]
def qIw:List VOper:=[z0 5 0,z0 6 1,zE 7 29 5 6,z0 8 7,zG 9 0 8,zG 10 1 8,z0h 11 3 9 10 8,zf 12 2 11 8,zb 13 1 12 8,zA 14 8 13,z0 4 14]
def v34:VFn:=⟨2,[.tmp 4],(.seq (yR 0 [0,1] qIx) (.seq (yR 0 [4] qIw) .ret))⟩
def qv5:List VOper:=[z4 4 0]
def qv4:List VOper:=[z0 6 0,zC 7 6,z4 8 0]
def qv3:List VOper:=[zB 9 8 7]
def qv2:List VOper:=[z0 10 8,z0 5 10]
def qv1:List VOper:=[z0 11 1,z0 12 0,z0 13 5,zP 14 1 12 13,z2 15 1 14,z0z 16 11 15]
def qv0:List VOper:=[z0 17 5,z0 4 17]
def qvZ:List VOper:=[z6 18 8 1,z0 8 18]
def qCD:VCode:=(.seq (yR 0 [0,1,7,8,9] qv3) (.seq (.cond (.t 9) .skip (.exit 0)) (.seq (.block 1 (.seq (yR 0 [0,1,5,7,8] qv2) (.seq (yR 0 [0,1,5,7,8,16] qv1) (.cond (.t 16) (.seq (yR 0 [4] qv0) .ret) .skip)))) (yR 0 [0,1,7,8] qvZ))))
def qvY:List VOper:=[z09 4]
def v47:VFn:=⟨2,[.tmp 4],(.seq (yR 0 [0,1] qv5) (.seq (.seq (yR 0 [0,1,7,8] qv4) (.block 0 (.loop [0,1,7,8] qCD))) (.seq (yR 0 [4] qvY) .ret)))⟩
def qrS:List VOper:=[z7 4]
def qrR:List VOper:=[z4 5 0]
def qrQ:List VOper:=[z0 6 5,z0 7 0,zC 8 7,zB 9 6 8]
def qrO:List VOper:=[z0 12 0,z0 13 5,zP 14 1 12 13,z2 15 1 14,z0 16 1,z0l 17 15 16]
def qrN:List VOper:=[z07 4]
def qrP:List VOper:=[z0 10 5,z6 11 10 1,z0 5 11]
def qCC:VCode:=(.seq (.seq (yR 0 [0,1,5,9] qrQ) (.cond (.t 9) .skip (.exit 0))) (.seq (.block 1 (.seq (yR 0 [0,1,5,17] qrO) (.cond (.t 17) (.seq (yR 0 [4] qrN) .ret) .skip))) (yR 0 [0,1,5] qrP)))
def qrM:List VOper:=[z7 4]
def v53:VFn:=⟨2,[.tmp 4],(.seq (yR 0 [0,1] qrS) (.seq (.seq (yR 0 [0,1,5] qrR) (.block 0 (.loop [0,1,5] qCC))) (.seq (yR 0 [4] qrM) .ret)))⟩
def qLY:List VOper:=[z7 4]
def qLX:List VOper:=[z0 5 0,z0 6 1,zE 7 55 5 6,z0 4 7]
def v54:VFn:=⟨2,[.tmp 4],(.seq (yR 0 [0,1] qLY) (.seq (yR 0 [4] qLX) .ret))⟩
def qLW:List VOper:=[z7 4]
def qLV:List VOper:=[z0 5 0,z0 6 1,zE 7 56 5 6,⟨some 8,.bin .geq (.t 7) (.c (.d (.int .i64 0))),none,[]⟩,z0 4 8]
def v55:VFn:=⟨2,[.tmp 4],(.seq (yR 0 [0,1] qLW) (.seq (yR 0 [4] qLV) .ret))⟩
def qvX:List VOper:=[z4 4 0]
def qvW:List VOper:=[z0 6 0,zC 7 6,z4 8 0]
def qvV:List VOper:=[zB 9 8 7]
def qvU:List VOper:=[z0 10 8,z0 5 10]
def qvT:List VOper:=[z0 11 1,z0 12 0,z0 13 5,zP 14 1 12 13,z2 15 1 14,z0l 16 11 15]
def qvS:List VOper:=[z0 17 5,z0 4 17]
def qvR:List VOper:=[z6 18 8 1,z0 8 18]
def qCB:VCode:=(.seq (yR 0 [0,1,7,8,9] qvV) (.seq (.cond (.t 9) .skip (.exit 0)) (.seq (.block 1 (.seq (yR 0 [0,1,5,7,8] qvU) (.seq (yR 0 [0,1,5,7,8,16] qvT) (.cond (.t 16) (.seq (yR 0 [4] qvS) .ret) .skip)))) (yR 0 [0,1,7,8] qvR))))
def qvQ:List VOper:=[z09 4]
def v56:VFn:=⟨2,[.tmp 4],(.seq (yR 0 [0,1] qvX) (.seq (.seq (yR 0 [0,1,7,8] qvW) (.block 0 (.loop [0,1,7,8] qCB))) (.seq (yR 0 [4] qvQ) .ret)))⟩
def qLU:List VOper:=[z7 2]
def qLT:List VOper:=[z4 3 0]
def qIv:List VOper:=[z0 4 3,z0 5 0,z15 6 5,zB 7 4 6]
def qLR:List VOper:=[z0 10 0,z0 11 3,⟨some 12,.index (.t 10) (.t 11),none,[]⟩,z0w 13 12 97,z0 14 13,zG 15 0 14,zG 16 3 14,z0q 17 15 16 14,z0M 18 17 122 14,zA 19 14 18,z0 20 19,zO 21 3 20,⟨some 22,.bin .gtr (.t 21) (.c (.d (.int .i64 0))),some (20,false),[]⟩,zO 23 22 20,zG 24 0 23,zG 25 3 23,z0q 26 24 25 23,⟨some 27,.bin .geq (.t 26) (.c (.d (.int .u8 48))),some (23,true),[]⟩,ze 28 23 27 20,zO 29 28 20,zG 30 0 29,zG 31 3 29,z0q 32 30 31 29,z0M 33 32 57 29,ze 34 29 33 20,zV 35 20 34,z0S 36 35]
def qLQ:List VOper:=[z7 2]
def qLS:List VOper:=[z0 8 3,z6 9 8 1,z0 3 9]
def qCA:VCode:=(.seq (.seq (yR 0 [0,3,7] qIv) (.cond (.t 7) .skip (.exit 0))) (.seq (.block 1 (.seq (yR 0 [0,3,36] qLR) (.cond (.t 36) (.seq (yR 0 [2] qLQ) .ret) .skip))) (yR 0 [0,3] qLS)))
def qLP:List VOper:=[z0 37 0,z15 38 37,zm 39 31 38 1 8,z0 2 39]
def v59:VFn:=⟨1,[.tmp 2],(.seq (yR 0 [0] qLU) (.seq (.seq (yR 0 [0,3] qLT) (.block 0 (.loop [0,3] qCA))) (.seq (yR 0 [2] qLP) .ret)))⟩
def qLO:List VOper:=[z7 2]
def qLN:List VOper:=[z0 4 0,z15 5 4,z4 6 0]
def qIu:List VOper:=[zB 7 6 5]
def qLM:List VOper:=[z0 8 6,z0 3 8]
def qLL:List VOper:=[z0 9 0,z0 10 3,⟨some 11,.index (.t 9) (.t 10),none,[]⟩,zL 12 61 11,z0S 13 12,z0 14 13,zG 15 0 14,zG 16 3 14,z0q 17 15 16 14,zt 18 62 17 14,⟨some 19,.not (.t 18),some (14,true),[]⟩,zA 20 14 19]
def qLK:List VOper:=[z7 2]
def qLJ:List VOper:=[z6 21 6 1,z0 6 21]
def qCz:VCode:=(.seq (yR 0 [0,5,6,7] qIu) (.seq (.cond (.t 7) .skip (.exit 0)) (.seq (.block 1 (.seq (yR 0 [0,3,5,6] qLM) (.seq (yR 0 [0,5,6,20] qLL) (.cond (.t 20) (.seq (yR 0 [2] qLK) .ret) .skip)))) (yR 0 [0,5,6] qLJ))))
def qLI:List VOper:=[z0 22 0,z15 23 22,zm 24 30 23 1 8,z0 25 24,zG 26 0 25,⟨some 27,.index (.t 26) (.c (.d (.int .i64 0))),some (25,true),[]⟩,zt 28 61 27 25,zA 29 25 28,z0 2 29]
def v60:VFn:=⟨1,[.tmp 2],(.seq (yR 0 [0] qLO) (.seq (.seq (yR 0 [0,5,6] qLN) (.block 0 (.loop [0,5,6] qCz))) (.seq (yR 0 [2] qLI) .ret)))⟩
def qLH:List VOper:=[z7 2]
def qLG:List VOper:=[z0 3 0,z0w 4 3 97,z0 5 4,zG 6 0 5,z0M 7 6 122 5,zA 8 5 7,z0 2 8]
def v61:VFn:=⟨1,[.tmp 2],(.seq (yR 0 [0] qLH) (.seq (yR 0 [2] qLG) .ret))⟩
def qLF:List VOper:=[z7 2]
def qLE:List VOper:=[z0 3 0,z0w 4 3 48,z0 5 4,zG 6 0 5,z0M 7 6 57 5,zA 8 5 7,z0 2 8]
def v62:VFn:=⟨1,[.tmp 2],(.seq (yR 0 [0] qLF) (.seq (yR 0 [2] qLE) .ret))⟩
def qjy:List VOper:=[z7 4]
def qjx:List VOper:=[z0 7 1,zC 8 7,z4 9 0]
def qjw:List VOper:=[zB 10 9 8]
def qjv:List VOper:=[z0 11 9,zP 12 4 7 9,z3 13 4 12,⟨some 6,.alloc 0 [.int .i64 0,.int .i64 0,.int .i64 0,.sl .nil []],none,[]⟩,z0 5 11,z8 4 6 13]
def qIt:List VOper:=[z1 14 0 6,zD 15 1 14 [0],⟨some 16,.call true (.c (.fn 30 [])) [.t 15,.c (.d (.int .i64 0)),.c (.d (.int .i64 99))],none,[1]⟩,zz 17 16 [2],zM 18 17 [2,3],zK 19 5 18 [4],z00 20 19 0 18 [4,5],zK 21 20 18 [4,6],zQ 22 1 21 [7],zQ 23 5 21 [7],zr 24 23 1 21 [7,9],zX 25 4 22 24 21 [7,8,10],zJ 26 0 25 21 [7,11],zH 27 1 26 21 [7,12],zJ 28 0 6 21 [7],zH 29 1 28 21 [7,14],⟨some 30,.bin .geq (.t 27) (.t 29),some (21,true),[7,13,15]⟩,zU 31 21 30 18 [4,7,16],zR 32 18 31 [4,17],zM 33 32 [7,18],zK 34 0 33 [19],zS 35 1 6 33 [19],z11 36 3 35 33 [19,21],z0V 37 70 34 36 33 [19,20,22],z0J 38 37 33 [19,23],zR 39 33 38 [19,24]]
def qju:List VOper:=[z7 4]
def qjt:List VOper:=[z0 40 1,z0y 41 71 6,zY 42 72 40 41]
def qjs:List VOper:=[z7 4]
def qjr:List VOper:=[z6 43 9 1,z0 9 43]
def ql3:VCode:=(.seq (yR 0 [0,1,7,8,9,10] qjw) (.seq (.cond (.t 10) .skip (.exit 0)) (.seq (.block 1 (.seq (yR 1 [0,1,5,6,7,8,9] qjv) (.seq (.seq (yT 0 [0,1,6,7,8,9,39] qIt) (.cond (.t 39) (.seq (yR 0 [4] qju) .ret) .skip)) (.seq (yR 0 [0,1,7,8,9,42] qjt) (.cond (.t 42) (.seq (yR 0 [4] qjs) .ret) .skip))))) (yR 0 [0,1,7,8,9] qjr))))
def qjq:List VOper:=[z07 4]
def v68:VFn:=⟨2,[.tmp 4],(.seq (yR 0 [0,1] qjy) (.seq (.seq (yR 0 [0,1,7,8,9] qjx) (.block 0 (.loop [0,1,7,8,9] ql3))) (.seq (yR 0 [4] qjq) .ret)))⟩
def qEA:List VOper:=[zN 3 0 1,z7 4]
def qEz:List VOper:=[z0 5 0,zL 6 77 5,z0 7 6,zn 8 3 3 7,zt 9 23 8 7,⟨some 10,.bin .leq (.t 9) (.c (.d (.int .i64 60))),some (7,true),[]⟩,zA 11 7 10,z0 12 11,zG 13 0 12,zn 14 3 3 12,z0U 15 78 13 14 12,zA 16 12 15,z0 4 16]
def v70:VFn:=⟨2,[.tmp 4],(.seq (yR 1 [0,3] qEA) (.seq (yR 0 [4] qEz) .ret))⟩
def qLB:List VOper:=[zN 2 0 0,z7 3]
def qLA:List VOper:=[z1 4 1 1,z3 5 3 4,z1 6 0 2,z2 7 1 6,zE 8 73 5 7,z0D 9 8 0,z0 3 9]
def v71:VFn:=⟨2,[.tmp 3],(.seq (yR 1 [1,2] qLB) (.seq (yR 0 [3] qLA) .ret))⟩
def qIn:List VOper:=[z7 4]
def qIm:List VOper:=[z0 5 0,z0 6 1,zY 7 76 5 6,⟨some 8,.bin .geq (.t 7) (.c (.d (.int .i64 0))),none,[]⟩,z0 4 8]
def v72:VFn:=⟨2,[.tmp 4],(.seq (yR 0 [0,1] qIn) (.seq (yR 0 [4] qIm) .ret))⟩
def qLz:List VOper:=[zN 2 0 0,zN 3 1 1,z4 4 0]
def qLy:List VOper:=[⟨some 5,.alloc 0 [.int .i64 0],none,[]⟩,⟨none,.store false 1 (.t 5) (.c (.d (.int .i64 0))),none,[]⟩]
def qLx:List VOper:=[z3 6 3 2,⟨some 7,.makeFunc 74 [.t 3,.t 5],none,[]⟩,zY 8 25 6 7]
def qLw:List VOper:=[z2 9 1 5,z0 4 9]
def v73:VFn:=⟨2,[.tmp 4],(.seq (yR 2 [2,3] qLz) (.seq (yR 1 [2,3,5] qLy) (.seq (yR 0 [5] qLx) (.seq (yR 0 [4] qLw) .ret))))⟩
def qEy:List VOper:=[zN 3 0 0]
def qEx:List VOper:=[z3 4 3 3,zL 5 75 4,z0 6 5,zf 7 1 3 6,zb 8 1 7 6,zb 9 1 1 6,z14 10 8 9 6,zA 11 6 10]
def qEw:List VOper:=[z2 12 1 2,z6 13 12 1,z8 1 2 13]
def v74:VFn:=⟨3,[],(.seq (yR 1 [1,2,3] qEy) (.seq (yR 0 [2,11] qEx) (.cond (.t 11) (yR 0 [] qEw) .skip)))⟩
def qLv:List VOper:=[zN 1 0 0,z7 2]
def qLu:List VOper:=[z1 3 0 1,z2 4 1 3,z0P 5 4,z0 2 5]
def v75:VFn:=⟨1,[.tmp 2],(.seq (yR 1 [1] qLv) (.seq (yR 0 [2] qLu) .ret))⟩
def qvP:List VOper:=[z4 4 0]
def qvO:List VOper:=[z0 6 0,zC 7 6,z4 8 0]
def qvN:List VOper:=[zB 9 8 7]
def qvM:List VOper:=[z0 10 8,z0 5 10]
def qvL:List VOper:=[z0 11 1,z0 12 0,z0 13 5,zP 14 4 12 13,z3 15 4 14,z0z 16 11 15]
def qvK:List VOper:=[z0 17 5,z0 4 17]
def qvJ:List VOper:=[z6 18 8 1,z0 8 18]
def qCx:VCode:=(.seq (yR 0 [0,1,7,8,9] qvN) (.seq (.cond (.t 9) .skip (.exit 0)) (.seq (.block 1 (.seq (yR 0 [0,1,5,7,8] qvM) (.seq (yR 0 [0,1,5,7,8,16] qvL) (.cond (.t 16) (.seq (yR 0 [4] qvK) .ret) .skip)))) (yR 0 [0,1,7,8] qvJ))))
def qvI:List VOper:=[z09 4]
def v76:VFn:=⟨2,[.tmp 4],(.seq (yR 0 [0,1] qvP) (.seq (.seq (yR 0 [0,1,7,8] qvO) (.block 0 (.loop [0,1,7,8] qCx))) (.seq (yR 0 [4] qvI) .ret)))⟩
def qh2:List VOper:=[z7 2]
def qh1:List VOper:=[z0 5 0,zC 6 5,z4 7 0]
def qh0:List VOper:=[zB 8 7 6]
def qhZ:List VOper:=[z0 9 7,zP 10 3 5 7,z3 11 3 10,⟨some 4,.alloc 0 [.str ⟨#[]⟩,.int .i64 0,.bool false],none,[]⟩,z0 3 9,z8 3 4 11]
def qhY:List VOper:=[z1 12 0 4,z2 13 1 12,zL 14 60 13,z0S 15 14,z0 16 15,zO 17 0 16,zw 18 0 4 16,zu 19 1 18 16,zv 20 14 17 19 16,zO 21 3 16,z0m 22 20 21 16,zV 23 16 22,z0 24 23,zw 25 1 4 24,zu 26 1 25 24,z0i 27 30 26 0 3 24,z0O 28 27 24,zV 29 24 28,z0 30 29,zw 31 2 4 30,zu 32 1 31 30,zO 33 32 30,zf 34 1 4 33,zb 35 1 34 33,⟨some 36,.bin .neq (.t 35) (.c (.d (.int .i64 2))),some (33,true),[]⟩,ze 37 33 36 30,zV 38 30 37]
def qhX:List VOper:=[z7 2]
def qhW:List VOper:=[z6 39 7 1,z0 7 39]
def qmr:VCode:=(.seq (yR 0 [0,5,6,7,8] qh0) (.seq (.cond (.t 8) .skip (.exit 0)) (.seq (.block 1 (.seq (yR 1 [0,3,4,5,6,7] qhZ) (.seq (yR 0 [0,5,6,7,38] qhY) (.cond (.t 38) (.seq (yR 0 [2] qhX) .ret) .skip)))) (yR 0 [0,5,6,7] qhW))))
def qhV:List VOper:=[z0 40 0,zC 41 40,zm 42 30 41 1 8,z0 43 42,zG 44 0 43,z0f 45 3 44 0 43,zf 46 0 45 43,zb 47 1 46 43,⟨some 48,.bin .eql (.t 47) (.c (.d (.str ⟨#[116,116]⟩))),some (43,true),[]⟩,zA 49 43 48,z0 50 49,zG 51 0 50,z0f 52 3 51 0 50,zf 53 1 52 50,zb 54 1 53 50,z0L 55 54 0 50,zA 56 50 55,z0 2 56]
def v77:VFn:=⟨1,[.tmp 2],(.seq (yR 0 [0] qh2) (.seq (.seq (yR 0 [0,5,6,7] qh1) (.block 0 (.loop [0,5,6,7] qmr))) (.seq (yR 0 [2] qhV) .ret)))⟩
def qvH:List VOper:=[zN 3 0 1,z7 4]
def qvG:List VOper:=[z3 7 3 3,zL 8 75 7]
def qvF:List VOper:=[z1 9 1 3,z2 10 1 9,zm 11 30 10 0 99,z0 12 11,zf 13 2 3 12,zb 14 1 13 12,z0Q 15 14 12,z0L 16 15 0 12,zA 17 12 16,z0 4 17]
def qEv:List VOper:=[z0 18 0,z1 19 0 3,zD 20 1 19 [1],zF 21 29 18 20 [0,2],zz 22 21 [3],zM 23 22 [3,4],zS 24 1 3 23 [5],zT 25 1 24 23 [5,6],z0R 26 25 0 23 [5,7],zR 27 23 26 [5,8],zM 28 27 [5,9],zK 29 0 28 [10],zS 30 0 3 28 [10],zT 31 1 30 28 [10,12],zi 32 3 29 31 28 [10,11,13],zS 33 2 32 28 [10,14],zT 34 1 33 28 [10,15],z0J 35 34 28 [10,16],zK 36 35 28 [10,17],zJ 37 2 3 36 [18],zH 38 1 37 36 [18,19],z0B 39 38 36 [18,20],zQ 40 0 36 [18],zJ 41 0 3 36 [18],zH 42 1 41 36 [18,23],zX 43 3 40 42 36 [18,22,24],zJ 44 1 43 36 [18,25],zH 45 1 44 36 [18,26],z0r 46 39 45 36 [18,21,27],zU 47 36 46 28 [10,18,28],zR 48 28 47 [10,29],zM 49 48 [18,30],zK 50 0 49 [31],zS 51 0 3 49 [31],zT 52 1 51 49 [31,33],zi 53 3 50 52 49 [31,32,34],zS 54 2 53 49 [31,35],zT 55 1 54 49 [31,36],zK 56 55 49 [31,37],zJ 57 2 3 56 [38],zH 58 1 57 56 [38,39],z0B 59 58 56 [38,40],z01 60 59 2 56 [38,41],zU 61 56 60 49 [31,38,42],zR 62 49 61 [31,43]]
def qIl:List VOper:=[z7 4]
def qLt:List VOper:=[z1 63 2 3,z2 64 1 63,zC 65 64,z4 66 0]
def qEu:List VOper:=[zB 67 66 65]
def qIk:List VOper:=[z0 68 66,zP 69 3 64 66,z3 70 3 69,z9 6 0 0 0,z0 5 68,z8 3 6 70]
def qEt:List VOper:=[z0 71 0,z3 72 3 6,zF 73 78 71 72 [0,1],zz 74 73 [2],zM 75 74 [2,3],zK 76 0 75 [4],zS 77 0 3 75 [4],zT 78 1 77 75 [4,6],zi 79 3 76 78 75 [4,5,7],zS 80 2 79 75 [4,8],zT 81 1 80 75 [4,9],zK 82 81 75 [4,10],zJ 83 0 6 82 [11],zH 84 1 83 82 [11,12],zJ 85 0 3 82 [11],zH 86 1 85 82 [11,14],z0s 87 84 86 82 [11,13,15],zQ 88 87 82 [11,16],zK 89 5 88 [17],z00 90 89 0 88 [17,18],zK 91 90 88 [17,19],zh 92 3 6 91 [20],zJ 93 2 3 91 [20],zH 94 1 93 91 [20,22],zQ 95 5 91 [20],zr 96 95 1 91 [20,24],zX 97 3 94 96 91 [20,23,25],zh 98 3 97 91 [20,26],z04 99 79 92 98 91 [20,21,27],zU 100 91 99 88 [17,20,28],z0N 101 88 100 82 [11,17,29],zU 102 82 101 75 [4,11,30],zR 103 75 102 [4,31]]
def qIj:List VOper:=[z7 4]
def qzm:List VOper:=[z6 104 66 1,z0 66 104]
def qCw:VCode:=(.seq (yR 0 [0,3,64,65,66,67] qEu) (.seq (.cond (.t 67) .skip (.exit 0)) (.seq (.block 1 (.seq (yR 1 [0,3,5,6,64,65,66] qIk) (.seq (yT 0 [0,3,64,65,66,103] qEt) (.cond (.t 103) (.seq (yR 0 [4] qIj) .ret) .skip)))) (yR 0 [0,3,64,65,66] qzm))))
def qFL:List VOper:=[z07 4]
def v78:VFn:=⟨2,[.tmp 4],(.seq (yR 1 [0,3] qvH) (.seq (.seq (yR 0 [0,3,8] qvG) (.cond (.t 8) (.seq (yR 0 [4] qvF) .ret) .skip)) (.seq (.seq (yT 0 [0,3,62] qEv) (.cond (.t 62) (.seq (yR 0 [4] qIl) .ret) .skip)) (.seq (.seq (yR 0 [0,3,64,65,66] qLt) (.block 0 (.loop [0,3,64,65,66] qCw))) (.seq (yR 0 [4] qFL) .ret)))))⟩
def qLs:List VOper:=[zN 2 0 0,zN 3 1 1,z7 4]
def qLr:List VOper:=[z3 5 3 2,z3 6 3 3,zE 7 6 5 6,z0Y 8 7 0,z0 4 8]
def v79:VFn:=⟨2,[.tmp 4],(.seq (yR 2 [2,3] qLs) (.seq (yR 0 [4] qLr) .ret))⟩
def qEs:List VOper:=[zN 3 0 1,z7 4]
def qEr:List VOper:=[z0 5 0,zL 6 82 5,z0 7 6,zn 8 3 3 7,zt 9 22 8 7,⟨some 10,.bin .leq (.t 9) (.c (.d (.int .i64 60))),some (7,true),[]⟩,zA 11 7 10,z0 12 11,zG 13 0 12,zn 14 3 3 12,z0U 15 83 13 14 12,zA 16 12 15,z0 4 16]
def v80:VFn:=⟨2,[.tmp 4],(.seq (yR 1 [0,3] qEs) (.seq (yR 0 [4] qEr) .ret))⟩
def qn7:List VOper:=[zN 2 0 0,z4 4 0]
def qn6:List VOper:=[z1 7 0 2,z2 8 1 7,z0P 9 8,z0 10 9,zf 11 1 2 10,zb 12 1 11 10,zG 13 1 10,z14 14 12 13 10,zA 15 10 14,zL 16 85 15,z0 5 16]
def qn5:List VOper:=[z4 6 0]
def qn4:List VOper:=[z0 17 6,z1 18 2 2,z2 19 1 18,zC 20 19,zB 21 17 20]
def qn2:List VOper:=[z0 24 5,z1 25 2 2,z2 26 1 25,z0 27 6,zP 28 3 26 27,z3 29 3 28,z0 30 1,zE 31 81 29 30,zd 32 24 31,z0 5 32]
def qn3:List VOper:=[z0 22 6,z6 23 22 1,z0 6 23]
def qFs:VCode:=(.seq (.seq (yR 0 [1,2,5,6,21] qn4) (.cond (.t 21) .skip (.exit 0))) (.seq (.block 1 (yR 0 [1,2,5,6] qn2)) (yR 0 [1,2,5,6] qn3)))
def qn1:List VOper:=[z0 33 5,z0 4 33]
def v81:VFn:=⟨2,[.tmp 4],(.seq (yR 1 [1,2] qn7) (.seq (yR 0 [1,2,5] qn6) (.seq (.seq (yR 0 [1,2,5,6] qn5) (.block 0 (.loop [1,2,5,6] qFs))) (.seq (yR 0 [4] qn1) .ret))))⟩
def qku:List VOper:=[z7 2]
def qkt:List VOper:=[z4 3 0]
def qks:List VOper:=[z0 4 3,z0 5 0,zC 6 5,zB 7 4 6]
def qkq:List VOper:=[z0 10 0,z0 11 3,zP 12 3 10 11,z1 13 0 12,z2 14 1 13,zL 15 59 14,z0S 16 15,z0 17 16,zO 18 0 17,zO 19 0 17,zO 20 3 17,z10 21 3 19 20 17,zw 22 0 21 17,zu 23 1 22 17,zv 24 13 18 23 17,zO 25 3 17,z0m 26 24 25 17,zV 27 17 26,z0 28 27,zO 29 0 28,zO 30 3 28,z10 31 3 29 30 28,zw 32 1 31 28,zu 33 1 32 28,z0i 34 31 33 0 3 28,z0O 35 34 28,zV 36 28 35,z0 37 36,zO 38 0 37,zO 39 3 37,z10 40 3 38 39 37,zw 41 2 40 37,zu 42 1 41 37,zO 43 42 37,zG 44 0 43,zG 45 3 43,z0h 46 3 44 45 43,zf 47 1 46 43,zb 48 1 47 43,⟨some 49,.bin .neq (.t 48) (.c (.d (.int .i64 2))),some (43,true),[]⟩,ze 50 43 49 37,zV 51 37 50]
def qkp:List VOper:=[z7 2]
def qkr:List VOper:=[z0 8 3,z6 9 8 1,z0 3 9]
def qoO:VCode:=(.seq (.seq (yR 0 [0,3,7] qks) (.cond (.t 7) .skip (.exit 0))) (.seq (.block 1 (.seq (yR 0 [0,3,51] qkq) (.cond (.t 51) (.seq (yR 0 [2] qkp) .ret) .skip))) (yR 0 [0,3] qkr)))
def qko:List VOper:=[z0 52 0,zC 53 52,zm 54 31 53 1 8,z0 55 54,zG 56 0 55,z0f 57 3 56 0 55,zn 58 3 57 55,⟨some 59,.build [.str ⟨#[]⟩,.int .i64 0,.bool false] [(0,1,.c (.d (.str ⟨#[116,116]⟩)))],some (55,true),[]⟩,⟨some 60,.eqAgg false [2,0,1] (.t 58) (.t 59),some (55,true),[]⟩,zA 61 55 60,z0 2 61]
def v82:VFn:=⟨1,[.tmp 2],(.seq (yR 0 [0] qku) (.seq (.seq (yR 0 [0,3] qkt) (.block 0 (.loop [0,3] qoO))) (.seq (yR 0 [2] qko) .ret)))⟩
def qvE:List VOper:=[zN 3 0 1,z7 4]
def qvD:List VOper:=[z1 6 0 3,z2 7 1 6,z0P 8 7]
def qvC:List VOper:=[z1 9 1 3,z2 10 1 9,zm 11 31 10 0 99,z0 12 11,zf 13 2 3 12,zb 14 1 13 12,z0Q 15 14 12,z0L 16 15 0 12,zA 17 12 16,z0 4 17]
def qEq:List VOper:=[z1 18 0 3,zD 19 1 18 [0],z0 20 0,z0C 21 20 [2],zo 22 21 1 [3],⟨some 23,.call true (.c (.fn 31 [])) [.t 19,.c (.d (.int .i64 0)),.t 22],none,[1,4]⟩,zz 24 23 [5],zM 25 24 [5,6],zS 26 1 3 25 [7],zT 27 1 26 25 [7,8],z0R 28 27 0 25 [7,9],zR 29 25 28 [7,10],zM 30 29 [7,11],zK 31 0 30 [12],zS 32 0 3 30 [12],zT 33 1 32 30 [12,14],zi 34 3 31 33 30 [12,13,15],zS 35 2 34 30 [12,16],zT 36 1 35 30 [12,17],z0J 37 36 30 [12,18],zK 38 37 30 [12,19],zJ 39 2 3 38 [20],zH 40 1 39 38 [20,21],z0B 41 40 38 [20,22],zQ 42 0 38 [20],zJ 43 0 3 38 [20],zH 44 1 43 38 [20,25],zX 45 3 42 44 38 [20,24,26],zJ 46 1 45 38 [20,27],zH 47 1 46 38 [20,28],z0r 48 41 47 38 [20,23,29],zU 49 38 48 30 [12,20,30],zR 50 30 49 [12,31],zM 51 50 [20,32],zK 52 0 51 [33],zS 53 0 3 51 [33],zT 54 1 53 51 [33,35],zi 55 3 52 54 51 [33,34,36],zS 56 2 55 51 [33,37],zT 57 1 56 51 [33,38],zK 58 57 51 [33,39],zJ 59 2 3 58 [40],zH 60 1 59 58 [40,41],z0B 61 60 58 [40,42],z01 62 61 2 58 [40,43],zU 63 58 62 51 [33,40,44],zR 64 51 63 [33,45]]
def qIi:List VOper:=[z7 4]
def qLq:List VOper:=[z4 5 0]
def qEp:List VOper:=[z0 65 5,z1 66 2 3,z2 67 1 66,zC 68 67,zB 69 65 68]
def qEo:List VOper:=[z0 72 0,z1 73 0 3,zD 74 1 73 [1],z5 75 3 72 74 [0,2],zc 76 2 75 [3],zD 77 1 76 [4],zM 78 77 [5],zJ 79 2 3 78 [6],zH 80 1 79 78 [6,7],zQ 81 5 78 [6],zX 82 3 80 81 78 [6,8,9],zJ 83 0 82 78 [6,10],zH 84 1 83 78 [6,11],zJ 85 0 3 78 [6],zH 86 1 85 78 [6,13],z0s 87 84 86 78 [6,12,14],zQ 88 87 78 [6,15],zK 89 5 88 [16],z00 90 89 0 88 [16,17],zK 91 90 88 [16,18],zJ 92 2 3 91 [19],zH 93 1 92 91 [19,20],zQ 94 5 91 [19],zX 95 3 93 94 91 [19,21,22],zh 96 3 95 91 [19,23],zJ 97 2 3 91 [19],zH 98 1 97 91 [19,25],zQ 99 5 91 [19],zr 100 99 1 91 [19,27],zX 101 3 98 100 91 [19,26,28],zh 102 3 101 91 [19,29],z04 103 84 96 102 91 [19,24,30],zU 104 91 103 88 [16,19,31],z0N 105 88 104 78 [6,16,32],z05 106 78 105 [6,33],zM 107 106 [31,34],zK 108 0 107 [35],zS 109 2 3 107 [35],zT 110 1 109 107 [35,37],zK 111 5 107 [35],zi 112 3 110 111 107 [35,38,39],z11 113 3 112 107 [35,40],z0V 114 83 108 113 107 [35,36,41],z0J 115 114 107 [35,42],zR 116 107 115 [35,43]]
def qIg:List VOper:=[z7 4]
def qIh:List VOper:=[z0 70 5,z6 71 70 1,z0 5 71]
def qCv:VCode:=(.seq (.seq (yR 0 [0,3,5,69] qEp) (.cond (.t 69) .skip (.exit 0))) (.seq (.block 1 (.seq (yT 0 [0,3,5,116] qEo) (.cond (.t 116) (.seq (yR 0 [4] qIg) .ret) .skip))) (yR 0 [0,3,5] qIh)))
def qFK:List VOper:=[z07 4]
def v83:VFn:=⟨2,[.tmp 4],(.seq (yR 1 [0,3] qvE) (.seq (.seq (yR 0 [0,3,8] qvD) (.cond (.t 8) (.seq (yR 0 [4] qvC) .ret) .skip)) (.seq (.seq (yT 0 [0,3,64] qEq) (.cond (.t 64) (.seq (yR 0 [4] qIi) .ret) .skip)) (.seq (.seq (yR 0 [0,3,5] qLq) (.block 0 (.loop [0,3,5] qCv))) (.seq (yR 0 [4] qFK) .ret)))))⟩
def qn0:List VOper:=[zN 2 0 0,zN 3 1 1,z7 4]
def qnZ:List VOper:=[z1 6 0 2,z2 7 1 6,z1 8 0 3,z2 9 1 8,z0W 10 7 9]
def qnY:List VOper:=[z1 11 0 2,z2 12 1 11,z1 13 0 3,z2 14 1 13,zB 15 12 14,z0 4 15]
def qnX:List VOper:=[z1 16 1 2,z2 17 1 16,z1 18 1 3,z2 19 1 18,z0W 20 17 19]
def qnW:List VOper:=[z1 21 1 2,z2 22 1 21,z1 23 1 3,z2 24 1 23,zB 25 22 24,z0 4 25]
def qnV:List VOper:=[z1 26 2 2,z2 27 1 26,zC 28 27,z1 29 2 3,z2 30 1 29,zC 31 30,z0W 32 28 31]
def qnU:List VOper:=[z1 33 2 2,z2 34 1 33,zC 35 34,z1 36 2 3,z2 37 1 36,zC 38 37,zB 39 35 38,z0 4 39]
def qnT:List VOper:=[z4 5 0]
def qnS:List VOper:=[z0 40 5,z1 41 2 2,z2 42 1 41,zC 43 42,zB 44 40 43]
def qzl:List VOper:=[z1 47 2 2,zD 48 1 47 [0],z0 49 5,z5 50 3 48 49 [1,2],zI 51 3 50 [3],z1 52 2 3,zD 53 1 52 [5],z0 54 5,z5 55 3 53 54 [6,7],zI 56 3 55 [8],zF 57 3 51 56 [4,9],zz 58 57 [10]]
def qzk:List VOper:=[z1 59 2 2,zD 60 1 59 [0],z0 61 5,z5 62 3 60 61 [1,2],zI 63 3 62 [3],z1 64 2 3,zD 65 1 64 [5],z0 66 5,z5 67 3 65 66 [6,7],zI 68 3 67 [8],zF 69 84 63 68 [4,9],zM 4 69 [0,1,2,3,4,5,6,7,8,9,10]]
def qnR:List VOper:=[z0 45 5,z6 46 45 1,z0 5 46]
def qCu:VCode:=(.seq (.seq (yR 0 [2,3,5,44] qnS) (.cond (.t 44) .skip (.exit 0))) (.seq (.block 1 (.seq (yT 0 [2,3,5,58] qzl) (.cond (.t 58) (.seq (yT 0 [4] qzk) .ret) .skip))) (yR 0 [2,3,5] qnR)))
def qgF:List VOper:=[z7 4]
def v84:VFn:=⟨2,[.tmp 4],(.seq (yR 2 [2,3] qn0) (.seq (.seq (yR 0 [2,3,10] qnZ) (.cond (.t 10) (.seq (yR 0 [4] qnY) .ret) .skip)) (.seq (.seq (yR 0 [2,3,20] qnX) (.cond (.t 20) (.seq (yR 0 [4] qnW) .ret) .skip)) (.seq (.seq (yR 0 [2,3,32] qnV) (.cond (.t 32) (.seq (yR 0 [4] qnU) .ret) .skip)) (.seq (.seq (yR 0 [2,3,5] qnT) (.block 0 (.loop [2,3,5] qCu))) (.seq (yR 0 [4] qgF) .ret))))))⟩
def qLp:List VOper:=[z4 2 0]
def qLo:List VOper:=[z0 3 0]
def qLn:List VOper:=[z4 2 1]
def qLm:List VOper:=[z4 2 0]
def v85:VFn:=⟨1,[.tmp 2],(.seq (yR 0 [0] qLp) (.seq (.seq (yR 0 [3] qLo) (.cond (.t 3) (.seq (yR 0 [2] qLn) .ret) .skip)) (.seq (yR 0 [2] qLm) .ret)))⟩
def qGG:List VOper:=[zN 1 0 0,z7 2]
def qGF:List VOper:=[z3 3 3 1,zL 4 110 3,zC 5 4,zZ 6 5 0,z0 2 6]
def qKm:VFn:=⟨1,[.tmp 2],(.seq (yR 1 [1] qGG) (.seq (yR 0 [2] qGF) .ret))⟩
def qGE:List VOper:=[zN 1 0 0,z7 2]
def qGD:List VOper:=[z3 3 3 1,zL 4 104 3,zC 5 4,zZ 6 5 0,z0 2 6]
def qKl:VFn:=⟨1,[.tmp 2],(.seq (yR 1 [1] qGE) (.seq (yR 0 [2] qGD) .ret))⟩
def qGC:List VOper:=[zN 1 0 0,za 2]
def qGB:List VOper:=[z0X 4 1 0 0,⟨some 3,.alloc 0 [.sl .nil []],none,[]⟩,z8 1 3 4]
def qGA:List VOper:=[z3 5 3 1,z0y 6 105 3,zY 7 25 5 6]
def qGz:List VOper:=[z2 8 1 3,z0 2 8]
def qKk:VFn:=⟨1,[.tmp 2],(.seq (yR 1 [1] qGC) (.seq (yR 1 [1,3] qGB) (.seq (yR 0 [3] qGA) (.seq (yR 0 [2] qGz) .ret))))⟩
def qAx:List VOper:=[zN 2 0 0]
def qAw:List VOper:=[z3 3 3 2,zL 4 75 3]
def qAv:List VOper:=[z2 5 1 1,z1 6 1 2,z2 7 1 6,zE 8 106 5 7,z8 1 1 8]
def qHX:VFn:=⟨2,[],(.seq (yR 1 [1,2] qAx) (.seq (yR 0 [1,2,4] qAw) (.cond (.t 4) (yR 0 [] qAv) .skip)))⟩
def qMv:List VOper:=[zN 3 0 1,za 4]
def qMu:List VOper:=[z0 7 0,zL 8 107 7,z0 5 8]
def qMt:List VOper:=[z0 9 0,z2 10 1 3,zE 11 54 9 10]
def qMs:List VOper:=[z0 12 5,z0 4 12]
def qMr:List VOper:=[z0 13 0,z0y 14 108 3,zY 15 47 13 14,z0 6 15]
def qMq:List VOper:=[z0 16 6,z0Y 17 16 0]
def qMp:List VOper:=[z0 18 0,zC 19 18,z0 6 19]
def qMo:List VOper:=[z0 20 5,z0 21 6,z2 22 1 3,⟨some 23,.buildSlice 1 (.int .i64 0) 1 [(0,.t 22)],none,[]⟩,z0x 24 109 20 21 23,z0 4 24]
def qOD:VFn:=⟨2,[.tmp 4],(.seq (yR 1 [0,3] qMv) (.seq (yR 0 [0,3,5] qMu) (.seq (.seq (yR 0 [0,3,5,11] qMt) (.cond (.t 11) (.seq (yR 0 [4] qMs) .ret) .skip)) (.seq (yR 0 [0,3,5,6] qMr) (.seq (.seq (yR 0 [0,3,5,6,17] qMq) (.cond (.t 17) (yR 0 [3,5,6] qMp) .skip)) (.seq (yR 0 [4] qMo) .ret))))))⟩
def qMn:List VOper:=[za 2]
def qMm:List VOper:=[z0 3 0,⟨some 4,.eqNil false (.t 3),none,[]⟩]
def qMl:List VOper:=[za 2]
def qMk:List VOper:=[z0X 5 1 0 0,z0 6 0,zj 7 1 8 5 6,z0 2 7]
def qOC:VFn:=⟨1,[.tmp 2],(.seq (yR 0 [0] qMn) (.seq (.seq (yR 0 [0,4] qMm) (.cond (.t 4) (.seq (yR 0 [2] qMl) .ret) .skip)) (.seq (yR 0 [2] qMk) .ret)))⟩
def qGy:List VOper:=[z7 3]
def qGx:List VOper:=[z0 4 0,z2 5 1 1,z0G 6 4 5,z0 3 6]
def qFH:VFn:=⟨2,[.tmp 3],(.seq (yR 0 [0,1] qGy) (.seq (yR 0 [3] qGx) .ret))⟩
def qGw:List VOper:=[zN 1 0 0,za 2]
def qGv:List VOper:=[z3 3 3 1,z0X 4 1 0 0,zE 5 111 3 4,z0 2 5]
def qKj:VFn:=⟨1,[.tmp 2],(.seq (yR 1 [1] qGw) (.seq (yR 0 [2] qGv) .ret))⟩
def qlc:List VOper:=[zN 2 0 0,za 4]
def qlb:List VOper:=[z1 6 0 2,z2 7 1 6,z0P 8 7]
def qla:List VOper:=[z0 9 1,z1 10 1 2,z2 11 1 10,zE 12 112 9 11,z0 1 12]
def qk9:List VOper:=[z4 5 0]
def qk8:List VOper:=[z0 13 5,z1 14 2 2,z2 15 1 14,zC 16 15,zB 17 13 16]
def qk6:List VOper:=[z1 20 2 2,z2 21 1 20,z0 22 5,zP 23 3 21 22,z3 24 3 23,z0 25 1,zE 26 111 24 25,z0 1 26]
def qk7:List VOper:=[z0 18 5,z6 19 18 1,z0 5 19]
def qu4:VCode:=(.seq (.seq (yR 0 [1,2,5,17] qk8) (.cond (.t 17) .skip (.exit 0))) (.seq (.block 1 (yR 0 [1,2,5] qk6)) (yR 0 [1,2,5] qk7)))
def qk5:List VOper:=[z0 27 1,z0 4 27]
def qDV:VFn:=⟨2,[.tmp 4],(.seq (yR 1 [1,2] qlc) (.seq (.seq (yR 0 [1,2,8] qlb) (.cond (.t 8) (yR 0 [1,2] qla) .skip)) (.seq (.seq (yR 0 [1,2,5] qk9) (.block 0 (.loop [1,2,5] qu4))) (.seq (yR 0 [4] qk5) .ret))))⟩
def qk4:List VOper:=[za 4]
def qk3:List VOper:=[z0 7 0,z0 8 1,zE 9 53 7 8]
def qk2:List VOper:=[z0X 10 1 0 0,z0 11 0,zj 12 1 8 10 11,z0 4 12]
def qk1:List VOper:=[z4 5 0]
def qk0:List VOper:=[z0 13 5,z0 14 0,zC 15 14,zB 16 13 15,z0 17 16,zG 18 0 17,zG 19 5 17,z0h 20 1 18 19 17,zb 21 1 20 17,zG 22 1 17,z0o 23 21 22 17,zA 24 17 23]
def qkZ:List VOper:=[z0 25 5,z6 26 25 1,z0 5 26]
def qnk:VCode:=(.seq (.seq (yR 0 [0,1,5,24] qk0) (.cond (.t 24) .skip (.exit 0))) (.block 1 (yR 0 [0,1,5] qkZ)))
def qkY:List VOper:=[z0X 27 1 0 0,z0 28 0,z0 29 5,⟨some 30,.slice false 1 (.t 28) none (some (.t 29)),none,[]⟩,zj 31 1 8 27 30,z0 6 31]
def qkX:List VOper:=[z0 32 6,z0 33 1,⟨some 34,.buildSlice 1 (.int .i64 0) 1 [(0,.t 33)],none,[]⟩,zj 35 1 8 32 34,z0 6 35]
def qkW:List VOper:=[z0 36 6,z0 37 0,z0 38 5,⟨some 39,.slice false 1 (.t 37) (some (.t 38)) none,none,[]⟩,zj 40 1 8 36 39,z0 4 40]
def qFG:VFn:=⟨2,[.tmp 4],(.seq (yR 0 [0,1] qk4) (.seq (.seq (yR 0 [0,1,9] qk3) (.cond (.t 9) (.seq (yR 0 [4] qk2) .ret) .skip)) (.seq (yR 0 [0,1,5] qk1) (.seq (.block 0 (.loop [0,1,5] qnk)) (.seq (yR 0 [0,1,5,6] qkY) (.seq (yR 0 [0,5,6] qkX) (.seq (yR 0 [4] qkW) .ret)))))))⟩
def qg2:List VOper:=[zN 3 0 1,z4 4 0]
def qg1:List VOper:=[z4 5 1]
def qg0:List VOper:=[z0 7 0,z1 8 0 3,z2 9 1 8,zE 10 33 7 9,z0 11 10,zf 12 2 3 11,zb 13 1 12 11,z0Q 14 13 11,z0k 15 14 0 11,zA 16 11 15]
def qgZ:List VOper:=[z1 17 2 3,z2 18 1 17,zC 19 18,zl 20 19 1,z0 5 20]
def qgY:List VOper:=[z4 6 0]
def qgX:List VOper:=[z0 21 6,z1 22 2 3,z2 23 1 22,zC 24 23,zB 25 21 24]
def qgV:List VOper:=[z0 28 5,z0 29 0,z1 30 2 3,z2 31 1 30,z0 32 6,zP 33 3 31 32,z3 34 3 33,zE 35 117 29 34,zd 36 28 35,z0 5 36]
def qgW:List VOper:=[z0 26 6,z6 27 26 1,z0 6 27]
def qu3:VCode:=(.seq (.seq (yR 0 [0,3,5,6,25] qgX) (.cond (.t 25) .skip (.exit 0))) (.seq (.block 1 (yR 0 [0,3,5,6] qgV)) (yR 0 [0,3,5,6] qgW)))
def qgU:List VOper:=[z0 37 5,z0 4 37]
def qyS:VFn:=⟨2,[.tmp 4],(.seq (yR 1 [0,3] qg2) (.seq (yR 0 [0,3,5] qg1) (.seq (.seq (yR 0 [0,3,5,16] qg0) (.cond (.t 16) (yR 0 [0,3,5] qgZ) .skip)) (.seq (.seq (yR 0 [0,3,5,6] qgY) (.block 0 (.loop [0,3,5,6] qu3))) (.seq (yR 0 [4] qgU) .ret)))))⟩
def qgT:List VOper:=[zN 3 0 1,z4 4 0]
def qgS:List VOper:=[z4 5 1]
def qgR:List VOper:=[z0 8 0,z1 9 0 3,z2 10 1 9,zE 11 34 8 10,z0 12 11,zf 13 2 3 12,zb 14 1 13 12,z0Q 15 14 12,z0k 16 15 0 12,zA 17 12 16]
def qgQ:List VOper:=[z1 18 2 3,z2 19 1 18,zC 20 19,zl 21 20 1,z0 5 21]
def qgP:List VOper:=[z1 22 2 3,z2 23 1 22,zC 24 23,z4 25 0]
def qgO:List VOper:=[zB 26 25 24]
def qgN:List VOper:=[zP 27 3 23 25,z3 28 3 27,z9 7 0 0 0,z8 3 7 28]
def qgM:List VOper:=[z0 29 5,z0 30 0,z3 31 3 7,zE 32 118 30 31,zd 33 29 32,z0 5 33]
def qgL:List VOper:=[z6 34 25 1,z0 25 34]
def qu2:VCode:=(.seq (yR 0 [0,5,23,24,25,26] qgO) (.seq (.cond (.t 26) .skip (.exit 0)) (.seq (.block 1 (.seq (yR 1 [0,5,7,23,24,25] qgN) (yR 0 [0,5,23,24,25] qgM))) (yR 0 [0,5,23,24,25] qgL))))
def qgK:List VOper:=[z0 35 5,z0 4 35]
def qyR:VFn:=⟨2,[.tmp 4],(.seq (yR 1 [0,3] qgT) (.seq (yR 0 [0,3,5] qgS) (.seq (.seq (yR 0 [0,3,5,17] qgR) (.cond (.t 17) (yR 0 [0,3,5] qgQ) .skip)) (.seq (.seq (yR 0 [0,5,23,24,25] qgP) (.block 0 (.loop [0,5,23,24,25] qu2))) (.seq (yR 0 [4] qgK) .ret)))))⟩
def qGu:List VOper:=[z7 2]
def qGt:List VOper:=[z0 3 0,zC 4 3,z0D 5 4 1048576,z0 2 5]
def qKi:VFn:=⟨1,[.tmp 2],(.seq (yR 0 [0] qGu) (.seq (yR 0 [2] qGt) .ret))⟩
def qGs:List VOper:=[za 2,za 3,z9 4 0 0 0]
def qGr:List VOper:=[z0 7 0,zy 8 156 7,z0 5 8]
def qGq:List VOper:=[z0 9 5,z0a 10 9 157 9,z0 6 10]
def qGp:List VOper:=[z0E 11 155,z0 12 6,z0 13 5,z0a 14 13 161 13,z0 2 11,z0 3 12,z8 3 4 14]
def qKh:VFn:=⟨1,[.tmp 2,.tmp 3,.cell 4 true 3],(.seq (yR 1 [0,4] qGs) (.seq (yR 0 [4,5] qGr) (.seq (yR 0 [4,5,6] qGq) (.seq (yR 0 [2,3,4] qGp) .ret))))⟩
def qGo:List VOper:=[zN 5 0 2,z9 6 1 0 0]
def qGn:List VOper:=[z0 7 0,z0 8 1,z3 9 3 5,zE 10 168 8 9,zE 11 169 7 10,z8 3 6 11]
def qKg:VFn:=⟨3,[.cell 6 true 3],(.seq (yR 2 [0,1,5,6] qGo) (.seq (yR 0 [6] qGn) .ret))⟩
def qAu:List VOper:=[z9 4 0 0 0]
def qAt:List VOper:=[z0 8 0,z0 9 1,zE 10 148 8 9,z0 7 10,z03 11 7 0,z03 12 7 1,z9 5 0 0 0,z8 3 5 11,z0 6 12]
def qAs:List VOper:=[z0 13 6,z0S 14 13]
def qAr:List VOper:=[z0 15 1,zL 16 149 15,z8 3 4 16]
def qAq:List VOper:=[z3 17 3 5,zL 18 150 17,z8 3 4 18]
def qHW:VFn:=⟨2,[.cell 4 true 3],(.seq (yR 1 [0,1,4] qAu) (.seq (yR 1 [1,4,5,6] qAt) (.seq (.seq (yR 0 [1,4,5,14] qAs) (.cond (.t 14) (.seq (yR 0 [4] qAr) .ret) .skip)) (.seq (yR 0 [4] qAq) .ret))))⟩
def qqa:List VOper:=[zN 1 0 0,z9 2 1 0 0]
def qp9:List VOper:=[z1 5 0 1,z2 6 1 5,z1 7 1 1,z2 8 1 7,z0b 9 0 0 0 1 6 1 1 8,z9 3 0 0 0,z8 3 3 9]
def qp8:List VOper:=[z4 4 0]
def qp7:List VOper:=[z0 10 4,z1 11 2 1,z2 12 1 11,zC 13 12,zB 14 10 13]
def qAp:List VOper:=[z1 17 2 3,zD 18 1 17 [0],z1 19 2 1,zD 20 1 19 [2],z0 21 4,z5 22 3 20 21 [3,4],zI 23 3 22 [5],z0p 24 146 23 [6],⟨some 25,.buildSlice 3 (.agg [.int .i64 0,.int .i64 0,.sl .nil []]) 1 [(0,.t 24)],none,[7]⟩,⟨some 26,.append 3 40 (.t 18) (.t 25),none,[1,7,8]⟩,zc 27 2 3 [0,1,2,3,4,5,6,7,8,9],zW 1 27 26 [0,1,2,3,4,5,6,7,8,9,10]]
def qp6:List VOper:=[z0 15 4,z6 16 15 1,z0 4 16]
def qu1:VCode:=(.seq (.seq (yR 0 [1,2,3,4,14] qp7) (.cond (.t 14) .skip (.exit 0))) (.seq (.block 1 (yT 0 [1,2,3,4] qAp)) (yR 0 [1,2,3,4] qp6)))
def qp5:List VOper:=[z3 28 3 3,z8 3 2 28]
def qHV:VFn:=⟨1,[.cell 2 true 3],(.seq (yR 2 [1,2] qqa) (.seq (yR 1 [1,2,3] qp9) (.seq (.seq (yR 0 [1,2,3,4] qp8) (.block 0 (.loop [1,2,3,4] qu1))) (.seq (yR 0 [2] qp5) .ret))))⟩
def qGm:List VOper:=[z9 2 0 0 0]
def qGl:List VOper:=[z0 3 0,z0j 4 0 0 0 1 1 1 3,z8 3 2 4]
def qKf:VFn:=⟨1,[.cell 2 true 3],(.seq (yR 1 [0,2] qGm) (.seq (yR 0 [2] qGl) .ret))⟩
def qp4:List VOper:=[z9 4 0 0 0,z7 5]
def qp3:List VOper:=[z0 8 0,zC 9 8,z4 10 0]
def qt2:List VOper:=[zB 11 10 9]
def qt1:List VOper:=[zP 12 4 8 10,z3 13 4 12,⟨some 7,.alloc 0 [.int .i64 0,.int .i64 0,.int .i64 0,.sl .nil []],none,[]⟩,z8 4 7 13]
def qt0:List VOper:=[z1 14 0 7,z2 15 1 14,z0 16 1,z0l 17 15 16]
def qtZ:List VOper:=[z1 18 1 7,z3 19 3 18,z8 3 4 19,z07 5]
def qtY:List VOper:=[z6 20 10 1,z0 10 20]
def qq4:VCode:=(.seq (yR 0 [1,4,8,9,10,11] qt2) (.seq (.cond (.t 11) .skip (.exit 0)) (.seq (.block 1 (.seq (yR 1 [1,4,7,8,9,10] qt1) (.seq (yR 0 [1,4,7,8,9,10,17] qt0) (.cond (.t 17) (.seq (yR 0 [4,5] qtZ) .ret) .skip)))) (yR 0 [1,4,8,9,10] qtY))))
def qkV:List VOper:=[⟨some 21,.build [.int .i64 0,.int .i64 0,.sl .nil []] [],none,[]⟩,z8 3 4 21,z7 5]
def qKe:VFn:=⟨2,[.cell 4 true 3,.tmp 5],(.seq (yR 1 [0,1,4] qp4) (.seq (.seq (yR 0 [1,4,8,9,10] qp3) (.block 0 (.loop [1,4,8,9,10] qq4))) (.seq (yR 0 [4,5] qkV) .ret)))⟩
def qGk:List VOper:=[z9 2 0 0 0]
def qGj:List VOper:=[z0 3 0,z0j 4 0 0 0 1 1 1 3,z8 3 2 4]
def qKd:VFn:=⟨1,[.cell 2 true 3],(.seq (yR 1 [0,2] qGk) (.seq (yR 0 [2] qGj) .ret))⟩
def qGi:List VOper:=[zN 1 0 0,z9 2 1 0 0]
def qGh:List VOper:=[z1 3 2 1,z2 4 1 3,zL 5 151 4,z1 6 2 1,z8 1 6 5]
def qGg:List VOper:=[z3 7 3 1,z8 3 2 7]
def qKc:VFn:=⟨1,[.cell 2 true 3],(.seq (yR 2 [1,2] qGi) (.seq (yR 0 [1,2] qGh) (.seq (yR 0 [2] qGg) .ret)))⟩
def qtX:List VOper:=[za 2]
def qtW:List VOper:=[z0A 6 3 0 0 0,z0 3 6]
def qtV:List VOper:=[z0 7 0,zC 8 7,z4 9 0]
def qAo:List VOper:=[zB 10 9 8]
def qAn:List VOper:=[zP 11 3 7 9,z3 12 3 11,z9 5 0 0 0,z8 3 5 12]
def qAm:List VOper:=[z0 13 3,z3 14 3 5,zL 15 150 14,zk 16 3 0 0 1 0 15,zj 17 3 40 13 16,z0 3 17]
def qAl:List VOper:=[z6 18 9 1,z0 9 18]
def qu0:VCode:=(.seq (yR 0 [3,7,8,9,10] qAo) (.seq (.cond (.t 10) .skip (.exit 0)) (.seq (.block 1 (.seq (yR 1 [3,5,7,8,9] qAn) (yR 0 [3,7,8,9] qAm))) (yR 0 [3,7,8,9] qAl))))
def qp2:List VOper:=[z0 19 3,z0 2 19]
def qKb:VFn:=⟨1,[.tmp 2],(.seq (yR 0 [0] qtX) (.seq (yR 0 [0,3] qtW) (.seq (.seq (yR 0 [3,7,8,9] qtV) (.block 0 (.loop [3,7,8,9] qu0))) (.seq (yR 0 [2] qp2) .ret))))⟩
def qgJ:List VOper:=[zN 3 0 1,z9 4 1 0 0]
def qgI:List VOper:=[z1 9 0 3,z2 10 1 9,z1 11 1 3,z2 12 1 11,z0b 13 0 0 0 1 10 1 1 12,z9 5 0 0 0,z8 3 5 13]
def qgH:List VOper:=[z4 6 0]
def qi2:List VOper:=[z0 14 6,z1 15 2 3,z2 16 1 15,zC 17 16,zB 18 14 17]
def qi0:List VOper:=[z0 21 0,z1 22 2 3,z2 23 1 22,z0 24 6,zP 25 3 23 24,z3 26 3 25,zE 27 153 21 26,z9 7 0 0 0,z8 3 7 27]
def qfh:List VOper:=[z0 45 0,z1 46 0 3,z2 47 1 46,zE 48 33 45 47,z0S 49 48,z0 44 49]
def qfg:List VOper:=[z1 50 2 5,z2 51 1 50,z3 52 3 7,zk 53 3 0 0 1 0 52,zj 54 3 40 51 53,z1 55 2 5,z8 1 55 54]
def qff:List VOper:=[z1 57 0 7,z2 58 1 57,z1 59 0 3,z2 60 1 59,z0W 61 58 60,z0 56 61]
def qfe:List VOper:=[z1 62 2 5,z2 63 1 62,z3 64 3 7,zY 65 154 63 64,z1 66 2 5,z8 1 66 65]
def qiZ:List VOper:=[z4 8 0]
def qiY:List VOper:=[z0 28 8,z1 29 2 7,z2 30 1 29,zC 31 30,zB 32 28 31]
def qAk:List FOper:=[
 .one (z1 35 2 5),.one (zD 36 1 35 [0]),.one (z1 37 2 7),
 .el 38 37 39 (.t 8) 40 3 41 [2] [] [3,4] [5],.one ⟨some 42,.call false (.c (.fn 154 [])) [.t 36,.t 41],none,[1,6]⟩,.one (zc 43 2 5 [0,1,2,3,4,5,6,7]),.one (zW 1 43 42 [0,1,2,3,4,5,6,7,8])]
def qiX:List VOper:=[z0 33 8,z6 34 33 1,z0 8 34]
def quZ:VCode:=(.seq (.seq (yR 0 [0,3,4,5,6,7,8,32] qiY) (.cond (.t 32) .skip (.exit 3))) (.seq (.block 4 (.regionF true 0 [0,3,4,5,6,7,8] qAk)) (yR 0 [0,3,4,5,6,7,8] qiX)))
def qi1:List VOper:=[z0 19 6,z6 20 19 1,z0 6 20]
def qjo:VCode:=(.seq (.seq (yR 0 [0,3,4,5,6,18] qi2) (.cond (.t 18) .skip (.exit 0))) (.seq (.block 1 (.seq (yR 1 [0,3,4,5,6,7] qi0) (.block 2 (.seq (yR 0 [0,3,4,5,6,7,44] qfh) (.cond (.t 44) (yR 0 [0,3,4,5,6] qfg) (.seq (yR 0 [0,3,4,5,6,7,56] qff) (.cond (.t 56) (yR 0 [0,3,4,5,6] qfe) (.seq (yR 0 [0,3,4,5,6,7,8] qiZ) (.block 3 (.loop [0,3,4,5,6,7,8] quZ)))))))))) (yR 0 [0,3,4,5,6] qi1)))
def qeH:List VOper:=[z3 67 3 5,z8 3 4 67]
def qKa:VFn:=⟨2,[.cell 4 true 3],(.seq (yR 2 [0,3,4] qgJ) (.seq (yR 1 [0,3,4,5] qgI) (.seq (.seq (yR 0 [0,3,4,5,6] qgH) (.block 0 (.loop [0,3,4,5,6] qjo))) (.seq (yR 0 [4] qeH) .ret))))⟩
def qp1:List VOper:=[zN 3 0 1,za 4]
def qp0:List VOper:=[z4 5 0]
def qAj:List VOper:=[z0 7 5,z0 8 0,z0C 9 8 [1],z0F 10 7 9 [0,2],zM 11 10 [3],zh 12 3 3 11 [4],zQ 13 0 11 [4],zQ 14 5 11 [4],zX 15 3 13 14 11 [4,6,7],zh 16 3 15 11 [4,8],z04 17 84 12 16 11 [4,5,9],⟨some 18,.not (.t 17),some (11,true),[4,10]⟩,z05 19 11 18 [4,11]]
def qtU:List VOper:=[z0 20 5,z6 21 20 1,z0 5 21]
def qnj:VCode:=(.seq (.seq (yT 0 [0,3,5,19] qAj) (.cond (.t 19) .skip (.exit 0))) (.block 1 (yR 0 [0,3,5] qtU)))
def qpZ:List FOper:=[
 .one (z0A 22 3 0 0 0),
 .sl 23 0 24 (.t 5) 25 3 none (some (.t 24)) [] [] [],.one (zj 26 3 40 22 25),.one (z0 6 26)]
def qpY:List VOper:=[z0 27 6,z3 28 3 3,zk 29 3 0 0 1 0 28,zj 30 3 40 27 29,z0 6 30]
def qpX:List FOper:=[
 .one (z0 31 6),
 .sl 32 0 33 (.t 5) 34 3 (some (.t 33)) none [] [] [],.one (zj 35 3 40 31 34),.one (z0 4 35)]
def qJ9:VFn:=⟨2,[.tmp 4],(.seq (yR 1 [0,3] qp1) (.seq (yR 0 [0,3,5] qp0) (.seq (.block 0 (.loop [0,3,5] qnj)) (.seq (.regionF false 0 [0,3,5,6] qpZ) (.seq (yR 0 [0,5,6] qpY) (.seq (.regionF false 0 [4] qpX) .ret))))))⟩
def qGf:List VOper:=[za 0]
def qGe:List VOper:=[⟨some 1,.build [.str ⟨#[]⟩,.int .i64 0,.bool false] [(0,1,.c (.d (.str ⟨#[116,116]⟩)))],none,[]⟩,⟨some 2,.build [.str ⟨#[]⟩,.int .i64 0,.bool false] [(0,1,.c (.d (.str ⟨#[97]⟩)))],none,[]⟩,⟨some 3,.build [.str ⟨#[]⟩,.int .i64 0,.bool false] [(0,1,.c (.d (.str ⟨#[98]⟩)))],none,[]⟩,⟨some 4,.build [.str ⟨#[]⟩,.int .i64 0,.bool false] [(0,1,.c (.d (.str ⟨#[103]⟩))),(1,1,.c (.d (.int .i64 1)))],none,[]⟩,⟨some 5,.build [.str ⟨#[]⟩,.int .i64 0,.bool false] [(0,1,.c (.d (.str ⟨#[104]⟩))),(1,1,.c (.d (.int .i64 2)))],none,[]⟩,⟨some 6,.build [.str ⟨#[]⟩,.int .i64 0,.bool false] [(0,1,.c (.d (.str ⟨#[102]⟩))),(1,1,.c (.d (.int .i64 2))),(2,1,.c (.d (.bool true)))],none,[]⟩,⟨some 7,.build [.str ⟨#[]⟩,.int .i64 0,.bool false] [(0,1,.c (.d (.str ⟨#[107]⟩))),(1,1,.c (.d (.int .i64 2))),(2,1,.c (.d (.bool true)))],none,[]⟩,⟨some 8,.buildSlice 3 (.agg [.str ⟨#[]⟩,.int .i64 0,.bool false]) 7 [(0,.t 1),(1,.t 2),(2,.t 3),(3,.t 4),(4,.t 5),(5,.t 6),(6,.t 7)],none,[]⟩,z0 0 8]
def qJ8:VFn:=⟨0,[.tmp 0],(.seq (yR 0 [] qGf) (.seq (yR 0 [0] qGe) .ret))⟩
def qpW:List VOper:=[⟨some 2,.move (.c .nilp),none,[]⟩]
def qpV:List VOper:=[z0 5 0,zC 6 5,⟨some 7,.bin .add (.c (.d (.int .i64 27064))) (.t 6),none,[]⟩,z0 3 7]
def qpU:List VOper:=[z4 4 0]
def qtT:List VOper:=[z0 8 4,z0 9 0,zC 10 9,zB 11 8 10,z0 12 11,zG 13 4 12,⟨some 14,.bin .lss (.t 13) (.c (.d (.int .i64 4000))),some (12,true),[]⟩,zA 15 12 14]
def qtR:List VOper:=[z0 18 3,z06 19 18 131,z0 20 0,z0 21 4,zP 22 1 20 21,z2 23 1 22,z0g 24 23,zd 25 19 24,z6 26 25 7,⟨some 27,.bin .and (.t 26) (.c (.d (.int .i64 1073741823))),none,[]⟩,z0 3 27]
def qtS:List VOper:=[z0 16 4,z6 17 16 1,z0 4 17]
def qq3:VCode:=(.seq (.seq (yR 0 [0,3,4,15] qtT) (.cond (.t 15) .skip (.exit 0))) (.seq (.block 1 (yR 0 [0,3,4] qtR)) (yR 0 [0,3,4] qtS)))
def qpT:List VOper:=[z0 28 0,z0 29 3,⟨some 30,.build [.sl .nil [],.int .i64 0,.int .i64 0] [(0,1,.t 28),(2,1,.t 29)],none,[]⟩,zN 31 0 30,z0 2 31]
def qJ7:VFn:=⟨1,[.tmp 2],(.seq (yR 0 [0] qpW) (.seq (yR 0 [0,3] qpV) (.seq (.seq (yR 0 [0,3,4] qpU) (.block 0 (.loop [0,3,4] qq3))) (.seq (yR 1 [2] qpT) .ret))))⟩
def qkU:List VOper:=[za 2]
def qkT:List VOper:=[z0 4 0,zy 5 158 4,z0 3 5]
def qkS:List VOper:=[z0 6 0,zg 7 159 6 8]
def qkR:List VOper:=[zZ 9 7 0,z0 8 9]
def qkQ:List VOper:=[z0 10 3,z0 11 0,⟨some 12,.buildSlice 1 (.int .i64 0) 5 [(0,.c (.d (.int .i64 (-1)))),(1,.c (.d (.int .i64 0))),(2,.c (.d (.int .i64 2))),(3,.c (.d (.int .i64 9))),(4,.c (.d (.int .i64 100)))],none,[]⟩,zY 13 160 11 12,z0 14 0,z0a 15 14 161 14,⟨some 16,.build [.int .i64 0,.int .i64 0,.int .i64 0,.sl .nil []] [(0,1,.t 13),(1,3,.t 15)],none,[]⟩,⟨some 17,.buildSlice 4 (.agg [.int .i64 0,.int .i64 0,.int .i64 0,.sl .nil []]) 1 [(0,.t 16)],none,[]⟩,zj 18 4 48 10 17,z0 2 18]
def qkP:List VOper:=[zZ 20 7 1,z0 19 20]
def qkO:List VOper:=[z0 21 3,zC 22 21,z0D 23 22 0]
def qkN:List VOper:=[z0 24 3,z0 25 0,z0a 26 25 161 25,⟨some 27,.indexAddr 4 none (.t 24) (.c (.d (.int .i64 0))),none,[]⟩,z1 28 1 27,z8 3 28 26]
def qkM:List VOper:=[z0 29 3,z0 2 29]
def qyQ:VFn:=⟨1,[.tmp 2],(.seq (yR 0 [0] qkU) (.seq (yR 0 [0,3] qkT) (.seq (.seq (yR 0 [0,3,7] qkS) (.block 0 (.seq (yR 0 [0,3,7,8] qkR) (.cond (.t 8) (.seq (yR 0 [2] qkQ) .ret) (.seq (yR 0 [0,3,19] qkP) (.cond (.t 19) (.seq (yR 0 [0,3,23] qkO) (.cond (.t 23) (.ghost (.focR 3 [0]) (yR 0 [3] qkN)) .skip)) .skip)))))) (.seq (.ghost (.frzR 3 1 []) (yR 0 [2] qkM)) .ret))))⟩
def qpS:List VOper:=[za 2]
def qpR:List VOper:=[⟨some 6,.buildSlice 4 (.agg [.int .i64 0,.int .i64 0,.int .i64 0,.sl .nil []]) 0 [],none,[]⟩,z0 3 6]
def qpQ:List VOper:=[z4 4 0]
def qpP:List VOper:=[z0 7 4,z0Y 8 7 3]
def qtP:List VOper:=[z0 11 0,zg 12 162 11 3]
def qtO:List VOper:=[z0 13 0,zg 14 163 13 0,z9 5 0 0 0,z8 3 5 14]
def qtN:List VOper:=[z0 15 0,zg 16 162 15 3]
def qAi:List VOper:=[z0E 17 155,z0 18 0,⟨some 19,.callS 0 (.c (.fn 159 [])) [.t 18,.c (.d (.int .i64 2))],none,[0,1]⟩,⟨some 20,.bin .add (.c (.d (.int .i64 5))) (.t 19),none,[2]⟩,z0p 21 147 20 [2,3],⟨some 22,.loadS true 3 (.t 5) 0,none,[]⟩,⟨some 23,.buildSlice 3 (.agg [.int .i64 0,.int .i64 0,.sl .nil []]) 2 [(0,.t 21),(1,.t 22)],none,[4,5]⟩,⟨some 24,.call true (.c (.fn 164 [])) [.c (.d (.int .i64 5)),.t 23],none,[4,6]⟩,zF 25 153 17 24 [0,7],zW 3 5 25 [0,1,2,3,4,5,6,7,8]]
def qtM:List VOper:=[z0 26 3,z0 27 4,z3 28 3 5,⟨some 29,.build [.int .i64 0,.int .i64 0,.int .i64 0,.sl .nil []] [(0,1,.t 27),(1,3,.t 28)],none,[]⟩,⟨some 30,.buildSlice 4 (.agg [.int .i64 0,.int .i64 0,.int .i64 0,.sl .nil []]) 1 [(0,.t 29)],none,[]⟩,zj 31 4 48 26 30,z0 3 31]
def qtQ:List VOper:=[z0 9 4,z6 10 9 1,z0 4 10]
def ql6:VCode:=(.seq (.seq (yR 0 [0,3,4,8] qpP) (.cond (.t 8) .skip (.exit 0))) (.seq (.block 1 (.seq (.seq (yR 0 [0,3,4,12] qtP) (.cond (.t 12) (.exit 1) .skip)) (.seq (yR 1 [0,3,4,5] qtO) (.seq (.seq (yR 0 [0,3,4,5,16] qtN) (.cond (.t 16) (yT 0 [0,3,4,5] qAi) .skip)) (yR 0 [0,3,4] qtM))))) (yR 0 [0,3,4] qtQ)))
def qh4:List VOper:=[z0 32 3,z0 2 32]
def qJ6:VFn:=⟨1,[.tmp 2],(.seq (yR 0 [0] qpS) (.seq (yR 0 [0,3] qpR) (.seq (.seq (yR 0 [0,3,4] qpQ) (.block 0 (.loop [0,3,4] ql6))) (.seq (yR 0 [2] qh4) .ret))))⟩
def qGd:List VOper:=[z4 4 0]
def qGc:List VOper:=[z0 9 1,⟨some 10,.bin .leq (.t 9) (.c (.d (.int .i64 0))),none,[]⟩]
def qGb:List VOper:=[z4 4 0]
def qGa:List VOper:=[z0 11 1,⟨some 12,.bin .leq (.t 11) (.c (.d (.int .i64 256))),none,[]⟩]
def qF9:List VOper:=[z0 13 0,zy 14 165 13,z0 15 1,⟨some 16,.bin .rem (.t 14) (.t 15),none,[]⟩,z0 4 16]
def qF8:List VOper:=[z0 17 0,zy 18 165 17,z0 5 18]
def qF7:List VOper:=[z0 19 0,zy 20 165 19,z0 6 20]
def qF6:List VOper:=[z0 21 0,zy 22 165 21,z0 7 22]
def qF5:List VOper:=[z0 23 0,zy 24 165 23,z0 8 24]
def qF4:List VOper:=[z0 25 5,z06 26 25 16777216,z0 27 6,z06 28 27 65536,zd 29 26 28,z0 30 7,z06 31 30 256,zd 32 29 31,z0 33 8,zd 34 32 33,z0 35 1,⟨some 36,.bin .rem (.t 34) (.t 35),none,[]⟩,z0 4 36]
def qJ5:VFn:=⟨2,[.tmp 4],(.seq (yR 0 [0,1] qGd) (.seq (.seq (yR 0 [0,1,10] qGc) (.cond (.t 10) (.seq (yR 0 [4] qGb) .ret) .skip)) (.seq (.seq (yR 0 [0,1,12] qGa) (.cond (.t 12) (.seq (yR 0 [4] qF9) .ret) .skip)) (.seq (yR 0 [0,1,5] qF8) (.seq (yR 0 [0,1,5,6] qF7) (.seq (yR 0 [0,1,5,6,7] qF6) (.seq (yR 0 [1,5,6,7,8] qF5) (.seq (yR 0 [4] qF4) .ret))))))))⟩
def qF3:List VOper:=[z4 4 0]
def qF2:List VOper:=[z0 5 1,z0 6 0,z0 7 1,zC 8 7,zY 9 159 6 8,zP 10 1 5 9,z2 11 1 10,z0 4 11]
def qJ4:VFn:=⟨2,[.tmp 4],(.seq (yR 0 [0,1] qF3) (.seq (yR 0 [4] qF2) .ret))⟩
def qAh:List VOper:=[z9 2 0 0 0]
def qAg:List VOper:=[z0 6 0,zg 7 163 6 3,z9 3 3 0 0,z8 3 3 7]
def qAf:List VOper:=[z0 4 3]
def qAe:List VOper:=[z4 5 0]
def qmP:List VOper:=[z0 8 5,z0Y 9 8 3,z0 10 9,zG 11 4 10,⟨some 12,.nilCheck (.t 11),some (10,true),[]⟩,zf 13 2 12 10,zb 14 1 13 10,z0Q 15 14 10,z0k 16 15 0 10,zA 17 10 16,z0 18 17,zG 19 0 18,⟨some 20,.call false (.c (.fn 162 [])) [.t 19,.c (.d (.int .i64 2))],some (18,true),[]⟩,⟨some 21,.not (.t 20),some (18,true),[]⟩,zA 22 18 21]
def qpO:List VOper:=[z0 25 4,zp 26 25 [0],zc 27 2 26 [1],z16 28 1 27 0 [2],z0 29 0,z0 30 4,zp 31 30 [5],zc 32 2 31 [6],zD 33 1 32 [7],z0C 34 33 [8],⟨some 35,.callS 0 (.c (.fn 159 [])) [.t 29,.t 34],none,[4,9]⟩,z5 36 3 28 35 [3,10],zM 4 36 [0,1,2,3,4,5,6,7,8,9,10,11]]
def qtL:List VOper:=[z0 23 5,z6 24 23 1,z0 5 24]
def ql5:VCode:=(.seq (.seq (yR 0 [0,2,3,4,5,22] qmP) (.cond (.t 22) .skip (.exit 0))) (.seq (.block 1 (.ghost (.focC 4 2 [0,2,3,4,5]) (yT 0 [0,2,3,4,5] qpO))) (yR 0 [0,2,3,4,5] qtL)))
def qkK:List VOper:=[z0 37 0,zg 38 159 37 12]
def qkJ:List VOper:=[zZ 40 38 0,z0 39 40]
def qAd:List VOper:=[z0 41 4,z0 42 0,⟨some 43,.buildSlice 1 (.int .i64 0) 5 [(0,.c (.d (.int .i64 (-2)))),(1,.c (.d (.int .i64 (-1)))),(2,.c (.d (.int .i64 0))),(3,.c (.d (.int .i64 5))),(4,.c (.d (.int .i64 7)))],none,[]⟩,zY 44 160 42 43,z0K 45 41,z1 46 0 45,z8 1 46 44]
def qh3:List VOper:=[zZ 48 38 1,z0 47 48]
def qr7:List VOper:=[z0 49 4,z0 50 0,⟨some 51,.buildSlice 1 (.int .i64 0) 4 [(0,.c (.d (.int .i64 (-1)))),(1,.c (.d (.int .i64 1))),(2,.c (.d (.int .i64 99))),(3,.c (.d (.int .i64 100)))],none,[]⟩,zY 52 160 50 51,z0K 53 49,z1 54 1 53,z8 1 54 52]
def qkL:List VOper:=[zZ 56 38 2,z0 55 56]
def qoh:List VOper:=[z0 57 4,zp 58 57 [0],zc 59 2 58 [1],z16 60 1 59 0 [2],z0 61 0,⟨some 62,.callS 0 (.c (.fn 166 [])) [.t 61,.c (.d (.int .i64 1)),.c (.d (.int .i64 2))],none,[4]⟩,z0C 63 60 [3],z0H 64 3 0 0 1 0 0 0]
def qgG:List VOper:=[⟨some 65,.append1 3 40 (.t 60) (.t 64) (.t 63) (.t 62) 66,none,[]⟩,z0K 67 57,z1 68 2 67,z8 1 68 65]
def qog:List VOper:=[zZ 70 38 3,z0 69 70]
def qr6:List VOper:=[z0 71 0,⟨some 72,.call false (.c (.fn 166 [])) [.t 71,.c (.d (.int .i64 3)),.c (.d (.int .i64 3))],none,[]⟩,z8 3 2 72]
def qof:List VOper:=[z3 73 3 3,z8 3 2 73]
def qJ3:VFn:=⟨1,[.cell 2 true 3],(.seq (yR 1 [0,2] qAh) (.seq (yR 4 [0,2,3] qAg) (.seq (yR 0 [0,2,3,4] qAf) (.seq (.seq (yR 0 [0,2,3,4,5] qAe) (.block 0 (.loop [0,2,3,4,5] ql5))) (.seq (.seq (yR 0 [0,2,3,4,38] qkK) (.block 2 (.seq (yR 0 [0,2,3,4,38,39] qkJ) (.cond (.t 39) (yR 0 [2,3] qAd) (.seq (yR 0 [0,2,3,4,38,47] qh3) (.cond (.t 47) (yR 0 [2,3] qr7) (.seq (yR 0 [0,2,3,4,38,55] qkL) (.cond (.t 55) (.regionT 0 [2,3] qoh qgG) (.seq (yR 0 [0,2,3,69] qog) (.cond (.t 69) (.seq (yR 0 [2] qr6) .ret) .skip)))))))))) (.seq (.ghost (.frzB 3 2 [2]) (yR 0 [2] qof)) .ret))))))⟩
def qF1:List VOper:=[z7 4]
def qF0:List VOper:=[z0 5 0,z0 6 1,zY 7 159 5 6,zZ 8 7 0,z0 4 8]
def qJ2:VFn:=⟨2,[.tmp 4],(.seq (yR 0 [0,1] qF1) (.seq (yR 0 [4] qF0) .ret))⟩
def qFZ:List VOper:=[z9 4 0 0 0]
def qFY:List VOper:=[z0E 5 155,z0 6 0,z0 7 1,⟨some 8,.call false (.c (.fn 166 [])) [.t 6,.c (.d (.int .i64 2)),.t 7],none,[]⟩,zE 9 153 5 8,z8 3 4 9]
def qJ1:VFn:=⟨2,[.cell 4 true 3],(.seq (yR 1 [0,1,4] qFZ) (.seq (yR 0 [4] qFY) .ret))⟩
def qFX:List VOper:=[z9 4 0 0 0]
def qFW:List VOper:=[z0 5 0,z0 6 1,z0b 7 0 0 0 1 5 2 1 6,z8 3 4 7]
def v164:VFn:=⟨2,[.cell 4 true 3],(.seq (yR 1 [0,1,4] qFX) (.seq (yR 0 [4] qFW) .ret))⟩
def qAc:List VOper:=[z4 2 0]
def qAb:List VOper:=[z0 4 0,z0 5 0,z0K 6 5,z1 7 2 6,z2 8 1 7,z06 9 8 6364136223846793005,z6 10 9 1442695040888963407,z0K 11 4,z1 12 2 11,z8 1 12 10]
def qAa:List VOper:=[z0 13 0,zp 14 13 [0],zc 15 2 14 [1],zD 16 1 15 [2],z0c 17 16 33 [3],z0 18 0,zp 19 18 [5],zc 20 2 19 [6],zD 21 1 20 [7],z0c 22 21 45 [8],⟨some 23,.bin .xor (.t 17) (.t 22),none,[4,9]⟩,z0d 24 23 255 [10],zM 3 24 [0,1,2,3,4,5,6,7,8,9,10,11]]
def qz9:List VOper:=[z0 25 0,zp 26 25 [0],zc 27 1 26 [1],zD 28 1 27 [2],z0 29 0,zp 30 29 [4],zc 31 0 30 [5],zD 32 1 31 [6],z0C 33 32 [7],z0F 34 28 33 [3,8]]
def qz8:List VOper:=[z0 35 3,z0 36 0,zp 37 36 [1],zc 38 0 37 [2],zD 39 1 38 [3],z0 40 0,zp 41 40 [5],zc 42 1 41 [6],zD 43 1 42 [7],z5 44 1 39 43 [4,8],zD 45 1 44 [9],⟨some 46,.conv (.kind .i64) (.t 45),none,[10]⟩,z02 47 35 46 [0,11],z0d 48 47 255 [12],zM 3 48 [0,1,2,3,4,5,6,7,8,9,10,11,12,13]]
def qz7:List VOper:=[z0 49 0,z0 50 0,z0K 51 50,z1 52 1 51,z2 53 1 52,z6 54 53 1,z0K 55 49,z1 56 1 55,z8 1 56 54]
def qz6:List VOper:=[z0 57 3,z0 2 57]
def qHT:VFn:=⟨1,[.tmp 2],(.seq (yR 0 [0] qAc) (.seq (yR 0 [0] qAb) (.seq (yT 0 [0,3] qAa) (.seq (.seq (yT 0 [0,3,34] qz9) (.cond (.t 34) (.seq (yT 0 [0,3] qz8) (yR 0 [3] qz7)) .skip)) (.seq (yR 0 [2] qz6) .ret)))))⟩
def qz5:List VOper:=[z9 6 0 0 0]
def qmO:List VOper:=[z0 9 1,zZ 10 9 0,z0 11 10,zO 12 0 11,⟨some 13,.call false (.c (.fn 162 [])) [.t 12,.c (.d (.int .i64 3))],some (11,false),[]⟩,zV 14 11 13]
def qpN:List VOper:=[z0 15 2,z0D 16 15 0,z0 17 16,zG 18 0 17,⟨some 19,.call false (.c (.fn 162 [])) [.t 18,.c (.d (.int .i64 2))],some (17,true),[]⟩,zA 20 17 19]
def qz4:List VOper:=[z0 21 0,z0 22 2,zY 23 159 21 22,zL 24 147 23,z8 3 6 24]
def qtK:List VOper:=[z0 25 0,zg 26 159 25 2,⟨some 27,.bin .add (.c (.d (.int .i64 1))) (.t 26),none,[]⟩,⟨some 28,.build [.int .i64 0,.int .i64 0,.sl .nil []] [(0,1,.t 27)],none,[]⟩,z8 3 6 28]
def qtJ:List VOper:=[z0 29 0,⟨some 30,.buildSlice 1 (.int .i64 0) 5 [(0,.c (.d (.int .i64 3))),(1,.c (.d (.int .i64 4))),(2,.c (.d (.int .i64 5))),(3,.c (.d (.int .i64 5))),(4,.c (.d (.int .i64 6)))],none,[]⟩,zY 31 160 29 30,z0 7 31]
def qtI:List VOper:=[z0 32 0,z0 33 1,zl 34 33 1,z0 35 2,z0t 36 166 32 34 35,zk 37 3 0 0 1 0 36,z0 8 37]
def qtH:List VOper:=[z0 38 7,z0D 39 38 3]
def qtG:List VOper:=[z0 40 8,z0 41 0,z0 42 1,zl 43 42 1,z0 44 2,z0t 45 166 41 43 44,zk 46 3 0 0 1 0 45,zj 47 3 40 40 46,z0 8 47]
def qtF:List VOper:=[z0 48 7,z0 49 8,zE 50 164 48 49,z8 3 6 50]
def qJ0:VFn:=⟨3,[.cell 6 true 3],(.seq (yR 1 [0,1,2,6] qz5) (.seq (.seq (yR 0 [0,1,2,6,14] qmO) (.cond (.t 14) (.seq (.seq (yR 0 [0,2,6,20] qpN) (.cond (.t 20) (.seq (yR 0 [6] qz4) .ret) .skip)) (.seq (yR 0 [6] qtK) .ret)) .skip)) (.seq (yR 0 [0,1,2,6,7] qtJ) (.seq (yR 0 [0,1,2,6,7,8] qtI) (.seq (.seq (yR 0 [0,1,2,6,7,8,39] qtH) (.cond (.t 39) (yR 0 [6,7,8] qtG) .skip)) (.seq (yR 0 [6] qtF) .ret))))))⟩
def qiW:List VOper:=[zN 3 0 1,z9 4 1 0 0]
def qiV:List VOper:=[z3 8 3 3,zL 9 75 8,z0 10 9,zf 11 2 3 10,zb 12 1 11 10,z0Q 13 12 10,z0L 14 13 0 10,zA 15 10 14]
def qiU:List VOper:=[z0 16 0,z1 17 1 3,z2 18 1 17,zE 19 144 16 18,z8 3 4 19]
def qiT:List VOper:=[z0A 20 3 0 0 0,z0 5 20]
def qiS:List VOper:=[z1 21 2 3,z2 22 1 21,zC 23 22,z4 24 0]
def qiR:List VOper:=[zB 25 24 23]
def qiQ:List VOper:=[zP 26 3 22 24,z3 27 3 26,z9 7 0 0 0,z8 3 7 27]
def qiP:List VOper:=[z0 28 5,z0 29 0,z3 30 3 7,zE 31 168 29 30,zk 32 3 0 0 1 0 31,zj 33 3 40 28 32,z0 5 33]
def qiO:List VOper:=[z6 34 24 1,z0 24 34]
def quY:VCode:=(.seq (yR 0 [0,3,4,5,22,23,24,25] qiR) (.seq (.cond (.t 25) .skip (.exit 0)) (.seq (.block 1 (.seq (yR 1 [0,3,4,5,7,22,23,24] qiQ) (yR 0 [0,3,4,5,22,23,24] qiP))) (yR 0 [0,3,4,5,22,23,24] qiO))))
def qiN:List VOper:=[z0 35 5,z1 36 2 3,z8 1 36 35]
def qfd:List VOper:=[z3 37 3 3,z8 3 4 37]
def qCY:VFn:=⟨2,[.cell 4 true 3],(.seq (yR 2 [0,3,4] qiW) (.seq (.seq (yR 0 [0,3,4,15] qiV) (.cond (.t 15) (.seq (yR 0 [4] qiU) .ret) .skip)) (.seq (yR 0 [0,3,4,5] qiT) (.seq (.seq (yR 0 [0,3,4,5,22,23,24] qiS) (.block 0 (.loop [0,3,4,5,22,23,24] quY))) (.seq (yR 0 [3,4] qiN) (.seq (yR 0 [4] qfd) .ret))))))⟩
def qiM:List VOper:=[zN 3 0 1,z9 4 1 0 0]
def qiL:List VOper:=[z0A 8 3 0 0 0,z0 5 8]
def qiK:List VOper:=[z1 9 2 3,z2 10 1 9,zC 11 10,z4 12 0]
def qpM:List VOper:=[zB 13 12 11]
def qpL:List VOper:=[zP 14 3 10 12,z3 15 3 14,z9 7 0 0 0,z8 3 7 15]
def qpK:List VOper:=[z0 16 0,z3 17 3 7,zE 18 169 16 17,z8 3 7 18]
def qpJ:List VOper:=[z0 19 0,z1 20 0 3,z2 21 1 20,zE 22 34 19 21,z0 23 22,zf 24 0 7 23,zb 25 1 24 23,zf 26 0 3 23,zb 27 1 26 23,z14 28 25 27 23,zA 29 23 28]
def qpI:List VOper:=[z0 30 5,z1 31 2 7,z2 32 1 31,zj 33 3 40 30 32,z0 5 33]
def qpH:List VOper:=[z0 34 5,z3 35 3 7,zk 36 3 0 0 1 0 35,zj 37 3 40 34 36,z0 5 37]
def qpG:List VOper:=[z6 38 12 1,z0 12 38]
def qhF:VCode:=(.seq (yR 0 [0,3,4,5,10,11,12,13] qpM) (.seq (.cond (.t 13) .skip (.exit 0)) (.seq (.block 1 (.seq (yR 1 [0,3,4,5,7,10,11,12] qpL) (.seq (yR 0 [0,3,4,5,7,10,11,12] qpK) (.seq (yR 0 [0,3,4,5,7,10,11,12,29] qpJ) (.cond (.t 29) (yR 0 [0,3,4,5,10,11,12] qpI) (yR 0 [0,3,4,5,10,11,12] qpH)))))) (yR 0 [0,3,4,5,10,11,12] qpG))))
def qeG:List VOper:=[z0 39 0,z1 40 0 3,z2 41 1 40,zE 42 34 39 41]
def qkI:List VOper:=[z0 43 5,⟨some 44,.call false (.c (.fn 170 [])) [.t 43,.c (.fn 6 [])],none,[]⟩]
def qkH:List VOper:=[z0 45 5,z1 46 2 3,z8 1 46 45]
def qkG:List VOper:=[z3 47 3 3,z8 3 4 47]
def qSH:VFn:=⟨2,[.cell 4 true 3],(.seq (yR 2 [0,3,4] qiM) (.seq (yR 0 [0,3,4,5] qiL) (.seq (.seq (yR 0 [0,3,4,5,10,11,12] qiK) (.block 0 (.loop [0,3,4,5,10,11,12] qhF))) (.seq (.seq (yR 0 [3,4,5,42] qeG) (.cond (.t 42) (yR 0 [3,4,5] qkI) .skip)) (.seq (yR 0 [3,4] qkH) (.seq (yR 0 [4] qkG) .ret))))))⟩
def qz3:List VOper:=[z0 4 0,z0 5 0,zC 6 5,z0 7 1,z0t 8 171 4 6 7]
def qFF:VFn:=⟨2,[],(yR 0 [] qz3)⟩
def qz2:List VOper:=[z4 6 20]
def qz1:List VOper:=[z0 10 6,z4 7 0,z0 8 10]
def qtE:List VOper:=[z0 11 8,z0 12 1,⟨some 13,.bin .leq (.t 11) (.t 12),none,[]⟩]
def qFV:List VOper:=[z0 14 0,z0 15 7,z0 16 8,z0 17 2,⟨some 18,.call false (.c (.fn 172 [])) [.t 14,.t 15,.t 16,.t 17],none,[]⟩]
def qFU:List VOper:=[z0 19 8,z0 7 19]
def qFT:List VOper:=[z0 20 8,z0 21 6,zd 22 20 21,z0 8 22]
def ql4:VCode:=(.seq (.seq (yR 0 [0,1,2,6,7,8,13] qtE) (.cond (.t 13) .skip (.exit 0))) (.block 1 (.seq (yR 0 [0,1,2,6,8] qFV) (.seq (yR 0 [0,1,2,6,7,8] qFU) (yR 0 [0,1,2,6,7,8] qFT)))))
def qzX:List VOper:=[z0 23 0,z0 24 7,z0 25 1,z0 26 2,⟨some 27,.call false (.c (.fn 172 [])) [.t 23,.t 24,.t 25,.t 26],none,[]⟩]
def qpF:List VOper:=[z0 28 6,z0 29 1,zB 30 28 29]
def qzW:List VOper:=[z0 31 6,⟨some 32,.bin .mul (.c (.d (.int .i64 2))) (.t 31),none,[]⟩,z4 7 0,z0 8 32]
def qzV:List VOper:=[z0 33 8,z0 34 1,⟨some 35,.bin .leq (.t 33) (.t 34),none,[]⟩]
def qz0:List VOper:=[z0 36 0,z0 37 7,z0 38 7,z0 39 6,zd 40 38 39,z0 41 8,z0 42 2,zq 43 173 36 37 40 41 42]
def qzZ:List VOper:=[z0 44 8,z0 7 44]
def qzY:List VOper:=[z0 45 8,z0 46 6,⟨some 47,.bin .mul (.c (.d (.int .i64 2))) (.t 46),none,[]⟩,zd 48 45 47,z0 8 48]
def qq2:VCode:=(.seq (.seq (yR 0 [0,1,2,6,7,8,35] qzV) (.cond (.t 35) .skip (.exit 4))) (.block 5 (.seq (yR 0 [0,1,2,6,8] qz0) (.seq (yR 0 [0,1,2,6,7,8] qzZ) (yR 0 [0,1,2,6,7,8] qzY)))))
def qkF:List VOper:=[z0 49 7,z0 50 6,zd 51 49 50,z0 9 51]
def qkE:List VOper:=[z0 52 9,z0 53 1,zB 54 52 53]
def qkD:List VOper:=[z0 55 0,z0 56 7,z0 57 9,z0 58 1,z0 59 2,zq 60 173 55 56 57 58 59]
def qkC:List VOper:=[z0 61 6,z06 62 61 2,z0 6 62]
def qjn:VCode:=(.seq (.seq (yR 0 [0,1,2,6,30] qpF) (.cond (.t 30) .skip (.exit 2))) (.block 3 (.seq (yR 0 [0,1,2,6,7,8] qzW) (.seq (.block 4 (.loop [0,1,2,6,7,8] qq2)) (.seq (.seq (yR 0 [0,1,2,6,7,9] qkF) (.seq (yR 0 [0,1,2,6,7,9,54] qkE) (.cond (.t 54) (yR 0 [0,1,2,6] qkD) .skip))) (yR 0 [0,1,2,6] qkC))))))
def qFE:VFn:=⟨3,[],(.seq (yR 0 [0,1,2,6] qz2) (.seq (yR 0 [0,1,2,6,7,8] qz1) (.seq (.block 0 (.loop [0,1,2,6,7,8] ql4)) (.seq (yR 0 [0,1,2,6] qzX) (.block 2 (.loop [0,1,2,6] qjn))))))⟩
def qpE:List VOper:=[z0 10 1,z6 11 10 1,z0 8 11]
def qmN:List VOper:=[z0 12 8,z0 13 2,zB 14 12 13]
def qzT:List VOper:=[z0 17 8,z0 9 17]
def qtD:List VOper:=[z0 18 9,z0 19 1,⟨some 20,.bin .gtr (.t 18) (.t 19),none,[0,1]⟩,zM 21 20 [2],zQ 22 3 21 [3],zQ 23 0 21 [3],zQ 24 9 21 [3],zX 25 3 23 24 21 [3,5,6],zh 26 3 25 21 [3,7],zQ 27 0 21 [3],zQ 28 9 21 [3],zr 29 28 1 21 [3,10],zX 30 3 27 29 21 [3,9,11],zh 31 3 30 21 [3,12],⟨some 32,.call false (.t 22) [.t 26,.t 31],some (21,true),[3,4,8,13]⟩,z01 33 32 0 21 [3,14],z05 34 21 33 [3,15]]
def qtC:List VOper:=[z0 37 0,z0 38 9,z0 39 0,z0 40 9,zo 41 40 1 [3],z0 42 0,z0 43 9,zo 44 43 1 [6],z5 45 3 42 44 [5,7],zI 46 3 45 [8],z0 47 0,z0 48 9,z5 49 3 47 48 [10,11],zI 50 3 49 [12],z5 51 3 37 38 [0,1,5,6,7,8,9,13],zW 3 51 46 [0,1,5,6,7,8,9,13,14],z5 52 3 39 41 [0,1,2,3,4,5,6,7,8,9,10,11,12,13,14,15],zW 3 52 50 [0,1,2,3,4,5,6,7,8,9,10,11,12,13,14,15,16]]
def qzS:List VOper:=[z0 35 9,zl 36 35 1,z0 9 36]
def qq1:VCode:=(.seq (.seq (yT 0 [0,1,2,3,8,9,34] qtD) (.cond (.t 34) .skip (.exit 2))) (.seq (.block 3 (yT 0 [0,1,2,3,8,9] qtC)) (yR 0 [0,1,2,3,8,9] qzS)))
def qzU:List VOper:=[z0 15 8,z6 16 15 1,z0 8 16]
def qjm:VCode:=(.seq (.seq (yR 0 [0,1,2,3,8,14] qmN) (.cond (.t 14) .skip (.exit 0))) (.seq (.block 1 (.seq (yR 0 [0,1,2,3,8,9] qzT) (.block 2 (.loop [0,1,2,3,8,9] qq1)))) (yR 0 [0,1,2,3,8] qzU)))
def qCX:VFn:=⟨4,[],(.seq (yR 0 [0,1,2,3,8] qpE) (.block 0 (.loop [0,1,2,3,8] qjm)))⟩
def qpD:List VOper:=[z0 25 2,z0 26 1,zs 27 25 26,zZ 28 27 1]
def qFS:List VOper:=[z0 29 2,z0 10 29]
def qFR:List VOper:=[z0 30 3,z0 11 30]
def qtB:List VOper:=[z0 31 10,z0 32 11,zB 33 31 32]
def qzI:List VOper:=[z0 34 10,z0 35 11,zd 36 34 35,z0u 37 36,z0Z 38 37 1,z0g 39 38,z0 12 39]
def qtA:List VOper:=[z0 40 4,z0 41 0,z0 42 12,z5 43 3 41 42 [1,2],zI 44 3 43 [3],z0 45 0,z0 46 1,z5 47 3 45 46 [5,6],zI 48 3 47 [7],z0T 49 40 44 48 [0,4,8],z08 50 49 0 [9]]
def qzH:List VOper:=[z0 51 12,z6 52 51 1,z0 10 52]
def qzG:List VOper:=[z0 53 12,z0 11 53]
def qni:VCode:=(.seq (.seq (yR 0 [0,1,4,10,11,33] qtB) (.cond (.t 33) .skip (.exit 0))) (.block 1 (.seq (yR 0 [0,1,4,10,11,12] qzI) (.seq (yT 0 [0,1,4,10,11,12,50] qtA) (.cond (.t 50) (yR 0 [0,1,4,10,11] qzH) (yR 0 [0,1,4,10,11] qzG))))))
def qFQ:List VOper:=[z0 54 1,z0 13 54]
def qzF:List VOper:=[z0 55 13,z0 56 10,zl 57 56 1,zB 58 55 57]
def qoe:List VOper:=[z0 61 0,z0 62 13,z0 63 0,z0 64 13,z0e 65 64 1 [3],z0 66 0,z0 67 13,z0e 68 67 1 [6],z5 69 3 66 68 [5,7],zI 70 3 69 [8],z0 71 0,z0 72 13,z5 73 3 71 72 [10,11],zI 74 3 73 [12],z5 75 3 61 62 [0,1,5,6,7,8,9,13],zW 3 75 70 [0,1,5,6,7,8,9,13,14],z5 76 3 63 65 [0,1,2,3,4,5,6,7,8,9,10,11,12,13,14,15],zW 3 76 74 [0,1,2,3,4,5,6,7,8,9,10,11,12,13,14,15,16]]
def qzR:List VOper:=[z0 59 13,z6 60 59 1,z0 13 60]
def qq0:VCode:=(.seq (.seq (yR 0 [0,10,13,58] qzF) (.cond (.t 58) .skip (.exit 2))) (.seq (.block 3 (yT 0 [0,10,13] qoe)) (yR 0 [0,10,13] qzR)))
def qod:List VOper:=[z0 77 3,z0 78 2,zs 79 77 78,zZ 80 79 1]
def qzQ:List VOper:=[z0 81 1,z0 14 81]
def qzP:List VOper:=[z0 82 2,z0 15 82]
def qoc:List VOper:=[z0 83 14,z0 84 15,zB 85 83 84]
def qr5:List VOper:=[z0 86 14,z0 87 15,zd 88 86 87,z0u 89 88,z0Z 90 89 1,z0g 91 90,z0 16 91]
def qob:List VOper:=[z0 92 4,z0 93 0,z0 94 2,z5 95 3 93 94 [1,2],zI 96 3 95 [3],z0 97 0,z0 98 16,z5 99 3 97 98 [5,6],zI 100 3 99 [7],z0T 101 92 96 100 [0,4,8],z08 102 101 0 [9],zz 103 102 [10]]
def qr4:List VOper:=[z0 104 16,z6 105 104 1,z0 14 105]
def qr3:List VOper:=[z0 106 16,z0 15 106]
def qnh:VCode:=(.seq (.seq (yR 0 [0,2,4,14,15,85] qoc) (.cond (.t 85) .skip (.exit 4))) (.block 5 (.seq (yR 0 [0,2,4,14,15,16] qr5) (.seq (yT 0 [0,2,4,14,15,16,103] qob) (.cond (.t 103) (yR 0 [0,2,4,14,15] qr4) (yR 0 [0,2,4,14,15] qr3))))))
def qzO:List VOper:=[z0 107 2,z0 17 107]
def qr2:List VOper:=[z0 108 17,z0 109 14,z0G 110 108 109]
def qoa:List VOper:=[z0 113 0,z0 114 17,z0 115 0,z0 116 17,zo 117 116 1 [3],z0 118 0,z0 119 17,zo 120 119 1 [6],z5 121 3 118 120 [5,7],zI 122 3 121 [8],z0 123 0,z0 124 17,z5 125 3 123 124 [10,11],zI 126 3 125 [12],z5 127 3 113 114 [0,1,5,6,7,8,9,13],zW 3 127 122 [0,1,5,6,7,8,9,13,14],z5 128 3 115 117 [0,1,2,3,4,5,6,7,8,9,10,11,12,13,14,15],zW 3 128 126 [0,1,2,3,4,5,6,7,8,9,10,11,12,13,14,15,16]]
def qzN:List VOper:=[z0 111 17,zl 112 111 1,z0 17 112]
def qqZ:VCode:=(.seq (.seq (yR 0 [0,14,17,110] qr2) (.cond (.t 110) .skip (.exit 6))) (.seq (.block 7 (yT 0 [0,14,17] qoa)) (yR 0 [0,14,17] qzN)))
def qr1:List VOper:=[z0 129 1,z0 130 3,zd 131 129 130,z0u 132 131,z0Z 133 132 1,z0g 134 133,z0 18 134]
def qr0:List VOper:=[z0 135 18,z0 136 2,zd 137 135 136,z0 19 137]
def qrZ:List VOper:=[z4 20 0,z4 21 0]
def qrY:List VOper:=[z0 138 2,z0 139 18,z0G 140 138 139]
def qzM:List VOper:=[z0 141 19,z0 142 3,zs 143 141 142,z0 20 143]
def qzL:List VOper:=[z0 144 18,z0 21 144]
def qzK:List VOper:=[z0 145 1,z0 20 145]
def qzJ:List VOper:=[z0 146 2,z0 21 146]
def qrX:List VOper:=[z0 147 19,zl 148 147 1,z0 22 148]
def qn9:List VOper:=[z0 149 20,z0 150 21,zB 151 149 150]
def qrW:List VOper:=[z0 152 20,z0 153 21,zd 154 152 153,z0u 155 154,z0Z 156 155 1,z0g 157 156,z0 23 157]
def qn8:List VOper:=[z0 158 4,z0 159 0,z0 160 22,z0 161 23,⟨some 162,.bin .sub (.t 160) (.t 161),none,[2,3]⟩,z5 163 3 159 162 [1,4],zI 164 3 163 [5],z0 165 0,z0 166 23,z5 167 3 165 166 [7,8],zI 168 3 167 [9],z0T 169 158 164 168 [0,6,10],z08 170 169 0 [11],zz 171 170 [12]]
def qrV:List VOper:=[z0 172 23,z6 173 172 1,z0 20 173]
def qrU:List VOper:=[z0 174 23,z0 21 174]
def qhE:VCode:=(.seq (.seq (yR 0 [0,1,2,3,4,18,19,20,21,22,151] qn9) (.cond (.t 151) .skip (.exit 8))) (.block 9 (.seq (yR 0 [0,1,2,3,4,18,19,20,21,22,23] qrW) (.seq (yT 0 [0,1,2,3,4,18,19,20,21,22,23,171] qn8) (.cond (.t 171) (yR 0 [0,1,2,3,4,18,19,20,21,22] qrV) (yR 0 [0,1,2,3,4,18,19,20,21,22] qrU))))))
def qkB:List VOper:=[z0 175 19,z0 176 20,zs 177 175 176,z0 24 177]
def qkA:List VOper:=[z0 178 20,z0 179 2,zB 180 178 179,z0 181 180,zG 182 2 181,zG 183 24 181,z0o 184 182 183 181,zA 185 181 184]
def qkz:List VOper:=[z0 186 0,z0 187 20,z0 188 2,z0 189 24,z0 190 4,zq 191 174 186 187 188 189 190]
def qky:List VOper:=[z0 192 1,z0 193 20,zB 194 192 193,z0 195 194,zG 196 20 195,zG 197 18 195,z0o 198 196 197 195,zA 199 195 198]
def qkx:List VOper:=[z0 200 0,z0 201 1,z0 202 20,z0 203 18,z0 204 4,zq 205 173 200 201 202 203 204]
def qkw:List VOper:=[z0 206 18,z0 207 24,zB 208 206 207,z0 209 208,zG 210 24 209,zG 211 3 209,z0o 212 210 211 209,zA 213 209 212]
def qkv:List VOper:=[z0 214 0,z0 215 18,z0 216 24,z0 217 3,z0 218 4,zq 219 173 214 215 216 217 218]
def qCW:VFn:=⟨5,[],(.seq (.seq (yR 0 [0,1,2,3,4,28] qpD) (.cond (.t 28) (.seq (yR 0 [0,1,3,4,10] qFS) (.seq (yR 0 [0,1,4,10,11] qFR) (.seq (.block 0 (.loop [0,1,4,10,11] qni)) (.seq (.seq (yR 0 [0,10,13] qFQ) (.block 2 (.loop [0,10,13] qq0))) .ret)))) .skip)) (.seq (.seq (yR 0 [0,1,2,3,4,80] qod) (.cond (.t 80) (.seq (yR 0 [0,2,4,14] qzQ) (.seq (yR 0 [0,2,4,14,15] qzP) (.seq (.block 4 (.loop [0,2,4,14,15] qnh)) (.seq (.seq (yR 0 [0,14,17] qzO) (.block 6 (.loop [0,14,17] qqZ))) .ret)))) .skip)) (.seq (yR 0 [0,1,2,3,4,18] qr1) (.seq (yR 0 [0,1,2,3,4,18,19] qr0) (.seq (yR 0 [0,1,2,3,4,18,19] qrZ) (.seq (.seq (yR 0 [0,1,2,3,4,18,19,140] qrY) (.cond (.t 140) (.seq (yR 0 [0,1,2,3,4,18,19,20] qzM) (yR 0 [0,1,2,3,4,18,19,20,21] qzL)) (.seq (yR 0 [0,1,2,3,4,18,19,20] qzK) (yR 0 [0,1,2,3,4,18,19,20,21] qzJ)))) (.seq (yR 0 [0,1,2,3,4,18,19,20,21,22] qrX) (.seq (.block 8 (.loop [0,1,2,3,4,18,19,20,21,22] qhE)) (.seq (yR 0 [0,1,2,3,4,18,20,24] qkB) (.seq (.seq (yR 0 [0,1,2,3,4,18,20,24,185] qkA) (.cond (.t 185) (yR 0 [0,1,3,4,18,20,24] qkz) .skip)) (.seq (.seq (yR 0 [0,1,3,4,18,20,24,199] qky) (.cond (.t 199) (yR 0 [0,3,4,18,24] qkx) .skip)) (.seq (yR 0 [0,3,4,18,24,213] qkw) (.cond (.t 213) (yR 0 [] qkv) .skip)))))))))))))⟩
def qtz:List VOper:=[z0 12 2,z0 13 1,zs 14 12 13,z0 10 14]
def qty:List VOper:=[z0 15 3,z0 16 2,zs 17 15 16,z0 11 17]
def qtx:List VOper:=[z0 18 10,z0 19 11,z0W 20 18 19]
def qzE:List VOper:=[z0 21 10,z0 22 11,z0G 23 21 22]
def qzD:List VOper:=[z0 24 0,z0 25 2,z0 26 10,zs 27 25 26,z0 28 2,z0 29 11,z0 30 4,zq 31 175 24 27 28 29 30]
def qzC:List VOper:=[z0 32 10,z0 33 11,zs 34 32 33,z0 10 34]
def qzB:List VOper:=[z0 35 0,z0 36 2,z0 37 10,zs 38 36 37,z0 39 2,z0 40 11,zd 41 39 40,z0 42 10,zs 43 41 42,z0 44 10,z0 45 4,zq 46 175 35 38 43 44 45]
def qzA:List VOper:=[z0 47 11,z0 48 10,zs 49 47 48,z0 11 49]
def qqY:VCode:=(.seq (.seq (yR 0 [0,2,4,10,11,20] qtx) (.cond (.t 20) .skip (.exit 0))) (.block 1 (.seq (yR 0 [0,2,4,10,11,23] qzE) (.cond (.t 23) (.seq (yR 0 [0,2,4,10,11] qzD) (yR 0 [0,2,4,10,11] qzC)) (.seq (yR 0 [0,2,4,10,11] qzB) (yR 0 [0,2,4,10,11] qzA))))))
def qtw:List VOper:=[z0 50 0,z0 51 2,z0 52 10,zs 53 51 52,z0 54 2,z0 55 10,z0 56 4,zq 57 175 50 53 54 55 56]
def qJZ:VFn:=⟨5,[],(.seq (yR 0 [0,2,3,4,10] qtz) (.seq (yR 0 [0,2,4,10,11] qty) (.seq (.block 0 (.loop [0,2,4,10,11] qqY)) (yR 0 [] qtw))))⟩
def qFP:List VOper:=[z4 10 0]
def qzz:List VOper:=[z0 11 10,z0 12 3,zB 13 11 12]
def qtv:List VOper:=[z0 16 0,z0 17 1,z0 18 10,z02 19 17 18 [1,2],z0 20 0,z0 21 2,z0 22 10,z02 23 21 22 [5,6],z0 24 0,z0 25 2,z0 26 10,z02 27 25 26 [9,10],z5 28 3 24 27 [8,11],zI 29 3 28 [12],z0 30 0,z0 31 1,z0 32 10,z02 33 31 32 [15,16],z5 34 3 30 33 [14,17],zI 35 3 34 [18],z5 36 3 16 19 [0,1,2,3,8,9,10,11,12,13,19],zW 3 36 29 [0,1,2,3,8,9,10,11,12,13,19,20],z5 37 3 20 23 [0,1,2,3,4,5,6,7,8,9,10,11,12,13,14,15,16,17,18,19,20,21],zW 3 37 35 [0,1,2,3,4,5,6,7,8,9,10,11,12,13,14,15,16,17,18,19,20,21,22]]
def qFO:List VOper:=[z0 14 10,z6 15 14 1,z0 10 15]
def quX:VCode:=(.seq (.seq (yR 0 [0,1,2,3,10,13] qzz) (.cond (.t 13) .skip (.exit 0))) (.seq (.block 1 (yT 0 [0,1,2,3,10] qtv)) (yR 0 [0,1,2,3,10] qFO)))
def qJY:VFn:=⟨5,[],(.seq (yR 0 [0,1,2,3,10] qFP) (.block 0 (.loop [0,1,2,3,10] quX)))⟩
def qpC:List VOper:=[z7 2]
def qpB:List VOper:=[z0 11 0,zL 12 133 11]
def qpA:List VOper:=[z07 2]
def qpz:List VOper:=[z0 14 0,zL 15 177 14,z0 13 15,z03 16 13 0,z03 17 13 1,z03 18 13 2,z9 4 0 0 0,z9 5 1 0 0,z0 3 16,z8 3 4 17,z8 3 5 18]
def qpy:List VOper:=[z0 20 0,zL 21 134 20,z0 19 21,z03 22 19 0,z03 23 19 1,z03 24 19 2,z9 8 0 0 0,z0 6 22,z0 7 23,z8 3 8 24]
def qpx:List VOper:=[z0 25 3,z3 26 3 4,z3 27 3 5,z0x 28 178 25 26 27,z0S 29 28,z0 30 29,zO 31 3 30,zO 32 7 30,zv 33 68 31 32 30,z0O 34 33 30,zV 35 30 34]
def qzy:List VOper:=[z0 36 3,z3 37 3 4,z3 38 3 5,zx 39 178 36 37 38 [0,1,2],z0 40 3,z3 41 3 4,z3 42 3 5,zx 43 179 40 41 42 [3,4,5,6],⟨some 44,.eqB false (.t 39) (.t 43),none,[3,7]⟩,zM 2 44 [0,1,2,3,4,5,6,7,8]]
def qzx:List VOper:=[z0 45 3,z0 46 7,z3 47 3 4,zx 48 135 45 46 47 [0,1,2],z0 49 3,z0 50 7,z3 51 3 5,zx 52 135 49 50 51 [3,4,5,6],z9 9 0 0 0,z9 10 1 0 0,z12 3 9 48 [0,1,2,3,7,8,9],z12 3 10 52 [0,1,2,3,4,5,6,7,8,9,10]]
def qpw:List VOper:=[z0 53 3,z3 54 3 9,z3 55 3 10,z0x 56 178 53 54 55,z0 57 56,zO 58 3 57,z0v 59 3 9 57,zv 60 70 58 59 57,z0O 61 60 57,zV 62 57 61,z0 63 62,zO 64 3 63,z0v 65 3 10 63,zv 66 70 64 65 63,z0O 67 66 63,zV 68 63 67,z0 2 68]
def qDU:VFn:=⟨1,[.tmp 2],(.seq (yR 0 [0] qpC) (.seq (.seq (yR 0 [0,12] qpB) (.cond (.t 12) (.seq (yR 0 [2] qpA) .ret) .skip)) (.seq (yR 2 [0,3,4,5] qpz) (.seq (yR 1 [3,4,5,7] qpy) (.seq (.seq (yR 0 [3,4,5,7,35] qpx) (.cond (.t 35) (.seq (yT 0 [2] qzy) .ret) .skip)) (.seq (yT 2 [3,9,10] qzx) (.seq (yR 0 [2] qpw) .ret)))))))⟩
def qFN:List VOper:=[za 2,z9 3 0 0 0,z9 4 1 0 0]
def qFM:List VOper:=[z0 9 0,zL 10 180 9,z0 8 10,z03 11 8 0,z03 12 8 1,z03 13 8 2,z9 6 0 0 0,z9 7 1 0 0,z0 5 11,z8 3 6 12,z8 3 7 13]
def qzw:List VOper:=[z0 14 5,z3 15 3 6,z3 16 3 7,zM 2 14 [0],z13 3 3 15 7 [0,1,3],zW 3 4 16 [0,1,2,3,4]]
def qJX:VFn:=⟨1,[.tmp 2,.cell 3 true 3,.cell 4 true 3],(.seq (yR 2 [0,3,4] qFN) (.seq (yR 2 [3,4,5,6,7] qFM) (.seq (yT 0 [2,3,4] qzw) .ret)))⟩
def qiJ:List VOper:=[zN 4 0 1,zN 5 1 2,z7 6]
def qiI:List VOper:=[z0 11 0,z3 12 3 4,zE 13 70 11 12,z0S 14 13,z0 15 14,zO 16 0 15,z0v 17 3 5 15,zv 18 70 16 17 15,z0O 19 18 15,zV 20 15 19]
def qiH:List VOper:=[z7 6]
def qmM:List VOper:=[z3 21 3 5,zL 22 104 21,zC 23 22,z4 24 0]
def qtu:List VOper:=[zB 25 24 23]
def qtt:List VOper:=[zP 26 1 22 24,z2 27 1 26,z0 8 27]
def qzv:List VOper:=[z3 28 3 4,z0 29 8,zF 30 73 28 29 [0,1],z3 31 3 5,z0 32 8,zF 33 73 31 32 [2,3,4],z0F 34 30 33 [2,5]]
def qts:List VOper:=[z7 6]
def qtr:List VOper:=[z6 35 24 1,z0 24 35]
def qng:VCode:=(.seq (yR 0 [0,4,5,22,23,24,25] qtu) (.seq (.cond (.t 25) .skip (.exit 0)) (.seq (.block 1 (.seq (yR 0 [0,4,5,8,22,23,24] qtt) (.seq (yT 0 [0,4,5,22,23,24,34] qzv) (.cond (.t 34) (.seq (yR 0 [6] qts) .ret) .skip)))) (yR 0 [0,4,5,22,23,24] qtr))))
def qzu:List VOper:=[z0 36 0,z3 37 3 4,zF 38 118 36 37 [0,1],z0 39 0,z3 40 3 5,zF 41 118 39 40 [2,3,4],zM 9 38 [0,1,2,5],zM 10 41 [0,1,2,3,4,5,6]]
def qfc:List VOper:=[z0 42 9,z0 43 10,z0G 44 42 43,z0 45 44,zO 46 9 45,zO 47 10 45,⟨some 48,.bin .eql (.t 46) (.t 47),some (45,false),[]⟩,zO 49 48 45,zn 50 3 4 49,zt 51 103 50 49,ze 52 49 51 45,zO 53 52 45,zn 54 3 5 53,zt 55 103 54 53,ze 56 53 55 45,zO 57 56 45,zn 58 3 5 57,zn 59 3 4 57,z0U 60 79 58 59 57,ze 61 57 60 45,zV 62 45 61,z0 6 62]
def qDT:VFn:=⟨3,[.tmp 6],(.seq (yR 2 [0,4,5] qiJ) (.seq (.seq (yR 0 [0,4,5,20] qiI) (.cond (.t 20) (.seq (yR 0 [6] qiH) .ret) .skip)) (.seq (.seq (yR 0 [0,4,5,22,23,24] qmM) (.block 0 (.loop [0,4,5,22,23,24] qng))) (.seq (yT 0 [4,5,9,10] qzu) (.seq (yR 0 [6] qfc) .ret)))))⟩
def qiG:List VOper:=[zN 4 0 1,zN 5 1 2,z7 6]
def qiF:List VOper:=[z0 11 0,z3 12 3 4,zE 13 80 11 12,z0S 14 13,z0 15 14,zO 16 0 15,z0v 17 3 5 15,zv 18 80 16 17 15,z0O 19 18 15,zV 20 15 19]
def qiE:List VOper:=[z7 6]
def qmL:List VOper:=[z3 21 3 5,zL 22 110 21,z0 7 22]
def qmK:List VOper:=[z4 8 0]
def qtq:List VOper:=[z0 23 8,z0 24 7,zC 25 24,zB 26 23 25]
def qzt:List VOper:=[z3 29 3 4,z0 30 7,z0 31 8,z5 32 1 30 31 [1,2],zD 33 1 32 [3],zF 34 81 29 33 [0,4],z3 35 3 5,z0 36 7,z0 37 8,z5 38 1 36 37 [7,8],zD 39 1 38 [9],zF 40 81 35 39 [5,6,10],z0F 41 34 40 [5,11]]
def qto:List VOper:=[z7 6]
def qtp:List VOper:=[z0 27 8,z6 28 27 1,z0 8 28]
def qnf:VCode:=(.seq (.seq (yR 0 [0,4,5,7,8,26] qtq) (.cond (.t 26) .skip (.exit 0))) (.seq (.block 1 (.seq (yT 0 [0,4,5,7,8,41] qzt) (.cond (.t 41) (.seq (yR 0 [6] qto) .ret) .skip))) (yR 0 [0,4,5,7,8] qtp)))
def qzs:List VOper:=[z0 42 0,z3 43 3 4,zF 44 117 42 43 [0,1],z0 45 0,z3 46 3 5,zF 47 117 45 46 [2,3,4],zM 9 44 [0,1,2,5],zM 10 47 [0,1,2,3,4,5,6]]
def qfb:List VOper:=[z0 48 9,z0 49 10,z0G 50 48 49,z0 51 50,zO 52 9 51,zO 53 10 51,⟨some 54,.bin .eql (.t 52) (.t 53),some (51,false),[]⟩,zO 55 54 51,zn 56 3 4 55,zt 57 102 56 55,ze 58 55 57 51,zO 59 58 51,zn 60 3 5 59,zt 61 102 60 59,ze 62 59 61 51,zO 63 62 51,zn 64 3 5 63,zn 65 3 4 63,z0U 66 84 64 65 63,ze 67 63 66 51,zV 68 51 67,z0 6 68]
def qDS:VFn:=⟨3,[.tmp 6],(.seq (yR 2 [0,4,5] qiG) (.seq (.seq (yR 0 [0,4,5,20] qiF) (.cond (.t 20) (.seq (yR 0 [6] qiE) .ret) .skip)) (.seq (yR 0 [0,4,5,7] qmL) (.seq (.seq (yR 0 [0,4,5,7,8] qmK) (.block 0 (.loop [0,4,5,7,8] qnf))) (.seq (yT 0 [4,5,9,10] qzs) (.seq (yR 0 [6] qfb) .ret))))))⟩
def qtn:List VOper:=[za 2,z9 3 0 0 0,z9 4 1 0 0]
def qtm:List VOper:=[z0 9 0,zy 10 156 9,z0 5 10]
def qtl:List VOper:=[z0 11 5,zg 12 159 11 3,z0 6 12]
def qtk:List VOper:=[z0 13 5,z0 14 6,zY 15 163 13 14,z9 7 0 0 0,z8 3 7 15]
def qtj:List VOper:=[z0 16 5,z0 17 6,zY 18 163 16 17,z9 8 0 0 0,z8 3 8 18]
def qti:List VOper:=[z0 19 5,zg 20 159 19 8]
def qth:List VOper:=[zZ 22 20 0,z0 21 22]
def qtg:List VOper:=[z0 23 5,z0a 24 23 161 23,z8 3 8 24]
def qtf:List VOper:=[zZ 26 20 1,z0 25 26]
def qte:List VOper:=[z3 27 3 7,zL 28 146 27,z8 3 8 28]
def qrT:List VOper:=[z0E 29 155,z3 30 3 7,z3 31 3 8,zM 2 29 [0],z13 3 3 30 8 [0,1,3],zW 3 4 31 [0,1,2,3,4]]
def qCV:VFn:=⟨1,[.tmp 2,.cell 3 true 3,.cell 4 true 3],(.seq (yR 2 [0,3,4] qtn) (.seq (yR 0 [3,4,5] qtm) (.seq (yR 0 [3,4,5,6] qtl) (.seq (yR 1 [3,4,5,6,7] qtk) (.seq (yR 1 [3,4,5,7,8] qtj) (.seq (.seq (yR 0 [3,4,5,7,8,20] qti) (.block 0 (.seq (yR 0 [3,4,5,7,8,20,21] qth) (.cond (.t 21) (yR 0 [3,4,7,8] qtg) (.seq (yR 0 [3,4,7,8,25] qtf) (.cond (.t 25) (yR 0 [3,4,7,8] qte) .skip)))))) (.seq (yT 0 [2,3,4] qrT) .ret)))))))⟩
def look:List (Nat×VFn)->Nat->Option VFn
 | [],_=>none
 |(k,v)::r,n=>if n=k then some v else look r n
def qw2:List (Nat×VFn):=[(3,v3),(6,v6),(13,v13),(14,v14),(18,v18),(19,v19),(22,v22),(23,v23),(24,v24),(25,v25),(29,v29),(30,v30),(31,v31),(33,v33),(34,v34),(47,v47),(53,v53),(54,v54),(55,v55),(56,v56),(59,v59),(60,v60),(61,v61),(62,v62),(68,v68),(70,v70),(71,v71),(72,v72),(73,v73),(74,v74),(75,v75),(76,v76),(77,v77),(78,v78),(79,v79),(80,v80),(81,v81),(82,v82),(83,v83),(84,v84),(85,v85),(102,qKm),(103,qKl),(104,qKk),(105,qHX),(106,qOD),(107,qOC),(108,qFH),(110,qKj),(111,qDV),(112,qFG),(117,qyS),(118,qyR),(133,qKi),(134,qKh),(135,qKg),(144,qHW),(146,qHV),(147,qKf),(148,qKe),(149,qKd),(150,qKc),(151,qKb),(153,qKa),(154,qJ9),(155,qJ8),(156,qJ7),(157,qyQ),(158,qJ6),(159,qJ5),(160,qJ4),(161,qJ3),(162,qJ2),(163,qJ1),(164,v164),(165,qHT),(166,qJ0),(168,qCY),(170,qFF),(171,qFE),(172,qCX),(173,qCW),(174,qJZ),(175,qJY),(176,qDU),(177,qJX),(178,qDT),(179,qDS),(180,qCV)]
def qps:SFn:=qeX (yR 2 [0,3,4] qiM) (yR 0 [0,3,4,5] qiL) (.seq (yR 0 [0,3,4,5,10,11,12] qiK) (.block 0 (.loop [0,3,4,5,10,11,12] qhF))) (yR 0 [3,4,5,42] qeG) 170 6
theorem qH8:qSH=qy5 (yR 2 [0,3,4] qiM) (yR 0 [0,3,4,5] qiL) (.seq (yR 0 [0,3,4,5,10,11,12] qiK) (.block 0 (.loop [0,3,4,5,10,11,12] qhF))) (yR 0 [3,4,5,42] qeG) 170 6:=rfl
def qH4:List (Nat×SFn):=[(169,qps)]
def qFq:List (Nat×Nat):=[(157,1),(161,1)]
def qAL:List (Nat×Nat)->Nat->Option Nat
 | [],_=>none
 |(k,v)::r,n=>if n=k then some v else qAL r n
def qEK:List (Nat×(List DV->Option DV)):=[(106,qed)]
def E:Env:=⟨look qw2,fun k=>(qlr qEK k).map qxz,qAK qH4,qAL qFq⟩
theorem qTn:E.code 3=some v3:=by kernel_rfl
theorem qTm:E.code 6=some v6:=by kernel_rfl
theorem qSw:E.code 13=some v13:=by kernel_rfl
theorem qSv:E.code 14=some v14:=by kernel_rfl
theorem qSu:E.code 18=some v18:=by kernel_rfl
theorem qSt:E.code 19=some v19:=by kernel_rfl
theorem qSs:E.code 22=some v22:=by kernel_rfl
theorem qSr:E.code 23=some v23:=by kernel_rfl
theorem qSq:E.code 24=some v24:=by kernel_rfl
theorem qSp:E.code 25=some v25:=by kernel_rfl
theorem qSo:E.code 29=some v29:=by kernel_rfl
theorem qSn:E.code 30=some v30:=by kernel_rfl
theorem qSm:E.code 31=some v31:=by kernel_rfl
theorem qSl:E.code 33=some v33:=by kernel_rfl
theorem qSk:E.code 34=some v34:=by kernel_rfl
theorem qSj:E.code 47=some v47:=by kernel_rfl
theorem qSi:E.code 53=some v53:=by kernel_rfl
theorem qSh:E.code 54=some v54:=by kernel_rfl
theorem qSg:E.code 55=some v55:=by kernel_rfl
theorem qSf:E.code 56=some v56:=by kernel_rfl
theorem qSe:E.code 59=some v59:=by kernel_rfl
theorem qSd:E.code 60=some v60:=by kernel_rfl
theorem qSc:E.code 61=some v61:=by kernel_rfl
theorem qSb:E.code 62=some v62:=by kernel_rfl
theorem qSa:E.code 68=some v68:=by kernel_rfl
theorem qR9:E.code 70=some v70:=by kernel_rfl
theorem qR8:E.code 71=some v71:=by kernel_rfl
theorem qR7:E.code 72=some v72:=by kernel_rfl
theorem qR6:E.code 73=some v73:=by kernel_rfl
theorem qR5:E.code 74=some v74:=by kernel_rfl
theorem qR4:E.code 75=some v75:=by kernel_rfl
theorem qR3:E.code 76=some v76:=by kernel_rfl
theorem qR2:E.code 77=some v77:=by kernel_rfl
theorem qR1:E.code 78=some v78:=by kernel_rfl
theorem qR0:E.code 79=some v79:=by kernel_rfl
theorem qRZ:E.code 80=some v80:=by kernel_rfl
theorem qRY:E.code 81=some v81:=by kernel_rfl
theorem qRX:E.code 82=some v82:=by kernel_rfl
theorem qRW:E.code 83=some v83:=by kernel_rfl
theorem qRV:E.code 84=some v84:=by kernel_rfl
theorem qRU:E.code 85=some v85:=by kernel_rfl
theorem qPu:E.code 102=some qKm:=by kernel_rfl
theorem qPt:E.code 103=some qKl:=by kernel_rfl
theorem qPs:E.code 104=some qKk:=by kernel_rfl
theorem qPr:E.code 105=some qHX:=by kernel_rfl
theorem qPq:E.code 106=some qOD:=by kernel_rfl
theorem qPp:E.code 107=some qOC:=by kernel_rfl
theorem qPo:E.code 108=some qFH:=by kernel_rfl
theorem qPn:E.code 110=some qKj:=by kernel_rfl
theorem qPm:E.code 111=some qDV:=by kernel_rfl
theorem qPl:E.code 112=some qFG:=by kernel_rfl
theorem qPk:E.code 117=some qyS:=by kernel_rfl
theorem qPj:E.code 118=some qyR:=by kernel_rfl
theorem qPi:E.code 133=some qKi:=by kernel_rfl
theorem qPh:E.code 134=some qKh:=by kernel_rfl
theorem qPg:E.code 135=some qKg:=by kernel_rfl
theorem qPf:E.code 144=some qHW:=by kernel_rfl
theorem qPe:E.code 146=some qHV:=by kernel_rfl
theorem qPd:E.code 147=some qKf:=by kernel_rfl
theorem qPc:E.code 148=some qKe:=by kernel_rfl
theorem qPb:E.code 149=some qKd:=by kernel_rfl
theorem qPa:E.code 150=some qKc:=by kernel_rfl
theorem qO9:E.code 151=some qKb:=by kernel_rfl
theorem qO8:E.code 153=some qKa:=by kernel_rfl
theorem qO7:E.code 154=some qJ9:=by kernel_rfl
theorem qO6:E.code 155=some qJ8:=by kernel_rfl
theorem qO5:E.code 156=some qJ7:=by kernel_rfl
theorem qO4:E.code 157=some qyQ:=by kernel_rfl
theorem qO3:E.code 158=some qJ6:=by kernel_rfl
theorem qO2:E.code 159=some qJ5:=by kernel_rfl
theorem qO1:E.code 160=some qJ4:=by kernel_rfl
theorem qO0:E.code 161=some qJ3:=by kernel_rfl
theorem qOZ:E.code 162=some qJ2:=by kernel_rfl
theorem qOY:E.code 163=some qJ1:=by kernel_rfl
theorem qOX:E.code 164=some v164:=by kernel_rfl
theorem qOW:E.code 165=some qHT:=by kernel_rfl
theorem qOV:E.code 166=some qJ0:=by kernel_rfl
theorem qOU:E.code 168=some qCY:=by kernel_rfl
theorem qOT:E.code 170=some qFF:=by kernel_rfl
theorem qOS:E.code 171=some qFE:=by kernel_rfl
theorem qOR:E.code 172=some qCX:=by kernel_rfl
theorem qOQ:E.code 173=some qCW:=by kernel_rfl
theorem qOP:E.code 174=some qJZ:=by kernel_rfl
theorem qOO:E.code 175=some qJY:=by kernel_rfl
theorem qON:E.code 176=some qDU:=by kernel_rfl
theorem qOM:E.code 177=some qJX:=by kernel_rfl
theorem qOL:E.code 178=some qDT:=by kernel_rfl
theorem qOK:E.code 179=some qDS:=by kernel_rfl
theorem qOJ:E.code 180=some qCV:=by kernel_rfl
end Go.Proofs.Ytfiakfiocdfpbaa.VS
