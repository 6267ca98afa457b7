/- The code of the functions that the laws reach, for the evaluator. -/
import Derived.Test.YtfiakfiocdfpbaaNat0
import Derived.KernelRfl
set_option linter.unusedVariables false
namespace Go.Proofs.Ytfiakfiocdfpbaa.VS
@[simp] abbrev z0(a b:Nat):VOper:=⟨some a,.move (.t b),none,[]⟩
@[simp] abbrev z1(a b c:Nat):VOper:=⟨some a,.fieldAddr b (.t c),none,[]⟩
@[simp] abbrev z2(a b c d:Nat)(e:List Nat):VOper:=⟨some a,.indexAddr b none (.t c) (.t d),none,e⟩
@[simp] abbrev z3(a b c:Nat):VOper:=⟨some a,.load false b (.t c),none,[]⟩
@[simp] abbrev z4(a:Nat)(b:Int):VOper:=⟨some a,.move (.c (.d (.int .i64 b))),none,[]⟩
@[simp] abbrev z5(a b c:Nat)(d:List Nat):VOper:=⟨some a,.move (.t b),some (c,false),d⟩
@[simp] abbrev z6(a b:Nat)(c:Int):VOper:=⟨some a,.bin .add (.t b) (.c (.d (.int .i64 c))),none,[]⟩
@[simp] abbrev z7(a b c:Nat):VOper:=⟨none,.store false a (.t b) (.t c),none,[]⟩
@[simp] abbrev z8(a:Nat):VOper:=⟨some a,.move (.c (.d (.bool false))),none,[]⟩
@[simp] abbrev z9(a b c:Nat):VOper:=⟨some a,.load true b (.t c),none,[]⟩
@[simp] abbrev zA(a b c:Nat)(d:List Nat):VOper:=⟨some a,.load false b (.t c),none,d⟩
@[simp] abbrev zB(a b:Nat)(c d:Int):VOper:=⟨some a,.alloc b [.int .i64 c,.int .i64 d,.sl .nil []],none,[]⟩
@[simp] abbrev zC(a b c:Nat):VOper:=⟨some a,.bin .lss (.t b) (.t c),none,[]⟩
@[simp] abbrev zD(a b c:Nat):VOper:=⟨some a,.pick (.t b) (.t c) (.c (.d (.bool false))),none,[]⟩
@[simp] abbrev zE(a b c:Nat)(d:List Nat):VOper:=⟨some a,.pick (.t b) (.c (.d (.bool true))) (.t c),none,d⟩
@[simp] abbrev zF(a b:Nat):VOper:=⟨some a,.len false (.t b),none,[]⟩
@[simp] abbrev zG(a b c:Nat)(d:List Nat):VOper:=⟨some a,.load true b (.t c),none,d⟩
@[simp] abbrev zH(a b:Nat)(c:List Nat):VOper:=⟨some a,.move (.t b),none,c⟩
@[simp] abbrev zI(a b c:Nat):VOper:=⟨some a,.call true (.c (.fn b [])) [.t c],none,[]⟩
@[simp] abbrev zJ(a b c d:Nat)(e:List Nat):VOper:=⟨some a,.load false b (.t c),some (d,true),e⟩
@[simp] abbrev zK(a b c d:Nat)(e:List Nat):VOper:=⟨some a,.fieldAddr b (.t c),some (d,true),e⟩
@[simp] abbrev zL(a b c:Nat)(d:List Nat):VOper:=⟨some a,.move (.t b),some (c,true),d⟩
@[simp] abbrev zM(a b c:Nat):VOper:=⟨some a,.move (.t b),some (c,true),[]⟩
@[simp] abbrev zN(a b c d:Nat)(e:List Nat):VOper:=⟨some a,.call true (.c (.fn b [])) [.t c,.t d],none,e⟩
@[simp] abbrev zO(a b c d e:Nat)(f:List Nat):VOper:=⟨some a,.call true (.c (.fn b [])) [.t c,.t d],some (e,false),f⟩
@[simp] abbrev zP(a b c:Nat)(d:List Nat):VOper:=⟨some a,.fieldAddr b (.t c),none,d⟩
@[simp] abbrev zQ(a b c d:Nat)(e:List Nat):VOper:=⟨some a,.fieldAddr b (.t c),some (d,false),e⟩
@[simp] abbrev zR(a b c d:Nat):VOper:=⟨some a,.indexAddr b none (.t c) (.t d),none,[]⟩
@[simp] abbrev zS(a b c d:Nat):VOper:=⟨some a,.call true (.c (.fn b [])) [.t c,.t d],none,[]⟩
@[simp] abbrev zT(a b c d e:Nat)(f:List Nat):VOper:=⟨some a,.indexAddr b none (.t c) (.t d),some (e,true),f⟩
@[simp] abbrev zU(a b c d:Nat)(e:List Nat):VOper:=⟨some a,.pick (.t b) (.t c) (.c (.d (.bool false))),some (d,false),e⟩
@[simp] abbrev zV(a b c:Nat):VOper:=⟨some a,.box b (.t c),none,[]⟩
@[simp] abbrev zW(a b c d:Nat)(e:List Nat):VOper:=⟨some a,.load false b (.t c),some (d,false),e⟩
@[simp] abbrev zX(a b c:Nat)(d:List Nat):VOper:=⟨none,.store false a (.t b) (.t c),none,d⟩
@[simp] abbrev zY(a b c d e:Nat)(f:List Nat):VOper:=⟨some a,.indexAddr b none (.t c) (.t d),some (e,false),f⟩
@[simp] abbrev zZ(a b c d:Nat):VOper:=⟨some a,.call false (.c (.fn b [])) [.t c,.t d],none,[]⟩
@[simp] abbrev za(a b c:Nat):VOper:=⟨some a,.bin .add (.t b) (.t c),none,[]⟩
@[simp] abbrev zb(a b:Nat)(c:Int):VOper:=⟨some a,.bin .eql (.t b) (.c (.d (.int .i64 c))),none,[]⟩
@[simp] abbrev zc(a:Nat):VOper:=⟨some a,.move (.c (.d (.sl .nil []))),none,[]⟩
@[simp] abbrev zd(a b c d:Nat)(e:List Nat):VOper:=⟨some a,.load true b (.t c),some (d,true),e⟩
@[simp] abbrev ze(a b c d:Nat):VOper:=⟨some a,.load false b (.t c),some (d,true),[]⟩
@[simp] abbrev zf(a b:Nat)(c d e:Int)(f g h:Nat)(i:List Nat):VOper:=⟨some a,.buildSlice b (.agg [.int .i64 c,.int .i64 d,.int .i64 e,.sl .nil []]) f [(g,.t h)],none,i⟩
@[simp] abbrev zg(a b c d:Nat):VOper:=⟨some a,.fieldAddr b (.t c),some (d,true),[]⟩
@[simp] abbrev zh(a:Nat)(b c d:Int)(e f g h i j:Nat)(k:List Nat):VOper:=⟨some a,.build [.int .i64 b,.int .i64 c,.int .i64 d,.sl .nil []] [(e,f,.t g),(h,i,.t j)],none,k⟩
@[simp] abbrev zi(a b c:Nat)(d:Int):VOper:=⟨some a,.call false (.c (.fn b [])) [.t c,.c (.d (.int .i64 d))],none,[]⟩
@[simp] abbrev zj(a b:Nat)(c:Int)(d:Nat)(e:List Nat):VOper:=⟨some a,.bin .sub (.t b) (.c (.d (.int .i64 c))),some (d,true),e⟩
@[simp] abbrev zk(a b c:Nat):VOper:=⟨some a,.move (.t b),some (c,false),[]⟩
@[simp] abbrev zl(a b c:Nat):VOper:=⟨some a,.pick (.t b) (.c (.d (.bool true))) (.t c),none,[]⟩
@[simp] abbrev zm(a b:Nat)(c d:Int)(e f g:Nat):VOper:=⟨some a,.buildSlice b (.agg [.int .i64 c,.int .i64 d,.sl .nil []]) e [(f,.t g)],none,[]⟩
@[simp] abbrev zn(a b c:Nat)(d:List Nat):VOper:=⟨some a,.bin .add (.t b) (.t c),none,d⟩
@[simp] abbrev zo(a b c:Nat)(d e:Int):VOper:=⟨some a,.call true (.c (.fn b [])) [.t c,.c (.d (.int .i64 d)),.c (.d (.int .i64 e))],none,[]⟩
@[simp] abbrev zp(a b:Nat)(c d e:Int)(f g h:Nat):VOper:=⟨some a,.buildSlice b (.agg [.int .i64 c,.int .i64 d,.int .i64 e,.sl .nil []]) f [(g,.t h)],none,[]⟩
@[simp] abbrev zq(a b c:Nat):VOper:=⟨some a,.call false (.c (.fn b [])) [.t c],none,[]⟩
@[simp] abbrev zr(a b c:Nat)(d:List Nat):VOper:=⟨some a,.call true (.c (.fn b [])) [.t c],none,d⟩
@[simp] abbrev zs(a b:Nat)(c:Int)(d:List Nat):VOper:=⟨some a,.bin .sub (.t b) (.c (.d (.int .i64 c))),none,d⟩
@[simp] abbrev zt(a b:Nat)(c:List Nat):VOper:=⟨some a,.nilCheck (.t b),none,c⟩
@[simp] abbrev zu(a b c:Nat)(d:List Nat):VOper:=⟨some a,.not (.t b),some (c,false),d⟩
@[simp] abbrev zv(a b:Nat)(c:Int):VOper:=⟨some a,.bin .sub (.t b) (.c (.d (.int .i64 c))),none,[]⟩
@[simp] abbrev zw(a b:Nat)(c:Int):VOper:=⟨some a,.bin .lss (.t b) (.c (.d (.int .i64 c))),none,[]⟩
@[simp] abbrev zx(a:Nat)(b c d:Int)(e f g h i j:Nat):VOper:=⟨some a,.build [.int .i64 b,.int .i64 c,.int .i64 d,.sl .nil []] [(e,f,.t g),(h,i,.t j)],none,[]⟩
@[simp] abbrev zy(a b c d e f g:Nat):VOper:=⟨some a,.call false (.c (.fn b [])) [.t c,.t d,.t e,.t f,.t g],none,[]⟩
@[simp] abbrev zz(a b c d e:Nat):VOper:=⟨some a,.append b c (.t d) (.t e),none,[]⟩
@[simp] abbrev z00(a b:Nat)(c:Int)(d:Nat)(e:List Nat):VOper:=⟨some a,.bin .gtr (.t b) (.c (.d (.int .i64 c))),some (d,false),e⟩
@[simp] abbrev z01(a b:Nat)(c:List Nat):VOper:=⟨some a,.not (.t b),none,c⟩
@[simp] abbrev z02(a b c:Nat):VOper:=⟨some a,.extract (.t b) c,none,[]⟩
@[simp] abbrev z03(a b c d:Nat)(e:List Nat):VOper:=⟨some a,.load true b (.t c),some (d,false),e⟩
@[simp] abbrev z04(a b c d e:Nat)(f:List Nat):VOper:=⟨some a,.append b c (.t d) (.t e),none,f⟩
@[simp] abbrev z05(a b c:Nat):VOper:=⟨some a,.bin .sub (.t b) (.t c),none,[]⟩
@[simp] abbrev z06(a b c d e:Nat)(f:List Nat):VOper:=⟨some a,.call true (.c (.fn b [])) [.t c,.t d],some (e,true),f⟩
@[simp] abbrev z07(a b c:Nat)(d:List Nat):VOper:=⟨some a,.pick (.t b) (.t c) (.c (.d (.bool false))),none,d⟩
@[simp] abbrev z08(a b c d:Nat):VOper:=⟨some a,.load false b (.t c),some (d,false),[]⟩
@[simp] abbrev z09(a:Nat):VOper:=⟨some a,.move (.c (.d (.bool true))),none,[]⟩
@[simp] abbrev z0A(a b c d:Nat):VOper:=⟨some a,.fieldAddr b (.t c),some (d,false),[]⟩
@[simp] abbrev z0B(a b:Nat)(c:Int):VOper:=⟨some a,.bin .gtr (.t b) (.c (.d (.int .i64 c))),none,[]⟩
@[simp] abbrev z0C(a b:Nat)(c:Int)(d:Nat)(e:List Nat):VOper:=⟨some a,.bin .lss (.t b) (.c (.d (.int .i64 c))),some (d,true),e⟩
@[simp] abbrev z0D(a b c:Nat)(d e:Int)(f:List Nat):VOper:=⟨some a,.call true (.c (.fn b [])) [.t c,.c (.d (.int .i64 d)),.c (.d (.int .i64 e))],none,f⟩
@[simp] abbrev z0E(a b c d:Nat):VOper:=⟨some a,.callS b (.c (.fn c [])) [.t d],none,[]⟩
@[simp] abbrev z0F(a b c:Nat):VOper:=⟨some a,.bin .neq (.t b) (.t c),none,[]⟩
@[simp] abbrev z0G(a b:Nat)(c:Int):VOper:=⟨some a,.bin .mul (.t b) (.c (.d (.int .i64 c))),none,[]⟩
@[simp] abbrev z0H(a b:Nat):VOper:=⟨some a,.call true (.c (.fn b [])) [],none,[]⟩
@[simp] abbrev z0I(a b:Nat)(c:Int)(d:Nat):VOper:=⟨some a,.bin .eql (.t b) (.c (.d (.int .i64 c))),some (d,true),[]⟩
@[simp] abbrev z0J(a b:Nat)(c:Int)(d:List Nat):VOper:=⟨some a,.bin .lss (.t b) (.c (.d (.int .i64 c))),none,d⟩
@[simp] abbrev z0K(a b c d e:Nat)(f:List Nat):VOper:=⟨some a,.call true (.c (.fn b [])) [.t c,.t d,.t e],none,f⟩
@[simp] abbrev z0L(a b:Nat)(c d:Int)(e f g:Nat)(h:List Nat):VOper:=⟨some a,.buildSlice b (.agg [.int .i64 c,.int .i64 d,.sl .nil []]) e [(f,.t g)],none,h⟩
@[simp] abbrev z0M(a b:Nat):VOper:=⟨some a,.bin .eql (.t b) (.c (.d (.int .i64 (-1)))),none,[]⟩
@[simp] abbrev z0N(a b:Nat)(c d:Int)(e:Nat):VOper:=⟨some a,.buildSlice b (.agg [.int .i64 c,.int .i64 d,.sl .nil []]) e [],none,[]⟩
@[simp] abbrev z0O(a b c:Nat)(d:List Nat):VOper:=⟨some a,.len false (.t b),some (c,true),d⟩
@[simp] abbrev z0P(a b:Nat)(c:List Nat):VOper:=⟨some a,.len false (.t b),none,c⟩
@[simp] abbrev z0Q(a:Nat)(b c:Int)(d e f g h i:Nat):VOper:=⟨some a,.build [.int .i64 b,.int .i64 c,.sl .nil []] [(d,e,.t f),(g,h,.t i)],none,[]⟩
@[simp] abbrev z0R(a b:Nat)(c d e:Int):VOper:=⟨some a,.alloc b [.int .i64 c,.int .i64 d,.int .i64 e,.sl .nil []],none,[]⟩
@[simp] abbrev z0S(a:Nat)(b:Int)(c:Nat):VOper:=⟨some a,.bin .add (.c (.d (.int .i64 b))) (.t c),none,[]⟩
@[simp] abbrev z0T(a b c d:Nat):VOper:=⟨some a,.pick (.t b) (.t c) (.c (.d (.bool false))),some (d,false),[]⟩
@[simp] abbrev z0U(a b:Nat)(c d e:Int)(f:Nat):VOper:=⟨some a,.buildSlice b (.agg [.int .i64 c,.int .i64 d,.int .i64 e,.sl .nil []]) f [],none,[]⟩
@[simp] abbrev z0V(a b:Nat)(c d:Int)(e f:Nat)(g h:Int):VOper:=⟨some a,.buildSlice b (.agg [.int .i64 c,.int .i64 d,.sl .nil []]) e [(f,.c (.d (.agg [.int .i64 g,.int .i64 h,.sl .nil []])))],none,[]⟩
@[simp] abbrev z0W(a b c d:Nat)(e:Int):VOper:=⟨some a,.indexAddr b (some c) (.t d) (.c (.d (.int .i64 e))),none,[]⟩
@[simp] abbrev z0X(a b:Nat):VOper:=⟨some a,.nilCheck (.t b),none,[]⟩
@[simp] abbrev z0Y(a b c d:Nat):VOper:=⟨some a,.bin .leq (.t b) (.c (.d (.int .u8 c))),some (d,true),[]⟩
@[simp] abbrev z0Z(a b c d:Nat)(e:List Nat):VOper:=⟨some a,.pick (.t b) (.c (.d (.bool true))) (.t c),some (d,true),e⟩
@[simp] abbrev z0a(a b:Nat)(c:Int)(d:Nat)(e:List Nat):VOper:=⟨some a,.bin .neq (.t b) (.c (.d (.int .i64 c))),some (d,false),e⟩
@[simp] abbrev z0b(a b c d:Nat)(e:List Nat):VOper:=⟨some a,.call false (.t b) [.t c,.t d],none,e⟩
@[simp] abbrev z0c(a b c d:Nat):VOper:=⟨some a,.call true (.c (.fn b [])) [.t c],some (d,true),[]⟩
@[simp] abbrev z0d(a b c:Nat):VOper:=⟨some a,.bin .shr (.t b) (.c (.d (.int .u64 c))),none,[]⟩
@[simp] abbrev z0e(a b c:Nat)(d:Int)(e:Nat):VOper:=⟨some a,.call true (.c (.fn b [])) [.t c,.c (.d (.int .i64 d)),.t e],none,[]⟩
@[simp] abbrev z0f(a b:Nat):VOper:=⟨some a,.not (.t b),none,[]⟩
@[simp] abbrev z0g(a b c:Nat)(d:List Nat):VOper:=⟨some a,.bin .shr (.t b) (.c (.d (.int .u64 c))),none,d⟩
@[simp] abbrev z0h(a b:Nat)(c:Int)(d:List Nat):VOper:=⟨some a,.bin .and (.t b) (.c (.d (.int .i64 c))),none,d⟩
@[simp] abbrev z0i(a b:Nat)(c:Int)(d:List Nat):VOper:=⟨some a,.bin .add (.t b) (.c (.d (.int .i64 c))),none,d⟩
@[simp] abbrev z0j(a b c:Nat)(d:Int)(e:Nat):VOper:=⟨some a,.indexAddr b none (.t c) (.c (.d (.int .i64 d))),some (e,true),[]⟩
@[simp] abbrev z0k(a b:Nat):VOper:=⟨some a,.conv (.kind .i64) (.t b),none,[]⟩
@[simp] abbrev z0l(a:Nat):VOper:=⟨some a,.move (.c (.d (.int .i64 (-1)))),none,[]⟩
@[simp] abbrev z0m(a b c d e:Nat):VOper:=⟨some a,.indexAddr b none (.t c) (.t d),some (e,true),[]⟩
@[simp] abbrev z0n(a b c d:Nat):VOper:=⟨some a,.load true b (.t c),some (d,true),[]⟩
@[simp] abbrev z0o(a b c:Nat):VOper:=⟨some a,.len false (.t b),some (c,true),[]⟩
@[simp] abbrev z0p(a b c:Nat)(d e:Int)(f:Nat):VOper:=⟨some a,.call true (.c (.fn b [])) [.t c,.c (.d (.int .i64 d)),.c (.d (.int .i64 e))],some (f,false),[]⟩
@[simp] abbrev z0q(a:Nat)(b c:Int)(d e f g h:Nat):VOper:=⟨some a,.build [.int .i64 b,.int .i64 c,.sl .nil []] [(d,e,.c (.d (.int .i64 (-1)))),(f,g,.t h)],none,[]⟩
@[simp] abbrev z0r(a b c:Nat):VOper:=⟨some a,.bin .eql (.t b) (.t c),none,[]⟩
@[simp] abbrev z0s(a b c d:Nat):VOper:=⟨some a,.bin .neq (.t b) (.t c),some (d,false),[]⟩
@[simp] abbrev z0t(a:Nat)(b c:Int)(d e f g h i:Nat):VOper:=⟨some a,.build [.int .i64 b,.int .i64 c] [(d,e,.t f),(g,h,.t i)],none,[]⟩
@[simp] abbrev z0u(a:Nat)(b:Int)(c:Nat):VOper:=⟨some a,.bin .sub (.c (.d (.int .i64 b))) (.t c),none,[]⟩
@[simp] abbrev z0v(a b:Nat)(c:Int):VOper:=⟨some a,.bin .quo (.t b) (.c (.d (.int .i64 c))),none,[]⟩
@[simp] abbrev z0w(a b:Nat)(c:Int):VOper:=⟨some a,.bin .rem (.t b) (.c (.d (.int .i64 c))),none,[]⟩
@[simp] abbrev z0x(a b c d:Nat):VOper:=⟨some a,.index (.t b) (.t c),some (d,true),[]⟩
@[simp] abbrev z0y(a b c d:Nat)(e:List Nat):VOper:=⟨some a,.bin .geq (.t b) (.t c),some (d,true),e⟩
@[simp] abbrev z0z(a b c d:Nat)(e:List Nat):VOper:=⟨some a,.bin .neq (.t b) (.t c),some (d,true),e⟩
@[simp] abbrev z10(a b c d:Nat)(e:List Nat):VOper:=⟨some a,.bin .eql (.t b) (.t c),some (d,true),e⟩
@[simp] abbrev z11(a b c d e:Nat):VOper:=⟨some a,.call false (.c (.fn b [])) [.t c,.t d,.t e],none,[]⟩
@[simp] abbrev z12(a b:Nat):VOper:=⟨some a,.conv (.kind .u64) (.t b),none,[]⟩
@[simp] abbrev z13(a b c:Nat):VOper:=⟨some a,.bin .geq (.t b) (.c (.d (.int .u8 c))),none,[]⟩
@[simp] abbrev z14(a b c d e:Nat):VOper:=⟨some a,.indexAddr b none (.t c) (.t d),some (e,false),[]⟩
@[simp] abbrev z15(a b c:Nat):VOper:=⟨some a,.bin .gtr (.t b) (.t c),none,[]⟩
@[simp] abbrev z16(a b c:Nat)(d:List Nat):VOper:=⟨some a,.bin .lss (.t b) (.t c),none,d⟩
@[simp] abbrev z17(a b c d:Nat):VOper:=⟨some a,.bin .eql (.t b) (.t c),some (d,true),[]⟩
@[simp] abbrev z18(a b c d:Nat):VOper:=⟨some a,.bin .lss (.t b) (.t c),some (d,true),[]⟩
@[simp] abbrev z19(a b c:Nat):VOper:=⟨some a,.makeFunc b [.t c],none,[]⟩
@[simp] abbrev z1A(a b:Nat):VOper:=⟨some a,.len true (.t b),none,[]⟩
@[simp] abbrev z1B(a b c d:Nat)(e:List Nat):VOper:=⟨some a,.loadS false b (.t c) d,none,e⟩
@[simp] abbrev z1C(a b c:Nat)(d:List Nat):VOper:=⟨some a,.not (.t b),some (c,true),d⟩
@[simp] abbrev z1D(a b c:Nat):VOper:=⟨some a,.call false (.t b) [.t c],none,[]⟩
@[simp] abbrev z1E(a b c:Nat):VOper:=⟨some a,.bin .geq (.t b) (.t c),none,[]⟩
@[simp] abbrev yR(a:Nat)(b:List Nat)(c:List VOper):VCode:= .region false a b c
@[simp] abbrev yT(a:Nat)(b:List Nat)(c:List VOper):VCode:= .region true a b c
def qMw:List VOper:=[zV 2 0 0,zV 3 1 1,z8 4]
def qMv:List VOper:=[z1 6 0 2,z3 7 1 6,z1 8 0 3,z3 9 1 8,z0F 10 7 9,z0 11 10,z0A 12 1 2 11,z08 13 1 12 11,z0A 14 1 3 11,z08 15 1 14 11,z0s 16 13 15 11,zl 17 11 16,z0 18 17,z0A 19 2 2 18,z08 20 1 19 18,⟨some 21,.len false (.t 20),some (18,false),[]⟩,z0A 22 2 3 18,z08 23 1 22 18,⟨some 24,.len false (.t 23),some (18,false),[]⟩,z0s 25 21 24 18,zl 26 18 25]
def qMu:List VOper:=[z8 4]
def qS3:List VOper:=[z4 5 0]
def qO1:List VOper:=[z0 27 5,z1 28 2 2,z3 29 1 28,zF 30 29,zC 31 27 30]
def qQy:List VOper:=[z1 34 2 2,zA 35 1 34 [0],z0 36 5,z2 37 3 35 36 [1,2],zG 38 3 37 [3],z1 39 2 3,zA 40 1 39 [5],z0 41 5,z2 42 3 40 41 [6,7],zG 43 3 42 [8],zN 44 3 38 43 [4,9],z01 45 44 [10]]
def qQx:List VOper:=[z8 4]
def qQz:List VOper:=[z0 32 5,z6 33 32 1,z0 5 33]
def qOS:VCode:=(.seq (.seq (yR 0 [2,3,5,31] qO1) (.cond (.t 31) .skip (.exit 0))) (.seq (.block 1 (.seq (yT 0 [2,3,5,45] qQy) (.cond (.t 45) (.seq (yR 0 [4] qQx) .ret) .skip))) (yR 0 [2,3,5] qQz)))
def qQw:List VOper:=[z09 4]
def v3:VFn:=⟨2,[.tmp 4],(.seq (yR 2 [2,3] qMw) (.seq (.seq (yR 0 [2,3,26] qMv) (.cond (.t 26) (.seq (yR 0 [4] qMu) .ret) .skip)) (.seq (.seq (yR 0 [2,3,5] qS3) (.block 0 (.loop [2,3,5] qOS))) (.seq (yR 0 [4] qQw) .ret))))⟩
def qS2:List VOper:=[zV 2 0 0,zV 3 1 1,z8 4]
def qS1:List VOper:=[z9 5 3 2,z9 6 3 3,zS 7 6 5 6,zb 8 7 0,z0 4 8]
def v4:VFn:=⟨2,[.tmp 4],(.seq (yR 2 [2,3] qS2) (.seq (yR 0 [4] qS1) .ret))⟩
def qQv:List VOper:=[zV 2 0 0,zV 3 1 1,z4 4 0]
def qQu:List VOper:=[z1 9 0 2,z3 10 1 9,z1 11 0 3,z3 12 1 11,z0t 13 0 0 0 1 10 1 1 12,z1 14 1 2,z3 15 1 14,z1 16 1 3,z3 17 1 16,z0t 18 0 0 0 1 15 1 1 17,z1 19 2 2,z3 20 1 19,zF 21 20,z1 22 2 3,z3 23 1 22,zF 24 23,z0t 25 0 0 0 1 21 1 1 24,⟨some 26,.buildSlice 2 (.agg [.int .i64 0,.int .i64 0]) 3 [(0,.t 13),(1,.t 18),(2,.t 25)],none,[]⟩,zF 27 26,z4 28 0]
def qEL:List VOper:=[zC 29 28 27]
def qI0:List VOper:=[zR 30 2 26 28,z9 31 2 30,⟨some 6,.alloc 0 [.int .i64 0,.int .i64 0],none,[]⟩,z7 2 6 31]
def qIZ:List VOper:=[z0W 33 1 2 6 0,z3 34 1 33,z0W 35 1 2 6 1,z3 36 1 35,zC 37 34 36,z0 32 37]
def qIY:List VOper:=[z0l 4]
def qMc:List VOper:=[z0W 39 1 2 6 0,z3 40 1 39,z0W 41 1 2 6 1,z3 42 1 41,z15 43 40 42,z0 38 43]
def qMb:List VOper:=[z4 4 1]
def qQt:List VOper:=[z6 44 28 1,z0 28 44]
def qxv:VCode:=(.seq (yR 0 [2,3,26,27,28,29] qEL) (.seq (.cond (.t 29) .skip (.exit 0)) (.seq (.block 1 (.seq (yR 1 [2,3,6,26,27,28] qI0) (.block 2 (.seq (yR 0 [2,3,6,26,27,28,32] qIZ) (.cond (.t 32) (.seq (yR 0 [4] qIY) .ret) (.seq (yR 0 [2,3,26,27,28,38] qMc) (.cond (.t 38) (.seq (yR 0 [4] qMb) .ret) .skip))))))) (yR 0 [2,3,26,27,28] qQt))))
def qQs:List VOper:=[z1 45 2 2,z3 46 1 45,zF 47 46,z4 48 0]
def qr9:List VOper:=[zC 49 48 47]
def qzE:List VOper:=[z0 50 48,z0 7 50]
def qI2:List VOper:=[z1 51 2 2,zA 52 1 51 [0],z0 53 7,z2 54 3 52 53 [1,2],zG 55 3 54 [3],z1 56 2 3,zA 57 1 56 [5],z0 58 7,z2 59 3 57 58 [6,7],zG 60 3 59 [8],zN 61 6 55 60 [4,9],zH 8 61 [0,1,2,3,4,5,6,7,8,9,10]]
def qzD:List VOper:=[z0 62 8,⟨some 63,.bin .neq (.t 62) (.c (.d (.int .i64 0))),none,[]⟩]
def qzC:List VOper:=[z0 64 8,z0 4 64]
def qzB:List VOper:=[z6 65 48 1,z0 48 65]
def qCI:VCode:=(.seq (yR 0 [2,3,47,48,49] qr9) (.seq (.cond (.t 49) .skip (.exit 3)) (.seq (.block 4 (.seq (yR 0 [2,3,7,47,48] qzE) (.seq (yT 0 [2,3,8,47,48] qI2) (.seq (yR 0 [2,3,8,47,48,63] qzD) (.cond (.t 63) (.seq (yR 0 [4] qzC) .ret) .skip))))) (yR 0 [2,3,47,48] qzB))))
def qI1:List VOper:=[z4 4 0]
def v6:VFn:=⟨2,[.tmp 4],(.seq (yR 2 [2,3] qQv) (.seq (.seq (yR 0 [2,3,26,27,28] qQu) (.block 0 (.loop [2,3,26,27,28] qxv))) (.seq (.seq (yR 0 [2,3,47,48] qQs) (.block 3 (.loop [2,3,47,48] qCI))) (.seq (yR 0 [4] qI1) .ret))))⟩
def qwo:List VOper:=[z4 4 0]
def qwn:List VOper:=[z4 5 0]
def qwm:List VOper:=[z0 6 5,z0 7 0,zF 8 7,zC 9 6 8]
def qwk:List VOper:=[z0 12 0,z0 13 5,zR 14 3 12 13,z1 15 0 14,z3 16 1 15,z0 17 1,z0r 18 16 17]
def qwj:List VOper:=[z0 19 5,z0 4 19]
def qwl:List VOper:=[z0 10 5,z6 11 10 1,z0 5 11]
def qCM:VCode:=(.seq (.seq (yR 0 [0,1,5,9] qwm) (.cond (.t 9) .skip (.exit 0))) (.seq (.block 1 (.seq (yR 0 [0,1,5,18] qwk) (.cond (.t 18) (.seq (yR 0 [4] qwj) .ret) .skip))) (yR 0 [0,1,5] qwl)))
def qwi:List VOper:=[z0l 4]
def v13:VFn:=⟨2,[.tmp 4],(.seq (yR 0 [0,1] qwo) (.seq (.seq (yR 0 [0,1,5] qwn) (.block 0 (.loop [0,1,5] qCM))) (.seq (yR 0 [4] qwi) .ret)))⟩
def qMU:List VOper:=[zV 3 0 1,z4 4 0]
def qMT:List VOper:=[z0 5 0,z19 6 18 3,zZ 7 19 5 6,z0 4 7]
def v14:VFn:=⟨2,[.tmp 4],(.seq (yR 1 [0,3] qMU) (.seq (yR 0 [4] qMT) .ret))⟩
def qMS:List VOper:=[zV 2 0 0,z8 3]
def qMR:List VOper:=[z1 4 0 2,z3 5 1 4,z3 6 1 1,z0r 7 5 6,z0 3 7]
def v18:VFn:=⟨2,[.tmp 3],(.seq (yR 1 [1,2] qMS) (.seq (yR 0 [3] qMR) .ret))⟩
def qwh:List VOper:=[z4 4 0]
def qwg:List VOper:=[z0 6 0,zF 7 6,z4 8 0]
def qwf:List VOper:=[zC 9 8 7]
def qwe:List VOper:=[z0 10 8,z0 5 10]
def qwd:List VOper:=[z0 11 1,z0 12 0,z0 13 5,zR 14 3 12 13,z9 15 3 14,z1D 16 11 15]
def qwc:List VOper:=[z0 17 5,z0 4 17]
def qwb:List VOper:=[z6 18 8 1,z0 8 18]
def qCL:VCode:=(.seq (yR 0 [0,1,7,8,9] qwf) (.seq (.cond (.t 9) .skip (.exit 0)) (.seq (.block 1 (.seq (yR 0 [0,1,5,7,8] qwe) (.seq (yR 0 [0,1,5,7,8,16] qwd) (.cond (.t 16) (.seq (yR 0 [4] qwc) .ret) .skip)))) (yR 0 [0,1,7,8] qwb))))
def qwa:List VOper:=[z0l 4]
def v19:VFn:=⟨2,[.tmp 4],(.seq (yR 0 [0,1] qwh) (.seq (.seq (yR 0 [0,1,7,8] qwg) (.block 0 (.loop [0,1,7,8] qCL))) (.seq (yR 0 [4] qwa) .ret)))⟩
def qMQ:List VOper:=[zV 1 0 0,z4 2 0]
def qMP:List VOper:=[z4 3 1]
def qMO:List VOper:=[z4 4 0]
def qJj:List VOper:=[z0 5 4,z1 6 2 1,z3 7 1 6,zF 8 7,zC 9 5 8]
def qMM:List VOper:=[z0 12 3,z1 13 2 1,z3 14 1 13,z0 15 4,zR 16 3 14 15,z9 17 3 16,zI 18 22 17,za 19 12 18,z0 3 19]
def qMN:List VOper:=[z0 10 4,z6 11 10 1,z0 4 11]
def qFS:VCode:=(.seq (.seq (yR 0 [1,3,4,9] qJj) (.cond (.t 9) .skip (.exit 0))) (.seq (.block 1 (yR 0 [1,3,4] qMM)) (yR 0 [1,3,4] qMN)))
def qML:List VOper:=[z0 20 3,z0 2 20]
def v22:VFn:=⟨1,[.tmp 2],(.seq (yR 1 [1] qMQ) (.seq (yR 0 [1,3] qMP) (.seq (.seq (yR 0 [1,3,4] qMO) (.block 0 (.loop [1,3,4] qFS))) (.seq (yR 0 [2] qML) .ret))))⟩
def qMK:List VOper:=[zV 1 0 0,z4 2 0]
def qMJ:List VOper:=[⟨some 3,.alloc 0 [.int .i64 0],none,[]⟩,⟨none,.store false 1 (.t 3) (.c (.d (.int .i64 0))),none,[]⟩]
def qMI:List VOper:=[z9 4 3 1,z19 5 24 3,zZ 6 25 4 5]
def qMH:List VOper:=[z3 7 1 3,z0 2 7]
def v23:VFn:=⟨1,[.tmp 2],(.seq (yR 1 [1] qMK) (.seq (yR 1 [1,3] qMJ) (.seq (yR 0 [3] qMI) (.seq (yR 0 [2] qMH) .ret))))⟩
def qMG:List VOper:=[zV 2 0 0]
def qMF:List VOper:=[z3 3 1 1,z6 4 3 1,z7 1 1 4]
def v24:VFn:=⟨2,[],(.seq (yR 1 [1] qMG) (yR 0 [] qMF))⟩
def qME:List VOper:=[zV 2 0 0]
def qMD:List VOper:=[z0 6 1,z9 7 3 2,z1D 8 6 7]
def qMC:List VOper:=[z1 9 2 2,z3 10 1 9,zF 11 10,z4 12 0]
def qJi:List VOper:=[zC 13 12 11]
def qMB:List VOper:=[zR 14 3 10 12,z9 15 3 14,zB 5 0 0 0,z7 3 5 15]
def qMA:List VOper:=[z9 16 3 5,z0 17 1,zZ 18 25 16 17]
def qMz:List VOper:=[z6 19 12 1,z0 12 19]
def qFR:VCode:=(.seq (yR 0 [1,10,11,12,13] qJi) (.seq (.cond (.t 13) .skip (.exit 0)) (.seq (.block 1 (.seq (yR 1 [1,5,10,11,12] qMB) (yR 0 [1,10,11,12] qMA))) (yR 0 [1,10,11,12] qMz))))
def v25:VFn:=⟨2,[],(.seq (yR 1 [1,2] qME) (.seq (yR 0 [1,2] qMD) (.seq (yR 0 [1,10,11,12] qMC) (.block 0 (.loop [1,10,11,12] qFR)))))⟩
def qMy:List VOper:=[z8 4]
def qMx:List VOper:=[z0 5 1,z0 6 0,zF 7 6,zv 8 7 1,z0e 9 30 5 0 8,z0 4 9]
def v29:VFn:=⟨2,[.tmp 4],(.seq (yR 0 [0,1] qMy) (.seq (yR 0 [4] qMx) .ret))⟩
def qJh:List VOper:=[z8 6]
def qJg:List VOper:=[z0 7 0,z0 8 1,z1E 9 7 8,z0 10 9,zM 11 0 10,zM 12 2 10,⟨some 13,.bin .leq (.t 11) (.t 12),some (10,true),[]⟩,zD 14 10 13,z0 6 14]
def v30:VFn:=⟨3,[.tmp 6],(.seq (yR 0 [0,1,2] qJh) (.seq (yR 0 [6] qJg) .ret))⟩
def qJf:List VOper:=[z8 6]
def qJe:List VOper:=[z0 7 0,z0 8 1,z1E 9 7 8,z0 10 9,zM 11 0 10,zM 12 2 10,⟨some 13,.bin .leq (.t 11) (.t 12),some (10,true),[]⟩,zD 14 10 13,z0 6 14]
def v31:VFn:=⟨3,[.tmp 6],(.seq (yR 0 [0,1,2] qJf) (.seq (yR 0 [6] qJe) .ret))⟩
def qJd:List VOper:=[z8 4]
def qJc:List VOper:=[z0 5 1,z0 6 0,zF 7 6,zv 8 7 1,z0e 9 31 5 0 8,z0 10 9,zM 11 0 10,zM 12 1 10,z0m 13 3 11 12 10,zg 14 2 13 10,ze 15 1 14 10,zD 16 10 15,z0 4 16]
def v33:VFn:=⟨2,[.tmp 4],(.seq (yR 0 [0,1] qJd) (.seq (yR 0 [4] qJc) .ret))⟩
def qJb:List VOper:=[z8 4]
def qJa:List VOper:=[z0 5 0,z0 6 1,zS 7 29 5 6,z0 8 7,zM 9 0 8,zM 10 1 8,z0m 11 3 9 10 8,zg 12 2 11 8,ze 13 1 12 8,zD 14 8 13,z0 4 14]
def v34:VFn:=⟨2,[.tmp 4],(.seq (yR 0 [0,1] qJb) (.seq (yR 0 [4] qJa) .ret))⟩
def qzN:List VOper:=[⟨some 2,.move (.c (.d (.str ⟨#[]⟩))),none,[]⟩]
def qzM:List VOper:=[z0 4 0,zw 5 4 0,z0 6 5,zM 7 0 6,⟨some 8,.bin .gtr (.t 7) (.c (.d (.int .i64 (-10)))),some (6,true),[]⟩,zD 9 6 8,z0 3 9]
def qzL:List VOper:=[z0 10 0,z0u 11 0 10,zI 12 38 11,⟨some 13,.bin .add (.c (.d (.str ⟨#[45]⟩))) (.t 12),none,[]⟩,z0 2 13]
def qzK:List VOper:=[z0 15 0,zw 16 15 0,z0 14 16]
def qzJ:List VOper:=[z0 17 0,z0v 18 17 10,zI 19 38 18,z0 20 0,z0w 21 20 10,z0u 22 0 21,zI 23 38 22,za 24 19 23,z0 2 24]
def qzI:List VOper:=[z0 26 0,zw 27 26 10,z0 25 27]
def qzH:List VOper:=[z0 28 0,z0S 29 48 28,⟨some 30,.conv (.kind .i32) (.t 29),none,[]⟩,⟨some 31,.conv .rune (.t 30),none,[]⟩,z0 2 31]
def qzG:List VOper:=[z0 32 0,z0v 33 32 10,zI 34 38 33,z0 35 0,z0w 36 35 10,z0S 37 48 36,⟨some 38,.conv (.kind .i32) (.t 37),none,[]⟩,⟨some 39,.conv .rune (.t 38),none,[]⟩,za 40 34 39,z0 2 40]
def v38:VFn:=⟨1,[.tmp 2],(.seq (yR 0 [0] qzN) (.seq (.block 0 (.seq (yR 0 [0,3] qzM) (.cond (.t 3) (.seq (yR 0 [2] qzL) .ret) (.seq (yR 0 [0,14] qzK) (.cond (.t 14) (.seq (yR 0 [2] qzJ) .ret) (.seq (yR 0 [0,25] qzI) (.cond (.t 25) (.seq (yR 0 [2] qzH) .ret) .skip))))))) (.seq (yR 0 [2] qzG) .ret)))⟩
def qES:List VOper:=[⟨some 2,.move (.c (.d (.str ⟨#[]⟩))),none,[]⟩]
def qER:List VOper:=[z0 6 0,zb 7 6 0]
def qEQ:List VOper:=[⟨some 2,.move (.c (.d (.str ⟨#[48]⟩))),none,[]⟩]
def qI9:List VOper:=[z0 8 0,zw 9 8 0,z0 3 9]
def qI8:List VOper:=[⟨some 4,.move (.c (.d (.str ⟨#[]⟩))),none,[]⟩]
def qv9:List VOper:=[z0 10 0,⟨some 11,.bin .neq (.t 10) (.c (.d (.int .i64 0))),none,[]⟩]
def qEP:List VOper:=[z0 12 0,z0w 13 12 10,z0 5 13]
def qEO:List VOper:=[z0 14 5,zw 15 14 0]
def qEN:List VOper:=[z0 16 5,z0u 17 0 16,z0 5 17]
def qEM:List VOper:=[z0 18 5,z0S 19 48 18,⟨some 20,.conv (.kind .u8) (.t 19),none,[]⟩,⟨some 21,.buildSlice 1 (.int .u8 0) 1 [(0,.t 20)],none,[]⟩,⟨some 22,.conv .bytes (.t 21),none,[]⟩,z0 23 4,za 24 22 23,z0 4 24]
def qtD:List VOper:=[z0 25 0,z0v 26 25 10,z0 0 26]
def qra:VCode:=(.seq (.seq (yR 0 [0,3,4,11] qv9) (.cond (.t 11) .skip (.exit 0))) (.block 1 (.seq (yR 0 [0,3,4,5] qEP) (.seq (.seq (yR 0 [0,3,4,5,15] qEO) (.cond (.t 15) (yR 0 [0,3,4,5] qEN) .skip)) (.seq (yR 0 [0,3,4] qEM) (yR 0 [0,3,4] qtD))))))
def qzF:List VOper:=[z0 27 3]
def qGh:List VOper:=[z0 28 4,⟨some 29,.bin .add (.c (.d (.str ⟨#[45]⟩))) (.t 28),none,[]⟩,z0 2 29]
def qGg:List VOper:=[z0 30 4,z0 2 30]
def v39:VFn:=⟨1,[.tmp 2],(.seq (yR 0 [0] qES) (.seq (.seq (yR 0 [0,7] qER) (.cond (.t 7) (.seq (yR 0 [2] qEQ) .ret) .skip)) (.seq (yR 0 [0,3] qI9) (.seq (yR 0 [0,3,4] qI8) (.seq (.block 0 (.loop [0,3,4] qra)) (.seq (.seq (yR 0 [4,27] qzF) (.cond (.t 27) (.seq (yR 0 [2] qGh) .ret) .skip)) (.seq (yR 0 [2] qGg) .ret)))))))⟩
def qMt:List VOper:=[z8 2]
def qMs:List VOper:=[z4 3 0]
def qI7:List VOper:=[z0 4 3,z0 5 0,z1A 6 5,zC 7 4 6]
def qMq:List VOper:=[z0 10 0,z0 11 3,⟨some 12,.index (.t 10) (.t 11),none,[]⟩,z13 13 12 97,z0 14 13,zM 15 0 14,zM 16 3 14,z0x 17 15 16 14,z0Y 18 17 122 14,zD 19 14 18,z0 20 19,zk 21 3 20,⟨some 22,.bin .gtr (.t 21) (.c (.d (.int .i64 0))),some (20,false),[]⟩,zk 23 22 20,zM 24 0 23,zM 25 3 23,z0x 26 24 25 23,⟨some 27,.bin .geq (.t 26) (.c (.d (.int .u8 48))),some (23,true),[]⟩,z0T 28 23 27 20,zk 29 28 20,zM 30 0 29,zM 31 3 29,z0x 32 30 31 29,z0Y 33 32 57 29,z0T 34 29 33 20,zl 35 20 34,z0f 36 35]
def qMp:List VOper:=[z8 2]
def qMr:List VOper:=[z0 8 3,z6 9 8 1,z0 3 9]
def qCK:VCode:=(.seq (.seq (yR 0 [0,3,7] qI7) (.cond (.t 7) .skip (.exit 0))) (.seq (.block 1 (.seq (yR 0 [0,3,36] qMq) (.cond (.t 36) (.seq (yR 0 [2] qMp) .ret) .skip))) (yR 0 [0,3] qMr)))
def qMo:List VOper:=[z0 37 0,z1A 38 37,zo 39 31 38 1 8,z0 2 39]
def v59:VFn:=⟨1,[.tmp 2],(.seq (yR 0 [0] qMt) (.seq (.seq (yR 0 [0,3] qMs) (.block 0 (.loop [0,3] qCK))) (.seq (yR 0 [2] qMo) .ret)))⟩
def qMn:List VOper:=[z8 2]
def qMm:List VOper:=[z0 4 0,z1A 5 4,z4 6 0]
def qI6:List VOper:=[zC 7 6 5]
def qMl:List VOper:=[z0 8 6,z0 3 8]
def qMk:List VOper:=[z0 9 0,z0 10 3,⟨some 11,.index (.t 9) (.t 10),none,[]⟩,zI 12 61 11,z0f 13 12,z0 14 13,zM 15 0 14,zM 16 3 14,z0x 17 15 16 14,z0c 18 62 17 14,⟨some 19,.not (.t 18),some (14,true),[]⟩,zD 20 14 19]
def qMj:List VOper:=[z8 2]
def qMi:List VOper:=[z6 21 6 1,z0 6 21]
def qCJ:VCode:=(.seq (yR 0 [0,5,6,7] qI6) (.seq (.cond (.t 7) .skip (.exit 0)) (.seq (.block 1 (.seq (yR 0 [0,3,5,6] qMl) (.seq (yR 0 [0,5,6,20] qMk) (.cond (.t 20) (.seq (yR 0 [2] qMj) .ret) .skip)))) (yR 0 [0,5,6] qMi))))
def qMh:List VOper:=[z0 22 0,z1A 23 22,zo 24 30 23 1 8,z0 25 24,zM 26 0 25,⟨some 27,.index (.t 26) (.c (.d (.int .i64 0))),some (25,true),[]⟩,z0c 28 61 27 25,zD 29 25 28,z0 2 29]
def v60:VFn:=⟨1,[.tmp 2],(.seq (yR 0 [0] qMn) (.seq (.seq (yR 0 [0,5,6] qMm) (.block 0 (.loop [0,5,6] qCJ))) (.seq (yR 0 [2] qMh) .ret)))⟩
def qMg:List VOper:=[z8 2]
def qMf:List VOper:=[z0 3 0,z13 4 3 97,z0 5 4,zM 6 0 5,z0Y 7 6 122 5,zD 8 5 7,z0 2 8]
def v61:VFn:=⟨1,[.tmp 2],(.seq (yR 0 [0] qMg) (.seq (yR 0 [2] qMf) .ret))⟩
def qMe:List VOper:=[z8 2]
def qMd:List VOper:=[z0 3 0,z13 4 3 48,z0 5 4,zM 6 0 5,z0Y 7 6 57 5,zD 8 5 7,z0 2 8]
def v62:VFn:=⟨1,[.tmp 2],(.seq (yR 0 [0] qMe) (.seq (yR 0 [2] qMd) .ret))⟩
def qsd:List VOper:=[z8 4]
def qsc:List VOper:=[z4 5 0]
def qgQ:List VOper:=[z0 7 5,z0 8 1,zF 9 8,zC 10 7 9]
def qI5:List VOper:=[z0 13 1,z0 14 5,z2 15 4 13 14 [0,1],zP 16 0 15 [2],zA 17 1 16 [3],z0D 18 31 17 0 99 [4],z01 19 18 [5],zH 20 19 [5,6],z5 21 5 20 [7],z00 22 21 0 20 [7,8],z5 23 22 20 [7,9],zL 24 1 23 [10],zL 25 5 23 [10],zj 26 25 1 23 [10,12],zT 27 4 24 26 23 [10,11,13],zK 28 0 27 23 [10,14],zJ 29 1 28 23 [10,15],zL 30 1 23 [10],zL 31 5 23 [10],zT 32 4 30 31 23 [10,17,18],zK 33 0 32 23 [10,19],zJ 34 1 33 23 [10,20],z0y 35 29 34 23 [10,16,21],zU 36 23 35 20 [7,10,22],zE 37 20 36 [7,23],zH 38 37 [10,24],z5 39 0 38 [25],z5 40 1 38 [25],z5 41 5 38 [25],zY 42 4 40 41 38 [25,27,28],zQ 43 1 42 38 [25,29],z03 44 3 43 38 [25,30],zO 45 80 39 44 38 [25,26,31],zu 46 45 38 [25,32],zE 47 38 46 [25,33]]
def qgP:List VOper:=[z8 4]
def qkG:List VOper:=[z4 6 0]
def qsb:List VOper:=[z0 48 6,z0 49 1,zF 50 49,zC 51 48 50]
def qI4:List VOper:=[z0 54 1,z0 55 6,z2 56 4 54 55 [0,1],zP 57 1 56 [2],zG 58 3 57 [3],z0 59 1,z0 60 5,z2 61 4 59 60 [5,6],zP 62 0 61 [7],zA 63 1 62 [8],zN 64 81 58 63 [4,9],⟨some 65,.bin .gtr (.t 64) (.c (.d (.int .i64 0))),none,[10]⟩]
def qkJ:List VOper:=[z8 4]
def qsa:List VOper:=[z0 52 6,z6 53 52 1,z0 6 53]
def qxw:VCode:=(.seq (.seq (yR 0 [0,1,5,6,51] qsb) (.cond (.t 51) .skip (.exit 2))) (.seq (.block 3 (.seq (yT 0 [0,1,5,6,65] qI4) (.cond (.t 65) (.seq (yR 0 [4] qkJ) .ret) .skip))) (yR 0 [0,1,5,6] qsa)))
def qkH:List VOper:=[z0 11 5,z6 12 11 1,z0 5 12]
def ql4:VCode:=(.seq (.seq (yR 0 [0,1,5,10] qgQ) (.cond (.t 10) .skip (.exit 0))) (.seq (.block 1 (.seq (.seq (yT 0 [0,1,5,47] qI5) (.cond (.t 47) (.seq (yR 0 [4] qgP) .ret) .skip)) (.seq (yR 0 [0,1,5,6] qkG) (.block 2 (.loop [0,1,5,6] qxw))))) (yR 0 [0,1,5] qkH)))
def qkI:List VOper:=[z09 4]
def v67:VFn:=⟨2,[.tmp 4],(.seq (yR 0 [0,1] qsd) (.seq (.seq (yR 0 [0,1,5] qsc) (.block 0 (.loop [0,1,5] ql4))) (.seq (yR 0 [4] qkI) .ret)))⟩
def qjO:List VOper:=[z8 4]
def qjN:List VOper:=[z0 7 1,zF 8 7,z4 9 0]
def qjM:List VOper:=[zC 10 9 8]
def qjL:List VOper:=[z0 11 9,zR 12 4 7 9,z9 13 4 12,z0R 6 0 0 0 0,z0 5 11,z7 4 6 13]
def qI3:List VOper:=[z1 14 0 6,zA 15 1 14 [0],z0D 16 30 15 0 99 [1],z01 17 16 [2],zH 18 17 [2,3],z5 19 5 18 [4],z00 20 19 0 18 [4,5],z5 21 20 18 [4,6],zL 22 1 21 [7],zL 23 5 21 [7],zj 24 23 1 21 [7,9],zT 25 4 22 24 21 [7,8,10],zK 26 0 25 21 [7,11],zJ 27 1 26 21 [7,12],zK 28 0 6 21 [7],zJ 29 1 28 21 [7,14],z0y 30 27 29 21 [7,13,15],zU 31 21 30 18 [4,7,16],zE 32 18 31 [4,17],zH 33 32 [7,18],z5 34 0 33 [19],zQ 35 1 6 33 [19],z03 36 3 35 33 [19,21],zO 37 70 34 36 33 [19,20,22],zu 38 37 33 [19,23],zE 39 33 38 [19,24]]
def qjK:List VOper:=[z8 4]
def qjJ:List VOper:=[z0 40 1,z19 41 71 6,zZ 42 72 40 41]
def qjI:List VOper:=[z8 4]
def qjH:List VOper:=[z6 43 9 1,z0 9 43]
def ql3:VCode:=(.seq (yR 0 [0,1,7,8,9,10] qjM) (.seq (.cond (.t 10) .skip (.exit 0)) (.seq (.block 1 (.seq (yR 1 [0,1,5,6,7,8,9] qjL) (.seq (.seq (yT 0 [0,1,6,7,8,9,39] qI3) (.cond (.t 39) (.seq (yR 0 [4] qjK) .ret) .skip)) (.seq (yR 0 [0,1,7,8,9,42] qjJ) (.cond (.t 42) (.seq (yR 0 [4] qjI) .ret) .skip))))) (yR 0 [0,1,7,8,9] qjH))))
def qjG:List VOper:=[z09 4]
def v68:VFn:=⟨2,[.tmp 4],(.seq (yR 0 [0,1] qjO) (.seq (.seq (yR 0 [0,1,7,8,9] qjN) (.block 0 (.loop [0,1,7,8,9] ql3))) (.seq (yR 0 [4] qjG) .ret)))⟩
def qEK:List VOper:=[zV 3 0 1,z8 4]
def qEJ:List VOper:=[z0 5 0,zI 6 77 5,z0 7 6,z0n 8 3 3 7,z0c 9 23 8 7,⟨some 10,.bin .leq (.t 9) (.c (.d (.int .i64 60))),some (7,true),[]⟩,zD 11 7 10,z0 12 11,zM 13 0 12,z0n 14 3 3 12,⟨some 15,.call true (.c (.fn 78 [])) [.t 13,.t 14],some (12,true),[]⟩,zD 16 12 15,z0 4 16]
def v70:VFn:=⟨2,[.tmp 4],(.seq (yR 1 [0,3] qEK) (.seq (yR 0 [4] qEJ) .ret))⟩
def qMa:List VOper:=[zV 2 0 0,z8 3]
def qL9:List VOper:=[z1 4 1 1,z9 5 3 4,z1 6 0 2,z3 7 1 6,zS 8 73 5 7,z0B 9 8 0,z0 3 9]
def v71:VFn:=⟨2,[.tmp 3],(.seq (yR 1 [1,2] qMa) (.seq (yR 0 [3] qL9) .ret))⟩
def qIX:List VOper:=[z8 4]
def qIW:List VOper:=[z0 5 0,z0 6 1,zZ 7 76 5 6,⟨some 8,.bin .geq (.t 7) (.c (.d (.int .i64 0))),none,[]⟩,z0 4 8]
def v72:VFn:=⟨2,[.tmp 4],(.seq (yR 0 [0,1] qIX) (.seq (yR 0 [4] qIW) .ret))⟩
def qL8:List VOper:=[zV 2 0 0,zV 3 1 1,z4 4 0]
def qL7:List VOper:=[⟨some 5,.alloc 0 [.int .i64 0],none,[]⟩,⟨none,.store false 1 (.t 5) (.c (.d (.int .i64 0))),none,[]⟩]
def qL6:List VOper:=[z9 6 3 2,⟨some 7,.makeFunc 74 [.t 3,.t 5],none,[]⟩,zZ 8 25 6 7]
def qL5:List VOper:=[z3 9 1 5,z0 4 9]
def v73:VFn:=⟨2,[.tmp 4],(.seq (yR 2 [2,3] qL8) (.seq (yR 1 [2,3,5] qL7) (.seq (yR 0 [5] qL6) (.seq (yR 0 [4] qL5) .ret))))⟩
def qEI:List VOper:=[zV 3 0 0]
def qEH:List VOper:=[z9 4 3 3,zI 5 75 4,z0 6 5,zg 7 1 3 6,ze 8 1 7 6,ze 9 1 1 6,z17 10 8 9 6,zD 11 6 10]
def qEG:List VOper:=[z3 12 1 2,z6 13 12 1,z7 1 2 13]
def v74:VFn:=⟨3,[],(.seq (yR 1 [1,2,3] qEI) (.seq (yR 0 [2,11] qEH) (.cond (.t 11) (yR 0 [] qEG) .skip)))⟩
def qL4:List VOper:=[zV 1 0 0,z8 2]
def qL3:List VOper:=[z1 3 0 1,z3 4 1 3,z0M 5 4,z0 2 5]
def v75:VFn:=⟨1,[.tmp 2],(.seq (yR 1 [1] qL4) (.seq (yR 0 [2] qL3) .ret))⟩
def qv8:List VOper:=[z4 4 0]
def qv7:List VOper:=[z0 6 0,zF 7 6,z4 8 0]
def qv6:List VOper:=[zC 9 8 7]
def qv5:List VOper:=[z0 10 8,z0 5 10]
def qv4:List VOper:=[z0 11 1,z0 12 0,z0 13 5,zR 14 4 12 13,z9 15 4 14,z1D 16 11 15]
def qv3:List VOper:=[z0 17 5,z0 4 17]
def qv2:List VOper:=[z6 18 8 1,z0 8 18]
def qCH:VCode:=(.seq (yR 0 [0,1,7,8,9] qv6) (.seq (.cond (.t 9) .skip (.exit 0)) (.seq (.block 1 (.seq (yR 0 [0,1,5,7,8] qv5) (.seq (yR 0 [0,1,5,7,8,16] qv4) (.cond (.t 16) (.seq (yR 0 [4] qv3) .ret) .skip)))) (yR 0 [0,1,7,8] qv2))))
def qv1:List VOper:=[z0l 4]
def v76:VFn:=⟨2,[.tmp 4],(.seq (yR 0 [0,1] qv8) (.seq (.seq (yR 0 [0,1,7,8] qv7) (.block 0 (.loop [0,1,7,8] qCH))) (.seq (yR 0 [4] qv1) .ret)))⟩
def qih:List VOper:=[z8 2]
def qig:List VOper:=[z0 5 0,zF 6 5,z4 7 0]
def qif:List VOper:=[zC 8 7 6]
def qie:List VOper:=[z0 9 7,zR 10 3 5 7,z9 11 3 10,⟨some 4,.alloc 0 [.str ⟨#[]⟩,.int .i64 0,.bool false],none,[]⟩,z0 3 9,z7 3 4 11]
def qid:List VOper:=[z1 12 0 4,z3 13 1 12,zI 14 60 13,z0f 15 14,z0 16 15,zk 17 0 16,z0A 18 0 4 16,z08 19 1 18 16,⟨some 20,.call true (.c (.fn 14 [])) [.t 17,.t 19],some (16,false),[]⟩,zk 21 3 16,z0s 22 20 21 16,zl 23 16 22,z0 24 23,z0A 25 1 4 24,z08 26 1 25 24,z0p 27 30 26 0 3 24,⟨some 28,.not (.t 27),some (24,false),[]⟩,zl 29 24 28,z0 30 29,z0A 31 2 4 30,z08 32 1 31 30,zk 33 32 30,zg 34 1 4 33,ze 35 1 34 33,⟨some 36,.bin .neq (.t 35) (.c (.d (.int .i64 2))),some (33,true),[]⟩,z0T 37 33 36 30,zl 38 30 37]
def qic:List VOper:=[z8 2]
def qib:List VOper:=[z6 39 7 1,z0 7 39]
def qmv:VCode:=(.seq (yR 0 [0,5,6,7,8] qif) (.seq (.cond (.t 8) .skip (.exit 0)) (.seq (.block 1 (.seq (yR 1 [0,3,4,5,6,7] qie) (.seq (yR 0 [0,5,6,7,38] qid) (.cond (.t 38) (.seq (yR 0 [2] qic) .ret) .skip)))) (yR 0 [0,5,6,7] qib))))
def qia:List VOper:=[z0 40 0,zF 41 40,zo 42 30 41 1 8,z0 43 42,zM 44 0 43,z0j 45 3 44 0 43,zg 46 0 45 43,ze 47 1 46 43,⟨some 48,.bin .eql (.t 47) (.c (.d (.str ⟨#[116,116]⟩))),some (43,true),[]⟩,zD 49 43 48,z0 50 49,zM 51 0 50,z0j 52 3 51 0 50,zg 53 1 52 50,ze 54 1 53 50,z0I 55 54 0 50,zD 56 50 55,z0 2 56]
def v77:VFn:=⟨1,[.tmp 2],(.seq (yR 0 [0] qih) (.seq (.seq (yR 0 [0,5,6,7] qig) (.block 0 (.loop [0,5,6,7] qmv))) (.seq (yR 0 [2] qia) .ret)))⟩
def qv0:List VOper:=[zV 3 0 1,z8 4]
def qvZ:List VOper:=[z9 7 3 3,zI 8 75 7]
def qvY:List VOper:=[z1 9 1 3,z3 10 1 9,zo 11 30 10 0 99,z0 12 11,zg 13 2 3 12,ze 14 1 13 12,z0o 15 14 12,z0I 16 15 0 12,zD 17 12 16,z0 4 17]
def qEF:List VOper:=[z0 18 0,z1 19 0 3,zA 20 1 19 [1],zN 21 29 18 20 [0,2],z01 22 21 [3],zH 23 22 [3,4],zQ 24 1 3 23 [5],zW 25 1 24 23 [5,6],z0a 26 25 0 23 [5,7],zE 27 23 26 [5,8],zH 28 27 [5,9],z5 29 0 28 [10],zQ 30 0 3 28 [10],zW 31 1 30 28 [10,12],zY 32 3 29 31 28 [10,11,13],zQ 33 2 32 28 [10,14],zW 34 1 33 28 [10,15],zu 35 34 28 [10,16],z5 36 35 28 [10,17],zK 37 2 3 36 [18],zJ 38 1 37 36 [18,19],z0O 39 38 36 [18,20],zL 40 0 36 [18],zK 41 0 3 36 [18],zJ 42 1 41 36 [18,23],zT 43 3 40 42 36 [18,22,24],zK 44 1 43 36 [18,25],zJ 45 1 44 36 [18,26],z0z 46 39 45 36 [18,21,27],zU 47 36 46 28 [10,18,28],zE 48 28 47 [10,29],zH 49 48 [18,30],z5 50 0 49 [31],zQ 51 0 3 49 [31],zW 52 1 51 49 [31,33],zY 53 3 50 52 49 [31,32,34],zQ 54 2 53 49 [31,35],zW 55 1 54 49 [31,36],z5 56 55 49 [31,37],zK 57 2 3 56 [38],zJ 58 1 57 56 [38,39],z0O 59 58 56 [38,40],z0C 60 59 2 56 [38,41],zU 61 56 60 49 [31,38,42],zE 62 49 61 [31,43]]
def qIV:List VOper:=[z8 4]
def qL2:List VOper:=[z1 63 2 3,z3 64 1 63,zF 65 64,z4 66 0]
def qEE:List VOper:=[zC 67 66 65]
def qIU:List VOper:=[z0 68 66,zR 69 3 64 66,z9 70 3 69,zB 6 0 0 0,z0 5 68,z7 3 6 70]
def qED:List VOper:=[z0 71 0,z9 72 3 6,zN 73 78 71 72 [0,1],z01 74 73 [2],zH 75 74 [2,3],z5 76 0 75 [4],zQ 77 0 3 75 [4],zW 78 1 77 75 [4,6],zY 79 3 76 78 75 [4,5,7],zQ 80 2 79 75 [4,8],zW 81 1 80 75 [4,9],z5 82 81 75 [4,10],zK 83 0 6 82 [11],zJ 84 1 83 82 [11,12],zK 85 0 3 82 [11],zJ 86 1 85 82 [11,14],z10 87 84 86 82 [11,13,15],zL 88 87 82 [11,16],z5 89 5 88 [17],z00 90 89 0 88 [17,18],z5 91 90 88 [17,19],zd 92 3 6 91 [20],zK 93 2 3 91 [20],zJ 94 1 93 91 [20,22],zL 95 5 91 [20],zj 96 95 1 91 [20,24],zT 97 3 94 96 91 [20,23,25],zd 98 3 97 91 [20,26],z06 99 79 92 98 91 [20,21,27],zU 100 91 99 88 [17,20,28],z0Z 101 88 100 82 [11,17,29],zU 102 82 101 75 [4,11,30],zE 103 75 102 [4,31]]
def qIT:List VOper:=[z8 4]
def qzA:List VOper:=[z6 104 66 1,z0 66 104]
def qCG:VCode:=(.seq (yR 0 [0,3,64,65,66,67] qEE) (.seq (.cond (.t 67) .skip (.exit 0)) (.seq (.block 1 (.seq (yR 1 [0,3,5,6,64,65,66] qIU) (.seq (yT 0 [0,3,64,65,66,103] qED) (.cond (.t 103) (.seq (yR 0 [4] qIT) .ret) .skip)))) (yR 0 [0,3,64,65,66] qzA))))
def qGf:List VOper:=[z09 4]
def v78:VFn:=⟨2,[.tmp 4],(.seq (yR 1 [0,3] qv0) (.seq (.seq (yR 0 [0,3,8] qvZ) (.cond (.t 8) (.seq (yR 0 [4] qvY) .ret) .skip)) (.seq (.seq (yT 0 [0,3,62] qEF) (.cond (.t 62) (.seq (yR 0 [4] qIV) .ret) .skip)) (.seq (.seq (yR 0 [0,3,64,65,66] qL2) (.block 0 (.loop [0,3,64,65,66] qCG))) (.seq (yR 0 [4] qGf) .ret)))))⟩
def qL1:List VOper:=[zV 2 0 0,zV 3 1 1,z8 4]
def qL0:List VOper:=[z9 5 3 2,z9 6 3 3,zS 7 6 5 6,zw 8 7 0,z0 4 8]
def v79:VFn:=⟨2,[.tmp 4],(.seq (yR 2 [2,3] qL1) (.seq (yR 0 [4] qL0) .ret))⟩
def qEC:List VOper:=[zV 3 0 1,z8 4]
def qEB:List VOper:=[z0 5 0,zI 6 82 5,z0 7 6,z0n 8 3 3 7,z0c 9 22 8 7,⟨some 10,.bin .leq (.t 9) (.c (.d (.int .i64 60))),some (7,true),[]⟩,zD 11 7 10,z0 12 11,zM 13 0 12,z0n 14 3 3 12,⟨some 15,.call true (.c (.fn 83 [])) [.t 13,.t 14],some (12,true),[]⟩,zD 16 12 15,z0 4 16]
def v80:VFn:=⟨2,[.tmp 4],(.seq (yR 1 [0,3] qEC) (.seq (yR 0 [4] qEB) .ret))⟩
def qn3:List VOper:=[zV 2 0 0,z4 4 0]
def qn2:List VOper:=[z1 7 0 2,z3 8 1 7,z0M 9 8,z0 10 9,zg 11 1 2 10,ze 12 1 11 10,zM 13 1 10,z17 14 12 13 10,zD 15 10 14,zI 16 85 15,z0 5 16]
def qn1:List VOper:=[z4 6 0]
def qn0:List VOper:=[z0 17 6,z1 18 2 2,z3 19 1 18,zF 20 19,zC 21 17 20]
def qnY:List VOper:=[z0 24 5,z1 25 2 2,z3 26 1 25,z0 27 6,zR 28 3 26 27,z9 29 3 28,z0 30 1,zS 31 81 29 30,za 32 24 31,z0 5 32]
def qnZ:List VOper:=[z0 22 6,z6 23 22 1,z0 6 23]
def qFQ:VCode:=(.seq (.seq (yR 0 [1,2,5,6,21] qn0) (.cond (.t 21) .skip (.exit 0))) (.seq (.block 1 (yR 0 [1,2,5,6] qnY)) (yR 0 [1,2,5,6] qnZ)))
def qnX:List VOper:=[z0 33 5,z0 4 33]
def v81:VFn:=⟨2,[.tmp 4],(.seq (yR 1 [1,2] qn3) (.seq (yR 0 [1,2,5] qn2) (.seq (.seq (yR 0 [1,2,5,6] qn1) (.block 0 (.loop [1,2,5,6] qFQ))) (.seq (yR 0 [4] qnX) .ret))))⟩
def qkF:List VOper:=[z8 2]
def qkE:List VOper:=[z4 3 0]
def qkD:List VOper:=[z0 4 3,z0 5 0,zF 6 5,zC 7 4 6]
def qkB:List VOper:=[z0 10 0,z0 11 3,zR 12 3 10 11,z1 13 0 12,z3 14 1 13,zI 15 59 14,z0f 16 15,z0 17 16,zk 18 0 17,zk 19 0 17,zk 20 3 17,z14 21 3 19 20 17,z0A 22 0 21 17,z08 23 1 22 17,⟨some 24,.call true (.c (.fn 13 [])) [.t 18,.t 23],some (17,false),[]⟩,zk 25 3 17,z0s 26 24 25 17,zl 27 17 26,z0 28 27,zk 29 0 28,zk 30 3 28,z14 31 3 29 30 28,z0A 32 1 31 28,z08 33 1 32 28,z0p 34 31 33 0 3 28,⟨some 35,.not (.t 34),some (28,false),[]⟩,zl 36 28 35,z0 37 36,zk 38 0 37,zk 39 3 37,z14 40 3 38 39 37,z0A 41 2 40 37,z08 42 1 41 37,zk 43 42 37,zM 44 0 43,zM 45 3 43,z0m 46 3 44 45 43,zg 47 1 46 43,ze 48 1 47 43,⟨some 49,.bin .neq (.t 48) (.c (.d (.int .i64 2))),some (43,true),[]⟩,z0T 50 43 49 37,zl 51 37 50]
def qkA:List VOper:=[z8 2]
def qkC:List VOper:=[z0 8 3,z6 9 8 1,z0 3 9]
def qoN:VCode:=(.seq (.seq (yR 0 [0,3,7] qkD) (.cond (.t 7) .skip (.exit 0))) (.seq (.block 1 (.seq (yR 0 [0,3,51] qkB) (.cond (.t 51) (.seq (yR 0 [2] qkA) .ret) .skip))) (yR 0 [0,3] qkC)))
def qkz:List VOper:=[z0 52 0,zF 53 52,zo 54 31 53 1 8,z0 55 54,zM 56 0 55,z0j 57 3 56 0 55,z0n 58 3 57 55,⟨some 59,.build [.str ⟨#[]⟩,.int .i64 0,.bool false] [(0,1,.c (.d (.str ⟨#[116,116]⟩)))],some (55,true),[]⟩,⟨some 60,.eqAgg false [2,0,1] (.t 58) (.t 59),some (55,true),[]⟩,zD 61 55 60,z0 2 61]
def v82:VFn:=⟨1,[.tmp 2],(.seq (yR 0 [0] qkF) (.seq (.seq (yR 0 [0,3] qkE) (.block 0 (.loop [0,3] qoN))) (.seq (yR 0 [2] qkz) .ret)))⟩
def qvX:List VOper:=[zV 3 0 1,z8 4]
def qvW:List VOper:=[z1 6 0 3,z3 7 1 6,z0M 8 7]
def qvV:List VOper:=[z1 9 1 3,z3 10 1 9,zo 11 31 10 0 99,z0 12 11,zg 13 2 3 12,ze 14 1 13 12,z0o 15 14 12,z0I 16 15 0 12,zD 17 12 16,z0 4 17]
def qEA:List VOper:=[z1 18 0 3,zA 19 1 18 [0],z0 20 0,z0P 21 20 [2],zs 22 21 1 [3],⟨some 23,.call true (.c (.fn 31 [])) [.t 19,.c (.d (.int .i64 0)),.t 22],none,[1,4]⟩,z01 24 23 [5],zH 25 24 [5,6],zQ 26 1 3 25 [7],zW 27 1 26 25 [7,8],z0a 28 27 0 25 [7,9],zE 29 25 28 [7,10],zH 30 29 [7,11],z5 31 0 30 [12],zQ 32 0 3 30 [12],zW 33 1 32 30 [12,14],zY 34 3 31 33 30 [12,13,15],zQ 35 2 34 30 [12,16],zW 36 1 35 30 [12,17],zu 37 36 30 [12,18],z5 38 37 30 [12,19],zK 39 2 3 38 [20],zJ 40 1 39 38 [20,21],z0O 41 40 38 [20,22],zL 42 0 38 [20],zK 43 0 3 38 [20],zJ 44 1 43 38 [20,25],zT 45 3 42 44 38 [20,24,26],zK 46 1 45 38 [20,27],zJ 47 1 46 38 [20,28],z0z 48 41 47 38 [20,23,29],zU 49 38 48 30 [12,20,30],zE 50 30 49 [12,31],zH 51 50 [20,32],z5 52 0 51 [33],zQ 53 0 3 51 [33],zW 54 1 53 51 [33,35],zY 55 3 52 54 51 [33,34,36],zQ 56 2 55 51 [33,37],zW 57 1 56 51 [33,38],z5 58 57 51 [33,39],zK 59 2 3 58 [40],zJ 60 1 59 58 [40,41],z0O 61 60 58 [40,42],z0C 62 61 2 58 [40,43],zU 63 58 62 51 [33,40,44],zE 64 51 63 [33,45]]
def qIS:List VOper:=[z8 4]
def qLZ:List VOper:=[z4 5 0]
def qEz:List VOper:=[z0 65 5,z1 66 2 3,z3 67 1 66,zF 68 67,zC 69 65 68]
def qEy:List VOper:=[z0 72 0,z1 73 0 3,zA 74 1 73 [1],z2 75 3 72 74 [0,2],zP 76 2 75 [3],zA 77 1 76 [4],zH 78 77 [5],zK 79 2 3 78 [6],zJ 80 1 79 78 [6,7],zL 81 5 78 [6],zT 82 3 80 81 78 [6,8,9],zK 83 0 82 78 [6,10],zJ 84 1 83 78 [6,11],zK 85 0 3 78 [6],zJ 86 1 85 78 [6,13],z10 87 84 86 78 [6,12,14],zL 88 87 78 [6,15],z5 89 5 88 [16],z00 90 89 0 88 [16,17],z5 91 90 88 [16,18],zK 92 2 3 91 [19],zJ 93 1 92 91 [19,20],zL 94 5 91 [19],zT 95 3 93 94 91 [19,21,22],zd 96 3 95 91 [19,23],zK 97 2 3 91 [19],zJ 98 1 97 91 [19,25],zL 99 5 91 [19],zj 100 99 1 91 [19,27],zT 101 3 98 100 91 [19,26,28],zd 102 3 101 91 [19,29],z06 103 84 96 102 91 [19,24,30],zU 104 91 103 88 [16,19,31],z0Z 105 88 104 78 [6,16,32],z07 106 78 105 [6,33],zH 107 106 [31,34],z5 108 0 107 [35],zQ 109 2 3 107 [35],zW 110 1 109 107 [35,37],z5 111 5 107 [35],zY 112 3 110 111 107 [35,38,39],z03 113 3 112 107 [35,40],zO 114 83 108 113 107 [35,36,41],zu 115 114 107 [35,42],zE 116 107 115 [35,43]]
def qIQ:List VOper:=[z8 4]
def qIR:List VOper:=[z0 70 5,z6 71 70 1,z0 5 71]
def qCF:VCode:=(.seq (.seq (yR 0 [0,3,5,69] qEz) (.cond (.t 69) .skip (.exit 0))) (.seq (.block 1 (.seq (yT 0 [0,3,5,116] qEy) (.cond (.t 116) (.seq (yR 0 [4] qIQ) .ret) .skip))) (yR 0 [0,3,5] qIR)))
def qGe:List VOper:=[z09 4]
def v83:VFn:=⟨2,[.tmp 4],(.seq (yR 1 [0,3] qvX) (.seq (.seq (yR 0 [0,3,8] qvW) (.cond (.t 8) (.seq (yR 0 [4] qvV) .ret) .skip)) (.seq (.seq (yT 0 [0,3,64] qEA) (.cond (.t 64) (.seq (yR 0 [4] qIS) .ret) .skip)) (.seq (.seq (yR 0 [0,3,5] qLZ) (.block 0 (.loop [0,3,5] qCF))) (.seq (yR 0 [4] qGe) .ret)))))⟩
def qnW:List VOper:=[zV 2 0 0,zV 3 1 1,z8 4]
def qnV:List VOper:=[z1 6 0 2,z3 7 1 6,z1 8 0 3,z3 9 1 8,z0F 10 7 9]
def qnU:List VOper:=[z1 11 0 2,z3 12 1 11,z1 13 0 3,z3 14 1 13,zC 15 12 14,z0 4 15]
def qnT:List VOper:=[z1 16 1 2,z3 17 1 16,z1 18 1 3,z3 19 1 18,z0F 20 17 19]
def qnS:List VOper:=[z1 21 1 2,z3 22 1 21,z1 23 1 3,z3 24 1 23,zC 25 22 24,z0 4 25]
def qnR:List VOper:=[z1 26 2 2,z3 27 1 26,zF 28 27,z1 29 2 3,z3 30 1 29,zF 31 30,z0F 32 28 31]
def qnQ:List VOper:=[z1 33 2 2,z3 34 1 33,zF 35 34,z1 36 2 3,z3 37 1 36,zF 38 37,zC 39 35 38,z0 4 39]
def qnP:List VOper:=[z4 5 0]
def qnO:List VOper:=[z0 40 5,z1 41 2 2,z3 42 1 41,zF 43 42,zC 44 40 43]
def qzz:List VOper:=[z1 47 2 2,zA 48 1 47 [0],z0 49 5,z2 50 3 48 49 [1,2],zG 51 3 50 [3],z1 52 2 3,zA 53 1 52 [5],z0 54 5,z2 55 3 53 54 [6,7],zG 56 3 55 [8],zN 57 3 51 56 [4,9],z01 58 57 [10]]
def qzy:List VOper:=[z1 59 2 2,zA 60 1 59 [0],z0 61 5,z2 62 3 60 61 [1,2],zG 63 3 62 [3],z1 64 2 3,zA 65 1 64 [5],z0 66 5,z2 67 3 65 66 [6,7],zG 68 3 67 [8],zN 69 84 63 68 [4,9],zH 4 69 [0,1,2,3,4,5,6,7,8,9,10]]
def qnN:List VOper:=[z0 45 5,z6 46 45 1,z0 5 46]
def qCE:VCode:=(.seq (.seq (yR 0 [2,3,5,44] qnO) (.cond (.t 44) .skip (.exit 0))) (.seq (.block 1 (.seq (yT 0 [2,3,5,58] qzz) (.cond (.t 58) (.seq (yT 0 [4] qzy) .ret) .skip))) (yR 0 [2,3,5] qnN)))
def qhe:List VOper:=[z8 4]
def v84:VFn:=⟨2,[.tmp 4],(.seq (yR 2 [2,3] qnW) (.seq (.seq (yR 0 [2,3,10] qnV) (.cond (.t 10) (.seq (yR 0 [4] qnU) .ret) .skip)) (.seq (.seq (yR 0 [2,3,20] qnT) (.cond (.t 20) (.seq (yR 0 [4] qnS) .ret) .skip)) (.seq (.seq (yR 0 [2,3,32] qnR) (.cond (.t 32) (.seq (yR 0 [4] qnQ) .ret) .skip)) (.seq (.seq (yR 0 [2,3,5] qnP) (.block 0 (.loop [2,3,5] qCE))) (.seq (yR 0 [4] qhe) .ret))))))⟩
def qLY:List VOper:=[z4 2 0]
def qLX:List VOper:=[z0 3 0]
def qLW:List VOper:=[z4 2 1]
def qLV:List VOper:=[z4 2 0]
def v85:VFn:=⟨1,[.tmp 2],(.seq (yR 0 [0] qLY) (.seq (.seq (yR 0 [3] qLX) (.cond (.t 3) (.seq (yR 0 [2] qLW) .ret) .skip)) (.seq (yR 0 [2] qLV) .ret)))⟩
def qvU:List VOper:=[⟨some 4,.move (.c (.d (.str ⟨#[]⟩))),none,[]⟩]
def qvT:List VOper:=[⟨some 5,.move (.c (.d (.str ⟨#[]⟩))),none,[]⟩]
def qvS:List VOper:=[z4 6 0]
def qvR:List VOper:=[z0 7 6,z0 8 1,zF 9 8,zC 10 7 9]
def qvP:List VOper:=[z0 13 6,z0B 14 13 0]
def qvO:List VOper:=[z0 15 5,⟨some 16,.bin .add (.t 15) (.c (.d (.str ⟨#[59]⟩))),none,[]⟩,z0 5 16]
def qIP:List VOper:=[z0 17 5,⟨some 18,.bin .add (.t 17) (.c (.d (.str ⟨#[88]⟩))),none,[0]⟩,z0 19 1,z0 20 6,z2 21 4 19 20 [2,3],zP 22 0 21 [4],zA 23 1 22 [5],zr 24 39 23 [6],zn 25 18 24 [1,7],⟨some 26,.bin .add (.t 25) (.c (.d (.str ⟨#[61]⟩))),none,[8]⟩,z0 27 0,z0 28 1,z0 29 6,z2 30 4 28 29 [11,12],zP 31 1 30 [13],zG 32 3 31 [14],zN 33 98 27 32 [7,10,15],zn 34 26 33 [9,16],zH 5 34 [0,1,2,3,4,5,6,7,8,9,10,11,12,13,14,15,16,17]]
def qvQ:List VOper:=[z0 11 6,z6 12 11 1,z0 6 12]
def qCD:VCode:=(.seq (.seq (yR 0 [0,1,5,6,10] qvR) (.cond (.t 10) .skip (.exit 0))) (.seq (.block 1 (.seq (.seq (yR 0 [0,1,5,6,14] qvP) (.cond (.t 14) (yR 0 [0,1,5,6] qvO) .skip)) (yT 0 [0,1,5,6] qIP))) (yR 0 [0,1,5,6] qvQ)))
def qvN:List VOper:=[z0 35 5,z0 4 35]
def v90:VFn:=⟨2,[.tmp 4],(.seq (yR 0 [0,1] qvU) (.seq (yR 0 [0,1,5] qvT) (.seq (.seq (yR 0 [0,1,5,6] qvS) (.block 0 (.loop [0,1,5,6] qCD))) (.seq (yR 0 [4] qvN) .ret))))⟩
def qzx:List VOper:=[⟨some 4,.move (.c (.d (.str ⟨#[]⟩))),none,[]⟩]
def qzw:List VOper:=[⟨some 8,.buildSlice 1 (.str ⟨#[]⟩) 0 [],none,[]⟩,z0 5 8]
def qzv:List VOper:=[z0 9 1,zF 10 9,z4 11 0]
def qzu:List VOper:=[zC 12 11 10]
def qzt:List VOper:=[zR 13 4 9 11,z9 14 4 13,z0R 7 0 0 0 0,z7 4 7 14]
def qIO:List VOper:=[z0 15 5,z1 16 0 7,zA 17 1 16 [1],zr 18 38 17 [2],⟨some 19,.bin .add (.c (.d (.str ⟨#[88]⟩))) (.t 18),none,[3]⟩,⟨some 20,.bin .add (.t 19) (.c (.d (.str ⟨#[61]⟩))),none,[4]⟩,z0 21 0,z1 22 1 7,zG 23 3 22 [7],zN 24 92 21 23 [3,6,8],zn 25 20 24 [5,9],⟨some 26,.buildSlice 1 (.str ⟨#[]⟩) 1 [(0,.t 25)],none,[10]⟩,z04 27 1 16 15 26 [0,9,11],zH 5 27 [0,1,2,3,4,5,6,7,8,9,10,11,12]]
def qzs:List VOper:=[z6 28 11 1,z0 11 28]
def qFP:VCode:=(.seq (yR 0 [0,5,9,10,11,12] qzu) (.seq (.cond (.t 12) .skip (.exit 0)) (.seq (.block 1 (.seq (yR 1 [0,5,7,9,10,11] qzt) (yT 0 [0,5,9,10,11] qIO))) (yR 0 [0,5,9,10,11] qzs))))
def qzr:List VOper:=[z0 29 5,⟨some 30,.call true (.c (.fn 93 [])) [.t 29,.c (.d (.str ⟨#[59]⟩))],none,[]⟩,z0 4 30]
def v91:VFn:=⟨2,[.tmp 4],(.seq (yR 0 [0,1] qzx) (.seq (yR 0 [0,1,5] qzw) (.seq (.seq (yR 0 [0,5,9,10,11] qzv) (.block 0 (.loop [0,5,9,10,11] qFP))) (.seq (yR 0 [4] qzr) .ret))))⟩
def qpE:List VOper:=[zV 3 0 1,⟨some 4,.move (.c (.d (.str ⟨#[]⟩))),none,[]⟩]
def qpD:List VOper:=[z9 9 3 3,zI 10 75 9]
def qpC:List VOper:=[z1 11 1 3,z3 12 1 11,zI 13 38 12,⟨some 14,.bin .add (.c (.d (.str ⟨#[88]⟩))) (.t 13),none,[]⟩,z0 4 14]
def qpB:List VOper:=[⟨some 5,.move (.c (.d (.str ⟨#[63]⟩))),none,[]⟩]
def qpA:List VOper:=[z0 15 0,z1 16 0 3,z3 17 1 16,zS 18 29 15 17]
def qpz:List VOper:=[z0 19 0,z1 20 0 3,z3 21 1 20,zR 22 3 19 21,z1 23 0 22,z3 24 1 23,z0 5 24]
def qpy:List VOper:=[z1 25 2 3,z3 26 1 25,zF 27 26,zb 28 27 0]
def qpx:List VOper:=[z0 29 5,z0 4 29]
def qpw:List VOper:=[⟨some 30,.buildSlice 1 (.str ⟨#[]⟩) 0 [],none,[]⟩,z0 6 30]
def qpv:List VOper:=[z1 31 2 3,z3 32 1 31,zF 33 32,z4 34 0]
def qmO:List VOper:=[zC 35 34 33]
def qmN:List VOper:=[zR 36 3 32 34,z9 37 3 36,zB 8 0 0 0,z7 3 8 37]
def qmM:List VOper:=[z0 38 6,z0 39 0,z9 40 3 8,zS 41 92 39 40,⟨some 42,.buildSlice 1 (.str ⟨#[]⟩) 1 [(0,.t 41)],none,[]⟩,zz 43 1 16 38 42,z0 6 43]
def qmL:List VOper:=[z6 44 34 1,z0 34 44]
def qFO:VCode:=(.seq (yR 0 [0,5,6,32,33,34,35] qmO) (.seq (.cond (.t 35) .skip (.exit 0)) (.seq (.block 1 (.seq (yR 1 [0,5,6,8,32,33,34] qmN) (yR 0 [0,5,6,32,33,34] qmM))) (yR 0 [0,5,6,32,33,34] qmL))))
def qiQ:List VOper:=[z0 45 5,⟨some 46,.bin .add (.t 45) (.c (.d (.str ⟨#[40]⟩))),none,[]⟩,z0 47 6,⟨some 48,.call true (.c (.fn 93 [])) [.t 47,.c (.d (.str ⟨#[44]⟩))],none,[]⟩,za 49 46 48,⟨some 50,.bin .add (.t 49) (.c (.d (.str ⟨#[41]⟩))),none,[]⟩,z0 4 50]
def v92:VFn:=⟨2,[.tmp 4],(.seq (yR 1 [0,3] qpE) (.seq (.seq (yR 0 [0,3,10] qpD) (.cond (.t 10) (.seq (yR 0 [4] qpC) .ret) .skip)) (.seq (yR 0 [0,3,5] qpB) (.seq (.seq (yR 0 [0,3,5,18] qpA) (.cond (.t 18) (yR 0 [0,3,5] qpz) .skip)) (.seq (.seq (yR 0 [0,3,5,28] qpy) (.cond (.t 28) (.seq (yR 0 [4] qpx) .ret) .skip)) (.seq (yR 0 [0,3,5,6] qpw) (.seq (.seq (yR 0 [0,5,6,32,33,34] qpv) (.block 0 (.loop [0,5,6,32,33,34] qFO))) (.seq (yR 0 [4] qiQ) .ret))))))))⟩
def qr8:List VOper:=[zV 3 0 1,⟨some 4,.move (.c (.d (.str ⟨#[]⟩))),none,[]⟩]
def qr7:List VOper:=[z1 7 0 3,z3 8 1 7,z0M 9 8]
def qr6:List VOper:=[z1 10 1 3,z3 11 1 10,zI 12 39 11,⟨some 13,.bin .add (.c (.d (.str ⟨#[88]⟩))) (.t 12),none,[]⟩,z0 4 13]
def qr5:List VOper:=[⟨some 5,.move (.c (.d (.str ⟨#[63]⟩))),none,[]⟩]
def qr4:List VOper:=[z1 14 0 3,z3 15 1 14,z0 16 0,zF 17 16,zv 18 17 1,z0e 19 31 15 0 18]
def qr3:List VOper:=[z0 20 0,z1 21 0 3,z3 22 1 21,zR 23 3 20 22,z1 24 0 23,z3 25 1 24,z0 5 25]
def qr2:List VOper:=[z4 6 0]
def qzq:List VOper:=[z0 26 6,z1 27 2 3,z3 28 1 27,zF 29 28,zC 30 26 29]
def qzo:List VOper:=[z0 33 6,zb 34 33 0]
def qpu:List VOper:=[z0 35 5,⟨some 36,.bin .add (.t 35) (.c (.d (.str ⟨#[40]⟩))),none,[]⟩,z0 5 36]
def qpt:List VOper:=[z0 37 5,⟨some 38,.bin .add (.t 37) (.c (.d (.str ⟨#[44]⟩))),none,[]⟩,z0 5 38]
def qps:List VOper:=[z0 39 5,z0 40 0,z1 41 2 3,z3 42 1 41,z0 43 6,zR 44 3 42 43,z9 45 3 44,zS 46 98 40 45,za 47 39 46,z0 5 47]
def qzp:List VOper:=[z0 31 6,z6 32 31 1,z0 6 32]
def qCC:VCode:=(.seq (.seq (yR 0 [0,3,5,6,30] qzq) (.cond (.t 30) .skip (.exit 0))) (.seq (.block 1 (.seq (.seq (yR 0 [0,3,5,6,34] qzo) (.cond (.t 34) (yR 0 [0,3,5,6] qpu) (yR 0 [0,3,5,6] qpt))) (yR 0 [0,3,5,6] qps))) (yR 0 [0,3,5,6] qzp)))
def qhd:List VOper:=[z1 48 2 3,z3 49 1 48,zF 50 49,z0B 51 50 0]
def qhc:List VOper:=[z0 52 5,⟨some 53,.bin .add (.t 52) (.c (.d (.str ⟨#[41]⟩))),none,[]⟩,z0 4 53]
def qhb:List VOper:=[z0 54 5,z0 4 54]
def v98:VFn:=⟨2,[.tmp 4],(.seq (yR 1 [0,3] qr8) (.seq (.seq (yR 0 [0,3,9] qr7) (.cond (.t 9) (.seq (yR 0 [4] qr6) .ret) .skip)) (.seq (yR 0 [0,3,5] qr5) (.seq (.seq (yR 0 [0,3,5,19] qr4) (.cond (.t 19) (yR 0 [0,3,5] qr3) .skip)) (.seq (.seq (yR 0 [0,3,5,6] qr2) (.block 0 (.loop [0,3,5,6] qCC))) (.seq (.seq (yR 0 [5,51] qhd) (.cond (.t 51) (.seq (yR 0 [4] qhc) .ret) .skip)) (.seq (yR 0 [4] qhb) .ret)))))))⟩
def quq:List VOper:=[z8 2]
def qup:List VOper:=[z0 18 0,zI 19 133 18]
def qun:List VOper:=[z09 2]
def qum:List VOper:=[z0 21 0,zI 22 134 21,z0 20 22,z02 23 20 0,z02 24 20 1,z02 25 20 2,zB 5 0 0 0,z0 3 23,z0 4 24,z7 3 5 25]
def qul:List VOper:=[z0 26 3,z0 27 4,z9 28 3 5,⟨some 29,.call true (.c (.fn 135 [])) [.t 26,.t 27,.t 28],none,[]⟩,zB 6 0 0 0,z7 3 6 29]
def quk:List VOper:=[z0 31 0,zI 32 136 31,z0 30 32,z02 33 30 0,z02 34 30 1,z02 35 30 2,z02 36 30 3,zB 10 0 0 0,z0 7 33,z0 8 34,z0 9 35,z7 3 10 36]
def quj:List VOper:=[z0 37 7,z0 38 8,z0 39 9,z9 40 3 10,⟨some 41,.call true (.c (.fn 137 [])) [.t 37,.t 38,.t 39,.t 40],none,[]⟩,z0 11 41]
def qui:List VOper:=[z0 43 0,zI 44 138 43,z0 42 44,z02 45 42 0,z02 46 42 1,z0 12 45,z0 13 46]
def quh:List VOper:=[z0 48 0,zI 49 139 48,z0 47 49,z02 50 47 0,z02 51 47 1,z0 14 50,z0 15 51]
def qug:List VOper:=[z0 53 0,zI 54 140 53,z0 52 54,z02 55 52 0,z02 56 52 1,z0 16 55,z0 17 56]
def qsx:List VOper:=[z9 57 3 6,z0 58 3,z0 59 4,z9 60 3 5,z0K 61 141 58 59 60 [1,2,3],zN 62 4 57 61 [0,4],z01 63 62 [5],zH 64 63 [5,6],z5 65 11 64 [7],z5 66 7 64 [7],z5 67 8 64 [7],z5 68 9 64 [7],z03 69 3 10 64 [7],⟨some 70,.call true (.c (.fn 142 [])) [.t 66,.t 67,.t 68,.t 69],some (64,false),[7,9,10,11,12]⟩,zO 71 143 65 70 64 [7,8,13],zu 72 71 64 [7,14],zE 73 64 72 [7,15],zH 74 73 [14,16],z5 75 12 74 [17],z5 76 13 74 [17],zO 77 144 75 76 74 [17,18,19],z5 78 12 74 [17],z5 79 13 74 [17],zO 80 145 78 79 74 [17,20,21,22],zO 81 4 77 80 74 [17,20,23],zu 82 81 74 [17,24],zE 83 74 82 [17,25],zH 84 83 [24,26],z5 85 14 84 [27],z5 86 15 84 [27],zO 87 68 85 86 84 [27,28,29],z5 88 14 84 [27],z5 89 15 84 [27],zO 90 67 88 89 84 [27,30,31,32],⟨some 91,.eqB true (.t 87) (.t 90),some (84,false),[27,30,33]⟩,zE 92 84 91 [27,34],zH 93 92 [33,35],z5 94 16 93 [36],z5 95 17 93 [36],zO 96 91 94 95 93 [36,37,38],z5 97 16 93 [36],z5 98 17 93 [36],zO 99 90 97 98 93 [36,39,40,41],⟨some 100,.bin .neq (.t 96) (.t 99),some (93,false),[36,39,42]⟩,zE 101 93 100 [36,43]]
def qof:List VOper:=[z8 2]
def qsw:List VOper:=[z0 102 3,z0 103 4,zN 104 68 102 103 [0,1],zH 105 104 [2],zL 106 3 105 [3],zL 107 4 105 [3],zd 108 3 6 105 [3],⟨some 109,.call true (.c (.fn 135 [])) [.t 106,.t 107,.t 108],some (105,true),[3,4,5,6]⟩,zd 110 3 6 105 [3],z06 111 4 109 110 105 [3,7,8],z1C 112 111 105 [3,9],z07 113 105 112 [3,10]]
def qoe:List VOper:=[z8 2]
def qsv:List VOper:=[z0 114 11,z0 115 9,zN 116 144 114 115 [0,1],z9 117 3 10,zN 118 4 116 117 [2,3],zH 2 118 [0,1,2,3,4]]
def qF8:VFn:=⟨1,[.tmp 2],(.seq (yR 0 [0] quq) (.seq (.seq (yR 0 [0,19] qup) (.cond (.t 19) (.seq (yR 0 [2] qun) .ret) .skip)) (.seq (yR 1 [0,3,4,5] qum) (.seq (yR 1 [0,3,4,5,6] qul) (.seq (yR 1 [0,3,4,5,6,7,8,9,10] quk) (.seq (yR 0 [0,3,4,5,6,7,8,9,10,11] quj) (.seq (yR 0 [0,3,4,5,6,7,8,9,10,11,12,13] qui) (.seq (yR 0 [0,3,4,5,6,7,8,9,10,11,12,13,14,15] quh) (.seq (yR 0 [3,4,5,6,7,8,9,10,11,12,13,14,15,16,17] qug) (.seq (.seq (yT 0 [3,4,6,9,10,11,101] qsx) (.cond (.t 101) (.seq (yR 0 [2] qof) .ret) .skip)) (.seq (.seq (yT 0 [9,10,11,113] qsw) (.cond (.t 113) (.seq (yR 0 [2] qoe) .ret) .skip)) (.seq (yT 0 [2] qsv) .ret))))))))))))⟩
def qHf:List VOper:=[z8 2]
def qHe:List VOper:=[z0 3 0,zF 4 3,z0B 5 4 1048576,z0 2 5]
def qK4:VFn:=⟨1,[.tmp 2],(.seq (yR 0 [0] qHf) (.seq (yR 0 [2] qHe) .ret))⟩
def qHd:List VOper:=[zc 2,zc 3,zB 4 0 0 0]
def qHc:List VOper:=[z0 7 0,zq 8 156 7,z0 5 8]
def qHb:List VOper:=[z0 9 5,z0E 10 9 157 9,z0 6 10]
def qHa:List VOper:=[z0H 11 155,z0 12 6,z0 13 5,z0E 14 13 161 13,z0 2 11,z0 3 12,z7 3 4 14]
def qK3:VFn:=⟨1,[.tmp 2,.tmp 3,.cell 4 true 3],(.seq (yR 1 [0,4] qHd) (.seq (yR 0 [4,5] qHc) (.seq (yR 0 [4,5,6] qHb) (.seq (yR 0 [2,3,4] qHa) .ret))))⟩
def qG9:List VOper:=[zV 5 0 2,zB 6 1 0 0]
def qG8:List VOper:=[z0 7 0,z0 8 1,z9 9 3 5,zS 10 168 8 9,zS 11 169 7 10,z7 3 6 11]
def qK2:VFn:=⟨3,[.cell 6 true 3],(.seq (yR 2 [0,1,5,6] qG9) (.seq (yR 0 [6] qG8) .ret))⟩
def qG7:List VOper:=[zc 2,zc 3,z4 4 0,zB 5 0 0 0]
def qG6:List VOper:=[z0 9 0,zq 10 156 9,z0 6 10]
def qG5:List VOper:=[z0 11 6,z0E 12 11 157 11,z0 7 12]
def qG4:List VOper:=[z0 13 6,⟨some 14,.buildSlice 1 (.int .i64 0) 4 [(0,.c (.d (.int .i64 5))),(1,.c (.d (.int .i64 6))),(2,.c (.d (.int .i64 1))),(3,.c (.d (.int .i64 9)))],none,[]⟩,zZ 15 160 13 14,z0 8 15]
def qG3:List VOper:=[z0H 16 155,z0 17 7,z0 18 8,z0 19 6,zi 20 163 19 0,z0 2 16,z0 3 17,z0 4 18,z7 3 5 20]
def qK1:VFn:=⟨1,[.tmp 2,.tmp 3,.tmp 4,.cell 5 true 3],(.seq (yR 1 [0,5] qG7) (.seq (yR 0 [5,6] qG6) (.seq (yR 0 [5,6,7] qG5) (.seq (yR 0 [5,6,7,8] qG4) (.seq (yR 0 [2,3,4,5] qG3) .ret)))))⟩
def qgD:List VOper:=[zV 6 0 2,zV 7 1 3,zc 8]
def qgC:List VOper:=[z3 14 1 6,z9 15 3 7,zx 16 0 0 0 0 1 14 1 3 15,zp 17 4 0 0 0 1 0 16,z0 9 17]
def qgB:List VOper:=[z0U 18 4 0 0 0 0,z0 10 18]
def qgA:List VOper:=[z0 19 1,z19 20 167 6,zZ 21 76 19 20,z0 11 21]
def qgz:List VOper:=[z0 22 1,zF 23 22,z4 24 0]
def qgy:List VOper:=[zC 25 24 23]
def qgx:List VOper:=[z0 26 24,zR 27 4 22 24,z9 28 4 27,z0R 13 0 0 0 0,z0 12 26,z7 4 13 28]
def qgw:List VOper:=[z0 29 12,z0 30 11,z0r 31 29 30]
def qAM:List VOper:=[z0 32 10,z3 33 1 6,z9 34 3 7,zr 35 150 34 [2],zh 36 0 0 0 0 1 33 1 3 35 [1,3],zf 37 4 0 0 0 1 0 36 [4],z04 38 4 48 32 37 [0,3,5],zH 10 38 [0,1,2,3,4,5,6]]
def qgv:List VOper:=[z1 39 0 13,z3 40 1 39,z3 41 1 6,z0F 42 40 41]
def qsu:List VOper:=[z0 43 10,z1 44 0 13,zA 45 1 44 [1],z0 46 0,z0 47 9,z1 48 1 13,zG 49 3 48 [5],z0K 50 135 46 47 49 [3,4,6],zh 51 0 0 0 0 1 45 1 3 50 [2,7],zf 52 4 0 0 0 1 0 51 [8],z04 53 4 48 43 52 [0,7,9],zH 10 53 [0,1,2,3,4,5,6,7,8,9,10]]
def qev:List VOper:=[z6 54 24 1,z0 24 54]
def qjD:VCode:=(.seq (yR 0 [0,6,7,9,10,11,22,23,24,25] qgy) (.seq (.cond (.t 25) .skip (.exit 0)) (.seq (.block 1 (.seq (yR 1 [0,6,7,9,10,11,12,13,22,23,24] qgx) (.seq (.seq (yR 0 [0,6,7,9,10,11,13,22,23,24,31] qgw) (.cond (.t 31) (yT 0 [0,6,7,9,10,11,13,22,23,24] qAM) .skip)) (.seq (yR 0 [0,6,7,9,10,11,13,22,23,24,42] qgv) (.cond (.t 42) (yT 0 [0,6,7,9,10,11,22,23,24] qsu) .skip))))) (yR 0 [0,6,7,9,10,11,22,23,24] qev))))
def qeu:List VOper:=[z0 55 11,zw 56 55 0]
def qst:List VOper:=[z0 57 10,z3 58 1 6,z9 59 3 7,zr 60 150 59 [2],zh 61 0 0 0 0 1 58 1 3 60 [1,3],zf 62 4 0 0 0 1 0 61 [4],z04 63 4 48 57 62 [0,3,5],zH 10 63 [0,1,2,3,4,5,6]]
def qet:List VOper:=[z0 64 10,z0 8 64]
def qD4:VFn:=⟨4,[.tmp 8],(.seq (yR 2 [0,1,6,7] qgD) (.seq (yR 0 [0,1,6,7,9] qgC) (.seq (yR 0 [0,1,6,7,9,10] qgB) (.seq (yR 0 [0,1,6,7,9,10,11] qgA) (.seq (.seq (yR 0 [0,6,7,9,10,11,22,23,24] qgz) (.block 0 (.loop [0,6,7,9,10,11,22,23,24] qjD))) (.seq (.seq (yR 0 [6,7,10,56] qeu) (.cond (.t 56) (yT 0 [10] qst) .skip)) (.seq (yR 0 [8] qet) .ret)))))))⟩
def qG2:List VOper:=[zc 2,z4 3 0]
def qG1:List VOper:=[z0 6 0,zq 7 156 6,z0 4 7]
def qG0:List VOper:=[z0 8 4,z0E 9 8 157 8,z0 5 9]
def qGZ:List VOper:=[z0 10 5,z0 11 4,zi 12 159 11 5,z0 2 10,z0 3 12]
def qK0:VFn:=⟨1,[.tmp 2,.tmp 3],(.seq (yR 0 [0] qG2) (.seq (yR 0 [4] qG1) (.seq (yR 0 [4,5] qG0) (.seq (yR 0 [2,3] qGZ) .ret))))⟩
def qGY:List VOper:=[zc 2,zc 3]
def qGX:List VOper:=[z0H 4 155,z0 5 0,zq 6 156 5,z0E 7 6 157 6,z0 2 4,z0 3 7]
def qKZ:VFn:=⟨1,[.tmp 2,.tmp 3],(.seq (yR 0 [0] qGY) (.seq (yR 0 [2,3] qGX) .ret))⟩
def qGW:List VOper:=[zc 2,zc 3]
def qGV:List VOper:=[z0H 4 155,z0 5 0,zq 6 156 5,z0E 7 6 157 6,z0 2 4,z0 3 7]
def qKY:VFn:=⟨1,[.tmp 2,.tmp 3],(.seq (yR 0 [0] qGW) (.seq (yR 0 [2,3] qGV) .ret))⟩
def qGU:List VOper:=[zV 5 0 2,zB 6 1 0 0]
def qGT:List VOper:=[z0 7 0,z0 8 1,z9 9 3 5,zS 10 152 8 9,zS 11 153 7 10,z7 3 6 11]
def qKX:VFn:=⟨3,[.cell 6 true 3],(.seq (yR 2 [0,1,5,6] qGU) (.seq (yR 0 [6] qGT) .ret))⟩
def qei:List VOper:=[zV 7 0 3,zc 8]
def qeh:List VOper:=[z0U 13 4 0 0 0 0,z0 9 13]
def qeg:List VOper:=[z0 14 2,z9 15 3 7,zx 16 0 0 0 0 1 14 1 3 15,zp 17 4 0 0 0 1 0 16,z0 10 17]
def qef:List VOper:=[z8 11]
def qee:List VOper:=[z4 12 0]
def qed:List VOper:=[z0 18 12,z0 19 1,zF 20 19,zC 21 18 20]
def qeb:List VOper:=[z0 24 11,z0f 25 24,z0 26 25,zM 27 1 26,zM 28 12 26,z0m 29 4 27 28 26,zg 30 0 29 26,ze 31 1 30 26,zM 32 2 26,⟨some 33,.bin .geq (.t 31) (.t 32),some (26,true),[]⟩,zD 34 26 33]
def qea:List VOper:=[z0 35 9,z0 36 2,z9 37 3 7,zI 38 146 37,zx 39 0 0 0 0 1 36 1 3 38,zp 40 4 0 0 0 1 0 39,zz 41 4 48 35 40,z0 9 41]
def qd9:List VOper:=[z09 11]
def qc6:List VOper:=[z0 42 1,z0 43 12,zR 44 4 42 43,z1 45 0 44,z3 46 1 45,z0 47 2,z0F 48 46 47]
def qss:List VOper:=[z0 49 9,z0 50 1,z0 51 12,z2 52 4 50 51 [1,2],zP 53 0 52 [3],zA 54 1 53 [4],z0 55 0,z0 56 10,z0 57 1,z0 58 12,z2 59 4 57 58 [8,9],zP 60 1 59 [10],zG 61 3 60 [11],z0K 62 141 55 56 61 [6,7,12],zh 63 0 0 0 0 1 54 1 3 62 [5,13],zf 64 4 0 0 0 1 0 63 [14],z04 65 4 48 49 64 [0,13,15],zH 9 65 [0,1,2,3,4,5,6,7,8,9,10,11,12,13,14,15,16]]
def qec:List VOper:=[z0 22 12,z6 23 22 1,z0 12 23]
def qfu:VCode:=(.seq (.seq (yR 0 [0,1,2,7,9,10,11,12,21] qed) (.cond (.t 21) .skip (.exit 0))) (.seq (.block 1 (.seq (.seq (yR 0 [0,1,2,7,9,10,11,12,34] qeb) (.cond (.t 34) (.seq (yR 0 [0,1,2,7,9,10,12] qea) (yR 0 [0,1,2,7,9,10,11,12] qd9)) .skip)) (.seq (yR 0 [0,1,2,7,9,10,11,12,48] qc6) (.cond (.t 48) (yT 0 [0,1,2,7,9,10,11,12] qss) .skip)))) (yR 0 [0,1,2,7,9,10,11,12] qec)))
def qc5:List VOper:=[z0 66 11,z0f 67 66]
def qc4:List VOper:=[z0 68 9,z0 69 2,z9 70 3 7,zI 71 146 70,zx 72 0 0 0 0 1 69 1 3 71,zp 73 4 0 0 0 1 0 72,zz 74 4 48 68 73,z0 9 74]
def qc3:List VOper:=[z0 75 9,z0 8 75]
def qD3:VFn:=⟨4,[.tmp 8],(.seq (yR 1 [0,1,2,7] qei) (.seq (yR 0 [0,1,2,7,9] qeh) (.seq (yR 0 [0,1,2,7,9,10] qeg) (.seq (yR 0 [0,1,2,7,9,10,11] qef) (.seq (.seq (yR 0 [0,1,2,7,9,10,11,12] qee) (.block 0 (.loop [0,1,2,7,9,10,11,12] qfu))) (.seq (.seq (yR 0 [2,7,9,67] qc5) (.cond (.t 67) (yR 0 [9] qc4) .skip)) (.seq (yR 0 [8] qc3) .ret)))))))⟩
def qlg:List VOper:=[z8 4]
def qlf:List VOper:=[z0 6 0,zF 7 6,z0 8 1,zF 9 8,z0F 10 7 9]
def qle:List VOper:=[z8 4]
def qld:List VOper:=[z4 5 0]
def qmU:List VOper:=[z0 11 5,z0 12 0,zF 13 12,zC 14 11 13]
def qAL:List VOper:=[z0 17 0,z0 18 5,z2 19 4 17 18 [0,1],zP 20 0 19 [2],zA 21 1 20 [3],z0 22 1,z0 23 5,z2 24 4 22 23 [5,6],zP 25 0 24 [7],zA 26 1 25 [8],⟨some 27,.bin .neq (.t 21) (.t 26),none,[4,9]⟩,zH 28 27 [10],z5 29 0 28 [11],z5 30 5 28 [11],zY 31 4 29 30 28 [11,12,13],zQ 32 1 31 28 [11,14],z03 33 3 32 28 [11,15],z5 34 1 28 [11],z5 35 5 28 [11],zY 36 4 34 35 28 [11,17,18],zQ 37 1 36 28 [11,19],z03 38 3 37 28 [11,20],zO 39 3 33 38 28 [11,16,21],zu 40 39 28 [11,22],zE 41 28 40 [11,23]]
def qmS:List VOper:=[z8 4]
def qmT:List VOper:=[z0 15 5,z6 16 15 1,z0 5 16]
def qnk:VCode:=(.seq (.seq (yR 0 [0,1,5,14] qmU) (.cond (.t 14) .skip (.exit 0))) (.seq (.block 1 (.seq (yT 0 [0,1,5,41] qAL) (.cond (.t 41) (.seq (yR 0 [4] qmS) .ret) .skip))) (yR 0 [0,1,5] qmT)))
def qlc:List VOper:=[z09 4]
def qIt:VFn:=⟨2,[.tmp 4],(.seq (yR 0 [0,1] qlg) (.seq (.seq (yR 0 [0,1,10] qlf) (.cond (.t 10) (.seq (yR 0 [4] qle) .ret) .skip)) (.seq (.seq (yR 0 [0,1,5] qld) (.block 0 (.loop [0,1,5] qnk))) (.seq (yR 0 [4] qlc) .ret))))⟩
def qAK:List VOper:=[zB 4 0 0 0]
def qAJ:List VOper:=[z0 8 0,z0 9 1,zS 10 148 8 9,z0 7 10,z02 11 7 0,z02 12 7 1,zB 5 0 0 0,z7 3 5 11,z0 6 12]
def qAI:List VOper:=[z0 13 6,z0f 14 13]
def qAH:List VOper:=[z0 15 1,zI 16 149 15,z7 3 4 16]
def qAG:List VOper:=[z9 17 3 5,zI 18 150 17,z7 3 4 18]
def qIs:VFn:=⟨2,[.cell 4 true 3],(.seq (yR 1 [0,1,4] qAK) (.seq (yR 1 [1,4,5,6] qAJ) (.seq (.seq (yR 0 [1,4,5,14] qAI) (.cond (.t 14) (.seq (yR 0 [4] qAH) .ret) .skip)) (.seq (yR 0 [4] qAG) .ret))))⟩
def qqe:List VOper:=[zB 4 0 0 0]
def qqd:List VOper:=[z4 5 0]
def quf:List VOper:=[z0 6 5,z0 7 0,zF 8 7,zC 9 6 8]
def qud:List VOper:=[z0 12 0,z0 13 5,zR 14 4 12 13,z1 15 0 14,z3 16 1 15,z0 17 1,z0r 18 16 17]
def quc:List VOper:=[z0 19 0,z0 20 5,zR 21 4 19 20,z1 22 1 21,z9 23 3 22,zI 24 146 23,z7 3 4 24]
def que:List VOper:=[z0 10 5,z6 11 10 1,z0 5 11]
def qri:VCode:=(.seq (.seq (yR 0 [0,1,4,5,9] quf) (.cond (.t 9) .skip (.exit 0))) (.seq (.block 1 (.seq (yR 0 [0,1,4,5,18] qud) (.cond (.t 18) (.seq (yR 0 [4] quc) .ret) .skip))) (yR 0 [0,1,4,5] que)))
def qlb:List VOper:=[z0 25 1,zI 26 147 25,z7 3 4 26]
def qKW:VFn:=⟨2,[.cell 4 true 3],(.seq (yR 1 [0,1,4] qqe) (.seq (.seq (yR 0 [0,1,4,5] qqd) (.block 0 (.loop [0,1,4,5] qri))) (.seq (yR 0 [4] qlb) .ret)))⟩
def qqc:List VOper:=[zV 1 0 0,zB 2 1 0 0]
def qqb:List VOper:=[z1 5 0 1,z3 6 1 5,z1 7 1 1,z3 8 1 7,z0Q 9 0 0 0 1 6 1 1 8,zB 3 0 0 0,z7 3 3 9]
def qqa:List VOper:=[z4 4 0]
def qp9:List VOper:=[z0 10 4,z1 11 2 1,z3 12 1 11,zF 13 12,zC 14 10 13]
def qAF:List VOper:=[z1 17 2 3,zA 18 1 17 [0],z1 19 2 1,zA 20 1 19 [2],z0 21 4,z2 22 3 20 21 [3,4],zG 23 3 22 [5],zr 24 146 23 [6],z0L 25 3 0 0 1 0 24 [7],z04 26 3 40 18 25 [1,7,8],zP 27 2 3 [0,1,2,3,4,5,6,7,8,9],zX 1 27 26 [0,1,2,3,4,5,6,7,8,9,10]]
def qp8:List VOper:=[z0 15 4,z6 16 15 1,z0 4 16]
def qvc:VCode:=(.seq (.seq (yR 0 [1,2,3,4,14] qp9) (.cond (.t 14) .skip (.exit 0))) (.seq (.block 1 (yT 0 [1,2,3,4] qAF)) (yR 0 [1,2,3,4] qp8)))
def qp7:List VOper:=[z9 28 3 3,z7 3 2 28]
def qIr:VFn:=⟨1,[.cell 2 true 3],(.seq (yR 2 [1,2] qqc) (.seq (yR 1 [1,2,3] qqb) (.seq (.seq (yR 0 [1,2,3,4] qqa) (.block 0 (.loop [1,2,3,4] qvc))) (.seq (yR 0 [2] qp7) .ret))))⟩
def qGS:List VOper:=[zB 2 0 0 0]
def qGR:List VOper:=[z0 3 0,z0q 4 0 0 0 1 1 1 3,z7 3 2 4]
def qKV:VFn:=⟨1,[.cell 2 true 3],(.seq (yR 1 [0,2] qGS) (.seq (yR 0 [2] qGR) .ret))⟩
def qp6:List VOper:=[zB 4 0 0 0,z8 5]
def qp5:List VOper:=[z0 8 0,zF 9 8,z4 10 0]
def qub:List VOper:=[zC 11 10 9]
def qua:List VOper:=[zR 12 4 8 10,z9 13 4 12,z0R 7 0 0 0 0,z7 4 7 13]
def qt9:List VOper:=[z1 14 0 7,z3 15 1 14,z0 16 1,z0r 17 15 16]
def qt8:List VOper:=[z1 18 1 7,z9 19 3 18,z7 3 4 19,z09 5]
def qt7:List VOper:=[z6 20 10 1,z0 10 20]
def qrh:VCode:=(.seq (yR 0 [1,4,8,9,10,11] qub) (.seq (.cond (.t 11) .skip (.exit 0)) (.seq (.block 1 (.seq (yR 1 [1,4,7,8,9,10] qua) (.seq (yR 0 [1,4,7,8,9,10,17] qt9) (.cond (.t 17) (.seq (yR 0 [4,5] qt8) .ret) .skip)))) (yR 0 [1,4,8,9,10] qt7))))
def qla:List VOper:=[⟨some 21,.build [.int .i64 0,.int .i64 0,.sl .nil []] [],none,[]⟩,z7 3 4 21,z8 5]
def qKU:VFn:=⟨2,[.cell 4 true 3,.tmp 5],(.seq (yR 1 [0,1,4] qp6) (.seq (.seq (yR 0 [1,4,8,9,10] qp5) (.block 0 (.loop [1,4,8,9,10] qrh))) (.seq (yR 0 [4,5] qla) .ret)))⟩
def qGQ:List VOper:=[zB 2 0 0 0]
def qGP:List VOper:=[z0 3 0,z0q 4 0 0 0 1 1 1 3,z7 3 2 4]
def qKT:VFn:=⟨1,[.cell 2 true 3],(.seq (yR 1 [0,2] qGQ) (.seq (yR 0 [2] qGP) .ret))⟩
def qGO:List VOper:=[zV 1 0 0,zB 2 1 0 0]
def qGN:List VOper:=[z1 3 2 1,z3 4 1 3,zI 5 151 4,z1 6 2 1,z7 1 6 5]
def qGM:List VOper:=[z9 7 3 1,z7 3 2 7]
def qKS:VFn:=⟨1,[.cell 2 true 3],(.seq (yR 2 [1,2] qGO) (.seq (yR 0 [1,2] qGN) (.seq (yR 0 [2] qGM) .ret)))⟩
def qt6:List VOper:=[zc 2]
def qt5:List VOper:=[z0N 6 3 0 0 0,z0 3 6]
def qt4:List VOper:=[z0 7 0,zF 8 7,z4 9 0]
def qAE:List VOper:=[zC 10 9 8]
def qAD:List VOper:=[zR 11 3 7 9,z9 12 3 11,zB 5 0 0 0,z7 3 5 12]
def qAC:List VOper:=[z0 13 3,z9 14 3 5,zI 15 150 14,zm 16 3 0 0 1 0 15,zz 17 3 40 13 16,z0 3 17]
def qAB:List VOper:=[z6 18 9 1,z0 9 18]
def qvb:VCode:=(.seq (yR 0 [3,7,8,9,10] qAE) (.seq (.cond (.t 10) .skip (.exit 0)) (.seq (.block 1 (.seq (yR 1 [3,5,7,8,9] qAD) (yR 0 [3,7,8,9] qAC))) (yR 0 [3,7,8,9] qAB))))
def qp4:List VOper:=[z0 19 3,z0 2 19]
def qKR:VFn:=⟨1,[.tmp 2],(.seq (yR 0 [0] qt6) (.seq (yR 0 [0,3] qt5) (.seq (.seq (yR 0 [3,7,8,9] qt4) (.block 0 (.loop [3,7,8,9] qvb))) (.seq (yR 0 [2] qp4) .ret))))⟩
def qjh:List VOper:=[zV 3 0 1,zB 4 1 0 0]
def qjg:List VOper:=[z1 7 0 3,z3 8 1 7,z0M 9 8,z0 10 9,zg 11 2 3 10,ze 12 1 11 10,z0o 13 12 10,z0I 14 13 0 10,zD 15 10 14]
def qjf:List VOper:=[z0 16 0,z1 17 1 3,z3 18 1 17,zS 19 145 16 18,z7 3 4 19]
def qje:List VOper:=[z1 20 0 3,z3 21 1 20,z1 22 1 3,z3 23 1 22,z0Q 24 0 0 0 1 21 1 1 23,zB 5 0 0 0,z7 3 5 24]
def qjd:List VOper:=[z4 6 0]
def qjc:List VOper:=[z0 25 6,z1 26 2 3,z3 27 1 26,zF 28 27,zC 29 25 28]
def qAA:List VOper:=[z1 32 2 5,zA 33 1 32 [0],z0 34 0,z1 35 2 3,zA 36 1 35 [3],z0 37 6,z2 38 3 36 37 [4,5],zG 39 3 38 [6],zN 40 152 34 39 [2,7],z0L 41 3 0 0 1 0 40 [8],z04 42 3 40 33 41 [1,8,9],zP 43 2 5 [0,1,2,3,4,5,6,7,8,9,10],zX 1 43 42 [0,1,2,3,4,5,6,7,8,9,10,11]]
def qjb:List VOper:=[z0 30 6,z6 31 30 1,z0 6 31]
def qva:VCode:=(.seq (.seq (yR 0 [0,3,4,5,6,29] qjc) (.cond (.t 29) .skip (.exit 0))) (.seq (.block 1 (yT 0 [0,3,4,5,6] qAA)) (yR 0 [0,3,4,5,6] qjb)))
def qja:List VOper:=[z9 44 3 5,z7 3 4 44]
def qC5:VFn:=⟨2,[.cell 4 true 3],(.seq (yR 2 [0,3,4] qjh) (.seq (.seq (yR 0 [0,3,4,15] qjg) (.cond (.t 15) (.seq (yR 0 [4] qjf) .ret) .skip)) (.seq (yR 1 [0,3,4,5] qje) (.seq (.seq (yR 0 [0,3,4,5,6] qjd) (.block 0 (.loop [0,3,4,5,6] qva))) (.seq (yR 0 [4] qja) .ret)))))⟩
def qhi:List VOper:=[zV 3 0 1,zB 4 1 0 0]
def qhh:List VOper:=[z1 9 0 3,z3 10 1 9,z1 11 1 3,z3 12 1 11,z0Q 13 0 0 0 1 10 1 1 12,zB 5 0 0 0,z7 3 5 13]
def qhg:List VOper:=[z4 6 0]
def qi9:List VOper:=[z0 14 6,z1 15 2 3,z3 16 1 15,zF 17 16,zC 18 14 17]
def qi7:List VOper:=[z0 21 0,z1 22 2 3,z3 23 1 22,z0 24 6,zR 25 3 23 24,z9 26 3 25,zS 27 153 21 26,zB 7 0 0 0,z7 3 7 27]
def qfI:List VOper:=[z0 45 0,z1 46 0 3,z3 47 1 46,zS 48 33 45 47,z0f 49 48,z0 44 49]
def qfH:List VOper:=[z1 50 2 5,z3 51 1 50,z9 52 3 7,zm 53 3 0 0 1 0 52,zz 54 3 40 51 53,z1 55 2 5,z7 1 55 54]
def qfG:List VOper:=[z1 57 0 7,z3 58 1 57,z1 59 0 3,z3 60 1 59,z0F 61 58 60,z0 56 61]
def qfF:List VOper:=[z1 62 2 5,z3 63 1 62,z9 64 3 7,zZ 65 154 63 64,z1 66 2 5,z7 1 66 65]
def qi6:List VOper:=[z4 8 0]
def qi5:List VOper:=[z0 28 8,z1 29 2 7,z3 30 1 29,zF 31 30,zC 32 28 31]
def qAz:List FOper:=[
 .one (z1 35 2 5),.one (zA 36 1 35 [0]),.one (z1 37 2 7),
 .el 38 37 39 (.t 8) 40 3 41 [2] [] [3,4] [5],.one ⟨some 42,.call false (.c (.fn 154 [])) [.t 36,.t 41],none,[1,6]⟩,.one (zP 43 2 5 [0,1,2,3,4,5,6,7]),.one (zX 1 43 42 [0,1,2,3,4,5,6,7,8])]
def qi4:List VOper:=[z0 33 8,z6 34 33 1,z0 8 34]
def qu9:VCode:=(.seq (.seq (yR 0 [0,3,4,5,6,7,8,32] qi5) (.cond (.t 32) .skip (.exit 3))) (.seq (.block 4 (.regionF true 0 [0,3,4,5,6,7,8] qAz)) (yR 0 [0,3,4,5,6,7,8] qi4)))
def qi8:List VOper:=[z0 19 6,z6 20 19 1,z0 6 20]
def qjC:VCode:=(.seq (.seq (yR 0 [0,3,4,5,6,18] qi9) (.cond (.t 18) .skip (.exit 0))) (.seq (.block 1 (.seq (yR 1 [0,3,4,5,6,7] qi7) (.block 2 (.seq (yR 0 [0,3,4,5,6,7,44] qfI) (.cond (.t 44) (yR 0 [0,3,4,5,6] qfH) (.seq (yR 0 [0,3,4,5,6,7,56] qfG) (.cond (.t 56) (yR 0 [0,3,4,5,6] qfF) (.seq (yR 0 [0,3,4,5,6,7,8] qi6) (.block 3 (.loop [0,3,4,5,6,7,8] qu9)))))))))) (yR 0 [0,3,4,5,6] qi8)))
def qe6:List VOper:=[z9 67 3 5,z7 3 4 67]
def qKQ:VFn:=⟨2,[.cell 4 true 3],(.seq (yR 2 [0,3,4] qhi) (.seq (yR 1 [0,3,4,5] qhh) (.seq (.seq (yR 0 [0,3,4,5,6] qhg) (.block 0 (.loop [0,3,4,5,6] qjC))) (.seq (yR 0 [4] qe6) .ret))))⟩
def qp3:List VOper:=[zV 3 0 1,zc 4]
def qp2:List VOper:=[z4 5 0]
def qAy:List VOper:=[z0 7 5,z0 8 0,z0P 9 8 [1],z16 10 7 9 [0,2],zH 11 10 [3],zd 12 3 3 11 [4],zL 13 0 11 [4],zL 14 5 11 [4],zT 15 3 13 14 11 [4,6,7],zd 16 3 15 11 [4,8],z06 17 84 12 16 11 [4,5,9],z1C 18 17 11 [4,10],z07 19 11 18 [4,11]]
def qt3:List VOper:=[z0 20 5,z6 21 20 1,z0 5 21]
def qnj:VCode:=(.seq (.seq (yT 0 [0,3,5,19] qAy) (.cond (.t 19) .skip (.exit 0))) (.block 1 (yR 0 [0,3,5] qt3)))
def qp1:List FOper:=[
 .one (z0N 22 3 0 0 0),
 .sl 23 0 24 (.t 5) 25 3 none (some (.t 24)) [] [] [],.one (zz 26 3 40 22 25),.one (z0 6 26)]
def qp0:List VOper:=[z0 27 6,z9 28 3 3,zm 29 3 0 0 1 0 28,zz 30 3 40 27 29,z0 6 30]
def qpZ:List FOper:=[
 .one (z0 31 6),
 .sl 32 0 33 (.t 5) 34 3 (some (.t 33)) none [] [] [],.one (zz 35 3 40 31 34),.one (z0 4 35)]
def qKP:VFn:=⟨2,[.tmp 4],(.seq (yR 1 [0,3] qp3) (.seq (yR 0 [0,3,5] qp2) (.seq (.block 0 (.loop [0,3,5] qnj)) (.seq (.regionF false 0 [0,3,5,6] qp1) (.seq (yR 0 [0,5,6] qp0) (.seq (.regionF false 0 [4] qpZ) .ret))))))⟩
def qGL:List VOper:=[zc 0]
def qGK:List VOper:=[⟨some 1,.build [.str ⟨#[]⟩,.int .i64 0,.bool false] [(0,1,.c (.d (.str ⟨#[116,116]⟩)))],none,[]⟩,⟨some 2,.build [.str ⟨#[]⟩,.int .i64 0,.bool false] [(0,1,.c (.d (.str ⟨#[97]⟩)))],none,[]⟩,⟨some 3,.build [.str ⟨#[]⟩,.int .i64 0,.bool false] [(0,1,.c (.d (.str ⟨#[98]⟩)))],none,[]⟩,⟨some 4,.build [.str ⟨#[]⟩,.int .i64 0,.bool false] [(0,1,.c (.d (.str ⟨#[103]⟩))),(1,1,.c (.d (.int .i64 1)))],none,[]⟩,⟨some 5,.build [.str ⟨#[]⟩,.int .i64 0,.bool false] [(0,1,.c (.d (.str ⟨#[104]⟩))),(1,1,.c (.d (.int .i64 2)))],none,[]⟩,⟨some 6,.build [.str ⟨#[]⟩,.int .i64 0,.bool false] [(0,1,.c (.d (.str ⟨#[102]⟩))),(1,1,.c (.d (.int .i64 2))),(2,1,.c (.d (.bool true)))],none,[]⟩,⟨some 7,.build [.str ⟨#[]⟩,.int .i64 0,.bool false] [(0,1,.c (.d (.str ⟨#[107]⟩))),(1,1,.c (.d (.int .i64 2))),(2,1,.c (.d (.bool true)))],none,[]⟩,⟨some 8,.buildSlice 3 (.agg [.str ⟨#[]⟩,.int .i64 0,.bool false]) 7 [(0,.t 1),(1,.t 2),(2,.t 3),(3,.t 4),(4,.t 5),(5,.t 6),(6,.t 7)],none,[]⟩,z0 0 8]
def qKO:VFn:=⟨0,[.tmp 0],(.seq (yR 0 [] qGL) (.seq (yR 0 [0] qGK) .ret))⟩
def qpY:List VOper:=[⟨some 2,.move (.c .nilp),none,[]⟩]
def qpX:List VOper:=[z0 5 0,zF 6 5,z0S 7 27064 6,z0 3 7]
def qpW:List VOper:=[z4 4 0]
def qt2:List VOper:=[z0 8 4,z0 9 0,zF 10 9,zC 11 8 10,z0 12 11,zM 13 4 12,⟨some 14,.bin .lss (.t 13) (.c (.d (.int .i64 4000))),some (12,true),[]⟩,zD 15 12 14]
def qt0:List VOper:=[z0 18 3,z0G 19 18 131,z0 20 0,z0 21 4,zR 22 1 20 21,z3 23 1 22,z0k 24 23,za 25 19 24,z6 26 25 7,⟨some 27,.bin .and (.t 26) (.c (.d (.int .i64 1073741823))),none,[]⟩,z0 3 27]
def qt1:List VOper:=[z0 16 4,z6 17 16 1,z0 4 17]
def qrg:VCode:=(.seq (.seq (yR 0 [0,3,4,15] qt2) (.cond (.t 15) .skip (.exit 0))) (.seq (.block 1 (yR 0 [0,3,4] qt0)) (yR 0 [0,3,4] qt1)))
def qpV:List VOper:=[z0 28 0,z0 29 3,⟨some 30,.build [.sl .nil [],.int .i64 0,.int .i64 0] [(0,1,.t 28),(2,1,.t 29)],none,[]⟩,zV 31 0 30,z0 2 31]
def qKN:VFn:=⟨1,[.tmp 2],(.seq (yR 0 [0] qpY) (.seq (yR 0 [0,3] qpX) (.seq (.seq (yR 0 [0,3,4] qpW) (.block 0 (.loop [0,3,4] qrg))) (.seq (yR 1 [2] qpV) .ret))))⟩
def qk9:List VOper:=[zc 2]
def qk8:List VOper:=[z0 4 0,zq 5 158 4,z0 3 5]
def qk7:List VOper:=[z0 6 0,zi 7 159 6 8]
def qk6:List VOper:=[zb 9 7 0,z0 8 9]
def qk5:List VOper:=[z0 10 3,z0 11 0,⟨some 12,.buildSlice 1 (.int .i64 0) 5 [(0,.c (.d (.int .i64 (-1)))),(1,.c (.d (.int .i64 0))),(2,.c (.d (.int .i64 2))),(3,.c (.d (.int .i64 9))),(4,.c (.d (.int .i64 100)))],none,[]⟩,zZ 13 160 11 12,z0 14 0,z0E 15 14 161 14,zx 16 0 0 0 0 1 13 1 3 15,zp 17 4 0 0 0 1 0 16,zz 18 4 48 10 17,z0 2 18]
def qk4:List VOper:=[zb 20 7 1,z0 19 20]
def qk3:List VOper:=[z0 21 3,zF 22 21,z0B 23 22 0]
def qk2:List VOper:=[z0 24 3,z0 25 0,z0E 26 25 161 25,⟨some 27,.indexAddr 4 none (.t 24) (.c (.d (.int .i64 0))),none,[]⟩,z1 28 1 27,z7 3 28 26]
def qk1:List VOper:=[z0 29 3,z0 2 29]
def qyS:VFn:=⟨1,[.tmp 2],(.seq (yR 0 [0] qk9) (.seq (yR 0 [0,3] qk8) (.seq (.seq (yR 0 [0,3,7] qk7) (.block 0 (.seq (yR 0 [0,3,7,8] qk6) (.cond (.t 8) (.seq (yR 0 [2] qk5) .ret) (.seq (yR 0 [0,3,19] qk4) (.cond (.t 19) (.seq (yR 0 [0,3,23] qk3) (.cond (.t 23) (.ghost (.focR 3 [0]) (yR 0 [3] qk2)) .skip)) .skip)))))) (.seq (.ghost (.frzR 3 1 []) (yR 0 [2] qk1)) .ret))))⟩
def qpU:List VOper:=[zc 2]
def qpT:List VOper:=[z0U 6 4 0 0 0 0,z0 3 6]
def qpS:List VOper:=[z4 4 0]
def qpR:List VOper:=[z0 7 4,zw 8 7 3]
def qtY:List VOper:=[z0 11 0,zi 12 162 11 3]
def qtX:List VOper:=[z0 13 0,zi 14 163 13 0,zB 5 0 0 0,z7 3 5 14]
def qtW:List VOper:=[z0 15 0,zi 16 162 15 3]
def qAx:List VOper:=[z0H 17 155,z0 18 0,⟨some 19,.callS 0 (.c (.fn 159 [])) [.t 18,.c (.d (.int .i64 2))],none,[0,1]⟩,⟨some 20,.bin .add (.c (.d (.int .i64 5))) (.t 19),none,[2]⟩,zr 21 147 20 [2,3],⟨some 22,.loadS true 3 (.t 5) 0,none,[]⟩,⟨some 23,.buildSlice 3 (.agg [.int .i64 0,.int .i64 0,.sl .nil []]) 2 [(0,.t 21),(1,.t 22)],none,[4,5]⟩,⟨some 24,.call true (.c (.fn 164 [])) [.c (.d (.int .i64 5)),.t 23],none,[4,6]⟩,zN 25 153 17 24 [0,7],zX 3 5 25 [0,1,2,3,4,5,6,7,8]]
def qtV:List VOper:=[z0 26 3,z0 27 4,z9 28 3 5,zx 29 0 0 0 0 1 27 1 3 28,zp 30 4 0 0 0 1 0 29,zz 31 4 48 26 30,z0 3 31]
def qtZ:List VOper:=[z0 9 4,z6 10 9 1,z0 4 10]
def ql7:VCode:=(.seq (.seq (yR 0 [0,3,4,8] qpR) (.cond (.t 8) .skip (.exit 0))) (.seq (.block 1 (.seq (.seq (yR 0 [0,3,4,12] qtY) (.cond (.t 12) (.exit 1) .skip)) (.seq (yR 1 [0,3,4,5] qtX) (.seq (.seq (yR 0 [0,3,4,5,16] qtW) (.cond (.t 16) (yT 0 [0,3,4,5] qAx) .skip)) (yR 0 [0,3,4] qtV))))) (yR 0 [0,3,4] qtZ)))
def qij:List VOper:=[z0 32 3,z0 2 32]
def qKM:VFn:=⟨1,[.tmp 2],(.seq (yR 0 [0] qpU) (.seq (yR 0 [0,3] qpT) (.seq (.seq (yR 0 [0,3,4] qpS) (.block 0 (.loop [0,3,4] ql7))) (.seq (yR 0 [2] qij) .ret))))⟩
def qGJ:List VOper:=[z4 4 0]
def qGI:List VOper:=[z0 9 1,⟨some 10,.bin .leq (.t 9) (.c (.d (.int .i64 0))),none,[]⟩]
def qGH:List VOper:=[z4 4 0]
def qGG:List VOper:=[z0 11 1,⟨some 12,.bin .leq (.t 11) (.c (.d (.int .i64 256))),none,[]⟩]
def qGF:List VOper:=[z0 13 0,zq 14 165 13,z0 15 1,⟨some 16,.bin .rem (.t 14) (.t 15),none,[]⟩,z0 4 16]
def qGE:List VOper:=[z0 17 0,zq 18 165 17,z0 5 18]
def qGD:List VOper:=[z0 19 0,zq 20 165 19,z0 6 20]
def qGC:List VOper:=[z0 21 0,zq 22 165 21,z0 7 22]
def qGB:List VOper:=[z0 23 0,zq 24 165 23,z0 8 24]
def qGA:List VOper:=[z0 25 5,z0G 26 25 16777216,z0 27 6,z0G 28 27 65536,za 29 26 28,z0 30 7,z0G 31 30 256,za 32 29 31,z0 33 8,za 34 32 33,z0 35 1,⟨some 36,.bin .rem (.t 34) (.t 35),none,[]⟩,z0 4 36]
def qKL:VFn:=⟨2,[.tmp 4],(.seq (yR 0 [0,1] qGJ) (.seq (.seq (yR 0 [0,1,10] qGI) (.cond (.t 10) (.seq (yR 0 [4] qGH) .ret) .skip)) (.seq (.seq (yR 0 [0,1,12] qGG) (.cond (.t 12) (.seq (yR 0 [4] qGF) .ret) .skip)) (.seq (yR 0 [0,1,5] qGE) (.seq (yR 0 [0,1,5,6] qGD) (.seq (yR 0 [0,1,5,6,7] qGC) (.seq (yR 0 [1,5,6,7,8] qGB) (.seq (yR 0 [4] qGA) .ret))))))))⟩
def qGz:List VOper:=[z4 4 0]
def qGy:List VOper:=[z0 5 1,z0 6 0,z0 7 1,zF 8 7,zZ 9 159 6 8,zR 10 1 5 9,z3 11 1 10,z0 4 11]
def qKK:VFn:=⟨2,[.tmp 4],(.seq (yR 0 [0,1] qGz) (.seq (yR 0 [4] qGy) .ret))⟩
def qAw:List VOper:=[zB 2 0 0 0]
def qAv:List VOper:=[z0 6 0,zi 7 163 6 3,zB 3 3 0 0,z7 3 3 7]
def qAu:List VOper:=[z0 4 3]
def qAt:List VOper:=[z4 5 0]
def qmR:List VOper:=[z0 8 5,zw 9 8 3,z0 10 9,zM 11 4 10,⟨some 12,.nilCheck (.t 11),some (10,true),[]⟩,zg 13 2 12 10,ze 14 1 13 10,z0o 15 14 10,⟨some 16,.bin .gtr (.t 15) (.c (.d (.int .i64 0))),some (10,true),[]⟩,zD 17 10 16,z0 18 17,zM 19 0 18,⟨some 20,.call false (.c (.fn 162 [])) [.t 19,.c (.d (.int .i64 2))],some (18,true),[]⟩,⟨some 21,.not (.t 20),some (18,true),[]⟩,zD 22 18 21]
def qpQ:List VOper:=[z0 25 4,zt 26 25 [0],zP 27 2 26 [1],z1B 28 1 27 0 [2],z0 29 0,z0 30 4,zt 31 30 [5],zP 32 2 31 [6],zA 33 1 32 [7],z0P 34 33 [8],⟨some 35,.callS 0 (.c (.fn 159 [])) [.t 29,.t 34],none,[4,9]⟩,z2 36 3 28 35 [3,10],zH 4 36 [0,1,2,3,4,5,6,7,8,9,10,11]]
def qtU:List VOper:=[z0 23 5,z6 24 23 1,z0 5 24]
def ql6:VCode:=(.seq (.seq (yR 0 [0,2,3,4,5,22] qmR) (.cond (.t 22) .skip (.exit 0))) (.seq (.block 1 (.ghost (.focC 4 2 [0,2,3,4,5]) (yT 0 [0,2,3,4,5] qpQ))) (yR 0 [0,2,3,4,5] qtU)))
def qkZ:List VOper:=[z0 37 0,zi 38 159 37 12]
def qkY:List VOper:=[zb 40 38 0,z0 39 40]
def qAs:List VOper:=[z0 41 4,z0 42 0,⟨some 43,.buildSlice 1 (.int .i64 0) 5 [(0,.c (.d (.int .i64 (-2)))),(1,.c (.d (.int .i64 (-1)))),(2,.c (.d (.int .i64 0))),(3,.c (.d (.int .i64 5))),(4,.c (.d (.int .i64 7)))],none,[]⟩,zZ 44 160 42 43,z0X 45 41,z1 46 0 45,z7 1 46 44]
def qii:List VOper:=[zb 48 38 1,z0 47 48]
def qsr:List VOper:=[z0 49 4,z0 50 0,⟨some 51,.buildSlice 1 (.int .i64 0) 4 [(0,.c (.d (.int .i64 (-1)))),(1,.c (.d (.int .i64 1))),(2,.c (.d (.int .i64 99))),(3,.c (.d (.int .i64 100)))],none,[]⟩,zZ 52 160 50 51,z0X 53 49,z1 54 1 53,z7 1 54 52]
def qk0:List VOper:=[zb 56 38 2,z0 55 56]
def qod:List VOper:=[z0 57 4,zt 58 57 [0],zP 59 2 58 [1],z1B 60 1 59 0 [2],z0 61 0,⟨some 62,.callS 0 (.c (.fn 166 [])) [.t 61,.c (.d (.int .i64 1)),.c (.d (.int .i64 2))],none,[4]⟩,z0P 63 60 [3],z0V 64 3 0 0 1 0 0 0]
def qhf:List VOper:=[⟨some 65,.append1 3 40 (.t 60) (.t 64) (.t 63) (.t 62) 66,none,[]⟩,z0X 67 57,z1 68 2 67,z7 1 68 65]
def qoc:List VOper:=[zb 70 38 3,z0 69 70]
def qsq:List VOper:=[z0 71 0,⟨some 72,.call false (.c (.fn 166 [])) [.t 71,.c (.d (.int .i64 3)),.c (.d (.int .i64 3))],none,[]⟩,z7 3 2 72]
def qob:List VOper:=[z9 73 3 3,z7 3 2 73]
def qKJ:VFn:=⟨1,[.cell 2 true 3],(.seq (yR 1 [0,2] qAw) (.seq (yR 4 [0,2,3] qAv) (.seq (yR 0 [0,2,3,4] qAu) (.seq (.seq (yR 0 [0,2,3,4,5] qAt) (.block 0 (.loop [0,2,3,4,5] ql6))) (.seq (.seq (yR 0 [0,2,3,4,38] qkZ) (.block 2 (.seq (yR 0 [0,2,3,4,38,39] qkY) (.cond (.t 39) (yR 0 [2,3] qAs) (.seq (yR 0 [0,2,3,4,38,47] qii) (.cond (.t 47) (yR 0 [2,3] qsr) (.seq (yR 0 [0,2,3,4,38,55] qk0) (.cond (.t 55) (.regionT 0 [2,3] qod qhf) (.seq (yR 0 [0,2,3,69] qoc) (.cond (.t 69) (.seq (yR 0 [2] qsq) .ret) .skip)))))))))) (.seq (.ghost (.frzB 3 2 [2]) (yR 0 [2] qob)) .ret))))))⟩
def qGx:List VOper:=[z8 4]
def qGw:List VOper:=[z0 5 0,z0 6 1,zZ 7 159 5 6,zb 8 7 0,z0 4 8]
def qKI:VFn:=⟨2,[.tmp 4],(.seq (yR 0 [0,1] qGx) (.seq (yR 0 [4] qGw) .ret))⟩
def qGv:List VOper:=[zB 4 0 0 0]
def qGu:List VOper:=[z0H 5 155,z0 6 0,z0 7 1,⟨some 8,.call false (.c (.fn 166 [])) [.t 6,.c (.d (.int .i64 2)),.t 7],none,[]⟩,zS 9 153 5 8,z7 3 4 9]
def qKH:VFn:=⟨2,[.cell 4 true 3],(.seq (yR 1 [0,1,4] qGv) (.seq (yR 0 [4] qGu) .ret))⟩
def qGt:List VOper:=[zB 4 0 0 0]
def qGs:List VOper:=[z0 5 0,z0 6 1,z0Q 7 0 0 0 1 5 2 1 6,z7 3 4 7]
def v164:VFn:=⟨2,[.cell 4 true 3],(.seq (yR 1 [0,1,4] qGt) (.seq (yR 0 [4] qGs) .ret))⟩
def qAr:List VOper:=[z4 2 0]
def qAq:List VOper:=[z0 4 0,z0 5 0,z0X 6 5,z1 7 2 6,z3 8 1 7,z0G 9 8 6364136223846793005,z6 10 9 1442695040888963407,z0X 11 4,z1 12 2 11,z7 1 12 10]
def qAp:List VOper:=[z0 13 0,zt 14 13 [0],zP 15 2 14 [1],zA 16 1 15 [2],z0g 17 16 33 [3],z0 18 0,zt 19 18 [5],zP 20 2 19 [6],zA 21 1 20 [7],z0g 22 21 45 [8],⟨some 23,.bin .xor (.t 17) (.t 22),none,[4,9]⟩,z0h 24 23 255 [10],zH 3 24 [0,1,2,3,4,5,6,7,8,9,10,11]]
def qAo:List VOper:=[z0 25 0,zt 26 25 [0],zP 27 1 26 [1],zA 28 1 27 [2],z0 29 0,zt 30 29 [4],zP 31 0 30 [5],zA 32 1 31 [6],z0P 33 32 [7],z16 34 28 33 [3,8]]
def qAn:List VOper:=[z0 35 3,z0 36 0,zt 37 36 [1],zP 38 0 37 [2],zA 39 1 38 [3],z0 40 0,zt 41 40 [5],zP 42 1 41 [6],zA 43 1 42 [7],z2 44 1 39 43 [4,8],zA 45 1 44 [9],⟨some 46,.conv (.kind .i64) (.t 45),none,[10]⟩,zn 47 35 46 [0,11],z0h 48 47 255 [12],zH 3 48 [0,1,2,3,4,5,6,7,8,9,10,11,12,13]]
def qAm:List VOper:=[z0 49 0,z0 50 0,z0X 51 50,z1 52 1 51,z3 53 1 52,z6 54 53 1,z0X 55 49,z1 56 1 55,z7 1 56 54]
def qAl:List VOper:=[z0 57 3,z0 2 57]
def qIp:VFn:=⟨1,[.tmp 2],(.seq (yR 0 [0] qAr) (.seq (yR 0 [0] qAq) (.seq (yT 0 [0,3] qAp) (.seq (.seq (yT 0 [0,3,34] qAo) (.cond (.t 34) (.seq (yT 0 [0,3] qAn) (yR 0 [3] qAm)) .skip)) (.seq (yR 0 [2] qAl) .ret)))))⟩
def qAk:List VOper:=[zB 6 0 0 0]
def qmQ:List VOper:=[z0 9 1,zb 10 9 0,z0 11 10,zk 12 0 11,⟨some 13,.call false (.c (.fn 162 [])) [.t 12,.c (.d (.int .i64 3))],some (11,false),[]⟩,zl 14 11 13]
def qpP:List VOper:=[z0 15 2,z0B 16 15 0,z0 17 16,zM 18 0 17,⟨some 19,.call false (.c (.fn 162 [])) [.t 18,.c (.d (.int .i64 2))],some (17,true),[]⟩,zD 20 17 19]
def qAj:List VOper:=[z0 21 0,z0 22 2,zZ 23 159 21 22,zI 24 147 23,z7 3 6 24]
def qtT:List VOper:=[z0 25 0,zi 26 159 25 2,z0S 27 1 26,⟨some 28,.build [.int .i64 0,.int .i64 0,.sl .nil []] [(0,1,.t 27)],none,[]⟩,z7 3 6 28]
def qtS:List VOper:=[z0 29 0,⟨some 30,.buildSlice 1 (.int .i64 0) 5 [(0,.c (.d (.int .i64 3))),(1,.c (.d (.int .i64 4))),(2,.c (.d (.int .i64 5))),(3,.c (.d (.int .i64 5))),(4,.c (.d (.int .i64 6)))],none,[]⟩,zZ 31 160 29 30,z0 7 31]
def qtR:List VOper:=[z0 32 0,z0 33 1,zv 34 33 1,z0 35 2,z11 36 166 32 34 35,zm 37 3 0 0 1 0 36,z0 8 37]
def qtQ:List VOper:=[z0 38 7,z0B 39 38 3]
def qtP:List VOper:=[z0 40 8,z0 41 0,z0 42 1,zv 43 42 1,z0 44 2,z11 45 166 41 43 44,zm 46 3 0 0 1 0 45,zz 47 3 40 40 46,z0 8 47]
def qtO:List VOper:=[z0 48 7,z0 49 8,zS 50 164 48 49,z7 3 6 50]
def qKG:VFn:=⟨3,[.cell 6 true 3],(.seq (yR 1 [0,1,2,6] qAk) (.seq (.seq (yR 0 [0,1,2,6,14] qmQ) (.cond (.t 14) (.seq (.seq (yR 0 [0,2,6,20] qpP) (.cond (.t 20) (.seq (yR 0 [6] qAj) .ret) .skip)) (.seq (yR 0 [6] qtT) .ret)) .skip)) (.seq (yR 0 [0,1,2,6,7] qtS) (.seq (yR 0 [0,1,2,6,7,8] qtR) (.seq (.seq (yR 0 [0,1,2,6,7,8,39] qtQ) (.cond (.t 39) (yR 0 [6,7,8] qtP) .skip)) (.seq (yR 0 [6] qtO) .ret))))))⟩
def qGr:List VOper:=[zV 2 0 0,z8 3]
def qGq:List VOper:=[z1 4 0 2,z3 5 1 4,z3 6 1 1,z1E 7 5 6,z0 3 7]
def qKF:VFn:=⟨2,[.tmp 3],(.seq (yR 1 [1,2] qGr) (.seq (yR 0 [3] qGq) .ret))⟩
def qi3:List VOper:=[zV 3 0 1,zB 4 1 0 0]
def qi2:List VOper:=[z9 8 3 3,zI 9 75 8,z0 10 9,zg 11 2 3 10,ze 12 1 11 10,z0o 13 12 10,z0I 14 13 0 10,zD 15 10 14]
def qi1:List VOper:=[z0 16 0,z1 17 1 3,z3 18 1 17,zS 19 144 16 18,z7 3 4 19]
def qi0:List VOper:=[z0N 20 3 0 0 0,z0 5 20]
def qiZ:List VOper:=[z1 21 2 3,z3 22 1 21,zF 23 22,z4 24 0]
def qiY:List VOper:=[zC 25 24 23]
def qiX:List VOper:=[zR 26 3 22 24,z9 27 3 26,zB 7 0 0 0,z7 3 7 27]
def qiW:List VOper:=[z0 28 5,z0 29 0,z9 30 3 7,zS 31 168 29 30,zm 32 3 0 0 1 0 31,zz 33 3 40 28 32,z0 5 33]
def qiV:List VOper:=[z6 34 24 1,z0 24 34]
def qu8:VCode:=(.seq (yR 0 [0,3,4,5,22,23,24,25] qiY) (.seq (.cond (.t 25) .skip (.exit 0)) (.seq (.block 1 (.seq (yR 1 [0,3,4,5,7,22,23,24] qiX) (yR 0 [0,3,4,5,22,23,24] qiW))) (yR 0 [0,3,4,5,22,23,24] qiV))))
def qiU:List VOper:=[z0 35 5,z1 36 2 3,z7 1 36 35]
def qfE:List VOper:=[z9 37 3 3,z7 3 4 37]
def qC4:VFn:=⟨2,[.cell 4 true 3],(.seq (yR 2 [0,3,4] qi3) (.seq (.seq (yR 0 [0,3,4,15] qi2) (.cond (.t 15) (.seq (yR 0 [4] qi1) .ret) .skip)) (.seq (yR 0 [0,3,4,5] qi0) (.seq (.seq (yR 0 [0,3,4,5,22,23,24] qiZ) (.block 0 (.loop [0,3,4,5,22,23,24] qu8))) (.seq (yR 0 [3,4] qiU) (.seq (yR 0 [4] qfE) .ret))))))⟩
def qiT:List VOper:=[zV 3 0 1,zB 4 1 0 0]
def qiS:List VOper:=[z0N 8 3 0 0 0,z0 5 8]
def qiR:List VOper:=[z1 9 2 3,z3 10 1 9,zF 11 10,z4 12 0]
def qpO:List VOper:=[zC 13 12 11]
def qpN:List VOper:=[zR 14 3 10 12,z9 15 3 14,zB 7 0 0 0,z7 3 7 15]
def qpM:List VOper:=[z0 16 0,z9 17 3 7,zS 18 169 16 17,z7 3 7 18]
def qpL:List VOper:=[z0 19 0,z1 20 0 3,z3 21 1 20,zS 22 34 19 21,z0 23 22,zg 24 0 7 23,ze 25 1 24 23,zg 26 0 3 23,ze 27 1 26 23,z17 28 25 27 23,zD 29 23 28]
def qpK:List VOper:=[z0 30 5,z1 31 2 7,z3 32 1 31,zz 33 3 40 30 32,z0 5 33]
def qpJ:List VOper:=[z0 34 5,z9 35 3 7,zm 36 3 0 0 1 0 35,zz 37 3 40 34 36,z0 5 37]
def qpI:List VOper:=[z6 38 12 1,z0 12 38]
def qhW:VCode:=(.seq (yR 0 [0,3,4,5,10,11,12,13] qpO) (.seq (.cond (.t 13) .skip (.exit 0)) (.seq (.block 1 (.seq (yR 1 [0,3,4,5,7,10,11,12] qpN) (.seq (yR 0 [0,3,4,5,7,10,11,12] qpM) (.seq (yR 0 [0,3,4,5,7,10,11,12,29] qpL) (.cond (.t 29) (yR 0 [0,3,4,5,10,11,12] qpK) (yR 0 [0,3,4,5,10,11,12] qpJ)))))) (yR 0 [0,3,4,5,10,11,12] qpI))))
def qe5:List VOper:=[z0 39 0,z1 40 0 3,z3 41 1 40,zS 42 34 39 41]
def qkX:List VOper:=[z0 43 5,⟨some 44,.call false (.c (.fn 170 [])) [.t 43,.c (.fn 6 [])],none,[]⟩]
def qkW:List VOper:=[z0 45 5,z1 46 2 3,z7 1 46 45]
def qkV:List VOper:=[z9 47 3 3,z7 3 4 47]
def qSW:VFn:=⟨2,[.cell 4 true 3],(.seq (yR 2 [0,3,4] qiT) (.seq (yR 0 [0,3,4,5] qiS) (.seq (.seq (yR 0 [0,3,4,5,10,11,12] qiR) (.block 0 (.loop [0,3,4,5,10,11,12] qhW))) (.seq (.seq (yR 0 [3,4,5,42] qe5) (.cond (.t 42) (yR 0 [3,4,5] qkX) .skip)) (.seq (yR 0 [3,4] qkW) (.seq (yR 0 [4] qkV) .ret))))))⟩
def qAi:List VOper:=[z0 4 0,z0 5 0,zF 6 5,z0 7 1,z11 8 171 4 6 7]
def qF7:VFn:=⟨2,[],(yR 0 [] qAi)⟩
def qAh:List VOper:=[z4 6 20]
def qAg:List VOper:=[z0 10 6,z4 7 0,z0 8 10]
def qtN:List VOper:=[z0 11 8,z0 12 1,⟨some 13,.bin .leq (.t 11) (.t 12),none,[]⟩]
def qGp:List VOper:=[z0 14 0,z0 15 7,z0 16 8,z0 17 2,⟨some 18,.call false (.c (.fn 172 [])) [.t 14,.t 15,.t 16,.t 17],none,[]⟩]
def qGo:List VOper:=[z0 19 8,z0 7 19]
def qGn:List VOper:=[z0 20 8,z0 21 6,za 22 20 21,z0 8 22]
def ql5:VCode:=(.seq (.seq (yR 0 [0,1,2,6,7,8,13] qtN) (.cond (.t 13) .skip (.exit 0))) (.block 1 (.seq (yR 0 [0,1,2,6,8] qGp) (.seq (yR 0 [0,1,2,6,7,8] qGo) (yR 0 [0,1,2,6,7,8] qGn)))))
def qAc:List VOper:=[z0 23 0,z0 24 7,z0 25 1,z0 26 2,⟨some 27,.call false (.c (.fn 172 [])) [.t 23,.t 24,.t 25,.t 26],none,[]⟩]
def qpH:List VOper:=[z0 28 6,z0 29 1,zC 30 28 29]
def qAb:List VOper:=[z0 31 6,⟨some 32,.bin .mul (.c (.d (.int .i64 2))) (.t 31),none,[]⟩,z4 7 0,z0 8 32]
def qAa:List VOper:=[z0 33 8,z0 34 1,⟨some 35,.bin .leq (.t 33) (.t 34),none,[]⟩]
def qAf:List VOper:=[z0 36 0,z0 37 7,z0 38 7,z0 39 6,za 40 38 39,z0 41 8,z0 42 2,zy 43 173 36 37 40 41 42]
def qAe:List VOper:=[z0 44 8,z0 7 44]
def qAd:List VOper:=[z0 45 8,z0 46 6,⟨some 47,.bin .mul (.c (.d (.int .i64 2))) (.t 46),none,[]⟩,za 48 45 47,z0 8 48]
def qrf:VCode:=(.seq (.seq (yR 0 [0,1,2,6,7,8,35] qAa) (.cond (.t 35) .skip (.exit 4))) (.block 5 (.seq (yR 0 [0,1,2,6,8] qAf) (.seq (yR 0 [0,1,2,6,7,8] qAe) (yR 0 [0,1,2,6,7,8] qAd)))))
def qkU:List VOper:=[z0 49 7,z0 50 6,za 51 49 50,z0 9 51]
def qkT:List VOper:=[z0 52 9,z0 53 1,zC 54 52 53]
def qkS:List VOper:=[z0 55 0,z0 56 7,z0 57 9,z0 58 1,z0 59 2,zy 60 173 55 56 57 58 59]
def qkR:List VOper:=[z0 61 6,z0G 62 61 2,z0 6 62]
def qjB:VCode:=(.seq (.seq (yR 0 [0,1,2,6,30] qpH) (.cond (.t 30) .skip (.exit 2))) (.block 3 (.seq (yR 0 [0,1,2,6,7,8] qAb) (.seq (.block 4 (.loop [0,1,2,6,7,8] qrf)) (.seq (.seq (yR 0 [0,1,2,6,7,9] qkU) (.seq (yR 0 [0,1,2,6,7,9,54] qkT) (.cond (.t 54) (yR 0 [0,1,2,6] qkS) .skip))) (yR 0 [0,1,2,6] qkR))))))
def qF6:VFn:=⟨3,[],(.seq (yR 0 [0,1,2,6] qAh) (.seq (yR 0 [0,1,2,6,7,8] qAg) (.seq (.block 0 (.loop [0,1,2,6,7,8] ql5)) (.seq (yR 0 [0,1,2,6] qAc) (.block 2 (.loop [0,1,2,6] qjB))))))⟩
def qpG:List VOper:=[z0 10 1,z6 11 10 1,z0 8 11]
def qmP:List VOper:=[z0 12 8,z0 13 2,zC 14 12 13]
def qz8:List VOper:=[z0 17 8,z0 9 17]
def qtM:List VOper:=[z0 18 9,z0 19 1,⟨some 20,.bin .gtr (.t 18) (.t 19),none,[0,1]⟩,zH 21 20 [2],zL 22 3 21 [3],zL 23 0 21 [3],zL 24 9 21 [3],zT 25 3 23 24 21 [3,5,6],zd 26 3 25 21 [3,7],zL 27 0 21 [3],zL 28 9 21 [3],zj 29 28 1 21 [3,10],zT 30 3 27 29 21 [3,9,11],zd 31 3 30 21 [3,12],⟨some 32,.call false (.t 22) [.t 26,.t 31],some (21,true),[3,4,8,13]⟩,z0C 33 32 0 21 [3,14],z07 34 21 33 [3,15]]
def qtL:List VOper:=[z0 37 0,z0 38 9,z0 39 0,z0 40 9,zs 41 40 1 [3],z0 42 0,z0 43 9,zs 44 43 1 [6],z2 45 3 42 44 [5,7],zG 46 3 45 [8],z0 47 0,z0 48 9,z2 49 3 47 48 [10,11],zG 50 3 49 [12],z2 51 3 37 38 [0,1,5,6,7,8,9,13],zX 3 51 46 [0,1,5,6,7,8,9,13,14],z2 52 3 39 41 [0,1,2,3,4,5,6,7,8,9,10,11,12,13,14,15],zX 3 52 50 [0,1,2,3,4,5,6,7,8,9,10,11,12,13,14,15,16]]
def qz7:List VOper:=[z0 35 9,zv 36 35 1,z0 9 36]
def qre:VCode:=(.seq (.seq (yT 0 [0,1,2,3,8,9,34] qtM) (.cond (.t 34) .skip (.exit 2))) (.seq (.block 3 (yT 0 [0,1,2,3,8,9] qtL)) (yR 0 [0,1,2,3,8,9] qz7)))
def qz9:List VOper:=[z0 15 8,z6 16 15 1,z0 8 16]
def qjA:VCode:=(.seq (.seq (yR 0 [0,1,2,3,8,14] qmP) (.cond (.t 14) .skip (.exit 0))) (.seq (.block 1 (.seq (yR 0 [0,1,2,3,8,9] qz8) (.block 2 (.loop [0,1,2,3,8,9] qre)))) (yR 0 [0,1,2,3,8] qz9)))
def qC3:VFn:=⟨4,[],(.seq (yR 0 [0,1,2,3,8] qpG) (.block 0 (.loop [0,1,2,3,8] qjA)))⟩
def qpF:List VOper:=[z0 25 2,z0 26 1,z05 27 25 26,zb 28 27 1]
def qGm:List VOper:=[z0 29 2,z0 10 29]
def qGl:List VOper:=[z0 30 3,z0 11 30]
def qtK:List VOper:=[z0 31 10,z0 32 11,zC 33 31 32]
def qzX:List VOper:=[z0 34 10,z0 35 11,za 36 34 35,z12 37 36,z0d 38 37 1,z0k 39 38,z0 12 39]
def qtJ:List VOper:=[z0 40 4,z0 41 0,z0 42 12,z2 43 3 41 42 [1,2],zG 44 3 43 [3],z0 45 0,z0 46 1,z2 47 3 45 46 [5,6],zG 48 3 47 [7],z0b 49 40 44 48 [0,4,8],z0J 50 49 0 [9]]
def qzW:List VOper:=[z0 51 12,z6 52 51 1,z0 10 52]
def qzV:List VOper:=[z0 53 12,z0 11 53]
def qni:VCode:=(.seq (.seq (yR 0 [0,1,4,10,11,33] qtK) (.cond (.t 33) .skip (.exit 0))) (.block 1 (.seq (yR 0 [0,1,4,10,11,12] qzX) (.seq (yT 0 [0,1,4,10,11,12,50] qtJ) (.cond (.t 50) (yR 0 [0,1,4,10,11] qzW) (yR 0 [0,1,4,10,11] qzV))))))
def qGk:List VOper:=[z0 54 1,z0 13 54]
def qzU:List VOper:=[z0 55 13,z0 56 10,zv 57 56 1,zC 58 55 57]
def qoa:List VOper:=[z0 61 0,z0 62 13,z0 63 0,z0 64 13,z0i 65 64 1 [3],z0 66 0,z0 67 13,z0i 68 67 1 [6],z2 69 3 66 68 [5,7],zG 70 3 69 [8],z0 71 0,z0 72 13,z2 73 3 71 72 [10,11],zG 74 3 73 [12],z2 75 3 61 62 [0,1,5,6,7,8,9,13],zX 3 75 70 [0,1,5,6,7,8,9,13,14],z2 76 3 63 65 [0,1,2,3,4,5,6,7,8,9,10,11,12,13,14,15],zX 3 76 74 [0,1,2,3,4,5,6,7,8,9,10,11,12,13,14,15,16]]
def qz6:List VOper:=[z0 59 13,z6 60 59 1,z0 13 60]
def qrd:VCode:=(.seq (.seq (yR 0 [0,10,13,58] qzU) (.cond (.t 58) .skip (.exit 2))) (.seq (.block 3 (yT 0 [0,10,13] qoa)) (yR 0 [0,10,13] qz6)))
def qn9:List VOper:=[z0 77 3,z0 78 2,z05 79 77 78,zb 80 79 1]
def qz5:List VOper:=[z0 81 1,z0 14 81]
def qz4:List VOper:=[z0 82 2,z0 15 82]
def qn8:List VOper:=[z0 83 14,z0 84 15,zC 85 83 84]
def qsp:List VOper:=[z0 86 14,z0 87 15,za 88 86 87,z12 89 88,z0d 90 89 1,z0k 91 90,z0 16 91]
def qn7:List VOper:=[z0 92 4,z0 93 0,z0 94 2,z2 95 3 93 94 [1,2],zG 96 3 95 [3],z0 97 0,z0 98 16,z2 99 3 97 98 [5,6],zG 100 3 99 [7],z0b 101 92 96 100 [0,4,8],z0J 102 101 0 [9],z01 103 102 [10]]
def qso:List VOper:=[z0 104 16,z6 105 104 1,z0 14 105]
def qsn:List VOper:=[z0 106 16,z0 15 106]
def qnh:VCode:=(.seq (.seq (yR 0 [0,2,4,14,15,85] qn8) (.cond (.t 85) .skip (.exit 4))) (.block 5 (.seq (yR 0 [0,2,4,14,15,16] qsp) (.seq (yT 0 [0,2,4,14,15,16,103] qn7) (.cond (.t 103) (yR 0 [0,2,4,14,15] qso) (yR 0 [0,2,4,14,15] qsn))))))
def qz3:List VOper:=[z0 107 2,z0 17 107]
def qsm:List VOper:=[z0 108 17,z0 109 14,z15 110 108 109]
def qn6:List VOper:=[z0 113 0,z0 114 17,z0 115 0,z0 116 17,zs 117 116 1 [3],z0 118 0,z0 119 17,zs 120 119 1 [6],z2 121 3 118 120 [5,7],zG 122 3 121 [8],z0 123 0,z0 124 17,z2 125 3 123 124 [10,11],zG 126 3 125 [12],z2 127 3 113 114 [0,1,5,6,7,8,9,13],zX 3 127 122 [0,1,5,6,7,8,9,13,14],z2 128 3 115 117 [0,1,2,3,4,5,6,7,8,9,10,11,12,13,14,15],zX 3 128 126 [0,1,2,3,4,5,6,7,8,9,10,11,12,13,14,15,16]]
def qz2:List VOper:=[z0 111 17,zv 112 111 1,z0 17 112]
def qrc:VCode:=(.seq (.seq (yR 0 [0,14,17,110] qsm) (.cond (.t 110) .skip (.exit 6))) (.seq (.block 7 (yT 0 [0,14,17] qn6)) (yR 0 [0,14,17] qz2)))
def qsl:List VOper:=[z0 129 1,z0 130 3,za 131 129 130,z12 132 131,z0d 133 132 1,z0k 134 133,z0 18 134]
def qsk:List VOper:=[z0 135 18,z0 136 2,za 137 135 136,z0 19 137]
def qsj:List VOper:=[z4 20 0,z4 21 0]
def qsi:List VOper:=[z0 138 2,z0 139 18,z15 140 138 139]
def qz1:List VOper:=[z0 141 19,z0 142 3,z05 143 141 142,z0 20 143]
def qz0:List VOper:=[z0 144 18,z0 21 144]
def qzZ:List VOper:=[z0 145 1,z0 20 145]
def qzY:List VOper:=[z0 146 2,z0 21 146]
def qsh:List VOper:=[z0 147 19,zv 148 147 1,z0 22 148]
def qn5:List VOper:=[z0 149 20,z0 150 21,zC 151 149 150]
def qsg:List VOper:=[z0 152 20,z0 153 21,za 154 152 153,z12 155 154,z0d 156 155 1,z0k 157 156,z0 23 157]
def qn4:List VOper:=[z0 158 4,z0 159 0,z0 160 22,z0 161 23,⟨some 162,.bin .sub (.t 160) (.t 161),none,[2,3]⟩,z2 163 3 159 162 [1,4],zG 164 3 163 [5],z0 165 0,z0 166 23,z2 167 3 165 166 [7,8],zG 168 3 167 [9],z0b 169 158 164 168 [0,6,10],z0J 170 169 0 [11],z01 171 170 [12]]
def qsf:List VOper:=[z0 172 23,z6 173 172 1,z0 20 173]
def qse:List VOper:=[z0 174 23,z0 21 174]
def qhV:VCode:=(.seq (.seq (yR 0 [0,1,2,3,4,18,19,20,21,22,151] qn5) (.cond (.t 151) .skip (.exit 8))) (.block 9 (.seq (yR 0 [0,1,2,3,4,18,19,20,21,22,23] qsg) (.seq (yT 0 [0,1,2,3,4,18,19,20,21,22,23,171] qn4) (.cond (.t 171) (yR 0 [0,1,2,3,4,18,19,20,21,22] qsf) (yR 0 [0,1,2,3,4,18,19,20,21,22] qse))))))
def qkQ:List VOper:=[z0 175 19,z0 176 20,z05 177 175 176,z0 24 177]
def qkP:List VOper:=[z0 178 20,z0 179 2,zC 180 178 179,z0 181 180,zM 182 2 181,zM 183 24 181,z18 184 182 183 181,zD 185 181 184]
def qkO:List VOper:=[z0 186 0,z0 187 20,z0 188 2,z0 189 24,z0 190 4,zy 191 174 186 187 188 189 190]
def qkN:List VOper:=[z0 192 1,z0 193 20,zC 194 192 193,z0 195 194,zM 196 20 195,zM 197 18 195,z18 198 196 197 195,zD 199 195 198]
def qkM:List VOper:=[z0 200 0,z0 201 1,z0 202 20,z0 203 18,z0 204 4,zy 205 173 200 201 202 203 204]
def qkL:List VOper:=[z0 206 18,z0 207 24,zC 208 206 207,z0 209 208,zM 210 24 209,zM 211 3 209,z18 212 210 211 209,zD 213 209 212]
def qkK:List VOper:=[z0 214 0,z0 215 18,z0 216 24,z0 217 3,z0 218 4,zy 219 173 214 215 216 217 218]
def qC2:VFn:=⟨5,[],(.seq (.seq (yR 0 [0,1,2,3,4,28] qpF) (.cond (.t 28) (.seq (yR 0 [0,1,3,4,10] qGm) (.seq (yR 0 [0,1,4,10,11] qGl) (.seq (.block 0 (.loop [0,1,4,10,11] qni)) (.seq (.seq (yR 0 [0,10,13] qGk) (.block 2 (.loop [0,10,13] qrd))) .ret)))) .skip)) (.seq (.seq (yR 0 [0,1,2,3,4,80] qn9) (.cond (.t 80) (.seq (yR 0 [0,2,4,14] qz5) (.seq (yR 0 [0,2,4,14,15] qz4) (.seq (.block 4 (.loop [0,2,4,14,15] qnh)) (.seq (.seq (yR 0 [0,14,17] qz3) (.block 6 (.loop [0,14,17] qrc))) .ret)))) .skip)) (.seq (yR 0 [0,1,2,3,4,18] qsl) (.seq (yR 0 [0,1,2,3,4,18,19] qsk) (.seq (yR 0 [0,1,2,3,4,18,19] qsj) (.seq (.seq (yR 0 [0,1,2,3,4,18,19,140] qsi) (.cond (.t 140) (.seq (yR 0 [0,1,2,3,4,18,19,20] qz1) (yR 0 [0,1,2,3,4,18,19,20,21] qz0)) (.seq (yR 0 [0,1,2,3,4,18,19,20] qzZ) (yR 0 [0,1,2,3,4,18,19,20,21] qzY)))) (.seq (yR 0 [0,1,2,3,4,18,19,20,21,22] qsh) (.seq (.block 8 (.loop [0,1,2,3,4,18,19,20,21,22] qhV)) (.seq (yR 0 [0,1,2,3,4,18,20,24] qkQ) (.seq (.seq (yR 0 [0,1,2,3,4,18,20,24,185] qkP) (.cond (.t 185) (yR 0 [0,1,3,4,18,20,24] qkO) .skip)) (.seq (.seq (yR 0 [0,1,3,4,18,20,24,199] qkN) (.cond (.t 199) (yR 0 [0,3,4,18,24] qkM) .skip)) (.seq (yR 0 [0,3,4,18,24,213] qkL) (.cond (.t 213) (yR 0 [] qkK) .skip)))))))))))))⟩
def qtI:List VOper:=[z0 12 2,z0 13 1,z05 14 12 13,z0 10 14]
def qtH:List VOper:=[z0 15 3,z0 16 2,z05 17 15 16,z0 11 17]
def qtG:List VOper:=[z0 18 10,z0 19 11,z0F 20 18 19]
def qzT:List VOper:=[z0 21 10,z0 22 11,z15 23 21 22]
def qzS:List VOper:=[z0 24 0,z0 25 2,z0 26 10,z05 27 25 26,z0 28 2,z0 29 11,z0 30 4,zy 31 175 24 27 28 29 30]
def qzR:List VOper:=[z0 32 10,z0 33 11,z05 34 32 33,z0 10 34]
def qzQ:List VOper:=[z0 35 0,z0 36 2,z0 37 10,z05 38 36 37,z0 39 2,z0 40 11,za 41 39 40,z0 42 10,z05 43 41 42,z0 44 10,z0 45 4,zy 46 175 35 38 43 44 45]
def qzP:List VOper:=[z0 47 11,z0 48 10,z05 49 47 48,z0 11 49]
def qrb:VCode:=(.seq (.seq (yR 0 [0,2,4,10,11,20] qtG) (.cond (.t 20) .skip (.exit 0))) (.block 1 (.seq (yR 0 [0,2,4,10,11,23] qzT) (.cond (.t 23) (.seq (yR 0 [0,2,4,10,11] qzS) (yR 0 [0,2,4,10,11] qzR)) (.seq (yR 0 [0,2,4,10,11] qzQ) (yR 0 [0,2,4,10,11] qzP))))))
def qtF:List VOper:=[z0 50 0,z0 51 2,z0 52 10,z05 53 51 52,z0 54 2,z0 55 10,z0 56 4,zy 57 175 50 53 54 55 56]
def qKE:VFn:=⟨5,[],(.seq (yR 0 [0,2,3,4,10] qtI) (.seq (yR 0 [0,2,4,10,11] qtH) (.seq (.block 0 (.loop [0,2,4,10,11] qrb)) (yR 0 [] qtF))))⟩
def qGj:List VOper:=[z4 10 0]
def qzO:List VOper:=[z0 11 10,z0 12 3,zC 13 11 12]
def qtE:List VOper:=[z0 16 0,z0 17 1,z0 18 10,zn 19 17 18 [1,2],z0 20 0,z0 21 2,z0 22 10,zn 23 21 22 [5,6],z0 24 0,z0 25 2,z0 26 10,zn 27 25 26 [9,10],z2 28 3 24 27 [8,11],zG 29 3 28 [12],z0 30 0,z0 31 1,z0 32 10,zn 33 31 32 [15,16],z2 34 3 30 33 [14,17],zG 35 3 34 [18],z2 36 3 16 19 [0,1,2,3,8,9,10,11,12,13,19],zX 3 36 29 [0,1,2,3,8,9,10,11,12,13,19,20],z2 37 3 20 23 [0,1,2,3,4,5,6,7,8,9,10,11,12,13,14,15,16,17,18,19,20,21],zX 3 37 35 [0,1,2,3,4,5,6,7,8,9,10,11,12,13,14,15,16,17,18,19,20,21,22]]
def qGi:List VOper:=[z0 14 10,z6 15 14 1,z0 10 15]
def qu7:VCode:=(.seq (.seq (yR 0 [0,1,2,3,10,13] qzO) (.cond (.t 13) .skip (.exit 0))) (.seq (.block 1 (yT 0 [0,1,2,3,10] qtE)) (yR 0 [0,1,2,3,10] qGi)))
def qKD:VFn:=⟨5,[],(.seq (yR 0 [0,1,2,3,10] qGj) (.block 0 (.loop [0,1,2,3,10] qu7)))⟩
def look:List (Nat×VFn)->Nat->Option VFn
 | [],_=>none
 |(k,v)::r,n=>if n=k then some v else look r n
def qFx:List (Nat×VFn):=[(3,v3),(4,v4),(6,v6),(13,v13),(14,v14),(18,v18),(19,v19),(22,v22),(23,v23),(24,v24),(25,v25),(29,v29),(30,v30),(31,v31),(33,v33),(34,v34),(38,v38),(39,v39),(59,v59),(60,v60),(61,v61),(62,v62),(67,v67),(68,v68),(70,v70),(71,v71),(72,v72),(73,v73),(74,v74),(75,v75),(76,v76),(77,v77),(78,v78),(79,v79),(80,v80),(81,v81),(82,v82),(83,v83),(84,v84),(85,v85),(90,v90),(91,v91),(92,v92),(98,v98),(132,qF8),(133,qK4),(134,qK3),(135,qK2),(136,qK1),(137,qD4),(138,qK0),(139,qKZ),(140,qKY),(141,qKX),(142,qD3),(143,qIt),(144,qIs),(145,qKW),(146,qIr),(147,qKV),(148,qKU),(149,qKT),(150,qKS),(151,qKR),(152,qC5),(153,qKQ),(154,qKP),(155,qKO),(156,qKN),(157,qyS),(158,qKM),(159,qKL),(160,qKK),(161,qKJ),(162,qKI),(163,qKH),(164,v164),(165,qIp),(166,qKG),(167,qKF),(168,qC4),(170,qF7),(171,qF6),(172,qC3),(173,qC2),(174,qKE),(175,qKD)]
def qpp:SFn:=qfq (yR 2 [0,3,4] qiT) (yR 0 [0,3,4,5] qiS) (.seq (yR 0 [0,3,4,5,10,11,12] qiR) (.block 0 (.loop [0,3,4,5,10,11,12] qhW))) (yR 0 [3,4,5,42] qe5) 170 6
theorem qIG:qSW=qza (yR 2 [0,3,4] qiT) (yR 0 [0,3,4,5] qiS) (.seq (yR 0 [0,3,4,5,10,11,12] qiR) (.block 0 (.loop [0,3,4,5,10,11,12] qhW))) (yR 0 [3,4,5,42] qe5) 170 6:=rfl
def qIA:List (Nat×SFn):=[(169,qpp)]
def qOR:List (Nat×Nat):=[(157,1),(161,1)]
def qJs:List (Nat×Nat)->Nat->Option Nat
 | [],_=>none
 |(k,v)::r,n=>if n=k then some v else qJs r n
def qE2:List (Nat×(List DV->Option DV)):=[(93,qmn)]
def E:Env:=⟨look qFx,fun k=>(qlu qE2 k).map qxD,qAY qIA,qJs qOR⟩
theorem qTH:E.code 3=some v3:=by kernel_rfl
theorem qTG:E.code 4=some v4:=by kernel_rfl
theorem qTF:E.code 6=some v6:=by kernel_rfl
theorem qSM:E.code 13=some v13:=by kernel_rfl
theorem qSL:E.code 14=some v14:=by kernel_rfl
theorem qSK:E.code 18=some v18:=by kernel_rfl
theorem qSJ:E.code 19=some v19:=by kernel_rfl
theorem qSI:E.code 22=some v22:=by kernel_rfl
theorem qSH:E.code 23=some v23:=by kernel_rfl
theorem qSG:E.code 24=some v24:=by kernel_rfl
theorem qSF:E.code 25=some v25:=by kernel_rfl
theorem qSE:E.code 29=some v29:=by kernel_rfl
theorem qSD:E.code 30=some v30:=by kernel_rfl
theorem qSC:E.code 31=some v31:=by kernel_rfl
theorem qSB:E.code 33=some v33:=by kernel_rfl
theorem qSA:E.code 34=some v34:=by kernel_rfl
theorem qSz:E.code 38=some v38:=by kernel_rfl
theorem qSy:E.code 39=some v39:=by kernel_rfl
theorem qSx:E.code 59=some v59:=by kernel_rfl
theorem qSw:E.code 60=some v60:=by kernel_rfl
theorem qSv:E.code 61=some v61:=by kernel_rfl
theorem qSu:E.code 62=some v62:=by kernel_rfl
theorem qSt:E.code 67=some v67:=by kernel_rfl
theorem qSs:E.code 68=some v68:=by kernel_rfl
theorem qSr:E.code 70=some v70:=by kernel_rfl
theorem qSq:E.code 71=some v71:=by kernel_rfl
theorem qSp:E.code 72=some v72:=by kernel_rfl
theorem qSo:E.code 73=some v73:=by kernel_rfl
theorem qSn:E.code 74=some v74:=by kernel_rfl
theorem qSm:E.code 75=some v75:=by kernel_rfl
theorem qSl:E.code 76=some v76:=by kernel_rfl
theorem qSk:E.code 77=some v77:=by kernel_rfl
theorem qSj:E.code 78=some v78:=by kernel_rfl
theorem qSi:E.code 79=some v79:=by kernel_rfl
theorem qSh:E.code 80=some v80:=by kernel_rfl
theorem qSg:E.code 81=some v81:=by kernel_rfl
theorem qSf:E.code 82=some v82:=by kernel_rfl
theorem qSe:E.code 83=some v83:=by kernel_rfl
theorem qSd:E.code 84=some v84:=by kernel_rfl
theorem qSc:E.code 85=some v85:=by kernel_rfl
theorem qSb:E.code 90=some v90:=by kernel_rfl
theorem qSa:E.code 91=some v91:=by kernel_rfl
theorem qR9:E.code 92=some v92:=by kernel_rfl
theorem qR8:E.code 98=some v98:=by kernel_rfl
theorem qPJ:E.code 132=some qF8:=by kernel_rfl
theorem qPI:E.code 133=some qK4:=by kernel_rfl
theorem qPH:E.code 134=some qK3:=by kernel_rfl
theorem qPG:E.code 135=some qK2:=by kernel_rfl
theorem qPF:E.code 136=some qK1:=by kernel_rfl
theorem qPE:E.code 137=some qD4:=by kernel_rfl
theorem qPD:E.code 138=some qK0:=by kernel_rfl
theorem qPC:E.code 139=some qKZ:=by kernel_rfl
theorem qPB:E.code 140=some qKY:=by kernel_rfl
theorem qPA:E.code 141=some qKX:=by kernel_rfl
theorem qPz:E.code 142=some qD3:=by kernel_rfl
theorem qPy:E.code 143=some qIt:=by kernel_rfl
theorem qPx:E.code 144=some qIs:=by kernel_rfl
theorem qPw:E.code 145=some qKW:=by kernel_rfl
theorem qPv:E.code 146=some qIr:=by kernel_rfl
theorem qPu:E.code 147=some qKV:=by kernel_rfl
theorem qPt:E.code 148=some qKU:=by kernel_rfl
theorem qPs:E.code 149=some qKT:=by kernel_rfl
theorem qPr:E.code 150=some qKS:=by kernel_rfl
theorem qPq:E.code 151=some qKR:=by kernel_rfl
theorem qPp:E.code 152=some qC5:=by kernel_rfl
theorem qPo:E.code 153=some qKQ:=by kernel_rfl
theorem qPn:E.code 154=some qKP:=by kernel_rfl
theorem qPm:E.code 155=some qKO:=by kernel_rfl
theorem qPl:E.code 156=some qKN:=by kernel_rfl
theorem qPk:E.code 157=some qyS:=by kernel_rfl
theorem qPj:E.code 158=some qKM:=by kernel_rfl
theorem qPi:E.code 159=some qKL:=by kernel_rfl
theorem qPh:E.code 160=some qKK:=by kernel_rfl
theorem qPg:E.code 161=some qKJ:=by kernel_rfl
theorem qPf:E.code 162=some qKI:=by kernel_rfl
theorem qPe:E.code 163=some qKH:=by kernel_rfl
theorem qPd:E.code 164=some v164:=by kernel_rfl
theorem qPc:E.code 165=some qIp:=by kernel_rfl
theorem qPb:E.code 166=some qKG:=by kernel_rfl
theorem qPa:E.code 167=some qKF:=by kernel_rfl
theorem qO9:E.code 168=some qC4:=by kernel_rfl
theorem qO8:E.code 170=some qF7:=by kernel_rfl
theorem qO7:E.code 171=some qF6:=by kernel_rfl
theorem qO6:E.code 172=some qC3:=by kernel_rfl
theorem qO5:E.code 173=some qC2:=by kernel_rfl
theorem qO4:E.code 174=some qKE:=by kernel_rfl
theorem qO3:E.code 175=some qKD:=by kernel_rfl
end Go.Proofs.Ytfiakfiocdfpbaa.VS
