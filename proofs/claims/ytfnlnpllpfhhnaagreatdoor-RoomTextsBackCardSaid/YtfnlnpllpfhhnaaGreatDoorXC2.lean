/- Calls of the fixed example, each computed by the kernel; no condition. -/
import Derived.Test.YtfnlnpllpfhhnaaGreatDoorXC1
set_option linter.unusedSimpArgs false
set_option linter.unusedVariables false
namespace Go.Proofs.YtfnlnpllpfhhnaaGreatDoor.TT
open Go Go.AM
set_option maxRecDepth 1000000
theorem ahW:r9 ⟨72,ydU,ybh,yfk,[]⟩:=run' mX (okC ap3 okN)
theorem ap4:r9 ⟨68,yfd,yb,V [ydT,yfk],yb1⟩:=run' VP (okC abF (okC ar7 (okC ahW okN)))
theorem ap5:r9 ⟨213,ycD,yb4,ye5,[ybm,ycp]⟩:=run' bB (okC ap3 okN)
theorem ap6:r9 ⟨369,[yd3],yb7,yb6,[]⟩:=run' aZ okN
theorem ap7:r9 ⟨370,yfg,yb7,V [Z,ff],[]⟩:=run' bf okN
theorem ahX:r9 ⟨123,ycD,yb5,yfk,[]⟩:=run' P7 okN
theorem XJ:r9 ⟨213,ycD,yb5,ye5,[ybn,ycp]⟩:=run' bB (okC ahX okN)
theorem XK:r9 ⟨369,[yd3],yb8,yb6,[]⟩:=run' aZ okN
theorem XL:r9 ⟨370,yfg,yb8,V [Z,ff],[]⟩:=run' bf okN
theorem ahY:r9 ⟨112,ydU,ybh,U 25 0 0 1,[C 1 [[Z],[Z]]]⟩:=run' cZ (okC ap5 (okC ap6 (okC ap7 (okC XJ (okC XK (okC XL okN))))))
theorem ahZ:r9 ⟨69,[ycN,ygE,yfp],ybh,V [Z,yfs],[]⟩:=run' nE (okC ahW (okC ahY okN))
theorem ai0:r9 ⟨30,[ycy,I 12,ygE,yfp],yb,V [Z,yfs],[]⟩:=run' VO (okC ap4 (okC ahZ okN))
theorem ai1:r9 ⟨110,[ycy,I 20],yb,ycw,yaE⟩:=run' Il okN
theorem ai2:r9 ⟨68,[ycy,I 20],yb,ydK,yaE⟩:=run' VP (okC abF (okC ai1 (okC abI okN)))
theorem ai3:r9 ⟨30,[ycy,I 20,ygE,yfp],yb,yfc,yeY⟩:=run' VO (okC ai2 (okC ahV okN))
theorem ai4:r9 ⟨123,yg,ycg,yfk,[]⟩:=run' P7 okN
theorem ai5:r9 ⟨213,yg,ycg,yaC,[ybW,yca]⟩:=run' bB (okC ai4 okN)
theorem ai6:r9 ⟨369,yaF,ycn,yb6,[]⟩:=run' aZ okN
theorem ai7:r9 ⟨370,yaO,ycn,ybY,[C 1 [ybX,yb3,yb3,ygr,ygr,[ygG],[ygG]]]⟩:=run' bf okN
theorem ai8:r9 ⟨123,yg,yci,yfk,[]⟩:=run' P7 okN
theorem ai9:r9 ⟨213,yg,yci,yaC,[ybT,yca]⟩:=run' bB (okC ai8 okN)
theorem aia:r9 ⟨369,yaF,ycl,yb6,[]⟩:=run' aZ okN
theorem aib:r9 ⟨370,yaO,ycl,V [Z,ff],[]⟩:=run' bf okN
theorem aic:r9 ⟨123,yg,ycj,yfk,[]⟩:=run' P7 okN
theorem aie:r9 ⟨213,yg,ycj,yaC,[ybU,yca]⟩:=run' bB (okC aic okN)
theorem aif:r9 ⟨369,yaF,ycm,yb6,[]⟩:=run' aZ okN
theorem aii:r9 ⟨370,yaO,ycm,V [Z,ff],[]⟩:=run' bf okN
theorem aij:r9 ⟨31,yfd,yb,V [U 22 0 2 2,yfk],[C 2 [ygC,[ygE,ygH]]]⟩:=run' anQ (okC ap4 (okC ahW (okC ap5 (okC ap6 (okC ap7 (okC XJ (okC XK (okC XL (okC aoX (okC aoY (okC aoZ (okC abJ (okC abK (okC abL (okC ai5 (okC ai6 (okC ai7 (okC ai9 (okC aia (okC aib (okC aie (okC aif (okC aii okN)))))))))))))))))))))))
theorem XM:r9 ⟨122,[ydH,A [ygE,yfp],yf0],yaD,V yfK,[]⟩:=run' dz (okC abG (okC ahS (okC aoQ (okC aoR (okC aoS (okC aoU (okC aoT okN)))))))
theorem aik:r9 ⟨32,[ycy,yfs,ygE,yfp,yf0],yb,V yfK,[]⟩:=run' is32 (okC aoP (okC ahT (okC abH (okC ahR (okC XM okN)))))
theorem ail:r9 ⟨122,[yd,A [ygH,yfp],yf0],ybo,ycL,[]⟩:=run' dz (okC ahU (okC abJ (okC abK (okC abL (okC ap2 (okC ap1 okN))))))
theorem ain:r9 ⟨32,[ycy,I 9,ygE,yfp,yf0],yb,ycL,[]⟩:=run' is32 (okC aoW (okC ahV (okC abI (okC ap0 (okC ail okN)))))
theorem aio:r9 ⟨123,yg,yck,yfk,[]⟩:=run' P7 okN
theorem aip:r9 ⟨72,yA,yck,yfk,[]⟩:=run' mX (okC aio okN)
theorem aiq:r9 ⟨123,yg,[ya,yn,C 8 [yc,[ygD,yfp,yfm,Z,yfk,yfk,yfk,yfk]],yfl,yfj,yfj],yfk,[]⟩:=run' P7 okN
theorem air:r9 ⟨369,ye8,ybk,yb6,[]⟩:=run' aZ okN
theorem ais:r9 ⟨370,yfe,ybk,ybY,ycH⟩:=run' bf okN
theorem ait:r9 ⟨308,yfa,ybk,yay,ycJ⟩:=run' I5 okN
theorem aiu:r9 ⟨308,yfb,ybk,yay,ycc⟩:=run' I5 okN
theorem aiv:r9 ⟨128,[j6.ptr 15 0,Z],[yu,ya,yn,yaz,yfl,yfj,yaB,yfj,ybV,ycf],ff,[]⟩:=run' dK (okC ahT (okC abH (okC ahR (okC XM okN))))
theorem aiw:r9 ⟨123,yg,ya1,yfk,[]⟩:=run' P7 okN
theorem XO:r9 ⟨72,yA,ya1,yfk,[]⟩:=run' mX (okC aiw okN)
theorem Qt:r9 ⟨123,yg,ybD,yfk,[]⟩:=run' P7 okN
theorem Qu:r9 ⟨213,yg,ybD,yaC,[yN,yf]⟩:=run' bB (okC Qt okN)
theorem Qv:r9 ⟨369,yaF,yaf,yb6,[]⟩:=run' aZ okN
theorem Qw:r9 ⟨370,yaO,yaf,ybY,[C 1 [ybX,[yfC],[yfC],[yfQ],[yfQ],[yfQ],ycF]]⟩:=run' bf okN
theorem XP:r9 ⟨112,yA,ya1,yfo,ycu⟩:=run' cZ (okC Qu (okC Qv (okC Qw okN)))
theorem XQ:r9 ⟨308,yaH,yaf,yay,[C 1 [ybX,[yfC],[yfC],[yfQ],[yfQ],[yfQ],yfz]]⟩:=run' I5 okN
theorem aix:r9 ⟨308,yaI,yaf,yay,yd2⟩:=run' I5 okN
theorem aiy:r9 ⟨308,yaJ,yaf,yay,yd2⟩:=run' I5 okN
theorem aiz:r9 ⟨308,yaK,yaf,yay,ycc⟩:=run' I5 okN
theorem aiA:r9 ⟨308,yaL,yaf,yay,ycc⟩:=run' I5 okN
theorem XR:r9 ⟨308,yaM,yaf,yay,ycc⟩:=run' I5 okN
theorem aiB:r9 ⟨308,yaN,yaf,yay,[C 1 [ycK,[J 103],[J 103],[J 114],[J 114],[J 114],ybX]]⟩:=run' I5 okN
theorem aiC:r9 ⟨214,yaF,yaf,ybZ,[C 2 [ycB,ye6,ye6,[yfQ,yfQ],[yfQ,yfQ],[yfQ,yfQ],yb9]]⟩:=run' dB (okC Qv (okC Qw (okC XQ (okC aix (okC aiy (okC aiz (okC aiA (okC XR (okC aiB okN)))))))))
theorem aiD:r9 ⟨69,yaA,ya1,yb0,[C 3 [[ygE,yfQ,yfQ]]]⟩:=run' nE (okC XO (okC XP (okC Qt (okC Qu (okC aiC okN)))))
theorem aiE:r9 ⟨122,yaw,ybD,ycE,[]⟩:=run' dz (okC Qt (okC Qu (okC Qv (okC Qw (okC XR (okC XQ okN))))))
theorem aiF:r9 ⟨128,ybp,[yu,ya,yn,yaz,yfl,yfj,yaB,yfj,ybV,ycf,C 8 [[yfk,yfp,yfq,Z,yfQ,yfk,yfk,yfk]]],tt,[]⟩:=run' dK (okC aiD (okC XO (okC XP (okC aiE okN))))
theorem aiG:r9 ⟨123,yg,ya2,yfk,[]⟩:=run' P7 okN
theorem XT:r9 ⟨72,yA,ya2,yfk,[]⟩:=run' mX (okC aiG okN)
theorem Qx:r9 ⟨123,yg,ybE,yfk,[]⟩:=run' P7 okN
end Go.Proofs.YtfnlnpllpfhhnaaGreatDoor.TT
