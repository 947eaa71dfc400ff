/- Calls of the fixed example, each computed by the kernel; no condition. -/
import Derived.Test.YtfnlnpllpfhhnaaGreatDoorXC6
set_option linter.unusedSimpArgs false
set_option linter.unusedVariables false
namespace Go.Proofs.YtfnlnpllpfhhnaaGreatDoor.TT
open Go Go.AM
set_option maxRecDepth 1000000
theorem akS:r9 ⟨308,yaN,yat,yay,[C 1 [ycK,ydJ,ydJ,[J 100],[J 100],[J 100],ybX]]⟩:=run' I5 okN
theorem akT:r9 ⟨214,yaF,yat,ybZ,[C 2 [ycB,ycx,ycx,[yfG,yfG],[yfG,yfG],[yfG,yfG],yb9]]⟩:=run' dB (okC RL (okC RN (okC YX (okC akO (okC akP (okC akQ (okC akR (okC YZ (okC akS okN)))))))))
theorem akU:r9 ⟨69,yaA,ybf,yb0,[C 3 [[ygE,yfG,yfG]]]⟩:=run' nE (okC YV (okC YW (okC RI (okC RJ (okC akT okN)))))
theorem akV:r9 ⟨122,yaw,ybR,ycE,[]⟩:=run' dz (okC RI (okC RJ (okC RL (okC RN (okC YZ (okC YX okN))))))
theorem akW:r9 ⟨128,ybp,[yu,ya,yn,yaz,yfl,yfj,yaB,yfj,ybV,ycf,C 8 [[yfk,yfp,yfq,Z,yfG,yfk,yfk,yfk]]],tt,[]⟩:=run' dK (okC akU (okC YV (okC YW (okC akV okN))))
theorem akX:r9 ⟨123,yg,ybg,yfk,[]⟩:=run' P7 okN
theorem Za:r9 ⟨72,yA,ybg,yfk,[]⟩:=run' mX (okC akX okN)
theorem RO:r9 ⟨123,yg,ybS,yfk,[]⟩:=run' P7 okN
theorem RP:r9 ⟨213,yg,ybS,yaC,[y2,yf]⟩:=run' bB (okC RO okN)
theorem RQ:r9 ⟨369,yaF,yau,yb6,[]⟩:=run' aZ okN
theorem RU:r9 ⟨370,yaO,yau,ybY,[C 1 [ybX,yb3,yb3,[yfN],[yfN],[yfN],ycF]]⟩:=run' bf okN
theorem Zb:r9 ⟨112,yA,ybg,yfo,ycu⟩:=run' cZ (okC RP (okC RQ (okC RU okN)))
theorem Zc:r9 ⟨308,yaH,yau,yay,[C 1 [ybX,yb3,yb3,[yfN],[yfN],[yfN],yfz]]⟩:=run' I5 okN
theorem akY:r9 ⟨308,yaI,yau,yay,yez⟩:=run' I5 okN
theorem akZ:r9 ⟨308,yaJ,yau,yay,yez⟩:=run' I5 okN
theorem al0:r9 ⟨308,yaK,yau,yay,ydj⟩:=run' I5 okN
theorem al1:r9 ⟨308,yaL,yau,yay,ydj⟩:=run' I5 okN
theorem Zd:r9 ⟨308,yaM,yau,yay,ydj⟩:=run' I5 okN
theorem al2:r9 ⟨308,yaN,yau,yay,[C 1 [ycK,ydJ,ydJ,[J 99],[J 99],[J 99],ybX]]⟩:=run' I5 okN
theorem al3:r9 ⟨214,yaF,yau,ybZ,[C 2 [ycB,ycx,ycx,[yfN,yfN],[yfN,yfN],[yfN,yfN],yb9]]⟩:=run' dB (okC RQ (okC RU (okC Zc (okC akY (okC akZ (okC al0 (okC al1 (okC Zd (okC al2 okN)))))))))
theorem al4:r9 ⟨69,yaA,ybg,yb0,[C 3 [[ygE,yfN,yfN]]]⟩:=run' nE (okC Za (okC Zb (okC RO (okC RP (okC al3 okN)))))
theorem al5:r9 ⟨122,yaw,ybS,ycE,[]⟩:=run' dz (okC RO (okC RP (okC RQ (okC RU (okC Zd (okC Zc okN))))))
theorem al6:r9 ⟨128,ybp,[yu,ya,yn,yaz,yfl,yfj,yaB,yfj,ybV,ycf,C 8 [[yfk,yfp,yfq,Z,yfN,yfk,yfk,yfk]]],tt,[]⟩:=run' dK (okC al4 (okC Za (okC Zb (okC al5 okN))))
theorem al7:r9 ⟨123,yg,yaP,yfk,[]⟩:=run' P7 okN
theorem Ze:r9 ⟨72,yA,yaP,yfk,[]⟩:=run' mX (okC al7 okN)
theorem RV:r9 ⟨123,yg,ybr,yfk,[]⟩:=run' P7 okN
theorem RX:r9 ⟨213,yg,ybr,yaC,[yM,yf]⟩:=run' bB (okC RV okN)
theorem RY:r9 ⟨369,yaF,yae,yb6,[]⟩:=run' aZ okN
theorem RZ:r9 ⟨370,yaO,yae,ybY,[C 1 [ybX,yb3,yb3,ye2,ye2,ye2,ycF]]⟩:=run' bf okN
theorem Zf:r9 ⟨112,yA,yaP,yfo,ycu⟩:=run' cZ (okC RX (okC RY (okC RZ okN)))
theorem Zg:r9 ⟨308,yaH,yae,yay,[C 1 [ybX,yb3,yb3,ye2,ye2,ye2,yfz]]⟩:=run' I5 okN
theorem al8:r9 ⟨308,yaI,yae,yay,yeB⟩:=run' I5 okN
theorem al9:r9 ⟨308,yaJ,yae,yay,yeB⟩:=run' I5 okN
theorem ala:r9 ⟨308,yaK,yae,yay,ydl⟩:=run' I5 okN
theorem alb:r9 ⟨308,yaL,yae,yay,ydl⟩:=run' I5 okN
theorem Zh:r9 ⟨308,yaM,yae,yay,ydl⟩:=run' I5 okN
theorem alc:r9 ⟨308,yaN,yae,yay,[C 1 [ycK,ydJ,ydJ,[J 98],[J 98],[J 98],ybX]]⟩:=run' I5 okN
theorem ald:r9 ⟨214,yaF,yae,ybZ,[C 2 [ycB,ycx,ycx,[ygF,ygF],[ygF,ygF],[ygF,ygF],yb9]]⟩:=run' dB (okC RY (okC RZ (okC Zg (okC al8 (okC al9 (okC ala (okC alb (okC Zh (okC alc okN)))))))))
theorem ale:r9 ⟨69,yaA,yaP,yb0,[C 3 [[ygE,ygF,ygF]]]⟩:=run' nE (okC Ze (okC Zf (okC RV (okC RX (okC ald okN)))))
theorem alf:r9 ⟨122,yaw,ybr,ycL,[]⟩:=run' dz (okC RV (okC RX (okC RY (okC RZ (okC Zh (okC Zg okN))))))
theorem alg:r9 ⟨128,ybp,[yu,ya,yn,yaz,yfl,yfj,yaB,yfj,ybV,ycf,C 8 [[yfk,yfp,yfq,Z,ygF,yfk,yfk,yfk]]],tt,[]⟩:=run' dK (okC ale (okC Ze (okC Zf (okC alf okN))))
theorem alh:r9 ⟨123,yg,yaQ,yfk,[]⟩:=run' P7 okN
theorem Zi:r9 ⟨72,yA,yaQ,yfk,[]⟩:=run' mX (okC alh okN)
theorem Sb:r9 ⟨123,yg,ybs,yfk,[]⟩:=run' P7 okN
theorem Sc:r9 ⟨213,yg,ybs,yaC,[yB,yf]⟩:=run' bB (okC Sb okN)
theorem Sd:r9 ⟨369,yaF,y3,yb6,[]⟩:=run' aZ okN
theorem Sg:r9 ⟨370,yaO,y3,ybY,[C 1 [ybX,yb3,yb3,yeZ,yeZ,yeZ,ycF]]⟩:=run' bf okN
theorem Zj:r9 ⟨112,yA,yaQ,yfo,ycu⟩:=run' cZ (okC Sc (okC Sd (okC Sg okN)))
theorem Zk:r9 ⟨308,yaH,y3,yay,[C 1 [ybX,yb3,yb3,yeZ,yeZ,yeZ,yfz]]⟩:=run' I5 okN
theorem ali:r9 ⟨308,yaI,y3,yay,ycA⟩:=run' I5 okN
theorem alj:r9 ⟨308,yaJ,y3,yay,ycA⟩:=run' I5 okN
theorem alk:r9 ⟨308,yaK,y3,yay,ydb⟩:=run' I5 okN
theorem alm:r9 ⟨308,yaL,y3,yay,ydb⟩:=run' I5 okN
theorem Zl:r9 ⟨308,yaM,y3,yay,ydb⟩:=run' I5 okN
theorem aln:r9 ⟨308,yaN,y3,yay,[C 1 [ycK,ydJ,ydJ,[J 97],[J 97],[J 97],ybX]]⟩:=run' I5 okN
theorem alo:r9 ⟨214,yaF,y3,ybZ,[C 2 [ycB,ycx,ycx,[yfX,yfX],[yfX,yfX],[yfX,yfX],yb9]]⟩:=run' dB (okC Sd (okC Sg (okC Zk (okC ali (okC alj (okC alk (okC alm (okC Zl (okC aln okN)))))))))
theorem alp:r9 ⟨69,yaA,yaQ,yb0,[C 3 [[ygE,yfX,yfX]]]⟩:=run' nE (okC Zi (okC Zj (okC Sb (okC Sc (okC alo okN)))))
theorem alq:r9 ⟨122,yaw,ybs,ycL,[]⟩:=run' dz (okC Sb (okC Sc (okC Sd (okC Sg (okC Zl (okC Zk okN))))))
theorem alr:r9 ⟨128,ybp,[yu,ya,yn,yaz,yfl,yfj,yaB,yfj,ybV,ycf,C 8 [[yfk,yfp,yfq,Z,yfX,yfk,yfk,yfk]]],tt,[]⟩:=run' dK (okC alp (okC Zi (okC Zj (okC alq okN))))
theorem als:r9 ⟨123,yg,yaR,yfk,[]⟩:=run' P7 okN
theorem Zm:r9 ⟨72,yA,yaR,yfk,[]⟩:=run' mX (okC als okN)
end Go.Proofs.YtfnlnpllpfhhnaaGreatDoor.TT
