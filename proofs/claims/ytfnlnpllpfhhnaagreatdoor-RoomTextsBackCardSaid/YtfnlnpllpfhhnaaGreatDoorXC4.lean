/- Calls of the fixed example, each computed by the kernel; no condition. -/
import Derived.Test.YtfnlnpllpfhhnaaGreatDoorXC3
set_option linter.unusedSimpArgs false
set_option linter.unusedVariables false
namespace Go.Proofs.YtfnlnpllpfhhnaaGreatDoor.TT
open Go Go.AM
set_option maxRecDepth 1000000
theorem ajd:r9 ⟨308,yaK,yaj,yay,ycV⟩:=run' I5 okN
theorem aje:r9 ⟨308,yaL,yaj,yay,ycV⟩:=run' I5 okN
theorem Yj:r9 ⟨308,yaM,yaj,yay,ycV⟩:=run' I5 okN
theorem ajf:r9 ⟨308,yaN,yaj,yay,[C 1 [ycK,[J 99],[J 99],[J 110],[J 110],[J 110],ybX]]⟩:=run' I5 okN
theorem ajg:r9 ⟨214,yaF,yaj,ybZ,[C 2 [ycB,[yfC,yfN],[yfC,yfN],[yga,yga],[yga,yga],[yga,yga],yb9]]⟩:=run' dB (okC QL (okC QM (okC Yi (okC ajb (okC ajc (okC ajd (okC aje (okC Yj (okC ajf okN)))))))))
theorem ajh:r9 ⟨69,yaA,ya5,yb0,[C 3 [[ygE,yga,yga]]]⟩:=run' nE (okC Yg (okC Yh (okC QJ (okC QK (okC ajg okN)))))
theorem aji:r9 ⟨122,yaw,ybH,ycE,[]⟩:=run' dz (okC QJ (okC QK (okC QL (okC QM (okC Yj (okC Yi okN))))))
theorem ajj:r9 ⟨128,ybp,[yu,ya,yn,yaz,yfl,yfj,yaB,yfj,ybV,ycf,C 8 [[yfk,yfp,yfq,Z,yga,yfk,yfk,yfk]]],tt,[]⟩:=run' dK (okC ajh (okC Yg (okC Yh (okC aji okN))))
theorem ajk:r9 ⟨123,yg,ya6,yfk,[]⟩:=run' P7 okN
theorem Yk:r9 ⟨72,yA,ya6,yfk,[]⟩:=run' mX (okC ajk okN)
theorem QN:r9 ⟨123,yg,ybI,yfk,[]⟩:=run' P7 okN
theorem QO:r9 ⟨213,yg,ybI,yaC,[yS,yf]⟩:=run' bB (okC QN okN)
theorem QS:r9 ⟨369,yaF,yak,yb6,[]⟩:=run' aZ okN
theorem QT:r9 ⟨370,yaO,yak,ybY,[C 1 [ybX,ye2,ye2,[ygb],[ygb],[ygb],ycF]]⟩:=run' bf okN
theorem Yl:r9 ⟨112,yA,ya6,yfo,ycu⟩:=run' cZ (okC QO (okC QS (okC QT okN)))
theorem Ym:r9 ⟨308,yaH,yak,yay,[C 1 [ybX,ye2,ye2,[ygb],[ygb],[ygb],yfz]]⟩:=run' I5 okN
theorem ajl:r9 ⟨308,yaI,yak,yay,yef⟩:=run' I5 okN
theorem ajm:r9 ⟨308,yaJ,yak,yay,yef⟩:=run' I5 okN
theorem ajn:r9 ⟨308,yaK,yak,yay,ycX⟩:=run' I5 okN
theorem ajo:r9 ⟨308,yaL,yak,yay,ycX⟩:=run' I5 okN
theorem Yn:r9 ⟨308,yaM,yak,yay,ycX⟩:=run' I5 okN
theorem ajp:r9 ⟨308,yaN,yak,yay,[C 1 [ycK,[J 98],[J 98],[J 109],[J 109],[J 109],ybX]]⟩:=run' I5 okN
theorem ajq:r9 ⟨214,yaF,yak,ybZ,[C 2 [ycB,[yfC,ygF],[yfC,ygF],[ygb,ygb],[ygb,ygb],[ygb,ygb],yb9]]⟩:=run' dB (okC QS (okC QT (okC Ym (okC ajl (okC ajm (okC ajn (okC ajo (okC Yn (okC ajp okN)))))))))
theorem ajr:r9 ⟨69,yaA,ya6,yb0,[C 3 [[ygE,ygb,ygb]]]⟩:=run' nE (okC Yk (okC Yl (okC QN (okC QO (okC ajq okN)))))
theorem ajs:r9 ⟨122,yaw,ybI,ycE,[]⟩:=run' dz (okC QN (okC QO (okC QS (okC QT (okC Yn (okC Ym okN))))))
theorem ajt:r9 ⟨128,ybp,[yu,ya,yn,yaz,yfl,yfj,yaB,yfj,ybV,ycf,C 8 [[yfk,yfp,yfq,Z,ygb,yfk,yfk,yfk]]],tt,[]⟩:=run' dK (okC ajr (okC Yk (okC Yl (okC ajs okN))))
theorem aju:r9 ⟨123,yg,ya7,yfk,[]⟩:=run' P7 okN
theorem Yo:r9 ⟨72,yA,ya7,yfk,[]⟩:=run' mX (okC aju okN)
theorem QU:r9 ⟨123,yg,ybJ,yfk,[]⟩:=run' P7 okN
theorem QV:r9 ⟨213,yg,ybJ,yaC,[yT,yf]⟩:=run' bB (okC QU okN)
theorem QW:r9 ⟨369,yaF,yal,yb6,[]⟩:=run' aZ okN
theorem QX:r9 ⟨370,yaO,yal,ybY,[C 1 [ybX,yeZ,yeZ,[ygc],[ygc],[ygc],ycF]]⟩:=run' bf okN
theorem Yp:r9 ⟨112,yA,ya7,yfo,ycu⟩:=run' cZ (okC QV (okC QW (okC QX okN)))
theorem Yq:r9 ⟨308,yaH,yal,yay,[C 1 [ybX,yeZ,yeZ,[ygc],[ygc],[ygc],yfz]]⟩:=run' I5 okN
theorem ajv:r9 ⟨308,yaI,yal,yay,yeh⟩:=run' I5 okN
theorem ajw:r9 ⟨308,yaJ,yal,yay,yeh⟩:=run' I5 okN
theorem ajx:r9 ⟨308,yaK,yal,yay,ycZ⟩:=run' I5 okN
theorem ajy:r9 ⟨308,yaL,yal,yay,ycZ⟩:=run' I5 okN
theorem Yr:r9 ⟨308,yaM,yal,yay,ycZ⟩:=run' I5 okN
theorem ajz:r9 ⟨308,yaN,yal,yay,[C 1 [ycK,[J 97],[J 97],[J 108],[J 108],[J 108],ybX]]⟩:=run' I5 okN
theorem ajA:r9 ⟨214,yaF,yal,ybZ,[C 2 [ycB,[yfC,yfX],[yfC,yfX],[ygc,ygc],[ygc,ygc],[ygc,ygc],yb9]]⟩:=run' dB (okC QW (okC QX (okC Yq (okC ajv (okC ajw (okC ajx (okC ajy (okC Yr (okC ajz okN)))))))))
theorem ajB:r9 ⟨69,yaA,ya7,yb0,[C 3 [[ygE,ygc,ygc]]]⟩:=run' nE (okC Yo (okC Yp (okC QU (okC QV (okC ajA okN)))))
theorem ajC:r9 ⟨122,yaw,ybJ,ycE,[]⟩:=run' dz (okC QU (okC QV (okC QW (okC QX (okC Yr (okC Yq okN))))))
theorem ajD:r9 ⟨128,ybp,[yu,ya,yn,yaz,yfl,yfj,yaB,yfj,ybV,ycf,C 8 [[yfk,yfp,yfq,Z,ygc,yfk,yfk,yfk]]],tt,[]⟩:=run' dK (okC ajB (okC Yo (okC Yp (okC ajC okN))))
theorem ajE:r9 ⟨123,yg,ya8,yfk,[]⟩:=run' P7 okN
theorem Yt:r9 ⟨72,yA,ya8,yfk,[]⟩:=run' mX (okC ajE okN)
theorem QY:r9 ⟨123,yg,ybK,yfk,[]⟩:=run' P7 okN
theorem QZ:r9 ⟨213,yg,ybK,yaC,[yU,yf]⟩:=run' bB (okC QY okN)
theorem Ra:r9 ⟨369,yaF,yam,yb6,[]⟩:=run' aZ okN
theorem Rb:r9 ⟨370,yaO,yam,ybY,[C 1 [ybX,ye3,ye3,[ygd],[ygd],[ygd],ycF]]⟩:=run' bf okN
theorem Yu:r9 ⟨112,yA,ya8,yfo,ycu⟩:=run' cZ (okC QZ (okC Ra (okC Rb okN)))
theorem Yv:r9 ⟨308,yaH,yam,yay,[C 1 [ybX,ye3,ye3,[ygd],[ygd],[ygd],yfz]]⟩:=run' I5 okN
theorem ajF:r9 ⟨308,yaI,yam,yay,yej⟩:=run' I5 okN
theorem ajG:r9 ⟨308,yaJ,yam,yay,yej⟩:=run' I5 okN
theorem ajH:r9 ⟨308,yaK,yam,yay,yc1⟩:=run' I5 okN
theorem ajI:r9 ⟨308,yaL,yam,yay,yc1⟩:=run' I5 okN
theorem Yw:r9 ⟨308,yaM,yam,yay,yc1⟩:=run' I5 okN
theorem ajJ:r9 ⟨308,yaN,yam,yay,[C 1 [ycK,[J 96],[J 96],[J 107],[J 107],[J 107],ybX]]⟩:=run' I5 okN
theorem ajK:r9 ⟨214,yaF,yam,ybZ,[C 2 [ycB,[yfC,yfR],[yfC,yfR],[ygd,ygd],[ygd,ygd],[ygd,ygd],yb9]]⟩:=run' dB (okC Ra (okC Rb (okC Yv (okC ajF (okC ajG (okC ajH (okC ajI (okC Yw (okC ajJ okN)))))))))
theorem ajL:r9 ⟨69,yaA,ya8,yb0,[C 3 [[ygE,ygd,ygd]]]⟩:=run' nE (okC Yt (okC Yu (okC QY (okC QZ (okC ajK okN)))))
theorem ajM:r9 ⟨122,yaw,ybK,ycE,[]⟩:=run' dz (okC QY (okC QZ (okC Ra (okC Rb (okC Yw (okC Yv okN))))))
end Go.Proofs.YtfnlnpllpfhhnaaGreatDoor.TT
