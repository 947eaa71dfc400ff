/- Calls of the fixed example, each computed by the kernel; no condition. -/
import Derived.Test.YtfnlnpllpfhhnaaGreatDoorXC7
set_option linter.unusedSimpArgs false
set_option linter.unusedVariables false
namespace Go.Proofs.YtfnlnpllpfhhnaaGreatDoor.TT
open Go Go.AM
set_option maxRecDepth 1000000
theorem Si:r9 ⟨123,yg,ybt,yfk,[]⟩:=run' P7 okN
theorem Sj:r9 ⟨213,yg,ybt,yaC,[yC,yf]⟩:=run' bB (okC Si okN)
theorem Sk:r9 ⟨369,yaF,y4,yb6,[]⟩:=run' aZ okN
theorem Sl:r9 ⟨370,yaO,y4,ybY,[C 1 [ybX,yb3,yb3,ye3,ye3,ye3,ycF]]⟩:=run' bf okN
theorem Zn:r9 ⟨112,yA,yaR,yfo,ycu⟩:=run' cZ (okC Sj (okC Sk (okC Sl okN)))
theorem Zo:r9 ⟨308,yaH,y4,yay,[C 1 [ybX,yb3,yb3,ye3,ye3,ye3,yfz]]⟩:=run' I5 okN
theorem alu:r9 ⟨308,yaI,y4,yay,yeD⟩:=run' I5 okN
theorem alv:r9 ⟨308,yaJ,y4,yay,yeD⟩:=run' I5 okN
theorem alx:r9 ⟨308,yaK,y4,yay,ydn⟩:=run' I5 okN
theorem aly:r9 ⟨308,yaL,y4,yay,ydn⟩:=run' I5 okN
theorem Zp:r9 ⟨308,yaM,y4,yay,ydn⟩:=run' I5 okN
theorem alz:r9 ⟨308,yaN,y4,yay,[C 1 [ycK,ydJ,ydJ,[J 96],[J 96],[J 96],ybX]]⟩:=run' I5 okN
theorem alA:r9 ⟨214,yaF,y4,ybZ,[C 2 [ycB,[yfL,yfA],[yfL,yfA],[yfR,yfR],[yfR,yfR],[yfR,yfR],yb9]]⟩:=run' dB (okC Sk (okC Sl (okC Zo (okC alu (okC alv (okC alx (okC aly (okC Zp (okC alz okN)))))))))
theorem alB:r9 ⟨69,yaA,yaR,yb0,[C 3 [[ygE,yfR,yfR]]]⟩:=run' nE (okC Zm (okC Zn (okC Si (okC Sj (okC alA okN)))))
theorem alC:r9 ⟨122,yaw,ybt,ycL,[]⟩:=run' dz (okC Si (okC Sj (okC Sk (okC Sl (okC Zp (okC Zo okN))))))
theorem alD:r9 ⟨128,ybp,[yu,ya,yn,yaz,yfl,yfj,yaB,yfj,ybV,ycf,C 8 [[yfk,yfp,yfq,Z,yfR,yfk,yfk,yfk]]],tt,[]⟩:=run' dK (okC alB (okC Zm (okC Zn (okC alC okN))))
theorem alE:r9 ⟨123,yg,yaS,yfk,[]⟩:=run' P7 okN
theorem Zq:r9 ⟨72,yA,yaS,yfk,[]⟩:=run' mX (okC alE okN)
theorem Sn:r9 ⟨123,yg,ybu,yfk,[]⟩:=run' P7 okN
theorem Sq:r9 ⟨213,yg,ybu,yaC,[yD,yf]⟩:=run' bB (okC Sn okN)
theorem Sr:r9 ⟨369,yaF,y5,yb6,[]⟩:=run' aZ okN
theorem Sv:r9 ⟨370,yaO,y5,ybY,[C 1 [ybX,yb3,yb3,ye0,ye0,ye0,ycF]]⟩:=run' bf okN
theorem Zr:r9 ⟨112,yA,yaS,yfo,ycu⟩:=run' cZ (okC Sq (okC Sr (okC Sv okN)))
theorem Zt:r9 ⟨308,yaH,y5,yay,[C 1 [ybX,yb3,yb3,ye0,ye0,ye0,yfz]]⟩:=run' I5 okN
theorem alF:r9 ⟨308,yaI,y5,yay,yeF⟩:=run' I5 okN
theorem alG:r9 ⟨308,yaJ,y5,yay,yeF⟩:=run' I5 okN
theorem alH:r9 ⟨308,yaK,y5,yay,ydp⟩:=run' I5 okN
theorem alI:r9 ⟨308,yaL,y5,yay,ydp⟩:=run' I5 okN
theorem Zu:r9 ⟨308,yaM,y5,yay,ydp⟩:=run' I5 okN
theorem alJ:r9 ⟨308,yaN,y5,yay,[C 1 [ycK,ydJ,ydJ,[J 95],[J 95],[J 95],ybX]]⟩:=run' I5 okN
theorem alK:r9 ⟨214,yaF,y5,ybZ,[C 2 [ycB,[yfM,yfA],[yfM,yfA],[yfO,yfO],[yfO,yfO],[yfO,yfO],yb9]]⟩:=run' dB (okC Sr (okC Sv (okC Zt (okC alF (okC alG (okC alH (okC alI (okC Zu (okC alJ okN)))))))))
theorem alL:r9 ⟨69,yaA,yaS,yb0,[C 3 [[ygE,yfO,yfO]]]⟩:=run' nE (okC Zq (okC Zr (okC Sn (okC Sq (okC alK okN)))))
theorem alM:r9 ⟨122,yaw,ybu,ycL,[]⟩:=run' dz (okC Sn (okC Sq (okC Sr (okC Sv (okC Zu (okC Zt okN))))))
theorem alN:r9 ⟨128,ybp,[yu,ya,yn,yaz,yfl,yfj,yaB,yfj,ybV,ycf,C 8 [[yfk,yfp,yfq,Z,yfO,yfk,yfk,yfk]]],tt,[]⟩:=run' dK (okC alL (okC Zq (okC Zr (okC alM okN))))
theorem alO:r9 ⟨123,yg,yaT,yfk,[]⟩:=run' P7 okN
theorem Zv:r9 ⟨72,yA,yaT,yfk,[]⟩:=run' mX (okC alO okN)
theorem Sw:r9 ⟨123,yg,ybv,yfk,[]⟩:=run' P7 okN
theorem Sy:r9 ⟨213,yg,ybv,yaC,[yE,yf]⟩:=run' bB (okC Sw okN)
theorem Sz:r9 ⟨369,yaF,y6,yb6,[]⟩:=run' aZ okN
theorem SA:r9 ⟨370,yaO,y6,ybY,[C 1 [ybX,yb3,yb3,ye7,ye7,ye7,ycF]]⟩:=run' bf okN
theorem Zw:r9 ⟨112,yA,yaT,yfo,ycu⟩:=run' cZ (okC Sy (okC Sz (okC SA okN)))
theorem Zx:r9 ⟨308,yaH,y6,yay,[C 1 [ybX,yb3,yb3,ye7,ye7,ye7,yfz]]⟩:=run' I5 okN
theorem alP:r9 ⟨308,yaI,y6,yay,yeH⟩:=run' I5 okN
theorem alQ:r9 ⟨308,yaJ,y6,yay,yeH⟩:=run' I5 okN
theorem alR:r9 ⟨308,yaK,y6,yay,ydr⟩:=run' I5 okN
theorem alS:r9 ⟨308,yaL,y6,yay,ydr⟩:=run' I5 okN
theorem Zy:r9 ⟨308,yaM,y6,yay,ydr⟩:=run' I5 okN
theorem alT:r9 ⟨308,yaN,y6,yay,[C 1 [ycK,ydJ,ydJ,[J 94],[J 94],[J 94],ybX]]⟩:=run' I5 okN
theorem alU:r9 ⟨214,yaF,y6,ybZ,[C 2 [ycB,[yfG,yfA],[yfG,yfA],[yfY,yfY],[yfY,yfY],[yfY,yfY],yb9]]⟩:=run' dB (okC Sz (okC SA (okC Zx (okC alP (okC alQ (okC alR (okC alS (okC Zy (okC alT okN)))))))))
theorem alV:r9 ⟨69,yaA,yaT,yb0,[C 3 [[ygE,yfY,yfY]]]⟩:=run' nE (okC Zv (okC Zw (okC Sw (okC Sy (okC alU okN)))))
theorem alW:r9 ⟨122,yaw,ybv,ycL,[]⟩:=run' dz (okC Sw (okC Sy (okC Sz (okC SA (okC Zy (okC Zx okN))))))
theorem alX:r9 ⟨128,ybp,[yu,ya,yn,yaz,yfl,yfj,yaB,yfj,ybV,ycf,C 8 [[yfk,yfp,yfq,Z,yfY,yfk,yfk,yfk]]],tt,[]⟩:=run' dK (okC alV (okC Zv (okC Zw (okC alW okN))))
theorem alY:r9 ⟨123,yg,yaU,yfk,[]⟩:=run' P7 okN
theorem Zz:r9 ⟨72,yA,yaU,yfk,[]⟩:=run' mX (okC alY okN)
theorem SE:r9 ⟨123,yg,ybw,yfk,[]⟩:=run' P7 okN
theorem SF:r9 ⟨213,yg,ybw,yaC,[yF,yf]⟩:=run' bB (okC SE okN)
theorem SG:r9 ⟨369,yaF,y7,yb6,[]⟩:=run' aZ okN
theorem SH:r9 ⟨370,yaO,y7,ybY,[C 1 [ybX,yb3,yb3,yb3,yb3,yb3,ycF]]⟩:=run' bf okN
theorem ZA:r9 ⟨112,yA,yaU,yfo,ycu⟩:=run' cZ (okC SF (okC SG (okC SH okN)))
theorem ZB:r9 ⟨308,yaH,y7,yay,[C 1 [ybX,yb3,yb3,yb3,yb3,yb3,yfz]]⟩:=run' I5 okN
theorem alZ:r9 ⟨308,yaI,y7,yay,yeJ⟩:=run' I5 okN
end Go.Proofs.YtfnlnpllpfhhnaaGreatDoor.TT
