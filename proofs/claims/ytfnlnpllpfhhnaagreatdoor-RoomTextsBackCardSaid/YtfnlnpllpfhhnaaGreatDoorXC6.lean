/- Calls of the fixed example, each computed by the kernel; no condition. -/
import Derived.Test.YtfnlnpllpfhhnaaGreatDoorXC5
set_option linter.unusedSimpArgs false
set_option linter.unusedVariables false
namespace Go.Proofs.YtfnlnpllpfhhnaaGreatDoor.TT
open Go Go.AM
set_option maxRecDepth 1000000
theorem YK:r9 ⟨112,yA,ybc,yfo,ycu⟩:=run' cZ (okC Ru (okC Rv (okC Rw okN)))
theorem YL:r9 ⟨308,yaH,yaq,yay,[C 1 [ybX,yb3,yb3,[yfC],[yfC],[yfC],yfz]]⟩:=run' I5 okN
theorem akk:r9 ⟨308,yaI,yaq,yay,yer⟩:=run' I5 okN
theorem akl:r9 ⟨308,yaJ,yaq,yay,yer⟩:=run' I5 okN
theorem akm:r9 ⟨308,yaK,yaq,yay,yc9⟩:=run' I5 okN
theorem akn:r9 ⟨308,yaL,yaq,yay,yc9⟩:=run' I5 okN
theorem YM:r9 ⟨308,yaM,yaq,yay,yc9⟩:=run' I5 okN
theorem ako:r9 ⟨308,yaN,yaq,yay,[C 1 [ycK,ydJ,ydJ,[J 103],[J 103],[J 103],ybX]]⟩:=run' I5 okN
theorem akp:r9 ⟨214,yaF,yaq,ybZ,[C 2 [ycB,ycx,ycx,ye6,ye6,ye6,yb9]]⟩:=run' dB (okC Rv (okC Rw (okC YL (okC akk (okC akl (okC akm (okC akn (okC YM (okC ako okN)))))))))
theorem akq:r9 ⟨69,yaA,ybc,yb0,[C 3 [[ygE,yfC,yfC]]]⟩:=run' nE (okC YJ (okC YK (okC Rt (okC Ru (okC akp okN)))))
theorem akr:r9 ⟨122,yaw,ybO,ycE,[]⟩:=run' dz (okC Rt (okC Ru (okC Rv (okC Rw (okC YM (okC YL okN))))))
theorem aks:r9 ⟨128,ybp,[yu,ya,yn,yaz,yfl,yfj,yaB,yfj,ybV,ycf,C 8 [[yfk,yfp,yfq,Z,yfC,yfk,yfk,yfk]]],tt,[]⟩:=run' dK (okC akq (okC YJ (okC YK (okC akr okN))))
theorem akt:r9 ⟨123,yg,ybd,yfk,[]⟩:=run' P7 okN
theorem YN:r9 ⟨72,yA,ybd,yfk,[]⟩:=run' mX (okC akt okN)
theorem Rx:r9 ⟨123,yg,ybP,yfk,[]⟩:=run' P7 okN
theorem Ry:r9 ⟨213,yg,ybP,yaC,[yZ,yf]⟩:=run' bB (okC Rx okN)
theorem Rz:r9 ⟨369,yaF,yar,yb6,[]⟩:=run' aZ okN
theorem RA:r9 ⟨370,yaO,yar,ybY,[C 1 [ybX,yb3,yb3,[yfL],[yfL],[yfL],ycF]]⟩:=run' bf okN
theorem YO:r9 ⟨112,yA,ybd,yfo,ycu⟩:=run' cZ (okC Ry (okC Rz (okC RA okN)))
theorem YP:r9 ⟨308,yaH,yar,yay,[C 1 [ybX,yb3,yb3,[yfL],[yfL],[yfL],yfz]]⟩:=run' I5 okN
theorem aku:r9 ⟨308,yaI,yar,yay,yet⟩:=run' I5 okN
theorem akv:r9 ⟨308,yaJ,yar,yay,yet⟩:=run' I5 okN
theorem akw:r9 ⟨308,yaK,yar,yay,ydd⟩:=run' I5 okN
theorem akx:r9 ⟨308,yaL,yar,yay,ydd⟩:=run' I5 okN
theorem YQ:r9 ⟨308,yaM,yar,yay,ydd⟩:=run' I5 okN
theorem aky:r9 ⟨308,yaN,yar,yay,[C 1 [ycK,ydJ,ydJ,[J 102],[J 102],[J 102],ybX]]⟩:=run' I5 okN
theorem akz:r9 ⟨214,yaF,yar,ybZ,[C 2 [ycB,ycx,ycx,[yfL,yfL],[yfL,yfL],[yfL,yfL],yb9]]⟩:=run' dB (okC Rz (okC RA (okC YP (okC aku (okC akv (okC akw (okC akx (okC YQ (okC aky okN)))))))))
theorem akA:r9 ⟨69,yaA,ybd,yb0,[C 3 [[ygE,yfL,yfL]]]⟩:=run' nE (okC YN (okC YO (okC Rx (okC Ry (okC akz okN)))))
theorem akB:r9 ⟨122,yaw,ybP,ycE,[]⟩:=run' dz (okC Rx (okC Ry (okC Rz (okC RA (okC YQ (okC YP okN))))))
theorem akC:r9 ⟨128,ybp,[yu,ya,yn,yaz,yfl,yfj,yaB,yfj,ybV,ycf,C 8 [[yfk,yfp,yfq,Z,yfL,yfk,yfk,yfk]]],tt,[]⟩:=run' dK (okC akA (okC YN (okC YO (okC akB okN))))
theorem akD:r9 ⟨123,yg,ybe,yfk,[]⟩:=run' P7 okN
theorem YR:r9 ⟨72,yA,ybe,yfk,[]⟩:=run' mX (okC akD okN)
theorem RB:r9 ⟨123,yg,ybQ,yfk,[]⟩:=run' P7 okN
theorem RD:r9 ⟨213,yg,ybQ,yaC,[y0,yf]⟩:=run' bB (okC RB okN)
theorem RG:r9 ⟨369,yaF,yas,yb6,[]⟩:=run' aZ okN
theorem RH:r9 ⟨370,yaO,yas,ybY,[C 1 [ybX,yb3,yb3,[yfM],[yfM],[yfM],ycF]]⟩:=run' bf okN
theorem YS:r9 ⟨112,yA,ybe,yfo,ycu⟩:=run' cZ (okC RD (okC RG (okC RH okN)))
theorem YT:r9 ⟨308,yaH,yas,yay,[C 1 [ybX,yb3,yb3,[yfM],[yfM],[yfM],yfz]]⟩:=run' I5 okN
theorem akE:r9 ⟨308,yaI,yas,yay,yev⟩:=run' I5 okN
theorem akF:r9 ⟨308,yaJ,yas,yay,yev⟩:=run' I5 okN
theorem akG:r9 ⟨308,yaK,yas,yay,ydf⟩:=run' I5 okN
theorem akH:r9 ⟨308,yaL,yas,yay,ydf⟩:=run' I5 okN
theorem YU:r9 ⟨308,yaM,yas,yay,ydf⟩:=run' I5 okN
theorem akI:r9 ⟨308,yaN,yas,yay,[C 1 [ycK,ydJ,ydJ,[J 101],[J 101],[J 101],ybX]]⟩:=run' I5 okN
theorem akJ:r9 ⟨214,yaF,yas,ybZ,[C 2 [ycB,ycx,ycx,[yfM,yfM],[yfM,yfM],[yfM,yfM],yb9]]⟩:=run' dB (okC RG (okC RH (okC YT (okC akE (okC akF (okC akG (okC akH (okC YU (okC akI okN)))))))))
theorem akK:r9 ⟨69,yaA,ybe,yb0,[C 3 [[ygE,yfM,yfM]]]⟩:=run' nE (okC YR (okC YS (okC RB (okC RD (okC akJ okN)))))
theorem akL:r9 ⟨122,yaw,ybQ,ycE,[]⟩:=run' dz (okC RB (okC RD (okC RG (okC RH (okC YU (okC YT okN))))))
theorem akM:r9 ⟨128,ybp,[yu,ya,yn,yaz,yfl,yfj,yaB,yfj,ybV,ycf,C 8 [[yfk,yfp,yfq,Z,yfM,yfk,yfk,yfk]]],tt,[]⟩:=run' dK (okC akK (okC YR (okC YS (okC akL okN))))
theorem akN:r9 ⟨123,yg,ybf,yfk,[]⟩:=run' P7 okN
theorem YV:r9 ⟨72,yA,ybf,yfk,[]⟩:=run' mX (okC akN okN)
theorem RI:r9 ⟨123,yg,ybR,yfk,[]⟩:=run' P7 okN
theorem RJ:r9 ⟨213,yg,ybR,yaC,[y1,yf]⟩:=run' bB (okC RI okN)
theorem RL:r9 ⟨369,yaF,yat,yb6,[]⟩:=run' aZ okN
theorem RN:r9 ⟨370,yaO,yat,ybY,[C 1 [ybX,yb3,yb3,[yfG],[yfG],[yfG],ycF]]⟩:=run' bf okN
theorem YW:r9 ⟨112,yA,ybf,yfo,ycu⟩:=run' cZ (okC RJ (okC RL (okC RN okN)))
theorem YX:r9 ⟨308,yaH,yat,yay,[C 1 [ybX,yb3,yb3,[yfG],[yfG],[yfG],yfz]]⟩:=run' I5 okN
theorem akO:r9 ⟨308,yaI,yat,yay,yex⟩:=run' I5 okN
theorem akP:r9 ⟨308,yaJ,yat,yay,yex⟩:=run' I5 okN
theorem akQ:r9 ⟨308,yaK,yat,yay,ydh⟩:=run' I5 okN
theorem akR:r9 ⟨308,yaL,yat,yay,ydh⟩:=run' I5 okN
theorem YZ:r9 ⟨308,yaM,yat,yay,ydh⟩:=run' I5 okN
end Go.Proofs.YtfnlnpllpfhhnaaGreatDoor.TT
