/- Calls of the fixed example, each computed by the kernel; no condition. -/
import Derived.Test.YtfnlnpllpfhhnaaGreatDoorYC7
set_option linter.unusedSimpArgs false
set_option linter.unusedVariables false
namespace Go.Proofs.YtfnlnpllpfhhnaaGreatDoor.TT
open Go Go.AM
set_option maxRecDepth 1000000
theorem acO:u7 ⟨308,ybh,y4,yaA,ydf⟩:=run' I4 okN
theorem aoZ:u7 ⟨308,ybi,y4,yaA,[C 1 [ycQ,ydN,ydN,[J 97],[J 97],[J 97],ybX]]⟩:=run' I4 okN
theorem ap0:u7 ⟨214,yba,y4,yb0,[C 2 [ycH,ycD,ycD,[yf5,yf5],[yf5,yf5],[yf5,yf5],yca]]⟩:=run' fq (okC Xl (okC Xm (okC acN (okC aoV (okC aoW (okC aoX (okC aoY (okC acO (okC aoZ okN)))))))))
theorem ap1:u7 ⟨69,yaC,yaH,yb1,[C 3 [[ygK,yf5,yf5]]]⟩:=run' pG (okC acL (okC acM (okC Xj (okC Xk (okC ap0 okN)))))
theorem ap2:u7 ⟨122,yax,ybt,ycs,[]⟩:=run' eZ (okC Xj (okC Xk (okC Xl (okC Xm (okC acO (okC acN okN))))))
theorem ap3:u7 ⟨71,yay,yaH,ycs,[]⟩:=run' qm (okC ap1 (okC acL (okC acM (okC ap2 okN))))
theorem ap4:u7 ⟨128,ybq,[yv,ya,yk,yaB,yfp,yfn,yaE,yfn,ybW,ycg,C 8 [[yfo,yfs,yfu,Z,yf5,yfo,yfo,yfo]]],tt,[]⟩:=run' fI (okC ap3 okN)
theorem ap5:u7 ⟨123,yi,yaI,yfo,[]⟩:=run' U2 okN
theorem acP:u7 ⟨72,yB,yaI,yfo,[]⟩:=run' oN (okC ap5 okN)
theorem Xn:u7 ⟨123,yi,ybu,yfo,[]⟩:=run' U2 okN
theorem Xo:u7 ⟨213,yi,ybu,yaF,[yD,yh]⟩:=run' cu (okC Xn okN)
theorem Xp:u7 ⟨369,yba,y5,yb7,[]⟩:=run' bX okN
theorem Xq:u7 ⟨370,ybj,y5,ybZ,[C 1 [ybX,yb4,yb4,ye7,ye7,ye7,ycK]]⟩:=run' bY okN
theorem acQ:u7 ⟨112,yB,yaI,yfr,ycy⟩:=run' eG (okC Xo (okC Xp (okC Xq okN)))
theorem acR:u7 ⟨308,ybc,y5,yaA,[C 1 [ybX,yb4,yb4,ye7,ye7,ye7,yfH]]⟩:=run' I4 okN
theorem ap6:u7 ⟨308,ybd,y5,yaA,yeH⟩:=run' I4 okN
theorem ap7:u7 ⟨308,ybe,y5,yaA,yeH⟩:=run' I4 okN
theorem ap8:u7 ⟨308,ybf,y5,yaA,ydr⟩:=run' I4 okN
theorem ap9:u7 ⟨308,ybg,y5,yaA,ydr⟩:=run' I4 okN
theorem acS:u7 ⟨308,ybh,y5,yaA,ydr⟩:=run' I4 okN
theorem apa:u7 ⟨308,ybi,y5,yaA,[C 1 [ycQ,ydN,ydN,[J 96],[J 96],[J 96],ybX]]⟩:=run' I4 okN
theorem apb:u7 ⟨214,yba,y5,yb0,[C 2 [ycH,[yfT,yfI],[yfT,yfI],[yfZ,yfZ],[yfZ,yfZ],[yfZ,yfZ],yca]]⟩:=run' fq (okC Xp (okC Xq (okC acR (okC ap6 (okC ap7 (okC ap8 (okC ap9 (okC acS (okC apa okN)))))))))
theorem apc:u7 ⟨69,yaC,yaI,yb1,[C 3 [[ygK,yfZ,yfZ]]]⟩:=run' pG (okC acP (okC acQ (okC Xn (okC Xo (okC apb okN)))))
theorem apd:u7 ⟨122,yax,ybu,ycs,[]⟩:=run' eZ (okC Xn (okC Xo (okC Xp (okC Xq (okC acS (okC acR okN))))))
theorem ape:u7 ⟨71,yay,yaI,ycs,[]⟩:=run' qm (okC apc (okC acP (okC acQ (okC apd okN))))
theorem apf:u7 ⟨128,ybq,[yv,ya,yk,yaB,yfp,yfn,yaE,yfn,ybW,ycg,C 8 [[yfo,yfs,yfu,Z,yfZ,yfo,yfo,yfo]]],tt,[]⟩:=run' fI (okC ape okN)
theorem apg:u7 ⟨123,yi,yaJ,yfo,[]⟩:=run' U2 okN
theorem acT:u7 ⟨72,yB,yaJ,yfo,[]⟩:=run' oN (okC apg okN)
theorem Xr:u7 ⟨123,yi,ybv,yfo,[]⟩:=run' U2 okN
theorem Xt:u7 ⟨213,yi,ybv,yaF,[yE,yh]⟩:=run' cu (okC Xr okN)
theorem Xu:u7 ⟨369,yba,y6,yb7,[]⟩:=run' bX okN
theorem Xv:u7 ⟨370,ybj,y6,ybZ,[C 1 [ybX,yb4,yb4,ye4,ye4,ye4,ycK]]⟩:=run' bY okN
theorem acU:u7 ⟨112,yB,yaJ,yfr,ycy⟩:=run' eG (okC Xt (okC Xu (okC Xv okN)))
theorem acV:u7 ⟨308,ybc,y6,yaA,[C 1 [ybX,yb4,yb4,ye4,ye4,ye4,yfH]]⟩:=run' I4 okN
theorem aph:u7 ⟨308,ybd,y6,yaA,yeJ⟩:=run' I4 okN
theorem apj:u7 ⟨308,ybe,y6,yaA,yeJ⟩:=run' I4 okN
theorem apk:u7 ⟨308,ybf,y6,yaA,ydt⟩:=run' I4 okN
theorem apl:u7 ⟨308,ybg,y6,yaA,ydt⟩:=run' I4 okN
theorem acW:u7 ⟨308,ybh,y6,yaA,ydt⟩:=run' I4 okN
theorem apm:u7 ⟨308,ybi,y6,yaA,[C 1 [ycQ,ydN,ydN,[J 95],[J 95],[J 95],ybX]]⟩:=run' I4 okN
theorem apn:u7 ⟨214,yba,y6,yb0,[C 2 [ycH,[yfU,yfI],[yfU,yfI],[yfX,yfX],[yfX,yfX],[yfX,yfX],yca]]⟩:=run' fq (okC Xu (okC Xv (okC acV (okC aph (okC apj (okC apk (okC apl (okC acW (okC apm okN)))))))))
theorem apo:u7 ⟨69,yaC,yaJ,yb1,[C 3 [[ygK,yfX,yfX]]]⟩:=run' pG (okC acT (okC acU (okC Xr (okC Xt (okC apn okN)))))
theorem apq:u7 ⟨122,yax,ybv,ycs,[]⟩:=run' eZ (okC Xr (okC Xt (okC Xu (okC Xv (okC acW (okC acV okN))))))
theorem apr:u7 ⟨71,yay,yaJ,ycs,[]⟩:=run' qm (okC apo (okC acT (okC acU (okC apq okN))))
theorem aps:u7 ⟨128,ybq,[yv,ya,yk,yaB,yfp,yfn,yaE,yfn,ybW,ycg,C 8 [[yfo,yfs,yfu,Z,yfX,yfo,yfo,yfo]]],tt,[]⟩:=run' fI (okC apr okN)
theorem apt:u7 ⟨123,yi,yaK,yfo,[]⟩:=run' U2 okN
theorem acX:u7 ⟨72,yB,yaK,yfo,[]⟩:=run' oN (okC apt okN)
theorem Xw:u7 ⟨123,yi,ybw,yfo,[]⟩:=run' U2 okN
theorem Xx:u7 ⟨213,yi,ybw,yaF,[yF,yh]⟩:=run' cu (okC Xw okN)
theorem Xy:u7 ⟨369,yba,y7,yb7,[]⟩:=run' bX okN
theorem Xz:u7 ⟨370,ybj,y7,ybZ,[C 1 [ybX,yb4,yb4,yfb,yfb,yfb,ycK]]⟩:=run' bY okN
theorem acY:u7 ⟨112,yB,yaK,yfr,ycy⟩:=run' eG (okC Xx (okC Xy (okC Xz okN)))
theorem acZ:u7 ⟨308,ybc,y7,yaA,[C 1 [ybX,yb4,yb4,yfb,yfb,yfb,yfH]]⟩:=run' I4 okN
theorem apu:u7 ⟨308,ybd,y7,yaA,yeL⟩:=run' I4 okN
theorem apv:u7 ⟨308,ybe,y7,yaA,yeL⟩:=run' I4 okN
theorem apw:u7 ⟨308,ybf,y7,yaA,ydv⟩:=run' I4 okN
theorem apx:u7 ⟨308,ybg,y7,yaA,ydv⟩:=run' I4 okN
theorem ad1:u7 ⟨308,ybh,y7,yaA,ydv⟩:=run' I4 okN
theorem apy:u7 ⟨308,ybi,y7,yaA,[C 1 [ycQ,ydN,ydN,[J 94],[J 94],[J 94],ybX]]⟩:=run' I4 okN
theorem apz:u7 ⟨214,yba,y7,yb0,[C 2 [ycH,[yfQ,yfI],[yfQ,yfI],[yf6,yf6],[yf6,yf6],[yf6,yf6],yca]]⟩:=run' fq (okC Xy (okC Xz (okC acZ (okC apu (okC apv (okC apw (okC apx (okC ad1 (okC apy okN)))))))))
theorem apA:u7 ⟨69,yaC,yaK,yb1,[C 3 [[ygK,yf6,yf6]]]⟩:=run' pG (okC acX (okC acY (okC Xw (okC Xx (okC apz okN)))))
theorem apB:u7 ⟨122,yax,ybw,ycs,[]⟩:=run' eZ (okC Xw (okC Xx (okC Xy (okC Xz (okC ad1 (okC acZ okN))))))
theorem apC:u7 ⟨71,yay,yaK,ycs,[]⟩:=run' qm (okC apA (okC acX (okC acY (okC apB okN))))
theorem apD:u7 ⟨128,ybq,[yv,ya,yk,yaB,yfp,yfn,yaE,yfn,ybW,ycg,C 8 [[yfo,yfs,yfu,Z,yf6,yfo,yfo,yfo]]],tt,[]⟩:=run' fI (okC apC okN)
theorem apE:u7 ⟨123,yi,yaL,yfo,[]⟩:=run' U2 okN
theorem ad2:u7 ⟨72,yB,yaL,yfo,[]⟩:=run' oN (okC apE okN)
theorem XA:u7 ⟨123,yi,ybx,yfo,[]⟩:=run' U2 okN
theorem XB:u7 ⟨213,yi,ybx,yaF,[yG,yh]⟩:=run' cu (okC XA okN)
theorem XC:u7 ⟨369,yba,y8,yb7,[]⟩:=run' bX okN
theorem XD:u7 ⟨370,ybj,y8,ybZ,[C 1 [ybX,yb4,yb4,yb4,yb4,yb4,ycK]]⟩:=run' bY okN
theorem ad3:u7 ⟨112,yB,yaL,yfr,ycy⟩:=run' eG (okC XB (okC XC (okC XD okN)))
theorem ad4:u7 ⟨308,ybc,y8,yaA,[C 1 [ybX,yb4,yb4,yb4,yb4,yb4,yfH]]⟩:=run' I4 okN
end Go.Proofs.YtfnlnpllpfhhnaaGreatDoor.TT
