/- Calls of the fixed example, each computed by the kernel; no condition. -/
import Derived.Test.YtfnlnpllpfhhnaaGreatDoorYC8
set_option linter.unusedSimpArgs false
set_option linter.unusedVariables false
namespace Go.Proofs.YtfnlnpllpfhhnaaGreatDoor.TT
open Go Go.AM
set_option maxRecDepth 1000000
theorem apF:u7 ⟨308,ybd,y8,yaA,yeN⟩:=run' I4 okN
theorem apG:u7 ⟨308,ybe,y8,yaA,yeN⟩:=run' I4 okN
theorem apH:u7 ⟨308,ybf,y8,yaA,ydx⟩:=run' I4 okN
theorem apI:u7 ⟨308,ybg,y8,yaA,ydx⟩:=run' I4 okN
theorem ad5:u7 ⟨308,ybh,y8,yaA,ydx⟩:=run' I4 okN
theorem apJ:u7 ⟨308,ybi,y8,yaA,[C 1 [ycQ,ydN,ydN,ydN,ydN,ydN,ybX]]⟩:=run' I4 okN
theorem apK:u7 ⟨214,yba,y8,yb0,[C 2 [ycH,[yfV,yfI],[yfV,yfI],ye5,ye5,ye5,yca]]⟩:=run' fq (okC XC (okC XD (okC ad4 (okC apF (okC apG (okC apH (okC apI (okC ad5 (okC apJ okN)))))))))
theorem apL:u7 ⟨69,yaC,yaL,yb1,[C 3 [[ygK,yfI,yfI]]]⟩:=run' pG (okC ad2 (okC ad3 (okC XA (okC XB (okC apK okN)))))
theorem apM:u7 ⟨122,yax,ybx,ycs,[]⟩:=run' eZ (okC XA (okC XB (okC XC (okC XD (okC ad5 (okC ad4 okN))))))
theorem apN:u7 ⟨71,yay,yaL,ycs,[]⟩:=run' qm (okC apL (okC ad2 (okC ad3 (okC apM okN))))
theorem apO:u7 ⟨128,ybq,[yv,ya,yk,yaB,yfp,yfn,yaE,yfn,ybW,ycg,C 8 [[yfo,yfs,yfu,Z,yfI,yfo,yfo,yfo]]],tt,[]⟩:=run' fI (okC apN okN)
theorem apP:u7 ⟨123,yi,yaM,yfo,[]⟩:=run' U2 okN
theorem ad6:u7 ⟨72,yB,yaM,yfo,[]⟩:=run' oN (okC apP okN)
theorem XE:u7 ⟨123,yi,yby,yfo,[]⟩:=run' U2 okN
theorem XF:u7 ⟨213,yi,yby,yaF,[yH,yh]⟩:=run' cu (okC XE okN)
theorem XG:u7 ⟨369,yba,y9,yb7,[]⟩:=run' bX okN
theorem XH:u7 ⟨370,ybj,y9,ybZ,[C 1 [ybX,yb4,yb4,[yf0],[yf0],[yf0],ycK]]⟩:=run' bY okN
theorem ad7:u7 ⟨112,yB,yaM,yfr,ycy⟩:=run' eG (okC XF (okC XG (okC XH okN)))
theorem ad8:u7 ⟨308,ybc,y9,yaA,[C 1 [ybX,yb4,yb4,[yf0],[yf0],[yf0],yfH]]⟩:=run' I4 okN
theorem apQ:u7 ⟨308,ybd,y9,yaA,yeP⟩:=run' I4 okN
theorem apR:u7 ⟨308,ybe,y9,yaA,yeP⟩:=run' I4 okN
theorem apS:u7 ⟨308,ybf,y9,yaA,ydz⟩:=run' I4 okN
theorem apT:u7 ⟨308,ybg,y9,yaA,ydz⟩:=run' I4 okN
theorem ad9:u7 ⟨308,ybh,y9,yaA,ydz⟩:=run' I4 okN
theorem apU:u7 ⟨308,ybi,y9,yaA,[C 1 [ycQ,ydN,ydN,[J 92],[J 92],[J 92],ybX]]⟩:=run' I4 okN
theorem apV:u7 ⟨214,yba,y9,yb0,[C 2 [ycH,[yfx,yfI],[yfx,yfI],[yf0,yf0],[yf0,yf0],[yf0,yf0],yca]]⟩:=run' fq (okC XG (okC XH (okC ad8 (okC apQ (okC apR (okC apS (okC apT (okC ad9 (okC apU okN)))))))))
theorem apW:u7 ⟨69,yaC,yaM,yb1,[C 3 [[ygK,yf0,yf0]]]⟩:=run' pG (okC ad6 (okC ad7 (okC XE (okC XF (okC apV okN)))))
theorem apX:u7 ⟨122,yax,yby,ycs,[]⟩:=run' eZ (okC XE (okC XF (okC XG (okC XH (okC ad9 (okC ad8 okN))))))
theorem apY:u7 ⟨71,yay,yaM,ycs,[]⟩:=run' qm (okC apW (okC ad6 (okC ad7 (okC apX okN))))
theorem apZ:u7 ⟨128,ybq,[yv,ya,yk,yaB,yfp,yfn,yaE,yfn,ybW,ycg,C 8 [[yfo,yfs,yfu,Z,yf0,yfo,yfo,yfo]]],tt,[]⟩:=run' fI (okC apY okN)
theorem aq0:u7 ⟨123,yi,yaN,yfo,[]⟩:=run' U2 okN
theorem ada:u7 ⟨72,yB,yaN,yfo,[]⟩:=run' oN (okC aq0 okN)
theorem XI:u7 ⟨123,yi,ybz,yfo,[]⟩:=run' U2 okN
theorem XJ:u7 ⟨213,yi,ybz,yaF,[yI,yh]⟩:=run' cu (okC XI okN)
theorem XK:u7 ⟨369,yba,yaa,yb7,[]⟩:=run' bX okN
theorem XL:u7 ⟨370,ybj,yaa,ybZ,[C 1 [ybX,yb4,yb4,yfl,yfl,yfl,ycK]]⟩:=run' bY okN
theorem adb:u7 ⟨112,yB,yaN,yfr,ycy⟩:=run' eG (okC XJ (okC XK (okC XL okN)))
theorem ade:u7 ⟨308,ybc,yaa,yaA,[C 1 [ybX,yb4,yb4,yfl,yfl,yfl,yfH]]⟩:=run' I4 okN
theorem aq1:u7 ⟨308,ybd,yaa,yaA,yd9⟩:=run' I4 okN
theorem aq2:u7 ⟨308,ybe,yaa,yaA,yd9⟩:=run' I4 okN
theorem aq3:u7 ⟨308,ybf,yaa,yaA,ydB⟩:=run' I4 okN
theorem aq5:u7 ⟨308,ybg,yaa,yaA,ydB⟩:=run' I4 okN
theorem adf:u7 ⟨308,ybh,yaa,yaA,ydB⟩:=run' I4 okN
theorem aq6:u7 ⟨308,ybi,yaa,yaA,[C 1 [ycQ,ydN,ydN,[J 91],[J 91],[J 91],ybX]]⟩:=run' I4 okN
theorem aq7:u7 ⟨214,yba,yaa,yb0,[C 2 [ycH,[yf5,yfI],[yf5,yfI],[ygq,ygq],[ygq,ygq],[ygq,ygq],yca]]⟩:=run' fq (okC XK (okC XL (okC ade (okC aq1 (okC aq2 (okC aq3 (okC aq5 (okC adf (okC aq6 okN)))))))))
theorem aq9:u7 ⟨69,yaC,yaN,yb1,[C 3 [[ygK,ygq,ygq]]]⟩:=run' pG (okC ada (okC adb (okC XI (okC XJ (okC aq7 okN)))))
theorem aqa:u7 ⟨122,yax,ybz,ycs,[]⟩:=run' eZ (okC XI (okC XJ (okC XK (okC XL (okC adf (okC ade okN))))))
theorem aqb:u7 ⟨71,yay,yaN,ycs,[]⟩:=run' qm (okC aq9 (okC ada (okC adb (okC aqa okN))))
theorem aqc:u7 ⟨128,ybq,[yv,ya,yk,yaB,yfp,yfn,yaE,yfn,ybW,ycg,C 8 [[yfo,yfs,yfu,Z,ygq,yfo,yfo,yfo]]],tt,[]⟩:=run' fI (okC aqb okN)
theorem aqd:u7 ⟨123,yi,yaO,yfo,[]⟩:=run' U2 okN
theorem adg:u7 ⟨72,yB,yaO,yfo,[]⟩:=run' oN (okC aqd okN)
theorem XM:u7 ⟨123,yi,ybA,yfo,[]⟩:=run' U2 okN
theorem XO:u7 ⟨213,yi,ybA,yaF,[yJ,yh]⟩:=run' cu (okC XM okN)
theorem XP:u7 ⟨369,yba,yab,yb7,[]⟩:=run' bX okN
theorem XQ:u7 ⟨370,ybj,yab,ybZ,[C 1 [ybX,yb4,yb4,[yf1],[yf1],[yf1],ycK]]⟩:=run' bY okN
theorem adh:u7 ⟨112,yB,yaO,yfr,ycy⟩:=run' eG (okC XO (okC XP (okC XQ okN)))
theorem adi:u7 ⟨308,ybc,yab,yaA,[C 1 [ybX,yb4,yb4,[yf1],[yf1],[yf1],yfH]]⟩:=run' I4 okN
theorem aqe:u7 ⟨308,ybd,yab,yaA,yeR⟩:=run' I4 okN
theorem aqf:u7 ⟨308,ybe,yab,yaA,yeR⟩:=run' I4 okN
theorem aqg:u7 ⟨308,ybf,yab,yaA,ydD⟩:=run' I4 okN
theorem aqh:u7 ⟨308,ybg,yab,yaA,ydD⟩:=run' I4 okN
theorem adj:u7 ⟨308,ybh,yab,yaA,ydD⟩:=run' I4 okN
theorem aqi:u7 ⟨308,ybi,yab,yaA,[C 1 [ycQ,ydN,ydN,[J 90],[J 90],[J 90],ybX]]⟩:=run' I4 okN
theorem aqj:u7 ⟨214,yba,yab,yb0,[C 2 [ycH,[yfZ,yfI],[yfZ,yfI],[yf1,yf1],[yf1,yf1],[yf1,yf1],yca]]⟩:=run' fq (okC XP (okC XQ (okC adi (okC aqe (okC aqf (okC aqg (okC aqh (okC adj (okC aqi okN)))))))))
theorem aqk:u7 ⟨69,yaC,yaO,yb1,[C 3 [[ygK,yf1,yf1]]]⟩:=run' pG (okC adg (okC adh (okC XM (okC XO (okC aqj okN)))))
theorem aql:u7 ⟨122,yax,ybA,ycs,[]⟩:=run' eZ (okC XM (okC XO (okC XP (okC XQ (okC adj (okC adi okN))))))
theorem aqm:u7 ⟨71,yay,yaO,ycs,[]⟩:=run' qm (okC aqk (okC adg (okC adh (okC aql okN))))
theorem aqn:u7 ⟨128,ybq,[yv,ya,yk,yaB,yfp,yfn,yaE,yfn,ybW,ycg,C 8 [[yfo,yfs,yfu,Z,yf1,yfo,yfo,yfo]]],tt,[]⟩:=run' fI (okC aqm okN)
theorem aqo:u7 ⟨123,yi,yaP,yfo,[]⟩:=run' U2 okN
theorem adk:u7 ⟨72,yB,yaP,yfo,[]⟩:=run' oN (okC aqo okN)
theorem XR:u7 ⟨123,yi,ybB,yfo,[]⟩:=run' U2 okN
theorem XT:u7 ⟨213,yi,ybB,yaF,[yK,yh]⟩:=run' cu (okC XR okN)
theorem XU:u7 ⟨369,yba,yac,yb7,[]⟩:=run' bX okN
end Go.Proofs.YtfnlnpllpfhhnaaGreatDoor.TT
