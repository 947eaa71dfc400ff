/- Calls of the fixed example, each computed by the kernel; no condition. -/
import Derived.Test.YtfnlnpllpfhhnaaGreatDoorYC6
set_option linter.unusedSimpArgs false
set_option linter.unusedVariables false
namespace Go.Proofs.YtfnlnpllpfhhnaaGreatDoor.TT
open Go Go.AM
set_option maxRecDepth 1000000
theorem acz:u7 ⟨72,yB,ya6,yfo,[]⟩:=run' oN (okC aon okN)
theorem WX:u7 ⟨123,yi,ybS,yfo,[]⟩:=run' U2 okN
theorem WY:u7 ⟨213,yi,ybS,yaF,[y2,yh]⟩:=run' cu (okC WX okN)
theorem WZ:u7 ⟨369,yba,yau,yb7,[]⟩:=run' bX okN
theorem Xa:u7 ⟨370,ybj,yau,ybZ,[C 1 [ybX,yb4,yb4,[yfQ],[yfQ],[yfQ],ycK]]⟩:=run' bY okN
theorem acA:u7 ⟨112,yB,ya6,yfr,ycy⟩:=run' eG (okC WY (okC WZ (okC Xa okN)))
theorem acB:u7 ⟨308,ybc,yau,yaA,[C 1 [ybX,yb4,yb4,[yfQ],[yfQ],[yfQ],yfH]]⟩:=run' I4 okN
theorem aoo:u7 ⟨308,ybd,yau,yaA,yeB⟩:=run' I4 okN
theorem aop:u7 ⟨308,ybe,yau,yaA,yeB⟩:=run' I4 okN
theorem aoq:u7 ⟨308,ybf,yau,yaA,ydl⟩:=run' I4 okN
theorem aor:u7 ⟨308,ybg,yau,yaA,ydl⟩:=run' I4 okN
theorem acC:u7 ⟨308,ybh,yau,yaA,ydl⟩:=run' I4 okN
theorem aos:u7 ⟨308,ybi,yau,yaA,[C 1 [ycQ,ydN,ydN,[J 100],[J 100],[J 100],ybX]]⟩:=run' I4 okN
theorem aot:u7 ⟨214,yba,yau,yb0,[C 2 [ycH,ycD,ycD,[yfQ,yfQ],[yfQ,yfQ],[yfQ,yfQ],yca]]⟩:=run' fq (okC WZ (okC Xa (okC acB (okC aoo (okC aop (okC aoq (okC aor (okC acC (okC aos okN)))))))))
theorem aou:u7 ⟨69,yaC,ya6,yb1,[C 3 [[ygK,yfQ,yfQ]]]⟩:=run' pG (okC acz (okC acA (okC WX (okC WY (okC aot okN)))))
theorem aov:u7 ⟨122,yax,ybS,ych,[]⟩:=run' eZ (okC WX (okC WY (okC WZ (okC Xa (okC acC (okC acB okN))))))
theorem aow:u7 ⟨71,yay,ya6,ych,[]⟩:=run' qm (okC aou (okC acz (okC acA (okC aov okN))))
theorem aox:u7 ⟨128,ybq,[yv,ya,yk,yaB,yfp,yfn,yaE,yfn,ybW,ycg,C 8 [[yfo,yfs,yfu,Z,yfQ,yfo,yfo,yfo]]],tt,[]⟩:=run' fI (okC aow okN)
theorem aoy:u7 ⟨123,yi,ya7,yfo,[]⟩:=run' U2 okN
theorem acD:u7 ⟨72,yB,ya7,yfo,[]⟩:=run' oN (okC aoy okN)
theorem Xb:u7 ⟨123,yi,ybT,yfo,[]⟩:=run' U2 okN
theorem Xc:u7 ⟨213,yi,ybT,yaF,[y3,yh]⟩:=run' cu (okC Xb okN)
theorem Xd:u7 ⟨369,yba,yav,yb7,[]⟩:=run' bX okN
theorem Xe:u7 ⟨370,ybj,yav,ybZ,[C 1 [ybX,yb4,yb4,[yfV],[yfV],[yfV],ycK]]⟩:=run' bY okN
theorem acE:u7 ⟨112,yB,ya7,yfr,ycy⟩:=run' eG (okC Xc (okC Xd (okC Xe okN)))
theorem acF:u7 ⟨308,ybc,yav,yaA,[C 1 [ybX,yb4,yb4,[yfV],[yfV],[yfV],yfH]]⟩:=run' I4 okN
theorem aoz:u7 ⟨308,ybd,yav,yaA,yeD⟩:=run' I4 okN
theorem aoA:u7 ⟨308,ybe,yav,yaA,yeD⟩:=run' I4 okN
theorem aoB:u7 ⟨308,ybf,yav,yaA,ydn⟩:=run' I4 okN
theorem aoC:u7 ⟨308,ybg,yav,yaA,ydn⟩:=run' I4 okN
theorem acG:u7 ⟨308,ybh,yav,yaA,ydn⟩:=run' I4 okN
theorem aoD:u7 ⟨308,ybi,yav,yaA,[C 1 [ycQ,ydN,ydN,[J 99],[J 99],[J 99],ybX]]⟩:=run' I4 okN
theorem aoE:u7 ⟨214,yba,yav,yb0,[C 2 [ycH,ycD,ycD,[yfV,yfV],[yfV,yfV],[yfV,yfV],yca]]⟩:=run' fq (okC Xd (okC Xe (okC acF (okC aoz (okC aoA (okC aoB (okC aoC (okC acG (okC aoD okN)))))))))
theorem aoF:u7 ⟨69,yaC,ya7,yb1,[C 3 [[ygK,yfV,yfV]]]⟩:=run' pG (okC acD (okC acE (okC Xb (okC Xc (okC aoE okN)))))
theorem aoG:u7 ⟨122,yax,ybT,ych,[]⟩:=run' eZ (okC Xb (okC Xc (okC Xd (okC Xe (okC acG (okC acF okN))))))
theorem aoH:u7 ⟨71,yay,ya7,ych,[]⟩:=run' qm (okC aoF (okC acD (okC acE (okC aoG okN))))
theorem aoI:u7 ⟨128,ybq,[yv,ya,yk,yaB,yfp,yfn,yaE,yfn,ybW,ycg,C 8 [[yfo,yfs,yfu,Z,yfV,yfo,yfo,yfo]]],tt,[]⟩:=run' fI (okC aoH okN)
theorem aoJ:u7 ⟨123,yi,yaG,yfo,[]⟩:=run' U2 okN
theorem acH:u7 ⟨72,yB,yaG,yfo,[]⟩:=run' oN (okC aoJ okN)
theorem Xf:u7 ⟨123,yi,ybs,yfo,[]⟩:=run' U2 okN
theorem Xg:u7 ⟨213,yi,ybs,yaF,[yN,yh]⟩:=run' cu (okC Xf okN)
theorem Xh:u7 ⟨369,yba,yaf,yb7,[]⟩:=run' bX okN
theorem Xi:u7 ⟨370,ybj,yaf,ybZ,[C 1 [ybX,yb4,yb4,ye6,ye6,ye6,ycK]]⟩:=run' bY okN
theorem acI:u7 ⟨112,yB,yaG,yfr,ycy⟩:=run' eG (okC Xg (okC Xh (okC Xi okN)))
theorem acJ:u7 ⟨308,ybc,yaf,yaA,[C 1 [ybX,yb4,yb4,ye6,ye6,ye6,yfH]]⟩:=run' I4 okN
theorem aoK:u7 ⟨308,ybd,yaf,yaA,yeF⟩:=run' I4 okN
theorem aoL:u7 ⟨308,ybe,yaf,yaA,yeF⟩:=run' I4 okN
theorem aoM:u7 ⟨308,ybf,yaf,yaA,ydp⟩:=run' I4 okN
theorem aoN:u7 ⟨308,ybg,yaf,yaA,ydp⟩:=run' I4 okN
theorem acK:u7 ⟨308,ybh,yaf,yaA,ydp⟩:=run' I4 okN
theorem aoO:u7 ⟨308,ybi,yaf,yaA,[C 1 [ycQ,ydN,ydN,[J 98],[J 98],[J 98],ybX]]⟩:=run' I4 okN
theorem aoP:u7 ⟨214,yba,yaf,yb0,[C 2 [ycH,ycD,ycD,[yfx,yfx],[yfx,yfx],[yfx,yfx],yca]]⟩:=run' fq (okC Xh (okC Xi (okC acJ (okC aoK (okC aoL (okC aoM (okC aoN (okC acK (okC aoO okN)))))))))
theorem aoQ:u7 ⟨69,yaC,yaG,yb1,[C 3 [[ygK,yfx,yfx]]]⟩:=run' pG (okC acH (okC acI (okC Xf (okC Xg (okC aoP okN)))))
theorem aoR:u7 ⟨122,yax,ybs,ycs,[]⟩:=run' eZ (okC Xf (okC Xg (okC Xh (okC Xi (okC acK (okC acJ okN))))))
theorem aoS:u7 ⟨71,yay,yaG,ycs,[]⟩:=run' qm (okC aoQ (okC acH (okC acI (okC aoR okN))))
theorem aoT:u7 ⟨128,ybq,[yv,ya,yk,yaB,yfp,yfn,yaE,yfn,ybW,ycg,C 8 [[yfo,yfs,yfu,Z,yfx,yfo,yfo,yfo]]],tt,[]⟩:=run' fI (okC aoS okN)
theorem aoU:u7 ⟨123,yi,yaH,yfo,[]⟩:=run' U2 okN
theorem acL:u7 ⟨72,yB,yaH,yfo,[]⟩:=run' oN (okC aoU okN)
theorem Xj:u7 ⟨123,yi,ybt,yfo,[]⟩:=run' U2 okN
theorem Xk:u7 ⟨213,yi,ybt,yaF,[yC,yh]⟩:=run' cu (okC Xj okN)
theorem Xl:u7 ⟨369,yba,y4,yb7,[]⟩:=run' bX okN
theorem Xm:u7 ⟨370,ybj,y4,ybZ,[C 1 [ybX,yb4,yb4,ye3,ye3,ye3,ycK]]⟩:=run' bY okN
theorem acM:u7 ⟨112,yB,yaH,yfr,ycy⟩:=run' eG (okC Xk (okC Xl (okC Xm okN)))
theorem acN:u7 ⟨308,ybc,y4,yaA,[C 1 [ybX,yb4,yb4,ye3,ye3,ye3,yfH]]⟩:=run' I4 okN
theorem aoV:u7 ⟨308,ybd,y4,yaA,ycG⟩:=run' I4 okN
theorem aoW:u7 ⟨308,ybe,y4,yaA,ycG⟩:=run' I4 okN
theorem aoX:u7 ⟨308,ybf,y4,yaA,ydf⟩:=run' I4 okN
theorem aoY:u7 ⟨308,ybg,y4,yaA,ydf⟩:=run' I4 okN
end Go.Proofs.YtfnlnpllpfhhnaaGreatDoor.TT
