/- Calls of the fixed example, each computed by the kernel; no condition. -/
import Derived.Test.YtfnlnpllpfhhnaaGreatDoorYC5
set_option linter.unusedSimpArgs false
set_option linter.unusedVariables false
namespace Go.Proofs.YtfnlnpllpfhhnaaGreatDoor.TT
open Go Go.AM
set_option maxRecDepth 1000000
theorem anH:u7 ⟨308,ybe,yaq,yaA,yet⟩:=run' I4 okN
theorem anI:u7 ⟨308,ybf,yaq,yaA,ydb⟩:=run' I4 okN
theorem anJ:u7 ⟨308,ybg,yaq,yaA,ydb⟩:=run' I4 okN
theorem acg:u7 ⟨308,ybh,yaq,yaA,ydb⟩:=run' I4 okN
theorem anK:u7 ⟨308,ybi,yaq,yaA,[C 1 [ycQ,ydN,ydN,[J 104],[J 104],[J 104],ybX]]⟩:=run' I4 okN
theorem anL:u7 ⟨214,yba,yaq,yb0,[C 2 [ycH,ycD,ycD,[ygn,ygn],[ygn,ygn],[ygn,ygn],yca]]⟩:=run' fq (okC WG (okC WH (okC acf (okC anG (okC anH (okC anI (okC anJ (okC acg (okC anK okN)))))))))
theorem anM:u7 ⟨69,yaC,ya2,yb1,[C 3 [[ygK,ygn,ygn]]]⟩:=run' pG (okC acd (okC ace (okC WC (okC WE (okC anL okN)))))
theorem anN:u7 ⟨122,yax,ybO,ych,[]⟩:=run' eZ (okC WC (okC WE (okC WG (okC WH (okC acg (okC acf okN))))))
theorem anO:u7 ⟨71,yay,ya2,ych,[]⟩:=run' qm (okC anM (okC acd (okC ace (okC anN okN))))
theorem anP:u7 ⟨128,ybq,[yv,ya,yk,yaB,yfp,yfn,yaE,yfn,ybW,ycg,C 8 [[yfo,yfs,yfu,Z,ygn,yfo,yfo,yfo]]],tt,[]⟩:=run' fI (okC anO okN)
theorem anQ:u7 ⟨123,yi,ya3,yfo,[]⟩:=run' U2 okN
theorem ach:u7 ⟨72,yB,ya3,yfo,[]⟩:=run' oN (okC anQ okN)
theorem WI:u7 ⟨123,yi,ybP,yfo,[]⟩:=run' U2 okN
theorem WJ:u7 ⟨213,yi,ybP,yaF,[yZ,yh]⟩:=run' cu (okC WI okN)
theorem WK:u7 ⟨369,yba,yar,yb7,[]⟩:=run' bX okN
theorem WL:u7 ⟨370,ybj,yar,ybZ,[C 1 [ybX,yb4,yb4,[yfK],[yfK],[yfK],ycK]]⟩:=run' bY okN
theorem aci:u7 ⟨112,yB,ya3,yfr,ycy⟩:=run' eG (okC WJ (okC WK (okC WL okN)))
theorem acj:u7 ⟨308,ybc,yar,yaA,[C 1 [ybX,yb4,yb4,[yfK],[yfK],[yfK],yfH]]⟩:=run' I4 okN
theorem anR:u7 ⟨308,ybd,yar,yaA,yev⟩:=run' I4 okN
theorem anS:u7 ⟨308,ybe,yar,yaA,yev⟩:=run' I4 okN
theorem anT:u7 ⟨308,ybf,yar,yaA,ydd⟩:=run' I4 okN
theorem anU:u7 ⟨308,ybg,yar,yaA,ydd⟩:=run' I4 okN
theorem acn:u7 ⟨308,ybh,yar,yaA,ydd⟩:=run' I4 okN
theorem anV:u7 ⟨308,ybi,yar,yaA,[C 1 [ycQ,ydN,ydN,[J 103],[J 103],[J 103],ybX]]⟩:=run' I4 okN
theorem anW:u7 ⟨214,yba,yar,yb0,[C 2 [ycH,ycD,ycD,yfa,yfa,yfa,yca]]⟩:=run' fq (okC WK (okC WL (okC acj (okC anR (okC anS (okC anT (okC anU (okC acn (okC anV okN)))))))))
theorem anX:u7 ⟨69,yaC,ya3,yb1,[C 3 [[ygK,yfK,yfK]]]⟩:=run' pG (okC ach (okC aci (okC WI (okC WJ (okC anW okN)))))
theorem anY:u7 ⟨122,yax,ybP,ych,[]⟩:=run' eZ (okC WI (okC WJ (okC WK (okC WL (okC acn (okC acj okN))))))
theorem anZ:u7 ⟨71,yay,ya3,ych,[]⟩:=run' qm (okC anX (okC ach (okC aci (okC anY okN))))
theorem ao0:u7 ⟨128,ybq,[yv,ya,yk,yaB,yfp,yfn,yaE,yfn,ybW,ycg,C 8 [[yfo,yfs,yfu,Z,yfK,yfo,yfo,yfo]]],tt,[]⟩:=run' fI (okC anZ okN)
theorem ao1:u7 ⟨123,yi,ya4,yfo,[]⟩:=run' U2 okN
theorem aco:u7 ⟨72,yB,ya4,yfo,[]⟩:=run' oN (okC ao1 okN)
theorem WM:u7 ⟨123,yi,ybQ,yfo,[]⟩:=run' U2 okN
theorem WO:u7 ⟨213,yi,ybQ,yaF,[y0,yh]⟩:=run' cu (okC WM okN)
theorem WQ:u7 ⟨369,yba,yas,yb7,[]⟩:=run' bX okN
theorem WR:u7 ⟨370,ybj,yas,ybZ,[C 1 [ybX,yb4,yb4,[yfT],[yfT],[yfT],ycK]]⟩:=run' bY okN
theorem acp:u7 ⟨112,yB,ya4,yfr,ycy⟩:=run' eG (okC WO (okC WQ (okC WR okN)))
theorem acr:u7 ⟨308,ybc,yas,yaA,[C 1 [ybX,yb4,yb4,[yfT],[yfT],[yfT],yfH]]⟩:=run' I4 okN
theorem ao2:u7 ⟨308,ybd,yas,yaA,yex⟩:=run' I4 okN
theorem ao3:u7 ⟨308,ybe,yas,yaA,yex⟩:=run' I4 okN
theorem ao4:u7 ⟨308,ybf,yas,yaA,ydh⟩:=run' I4 okN
theorem ao5:u7 ⟨308,ybg,yas,yaA,ydh⟩:=run' I4 okN
theorem acs:u7 ⟨308,ybh,yas,yaA,ydh⟩:=run' I4 okN
theorem ao6:u7 ⟨308,ybi,yas,yaA,[C 1 [ycQ,ydN,ydN,[J 102],[J 102],[J 102],ybX]]⟩:=run' I4 okN
theorem ao7:u7 ⟨214,yba,yas,yb0,[C 2 [ycH,ycD,ycD,[yfT,yfT],[yfT,yfT],[yfT,yfT],yca]]⟩:=run' fq (okC WQ (okC WR (okC acr (okC ao2 (okC ao3 (okC ao4 (okC ao5 (okC acs (okC ao6 okN)))))))))
theorem ao8:u7 ⟨69,yaC,ya4,yb1,[C 3 [[ygK,yfT,yfT]]]⟩:=run' pG (okC aco (okC acp (okC WM (okC WO (okC ao7 okN)))))
theorem ao9:u7 ⟨122,yax,ybQ,ych,[]⟩:=run' eZ (okC WM (okC WO (okC WQ (okC WR (okC acs (okC acr okN))))))
theorem aoa:u7 ⟨71,yay,ya4,ych,[]⟩:=run' qm (okC ao8 (okC aco (okC acp (okC ao9 okN))))
theorem aob:u7 ⟨128,ybq,[yv,ya,yk,yaB,yfp,yfn,yaE,yfn,ybW,ycg,C 8 [[yfo,yfs,yfu,Z,yfT,yfo,yfo,yfo]]],tt,[]⟩:=run' fI (okC aoa okN)
theorem aoc:u7 ⟨123,yi,ya5,yfo,[]⟩:=run' U2 okN
theorem acu:u7 ⟨72,yB,ya5,yfo,[]⟩:=run' oN (okC aoc okN)
theorem WT:u7 ⟨123,yi,ybR,yfo,[]⟩:=run' U2 okN
theorem WU:u7 ⟨213,yi,ybR,yaF,[y1,yh]⟩:=run' cu (okC WT okN)
theorem WV:u7 ⟨369,yba,yat,yb7,[]⟩:=run' bX okN
theorem WW:u7 ⟨370,ybj,yat,ybZ,[C 1 [ybX,yb4,yb4,[yfU],[yfU],[yfU],ycK]]⟩:=run' bY okN
theorem acv:u7 ⟨112,yB,ya5,yfr,ycy⟩:=run' eG (okC WU (okC WV (okC WW okN)))
theorem acw:u7 ⟨308,ybc,yat,yaA,[C 1 [ybX,yb4,yb4,[yfU],[yfU],[yfU],yfH]]⟩:=run' I4 okN
theorem aod:u7 ⟨308,ybd,yat,yaA,yez⟩:=run' I4 okN
theorem aoe:u7 ⟨308,ybe,yat,yaA,yez⟩:=run' I4 okN
theorem aof:u7 ⟨308,ybf,yat,yaA,ydj⟩:=run' I4 okN
theorem aog:u7 ⟨308,ybg,yat,yaA,ydj⟩:=run' I4 okN
theorem acy:u7 ⟨308,ybh,yat,yaA,ydj⟩:=run' I4 okN
theorem aoh:u7 ⟨308,ybi,yat,yaA,[C 1 [ycQ,ydN,ydN,[J 101],[J 101],[J 101],ybX]]⟩:=run' I4 okN
theorem aoi:u7 ⟨214,yba,yat,yb0,[C 2 [ycH,ycD,ycD,[yfU,yfU],[yfU,yfU],[yfU,yfU],yca]]⟩:=run' fq (okC WV (okC WW (okC acw (okC aod (okC aoe (okC aof (okC aog (okC acy (okC aoh okN)))))))))
theorem aoj:u7 ⟨69,yaC,ya5,yb1,[C 3 [[ygK,yfU,yfU]]]⟩:=run' pG (okC acu (okC acv (okC WT (okC WU (okC aoi okN)))))
theorem aok:u7 ⟨122,yax,ybR,ych,[]⟩:=run' eZ (okC WT (okC WU (okC WV (okC WW (okC acy (okC acw okN))))))
theorem aol:u7 ⟨71,yay,ya5,ych,[]⟩:=run' qm (okC aoj (okC acu (okC acv (okC aok okN))))
theorem aom:u7 ⟨128,ybq,[yv,ya,yk,yaB,yfp,yfn,yaE,yfn,ybW,ycg,C 8 [[yfo,yfs,yfu,Z,yfU,yfo,yfo,yfo]]],tt,[]⟩:=run' fI (okC aol okN)
theorem aon:u7 ⟨123,yi,ya6,yfo,[]⟩:=run' U2 okN
end Go.Proofs.YtfnlnpllpfhhnaaGreatDoor.TT
