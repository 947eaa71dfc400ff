/- Calls of the fixed example, each computed by the kernel; no condition. -/
import Derived.Test.YtfnlnpllpfhhnaaGreatDoorYC4
set_option linter.unusedSimpArgs false
set_option linter.unusedVariables false
namespace Go.Proofs.YtfnlnpllpfhhnaaGreatDoor.TT
open Go Go.AM
set_option maxRecDepth 1000000
theorem abY:u7 ⟨72,yB,yaZ,yfo,[]⟩:=run' oN (okC an4 okN)
theorem Wp:u7 ⟨123,yi,ybL,yfo,[]⟩:=run' U2 okN
theorem Wq:u7 ⟨213,yi,ybL,yaF,[yV,yh]⟩:=run' cu (okC Wp okN)
theorem Ws:u7 ⟨369,yba,yan,yb7,[]⟩:=run' bX okN
theorem Wt:u7 ⟨370,ybj,yan,ybZ,[C 1 [ybX,ye7,ye7,[ygk],[ygk],[ygk],ycK]]⟩:=run' bY okN
theorem abZ:u7 ⟨112,yB,yaZ,yfr,ycy⟩:=run' eG (okC Wq (okC Ws (okC Wt okN)))
theorem ac0:u7 ⟨308,ybc,yan,yaA,[C 1 [ybX,ye7,ye7,[ygk],[ygk],[ygk],yfH]]⟩:=run' I4 okN
theorem an5:u7 ⟨308,ybd,yan,yaA,yen⟩:=run' I4 okN
theorem an6:u7 ⟨308,ybe,yan,yaA,yen⟩:=run' I4 okN
theorem an7:u7 ⟨308,ybf,yan,yaA,yc5⟩:=run' I4 okN
theorem an8:u7 ⟨308,ybg,yan,yaA,yc5⟩:=run' I4 okN
theorem ac1:u7 ⟨308,ybh,yan,yaA,yc5⟩:=run' I4 okN
theorem an9:u7 ⟨308,ybi,yan,yaA,[C 1 [ycQ,[J 96],[J 96],[J 107],[J 107],[J 107],ybX]]⟩:=run' I4 okN
theorem ana:u7 ⟨214,yba,yan,yb0,[C 2 [ycH,[yfK,yfZ],[yfK,yfZ],[ygk,ygk],[ygk,ygk],[ygk,ygk],yca]]⟩:=run' fq (okC Ws (okC Wt (okC ac0 (okC an5 (okC an6 (okC an7 (okC an8 (okC ac1 (okC an9 okN)))))))))
theorem anb:u7 ⟨69,yaC,yaZ,yb1,[C 3 [[ygK,ygk,ygk]]]⟩:=run' pG (okC abY (okC abZ (okC Wp (okC Wq (okC ana okN)))))
theorem anc:u7 ⟨122,yax,ybL,ych,[]⟩:=run' eZ (okC Wp (okC Wq (okC Ws (okC Wt (okC ac1 (okC ac0 okN))))))
theorem ane:u7 ⟨71,yay,yaZ,ych,[]⟩:=run' qm (okC anb (okC abY (okC abZ (okC anc okN))))
theorem anf:u7 ⟨128,ybq,[yv,ya,yk,yaB,yfp,yfn,yaE,yfn,ybW,ycg,C 8 [[yfo,yfs,yfu,Z,ygk,yfo,yfo,yfo]]],tt,[]⟩:=run' fI (okC ane okN)
theorem ang:u7 ⟨123,yi,ya0,yfo,[]⟩:=run' U2 okN
theorem ac2:u7 ⟨72,yB,ya0,yfo,[]⟩:=run' oN (okC ang okN)
theorem Wu:u7 ⟨123,yi,ybM,yfo,[]⟩:=run' U2 okN
theorem Wv:u7 ⟨213,yi,ybM,yaF,[yW,yh]⟩:=run' cu (okC Wu okN)
theorem Ww:u7 ⟨369,yba,yao,yb7,[]⟩:=run' bX okN
theorem Wx:u7 ⟨370,ybj,yao,ybZ,[C 1 [ybX,ye4,ye4,[ygl],[ygl],[ygl],ycK]]⟩:=run' bY okN
theorem ac3:u7 ⟨112,yB,ya0,yfr,ycy⟩:=run' eG (okC Wv (okC Ww (okC Wx okN)))
theorem ac4:u7 ⟨308,ybc,yao,yaA,[C 1 [ybX,ye4,ye4,[ygl],[ygl],[ygl],yfH]]⟩:=run' I4 okN
theorem anh:u7 ⟨308,ybd,yao,yaA,yep⟩:=run' I4 okN
theorem ani:u7 ⟨308,ybe,yao,yaA,yep⟩:=run' I4 okN
theorem anj:u7 ⟨308,ybf,yao,yaA,yc7⟩:=run' I4 okN
theorem ank:u7 ⟨308,ybg,yao,yaA,yc7⟩:=run' I4 okN
theorem ac5:u7 ⟨308,ybh,yao,yaA,yc7⟩:=run' I4 okN
theorem anl:u7 ⟨308,ybi,yao,yaA,[C 1 [ycQ,[J 95],[J 95],[J 106],[J 106],[J 106],ybX]]⟩:=run' I4 okN
theorem anm:u7 ⟨214,yba,yao,yb0,[C 2 [ycH,[yfK,yfX],[yfK,yfX],[ygl,ygl],[ygl,ygl],[ygl,ygl],yca]]⟩:=run' fq (okC Ww (okC Wx (okC ac4 (okC anh (okC ani (okC anj (okC ank (okC ac5 (okC anl okN)))))))))
theorem ano:u7 ⟨69,yaC,ya0,yb1,[C 3 [[ygK,ygl,ygl]]]⟩:=run' pG (okC ac2 (okC ac3 (okC Wu (okC Wv (okC anm okN)))))
theorem anp:u7 ⟨122,yax,ybM,ych,[]⟩:=run' eZ (okC Wu (okC Wv (okC Ww (okC Wx (okC ac5 (okC ac4 okN))))))
theorem anq:u7 ⟨71,yay,ya0,ych,[]⟩:=run' qm (okC ano (okC ac2 (okC ac3 (okC anp okN))))
theorem anr:u7 ⟨128,ybq,[yv,ya,yk,yaB,yfp,yfn,yaE,yfn,ybW,ycg,C 8 [[yfo,yfs,yfu,Z,ygl,yfo,yfo,yfo]]],tt,[]⟩:=run' fI (okC anq okN)
theorem ant:u7 ⟨123,yi,ya1,yfo,[]⟩:=run' U2 okN
theorem ac6:u7 ⟨72,yB,ya1,yfo,[]⟩:=run' oN (okC ant okN)
theorem Wy:u7 ⟨123,yi,ybN,yfo,[]⟩:=run' U2 okN
theorem Wz:u7 ⟨213,yi,ybN,yaF,[yX,yh]⟩:=run' cu (okC Wy okN)
theorem WA:u7 ⟨369,yba,yap,yb7,[]⟩:=run' bX okN
theorem WB:u7 ⟨370,ybj,yap,ybZ,[C 1 [ybX,yfb,yfb,[ygm],[ygm],[ygm],ycK]]⟩:=run' bY okN
theorem ac7:u7 ⟨112,yB,ya1,yfr,ycy⟩:=run' eG (okC Wz (okC WA (okC WB okN)))
theorem ac8:u7 ⟨308,ybc,yap,yaA,[C 1 [ybX,yfb,yfb,[ygm],[ygm],[ygm],yfH]]⟩:=run' I4 okN
theorem anu:u7 ⟨308,ybd,yap,yaA,yer⟩:=run' I4 okN
theorem anv:u7 ⟨308,ybe,yap,yaA,yer⟩:=run' I4 okN
theorem anw:u7 ⟨308,ybf,yap,yaA,yc9⟩:=run' I4 okN
theorem anx:u7 ⟨308,ybg,yap,yaA,yc9⟩:=run' I4 okN
theorem ac9:u7 ⟨308,ybh,yap,yaA,yc9⟩:=run' I4 okN
theorem anz:u7 ⟨308,ybi,yap,yaA,[C 1 [ycQ,[J 94],[J 94],[J 105],[J 105],[J 105],ybX]]⟩:=run' I4 okN
theorem anA:u7 ⟨214,yba,yap,yb0,[C 2 [ycH,[yfK,yf6],[yfK,yf6],[ygm,ygm],[ygm,ygm],[ygm,ygm],yca]]⟩:=run' fq (okC WA (okC WB (okC ac8 (okC anu (okC anv (okC anw (okC anx (okC ac9 (okC anz okN)))))))))
theorem anB:u7 ⟨69,yaC,ya1,yb1,[C 3 [[ygK,ygm,ygm]]]⟩:=run' pG (okC ac6 (okC ac7 (okC Wy (okC Wz (okC anA okN)))))
theorem anC:u7 ⟨122,yax,ybN,ych,[]⟩:=run' eZ (okC Wy (okC Wz (okC WA (okC WB (okC ac9 (okC ac8 okN))))))
theorem anD:u7 ⟨71,yay,ya1,ych,[]⟩:=run' qm (okC anB (okC ac6 (okC ac7 (okC anC okN))))
theorem anE:u7 ⟨128,ybq,[yv,ya,yk,yaB,yfp,yfn,yaE,yfn,ybW,ycg,C 8 [[yfo,yfs,yfu,Z,ygm,yfo,yfo,yfo]]],tt,[]⟩:=run' fI (okC anD okN)
theorem anF:u7 ⟨123,yi,ya2,yfo,[]⟩:=run' U2 okN
theorem acd:u7 ⟨72,yB,ya2,yfo,[]⟩:=run' oN (okC anF okN)
theorem WC:u7 ⟨123,yi,ybO,yfo,[]⟩:=run' U2 okN
theorem WE:u7 ⟨213,yi,ybO,yaF,[yY,yh]⟩:=run' cu (okC WC okN)
theorem WG:u7 ⟨369,yba,yaq,yb7,[]⟩:=run' bX okN
theorem WH:u7 ⟨370,ybj,yaq,ybZ,[C 1 [ybX,yb4,yb4,[ygn],[ygn],[ygn],ycK]]⟩:=run' bY okN
theorem ace:u7 ⟨112,yB,ya2,yfr,ycy⟩:=run' eG (okC WE (okC WG (okC WH okN)))
theorem acf:u7 ⟨308,ybc,yaq,yaA,[C 1 [ybX,yb4,yb4,[ygn],[ygn],[ygn],yfH]]⟩:=run' I4 okN
theorem anG:u7 ⟨308,ybd,yaq,yaA,yet⟩:=run' I4 okN
end Go.Proofs.YtfnlnpllpfhhnaaGreatDoor.TT
