/- Calls of the fixed example, each computed by the kernel; no condition. -/
import Derived.Test.YtfnlnpllpfhhnaaGreatDoorYC3
set_option linter.unusedSimpArgs false
set_option linter.unusedVariables false
namespace Go.Proofs.YtfnlnpllpfhhnaaGreatDoor.TT
open Go Go.AM
set_option maxRecDepth 1000000
theorem amm:u7 ⟨308,ybd,yaj,yaA,yef⟩:=run' I4 okN
theorem amn:u7 ⟨308,ybe,yaj,yaA,yef⟩:=run' I4 okN
theorem amo:u7 ⟨308,ybf,yaj,yaA,ycX⟩:=run' I4 okN
theorem amq:u7 ⟨308,ybg,yaj,yaA,ycX⟩:=run' I4 okN
theorem abL:u7 ⟨308,ybh,yaj,yaA,ycX⟩:=run' I4 okN
theorem amr:u7 ⟨308,ybi,yaj,yaA,[C 1 [ycQ,[J 100],[J 100],[J 111],[J 111],[J 111],ybX]]⟩:=run' I4 okN
theorem ams:u7 ⟨214,yba,yaj,yb0,[C 2 [ycH,[yfK,yfQ],[yfK,yfQ],[yf9,yf9],[yf9,yf9],[yf9,yf9],yca]]⟩:=run' fq (okC VT (okC VU (okC abK (okC amm (okC amn (okC amo (okC amq (okC abL (okC amr okN)))))))))
theorem amt:u7 ⟨69,yaC,yaV,yb1,[C 3 [[ygK,yf9,yf9]]]⟩:=run' pG (okC abI (okC abJ (okC VQ (okC VR (okC ams okN)))))
theorem amu:u7 ⟨122,yax,ybH,ych,[]⟩:=run' eZ (okC VQ (okC VR (okC VT (okC VU (okC abL (okC abK okN))))))
theorem amv:u7 ⟨71,yay,yaV,ych,[]⟩:=run' qm (okC amt (okC abI (okC abJ (okC amu okN))))
theorem amw:u7 ⟨128,ybq,[yv,ya,yk,yaB,yfp,yfn,yaE,yfn,ybW,ycg,C 8 [[yfo,yfs,yfu,Z,yf9,yfo,yfo,yfo]]],tt,[]⟩:=run' fI (okC amv okN)
theorem amx:u7 ⟨123,yi,yaW,yfo,[]⟩:=run' U2 okN
theorem abM:u7 ⟨72,yB,yaW,yfo,[]⟩:=run' oN (okC amx okN)
theorem VW:u7 ⟨123,yi,ybI,yfo,[]⟩:=run' U2 okN
theorem VX:u7 ⟨213,yi,ybI,yaF,[yS,yh]⟩:=run' cu (okC VW okN)
theorem VY:u7 ⟨369,yba,yak,yb7,[]⟩:=run' bX okN
theorem VZ:u7 ⟨370,ybj,yak,ybZ,[C 1 [ybX,[yfV],[yfV],[ygh],[ygh],[ygh],ycK]]⟩:=run' bY okN
theorem abN:u7 ⟨112,yB,yaW,yfr,ycy⟩:=run' eG (okC VX (okC VY (okC VZ okN)))
theorem abO:u7 ⟨308,ybc,yak,yaA,[C 1 [ybX,[yfV],[yfV],[ygh],[ygh],[ygh],yfH]]⟩:=run' I4 okN
theorem amy:u7 ⟨308,ybd,yak,yaA,yeh⟩:=run' I4 okN
theorem amz:u7 ⟨308,ybe,yak,yaA,yeh⟩:=run' I4 okN
theorem amA:u7 ⟨308,ybf,yak,yaA,ycZ⟩:=run' I4 okN
theorem amB:u7 ⟨308,ybg,yak,yaA,ycZ⟩:=run' I4 okN
theorem abP:u7 ⟨308,ybh,yak,yaA,ycZ⟩:=run' I4 okN
theorem amC:u7 ⟨308,ybi,yak,yaA,[C 1 [ycQ,[J 99],[J 99],[J 110],[J 110],[J 110],ybX]]⟩:=run' I4 okN
theorem amD:u7 ⟨214,yba,yak,yb0,[C 2 [ycH,[yfK,yfV],[yfK,yfV],[ygh,ygh],[ygh,ygh],[ygh,ygh],yca]]⟩:=run' fq (okC VY (okC VZ (okC abO (okC amy (okC amz (okC amA (okC amB (okC abP (okC amC okN)))))))))
theorem amE:u7 ⟨69,yaC,yaW,yb1,[C 3 [[ygK,ygh,ygh]]]⟩:=run' pG (okC abM (okC abN (okC VW (okC VX (okC amD okN)))))
theorem amF:u7 ⟨122,yax,ybI,ych,[]⟩:=run' eZ (okC VW (okC VX (okC VY (okC VZ (okC abP (okC abO okN))))))
theorem amG:u7 ⟨71,yay,yaW,ych,[]⟩:=run' qm (okC amE (okC abM (okC abN (okC amF okN))))
theorem amH:u7 ⟨128,ybq,[yv,ya,yk,yaB,yfp,yfn,yaE,yfn,ybW,ycg,C 8 [[yfo,yfs,yfu,Z,ygh,yfo,yfo,yfo]]],tt,[]⟩:=run' fI (okC amG okN)
theorem amI:u7 ⟨123,yi,yaX,yfo,[]⟩:=run' U2 okN
theorem abQ:u7 ⟨72,yB,yaX,yfo,[]⟩:=run' oN (okC amI okN)
theorem Wd:u7 ⟨123,yi,ybJ,yfo,[]⟩:=run' U2 okN
theorem Wh:u7 ⟨213,yi,ybJ,yaF,[yT,yh]⟩:=run' cu (okC Wd okN)
theorem Wi:u7 ⟨369,yba,yal,yb7,[]⟩:=run' bX okN
theorem Wj:u7 ⟨370,ybj,yal,ybZ,[C 1 [ybX,ye6,ye6,[ygi],[ygi],[ygi],ycK]]⟩:=run' bY okN
theorem abR:u7 ⟨112,yB,yaX,yfr,ycy⟩:=run' eG (okC Wh (okC Wi (okC Wj okN)))
theorem abS:u7 ⟨308,ybc,yal,yaA,[C 1 [ybX,ye6,ye6,[ygi],[ygi],[ygi],yfH]]⟩:=run' I4 okN
theorem amJ:u7 ⟨308,ybd,yal,yaA,yej⟩:=run' I4 okN
theorem amK:u7 ⟨308,ybe,yal,yaA,yej⟩:=run' I4 okN
theorem amL:u7 ⟨308,ybf,yal,yaA,yc1⟩:=run' I4 okN
theorem amM:u7 ⟨308,ybg,yal,yaA,yc1⟩:=run' I4 okN
theorem abT:u7 ⟨308,ybh,yal,yaA,yc1⟩:=run' I4 okN
theorem amN:u7 ⟨308,ybi,yal,yaA,[C 1 [ycQ,[J 98],[J 98],[J 109],[J 109],[J 109],ybX]]⟩:=run' I4 okN
theorem amO:u7 ⟨214,yba,yal,yb0,[C 2 [ycH,[yfK,yfx],[yfK,yfx],[ygi,ygi],[ygi,ygi],[ygi,ygi],yca]]⟩:=run' fq (okC Wi (okC Wj (okC abS (okC amJ (okC amK (okC amL (okC amM (okC abT (okC amN okN)))))))))
theorem amP:u7 ⟨69,yaC,yaX,yb1,[C 3 [[ygK,ygi,ygi]]]⟩:=run' pG (okC abQ (okC abR (okC Wd (okC Wh (okC amO okN)))))
theorem amQ:u7 ⟨122,yax,ybJ,ych,[]⟩:=run' eZ (okC Wd (okC Wh (okC Wi (okC Wj (okC abT (okC abS okN))))))
theorem amR:u7 ⟨71,yay,yaX,ych,[]⟩:=run' qm (okC amP (okC abQ (okC abR (okC amQ okN))))
theorem amS:u7 ⟨128,ybq,[yv,ya,yk,yaB,yfp,yfn,yaE,yfn,ybW,ycg,C 8 [[yfo,yfs,yfu,Z,ygi,yfo,yfo,yfo]]],tt,[]⟩:=run' fI (okC amR okN)
theorem amT:u7 ⟨123,yi,yaY,yfo,[]⟩:=run' U2 okN
theorem abU:u7 ⟨72,yB,yaY,yfo,[]⟩:=run' oN (okC amT okN)
theorem Wl:u7 ⟨123,yi,ybK,yfo,[]⟩:=run' U2 okN
theorem Wm:u7 ⟨213,yi,ybK,yaF,[yU,yh]⟩:=run' cu (okC Wl okN)
theorem Wn:u7 ⟨369,yba,yam,yb7,[]⟩:=run' bX okN
theorem Wo:u7 ⟨370,ybj,yam,ybZ,[C 1 [ybX,ye3,ye3,[ygj],[ygj],[ygj],ycK]]⟩:=run' bY okN
theorem abV:u7 ⟨112,yB,yaY,yfr,ycy⟩:=run' eG (okC Wm (okC Wn (okC Wo okN)))
theorem abW:u7 ⟨308,ybc,yam,yaA,[C 1 [ybX,ye3,ye3,[ygj],[ygj],[ygj],yfH]]⟩:=run' I4 okN
theorem amU:u7 ⟨308,ybd,yam,yaA,yel⟩:=run' I4 okN
theorem amV:u7 ⟨308,ybe,yam,yaA,yel⟩:=run' I4 okN
theorem amW:u7 ⟨308,ybf,yam,yaA,yc3⟩:=run' I4 okN
theorem amX:u7 ⟨308,ybg,yam,yaA,yc3⟩:=run' I4 okN
theorem abX:u7 ⟨308,ybh,yam,yaA,yc3⟩:=run' I4 okN
theorem amY:u7 ⟨308,ybi,yam,yaA,[C 1 [ycQ,[J 97],[J 97],[J 108],[J 108],[J 108],ybX]]⟩:=run' I4 okN
theorem amZ:u7 ⟨214,yba,yam,yb0,[C 2 [ycH,[yfK,yf5],[yfK,yf5],[ygj,ygj],[ygj,ygj],[ygj,ygj],yca]]⟩:=run' fq (okC Wn (okC Wo (okC abW (okC amU (okC amV (okC amW (okC amX (okC abX (okC amY okN)))))))))
theorem an0:u7 ⟨69,yaC,yaY,yb1,[C 3 [[ygK,ygj,ygj]]]⟩:=run' pG (okC abU (okC abV (okC Wl (okC Wm (okC amZ okN)))))
theorem an1:u7 ⟨122,yax,ybK,ych,[]⟩:=run' eZ (okC Wl (okC Wm (okC Wn (okC Wo (okC abX (okC abW okN))))))
theorem an2:u7 ⟨71,yay,yaY,ych,[]⟩:=run' qm (okC an0 (okC abU (okC abV (okC an1 okN))))
theorem an3:u7 ⟨128,ybq,[yv,ya,yk,yaB,yfp,yfn,yaE,yfn,ybW,ycg,C 8 [[yfo,yfs,yfu,Z,ygj,yfo,yfo,yfo]]],tt,[]⟩:=run' fI (okC an2 okN)
theorem an4:u7 ⟨123,yi,yaZ,yfo,[]⟩:=run' U2 okN
end Go.Proofs.YtfnlnpllpfhhnaaGreatDoor.TT
