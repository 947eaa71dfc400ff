/- Calls of the fixed example, each computed by the kernel; no condition. -/
import Derived.Test.YtfnlnpllpfhhnaaGreatDoorXC2
set_option linter.unusedSimpArgs false
set_option linter.unusedVariables false
namespace Go.Proofs.YtfnlnpllpfhhnaaGreatDoor.TT
open Go Go.AM
set_option maxRecDepth 1000000
theorem Qy:r9 ⟨213,yg,ybE,yaC,[yO,yf]⟩:=run' bB (okC Qx okN)
theorem Qz:r9 ⟨369,yaF,yag,yb6,[]⟩:=run' aZ okN
theorem QA:r9 ⟨370,yaO,yag,ybY,[C 1 [ybX,[yfL],[yfL],[yf8],[yf8],[yf8],ycF]]⟩:=run' bf okN
theorem XU:r9 ⟨112,yA,ya2,yfo,ycu⟩:=run' cZ (okC Qy (okC Qz (okC QA okN)))
theorem XV:r9 ⟨308,yaH,yag,yay,[C 1 [ybX,[yfL],[yfL],[yf8],[yf8],[yf8],yfz]]⟩:=run' I5 okN
theorem aiH:r9 ⟨308,yaI,yag,yay,yd7⟩:=run' I5 okN
theorem aiI:r9 ⟨308,yaJ,yag,yay,yd7⟩:=run' I5 okN
theorem aiJ:r9 ⟨308,yaK,yag,yay,ycP⟩:=run' I5 okN
theorem aiK:r9 ⟨308,yaL,yag,yay,ycP⟩:=run' I5 okN
theorem XW:r9 ⟨308,yaM,yag,yay,ycP⟩:=run' I5 okN
theorem aiL:r9 ⟨308,yaN,yag,yay,[C 1 [ycK,[J 102],[J 102],[J 113],[J 113],[J 113],ybX]]⟩:=run' I5 okN
theorem aiM:r9 ⟨214,yaF,yag,ybZ,[C 2 [ycB,[yfC,yfL],[yfC,yfL],[yf8,yf8],[yf8,yf8],[yf8,yf8],yb9]]⟩:=run' dB (okC Qz (okC QA (okC XV (okC aiH (okC aiI (okC aiJ (okC aiK (okC XW (okC aiL okN)))))))))
theorem aiN:r9 ⟨69,yaA,ya2,yb0,[C 3 [[ygE,yf8,yf8]]]⟩:=run' nE (okC XT (okC XU (okC Qx (okC Qy (okC aiM okN)))))
theorem aiO:r9 ⟨122,yaw,ybE,ycE,[]⟩:=run' dz (okC Qx (okC Qy (okC Qz (okC QA (okC XW (okC XV okN))))))
theorem aiP:r9 ⟨128,ybp,[yu,ya,yn,yaz,yfl,yfj,yaB,yfj,ybV,ycf,C 8 [[yfk,yfp,yfq,Z,yf8,yfk,yfk,yfk]]],tt,[]⟩:=run' dK (okC aiN (okC XT (okC XU (okC aiO okN))))
theorem aiQ:r9 ⟨123,yg,ya3,yfk,[]⟩:=run' P7 okN
theorem XY:r9 ⟨72,yA,ya3,yfk,[]⟩:=run' mX (okC aiQ okN)
theorem QB:r9 ⟨123,yg,ybF,yfk,[]⟩:=run' P7 okN
theorem QC:r9 ⟨213,yg,ybF,yaC,[yP,yf]⟩:=run' bB (okC QB okN)
theorem QD:r9 ⟨369,yaF,yah,yb6,[]⟩:=run' aZ okN
theorem QE:r9 ⟨370,yaO,yah,ybY,[C 1 [ybX,[yfM],[yfM],[yf9],[yf9],[yf9],ycF]]⟩:=run' bf okN
theorem XZ:r9 ⟨112,yA,ya3,yfo,ycu⟩:=run' cZ (okC QC (okC QD (okC QE okN)))
theorem Ya:r9 ⟨308,yaH,yah,yay,[C 1 [ybX,[yfM],[yfM],[yf9],[yf9],[yf9],yfz]]⟩:=run' I5 okN
theorem aiR:r9 ⟨308,yaI,yah,yay,yd9⟩:=run' I5 okN
theorem aiS:r9 ⟨308,yaJ,yah,yay,yd9⟩:=run' I5 okN
theorem aiT:r9 ⟨308,yaK,yah,yay,ycR⟩:=run' I5 okN
theorem aiU:r9 ⟨308,yaL,yah,yay,ycR⟩:=run' I5 okN
theorem Yb:r9 ⟨308,yaM,yah,yay,ycR⟩:=run' I5 okN
theorem aiV:r9 ⟨308,yaN,yah,yay,[C 1 [ycK,[J 101],[J 101],[J 112],[J 112],[J 112],ybX]]⟩:=run' I5 okN
theorem aiW:r9 ⟨214,yaF,yah,ybZ,[C 2 [ycB,[yfC,yfM],[yfC,yfM],[yf9,yf9],[yf9,yf9],[yf9,yf9],yb9]]⟩:=run' dB (okC QD (okC QE (okC Ya (okC aiR (okC aiS (okC aiT (okC aiU (okC Yb (okC aiV okN)))))))))
theorem aiX:r9 ⟨69,yaA,ya3,yb0,[C 3 [[ygE,yf9,yf9]]]⟩:=run' nE (okC XY (okC XZ (okC QB (okC QC (okC aiW okN)))))
theorem aiY:r9 ⟨122,yaw,ybF,ycE,[]⟩:=run' dz (okC QB (okC QC (okC QD (okC QE (okC Yb (okC Ya okN))))))
theorem aiZ:r9 ⟨128,ybp,[yu,ya,yn,yaz,yfl,yfj,yaB,yfj,ybV,ycf,C 8 [[yfk,yfp,yfq,Z,yf9,yfk,yfk,yfk]]],tt,[]⟩:=run' dK (okC aiX (okC XY (okC XZ (okC aiY okN))))
theorem aj0:r9 ⟨123,yg,ya4,yfk,[]⟩:=run' P7 okN
theorem Yc:r9 ⟨72,yA,ya4,yfk,[]⟩:=run' mX (okC aj0 okN)
theorem QF:r9 ⟨123,yg,ybG,yfk,[]⟩:=run' P7 okN
theorem QG:r9 ⟨213,yg,ybG,yaC,[yQ,yf]⟩:=run' bB (okC QF okN)
theorem QH:r9 ⟨369,yaF,yai,yb6,[]⟩:=run' aZ okN
theorem QI:r9 ⟨370,yaO,yai,ybY,[C 1 [ybX,[yfG],[yfG],[yf2],[yf2],[yf2],ycF]]⟩:=run' bf okN
theorem Yd:r9 ⟨112,yA,ya4,yfo,ycu⟩:=run' cZ (okC QG (okC QH (okC QI okN)))
theorem Ye:r9 ⟨308,yaH,yai,yay,[C 1 [ybX,[yfG],[yfG],[yf2],[yf2],[yf2],yfz]]⟩:=run' I5 okN
theorem aj1:r9 ⟨308,yaI,yai,yay,yeb⟩:=run' I5 okN
theorem aj2:r9 ⟨308,yaJ,yai,yay,yeb⟩:=run' I5 okN
theorem aj3:r9 ⟨308,yaK,yai,yay,ycT⟩:=run' I5 okN
theorem aj4:r9 ⟨308,yaL,yai,yay,ycT⟩:=run' I5 okN
theorem Yf:r9 ⟨308,yaM,yai,yay,ycT⟩:=run' I5 okN
theorem aj5:r9 ⟨308,yaN,yai,yay,[C 1 [ycK,[J 100],[J 100],[J 111],[J 111],[J 111],ybX]]⟩:=run' I5 okN
theorem aj6:r9 ⟨214,yaF,yai,ybZ,[C 2 [ycB,[yfC,yfG],[yfC,yfG],[yf2,yf2],[yf2,yf2],[yf2,yf2],yb9]]⟩:=run' dB (okC QH (okC QI (okC Ye (okC aj1 (okC aj2 (okC aj3 (okC aj4 (okC Yf (okC aj5 okN)))))))))
theorem aj7:r9 ⟨69,yaA,ya4,yb0,[C 3 [[ygE,yf2,yf2]]]⟩:=run' nE (okC Yc (okC Yd (okC QF (okC QG (okC aj6 okN)))))
theorem aj8:r9 ⟨122,yaw,ybG,ycE,[]⟩:=run' dz (okC QF (okC QG (okC QH (okC QI (okC Yf (okC Ye okN))))))
theorem aj9:r9 ⟨128,ybp,[yu,ya,yn,yaz,yfl,yfj,yaB,yfj,ybV,ycf,C 8 [[yfk,yfp,yfq,Z,yf2,yfk,yfk,yfk]]],tt,[]⟩:=run' dK (okC aj7 (okC Yc (okC Yd (okC aj8 okN))))
theorem aja:r9 ⟨123,yg,ya5,yfk,[]⟩:=run' P7 okN
theorem Yg:r9 ⟨72,yA,ya5,yfk,[]⟩:=run' mX (okC aja okN)
theorem QJ:r9 ⟨123,yg,ybH,yfk,[]⟩:=run' P7 okN
theorem QK:r9 ⟨213,yg,ybH,yaC,[yR,yf]⟩:=run' bB (okC QJ okN)
theorem QL:r9 ⟨369,yaF,yaj,yb6,[]⟩:=run' aZ okN
theorem QM:r9 ⟨370,yaO,yaj,ybY,[C 1 [ybX,[yfN],[yfN],[yga],[yga],[yga],ycF]]⟩:=run' bf okN
theorem Yh:r9 ⟨112,yA,ya5,yfo,ycu⟩:=run' cZ (okC QK (okC QL (okC QM okN)))
theorem Yi:r9 ⟨308,yaH,yaj,yay,[C 1 [ybX,[yfN],[yfN],[yga],[yga],[yga],yfz]]⟩:=run' I5 okN
theorem ajb:r9 ⟨308,yaI,yaj,yay,yed⟩:=run' I5 okN
theorem ajc:r9 ⟨308,yaJ,yaj,yay,yed⟩:=run' I5 okN
end Go.Proofs.YtfnlnpllpfhhnaaGreatDoor.TT
