/- Calls of the fixed example, each computed by the kernel; no condition. -/
import Derived.Test.YtfnlnpllpfhhnaaGreatDoorXB4
set_option linter.unusedSimpArgs false
set_option linter.unusedVariables false
namespace Go.Proofs.YtfnlnpllpfhhnaaGreatDoor.TT
open Go Go.AM
set_option maxRecDepth 1000000
theorem qo0:r9 ⟨36,[A yfy],[],tt,[]⟩:=run' Io okN
theorem qo3:r9 ⟨123,ydW,[C 8 [ygv]],yfk,[]⟩:=run' P7 okN
theorem qo4:r9 ⟨36,[A yfu],[],tt,[]⟩:=run' Io (okC qo3 okN)
theorem qo7:r9 ⟨123,ydW,[C 8 [ygu]],yfk,[]⟩:=run' P7 okN
theorem qo8:r9 ⟨36,[A yft],[],tt,[]⟩:=run' Io (okC qo7 okN)
theorem aqF:r9 ⟨123,ydW,[C 8 [ygy]],yfk,[]⟩:=run' P7 okN
theorem aqG:r9 ⟨36,[A yfv],[],tt,[]⟩:=run' Io (okC aqF okN)
theorem aqH:r9 ⟨36,[A yfw],[],tt,[]⟩:=run' Io okN
theorem aqI:r9 ⟨36,[A [ygD,yfI,yfs,yfs,yfk,yfk,yfk,yfk,yfk,yfk,yfk,yfk,yfk,yfk,yfk,yfk,yfk,yfk,yfk,yfk,yfk,I 10,S 15 0 1 1,S 16 0 1 1,J 19,ygD,ygI,I 200,yfk,Z,yfk,yfk]],[yfl,yfj],tt,[]⟩:=run' Io okN
theorem aqJ:r9 ⟨36,[A [ygE,ygD,I 9,yfI,yfk,yfk,yfk,yfk,yfk,yfk,yfk,yfk,yfk,yfk,yfk,yfk,yfk,yfk,yfk,yfk,yfk,yfk,Z,Z,yfk,yfk,yfk,yfk,I 12,S 15 0 2 2,yfk,yfk]],[yfJ],tt,[]⟩:=run' Io okN
theorem aqK:r9 ⟨36,[A [ygE,ygE,I 9,yfs,yfk,yfk,yfk,yfk,yfk,yfk,yfk,yfk,yfk,yfk,yfk,yfk,yfk,yfk,yfk,yfk,yfk,yfp,S 15 0 1 1,S 16 0 1 1,ygI,ygD,yfk,yfk,yfk,Z,yfk,yfk]],[yfj,yfl],tt,[]⟩:=run' Io okN
theorem aqL:r9 ⟨36,[A [ygE,ygH,I 12,yfs,yfk,yfk,yfk,yfk,yfk,yfk,yfk,yfk,yfk,yfk,yfk,yfk,yfk,yfk,yfk,yfk,yfk,yfp,S 15 0 1 1,Z,ygG,yfk,yfk,yfk,yfk,Z,yfk,yfk]],[yfH],tt,[]⟩:=run' Io okN
theorem aqM:r9 ⟨36,[A yfx],[],tt,[]⟩:=run' Io okN
theorem abF:r9 ⟨187,[ycy],yb,yb6,[]⟩:=run' VQ (okC qo0 (okC qo4 (okC qo8 (okC aqG (okC aqH (okC aqI (okC aqJ (okC aqK (okC aqL (okC aqM okN))))))))))
theorem aqN:r9 ⟨110,[ycy,yfs],yb,yeU,ycr⟩:=run' Il okN
theorem abG:r9 ⟨123,yeW,yaD,yfk,[]⟩:=run' P7 okN
theorem abH:r9 ⟨72,yeV,yaD,yfk,[]⟩:=run' mX (okC abG okN)
theorem aoP:r9 ⟨68,[ycy,yfs],yb,V [yeU,yfk],ycr⟩:=run' VP (okC abF (okC aqN (okC abH okN)))
theorem aqO:r9 ⟨213,yeW,yaD,V [A [yfI,U 20 0 12 3],U 21 0 12 2,yfk],[yb2,C 2 [yfP,yfP,yfF,yfF,yfV,yfV,yfD,yfD,yfW,yfW,yfK,yfK]]⟩:=run' bB (okC abG okN)
theorem aqP:r9 ⟨369,[A [yfI,U 15 0 12 3]],ycv,yb6,[]⟩:=run' aZ okN
theorem aqQ:r9 ⟨370,[A [yfI,U 15 0 12 3],j6.nilMap],ycv,V [S 16 0 6 6,tt],[C 1 [ybX,yb3,yb3,ygr,ygr,ycF]]⟩:=run' bf okN
theorem ahR:r9 ⟨112,yeV,yaD,yfm,ycu⟩:=run' cZ (okC aqO (okC aqP (okC aqQ okN)))
theorem ahS:r9 ⟨123,ydY,yco,yfk,[]⟩:=run' P7 okN
theorem aoQ:r9 ⟨213,ydY,yco,V [A [I 7,U 21 0 14 3],U 22 0 14 2,yfk],[yav,C 2 [yfP,yfP,yfF,yfF,yfV,yfV,yfD,yfD,yfD,yfD,yfW,yfW,yfK,yfK]]⟩:=run' bB (okC ahS okN)
theorem aoR:r9 ⟨369,ye8,yax,yb6,[]⟩:=run' aZ okN
theorem aoS:r9 ⟨370,yfe,yax,ybY,ycH⟩:=run' bf okN
theorem aoT:r9 ⟨308,yfa,yax,yay,ycJ⟩:=run' I5 okN
theorem aqR:r9 ⟨308,[ycq,j6.nilMap,ygD],yax,yay,ycA⟩:=run' I5 okN
theorem aqS:r9 ⟨308,[ycq,j6.nilMap,ygE],yax,yay,ycA⟩:=run' I5 okN
theorem aqT:r9 ⟨308,[ycq,j6.nilMap,ygH],yax,yay,ycc⟩:=run' I5 okN
theorem aqU:r9 ⟨308,[ycq,j6.nilMap,I 4],yax,yay,ycc⟩:=run' I5 okN
theorem aoU:r9 ⟨308,yfb,yax,yay,ycc⟩:=run' I5 okN
theorem aqV:r9 ⟨308,[ycq,j6.nilMap,yfI],yax,yay,yd0⟩:=run' I5 okN
theorem aqW:r9 ⟨214,ye8,yax,ybZ,[C 2 [ycB,ycx,ycx,ygA,ygA,ygA,yb9]]⟩:=run' dB (okC aoR (okC aoS (okC aoT (okC aqR (okC aqS (okC aqT (okC aqU (okC aoU (okC aqV okN)))))))))
theorem ahT:r9 ⟨69,[ydG,ygE,yfp],yaD,V [U 20 0 1 3,yfk],[C 3 [[ygE,yfQ,yfB]]]⟩:=run' nE (okC abH (okC ahR (okC abG (okC ahS (okC aoQ (okC aqW okN))))))
theorem aqX:r9 ⟨30,[ycy,yfs,ygE,yfp],yb,yfc,[C 3 [[ygE,yfQ,yfB]]]⟩:=run' VO (okC aoP (okC ahT okN))
theorem aqY:r9 ⟨110,[ycy,I 9],yb,ycw,yaE⟩:=run' Il okN
theorem aoV:r9 ⟨123,yg,yce,yfk,[]⟩:=run' P7 okN
theorem abI:r9 ⟨72,ydQ,ybl,yfk,[]⟩:=run' mX (okC aoV okN)
theorem aoW:r9 ⟨68,[ycy,I 9],yb,ydK,yaE⟩:=run' VP (okC abF (okC aqY (okC abI okN)))
theorem aoX:r9 ⟨213,yg,yce,ye4,[ybq,C 2 [yfP,yfP,yfF,yfF,yfF,yfF,yfV,yfV,yfD,yfD,yfD,yfD,yfW,yfW,yfK,yfK,ygn,ygn]]⟩:=run' bB (okC aoV okN)
theorem aoY:r9 ⟨369,ye9,ych,yb6,[]⟩:=run' aZ okN
theorem aoZ:r9 ⟨370,yff,ych,V [Z,ff],[]⟩:=run' bf okN
theorem ahU:r9 ⟨123,yg,ybo,yfk,[]⟩:=run' P7 okN
theorem abJ:r9 ⟨213,yg,ybo,ye4,[yv,C 2 [yfP,yfP,yfF,yfF,yfF,yfF,yfV,yfV,yfD,yfD,yfW,yfW,ygC,ygC,yfK,yfK,ygn,ygn]]⟩:=run' bB (okC ahU okN)
theorem abK:r9 ⟨369,ye9,yz,yb6,[]⟩:=run' aZ okN
theorem abL:r9 ⟨370,yff,yz,V [ydL,tt],[C 1 [ybX,yeZ,yeZ,ye2,yfh,yfh,ycF,ycF]]⟩:=run' bf okN
theorem ap0:r9 ⟨112,ydQ,ybl,U 24 0 1 1,[C 1 [[S 25 0 1 1],[Z]],C 1 [[U 26 0 2 1]],C 1 [[ygH],[ygE]]]⟩:=run' cZ (okC aoX (okC aoY (okC aoZ (okC abJ (okC abK (okC abL okN))))))
theorem ap1:r9 ⟨308,[ycs,j6.nilMap,yfk],yz,ydL,[C 1 [ybX,ye0,ye0,ye3,yfi,yfi,yfz,yfz]]⟩:=run' I5 okN
theorem aqZ:r9 ⟨308,[ycs,j6.nilMap,ygD],yz,ydL,ydS⟩:=run' I5 okN
theorem ar0:r9 ⟨308,[ycs,j6.nilMap,ygE],yz,ydL,ydS⟩:=run' I5 okN
theorem ar1:r9 ⟨308,[ycs,j6.nilMap,ygH],yz,ydL,[C 1 [[J 997],[ygD],[ygD],ybX,[I 7],[I 7],[ygx],[ygx]]]⟩:=run' I5 okN
theorem ar2:r9 ⟨308,[ycs,j6.nilMap,I 4],yz,ydL,ydN⟩:=run' I5 okN
theorem ar3:r9 ⟨308,[ycs,j6.nilMap,yfs],yz,ydL,ydN⟩:=run' I5 okN
theorem ar4:r9 ⟨308,[ycs,j6.nilMap,yfI],yz,ydL,ydP⟩:=run' I5 okN
theorem ap2:r9 ⟨308,[ycs,j6.nilMap,I 7],yz,ydL,ydP⟩:=run' I5 okN
theorem ar5:r9 ⟨214,ye9,yz,V [U 16 0 8 2,yfk],[C 2 [ycB,[yfG,yfO],[yfG,yfO],[yfG,yfR],[yf2,yf5],[yf2,yf5],yb9,yb9]]⟩:=run' dB (okC abK (okC abL (okC ap1 (okC aqZ (okC ar0 (okC ar1 (okC ar2 (okC ar3 (okC ar4 (okC ap2 okN))))))))))
theorem ahV:r9 ⟨69,[ycM,ygE,yfp],ybl,V [U 24 0 1 3,yfk],yeY⟩:=run' nE (okC abI (okC ap0 (okC ahU (okC abJ (okC ar5 okN)))))
theorem ar6:r9 ⟨30,[ycy,I 9,ygE,yfp],yb,yfc,yeY⟩:=run' VO (okC aoW (okC ahV okN))
theorem ar7:r9 ⟨110,yfd,yb,ydT,yb1⟩:=run' Il okN
theorem ap3:r9 ⟨123,ycD,yb4,yfk,[]⟩:=run' P7 okN
end Go.Proofs.YtfnlnpllpfhhnaaGreatDoor.TT
