/- Calls of the fixed example, each computed by the kernel; no condition. -/
import Derived.Test.YtfnlnpllpfhhnaaGreatDoorYC2
set_option linter.unusedSimpArgs false
set_option linter.unusedVariables false
namespace Go.Proofs.YtfnlnpllpfhhnaaGreatDoor.TT
open Go Go.AM
set_option maxRecDepth 1000000
theorem alJ:u7 ⟨370,yfi,ybm,ybZ,ycM⟩:=run' bY okN
theorem alK:u7 ⟨308,yfe,ybm,yaA,ycO⟩:=run' I4 okN
theorem alL:u7 ⟨308,yff,ybm,yaA,ycd⟩:=run' I4 okN
theorem alM:u7 ⟨74,[ycz,A [yfo,yfs,yft,Z,yfo,yfo,yfo,yfo]],[ya,yk,C 8 [yd],yfp,yfn,yfn],V [A ygu,tt],[]⟩:=run' arJ (okC afc (okC al9 (okC abv (okC abq (okC alH (okC alI (okC alJ (okC alK (okC alL okN)))))))))
theorem alN:u7 ⟨128,[j5.ptr 15 0,Z],[yv,ya,yk,yaB,yfp,yfn,yaE,yfn,ybW,ycg],ff,[]⟩:=run' fI (okC VB okN)
theorem alO:u7 ⟨123,yi,yaS,yfo,[]⟩:=run' U2 okN
theorem abw:u7 ⟨72,yB,yaS,yfo,[]⟩:=run' oN (okC alO okN)
theorem VD:u7 ⟨123,yi,ybE,yfo,[]⟩:=run' U2 okN
theorem VE:u7 ⟨213,yi,ybE,yaF,[yO,yh]⟩:=run' cu (okC VD okN)
theorem VF:u7 ⟨369,yba,yag,yb7,[]⟩:=run' bX okN
theorem VG:u7 ⟨370,ybj,yag,ybZ,[C 1 [ybX,[yfK],[yfK],[yfW],[yfW],[yfW],ycK]]⟩:=run' bY okN
theorem abx:u7 ⟨112,yB,yaS,yfr,ycy⟩:=run' eG (okC VE (okC VF (okC VG okN)))
theorem aby:u7 ⟨308,ybc,yag,yaA,[C 1 [ybX,[yfK],[yfK],[yfW],[yfW],[yfW],yfH]]⟩:=run' I4 okN
theorem alP:u7 ⟨308,ybd,yag,yaA,yd6⟩:=run' I4 okN
theorem alQ:u7 ⟨308,ybe,yag,yaA,yd6⟩:=run' I4 okN
theorem alR:u7 ⟨308,ybf,yag,yaA,ycd⟩:=run' I4 okN
theorem alS:u7 ⟨308,ybg,yag,yaA,ycd⟩:=run' I4 okN
theorem abz:u7 ⟨308,ybh,yag,yaA,ycd⟩:=run' I4 okN
theorem alT:u7 ⟨308,ybi,yag,yaA,[C 1 [ycQ,[J 103],[J 103],[J 114],[J 114],[J 114],ybX]]⟩:=run' I4 okN
theorem alU:u7 ⟨214,yba,yag,yb0,[C 2 [ycH,yfa,yfa,[yfW,yfW],[yfW,yfW],[yfW,yfW],yca]]⟩:=run' fq (okC VF (okC VG (okC aby (okC alP (okC alQ (okC alR (okC alS (okC abz (okC alT okN)))))))))
theorem alV:u7 ⟨69,yaC,yaS,yb1,[C 3 [[ygK,yfW,yfW]]]⟩:=run' pG (okC abw (okC abx (okC VD (okC VE (okC alU okN)))))
theorem alW:u7 ⟨122,yax,ybE,ych,[]⟩:=run' eZ (okC VD (okC VE (okC VF (okC VG (okC abz (okC aby okN))))))
theorem alX:u7 ⟨71,yay,yaS,ych,[]⟩:=run' qm (okC alV (okC abw (okC abx (okC alW okN))))
theorem alY:u7 ⟨128,ybq,[yv,ya,yk,yaB,yfp,yfn,yaE,yfn,ybW,ycg,C 8 [[yfo,yfs,yfu,Z,yfW,yfo,yfo,yfo]]],tt,[]⟩:=run' fI (okC alX okN)
theorem alZ:u7 ⟨123,yi,yaT,yfo,[]⟩:=run' U2 okN
theorem abA:u7 ⟨72,yB,yaT,yfo,[]⟩:=run' oN (okC alZ okN)
theorem VH:u7 ⟨123,yi,ybF,yfo,[]⟩:=run' U2 okN
theorem VI:u7 ⟨213,yi,ybF,yaF,[yP,yh]⟩:=run' cu (okC VH okN)
theorem VJ:u7 ⟨369,yba,yah,yb7,[]⟩:=run' bX okN
theorem VK:u7 ⟨370,ybj,yah,ybZ,[C 1 [ybX,[yfT],[yfT],[ygf],[ygf],[ygf],ycK]]⟩:=run' bY okN
theorem abB:u7 ⟨112,yB,yaT,yfr,ycy⟩:=run' eG (okC VI (okC VJ (okC VK okN)))
theorem abC:u7 ⟨308,ybc,yah,yaA,[C 1 [ybX,[yfT],[yfT],[ygf],[ygf],[ygf],yfH]]⟩:=run' I4 okN
theorem am0:u7 ⟨308,ybd,yah,yaA,yeb⟩:=run' I4 okN
theorem am1:u7 ⟨308,ybe,yah,yaA,yeb⟩:=run' I4 okN
theorem am2:u7 ⟨308,ybf,yah,yaA,ycT⟩:=run' I4 okN
theorem am3:u7 ⟨308,ybg,yah,yaA,ycT⟩:=run' I4 okN
theorem abD:u7 ⟨308,ybh,yah,yaA,ycT⟩:=run' I4 okN
theorem am4:u7 ⟨308,ybi,yah,yaA,[C 1 [ycQ,[J 102],[J 102],[J 113],[J 113],[J 113],ybX]]⟩:=run' I4 okN
theorem am5:u7 ⟨214,yba,yah,yb0,[C 2 [ycH,[yfK,yfT],[yfK,yfT],[ygf,ygf],[ygf,ygf],[ygf,ygf],yca]]⟩:=run' fq (okC VJ (okC VK (okC abC (okC am0 (okC am1 (okC am2 (okC am3 (okC abD (okC am4 okN)))))))))
theorem am6:u7 ⟨69,yaC,yaT,yb1,[C 3 [[ygK,ygf,ygf]]]⟩:=run' pG (okC abA (okC abB (okC VH (okC VI (okC am5 okN)))))
theorem am7:u7 ⟨122,yax,ybF,ych,[]⟩:=run' eZ (okC VH (okC VI (okC VJ (okC VK (okC abD (okC abC okN))))))
theorem am8:u7 ⟨71,yay,yaT,ych,[]⟩:=run' qm (okC am6 (okC abA (okC abB (okC am7 okN))))
theorem am9:u7 ⟨128,ybq,[yv,ya,yk,yaB,yfp,yfn,yaE,yfn,ybW,ycg,C 8 [[yfo,yfs,yfu,Z,ygf,yfo,yfo,yfo]]],tt,[]⟩:=run' fI (okC am8 okN)
theorem ama:u7 ⟨123,yi,yaU,yfo,[]⟩:=run' U2 okN
theorem abE:u7 ⟨72,yB,yaU,yfo,[]⟩:=run' oN (okC ama okN)
theorem VL:u7 ⟨123,yi,ybG,yfo,[]⟩:=run' U2 okN
theorem VN:u7 ⟨213,yi,ybG,yaF,[yQ,yh]⟩:=run' cu (okC VL okN)
theorem VO:u7 ⟨369,yba,yai,yb7,[]⟩:=run' bX okN
theorem VP:u7 ⟨370,ybj,yai,ybZ,[C 1 [ybX,[yfU],[yfU],[ygg],[ygg],[ygg],ycK]]⟩:=run' bY okN
theorem abF:u7 ⟨112,yB,yaU,yfr,ycy⟩:=run' eG (okC VN (okC VO (okC VP okN)))
theorem abG:u7 ⟨308,ybc,yai,yaA,[C 1 [ybX,[yfU],[yfU],[ygg],[ygg],[ygg],yfH]]⟩:=run' I4 okN
theorem amb:u7 ⟨308,ybd,yai,yaA,yed⟩:=run' I4 okN
theorem amc:u7 ⟨308,ybe,yai,yaA,yed⟩:=run' I4 okN
theorem amd:u7 ⟨308,ybf,yai,yaA,ycV⟩:=run' I4 okN
theorem ame:u7 ⟨308,ybg,yai,yaA,ycV⟩:=run' I4 okN
theorem abH:u7 ⟨308,ybh,yai,yaA,ycV⟩:=run' I4 okN
theorem amf:u7 ⟨308,ybi,yai,yaA,[C 1 [ycQ,[J 101],[J 101],[J 112],[J 112],[J 112],ybX]]⟩:=run' I4 okN
theorem amg:u7 ⟨214,yba,yai,yb0,[C 2 [ycH,[yfK,yfU],[yfK,yfU],[ygg,ygg],[ygg,ygg],[ygg,ygg],yca]]⟩:=run' fq (okC VO (okC VP (okC abG (okC amb (okC amc (okC amd (okC ame (okC abH (okC amf okN)))))))))
theorem amh:u7 ⟨69,yaC,yaU,yb1,[C 3 [[ygK,ygg,ygg]]]⟩:=run' pG (okC abE (okC abF (okC VL (okC VN (okC amg okN)))))
theorem ami:u7 ⟨122,yax,ybG,ych,[]⟩:=run' eZ (okC VL (okC VN (okC VO (okC VP (okC abH (okC abG okN))))))
theorem amj:u7 ⟨71,yay,yaU,ych,[]⟩:=run' qm (okC amh (okC abE (okC abF (okC ami okN))))
theorem amk:u7 ⟨128,ybq,[yv,ya,yk,yaB,yfp,yfn,yaE,yfn,ybW,ycg,C 8 [[yfo,yfs,yfu,Z,ygg,yfo,yfo,yfo]]],tt,[]⟩:=run' fI (okC amj okN)
theorem aml:u7 ⟨123,yi,yaV,yfo,[]⟩:=run' U2 okN
theorem abI:u7 ⟨72,yB,yaV,yfo,[]⟩:=run' oN (okC aml okN)
theorem VQ:u7 ⟨123,yi,ybH,yfo,[]⟩:=run' U2 okN
theorem VR:u7 ⟨213,yi,ybH,yaF,[yR,yh]⟩:=run' cu (okC VQ okN)
theorem VT:u7 ⟨369,yba,yaj,yb7,[]⟩:=run' bX okN
theorem VU:u7 ⟨370,ybj,yaj,ybZ,[C 1 [ybX,[yfQ],[yfQ],[yf9],[yf9],[yf9],ycK]]⟩:=run' bY okN
theorem abJ:u7 ⟨112,yB,yaV,yfr,ycy⟩:=run' eG (okC VR (okC VT (okC VU okN)))
theorem abK:u7 ⟨308,ybc,yaj,yaA,[C 1 [ybX,[yfQ],[yfQ],[yf9],[yf9],[yf9],yfH]]⟩:=run' I4 okN
end Go.Proofs.YtfnlnpllpfhhnaaGreatDoor.TT
