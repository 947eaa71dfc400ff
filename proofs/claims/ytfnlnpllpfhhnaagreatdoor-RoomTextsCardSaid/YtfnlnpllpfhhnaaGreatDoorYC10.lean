/- Calls of the fixed example, each computed by the kernel; no condition. -/
import Derived.Test.YtfnlnpllpfhhnaaGreatDoorYC9
set_option linter.unusedSimpArgs false
set_option linter.unusedVariables false
namespace Go.Proofs.YtfnlnpllpfhhnaaGreatDoor.TT
open Go Go.AM
set_option maxRecDepth 1000000
theorem XV:u7 ⟨370,ybj,yac,ybZ,[C 1 [ybX,yb4,yb4,yfm,yfm,yfm,ycK]]⟩:=run' bY okN
theorem adl:u7 ⟨112,yB,yaP,yfr,ycy⟩:=run' eG (okC XT (okC XU (okC XV okN)))
theorem adn:u7 ⟨308,ybc,yac,yaA,[C 1 [ybX,yb4,yb4,yfm,yfm,yfm,yfH]]⟩:=run' I4 okN
theorem aqp:u7 ⟨308,ybd,yac,yaA,yeT⟩:=run' I4 okN
theorem aqr:u7 ⟨308,ybe,yac,yaA,yeT⟩:=run' I4 okN
theorem aqs:u7 ⟨308,ybf,yac,yaA,ydF⟩:=run' I4 okN
theorem aqt:u7 ⟨308,ybg,yac,yaA,ydF⟩:=run' I4 okN
theorem Rc:u7 ⟨308,ybh,yac,yaA,ydF⟩:=run' I4 okN
theorem ado:u7 ⟨308,ybi,yac,yaA,[C 1 [ycQ,ydN,ydN,[J 89],[J 89],[J 89],ybX]]⟩:=run' I4 okN
theorem adp:u7 ⟨214,yba,yac,yb0,[C 2 [ycH,[yfX,yfI],[yfX,yfI],[ygc,ygc],[ygc,ygc],[ygc,ygc],yca]]⟩:=run' fq (okC XU (okC XV (okC adn (okC aqp (okC aqr (okC aqs (okC aqt (okC Rc (okC ado okN)))))))))
theorem adq:u7 ⟨69,yaC,yaP,yb1,[C 3 [[ygK,ygc,ygc]]]⟩:=run' pG (okC adk (okC adl (okC XR (okC XT (okC adp okN)))))
theorem adr:u7 ⟨122,yax,ybB,ycs,[]⟩:=run' eZ (okC XR (okC XT (okC XU (okC XV (okC Rc (okC adn okN))))))
theorem ads:u7 ⟨71,yay,yaP,ycs,[]⟩:=run' qm (okC adq (okC adk (okC adl (okC adr okN))))
theorem adt:u7 ⟨128,ybq,[yv,ya,yk,yaB,yfp,yfn,yaE,yfn,ybW,ycg,C 8 [[yfo,yfs,yfu,Z,ygc,yfo,yfo,yfo]]],tt,[]⟩:=run' fI (okC ads okN)
theorem adu:u7 ⟨123,yi,yaQ,yfo,[]⟩:=run' U2 okN
theorem Rf:u7 ⟨72,yB,yaQ,yfo,[]⟩:=run' oN (okC adu okN)
theorem MN:u7 ⟨123,yi,ybC,yfo,[]⟩:=run' U2 okN
theorem MO:u7 ⟨213,yi,ybC,yaF,[yL,yh]⟩:=run' cu (okC MN okN)
theorem MP:u7 ⟨369,yba,yad,yb7,[]⟩:=run' bX okN
theorem MQ:u7 ⟨370,ybj,yad,ybZ,[C 1 [ybX,yb4,yb4,[yf2],[yf2],[yf2],ycK]]⟩:=run' bY okN
theorem Rh:u7 ⟨112,yB,yaQ,yfr,ycy⟩:=run' eG (okC MO (okC MP (okC MQ okN)))
theorem Ri:u7 ⟨308,ybc,yad,yaA,[C 1 [ybX,yb4,yb4,[yf2],[yf2],[yf2],yfH]]⟩:=run' I4 okN
theorem adv:u7 ⟨308,ybd,yad,yaA,yeV⟩:=run' I4 okN
theorem adw:u7 ⟨308,ybe,yad,yaA,yeV⟩:=run' I4 okN
theorem adx:u7 ⟨308,ybf,yad,yaA,ydH⟩:=run' I4 okN
theorem ady:u7 ⟨308,ybg,yad,yaA,ydH⟩:=run' I4 okN
theorem Rj:u7 ⟨308,ybh,yad,yaA,ydH⟩:=run' I4 okN
theorem adz:u7 ⟨308,ybi,yad,yaA,[C 1 [ycQ,ydN,ydN,[J 88],[J 88],[J 88],ybX]]⟩:=run' I4 okN
theorem adA:u7 ⟨214,yba,yad,yb0,[C 2 [ycH,[yf6,yfI],[yf6,yfI],[yf2,yf2],[yf2,yf2],[yf2,yf2],yca]]⟩:=run' fq (okC MP (okC MQ (okC Ri (okC adv (okC adw (okC adx (okC ady (okC Rj (okC adz okN)))))))))
theorem adB:u7 ⟨69,yaC,yaQ,yb1,[C 3 [[ygK,yf2,yf2]]]⟩:=run' pG (okC Rf (okC Rh (okC MN (okC MO (okC adA okN)))))
theorem adC:u7 ⟨122,yax,ybC,ycs,[]⟩:=run' eZ (okC MN (okC MO (okC MP (okC MQ (okC Rj (okC Ri okN))))))
theorem adD:u7 ⟨71,yay,yaQ,ycs,[]⟩:=run' qm (okC adB (okC Rf (okC Rh (okC adC okN))))
theorem adE:u7 ⟨128,ybq,[yv,ya,yk,yaB,yfp,yfn,yaE,yfn,ybW,ycg,C 8 [[yfo,yfs,yfu,Z,yf2,yfo,yfo,yfo]]],tt,[]⟩:=run' fI (okC adD okN)
theorem adF:u7 ⟨123,yi,yaR,yfo,[]⟩:=run' U2 okN
theorem Rk:u7 ⟨72,yB,yaR,yfo,[]⟩:=run' oN (okC adF okN)
theorem MR:u7 ⟨123,yi,ybD,yfo,[]⟩:=run' U2 okN
theorem MS:u7 ⟨213,yi,ybD,yaF,[yM,yh]⟩:=run' cu (okC MR okN)
theorem MU:u7 ⟨369,yba,yae,yb7,[]⟩:=run' bX okN
theorem MV:u7 ⟨370,ybj,yae,ybZ,ycM⟩:=run' bY okN
theorem Rm:u7 ⟨112,yB,yaR,yfr,ycy⟩:=run' eG (okC MS (okC MU (okC MV okN)))
theorem Rn:u7 ⟨308,ybc,yae,yaA,ycO⟩:=run' I4 okN
theorem adG:u7 ⟨308,ybd,yae,yaA,yeX⟩:=run' I4 okN
theorem adH:u7 ⟨308,ybe,yae,yaA,yeX⟩:=run' I4 okN
theorem adI:u7 ⟨308,ybf,yae,yaA,ydJ⟩:=run' I4 okN
theorem adJ:u7 ⟨308,ybg,yae,yaA,ydJ⟩:=run' I4 okN
theorem Ro:u7 ⟨308,ybh,yae,yaA,ydJ⟩:=run' I4 okN
theorem adK:u7 ⟨308,ybi,yae,yaA,yd4⟩:=run' I4 okN
theorem adL:u7 ⟨214,yba,yae,yb0,[C 2 [ycH,ye5,ye5,[yfJ,yfJ],[yfJ,yfJ],[yfJ,yfJ],yca]]⟩:=run' fq (okC MU (okC MV (okC Rn (okC adG (okC adH (okC adI (okC adJ (okC Ro (okC adK okN)))))))))
theorem adM:u7 ⟨69,yaC,yaR,yb1,[C 3 [[ygK,yfJ,yfJ]]]⟩:=run' pG (okC Rk (okC Rm (okC MR (okC MS (okC adL okN)))))
theorem adN:u7 ⟨122,yax,ybD,ycs,[]⟩:=run' eZ (okC MR (okC MS (okC MU (okC MV (okC Ro (okC Rn okN))))))
theorem adO:u7 ⟨71,yay,yaR,ycs,[]⟩:=run' qm (okC adM (okC Rk (okC Rm (okC adN okN))))
theorem adP:u7 ⟨128,ybq,[yv,ya,yk,yaB,yfp,yfn,yaE,yfn,ybW,ycg,C 8 [[yfo,yfs,yfu,Z,yfJ,yfo,yfo,yfo]]],tt,[]⟩:=run' fI (okC adO okN)
theorem adQ:u7 ⟨33,[ycE,yfy,ygK,yfs,yfE,yfu],[yb,yfp,yfn,yfO,yfn,yfp,yfP,C 8 [[yfo,yfs,S 23 0 1 1,Z,yfo,yfo,yfo,yfo]],yfn],V [S 24 0 1 1,yfo],[C 1 [ybX]]⟩:=run' arI (okC al8 (okC VB (okC abv (okC alM (okC alN (okC alY (okC am9 (okC amk (okC amw (okC amH (okC amS (okC an3 (okC anf (okC anr (okC anE (okC anP (okC ao0 (okC aob (okC aom (okC aox (okC aoI (okC aoT (okC ap4 (okC apf (okC aps (okC apD (okC apO (okC apZ (okC aqc (okC aqn (okC adt (okC adE (okC adP okN)))))))))))))))))))))))))))))))))
theorem Rp:u7 ⟨147,[ygK],[],j5.str [50],[]⟩:=run' xZ okN
theorem Rq:u7 ⟨147,[I 4],[],j5.str [52],[]⟩:=run' xZ okN
theorem Rs:u7 ⟨147,[I 20],[],j5.str [50,48],[]⟩:=run' xZ okN
theorem Rt:u7 ⟨147,[I 7],[],j5.str [55],[]⟩:=run' xZ okN
theorem Ru:u7 ⟨147,[ygM],[],j5.str [51],[]⟩:=run' xZ okN
theorem adR:u7 ⟨9,ycP,[],V [ydK,yfo],[]⟩:=run' is9 (okC al7 (okC Rp (okC Rq (okC Rs (okC Rt (okC Ru okN))))))
theorem adS:u7 ⟨147,[yfy],[],j5.str [53],[]⟩:=run' xZ okN
theorem adT:u7 ⟨147,[ygJ],[],j5.str [49],[]⟩:=run' xZ okN
theorem adU:u7 ⟨147,[I 27],[],j5.str [50,55],[]⟩:=run' xZ okN
theorem adV:u7 ⟨147,[I 2061400866],[],j5.str [50,48,54,49,52,48,48,56,54,54],[]⟩:=run' xZ okN
theorem adW:u7 ⟨10,[yfy,ycq],[],V [U 15 0 2 1,yfo],[C 1 [[j5.str [114,101,99,111,114,100,32,53,32,49,32,50,55,32,50,48,54,49,52,48,48,56,54,54]],[ydK]]]⟩:=run' arK (okC al7 (okC Rp (okC Rq (okC Rs (okC Rt (okC Ru (okC adS (okC adT (okC adU (okC adV okN))))))))))
end Go.Proofs.YtfnlnpllpfhhnaaGreatDoor.TT
