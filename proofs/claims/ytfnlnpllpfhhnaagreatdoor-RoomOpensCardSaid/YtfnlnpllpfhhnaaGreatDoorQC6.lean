/- Calls of the fixed example, each computed by the kernel; no condition. -/
import Derived.Test.YtfnlnpllpfhhnaaGreatDoorQB0
set_option linter.all false
namespace Go.Proofs.YtfnlnpllpfhhnaaGreatDoor.TT
open Go Go.AM
set_option maxRecDepth 1000000
theorem atL:l6 ⟨308,yeX,yaM,U3,ybE⟩:=run' C9 D6
theorem atM:l6 ⟨123,yf,ya5,x9,[]⟩:=run' Q9 D6
theorem atN:l6 ⟨72,yz,ya5,x9,[]⟩:=run' kY.is (A9 atM D6)
theorem aho:l6 ⟨123,yf,ybZ,x9,[]⟩:=run' Q9 D6
theorem ahp:l6 ⟨213,yf,ybZ,Cw,[yN,yd]⟩:=run' dJ.is (A9 aho D6)
theorem ahq:l6 ⟨369,Cy,yaf,wE,[]⟩:=run' dD D6
theorem ahr:l6 ⟨370,Cx,yaf,Cz,[C 1 [L9,[Wm],[Wm],[YX],[YX],[YX],CB]]⟩:=run' dF D6
theorem atO:l6 ⟨112,yz,ya5,En,Er⟩:=run' fC.is (A9 ahp (A9 ahq (A9 ahr D6)))
theorem atP:l6 ⟨308,EL,yaf,U3,[C 1 [L9,[Wm],[Wm],[YX],[YX],[YX],CW]]⟩:=run' C9 D6
theorem atQ:l6 ⟨308,EO,yaf,U3,ydS⟩:=run' C9 D6
theorem atS:l6 ⟨308,EP,yaf,U3,ydS⟩:=run' C9 D6
theorem atT:l6 ⟨308,ER,yaf,U3,ybE⟩:=run' C9 D6
theorem atU:l6 ⟨308,ES,yaf,U3,ybE⟩:=run' C9 D6
theorem atV:l6 ⟨308,ET,yaf,U3,ybE⟩:=run' C9 D6
theorem atW:l6 ⟨308,EU,yaf,U3,[C 1 [Es,[J 103],[J 103],[J 114],[J 114],[J 114],L9]]⟩:=run' C9 D6
theorem atX:l6 ⟨128,EW,[yn,ya,yr,Ej,dL,U7,Em,U7,Eo,Ep,C 8 [[x9,dX,El,Z,YX,x9,x9,x9]]],tt,[]⟩:=run' gy.is (A9 atN (A9 atO (A9 aho (A9 ahp (A9 ahq (A9 ahr (A9 atP (A9 atQ (A9 atS (A9 atT (A9 atU (A9 atV (A9 atW D6)))))))))))))
theorem atY:l6 ⟨123,yf,ya6,x9,[]⟩:=run' Q9 D6
theorem atZ:l6 ⟨72,yz,ya6,x9,[]⟩:=run' kY.is (A9 atY D6)
theorem ahs:l6 ⟨123,yf,yb0,x9,[]⟩:=run' Q9 D6
theorem aht:l6 ⟨213,yf,yb0,Cw,[yO,yd]⟩:=run' dJ.is (A9 ahs D6)
theorem ahu:l6 ⟨369,Cy,yag,wE,[]⟩:=run' dD D6
theorem ahv:l6 ⟨370,Cx,yag,Cz,[C 1 [L9,[Wn],[Wn],[I 985],[I 985],[I 985],CB]]⟩:=run' dF D6
theorem au0:l6 ⟨112,yz,ya6,En,Er⟩:=run' fC.is (A9 aht (A9 ahu (A9 ahv D6)))
theorem au1:l6 ⟨308,EL,yag,U3,[C 1 [L9,[Wn],[Wn],[I 985],[I 985],[I 985],CW]]⟩:=run' C9 D6
theorem au2:l6 ⟨308,EO,yag,U3,ydX⟩:=run' C9 D6
theorem au3:l6 ⟨308,EP,yag,U3,ydX⟩:=run' C9 D6
theorem au4:l6 ⟨308,ER,yag,U3,ycF⟩:=run' C9 D6
theorem au5:l6 ⟨308,ES,yag,U3,ycF⟩:=run' C9 D6
theorem au6:l6 ⟨308,ET,yag,U3,ycF⟩:=run' C9 D6
theorem au7:l6 ⟨308,EU,yag,U3,[C 1 [Es,[J 102],[J 102],[J 113],[J 113],[J 113],L9]]⟩:=run' C9 D6
theorem au8:l6 ⟨128,EW,[yn,ya,yr,Ej,dL,U7,Em,U7,Eo,Ep,C 8 [[x9,dX,El,Z,I 985,x9,x9,x9]]],tt,[]⟩:=run' gy.is (A9 atZ (A9 au0 (A9 ahs (A9 aht (A9 ahu (A9 ahv (A9 au1 (A9 au2 (A9 au3 (A9 au4 (A9 au5 (A9 au6 (A9 au7 D6)))))))))))))
theorem au9:l6 ⟨123,yf,ybk,x9,[]⟩:=run' Q9 D6
theorem aua:l6 ⟨72,yz,ybk,x9,[]⟩:=run' kY.is (A9 au9 D6)
theorem ahw:l6 ⟨123,yf,yce,x9,[]⟩:=run' Q9 D6
theorem ahx:l6 ⟨213,yf,yce,Cw,[y2,yd]⟩:=run' dJ.is (A9 ahw D6)
theorem ahy:l6 ⟨369,Cy,yau,wE,[]⟩:=run' dD D6
theorem ahz:l6 ⟨370,Cx,yau,Cz,[C 1 [L9,iT,iT,[Wq],[Wq],[Wq],CB]]⟩:=run' dF D6
theorem aub:l6 ⟨112,yz,ybk,En,Er⟩:=run' fC.is (A9 ahx (A9 ahy (A9 ahz D6)))
theorem auc:l6 ⟨308,EL,yau,U3,[C 1 [L9,iT,iT,[Wq],[Wq],[Wq],CW]]⟩:=run' C9 D6
theorem aud:l6 ⟨308,EO,yau,U3,yep⟩:=run' C9 D6
theorem aue:l6 ⟨308,EP,yau,U3,yep⟩:=run' C9 D6
theorem auf:l6 ⟨308,ER,yau,U3,yc9⟩:=run' C9 D6
theorem aug:l6 ⟨308,ES,yau,U3,yc9⟩:=run' C9 D6
theorem auh:l6 ⟨308,ET,yau,U3,yc9⟩:=run' C9 D6
theorem aui:l6 ⟨308,EU,yau,U3,[C 1 [Es,wF,wF,[J 99],[J 99],[J 99],L9]]⟩:=run' C9 D6
theorem auj:l6 ⟨128,EW,[yn,ya,yr,Ej,dL,U7,Em,U7,Eo,Ep,C 8 [[x9,dX,El,Z,Wq,x9,x9,x9]]],tt,[]⟩:=run' gy.is (A9 aua (A9 aub (A9 ahw (A9 ahx (A9 ahy (A9 ahz (A9 auc (A9 aud (A9 aue (A9 auf (A9 aug (A9 auh (A9 aui D6)))))))))))))
theorem auk:l6 ⟨123,yf,yaY,x9,[]⟩:=run' Q9 D6
theorem aul:l6 ⟨72,yz,yaY,x9,[]⟩:=run' kY.is (A9 auk D6)
theorem ahA:l6 ⟨123,yf,ybQ,x9,[]⟩:=run' Q9 D6
theorem ahB:l6 ⟨213,yf,ybQ,Cw,[yF,yd]⟩:=run' dJ.is (A9 ahA D6)
theorem ahC:l6 ⟨369,Cy,y7,wE,[]⟩:=run' dD D6
theorem ahD:l6 ⟨370,Cx,y7,Cz,[C 1 [L9,iT,iT,iT,iT,iT,CB]]⟩:=run' dF D6
theorem aum:l6 ⟨112,yz,yaY,En,Er⟩:=run' fC.is (A9 ahB (A9 ahC (A9 ahD D6)))
theorem aun:l6 ⟨308,EL,y7,U3,[C 1 [L9,iT,iT,iT,iT,iT,CW]]⟩:=run' C9 D6
theorem auo:l6 ⟨308,EO,y7,U3,yez⟩:=run' C9 D6
theorem aup:l6 ⟨308,EP,y7,U3,yez⟩:=run' C9 D6
theorem auq:l6 ⟨308,ER,y7,U3,ydj⟩:=run' C9 D6
theorem aur:l6 ⟨308,ES,y7,U3,ydj⟩:=run' C9 D6
theorem aus:l6 ⟨308,ET,y7,U3,ydj⟩:=run' C9 D6
theorem aut:l6 ⟨308,EU,y7,U3,[C 1 [Es,wF,wF,wF,wF,wF,L9]]⟩:=run' C9 D6
theorem auu:l6 ⟨128,EW,[yn,ya,yr,Ej,dL,U7,Em,U7,Eo,Ep,C 8 [[x9,dX,El,Z,I 1005,x9,x9,x9]]],tt,[]⟩:=run' gy.is (A9 aul (A9 aum (A9 ahA (A9 ahB (A9 ahC (A9 ahD (A9 aun (A9 auo (A9 aup (A9 auq (A9 aur (A9 aus (A9 aut D6)))))))))))))
end Go.Proofs.YtfnlnpllpfhhnaaGreatDoor.TT
