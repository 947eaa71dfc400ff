/- Calls of the fixed example, each computed by the kernel; no condition. -/
import Derived.Test.YtfnlnpllpfhhnaaGreatDoorQB0
set_option linter.all false
namespace Go.Proofs.YtfnlnpllpfhhnaaGreatDoor.TT
open Go Go.AM
set_option maxRecDepth 1000000
theorem avY:l6 ⟨308,yeW,yaM,U3,ycC⟩:=run' C9 D6
theorem avZ:l6 ⟨123,yf,ybc,x9,[]⟩:=run' Q9 D6
theorem aw0:l6 ⟨72,yz,ybc,x9,[]⟩:=run' kY.is (A9 avZ D6)
theorem aia:l6 ⟨123,yf,yb6,x9,[]⟩:=run' Q9 D6
theorem aib:l6 ⟨213,yf,yb6,Cw,[yU,yd]⟩:=run' dJ.is (A9 aia D6)
theorem aic:l6 ⟨369,Cy,yam,wE,[]⟩:=run' dD D6
theorem aie:l6 ⟨370,Cx,yam,Cz,[C 1 [L9,yeS,yeS,[I 991],[I 991],[I 991],CB]]⟩:=run' dF D6
theorem aw1:l6 ⟨112,yz,ybc,En,Er⟩:=run' fC.is (A9 aib (A9 aic (A9 aie D6)))
theorem aw2:l6 ⟨308,EL,yam,U3,[C 1 [L9,yeS,yeS,[I 991],[I 991],[I 991],CW]]⟩:=run' C9 D6
theorem aw3:l6 ⟨308,EO,yam,U3,yd9⟩:=run' C9 D6
theorem aw4:l6 ⟨308,EP,yam,U3,yd9⟩:=run' C9 D6
theorem aw5:l6 ⟨308,ER,yam,U3,ycR⟩:=run' C9 D6
theorem aw6:l6 ⟨308,ES,yam,U3,ycR⟩:=run' C9 D6
theorem aw7:l6 ⟨308,ET,yam,U3,ycR⟩:=run' C9 D6
theorem aw8:l6 ⟨308,EU,yam,U3,[C 1 [Es,[J 96],[J 96],[J 107],[J 107],[J 107],L9]]⟩:=run' C9 D6
theorem aw9:l6 ⟨128,EW,[yn,ya,yr,Ej,dL,U7,Em,U7,Eo,Ep,C 8 [[x9,dX,El,Z,I 991,x9,x9,x9]]],tt,[]⟩:=run' gy.is (A9 aw0 (A9 aw1 (A9 aia (A9 aib (A9 aic (A9 aie (A9 aw2 (A9 aw3 (A9 aw4 (A9 aw5 (A9 aw6 (A9 aw7 (A9 aw8 D6)))))))))))))
theorem awc:l6 ⟨123,yf,yaW,x9,[]⟩:=run' Q9 D6
theorem awd:l6 ⟨72,yz,yaW,x9,[]⟩:=run' kY.is (A9 awc D6)
theorem aif:l6 ⟨123,yf,ybO,x9,[]⟩:=run' Q9 D6
theorem aii:l6 ⟨213,yf,ybO,Cw,[yD,yd]⟩:=run' dJ.is (A9 aif D6)
theorem aij:l6 ⟨369,Cy,y5,wE,[]⟩:=run' dD D6
theorem aik:l6 ⟨370,Cx,y5,Cz,[C 1 [L9,iT,iT,Za,Za,Za,CB]]⟩:=run' dF D6
theorem awe:l6 ⟨112,yz,yaW,En,Er⟩:=run' fC.is (A9 aii (A9 aij (A9 aik D6)))
theorem awf:l6 ⟨308,EL,y5,U3,[C 1 [L9,iT,iT,Za,Za,Za,CW]]⟩:=run' C9 D6
theorem awg:l6 ⟨308,EO,y5,U3,yev⟩:=run' C9 D6
theorem awh:l6 ⟨308,EP,y5,U3,yev⟩:=run' C9 D6
theorem awi:l6 ⟨308,ER,y5,U3,ydf⟩:=run' C9 D6
theorem awj:l6 ⟨308,ES,y5,U3,ydf⟩:=run' C9 D6
theorem awk:l6 ⟨308,ET,y5,U3,ydf⟩:=run' C9 D6
theorem awl:l6 ⟨308,EU,y5,U3,[C 1 [Es,wF,wF,[J 95],[J 95],[J 95],L9]]⟩:=run' C9 D6
theorem awm:l6 ⟨128,EW,[yn,ya,yr,Ej,dL,U7,Em,U7,Eo,Ep,C 8 [[x9,dX,El,Z,I 1003,x9,x9,x9]]],tt,[]⟩:=run' gy.is (A9 awd (A9 awe (A9 aif (A9 aii (A9 aij (A9 aik (A9 awf (A9 awg (A9 awh (A9 awi (A9 awj (A9 awk (A9 awl D6)))))))))))))
theorem awn:l6 ⟨123,yf,yaZ,x9,[]⟩:=run' Q9 D6
theorem awo:l6 ⟨72,yz,yaZ,x9,[]⟩:=run' kY.is (A9 awn D6)
theorem ail:l6 ⟨123,yf,ybR,x9,[]⟩:=run' Q9 D6
theorem ain:l6 ⟨213,yf,ybR,Cw,[yG,yd]⟩:=run' dJ.is (A9 ail D6)
theorem aio:l6 ⟨369,Cy,y8,wE,[]⟩:=run' dD D6
theorem aip:l6 ⟨370,Cx,y8,Cz,[C 1 [L9,iT,iT,[yfU],[yfU],[yfU],CB]]⟩:=run' dF D6
theorem awp:l6 ⟨112,yz,yaZ,En,Er⟩:=run' fC.is (A9 ain (A9 aio (A9 aip D6)))
theorem awq:l6 ⟨308,EL,y8,U3,[C 1 [L9,iT,iT,[yfU],[yfU],[yfU],CW]]⟩:=run' C9 D6
theorem awr:l6 ⟨308,EO,y8,U3,yeB⟩:=run' C9 D6
theorem aws:l6 ⟨308,EP,y8,U3,yeB⟩:=run' C9 D6
theorem awt:l6 ⟨308,ER,y8,U3,ydl⟩:=run' C9 D6
theorem awu:l6 ⟨308,ES,y8,U3,ydl⟩:=run' C9 D6
theorem awv:l6 ⟨308,ET,y8,U3,ydl⟩:=run' C9 D6
theorem aww:l6 ⟨308,EU,y8,U3,[C 1 [Es,wF,wF,[J 92],[J 92],[J 92],L9]]⟩:=run' C9 D6
theorem awx:l6 ⟨128,EW,[yn,ya,yr,Ej,dL,U7,Em,U7,Eo,Ep,C 8 [[x9,dX,El,Z,yfU,x9,x9,x9]]],tt,[]⟩:=run' gy.is (A9 awo (A9 awp (A9 ail (A9 ain (A9 aio (A9 aip (A9 awq (A9 awr (A9 aws (A9 awt (A9 awu (A9 awv (A9 aww D6)))))))))))))
theorem awy:l6 ⟨123,yf,ya2,x9,[]⟩:=run' Q9 D6
theorem awz:l6 ⟨72,yz,ya2,x9,[]⟩:=run' kY.is (A9 awy D6)
theorem aiq:l6 ⟨123,yf,ybU,x9,[]⟩:=run' Q9 D6
theorem air:l6 ⟨213,yf,ybU,Cw,[yJ,yd]⟩:=run' dJ.is (A9 aiq D6)
theorem ais:l6 ⟨369,Cy,yab,wE,[]⟩:=run' dD D6
theorem ait:l6 ⟨370,Cx,yab,Cz,[C 1 [L9,iT,iT,ye4,ye4,ye4,CB]]⟩:=run' dF D6
theorem awC:l6 ⟨112,yz,ya2,En,Er⟩:=run' fC.is (A9 air (A9 ais (A9 ait D6)))
theorem awD:l6 ⟨308,EL,yab,U3,[C 1 [L9,iT,iT,ye4,ye4,ye4,CW]]⟩:=run' C9 D6
theorem awE:l6 ⟨308,EO,yab,U3,yeF⟩:=run' C9 D6
theorem awF:l6 ⟨308,EP,yab,U3,yeF⟩:=run' C9 D6
theorem awG:l6 ⟨308,ER,yab,U3,ydr⟩:=run' C9 D6
theorem awH:l6 ⟨308,ES,yab,U3,ydr⟩:=run' C9 D6
theorem akt:l6 ⟨308,ET,yab,U3,ydr⟩:=run' C9 D6
theorem aku:l6 ⟨308,EU,yab,U3,[C 1 [Es,wF,wF,[J 89],[J 89],[J 89],L9]]⟩:=run' C9 D6
theorem akv:l6 ⟨128,EW,[yn,ya,yr,Ej,dL,U7,Em,U7,Eo,Ep,C 8 [[x9,dX,El,Z,I 1009,x9,x9,x9]]],tt,[]⟩:=run' gy.is (A9 awz (A9 awC (A9 aiq (A9 air (A9 ais (A9 ait (A9 awD (A9 awE (A9 awF (A9 awG (A9 awH (A9 akt (A9 aku D6)))))))))))))
end Go.Proofs.YtfnlnpllpfhhnaaGreatDoor.TT
