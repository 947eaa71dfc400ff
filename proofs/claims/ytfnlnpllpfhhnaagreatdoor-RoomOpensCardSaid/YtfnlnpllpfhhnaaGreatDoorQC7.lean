/- Calls of the fixed example, each computed by the kernel; no condition. -/
import Derived.Test.YtfnlnpllpfhhnaaGreatDoorQB0
set_option linter.all false
namespace Go.Proofs.YtfnlnpllpfhhnaaGreatDoor.TT
open Go Go.AM
set_option maxRecDepth 1000000
theorem auv:l6 ⟨369,[ycm],yaM,wE,[]⟩:=run' dD D6
theorem auw:l6 ⟨123,yf,ya9,x9,[]⟩:=run' Q9 D6
theorem auy:l6 ⟨72,yz,ya9,x9,[]⟩:=run' kY.is (A9 auw D6)
theorem ahE:l6 ⟨123,yf,yb3,x9,[]⟩:=run' Q9 D6
theorem ahF:l6 ⟨213,yf,yb3,Cw,[yR,yd]⟩:=run' dJ.is (A9 ahE D6)
theorem ahG:l6 ⟨369,Cy,yaj,wE,[]⟩:=run' dD D6
theorem ahH:l6 ⟨370,Cx,yaj,Cz,[C 1 [L9,[Wq],[Wq],[I 988],[I 988],[I 988],CB]]⟩:=run' dF D6
theorem auz:l6 ⟨112,yz,ya9,En,Er⟩:=run' fC.is (A9 ahF (A9 ahG (A9 ahH D6)))
theorem auA:l6 ⟨308,EL,yaj,U3,[C 1 [L9,[Wq],[Wq],[I 988],[I 988],[I 988],CW]]⟩:=run' C9 D6
theorem auB:l6 ⟨308,EO,yaj,U3,yd3⟩:=run' C9 D6
theorem auC:l6 ⟨308,EP,yaj,U3,yd3⟩:=run' C9 D6
theorem auD:l6 ⟨308,ER,yaj,U3,ycL⟩:=run' C9 D6
theorem auE:l6 ⟨308,ES,yaj,U3,ycL⟩:=run' C9 D6
theorem auF:l6 ⟨308,ET,yaj,U3,ycL⟩:=run' C9 D6
theorem auG:l6 ⟨308,EU,yaj,U3,[C 1 [Es,[J 99],[J 99],[J 110],[J 110],[J 110],L9]]⟩:=run' C9 D6
theorem auH:l6 ⟨128,EW,[yn,ya,yr,Ej,dL,U7,Em,U7,Eo,Ep,C 8 [[x9,dX,El,Z,I 988,x9,x9,x9]]],tt,[]⟩:=run' gy.is (A9 auy (A9 auz (A9 ahE (A9 ahF (A9 ahG (A9 ahH (A9 auA (A9 auB (A9 auC (A9 auD (A9 auE (A9 auF (A9 auG D6)))))))))))))
theorem auI:l6 ⟨123,yf,ybd,x9,[]⟩:=run' Q9 D6
theorem auJ:l6 ⟨72,yz,ybd,x9,[]⟩:=run' kY.is (A9 auI D6)
theorem ahI:l6 ⟨123,yf,yb7,x9,[]⟩:=run' Q9 D6
theorem ahJ:l6 ⟨213,yf,yb7,Cw,[yV,yd]⟩:=run' dJ.is (A9 ahI D6)
theorem ahK:l6 ⟨369,Cy,yan,wE,[]⟩:=run' dD D6
theorem ahL:l6 ⟨370,Cx,yan,Cz,[C 1 [L9,Za,Za,[I 992],[I 992],[I 992],CB]]⟩:=run' dF D6
theorem auK:l6 ⟨112,yz,ybd,En,Er⟩:=run' fC.is (A9 ahJ (A9 ahK (A9 ahL D6)))
theorem auL:l6 ⟨308,EL,yan,U3,[C 1 [L9,Za,Za,[I 992],[I 992],[I 992],CW]]⟩:=run' C9 D6
theorem auM:l6 ⟨308,EO,yan,U3,yeb⟩:=run' C9 D6
theorem auN:l6 ⟨308,EP,yan,U3,yeb⟩:=run' C9 D6
theorem auO:l6 ⟨308,ER,yan,U3,ycT⟩:=run' C9 D6
theorem auP:l6 ⟨308,ES,yan,U3,ycT⟩:=run' C9 D6
theorem auQ:l6 ⟨308,ET,yan,U3,ycT⟩:=run' C9 D6
theorem auR:l6 ⟨308,EU,yan,U3,[C 1 [Es,[J 95],[J 95],[J 106],[J 106],[J 106],L9]]⟩:=run' C9 D6
theorem auS:l6 ⟨128,EW,[yn,ya,yr,Ej,dL,U7,Em,U7,Eo,Ep,C 8 [[x9,dX,El,Z,I 992,x9,x9,x9]]],tt,[]⟩:=run' gy.is (A9 auJ (A9 auK (A9 ahI (A9 ahJ (A9 ahK (A9 ahL (A9 auL (A9 auM (A9 auN (A9 auO (A9 auP (A9 auQ (A9 auR D6)))))))))))))
theorem auT:l6 ⟨123,yf,ybg,x9,[]⟩:=run' Q9 D6
theorem auU:l6 ⟨72,yz,ybg,x9,[]⟩:=run' kY.is (A9 auT D6)
theorem ahM:l6 ⟨123,yf,yca,x9,[]⟩:=run' Q9 D6
theorem ahN:l6 ⟨213,yf,yca,Cw,[yY,yd]⟩:=run' dJ.is (A9 ahM D6)
theorem ahO:l6 ⟨369,Cy,yaq,wE,[]⟩:=run' dD D6
theorem ahP:l6 ⟨370,Cx,yaq,Cz,[C 1 [L9,iT,iT,[Wm],[Wm],[Wm],CB]]⟩:=run' dF D6
theorem auV:l6 ⟨112,yz,ybg,En,Er⟩:=run' fC.is (A9 ahN (A9 ahO (A9 ahP D6)))
theorem auW:l6 ⟨308,EL,yaq,U3,[C 1 [L9,iT,iT,[Wm],[Wm],[Wm],CW]]⟩:=run' C9 D6
theorem auX:l6 ⟨308,EO,yaq,U3,yeh⟩:=run' C9 D6
theorem auY:l6 ⟨308,EP,yaq,U3,yeh⟩:=run' C9 D6
theorem auZ:l6 ⟨308,ER,yaq,U3,ycZ⟩:=run' C9 D6
theorem av0:l6 ⟨308,ES,yaq,U3,ycZ⟩:=run' C9 D6
theorem av1:l6 ⟨308,ET,yaq,U3,ycZ⟩:=run' C9 D6
theorem av2:l6 ⟨308,EU,yaq,U3,[C 1 [Es,wF,wF,[J 103],[J 103],[J 103],L9]]⟩:=run' C9 D6
theorem av3:l6 ⟨128,EW,[yn,ya,yr,Ej,dL,U7,Em,U7,Eo,Ep,C 8 [[x9,dX,El,Z,Wm,x9,x9,x9]]],tt,[]⟩:=run' gy.is (A9 auU (A9 auV (A9 ahM (A9 ahN (A9 ahO (A9 ahP (A9 auW (A9 auX (A9 auY (A9 auZ (A9 av0 (A9 av1 (A9 av2 D6)))))))))))))
theorem av4:l6 ⟨123,yf,ybj,x9,[]⟩:=run' Q9 D6
theorem av5:l6 ⟨72,yz,ybj,x9,[]⟩:=run' kY.is (A9 av4 D6)
theorem ahQ:l6 ⟨123,yf,ycd,x9,[]⟩:=run' Q9 D6
theorem ahR:l6 ⟨213,yf,ycd,Cw,[y1,yd]⟩:=run' dJ.is (A9 ahQ D6)
theorem ahS:l6 ⟨369,Cy,yat,wE,[]⟩:=run' dD D6
theorem ahT:l6 ⟨370,Cx,yat,Cz,[C 1 [L9,iT,iT,[Wp],[Wp],[Wp],CB]]⟩:=run' dF D6
theorem av6:l6 ⟨112,yz,ybj,En,Er⟩:=run' fC.is (A9 ahR (A9 ahS (A9 ahT D6)))
theorem av7:l6 ⟨308,EL,yat,U3,[C 1 [L9,iT,iT,[Wp],[Wp],[Wp],CW]]⟩:=run' C9 D6
theorem av8:l6 ⟨308,EO,yat,U3,yen⟩:=run' C9 D6
theorem av9:l6 ⟨308,EP,yat,U3,yen⟩:=run' C9 D6
theorem ava:l6 ⟨308,ER,yat,U3,yc7⟩:=run' C9 D6
theorem avb:l6 ⟨308,ES,yat,U3,yc7⟩:=run' C9 D6
theorem avc:l6 ⟨308,ET,yat,U3,yc7⟩:=run' C9 D6
theorem avd:l6 ⟨308,EU,yat,U3,[C 1 [Es,wF,wF,[J 100],[J 100],[J 100],L9]]⟩:=run' C9 D6
theorem ave:l6 ⟨128,EW,[yn,ya,yr,Ej,dL,U7,Em,U7,Eo,Ep,C 8 [[x9,dX,El,Z,Wp,x9,x9,x9]]],tt,[]⟩:=run' gy.is (A9 av5 (A9 av6 (A9 ahQ (A9 ahR (A9 ahS (A9 ahT (A9 av7 (A9 av8 (A9 av9 (A9 ava (A9 avb (A9 avc (A9 avd D6)))))))))))))
end Go.Proofs.YtfnlnpllpfhhnaaGreatDoor.TT
