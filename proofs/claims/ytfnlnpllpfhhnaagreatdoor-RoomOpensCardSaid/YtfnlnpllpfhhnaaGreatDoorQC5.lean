/- Calls of the fixed example, each computed by the kernel; no condition. -/
import Derived.Test.YtfnlnpllpfhhnaaGreatDoorQB0
set_option linter.all false
namespace Go.Proofs.YtfnlnpllpfhhnaaGreatDoor.TT
open Go Go.AM
set_option maxRecDepth 1000000
theorem ata:l6 ⟨370,ye0,yaM,Cz,ycA⟩:=run' dF D6
theorem atb:l6 ⟨123,yf,yaT,x9,[]⟩:=run' Q9 D6
theorem atc:l6 ⟨72,yz,yaT,x9,[]⟩:=run' kY.is (A9 atb D6)
theorem ahc:l6 ⟨123,yf,ybL,x9,[]⟩:=run' Q9 D6
theorem ahd:l6 ⟨213,yf,ybL,Cw,[yM,yd]⟩:=run' dJ.is (A9 ahc D6)
theorem ahe:l6 ⟨369,Cy,yae,wE,[]⟩:=run' dD D6
theorem ahf:l6 ⟨370,Cx,yae,Cz,[C 1 [L9,iT,iT,yeR,yeR,yeR,CB]]⟩:=run' dF D6
theorem atd:l6 ⟨112,yz,yaT,En,Er⟩:=run' fC.is (A9 ahd (A9 ahe (A9 ahf D6)))
theorem ate:l6 ⟨308,EL,yae,U3,[C 1 [L9,iT,iT,yeR,yeR,yeR,CW]]⟩:=run' C9 D6
theorem atf:l6 ⟨308,EO,yae,U3,yer⟩:=run' C9 D6
theorem atg:l6 ⟨308,EP,yae,U3,yer⟩:=run' C9 D6
theorem ath:l6 ⟨308,ER,yae,U3,ydb⟩:=run' C9 D6
theorem ati:l6 ⟨308,ES,yae,U3,ydb⟩:=run' C9 D6
theorem atj:l6 ⟨308,ET,yae,U3,ydb⟩:=run' C9 D6
theorem atl:l6 ⟨308,EU,yae,U3,[C 1 [Es,wF,wF,[J 98],[J 98],[J 98],L9]]⟩:=run' C9 D6
theorem atm:l6 ⟨128,EW,[yn,ya,yr,Ej,dL,U7,Em,U7,Eo,Ep,C 8 [[x9,dX,El,Z,YU,x9,x9,x9]]],tt,[]⟩:=run' gy.is (A9 atc (A9 atd (A9 ahc (A9 ahd (A9 ahe (A9 ahf (A9 ate (A9 atf (A9 atg (A9 ath (A9 ati (A9 atj (A9 atl D6)))))))))))))
theorem atn:l6 ⟨123,yf,yaX,x9,[]⟩:=run' Q9 D6
theorem ato:l6 ⟨72,yz,yaX,x9,[]⟩:=run' kY.is (A9 atn D6)
theorem ahg:l6 ⟨123,yf,ybP,x9,[]⟩:=run' Q9 D6
theorem ahh:l6 ⟨213,yf,ybP,Cw,[yE,yd]⟩:=run' dJ.is (A9 ahg D6)
theorem ahi:l6 ⟨369,Cy,y6,wE,[]⟩:=run' dD D6
theorem ahj:l6 ⟨370,Cx,y6,Cz,[C 1 [L9,iT,iT,yeV,yeV,yeV,CB]]⟩:=run' dF D6
theorem atp:l6 ⟨112,yz,yaX,En,Er⟩:=run' fC.is (A9 ahh (A9 ahi (A9 ahj D6)))
theorem atq:l6 ⟨308,EL,y6,U3,[C 1 [L9,iT,iT,yeV,yeV,yeV,CW]]⟩:=run' C9 D6
theorem atr:l6 ⟨308,EO,y6,U3,yex⟩:=run' C9 D6
theorem att:l6 ⟨308,EP,y6,U3,yex⟩:=run' C9 D6
theorem atu:l6 ⟨308,ER,y6,U3,ydh⟩:=run' C9 D6
theorem atv:l6 ⟨308,ES,y6,U3,ydh⟩:=run' C9 D6
theorem atw:l6 ⟨308,ET,y6,U3,ydh⟩:=run' C9 D6
theorem atx:l6 ⟨308,EU,y6,U3,[C 1 [Es,wF,wF,[J 94],[J 94],[J 94],L9]]⟩:=run' C9 D6
theorem aty:l6 ⟨128,EW,[yn,ya,yr,Ej,dL,U7,Em,U7,Eo,Ep,C 8 [[x9,dX,El,Z,I 1004,x9,x9,x9]]],tt,[]⟩:=run' gy.is (A9 ato (A9 atp (A9 ahg (A9 ahh (A9 ahi (A9 ahj (A9 atq (A9 atr (A9 att (A9 atu (A9 atv (A9 atw (A9 atx D6)))))))))))))
theorem atz:l6 ⟨123,yf,ya1,x9,[]⟩:=run' Q9 D6
theorem atA:l6 ⟨72,yz,ya1,x9,[]⟩:=run' kY.is (A9 atz D6)
theorem ahk:l6 ⟨123,yf,ybT,x9,[]⟩:=run' Q9 D6
theorem ahl:l6 ⟨213,yf,ybT,Cw,[yI,yd]⟩:=run' dJ.is (A9 ahk D6)
theorem ahm:l6 ⟨369,Cy,yaa,wE,[]⟩:=run' dD D6
theorem ahn:l6 ⟨370,Cx,yaa,Cz,[C 1 [L9,iT,iT,[yfV],[yfV],[yfV],CB]]⟩:=run' dF D6
theorem atB:l6 ⟨112,yz,ya1,En,Er⟩:=run' fC.is (A9 ahl (A9 ahm (A9 ahn D6)))
theorem atC:l6 ⟨308,EL,yaa,U3,[C 1 [L9,iT,iT,[yfV],[yfV],[yfV],CW]]⟩:=run' C9 D6
theorem atD:l6 ⟨308,EO,yaa,U3,yeD⟩:=run' C9 D6
theorem atE:l6 ⟨308,EP,yaa,U3,yeD⟩:=run' C9 D6
theorem atF:l6 ⟨308,ER,yaa,U3,ydp⟩:=run' C9 D6
theorem atG:l6 ⟨308,ES,yaa,U3,ydp⟩:=run' C9 D6
theorem atH:l6 ⟨308,ET,yaa,U3,ydp⟩:=run' C9 D6
theorem atI:l6 ⟨308,EU,yaa,U3,[C 1 [Es,wF,wF,[J 90],[J 90],[J 90],L9]]⟩:=run' C9 D6
theorem atJ:l6 ⟨128,EW,[yn,ya,yr,Ej,dL,U7,Em,U7,Eo,Ep,C 8 [[x9,dX,El,Z,yfV,x9,x9,x9]]],tt,[]⟩:=run' gy.is (A9 atA (A9 atB (A9 ahk (A9 ahl (A9 ahm (A9 ahn (A9 atC (A9 atD (A9 atE (A9 atF (A9 atG (A9 atH (A9 atI D6)))))))))))))
theorem aki:l6 ⟨123,yf,ya4,x9,[]⟩:=run' Q9 D6
theorem akj:l6 ⟨72,yz,ya4,x9,[]⟩:=run' kY.is (A9 aki D6)
theorem aaP:l6 ⟨123,yf,ybW,x9,[]⟩:=run' Q9 D6
theorem aaQ:l6 ⟨213,yf,ybW,Cw,[yL,yd]⟩:=run' dJ.is (A9 aaP D6)
theorem aaR:l6 ⟨369,Cy,yad,wE,[]⟩:=run' dD D6
theorem aaS:l6 ⟨370,Cx,yad,Cz,ycA⟩:=run' dF D6
theorem akk:l6 ⟨112,yz,ya4,En,Er⟩:=run' fC.is (A9 aaQ (A9 aaR (A9 aaS D6)))
theorem akl:l6 ⟨308,EL,yad,U3,ycC⟩:=run' C9 D6
theorem akm:l6 ⟨308,EO,yad,U3,yeJ⟩:=run' C9 D6
theorem akn:l6 ⟨308,EP,yad,U3,yeJ⟩:=run' C9 D6
theorem ako:l6 ⟨308,ER,yad,U3,ydv⟩:=run' C9 D6
theorem akp:l6 ⟨308,ES,yad,U3,ydv⟩:=run' C9 D6
theorem akq:l6 ⟨308,ET,yad,U3,ydv⟩:=run' C9 D6
theorem akr:l6 ⟨308,EU,yad,U3,ydQ⟩:=run' C9 D6
theorem aks:l6 ⟨128,EW,[yn,ya,yr,Ej,dL,U7,Em,U7,Eo,Ep,C 8 [[x9,dX,El,Z,yfx,x9,x9,x9]]],tt,[]⟩:=run' gy.is (A9 akj (A9 akk (A9 aaP (A9 aaQ (A9 aaR (A9 aaS (A9 akl (A9 akm (A9 akn (A9 ako (A9 akp (A9 akq (A9 akr D6)))))))))))))
end Go.Proofs.YtfnlnpllpfhhnaaGreatDoor.TT
