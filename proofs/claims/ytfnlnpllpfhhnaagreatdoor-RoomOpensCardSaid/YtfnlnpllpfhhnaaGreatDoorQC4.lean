/- Calls of the fixed example, each computed by the kernel; no condition. -/
import Derived.Test.YtfnlnpllpfhhnaaGreatDoorQB0
set_option linter.all false
namespace Go.Proofs.YtfnlnpllpfhhnaaGreatDoor.TT
open Go Go.AM
set_option maxRecDepth 1000000
theorem asw:l6 ⟨123,yf,yba,x9,[]⟩:=run' Q9 D6
theorem asx:l6 ⟨72,yz,yba,x9,[]⟩:=run' kY.is (A9 asw D6)
theorem ah0:l6 ⟨123,yf,yb4,x9,[]⟩:=run' Q9 D6
theorem ah1:l6 ⟨213,yf,yb4,Cw,[yS,yd]⟩:=run' dJ.is (A9 ah0 D6)
theorem ah2:l6 ⟨369,Cy,yak,wE,[]⟩:=run' dD D6
theorem ah3:l6 ⟨370,Cx,yak,Cz,[C 1 [L9,yeR,yeR,[I 989],[I 989],[I 989],CB]]⟩:=run' dF D6
theorem asy:l6 ⟨112,yz,yba,En,Er⟩:=run' fC.is (A9 ah1 (A9 ah2 (A9 ah3 D6)))
theorem asz:l6 ⟨308,EL,yak,U3,[C 1 [L9,yeR,yeR,[I 989],[I 989],[I 989],CW]]⟩:=run' C9 D6
theorem asA:l6 ⟨308,EO,yak,U3,yd5⟩:=run' C9 D6
theorem asB:l6 ⟨308,EP,yak,U3,yd5⟩:=run' C9 D6
theorem asC:l6 ⟨308,ER,yak,U3,ycN⟩:=run' C9 D6
theorem asD:l6 ⟨308,ES,yak,U3,ycN⟩:=run' C9 D6
theorem asE:l6 ⟨308,ET,yak,U3,ycN⟩:=run' C9 D6
theorem asF:l6 ⟨308,EU,yak,U3,[C 1 [Es,[J 98],[J 98],[J 109],[J 109],[J 109],L9]]⟩:=run' C9 D6
theorem asG:l6 ⟨128,EW,[yn,ya,yr,Ej,dL,U7,Em,U7,Eo,Ep,C 8 [[x9,dX,El,Z,I 989,x9,x9,x9]]],tt,[]⟩:=run' gy.is (A9 asx (A9 asy (A9 ah0 (A9 ah1 (A9 ah2 (A9 ah3 (A9 asz (A9 asA (A9 asB (A9 asC (A9 asD (A9 asE (A9 asF D6)))))))))))))
theorem asH:l6 ⟨123,yf,ybf,x9,[]⟩:=run' Q9 D6
theorem asI:l6 ⟨72,yz,ybf,x9,[]⟩:=run' kY.is (A9 asH D6)
theorem ah4:l6 ⟨123,yf,yb9,x9,[]⟩:=run' Q9 D6
theorem ah5:l6 ⟨213,yf,yb9,Cw,[yX,yd]⟩:=run' dJ.is (A9 ah4 D6)
theorem ah6:l6 ⟨369,Cy,yap,wE,[]⟩:=run' dD D6
theorem ah7:l6 ⟨370,Cx,yap,Cz,[C 1 [L9,iT,iT,[I 994],[I 994],[I 994],CB]]⟩:=run' dF D6
theorem asJ:l6 ⟨112,yz,ybf,En,Er⟩:=run' fC.is (A9 ah5 (A9 ah6 (A9 ah7 D6)))
theorem asK:l6 ⟨308,EL,yap,U3,[C 1 [L9,iT,iT,[I 994],[I 994],[I 994],CW]]⟩:=run' C9 D6
theorem asL:l6 ⟨308,EO,yap,U3,yef⟩:=run' C9 D6
theorem asM:l6 ⟨308,EP,yap,U3,yef⟩:=run' C9 D6
theorem asN:l6 ⟨308,ER,yap,U3,ycX⟩:=run' C9 D6
theorem asO:l6 ⟨308,ES,yap,U3,ycX⟩:=run' C9 D6
theorem asP:l6 ⟨308,ET,yap,U3,ycX⟩:=run' C9 D6
theorem asQ:l6 ⟨308,EU,yap,U3,[C 1 [Es,wF,wF,[J 104],[J 104],[J 104],L9]]⟩:=run' C9 D6
theorem asR:l6 ⟨128,EW,[yn,ya,yr,Ej,dL,U7,Em,U7,Eo,Ep,C 8 [[x9,dX,El,Z,I 994,x9,x9,x9]]],tt,[]⟩:=run' gy.is (A9 asI (A9 asJ (A9 ah4 (A9 ah5 (A9 ah6 (A9 ah7 (A9 asK (A9 asL (A9 asM (A9 asN (A9 asO (A9 asP (A9 asQ D6)))))))))))))
theorem asS:l6 ⟨123,yf,ya0,x9,[]⟩:=run' Q9 D6
theorem asT:l6 ⟨72,yz,ya0,x9,[]⟩:=run' kY.is (A9 asS D6)
theorem ah8:l6 ⟨123,yf,ybS,x9,[]⟩:=run' Q9 D6
theorem ah9:l6 ⟨213,yf,ybS,Cw,[yH,yd]⟩:=run' dJ.is (A9 ah8 D6)
theorem aha:l6 ⟨369,Cy,y9,wE,[]⟩:=run' dD D6
theorem ahb:l6 ⟨370,Cx,y9,Cz,[C 1 [L9,iT,iT,ye3,ye3,ye3,CB]]⟩:=run' dF D6
theorem asU:l6 ⟨112,yz,ya0,En,Er⟩:=run' fC.is (A9 ah9 (A9 aha (A9 ahb D6)))
theorem asV:l6 ⟨308,EL,y9,U3,[C 1 [L9,iT,iT,ye3,ye3,ye3,CW]]⟩:=run' C9 D6
theorem asW:l6 ⟨308,EO,y9,U3,ydV⟩:=run' C9 D6
theorem asX:l6 ⟨308,EP,y9,U3,ydV⟩:=run' C9 D6
theorem asY:l6 ⟨308,ER,y9,U3,ydn⟩:=run' C9 D6
theorem asZ:l6 ⟨308,ES,y9,U3,ydn⟩:=run' C9 D6
theorem at5:l6 ⟨308,ET,y9,U3,ydn⟩:=run' C9 D6
theorem at6:l6 ⟨308,EU,y9,U3,[C 1 [Es,wF,wF,[J 91],[J 91],[J 91],L9]]⟩:=run' C9 D6
theorem at7:l6 ⟨128,EW,[yn,ya,yr,Ej,dL,U7,Em,U7,Eo,Ep,C 8 [[x9,dX,El,Z,I 1007,x9,x9,x9]]],tt,[]⟩:=run' gy.is (A9 asT (A9 asU (A9 ah8 (A9 ah9 (A9 aha (A9 ahb (A9 asV (A9 asW (A9 asX (A9 asY (A9 asZ (A9 at5 (A9 at6 D6)))))))))))))
theorem ak6:l6 ⟨123,yf,ya3,x9,[]⟩:=run' Q9 D6
theorem ak7:l6 ⟨72,yz,ya3,x9,[]⟩:=run' kY.is (A9 ak6 D6)
theorem aaL:l6 ⟨123,yf,ybV,x9,[]⟩:=run' Q9 D6
theorem aaM:l6 ⟨213,yf,ybV,Cw,[yK,yd]⟩:=run' dJ.is (A9 aaL D6)
theorem aaN:l6 ⟨369,Cy,yac,wE,[]⟩:=run' dD D6
theorem aaO:l6 ⟨370,Cx,yac,Cz,[C 1 [L9,iT,iT,[yfW],[yfW],[yfW],CB]]⟩:=run' dF D6
theorem ak8:l6 ⟨112,yz,ya3,En,Er⟩:=run' fC.is (A9 aaM (A9 aaN (A9 aaO D6)))
theorem ak9:l6 ⟨308,EL,yac,U3,[C 1 [L9,iT,iT,[yfW],[yfW],[yfW],CW]]⟩:=run' C9 D6
theorem akb:l6 ⟨308,EO,yac,U3,yeH⟩:=run' C9 D6
theorem akc:l6 ⟨308,EP,yac,U3,yeH⟩:=run' C9 D6
theorem akd:l6 ⟨308,ER,yac,U3,ydt⟩:=run' C9 D6
theorem ake:l6 ⟨308,ES,yac,U3,ydt⟩:=run' C9 D6
theorem akf:l6 ⟨308,ET,yac,U3,ydt⟩:=run' C9 D6
theorem akg:l6 ⟨308,EU,yac,U3,[C 1 [Es,wF,wF,[J 88],[J 88],[J 88],L9]]⟩:=run' C9 D6
theorem akh:l6 ⟨128,EW,[yn,ya,yr,Ej,dL,U7,Em,U7,Eo,Ep,C 8 [[x9,dX,El,Z,yfW,x9,x9,x9]]],tt,[]⟩:=run' gy.is (A9 ak7 (A9 ak8 (A9 aaL (A9 aaM (A9 aaN (A9 aaO (A9 ak9 (A9 akb (A9 akc (A9 akd (A9 ake (A9 akf (A9 akg D6)))))))))))))
end Go.Proofs.YtfnlnpllpfhhnaaGreatDoor.TT
