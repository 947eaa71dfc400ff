/- Calls of the fixed example, each computed by the kernel; no condition. -/
import Derived.Test.YtfnlnpllpfhhnaaGreatDoorQC2
set_option linter.all false
namespace Go.Proofs.YtfnlnpllpfhhnaaGreatDoor.TT
open Go Go.AM
set_option maxRecDepth 1000000
theorem agZ:l6 ⟨370,ye2,ybB,V [Z,ff],[]⟩:=run' dF D6
theorem as3:l6 ⟨112,ydK,ybt,U 25 0 0 1,[C 1 [[Z],[Z]]]⟩:=run' fC.is (A9 arY (A9 arZ (A9 as0 (A9 agX (A9 agY (A9 agZ D6))))))
theorem as5:l6 ⟨30,[Ws,I 12,iY,dX],yb,V [Z,fD],[]⟩:=run' aam.is (A9 arX (A9 ak5 (A9 as3 D6)))
theorem as6:l6 ⟨110,[Ws,I 20],yb,ycr,yaB⟩:=run' Ry.is D6
theorem as7:l6 ⟨68,[Ws,I 20],yb,ydy,yaB⟩:=run' aan.is (A9 ae3 (A9 as6 (A9 aaH D6)))
theorem as8:l6 ⟨30,[Ws,I 20,iY,dX],yb,yeY,[C 3 [[sJ,ycx,yfd]]]⟩:=run' aam.is (A9 as7 (A9 aaH (A9 ajW (A9 ae6 (A9 aaI (A9 aaJ (A9 aaK (A9 ajX (A9 ajY (A9 ajZ (A9 ak0 (A9 ak1 (A9 ak2 (A9 ak3 (A9 ak4 D6)))))))))))))))
theorem as9:l6 ⟨123,yf,ybJ,x9,[]⟩:=run' Q9 D6
theorem asa:l6 ⟨213,yf,ybJ,Cw,[ybp,ybC]⟩:=run' dJ.is (A9 as9 D6)
theorem asb:l6 ⟨369,Cy,yci,wE,[]⟩:=run' dD D6
theorem asc:l6 ⟨370,Cx,yci,Cz,[C 1 [L9,iT,iT,yfR,yfR,[Wi],[Wi]]]⟩:=run' dF D6
theorem ase:l6 ⟨123,yf,ybX,x9,[]⟩:=run' Q9 D6
theorem asf:l6 ⟨213,yf,ybX,Cw,[ybm,ybC]⟩:=run' dJ.is (A9 ase D6)
theorem ash:l6 ⟨369,Cy,ycg,wE,[]⟩:=run' dD D6
theorem asi:l6 ⟨370,Cx,ycg,V [Z,ff],[]⟩:=run' dF D6
theorem asj:l6 ⟨123,yf,ybY,x9,[]⟩:=run' Q9 D6
theorem asl:l6 ⟨213,yf,ybY,Cw,[ybn,ybC]⟩:=run' dJ.is (A9 asj D6)
theorem asn:l6 ⟨369,Cy,ych,wE,[]⟩:=run' dD D6
theorem aso:l6 ⟨370,Cx,ych,V [Z,ff],[]⟩:=run' dF D6
theorem asq:l6 ⟨31,yeZ,yb,V [U 22 0 2 2,x9],[C 2 [yf5,[iY,sJ]]]⟩:=run' anB.is (A9 arX (A9 ak5 (A9 arY (A9 arZ (A9 as0 (A9 agX (A9 agY (A9 agZ (A9 arT (A9 arU (A9 arV (A9 aaI (A9 aaJ (A9 aaK (A9 asa (A9 asb (A9 asc (A9 asf (A9 ash (A9 asi (A9 asl (A9 asn (A9 aso D6)))))))))))))))))))))))
theorem asr:l6 ⟨32,[Ws,fD,iY,dX,A [YU,I 1200]],yb,V Uw,[]⟩:=run' ajy.is (A9 arQ (A9 ae4 (A9 ajL (A9 aaG (A9 ae5 (A9 ajM (A9 ajN (A9 ajO (A9 ajP (A9 ajQ (A9 ajR (A9 ajS (A9 ajT (A9 ajU (A9 ajV D6)))))))))))))))
theorem asu:l6 ⟨32,[Ws,I 9,iY,dX,A [YU,I 1200]],yb,V Uv,[]⟩:=run' ajy.is (A9 arS (A9 aaH (A9 ajW (A9 ae6 (A9 aaI (A9 aaJ (A9 aaK (A9 ajX (A9 ajY (A9 ajZ (A9 ak0 (A9 ak1 (A9 ak2 (A9 ak3 (A9 ak4 D6)))))))))))))))
theorem asv:l6 ⟨128,[d9.ptr 15 0,Z],[yn,ya,yr,Ej,dL,U7,Em,U7,Eo,Ep],ff,[]⟩:=run' gy.is (A9 ae4 (A9 ajL (A9 aaG (A9 ae5 (A9 ajM (A9 ajN (A9 ajO (A9 ajP (A9 ajQ (A9 ajR (A9 ajS (A9 ajT (A9 ajU (A9 ajV D6))))))))))))))
end Go.Proofs.YtfnlnpllpfhhnaaGreatDoor.TT
