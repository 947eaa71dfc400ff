/- Calls of the fixed example, each computed by the kernel; no condition. -/
import Derived.Test.YtfnlnpllpfhhnaaGreatDoorQC1
set_option linter.all false
namespace Go.Proofs.YtfnlnpllpfhhnaaGreatDoor.TT
open Go Go.AM
set_option maxRecDepth 1000000
theorem ae6:l6 ⟨123,yf,ybH,x9,[]⟩:=run' Q9 D6
theorem aaI:l6 ⟨213,yf,ybH,yeT,[yu,C 2 [Uv,Uv,Nh,Nh,Nh,Nh,Wj,Wj,Lb,Lb,Wl,Wl,yf5,yf5,Uw,Uw,yfI,yfI]]⟩:=run' dJ.is (A9 ae6 D6)
theorem aaJ:l6 ⟨369,[ycq],yA,wE,[]⟩:=run' dD D6
theorem aaK:l6 ⟨370,ye1,yA,V [ydz,tt],[C 1 [L9,YZ,YZ,yeR,ye3,ye3,CB,CB]]⟩:=run' dF D6
theorem ajW:l6 ⟨112,ydF,ybz,U 24 0 1 1,[C 1 [[S 25 0 1 1],[Z]],C 1 [[U 26 0 2 1]],C 1 [[sJ],[iY]]]⟩:=run' fC.is (A9 arT (A9 arU (A9 arV (A9 aaI (A9 aaJ (A9 aaK D6))))))
theorem ajX:l6 ⟨308,[ycq,d9.nilMap,x9],yA,ydz,[C 1 [L9,Za,Za,yeS,ye4,ye4,CW,CW]]⟩:=run' C9 D6
theorem ajY:l6 ⟨308,[ycq,d9.nilMap,cO],yA,ydz,ydH⟩:=run' C9 D6
theorem ajZ:l6 ⟨308,[ycq,d9.nilMap,iY],yA,ydz,ydH⟩:=run' C9 D6
theorem ak0:l6 ⟨308,[ycq,d9.nilMap,sJ],yA,ydz,[C 1 [[J 997],[cO],[cO],L9,[I 7],[I 7],[YW],[YW]]]⟩:=run' C9 D6
theorem ak1:l6 ⟨308,[ycq,d9.nilMap,I 4],yA,ydz,ydB⟩:=run' C9 D6
theorem ak2:l6 ⟨308,[ycq,d9.nilMap,fD],yA,ydz,ydB⟩:=run' C9 D6
theorem ak3:l6 ⟨308,[ycq,d9.nilMap,Aq],yA,ydz,ydD⟩:=run' C9 D6
theorem ak4:l6 ⟨308,[ycq,d9.nilMap,I 7],yA,ydz,ydD⟩:=run' C9 D6
theorem aDz:l6 ⟨30,[Ws,I 9,iY,dX],yb,yeY,[C 3 [[sJ,ycx,yfd]]]⟩:=run' aam.is (A9 arS (A9 aaH (A9 ajW (A9 ae6 (A9 aaI (A9 aaJ (A9 aaK (A9 ajX (A9 ajY (A9 ajZ (A9 ak0 (A9 ak1 (A9 ak2 (A9 ak3 (A9 ak4 D6)))))))))))))))
theorem aDA:l6 ⟨110,yeZ,yb,ydI,ybs⟩:=run' Ry.is D6
theorem arW:l6 ⟨123,ycw,ybw,x9,[]⟩:=run' Q9 D6
theorem ak5:l6 ⟨72,ydK,ybt,x9,[]⟩:=run' kY.is (A9 arW D6)
theorem arX:l6 ⟨68,yeZ,yb,V [ydI,x9],ybs⟩:=run' aan.is (A9 ae3 (A9 aDA (A9 ak5 D6)))
theorem arY:l6 ⟨213,ycw,ybw,yeU,[yaN,yck]⟩:=run' dJ.is (A9 arW D6)
theorem arZ:l6 ⟨369,[ydT],ybA,wE,[]⟩:=run' dD D6
theorem as0:l6 ⟨370,ye2,ybA,V [Z,ff],[]⟩:=run' dF D6
theorem as1:l6 ⟨123,ycw,ybx,x9,[]⟩:=run' Q9 D6
theorem agX:l6 ⟨213,ycw,ybx,yeU,[yaO,yck]⟩:=run' dJ.is (A9 as1 D6)
theorem agY:l6 ⟨369,[ydT],ybB,wE,[]⟩:=run' dD D6
end Go.Proofs.YtfnlnpllpfhhnaaGreatDoor.TT
