/- Calls of the fixed example, each computed by the kernel; no condition. -/
import Derived.Test.YtfnlnpllpfhhnaaGreatDoorQB0
set_option linter.all false
namespace Go.Proofs.YtfnlnpllpfhhnaaGreatDoor.TT
open Go Go.AM
set_option maxRecDepth 1000000
theorem qo0:l6 ⟨36,[A yfk],[],tt,[]⟩:=run' Kh D6
theorem qo3:l6 ⟨123,ydM,[C 8 [yfY]],x9,[]⟩:=run' Q9 D6
theorem qo4:l6 ⟨36,[A yfg],[],tt,[]⟩:=run' Kh (A9 qo3 D6)
theorem qo7:l6 ⟨123,ydM,[C 8 [yfX]],x9,[]⟩:=run' Q9 D6
theorem qo8:l6 ⟨36,[A yff],[],tt,[]⟩:=run' Kh (A9 qo7 D6)
theorem aDl:l6 ⟨123,ydM,[C 8 [yf2]],x9,[]⟩:=run' Q9 D6
theorem aDm:l6 ⟨36,[A yfh],[],tt,[]⟩:=run' Kh (A9 aDl D6)
theorem aDn:l6 ⟨36,[A yfi],[],tt,[]⟩:=run' Kh D6
theorem aDo:l6 ⟨36,[A [cO,Aq,fD,fD,x9,x9,x9,x9,x9,x9,x9,x9,x9,x9,x9,x9,x9,x9,x9,x9,x9,I 10,S 15 0 1 1,S 16 0 1 1,J 19,cO,YV,I 200,x9,Z,x9,x9]],[dL,U7],tt,[]⟩:=run' Kh D6
theorem aDp:l6 ⟨36,[A [iY,cO,I 9,Aq,x9,x9,x9,x9,x9,x9,x9,x9,x9,x9,x9,x9,x9,x9,x9,x9,x9,x9,Z,Z,x9,x9,x9,x9,I 12,S 15 0 2 2,x9,x9]],[yfr],tt,[]⟩:=run' Kh D6
theorem aDq:l6 ⟨36,[A [iY,iY,I 9,fD,x9,x9,x9,x9,x9,x9,x9,x9,x9,x9,x9,x9,x9,x9,x9,x9,x9,dX,S 15 0 1 1,S 16 0 1 1,YV,cO,x9,x9,x9,Z,x9,x9]],[U7,dL],tt,[]⟩:=run' Kh D6
theorem aDr:l6 ⟨36,[A [iY,sJ,I 12,fD,x9,x9,x9,x9,x9,x9,x9,x9,x9,x9,x9,x9,x9,x9,x9,x9,x9,dX,S 15 0 1 1,Z,Wi,x9,x9,x9,x9,Z,x9,x9]],[yfp],tt,[]⟩:=run' Kh D6
theorem aDs:l6 ⟨36,[A yfj],[],tt,[]⟩:=run' Kh D6
theorem ae3:l6 ⟨187,[Ws],yb,wE,[]⟩:=run' agR (A9 qo0 (A9 qo4 (A9 qo8 (A9 aDm (A9 aDn (A9 aDo (A9 aDp (A9 aDq (A9 aDr (A9 aDs D6))))))))))
theorem aDt:l6 ⟨110,[Ws,fD],yb,yeK,ycl⟩:=run' Ry.is D6
theorem aaG:l6 ⟨123,yeO,yaP,x9,[]⟩:=run' Q9 D6
theorem ae4:l6 ⟨72,yeM,yaP,x9,[]⟩:=run' kY.is (A9 aaG D6)
theorem arQ:l6 ⟨68,[Ws,fD],yb,V [yeK,x9],ycl⟩:=run' aan.is (A9 ae3 (A9 aDt (A9 ae4 D6)))
theorem aDu:l6 ⟨213,yeO,yaP,V [A [Aq,U 20 0 12 3],U 21 0 12 2,x9],[ybu,C 2 [Uv,Uv,Nh,Nh,Wj,Wj,Lb,Lb,Wl,Wl,Uw,Uw]]⟩:=run' dJ.is (A9 aaG D6)
theorem aDv:l6 ⟨369,[A [Aq,U 15 0 12 3]],ycp,wE,[]⟩:=run' dD D6
theorem aDw:l6 ⟨370,[A [Aq,U 15 0 12 3],d9.nilMap],ycp,V [S 16 0 6 6,tt],[C 1 [L9,iT,iT,yfR,yfR,CB]]⟩:=run' dF D6
theorem ajL:l6 ⟨112,yeM,yaP,AZ,Er⟩:=run' fC.is (A9 aDu (A9 aDv (A9 aDw D6)))
theorem ae5:l6 ⟨123,ydO,ycj,x9,[]⟩:=run' Q9 D6
theorem ajM:l6 ⟨213,ydO,ycj,V [A [I 7,U 21 0 14 3],U 22 0 14 2,x9],[yav,C 2 [Uv,Uv,Nh,Nh,Wj,Wj,Lb,Lb,Lb,Lb,Wl,Wl,Uw,Uw]]⟩:=run' dJ.is (A9 ae5 D6)
theorem ajN:l6 ⟨369,[ycm],yax,wE,[]⟩:=run' dD D6
theorem ajO:l6 ⟨370,ye0,yax,Cz,ycA⟩:=run' dF D6
theorem ajP:l6 ⟨308,yeW,yax,U3,ycC⟩:=run' C9 D6
theorem ajQ:l6 ⟨308,[ycm,d9.nilMap,cO],yax,U3,ycu⟩:=run' C9 D6
theorem ajR:l6 ⟨308,[ycm,d9.nilMap,iY],yax,U3,ycu⟩:=run' C9 D6
theorem ajS:l6 ⟨308,[ycm,d9.nilMap,sJ],yax,U3,ybE⟩:=run' C9 D6
theorem ajT:l6 ⟨308,[ycm,d9.nilMap,I 4],yax,U3,ybE⟩:=run' C9 D6
theorem ajU:l6 ⟨308,yeX,yax,U3,ybE⟩:=run' C9 D6
theorem ajV:l6 ⟨308,[ycm,d9.nilMap,Aq],yax,U3,ydQ⟩:=run' C9 D6
theorem aDx:l6 ⟨30,[Ws,fD,iY,dX],yb,yeY,[C 3 [[iY,YX,yfx]]]⟩:=run' aam.is (A9 arQ (A9 ae4 (A9 ajL (A9 aaG (A9 ae5 (A9 ajM (A9 ajN (A9 ajO (A9 ajP (A9 ajQ (A9 ajR (A9 ajS (A9 ajT (A9 ajU (A9 ajV D6)))))))))))))))
theorem aDy:l6 ⟨110,[Ws,I 9],yb,ycr,yaB⟩:=run' Ry.is D6
theorem arR:l6 ⟨123,yf,ybG,x9,[]⟩:=run' Q9 D6
theorem aaH:l6 ⟨72,ydF,ybz,x9,[]⟩:=run' kY.is (A9 arR D6)
theorem arS:l6 ⟨68,[Ws,I 9],yb,ydy,yaB⟩:=run' aan.is (A9 ae3 (A9 aDy (A9 aaH D6)))
theorem arT:l6 ⟨213,yf,ybG,yeT,[yaS,C 2 [Uv,Uv,Nh,Nh,Nh,Nh,Wj,Wj,Lb,Lb,Lb,Lb,Wl,Wl,Uw,Uw,yfI,yfI]]⟩:=run' dJ.is (A9 arR D6)
theorem arU:l6 ⟨369,[ycq],ybK,wE,[]⟩:=run' dD D6
theorem arV:l6 ⟨370,ye1,ybK,V [Z,ff],[]⟩:=run' dF D6
end Go.Proofs.YtfnlnpllpfhhnaaGreatDoor.TT
