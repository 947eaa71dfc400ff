/- Calls of the fixed example, each computed by the kernel; no condition. -/
import Derived.Test.YtfnlnpllpfhhnaaGreatDoorPC2
set_option linter.all false
namespace Go.Proofs.YtfnlnpllpfhhnaaGreatDoor.TT
open Go Go.AM
set_option maxRecDepth 1000000
theorem ahy:j5 ⟨370,yfg,yb8,V [Z,ff],[]⟩:=run' bH C9
theorem asG:j5 ⟨112,ydU,ybh,U 25 0 0 1,[C 1 [[Z],[Z]]]⟩:=run' dR.is (o7 asC (o7 asD (o7 asE (o7 ahw (o7 ahx (o7 ahy C9))))))
theorem asH:j5 ⟨69,[ycN,bQ,bX],ybh,V [Z,dO],[]⟩:=run' jS.is (o7 akv (o7 asG C9))
theorem asI:j5 ⟨30,[Vg,I 12,bQ,bX],yb,V [Z,dO],[]⟩:=run' Zi.is (o7 asB (o7 asH C9))
theorem asJ:j5 ⟨110,[Vg,I 20],yb,ycw,yaE⟩:=run' Qx.is C9
theorem asK:j5 ⟨68,[Vg,I 20],yb,ydK,yaE⟩:=run' Zl.is (o7 aeP (o7 asJ (o7 aeS C9)))
theorem asL:j5 ⟨30,[Vg,I 20,bQ,bX],yb,yfc,yeY⟩:=run' Zi.is (o7 asK (o7 aku C9))
theorem asM:j5 ⟨123,yg,ycg,u7,[]⟩:=run' P9 C9
theorem asN:j5 ⟨213,yg,ycg,Bn,[ybW,yca]⟩:=run' bN.is (o7 asM C9)
theorem asO:j5 ⟨369,lI,ycn,vk,[]⟩:=run' bG C9
theorem asP:j5 ⟨370,Bo,ycn,Bp,[C 1 [K6,gY,gY,ygr,ygr,[Vd],[Vd]]]⟩:=run' bH C9
theorem asQ:j5 ⟨123,yg,yci,u7,[]⟩:=run' P9 C9
theorem asR:j5 ⟨213,yg,yci,Bn,[ybT,yca]⟩:=run' bN.is (o7 asQ C9)
theorem asS:j5 ⟨369,lI,ycl,vk,[]⟩:=run' bG C9
theorem asT:j5 ⟨370,Bo,ycl,V [Z,ff],[]⟩:=run' bH C9
theorem asU:j5 ⟨123,yg,ycj,u7,[]⟩:=run' P9 C9
theorem asV:j5 ⟨213,yg,ycj,Bn,[ybU,yca]⟩:=run' bN.is (o7 asU C9)
theorem asW:j5 ⟨369,lI,ycm,vk,[]⟩:=run' bG C9
theorem asX:j5 ⟨370,Bo,ycm,V [Z,ff],[]⟩:=run' bH C9
theorem asY:j5 ⟨31,yfd,yb,V [U 22 0 2 2,u7],[C 2 [ygC,[bQ,qI]]]⟩:=run' anV.is (o7 asB (o7 akv (o7 asC (o7 asD (o7 asE (o7 ahw (o7 ahx (o7 ahy (o7 asu (o7 asv (o7 asw (o7 aeT (o7 aeU (o7 aeV (o7 asN (o7 asO (o7 asP (o7 asR (o7 asS (o7 asT (o7 asV (o7 asW (o7 asX C9)))))))))))))))))))))))
theorem ahz:j5 ⟨122,[ydH,A [bQ,bX],yf0],yaD,V Ro,[]⟩:=run' eB.is (o7 aeQ (o7 akr (o7 asi (o7 asj (o7 asl (o7 aso (o7 asn C9)))))))
theorem asZ:j5 ⟨32,[Vg,dO,bQ,bX,yf0],yb,V Ro,[]⟩:=run' ake.is (o7 ash (o7 aks (o7 aeR (o7 akq (o7 ahz C9)))))
theorem at5:j5 ⟨122,[yd,A [qI,bX],yf0],ybo,Vh,[]⟩:=run' eB.is (o7 akt (o7 aeT (o7 aeU (o7 aeV (o7 asz (o7 asy C9))))))
theorem at6:j5 ⟨32,[Vg,I 9,bQ,bX,yf0],yb,Vh,[]⟩:=run' ake.is (o7 asr (o7 aku (o7 aeS (o7 asx (o7 at5 C9)))))
theorem at7:j5 ⟨128,[d9.ptr 15 0,Z],[yu,ya,yn,Da,bV,Q9,Dc,Q9,Dg,Di],ff,[]⟩:=run' eT.is (o7 aks (o7 aeR (o7 akq (o7 ahz C9))))
end Go.Proofs.YtfnlnpllpfhhnaaGreatDoor.TT
