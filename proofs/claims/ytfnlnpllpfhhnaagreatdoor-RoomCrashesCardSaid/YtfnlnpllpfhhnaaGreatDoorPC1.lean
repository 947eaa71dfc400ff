/- Calls of the fixed example, each computed by the kernel; no condition. -/
import Derived.Test.YtfnlnpllpfhhnaaGreatDoorPB0
set_option linter.all false
namespace Go.Proofs.YtfnlnpllpfhhnaaGreatDoor.TT
open Go Go.AM
set_option maxRecDepth 1000000
theorem qo0:j5 ⟨36,[A yfy],[],tt,[]⟩:=run' Jb C9
theorem qo3:j5 ⟨123,ydW,[C 8 [ygv]],u7,[]⟩:=run' P9 C9
theorem qo4:j5 ⟨36,[A yfu],[],tt,[]⟩:=run' Jb (o7 qo3 C9)
theorem qo7:j5 ⟨123,ydW,[C 8 [ygu]],u7,[]⟩:=run' P9 C9
theorem qo8:j5 ⟨36,[A yft],[],tt,[]⟩:=run' Jb (o7 qo7 C9)
theorem aDT:j5 ⟨123,ydW,[C 8 [ygy]],u7,[]⟩:=run' P9 C9
theorem aDU:j5 ⟨36,[A yfv],[],tt,[]⟩:=run' Jb (o7 aDT C9)
theorem aDV:j5 ⟨36,[A yfw],[],tt,[]⟩:=run' Jb C9
theorem aDW:j5 ⟨36,[A [bB,zD,dO,dO,u7,u7,u7,u7,u7,u7,u7,u7,u7,u7,u7,u7,u7,u7,u7,u7,u7,I 10,S 15 0 1 1,S 16 0 1 1,J 19,bB,XI,I 200,u7,Z,u7,u7]],[bV,Q9],tt,[]⟩:=run' Jb C9
theorem aDX:j5 ⟨36,[A [bQ,bB,I 9,zD,u7,u7,u7,u7,u7,u7,u7,u7,u7,u7,u7,u7,u7,u7,u7,u7,u7,u7,Z,Z,u7,u7,u7,u7,I 12,S 15 0 2 2,u7,u7]],[yfJ],tt,[]⟩:=run' Jb C9
theorem aDY:j5 ⟨36,[A [bQ,bQ,I 9,dO,u7,u7,u7,u7,u7,u7,u7,u7,u7,u7,u7,u7,u7,u7,u7,u7,u7,bX,S 15 0 1 1,S 16 0 1 1,XI,bB,u7,u7,u7,Z,u7,u7]],[Q9,bV],tt,[]⟩:=run' Jb C9
theorem aDZ:j5 ⟨36,[A [bQ,qI,I 12,dO,u7,u7,u7,u7,u7,u7,u7,u7,u7,u7,u7,u7,u7,u7,u7,u7,u7,bX,S 15 0 1 1,Z,Vd,u7,u7,u7,u7,Z,u7,u7]],[yfH],tt,[]⟩:=run' Jb C9
theorem aE0:j5 ⟨36,[A yfx],[],tt,[]⟩:=run' Jb C9
theorem aeP:j5 ⟨187,[Vg],yb,vk,[]⟩:=run' ahq (o7 qo0 (o7 qo4 (o7 qo8 (o7 aDU (o7 aDV (o7 aDW (o7 aDX (o7 aDY (o7 aDZ (o7 aE0 C9))))))))))
theorem aE1:j5 ⟨110,[Vg,dO],yb,yeU,ycr⟩:=run' Qx.is C9
theorem aeQ:j5 ⟨123,yeW,yaD,u7,[]⟩:=run' P9 C9
theorem aeR:j5 ⟨72,yeV,yaD,u7,[]⟩:=run' jI.is (o7 aeQ C9)
theorem ash:j5 ⟨68,[Vg,dO],yb,V [yeU,u7],ycr⟩:=run' Zl.is (o7 aeP (o7 aE1 (o7 aeR C9)))
theorem aE2:j5 ⟨213,yeW,yaD,V [A [zD,U 20 0 12 3],U 21 0 12 2,u7],[yb2,C 2 [Tm,Tm,Kr,Kr,Ve,Ve,JN,JN,Vf,Vf,Ro,Ro]]⟩:=run' bN.is (o7 aeQ C9)
theorem aE3:j5 ⟨369,[A [zD,U 15 0 12 3]],ycv,vk,[]⟩:=run' bG C9
theorem aE4:j5 ⟨370,[A [zD,U 15 0 12 3],d9.nilMap],ycv,V [S 16 0 6 6,tt],[C 1 [K6,gY,gY,ygr,ygr,Br]]⟩:=run' bH C9
theorem akq:j5 ⟨112,yeV,yaD,zP,Dj⟩:=run' dR.is (o7 aE2 (o7 aE3 (o7 aE4 C9)))
theorem akr:j5 ⟨123,ydY,yco,u7,[]⟩:=run' P9 C9
theorem asi:j5 ⟨213,ydY,yco,V [A [I 7,U 21 0 14 3],U 22 0 14 2,u7],[yav,C 2 [Tm,Tm,Kr,Kr,Ve,Ve,JN,JN,JN,JN,Vf,Vf,Ro,Ro]]⟩:=run' bN.is (o7 akr C9)
theorem asj:j5 ⟨369,ye8,yax,vk,[]⟩:=run' bG C9
theorem asl:j5 ⟨370,yfe,yax,Bp,ycH⟩:=run' bH C9
theorem asn:j5 ⟨308,yfa,yax,Q8,ycJ⟩:=run' A9 C9
theorem aE5:j5 ⟨308,[ycq,d9.nilMap,bB],yax,Q8,ycA⟩:=run' A9 C9
theorem aE6:j5 ⟨308,[ycq,d9.nilMap,bQ],yax,Q8,ycA⟩:=run' A9 C9
theorem aE7:j5 ⟨308,[ycq,d9.nilMap,qI],yax,Q8,ycc⟩:=run' A9 C9
theorem aE8:j5 ⟨308,[ycq,d9.nilMap,I 4],yax,Q8,ycc⟩:=run' A9 C9
theorem aso:j5 ⟨308,yfb,yax,Q8,ycc⟩:=run' A9 C9
theorem aE9:j5 ⟨308,[ycq,d9.nilMap,zD],yax,Q8,yd0⟩:=run' A9 C9
theorem aEa:j5 ⟨214,ye8,yax,Dh,[C 2 [BH,Ov,Ov,ygA,ygA,ygA,Bq]]⟩:=run' eD.is (o7 asj (o7 asl (o7 asn (o7 aE5 (o7 aE6 (o7 aE7 (o7 aE8 (o7 aso (o7 aE9 C9)))))))))
theorem aks:j5 ⟨69,[ydG,bQ,bX],yaD,V [U 20 0 1 3,u7],[C 3 [[bQ,Kt,Rp]]]⟩:=run' jS.is (o7 aeR (o7 akq (o7 aeQ (o7 akr (o7 asi (o7 aEa C9))))))
theorem aEb:j5 ⟨30,[Vg,dO,bQ,bX],yb,yfc,[C 3 [[bQ,Kt,Rp]]]⟩:=run' Zi.is (o7 ash (o7 aks C9))
theorem aEc:j5 ⟨110,[Vg,I 9],yb,ycw,yaE⟩:=run' Qx.is C9
theorem asq:j5 ⟨123,yg,yce,u7,[]⟩:=run' P9 C9
theorem aeS:j5 ⟨72,ydQ,ybl,u7,[]⟩:=run' jI.is (o7 asq C9)
theorem asr:j5 ⟨68,[Vg,I 9],yb,ydK,yaE⟩:=run' Zl.is (o7 aeP (o7 aEc (o7 aeS C9)))
theorem asu:j5 ⟨213,yg,yce,ye4,[ybq,C 2 [Tm,Tm,Kr,Kr,Kr,Kr,Ve,Ve,JN,JN,JN,JN,Vf,Vf,Ro,Ro,ygn,ygn]]⟩:=run' bN.is (o7 asq C9)
theorem asv:j5 ⟨369,ye9,ych,vk,[]⟩:=run' bG C9
theorem asw:j5 ⟨370,yff,ych,V [Z,ff],[]⟩:=run' bH C9
end Go.Proofs.YtfnlnpllpfhhnaaGreatDoor.TT
