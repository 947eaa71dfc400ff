/- Calls of the fixed example, each computed by the kernel; no condition. -/
import Derived.Test.YtfnlnpllpfhhnaaGreatDoorPC1
set_option linter.all false
namespace Go.Proofs.YtfnlnpllpfhhnaaGreatDoor.TT
open Go Go.AM
set_option maxRecDepth 1000000
theorem akt:j5 ⟨123,yg,ybo,u7,[]⟩:=run' P9 C9
theorem aeT:j5 ⟨213,yg,ybo,ye4,[yv,C 2 [Tm,Tm,Kr,Kr,Kr,Kr,Ve,Ve,JN,JN,Vf,Vf,ygC,ygC,Ro,Ro,ygn,ygn]]⟩:=run' bN.is (o7 akt C9)
theorem aeU:j5 ⟨369,ye9,yz,vk,[]⟩:=run' bG C9
theorem aeV:j5 ⟨370,yff,yz,V [ydL,tt],[C 1 [K6,XK,XK,ZM,yfh,yfh,Br,Br]]⟩:=run' bH C9
theorem asx:j5 ⟨112,ydQ,ybl,U 24 0 1 1,[C 1 [[S 25 0 1 1],[Z]],C 1 [[U 26 0 2 1]],C 1 [[qI],[bQ]]]⟩:=run' dR.is (o7 asu (o7 asv (o7 asw (o7 aeT (o7 aeU (o7 aeV C9))))))
theorem asy:j5 ⟨308,[ycs,d9.nilMap,u7],yz,ydL,[C 1 [K6,XL,XL,ZN,yfi,yfi,BI,BI]]⟩:=run' A9 C9
theorem aEd:j5 ⟨308,[ycs,d9.nilMap,bB],yz,ydL,ydS⟩:=run' A9 C9
theorem aEe:j5 ⟨308,[ycs,d9.nilMap,bQ],yz,ydL,ydS⟩:=run' A9 C9
theorem aEf:j5 ⟨308,[ycs,d9.nilMap,qI],yz,ydL,[C 1 [[J 997],[bB],[bB],K6,[I 7],[I 7],[XJ],[XJ]]]⟩:=run' A9 C9
theorem aEg:j5 ⟨308,[ycs,d9.nilMap,I 4],yz,ydL,ydN⟩:=run' A9 C9
theorem aEh:j5 ⟨308,[ycs,d9.nilMap,dO],yz,ydL,ydN⟩:=run' A9 C9
theorem aEi:j5 ⟨308,[ycs,d9.nilMap,zD],yz,ydL,ydP⟩:=run' A9 C9
theorem asz:j5 ⟨308,[ycs,d9.nilMap,I 7],yz,ydL,ydP⟩:=run' A9 C9
theorem aEj:j5 ⟨214,ye9,yz,V [U 16 0 8 2,u7],[C 2 [BH,[CZ,Ny],[CZ,Ny],[CZ,Oc],[LD,Tn],[LD,Tn],Bq,Bq]]⟩:=run' eD.is (o7 aeU (o7 aeV (o7 asy (o7 aEd (o7 aEe (o7 aEf (o7 aEg (o7 aEh (o7 aEi (o7 asz C9))))))))))
theorem aku:j5 ⟨69,[ycM,bQ,bX],ybl,V [U 24 0 1 3,u7],yeY⟩:=run' jS.is (o7 aeS (o7 asx (o7 akt (o7 aeT (o7 aEj C9)))))
theorem aEk:j5 ⟨30,[Vg,I 9,bQ,bX],yb,yfc,yeY⟩:=run' Zi.is (o7 asr (o7 aku C9))
theorem aEl:j5 ⟨110,yfd,yb,ydT,yb1⟩:=run' Qx.is C9
theorem asA:j5 ⟨123,ycD,yb4,u7,[]⟩:=run' P9 C9
theorem akv:j5 ⟨72,ydU,ybh,u7,[]⟩:=run' jI.is (o7 asA C9)
theorem asB:j5 ⟨68,yfd,yb,V [ydT,u7],yb1⟩:=run' Zl.is (o7 aeP (o7 aEl (o7 akv C9)))
theorem asC:j5 ⟨213,ycD,yb4,ye5,[ybm,ycp]⟩:=run' bN.is (o7 asA C9)
theorem asD:j5 ⟨369,[yd3],yb7,vk,[]⟩:=run' bG C9
theorem asE:j5 ⟨370,yfg,yb7,V [Z,ff],[]⟩:=run' bH C9
theorem asF:j5 ⟨123,ycD,yb5,u7,[]⟩:=run' P9 C9
theorem ahw:j5 ⟨213,ycD,yb5,ye5,[ybn,ycp]⟩:=run' bN.is (o7 asF C9)
theorem ahx:j5 ⟨369,[yd3],yb8,vk,[]⟩:=run' bG C9
end Go.Proofs.YtfnlnpllpfhhnaaGreatDoor.TT
