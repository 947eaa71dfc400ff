/- Calls of the fixed example, each computed by the kernel; no condition. -/
import Derived.Test.YtfnlnpllpfhhnaaGreatDoorQB0
set_option linter.all false
namespace Go.Proofs.YtfnlnpllpfhhnaaGreatDoor.TT
open Go Go.AM
set_option maxRecDepth 1000000
theorem avf:l6 ⟨123,yf,[ya,yr,C 8 [yc,[cO,dX,AZ,Z,x9,x9,x9,x9]],dL,U7,U7],x9,[]⟩:=run' Q9 D6
theorem avg:l6 ⟨123,yf,ya7,x9,[]⟩:=run' Q9 D6
theorem avh:l6 ⟨72,yz,ya7,x9,[]⟩:=run' kY.is (A9 avg D6)
theorem ahU:l6 ⟨123,yf,yb1,x9,[]⟩:=run' Q9 D6
theorem ahV:l6 ⟨213,yf,yb1,Cw,[yP,yd]⟩:=run' dJ.is (A9 ahU D6)
theorem ahW:l6 ⟨369,Cy,yah,wE,[]⟩:=run' dD D6
theorem ahX:l6 ⟨370,Cx,yah,Cz,[C 1 [L9,[Wo],[Wo],[I 986],[I 986],[I 986],CB]]⟩:=run' dF D6
theorem avi:l6 ⟨112,yz,ya7,En,Er⟩:=run' fC.is (A9 ahV (A9 ahW (A9 ahX D6)))
theorem avj:l6 ⟨308,EL,yah,U3,[C 1 [L9,[Wo],[Wo],[I 986],[I 986],[I 986],CW]]⟩:=run' C9 D6
theorem avk:l6 ⟨308,EO,yah,U3,ydZ⟩:=run' C9 D6
theorem avl:l6 ⟨308,EP,yah,U3,ydZ⟩:=run' C9 D6
theorem avm:l6 ⟨308,ER,yah,U3,ycH⟩:=run' C9 D6
theorem avn:l6 ⟨308,ES,yah,U3,ycH⟩:=run' C9 D6
theorem avo:l6 ⟨308,ET,yah,U3,ycH⟩:=run' C9 D6
theorem avp:l6 ⟨308,EU,yah,U3,[C 1 [Es,[J 101],[J 101],[J 112],[J 112],[J 112],L9]]⟩:=run' C9 D6
theorem avq:l6 ⟨128,EW,[yn,ya,yr,Ej,dL,U7,Em,U7,Eo,Ep,C 8 [[x9,dX,El,Z,I 986,x9,x9,x9]]],tt,[]⟩:=run' gy.is (A9 avh (A9 avi (A9 ahU (A9 ahV (A9 ahW (A9 ahX (A9 avj (A9 avk (A9 avl (A9 avm (A9 avn (A9 avo (A9 avp D6)))))))))))))
theorem avr:l6 ⟨123,yf,ybe,x9,[]⟩:=run' Q9 D6
theorem avs:l6 ⟨72,yz,ybe,x9,[]⟩:=run' kY.is (A9 avr D6)
theorem ahY:l6 ⟨123,yf,yb8,x9,[]⟩:=run' Q9 D6
theorem ahZ:l6 ⟨213,yf,yb8,Cw,[yW,yd]⟩:=run' dJ.is (A9 ahY D6)
theorem ai0:l6 ⟨369,Cy,yao,wE,[]⟩:=run' dD D6
theorem ai1:l6 ⟨370,Cx,yao,Cz,[C 1 [L9,yeV,yeV,[I 993],[I 993],[I 993],CB]]⟩:=run' dF D6
theorem avt:l6 ⟨112,yz,ybe,En,Er⟩:=run' fC.is (A9 ahZ (A9 ai0 (A9 ai1 D6)))
theorem avu:l6 ⟨308,EL,yao,U3,[C 1 [L9,yeV,yeV,[I 993],[I 993],[I 993],CW]]⟩:=run' C9 D6
theorem avv:l6 ⟨308,EO,yao,U3,yed⟩:=run' C9 D6
theorem avw:l6 ⟨308,EP,yao,U3,yed⟩:=run' C9 D6
theorem avx:l6 ⟨308,ER,yao,U3,ycV⟩:=run' C9 D6
theorem avy:l6 ⟨308,ES,yao,U3,ycV⟩:=run' C9 D6
theorem avz:l6 ⟨308,ET,yao,U3,ycV⟩:=run' C9 D6
theorem avA:l6 ⟨308,EU,yao,U3,[C 1 [Es,[J 94],[J 94],[J 105],[J 105],[J 105],L9]]⟩:=run' C9 D6
theorem avB:l6 ⟨128,EW,[yn,ya,yr,Ej,dL,U7,Em,U7,Eo,Ep,C 8 [[x9,dX,El,Z,I 993,x9,x9,x9]]],tt,[]⟩:=run' gy.is (A9 avs (A9 avt (A9 ahY (A9 ahZ (A9 ai0 (A9 ai1 (A9 avu (A9 avv (A9 avw (A9 avx (A9 avy (A9 avz (A9 avA D6)))))))))))))
theorem avC:l6 ⟨123,yf,ybh,x9,[]⟩:=run' Q9 D6
theorem avD:l6 ⟨72,yz,ybh,x9,[]⟩:=run' kY.is (A9 avC D6)
theorem ai2:l6 ⟨123,yf,ycb,x9,[]⟩:=run' Q9 D6
theorem ai3:l6 ⟨213,yf,ycb,Cw,[yZ,yd]⟩:=run' dJ.is (A9 ai2 D6)
theorem ai4:l6 ⟨369,Cy,yar,wE,[]⟩:=run' dD D6
theorem ai5:l6 ⟨370,Cx,yar,Cz,[C 1 [L9,iT,iT,[Wn],[Wn],[Wn],CB]]⟩:=run' dF D6
theorem avE:l6 ⟨112,yz,ybh,En,Er⟩:=run' fC.is (A9 ai3 (A9 ai4 (A9 ai5 D6)))
theorem avF:l6 ⟨308,EL,yar,U3,[C 1 [L9,iT,iT,[Wn],[Wn],[Wn],CW]]⟩:=run' C9 D6
theorem avG:l6 ⟨308,EO,yar,U3,yej⟩:=run' C9 D6
theorem avH:l6 ⟨308,EP,yar,U3,yej⟩:=run' C9 D6
theorem avI:l6 ⟨308,ER,yar,U3,yc3⟩:=run' C9 D6
theorem avJ:l6 ⟨308,ES,yar,U3,yc3⟩:=run' C9 D6
theorem avK:l6 ⟨308,ET,yar,U3,yc3⟩:=run' C9 D6
theorem avL:l6 ⟨308,EU,yar,U3,[C 1 [Es,wF,wF,[J 102],[J 102],[J 102],L9]]⟩:=run' C9 D6
theorem avM:l6 ⟨128,EW,[yn,ya,yr,Ej,dL,U7,Em,U7,Eo,Ep,C 8 [[x9,dX,El,Z,Wn,x9,x9,x9]]],tt,[]⟩:=run' gy.is (A9 avD (A9 avE (A9 ai2 (A9 ai3 (A9 ai4 (A9 ai5 (A9 avF (A9 avG (A9 avH (A9 avI (A9 avJ (A9 avK (A9 avL D6)))))))))))))
theorem avN:l6 ⟨123,yf,ybi,x9,[]⟩:=run' Q9 D6
theorem avO:l6 ⟨72,yz,ybi,x9,[]⟩:=run' kY.is (A9 avN D6)
theorem ai6:l6 ⟨123,yf,ycc,x9,[]⟩:=run' Q9 D6
theorem ai7:l6 ⟨213,yf,ycc,Cw,[y0,yd]⟩:=run' dJ.is (A9 ai6 D6)
theorem ai8:l6 ⟨369,Cy,yas,wE,[]⟩:=run' dD D6
theorem ai9:l6 ⟨370,Cx,yas,Cz,[C 1 [L9,iT,iT,[Wo],[Wo],[Wo],CB]]⟩:=run' dF D6
theorem avP:l6 ⟨112,yz,ybi,En,Er⟩:=run' fC.is (A9 ai7 (A9 ai8 (A9 ai9 D6)))
theorem avQ:l6 ⟨308,EL,yas,U3,[C 1 [L9,iT,iT,[Wo],[Wo],[Wo],CW]]⟩:=run' C9 D6
theorem avR:l6 ⟨308,EO,yas,U3,yel⟩:=run' C9 D6
theorem avS:l6 ⟨308,EP,yas,U3,yel⟩:=run' C9 D6
theorem avT:l6 ⟨308,ER,yas,U3,yc5⟩:=run' C9 D6
theorem avU:l6 ⟨308,ES,yas,U3,yc5⟩:=run' C9 D6
theorem avV:l6 ⟨308,ET,yas,U3,yc5⟩:=run' C9 D6
theorem avW:l6 ⟨308,EU,yas,U3,[C 1 [Es,wF,wF,[J 101],[J 101],[J 101],L9]]⟩:=run' C9 D6
theorem avX:l6 ⟨128,EW,[yn,ya,yr,Ej,dL,U7,Em,U7,Eo,Ep,C 8 [[x9,dX,El,Z,Wo,x9,x9,x9]]],tt,[]⟩:=run' gy.is (A9 avO (A9 avP (A9 ai6 (A9 ai7 (A9 ai8 (A9 ai9 (A9 avQ (A9 avR (A9 avS (A9 avT (A9 avU (A9 avV (A9 avW D6)))))))))))))
end Go.Proofs.YtfnlnpllpfhhnaaGreatDoor.TT
