/- Calls of the fixed example, each computed by the kernel; no condition. -/
import Derived.Test.YtfnlnpllpfhhnaaGreatDoorQB0
set_option linter.all false
namespace Go.Proofs.YtfnlnpllpfhhnaaGreatDoor.TT
open Go Go.AM
set_option maxRecDepth 1000000
theorem awI:l6 ⟨123,yf,ycf,x9,[]⟩:=run' Q9 D6
theorem awJ:l6 ⟨72,yz,ycf,x9,[]⟩:=run' kY.is (A9 awI D6)
theorem awK:l6 ⟨123,yf,ya8,x9,[]⟩:=run' Q9 D6
theorem awL:l6 ⟨72,yz,ya8,x9,[]⟩:=run' kY.is (A9 awK D6)
theorem aiu:l6 ⟨123,yf,yb2,x9,[]⟩:=run' Q9 D6
theorem aiv:l6 ⟨213,yf,yb2,Cw,[yQ,yd]⟩:=run' dJ.is (A9 aiu D6)
theorem aiw:l6 ⟨369,Cy,yai,wE,[]⟩:=run' dD D6
theorem aix:l6 ⟨370,Cx,yai,Cz,[C 1 [L9,[Wp],[Wp],[I 987],[I 987],[I 987],CB]]⟩:=run' dF D6
theorem awM:l6 ⟨112,yz,ya8,En,Er⟩:=run' fC.is (A9 aiv (A9 aiw (A9 aix D6)))
theorem awN:l6 ⟨308,EL,yai,U3,[C 1 [L9,[Wp],[Wp],[I 987],[I 987],[I 987],CW]]⟩:=run' C9 D6
theorem awO:l6 ⟨308,EO,yai,U3,yd1⟩:=run' C9 D6
theorem awP:l6 ⟨308,EP,yai,U3,yd1⟩:=run' C9 D6
theorem awQ:l6 ⟨308,ER,yai,U3,ycJ⟩:=run' C9 D6
theorem awR:l6 ⟨308,ES,yai,U3,ycJ⟩:=run' C9 D6
theorem awS:l6 ⟨308,ET,yai,U3,ycJ⟩:=run' C9 D6
theorem awT:l6 ⟨308,EU,yai,U3,[C 1 [Es,[J 100],[J 100],[J 111],[J 111],[J 111],L9]]⟩:=run' C9 D6
theorem awU:l6 ⟨128,EW,[yn,ya,yr,Ej,dL,U7,Em,U7,Eo,Ep,C 8 [[x9,dX,El,Z,I 987,x9,x9,x9]]],tt,[]⟩:=run' gy.is (A9 awL (A9 awM (A9 aiu (A9 aiv (A9 aiw (A9 aix (A9 awN (A9 awO (A9 awP (A9 awQ (A9 awR (A9 awS (A9 awT D6)))))))))))))
theorem awV:l6 ⟨123,yf,ybb,x9,[]⟩:=run' Q9 D6
theorem awW:l6 ⟨72,yz,ybb,x9,[]⟩:=run' kY.is (A9 awV D6)
theorem aiy:l6 ⟨123,yf,yb5,x9,[]⟩:=run' Q9 D6
theorem aiz:l6 ⟨213,yf,yb5,Cw,[yT,yd]⟩:=run' dJ.is (A9 aiy D6)
theorem aiA:l6 ⟨369,Cy,yal,wE,[]⟩:=run' dD D6
theorem aiB:l6 ⟨370,Cx,yal,Cz,[C 1 [L9,YZ,YZ,[I 990],[I 990],[I 990],CB]]⟩:=run' dF D6
theorem awX:l6 ⟨112,yz,ybb,En,Er⟩:=run' fC.is (A9 aiz (A9 aiA (A9 aiB D6)))
theorem awY:l6 ⟨308,EL,yal,U3,[C 1 [L9,YZ,YZ,[I 990],[I 990],[I 990],CW]]⟩:=run' C9 D6
theorem awZ:l6 ⟨308,EO,yal,U3,yd7⟩:=run' C9 D6
theorem ax0:l6 ⟨308,EP,yal,U3,yd7⟩:=run' C9 D6
theorem ax1:l6 ⟨308,ER,yal,U3,ycP⟩:=run' C9 D6
theorem ax2:l6 ⟨308,ES,yal,U3,ycP⟩:=run' C9 D6
theorem ax3:l6 ⟨308,ET,yal,U3,ycP⟩:=run' C9 D6
theorem ax4:l6 ⟨308,EU,yal,U3,[C 1 [Es,[J 97],[J 97],[J 108],[J 108],[J 108],L9]]⟩:=run' C9 D6
theorem ax5:l6 ⟨128,EW,[yn,ya,yr,Ej,dL,U7,Em,U7,Eo,Ep,C 8 [[x9,dX,El,Z,I 990,x9,x9,x9]]],tt,[]⟩:=run' gy.is (A9 awW (A9 awX (A9 aiy (A9 aiz (A9 aiA (A9 aiB (A9 awY (A9 awZ (A9 ax0 (A9 ax1 (A9 ax2 (A9 ax3 (A9 ax4 D6)))))))))))))
theorem ax6:l6 ⟨123,yf,yaU,x9,[]⟩:=run' Q9 D6
theorem ax7:l6 ⟨72,yz,yaU,x9,[]⟩:=run' kY.is (A9 ax6 D6)
theorem aiC:l6 ⟨123,yf,ybM,x9,[]⟩:=run' Q9 D6
theorem aiD:l6 ⟨213,yf,ybM,Cw,[yB,yd]⟩:=run' dJ.is (A9 aiC D6)
theorem aiE:l6 ⟨369,Cy,y3,wE,[]⟩:=run' dD D6
theorem aiF:l6 ⟨370,Cx,y3,Cz,[C 1 [L9,iT,iT,YZ,YZ,YZ,CB]]⟩:=run' dF D6
theorem ax8:l6 ⟨112,yz,yaU,En,Er⟩:=run' fC.is (A9 aiD (A9 aiE (A9 aiF D6)))
theorem ax9:l6 ⟨308,EL,y3,U3,[C 1 [L9,iT,iT,YZ,YZ,YZ,CW]]⟩:=run' C9 D6
theorem axa:l6 ⟨308,EO,y3,U3,ycu⟩:=run' C9 D6
theorem axb:l6 ⟨308,EP,y3,U3,ycu⟩:=run' C9 D6
theorem axc:l6 ⟨308,ER,y3,U3,yc1⟩:=run' C9 D6
theorem axd:l6 ⟨308,ES,y3,U3,yc1⟩:=run' C9 D6
theorem axe:l6 ⟨308,ET,y3,U3,yc1⟩:=run' C9 D6
theorem axf:l6 ⟨308,EU,y3,U3,[C 1 [Es,wF,wF,[J 97],[J 97],[J 97],L9]]⟩:=run' C9 D6
theorem axg:l6 ⟨128,EW,[yn,ya,yr,Ej,dL,U7,Em,U7,Eo,Ep,C 8 [[x9,dX,El,Z,I 1001,x9,x9,x9]]],tt,[]⟩:=run' gy.is (A9 ax7 (A9 ax8 (A9 aiC (A9 aiD (A9 aiE (A9 aiF (A9 ax9 (A9 axa (A9 axb (A9 axc (A9 axd (A9 axe (A9 axf D6)))))))))))))
theorem axh:l6 ⟨123,yf,yaV,x9,[]⟩:=run' Q9 D6
theorem axi:l6 ⟨72,yz,yaV,x9,[]⟩:=run' kY.is (A9 axh D6)
theorem aiG:l6 ⟨123,yf,ybN,x9,[]⟩:=run' Q9 D6
theorem aiH:l6 ⟨213,yf,ybN,Cw,[yC,yd]⟩:=run' dJ.is (A9 aiG D6)
theorem aiI:l6 ⟨369,Cy,y4,wE,[]⟩:=run' dD D6
theorem aiJ:l6 ⟨370,Cx,y4,Cz,[C 1 [L9,iT,iT,yeS,yeS,yeS,CB]]⟩:=run' dF D6
theorem axj:l6 ⟨112,yz,yaV,En,Er⟩:=run' fC.is (A9 aiH (A9 aiI (A9 aiJ D6)))
theorem axk:l6 ⟨308,EL,y4,U3,[C 1 [L9,iT,iT,yeS,yeS,yeS,CW]]⟩:=run' C9 D6
theorem axl:l6 ⟨308,EO,y4,U3,yet⟩:=run' C9 D6
theorem axm:l6 ⟨308,EP,y4,U3,yet⟩:=run' C9 D6
theorem axn:l6 ⟨308,ER,y4,U3,ydd⟩:=run' C9 D6
theorem axo:l6 ⟨308,ES,y4,U3,ydd⟩:=run' C9 D6
theorem axp:l6 ⟨308,ET,y4,U3,ydd⟩:=run' C9 D6
theorem axq:l6 ⟨308,EU,y4,U3,[C 1 [Es,wF,wF,[J 96],[J 96],[J 96],L9]]⟩:=run' C9 D6
theorem axr:l6 ⟨128,EW,[yn,ya,yr,Ej,dL,U7,Em,U7,Eo,Ep,C 8 [[x9,dX,El,Z,I 1002,x9,x9,x9]]],tt,[]⟩:=run' gy.is (A9 axi (A9 axj (A9 aiG (A9 aiH (A9 aiI (A9 aiJ (A9 axk (A9 axl (A9 axm (A9 axn (A9 axo (A9 axp (A9 axq D6)))))))))))))
end Go.Proofs.YtfnlnpllpfhhnaaGreatDoor.TT
