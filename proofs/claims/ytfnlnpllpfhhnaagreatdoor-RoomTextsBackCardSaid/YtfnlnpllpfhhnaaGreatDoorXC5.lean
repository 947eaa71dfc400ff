/- Calls of the fixed example, each computed by the kernel; no condition. -/
import Derived.Test.YtfnlnpllpfhhnaaGreatDoorXC4
set_option linter.unusedSimpArgs false
set_option linter.unusedVariables false
namespace Go.Proofs.YtfnlnpllpfhhnaaGreatDoor.TT
open Go Go.AM
set_option maxRecDepth 1000000
theorem ajN:r9 ⟨128,ybp,[yu,ya,yn,yaz,yfl,yfj,yaB,yfj,ybV,ycf,C 8 [[yfk,yfp,yfq,Z,ygd,yfk,yfk,yfk]]],tt,[]⟩:=run' dK (okC ajL (okC Yt (okC Yu (okC ajM okN))))
theorem ajO:r9 ⟨123,yg,ya9,yfk,[]⟩:=run' P7 okN
theorem Yx:r9 ⟨72,yA,ya9,yfk,[]⟩:=run' mX (okC ajO okN)
theorem Rc:r9 ⟨123,yg,ybL,yfk,[]⟩:=run' P7 okN
theorem Rf:r9 ⟨213,yg,ybL,yaC,[yV,yf]⟩:=run' bB (okC Rc okN)
theorem Rh:r9 ⟨369,yaF,yan,yb6,[]⟩:=run' aZ okN
theorem Ri:r9 ⟨370,yaO,yan,ybY,[C 1 [ybX,ye0,ye0,[yge],[yge],[yge],ycF]]⟩:=run' bf okN
theorem Yy:r9 ⟨112,yA,ya9,yfo,ycu⟩:=run' cZ (okC Rf (okC Rh (okC Ri okN)))
theorem Yz:r9 ⟨308,yaH,yan,yay,[C 1 [ybX,ye0,ye0,[yge],[yge],[yge],yfz]]⟩:=run' I5 okN
theorem ajP:r9 ⟨308,yaI,yan,yay,yel⟩:=run' I5 okN
theorem ajQ:r9 ⟨308,yaJ,yan,yay,yel⟩:=run' I5 okN
theorem ajR:r9 ⟨308,yaK,yan,yay,yc3⟩:=run' I5 okN
theorem ajS:r9 ⟨308,yaL,yan,yay,yc3⟩:=run' I5 okN
theorem YA:r9 ⟨308,yaM,yan,yay,yc3⟩:=run' I5 okN
theorem ajT:r9 ⟨308,yaN,yan,yay,[C 1 [ycK,[J 95],[J 95],[J 106],[J 106],[J 106],ybX]]⟩:=run' I5 okN
theorem ajU:r9 ⟨214,yaF,yan,ybZ,[C 2 [ycB,[yfC,yfO],[yfC,yfO],[yge,yge],[yge,yge],[yge,yge],yb9]]⟩:=run' dB (okC Rh (okC Ri (okC Yz (okC ajP (okC ajQ (okC ajR (okC ajS (okC YA (okC ajT okN)))))))))
theorem ajV:r9 ⟨69,yaA,ya9,yb0,[C 3 [[ygE,yge,yge]]]⟩:=run' nE (okC Yx (okC Yy (okC Rc (okC Rf (okC ajU okN)))))
theorem ajW:r9 ⟨122,yaw,ybL,ycE,[]⟩:=run' dz (okC Rc (okC Rf (okC Rh (okC Ri (okC YA (okC Yz okN))))))
theorem ajX:r9 ⟨128,ybp,[yu,ya,yn,yaz,yfl,yfj,yaB,yfj,ybV,ycf,C 8 [[yfk,yfp,yfq,Z,yge,yfk,yfk,yfk]]],tt,[]⟩:=run' dK (okC ajV (okC Yx (okC Yy (okC ajW okN))))
theorem ajY:r9 ⟨123,yg,yba,yfk,[]⟩:=run' P7 okN
theorem YB:r9 ⟨72,yA,yba,yfk,[]⟩:=run' mX (okC ajY okN)
theorem Rj:r9 ⟨123,yg,ybM,yfk,[]⟩:=run' P7 okN
theorem Rk:r9 ⟨213,yg,ybM,yaC,[yW,yf]⟩:=run' bB (okC Rj okN)
theorem Rm:r9 ⟨369,yaF,yao,yb6,[]⟩:=run' aZ okN
theorem Rn:r9 ⟨370,yaO,yao,ybY,[C 1 [ybX,ye7,ye7,[ygf],[ygf],[ygf],ycF]]⟩:=run' bf okN
theorem YC:r9 ⟨112,yA,yba,yfo,ycu⟩:=run' cZ (okC Rk (okC Rm (okC Rn okN)))
theorem YD:r9 ⟨308,yaH,yao,yay,[C 1 [ybX,ye7,ye7,[ygf],[ygf],[ygf],yfz]]⟩:=run' I5 okN
theorem ajZ:r9 ⟨308,yaI,yao,yay,yen⟩:=run' I5 okN
theorem ak0:r9 ⟨308,yaJ,yao,yay,yen⟩:=run' I5 okN
theorem ak1:r9 ⟨308,yaK,yao,yay,yc5⟩:=run' I5 okN
theorem ak2:r9 ⟨308,yaL,yao,yay,yc5⟩:=run' I5 okN
theorem YE:r9 ⟨308,yaM,yao,yay,yc5⟩:=run' I5 okN
theorem ak3:r9 ⟨308,yaN,yao,yay,[C 1 [ycK,[J 94],[J 94],[J 105],[J 105],[J 105],ybX]]⟩:=run' I5 okN
theorem ak4:r9 ⟨214,yaF,yao,ybZ,[C 2 [ycB,[yfC,yfY],[yfC,yfY],[ygf,ygf],[ygf,ygf],[ygf,ygf],yb9]]⟩:=run' dB (okC Rm (okC Rn (okC YD (okC ajZ (okC ak0 (okC ak1 (okC ak2 (okC YE (okC ak3 okN)))))))))
theorem ak5:r9 ⟨69,yaA,yba,yb0,[C 3 [[ygE,ygf,ygf]]]⟩:=run' nE (okC YB (okC YC (okC Rj (okC Rk (okC ak4 okN)))))
theorem ak6:r9 ⟨122,yaw,ybM,ycE,[]⟩:=run' dz (okC Rj (okC Rk (okC Rm (okC Rn (okC YE (okC YD okN))))))
theorem ak7:r9 ⟨128,ybp,[yu,ya,yn,yaz,yfl,yfj,yaB,yfj,ybV,ycf,C 8 [[yfk,yfp,yfq,Z,ygf,yfk,yfk,yfk]]],tt,[]⟩:=run' dK (okC ak5 (okC YB (okC YC (okC ak6 okN))))
theorem ak8:r9 ⟨123,yg,ybb,yfk,[]⟩:=run' P7 okN
theorem YF:r9 ⟨72,yA,ybb,yfk,[]⟩:=run' mX (okC ak8 okN)
theorem Ro:r9 ⟨123,yg,ybN,yfk,[]⟩:=run' P7 okN
theorem Rp:r9 ⟨213,yg,ybN,yaC,[yX,yf]⟩:=run' bB (okC Ro okN)
theorem Rq:r9 ⟨369,yaF,yap,yb6,[]⟩:=run' aZ okN
theorem Rs:r9 ⟨370,yaO,yap,ybY,[C 1 [ybX,yb3,yb3,[ygg],[ygg],[ygg],ycF]]⟩:=run' bf okN
theorem YG:r9 ⟨112,yA,ybb,yfo,ycu⟩:=run' cZ (okC Rp (okC Rq (okC Rs okN)))
theorem YH:r9 ⟨308,yaH,yap,yay,[C 1 [ybX,yb3,yb3,[ygg],[ygg],[ygg],yfz]]⟩:=run' I5 okN
theorem ak9:r9 ⟨308,yaI,yap,yay,yep⟩:=run' I5 okN
theorem akb:r9 ⟨308,yaJ,yap,yay,yep⟩:=run' I5 okN
theorem akc:r9 ⟨308,yaK,yap,yay,yc7⟩:=run' I5 okN
theorem akd:r9 ⟨308,yaL,yap,yay,yc7⟩:=run' I5 okN
theorem YI:r9 ⟨308,yaM,yap,yay,yc7⟩:=run' I5 okN
theorem ake:r9 ⟨308,yaN,yap,yay,[C 1 [ycK,ydJ,ydJ,[J 104],[J 104],[J 104],ybX]]⟩:=run' I5 okN
theorem akf:r9 ⟨214,yaF,yap,ybZ,[C 2 [ycB,ycx,ycx,[ygg,ygg],[ygg,ygg],[ygg,ygg],yb9]]⟩:=run' dB (okC Rq (okC Rs (okC YH (okC ak9 (okC akb (okC akc (okC akd (okC YI (okC ake okN)))))))))
theorem akg:r9 ⟨69,yaA,ybb,yb0,[C 3 [[ygE,ygg,ygg]]]⟩:=run' nE (okC YF (okC YG (okC Ro (okC Rp (okC akf okN)))))
theorem akh:r9 ⟨122,yaw,ybN,ycE,[]⟩:=run' dz (okC Ro (okC Rp (okC Rq (okC Rs (okC YI (okC YH okN))))))
theorem aki:r9 ⟨128,ybp,[yu,ya,yn,yaz,yfl,yfj,yaB,yfj,ybV,ycf,C 8 [[yfk,yfp,yfq,Z,ygg,yfk,yfk,yfk]]],tt,[]⟩:=run' dK (okC akg (okC YF (okC YG (okC akh okN))))
theorem akj:r9 ⟨123,yg,ybc,yfk,[]⟩:=run' P7 okN
theorem YJ:r9 ⟨72,yA,ybc,yfk,[]⟩:=run' mX (okC akj okN)
theorem Rt:r9 ⟨123,yg,ybO,yfk,[]⟩:=run' P7 okN
theorem Ru:r9 ⟨213,yg,ybO,yaC,[yY,yf]⟩:=run' bB (okC Rt okN)
theorem Rv:r9 ⟨369,yaF,yaq,yb6,[]⟩:=run' aZ okN
theorem Rw:r9 ⟨370,yaO,yaq,ybY,[C 1 [ybX,yb3,yb3,[yfC],[yfC],[yfC],ycF]]⟩:=run' bf okN
end Go.Proofs.YtfnlnpllpfhhnaaGreatDoor.TT
