/- Calls of the fixed example, each computed by the kernel; no condition. -/
import Derived.Test.YtfnlnpllpfhhnaaGreatDoorXC8
set_option linter.unusedSimpArgs false
set_option linter.unusedVariables false
namespace Go.Proofs.YtfnlnpllpfhhnaaGreatDoor.TT
open Go Go.AM
set_option maxRecDepth 1000000
theorem am0:r9 ⟨308,yaJ,y7,yay,yeJ⟩:=run' I5 okN
theorem am1:r9 ⟨308,yaK,y7,yay,ydt⟩:=run' I5 okN
theorem am2:r9 ⟨308,yaL,y7,yay,ydt⟩:=run' I5 okN
theorem ZC:r9 ⟨308,yaM,y7,yay,ydt⟩:=run' I5 okN
theorem am3:r9 ⟨308,yaN,y7,yay,[C 1 [ycK,ydJ,ydJ,ydJ,ydJ,ydJ,ybX]]⟩:=run' I5 okN
theorem am4:r9 ⟨214,yaF,y7,ybZ,[C 2 [ycB,[yfN,yfA],[yfN,yfA],ye1,ye1,ye1,yb9]]⟩:=run' dB (okC SG (okC SH (okC ZB (okC alZ (okC am0 (okC am1 (okC am2 (okC ZC (okC am3 okN)))))))))
theorem am5:r9 ⟨69,yaA,yaU,yb0,[C 3 [[ygE,yfA,yfA]]]⟩:=run' nE (okC Zz (okC ZA (okC SE (okC SF (okC am4 okN)))))
theorem am6:r9 ⟨122,yaw,ybw,ycL,[]⟩:=run' dz (okC SE (okC SF (okC SG (okC SH (okC ZC (okC ZB okN))))))
theorem am7:r9 ⟨128,ybp,[yu,ya,yn,yaz,yfl,yfj,yaB,yfj,ybV,ycf,C 8 [[yfk,yfp,yfq,Z,yfA,yfk,yfk,yfk]]],tt,[]⟩:=run' dK (okC am5 (okC Zz (okC ZA (okC am6 okN))))
theorem am8:r9 ⟨123,yg,yaV,yfk,[]⟩:=run' P7 okN
theorem ZE:r9 ⟨72,yA,yaV,yfk,[]⟩:=run' mX (okC am8 okN)
theorem SI:r9 ⟨123,yg,ybx,yfk,[]⟩:=run' P7 okN
theorem SK:r9 ⟨213,yg,ybx,yaC,[yG,yf]⟩:=run' bB (okC SI okN)
theorem SL:r9 ⟨369,yaF,y8,yb6,[]⟩:=run' aZ okN
theorem SN:r9 ⟨370,yaO,y8,ybY,[C 1 [ybX,yb3,yb3,[yfS],[yfS],[yfS],ycF]]⟩:=run' bf okN
theorem ZF:r9 ⟨112,yA,yaV,yfo,ycu⟩:=run' cZ (okC SK (okC SL (okC SN okN)))
theorem ZG:r9 ⟨308,yaH,y8,yay,[C 1 [ybX,yb3,yb3,[yfS],[yfS],[yfS],yfz]]⟩:=run' I5 okN
theorem am9:r9 ⟨308,yaI,y8,yay,yeL⟩:=run' I5 okN
theorem ama:r9 ⟨308,yaJ,y8,yay,yeL⟩:=run' I5 okN
theorem amb:r9 ⟨308,yaK,y8,yay,ydv⟩:=run' I5 okN
theorem amc:r9 ⟨308,yaL,y8,yay,ydv⟩:=run' I5 okN
theorem ZH:r9 ⟨308,yaM,y8,yay,ydv⟩:=run' I5 okN
theorem amd:r9 ⟨308,yaN,y8,yay,[C 1 [ycK,ydJ,ydJ,[J 92],[J 92],[J 92],ybX]]⟩:=run' I5 okN
theorem ame:r9 ⟨214,yaF,y8,ybZ,[C 2 [ycB,[ygF,yfA],[ygF,yfA],[yfS,yfS],[yfS,yfS],[yfS,yfS],yb9]]⟩:=run' dB (okC SL (okC SN (okC ZG (okC am9 (okC ama (okC amb (okC amc (okC ZH (okC amd okN)))))))))
theorem amf:r9 ⟨69,yaA,yaV,yb0,[C 3 [[ygE,yfS,yfS]]]⟩:=run' nE (okC ZE (okC ZF (okC SI (okC SK (okC ame okN)))))
theorem amg:r9 ⟨122,yaw,ybx,ycL,[]⟩:=run' dz (okC SI (okC SK (okC SL (okC SN (okC ZH (okC ZG okN))))))
theorem amh:r9 ⟨128,ybp,[yu,ya,yn,yaz,yfl,yfj,yaB,yfj,ybV,ycf,C 8 [[yfk,yfp,yfq,Z,yfS,yfk,yfk,yfk]]],tt,[]⟩:=run' dK (okC amf (okC ZE (okC ZF (okC amg okN))))
theorem ami:r9 ⟨123,yg,yaW,yfk,[]⟩:=run' P7 okN
theorem ZI:r9 ⟨72,yA,yaW,yfk,[]⟩:=run' mX (okC ami okN)
theorem SQ:r9 ⟨123,yg,yby,yfk,[]⟩:=run' P7 okN
theorem SS:r9 ⟨213,yg,yby,yaC,[yH,yf]⟩:=run' bB (okC SQ okN)
theorem SV:r9 ⟨369,yaF,y9,yb6,[]⟩:=run' aZ okN
theorem SX:r9 ⟨370,yaO,y9,ybY,[C 1 [ybX,yb3,yb3,yfh,yfh,yfh,ycF]]⟩:=run' bf okN
theorem ZJ:r9 ⟨112,yA,yaW,yfo,ycu⟩:=run' cZ (okC SS (okC SV (okC SX okN)))
theorem ZK:r9 ⟨308,yaH,y9,yay,[C 1 [ybX,yb3,yb3,yfh,yfh,yfh,yfz]]⟩:=run' I5 okN
theorem amj:r9 ⟨308,yaI,y9,yay,yd5⟩:=run' I5 okN
theorem amk:r9 ⟨308,yaJ,y9,yay,yd5⟩:=run' I5 okN
theorem aml:r9 ⟨308,yaK,y9,yay,ydx⟩:=run' I5 okN
theorem amm:r9 ⟨308,yaL,y9,yay,ydx⟩:=run' I5 okN
theorem ZL:r9 ⟨308,yaM,y9,yay,ydx⟩:=run' I5 okN
theorem amn:r9 ⟨308,yaN,y9,yay,[C 1 [ycK,ydJ,ydJ,[J 91],[J 91],[J 91],ybX]]⟩:=run' I5 okN
theorem amo:r9 ⟨214,yaF,y9,ybZ,[C 2 [ycB,[yfX,yfA],[yfX,yfA],[ygk,ygk],[ygk,ygk],[ygk,ygk],yb9]]⟩:=run' dB (okC SV (okC SX (okC ZK (okC amj (okC amk (okC aml (okC amm (okC ZL (okC amn okN)))))))))
theorem amq:r9 ⟨69,yaA,yaW,yb0,[C 3 [[ygE,ygk,ygk]]]⟩:=run' nE (okC ZI (okC ZJ (okC SQ (okC SS (okC amo okN)))))
theorem amr:r9 ⟨122,yaw,yby,ycL,[]⟩:=run' dz (okC SQ (okC SS (okC SV (okC SX (okC ZL (okC ZK okN))))))
theorem ams:r9 ⟨128,ybp,[yu,ya,yn,yaz,yfl,yfj,yaB,yfj,ybV,ycf,C 8 [[yfk,yfp,yfq,Z,ygk,yfk,yfk,yfk]]],tt,[]⟩:=run' dK (okC amq (okC ZI (okC ZJ (okC amr okN))))
theorem amt:r9 ⟨123,yg,yaX,yfk,[]⟩:=run' P7 okN
theorem ZM:r9 ⟨72,yA,yaX,yfk,[]⟩:=run' mX (okC amt okN)
theorem SY:r9 ⟨123,yg,ybz,yfk,[]⟩:=run' P7 okN
theorem Ta:r9 ⟨213,yg,ybz,yaC,[yI,yf]⟩:=run' bB (okC SY okN)
theorem Tc:r9 ⟨369,yaF,yaa,yb6,[]⟩:=run' aZ okN
theorem Td:r9 ⟨370,yaO,yaa,ybY,[C 1 [ybX,yb3,yb3,[yfT],[yfT],[yfT],ycF]]⟩:=run' bf okN
theorem ZN:r9 ⟨112,yA,yaX,yfo,ycu⟩:=run' cZ (okC Ta (okC Tc (okC Td okN)))
theorem ZO:r9 ⟨308,yaH,yaa,yay,[C 1 [ybX,yb3,yb3,[yfT],[yfT],[yfT],yfz]]⟩:=run' I5 okN
theorem amu:r9 ⟨308,yaI,yaa,yay,yeN⟩:=run' I5 okN
theorem amv:r9 ⟨308,yaJ,yaa,yay,yeN⟩:=run' I5 okN
theorem amw:r9 ⟨308,yaK,yaa,yay,ydz⟩:=run' I5 okN
theorem amx:r9 ⟨308,yaL,yaa,yay,ydz⟩:=run' I5 okN
theorem ZP:r9 ⟨308,yaM,yaa,yay,ydz⟩:=run' I5 okN
theorem amy:r9 ⟨308,yaN,yaa,yay,[C 1 [ycK,ydJ,ydJ,[J 90],[J 90],[J 90],ybX]]⟩:=run' I5 okN
theorem amz:r9 ⟨214,yaF,yaa,ybZ,[C 2 [ycB,[yfR,yfA],[yfR,yfA],[yfT,yfT],[yfT,yfT],[yfT,yfT],yb9]]⟩:=run' dB (okC Tc (okC Td (okC ZO (okC amu (okC amv (okC amw (okC amx (okC ZP (okC amy okN)))))))))
theorem amA:r9 ⟨69,yaA,yaX,yb0,[C 3 [[ygE,yfT,yfT]]]⟩:=run' nE (okC ZM (okC ZN (okC SY (okC Ta (okC amz okN)))))
end Go.Proofs.YtfnlnpllpfhhnaaGreatDoor.TT
