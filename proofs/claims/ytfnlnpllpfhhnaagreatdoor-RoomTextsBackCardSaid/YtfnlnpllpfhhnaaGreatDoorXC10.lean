/- Calls of the fixed example, each computed by the kernel; no condition. -/
import Derived.Test.YtfnlnpllpfhhnaaGreatDoorXC9
set_option linter.unusedSimpArgs false
set_option linter.unusedVariables false
namespace Go.Proofs.YtfnlnpllpfhhnaaGreatDoor.TT
open Go Go.AM
set_option maxRecDepth 1000000
theorem amB:r9 ⟨122,yaw,ybz,ycL,[]⟩:=run' dz (okC SY (okC Ta (okC Tc (okC Td (okC ZP (okC ZO okN))))))
theorem amC:r9 ⟨128,ybp,[yu,ya,yn,yaz,yfl,yfj,yaB,yfj,ybV,ycf,C 8 [[yfk,yfp,yfq,Z,yfT,yfk,yfk,yfk]]],tt,[]⟩:=run' dK (okC amA (okC ZM (okC ZN (okC amB okN))))
theorem amD:r9 ⟨123,yg,yaY,yfk,[]⟩:=run' P7 okN
theorem ZQ:r9 ⟨72,yA,yaY,yfk,[]⟩:=run' mX (okC amD okN)
theorem Te:r9 ⟨123,yg,ybA,yfk,[]⟩:=run' P7 okN
theorem Tf:r9 ⟨213,yg,ybA,yaC,[yJ,yf]⟩:=run' bB (okC Te okN)
theorem Tg:r9 ⟨369,yaF,yab,yb6,[]⟩:=run' aZ okN
theorem Ti:r9 ⟨370,yaO,yab,ybY,[C 1 [ybX,yb3,yb3,yfi,yfi,yfi,ycF]]⟩:=run' bf okN
theorem ZR:r9 ⟨112,yA,yaY,yfo,ycu⟩:=run' cZ (okC Tf (okC Tg (okC Ti okN)))
theorem ZT:r9 ⟨308,yaH,yab,yay,[C 1 [ybX,yb3,yb3,yfi,yfi,yfi,yfz]]⟩:=run' I5 okN
theorem amE:r9 ⟨308,yaI,yab,yay,yeP⟩:=run' I5 okN
theorem amF:r9 ⟨308,yaJ,yab,yay,yeP⟩:=run' I5 okN
theorem amG:r9 ⟨308,yaK,yab,yay,ydB⟩:=run' I5 okN
theorem amH:r9 ⟨308,yaL,yab,yay,ydB⟩:=run' I5 okN
theorem Ng:r9 ⟨308,yaM,yab,yay,ydB⟩:=run' I5 okN
theorem ZU:r9 ⟨308,yaN,yab,yay,[C 1 [ycK,ydJ,ydJ,[J 89],[J 89],[J 89],ybX]]⟩:=run' I5 okN
theorem ZV:r9 ⟨214,yaF,yab,ybZ,[C 2 [ycB,[yfO,yfA],[yfO,yfA],[yf5,yf5],[yf5,yf5],[yf5,yf5],yb9]]⟩:=run' dB (okC Tg (okC Ti (okC ZT (okC amE (okC amF (okC amG (okC amH (okC Ng (okC ZU okN)))))))))
theorem ZW:r9 ⟨69,yaA,yaY,yb0,[C 3 [[ygE,yf5,yf5]]]⟩:=run' nE (okC ZQ (okC ZR (okC Te (okC Tf (okC ZV okN)))))
theorem ZX:r9 ⟨122,yaw,ybA,ycL,[]⟩:=run' dz (okC Te (okC Tf (okC Tg (okC Ti (okC Ng (okC ZT okN))))))
theorem ZY:r9 ⟨128,ybp,[yu,ya,yn,yaz,yfl,yfj,yaB,yfj,ybV,ycf,C 8 [[yfk,yfp,yfq,Z,yf5,yfk,yfk,yfk]]],tt,[]⟩:=run' dK (okC ZW (okC ZQ (okC ZR (okC ZX okN))))
theorem aa0:r9 ⟨123,yg,yaZ,yfk,[]⟩:=run' P7 okN
theorem Nh:r9 ⟨72,yA,yaZ,yfk,[]⟩:=run' mX (okC aa0 okN)
theorem Jh:r9 ⟨123,yg,ybB,yfk,[]⟩:=run' P7 okN
theorem Ji:r9 ⟨213,yg,ybB,yaC,[yK,yf]⟩:=run' bB (okC Jh okN)
theorem Jj:r9 ⟨369,yaF,yac,yb6,[]⟩:=run' aZ okN
theorem Jk:r9 ⟨370,yaO,yac,ybY,[C 1 [ybX,yb3,yb3,[yfU],[yfU],[yfU],ycF]]⟩:=run' bf okN
theorem Ni:r9 ⟨112,yA,yaZ,yfo,ycu⟩:=run' cZ (okC Ji (okC Jj (okC Jk okN)))
theorem Nj:r9 ⟨308,yaH,yac,yay,[C 1 [ybX,yb3,yb3,[yfU],[yfU],[yfU],yfz]]⟩:=run' I5 okN
theorem aa1:r9 ⟨308,yaI,yac,yay,yeR⟩:=run' I5 okN
theorem aa2:r9 ⟨308,yaJ,yac,yay,yeR⟩:=run' I5 okN
theorem aa3:r9 ⟨308,yaK,yac,yay,ydD⟩:=run' I5 okN
theorem aa4:r9 ⟨308,yaL,yac,yay,ydD⟩:=run' I5 okN
theorem Nk:r9 ⟨308,yaM,yac,yay,ydD⟩:=run' I5 okN
theorem aa5:r9 ⟨308,yaN,yac,yay,[C 1 [ycK,ydJ,ydJ,[J 88],[J 88],[J 88],ybX]]⟩:=run' I5 okN
theorem aa6:r9 ⟨214,yaF,yac,ybZ,[C 2 [ycB,[yfY,yfA],[yfY,yfA],[yfU,yfU],[yfU,yfU],[yfU,yfU],yb9]]⟩:=run' dB (okC Jj (okC Jk (okC Nj (okC aa1 (okC aa2 (okC aa3 (okC aa4 (okC Nk (okC aa5 okN)))))))))
theorem aa7:r9 ⟨69,yaA,yaZ,yb0,[C 3 [[ygE,yfU,yfU]]]⟩:=run' nE (okC Nh (okC Ni (okC Jh (okC Ji (okC aa6 okN)))))
theorem aa8:r9 ⟨122,yaw,ybB,ycL,[]⟩:=run' dz (okC Jh (okC Ji (okC Jj (okC Jk (okC Nk (okC Nj okN))))))
theorem aa9:r9 ⟨128,ybp,[yu,ya,yn,yaz,yfl,yfj,yaB,yfj,ybV,ycf,C 8 [[yfk,yfp,yfq,Z,yfU,yfk,yfk,yfk]]],tt,[]⟩:=run' dK (okC aa7 (okC Nh (okC Ni (okC aa8 okN))))
theorem aac:r9 ⟨123,yg,ya0,yfk,[]⟩:=run' P7 okN
theorem Nl:r9 ⟨72,yA,ya0,yfk,[]⟩:=run' mX (okC aac okN)
theorem Jl:r9 ⟨123,yg,ybC,yfk,[]⟩:=run' P7 okN
theorem Jm:r9 ⟨213,yg,ybC,yaC,[yL,yf]⟩:=run' bB (okC Jl okN)
theorem Jo:r9 ⟨369,yaF,yad,yb6,[]⟩:=run' aZ okN
theorem Jp:r9 ⟨370,yaO,yad,ybY,ycH⟩:=run' bf okN
theorem Nn:r9 ⟨112,yA,ya0,yfo,ycu⟩:=run' cZ (okC Jm (okC Jo (okC Jp okN)))
theorem Np:r9 ⟨308,yaH,yad,yay,ycJ⟩:=run' I5 okN
theorem aad:r9 ⟨308,yaI,yad,yay,yeT⟩:=run' I5 okN
theorem aae:r9 ⟨308,yaJ,yad,yay,yeT⟩:=run' I5 okN
theorem aaf:r9 ⟨308,yaK,yad,yay,ydF⟩:=run' I5 okN
theorem aag:r9 ⟨308,yaL,yad,yay,ydF⟩:=run' I5 okN
theorem Nq:r9 ⟨308,yaM,yad,yay,ydF⟩:=run' I5 okN
theorem aah:r9 ⟨308,yaN,yad,yay,yd0⟩:=run' I5 okN
theorem aai:r9 ⟨214,yaF,yad,ybZ,[C 2 [ycB,ye1,ye1,[yfB,yfB],[yfB,yfB],[yfB,yfB],yb9]]⟩:=run' dB (okC Jo (okC Jp (okC Np (okC aad (okC aae (okC aaf (okC aag (okC Nq (okC aah okN)))))))))
theorem aaj:r9 ⟨69,yaA,ya0,yb0,[C 3 [[ygE,yfB,yfB]]]⟩:=run' nE (okC Nl (okC Nn (okC Jl (okC Jm (okC aai okN)))))
theorem aak:r9 ⟨122,yaw,ybC,ycL,[]⟩:=run' dz (okC Jl (okC Jm (okC Jo (okC Jp (okC Nq (okC Np okN))))))
theorem aal:r9 ⟨128,ybp,[yu,ya,yn,yaz,yfl,yfj,yaB,yfj,ybV,ycf,C 8 [[yfk,yfp,yfq,Z,yfB,yfk,yfk,yfk]]],tt,[]⟩:=run' dK (okC aaj (okC Nl (okC Nn (okC aak okN))))
def qS:Sum:=⟨8,[],[],tt,[]⟩
theorem qoS:r9 qS:=run' is8 (okC aqX (okC ar6 (okC ai0 (okC ai3 (okC aij (okC aik (okC ain (okC aip (okC aiq (okC air (okC ais (okC ait (okC aiu (okC aiv (okC aiF (okC aiP (okC aiZ (okC aj9 (okC ajj (okC ajt (okC ajD (okC ajN (okC ajX (okC ak7 (okC aki (okC aks (okC akC (okC akM (okC akW (okC al6 (okC alg (okC alr (okC alD (okC alN (okC alX (okC am7 (okC amh (okC ams (okC amC (okC ZY (okC aa9 (okC aal okN))))))))))))))))))))))))))))))))))))))))))
end Go.Proofs.YtfnlnpllpfhhnaaGreatDoor.TT
