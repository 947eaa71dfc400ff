/- Calls of the fixed example, each computed by the kernel; no condition. -/
import Derived.Test.YtfnlnpllpfhhnaaGreatDoorYB4
set_option linter.unusedSimpArgs false
set_option linter.unusedVariables false
namespace Go.Proofs.YtfnlnpllpfhhnaaGreatDoor.TT
open Go Go.AM
set_option maxRecDepth 1000000
theorem qo0:u7 ⟨36,[A yfF],[],tt,[]⟩:=run' Li okN
theorem qo3:u7 ⟨123,yd0,[C 8 [ygC]],yfo,[]⟩:=run' U2 okN
theorem qo4:u7 ⟨36,[A yfA],[],tt,[]⟩:=run' Li (okC qo3 okN)
theorem qo7:u7 ⟨123,yd0,[C 8 [ygB]],yfo,[]⟩:=run' U2 okN
theorem qo8:u7 ⟨36,[A yfz],[],tt,[]⟩:=run' Li (okC qo7 okN)
theorem auM:u7 ⟨123,yd0,[C 8 [ygF]],yfo,[]⟩:=run' U2 okN
theorem auN:u7 ⟨36,[A yfB],[],tt,[]⟩:=run' Li (okC auM okN)
theorem auO:u7 ⟨36,[A yfC],[],tt,[]⟩:=run' Li okN
theorem auP:u7 ⟨36,[A [ygJ,yfS,yfy,yfy,yfo,yfo,yfo,yfo,yfo,yfo,yfo,yfo,yfo,yfo,yfo,yfo,yfo,yfo,yfo,yfo,yfo,I 10,S 15 0 1 1,S 16 0 1 1,J 19,ygJ,ygN,I 200,yfo,Z,yfo,yfo]],[yfp,yfn],tt,[]⟩:=run' Li okN
theorem auQ:u7 ⟨36,[A [ygK,ygJ,I 9,yfS,yfo,yfo,yfo,yfo,yfo,yfo,yfo,yfo,yfo,yfo,yfo,yfo,yfo,yfo,yfo,yfo,yfo,yfo,Z,Z,yfo,yfo,yfo,yfo,I 12,S 15 0 2 2,yfo,yfo]],[yfO],tt,[]⟩:=run' Li okN
theorem auR:u7 ⟨36,[A [ygK,ygK,I 9,yfy,yfo,yfo,yfo,yfo,yfo,yfo,yfo,yfo,yfo,yfo,yfo,yfo,yfo,yfo,yfo,yfo,yfo,yfs,S 15 0 1 1,S 16 0 1 1,ygN,ygJ,yfo,yfo,yfo,Z,yfo,yfo]],[yfn,yfp],tt,[]⟩:=run' Li okN
theorem auS:u7 ⟨36,[A [ygK,ygM,I 12,yfy,yfo,yfo,yfo,yfo,yfo,yfo,yfo,yfo,yfo,yfo,yfo,yfo,yfo,yfo,yfo,yfo,yfo,yfs,S 15 0 1 1,Z,ygL,yfo,yfo,yfo,yfo,Z,yfo,yfo]],[yfP],tt,[]⟩:=run' Li okN
theorem al7:u7 ⟨36,ycP,[],tt,[]⟩:=run' Li okN
theorem afb:u7 ⟨187,[ycE],yc,yb7,[]⟩:=run' aaf (okC qo0 (okC qo4 (okC qo8 (okC auN (okC auO (okC auP (okC auQ (okC auR (okC auS (okC al7 okN))))))))))
theorem auT:u7 ⟨110,[ycE,yfy],yc,yeY,ycv⟩:=run' Lg okN
theorem abq:u7 ⟨123,ye0,yaD,yfo,[]⟩:=run' U2 okN
theorem afc:u7 ⟨72,yeZ,yaD,yfo,[]⟩:=run' oN (okC abq okN)
theorem al8:u7 ⟨68,[ycE,yfy],yc,V [yeY,yfo],ycv⟩:=run' aae (okC afb (okC auT (okC afc okN)))
theorem auU:u7 ⟨213,ye0,yaD,V [A [yfS,U 20 0 12 3],U 21 0 12 2,yfo],[yb3,C 2 [yfY,yfY,yfN,yfN,yf3,yf3,yfL,yfL,yf4,yf4,yfR,yfR]]⟩:=run' cu (okC abq okN)
theorem auV:u7 ⟨369,[A [yfS,U 15 0 12 3]],ycA,yb7,[]⟩:=run' bX okN
theorem auW:u7 ⟨370,[A [yfS,U 15 0 12 3],j5.nilMap],ycA,V [S 16 0 6 6,tt],[C 1 [ybX,yb4,yb4,ygy,ygy,ycK]]⟩:=run' bY okN
theorem al9:u7 ⟨112,yeZ,yaD,yfq,ycy⟩:=run' eG (okC auU (okC auV (okC auW okN)))
theorem ala:u7 ⟨123,yd2,ycr,yfo,[]⟩:=run' U2 okN
theorem arN:u7 ⟨213,yd2,ycr,V [A [I 7,U 21 0 14 3],U 22 0 14 2,yfo],[yaw,C 2 [yfY,yfY,yfN,yfN,yf3,yf3,yfL,yfL,yfL,yfL,yf4,yf4,yfR,yfR]]⟩:=run' cu (okC ala okN)
theorem arO:u7 ⟨369,yfc,yaz,yb7,[]⟩:=run' bX okN
theorem arP:u7 ⟨370,yfi,yaz,ybZ,ycM⟩:=run' bY okN
theorem arQ:u7 ⟨308,yfe,yaz,yaA,ycO⟩:=run' I4 okN
theorem auX:u7 ⟨308,[ycu,j5.nilMap,ygJ],yaz,yaA,ycG⟩:=run' I4 okN
theorem auY:u7 ⟨308,[ycu,j5.nilMap,ygK],yaz,yaA,ycG⟩:=run' I4 okN
theorem auZ:u7 ⟨308,[ycu,j5.nilMap,ygM],yaz,yaA,ycd⟩:=run' I4 okN
theorem av0:u7 ⟨308,[ycu,j5.nilMap,I 4],yaz,yaA,ycd⟩:=run' I4 okN
theorem arR:u7 ⟨308,yff,yaz,yaA,ycd⟩:=run' I4 okN
theorem av1:u7 ⟨308,[ycu,j5.nilMap,yfS],yaz,yaA,yd4⟩:=run' I4 okN
theorem av2:u7 ⟨214,yfc,yaz,yb0,[C 2 [ycH,ycD,ycD,ygu,ygu,ygu,yca]]⟩:=run' fq (okC arO (okC arP (okC arQ (okC auX (okC auY (okC auZ (okC av0 (okC arR (okC av1 okN)))))))))
theorem arS:u7 ⟨69,[ycz,ygK,yfs],yaD,V [U 20 0 1 3,yfo],[C 3 [[ygK,yfW,yfJ]]]⟩:=run' pG (okC afc (okC al9 (okC abq (okC ala (okC arN (okC av2 okN))))))
theorem av3:u7 ⟨30,[ycE,yfy,ygK,yfs],yc,yfg,[C 3 [[ygK,yfW,yfJ]]]⟩:=run' aad (okC al8 (okC arS okN))
theorem av4:u7 ⟨110,[ycE,I 9],yc,ycB,ya8⟩:=run' Lg okN
theorem arT:u7 ⟨123,yi,ycf,yfo,[]⟩:=run' U2 okN
theorem afd:u7 ⟨72,ydU,ya9,yfo,[]⟩:=run' oN (okC arT okN)
theorem arU:u7 ⟨68,[ycE,I 9],yc,ydO,ya8⟩:=run' aae (okC afb (okC av4 (okC afd okN)))
theorem arV:u7 ⟨213,yi,ycf,ye8,[ybr,C 2 [yfY,yfY,yfN,yfN,yfN,yfN,yf3,yf3,yfL,yfL,yfL,yfL,yf4,yf4,yfR,yfR,ygt,ygt]]⟩:=run' cu (okC arT okN)
theorem arW:u7 ⟨369,yfd,ycj,yb7,[]⟩:=run' bX okN
theorem arX:u7 ⟨370,yfj,ycj,V [Z,ff],[]⟩:=run' bY okN
theorem alb:u7 ⟨123,yi,ybp,yfo,[]⟩:=run' U2 okN
theorem afe:u7 ⟨213,yi,ybp,ye8,[yw,C 2 [yfY,yfY,yfN,yfN,yfN,yfN,yf3,yf3,yfL,yfL,yf4,yf4,ygI,ygI,yfR,yfR,ygt,ygt]]⟩:=run' cu (okC alb okN)
theorem aff:u7 ⟨369,yfd,yA,yb7,[]⟩:=run' bX okN
theorem afg:u7 ⟨370,yfj,yA,V [ydP,tt],[C 1 [ybX,ye3,ye3,ye6,yfl,yfl,ycK,ycK]]⟩:=run' bY okN
theorem arY:u7 ⟨112,ydU,ya9,U 24 0 1 1,[C 1 [[S 25 0 1 1],[Z]],C 1 [[U 26 0 2 1]],C 1 [[ygM],[ygK]]]⟩:=run' eG (okC arV (okC arW (okC arX (okC afe (okC aff (okC afg okN))))))
theorem arZ:u7 ⟨308,[ycw,j5.nilMap,yfo],yA,ydP,[C 1 [ybX,ye4,ye4,ye7,yfm,yfm,yfH,yfH]]⟩:=run' I4 okN
theorem av5:u7 ⟨308,[ycw,j5.nilMap,ygJ],yA,ydP,ydW⟩:=run' I4 okN
theorem av6:u7 ⟨308,[ycw,j5.nilMap,ygK],yA,ydP,ydW⟩:=run' I4 okN
theorem av7:u7 ⟨308,[ycw,j5.nilMap,ygM],yA,ydP,[C 1 [[J 997],[ygJ],[ygJ],ybX,[I 7],[I 7],[ygE],[ygE]]]⟩:=run' I4 okN
theorem av8:u7 ⟨308,[ycw,j5.nilMap,I 4],yA,ydP,ydR⟩:=run' I4 okN
theorem av9:u7 ⟨308,[ycw,j5.nilMap,yfy],yA,ydP,ydR⟩:=run' I4 okN
theorem ava:u7 ⟨308,[ycw,j5.nilMap,yfS],yA,ydP,ydT⟩:=run' I4 okN
theorem as0:u7 ⟨308,[ycw,j5.nilMap,I 7],yA,ydP,ydT⟩:=run' I4 okN
theorem avb:u7 ⟨214,yfd,yA,V [U 16 0 8 2,yfo],[C 2 [ycH,[yfQ,yfX],[yfQ,yfX],[yfQ,yfZ],[yf9,ygc],[yf9,ygc],yca,yca]]⟩:=run' fq (okC aff (okC afg (okC arZ (okC av5 (okC av6 (okC av7 (okC av8 (okC av9 (okC ava (okC as0 okN))))))))))
theorem alc:u7 ⟨69,[ycC,ygK,yfs],ya9,V [U 24 0 1 3,yfo],ye2⟩:=run' pG (okC afd (okC arY (okC alb (okC afe (okC avb okN)))))
theorem avc:u7 ⟨30,[ycE,I 9,ygK,yfs],yc,yfg,ye2⟩:=run' aad (okC arU (okC alc okN))
theorem avd:u7 ⟨110,yfh,yc,ydX,yb2⟩:=run' Lg okN
theorem as1:u7 ⟨123,ycJ,yb5,yfo,[]⟩:=run' U2 okN
end Go.Proofs.YtfnlnpllpfhhnaaGreatDoor.TT
