/- Calls of the fixed example, each computed by the kernel; no condition. -/
import Derived.Test.YtfnlnpllpfhhnaaGreatDoorYC1
set_option linter.unusedSimpArgs false
set_option linter.unusedVariables false
namespace Go.Proofs.YtfnlnpllpfhhnaaGreatDoor.TT
open Go Go.AM
set_option maxRecDepth 1000000
theorem ald:u7 ⟨72,ydY,ybk,yfo,[]⟩:=run' oN (okC as1 okN)
theorem as3:u7 ⟨68,yfh,yc,V [ydX,yfo],yb2⟩:=run' aae (okC afb (okC avd (okC ald okN)))
theorem as5:u7 ⟨213,ycJ,yb5,ye9,[ybn,yct]⟩:=run' cu (okC as1 okN)
theorem as6:u7 ⟨369,[yd7],yb8,yb7,[]⟩:=run' bX okN
theorem as7:u7 ⟨370,yfk,yb8,V [Z,ff],[]⟩:=run' bY okN
theorem ale:u7 ⟨123,ycJ,yb6,yfo,[]⟩:=run' U2 okN
theorem abr:u7 ⟨213,ycJ,yb6,ye9,[ybo,yct]⟩:=run' cu (okC ale okN)
theorem abt:u7 ⟨369,[yd7],yb9,yb7,[]⟩:=run' bX okN
theorem abu:u7 ⟨370,yfk,yb9,V [Z,ff],[]⟩:=run' bY okN
theorem alf:u7 ⟨112,ydY,ybk,U 25 0 0 1,[C 1 [[Z],[Z]]]⟩:=run' eG (okC as5 (okC as6 (okC as7 (okC abr (okC abt (okC abu okN))))))
theorem alg:u7 ⟨69,[ycR,ygK,yfs],ybk,V [Z,yfy],[]⟩:=run' pG (okC ald (okC alf okN))
theorem alh:u7 ⟨30,[ycE,I 12,ygK,yfs],yc,V [Z,yfy],[]⟩:=run' aad (okC as3 (okC alg okN))
theorem ali:u7 ⟨110,[ycE,I 20],yc,ycB,ya8⟩:=run' Lg okN
theorem alj:u7 ⟨68,[ycE,I 20],yc,ydO,ya8⟩:=run' aae (okC afb (okC ali (okC afd okN)))
theorem alk:u7 ⟨30,[ycE,I 20,ygK,yfs],yc,yfg,ye2⟩:=run' aad (okC alj (okC alc okN))
theorem alm:u7 ⟨123,yi,yci,yfo,[]⟩:=run' U2 okN
theorem aln:u7 ⟨213,yi,yci,yaF,[ybY,ycb]⟩:=run' cu (okC alm okN)
theorem alo:u7 ⟨369,yba,ycp,yb7,[]⟩:=run' bX okN
theorem alp:u7 ⟨370,ybj,ycp,ybZ,[C 1 [ybX,yb4,yb4,ygy,ygy,[ygL],[ygL]]]⟩:=run' bY okN
theorem alq:u7 ⟨123,yi,yck,yfo,[]⟩:=run' U2 okN
theorem alr:u7 ⟨213,yi,yck,yaF,[ybU,ycb]⟩:=run' cu (okC alq okN)
theorem als:u7 ⟨369,yba,ycn,yb7,[]⟩:=run' bX okN
theorem alu:u7 ⟨370,ybj,ycn,V [Z,ff],[]⟩:=run' bY okN
theorem alv:u7 ⟨123,yi,ycl,yfo,[]⟩:=run' U2 okN
theorem alx:u7 ⟨213,yi,ycl,yaF,[ybV,ycb]⟩:=run' cu (okC alv okN)
theorem aly:u7 ⟨369,yba,yco,yb7,[]⟩:=run' bX okN
theorem alz:u7 ⟨370,ybj,yco,V [Z,ff],[]⟩:=run' bY okN
theorem alA:u7 ⟨31,yfh,yc,V [U 22 0 2 2,yfo],[C 2 [ygI,[ygK,ygM]]]⟩:=run' arH (okC as3 (okC ald (okC as5 (okC as6 (okC as7 (okC abr (okC abt (okC abu (okC arV (okC arW (okC arX (okC afe (okC aff (okC afg (okC aln (okC alo (okC alp (okC alr (okC als (okC alu (okC alx (okC aly (okC alz okN)))))))))))))))))))))))
theorem alB:u7 ⟨122,[ydL,A [ygK,yfs],yfE],yaD,V yfR,[]⟩:=run' eZ (okC abq (okC ala (okC arN (okC arO (okC arP (okC arR (okC arQ okN)))))))
theorem VB:u7 ⟨71,[ycz,ygK,yfs,yfE],yaD,V yfR,[]⟩:=run' qm (okC arS (okC afc (okC al9 (okC alB okN))))
theorem alC:u7 ⟨32,[ycE,yfy,ygK,yfs,yfE],yc,V yfR,[]⟩:=run' is32 (okC al8 (okC VB okN))
theorem alD:u7 ⟨122,[ye,A [ygM,yfs],yfE],ybp,ycs,[]⟩:=run' eZ (okC alb (okC afe (okC aff (okC afg (okC as0 (okC arZ okN))))))
theorem alE:u7 ⟨71,[ycC,ygK,yfs,yfE],ya9,ycs,[]⟩:=run' qm (okC alc (okC afd (okC arY (okC alD okN))))
theorem alF:u7 ⟨32,[ycE,I 9,ygK,yfs,yfE],yc,ycs,[]⟩:=run' is32 (okC arU (okC alE okN))
theorem alG:u7 ⟨123,yi,ycm,yfo,[]⟩:=run' U2 okN
theorem abv:u7 ⟨72,yB,ycm,yfo,[]⟩:=run' oN (okC alG okN)
theorem alH:u7 ⟨123,yi,[ya,yk,C 8 [yd,[ygJ,yfs,yfq,Z,yfo,yfo,yfo,yfo]],yfp,yfn,yfn],yfo,[]⟩:=run' U2 okN
theorem alI:u7 ⟨369,yfc,ybm,yb7,[]⟩:=run' bX okN
end Go.Proofs.YtfnlnpllpfhhnaaGreatDoor.TT
