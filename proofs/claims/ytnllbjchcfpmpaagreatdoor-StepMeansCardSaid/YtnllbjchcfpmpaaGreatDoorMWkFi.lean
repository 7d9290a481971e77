/- Joined texts. -/
import Derived.Test.YtnllbjchcfpmpaaGreatDoorMWkSt
set_option linter.all false
namespace Go.Proofs.YtnllbjchcfpmpaaGreatDoor
open Go.Stp Go.RowKit Go.ValP Go.Sp _root_.Go.Proofs.Tryz
set_option maxRecDepth 100000
theorem lM  {b6:Bool}{w0:World}(u:eU  = some b6) (hG:jY w0):Calls prog 4 [].toArray w0 (bj λv w=>v=.bool b6/\Ext w0 w):=by
 refine en func4 [] [] λQ a Zi Z c8 H h hr=>?_
 clear c8
 unfold eU at u
 refine rg λK k=>ae 1 h O λa h=>cz k<|rg λK k=>?_
 obtain⟨y1,f1,u⟩:=bo u
 refine st2 h O O O (dC call12 (lU (x0:=([49,43,50,42,51]:List UInt8)) (x1:=(0:Int)) f1 H.zin (hG.ext H.out))) ?_
 rintro v_ w ⟨bs,rfl,f,X⟩ a h
 obtain⟨Z,J,a7,H⟩:=H.aP X
 have f:=f.sub a7
 refine ae 4 h O λa h=>zA h H iS aA (λx=>[x]) λa p3 w X H h=>?_
 refine ap h H 0 O O O aL aA O O (by obtain⟨_,_,_,e_⟩:=(f).form;subst e_;rfl) (by simp) aA rfl (hl':=[_]) rfl λw H=>?_
 refine ae 2 h O λa h=>cN k h [1,3] O2 λh=>?_
 refine rg λK k=>s1 h O (lA H 0 bQ aL aA) λa h=>s1 (V:=.agg (jT.flatMap vL).toArray) h O (uu D0) λa h=>aZ h H O (jT.flatMap vL) O O λa p4 w X H h=>?_
 have H:HZ w0 _ _ O2 _:=H
 have cc:=mT
 obtain⟨Z,J,H,W⟩:=H.i8 1 rfl rfl
 have f:=f.sub J
 have H:HZ w0 _ _ O2 _:=H
 refine s1 h O (jd Dq O) λa h=>?_
 obtain⟨y6,f6,u⟩:=bo u
 refine st2 h O O O (dC call8 (oG f6 H.zin f W cc (hG.ext H.out))) ?_
 rintro b7 w ⟨g,X⟩ a h
 obtain⟨Z,J,a7,H⟩:=H.aP X
 have f:=f.sub J
 have W:=J _ _ W
 have g:=g.sub a7
 refine ae 1 h O λa h=>cN k h [3,4] O2 λh=>?_
 refine fl h ?_
 refine bN 1 O ?_
 refine fB u O (λw X=>aD O O) λz9 e9 u=>?_
 refine bN 1 O ?_
 refine mZ [4,17] O O O (gT O) O O (λE w X=>an O) ?_
 refine mZ [18,17] O O O (gT O) O O (λE w X=>have H:=H.ext X;cd dZ (eg E O) g H.zin) ?_
 obtain⟨e2,ch,u⟩:=bv u
 refine mZ [19,17] O O O (gT O) O O (λE w X=>vB ch (aD (eg E O) O)) ?_
 refine fB u O (λw X=>bK O O) λaf e3 u=>?_
 refine bN 1 O ?_
 refine mZ [4,22] O O O (gT O) O O (λE w X=>an O) ?_
 obtain⟨bb,u⟩:=ck u
 obtain⟨ao,cp,u⟩:=bv u
 have Y:=g.gel ⟨_,aC⟩ 2
 rw[<-cp]at Y
 obtain⟨c6,ct,b0,b1,Y⟩:=Y
 obtain⟨F,a8,b5⟩:=bd Y
 refine vE (R:=(λw' v'=>At w' v' (λ_:Unit=>(nL ao F)) () 0)) (c:=af) [23,22] O O O O O aI (λw X=>?_) ?_
 skip
 exact⟨(gT O),λE=>have H:=H.ext X;dh dZ aL (eg E O) O (b0.at H.zin) (bb E).1 (b1 (bb E)) a8⟩
 refine vE (R:=(λw' v'=>At w' v' (λ_:Unit=>(nL ao F)) () 2)) (c:=af) [24,22] O O O O O aI (λw X=>?_) ?_
 intro e4 cx
 exact⟨(gT O),λE=>dU O (cx E) cD O aq O O⟩
 refine xk (V:=(vA ao.v)) (c:=af) [25,22] O O O O O (λw X=>?_) ?_
 intro e5 cy
 exact⟨(gT O),λE=>(ay O3 O (cy E) aQ aq O O).bC⟩
 obtain⟨da,f15,u⟩:=bo u
 refine DJ (V:=(vA da)) [22] O O O (gT O) O O (λE w X=>dC call14 (bH (x0:=(7000000:Int)) (uL E f15))) ?_
 obtain⟨e6,dd,u⟩:=bv u
 refine mZ [26,27,22] O O O (gT O) O O (λE w X=>vB dd (AZ (eg E O) (eg E O) vR (wn _ _ _ _ _ _))) ?_
 refine fB u O (λw X=>bK O O) λbk e7 u=>?_
 refine bN 1 O ?_
 refine mZ [4,30] O O O (gT O) O O (λE w X=>an O) ?_
 obtain⟨bq,u⟩:=ck u
 obtain⟨b2,dj,u⟩:=bv u
 have a1:=g.gel ⟨_,aC⟩ 1
 rw[<-dj]at a1
 obtain⟨c7,dn,b3,b4,a1⟩:=a1
 obtain⟨G,ad,a6⟩:=bd a1
 refine vE (R:=(λw' v'=>At w' v' (λ_:Unit=>(nL b2 G)) () 0)) (c:=bk) [31,30] O O O O O aI (λw X=>?_) ?_
 skip
 exact⟨(gT O),λE=>have H:=H.ext X;dh dZ aL (eg E O) O (b3.at H.zin) (bq E).1 (b4 (bq E)) ad⟩
 refine xk (V:=(nA b2 G)) (c:=bk) [32,30] O O O O O (λw X=>?_) ?_
 intro e8 dv
 exact⟨(gT O),λE=>(ay aA O (dv E) bQ aL O O).bC⟩
 obtain⟨dz,f21,u⟩:=bo u
 refine DJ (V:=S dz) [33,30] O O O (gT O) O O (λE w X=>have H:=H.ext X;fM O2 (fp (eg E O) (fp O iH)) call13 (kW (x0:=b2) (x1:=(0:Int)) (uL E f21) (a6.hz H.zin) (hG.ext H.out))) ?_
 obtain⟨ea,e1,u⟩:=bv u
 refine mZ [34,30] O O O (gT O) O O (λE w X=>vB e1 (aH (eg E O) O)) ?_
 refine fB u O (λw X=>bK O O) λeb ec u=>?_
 refine bN 1 O ?_
 refine fE [0] [_] H λa w X H h=>?_
 cases u
 refine r1 hr h O O ⟨O,H.out⟩
end Go.Proofs.YtnllbjchcfpmpaaGreatDoor
