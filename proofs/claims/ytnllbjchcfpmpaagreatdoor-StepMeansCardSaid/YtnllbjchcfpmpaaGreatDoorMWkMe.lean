/- Joined texts. -/
import Derived.Test.YtnllbjchcfpmpaaGreatDoorMWkFi
import Derived.Test.YtnllbjchcfpmpaaGreatDoorMWkFm
set_option linter.all false
namespace Go.Proofs.YtnllbjchcfpmpaaGreatDoor
open Go.Stp Go.RowKit Go.ValP Go.Sp _root_.Go.Proofs.Tryz
set_option maxRecDepth 100000
theorem jk{x0:List (Int)}{x1:List (V)}{c8:Bool}{w0:World}(g:de x0 x1=some c8){da:Value}(c6:bx (hz w0) da 1 (eI .u8) x0){ei:Value}(b1:bx (hz w0) ei 3 vL x1) (hG:jY w0):Calls prog 3 [da,ei].toArray w0 (bj λv w=>v=.bool c8/\Ext w0 w):=by
 refine en func3 [0,1] O2 λQ a Zi Z dd H h hr=>?_
 have c6:=c6.sub dd
 have b1:=b1.sub dd
 clear dd
 unfold de at g
 refine rg λK k=>aZ h H O [da] (by rw[c6.cells]) rfl λa p1 w X H h=>?_
 have H:HZ w0 _ _ [_] _:=H
 refine ae 1 h O λa h=>cz k<|sq<|rg λK k=>sC h H g O (λy3 f3=>dC call4 (lM f3 (hG.ext H.out) :)) λy3 g w X H a h=>?_
 refine sB h g O (dI O) λz4 e4 g a h=>cz k<|cI h g O (λh3 g=>?_) λh3 g=>?_
 refine rg λK k=>ae 1 h O λa h=>cN k h [4] [_] λh=>?_
 cases g
 refine r1 hr h O O ⟨O,H.out⟩
 refine ag<|cO h [1,2] O2 λh=>?_
 refine sq<|rg λK k=>s1 h O (l1 H 0 isAgg23) λa h=>s1 h O (bY C2 O (c6.at H.zin)) λa h=>sB h g O (dS O O) λz7 e7 g a h=>ae 1 h O λa h=>ai h O O (gF O) O O (λF=>an O) λa h=>?_
 refine ai h O O (gF O) O O (λF=>bY kU (eg F O) (b1.at H.zin)) λa h=>?_
 obtain⟨z8,e8,g⟩:=bv g
 refine ai h O O (gF O) O O (λF=>vB e8 (dS (eg F O) O)) λa h=>?_
 refine sB h g O (ca O O) λz9 e9 g a h=>cN k h [1,2,23] O3 λh=>?_
 refine cI h g O (λej g=>?_) λej g=>?_
 refine rg λK k=>ae 1 h O λa h=>cz k ?_
 cases g
 refine r1 hr h O O ⟨O,H.out⟩
 refine ag<|rg λK k=>?_
 obtain⟨bq,f11,g⟩:=bo g
 refine st2 h O O O (dC call5 (ix KK f11 H.zin c6 (H.hp.get 0 O) (H.dG 0 O _ O) O O (hG.ext H.out))) ?_
 rintro v_ w ⟨a8,rfl,f,⟨b5,dj,J⟩,X⟩ a h
 obtain⟨Z,G,b0,H⟩:=H.b_ 0 rfl dj X (hl':=[_]) rfl
 have b1:=b1.sub G
 have f:=f.sub b0
 have J:=J.sub b0
 have H:HZ w0 _ _ [_] _:=H
 refine zA h H iS aA (λx=>[_,x]) λa el w X H h=>?_
 refine ap h H 1 O O O aL aA O O (by obtain⟨_,_,_,e_⟩:=(f).form;subst e_;rfl) (by simp) aA rfl (hl':=O2) rfl λw H=>?_
 refine cz k<|rg λK k=>ae 1 h O λa h=>?_
 obtain⟨eo,f14,g⟩:=bo g
 refine st2 h O O O (dC call6 (kN f14 H.zin b1)) ?_
 rintro v_ w ⟨dn,rfl,⟨ep,er,c7⟩,X⟩ a h
 have H:=H.tG X er ep
 have H:HZ w0 _ _ O3 _:=H
 refine ae 1 h O λa h=>cN k h [5,6] O2 λh=>?_
 refine rg λK k=>s1 h O (lA H 1 bQ aL aA) λa h=>s1 h O (aS kY [] O3 O O) λa h=>ae 1 h O λa h=>?_
 obtain⟨Z,G,H,u⟩:=H.i8 2 rfl rfl
 have f:=f.sub G
 have b1:=b1.sub G
 have J:=J.sub G
 have H:HZ w0 _ _ O3 _:=H
 refine s1 h O (jd Dq O) λa h=>?_
 obtain⟨et,f17,g⟩:=bo g
 refine st2 h O O O (dC call7 (fy f17 H.zin f u c7 (hG.ext H.out))) ?_
 rintro v_ w ⟨ea,rfl,b3,X⟩ a h
 obtain⟨Z,G,b0,H⟩:=H.aP X
 have f:=f.sub G
 have b1:=b1.sub G
 have J:=J.sub G
 have u:=G _ _ u
 have b3:=b3.sub (ZB.empty.trans b0)
 refine s1 h O (j7 O3 O zQ O aQ aq O) λa h=>zA h H eX O3 (λx=>[_,_,_,x]) λa dv w X H h=>?_
 refine zS h H 3 aq O3 O3 O4 λw H=>?_
 refine cN k h [5,6,7] O3 λh=>?_
 refine rg λK k=>s1 h O (lA H 1 bQ aL aA) λa h=>ae 1 h O λa h=>s1 h O (jd Dq O) λa h=>?_
 obtain⟨eu,f20,g⟩:=bo g
 refine st2 h O O O (dC call8 (oG f20 H.zin f u c7 (hG.ext H.out))) ?_
 rintro af w ⟨E,X⟩ a h
 obtain⟨Z,G,b0,H⟩:=H.aP X
 have f:=f.sub G
 have b1:=b1.sub G
 have J:=J.sub G
 have u:=G _ _ u
 have E:=E.sub b0
 refine ae 1 h O λa h=>cN k h [6,7,8] O3 λh=>?_
 obtain⟨h4,ew,g⟩:=bv g
 refine dA (λa w=>∃(Z:FZ) (ey:Unit),h4 ey=some c8/\Fr 100 [] a/\HZ w0 Zi Z [.blk p1 (aB [b5] 23),.blk el (aB (nL bq.1 a8) 34),.row 0 1 (.slice none 0 0) 0 [],.blk dv (aB (vL et.v) 27)] w/\bx Z b5 1 (eI .u8) bq.2/\bi Z a8 aj bq.1.l/\Z dn=some (aB ((eo:List V).flatMap vL) 54)) ?_ ?_
 rintro a w ⟨Z,ey,g,h,H,J,f,u⟩
 subst ew
 refine rg λK k=>ae 1 h O λa h=>cz k ?_
 cases g
 refine r1 hr h O O ⟨O,H.out⟩
 refine rg λK k=>ae 1 h O λa h=>s1 h O (cd dZ O E H.zin) λa h=>ae 1 h O λa h=>cz k<|lb ?_
 obtain⟨h5,ez,g⟩:=bv g
 refine ib (λdz a w=>∃(Z:FZ) (cc:Int),loopF h5 dz cc=some c8/\Fr 100 [(6,(pt dn)),(7,(pt dv)),(8,af),(37,af),(38,I (eu.length:Int)),(39,I cc)] a/\HZ w0 Zi Z [.blk p1 (aB [b5] 23),.blk el (aB (nL bq.1 a8) 34),.row 0 1 (.slice none 0 0) 0 [],.blk dv (aB (vL et.v) 27)] w/\bi Z af aj eu/\bx Z b5 1 (eI .u8) bq.2/\bi Z a8 aj bq.1.l/\Z dn=some (aB ((eo:List V).flatMap vL) 54)) KK ⟨_,_,g,h.to,H,E,J,f,u⟩ ?_
 rintro dz a w ⟨Z,cc,g,h,H,E,J,f,u⟩
 obtain⟨dz,rfl,hD,cy,g⟩:=iJ ez g
 refine rg λK k=>sB h g O (bn O O) λhE hF g a h=>cz k<|sq<|cI h g O (λeF g=>?_) λeF g=>?_
 refine ag<|sb ?_
 refine rg λK k=>ae 1 h O λa h=>?_
 obtain⟨eJ,g⟩:=ck g
 obtain⟨hI,h6,g⟩:=bv g
 have bb:=E.gel ⟨_,aC⟩ cc
 rw[<-h6]at bb
 obtain⟨h0,h7,e1,e2,bb⟩:=bb
 obtain⟨eb,ch,W⟩:=bd bb
 refine bJ h dZ aL O O (e1.at H.zin) eJ.1 (e2 eJ) ch O λa hJ e3 h=>?_
 refine s1 h O (ay aA O e3 bQ aL O O) λa h=>zA h H iS aA (λx=>[_,_,_,_,x]) λa hK w X H h=>?_
 have e3:=At.ext e3 X
 refine ae 1 h O λa h=>ap h H 4 O O O aL aA O O (by obtain⟨_,_,_,e_⟩:=(W).form;subst e_;rfl) (by simp) aA rfl (hl':=O5) rfl λw H=>?_
 refine cz k<|sq<|fl h ?_
 refine F1 O (λw X=>have H:=H.ext X;lA H 4 bQ aL aA) ?_
 refine fC g O (λh8 f37 w X=>have H:=H.ext X;dC call9 (qD f37 (W.hz H.zin) (hG.ext H.out) :)) λh8 g=>?_
 refine fB g O (λw X=>dI O) λeZ hL g=>?_
 refine bN 1 O ?_
 refine mZ [10,47] O O O (gF O) O O (λF w X=>have H:=H.ext X;lA H 4 bQ aL aA) ?_
 refine mZ [47] O O O (gF O) O O (λF w X=>aS kY [] O3 iH O) ?_
 refine mZ [6,47] O O O (gF O) O O (λF w X=>an O) ?_
 refine mZ [50,47] O O O (gF O) O O (λF w X=>jd Dq (eg F O)) ?_
 obtain⟨b6,f39,g⟩:=bo g
 refine vE (R:=(λw' v'=>∃Y,v'=.agg #[I b6.v.k,I b6.v.n,S b6.v.s,I b6.c.s,I b6.c.c,I b6.c.r,Y]/\bx (ZB Z w.heap.size w') Y 3 cL b6.l)) (c:=!eZ) [48,49,51,47] O O O O O (λw w' v X h=>by obtain⟨Y,hv,b2⟩:=h;exact⟨_,hv,b2.sub (ZB.grow X)⟩) (λw X=>?_) ?_
 skip
 exact⟨(gF O),λF=>have Hs:=ZB.of H.zin X;have H:=H.ext X;dt.jw (fM O3 (fp (eg F O) (fp (eg F O) (fp (eg F O) iH))) call7 (fy (uL F f39) (ZB.inn H.zin) (W.sub Hs) (Hs _ _ u) c7 (hG.ext H.out))) (λv w' hr=>by obtain⟨Y,hv,b2,X'⟩:=hr;exact⟨⟨_,hv,b2.sub (ZB.back X X')⟩,X'⟩)⟩
 refine xk (V:=(vA b6.v)) (c:=!eZ) [52,47] O O O O O (λw X=>?_) ?_
 intro hN h9
 refine⟨(gF O),λF=>?_⟩
 obtain⟨Y,rfl,ec⟩:=h9 F
 exact(j7 O3 O zQ O aQ aq O).bC
 refine mZ [7,47] O O O (gF O) O O (λF w X=>have H:=H.ext X;lA H 3 aQ aq O3) ?_
 obtain⟨hP,ha,g⟩:=bv g
 refine mZ [53,54,47] O O O (gF O) O O (λF w X=>vB ha (lV (eg F O) (eg F O) vR (wn _ _ _ _ _ _))) ?_
 refine fB g O (λw X=>ca O O) λcp hQ g=>?_
 refine bN 1 O ?_
 refine mZ [9,57] O O O (gF O) O O (λF w X=>an O) ?_
 obtain⟨ct,hb,g⟩:=bv g
 refine mZ [58,57] O O O (gF O) O O (λF w X=>vB hb (dS (eg F O) O)) ?_
 refine mZ [59,57] O O O (gF O) O O (λF w X=>an (eg F O)) ?_
 refine mZ [10,60] O O O (xM O) O O (λF w X=>have H:=H.ext X;lA H 4 bQ aL aA) ?_
 refine mZ [8,60] O O O (xM O) O O (λF w X=>an O) ?_
 refine mZ [9,60] O O O (xM O) O O (λF w X=>an O) ?_
 obtain⟨hc,hf,g⟩:=bv g
 refine mZ [63,60] O O O (xM O) O O (λF w X=>vI hf (bf (eg F O) O)) ?_
 obtain⟨ff,g⟩:=ck g
 obtain⟨fs,hg,g⟩:=bv g
 have bk:=E.gel ⟨_,aC⟩ hc
 rw[<-hg]at bk
 obtain⟨h2,hj,e5,e6,bk⟩:=bk
 obtain⟨b4,cx,ao⟩:=bd bk
 refine vE (R:=(λw' v'=>At w' v' (λ_:Unit=>(nL fs b4)) () 0)) (c:=(!cp&&ct)) [62,64,60] O O O O O aI (λw X=>?_) ?_
 skip
 exact⟨(xM O),λF=>have H:=H.ext X;dh dZ aL (eg F O) (eg F O) (e5.at H.zin) (ff F).1 (e6 (ff F)) cx⟩
 refine xk (V:=(nA fs b4)) (c:=(!cp&&ct)) [65,60] O O O O O (λw X=>?_) ?_
 intro hR hn
 exact⟨(xM O),λF=>(ay aA O (hn F) bQ aL O O).bC⟩
 refine mZ [6,60] O O O (xM O) O O (λF w X=>an O) ?_
 refine mZ [67,60] O O O (xM O) O O (λF w X=>jd Dq (eg F O)) ?_
 obtain⟨a7,f48,g⟩:=bo g
 refine vE (R:=(λw' v'=>∃a1,v'=.agg #[I a7.k,I a7.op,I a7.v.k,I a7.v.n,S a7.v.s,I a7.a.c.s,I a7.a.c.c,I a7.a.c.r,.bool a7.a.ac,.bool a7.a.ar,I a7.b.c.s,I a7.b.c.c,I a7.b.c.r,.bool a7.b.ac,.bool a7.b.ar,S a7.nm,a1]/\bi (ZB Z w.heap.size w') a1 aj a7.l)) (c:=(!cp&&ct)) [66,68,60] O O O O O (λw w' v X h=>by obtain⟨a1,hv,b2⟩:=h;exact⟨_,hv,b2.sub (ZB.grow X)⟩) (λw X=>?_) ?_
 skip
 exact⟨(xM O),λF=>have Hs:=ZB.of H.zin X;have H:=H.ext X;dt.jw (fM O2 (fp (eg F O) (fp (eg F O) iH)) call11 (oC KK (uL F f48) (ZB.inn H.zin) (ao.sub Hs) (Hs _ _ u) c7 (hG.ext H.out))) (λv w' hr=>by obtain⟨a1,hv,b2,X'⟩:=hr;exact⟨⟨_,hv,b2.sub (ZB.Ed X X')⟩,X'⟩)⟩
 obtain⟨ho,f50,g⟩:=bo g
 refine xk (V:=.bool ho) (c:=(!cp&&ct)) [61,69,60] O O O O O (λw X=>?_) ?_
 intro hT hq
 refine⟨(xM O),λF=>?_⟩
 obtain⟨a1,rfl,bs⟩:=hq F
 exact have Hs:=ZB.of H.zin X;have H:=H.ext X;dt.bC (fM O2 (fp (eg F O) (fp O iH)) call10 (sY KK (uL F f50) (ZB.inn H.zin) (W.sub Hs) bs (hG.ext H.out)))
 obtain⟨hU,ht,g⟩:=bv g
 refine mZ [70,60] O O O (xM O) O O (λF w X=>vB ht (dI (eg F O))) ?_
 obtain⟨hV,hx,g⟩:=bv g
 refine mZ [60,71,57] O O O (gF O) O O (λF w X=>vB hx (bK (eg F O) (EV F O))) ?_
 refine fB g O (λw X=>ca O O) λhW hX g=>?_
 refine fE [6,7,8,10,37,38,39,73] O8 H λa w X H h=>?_
 refine cI h g O (λgb g=>?_) λgb g=>?_
 refine rg λK k=>ae 1 h O λa h=>cN k h [4] [_] λh=>?_
 cases g
 refine r1 hr h O O ⟨O,H.out⟩
 refine ag<|rg λK k=>s1 h O (lA H 4 bQ aL aA) λa h=>sC h H g O (λgf f55=>dC call13 (kW f55 (W.hz H.zin) (hG.ext H.out) :)) λgf g w X H a h=>?_
 obtain⟨hY,f56,g⟩:=bo g
 refine st2 h O O O (dC call12 (lU (x0:=gf) (x1:=(0:Int)) f56 H.zin (hG.ext H.out))) ?_
 rintro v_ w ⟨ed,rfl,ad,X⟩ a h
 obtain⟨Z,G,b0,H⟩:=H.aP X
 have f:=f.sub G
 have E:=E.sub G
 have W:=W.sub G
 have ao:=ao.sub G
 have J:=J.sub G
 have u:=G _ _ u
 have ad:=ad.sub b0
 refine ae 4 h O λa h=>zA h H iS aA (λx=>[_,_,_,_,_,x]) λa hZ w X H h=>?_
 refine ap h H 5 O O O aL aA O O (by obtain⟨_,_,_,e_⟩:=(ad).form;subst e_;rfl) (by simp) aA rfl (hl':=O6) rfl λw H=>?_
 refine ae 2 h O λa h=>cN k h [6,7,8,11,13,37,38,39] O8 λh=>?_
 refine sq<|rg λK k=>ae 1 h O λa h=>sB h g O (aD O O) λih jo g a h=>ae 1 h O λa h=>ai h O O (gF O) O O (λF=>an O) λa h=>?_
 obtain⟨k1,hy,g⟩:=bv g
 refine ai h O O (gF O) O O (λF=>vB hy (aD (eg F O) O)) λa h=>?_
 refine sB h g O (ca O O) λk2 k4 g a h=>cN k h [6,7,8,11,13,37,38,39,86] O9 λh=>?_
 refine cI h g O (λgg g=>?_) λgg g=>?_
 refine aR ?_
 refine ah<|sI h g O (aw O O) λk5 k6 g a h=>ae 1 h O λa h=>am ?_
 exact fK (bp ⟨fq cy g,h.to,(H.cT 4 O),E,J,f,u⟩)
 refine ag<|fl h ?_
 refine bN 1 O ?_
 refine fB g O (λw X=>fN O O) λgl k7 g=>?_
 refine bN 1 O ?_
 refine mZ [11,89] O O O (gF O) O O (λF w X=>have H:=H.ext X;lA H 5 bQ aL aA) ?_
 refine mZ [89] O O O (gF O) O O (λF w X=>aS kY [] O3 iH O) ?_
 refine mZ [6,89] O O O (gF O) O O (λF w X=>an O) ?_
 refine mZ [92,89] O O O (gF O) O O (λF w X=>jd Dq (eg F O)) ?_
 obtain⟨b7,f66,g⟩:=bo g
 refine vE (R:=(λw' v'=>∃a6,v'=.agg #[I b7.v.k,I b7.v.n,S b7.v.s,I b7.c.s,I b7.c.c,I b7.c.r,a6]/\bx (ZB Z w.heap.size w') a6 3 cL b7.l)) (c:=!gl) [90,91,93,89] O O O O O (λw w' v X h=>by obtain⟨a6,hv,b2⟩:=h;exact⟨_,hv,b2.sub (ZB.grow X)⟩) (λw X=>?_) ?_
 skip
 exact⟨(gF O),λF=>have Hs:=ZB.of H.zin X;have H:=H.ext X;dt.jw (fM O3 (fp (eg F O) (fp (eg F O) (fp (eg F O) iH))) call7 (fy (uL F f66) (ZB.inn H.zin) (ad.sub Hs) (Hs _ _ u) c7 (hG.ext H.out))) (λv w' hr=>by obtain⟨a6,hv,b2,X'⟩:=hr;exact⟨⟨_,hv,b2.sub (ZB.back X X')⟩,X'⟩)⟩
 refine xk (V:=(vA b7.v)) (c:=!gl) [94,89] O O O O O (λw X=>?_) ?_
 intro k8 hA
 refine⟨(gF O),λF=>?_⟩
 obtain⟨a6,rfl,ef⟩:=hA F
 exact(j7 O3 O zQ O aQ aq O).bC
 refine mZ [7,89] O O O (gF O) O O (λF w X=>have H:=H.ext X;lA H 3 aQ aq O3) ?_
 obtain⟨k9,hB,g⟩:=bv g
 refine mZ [95,96,89] O O O (gF O) O O (λF w X=>vB hB (lV (eg F O) (eg F O) vR (wn _ _ _ _ _ _))) ?_
 refine fB g O (λw X=>ca O O) λkc ki g=>?_
 refine fE [6,7,8,37,38,39,98] O7 H λa w X H h=>?_
 refine cI h g O (λgm g=>?_) λgm g=>?_
 refine rg λK k=>ae 1 h O λa h=>cN k h [4] [_] λh=>?_
 cases g
 refine r1 hr h O O ⟨O,H.out⟩
 refine ag<|ah<|sI h g O (aw O O) λkk kx g a h=>ae 1 h O λa h=>am ?_
 exact fK (bp ⟨fq cy g,h.to,(H.cT 4 O),E,J,f,u⟩)
 exact aR (tH ⟨g,h.to,H,J,f,u⟩)
end Go.Proofs.YtnllbjchcfpmpaaGreatDoor
