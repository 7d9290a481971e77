/- Joined texts. -/
import Derived.Test.YtnllbjchcfpmpaaGreatDoorMWkPr
set_option linter.all false
namespace Go.Proofs.YtnllbjchcfpmpaaGreatDoor
open Go.Stp Go.RowKit Go.ValP Go.Sp _root_.Go.Proofs.Tryz
set_option maxRecDepth 100000
theorem qZ{x0 g:Int}{w0:World}(f:g8 x0=some g):Calls prog 65 [I x0].toArray w0 (bj λv w=>v=I g/\Ext w0 w):=by
 refine en func65 [0] [_] λQ a Zi Z E H h u=>?_
 clear E
 unfold g8 at f
 refine rg λK k=>ae 1 h O λa h=>cz k<|sb ?_
 refine rg λK k=>ae 1 h O λa h=>sB h f O (gI O O) λW X f a h=>ae 1 h O λa h=>cz k<|cI h f O (λF f=>?_) λF f=>?_
 refine rg λK k=>ae 1 h O λa h=>cN k h [2] [_] λh=>?_
 cases f
 refine r1 u h O O ⟨O,H.out⟩
 refine rg λK k=>ae 1 h O λa h=>sB h f O (aD O O) λY e4 f a h=>ae 1 h O λa h=>cN k h [0,6] O2 λh=>?_
 refine cI h f O (λG f=>?_) λG f=>?_
 refine rg λK k=>ae 1 h O λa h=>cz k ?_
 cases f
 refine r1 u h O O ⟨O,H.out⟩
 refine rg λK k=>ae 1 h O λa h=>sB h f O (jX O O) λz6 e6 f a h=>ae 1 h O λa h=>cN k h [9] [_] λh=>?_
 refine cI h f O (λJ f=>?_) λJ f=>?_
 refine rg λK k=>ae 1 h O λa h=>cz k ?_
 cases f
 refine r1 u h O O ⟨O,H.out⟩
 refine ag<|rg λK k=>ae 1 h O λa h=>cz k ?_
 cases f
 refine r1 u h O O ⟨O,H.out⟩
theorem o4{x0:V}{g:(List UInt8)}{w0:World}(f:bL x0=some g) (hG:GW w0):Calls prog 61 [(vA x0)].toArray w0 (bj λv w=>v=S g/\Ext w0 w):=by
 refine en func61 [0] [_] λQ a Zi Z G H h E=>?_
 clear G
 unfold bL at f
 refine rg λK k=>aZ h H O O3 O O λa p1 w X H h=>?_
 have H:HZ w0 _ _ [_] _:=H
 refine ae 1 h O λa h=>cz k<|sb ?_
 refine rg λK k=>s1 h O (ab O cB O Z3 O O) λa h=>s1 h O (l1 H 0 A3) λa h=>sB h f O (aD O O) λz3 e3 f a h=>ae 1 h O λa h=>cN k h [1,3] O2 λh=>?_
 refine cI h f O (λJ f=>?_) λJ f=>?_
 refine rg λK k=>ae 1 h O λa h=>cz k ?_
 cases f
 refine r1 E h O O ⟨O,H.out⟩
 refine rg λK k=>s1 h O (ab O cB O Z3 O O) λa h=>s1 h O (l1 H 0 A3) λa h=>sB h f O (aD O O) λz5 e5 f a h=>ae 1 h O λa h=>cN k h [1,7] O2 λh=>?_
 refine cI h f O (λW f=>?_) λW f=>?_
 refine rg λK k=>s1 h O (ab O cB O Z9 O O) λa h=>s1 h O (l1 H 0 A9) λa h=>?_
 obtain⟨c8,f⟩:=ck f
 obtain⟨z9,e9,f⟩:=bv f
 refine d_ (T:=Ext) (V:=S z9) h O O O ((by rw[e9];exact dC call102 (lk c8 (hG.ext H.out)))) λw X a h=>?_
 have H:=H.ext X
 obtain⟨Y,f⟩:=ck f
 refine sS h f O (cE O O Y) λao b0 f a h=>?_
 obtain⟨a1,f⟩:=ck f
 refine sS h f O (cE O O a1) λb1 b2 f a h=>ae 1 h O λa h=>cN k h [2] [_] λh=>?_
 cases f
 refine r1 E h O O ⟨O,H.out⟩
 refine rg λK k=>s1 h O (ab O cB O Z3 O O) λa h=>s1 h O (l1 H 0 A3) λa h=>sB h f O (aD O O) λb3 b4 f a h=>ae 1 h O λa h=>ai h O O (gT O) O O (λF=>ab O cB O Z2 O O) λa h=>?_
 refine ai h O O (gT O) O O (λF=>aE (eg F O) A2 (H.hp.get 0 O) O) λa h=>?_
 obtain⟨b5,a6,f⟩:=bv f
 refine ai h O O (gT O) O O (λF=>vB a6 (bn (eg F O) O)) λa h=>?_
 refine sB h f O (bK O O) λb6 b7 f a h=>ae 1 h O λa h=>cN k h [1,16] O2 λh=>?_
 refine cI h f O (λu f=>?_) λu f=>?_
 refine rg λK k=>s1 h O (ab O cB O Z2 O O) λa h=>s1 h O (l1 H 0 A2) λa h=>sC h H f O (λa7 f18=>dC call103 (nr f18 :)) λa7 f w X H a h=>?_
 obtain⟨a8,f⟩:=ck f
 refine sS h f O (cE O O a8) λbb bk f a h=>?_
 obtain⟨ad,f⟩:=ck f
 refine sS h f O (cE O O ad) λbq bs f a h=>ae 1 h O λa h=>cN k h [2] [_] λh=>?_
 cases f
 refine r1 E h O O ⟨O,H.out⟩
 refine ag<|rg λK k=>s1 h O (lA H 0 aQ aq O3) λa h=>sC h H f O (λaf f23=>dC call73 (ic f23 (hG.ext H.out) :)) λaf f w X H a h=>?_
 refine ae 1 h O λa h=>cN k h [2] [_] λh=>?_
 cases f
 refine r1 E h O O ⟨O,H.out⟩
theorem gY{x0:Rf}{x1:Int}{g:(List UInt8)}{w0:World}(f:cj x0 x1=some g):Calls prog 62 [.agg #[I x0.c.s,I x0.c.c,I x0.c.r,.bool x0.ac,.bool x0.ar],I x1].toArray w0 (bj λv w=>v=S g/\Ext w0 w):=by
 refine en func62 [0,1] O2 λQ a Zi Z Y H h hr=>?_
 clear Y
 unfold cj at f
 refine rg λK k=>aZ h H O O5 O O λa E w X H h=>?_
 have H:HZ w0 _ _ [_] _:=H
 refine ae 1 h O λa h=>cz k<|rg λK k=>ae 1 h O λa h=>cz k ?_
 obtain⟨J3,a1,f⟩:=bv f
 refine dA (λa w=>∃(Z:FZ) (s3:(List UInt8)),J3 s3=some g/\Fr 41 [(2,(pt E)),(5,S s3)] a/\HZ w0 Zi Z [.blk E (aB [I x0.c.s,I x0.c.c,I x0.c.r,.bool x0.ac,.bool x0.ar] 31)] w) ?_ ?_
 rintro a w ⟨Z,s3,f,h,H⟩
 subst a1
 obtain⟨J5,a6,f⟩:=bv f
 refine dA (λa w=>∃(Z:FZ) (s5:(List UInt8)),J5 s5=some g/\Fr 41 [(2,(pt E)),(5,S s5)] a/\HZ w0 Zi Z [.blk E (aB [I x0.c.s,I x0.c.c,I x0.c.r,.bool x0.ac,.bool x0.ar] 31)] w) ?_ ?_
 rintro a w ⟨Z,s5,f,h,H⟩
 subst a6
 refine rg λK k=>ae 1 h O λa h=>s1 h O (ab O lF O dm O O) λa h=>s1 h O (ab O gH O Z3 O O) λa h=>s1 h O (l1 H 0 A3) λa h=>sI h f O (aw O O) λz6 e6 f a h=>sI h f O (db (by rw[U3];rfl) underlying21 rfl rfl) λz7 e7 f a h=>?_
 obtain⟨c8,f⟩:=ck f
 refine sS h f O (Al underlying21 U9 O c8) λz9 e9 f a h=>?_
 obtain⟨a7,f⟩:=ck f
 refine sS h f O (cE O O a7) λbb bk f a h=>ae 1 h O λa h=>cN k h [2,5] O2 λh=>?_
 obtain⟨a8,F,f⟩:=bv f
 refine dA (λa w=>∃(Z:FZ) (u:(List UInt8)),a8 u=some g/\Fr 41 [(2,(pt E)),(5,S u)] a/\HZ w0 Zi Z [.blk E (aB [I x0.c.s,I x0.c.c,I x0.c.r,.bool x0.ac,.bool x0.ar] 31)] w) ?_ ?_
 rintro a w ⟨Z,u,f,h,H⟩
 subst F
 refine rg λK k=>ae 1 h O λa h=>s1 h O (ab O lF O dm O O) λa h=>s1 h O (ab O gH O Z3 O O) λa h=>s1 h O (l1 H 0 A3) λa h=>sI h f O (aw O O) λbq bs f a h=>?_
 obtain⟨ad,f⟩:=ck f
 obtain⟨af,ao,f⟩:=bv f
 refine d_ (T:=Ext) (V:=S af) h O O O ((by rw[ao];exact dC call104 (nN ad))) λw X a h=>?_
 have H:=H.ext X
 obtain⟨b0,f⟩:=ck f
 refine sS h f O (cE O O b0) λc6 c7 f a h=>ae 1 h O λa h=>cN k h [4] [_] λh=>?_
 cases f
 refine r1 hr h O O ⟨O,H.out⟩
 refine rg λK k=>s1 h O (ab O lF O sizeOf4 O O) λa h=>s1 h O (l1 H 0 isAgg4) λa h=>cz k<|cI h f O (λG f=>?_) λG f=>?_
 refine ah<|ae 1 h O λa h=>?_
 obtain⟨b1,f⟩:=ck f
 refine sS h f O (cE O O b1) λcc ch f a h=>ae 1 h O λa h=>am ?_
 exact bp ⟨f,h.to,H⟩
 exact ag (bp ⟨f,h.to,H⟩)
 refine rg λK k=>s1 h O (ab O lF O sizeOf4 O O) λa h=>s1 h O (l1 H 0 isAgg4) λa h=>cz k<|cI h f O (λJ f=>?_) λJ f=>?_
 refine ah<|ae 1 h O λa h=>?_
 obtain⟨b2,f⟩:=ck f
 refine sS h f O (cE O O b2) λcp ct f a h=>ae 1 h O λa h=>am ?_
 exact bp ⟨f,h.to,H⟩
 exact ag (bp ⟨f,h.to,H⟩)
 refine rg λK k=>s1 h O (ab O lF O dm O O) λa h=>s1 h O (ab O gH O Z3 O O) λa h=>s1 h O (l1 H 0 A3) λa h=>ae 1 h O λa h=>sB h f O (fN O O) λcx cy f a h=>cN k h [2,5,10] O3 λh=>?_
 refine cI h f O (λW f=>?_) λW f=>?_
 refine ah<|s1 h O (ab O lF O dm O O) λa h=>s1 h O (ab O gH O Z3 O O) λa h=>s1 h O (l1 H 0 A3) λa h=>sI h f O (aw O O) λda dd f a h=>?_
 obtain⟨b3,f⟩:=ck f
 obtain⟨b4,b5,f⟩:=bv f
 refine d_ (T:=Ext) (V:=S b4) h O O O ((by rw[b5];exact dC call104 (nN b3))) λw X a h=>?_
 have H:=H.ext X
 obtain⟨b6,f⟩:=ck f
 refine sS h f O (cE O O b6) λdj dn f a h=>?_
 obtain⟨b7,f⟩:=ck f
 refine sS h f O (cE O O b7) λdv dz f a h=>ae 1 h O λa h=>am ?_
 exact bp ⟨f,h.to,H⟩
 exact ag (bp ⟨f,h.to,H⟩)
theorem pR{rec:Nd->Int->Int->Option ((List UInt8))}(F:∀{x0:Nd}{x1:Int}{x2:Int}{Y:(List UInt8)}{w0:World}(f:rec x0 x1 x2=some Y){Z:FZ}(hZ:Z.inn w0){u:Value}(g:bi Z u aj x0.l) (hG:GW w0),Calls prog 41 [(nA x0 u),I x1,I x2].toArray w0 (bj λv w=>v=S Y/\Ext w0 w)){x0:Nd}{x1:Int}{x2:Int}{Y:(List UInt8)}{w0:World}(f:bP rec x0 x1 x2=some Y){Z:FZ}(hZ:Z.inn w0){u:Value}(g:bi Z u aj x0.l) (hG:GW w0):Calls prog 41 [(nA x0 u),I x1,I x2].toArray w0 (bj λv w=>v=S Y/\Ext w0 w):=by
 refine o6 hZ func41 [0,1,2] O3 λQ a Zi ey H h hr=>?_
 try rw[<-ey]at hr
 clear ey
 unfold bP at f
 refine rg λK k=>aZ h H O aA O O λa p1 w X H h=>?_
 have H:HZ w0 _ _ [_] _:=H
 refine ae 1 h O λa h=>cz k<|rg λK k=>ae 2 h O λa h=>cz k ?_
 obtain⟨J3,hF,f⟩:=bv f
 refine dA (λa w=>∃(Z:FZ) (s3:(List UInt8) × Int),J3 s3=some Y/\Fr 138 [(2,I x2),(7,S s3.1),(8,I s3.2)] a/\HZ w0 Zi Z [.blk p1 (aB (nL x0 u) 34)] w/\bi Z u aj x0.l) ?_ ?_
 rintro a w ⟨Z,s3,f,h,H,g⟩
 subst hF
 refine sq<|rg λK k=>ae 2 h O λa h=>sB h f O (bn O O) λz5 e5 f a h=>cN k h [7,133] O2 λh=>?_
 refine cI h f O (λhI f=>?_) λhI f=>?_
 refine rg λK k=>ae 1 h O λa h=>?_
 obtain⟨c7,f⟩:=ck f
 refine sS h f O (cE O O c7) λz8 e8 f a h=>?_
 obtain⟨c9,f⟩:=ck f
 refine sS h f O (cE O O c9) λp9 pa f a h=>ae 1 h O λa h=>cN k h [6] [_] λh=>?_
 cases f
 refine r1 hr h O O ⟨O,H.out⟩
 refine ag<|rg λK k=>ae 2 h O λa h=>cz k ?_
 cases f
 refine r1 hr h O O ⟨O,H.out⟩
 refine rg λK k=>s1 h O (ab O cD O Z3 O O) λa h=>s1 h O (l1 H 0 A3) λa h=>cz k<|lb<|rg λK k=>sB h f O (aD O O) λpb pe f a h=>ae 1 h O λa h=>cN k h [1,2,3,7,8,13,40] O7 λh=>?_
 refine cI h f O (λez f=>?_) λez f=>?_
 refine rg λK k=>s1 h O (ab O cD O aq O O) λa h=>s1 h O (lA H 0 aQ aq O3) λa h=>sC h H f O (λhJ f14=>dC call61 (o4 f14 (hG.ext H.out) :)) λhJ f w X H a h=>?_
 refine ae 1 h O λa h=>cN k h [6] [_] λh=>?_
 cases f
 refine r1 hr h O O ⟨O,H.out⟩
 refine rg λK k=>sB h f O (aD O O) λps q0 f a h=>ae 1 h O λa h=>cz k<|cI h f O (λeF f=>?_) λeF f=>?_
 refine rg λK k=>s1 h O (ab O cD O iR O O) λa h=>s1 h O (lA H 0 mP iR O5) λa h=>ae 1 h O λa h=>sC h H f O (λhK f17=>dC call62 (gY f17 :)) λhK f w X H a h=>?_
 refine ae 1 h O λa h=>cN k h [6] [_] λh=>?_
 cases f
 refine r1 hr h O O ⟨O,H.out⟩
 refine rg λK k=>sB h f O (aD O O) λq3 q4 f a h=>ae 1 h O λa h=>cN k h [1,2,3,7,8,13,51] O7 λh=>?_
 refine cI h f O (λeJ f=>?_) λeJ f=>?_
 refine fl h ?_
 refine F1 O (λw X=>ab O cD O iR O O) ?_
 refine F1 O (λw X=>have H:=H.ext X;lA H 0 mP iR O5) ?_
 refine bN 1 O ?_
 refine fC f O (λhL f20 w X=>dC call62 (gY f20 :)) λhL f=>?_
 obtain⟨hN,f⟩:=ck f
 refine fS f O (λw X=>cE O O hN) λq5 q6 f=>?_
 refine F1 O (λw X=>ab O cD O iR O O) ?_
 refine F1 O (λw X=>have H:=H.ext X;lA H 0 mP iR O5) ?_
 refine F1 O (λw X=>ab O cD O iR O O) ?_
 refine F1 O (λw X=>ab O lF O dm O O) ?_
 refine F1 O (λw X=>ab O gH O Z3 O O) ?_
 refine F1 O (λw X=>have H:=H.ext X;l1 H 0 A3) ?_
 refine fC f O (λhP f23 w X=>dC call62 (gY f23 :)) λhP f=>?_
 obtain⟨hQ,f⟩:=ck f
 refine fS f O (λw X=>cE O O hQ) λq7 qa f=>?_
 refine bN 1 O ?_
 refine fE [6] [_] H λa w X H h=>?_
 cases f
 refine r1 hr h O O ⟨O,H.out⟩
 refine rg λK k=>sB h f O (aD O O) λqb qc f a h=>ae 1 h O λa h=>cz k<|cI h f O (λeZ f=>?_) λeZ f=>?_
 exact nomatch f
 refine rg λK k=>sB h f O (aD O O) λql qm f a h=>ae 1 h O λa h=>cN k h [1,2,3,13,70] O5 λh=>?_
 refine cI h f O (λff f=>?_) λff f=>?_
 refine rg λK k=>s1 h O (ab O cD O hO O O) λa h=>s1 h O (l1 H 0 iO) λa h=>s1 h O (cd dZ O g H.zin) λa h=>?_
 obtain⟨hR,f⟩:=ck f
 refine BJ h H lg EK O O O hR λa ho w X H h=>?_
 obtain⟨qs,hT,f⟩:=bv f
 rw[<-hT]at H
 have H:HZ w0 _ _ O2 _:=H
 refine ae 1 h O λa h=>cN k h [1,3,9] O3 λh=>?_
 obtain⟨hU,fs,f⟩:=bv f
 refine dA (λa w=>∃(Z:FZ) (cc:(List (List UInt8))) (b6:Value),hU cc=some Y/\Fr 138 [(3,(pt p1)),(9,b6)] a/\HZ w0 Zi Z [.blk p1 (aB (nL x0 u) 34),.row 9 1 b6 (cc:List (List UInt8)).length ((cc:List (List UInt8)).flatMap eS)] w/\bi Z u aj x0.l) ?_ ?_
 rintro a w ⟨Z,cc,b6,f,h,H,g⟩
 subst fs
 refine rg λK k=>s1 h O (ab O cD O Z3 O O) λa h=>s1 h O (l1 H 0 A3) λa h=>sC h H f O (λhV f36=>dC call63 (kJ f36 (hG.ext H.out) :)) λhV f w X H a h=>?_
 obtain⟨hW,f⟩:=ck f
 refine sS h f O (cE O O hW) λr4 r5 f a h=>ae 1 h O λa h=>?_
 obtain⟨hX,f⟩:=ck f
 obtain⟨hY,ih,f⟩:=bv f
 refine d_ (T:=Ext) (V:=S hY) h O O O ((by rw[ih];exact dC call64 (ui hX (H.o1 (i:=1) (enc:=eS) rfl)))) λw X a h=>?_
 have H:=H.ext X
 obtain⟨jo,f⟩:=ck f
 refine sS h f O (cE O O jo) λr6 ra f a h=>?_
 obtain⟨k1,f⟩:=ck f
 refine sS h f O (cE O O k1) λrb rh f a h=>ae 1 h O λa h=>cN k h [6] [_] λh=>?_
 cases f
 refine r1 hr h O O ⟨O,H.out⟩
 refine rg λK k=>s1 h O (ab O cD O hO O O) λa h=>s1 h O (l1 H 0 iO) λa h=>s1 h O (cd dZ O g H.zin) λa h=>ae 1 h O λa h=>cz k<|lb ?_
 obtain⟨k2,gb,f⟩:=bv f
 refine ib (λe0 a w=>∃(Z:FZ) (a1:Int × (List (List UInt8))) (b7:Value),loopF k2 e0 a1=some Y/\Fr 138 [(1,I x1),(3,(pt p1)),(9,b7),(77,u),(78,I (x0.l.length:Int)),(79,I a1.1)] a/\HZ w0 Zi Z [.blk p1 (aB (nL x0 u) 34),.row 9 1 b7 (a1.2:List (List UInt8)).length ((a1.2:List (List UInt8)).flatMap eS)] w/\bi Z u aj x0.l) KK ⟨_,_,_,f,h.to,H,g⟩ ?_
 rintro e0 a w ⟨Z,a1,b7,f,h,H,g⟩
 obtain⟨e0,rfl,rl,gf,f⟩:=iJ gb f
 refine rg λK k=>sB h f O (bn O O) λrm rq f a h=>cz k<|sq<|cI h f O (λgg f=>?_) λgg f=>?_
 refine ag<|sb ?_
 refine rg λK k=>ae 1 h O λa h=>?_
 obtain⟨gl,f⟩:=ck f
 obtain⟨rr,k4,f⟩:=bv f
 have af:=g.gel ⟨_,aC⟩ a1.1
 rw[<-k4]at af
 obtain⟨hq,k5,e1,e2,af⟩:=af
 obtain⟨ew,ch,G⟩:=bd af
 refine bJ h dZ aL O O (e1.at H.zin) gl.1 (e2 gl) ch O λa rs e3 h=>?_
 refine s1 h O (ay aA O e3 bQ aL O O) λa h=>zA h H iS aA (λx=>[_,_,x]) λa ru w X H h=>?_
 have e3:=At.ext e3 X
 refine ae 1 h O λa h=>ap h H 2 O O O aL aA O O (by obtain⟨_,_,_,e_⟩:=(G).form;subst e_;rfl) (by simp) aA rfl (hl':=O3) rfl λw H=>?_
 refine cz k<|ah<|ae 2 h O λa h=>s1 h O (lA H 2 bQ aL aA) λa h=>ae 1 h O λa h=>?_
 obtain⟨k6,f58,f⟩:=bo f
 refine d_ (T:=Ext) (V:=S k6) h O O O (dC call41 (F f58 H.zin G (hG.ext H.out))) λw X a h=>?_
 have H:=H.ext X
 obtain⟨e4,f⟩:=ck f
 obtain⟨e6,ht,ao⟩:=H.zf (i:=1) rfl (CU e4)
 refine s1 (V:=.pointer (some ⟨e6,Int.toNat a1.1*1,none⟩)) h O (tF ao lg Z9 O O e4) λa h=>?_
 obtain⟨hv,bb,f⟩:=bv f
 refine xV h H 1 O ao e4 O O Z9 (hl':=O3) O λw H=>?_
 rw[<-bb]at H
 have H:HZ w0 _ _ O3 _:=H
 refine am<|cO h [1,3,9,77,78,79] O6 λh=>?_
 refine ah<|sI h f O (aw O O) λs0 s4 f a h=>ae 1 h O λa h=>am ?_
 exact fK (iP ⟨fq gf f,h.to,(H.cT 2 O),g⟩)
 exact aR (iP ⟨f,h.to,H,g⟩)
 refine rg λK k=>sB h f O (aD O O) λs5 s6 f a h=>ae 1 h O λa h=>cz k<|cI h f O (λgm f=>?_) λgm f=>?_
 refine ah<|s1 h O (ab O cD O hO O O) λa h=>s1 h O (l1 H 0 iO) λa h=>?_
 obtain⟨h0,f⟩:=ck f
 obtain⟨s7,k7,f⟩:=bv f
 have b0:=g.gel ⟨_,aC⟩ 0
 rw[<-k7]at b0
 obtain⟨hx,k8,e7,e9,b0⟩:=b0
 obtain⟨ea,cp,a6⟩:=bd b0
 refine bJ h dZ aL O O (e7.at H.zin) h0.1 (e9 h0) cp O λa nn bk h=>?_
 refine s1 h O (ay aA O bk bQ aL O O) λa h=>ae 1 h O λa h=>?_
 obtain⟨k9,f68,f⟩:=bo f
 refine d_ (T:=Ext) (V:=S k9) h O O O (dC call41 (F f68 H.zin a6 (hG.ext H.out))) λw X a h=>?_
 have H:=H.ext X
 have bk:=At.ext bk X
 obtain⟨kc,f⟩:=ck f
 refine sS h f O (cE O O kc) λs8 s9 f a h=>ae 2 h O λa h=>am ?_
 exact bp ⟨f,h.to,H,g⟩
 refine rg λK k=>sB h f O (aD O O) λsc si f a h=>ae 1 h O λa h=>cN k h [1,2,3,108] O4 λh=>?_
 refine cI h f O (λh2 f=>?_) λh2 f=>?_
 refine rg λK k=>s1 h O (ab O cD O hO O O) λa h=>s1 h O (l1 H 0 iO) λa h=>?_
 obtain⟨h3,f⟩:=ck f
 obtain⟨sj,ki,f⟩:=bv f
 have b1:=g.gel ⟨_,aC⟩ 0
 rw[<-ki]at b1
 obtain⟨hy,kk,eb,ec,b1⟩:=b1
 obtain⟨ed,ct,a7⟩:=bd b1
 refine bJ h dZ aL O O (eb.at H.zin) h3.1 (ec h3) ct O λa nx bq h=>?_
 refine s1 h O (ay aA O bq bQ aL O O) λa h=>ae 1 h O λa h=>?_
 obtain⟨kx,f76,f⟩:=bo f
 refine d_ (T:=Ext) (V:=S kx) h O O O (dC call41 (F f76 H.zin a7 (hG.ext H.out))) λw X a h=>?_
 have H:=H.ext X
 have bq:=At.ext bq X
 obtain⟨ky,f⟩:=ck f
 refine sS h f O (cE O O ky) λsk sl f a h=>ae 2 h O λa h=>cN k h [1,2,3,7,8] O5 λh=>?_
 refine rg λK k=>s1 h O (ab O cD O hO O O) λa h=>s1 h O (l1 H 0 iO) λa h=>?_
 obtain⟨h4,f⟩:=ck f
 obtain⟨sn,kz,f⟩:=bv f
 have b2:=g.gel ⟨_,aC⟩ 0
 rw[<-kz]at b2
 obtain⟨hA,l0,ef,ei,b2⟩:=b2
 obtain⟨ej,cx,el⟩:=bd b2
 refine bJ h dZ aL O O (ef.at H.zin) h4.1 (ei h4) cx O λa o0 h5 h=>?_
 refine kK h O h5 cD O Z3 O O O λa o2 h6 h=>?_
 refine s1 h O (al O h6 A3 O) λa h=>sB h f O (aD O O) λsp sv f a h=>cN k h [1,2,3,7,8,122] O6 λh=>?_
 refine cI h f O (λh7 f=>?_) λh7 f=>?_
 refine ah<|s1 h O (ab O cD O hO O O) λa h=>s1 h O (l1 H 0 iO) λa h=>?_
 obtain⟨h8,f⟩:=ck f
 obtain⟨sF,l2,f⟩:=bv f
 have b3:=g.gel ⟨_,aC⟩ 0
 rw[<-l2]at b3
 obtain⟨hB,l3,eo,ep,b3⟩:=b3
 obtain⟨er,cy,a8⟩:=bd b3
 refine bJ h dZ aL O O (eo.at H.zin) h8.1 (ep h8) cy O λa o5 bs h=>?_
 refine s1 h O (ay aA O bs bQ aL O O) λa h=>ae 1 h O λa h=>?_
 obtain⟨mb,f87,f⟩:=bo f
 refine d_ (T:=Ext) (V:=S mb) h O O O (dC call41 (F f87 H.zin a8 (hG.ext H.out))) λw X a h=>?_
 have H:=H.ext X
 have bs:=At.ext bs X
 obtain⟨ml,f⟩:=ck f
 refine sS h f O (cE O O ml) λsT tc f a h=>?_
 obtain⟨mm,f⟩:=ck f
 refine sS h f O (cE O O mm) λtk tl f a h=>ae 1 h O λa h=>am ?_
 exact bp ⟨f,h.to,H,g⟩
 exact ag (bp ⟨f,h.to,H,g⟩)
 refine rg λK k=>s1 h O (ab O cD O Z3 O O) λa h=>s1 h O (l1 H 0 A3) λa h=>sC h H f O (λmn f92=>dC call65 (qZ f92 :)) λmn f w X H a h=>?_
 refine ae 1 h O λa h=>cN k h [1,2,3,8] O4 λh=>?_
 refine wD h kR kR ?_
 refine F1 O (λw X=>ab O cD O hO O O) ?_
 refine F1 O (λw X=>have H:=H.ext X;l1 H 0 iO) ?_
 obtain⟨h9,f⟩:=ck f
 obtain⟨ha,mo,f⟩:=bv f
 have b4:=g.gel ⟨_,aC⟩ 0
 rw[<-mo]at b4
 obtain⟨hD,mu,et,eu,b4⟩:=b4
 obtain⟨J,da,b5⟩:=bd b4
 refine aT [18] O O O O false (.rel (λw' v'=>At w' v' (λ_:Unit=>(nL ha J)) () 0)) aI (λw X=>?_) ?_
 skip
 exact have H:=H.ext X;dh dZ aL O O (et.at H.zin) h9.1 (eu h9) da
 refine aT [19] O O O O false (.eq (nA ha J)) trivial (λw X=>?_) ?_
 intro tq mv
 exact(ay aA O mv bQ aL O O).bC
 refine bN 2 O ?_
 obtain⟨n0,f96,f⟩:=bo f
 refine f2 (V:=S n0) [20,21,22] O O O O (λw X=>have Hs:=ZB.of H.zin X;have H:=H.ext X;dC call41 (F f96 (ZB.inn H.zin) (b5.sub Hs) (hG.ext H.out))) ?_
 obtain⟨n2,f⟩:=ck f
 obtain⟨n5,na,f⟩:=bv f
 refine aT [] O O O O false (.rel (λw' v'=>bx (ZB Z w.heap.size w') v' 1 eS n5)) jG (λw X=>?_) ?_
 skip
 exact have Hs:=ZB.of H.zin X;have H:=H.ext X;dt.jw (dC call42 (eG n2 (hG.ext H.out))) (λv w' hr=>⟨by rw[na];exact hr.1.sub (ZB.back X hr.2),hr.2⟩)
 refine F1 O (λw X=>ab O cD O Z3 O O) ?_
 refine F1 O (λw X=>have H:=H.ext X;l1 H 0 A3) ?_
 refine fI f O (λw X=>bf O O) λo9 od f=>?_
 obtain⟨dn,f⟩:=ck f
 obtain⟨c6,hb,f⟩:=bv f
 refine aT [24,27] O O O O false (.rel (λw' v'=>At w' v' eS c6 0)) aI (λw X=>?_) ?_
 intro ts nb
 exact have H:=H.ext X;fh lg Z9 O O (nb.at (ZB.inn H.zin)) (λ_=>rfl) c6 dn.1 (by rw[hb];exact ak dn)
 refine aT [28] O O O O false (.eq (S c6)) trivial (λw X=>?_) ?_
 intro tt nk
 exact(al O nk A9 O).bC
 obtain⟨hc,f⟩:=ck f
 refine fS f O (λw X=>cE O O hc) λoh p0 f=>?_
 refine F1 O (λw X=>ab O cD O hO O O) ?_
 refine F1 O (λw X=>have H:=H.ext X;l1 H 0 iO) ?_
 obtain⟨dv,f⟩:=ck f
 obtain⟨dz,hf,f⟩:=bv f
 have W:=g.gel ⟨_,aC⟩ 1
 rw[<-hf]at W
 obtain⟨hg,hE,dd,dj,W⟩:=W
 obtain⟨E,c8,ad⟩:=bd W
 refine aT [32] O O O O false (.rel (λw' v'=>At w' v' (λ_:Unit=>(nL dz E)) () 0)) aI (λw X=>?_) ?_
 skip
 exact have H:=H.ext X;dh dZ aL O O (dd.at H.zin) dv.1 (dj dv) c8
 refine aT [33] O O O O false (.eq (nA dz E)) trivial (λw X=>?_) ?_
 intro u0 nl
 exact(ay aA O nl bQ aL O O).bC
 refine bN 2 O ?_
 refine fI f O (λw X=>aw O O) λp2 p6 f=>?_
 obtain⟨hj,f110,f⟩:=bo f
 refine f2 (V:=S hj) [34,35,37] O O O O (λw X=>have Hs:=ZB.of H.zin X;have H:=H.ext X;dC call41 (F f110 (ZB.inn H.zin) (ad.sub Hs) (hG.ext H.out))) ?_
 obtain⟨hn,f⟩:=ck f
 refine fS f O (λw X=>cE O O hn) λp7 p8 f=>?_
 refine bN 1 O ?_
 refine fE [2,7,8] O3 H λa w X H h=>?_
 exact bp ⟨f,h.to,H,g⟩
theorem sU(k:Nat):∀{x0:Nd}{u:Int}{E:Int}{f:(List UInt8)}{w0:World}(F:show_text k x0 u E=some f){Z:FZ}(J:Z.inn w0){g:Value}(G:bi Z g aj x0.l) (W:GW w0),Calls prog 41 [(nA x0 g),I u,I E].toArray w0 (bj λv w=>v=S f/\Ext w0 w):=by
 induction k with
 |zero=>intro x0 u E f w0 F;exact nomatch (show(none:Option ((List UInt8)))=some f from F)
 |succ k H=>exact @pR (show_text k) @H
theorem kW{x0:Nd}{x1:Int}{g:(List UInt8)}{w0:World}(F:ft x0 x1=some g){u:Value}(f:bi (hz w0) u aj x0.l) (G:GW w0):Calls prog 13 [(nA x0 u),I x1].toArray w0 (bj λv w=>v=S g/\Ext w0 w):=by
 refine en func13 [0,1] O2 λQ a Zi Z E H h J=>?_
 have f:=f.sub E
 clear E
 unfold ft at F
 refine rg λK k=>aZ h H O aA O O λa Y w X H h=>?_
 have H:HZ w0 _ _ [_] _:=H
 refine ae 1 h O λa h=>cz k<|rg λK k=>s1 h O (lA H 0 bQ aL aA) λa h=>ae 1 h O λa h=>?_
 obtain⟨W,f2,F⟩:=bo F
 refine d_ (T:=Ext) (V:=S W) h O O O (dC call41 (sU KK f2 H.zin f (G.ext H.out))) λw X a h=>?_
 have H:=H.ext X
 refine ae 1 h O λa h=>cN k h [4] [_] λh=>?_
 cases F
 refine r1 J h O O ⟨O,H.out⟩
end Go.Proofs.YtnllbjchcfpmpaaGreatDoor
