/- Joined texts. -/
import Derived.Test.YtnllbjchcfpmpaaGreatDoorMWkFC
set_option linter.all false
namespace Go.Proofs.YtnllbjchcfpmpaaGreatDoor
open Go.Stp Go.RowKit Go.ValP Go.Sp _root_.Go.Proofs.Tryz
set_option maxRecDepth 100000
theorem df{x0:Arg}{g:V}{w0:World}(f:cr x0=some g){E:Value}(u:bx (hz w0) E 3 vL x0.l):Calls prog 150 [.agg #[.bool x0.area,I x0.cols,E]].toArray w0 (bj λv w=>v=.agg #[I g.k,I g.n,S g.s]/\Ext w0 w):=by
 refine en func150 [0] [_] λQ a Zi Z F H h W=>?_
 have u:=u.sub F
 clear F
 unfold cr at f
 refine rg λK k=>aZ h H O O3 O O λa p1 w X H h=>?_
 have H:HZ w0 _ _ [_] _:=H
 refine zA h H eX O3 (λx=>[_,x]) λa p2 w X H h=>?_
 refine cz k<|sq<|rg λK k=>s1 h O (ab O kA O wH O O) λa h=>s1 h O (l1 H 0 isAgg24) λa h=>s1 h O (bY kU O (u.at H.zin)) λa h=>sB h f O (fN O O) λz4 e4 f a h=>cN k h [1,2,6] O3 λh=>?_
 refine cI h f O (λG f=>?_) λG f=>?_
 refine rg λK k=>sC h H f O (λy6 f6=>dC call18 (az f6 :)) λy6 f w X H a h=>?_
 refine zS h H 1 aq O3 O3 O2 λw H=>?_
 refine cz k ?_
 cases f
 refine r1 W h O (aO H 1 aQ aq O3) ⟨O,H.out⟩
 refine ag<|rg λK k=>s1 h O (ab O kA O wH O O) λa h=>s1 h O (l1 H 0 isAgg24) λa h=>?_
 obtain⟨Y,f⟩:=ck f
 obtain⟨z8,e8,f⟩:=bv f
 refine bB h kU aq O O (u.at H.zin) (λ_=>rfl) z8 Y.1 (by rw[e8];exact ak Y) rfl λa a1 J h=>?_
 refine s1 h O (ay O3 O J aQ aq O O) λa h=>zS h H 1 aq O3 O3 O2 λw H=>?_
 refine cN k h [2] [_] λh=>?_
 cases f
 refine r1 W h O (aO H 1 aQ aq O3) ⟨O,H.out⟩
theorem ie{x0:List (Arg)}{E:(List (Int)) × V}{w0:World}(f:fi x0=some E){G:Value}(u:bi (hz w0) G cY x0):Calls prog 119 [G].toArray w0 (bj λv w=>∃u1,v=.tuple #[u1,(vA E.2)]/\bx (ZB Z0 w0.heap.size w) u1 1 (eI .i64) E.1/\Ext w0 w):=by
 refine en func119 [0] [_] λQ a Zi Z b2 H h hr=>?_
 have u:=u.sub b2
 clear b2
 unfold fi at f
 refine rg λK k=>ae 1 h O λa h=>zA h H eX O3 (λx=>[x]) λa p1 w X H h=>?_
 refine cz k<|rg λK k=>ae 1 h O λa h=>cz k ?_
 have H:=H.fc 2 1 rfl
 have H:HZ w0 _ _ O2 _:=H
 have H:=H.fc 2 1 rfl
 have H:HZ w0 _ _ O3 _:=H
 obtain⟨J3,bk,f⟩:=bv f
 refine dA (λa w=>∃(Z:FZ) (s3:Int × Int × (List UInt8) × (List (Int))) (a6:Value),J3 s3=some E/\Fr 29 [(3,(pt p1)),(4,a6)] a/\HZ w0 Zi Z [.blk p1 (aB [I s3.1,I s3.2.1,S s3.2.2.1] 27),.row 2 1 (.slice none 0 0) (([]:List (Int)):List (Int)).length ((([]:List (Int)):List (Int)).flatMap (eI .i64)),.row 2 1 a6 (s3.2.2.2:List (Int)).length ((s3.2.2.2:List (Int)).flatMap (eI .i64))] w) ?_ ?_
 rintro a w ⟨Z,s3,a6,f,h,H⟩
 subst bk
 refine rg λK k=>ae 1 h O λa h=>s1 h O (aS my [] O3 O O) λa h=>ae 1 h O λa h=>zS h H 0 aq O3 O3 O3 λw H=>?_
 refine cz k ?_
 cases f
 refine r2 hr h O O (aO H 0 aQ aq O3) ⟨_,O,(H.kH (i:=2) O),H.out⟩
 refine rg λK k=>ae 1 h O λa h=>s1 h O (cd gp O u H.zin) λa h=>ae 1 h O λa h=>cz k<|lb ?_
 obtain⟨B6,bq,f⟩:=bv f
 refine ib (λa7 a w=>∃(Z:FZ) (F:Int × Int × Int × (List UInt8) × (List (Int))) (a8:Value),loopF B6 a7 F=some E/\Fr 29 [(3,(pt p1)),(4,a8),(8,G),(9,I (x0.length:Int)),(10,I F.1)] a/\HZ w0 Zi Z [.blk p1 (aB [I F.2.1,I F.2.2.1,S F.2.2.2.1] 27),.row 2 1 (.slice none 0 0) (([]:List (Int)):List (Int)).length ((([]:List (Int)):List (Int)).flatMap (eI .i64)),.row 2 1 a8 (F.2.2.2.2:List (Int)).length ((F.2.2.2.2:List (Int)).flatMap (eI .i64))] w/\bi Z G cY x0) KK ⟨_,_,_,f,h.to,H,u⟩ ?_
 rintro a7 a w ⟨Z,F,a8,f,h,H,u⟩
 obtain⟨a7,rfl,n6,bs,f⟩:=iJ bq f
 refine rg λK k=>sB h f O (bn O O) λz9 e9 f a h=>cz k<|sq<|cI h f O (λb3 f=>?_) λb3 f=>?_
 refine ag<|sb ?_
 refine rg λK k=>?_
 obtain⟨b4,f⟩:=ck f
 obtain⟨cp,c6,f⟩:=bv f
 have Y:=u.gel ⟨_,bl⟩ F.1
 rw[<-c6]at Y
 obtain⟨b6,c7,ad,af,b1,J,g⟩:=Y
 refine bJ h gp eh O O (ad.at H.zin) b4.1 (af b4) J O λa ct ao h=>?_
 refine s1 h O (ay O3 O ao isAgg135 eh O O) λa h=>zA h H zeroValue135 O3 (λx=>[_,_,_,x]) λa cx w X H h=>?_
 have ao:=At.ext ao X
 refine ap h H 3 O O O eh O3 O O (by obtain⟨_,_,_,e_⟩:=(g).form;subst e_;rfl) (by simp) O3 rfl (hl':=O4) rfl λw H=>?_
 refine cz k<|rg λK k=>s1 h O (lA H 3 isAgg135 eh O3) λa h=>sC h H f O (λc8 f17=>dC call150 (df f17 (g.hz H.zin) :)) λc8 f w X H a h=>?_
 refine sC h H f O (λb0 f18=>dC call69 (dD f18 :)) λb0 f w X H a h=>?_
 refine zA h H eX O3 (λx=>[_,_,_,_,x]) λa cy w X H h=>?_
 refine zS h H 4 aq O3 O3 O5 λw H=>?_
 refine cN k h [3,4,7,8,9,10] O6 λh=>?_
 refine sq<|rg λK k=>s1 h O (ab O cB O Z3 O O) λa h=>s1 h O (l1 H 4 A3) λa h=>sB h f O (aD O O) λda dd f a h=>cz k<|cI h f O (λb5 f=>?_) λb5 f=>?_
 refine nV 2 h λK k=>?_
 refine F1 O (λw X=>have H:=H.ext X;lA H 4 aQ aq O3) ?_
 refine bN 1 O ?_
 refine fE [2,3,20] O3 H λa w X H h=>?_
 refine zS h H 0 aq O3 O3 O5 λw H=>?_
 refine cz k ?_
 cases f
 refine r2 hr h O O (aO H 0 aQ aq O3) ⟨_,O,bx.nil,H.out⟩
 refine ag<|ah<|ae 1 h O λa h=>s1 h O (ab O cB O Z2 O O) λa h=>s1 h O (l1 H 4 A2) λa h=>cZ (enc:=(eI .i64)) ([b0.n]:List (Int)) h H dp Z2 zeroValue2 O (zl:=[I 0]) kR (cb 1 1) [_] [_] O O O O O λa b7 Z w a1 X H W h=>?_
 have g:=g.sub a1
 have u:=u.sub a1
 obtain⟨cc,f⟩:=ck f
 obtain⟨dj,ch,f⟩:=bv f
 refine cg (enc:=(eI .i64)) (out:=F.2.2.2.2) (data:=[b0.n]) h H 2 O dp CE O O O W (λ_=>rfl) (λ_ _=>rfl) cc O λa bb w H h=>?_
 rw[<-ch]at H
 have H:HZ w0 _ _ O5 _:=H
 refine ae 1 h O λa h=>am<|cO h [3,4,8,9,10] O5 λh=>?_
 refine ah<|sI h f O (aw O O) λdn dv f a h=>ae 1 h O λa h=>am ?_
 exact fK (iP ⟨fq bs f,h.to,(H.cT 3 O),u⟩)
 exact aR (iP ⟨f,h.to,H⟩)
theorem mi{x0:List (Arg)}{E:(List (List UInt8)) × V}{w0:World}(f:gS x0=some E){G:Value}(u:bi (hz w0) G cY x0) (hG:GW w0):Calls prog 122 [G].toArray w0 (bj λv w=>∃u1,v=.tuple #[u1,(vA E.2)]/\bx (ZB Z0 w0.heap.size w) u1 1 eS E.1/\Ext w0 w):=by
 refine en func122 [0] [_] λQ a Zi Z b2 H h hr=>?_
 have u:=u.sub b2
 clear b2
 unfold gS at f
 refine rg λK k=>ae 1 h O λa h=>zA h H eX O3 (λx=>[x]) λa p1 w X H h=>?_
 refine cz k<|rg λK k=>ae 1 h O λa h=>cz k ?_
 have H:=H.fc 9 1 rfl
 have H:HZ w0 _ _ O2 _:=H
 have H:=H.fc 9 1 rfl
 have H:HZ w0 _ _ O3 _:=H
 obtain⟨J3,bk,f⟩:=bv f
 refine dA (λa w=>∃(Z:FZ) (s3:Int × Int × (List UInt8) × (List (List UInt8))) (a6:Value),J3 s3=some E/\Fr 29 [(3,(pt p1)),(4,a6)] a/\HZ w0 Zi Z [.blk p1 (aB [I s3.1,I s3.2.1,S s3.2.2.1] 27),.row 9 1 (.slice none 0 0) (([]:List (List UInt8)):List (List UInt8)).length ((([]:List (List UInt8)):List (List UInt8)).flatMap eS),.row 9 1 a6 (s3.2.2.2:List (List UInt8)).length ((s3.2.2.2:List (List UInt8)).flatMap eS)] w) ?_ ?_
 rintro a w ⟨Z,s3,a6,f,h,H⟩
 subst bk
 refine rg λK k=>ae 1 h O λa h=>s1 h O (aS my [] O3 O O) λa h=>ae 1 h O λa h=>zS h H 0 aq O3 O3 O3 λw H=>?_
 refine cz k ?_
 cases f
 refine r2 hr h O O (aO H 0 aQ aq O3) ⟨_,O,(H.kH (i:=2) O),H.out⟩
 refine rg λK k=>ae 1 h O λa h=>s1 h O (cd gp O u H.zin) λa h=>ae 1 h O λa h=>cz k<|lb ?_
 obtain⟨B6,bq,f⟩:=bv f
 refine ib (λa7 a w=>∃(Z:FZ) (F:Int × Int × Int × (List UInt8) × (List (List UInt8))) (a8:Value),loopF B6 a7 F=some E/\Fr 29 [(3,(pt p1)),(4,a8),(8,G),(9,I (x0.length:Int)),(10,I F.1)] a/\HZ w0 Zi Z [.blk p1 (aB [I F.2.1,I F.2.2.1,S F.2.2.2.1] 27),.row 9 1 (.slice none 0 0) (([]:List (List UInt8)):List (List UInt8)).length ((([]:List (List UInt8)):List (List UInt8)).flatMap eS),.row 9 1 a8 (F.2.2.2.2:List (List UInt8)).length ((F.2.2.2.2:List (List UInt8)).flatMap eS)] w/\bi Z G cY x0) KK ⟨_,_,_,f,h.to,H,u⟩ ?_
 rintro a7 a w ⟨Z,F,a8,f,h,H,u⟩
 obtain⟨a7,rfl,n6,bs,f⟩:=iJ bq f
 refine rg λK k=>sB h f O (bn O O) λz9 e9 f a h=>cz k<|sq<|cI h f O (λb3 f=>?_) λb3 f=>?_
 refine ag<|sb ?_
 refine rg λK k=>?_
 obtain⟨b4,f⟩:=ck f
 obtain⟨cp,c6,f⟩:=bv f
 have Y:=u.gel ⟨_,bl⟩ F.1
 rw[<-c6]at Y
 obtain⟨b6,c7,ad,af,b1,J,g⟩:=Y
 refine bJ h gp eh O O (ad.at H.zin) b4.1 (af b4) J O λa ct ao h=>?_
 refine s1 h O (ay O3 O ao isAgg135 eh O O) λa h=>zA h H zeroValue135 O3 (λx=>[_,_,_,x]) λa cx w X H h=>?_
 have ao:=At.ext ao X
 refine ap h H 3 O O O eh O3 O O (by obtain⟨_,_,_,e_⟩:=(g).form;subst e_;rfl) (by simp) O3 rfl (hl':=O4) rfl λw H=>?_
 refine cz k<|rg λK k=>s1 h O (lA H 3 isAgg135 eh O3) λa h=>sC h H f O (λc8 f17=>dC call150 (df f17 (g.hz H.zin) :)) λc8 f w X H a h=>?_
 refine sC h H f O (λb0 f18=>dC call158 (oZ f18 (hG.ext H.out) :)) λb0 f w X H a h=>?_
 refine zA h H eX O3 (λx=>[_,_,_,_,x]) λa cy w X H h=>?_
 refine zS h H 4 aq O3 O3 O5 λw H=>?_
 refine cN k h [3,4,7,8,9,10] O6 λh=>?_
 refine sq<|rg λK k=>s1 h O (ab O cB O Z3 O O) λa h=>s1 h O (l1 H 4 A3) λa h=>sB h f O (aD O O) λda dd f a h=>cz k<|cI h f O (λb5 f=>?_) λb5 f=>?_
 refine nV 2 h λK k=>?_
 refine F1 O (λw X=>have H:=H.ext X;lA H 4 aQ aq O3) ?_
 refine bN 1 O ?_
 refine fE [2,3,20] O3 H λa w X H h=>?_
 refine zS h H 0 aq O3 O3 O5 λw H=>?_
 refine cz k ?_
 cases f
 refine r2 hr h O O (aO H 0 aQ aq O3) ⟨_,O,bx.nil,H.out⟩
 refine ag<|ah<|ae 1 h O λa h=>s1 h O (ab O cB O Z9 O O) λa h=>s1 h O (l1 H 4 A9) λa h=>cZ (enc:=eS) ([b0.s]:List (List UInt8)) h H lg Z9 zeroValue9 O (zl:=[S []]) kR (cb 1 1) [_] [_] O O O O O λa b7 Z w a1 X H W h=>?_
 have g:=g.sub a1
 have u:=u.sub a1
 obtain⟨cc,f⟩:=ck f
 obtain⟨dj,ch,f⟩:=bv f
 refine cg (enc:=eS) (out:=F.2.2.2.2) (data:=[b0.s]) h H 2 O lg Es O O O W (λ_=>rfl) (λ_ _=>rfl) cc O λa bb w H h=>?_
 rw[<-ch]at H
 have H:HZ w0 _ _ O5 _:=H
 refine ae 1 h O λa h=>am<|cO h [3,4,8,9,10] O5 λh=>?_
 refine ah<|sI h f O (aw O O) λdn dv f a h=>ae 1 h O λa h=>am ?_
 exact fK (iP ⟨fq bs f,h.to,(H.cT 3 O),u⟩)
 exact aR (iP ⟨f,h.to,H⟩)
theorem eK{x0:List (Arg)}{E:(List (V))}{w0:World}(f:dW x0=some E){F:Value}(u:bi (hz w0) F cY x0):Calls prog 167 [F].toArray w0 (bj λv w=>bx (ZB Z0 w0.heap.size w) v 3 vL E/\Ext w0 w):=by
 refine en func167 [0] [_] λQ a Zi Z af H h hr=>?_
 have u:=u.sub af
 clear af
 unfold dW at f
 refine rg λK k=>ae 1 h O λa h=>cz k<|rg λK k=>ae 1 h O λa h=>cz k ?_
 have H:=H.fc 27 3 rfl
 have H:HZ w0 _ _ [_] _:=H
 obtain⟨J2,b3,f⟩:=bv f
 refine dA (λa w=>∃(Z:FZ) (s2:(List (V))) (W:Value),J2 s2=some E/\Fr 18 [(3,W)] a/\HZ w0 Zi Z [.row 27 3 W (s2:List (V)).length ((s2:List (V)).flatMap vL)] w) ?_ ?_
 rintro a w ⟨Z,s2,W,f,h,H⟩
 subst b3
 refine rg λK k=>ae 2 h O λa h=>cz k ?_
 cases f
 refine r1 hr h O O ⟨(H.kH (i:=0) O),H.out⟩
 refine rg λK k=>ae 1 h O λa h=>s1 h O (cd gp O u H.zin) λa h=>ae 1 h O λa h=>cz k<|lb ?_
 obtain⟨B5,b4,f⟩:=bv f
 refine ib (λY a w=>∃(Z:FZ) (s5:Int × (List (V))) (a1:Value),loopF B5 Y s5=some E/\Fr 18 [(3,a1),(6,F),(7,I (x0.length:Int)),(8,I s5.1)] a/\HZ w0 Zi Z [.row 27 3 a1 (s5.2:List (V)).length ((s5.2:List (V)).flatMap vL)] w/\bi Z F cY x0) KK ⟨_,_,_,f,h.to,H,u⟩ ?_
 rintro Y a w ⟨Z,s5,a1,f,h,H,u⟩
 obtain⟨Y,rfl,n5,b5,f⟩:=iJ b4 f
 refine rg λK k=>sB h f O (bn O O) λz8 e8 f a h=>cz k<|sq<|cI h f O (λao f=>?_) λao f=>?_
 refine ag<|sb ?_
 refine rg λK k=>?_
 obtain⟨b0,f⟩:=ck f
 obtain⟨b6,b7,f⟩:=bv f
 have J:=u.gel ⟨_,bl⟩ s5.1
 rw[<-b7]at J
 obtain⟨b1,bb,a6,a7,ad,G,g⟩:=J
 refine bJ h gp eh O O (a6.at H.zin) b0.1 (a7 b0) G O λa bs a8 h=>?_
 refine s1 h O (ay O3 O a8 isAgg135 eh O O) λa h=>zA h H zeroValue135 O3 (λx=>[_,x]) λa c6 w X H h=>?_
 have a8:=At.ext a8 X
 refine ap h H 1 O O O eh O3 O O (by obtain⟨_,_,_,e_⟩:=(g).form;subst e_;rfl) (by simp) O3 rfl (hl':=O2) rfl λw H=>?_
 refine cz k<|ah<|ae 1 h O λa h=>s1 h O (ab O kA O wH O O) λa h=>s1 h O (l1 H 1 isAgg24) λa h=>?_
 obtain⟨bk,f⟩:=ck f
 obtain⟨c7,bq,f⟩:=bv f
 refine cg (enc:=vL) (out:=s5.2) (data:=b6.l) h H 0 O kU x5 O O O g (λ_=>rfl) (λ_ _=>rfl) bk O λa b2 w H h=>?_
 rw[<-bq]at H
 have H:HZ w0 _ _ O2 _:=H
 refine ae 1 h O λa h=>am<|cO h [3,6,7,8] O4 λh=>?_
 refine ah<|sI h f O (aw O O) λc8 cc f a h=>ae 1 h O λa h=>am ?_
 exact fK (iP ⟨fq b5 f,h.to,(H.cT 1 O),u⟩)
 exact aR (iP ⟨f,h.to,H⟩)
theorem qI{x0:List UInt8}{x1 g:V}{w0:World}(f:jy x0 x1=some g):Calls prog 178 [S x0,(vA x1)].toArray w0 (bj λv w=>v=.agg #[I g.k,I g.n,S g.s]/\Ext w0 w):=by
 refine en func178 [0,1] O2 λQ a Zi Z a1 H h u=>?_
 clear a1
 unfold jy at f
 refine rg λK k=>aZ h H O O3 O O λa p1 w X H h=>?_
 have H:HZ w0 _ _ [_] _:=H
 refine zA h H eX O3 (λx=>[_,x]) λa p2 w X H h=>?_
 refine cz k<|sq<|rg λK k=>ae 1 h O λa h=>cz k<|lb<|rg λK k=>sB h f O (aH O O) λz5 e5 f a h=>ae 1 h O λa h=>cz k<|cI h f O (λa6 f=>?_) λa6 f=>?_
 refine rg λK k=>s1 h O (ab O cB O Z3 O O) λa h=>s1 h O (l1 H 0 A3) λa h=>sB h f O (aD O O) λz7 e7 f a h=>sC h H f O (λy8 f8=>dC call17 (bh f8 :)) λy8 f w X H a h=>?_
 refine zS h H 1 aq O3 O3 O2 λw H=>?_
 refine cN k h [4] [_] λh=>?_
 cases f
 refine r1 u h O (aO H 1 aQ aq O3) ⟨O,H.out⟩
 refine rg λK k=>sB h f O (aH O O) λz9 e9 f a h=>ae 1 h O λa h=>cN k h [3,4,6,13] O4 λh=>?_
 refine cI h f O (λE f=>?_) λE f=>?_
 refine rg λK k=>s1 h O (ab O cB O Z3 O O) λa h=>s1 h O (l1 H 0 A3) λa h=>sB h f O (aD O O) λb2 b3 f a h=>sC h H f O (λa7 f12=>dC call17 (bh f12 :)) λa7 f w X H a h=>?_
 refine zS h H 1 aq O3 O3 O2 λw H=>?_
 refine cN k h [4] [_] λh=>?_
 cases f
 refine r1 u h O (aO H 1 aQ aq O3) ⟨O,H.out⟩
 refine rg λK k=>sB h f O (aH O O) λb4 b5 f a h=>ae 1 h O λa h=>cz k<|cI h f O (λF f=>?_) λF f=>?_
 refine rg λK k=>s1 h O (ab O cB O Z3 O O) λa h=>s1 h O (l1 H 0 A3) λa h=>sB h f O (aD O O) λb6 b7 f a h=>sC h H f O (λa8 f16=>dC call17 (bh f16 :)) λa8 f w X H a h=>?_
 refine zS h H 1 aq O3 O3 O2 λw H=>?_
 refine cN k h [4] [_] λh=>?_
 cases f
 refine r1 u h O (aO H 1 aQ aq O3) ⟨O,H.out⟩
 refine rg λK k=>sB h f O (aH O O) λbb bk f a h=>ae 1 h O λa h=>cN k h [3,4,6,25] O4 λh=>?_
 refine cI h f O (λG f=>?_) λG f=>?_
 refine rg λK k=>s1 h O (ab O cB O Z3 O O) λa h=>s1 h O (l1 H 0 A3) λa h=>sB h f O (aD O O) λbq bs f a h=>sC h H f O (λad f20=>dC call17 (bh f20 :)) λad f w X H a h=>?_
 refine zS h H 1 aq O3 O3 O2 λw H=>?_
 refine cN k h [4] [_] λh=>?_
 cases f
 refine r1 u h O (aO H 1 aQ aq O3) ⟨O,H.out⟩
 refine rg λK k=>sB h f O (aH O O) λc6 c7 f a h=>ae 1 h O λa h=>cz k<|cI h f O (λJ f=>?_) λJ f=>?_
 refine rg λK k=>s1 h O (ab O cB O Z3 O O) λa h=>s1 h O (l1 H 0 A3) λa h=>sB h f O (aD O O) λc8 cc f a h=>sC h H f O (λaf f24=>dC call17 (bh f24 :)) λaf f w X H a h=>?_
 refine zS h H 1 aq O3 O3 O2 λw H=>?_
 refine cN k h [4] [_] λh=>?_
 cases f
 refine r1 u h O (aO H 1 aQ aq O3) ⟨O,H.out⟩
 refine rg λK k=>sB h f O (aH O O) λch cp f a h=>ae 1 h O λa h=>cN k h [3,4,37] O3 λh=>?_
 refine cI h f O (λW f=>?_) λW f=>?_
 refine rg λK k=>s1 h O (lA H 0 aQ aq O3) λa h=>sC h H f O (λao f27=>dC call56 (gc f27 :)) λao f w X H a h=>?_
 refine zA h H eX O3 (λx=>[_,_,x]) λa ct w X H h=>?_
 refine zS h H 2 aq O3 O3 O3 λw H=>?_
 refine cN k h [4,5] O2 λh=>?_
 refine sq<|rg λK k=>s1 h O (ab O cB O Z3 O O) λa h=>s1 h O (l1 H 2 A3) λa h=>sB h f O (aD O O) λcx cy f a h=>cz k<|cI h f O (λY f=>?_) λY f=>?_
 refine rg λK k=>s1 h O (lA H 2 aQ aq O3) λa h=>zS h H 1 aq O3 O3 O3 λw H=>?_
 refine cN k h [4] [_] λh=>?_
 cases f
 refine r1 u h O (aO H 1 aQ aq O3) ⟨O,H.out⟩
 refine ag<|rg λK k=>s1 h O (ab O cB O Z2 O O) λa h=>s1 h O (l1 H 2 A2) λa h=>sB h f O (aD O O) λda dd f a h=>sC h H f O (λb0 f33=>dC call17 (bh f33 :)) λb0 f w X H a h=>?_
 refine zS h H 1 aq O3 O3 O3 λw H=>?_
 refine cN k h [4] [_] λh=>?_
 cases f
 refine r1 u h O (aO H 1 aQ aq O3) ⟨O,H.out⟩
 refine ag<|rg λK k=>sC h H f O (λb1 f34=>dC call18 (az f34 :)) λb1 f w X H a h=>?_
 refine zS h H 1 aq O3 O3 O2 λw H=>?_
 refine cz k ?_
 cases f
 refine r1 u h O (aO H 1 aQ aq O3) ⟨O,H.out⟩
theorem qE{x0:List UInt8}{x1:List (Arg)}{e2:V}{w0:World}(f:jA x0 x1=some e2){et:Value}(g:bi (hz w0) et cY x1):Calls prog 126 [S x0,et].toArray w0 (bj λv w=>v=.agg #[I e2.k,I e2.n,S e2.s]/\Ext w0 w):=by
 refine en func126 [0,1] O2 λQ a Zi Z oh H h hr=>?_
 have g:=g.sub oh
 clear oh
 unfold jA at f
 refine rg λK k=>zA h H eX O3 (λx=>[x]) λa p1 w X H h=>?_
 refine cz k<|sq<|rg λK k=>ae 1 h O λa h=>cz k<|lb ?_
 obtain⟨J5,y2,f⟩:=bv f
 refine dA (λa w=>∃(Z:FZ) (s5:Bool),J5 s5=some e2/\Fr 186 [(0,S x0),(1,et),(4,(pt p1)),(9,S x0),(10,.bool s5)] a/\HZ w0 Zi Z [.blk p1 (aB [I 0,I 0,S []] 27)] w/\bi Z et cY x1) ?_ ?_
 rintro a w ⟨Z,s5,f,h,H,g⟩
 subst y2
 refine cI h f O (λy5 f=>?_) λy5 f=>?_
 refine rg λK k=>ae 1 h O λa h=>sB h f O (aH O O) λz7 e7 f a h=>ae 1 h O λa h=>?_
 obtain⟨y8,f8,f⟩:=bo f
 refine cW (data:=y8) h H O O O (dC call167 (eK (x0:=x1) f8 (g.hz H.zin))) λy7 Z w u X H k6 a h=>?_
 have g:=g.sub u
 refine sC h H f O (λy9 f10=>dC call166 (nT f10 (k6.hz H.zin) :)) λy9 f w X H a h=>?_
 refine zS h H 0 aq O3 O3 [_] λw H=>?_
 refine cN k h [4] [_] λh=>?_
 cases f
 refine r1 hr h O (aO H 0 aQ aq O3) ⟨O,H.out⟩
 refine rg λK k=>sB h f O (aH O O) λGz GA f a h=>ae 1 h O λa h=>cz k<|cI h f O (λp0 f=>?_) λp0 f=>?_
 refine rg λK k=>ae 1 h O λa h=>?_
 obtain⟨ys,f13,f⟩:=bo f
 refine cW (data:=ys) h H O O O (dC call167 (eK (x0:=x1) f13 (g.hz H.zin))) λua Z w u X H eu a h=>?_
 have g:=g.sub u
 refine sC h H f O (λyv f15=>dC call168 (iU f15 (eu.hz H.zin) :)) λyv f w X H a h=>?_
 refine zS h H 0 aq O3 O3 [_] λw H=>?_
 refine cN k h [4] [_] λh=>?_
 cases f
 refine r1 hr h O (aO H 0 aQ aq O3) ⟨O,H.out⟩
 refine rg λK k=>sB h f O (aH O O) λGB GC f a h=>ae 1 h O λa h=>cN k h [0,1,4,9,23] O5 λh=>?_
 refine cI h f O (λp2 f=>?_) λp2 f=>?_
 refine rg λK k=>ae 1 h O λa h=>?_
 obtain⟨z1,f18,f⟩:=bo f
 refine cW (data:=z1) h H O O O (dC call167 (eK (x0:=x1) f18 (g.hz H.zin))) λuc Z w u X H ew a h=>?_
 have g:=g.sub u
 refine sC h H f O (λz6 f20=>dC call169 (gW f20 (ew.hz H.zin) :)) λz6 f w X H a h=>?_
 refine zS h H 0 aq O3 O3 [_] λw H=>?_
 refine cN k h [4] [_] λh=>?_
 cases f
 refine r1 hr h O (aO H 0 aQ aq O3) ⟨O,H.out⟩
 refine rg λK k=>sB h f O (aH O O) λGD GE f a h=>ae 1 h O λa h=>cz k<|cI h f O (λp6 f=>?_) λp6 f=>?_
 refine rg λK k=>ae 1 h O λa h=>?_
 obtain⟨z8,f23,f⟩:=bo f
 refine cW (data:=z8) h H O O O (dC call167 (eK (x0:=x1) f23 (g.hz H.zin))) λum Z w u X H ey a h=>?_
 have g:=g.sub u
 refine sC h H f O (λzl f25=>dC call170 (je f25 (ey.hz H.zin) :)) λzl f w X H a h=>?_
 refine zS h H 0 aq O3 O3 [_] λw H=>?_
 refine cN k h [4] [_] λh=>?_
 cases f
 refine r1 hr h O (aO H 0 aQ aq O3) ⟨O,H.out⟩
 refine rg λK k=>sB h f O (aH O O) λGF GG f a h=>ae 1 h O λa h=>cN k h [0,1,4,9,33] O5 λh=>?_
 refine cI h f O (λp7 f=>?_) λp7 f=>?_
 refine rg λK k=>ae 1 h O λa h=>?_
 obtain⟨zo,f28,f⟩:=bo f
 refine cW (data:=zo) h H O O O (dC call167 (eK (x0:=x1) f28 (g.hz H.zin))) λv7 Z w u X H ez a h=>?_
 have g:=g.sub u
 refine sC h H f O (λzs f30=>dC call170 (je f30 (ez.hz H.zin) :)) λzs f w X H a h=>?_
 refine zS h H 0 aq O3 O3 [_] λw H=>?_
 refine cN k h [4] [_] λh=>?_
 cases f
 refine r1 hr h O (aO H 0 aQ aq O3) ⟨O,H.out⟩
 refine rg λK k=>sB h f O (aH O O) λGH GI f a h=>ae 1 h O λa h=>cz k<|cI h f O (λp8 f=>?_) λp8 f=>?_
 refine rg λK k=>ae 1 h O λa h=>?_
 obtain⟨A1,f33,f⟩:=bo f
 refine cW (data:=A1) h H O O O (dC call167 (eK (x0:=x1) f33 (g.hz H.zin))) λv8 Z w u X H eF a h=>?_
 have g:=g.sub u
 refine sC h H f O (λAI f35=>dC call170 (je f35 (eF.hz H.zin) :)) λAI f w X H a h=>?_
 refine zS h H 0 aq O3 O3 [_] λw H=>?_
 refine cN k h [4] [_] λh=>?_
 cases f
 refine r1 hr h O (aO H 0 aQ aq O3) ⟨O,H.out⟩
 refine rg λK k=>sB h f O (aH O O) λGJ GK f a h=>ae 1 h O λa h=>cN k h [0,1,4,9,43] O5 λh=>?_
 refine cI h f O (λp9 f=>?_) λp9 f=>?_
 refine rg λK k=>ae 1 h O λa h=>?_
 obtain⟨AS,f38,f⟩:=bo f
 refine cW (data:=AS) h H O O O (dC call167 (eK (x0:=x1) f38 (g.hz H.zin))) λvb Z w u X H eJ a h=>?_
 have g:=g.sub u
 refine sC h H f O (λAT f40=>dC call171 (nU f40 (eJ.hz H.zin) :)) λAT f w X H a h=>?_
 refine zS h H 0 aq O3 O3 [_] λw H=>?_
 refine cN k h [4] [_] λh=>?_
 cases f
 refine r1 hr h O (aO H 0 aQ aq O3) ⟨O,H.out⟩
 refine rg λK k=>sB h f O (aH O O) λGL GM f a h=>ae 1 h O λa h=>cz k<|cI h f O (λpa f=>?_) λpa f=>?_
 refine nV 9 h λK k=>?_
 refine bN 1 O ?_
 obtain⟨pb,f⟩:=ck f
 obtain⟨eZ,B0,f⟩:=bv f
 have hD:=g.gel ⟨_,bl⟩ 1
 rw[<-B0]at hD
 obtain⟨vc,B2,k7,k8,b5,ff,cy⟩:=hD
 refine aT [50] O O O O false (.rel (λw' F=>At w' F (λ_:Unit=>[.bool eZ.area,I eZ.cols,b5]) () 0)) aI (λw X=>?_) ?_
 skip
 exact have H:=H.ext X;dh gp eh O O (k7.at H.zin) pb.1 (k8 pb) ff
 refine aT [51] O O O O false (.eq (.agg #[.bool eZ.area,I eZ.cols,b5])) trivial (λw X=>?_) ?_
 intro GN B3
 exact(ay O3 O B3 isAgg135 eh O O).bC
 refine fC f O (λB4 f46 w X=>have H:=H.ext X;dC call150 (df f46 (cy.hz H.zin) :)) λB4 f=>?_
 refine bN 1 O ?_
 obtain⟨pe,f⟩:=ck f
 obtain⟨fs,B5,f⟩:=bv f
 have hE:=g.gel ⟨_,bl⟩ 0
 rw[<-B5]at hE
 obtain⟨vk,B6,k9,kc,a7,gb,da⟩:=hE
 refine aT [54] O O O O false (.rel (λw' F=>At w' F (λ_:Unit=>[.bool fs.area,I fs.cols,a7]) () 0)) aI (λw X=>?_) ?_
 skip
 exact have H:=H.ext X;dh gp eh O O (k9.at H.zin) pe.1 (kc pe) gb
 refine aT [55] O O O O false (.rel (λw' F=>At w' F (λ_:Unit=>[.bool fs.area,I fs.cols,a7]) () 2)) aI (λw X=>?_) ?_
 intro GO B7
 exact dU O B7 kA O wH O O
 refine aT [56] O O O O false (.eq (a7)) trivial (λw X=>?_) ?_
 intro GP B8
 exact(al O B8 isAgg24 O).bC
 refine fC f O (λBy f50 w X=>have H:=H.ext X;dC call172 (nX f50 (da.hz H.zin) :)) λBy f=>?_
 refine fE [4,58] O2 H λa w X H h=>?_
 refine zS h H 0 aq O3 O3 [_] λw H=>?_
 refine cz k ?_
 cases f
 refine r1 hr h O (aO H 0 aQ aq O3) ⟨O,H.out⟩
 refine rg λK k=>sB h f O (aH O O) λGQ GR f a h=>ae 1 h O λa h=>cN k h [0,1,4,9,59] O5 λh=>?_
 refine cI h f O (λps f=>?_) λps f=>?_
 refine nV 9 h λK k=>?_
 refine bN 1 O ?_
 obtain⟨q0,f⟩:=ck f
 obtain⟨gf,BY,f⟩:=bv f
 have hF:=g.gel ⟨_,bl⟩ 1
 rw[<-BY]at hF
 obtain⟨vn,F0,ki,kk,b6,gg,dd⟩:=hF
 refine aT [61] O O O O false (.rel (λw' F=>At w' F (λ_:Unit=>[.bool gf.area,I gf.cols,b6]) () 0)) aI (λw X=>?_) ?_
 skip
 exact have H:=H.ext X;dh gp eh O O (ki.at H.zin) q0.1 (kk q0) gg
 refine aT [62] O O O O false (.eq (.agg #[.bool gf.area,I gf.cols,b6])) trivial (λw X=>?_) ?_
 intro GS F2
 exact(ay O3 O F2 isAgg135 eh O O).bC
 refine fC f O (λF3 f56 w X=>have H:=H.ext X;dC call150 (df f56 (dd.hz H.zin) :)) λF3 f=>?_
 refine bN 1 O ?_
 obtain⟨q3,f⟩:=ck f
 obtain⟨gl,F4,f⟩:=bv f
 have hG:=g.gel ⟨_,bl⟩ 0
 rw[<-F4]at hG
 obtain⟨vs,F5,kx,ky,a8,gm,dj⟩:=hG
 refine aT [65] O O O O false (.rel (λw' F=>At w' F (λ_:Unit=>[.bool gl.area,I gl.cols,a8]) () 0)) aI (λw X=>?_) ?_
 skip
 exact have H:=H.ext X;dh gp eh O O (kx.at H.zin) q3.1 (ky q3) gm
 refine aT [66] O O O O false (.rel (λw' F=>At w' F (λ_:Unit=>[.bool gl.area,I gl.cols,a8]) () 2)) aI (λw X=>?_) ?_
 intro GT F6
 exact dU O F6 kA O wH O O
 refine aT [67] O O O O false (.eq (a8)) trivial (λw X=>?_) ?_
 intro GU F7
 exact(al O F7 isAgg24 O).bC
 refine fC f O (λF8 f60 w X=>have H:=H.ext X;dC call173 (pU f60 (dj.hz H.zin) :)) λF8 f=>?_
 refine fE [4,69] O2 H λa w X H h=>?_
 refine zS h H 0 aq O3 O3 [_] λw H=>?_
 refine cz k ?_
 cases f
 refine r1 hr h O (aO H 0 aQ aq O3) ⟨O,H.out⟩
 refine rg λK k=>sB h f O (aH O O) λGV GX f a h=>ae 1 h O λa h=>cz k<|cI h f O (λq4 f=>?_) λq4 f=>?_
 refine nV 9 h λK k=>?_
 refine bN 1 O ?_
 obtain⟨q5,f⟩:=ck f
 obtain⟨h0,F9,f⟩:=bv f
 have hI:=g.gel ⟨_,bl⟩ 0
 rw[<-F9]at hI
 obtain⟨w2,Fh,kz,l0,ad,h2,dn⟩:=hI
 refine aT [72] O O O O false (.rel (λw' F=>At w' F (λ_:Unit=>[.bool h0.area,I h0.cols,ad]) () 0)) aI (λw X=>?_) ?_
 skip
 exact have H:=H.ext X;dh gp eh O O (kz.at H.zin) q5.1 (l0 q5) h2
 refine aT [73] O O O O false (.rel (λw' F=>At w' F (λ_:Unit=>[.bool h0.area,I h0.cols,ad]) () 2)) aI (λw X=>?_) ?_
 intro GY Fi
 exact dU O Fi kA O wH O O
 refine aT [74] O O O O false (.eq (ad)) trivial (λw X=>?_) ?_
 intro GZ Fj
 exact(al O Fj isAgg24 O).bC
 refine bN 1 O ?_
 obtain⟨q6,f⟩:=ck f
 obtain⟨h3,Fk,f⟩:=bv f
 have hJ:=g.gel ⟨_,bl⟩ 1
 rw[<-Fk]at hJ
 obtain⟨w3,Fl,l2,l3,af,h4,dv⟩:=hJ
 refine aT [76] O O O O false (.rel (λw' F=>At w' F (λ_:Unit=>[.bool h3.area,I h3.cols,af]) () 0)) aI (λw X=>?_) ?_
 skip
 exact have H:=H.ext X;dh gp eh O O (l2.at H.zin) q6.1 (l3 q6) h4
 refine aT [77] O O O O false (.rel (λw' F=>At w' F (λ_:Unit=>[.bool h3.area,I h3.cols,af]) () 2)) aI (λw X=>?_) ?_
 intro H0 Fm
 exact dU O Fm kA O wH O O
 refine aT [78] O O O O false (.eq (af)) trivial (λw X=>?_) ?_
 intro H1 Fp
 exact(al O Fp isAgg24 O).bC
 refine fC f O (λFq f69 w X=>have H:=H.ext X;dC call174 (ma f69 (dn.hz H.zin) (dv.hz H.zin) :)) λFq f=>?_
 refine fE [4,80] O2 H λa w X H h=>?_
 refine zS h H 0 aq O3 O3 [_] λw H=>?_
 refine cz k ?_
 cases f
 refine r1 hr h O (aO H 0 aQ aq O3) ⟨O,H.out⟩
 refine rg λK k=>sB h f O (aH O O) λH2 H3 f a h=>ae 1 h O λa h=>cN k h [0,1,4,9,81] O5 λh=>?_
 refine cI h f O (λq7 f=>?_) λq7 f=>?_
 refine nV 9 h λK k=>?_
 refine bN 1 O ?_
 obtain⟨qa,f⟩:=ck f
 obtain⟨h5,Ft,f⟩:=bv f
 have hK:=g.gel ⟨_,bl⟩ 0
 rw[<-Ft]at hK
 obtain⟨w4,Fu,mb,ml,b7,h6,dz⟩:=hK
 refine aT [83] O O O O false (.rel (λw' F=>At w' F (λ_:Unit=>[.bool h5.area,I h5.cols,b7]) () 0)) aI (λw X=>?_) ?_
 skip
 exact have H:=H.ext X;dh gp eh O O (mb.at H.zin) qa.1 (ml qa) h6
 refine aT [84] O O O O false (.eq (.agg #[.bool h5.area,I h5.cols,b7])) trivial (λw X=>?_) ?_
 intro H4 Fv
 exact(ay O3 O Fv isAgg135 eh O O).bC
 refine fC f O (λFw f75 w X=>have H:=H.ext X;dC call150 (df f75 (dz.hz H.zin) :)) λFw f=>?_
 refine bN 1 O ?_
 obtain⟨qb,f⟩:=ck f
 obtain⟨h7,Fx,f⟩:=bv f
 have hL:=g.gel ⟨_,bl⟩ 1
 rw[<-Fx]at hL
 obtain⟨w5,Fy,mm,mn,ao,h8,e0⟩:=hL
 refine aT [87] O O O O false (.rel (λw' F=>At w' F (λ_:Unit=>[.bool h7.area,I h7.cols,ao]) () 0)) aI (λw X=>?_) ?_
 skip
 exact have H:=H.ext X;dh gp eh O O (mm.at H.zin) qb.1 (mn qb) h8
 refine aT [88] O O O O false (.rel (λw' F=>At w' F (λ_:Unit=>[.bool h7.area,I h7.cols,ao]) () 2)) aI (λw X=>?_) ?_
 intro H5 Fz
 exact dU O Fz kA O wH O O
 refine aT [89] O O O O false (.eq (ao)) trivial (λw X=>?_) ?_
 intro H6 FA
 exact(al O FA isAgg24 O).bC
 refine fC f O (λFB f79 w X=>have H:=H.ext X;dC call175 (px f79 (e0.hz H.zin) :)) λFB f=>?_
 refine fE [4,91] O2 H λa w X H h=>?_
 refine zS h H 0 aq O3 O3 [_] λw H=>?_
 refine cz k ?_
 cases f
 refine r1 hr h O (aO H 0 aQ aq O3) ⟨O,H.out⟩
 refine rg λK k=>sB h f O (aH O O) λH7 H8 f a h=>ae 1 h O λa h=>cz k<|cI h f O (λqc f=>?_) λqc f=>?_
 refine nV 15 h λK k=>?_
 refine bN 1 O ?_
 obtain⟨ql,f⟩:=ck f
 obtain⟨h9,FC,f⟩:=bv f
 have hN:=g.gel ⟨_,bl⟩ 0
 rw[<-FC]at hN
 obtain⟨w6,FD,mo,mu,b0,ha,e1⟩:=hN
 refine aT [94] O O O O false (.rel (λw' F=>At w' F (λ_:Unit=>[.bool h9.area,I h9.cols,b0]) () 0)) aI (λw X=>?_) ?_
 skip
 exact have H:=H.ext X;dh gp eh O O (mo.at H.zin) ql.1 (mu ql) ha
 refine aT [95] O O O O false (.rel (λw' F=>At w' F (λ_:Unit=>[.bool h9.area,I h9.cols,b0]) () 2)) aI (λw X=>?_) ?_
 intro H9 FE
 exact dU O FE kA O wH O O
 refine aT [96] O O O O false (.eq (b0)) trivial (λw X=>?_) ?_
 intro Ha FF
 exact(al O FF isAgg24 O).bC
 refine F1 O (λw X=>have H:=H.ext X;bY kU O (e1.at H.zin)) ?_
 refine bN 1 O ?_
 obtain⟨qm,f⟩:=ck f
 obtain⟨e3,FG,f⟩:=bv f
 have hP:=g.gel ⟨_,bl⟩ 0
 rw[<-FG]at hP
 obtain⟨w7,FH,mv,n0,b4,hb,n2⟩:=hP
 refine aT [99] O O O O false (.rel (λw' F=>At w' F (λ_:Unit=>[.bool e3.area,I e3.cols,b4]) () 0)) aI (λw X=>?_) ?_
 skip
 exact have H:=H.ext X;dh gp eh O O (mv.at H.zin) qm.1 (n0 qm) hb
 refine aT [100] O O O O false (.rel (λw' F=>At w' F (λ_:Unit=>[.bool e3.area,I e3.cols,b4]) () 1)) aI (λw X=>?_) ?_
 intro FP qs
 exact dU O qs kA O Z3 O O
 refine aT [101] O O O O false (.eq (I e3.cols)) trivial (λw X=>?_) ?_
 intro FQ r4
 exact(al O r4 A3 O).bC
 refine fI f O (λw X=>pO U3 O O) λHb Hc f=>?_
 obtain⟨FI,f⟩:=ck f
 refine fI f O (λw X=>cm O O FI) λHd He f=>?_
 refine fC f O (λFJ f91 w X=>dC call159 (fu f91 :)) λFJ f=>?_
 refine bN 2 O ?_
 refine fC f O (λFK f92 w X=>dC call70 (bc f92 :)) λFK f=>?_
 refine fE [4,108] O2 H λa w X H h=>?_
 refine zS h H 0 aq O3 O3 [_] λw H=>?_
 refine cz k ?_
 cases f
 refine r1 hr h O (aO H 0 aQ aq O3) ⟨O,H.out⟩
 refine rg λK k=>sB h f O (aH O O) λHf Hg f a h=>ae 1 h O λa h=>cN k h [0,1,4,9,109] O5 λh=>?_
 refine cI h f O (λr5 f=>?_) λr5 f=>?_
 refine rg λK k=>ae 1 h O λa h=>?_
 obtain⟨r6,f⟩:=ck f
 obtain⟨Hh,FL,f⟩:=bv f
 have hQ:=g.gel ⟨_,bl⟩ 0
 rw[<-FL]at hQ
 obtain⟨w8,FM,n5,na,nb,hc,nk⟩:=hQ
 refine bJ h gp eh O O (n5.at H.zin) r6.1 (na r6) hc O λa FR bb h=>?_
 refine kK h O bb kA O Z3 O O O λa FS bk h=>?_
 refine s1 h O (al O bk A3 O) λa h=>sC h H f O (λFN f98=>dC call159 (fu f98 :)) λFN f w X H a h=>?_
 have bb:=At.ext bb X
 have bk:=At.ext bk X
 refine ae 2 h O λa h=>sC h H f O (λFO f99=>dC call70 (bc f99 :)) λFO f w X H a h=>?_
 have bb:=At.ext bb X
 have bk:=At.ext bk X
 refine zS h H 0 aq O3 O3 [_] λw H=>?_
 refine cN k h [4] [_] λh=>?_
 cases f
 refine r1 hr h O (aO H 0 aQ aq O3) ⟨O,H.out⟩
 refine rg λK k=>sB h f O (aH O O) λFT FU f a h=>ae 1 h O λa h=>cz k<|cI h f O (λnl f=>?_) λnl f=>?_
 refine rg λK k=>sC h H f O (λra f102=>dC call18 (az f102 :)) λra f w X H a h=>?_
 refine zS h H 0 aq O3 O3 [_] λw H=>?_
 refine cN k h [4] [_] λh=>?_
 cases f
 refine r1 hr h O (aO H 0 aQ aq O3) ⟨O,H.out⟩
 refine rg λK k=>sB h f O (aH O O) λFV FW f a h=>ae 1 h O λa h=>cN k h [0,1,4,9,122] O5 λh=>?_
 refine cI h f O (λnn f=>?_) λnn f=>?_
 refine rg λK k=>ae 1 h O λa h=>?_
 obtain⟨rb,f⟩:=ck f
 obtain⟨rh,rl,f⟩:=bv f
 refine lY (E:=cY) h gp eh O O g rb O λa o9 a1 h=>?_
 rw[<-rl]at a1
 obtain⟨FX,f108,f⟩:=bo f
 refine st2 h O O O (dC call119 (ie (x0:=rh) f108 (a1.hz H.zin))) ?_
 rintro v_ w ⟨hR,rfl,G,X⟩ a h
 obtain⟨Z,u,e4,H⟩:=H.aP X
 have a1:=a1.sub u
 have g:=g.sub u
 have G:=G.sub (ZB.empty.trans e4)
 refine ae 3 h O λa h=>zA h H eX O3 (λx=>[_,x]) λa FY w X H h=>?_
 refine ae 1 h O λa h=>zS h H 1 aq O3 O3 O2 λw H=>?_
 refine cN k h [1,4,5,6] O4 λh=>?_
 refine sq<|rg λK k=>s1 h O (ab O cB O Z3 O O) λa h=>s1 h O (l1 H 1 A3) λa h=>sB h f O (aD O O) λG0 G1 f a h=>cz k<|cI h f O (λnx f=>?_) λnx f=>?_
 refine rg λK k=>s1 h O (lA H 1 aQ aq O3) λa h=>zS h H 0 aq O3 O3 O2 λw H=>?_
 refine cN k h [4] [_] λh=>?_
 cases f
 refine r1 hr h O (aO H 0 aQ aq O3) ⟨O,H.out⟩
 refine ag<|cO h [1,4,5] O3 λh=>?_
 refine nV 17 h λK k=>?_
 refine bN 1 O ?_
 obtain⟨hT,f⟩:=ck f
 obtain⟨bq,rm,f⟩:=bv f
 have e5:=g.gel ⟨_,bl⟩ 0
 rw[<-rm]at e5
 obtain⟨rq,w9,hf,hg,b1,e6,hU⟩:=e5
 refine aT [134] O O O O false (.rel (λw' F=>At w' F (λ_:Unit=>[.bool bq.area,I bq.cols,b1]) () 0)) aI (λw X=>?_) ?_
 skip
 exact have H:=H.ext X;dh gp eh O O (hf.at H.zin) hT.1 (hg hT) e6
 refine aT [135] O O O O false (.rel (λw' F=>At w' F (λ_:Unit=>[.bool bq.area,I bq.cols,b1]) () 1)) aI (λw X=>?_) ?_
 intro G2 rr
 exact dU O rr kA O Z3 O O
 refine aT [136] O O O O false (.eq (I bq.cols)) trivial (λw X=>?_) ?_
 intro G3 rs
 exact(al O rs A3 O).bC
 refine bN 1 O ?_
 obtain⟨hV,f⟩:=ck f
 obtain⟨e8,ru,f⟩:=bv f
 refine aT [138] O O O O false (.rel (λw' F=>At w' F (eI .i64) e8 0)) aI (λw X=>?_) ?_
 skip
 exact have H:=H.ext X;fh dp Z2 O O (G.at H.zin) (λ_=>rfl) e8 hV.1 (by rw[ru];exact ak hV)
 refine aT [139] O O O O false (.eq (I e8)) trivial (λw X=>?_) ?_
 intro G4 s0
 exact(al O s0 A2 O).bC
 refine fI f O (λw X=>cm O O (by decide)) λG5 G6 f=>?_
 refine bN 1 O ?_
 obtain⟨hW,f⟩:=ck f
 obtain⟨e9,s3,f⟩:=bv f
 refine aT [142] O O O O false (.rel (λw' F=>At w' F (eI .i64) e9 0)) aI (λw X=>?_) ?_
 skip
 exact have H:=H.ext X;fh dp Z2 O O (G.at H.zin) (λ_=>rfl) e9 hW.1 (by rw[s3];exact ak hW)
 refine aT [143] O O O O false (.eq (I e9)) trivial (λw X=>?_) ?_
 intro G7 s4
 exact(al O s4 A2 O).bC
 refine fI f O (λw X=>cm O O (by decide)) λG8 G9 f=>?_
 refine bN 1 O ?_
 obtain⟨hX,f⟩:=ck f
 obtain⟨cp,s6,f⟩:=bv f
 have ea:=g.gel ⟨_,bl⟩ 0
 rw[<-s6]at ea
 obtain⟨s7,wb,hj,hn,J,eb,bs⟩:=ea
 refine aT [146] O O O O false (.rel (λw' F=>At w' F (λ_:Unit=>[.bool cp.area,I cp.cols,J]) () 0)) aI (λw X=>?_) ?_
 skip
 exact have H:=H.ext X;dh gp eh O O (hj.at H.zin) hX.1 (hn hX) eb
 refine aT [147] O O O O false (.rel (λw' F=>At w' F (λ_:Unit=>[.bool cp.area,I cp.cols,J]) () 2)) aI (λw X=>?_) ?_
 intro Ga s8
 exact dU O s8 kA O wH O O
 refine aT [148] O O O O false (.eq (J)) trivial (λw X=>?_) ?_
 intro Gb s9
 exact(al O s9 isAgg24 O).bC
 refine fC f O (λsc f126 w X=>have H:=H.ext X;dC call176 (pS f126 (bs.hz H.zin) :)) λsc f=>?_
 refine fE [4,150] O2 H λa w X H h=>?_
 refine zS h H 0 aq O3 O3 O2 λw H=>?_
 refine cz k ?_
 cases f
 refine r1 hr h O (aO H 0 aQ aq O3) ⟨O,H.out⟩
 refine rg λK k=>sB h f O (aH O O) λGc Ge f a h=>ae 1 h O λa h=>cz k<|cI h f O (λo0 f=>?_) λo0 f=>?_
 refine rg λK k=>ae 1 h O λa h=>?_
 obtain⟨si,f⟩:=ck f
 obtain⟨sj,sk,f⟩:=bv f
 refine lY (E:=cY) h gp eh O O g si O λa od a6 h=>?_
 rw[<-sk]at a6
 obtain⟨Gf,f132,f⟩:=bo f
 refine st2 h O O O (dC call119 (ie (x0:=sj) f132 (a6.hz H.zin))) ?_
 rintro v_ w ⟨hY,rfl,W,X⟩ a h
 obtain⟨Z,u,e4,H⟩:=H.aP X
 have a6:=a6.sub u
 have g:=g.sub u
 have W:=W.sub (ZB.empty.trans e4)
 refine ae 3 h O λa h=>zA h H eX O3 (λx=>[_,x]) λa Gg w X H h=>?_
 refine ae 1 h O λa h=>zS h H 1 aq O3 O3 O2 λw H=>?_
 refine cN k h [1,4,7,8] O4 λh=>?_
 refine sq<|rg λK k=>s1 h O (ab O cB O Z3 O O) λa h=>s1 h O (l1 H 1 A3) λa h=>sB h f O (aD O O) λGh Gi f a h=>cz k<|cI h f O (λo2 f=>?_) λo2 f=>?_
 refine rg λK k=>s1 h O (lA H 1 aQ aq O3) λa h=>zS h H 0 aq O3 O3 O2 λw H=>?_
 refine cN k h [4] [_] λh=>?_
 cases f
 refine r1 hr h O (aO H 0 aQ aq O3) ⟨O,H.out⟩
 refine ag<|cO h [1,4,7] O3 λh=>?_
 refine nV 17 h λK k=>?_
 refine bN 1 O ?_
 obtain⟨hZ,f⟩:=ck f
 obtain⟨ct,sl,f⟩:=bv f
 have ec:=g.gel ⟨_,bl⟩ 0
 rw[<-sl]at ec
 obtain⟨sn,x2,ho,hq,b2,ed,c6⟩:=ec
 refine aT [163] O O O O false (.rel (λw' F=>At w' F (λ_:Unit=>[.bool ct.area,I ct.cols,b2]) () 0)) aI (λw X=>?_) ?_
 skip
 exact have H:=H.ext X;dh gp eh O O (ho.at H.zin) hZ.1 (hq hZ) ed
 refine aT [164] O O O O false (.eq (.agg #[.bool ct.area,I ct.cols,b2])) trivial (λw X=>?_) ?_
 intro Gj sp
 exact(ay O3 O sp isAgg135 eh O O).bC
 refine fC f O (λsv f141 w X=>have H:=H.ext X;dC call150 (df f141 (c6.hz H.zin) :)) λsv f=>?_
 refine bN 1 O ?_
 obtain⟨ih,f⟩:=ck f
 obtain⟨c7,sF,f⟩:=bv f
 have ef:=g.gel ⟨_,bl⟩ 1
 rw[<-sF]at ef
 obtain⟨sT,x3,ht,hv,b3,ei,jo⟩:=ef
 refine aT [167] O O O O false (.rel (λw' F=>At w' F (λ_:Unit=>[.bool c7.area,I c7.cols,b3]) () 0)) aI (λw X=>?_) ?_
 skip
 exact have H:=H.ext X;dh gp eh O O (ht.at H.zin) ih.1 (hv ih) ei
 refine aT [168] O O O O false (.rel (λw' F=>At w' F (λ_:Unit=>[.bool c7.area,I c7.cols,b3]) () 1)) aI (λw X=>?_) ?_
 intro Gk tc
 exact dU O tc kA O Z3 O O
 refine aT [169] O O O O false (.eq (I c7.cols)) trivial (λw X=>?_) ?_
 intro Gl tk
 exact(al O tk A3 O).bC
 refine bN 1 O ?_
 obtain⟨k1,f⟩:=ck f
 obtain⟨ej,tl,f⟩:=bv f
 refine aT [171] O O O O false (.rel (λw' F=>At w' F (eI .i64) ej 0)) aI (λw X=>?_) ?_
 skip
 exact have H:=H.ext X;fh dp Z2 O O (W.at H.zin) (λ_=>rfl) ej k1.1 (by rw[tl];exact ak k1)
 refine aT [172] O O O O false (.eq (I ej)) trivial (λw X=>?_) ?_
 intro Gm tq
 exact(al O tq A2 O).bC
 refine fI f O (λw X=>cm O O (by decide)) λGn Go f=>?_
 refine bN 1 O ?_
 obtain⟨k2,f⟩:=ck f
 obtain⟨cx,ts,f⟩:=bv f
 have el:=g.gel ⟨_,bl⟩ 1
 rw[<-ts]at el
 obtain⟨tt,x4,hx,hy,Y,eo,c8⟩:=el
 refine aT [175] O O O O false (.rel (λw' F=>At w' F (λ_:Unit=>[.bool cx.area,I cx.cols,Y]) () 0)) aI (λw X=>?_) ?_
 skip
 exact have H:=H.ext X;dh gp eh O O (hx.at H.zin) k2.1 (hy k2) eo
 refine aT [176] O O O O false (.rel (λw' F=>At w' F (λ_:Unit=>[.bool cx.area,I cx.cols,Y]) () 2)) aI (λw X=>?_) ?_
 intro Gp u0
 exact dU O u0 kA O wH O O
 refine aT [177] O O O O false (.eq (Y)) trivial (λw X=>?_) ?_
 intro Gq u1
 exact(al O u1 isAgg24 O).bC
 refine fC f O (λu2 f151 w X=>have H:=H.ext X;dC call177 (n_ f151 (c8.hz H.zin) :)) λu2 f=>?_
 refine fE [4,179] O2 H λa w X H h=>?_
 refine zS h H 0 aq O3 O3 O2 λw H=>?_
 refine cz k ?_
 cases f
 refine r1 hr h O (aO H 0 aQ aq O3) ⟨O,H.out⟩
 refine ag<|cO h [0,1,4] O3 λh=>?_
 refine rg λK k=>ae 2 h O λa h=>?_
 obtain⟨k4,f⟩:=ck f
 obtain⟨Gs,u3,f⟩:=bv f
 have ep:=g.gel ⟨_,bl⟩ 0
 rw[<-u3]at ep
 obtain⟨u4,y0,hA,hB,k5,er,cc⟩:=ep
 refine bJ h gp eh O O (hA.at H.zin) k4.1 (hB k4) er O λa Gu ch h=>?_
 refine s1 h O (ay O3 O ch isAgg135 eh O O) λa h=>sC h H f O (λu5 f155=>dC call150 (df f155 (cc.hz H.zin) :)) λu5 f w X H a h=>?_
 have ch:=At.ext ch X
 refine sC h H f O (λu9 f156=>dC call178 (qI f156 :)) λu9 f w X H a h=>?_
 have ch:=At.ext ch X
 refine zS h H 0 aq O3 O3 [_] λw H=>?_
 refine cN k h [4] [_] λh=>?_
 cases f
 refine r1 hr h O (aO H 0 aQ aq O3) ⟨O,H.out⟩
 refine rg λK k=>sB h f O (aH O O) λGv Gw f a h=>ae 1 h O λa h=>cz k<|cI h f O (λo5 f=>?_) λo5 f=>?_
 exact ag (bp ⟨f,h.to,H,g⟩)
 refine ah<|sB h f O (aH O O) λGx Gy f a h=>ae 1 h O λa h=>am ?_
 exact bp ⟨f,h.to,H,g⟩
theorem pY{x0:Int}{x1:List (Arg)}{a8:V}{w0:World}(f:iD x0 x1=some a8){a7:Value}(g:bi (hz w0) a7 cY x1) (hG:GW w0):Calls prog 80 [I x0,a7].toArray w0 (bj λv w=>v=.agg #[I a8.k,I a8.n,S a8.s]/\Ext w0 w):=by
 refine en func80 [0,1] O2 λQ a Zi Z ct H h hr=>?_
 have g:=g.sub ct
 clear ct
 unfold iD at f
 refine rg λK k=>zA h H eX O3 (λx=>[x]) λa p1 w X H h=>?_
 refine cz k<|rg λK k=>ae 1 h O λa h=>sC h H f O (λy2 f2=>dC call63 (kJ f2 (hG.ext H.out) :)) λy2 f w X H a h=>?_
 refine ae 1 h O λa h=>cz k<|sq<|rg λK k=>ae 2 h O λa h=>s1 h O (cd gp O g H.zin) λa h=>sC h H f O (λy4 f4=>dC call24 (iZ f4 (hG.ext H.out) :)) λy4 f w X H a h=>?_
 refine sB h f O (dI O) λz5 e5 f a h=>cN k h [1,4,5,19] O4 λh=>?_
 refine cI h f O (λeF f=>?_) λeF f=>?_
 refine rg λK k=>sC h H f O (λy7 f7=>dC call18 (az f7 :)) λy7 f w X H a h=>?_
 refine zS h H 0 aq O3 O3 [_] λw H=>?_
 refine cN k h [4] [_] λh=>?_
 cases f
 refine r1 hr h O (aO H 0 aQ aq O3) ⟨O,H.out⟩
 refine ag<|sq<|rg λK k=>ae 1 h O λa h=>cz k<|lb ?_
 obtain⟨eJ,cx,f⟩:=bv f
 refine dA (λa w=>∃(Z:FZ) (af:Bool),eJ af=some a8/\Fr 129 [(1,a7),(4,(pt p1)),(5,S y2),(21,S y2),(22,.bool af)] a/\HZ w0 Zi Z [.blk p1 (aB [I 0,I 0,S []] 27)] w/\bi Z a7 cY x1) ?_ ?_
 rintro a w ⟨Z,af,f,h,H,g⟩
 subst cx
 refine cI h f O (λcy f=>?_) λcy f=>?_
 refine rg λK k=>ae 1 h O λa h=>?_
 obtain⟨hY,f13,f⟩:=bo f
 refine st2 h O O O (dC call119 (ie (x0:=x1) f13 (g.hz H.zin))) ?_
 rintro v_ w ⟨ch,rfl,u,X⟩ a h
 obtain⟨Z,J,a6,H⟩:=H.aP X
 have g:=g.sub J
 have u:=u.sub (ZB.empty.trans a6)
 refine ae 3 h O λa h=>zA h H eX O3 (λx=>[_,x]) λa hZ w X H h=>?_
 refine ae 1 h O λa h=>zS h H 1 aq O3 O3 O2 λw H=>?_
 refine cN k h [4,5,6,7] O4 λh=>?_
 refine sq<|rg λK k=>s1 h O (ab O cB O Z3 O O) λa h=>s1 h O (l1 H 1 A3) λa h=>sB h f O (aD O O) λih jo f a h=>cz k<|cI h f O (λda f=>?_) λda f=>?_
 refine rg λK k=>s1 h O (lA H 1 aQ aq O3) λa h=>zS h H 0 aq O3 O3 O2 λw H=>?_
 refine cN k h [4] [_] λh=>?_
 cases f
 refine r1 hr h O (aO H 0 aQ aq O3) ⟨O,H.out⟩
 refine ag<|cO h [4,5,6] O3 λh=>?_
 refine sq<|rg λK k=>ae 1 h O λa h=>s1 h O (bY dp O (u.at H.zin)) λa h=>sB h f O (aD O O) λk1 k2 f a h=>cz k<|cI h f O (λdd f=>?_) λdd f=>?_
 refine rg λK k=>ae 2 h O λa h=>?_
 obtain⟨dj,f⟩:=ck f
 obtain⟨eZ,ff,f⟩:=bv f
 refine bB h dp Z2 O O (u.at H.zin) (λ_=>rfl) eZ dj.1 (by rw[ff];exact ak dj) rfl λa k4 ao h=>?_
 refine s1 h O (al O ao A2 O) λa h=>sC h H f O (λfs f24=>dC call120 (rR f24 :)) λfs f w X H a h=>?_
 have ao:=At.ext ao X
 refine zS h H 0 aq O3 O3 O2 λw H=>?_
 refine cN k h [4] [_] λh=>?_
 cases f
 refine r1 hr h O (aO H 0 aQ aq O3) ⟨O,H.out⟩
 refine ag<|nV 8 h λK k=>?_
 refine bN 2 O ?_
 obtain⟨dn,f⟩:=ck f
 obtain⟨b0,gb,f⟩:=bv f
 refine aT [54] O O O O false (.rel (λw' v'=>At w' v' (eI .i64) b0 0)) aI (λw X=>?_) ?_
 skip
 exact have H:=H.ext X;fh dp Z2 O O (u.at H.zin) (λ_=>rfl) b0 dn.1 (by rw[gb];exact ak dn)
 refine aT [55] O O O O false (.eq (I b0)) trivial (λw X=>?_) ?_
 intro k5 gf
 exact(al O gf A2 O).bC
 refine bN 1 O ?_
 obtain⟨dv,f⟩:=ck f
 obtain⟨b1,gg,f⟩:=bv f
 refine aT [57] O O O O false (.rel (λw' v'=>At w' v' (eI .i64) b1 0)) aI (λw X=>?_) ?_
 skip
 exact have H:=H.ext X;fh dp Z2 O O (u.at H.zin) (λ_=>rfl) b1 dv.1 (by rw[gg];exact ak dv)
 refine aT [58] O O O O false (.eq (I b1)) trivial (λw X=>?_) ?_
 intro k6 gl
 exact(al O gl A2 O).bC
 refine fC f O (λgm f29 w X=>dC call121 (sZ f29 :)) λgm f=>?_
 refine fE [4,60] O2 H λa w X H h=>?_
 refine zS h H 0 aq O3 O3 O2 λw H=>?_
 refine cz k ?_
 cases f
 refine r1 hr h O (aO H 0 aQ aq O3) ⟨O,H.out⟩
 obtain⟨h0,dz,f⟩:=bv f
 refine dA (λa w=>∃(Z:FZ) (b2:Bool),h0 b2=some a8/\Fr 129 [(1,a7),(4,(pt p1)),(5,S y2),(21,S y2),(61,.bool b2)] a/\HZ w0 Zi Z [.blk p1 (aB [I 0,I 0,S []] 27)] w/\bi Z a7 cY x1) ?_ ?_
 rintro a w ⟨Z,b2,f,h,H,g⟩
 subst dz
 refine cI h f O (λe1 f=>?_) λe1 f=>?_
 refine rg λK k=>ae 1 h O λa h=>?_
 obtain⟨k7,f33,f⟩:=bo f
 refine st2 h O O O (dC call122 (mi (x0:=x1) f33 (g.hz H.zin) (hG.ext H.out))) ?_
 rintro v_ w ⟨cp,rfl,G,X⟩ a h
 obtain⟨Z,J,a6,H⟩:=H.aP X
 have g:=g.sub J
 have G:=G.sub (ZB.empty.trans a6)
 refine ae 3 h O λa h=>zA h H eX O3 (λx=>[_,x]) λa k8 w X H h=>?_
 refine ae 1 h O λa h=>zS h H 1 aq O3 O3 O2 λw H=>?_
 refine cN k h [4,5,8,9] O4 λh=>?_
 refine sq<|rg λK k=>s1 h O (ab O cB O Z3 O O) λa h=>s1 h O (l1 H 1 A3) λa h=>sB h f O (aD O O) λk9 kc f a h=>cz k<|cI h f O (λe2 f=>?_) λe2 f=>?_
 refine rg λK k=>s1 h O (lA H 1 aQ aq O3) λa h=>zS h H 0 aq O3 O3 O2 λw H=>?_
 refine cN k h [4] [_] λh=>?_
 cases f
 refine r1 hr h O (aO H 0 aQ aq O3) ⟨O,H.out⟩
 refine ag<|cO h [4,5,8] O3 λh=>?_
 refine sq<|rg λK k=>ae 1 h O λa h=>s1 h O (bY lg O (G.at H.zin)) λa h=>sB h f O (aD O O) λki kk f a h=>ae 1 h O λa h=>ai h O O (gT O) O O (λe0=>an O) λa h=>?_
 obtain⟨kx,h2,f⟩:=bv f
 refine ai h O O (gT O) O O (λe0=>vB h2 (oF (eg e0 O) O)) λa h=>?_
 refine sB h f O (bK O O) λky kz f a h=>cN k h [4,5,8,86] O4 λh=>?_
 refine cI h f O (λe3 f=>?_) λe3 f=>?_
 refine rg λK k=>ae 2 h O λa h=>?_
 obtain⟨e4,f⟩:=ck f
 obtain⟨h3,h4,f⟩:=bv f
 refine bB h lg Z9 O O (G.at H.zin) (λ_=>rfl) h3 e4.1 (by rw[h4];exact ak e4) rfl λa l0 pg h=>?_
 refine s1 h O (al O pg A9 O) λa h=>sC h H f O (λh5 f46=>dC call123 (sr f46 :)) λh5 f w X H a h=>?_
 have pg:=At.ext pg X
 refine zS h H 0 aq O3 O3 O2 λw H=>?_
 refine cN k h [4] [_] λh=>?_
 cases f
 refine r1 hr h O (aO H 0 aQ aq O3) ⟨O,H.out⟩
 refine ag<|rg λK k=>ae 2 h O λa h=>sC h H f O (λh6 f47=>dC call124 (qP f47 (G.hz H.zin) (hG.ext H.out) :)) λh6 f w X H a h=>?_
 refine zS h H 0 aq O3 O3 O2 λw H=>?_
 refine cN k h [4] [_] λh=>?_
 cases f
 refine r1 hr h O (aO H 0 aQ aq O3) ⟨O,H.out⟩
 obtain⟨h7,e6,f⟩:=bv f
 refine dA (λa w=>∃(Z:FZ) (b3:Bool),h7 b3=some a8/\Fr 129 [(1,a7),(4,(pt p1)),(5,S y2),(95,.bool b3)] a/\HZ w0 Zi Z [.blk p1 (aB [I 0,I 0,S []] 27)] w/\bi Z a7 cY x1) ?_ ?_
 rintro a w ⟨Z,b3,f,h,H,g⟩
 subst e6
 refine cI h f O (λe7 f=>?_) λe7 f=>?_
 refine rg λK k=>ae 1 h O λa h=>?_
 obtain⟨h8,f⟩:=ck f
 obtain⟨h9,ha,f⟩:=bv f
 refine xc (E:=cY) h gp eh O O g h8 O λa e8 Y h=>?_
 rw[<-ha]at Y
 obtain⟨l2,f54,f⟩:=bo f
 refine st2 h O O O (dC call122 (mi (x0:=h9) f54 (Y.hz H.zin) (hG.ext H.out))) ?_
 rintro v_ w ⟨b4,rfl,F,X⟩ a h
 obtain⟨Z,J,a6,H⟩:=H.aP X
 have Y:=Y.sub J
 have g:=g.sub J
 have F:=F.sub (ZB.empty.trans a6)
 refine ae 3 h O λa h=>zA h H eX O3 (λx=>[_,x]) λa l3 w X H h=>?_
 refine ae 1 h O λa h=>zS h H 1 aq O3 O3 O2 λw H=>?_
 refine cN k h [1,4,5,10,11] O5 λh=>?_
 refine sq<|rg λK k=>s1 h O (ab O cB O Z3 O O) λa h=>s1 h O (l1 H 1 A3) λa h=>sB h f O (aD O O) λmb ml f a h=>cz k<|cI h f O (λe9 f=>?_) λe9 f=>?_
 refine rg λK k=>s1 h O (lA H 1 aQ aq O3) λa h=>zS h H 0 aq O3 O3 O2 λw H=>?_
 refine cN k h [4] [_] λh=>?_
 cases f
 refine r1 hr h O (aO H 0 aQ aq O3) ⟨O,H.out⟩
 refine ag<|rg λK k=>ae 1 h O λa h=>?_
 obtain⟨hb,f⟩:=ck f
 obtain⟨hc,hf,f⟩:=bv f
 refine lY (E:=cY) h gp eh O O g hb O λa ea a1 h=>?_
 rw[<-hf]at a1
 obtain⟨mm,f63,f⟩:=bo f
 refine st2 h O O O (dC call119 (ie (x0:=hc) f63 (a1.hz H.zin))) ?_
 rintro v_ w ⟨b5,rfl,W,X⟩ a h
 obtain⟨Z,J,a6,H⟩:=H.aP X
 have F:=F.sub J
 have a1:=a1.sub J
 have g:=g.sub J
 have W:=W.sub (ZB.empty.trans a6)
 refine ae 4 h O λa h=>zS h H 1 aq O3 O3 O2 λw H=>?_
 refine cN k h [4,5,10,11,12] O5 λh=>?_
 refine sq<|rg λK k=>s1 h O (ab O cB O Z3 O O) λa h=>s1 h O (l1 H 1 A3) λa h=>sB h f O (aD O O) λmn mo f a h=>cz k<|cI h f O (λeb f=>?_) λeb f=>?_
 refine rg λK k=>s1 h O (lA H 1 aQ aq O3) λa h=>zS h H 0 aq O3 O3 O2 λw H=>?_
 refine cN k h [4] [_] λh=>?_
 cases f
 refine r1 hr h O (aO H 0 aQ aq O3) ⟨O,H.out⟩
 refine ag<|cO h [4,5,10,12] O4 λh=>?_
 refine rg λK k=>ae 2 h O λa h=>?_
 obtain⟨ec,f⟩:=ck f
 obtain⟨hg,hj,f⟩:=bv f
 refine bB h lg Z9 O O (F.at H.zin) (λ_=>rfl) hg ec.1 (by rw[hj];exact ak ec) rfl λa hq ad h=>?_
 refine s1 h O (al O ad A9 O) λa h=>ae 1 h O λa h=>sC h H f O (λhn f70=>dC call125 (qS f70 (W.hz H.zin) :)) λhn f w X H a h=>?_
 have ad:=At.ext ad X
 refine zS h H 0 aq O3 O3 O2 λw H=>?_
 refine cN k h [4] [_] λh=>?_
 cases f
 refine r1 hr h O (aO H 0 aQ aq O3) ⟨O,H.out⟩
 refine ag<|rg λK k=>ae 2 h O λa h=>sC h H f O (λho f71=>dC call126 (qE f71 (g.hz H.zin) :)) λho f w X H a h=>?_
 refine zS h H 0 aq O3 O3 [_] λw H=>?_
 refine cN k h [4] [_] λh=>?_
 cases f
 refine r1 hr h O (aO H 0 aQ aq O3) ⟨O,H.out⟩
 refine rg λK k=>sB h f O (aH O O) λmu mv f a h=>ae 1 h O λa h=>cz k<|cI h f O (λed f=>?_) λed f=>?_
 exact ag (bp ⟨f,h.to,H,g⟩)
 refine rg λK k=>sB h f O (aH O O) λn0 n2 f a h=>ae 1 h O λa h=>cz k<|cI h f O (λef f=>?_) λef f=>?_
 exact ag (bp ⟨f,h.to,H,g⟩)
 refine rg λK k=>sB h f O (aH O O) λn5 na f a h=>ae 1 h O λa h=>cN k h [1,4,5,21,95] O5 λh=>?_
 refine cI h f O (λei f=>?_) λei f=>?_
 exact ag (bp ⟨f,h.to,H,g⟩)
 refine ah<|sB h f O (aH O O) λnb nk f a h=>ae 1 h O λa h=>am ?_
 exact bp ⟨f,h.to,H,g⟩
 refine rg λK k=>sB h f O (aH O O) λnl nn f a h=>ae 1 h O λa h=>cz k<|cI h f O (λej f=>?_) λej f=>?_
 exact ag (bp ⟨f,h.to,H,g⟩)
 refine rg λK k=>sB h f O (aH O O) λnx o0 f a h=>ae 1 h O λa h=>cz k<|cI h f O (λel f=>?_) λel f=>?_
 exact ag (bp ⟨f,h.to,H,g⟩)
 refine rg λK k=>sB h f O (aH O O) λo2 o5 f a h=>ae 1 h O λa h=>cN k h [1,4,5,21,61] O5 λh=>?_
 refine cI h f O (λeo f=>?_) λeo f=>?_
 exact ag (bp ⟨f,h.to,H,g⟩)
 refine rg λK k=>sB h f O (aH O O) λo9 od f a h=>ae 1 h O λa h=>cz k<|cI h f O (λep f=>?_) λep f=>?_
 exact ag (bp ⟨f,h.to,H,g⟩)
 refine rg λK k=>sB h f O (aH O O) λoh p0 f a h=>ae 1 h O λa h=>cz k<|cI h f O (λer f=>?_) λer f=>?_
 exact ag (bp ⟨f,h.to,H,g⟩)
 refine rg λK k=>sB h f O (aH O O) λp2 p6 f a h=>ae 1 h O λa h=>cz k<|cI h f O (λet f=>?_) λet f=>?_
 exact ag (bp ⟨f,h.to,H,g⟩)
 refine rg λK k=>sB h f O (aH O O) λp7 p8 f a h=>ae 1 h O λa h=>cN k h [1,4,5,21,61] O5 λh=>?_
 refine cI h f O (λeu f=>?_) λeu f=>?_
 exact ag (bp ⟨f,h.to,H,g⟩)
 refine rg λK k=>sB h f O (aH O O) λp9 pa f a h=>ae 1 h O λa h=>cz k<|cI h f O (λew f=>?_) λew f=>?_
 exact ag (bp ⟨f,h.to,H,g⟩)
 refine ah<|sB h f O (aH O O) λpb pe f a h=>ae 1 h O λa h=>am ?_
 exact bp ⟨f,h.to,H,g⟩
 refine rg λK k=>sB h f O (aH O O) λps q0 f a h=>ae 1 h O λa h=>cz k<|cI h f O (λey f=>?_) λey f=>?_
 exact ag (bp ⟨f,h.to,H,g⟩)
 refine rg λK k=>sB h f O (aH O O) λq3 q4 f a h=>ae 1 h O λa h=>cz k<|cI h f O (λez f=>?_) λez f=>?_
 exact ag (bp ⟨f,h.to,H,g⟩)
 refine rg λK k=>sB h f O (aH O O) λht hv f a h=>ae 1 h O λa h=>cN k h [1,4,5,21,22] O5 λh=>?_
 refine cI h f O (λb6 f=>?_) λb6 f=>?_
 exact ag (bp ⟨f,h.to,H,g⟩)
 refine rg λK k=>sB h f O (aH O O) λhx hy f a h=>ae 1 h O λa h=>cz k<|cI h f O (λb7 f=>?_) λb7 f=>?_
 exact ag (bp ⟨f,h.to,H,g⟩)
 refine rg λK k=>sB h f O (aH O O) λhA hB f a h=>ae 1 h O λa h=>cz k<|cI h f O (λbb f=>?_) λbb f=>?_
 exact ag (bp ⟨f,h.to,H,g⟩)
 refine rg λK k=>sB h f O (aH O O) λhD hE f a h=>ae 1 h O λa h=>cz k<|cI h f O (λbk f=>?_) λbk f=>?_
 exact ag (bp ⟨f,h.to,H,g⟩)
 refine rg λK k=>sB h f O (aH O O) λhF hI f a h=>ae 1 h O λa h=>cN k h [1,4,5,21,22] O5 λh=>?_
 refine cI h f O (λbq f=>?_) λbq f=>?_
 exact ag (bp ⟨f,h.to,H,g⟩)
 refine rg λK k=>sB h f O (aH O O) λhJ hK f a h=>ae 1 h O λa h=>cz k<|cI h f O (λbs f=>?_) λbs f=>?_
 exact ag (bp ⟨f,h.to,H,g⟩)
 refine rg λK k=>sB h f O (aH O O) λhL hN f a h=>ae 1 h O λa h=>cz k<|cI h f O (λc6 f=>?_) λc6 f=>?_
 exact ag (bp ⟨f,h.to,H,g⟩)
 refine rg λK k=>sB h f O (aH O O) λhP hQ f a h=>ae 1 h O λa h=>cz k<|cI h f O (λc7 f=>?_) λc7 f=>?_
 exact ag (bp ⟨f,h.to,H,g⟩)
 refine rg λK k=>sB h f O (aH O O) λhR hT f a h=>ae 1 h O λa h=>cN k h [1,4,5,21,22] O5 λh=>?_
 refine cI h f O (λc8 f=>?_) λc8 f=>?_
 exact ag (bp ⟨f,h.to,H,g⟩)
 refine rg λK k=>sB h f O (aH O O) λhU hV f a h=>ae 1 h O λa h=>cz k<|cI h f O (λcc f=>?_) λcc f=>?_
 exact ag (bp ⟨f,h.to,H,g⟩)
 refine ah<|sB h f O (aH O O) λhW hX f a h=>ae 1 h O λa h=>am ?_
 exact bp ⟨f,h.to,H,g⟩
theorem kV{x0:Int}{x1 x2 g:V}{w0:World}(f:eH x0 x1 x2=some g) (hG:GW w0):Calls prog 47 [I x0,(vA x1),(vA x2)].toArray w0 (bj λv w=>v=.agg #[I g.k,I g.n,S g.s]/\Ext w0 w):=by
 refine en func47 [0,1,2] O3 λQ a Zi Z a6 H h u=>?_
 clear a6
 unfold eH at f
 refine rg λK k=>aZ h H O O3 O O λa p1 w X H h=>?_
 have H:HZ w0 _ _ [_] _:=H
 refine aZ h H O O3 O O λa p2 w X H h=>?_
 have H:HZ w0 _ _ O2 _:=H
 refine zA h H eX O3 (λx=>[_,_,x]) λa p3 w X H h=>?_
 refine cz k<|sb ?_
 refine rg λK k=>ae 1 h O λa h=>sB h f O (gI O O) λz5 e5 f a h=>ae 1 h O λa h=>cN k h [0,4,5,6,10] O5 λh=>?_
 refine cI h f O (λa7 f=>?_) λa7 f=>?_
 refine rg λK k=>s1 h O (lA H 0 aQ aq O3) λa h=>s1 h O (lA H 1 aQ aq O3) λa h=>sC h H f O (λy7 f7=>dC call72 (og f7 :)) λy7 f w X H a h=>?_
 refine ae 1 h O λa h=>cN k h [0,6,7] O3 λh=>?_
 refine rg λK k=>ae 1 h O λa h=>sB h f O (aD O O) λz8 e8 f a h=>ae 1 h O λa h=>sB h f O (fN O O) λz9 e9 f a h=>ae 1 h O λa h=>sB h f O (bn O O) λa8 dd f a h=>ae 1 h O λa h=>sB h f O (jX O O) λad dj f a h=>ae 1 h O λa h=>sB h f O (dS O O) λaf dn f a h=>ae 1 h O λa h=>sB h f O (gI O O) λao dv f a h=>s1 h O (aS Ct O6 O6 O O) λa h=>ae 1 h O λa h=>sI h f O (bf O O) λdz e0 f a h=>?_
 obtain⟨b0,f⟩:=ck f
 refine sB h f O (wV [z8,z9,a8,ad,af,ao] underlying131 sizeOf4 isAgg4 O O O b0) λe1 e2 f a h=>sC h H f O (λb1 f17=>dC call17 (bh f17 :)) λb1 f w X H a h=>?_
 refine zS h H 2 aq O3 O3 O3 λw H=>?_
 refine cN k h [6] [_] λh=>?_
 cases f
 refine r1 u h O (aO H 2 aQ aq O3) ⟨O,H.out⟩
 refine rg λK k=>ae 1 h O λa h=>sB h f O (aD O O) λe3 e4 f a h=>ae 1 h O λa h=>cz k<|cI h f O (λE f=>?_) λE f=>?_
 refine nV 6 h λK k=>?_
 refine F1 O (λw X=>have H:=H.ext X;lA H 0 aQ aq O3) ?_
 refine fC f O (λb2 f20 w X=>have H:=H.ext X;dC call73 (ic f20 (hG.ext H.out) :)) λb2 f=>?_
 refine F1 O (λw X=>have H:=H.ext X;lA H 1 aQ aq O3) ?_
 refine fC f O (λb3 f21 w X=>have H:=H.ext X;dC call73 (ic f21 (hG.ext H.out) :)) λb3 f=>?_
 obtain⟨b4,f⟩:=ck f
 refine fS f O (λw X=>cE O O b4) λe6 e7 f=>?_
 refine fC f O (λb5 f24 w X=>dC call16 (bI f24 :)) λb5 f=>?_
 refine fE [6,41] O2 H λa w X H h=>?_
 refine zS h H 2 aq O3 O3 O3 λw H=>?_
 refine cz k ?_
 cases f
 refine r1 u h O (aO H 2 aQ aq O3) ⟨O,H.out⟩
 refine ag<|cO h [0,4,5,6] O4 λh=>?_
 refine nV 6 h λK k=>?_
 refine F1 O (λw X=>have H:=H.ext X;lA H 0 aQ aq O3) ?_
 refine fC f O (λb6 f25 w X=>dC call69 (dD f25 :)) λb6 f=>?_
 refine F1 O (λw X=>have H:=H.ext X;lA H 1 aQ aq O3) ?_
 refine fC f O (λb7 f26 w X=>dC call69 (dD f26 :)) λb7 f=>?_
 refine gu eX O3 O O ?_
 refine gu eX O3 O O ?_
 refine wT ?_
 intro a w X hR hA
 obtain⟨_,⟨ea,rfl,bb⟩,_,⟨eb,rfl,bk⟩,h⟩:=hR.out [0,6,8,9,43,45]
 have h:Fr 97 [(45,_),(43,_),(9,_),(8,_),(6,_),(0,_)] a:=h
 have bq:=hA.zt h (s:=8) rfl rfl
 have bs:=hA.zt h (s:=9) rfl rfl
 have c6:=hA.ne' h (s:=8) (t:=9) rfl rfl rfl rfl rfl
 have H:=H.rO X bb bq bk bs c6
 have H:HZ w0 _ _ O5 _:=H
 refine zS h H 3 aq O3 O3 O5 λw H=>?_
 refine zS h H 4 aq O3 O3 O5 λw H=>?_
 refine cz k<|sq<|rg λK k=>s1 h O (ab O cB O Z3 O O) λa h=>s1 h O (l1 H 3 A3) λa h=>sB h f O (aD O O) λec ed f a h=>cN k h [0,6,8,9,48] O5 λh=>?_
 refine cI h f O (λF f=>?_) λF f=>?_
 refine rg λK k=>s1 h O (lA H 3 aQ aq O3) λa h=>zS h H 2 aq O3 O3 O5 λw H=>?_
 refine cN k h [6] [_] λh=>?_
 cases f
 refine r1 u h O (aO H 2 aQ aq O3) ⟨O,H.out⟩
 refine ag<|sq<|rg λK k=>s1 h O (ab O cB O Z3 O O) λa h=>s1 h O (l1 H 4 A3) λa h=>sB h f O (aD O O) λef ei f a h=>cz k<|cI h f O (λG f=>?_) λG f=>?_
 refine rg λK k=>s1 h O (lA H 4 aQ aq O3) λa h=>zS h H 2 aq O3 O3 O5 λw H=>?_
 refine cN k h [6] [_] λh=>?_
 cases f
 refine r1 u h O (aO H 2 aQ aq O3) ⟨O,H.out⟩
 refine ag<|cO h [0,6,8,9] O4 λh=>?_
 refine sq<|rg λK k=>ae 1 h O λa h=>cz k<|lb<|rg λK k=>sB h f O (aD O O) λej el f a h=>ae 1 h O λa h=>cz k<|cI h f O (λJ f=>?_) λJ f=>?_
 refine rg λK k=>s1 h O (ab O cB O Z2 O O) λa h=>s1 h O (l1 H 3 A2) λa h=>s1 h O (ab O cB O Z2 O O) λa h=>s1 h O (l1 H 4 A2) λa h=>sC h H f O (λc7 f39=>dC call74 (mO f39 :)) λc7 f w X H a h=>?_
 refine ae 2 h O λa h=>sC h H f O (λc8 f40=>dC call70 (bc f40 :)) λc8 f w X H a h=>?_
 refine zS h H 2 aq O3 O3 O5 λw H=>?_
 refine cN k h [6] [_] λh=>?_
 cases f
 refine r1 u h O (aO H 2 aQ aq O3) ⟨O,H.out⟩
 refine rg λK k=>sB h f O (aD O O) λeo ep f a h=>ae 1 h O λa h=>cN k h [6,8,9,54,65] O5 λh=>?_
 refine cI h f O (λW f=>?_) λW f=>?_
 refine rg λK k=>s1 h O (ab O cB O Z2 O O) λa h=>s1 h O (l1 H 3 A2) λa h=>s1 h O (ab O cB O Z2 O O) λa h=>s1 h O (l1 H 4 A2) λa h=>sC h H f O (λcc f43=>dC call75 (pN f43 :)) λcc f w X H a h=>?_
 refine ae 2 h O λa h=>sC h H f O (λch f44=>dC call70 (bc f44 :)) λch f w X H a h=>?_
 refine zS h H 2 aq O3 O3 O5 λw H=>?_
 refine cN k h [6] [_] λh=>?_
 cases f
 refine r1 u h O (aO H 2 aQ aq O3) ⟨O,H.out⟩
 refine rg λK k=>sB h f O (aD O O) λer et f a h=>ae 1 h O λa h=>cz k<|cI h f O (λY f=>?_) λY f=>?_
 refine rg λK k=>s1 h O (ab O cB O Z2 O O) λa h=>s1 h O (l1 H 3 A2) λa h=>s1 h O (ab O cB O Z2 O O) λa h=>s1 h O (l1 H 4 A2) λa h=>sC h H f O (λcp f47=>dC call76 (mY f47 :)) λcp f w X H a h=>?_
 refine ae 2 h O λa h=>sC h H f O (λct f48=>dC call70 (bc f48 :)) λct f w X H a h=>?_
 refine zS h H 2 aq O3 O3 O5 λw H=>?_
 refine cN k h [6] [_] λh=>?_
 cases f
 refine r1 u h O (aO H 2 aQ aq O3) ⟨O,H.out⟩
 refine ag<|cO h [6,8,9] O3 λh=>?_
 refine sq<|rg λK k=>s1 h O (ab O cB O Z2 O O) λa h=>s1 h O (l1 H 4 A2) λa h=>sB h f O (aD O O) λeu ew f a h=>cz k<|cI h f O (λa1 f=>?_) λa1 f=>?_
 refine rg λK k=>sC h H f O (λcx f52=>dC call18 (az f52 :)) λcx f w X H a h=>?_
 refine zS h H 2 aq O3 O3 O5 λw H=>?_
 refine cN k h [6] [_] λh=>?_
 cases f
 refine r1 u h O (aO H 2 aQ aq O3) ⟨O,H.out⟩
 refine ag<|rg λK k=>s1 h O (ab O cB O Z2 O O) λa h=>s1 h O (l1 H 3 A2) λa h=>s1 h O (ab O cB O Z2 O O) λa h=>s1 h O (l1 H 4 A2) λa h=>sC h H f O (λcy f53=>dC call71 (mG f53 :)) λcy f w X H a h=>?_
 refine ae 2 h O λa h=>sC h H f O (λda f54=>dC call70 (bc f54 :)) λda f w X H a h=>?_
 refine zS h H 2 aq O3 O3 O5 λw H=>?_
 refine cN k h [6] [_] λh=>?_
 cases f
 refine r1 u h O (aO H 2 aQ aq O3) ⟨O,H.out⟩
theorem lT{x0:Int}{x1 g:V}{w0:World}(f:dr x0 x1=some g):Calls prog 46 [I x0,(vA x1)].toArray w0 (bj λv w=>v=.agg #[I g.k,I g.n,S g.s]/\Ext w0 w):=by
 refine en func46 [0,1] O2 λQ a Zi Z E H h F=>?_
 clear E
 unfold dr at f
 refine rg λK k=>aZ h H O O3 O O λa p1 w X H h=>?_
 have H:HZ w0 _ _ [_] _:=H
 refine zA h H eX O3 (λx=>[_,x]) λa p2 w X H h=>?_
 refine cz k<|rg λK k=>s1 h O (lA H 0 aQ aq O3) λa h=>sC h H f O (λy3 f3=>dC call69 (dD f3 :)) λy3 f w X H a h=>?_
 refine zA h H eX O3 (λx=>[_,_,x]) λa p4 w X H h=>?_
 refine zS h H 2 aq O3 O3 O3 λw H=>?_
 refine cN k h [0,4,5] O3 λh=>?_
 refine sq<|rg λK k=>s1 h O (ab O cB O Z3 O O) λa h=>s1 h O (l1 H 2 A3) λa h=>sB h f O (aD O O) λz6 e6 f a h=>cz k<|cI h f O (λG f=>?_) λG f=>?_
 refine rg λK k=>s1 h O (lA H 2 aQ aq O3) λa h=>zS h H 1 aq O3 O3 O3 λw H=>?_
 refine cN k h [4] [_] λh=>?_
 cases f
 refine r1 F h O (aO H 1 aQ aq O3) ⟨O,H.out⟩
 refine ag<|sq<|rg λK k=>ae 1 h O λa h=>sB h f O (aD O O) λz9 e9 f a h=>cN k h [4,5,13] O3 λh=>?_
 refine cI h f O (λu f=>?_) λu f=>?_
 refine rg λK k=>s1 h O (ab O cB O Z2 O O) λa h=>s1 h O (l1 H 2 A2) λa h=>sI h f O (lw O) λa1 a6 f a h=>sC h H f O (λJ f12=>dC call14 (bH f12 :)) λJ f w X H a h=>?_
 refine zS h H 1 aq O3 O3 O3 λw H=>?_
 refine cN k h [4] [_] λh=>?_
 cases f
 refine r1 F h O (aO H 1 aQ aq O3) ⟨O,H.out⟩
 refine ag<|rg λK k=>s1 h O (ab O cB O Z2 O O) λa h=>s1 h O (l1 H 2 A2) λa h=>sC h H f O (λW f13=>dC call71 (mG f13 :)) λW f w X H a h=>?_
 refine ae 2 h O λa h=>sC h H f O (λY f14=>dC call70 (bc f14 :)) λY f w X H a h=>?_
 refine zS h H 1 aq O3 O3 O3 λw H=>?_
 refine cN k h [4] [_] λh=>?_
 cases f
 refine r1 F h O (aO H 1 aQ aq O3) ⟨O,H.out⟩
theorem pL{x0:Int}{g:Bool}{w0:World}(f:fk x0=some g) (hG:GW w0):Calls prog 79 [I x0].toArray w0 (bj λv w=>v=.bool g/\Ext w0 w):=by
 refine en func79 [0] [_] λQ a Zi Z a6 H h hr=>?_
 clear a6
 unfold fk at f
 refine rg λK k=>ae 1 h O λa h=>cz k<|sq<|rg λK k=>ae 1 h O λa h=>sC h H f O (λy2 f2=>dC call63 (kJ f2 (hG.ext H.out) :)) λy2 f w X H a h=>?_
 refine cz k<|lb ?_
 obtain⟨J5,a7,f⟩:=bv f
 refine dA (λa w=>∃(Z:FZ) (s5:Bool),J5 s5=some g/\Fr 16 [(5,.bool s5)] a/\HZ w0 Zi Z [] w) ?_ ?_
 rintro a w ⟨Z,s5,f,h,H⟩
 subst a7
 refine cI h f O (λa8 f=>?_) λa8 f=>?_
 refine rg λK k=>ae 1 h O λa h=>cz k ?_
 cases f
 refine r1 hr h O O ⟨O,H.out⟩
 refine ag<|rg λK k=>ae 1 h O λa h=>cz k ?_
 cases f
 refine r1 hr h O O ⟨O,H.out⟩
 refine rg λK k=>sB h f O (aH O O) λz7 e7 f a h=>ae 1 h O λa h=>cN k h [4,5] O2 λh=>?_
 refine cI h f O (λad f=>?_) λad f=>?_
 exact ag (bp ⟨f,h.to,H⟩)
 refine rg λK k=>sB h f O (aH O O) λz9 e9 f a h=>ae 1 h O λa h=>cz k<|cI h f O (λu f=>?_) λu f=>?_
 exact ag (bp ⟨f,h.to,H⟩)
 refine rg λK k=>sB h f O (aH O O) λaf ao f a h=>ae 1 h O λa h=>cz k<|cI h f O (λE f=>?_) λE f=>?_
 exact ag (bp ⟨f,h.to,H⟩)
 refine rg λK k=>sB h f O (aH O O) λb0 b1 f a h=>ae 1 h O λa h=>cz k<|cI h f O (λF f=>?_) λF f=>?_
 exact ag (bp ⟨f,h.to,H⟩)
 refine rg λK k=>sB h f O (aH O O) λb2 b3 f a h=>ae 1 h O λa h=>cN k h [4,5] O2 λh=>?_
 refine cI h f O (λG f=>?_) λG f=>?_
 exact ag (bp ⟨f,h.to,H⟩)
 refine rg λK k=>sB h f O (aH O O) λb4 b5 f a h=>ae 1 h O λa h=>cz k<|cI h f O (λJ f=>?_) λJ f=>?_
 exact ag (bp ⟨f,h.to,H⟩)
 refine rg λK k=>sB h f O (aH O O) λb6 b7 f a h=>ae 1 h O λa h=>cz k<|cI h f O (λW f=>?_) λW f=>?_
 exact ag (bp ⟨f,h.to,H⟩)
 refine rg λK k=>sB h f O (aH O O) λbb bk f a h=>ae 1 h O λa h=>cz k<|cI h f O (λY f=>?_) λY f=>?_
 exact ag (bp ⟨f,h.to,H⟩)
 refine rg λK k=>sB h f O (aH O O) λbq bs f a h=>ae 1 h O λa h=>cN k h [4,5] O2 λh=>?_
 refine cI h f O (λa1 f=>?_) λa1 f=>?_
 exact ag (bp ⟨f,h.to,H⟩)
 refine ah<|sB h f O (aH O O) λc6 c7 f a h=>ae 1 h O λa h=>am ?_
 exact bp ⟨f,h.to,H⟩
end Go.Proofs.YtnllbjchcfpmpaaGreatDoor
