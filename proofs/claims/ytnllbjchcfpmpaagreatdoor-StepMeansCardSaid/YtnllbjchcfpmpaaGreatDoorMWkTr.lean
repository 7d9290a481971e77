/- Joined texts. -/
import Derived.Test.YtnllbjchcfpmpaaGreatDoorMFT
import Derived.Test.YtnllbjchcfpmpaaGreatDoorMWkEv
set_option linter.all false
namespace Go.Proofs.YtnllbjchcfpmpaaGreatDoor
open Go.Stp Go.RowKit Go.ValP Go.Sp _root_.Go.Proofs.Tryz
set_option maxRecDepth 100000
theorem ia{x0:C}{u:Bool}{w0:World}(f:fg x0=some u):Calls prog 91 [(cA x0)].toArray w0 (bj λv w=>v=.bool u/\Ext w0 w):=by
 refine en func91 [0] [_] λQ a Zi Z E H h G=>?_
 clear E
 unfold fg at f
 refine rg λK k=>aZ h H O O3 O O λa p1 w X H h=>?_
 have H:HZ w0 _ _ [_] _:=H
 refine ae 1 h O λa h=>cz k<|rg λK k=>s1 h O (ab O gH O Z3 O O) λa h=>s1 h O (l1 H 0 A3) λa h=>sB h f O (gI O O) λz2 e2 f a h=>ae 1 h O λa h=>ai h O O (gT O) O O (λg=>ab O gH O Z3 O O) λa h=>?_
 refine ai h O O (gT O) O O (λg=>aE (eg g O) A3 (H.hp.get 0 O) O) λa h=>?_
 obtain⟨z3,J,f⟩:=bv f
 refine ai h O O (gT O) O O (λg=>vB J (bn (eg g O) O)) λa h=>?_
 refine sB h f O (bK O O) λz4 e4 f a h=>ae 1 h O λa h=>ai h O O (gT O) O O (λg=>ab O gH O Z3 O O) λa h=>?_
 refine ai h O O (gT O) O O (λg=>aE (eg g O) A3 (H.hp.get 0 O) O) λa h=>?_
 obtain⟨z5,W,f⟩:=bv f
 refine ai h O O (gT O) O O (λg=>vB W (gI (eg g O) O)) λa h=>?_
 refine sB h f O (bK O O) λz6 e6 f a h=>ae 1 h O λa h=>ai h O O (gT O) O O (λg=>ab O gH O Z3 O O) λa h=>?_
 refine ai h O O (gT O) O O (λg=>aE (eg g O) A3 (H.hp.get 0 O) O) λa h=>?_
 obtain⟨z7,Y,f⟩:=bv f
 refine ai h O O (gT O) O O (λg=>vB Y (bn (eg g O) O)) λa h=>?_
 refine sB h f O (bK O O) λz8 e8 f a h=>ae 1 h O λa h=>ai h O O (gT O) O O (λg=>ab O gH O Z3 O O) λa h=>?_
 refine ai h O O (gT O) O O (λg=>aE (eg g O) A3 (H.hp.get 0 O) O) λa h=>?_
 obtain⟨z9,e9,f⟩:=bv f
 refine ai h O O (gT O) O O (λg=>vB e9 (gI (eg g O) O)) λa h=>?_
 refine sB h f O (bK O O) λa1 a6 f a h=>ae 1 h O λa h=>ai h O O (gT O) O O (λg=>ab O gH O Z3 O O) λa h=>?_
 refine ai h O O (gT O) O O (λg=>aE (eg g O) A3 (H.hp.get 0 O) O) λa h=>?_
 obtain⟨a7,F,f⟩:=bv f
 refine ai h O O (gT O) O O (λg=>vB F (bn (eg g O) O)) λa h=>?_
 refine sB h f O (bK O O) λa8 ad f a h=>ae 1 h O λa h=>cN k h [2] [_] λh=>?_
 cases f
 refine r1 G h O O ⟨O,H.out⟩
theorem sy{x0:Nd}{F:Bool}{w0:World}(f:eO x0=some F){E:Value}(u:bi (hz w0) E aj x0.l) (hG:GW w0):Calls prog 52 [(nA x0 E)].toArray w0 (bj λv w=>v=.bool F/\Ext w0 w):=by
 refine en func52 [0] [_] λQ a Zi Z J H h G=>?_
 have u:=u.sub J
 clear J
 unfold eO at f
 refine rg λK k=>aZ h H O aA O O λa p1 w X H h=>?_
 have H:HZ w0 _ _ [_] _:=H
 refine ae 1 h O λa h=>cz k<|sq<|rg λK k=>s1 h O (ab O cD O Z3 O O) λa h=>s1 h O (l1 H 0 A3) λa h=>cz k<|lb ?_
 obtain⟨J5,ad,f⟩:=bv f
 refine dA (λa w=>∃(Z:FZ) (s5:Bool),J5 s5=some F/\Fr 99 [(1,(pt p1)),(4,I x0.k),(5,.bool s5)] a/\HZ w0 Zi Z [.blk p1 (aB (nL x0 E) 34)] w/\bi Z E aj x0.l) ?_ ?_
 rintro a w ⟨Z,s5,f,h,H,u⟩
 subst ad
 refine cI h f O (λaf f=>?_) λaf f=>?_
 refine rg λK k=>s1 h O (ab O cD O hO O O) λa h=>s1 h O (l1 H 0 iO) λa h=>s1 h O (cd dZ O u H.zin) λa h=>sB h f O (aD O O) λz7 e7 f a h=>ae 1 h O λa h=>cN k h [2] [_] λh=>?_
 cases f
 refine r1 G h O O ⟨O,H.out⟩
 refine rg λK k=>sB h f O (aD O O) λz8 e8 f a h=>ae 1 h O λa h=>cz k<|cI h f O (λao f=>?_) λao f=>?_
 refine rg λK k=>s1 h O (ab O cD O hO O O) λa h=>s1 h O (l1 H 0 iO) λa h=>s1 h O (cd dZ O u H.zin) λa h=>sB h f O (aD O O) λbb bk f a h=>ae 1 h O λa h=>ai h O O (gT O) O O (λg=>ab O cD O Z3 O O) λa h=>?_
 refine ai h O O (gT O) O O (λg=>aE (eg g O) A3 (H.hp.get 0 O) O) λa h=>?_
 obtain⟨bq,b0,f⟩:=bv f
 refine ai h O O (gT O) O O (λg=>vB b0 (gI (eg g O) O)) λa h=>?_
 refine sB h f O (bK O O) λbs c6 f a h=>ae 1 h O λa h=>ai h O O (gT O) O O (λg=>ab O cD O Z3 O O) λa h=>?_
 refine ai h O O (gT O) O O (λg=>aE (eg g O) A3 (H.hp.get 0 O) O) λa h=>?_
 obtain⟨c7,b1,f⟩:=bv f
 refine ai h O O (gT O) O O (λg=>vB b1 (jX (eg g O) O)) λa h=>?_
 refine sB h f O (bK O O) λc8 cc f a h=>ae 1 h O λa h=>cN k h [2] [_] λh=>?_
 cases f
 refine r1 G h O O ⟨O,H.out⟩
 refine rg λK k=>sB h f O (aD O O) λch cp f a h=>ae 1 h O λa h=>cN k h [1,4,28] O3 λh=>?_
 refine cI h f O (λW f=>?_) λW f=>?_
 refine rg λK k=>s1 h O (ab O cD O Z3 O O) λa h=>s1 h O (l1 H 0 A3) λa h=>s1 h O (ab O cD O hO O O) λa h=>s1 h O (l1 H 0 iO) λa h=>s1 h O (cd dZ O u H.zin) λa h=>sC h H f O (λb2 f17=>dC call24 (iZ f17 (hG.ext H.out) :)) λb2 f w X H a h=>?_
 refine ae 1 h O λa h=>cN k h [2] [_] λh=>?_
 cases f
 refine r1 G h O O ⟨O,H.out⟩
 refine rg λK k=>sB h f O (aD O O) λct cx f a h=>ae 1 h O λa h=>cz k<|cI h f O (λY f=>?_) λY f=>?_
 refine rg λK k=>s1 h O (ab O cD O hO O O) λa h=>s1 h O (l1 H 0 iO) λa h=>s1 h O (cd dZ O u H.zin) λa h=>sB h f O (aD O O) λcy da f a h=>ae 1 h O λa h=>ai h O O (gT O) O O (λg=>ab O cD O aq O O) λa h=>?_
 refine ai h O O (gT O) O O (λg=>dL O3 (eg g O) aQ aq (H.hp.get 0 O) O O) λa h=>?_
 obtain⟨b3,f21,f⟩:=bo f
 refine mh (T:=Ext) (V:=.bool b3) h O O (gT O) O O (Ext.refl _) (λg=>fM [_] (fp (eg g O) iH) call26 (lP (x0:=x0.v) (uL g f21))) λw X a h=>?_
 have H:=H.ext X
 refine sB h f O (bK O O) λdd dj f a h=>ae 1 h O λa h=>cN k h [2] [_] λh=>?_
 cases f
 refine r1 G h O O ⟨O,H.out⟩
 refine rg λK k=>sB h f O (aD O O) λdn dv f a h=>ae 1 h O λa h=>cN k h [1,4,47] O3 λh=>?_
 refine cI h f O (λa1 f=>?_) λa1 f=>?_
 refine rg λK k=>s1 h O (ab O cD O hO O O) λa h=>s1 h O (l1 H 0 iO) λa h=>s1 h O (cd dZ O u H.zin) λa h=>sB h f O (aD O O) λdz e1 f a h=>ae 1 h O λa h=>ai h O O (gT O) O O (λg=>ab O cD O iR O O) λa h=>?_
 refine ai h O O (gT O) O O (λg=>ab (eg g O) lF O dm O O) λa h=>?_
 refine ai h O O (gT O) O O (λg=>dL O3 (eg g O) iT dm (H.hp.get 0 O) O O) λa h=>?_
 obtain⟨b4,f26,f⟩:=bo f
 refine mh (T:=Ext) (V:=.bool b4) h O O (gT O) O O (Ext.refl _) (λg=>fM [_] (fp (eg g O) iH) call91 (ia (x0:=x0.a.c) (uL g f26))) λw X a h=>?_
 have H:=H.ext X
 refine sB h f O (bK O O) λe2 e3 f a h=>ae 1 h O λa h=>cN k h [2] [_] λh=>?_
 cases f
 refine r1 G h O O ⟨O,H.out⟩
 refine rg λK k=>sB h f O (aD O O) λe4 e5 f a h=>ae 1 h O λa h=>cz k<|cI h f O (λa6 f=>?_) λa6 f=>?_
 refine rg λK k=>s1 h O (ab O cD O hO O O) λa h=>s1 h O (l1 H 0 iO) λa h=>s1 h O (cd dZ O u H.zin) λa h=>sB h f O (aD O O) λe6 e9 f a h=>ae 1 h O λa h=>ai h O O (gT O) O O (λg=>ab O cD O iR O O) λa h=>?_
 refine ai h O O (gT O) O O (λg=>ab (eg g O) lF O dm O O) λa h=>?_
 refine ai h O O (gT O) O O (λg=>dL O3 (eg g O) iT dm (H.hp.get 0 O) O O) λa h=>?_
 obtain⟨b5,f31,f⟩:=bo f
 refine mh (T:=Ext) (V:=.bool b5) h O O (gT O) O O (Ext.refl _) (λg=>fM [_] (fp (eg g O) iH) call91 (ia (x0:=x0.a.c) (uL g f31))) λw X a h=>?_
 have H:=H.ext X
 refine sB h f O (bK O O) λea eb f a h=>ae 1 h O λa h=>ai h O O (gT O) O O (λg=>ab O cD O iR O O) λa h=>?_
 refine ai h O O (gT O) O O (λg=>ab (eg g O) lF O dm O O) λa h=>?_
 refine ai h O O (gT O) O O (λg=>dL O3 (eg g O) iT dm (H.hp.get 0 O) O O) λa h=>?_
 obtain⟨b6,f33,f⟩:=bo f
 refine mh (T:=Ext) (V:=.bool b6) h O O (gT O) O O (Ext.refl _) (λg=>fM [_] (fp (eg g O) iH) call91 (ia (x0:=x0.b.c) (uL g f33))) λw X a h=>?_
 have H:=H.ext X
 refine sB h f O (bK O O) λec ed f a h=>ae 1 h O λa h=>ai h O O (gT O) O O (λg=>ab O cD O iR O O) λa h=>?_
 refine ai h O O (gT O) O O (λg=>ab (eg g O) lF O dm O O) λa h=>?_
 refine ai h O O (gT O) O O (λg=>ab (eg g O) gH O Z3 O O) λa h=>?_
 refine ai h O O (gT O) O O (λg=>aE (eg g O) A3 (H.hp.get 0 O) O) λa h=>?_
 refine ai h O O (gT O) O O (λg=>ab O cD O iR O O) λa h=>?_
 refine ai h O O (gT O) O O (λg=>ab (eg g O) lF O dm O O) λa h=>?_
 refine ai h O O (gT O) O O (λg=>ab (eg g O) gH O Z3 O O) λa h=>?_
 refine ai h O O (gT O) O O (λg=>aE (eg g O) A3 (H.hp.get 0 O) O) λa h=>?_
 obtain⟨ef,b7,f⟩:=bv f
 refine ai h O O (gT O) O O (λg=>vB b7 (aD (eg g O) (eg g O))) λa h=>?_
 refine sB h f O (bK O O) λei ej f a h=>ae 1 h O λa h=>cN k h [2] [_] λh=>?_
 cases f
 refine r1 G h O O ⟨O,H.out⟩
 refine rg λK k=>sB h f O (aD O O) λel eo f a h=>ae 1 h O λa h=>cN k h [1,88] O2 λh=>?_
 refine cI h f O (λa7 f=>?_) λa7 f=>?_
 exact nomatch f
 refine ag<|rg λK k=>ae 1 h O λa h=>cz k ?_
 cases f
 refine r1 G h O O ⟨O,H.out⟩
 refine rg λK k=>sB h f O (aD O O) λep er f a h=>ae 1 h O λa h=>cN k h [1,4,5] O3 λh=>?_
 refine cI h f O (λa8 f=>?_) λa8 f=>?_
 exact ag (bp ⟨f,h.to,H,u⟩)
 refine ah<|sB h f O (aD O O) λet eu f a h=>ae 1 h O λa h=>am ?_
 exact bp ⟨f,h.to,H,u⟩
theorem oO{rec:Nd->Int->Option (Bool)}(ad:∀{x0:Nd}{x1:Int}{F:Bool}{w0:World}(f:rec x0 x1=some F){Z:FZ}(hZ:Z.inn w0){g:Value}(E:bi Z g aj x0.l) (hG:GW w0),Calls prog 33 [(nA x0 g),I x1].toArray w0 (bj λv w=>v=.bool F/\Ext w0 w)){x0:Nd}{x1:Int}{F:Bool}{w0:World}(f:gy rec x0 x1=some F){Z:FZ}(hZ:Z.inn w0){g:Value}(E:bi Z g aj x0.l) (hG:GW w0):Calls prog 33 [(nA x0 g),I x1].toArray w0 (bj λv w=>v=.bool F/\Ext w0 w):=by
 refine o6 hZ func33 [0,1] O2 λQ a Zi af H h hr=>?_
 try rw[<-af]at hr
 clear af
 unfold gy at f
 refine rg λK k=>aZ h H O aA O O λa p1 w X H h=>?_
 have H:HZ w0 _ _ [_] _:=H
 refine ae 1 h O λa h=>cz k<|sq<|rg λK k=>ae 1 h O λa h=>sB h f O (aD O O) λz3 e3 f a h=>ae 1 h O λa h=>ai h O O (gF O) O O (λe0=>lA H 0 bQ aL aA) λa h=>?_
 obtain⟨y4,f4,f⟩:=bo f
 refine mh (T:=Ext) (V:=.bool y4) h O O (gF O) O O (Ext.refl _) (λe0=>fM [_] (fp (eg e0 O) iH) call52 (sy (x0:=x0) (uL e0 f4) (E.hz H.zin) (hG.ext H.out))) λw X a h=>?_
 have H:=H.ext X
 obtain⟨z5,e5,f⟩:=bv f
 refine ai h O O (gF O) O O (λe0=>vB e5 (dI (eg e0 O))) λa h=>?_
 refine sB h f O (ca O O) λz6 e6 f a h=>cN k h [1,2,13] O3 λh=>?_
 refine cI h f O (λb5 f=>?_) λb5 f=>?_
 refine rg λK k=>ae 1 h O λa h=>cz k ?_
 cases f
 refine r1 hr h O O ⟨O,H.out⟩
 refine ag ?_
 obtain⟨J9,b6,f⟩:=bv f
 refine dA (λa w=>∃(Z:FZ) (s9:Unit),J9 s9=some F/\Fr 27 [] a/\HZ w0 Zi Z [.blk p1 (aB (nL x0 g) 34)] w/\bi Z g aj x0.l) ?_ ?_
 rintro a w ⟨Z,s9,f,h,H,E⟩
 subst b6
 refine rg λK k=>ae 1 h O λa h=>cz k ?_
 cases f
 refine r1 hr h O O ⟨O,H.out⟩
 refine rg λK k=>s1 h O (ab O cD O hO O O) λa h=>s1 h O (l1 H 0 iO) λa h=>s1 h O (cd dZ O E H.zin) λa h=>ae 1 h O λa h=>cz k<|lb ?_
 obtain⟨b7,ao,f⟩:=bv f
 refine ib (λY a w=>∃(Z:FZ) (J:Int),loopF b7 Y J=some F/\Fr 27 [(1,I x1),(15,g),(16,I (x0.l.length:Int)),(17,I J)] a/\HZ w0 Zi Z [.blk p1 (aB (nL x0 g) 34)] w/\bi Z g aj x0.l) KK ⟨_,_,f,h.to,H,E⟩ ?_
 rintro Y a w ⟨Z,J,f,h,H,E⟩
 obtain⟨Y,rfl,bs,b0,f⟩:=iJ ao f
 refine rg λK k=>sB h f O (bn O O) λc6 c7 f a h=>cz k<|sq<|cI h f O (λb1 f=>?_) λb1 f=>?_
 refine ag<|sb ?_
 refine rg λK k=>?_
 obtain⟨b2,f⟩:=ck f
 obtain⟨c8,bb,f⟩:=bv f
 have G:=E.gel ⟨_,aC⟩ J
 rw[<-bb]at G
 obtain⟨b4,bk,a1,a6,G⟩:=G
 obtain⟨a8,W,u⟩:=bd G
 refine bJ h dZ aL O O (a1.at H.zin) b2.1 (a6 b2) W O λa cc a7 h=>?_
 refine s1 h O (ay aA O a7 bQ aL O O) λa h=>zA h H iS aA (λx=>[_,x]) λa ch w X H h=>?_
 have a7:=At.ext a7 X
 refine ap h H 1 O O O aL aA O O (by obtain⟨_,_,_,e_⟩:=(u).form;subst e_;rfl) (by simp) aA rfl (hl':=O2) rfl λw H=>?_
 refine cz k<|rg λK k=>s1 h O (lA H 1 bQ aL aA) λa h=>ae 1 h O λa h=>sI h f O (bf O O) λcp ct f a h=>?_
 obtain⟨bq,f22,f⟩:=bo f
 refine d_ (T:=Ext) (V:=.bool bq) h O O O (dC call33 (ad f22 H.zin u (hG.ext H.out))) λw X a h=>?_
 have H:=H.ext X
 refine sB h f O (dI O) λcx cy f a h=>cN k h [1,15,16,17,25] O5 λh=>?_
 refine cI h f O (λb3 f=>?_) λb3 f=>?_
 refine rg λK k=>ae 1 h O λa h=>cN k h [4] [_] λh=>?_
 cases f
 refine r1 hr h O O ⟨O,H.out⟩
 refine ag<|ah<|sI h f O (aw O O) λda dd f a h=>ae 1 h O λa h=>am ?_
 exact fK (bp ⟨fq b0 f,h.to,(H.cT 1 O),E⟩)
 exact aR (tH ⟨f,h.to,H,E⟩)
theorem qz(k:Nat):∀{x0:Nd}{u:Int}{f:Bool}{w0:World}(E:gP k x0 u=some f){Z:FZ}(H:Z.inn w0){g:Value}(F:bi Z g aj x0.l) (J:GW w0),Calls prog 33 [(nA x0 g),I u].toArray w0 (bj λv w=>v=.bool f/\Ext w0 w):=by
 induction k with
 |zero=>intro x0 u f w0 E;exact nomatch (show(none:Option (Bool))=some f from E)
 |succ k G=>exact @oO (gP k) @G
theorem qD{x0:Nd}{g:Bool}{w0:World}(F:jh x0=some g){u:Value}(f:bi (hz w0) u aj x0.l) (G:GW w0):Calls prog 9 [(nA x0 u)].toArray w0 (bj λv w=>v=.bool g/\Ext w0 w):=by
 refine en func9 [0] [_] λQ a Zi Z E H h J=>?_
 have f:=f.sub E
 clear E
 unfold jh at F
 refine rg λK k=>aZ h H O aA O O λa Y w X H h=>?_
 have H:HZ w0 _ _ [_] _:=H
 refine ae 1 h O λa h=>cz k<|rg λK k=>s1 h O (lA H 0 bQ aL aA) λa h=>?_
 obtain⟨W,f2,F⟩:=bo F
 refine d_ (T:=Ext) (V:=.bool W) h O O O (dC call33 (qz KK f2 H.zin f (G.ext H.out))) λw X a h=>?_
 have H:=H.ext X
 refine ae 1 h O λa h=>cN k h [2] [_] λh=>?_
 cases F
 refine r1 J h O O ⟨O,H.out⟩
theorem pu{rec:Nd->Option (Int)}(a8:∀{x0:Nd}{F:Int}{w0:World}(f:rec x0=some F){Z:FZ}(hZ:Z.inn w0){g:Value}(E:bi Z g aj x0.l) (hG:GW w0),Calls prog 31 [(nA x0 g)].toArray w0 (bj λv w=>v=I F/\Ext w0 w)){x0:Nd}{F:Int}{w0:World}(f:iB rec x0=some F){Z:FZ}(hZ:Z.inn w0){g:Value}(E:bi Z g aj x0.l) (hG:GW w0):Calls prog 31 [(nA x0 g)].toArray w0 (bj λv w=>v=I F/\Ext w0 w):=by
 refine o6 hZ func31 [0] [_] λQ a Zi ad H h hr=>?_
 try rw[<-ad]at hr
 clear ad
 unfold iB at f
 refine rg λK k=>aZ h H O aA O O λa p1 w X H h=>?_
 have H:HZ w0 _ _ [_] _:=H
 refine ae 1 h O λa h=>cz k<|rg λK k=>ae 1 h O λa h=>cz k ?_
 obtain⟨J3,b0,f⟩:=bv f
 refine dA (λa w=>∃(Z:FZ) (s3:Int),J3 s3=some F/\Fr 19 [(3,I s3)] a/\HZ w0 Zi Z [.blk p1 (aB (nL x0 g) 34)] w/\bi Z g aj x0.l) ?_ ?_
 rintro a w ⟨Z,s3,f,h,H,E⟩
 subst b0
 refine rg λK k=>ae 2 h O λa h=>cz k ?_
 cases f
 refine r1 hr h O O ⟨O,H.out⟩
 refine rg λK k=>s1 h O (ab O cD O hO O O) λa h=>s1 h O (l1 H 0 iO) λa h=>s1 h O (cd dZ O E H.zin) λa h=>ae 1 h O λa h=>cN k h [3,7,8,9] O4 λh=>?_
 refine lb ?_
 obtain⟨B5,b1,f⟩:=bv f
 refine ib (λW a w=>∃(Z:FZ) (s5:Int × Int),loopF B5 W s5=some F/\Fr 19 [(3,I s5.1),(7,g),(8,I (x0.l.length:Int)),(9,I s5.2)] a/\HZ w0 Zi Z [.blk p1 (aB (nL x0 g) 34)] w/\bi Z g aj x0.l) KK ⟨_,_,f,h.to,H,E⟩ ?_
 rintro W a w ⟨Z,s5,f,h,H,E⟩
 obtain⟨W,rfl,n5,b2,f⟩:=iJ b1 f
 refine rg λK k=>sB h f O (bn O O) λz7 e7 f a h=>cz k<|sq<|cI h f O (λb3 f=>?_) λb3 f=>?_
 refine ag<|sb ?_
 refine rg λK k=>?_
 obtain⟨af,f⟩:=ck f
 obtain⟨b7,b4,f⟩:=bv f
 have G:=E.gel ⟨_,aC⟩ s5.2
 rw[<-b4]at G
 obtain⟨ao,b5,Y,a1,G⟩:=G
 obtain⟨a7,J,u⟩:=bd G
 refine bJ h dZ aL O O (Y.at H.zin) af.1 (a1 af) J O λa bb a6 h=>?_
 refine s1 h O (ay aA O a6 bQ aL O O) λa h=>zA h H iS aA (λx=>[_,x]) λa bk w X H h=>?_
 have a6:=At.ext a6 X
 refine ap h H 1 O O O aL aA O O (by obtain⟨_,_,_,e_⟩:=(u).form;subst e_;rfl) (by simp) aA rfl (hl':=O2) rfl λw H=>?_
 refine cz k<|ah<|ae 1 h O λa h=>s1 h O (lA H 1 bQ aL aA) λa h=>?_
 obtain⟨b6,f15,f⟩:=bo f
 refine d_ (T:=Ext) (V:=I b6) h O O O (dC call31 (a8 f15 H.zin u (hG.ext H.out))) λw X a h=>?_
 have H:=H.ext X
 refine sI h f O (aw O O) λbq bs f a h=>ae 1 h O λa h=>am<|cO h [3,7,8,9] O4 λh=>?_
 refine ah<|sI h f O (aw O O) λc6 c7 f a h=>ae 1 h O λa h=>am ?_
 exact fK (bp ⟨fq b2 f,h.to,(H.cT 1 O),E⟩)
 exact aR (bp ⟨f,h.to,H,E⟩)
theorem sX(k:Nat):∀{x0:Nd}{f:Int}{w0:World}(u:gQ k x0=some f){Z:FZ}(G:Z.inn w0){g:Value}(E:bi Z g aj x0.l) (H:GW w0),Calls prog 31 [(nA x0 g)].toArray w0 (bj λv w=>v=I f/\Ext w0 w):=by
 induction k with
 |zero=>intro x0 f w0 u;exact nomatch (show(none:Option (Int))=some f from u)
 |succ k F=>exact @pu (gQ k) @F
theorem qu{rec:Nd->Nd->Option (Bool)}(b5:∀{x0:Nd}{x1:Nd}{Y:Bool}{w0:World}(f:rec x0 x1=some Y){Z:FZ}(hZ:Z.inn w0){F:Value}(G:bi Z F aj x0.l){J:Value}(W:bi Z J aj x1.l) (hG:GW w0),Calls prog 10 [(nA x0 F),(nA x1 J)].toArray w0 (bj λv w=>v=.bool Y/\Ext w0 w)){x0:Nd}{x1:Nd}{Y:Bool}{w0:World}(f:iC rec x0 x1=some Y){Z:FZ}(hZ:Z.inn w0){F:Value}(G:bi Z F aj x0.l){J:Value}(W:bi Z J aj x1.l) (hG:GW w0):Calls prog 10 [(nA x0 F),(nA x1 J)].toArray w0 (bj λv w=>v=.bool Y/\Ext w0 w):=by
 refine o6 hZ func10 [0,1] O2 λQ a Zi b6 H h hr=>?_
 try rw[<-b6]at hr
 clear b6
 unfold iC at f
 refine rg λK k=>aZ h H O aA O O λa p1 w X H h=>?_
 have H:HZ w0 _ _ [_] _:=H
 refine aZ h H O aA O O λa p2 w X H h=>?_
 have H:HZ w0 _ _ O2 _:=H
 refine ae 1 h O λa h=>cz k<|sq<|rg λK k=>s1 h O (ab O cD O Z3 O O) λa h=>s1 h O (l1 H 0 A3) λa h=>s1 h O (ab O cD O Z3 O O) λa h=>s1 h O (l1 H 1 A3) λa h=>sB h f O (fN O O) λz4 e4 f a h=>ae 1 h O λa h=>ai h O O (gF O) O O (λg=>ab O cD O Z3 O O) λa h=>?_
 refine ai h O O (gF O) O O (λg=>aE (eg g O) A3 (H.hp.get 0 O) O) λa h=>?_
 refine ai h O O (gF O) O O (λg=>ab O cD O Z3 O O) λa h=>?_
 refine ai h O O (gF O) O O (λg=>aE (eg g O) A3 (H.hp.get 1 O) O) λa h=>?_
 obtain⟨z5,e5,f⟩:=bv f
 refine ai h O O (gF O) O O (λg=>vB e5 (fN (eg g O) (eg g O))) λa h=>?_
 refine sB h f O (ca O O) λz6 e6 f a h=>ae 1 h O λa h=>ai h O O (gF O) O O (λg=>ab O cD O aq O O) λa h=>?_
 refine ai h O O (gF O) O O (λg=>dL O3 (eg g O) aQ aq (H.hp.get 0 O) O O) λa h=>?_
 refine ai h O O (gF O) O O (λg=>ab O cD O aq O O) λa h=>?_
 refine ai h O O (gF O) O O (λg=>dL O3 (eg g O) aQ aq (H.hp.get 1 O) O O) λa h=>?_
 obtain⟨z7,e7,f⟩:=bv f
 refine ai h O O (gF O) O O (λg=>vB e7 (lV (eg g O) (eg g O) vR (wn _ _ _ _ _ _))) λa h=>?_
 refine sB h f O (ca O O) λz8 e8 f a h=>ae 1 h O λa h=>ai h O O (gF O) O O (λg=>ab O cD O iR O O) λa h=>?_
 refine ai h O O (gF O) O O (λg=>dL O5 (eg g O) mP iR (H.hp.get 0 O) O O) λa h=>?_
 refine ai h O O (gF O) O O (λg=>ab O cD O iR O O) λa h=>?_
 refine ai h O O (gF O) O O (λg=>dL O5 (eg g O) mP iR (H.hp.get 1 O) O O) λa h=>?_
 obtain⟨z9,e9,f⟩:=bv f
 refine ai h O O (gF O) O O (λg=>vB e9 (lV (eg g O) (eg g O) Ca (Cg _ _ _ _ _ _ _ _ _ _))) λa h=>?_
 refine sB h f O (ca O O) λec ed f a h=>ae 1 h O λa h=>ai h O O (gF O) O O (λg=>ab O cD O iR O O) λa h=>?_
 refine ai h O O (gF O) O O (λg=>dL O5 (eg g O) mP iR (H.hp.get 0 O) O O) λa h=>?_
 refine ai h O O (gF O) O O (λg=>ab O cD O iR O O) λa h=>?_
 refine ai h O O (gF O) O O (λg=>dL O5 (eg g O) mP iR (H.hp.get 1 O) O O) λa h=>?_
 obtain⟨ef,cy,f⟩:=bv f
 refine ai h O O (gF O) O O (λg=>vB cy (lV (eg g O) (eg g O) Ca (Cg _ _ _ _ _ _ _ _ _ _))) λa h=>?_
 refine sB h f O (ca O O) λei ej f a h=>ae 1 h O λa h=>ai h O O (gF O) O O (λg=>ab O cD O Z9 O O) λa h=>?_
 refine ai h O O (gF O) O O (λg=>aE (eg g O) A9 (H.hp.get 0 O) O) λa h=>?_
 refine ai h O O (gF O) O O (λg=>ab O cD O Z9 O O) λa h=>?_
 refine ai h O O (gF O) O O (λg=>aE (eg g O) A9 (H.hp.get 1 O) O) λa h=>?_
 obtain⟨el,da,f⟩:=bv f
 refine ai h O O (gF O) O O (λg=>vB da (oF (eg g O) (eg g O))) λa h=>?_
 refine sB h f O (ca O O) λeo ep f a h=>ae 1 h O λa h=>ai h O O (gF O) O O (λg=>ab O cD O hO O O) λa h=>?_
 refine ai h O O (gF O) O O (λg=>aE (eg g O) iO (H.hp.get 0 O) O) λa h=>?_
 refine ai h O O (gF O) O O (λg=>cd dZ (eg g O) G H.zin) λa h=>?_
 refine ai h O O (gF O) O O (λg=>ab O cD O hO O O) λa h=>?_
 refine ai h O O (gF O) O O (λg=>aE (eg g O) iO (H.hp.get 1 O) O) λa h=>?_
 refine ai h O O (gF O) O O (λg=>cd dZ (eg g O) W H.zin) λa h=>?_
 obtain⟨er,dd,f⟩:=bv f
 refine ai h O O (gF O) O O (λg=>vB dd (fN (eg g O) (eg g O))) λa h=>?_
 refine sB h f O (ca O O) λet eu f a h=>cN k h [2,3,54] O3 λh=>?_
 refine cI h f O (λb7 f=>?_) λb7 f=>?_
 refine rg λK k=>ae 1 h O λa h=>cz k ?_
 cases f
 refine r1 hr h O O ⟨O,H.out⟩
 refine ag ?_
 obtain⟨dj,bb,f⟩:=bv f
 refine dA (λa w=>∃(Z:FZ) (bk:Unit),dj bk=some Y/\Fr 74 [] a/\HZ w0 Zi Z [.blk p1 (aB (nL x0 F) 34),.blk p2 (aB (nL x1 J) 34)] w/\bi Z F aj x0.l/\bi Z J aj x1.l) ?_ ?_
 rintro a w ⟨Z,bk,f,h,H,G,W⟩
 subst bb
 refine rg λK k=>ae 1 h O λa h=>cz k ?_
 cases f
 refine r1 hr h O O ⟨O,H.out⟩
 refine rg λK k=>s1 h O (ab O cD O hO O O) λa h=>s1 h O (l1 H 0 iO) λa h=>s1 h O (cd dZ O G H.zin) λa h=>ae 1 h O λa h=>cz k<|lb ?_
 obtain⟨dn,bq,f⟩:=bv f
 refine ib (λb0 a w=>∃(Z:FZ) (ad:Int),loopF dn b0 ad=some Y/\Fr 74 [(2,(pt p1)),(3,(pt p2)),(57,I (x0.l.length:Int)),(58,I ad)] a/\HZ w0 Zi Z [.blk p1 (aB (nL x0 F) 34),.blk p2 (aB (nL x1 J) 34)] w/\bi Z F aj x0.l/\bi Z J aj x1.l) KK ⟨_,_,f,h.to,H,G,W⟩ ?_
 rintro b0 a w ⟨Z,ad,f,h,H,G,W⟩
 obtain⟨b0,rfl,ew,bs,f⟩:=iJ bq f
 refine rg λK k=>sB h f O (bn O O) λey ez f a h=>cz k<|sq<|cI h f O (λc6 f=>?_) λc6 f=>?_
 refine ag<|sb ?_
 refine rg λK k=>ae 2 h O λa h=>cz k<|fl h ?_
 refine F1 O (λw X=>ab O cD O hO O O) ?_
 refine F1 O (λw X=>have H:=H.ext X;l1 H 0 iO) ?_
 refine bN 1 O ?_
 obtain⟨c7,f⟩:=ck f
 obtain⟨c8,dv,f⟩:=bv f
 have a1:=G.gel ⟨_,aC⟩ ad
 rw[<-dv]at a1
 obtain⟨ct,dz,b1,b2,a1⟩:=a1
 obtain⟨u,af,a7⟩:=bd a1
 refine aT [62,63] O O O O false (.rel (λw' v'=>At w' v' (λ_:Unit=>(nL c8 u)) () 0)) aI (λw X=>?_) ?_
 skip
 exact have H:=H.ext X;dh dZ aL O O (b1.at H.zin) c7.1 (b2 c7) af
 refine aT [64] O O O O false (.eq (nA c8 u)) trivial (λw X=>?_) ?_
 intro eF e1
 exact(ay aA O e1 bQ aL O O).bC
 refine F1 O (λw X=>ab O cD O hO O O) ?_
 refine F1 O (λw X=>have H:=H.ext X;l1 H 1 iO) ?_
 refine bN 1 O ?_
 obtain⟨cc,f⟩:=ck f
 obtain⟨ch,e2,f⟩:=bv f
 have a6:=W.gel ⟨_,aC⟩ ad
 rw[<-e2]at a6
 obtain⟨cx,e3,b3,b4,a6⟩:=a6
 obtain⟨E,ao,a8⟩:=bd a6
 refine aT [67,68] O O O O false (.rel (λw' v'=>At w' v' (λ_:Unit=>(nL ch E)) () 0)) aI (λw X=>?_) ?_
 skip
 exact have H:=H.ext X;dh dZ aL O O (b3.at H.zin) cc.1 (b4 cc) ao
 refine aT [69] O O O O false (.eq (nA ch E)) trivial (λw X=>?_) ?_
 intro eJ ea
 exact(ay aA O ea bQ aL O O).bC
 obtain⟨eb,f33,f⟩:=bo f
 refine f2 (V:=.bool eb) [65,70] O O O O (λw X=>have Hs:=ZB.of H.zin X;have H:=H.ext X;dC call10 (b5 f33 (ZB.inn H.zin) (a7.sub Hs) (a8.sub Hs) (hG.ext H.out))) ?_
 refine fB f O (λw X=>dI O) λeZ ff f=>?_
 refine fE [2,3,57,58,72] O5 H λa w X H h=>?_
 refine cI h f O (λcp f=>?_) λcp f=>?_
 refine rg λK k=>ae 1 h O λa h=>cN k h [4] [_] λh=>?_
 cases f
 refine r1 hr h O O ⟨O,H.out⟩
 refine ag<|ah<|sI h f O (aw O O) λfs gb f a h=>ae 1 h O λa h=>am ?_
 exact fK (bp ⟨fq bs f,h.to,H,G,W⟩)
 exact aR (tH ⟨f,h.to,H,G,W⟩)
theorem sY(k:Nat):∀{x0:Nd}{x1:Nd}{f:Bool}{w0:World}(E:jc k x0 x1=some f){Z:FZ}(J:Z.inn w0){g:Value}(F:bi Z g aj x0.l){u:Value}(G:bi Z u aj x1.l) (W:GW w0),Calls prog 10 [(nA x0 g),(nA x1 u)].toArray w0 (bj λv w=>v=.bool f/\Ext w0 w):=by
 induction k with
 |zero=>intro x0 x1 f w0 E;exact nomatch (show(none:Option (Bool))=some f from E)
 |succ k H=>exact @qu (jc k) @H
end Go.Proofs.YtnllbjchcfpmpaaGreatDoor
