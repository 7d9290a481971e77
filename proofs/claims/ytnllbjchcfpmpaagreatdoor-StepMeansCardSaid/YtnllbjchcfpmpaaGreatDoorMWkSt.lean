/- Joined texts. -/
import Derived.Test.YtnllbjchcfpmpaaGreatDoorMWkSh
set_option linter.all false
namespace Go.Proofs.YtnllbjchcfpmpaaGreatDoor
open Go.Stp Go.RowKit Go.ValP Go.Sp _root_.Go.Proofs.Tryz
set_option maxRecDepth 100000
theorem i7{x0:Nd}{f:Bool}{w0:World}(F:step_done x0=some f){g:Value}(u:bi (hz w0) g aj x0.l):Calls prog 32 [(nA x0 g)].toArray w0 (bj λv w=>v=.bool f/\Ext w0 w):=by
 refine en func32 [0] [_] λQ a Zi Z E H h G=>?_
 have u:=u.sub E
 clear E
 unfold step_done at F
 refine rg λK k=>aZ h H O aA O O λa J w X H h=>?_
 have H:HZ w0 _ _ [_] _:=H
 refine ae 1 h O λa h=>cz k<|rg λK k=>s1 h O (ab O cD O Z3 O O) λa h=>s1 h O (l1 H 0 A3) λa h=>sB h F O (aD O O) λW Y F a h=>ae 1 h O λa h=>cN k h [2] [_] λh=>?_
 cases F
 refine r1 G h O O ⟨O,H.out⟩
def nH(rec:Nd->(List V)->Option (Nd)):Prop:=∀{x0:Nd}{E:List V}{f:Nd}{w0:World}(W:rec x0 E=some f){Z:FZ}(X:Z.inn w0){g:Value}(G:bi Z g aj x0.l){u:Nat}(H:Z u=some (aB ((E:List V).flatMap vL) 54)) (J:E.length=128) (Y:GW w0),Calls prog 11 [(nA x0 g),.iface 36 (pt u)].toArray w0 (bj λv w=>∃F,v=.agg #[I f.k,I f.op,I f.v.k,I f.v.n,S f.v.s,I f.a.c.s,I f.a.c.c,I f.a.c.r,.bool f.a.ac,.bool f.a.ar,I f.b.c.s,I f.b.c.c,I f.b.c.r,.bool f.b.ac,.bool f.b.ar,S f.nm,F]/\bi (ZB Z w0.heap.size w) F aj f.l/\Ext w0 w)
theorem mK{rec:Nd->(List V)->Option (Nd)}(bb:nH rec){x0:Nd}{x1:Int}{x2:List V}{g:Nd}{w0:World}(W:kC rec x0 x1 x2=some g){Z:FZ}(hZ:Z.inn w0){bk:Value}(b0:bi Z bk aj x0.l){bq:Nat}(b1:Z bq=some (aB ((x2:List V).flatMap vL) 54)) (ct:x2.length=128) (hG:GW w0):Calls prog 53 [(nA x0 bk),I x1,.iface 36 (pt bq)].toArray w0 (bj λv w=>∃u1,v=.agg #[I g.k,I g.op,I g.v.k,I g.v.n,S g.v.s,I g.a.c.s,I g.a.c.c,I g.a.c.r,.bool g.a.ac,.bool g.a.ar,I g.b.c.s,I g.b.c.c,I g.b.c.r,.bool g.b.ac,.bool g.b.ar,S g.nm,u1]/\bi (ZB Z w0.heap.size w) u1 aj g.l/\Ext w0 w):=by
 refine o6 hZ func53 [0,1,2] O3 λQ a Zi bs H h hr=>?_
 try rw[<-bs]at hr
 clear bs
 unfold kC at W
 refine rg λK k=>aZ h H O aA O O λa p1 w X H h=>?_
 have H:HZ w0 _ _ [_] _:=H
 refine zA h H iS aA (λx=>[_,x]) λa p2 w X H h=>?_
 refine cz k<|rg λK k=>s1 h O (ab O cD O hO O O) λa h=>s1 h O (l1 H 0 iO) λa h=>?_
 have H:=H.fc 34 17 rfl
 have H:HZ w0 _ _ O3 _:=H
 have f:EL aj Z ([]:List (Cl 17)) ([]:List (Nd)):=trivial
 obtain⟨c4,W⟩:=ck W
 obtain⟨z5,e5,W⟩:=bv W
 obtain⟨J,c7,a7⟩:=id b0
 refine cg (enc:=(Subtype.val (p:=λl:List Value=>l.length=17))) (out:=([]:List (Cl 17))) (data:=J) h H 2 O dZ tW O O O c7 (λc=>c.2) a7.one (Do f.len a7.len c4) O λa b2 w H h=>?_
 have f:=EL.append f a7
 rw[<-e5]at f
 have f:EL aj Z (List.append (α:=Cl 17) ([]:List (Cl 17)) J) z5:=f
 have H:HZ w0 _ _ O3 _:=H
 refine ae 1 h O λa h=>cN k h [1,2,3,6,7] O5 λh=>?_
 refine rg λK k=>ae 4 h O λa h=>?_
 obtain⟨c6,W⟩:=ck W
 obtain⟨z7,e7,W⟩:=bv W
 have ad:=f.gel ⟨_,aC⟩ x1
 rw[<-e7]at ad
 obtain⟨dn,c8,ad⟩:=ad
 obtain⟨cc,b3,G⟩:=bd ad
 refine bJ h dZ aL O O (H.eT (i:=2) O) c6.1 (c8 c6) b3 O λa dv b4 h=>?_
 refine s1 h O (ay aA O b4 bQ aL O O) λa h=>ae 1 h O λa h=>?_
 obtain⟨y9,f9,W⟩:=bo W
 refine st2 h O O O (dC call11 (bb f9 H.zin G b1 ct (hG.ext H.out))) ?_
 rintro v_ w ⟨F,rfl,u,X⟩ a h
 obtain⟨Z,Y,ch,H⟩:=H.aP X
 have f:=f.sub Y
 have G:=G.sub Y
 have b0:=b0.sub Y
 have b1:=Y _ _ b1
 have u:=u.sub ch
 have b4:=At.ext b4 X
 obtain⟨cx,W⟩:=ck W
 obtain⟨dz,cy,W⟩:=bv W
 have a1:=f.gel ⟨_,aC⟩ x1
 rw[<-cy]at a1
 obtain⟨da,b5,a1⟩:=a1
 obtain⟨b6,af,b7⟩:=bd a1
 have dd:([]++J:List (Cl 17)).length=z5.length:=f.len
 obtain⟨dj,cp,a6⟩:=H.zf (i:=2) rfl (by have h_:0<([]++J:List (Cl 17)).length:=(by omega);exact h_)
 refine s1 h O (tF a6 dZ aL O O (by have h_:(0:Int)<=x1/\x1<(([]++J:List (Cl 17)).length:Int):=(by omega);exact h_)) λa h=>?_
 obtain⟨ao,a8,W⟩:=bv W
 refine tZ h H 2 O a6 (Int.toNat x1) (b5 cx) (j:=0) O O aL aA O O (by obtain⟨_,_,_,e_⟩:=(u).form;subst e_;rfl) (by decide) (c':=(⟨(nL y9 F),rfl⟩:Cl 17)) (by rw[af];rfl) (hl':=O3) rfl λw H=>?_
 have f:=EL.set (E:=aj) (x:=y9) (c:=⟨(nL y9 F),rfl⟩) (fw ⟨_,rfl,u⟩) (Int.toNat x1) f
 rw[<-a8]at f
 have f:EL aj Z (List.set (α:=Cl 17) ((List.append (α:=Cl 17) ([]:List (Cl 17)) J)) (Int.toNat x1) ⟨(nL y9 F),rfl⟩) ao:=f
 have H:HZ w0 _ _ O3 _:=H
 refine cN k h [3,6,7] O3 λh=>?_
 refine rg λK k=>ae 1 h O λa h=>s1 h O (ab O cD O hO O O) λa h=>ap h H 0 O O O hO [b2] (by rw[(H.uT (i:=2) rfl f).cells]) rfl (by obtain⟨_,_,_,e_⟩:=(H.uT (i:=2) rfl f).form;subst e_;rfl) (by simp) aA rfl (hl':=O3) rfl λw H=>?_
 refine cz k<|rg λK k=>s1 h O (lA H 0 bQ aL aA) λa h=>ap h H 1 O O O aL aA O O (by obtain⟨_,_,_,e_⟩:=(H.uT (i:=2) rfl f).form;subst e_;rfl) (by simp) aA rfl (hl':=O3) rfl λw H=>?_
 refine cN k h [6] [_] λh=>?_
 cases W
 refine r1 hr h O (aO H 1 bQ aL aA) ⟨_,O,H.tM (i:=2) O f,H.out⟩
theorem nQ{rec:Nd->(List V)->Option (Nd)}(e9:nH rec){x0:Nd}{x1:List V}{F:Nd}{w0:World}(f:fP rec x0 x1=some F){Z:FZ}(hZ:Z.inn w0){bk:Value}(W:bi Z bk aj x0.l){cc:Nat}(b0:Z cc=some (aB ((x1:List V).flatMap vL) 54)) (ez:x1.length=128) (hG:GW w0):Calls prog 34 [(nA x0 bk),.iface 36 (pt cc)].toArray w0 (bj λv w=>∃u1,v=.agg #[I F.k,I F.op,I F.v.k,I F.v.n,S F.v.s,I F.a.c.s,I F.a.c.c,I F.a.c.r,.bool F.a.ac,.bool F.a.ar,I F.b.c.s,I F.b.c.c,I F.b.c.r,.bool F.b.ac,.bool F.b.ar,S F.nm,u1]/\bi (ZB Z w0.heap.size w) u1 aj F.l/\Ext w0 w):=by
 refine o6 hZ func34 [0,1] O2 λQ a Zi ea H h hr=>?_
 try rw[<-ea]at hr
 clear ea
 unfold fP at f
 refine rg λK k=>aZ h H O aA O O λa p1 w X H h=>?_
 have H:HZ w0 _ _ [_] _:=H
 refine zA h H iS aA (λx=>[_,x]) λa p2 w X H h=>?_
 refine cz k ?_
 obtain⟨J4,eF,f⟩:=bv f
 refine dA (λa w=>∃(Z:FZ) (s4:Int × Int × Int × Int × (List UInt8) × Int × Int × Int × Bool × Bool × Int × Int × Int × Bool × Bool × (List UInt8) × (List (Nd))) (b1:Value),J4 s4=some F/\Fr 54 [(2,(pt p1)),(4,(pt p2))] a/\HZ w0 Zi Z [.blk p1 (aB (nL x0 bk) 34),.blk p2 (aB [I s4.1,I s4.2.1,I s4.2.2.1,I s4.2.2.2.1,S s4.2.2.2.2.1,I s4.2.2.2.2.2.1,I s4.2.2.2.2.2.2.1,I s4.2.2.2.2.2.2.2.1,.bool s4.2.2.2.2.2.2.2.2.1,.bool s4.2.2.2.2.2.2.2.2.2.1,I s4.2.2.2.2.2.2.2.2.2.2.1,I s4.2.2.2.2.2.2.2.2.2.2.2.1,I s4.2.2.2.2.2.2.2.2.2.2.2.2.1,.bool s4.2.2.2.2.2.2.2.2.2.2.2.2.2.1,.bool s4.2.2.2.2.2.2.2.2.2.2.2.2.2.2.1,S s4.2.2.2.2.2.2.2.2.2.2.2.2.2.2.2.1,b1] 34)] w/\bi Z b1 aj s4.2.2.2.2.2.2.2.2.2.2.2.2.2.2.2.2/\bi Z bk aj x0.l/\Z cc=some (aB ((x1:List V).flatMap vL) 54)) ?_ ?_
 rintro a w ⟨Z,s4,b1,f,h,H,af,W,b0⟩
 subst eF
 refine sq<|rg λK k=>s1 h O (ab O cD O Z3 O O) λa h=>s1 h O (l1 H 0 A3) λa h=>sB h f O (aD O O) λz7 e7 f a h=>cz k<|cI h f O (λeJ f=>?_) λeJ f=>?_
 refine nV 14 h λK k=>?_
 refine F1 O (λw X=>ab O cD O Z3 O O) ?_
 refine F1 O (λw X=>have H:=H.ext X;l1 H 0 A3) ?_
 refine F1 O (λw X=>ab O cD O hO O O) ?_
 refine F1 O (λw X=>have H:=H.ext X;l1 H 0 iO) ?_
 obtain⟨c9,f⟩:=ck f
 obtain⟨cy,eZ,f⟩:=bv f
 have bs:=W.gel ⟨_,aC⟩ 0
 rw[<-eZ]at bs
 obtain⟨et,ff,da,dd,bs⟩:=bs
 obtain⟨b2,ch,b3⟩:=bd bs
 refine aT [34] O O O O false (.rel (λw' v'=>At w' v' (λ_:Unit=>(nL cy b2)) () 0)) aI (λw X=>?_) ?_
 skip
 exact have H:=H.ext X;dh dZ aL O O (da.at H.zin) c9.1 (dd c9) ch
 refine aT [35] O O O O false (.rel (λw' v'=>At w' v' (λ_:Unit=>(nL cy b2)) () 2)) aI (λw X=>?_) ?_
 intro h9 fs
 exact dU O fs cD O aq O O
 refine aT [36] O O O O false (.eq (vA cy.v)) trivial (λw X=>?_) ?_
 intro ha gb
 exact(ay O3 O gb aQ aq O O).bC
 refine F1 O (λw X=>ab O cD O hO O O) ?_
 refine F1 O (λw X=>have H:=H.ext X;l1 H 0 iO) ?_
 obtain⟨eb,f⟩:=ck f
 obtain⟨dj,gf,f⟩:=bv f
 have c6:=W.gel ⟨_,aC⟩ 1
 rw[<-gf]at c6
 obtain⟨eu,gg,dn,dv,c6⟩:=c6
 obtain⟨b4,cp,b5⟩:=bd c6
 refine aT [39] O O O O false (.rel (λw' v'=>At w' v' (λ_:Unit=>(nL dj b4)) () 0)) aI (λw X=>?_) ?_
 skip
 exact have H:=H.ext X;dh dZ aL O O (dn.at H.zin) eb.1 (dv eb) cp
 refine aT [40] O O O O false (.rel (λw' v'=>At w' v' (λ_:Unit=>(nL dj b4)) () 2)) aI (λw X=>?_) ?_
 intro hb gl
 exact dU O gl cD O aq O O
 refine aT [41] O O O O false (.eq (vA dj.v)) trivial (λw X=>?_) ?_
 intro hc gm
 exact(ay O3 O gm aQ aq O O).bC
 refine fC f O (λec f15 w X=>have H:=H.ext X;dC call47 (kV f15 (hG.ext H.out) :)) λec f=>?_
 obtain⟨Y,f16,f⟩:=bo f
 refine aT [43] O O O O false (.rel (λw' v'=>∃G,v'=.agg #[I Y.k,I Y.op,I Y.v.k,I Y.v.n,S Y.v.s,I Y.a.c.s,I Y.a.c.c,I Y.a.c.r,.bool Y.a.ac,.bool Y.a.ar,I Y.b.c.s,I Y.b.c.c,I Y.b.c.r,.bool Y.b.ac,.bool Y.b.ar,S Y.nm,G]/\bi (ZB Z w.heap.size w') G aj Y.l)) (λw w' v X h=>by obtain⟨G,hv,bq⟩:=h;exact⟨_,hv,bq.sub (ZB.grow X)⟩) (λw X=>?_) ?_
 skip
 exact have Hs:=ZB.of H.zin X;have H:=H.ext X;dt.jw (dC call15 (aX (x0:=ec) f16)) (λv w' hr=>by obtain⟨G,hv,bq,X'⟩:=hr;exact⟨⟨_,hv,bq.sub (ZB.back X X')⟩,X'⟩)
 refine wT ?_
 intro a w X hR hA
 obtain⟨_,⟨G,rfl,a6⟩,h⟩:=hR.out [4,44]
 have h:Fr 54 [(44,_),(4,_)] a:=h
 obtain⟨Z,u,bb,H⟩:=H.aP X
 have af:=af.sub u
 have b3:=b3.sub u
 have b5:=b5.sub u
 have W:=W.sub u
 have b0:=u _ _ b0
 have a6:=a6.sub bb
 refine ap h H 1 O O O aL aA O O (by obtain⟨_,_,_,e_⟩:=(a6).form;subst e_;rfl) (by simp) aA rfl (hl':=O2) rfl λw H=>?_
 refine cz k ?_
 cases f
 refine r1 hr h O (aO H 1 bQ aL aA) ⟨_,O,a6.sub H.back,H.out⟩
 refine ag<|nV 9 h λK k=>?_
 refine F1 O (λw X=>ab O cD O Z3 O O) ?_
 refine F1 O (λw X=>have H:=H.ext X;l1 H 0 A3) ?_
 refine F1 O (λw X=>ab O cD O hO O O) ?_
 refine F1 O (λw X=>have H:=H.ext X;l1 H 0 iO) ?_
 obtain⟨ed,f⟩:=ck f
 obtain⟨dz,h0,f⟩:=bv f
 have c7:=W.gel ⟨_,aC⟩ 0
 rw[<-h0]at c7
 obtain⟨ew,h2,e0,e1,c7⟩:=c7
 obtain⟨b6,ct,b7⟩:=bd c7
 refine aT [48] O O O O false (.rel (λw' v'=>At w' v' (λ_:Unit=>(nL dz b6)) () 0)) aI (λw X=>?_) ?_
 skip
 exact have H:=H.ext X;dh dZ aL O O (e0.at H.zin) ed.1 (e1 ed) ct
 refine aT [49] O O O O false (.rel (λw' v'=>At w' v' (λ_:Unit=>(nL dz b6)) () 2)) aI (λw X=>?_) ?_
 intro hf h3
 exact dU O h3 cD O aq O O
 refine aT [50] O O O O false (.eq (vA dz.v)) trivial (λw X=>?_) ?_
 intro hg h4
 exact(ay O3 O h4 aQ aq O O).bC
 refine fC f O (λef f21 w X=>dC call46 (lT f21 :)) λef f=>?_
 obtain⟨a1,f22,f⟩:=bo f
 refine aT [52] O O O O false (.rel (λw' v'=>∃J,v'=.agg #[I a1.k,I a1.op,I a1.v.k,I a1.v.n,S a1.v.s,I a1.a.c.s,I a1.a.c.c,I a1.a.c.r,.bool a1.a.ac,.bool a1.a.ar,I a1.b.c.s,I a1.b.c.c,I a1.b.c.r,.bool a1.b.ac,.bool a1.b.ar,S a1.nm,J]/\bi (ZB Z w.heap.size w') J aj a1.l)) (λw w' v X h=>by obtain⟨J,hv,bq⟩:=h;exact⟨_,hv,bq.sub (ZB.grow X)⟩) (λw X=>?_) ?_
 skip
 exact have Hs:=ZB.of H.zin X;have H:=H.ext X;dt.jw (dC call15 (aX (x0:=ef) f22)) (λv w' hr=>by obtain⟨J,hv,bq,X'⟩:=hr;exact⟨⟨_,hv,bq.sub (ZB.back X X')⟩,X'⟩)
 refine wT ?_
 intro a w X hR hA
 obtain⟨_,⟨J,rfl,a7⟩,h⟩:=hR.out [4,53]
 have h:Fr 54 [(53,_),(4,_)] a:=h
 obtain⟨Z,u,bb,H⟩:=H.aP X
 have af:=af.sub u
 have b7:=b7.sub u
 have W:=W.sub u
 have b0:=u _ _ b0
 have a7:=a7.sub bb
 refine ap h H 1 O O O aL aA O O (by obtain⟨_,_,_,e_⟩:=(a7).form;subst e_;rfl) (by simp) aA rfl (hl':=O2) rfl λw H=>?_
 refine cz k ?_
 cases f
 refine r1 hr h O (aO H 1 bQ aL aA) ⟨_,O,a7.sub H.back,H.out⟩
 refine rg λK k=>s1 h O (ab O cD O hO O O) λa h=>s1 h O (l1 H 0 iO) λa h=>s1 h O (cd dZ O W H.zin) λa h=>ae 1 h O λa h=>cz k<|lb ?_
 obtain⟨h5,ei,f⟩:=bv f
 refine ib (λe2 a w=>∃(Z:FZ) (E:Int × Int × Int × Int × Int × (List UInt8) × Int × Int × Int × Bool × Bool × Int × Int × Int × Bool × Bool × (List UInt8) × (List (Nd))) (ao:Value),loopF h5 e2 E=some F/\Fr 54 [(1,.iface 36 (pt cc)),(2,(pt p1)),(4,(pt p2)),(8,bk),(9,I (x0.l.length:Int)),(10,I E.1)] a/\HZ w0 Zi Z [.blk p1 (aB (nL x0 bk) 34),.blk p2 (aB [I E.2.1,I E.2.2.1,I E.2.2.2.1,I E.2.2.2.2.1,S E.2.2.2.2.2.1,I E.2.2.2.2.2.2.1,I E.2.2.2.2.2.2.2.1,I E.2.2.2.2.2.2.2.2.1,.bool E.2.2.2.2.2.2.2.2.2.1,.bool E.2.2.2.2.2.2.2.2.2.2.1,I E.2.2.2.2.2.2.2.2.2.2.2.1,I E.2.2.2.2.2.2.2.2.2.2.2.2.1,I E.2.2.2.2.2.2.2.2.2.2.2.2.2.1,.bool E.2.2.2.2.2.2.2.2.2.2.2.2.2.2.1,.bool E.2.2.2.2.2.2.2.2.2.2.2.2.2.2.2.1,S E.2.2.2.2.2.2.2.2.2.2.2.2.2.2.2.2.1,ao] 34)] w/\bi Z ao aj E.2.2.2.2.2.2.2.2.2.2.2.2.2.2.2.2.2/\bi Z bk aj x0.l/\Z cc=some (aB ((x1:List V).flatMap vL) 54)) KK ⟨_,_,_,f,h.to,H,bi.nil,W,b0⟩ ?_
 rintro e2 a w ⟨Z,E,ao,f,h,H,a8,W,b0⟩
 obtain⟨e2,rfl,hj,ej,f⟩:=iJ ei f
 refine rg λK k=>sB h f O (bn O O) λhn ho f a h=>cz k<|sq<|cI h f O (λel f=>?_) λel f=>?_
 refine ag<|sb ?_
 refine rg λK k=>ae 1 h O λa h=>?_
 obtain⟨eo,f⟩:=ck f
 obtain⟨hq,h6,f⟩:=bv f
 have c8:=W.gel ⟨_,aC⟩ E.1
 rw[<-h6]at c8
 obtain⟨ey,h7,e3,e4,c8⟩:=c8
 obtain⟨e6,cx,g⟩:=bd c8
 refine bJ h dZ aL O O (e3.at H.zin) eo.1 (e4 eo) cx O λa ht e5 h=>?_
 refine s1 h O (ay aA O e5 bQ aL O O) λa h=>zA h H iS aA (λx=>[_,_,x]) λa hx w X H h=>?_
 have e5:=At.ext e5 X
 refine ae 1 h O λa h=>ap h H 2 O O O aL aA O O (by obtain⟨_,_,_,e_⟩:=(g).form;subst e_;rfl) (by simp) aA rfl (hl':=O3) rfl λw H=>?_
 refine cz k<|sq<|rg λK k=>s1 h O (lA H 2 bQ aL aA) λa h=>sC h H f O (λh8 f37=>dC call32 (i7 f37 (g.hz H.zin) :)) λh8 f w X H a h=>?_
 refine sB h f O (dI O) λhy hB f a h=>cN k h [1,2,4,5,6,8,9,10,17] O9 λh=>?_
 refine cI h f O (λep f=>?_) λep f=>?_
 refine rg λK k=>s1 h O (lA H 0 bQ aL aA) λa h=>ae 2 h O λa h=>?_
 obtain⟨hD,f40,f⟩:=bo f
 refine st2 h O O O (dC call53 (mK e9 f40 H.zin W b0 ez (hG.ext H.out))) ?_
 rintro v_ w ⟨e8,rfl,ad,X⟩ a h
 obtain⟨Z,u,bb,H⟩:=H.aP X
 have g:=g.sub u
 have a8:=a8.sub u
 have W:=W.sub u
 have b0:=u _ _ b0
 have ad:=ad.sub bb
 refine ap h H 1 O O O aL aA O O (by obtain⟨_,_,_,e_⟩:=(ad).form;subst e_;rfl) (by simp) aA rfl (hl':=O3) rfl λw H=>?_
 refine cN k h [4] [_] λh=>?_
 cases f
 refine r1 hr h O (aO H 1 bQ aL aA) ⟨_,O,ad.sub H.back,H.out⟩
 refine ag<|rg λK k=>s1 h O (ab O cD O aq O O) λa h=>s1 h O (ab O cB O Z3 O O) λa h=>s1 h O (l1 H 2 A3) λa h=>sB h f O (aD O O) λhE hF f a h=>cN k h [1,2,4,6,8,9,10,25] O8 λh=>?_
 refine cI h f O (λer f=>?_) λer f=>?_
 refine rg λK k=>s1 h O (lA H 2 bQ aL aA) λa h=>ap h H 1 O O O aL aA O O (by obtain⟨_,_,_,e_⟩:=(g).form;subst e_;rfl) (by simp) aA rfl (hl':=O3) rfl λw H=>?_
 refine cN k h [4] [_] λh=>?_
 cases f
 refine r1 hr h O (aO H 1 bQ aL aA) ⟨_,O,g.sub H.back,H.out⟩
 refine ag<|ah<|sI h f O (aw O O) λhI hJ f a h=>ae 1 h O λa h=>am ?_
 exact fK (iP ⟨fq ej f,h.to,(H.cT 2 O),a8,W,b0⟩)
 exact aR (iP ⟨f,h.to,H,a8,W,b0⟩)
theorem pF{rec:Nd->(List V)->Option (Nd)}(bs:nH rec){x0:Nd}{x1:List V}{u:Nd}{w0:World}(f:iI rec x0 x1=some u){Z:FZ}(hZ:Z.inn w0){ao:Value}(W:bi Z ao aj x0.l){b1:Nat}(Y:Z b1=some (aB ((x1:List V).flatMap vL) 54)) (b3:x1.length=128) (hG:GW w0):Calls prog 36 [(nA x0 ao),.iface 36 (pt b1)].toArray w0 (bj λv w=>∃u1,v=.agg #[I u.k,I u.op,I u.v.k,I u.v.n,S u.v.s,I u.a.c.s,I u.a.c.c,I u.a.c.r,.bool u.a.ac,.bool u.a.ar,I u.b.c.s,I u.b.c.c,I u.b.c.r,.bool u.b.ac,.bool u.b.ar,S u.nm,u1]/\bi (ZB Z w0.heap.size w) u1 aj u.l/\Ext w0 w):=by
 refine o6 hZ func36 [0,1] O2 λQ a Zi c6 H h hr=>?_
 try rw[<-c6]at hr
 clear c6
 unfold iI at f
 refine rg λK k=>aZ h H O aA O O λa p1 w X H h=>?_
 have H:HZ w0 _ _ [_] _:=H
 refine zA h H iS aA (λx=>[_,x]) λa p2 w X H h=>?_
 refine cz k ?_
 obtain⟨J4,da,f⟩:=bv f
 refine dA (λa w=>∃(Z:FZ) (s4:Int × Int × Int × Int × (List UInt8) × Int × Int × Int × Bool × Bool × Int × Int × Int × Bool × Bool × (List UInt8) × (List (Nd))) (ad:Value),J4 s4=some u/\Fr 43 [(1,.iface 36 (pt b1)),(2,(pt p1)),(4,(pt p2))] a/\HZ w0 Zi Z [.blk p1 (aB (nL x0 ao) 34),.blk p2 (aB [I s4.1,I s4.2.1,I s4.2.2.1,I s4.2.2.2.1,S s4.2.2.2.2.1,I s4.2.2.2.2.2.1,I s4.2.2.2.2.2.2.1,I s4.2.2.2.2.2.2.2.1,.bool s4.2.2.2.2.2.2.2.2.1,.bool s4.2.2.2.2.2.2.2.2.2.1,I s4.2.2.2.2.2.2.2.2.2.2.1,I s4.2.2.2.2.2.2.2.2.2.2.2.1,I s4.2.2.2.2.2.2.2.2.2.2.2.2.1,.bool s4.2.2.2.2.2.2.2.2.2.2.2.2.2.1,.bool s4.2.2.2.2.2.2.2.2.2.2.2.2.2.2.1,S s4.2.2.2.2.2.2.2.2.2.2.2.2.2.2.2.1,ad] 34)] w/\bi Z ad aj s4.2.2.2.2.2.2.2.2.2.2.2.2.2.2.2.2/\bi Z ao aj x0.l/\Z b1=some (aB ((x1:List V).flatMap vL) 54)) ?_ ?_
 rintro a w ⟨Z,s4,ad,f,h,H,a1,W,Y⟩
 subst da
 refine rg λK k=>s1 h O (lA H 0 bQ aL aA) λa h=>s1 h O (aS kY [] O3 O O) λa h=>ae 1 h O λa h=>?_
 obtain⟨y6,f6,f⟩:=bo f
 refine st2 h O O O (dC call7 (fy f6 H.zin W Y b3 (hG.ext H.out))) ?_
 rintro v_ w ⟨c7,rfl,a6,X⟩ a h
 obtain⟨Z,E,af,H⟩:=H.aP X
 have a1:=a1.sub E
 have W:=W.sub E
 have Y:=E _ _ Y
 have a6:=a6.sub (ZB.empty.trans af)
 refine s1 h O (j7 O3 O zQ O aQ aq O) λa h=>?_
 obtain⟨y8,f8,f⟩:=bo f
 refine st2 h O O O (dC call15 (aX (x0:=y6.v) f8)) ?_
 rintro v_ w ⟨c8,rfl,a7,X⟩ a h
 obtain⟨Z,E,af,H⟩:=H.aP X
 have a1:=a1.sub E
 have a6:=a6.sub E
 have W:=W.sub E
 have Y:=E _ _ Y
 have a7:=a7.sub (ZB.empty.trans af)
 refine ap h H 1 O O O aL aA O O (by obtain⟨_,_,_,e_⟩:=(a7).form;subst e_;rfl) (by simp) aA rfl (hl':=O2) rfl λw H=>?_
 refine cN k h [4] [_] λh=>?_
 cases f
 refine r1 hr h O (aO H 1 bQ aL aA) ⟨_,O,a7.sub H.back,H.out⟩
 refine rg λK k=>s1 h O (ab O cD O hO O O) λa h=>s1 h O (l1 H 0 iO) λa h=>s1 h O (cd dZ O W H.zin) λa h=>ae 1 h O λa h=>cz k<|lb ?_
 obtain⟨dd,cc,f⟩:=bv f
 refine ib (λb4 a w=>∃(Z:FZ) (g:Int × Int × Int × Int × Int × (List UInt8) × Int × Int × Int × Bool × Bool × Int × Int × Int × Bool × Bool × (List UInt8) × (List (Nd))) (a8:Value),loopF dd b4 g=some u/\Fr 43 [(1,.iface 36 (pt b1)),(2,(pt p1)),(4,(pt p2)),(11,ao),(12,I (x0.l.length:Int)),(13,I g.1)] a/\HZ w0 Zi Z [.blk p1 (aB (nL x0 ao) 34),.blk p2 (aB [I g.2.1,I g.2.2.1,I g.2.2.2.1,I g.2.2.2.2.1,S g.2.2.2.2.2.1,I g.2.2.2.2.2.2.1,I g.2.2.2.2.2.2.2.1,I g.2.2.2.2.2.2.2.2.1,.bool g.2.2.2.2.2.2.2.2.2.1,.bool g.2.2.2.2.2.2.2.2.2.2.1,I g.2.2.2.2.2.2.2.2.2.2.2.1,I g.2.2.2.2.2.2.2.2.2.2.2.2.1,I g.2.2.2.2.2.2.2.2.2.2.2.2.2.1,.bool g.2.2.2.2.2.2.2.2.2.2.2.2.2.2.1,.bool g.2.2.2.2.2.2.2.2.2.2.2.2.2.2.2.1,S g.2.2.2.2.2.2.2.2.2.2.2.2.2.2.2.2.1,a8] 34)] w/\bi Z a8 aj g.2.2.2.2.2.2.2.2.2.2.2.2.2.2.2.2.2/\bi Z ao aj x0.l/\Z b1=some (aB ((x1:List V).flatMap vL) 54)) KK ⟨_,_,_,f,h.to,H,bi.nil,W,Y⟩ ?_
 rintro b4 a w ⟨Z,g,a8,f,h,H,G,W,Y⟩
 obtain⟨b4,rfl,e1,ch,f⟩:=iJ cc f
 refine rg λK k=>sB h f O (bn O O) λe2 e3 f a h=>cz k<|sq<|cI h f O (λcp f=>?_) λcp f=>?_
 refine ag<|sb ?_
 refine rg λK k=>ae 1 h O λa h=>?_
 obtain⟨ct,f⟩:=ck f
 obtain⟨e4,dj,f⟩:=bv f
 have b0:=W.gel ⟨_,aC⟩ g.1
 rw[<-dj]at b0
 obtain⟨cy,dn,b5,b6,b0⟩:=b0
 obtain⟨bk,b2,F⟩:=bd b0
 refine bJ h dZ aL O O (b5.at H.zin) ct.1 (b6 ct) b2 O λa e5 b7 h=>?_
 refine s1 h O (ay aA O b7 bQ aL O O) λa h=>zA h H iS aA (λx=>[_,_,x]) λa e6 w X H h=>?_
 have b7:=At.ext b7 X
 refine ae 1 h O λa h=>ap h H 2 O O O aL aA O O (by obtain⟨_,_,_,e_⟩:=(F).form;subst e_;rfl) (by simp) aA rfl (hl':=O3) rfl λw H=>?_
 refine cz k<|rg λK k=>ae 1 h O λa h=>s1 h O (lA H 2 bQ aL aA) λa h=>?_
 obtain⟨bb,f22,f⟩:=bo f
 refine d_ (T:=Ext) (V:=.tuple #[(cA bb.1),(cA bb.2.1),.bool bb.2.2]) h O O O (dC call44 (iW f22 H.zin F Y b3)) λw X a h=>?_
 have H:=H.ext X
 refine ae 4 h O λa h=>zA h H sO O3 (λx=>[_,_,_,x]) λa e7 w X H h=>?_
 refine zA h H sO O3 (λx=>[_,_,_,_,x]) λa e8 w X H h=>?_
 refine zS h H 3 dm O3 O3 O5 λw H=>?_
 refine zS h H 4 dm O3 O3 O5 λw H=>?_
 refine ae 1 h O λa h=>cN k h [1,2,4,5,6,9,11,12,13] O9 λh=>?_
 refine rg λK k=>s1 h O (lA H 2 bQ aL aA) λa h=>sC h H f O (λdv f25=>dC call32 (i7 f25 (F.hz H.zin) :)) λdv f w X H a h=>?_
 refine sB h f O (dI O) λe9 ea f a h=>ae 1 h O λa h=>ai h O O (gT O) O O (λe0=>an O) λa h=>?_
 obtain⟨eb,dz,f⟩:=bv f
 refine ai h O O (gT O) O O (λe0=>vB dz (dI (eg e0 O))) λa h=>?_
 refine sB h f O (bK O O) λec ed f a h=>cN k h [1,2,4,5,11,12,13,31] O8 λh=>?_
 refine cI h f O (λcx f=>?_) λcx f=>?_
 refine rg λK k=>s1 h O (lA H 0 bQ aL aA) λa h=>ae 2 h O λa h=>?_
 obtain⟨ef,f30,f⟩:=bo f
 refine st2 h O O O (dC call53 (mK bs f30 H.zin W Y b3 (hG.ext H.out))) ?_
 rintro v_ w ⟨bq,rfl,J,X⟩ a h
 obtain⟨Z,E,af,H⟩:=H.aP X
 have F:=F.sub E
 have G:=G.sub E
 have W:=W.sub E
 have Y:=E _ _ Y
 have J:=J.sub af
 refine ap h H 1 O O O aL aA O O (by obtain⟨_,_,_,e_⟩:=(J).form;subst e_;rfl) (by simp) aA rfl (hl':=O5) rfl λw H=>?_
 refine cN k h [4] [_] λh=>?_
 cases f
 refine r1 hr h O (aO H 1 bQ aL aA) ⟨_,O,J.sub H.back,H.out⟩
 refine ag<|ah<|sI h f O (aw O O) λei ej f a h=>ae 1 h O λa h=>am ?_
 exact fK (iP ⟨fq ch f,h.to,(H.cT 2 O),G,W,Y⟩)
 exact aR (iP ⟨f,h.to,H,G,W,Y⟩)
theorem ij{x0:Nd}{x1:List V}{f:Nd}{w0:World}(J:fb x0 x1=some f){Z:FZ}(hZ:Z.inn w0){a1:Value}(F:bi Z a1 aj x0.l){a6:Nat}(G:Z a6=some (aB ((x1:List V).flatMap vL) 54)) (a7:x1.length=128) (hG:GW w0):Calls prog 54 [(nA x0 a1),.iface 36 (pt a6)].toArray w0 (bj λv w=>∃u1,v=.agg #[I f.k,I f.op,I f.v.k,I f.v.n,S f.v.s,I f.a.c.s,I f.a.c.c,I f.a.c.r,.bool f.a.ac,.bool f.a.ar,I f.b.c.s,I f.b.c.c,I f.b.c.r,.bool f.b.ac,.bool f.b.ar,S f.nm,u1]/\bi (ZB Z w0.heap.size w) u1 aj f.l/\Ext w0 w):=by
 refine o6 hZ func54 [0,1] O2 λQ a Zi a8 H h hr=>?_
 try rw[<-a8]at hr
 clear a8
 unfold fb at J
 refine rg λK k=>aZ h H O aA O O λa p1 w X H h=>?_
 have H:HZ w0 _ _ [_] _:=H
 refine zA h H iS aA (λx=>[_,x]) λa p2 w X H h=>?_
 refine cz k<|sq<|rg λK k=>ae 1 h O λa h=>s1 h O (lA H 0 bQ aL aA) λa h=>?_
 obtain⟨y4,f4,J⟩:=bo J
 refine d_ (T:=Ext) (V:=.tuple #[(cA y4.1),(cA y4.2.1),.bool y4.2.2]) h O O O (dC call44 (iW f4 H.zin F G a7)) λw X a h=>?_
 have H:=H.ext X
 refine ae 4 h O λa h=>zA h H sO O3 (λx=>[_,_,x]) λa p5 w X H h=>?_
 refine zA h H sO O3 (λx=>[_,_,_,x]) λa p6 w X H h=>?_
 refine zS h H 2 dm O3 O3 O4 λw H=>?_
 refine zS h H 3 dm O3 O3 O4 λw H=>?_
 refine ae 1 h O λa h=>cN k h [1,2,4,7] O4 λh=>?_
 refine rg λK k=>ae 1 h O λa h=>cz k<|cI h J O (λaf J=>?_) λaf J=>?_
 refine rg λK k=>s1 h O (lA H 0 bQ aL aA) λa h=>s1 h O (aS kY [] O3 O O) λa h=>ae 1 h O λa h=>?_
 obtain⟨y8,f8,J⟩:=bo J
 refine st2 h O O O (dC call7 (fy f8 H.zin F G a7 (hG.ext H.out))) ?_
 rintro v_ w ⟨ad,rfl,u,X⟩ a h
 obtain⟨Z,E,W,H⟩:=H.aP X
 have F:=F.sub E
 have G:=E _ _ G
 have u:=u.sub (ZB.empty.trans W)
 refine s1 h O (j7 O3 O zQ O aQ aq O) λa h=>?_
 obtain⟨ao,f10,J⟩:=bo J
 refine st2 h O O O (dC call15 (aX (x0:=y8.v) f10)) ?_
 rintro v_ w ⟨Y,rfl,g,X⟩ a h
 obtain⟨Z,E,W,H⟩:=H.aP X
 have u:=u.sub E
 have F:=F.sub E
 have G:=E _ _ G
 have g:=g.sub (ZB.empty.trans W)
 refine ap h H 1 O O O aL aA O O (by obtain⟨_,_,_,e_⟩:=(g).form;subst e_;rfl) (by simp) aA rfl (hl':=O4) rfl λw H=>?_
 refine cN k h [4] [_] λh=>?_
 cases J
 refine r1 hr h O (aO H 1 bQ aL aA) ⟨_,O,g.sub H.back,H.out⟩
 refine ag<|rg λK k=>s1 h O (lA H 0 bQ aL aA) λa h=>ap h H 1 O O O aL aA O O (by obtain⟨_,_,_,e_⟩:=(F).form;subst e_;rfl) (by simp) aA rfl (hl':=O4) rfl λw H=>?_
 refine cN k h [4] [_] λh=>?_
 cases J
 refine r1 hr h O (aO H 1 bQ aL aA) ⟨_,O,F.sub H.back,H.out⟩
theorem qV{x0:Nd}{x1:V}{x2:List V}{F:Nd}{w0:World}(f:jx x0 x1 x2=some F){Z:FZ}(hZ:Z.inn w0){dz:Value}(E:bi Z dz aj x0.l){e1:Nat}(G:Z e1=some (aB ((x2:List V).flatMap vL) 54)) (b6:x2.length=128) (hG:GW w0):Calls prog 55 [(nA x0 dz),(vA x1),.iface 36 (pt e1)].toArray w0 (bj λv w=>∃u1,v=.agg #[I F.k,I F.op,I F.v.k,I F.v.n,S F.v.s,I F.a.c.s,I F.a.c.c,I F.a.c.r,.bool F.a.ac,.bool F.a.ar,I F.b.c.s,I F.b.c.c,I F.b.c.r,.bool F.b.ac,.bool F.b.ar,S F.nm,u1]/\bi (ZB Z w0.heap.size w) u1 aj F.l/\Ext w0 w):=by
 refine o6 hZ func55 [0,1,2] O3 λQ a Zi e2 H h hr=>?_
 try rw[<-e2]at hr
 clear e2
 unfold jx at f
 refine rg λK k=>aZ h H O aA O O λa p1 w X H h=>?_
 have H:HZ w0 _ _ [_] _:=H
 refine aZ h H O O3 O O λa p2 w X H h=>?_
 have H:HZ w0 _ _ O2 _:=H
 refine zA h H iS aA (λx=>[_,_,x]) λa p3 w X H h=>?_
 refine cz k<|sq<|rg λK k=>s1 h O (ab O cD O Z3 O O) λa h=>s1 h O (l1 H 0 A3) λa h=>sB h f O (aD O O) λz5 e5 f a h=>cN k h [2,3,4,6,12] O5 λh=>?_
 refine cI h f O (λeo f=>?_) λeo f=>?_
 refine rg λK k=>s1 h O (lA H 1 aQ aq O3) λa h=>sC h H f O (λy7 f7=>dC call69 (dD f7 :)) λy7 f w X H a h=>?_
 refine zA h H eX O3 (λx=>[_,_,_,x]) λa p8 w X H h=>?_
 refine zS h H 3 aq O3 O3 O4 λw H=>?_
 refine cN k h [2,3,6,7] O4 λh=>?_
 refine sq<|rg λK k=>s1 h O (ab O cB O Z3 O O) λa h=>s1 h O (l1 H 3 A3) λa h=>sB h f O (aD O O) λeJ eZ f a h=>cz k<|cI h f O (λe3 f=>?_) λe3 f=>?_
 refine rg λK k=>s1 h O (lA H 3 aQ aq O3) λa h=>?_
 obtain⟨ff,f12,f⟩:=bo f
 refine st2 h O O O (dC call15 (aX (x0:=y7) f12)) ?_
 rintro v_ w ⟨ch,rfl,J,X⟩ a h
 obtain⟨Z,g,u,H⟩:=H.aP X
 have E:=E.sub g
 have G:=g _ _ G
 have J:=J.sub (ZB.empty.trans u)
 refine ap h H 2 O O O aL aA O O (by obtain⟨_,_,_,e_⟩:=(J).form;subst e_;rfl) (by simp) aA rfl (hl':=O4) rfl λw H=>?_
 refine cN k h [6] [_] λh=>?_
 cases f
 refine r1 hr h O (aO H 2 bQ aL aA) ⟨_,O,J.sub H.back,H.out⟩
 refine ag<|sq<|rg λK k=>s1 h O (ab O cB O Z2 O O) λa h=>s1 h O (l1 H 3 A2) λa h=>sI h f O (cm O O (by decide)) λep fs f a h=>ae 1 h rfl λa h=>cN k h [2,3,6,8] O4 λh=>?_
 refine rg λK k=>ae 1 h O λa h=>sB h f O (gI O O) λgb gf f a h=>ae 1 h O λa h=>ai h O O (gT O) O O (λe0=>an O) λa h=>?_
 refine ai h O O (gT O) O O (λe0=>ab O cD O hO O O) λa h=>?_
 refine ai h O O (gT O) O O (λe0=>aE (eg e0 O) iO (H.hp.get 0 O) O) λa h=>?_
 refine ai h O O (gT O) O O (λe0=>cd dZ (eg e0 O) E H.zin) λa h=>?_
 obtain⟨gg,er,f⟩:=bv f
 refine ai h O O (gT O) O O (λe0=>vB er (bn (eg e0 O) (eg e0 O))) λa h=>?_
 refine sB h f O (bK O O) λgl gm f a h=>cN k h [2,3,6,8,31] O5 λh=>?_
 refine cI h f O (λe4 f=>?_) λe4 f=>?_
 refine rg λK k=>s1 h O (ab O cD O hO O O) λa h=>s1 h O (l1 H 0 iO) λa h=>ae 1 h O λa h=>?_
 obtain⟨e6,f⟩:=ck f
 obtain⟨h0,et,f⟩:=bv f
 have b0:=E.gel ⟨_,aC⟩ ep
 rw[<-et]at b0
 obtain⟨ei,eu,b7,bb,b0⟩:=b0
 obtain⟨cp,b3,ad⟩:=bd b0
 refine bJ h dZ aL O O (b7.at H.zin) e6.1 (bb e6) b3 O λa h2 bk h=>?_
 refine s1 h O (ay aA O bk bQ aL O O) λa h=>ae 1 h O λa h=>?_
 obtain⟨h3,f23,f⟩:=bo f
 refine st2 h O O O (dC call54 (ij f23 H.zin ad G b6 (hG.ext H.out))) ?_
 rintro v_ w ⟨ct,rfl,W,X⟩ a h
 obtain⟨Z,g,u,H⟩:=H.aP X
 have ad:=ad.sub g
 have E:=E.sub g
 have G:=g _ _ G
 have W:=W.sub u
 have bk:=At.ext bk X
 refine ap h H 2 O O O aL aA O O (by obtain⟨_,_,_,e_⟩:=(W).form;subst e_;rfl) (by simp) aA rfl (hl':=O4) rfl λw H=>?_
 refine cN k h [6] [_] λh=>?_
 cases f
 refine r1 hr h O (aO H 2 bQ aL aA) ⟨_,O,W.sub H.back,H.out⟩
 refine ag<|cO h [6] [_] λh=>?_
 refine rg λK k=>sC h H f O (λe7 f25=>dC call18 (az f25 :)) λe7 f w X H a h=>?_
 obtain⟨h4,f26,f⟩:=bo f
 refine st2 h O O O (dC call15 (aX (x0:=e7) f26)) ?_
 rintro v_ w ⟨cx,rfl,Y,X⟩ a h
 obtain⟨Z,g,u,H⟩:=H.aP X
 have E:=E.sub g
 have G:=g _ _ G
 have Y:=Y.sub (ZB.empty.trans u)
 refine ap h H 2 O O O aL aA O O (by obtain⟨_,_,_,e_⟩:=(Y).form;subst e_;rfl) (by simp) aA rfl (hl':=O4) rfl λw H=>?_
 refine cz k ?_
 cases f
 refine r1 hr h O (aO H 2 bQ aL aA) ⟨_,O,Y.sub H.back,H.out⟩
 refine ag<|rg λK k=>s1 h O (lA H 1 aQ aq O3) λa h=>sC h H f O (λe8 f28=>dC call56 (gc f28 :)) λe8 f w X H a h=>?_
 refine zA h H eX O3 (λx=>[_,_,_,x]) λa h5 w X H h=>?_
 refine zS h H 3 aq O3 O3 O4 λw H=>?_
 refine cN k h [2,3,6,9] O4 λh=>?_
 refine sb ?_
 refine rg λK k=>s1 h O (ab O cB O Z3 O O) λa h=>s1 h O (l1 H 3 A3) λa h=>sB h f O (aD O O) λh6 h7 f a h=>ae 1 h O λa h=>cz k<|cI h f O (λe9 f=>?_) λe9 f=>?_
 refine rg λK k=>s1 h O (lA H 3 aQ aq O3) λa h=>?_
 obtain⟨h8,f33,f⟩:=bo f
 refine st2 h O O O (dC call15 (aX (x0:=e8) f33)) ?_
 rintro v_ w ⟨cy,rfl,a1,X⟩ a h
 obtain⟨Z,g,u,H⟩:=H.aP X
 have E:=E.sub g
 have G:=g _ _ G
 have a1:=a1.sub (ZB.empty.trans u)
 refine ap h H 2 O O O aL aA O O (by obtain⟨_,_,_,e_⟩:=(a1).form;subst e_;rfl) (by simp) aA rfl (hl':=O4) rfl λw H=>?_
 refine cN k h [6] [_] λh=>?_
 cases f
 refine r1 hr h O (aO H 2 bQ aL aA) ⟨_,O,a1.sub H.back,H.out⟩
 refine rg λK k=>s1 h O (ab O cB O Z2 O O) λa h=>s1 h O (l1 H 3 A2) λa h=>sB h f O (aD O O) λh9 ha f a h=>ae 1 h O λa h=>cN k h [2,3,6,49] O4 λh=>?_
 refine cI h f O (λea f=>?_) λea f=>?_
 refine rg λK k=>s1 h O (ab O cD O hO O O) λa h=>s1 h O (l1 H 0 iO) λa h=>?_
 obtain⟨eb,f⟩:=ck f
 obtain⟨hb,ew,f⟩:=bv f
 have b1:=E.gel ⟨_,aC⟩ 1
 rw[<-ew]at b1
 obtain⟨ej,ey,bq,bs,b1⟩:=b1
 obtain⟨da,b4,af⟩:=bd b1
 refine bJ h dZ aL O O (bq.at H.zin) eb.1 (bs eb) b4 O λa hc c6 h=>?_
 refine s1 h O (ay aA O c6 bQ aL O O) λa h=>ae 1 h O λa h=>?_
 obtain⟨hf,f40,f⟩:=bo f
 refine st2 h O O O (dC call54 (ij f40 H.zin af G b6 (hG.ext H.out))) ?_
 rintro v_ w ⟨dd,rfl,a6,X⟩ a h
 obtain⟨Z,g,u,H⟩:=H.aP X
 have af:=af.sub g
 have E:=E.sub g
 have G:=g _ _ G
 have a6:=a6.sub u
 have c6:=At.ext c6 X
 refine ap h H 2 O O O aL aA O O (by obtain⟨_,_,_,e_⟩:=(a6).form;subst e_;rfl) (by simp) aA rfl (hl':=O4) rfl λw H=>?_
 refine cN k h [6] [_] λh=>?_
 cases f
 refine r1 hr h O (aO H 2 bQ aL aA) ⟨_,O,a6.sub H.back,H.out⟩
 refine rg λK k=>s1 h O (ab O cD O hO O O) λa h=>s1 h O (l1 H 0 iO) λa h=>s1 h O (cd dZ O E H.zin) λa h=>sB h f O (aD O O) λhg hj f a h=>ae 1 h O λa h=>cN k h [2,3,6,59] O4 λh=>?_
 refine cI h f O (λec f=>?_) λec f=>?_
 refine rg λK k=>s1 h O (ab O cD O hO O O) λa h=>s1 h O (l1 H 0 iO) λa h=>?_
 obtain⟨ed,f⟩:=ck f
 obtain⟨hn,ez,f⟩:=bv f
 have b2:=E.gel ⟨_,aC⟩ 2
 rw[<-ez]at b2
 obtain⟨el,eF,c7,c8,b2⟩:=b2
 obtain⟨dj,b5,ao⟩:=bd b2
 refine bJ h dZ aL O O (c7.at H.zin) ed.1 (c8 ed) b5 O λa ho cc h=>?_
 refine s1 h O (ay aA O cc bQ aL O O) λa h=>ae 1 h O λa h=>?_
 obtain⟨hq,f47,f⟩:=bo f
 refine st2 h O O O (dC call54 (ij f47 H.zin ao G b6 (hG.ext H.out))) ?_
 rintro v_ w ⟨dn,rfl,a7,X⟩ a h
 obtain⟨Z,g,u,H⟩:=H.aP X
 have ao:=ao.sub g
 have E:=E.sub g
 have G:=g _ _ G
 have a7:=a7.sub u
 have cc:=At.ext cc X
 refine ap h H 2 O O O aL aA O O (by obtain⟨_,_,_,e_⟩:=(a7).form;subst e_;rfl) (by simp) aA rfl (hl':=O4) rfl λw H=>?_
 refine cN k h [6] [_] λh=>?_
 cases f
 refine r1 hr h O (aO H 2 bQ aL aA) ⟨_,O,a7.sub H.back,H.out⟩
 refine ag<|rg λK k=>sC h H f O (λef f49=>dC call17 (bh f49 :)) λef f w X H a h=>?_
 obtain⟨ht,f50,f⟩:=bo f
 refine st2 h O O O (dC call15 (aX (x0:=ef) f50)) ?_
 rintro v_ w ⟨dv,rfl,a8,X⟩ a h
 obtain⟨Z,g,u,H⟩:=H.aP X
 have E:=E.sub g
 have G:=g _ _ G
 have a8:=a8.sub (ZB.empty.trans u)
 refine ap h H 2 O O O aL aA O O (by obtain⟨_,_,_,e_⟩:=(a8).form;subst e_;rfl) (by simp) aA rfl (hl':=O4) rfl λw H=>?_
 refine cN k h [6] [_] λh=>?_
 cases f
 refine r1 hr h O (aO H 2 bQ aL aA) ⟨_,O,a8.sub H.back,H.out⟩
theorem sw{rec:Nd->(List V)->Option (Nd)}(ch:nH rec){x0:Nd}{x1:List V}{F:Nd}{w0:World}(g:ka rec x0 x1=some F){Z:FZ}(hZ:Z.inn w0){b0:Value}(G:bi Z b0 aj x0.l){b1:Nat}(a6:Z b1=some (aB ((x1:List V).flatMap vL) 54)) (b5:x1.length=128) (hG:GW w0):Calls prog 35 [(nA x0 b0),.iface 36 (pt b1)].toArray w0 (bj λv w=>∃u1,v=.agg #[I F.k,I F.op,I F.v.k,I F.v.n,S F.v.s,I F.a.c.s,I F.a.c.c,I F.a.c.r,.bool F.a.ac,.bool F.a.ar,I F.b.c.s,I F.b.c.c,I F.b.c.r,.bool F.b.ac,.bool F.b.ar,S F.nm,u1]/\bi (ZB Z w0.heap.size w) u1 aj F.l/\Ext w0 w):=by
 refine o6 hZ func35 [0,1] O2 λQ a Zi cp H h hr=>?_
 try rw[<-cp]at hr
 clear cp
 unfold ka at g
 refine rg λK k=>aZ h H O aA O O λa p1 w X H h=>?_
 have H:HZ w0 _ _ [_] _:=H
 refine zA h H iS aA (λx=>[_,x]) λa p2 w X H h=>?_
 refine cz k<|rg λK k=>s1 h O (ab O cD O hO O O) λa h=>s1 h O (l1 H 0 iO) λa h=>?_
 obtain⟨c3,g⟩:=ck g
 obtain⟨z4,e4,g⟩:=bv g
 have b2:=G.gel ⟨_,aC⟩ 0
 rw[<-e4]at b2
 obtain⟨e7,eo,ct,cx,b2⟩:=b2
 obtain⟨af,b6,f⟩:=bd b2
 refine bJ h dZ aL O O (ct.at H.zin) c3.1 (cx c3) b6 O λa ep b7 h=>?_
 refine s1 h O (ay aA O b7 bQ aL O O) λa h=>zA h H iS aA (λx=>[_,_,x]) λa p6 w X H h=>?_
 have b7:=At.ext b7 X
 refine ap h H 2 O O O aL aA O O (by obtain⟨_,_,_,e_⟩:=(f).form;subst e_;rfl) (by simp) aA rfl (hl':=O3) rfl λw H=>?_
 refine cN k h [1,2,4,5] O4 λh=>?_
 refine sq<|rg λK k=>s1 h O (lA H 2 bQ aL aA) λa h=>sC h H g O (λy8 f8=>dC call32 (i7 f8 (f.hz H.zin) :)) λy8 g w X H a h=>?_
 refine sB h g O (dI O) λz9 e9 g a h=>cz k<|cI h g O (λcy g=>?_) λcy g=>?_
 refine rg λK k=>s1 h O (lA H 0 bQ aL aA) λa h=>ae 1 h O λa h=>?_
 obtain⟨er,f11,g⟩:=bo g
 refine st2 h O O O (dC call53 (mK ch f11 H.zin G a6 b5 (hG.ext H.out))) ?_
 rintro v_ w ⟨bs,rfl,J,X⟩ a h
 obtain⟨Z,u,ad,H⟩:=H.aP X
 have f:=f.sub u
 have G:=G.sub u
 have a6:=u _ _ a6
 have J:=J.sub ad
 refine ap h H 1 O O O aL aA O O (by obtain⟨_,_,_,e_⟩:=(J).form;subst e_;rfl) (by simp) aA rfl (hl':=O3) rfl λw H=>?_
 refine cN k h [4] [_] λh=>?_
 cases g
 refine r1 hr h O (aO H 1 bQ aL aA) ⟨_,O,J.sub H.back,H.out⟩
 refine ag<|rg λK k=>s1 h O (ab O cD O aq O O) λa h=>s1 h O (lA H 2 aQ aq O3) λa h=>zA h H eX O3 (λx=>[_,_,_,x]) λa da w X H h=>?_
 refine zS h H 3 aq O3 O3 O4 λw H=>?_
 refine cN k h [1,2,4,5,6] O5 λh=>?_
 refine sq<|rg λK k=>s1 h O (ab O cD O Z3 O O) λa h=>s1 h O (l1 H 0 A3) λa h=>cz k<|lb<|rg λK k=>sB h g O (aD O O) λet eu g a h=>ae 1 h O λa h=>cz k<|cI h g O (λdd g=>?_) λdd g=>?_
 refine sq<|rg λK k=>s1 h O (ab O cB O Z3 O O) λa h=>s1 h O (l1 H 3 A3) λa h=>sB h g O (aD O O) λew ey g a h=>cN k h [1,2,4,5,26] O5 λh=>?_
 refine cI h g O (λdj g=>?_) λdj g=>?_
 refine rg λK k=>s1 h O (ab O cD O hO O O) λa h=>s1 h O (l1 H 0 iO) λa h=>?_
 obtain⟨dn,g⟩:=ck g
 obtain⟨ez,e8,g⟩:=bv g
 have ao:=G.gel ⟨_,aC⟩ 1
 rw[<-e8]at ao
 obtain⟨e6,ea,bb,bk,ao⟩:=ao
 obtain⟨c6,b3,a8⟩:=bd ao
 refine bJ h dZ aL O O (bb.at H.zin) dn.1 (bk dn) b3 O λa eF iT h=>?_
 refine s1 h O (ay aA O iT bQ aL O O) λa h=>ae 1 h O λa h=>?_
 obtain⟨eJ,f24,g⟩:=bo g
 refine st2 h O O O (dC call54 (ij f24 H.zin a8 a6 b5 (hG.ext H.out))) ?_
 rintro v_ w ⟨c7,rfl,W,X⟩ a h
 obtain⟨Z,u,ad,H⟩:=H.aP X
 have f:=f.sub u
 have a8:=a8.sub u
 have G:=G.sub u
 have a6:=u _ _ a6
 have W:=W.sub ad
 have iT:=At.ext iT X
 refine ap h H 1 O O O aL aA O O (by obtain⟨_,_,_,e_⟩:=(W).form;subst e_;rfl) (by simp) aA rfl (hl':=O4) rfl λw H=>?_
 refine cN k h [4] [_] λh=>?_
 cases g
 refine r1 hr h O (aO H 1 bQ aL aA) ⟨_,O,W.sub H.back,H.out⟩
 refine ag<|rg λK k=>s1 h O (lA H 2 bQ aL aA) λa h=>ap h H 1 O O O aL aA O O (by obtain⟨_,_,_,e_⟩:=(f).form;subst e_;rfl) (by simp) aA rfl (hl':=O4) rfl λw H=>?_
 refine cN k h [4] [_] λh=>?_
 cases g
 refine r1 hr h O (aO H 1 bQ aL aA) ⟨_,O,f.sub H.back,H.out⟩
 obtain⟨eb,dv,g⟩:=bv g
 refine dA (λa w=>∃(Z:FZ) (bq:Bool),eb bq=some F/\Fr 72 [(1,.iface 36 (pt b1)),(2,(pt p1)),(4,(pt p2)),(5,(pt p6)),(6,(pt da)),(34,.bool bq)] a/\HZ w0 Zi Z [.blk p1 (aB (nL x0 b0) 34),.blk p2 (aB [I 0,I 0,I 0,I 0,S [],I 0,I 0,I 0,.bool false,.bool false,I 0,I 0,I 0,.bool false,.bool false,S [],.slice none 0 0] 34),.blk p6 (aB (nL z4 af) 34),.blk da (aB (vL z4.v) 27)] w/\bi Z b0 aj x0.l/\bi Z af aj z4.l/\Z b1=some (aB ((x1:List V).flatMap vL) 54)) ?_ ?_
 rintro a w ⟨Z,bq,g,h,H,G,f,a6⟩
 subst dv
 refine cI h g O (λdz g=>?_) λdz g=>?_
 refine sq<|rg λK k=>s1 h O (ab O cB O Z3 O O) λa h=>s1 h O (l1 H 3 A3) λa h=>sB h g O (aD O O) λeZ ff g a h=>cz k<|cI h g O (λe1 g=>?_) λe1 g=>?_
 refine rg λK k=>s1 h O (lA H 2 bQ aL aA) λa h=>ap h H 1 O O O aL aA O O (by obtain⟨_,_,_,e_⟩:=(f).form;subst e_;rfl) (by simp) aA rfl (hl':=O4) rfl λw H=>?_
 refine cN k h [4] [_] λh=>?_
 cases g
 refine r1 hr h O (aO H 1 bQ aL aA) ⟨_,O,f.sub H.back,H.out⟩
 refine ag<|cO h [1,2,4,6] O4 λh=>?_
 refine rg λK k=>s1 h O (lA H 0 bQ aL aA) λa h=>s1 h O (lA H 3 aQ aq O3) λa h=>ae 1 h O λa h=>?_
 obtain⟨fs,f32,g⟩:=bo g
 refine st2 h O O O (dC call55 (qV f32 H.zin G a6 b5 (hG.ext H.out))) ?_
 rintro v_ w ⟨c8,rfl,Y,X⟩ a h
 obtain⟨Z,u,ad,H⟩:=H.aP X
 have f:=f.sub u
 have G:=G.sub u
 have a6:=u _ _ a6
 have Y:=Y.sub ad
 refine ap h H 1 O O O aL aA O O (by obtain⟨_,_,_,e_⟩:=(Y).form;subst e_;rfl) (by simp) aA rfl (hl':=O4) rfl λw H=>?_
 refine cN k h [4] [_] λh=>?_
 cases g
 refine r1 hr h O (aO H 1 bQ aL aA) ⟨_,O,Y.sub H.back,H.out⟩
 refine ag<|rg λK k=>s1 h O (lA H 3 aQ aq O3) λa h=>sC h H g O (λe2 f34=>dC call56 (gc f34 :)) λe2 g w X H a h=>?_
 refine zA h H eX O3 (λx=>[_,_,_,_,x]) λa gb w X H h=>?_
 refine zS h H 4 aq O3 O3 O5 λw H=>?_
 refine cN k h [2,4,7] O3 λh=>?_
 refine sq<|rg λK k=>s1 h O (ab O cB O Z3 O O) λa h=>s1 h O (l1 H 4 A3) λa h=>sB h g O (aD O O) λgf gg g a h=>ae 1 h O λa h=>ai h O O (gF O) O O (λe0=>ab O cB O Z2 O O) λa h=>?_
 refine ai h O O (gF O) O O (λe0=>aE (eg e0 O) A2 (H.hp.get 4 O) O) λa h=>?_
 obtain⟨gl,ec,g⟩:=bv g
 refine ai h O O (gF O) O O (λe0=>vB ec (aD (eg e0 O) O)) λa h=>?_
 refine ai h O O (gF O) O O (λe0=>ab O cD O Z3 O O) λa h=>?_
 refine ai h O O (gF O) O O (λe0=>aE (eg e0 O) A3 (H.hp.get 0 O) O) λa h=>?_
 obtain⟨gm,ed,g⟩:=bv g
 refine ai h O O (gF O) O O (λe0=>vB ed (aD (eg e0 O) O)) λa h=>?_
 obtain⟨h0,ef,g⟩:=bv g
 refine ai h O O (gF O) O O (λe0=>vB ef (tL U4 (eg e0 O) (eg e0 O))) λa h=>?_
 refine sB h g O (ca O O) λh2 h3 g a h=>ae 1 h O λa h=>ai h O O (gF O) O O (λe0=>ab O cD O hO O O) λa h=>?_
 refine ai h O O (gF O) O O (λe0=>aE (eg e0 O) iO (H.hp.get 0 O) O) λa h=>?_
 refine ai h O O (gF O) O O (λe0=>cd dZ (eg e0 O) G H.zin) λa h=>?_
 obtain⟨h4,ei,g⟩:=bv g
 refine ai h O O (gF O) O O (λe0=>vB ei (aD (eg e0 O) O)) λa h=>?_
 refine sB h g O (ca O O) λh5 h6 g a h=>cN k h [2,4,7,64] O4 λh=>?_
 refine cI h g O (λe3 g=>?_) λe3 g=>?_
 refine rg λK k=>s1 h O (lA H 4 aQ aq O3) λa h=>?_
 obtain⟨h7,f45,g⟩:=bo g
 refine st2 h O O O (dC call15 (aX (x0:=e2) f45)) ?_
 rintro v_ w ⟨cc,rfl,a1,X⟩ a h
 obtain⟨Z,u,ad,H⟩:=H.aP X
 have f:=f.sub u
 have G:=G.sub u
 have a6:=u _ _ a6
 have a1:=a1.sub (ZB.empty.trans ad)
 refine ap h H 1 O O O aL aA O O (by obtain⟨_,_,_,e_⟩:=(a1).form;subst e_;rfl) (by simp) aA rfl (hl':=O5) rfl λw H=>?_
 refine cN k h [4] [_] λh=>?_
 cases g
 refine r1 hr h O (aO H 1 bQ aL aA) ⟨_,O,a1.sub H.back,H.out⟩
 refine ag<|rg λK k=>s1 h O (ab O cD O hO O O) λa h=>s1 h O (l1 H 0 iO) λa h=>?_
 obtain⟨ej,g⟩:=ck g
 obtain⟨h8,el,g⟩:=bv g
 refine lY (E:=aj) h dZ aL O O G ej O λa b4 a7 h=>?_
 rw[<-el]at a7
 refine s1 h O (ab O cD O hO O O) λa h=>ap h H 0 O O O hO [b4] (by rw[a7.cells]) rfl (by obtain⟨_,_,_,e_⟩:=(a7).form;subst e_;rfl) (by simp) aA rfl (hl':=O5) rfl λw H=>?_
 refine cN k h [2,4] O2 λh=>?_
 refine rg λK k=>s1 h O (lA H 0 bQ aL aA) λa h=>ap h H 1 O O O aL aA O O (by obtain⟨_,_,_,e_⟩:=(a7).form;subst e_;rfl) (by simp) aA rfl (hl':=O5) rfl λw H=>?_
 refine cz k ?_
 cases g
 refine r1 hr h O (aO H 1 bQ aL aA) ⟨_,O,a7.sub H.back,H.out⟩
 refine rg λK k=>sB h g O (aD O O) λh9 ha g a h=>ae 1 h O λa h=>cN k h [1,2,4,5,6,21,34] O7 λh=>?_
 refine cI h g O (λe5 g=>?_) λe5 g=>?_
 exact ag (bp ⟨g,h.to,H,G,f,a6⟩)
 refine ah<|sB h g O (aD O O) λhb hc g a h=>ae 1 h O λa h=>am ?_
 exact bp ⟨g,h.to,H,G,f,a6⟩
theorem qA{rec:Nd->(List V)->Option (Nd)}(ad:nH rec){x0:Nd}{x1:List V}{F:Nd}{w0:World}(f:jr rec x0 x1=some F){Z:FZ}(hZ:Z.inn w0){a7:Value}(g:bi Z a7 aj x0.l){a8:Nat}(E:Z a8=some (aB ((x1:List V).flatMap vL) 54)) (af:x1.length=128) (hG:GW w0):Calls prog 11 [(nA x0 a7),.iface 36 (pt a8)].toArray w0 (bj λv w=>∃u1,v=.agg #[I F.k,I F.op,I F.v.k,I F.v.n,S F.v.s,I F.a.c.s,I F.a.c.c,I F.a.c.r,.bool F.a.ac,.bool F.a.ar,I F.b.c.s,I F.b.c.c,I F.b.c.r,.bool F.b.ac,.bool F.b.ar,S F.nm,u1]/\bi (ZB Z w0.heap.size w) u1 aj F.l/\Ext w0 w):=by
 refine o6 hZ func11 [0,1] O2 λQ a Zi b5 H h hr=>?_
 try rw[<-b5]at hr
 clear b5
 unfold jr at f
 refine rg λK k=>aZ h H O aA O O λa p1 w X H h=>?_
 have H:HZ w0 _ _ [_] _:=H
 refine zA h H iS aA (λx=>[_,x]) λa p2 w X H h=>?_
 refine cz k<|sq<|rg λK k=>s1 h O (ab O cD O Z3 O O) λa h=>s1 h O (l1 H 0 A3) λa h=>cz k<|lb<|rg λK k=>sB h f O (aD O O) λz5 e5 f a h=>ae 1 h O λa h=>cz k<|cI h f O (λc7 f=>?_) λc7 f=>?_
 refine rg λK k=>s1 h O (lA H 0 bQ aL aA) λa h=>ap h H 1 O O O aL aA O O (by obtain⟨_,_,_,e_⟩:=(g).form;subst e_;rfl) (by simp) aA rfl (hl':=O2) rfl λw H=>?_
 refine cN k h [4] [_] λh=>?_
 cases f
 refine r1 hr h O (aO H 1 bQ aL aA) ⟨_,O,g.sub H.back,H.out⟩
 obtain⟨J8,c8,f⟩:=bv f
 refine dA (λa w=>∃(Z:FZ) (s8:Bool),J8 s8=some F/\Fr 36 [(1,.iface 36 (pt a8)),(2,(pt p1)),(4,(pt p2)),(6,I x0.k),(10,.bool s8)] a/\HZ w0 Zi Z [.blk p1 (aB (nL x0 a7) 34),.blk p2 (aB [I 0,I 0,I 0,I 0,S [],I 0,I 0,I 0,.bool false,.bool false,I 0,I 0,I 0,.bool false,.bool false,S [],.slice none 0 0] 34)] w/\bi Z a7 aj x0.l/\Z a8=some (aB ((x1:List V).flatMap vL) 54)) ?_ ?_
 rintro a w ⟨Z,s8,f,h,H,g,E⟩
 subst c8
 refine cI h f O (λcc f=>?_) λcc f=>?_
 refine rg λK k=>s1 h O (lA H 0 bQ aL aA) λa h=>s1 h O (aS kY [] O3 O O) λa h=>ae 1 h O λa h=>?_
 obtain⟨ch,f10,f⟩:=bo f
 refine st2 h O O O (dC call7 (fy f10 H.zin g E af (hG.ext H.out))) ?_
 rintro v_ w ⟨b0,rfl,G,X⟩ a h
 obtain⟨Z,u,a6,H⟩:=H.aP X
 have g:=g.sub u
 have E:=u _ _ E
 have G:=G.sub (ZB.empty.trans a6)
 refine s1 h O (j7 O3 O zQ O aQ aq O) λa h=>?_
 obtain⟨ct,f12,f⟩:=bo f
 refine st2 h O O O (dC call15 (aX (x0:=ch.v) f12)) ?_
 rintro v_ w ⟨b1,rfl,J,X⟩ a h
 obtain⟨Z,u,a6,H⟩:=H.aP X
 have G:=G.sub u
 have g:=g.sub u
 have E:=u _ _ E
 have J:=J.sub (ZB.empty.trans a6)
 refine ap h H 1 O O O aL aA O O (by obtain⟨_,_,_,e_⟩:=(J).form;subst e_;rfl) (by simp) aA rfl (hl':=O2) rfl λw H=>?_
 refine cN k h [4] [_] λh=>?_
 cases f
 refine r1 hr h O (aO H 1 bQ aL aA) ⟨_,O,J.sub H.back,H.out⟩
 obtain⟨cp,b6,f⟩:=bv f
 refine dA (λa w=>∃(Z:FZ) (ao:Bool),cp ao=some F/\Fr 36 [(1,.iface 36 (pt a8)),(2,(pt p1)),(4,(pt p2)),(20,.bool ao)] a/\HZ w0 Zi Z [.blk p1 (aB (nL x0 a7) 34),.blk p2 (aB [I 0,I 0,I 0,I 0,S [],I 0,I 0,I 0,.bool false,.bool false,I 0,I 0,I 0,.bool false,.bool false,S [],.slice none 0 0] 34)] w/\bi Z a7 aj x0.l/\Z a8=some (aB ((x1:List V).flatMap vL) 54)) ?_ ?_
 rintro a w ⟨Z,ao,f,h,H,g,E⟩
 subst b6
 refine cI h f O (λb7 f=>?_) λb7 f=>?_
 refine rg λK k=>s1 h O (lA H 0 bQ aL aA) λa h=>ae 1 h O λa h=>?_
 obtain⟨cx,f17,f⟩:=bo f
 refine st2 h O O O (dC call34 (nQ ad f17 H.zin g E af (hG.ext H.out))) ?_
 rintro v_ w ⟨b2,rfl,W,X⟩ a h
 obtain⟨Z,u,a6,H⟩:=H.aP X
 have g:=g.sub u
 have E:=u _ _ E
 have W:=W.sub a6
 refine ap h H 1 O O O aL aA O O (by obtain⟨_,_,_,e_⟩:=(W).form;subst e_;rfl) (by simp) aA rfl (hl':=O2) rfl λw H=>?_
 refine cN k h [4] [_] λh=>?_
 cases f
 refine r1 hr h O (aO H 1 bQ aL aA) ⟨_,O,W.sub H.back,H.out⟩
 refine ag<|sq<|rg λK k=>s1 h O (ab O cD O Z3 O O) λa h=>s1 h O (l1 H 0 A3) λa h=>sB h f O (jX O O) λcy da f a h=>cz k<|cI h f O (λbb f=>?_) λbb f=>?_
 refine rg λK k=>s1 h O (lA H 0 bQ aL aA) λa h=>ae 1 h O λa h=>?_
 obtain⟨dd,f22,f⟩:=bo f
 refine st2 h O O O (dC call35 (sw ad f22 H.zin g E af (hG.ext H.out))) ?_
 rintro v_ w ⟨b3,rfl,Y,X⟩ a h
 obtain⟨Z,u,a6,H⟩:=H.aP X
 have g:=g.sub u
 have E:=u _ _ E
 have Y:=Y.sub a6
 refine ap h H 1 O O O aL aA O O (by obtain⟨_,_,_,e_⟩:=(Y).form;subst e_;rfl) (by simp) aA rfl (hl':=O2) rfl λw H=>?_
 refine cN k h [4] [_] λh=>?_
 cases f
 refine r1 hr h O (aO H 1 bQ aL aA) ⟨_,O,Y.sub H.back,H.out⟩
 refine ag<|cO h [1,2,4] O3 λh=>?_
 refine rg λK k=>s1 h O (lA H 0 bQ aL aA) λa h=>ae 1 h O λa h=>?_
 obtain⟨dj,f24,f⟩:=bo f
 refine st2 h O O O (dC call36 (pF ad f24 H.zin g E af (hG.ext H.out))) ?_
 rintro v_ w ⟨b4,rfl,a1,X⟩ a h
 obtain⟨Z,u,a6,H⟩:=H.aP X
 have g:=g.sub u
 have E:=u _ _ E
 have a1:=a1.sub a6
 refine ap h H 1 O O O aL aA O O (by obtain⟨_,_,_,e_⟩:=(a1).form;subst e_;rfl) (by simp) aA rfl (hl':=O2) rfl λw H=>?_
 refine cN k h [4] [_] λh=>?_
 cases f
 refine r1 hr h O (aO H 1 bQ aL aA) ⟨_,O,a1.sub H.back,H.out⟩
 refine rg λK k=>sB h f O (aD O O) λdn dv f a h=>ae 1 h O λa h=>cz k<|cI h f O (λbk f=>?_) λbk f=>?_
 exact ag (bp ⟨f,h.to,H,g,E⟩)
 refine rg λK k=>sB h f O (aD O O) λdz e0 f a h=>ae 1 h O λa h=>cz k<|cI h f O (λbq f=>?_) λbq f=>?_
 exact ag (bp ⟨f,h.to,H,g,E⟩)
 refine ah<|sB h f O (aD O O) λe1 e2 f a h=>ae 1 h O λa h=>am ?_
 exact bp ⟨f,h.to,H,g,E⟩
 refine rg λK k=>sB h f O (aD O O) λe3 e4 f a h=>ae 1 h O λa h=>cN k h [1,2,4,6,10] O5 λh=>?_
 refine cI h f O (λbs f=>?_) λbs f=>?_
 exact ag (bp ⟨f,h.to,H,g,E⟩)
 refine rg λK k=>sB h f O (aD O O) λe6 e7 f a h=>ae 1 h O λa h=>cz k<|cI h f O (λc6 f=>?_) λc6 f=>?_
 exact ag (bp ⟨f,h.to,H,g,E⟩)
 refine ah<|sB h f O (aD O O) λe8 e9 f a h=>ae 1 h O λa h=>am ?_
 exact bp ⟨f,h.to,H,g,E⟩
theorem oC(k:Nat):∀{x0:Nd}{x1:List V}{f:Nd}{w0:World}(E:step_One k x0 x1=some f){Z:FZ}(X:Z.inn w0){g:Value}(G:bi Z g aj x0.l){u:Nat}(H:Z u=some (aB ((x1:List V).flatMap vL) 54)) (J:x1.length=128) (Y:GW w0),Calls prog 11 [(nA x0 g),.iface 36 (pt u)].toArray w0 (bj λv w=>∃F,v=.agg #[I f.k,I f.op,I f.v.k,I f.v.n,S f.v.s,I f.a.c.s,I f.a.c.c,I f.a.c.r,.bool f.a.ac,.bool f.a.ar,I f.b.c.s,I f.b.c.c,I f.b.c.r,.bool f.b.ac,.bool f.b.ar,S f.nm,F]/\bi (ZB Z w0.heap.size w) F aj f.l/\Ext w0 w):=by
 induction k with
 |zero=>intro x0 x1 f w0 E;exact nomatch (show(none:Option (Nd))=some f from E)
 |succ k W=>exact @qA (step_One k) @W
theorem oG{x0:Nd}{x1:List V}{b0:(List (Nd))}{w0:World}(E:j8 x0 x1=some b0){Z:FZ}(hZ:Z.inn w0){b3:Value}(b4:bi Z b3 aj x0.l){ad:Nat}(J:Z ad=some (aB ((x1:List V).flatMap vL) 54)) (cp:x1.length=128) (hG:GW w0):Calls prog 8 [(nA x0 b3),.iface 36 (pt ad)].toArray w0 (bj λv w=>bi (ZB Z w0.heap.size w) v aj b0/\Ext w0 w):=by
 refine o6 hZ func8 [0,1] O2 λQ a Zi bb H h hr=>?_
 try rw[<-bb]at hr
 clear bb
 unfold j8 at E
 refine rg λK k=>aZ h H O aA O O λa p1 w X H h=>?_
 have H:HZ w0 _ _ [_] _:=H
 refine ae 1 h O λa h=>cz k<|rg λK k=>s1 h O (lA H 0 bQ aL aA) λa h=>yu h H dZ aL iS O O (zl:=[I 0,I 0,I 0,I 0,S [],I 0,I 0,I 0,.bool false,.bool false,I 0,I 0,I 0,.bool false,.bool false,S [],.slice none 0 0]) kR (cb 1 17) [_] aA O O O O λa dn w X H h=>?_
 have F:EL aj Z ([⟨(nL x0 b3),rfl⟩]:List (Cl 17)) [x0]:=⟨fw ⟨_,rfl,b4⟩,trivial⟩
 have H:HZ w0 _ _ O2 _:=H
 refine ae 1 h O λa h=>cN k h [1,2,5] O3 λh=>?_
 obtain⟨J4,ct,E⟩:=bv E
 refine dA (λa w=>∃(Z:FZ) (s4:Int × Int × Int × Int × (List UInt8) × Int × Int × Int × Bool × Bool × Int × Int × Int × Bool × Bool × (List UInt8) × (List (Nd)) × (List (Nd))) (W:Value) (b5:Value) (b1:List (Cl 17)),J4 s4=some b0/\Fr 24 [(5,b5)] a/\HZ w0 Zi Z [.blk p1 (aB [I s4.1,I s4.2.1,I s4.2.2.1,I s4.2.2.2.1,S s4.2.2.2.2.1,I s4.2.2.2.2.2.1,I s4.2.2.2.2.2.2.1,I s4.2.2.2.2.2.2.2.1,.bool s4.2.2.2.2.2.2.2.2.1,.bool s4.2.2.2.2.2.2.2.2.2.1,I s4.2.2.2.2.2.2.2.2.2.2.1,I s4.2.2.2.2.2.2.2.2.2.2.2.1,I s4.2.2.2.2.2.2.2.2.2.2.2.2.1,.bool s4.2.2.2.2.2.2.2.2.2.2.2.2.2.1,.bool s4.2.2.2.2.2.2.2.2.2.2.2.2.2.2.1,S s4.2.2.2.2.2.2.2.2.2.2.2.2.2.2.2.1,W] 34),.row 34 17 b5 b1.length (b1.flatMap Subtype.val)] w/\bi Z W aj s4.2.2.2.2.2.2.2.2.2.2.2.2.2.2.2.2.1/\EL aj Z b1 s4.2.2.2.2.2.2.2.2.2.2.2.2.2.2.2.2.2/\Z ad=some (aB ((x1:List V).flatMap vL) 54)) ?_ ?_
 rintro a w ⟨Z,s4,W,b5,b1,E,h,H,bk,F,J⟩
 subst ct
 refine rg λK k=>ae 2 h O λa h=>cz k ?_
 cases E
 refine r1 hr h O O ⟨H.tM (i:=1) O F,H.out⟩
 refine rg λK k=>s1 h O (lA H 0 bQ aL aA) λa h=>?_
 obtain⟨y7,f7,E⟩:=bo E
 refine d_ (T:=Ext) (V:=I y7) h O O O (dC call31 (sX KK f7 H.zin b4 (hG.ext H.out))) λw X a h=>?_
 have H:=H.ext X
 refine sI h E O (dB O O) λz8 e8 E a h=>ae 1 h O λa h=>cz k<|lb ?_
 obtain⟨cx,bq,E⟩:=bv E
 refine ib (λb6 a w=>∃(Z:FZ) (u:Int × Int × Int × Int × Int × (List UInt8) × Int × Int × Int × Bool × Bool × Int × Int × Int × Bool × Bool × (List UInt8) × (List (Nd)) × (List (Nd))) (G:Value) (af:Value) (a1:List (Cl 17)),loopF cx b6 u=some b0/\Fr 24 [(1,.iface 36 (pt ad)),(2,(pt p1)),(5,af),(10,I z8),(11,I u.1)] a/\HZ w0 Zi Z [.blk p1 (aB [I u.2.1,I u.2.2.1,I u.2.2.2.1,I u.2.2.2.2.1,S u.2.2.2.2.2.1,I u.2.2.2.2.2.2.1,I u.2.2.2.2.2.2.2.1,I u.2.2.2.2.2.2.2.2.1,.bool u.2.2.2.2.2.2.2.2.2.1,.bool u.2.2.2.2.2.2.2.2.2.2.1,I u.2.2.2.2.2.2.2.2.2.2.2.1,I u.2.2.2.2.2.2.2.2.2.2.2.2.1,I u.2.2.2.2.2.2.2.2.2.2.2.2.2.1,.bool u.2.2.2.2.2.2.2.2.2.2.2.2.2.2.1,.bool u.2.2.2.2.2.2.2.2.2.2.2.2.2.2.2.1,S u.2.2.2.2.2.2.2.2.2.2.2.2.2.2.2.2.1,G] 34),.row 34 17 af a1.length (a1.flatMap Subtype.val)] w/\bi Z G aj u.2.2.2.2.2.2.2.2.2.2.2.2.2.2.2.2.2.1/\EL aj Z a1 u.2.2.2.2.2.2.2.2.2.2.2.2.2.2.2.2.2.2/\Z ad=some (aB ((x1:List V).flatMap vL) 54)) KK ⟨_,_,_,_,_,E,h.to,H,b4,F,J⟩ ?_
 rintro b6 a w ⟨Z,u,G,af,a1,E,h,H,g,F,J⟩
 obtain⟨b6,rfl,dv,bs,E⟩:=iJ bq E
 refine rg λK k=>sB h E O (bn O O) λdz e0 E a h=>cz k<|sq<|cI h E O (λc6 E=>?_) λc6 E=>?_
 refine ag<|sb ?_
 refine sq<|rg λK k=>s1 h O (lA H 0 bQ aL aA) λa h=>sC h H E O (λcy f19=>dC call32 (i7 f19 (g.hz H.zin) :)) λcy E w X H a h=>?_
 refine cz k<|cI h E O (λc7 E=>?_) λc7 E=>?_
 exact aR (Af ⟨E,h.to,H,g,F,J⟩)
 refine ag<|rg λK k=>s1 h O (lA H 0 bQ aL aA) λa h=>ae 1 h O λa h=>?_
 obtain⟨c8,f21,E⟩:=bo E
 refine st2 h O O O (dC call11 (oC KK f21 H.zin g J cp (hG.ext H.out))) ?_
 rintro v_ w ⟨a8,rfl,f,X⟩ a h
 obtain⟨Z,Y,cc,H⟩:=H.aP X
 have F:=F.sub Y
 have g:=g.sub Y
 have J:=Y _ _ J
 have f:=f.sub cc
 refine ap h H 0 O O O aL aA O O (by obtain⟨_,_,_,e_⟩:=(f).form;subst e_;rfl) (by simp) aA rfl (hl':=O2) rfl λw H=>?_
 refine cN k h [1,2,5,10,11] O5 λh=>?_
 refine ah<|ae 1 h O λa h=>s1 h O (lA H 0 bQ aL aA) λa h=>cZ (enc:=(Subtype.val (p:=λl:List Value=>l.length=17))) ([⟨(nL c8 a8),O⟩]:List (Cl 17)) h H dZ aL iS O (zl:=[I 0,I 0,I 0,I 0,S [],I 0,I 0,I 0,.bool false,.bool false,I 0,I 0,I 0,.bool false,.bool false,S [],.slice none 0 0]) kR (cb 1 17) [_] aA O O O O O λa b2 Z w Y X H a6 h=>?_
 have F:=F.sub Y
 have f:=f.sub Y
 have J:=Y _ _ J
 have a6:bi Z b2 aj [c8]:=⟨_,a6,⟨fw ⟨_,rfl,f⟩,trivial⟩⟩
 obtain⟨da,E⟩:=ck E
 obtain⟨dd,dj,E⟩:=bv E
 obtain⟨ao,b7,a7⟩:=id a6
 refine cg (enc:=(Subtype.val (p:=λl:List Value=>l.length=17))) (out:=a1) (data:=ao) h H 1 O dZ tW O O O b7 (λc=>c.2) a7.one (Do F.len a7.len da) O λa ch w H h=>?_
 have F:=EL.append F a7
 rw[<-dj]at F
 have F:EL aj Z (List.append (α:=Cl 17) a1 ao) dd:=F
 have H:HZ w0 _ _ O2 _:=H
 refine ae 1 h O λa h=>am<|cO h [1,2,5,10,11] O5 λh=>?_
 refine ah<|sI h E O (aw O O) λe1 e2 E a h=>ae 1 h O λa h=>am ?_
 exact fK (Af ⟨fq bs E,h.to,H,f,F,J⟩)
 exact aR (Af ⟨E,h.to,H,g,F,J⟩)
end Go.Proofs.YtnllbjchcfpmpaaGreatDoor
