/- Joined texts. -/
import Derived.Test.YtnllbjchcfpmpaaGreatDoorMWkCl
set_option linter.all false
namespace Go.Proofs.YtnllbjchcfpmpaaGreatDoor
open Go.Stp Go.RowKit Go.ValP Go.Sp _root_.Go.Proofs.Tryz
set_option maxRecDepth 100000
set_option maxHeartbeats 2000000
def rW(rec:Rn->Nd->(List (C × Bool))->Option ((Gt) × List (C × Bool))):Prop:=∀{x0:Rn}{G:Nd}{H:List (C × Bool)}{f:(Gt) × List (C × Bool)}{w0:World}(hS:rec x0 G H=some f){Z:FZ}(hZ:Z.inn w0){u:Value}(W:bi Z u aj G.l){E F g:Nat}(X:Z E=some (aB [.iface 36 (pt F),I x0.c.s,I x0.c.c,I x0.c.r,.map (some g)] 74)) (Y:Z F=some (aB ((x0.p:List V).flatMap vL) 54)) (lp0:x0.p.length=128) (a1:w0.heap[g]?=some (cJ cV Value.bool H)) (a6:Z g=none){J:Bs}(eB:J=⟨w0,[g]⟩){Zi:FZ}(eZ:Zi=Z) (hG:GW w0),Calls prog 27 [(pt E),(nA G u)].toArray w0 (bj λv w=>v=.agg #[I f.1.v.k,I f.1.v.n,S f.1.v.s,I f.1.c.s,I f.1.c.c,I f.1.c.r]/\w.heap[g]?=some (cJ cV Value.bool f.2)/\ExtB J w)
theorem jO{rec:Rn->Nd->(List (C × Bool))->Option ((Gt) × List (C × Bool))}(Y:rW rec){x0:Rn}{x1:Nd}{m0:List (C × Bool)}{f:(Gt) × List (C × Bool)}{w0:World}(g:aV rec x0 x1 m0=some f){Z:FZ}(hZ:Z.inn w0){a1:Value}(J:bi Z a1 aj x1.l){a6 a7 u:Nat}(F:Z a6=some (aB [.iface 36 (pt a7),I x0.c.s,I x0.c.c,I x0.c.r,.map (some u)] 74)) (G:Z a7=some (aB ((x0.p:List V).flatMap vL) 54)) (lp0:x0.p.length=128) (a8:w0.heap[u]?=some (cJ cV Value.bool m0)) (af:Z u=none){W:Bs}(eB:W=⟨w0,[u]⟩){Zi:FZ}(eZ:Zi=Z) (hG:GW w0):Calls prog 77 [(pt a6),(nA x1 a1)].toArray w0 (bj λv w=>v=.agg #[I f.1.v.k,I f.1.v.n,S f.1.v.s,I f.1.c.s,I f.1.c.c,I f.1.c.r]/\w.heap[u]?=some (cJ cV Value.bool f.2)/\ExtB W w):=by
 have H:HZ W Zi Z [.blk u (cJ cV Value.bool m0)] w0:=by rw[eB,eZ];exact HZ.dH hZ a8 af
 refine tf func77 [0,1] O2 λQ a h hr hn=>?_
 have ao:∀w,ExtB W w->GW w:=λw X=>hG.Bz a8 eB X
 clear eB eZ
 have H:HZ W _ _ [_] _:=H
 unfold aV at g
 refine rg λK k=>aZ h H O aA O O λa p1 w X H h=>?_
 have H:HZ W _ _ O2 _:=H
 refine zA h H td O6 (λx=>[_,_,x]) λa p2 w X H h=>?_
 refine cz k<|rg λK k=>ae 1 h O λa h=>s1 h O (lA H 1 bQ aL aA) λa h=>?_
 obtain⟨y3,f3,g⟩:=bo g
 refine st2 h O O O (dC call27 (Y f3 H.zin J F G lp0 (H.hp.get 0 O) (H.dG 0 O _ O) O O (ao _ H.a_))) ?_
 rintro v_ w ⟨rfl,ad,X⟩ a h
 obtain⟨Z,E,b2,H⟩:=H.b_ 0 rfl ad X (hl':=O3) rfl
 have J:=J.sub E
 have G:=E _ _ G
 have F:=E _ _ F
 have H:HZ W _ _ O3 _:=H
 refine zA h H td O6 (λx=>[_,_,_,x]) λa p5 w X H h=>?_
 refine zS h H 3 eA O6 O6 O4 λw H=>?_
 refine cN k h [0,4,5] O3 λh=>?_
 refine sq<|rg λK k=>s1 h O (ab O rA O aq O O) λa h=>s1 h O (ab O cB O Z3 O O) λa h=>s1 h O (l1 H 3 A3) λa h=>sB h g O (aD O O) λz7 e7 g a h=>cz k<|cI h g O (λb0 g=>?_) λb0 g=>?_
 refine rg λK k=>s1 h O (lA H 3 j2 eA O6) λa h=>zS h H 2 eA O6 O6 O4 λw H=>?_
 refine cN k h [4] [_] λh=>?_
 cases g
 refine r1 hr h O (aO H 2 j2 eA O6) ⟨O,H.hp.get 0 O,H.a_⟩
 refine ag<|cO h [0,4,5] O3 λh=>?_
 refine rg λK k=>ae 1 h O λa h=>s1 h O (ab O rA O aq O O) λa h=>s1 h O (lA H 3 aQ aq O3) λa h=>sC h H g O (λy9 f9=>dC call56 (gc f9 :)) λy9 g w X H a h=>?_
 obtain⟨b1,f10,g⟩:=bo g
 refine d_ (T:=Ext) (V:=(gA b1)) h O O O (dC call43 (bO f10 H.zin F G lp0)) λw X a h=>?_
 have H:=H.ext X
 refine zS h H 2 eA O6 O6 O4 λw H=>?_
 refine cN k h [4] [_] λh=>?_
 cases g
 refine r1 hr h O (aO H 2 j2 eA O6) ⟨O,H.hp.get 0 O,H.a_⟩
theorem nZ{rec:Rn->Nd->(List (C × Bool))->Option ((Gt) × List (C × Bool))}(af:rW rec){x0:Rn}{x1:Nd}{m0:List (C × Bool)}{ao:(Gt) × List (C × Bool)}{w0:World}(f:aF rec x0 x1 m0=some ao){Z:FZ}(hZ:Z.inn w0){b0:Value}(F:bi Z b0 aj x1.l){b3 b4 a1:Nat}(u:Z b3=some (aB [.iface 36 (pt b4),I x0.c.s,I x0.c.c,I x0.c.r,.map (some a1)] 74)) (E:Z b4=some (aB ((x0.p:List V).flatMap vL) 54)) (lp0:x0.p.length=128) (gf:w0.heap[a1]?=some (cJ cV Value.bool m0)) (hX:Z a1=none){B0:Bs}(eB:B0=⟨w0,[a1]⟩){Zi:FZ}(eZ:Zi=Z) (hG:GW w0):Calls prog 48 [(pt b3),(nA x1 b0)].toArray w0 (bj λv w=>v=.agg #[I ao.1.v.k,I ao.1.v.n,S ao.1.v.s,I ao.1.c.s,I ao.1.c.c,I ao.1.c.r]/\w.heap[a1]?=some (cJ cV Value.bool ao.2)/\ExtB B0 w):=by
 have H:HZ B0 Zi Z [.blk a1 (cJ cV Value.bool m0)] w0:=by rw[eB,eZ];exact HZ.dH hZ gf hX
 refine tf func48 [0,1] O2 λQ a h hr hn=>?_
 have b7:∀w,ExtB B0 w->GW w:=λw X=>hG.Bz gf eB X
 clear eB eZ
 have H:HZ B0 _ _ [_] _:=H
 unfold aF at f
 refine rg λK k=>aZ h H O aA O O λa p1 w X H h=>?_
 have H:HZ B0 _ _ O2 _:=H
 refine zA h H td O6 (λx=>[_,_,x]) λa p2 w X H h=>?_
 refine cz k ?_
 obtain⟨J4,hY,f⟩:=bv f
 refine dA (λa w=>∃(Z:FZ) (s4:(List (C × Bool)) × Int × Int × (List UInt8) × Int × Int × Int),J4 s4=some ao/\Fr 150 [(0,(pt b3)),(3,(pt p1)),(4,(pt p2))] a/\HZ B0 Zi Z [.blk a1 (cJ cV Value.bool s4.1),.blk p1 (aB (nL x1 b0) 34),.blk p2 (aB [I s4.2.1,I s4.2.2.1,S s4.2.2.2.1,I s4.2.2.2.2.1,I s4.2.2.2.2.2.1,I s4.2.2.2.2.2.2] 76)] w/\bi Z b0 aj x1.l/\Z b4=some (aB ((x0.p:List V).flatMap vL) 54)/\Z b3=some (aB [.iface 36 (pt b4),I x0.c.s,I x0.c.c,I x0.c.r,.map (some a1)] 74)) ?_ ?_
 rintro a w ⟨Z,s4,f,h,H,F,E,u⟩
 subst hY
 refine rg λK k=>ae 1 h O λa h=>s1 h O (ab O cD O hO O O) λa h=>s1 h O (l1 H 1 iO) λa h=>?_
 obtain⟨c5,f⟩:=ck f
 obtain⟨z6,e6,f⟩:=bv f
 have cc:=F.gel ⟨_,aC⟩ 0
 rw[<-e6]at cc
 obtain⟨ih,na,gg,gl,cc⟩:=cc
 obtain⟨eF,dz,a6⟩:=bd cc
 refine bJ h dZ aL O O (gg.at H.zin) c5.1 (gl c5) dz O λa nb gm h=>?_
 refine s1 h O (ay aA O gm bQ aL O O) λa h=>?_
 obtain⟨y8,f8,f⟩:=bo f
 refine st2 h O O O (dC call77 (jO af f8 H.zin a6 u E lp0 (H.hp.get 0 O) (H.dG 0 O _ O) O O (b7 _ H.a_))) ?_
 rintro v_ w ⟨rfl,h0,X⟩ a h
 obtain⟨Z,g,b1,H⟩:=H.b_ 0 rfl h0 X (hl':=O3) rfl
 have a6:=a6.sub g
 have F:=F.sub g
 have E:=g _ _ E
 have u:=g _ _ u
 have H:HZ B0 _ _ O3 _:=H
 refine zA h H td O6 (λx=>[_,_,_,x]) λa uM w X H h=>?_
 refine zS h H 3 eA O6 O6 O4 λw H=>?_
 refine cN k h [0,3,4,12] O4 λh=>?_
 refine sb ?_
 refine rg λK k=>s1 h O (ab O rA O aq O O) λa h=>s1 h O (ab O cB O Z3 O O) λa h=>s1 h O (l1 H 3 A3) λa h=>sB h f O (aD O O) λoh p0 f a h=>ae 1 h O λa h=>cN k h [0,3,4,12,119] O5 λh=>?_
 refine cI h f O (λh2 f=>?_) λh2 f=>?_
 refine rg λK k=>s1 h O (lA H 3 j2 eA O6) λa h=>zS h H 2 eA O6 O6 O4 λw H=>?_
 refine cN k h [4] [_] λh=>?_
 cases f
 refine r1 hr h O (aO H 2 j2 eA O6) ⟨O,H.hp.get 0 O,H.a_⟩
 refine rg λK k=>s1 h O (ab O rA O aq O O) λa h=>s1 h O (ab O cB O Z2 O O) λa h=>s1 h O (l1 H 3 A2) λa h=>sB h f O (aD O O) λp6 p7 f a h=>ae 1 h O λa h=>cN k h [0,3,4,125] O4 λh=>?_
 refine cI h f O (λh3 f=>?_) λh3 f=>?_
 refine rg λK k=>ae 1 h O λa h=>s1 h O (ab O cD O hO O O) λa h=>s1 h O (l1 H 1 iO) λa h=>?_
 obtain⟨h4,f⟩:=ck f
 obtain⟨p8,jo,f⟩:=bv f
 have bb:=F.gel ⟨_,aC⟩ 1
 rw[<-jo]at bb
 obtain⟨hP,k1,e1,e2,bb⟩:=bb
 obtain⟨e3,ch,W⟩:=bd bb
 refine bJ h dZ aL O O (e1.at H.zin) h4.1 (e2 h4) ch O λa nk h5 h=>?_
 refine s1 h O (ay aA O h5 bQ aL O O) λa h=>?_
 obtain⟨p9,f19,f⟩:=bo f
 refine st2 h O O O (dC call27 (af f19 H.zin W u E lp0 (H.hp.get 0 O) (H.dG 0 O _ O) O O (b7 _ H.a_))) ?_
 rintro v_ w ⟨rfl,e4,X⟩ a h
 obtain⟨Z,g,b1,H⟩:=H.b_ 0 rfl e4 X (hl':=O4) rfl
 have W:=W.sub g
 have F:=F.sub g
 have E:=g _ _ E
 have u:=g _ _ u
 have H:HZ B0 _ _ O4 _:=H
 refine zS h H 2 eA O6 O6 O4 λw H=>?_
 refine cN k h [4] [_] λh=>?_
 cases f
 refine r1 hr h O (aO H 2 j2 eA O6) ⟨O,H.hp.get 0 O,H.a_⟩
 refine rg λK k=>s1 h O (ab O cD O hO O O) λa h=>s1 h O (l1 H 1 iO) λa h=>s1 h O (cd dZ O F H.zin) λa h=>sB h f O (aD O O) λpa pb f a h=>ae 1 h O λa h=>cN k h [0,3,4,136] O4 λh=>?_
 refine cI h f O (λh6 f=>?_) λh6 f=>?_
 refine rg λK k=>ae 1 h O λa h=>s1 h O (ab O cD O hO O O) λa h=>s1 h O (l1 H 1 iO) λa h=>?_
 obtain⟨h7,f⟩:=ck f
 obtain⟨pe,k2,f⟩:=bv f
 have bk:=F.gel ⟨_,aC⟩ 2
 rw[<-k2]at bk
 obtain⟨hQ,k4,e5,e7,bk⟩:=bk
 obtain⟨e8,cp,Y⟩:=bd bk
 refine bJ h dZ aL O O (e5.at H.zin) h7.1 (e7 h7) cp O λa nl h8 h=>?_
 refine s1 h O (ay aA O h8 bQ aL O O) λa h=>?_
 obtain⟨ps,f26,f⟩:=bo f
 refine st2 h O O O (dC call27 (af f26 H.zin Y u E lp0 (H.hp.get 0 O) (H.dG 0 O _ O) O O (b7 _ H.a_))) ?_
 rintro v_ w ⟨rfl,e9,X⟩ a h
 obtain⟨Z,g,b1,H⟩:=H.b_ 0 rfl e9 X (hl':=O4) rfl
 have Y:=Y.sub g
 have F:=F.sub g
 have E:=g _ _ E
 have u:=g _ _ u
 have H:HZ B0 _ _ O4 _:=H
 refine zS h H 2 eA O6 O6 O4 λw H=>?_
 refine cN k h [4] [_] λh=>?_
 cases f
 refine r1 hr h O (aO H 2 j2 eA O6) ⟨O,H.hp.get 0 O,H.a_⟩
 refine ag<|rg λK k=>ae 1 h O λa h=>sC h H f O (λk5 f28=>dC call17 (bh f28 :)) λk5 f w X H a h=>?_
 obtain⟨k6,f29,f⟩:=bo f
 refine d_ (T:=Ext) (V:=(gA k6)) h O O O (dC call43 (bO f29 H.zin u E lp0)) λw X a h=>?_
 have H:=H.ext X
 refine zS h H 2 eA O6 O6 O4 λw H=>?_
 refine cN k h [4] [_] λh=>?_
 cases f
 refine r1 hr h O (aO H 2 j2 eA O6) ⟨O,H.hp.get 0 O,H.a_⟩
 refine rg λK k=>s1 h O (ab O cD O Z3 O O) λa h=>s1 h O (l1 H 1 A3) λa h=>cz k<|lb<|rg λK k=>sB h f O (aD O O) λq0 q3 f a h=>ae 1 h O λa h=>cz k<|cI h f O (λh9 f=>?_) λh9 f=>?_
 refine rg λK k=>ae 1 h O λa h=>s1 h O (ab O cD O hO O O) λa h=>s1 h O (l1 H 1 iO) λa h=>?_
 obtain⟨ha,f⟩:=ck f
 obtain⟨q4,k7,f⟩:=bv f
 have bq:=F.gel ⟨_,aC⟩ 0
 rw[<-k7]at bq
 obtain⟨hR,k8,ea,eb,bq⟩:=bq
 obtain⟨eJ,ct,a7⟩:=bd bq
 refine bJ h dZ aL O O (ea.at H.zin) ha.1 (eb ha) ct O λa q5 k9 h=>?_
 refine s1 h O (ay aA O k9 bQ aL O O) λa h=>?_
 obtain⟨q6,f36,f⟩:=bo f
 refine st2 h O O O (dC call27 (af f36 H.zin a7 u E lp0 (H.hp.get 0 O) (H.dG 0 O _ O) O O (b7 _ H.a_))) ?_
 rintro v_ w ⟨rfl,ec,X⟩ a h
 obtain⟨Z,g,b1,H⟩:=H.b_ 0 rfl ec X (hl':=O3) rfl
 have a7:=a7.sub g
 have F:=F.sub g
 have E:=g _ _ E
 have u:=g _ _ u
 have H:HZ B0 _ _ O3 _:=H
 refine zA h H td O6 (λx=>[_,_,_,x]) λa q7 w X H h=>?_
 refine zS h H 3 eA O6 O6 O4 λw H=>?_
 refine cN k h [0,3,4,5] O4 λh=>?_
 refine sq<|rg λK k=>s1 h O (ab O rA O aq O O) λa h=>s1 h O (ab O cB O Z3 O O) λa h=>s1 h O (l1 H 3 A3) λa h=>sB h f O (fN O O) λqa qb f a h=>cz k<|cI h f O (λhb f=>?_) λhb f=>?_
 refine rg λK k=>s1 h O (lA H 3 j2 eA O6) λa h=>zS h H 2 eA O6 O6 O4 λw H=>?_
 refine cN k h [4] [_] λh=>?_
 cases f
 refine r1 hr h O (aO H 2 j2 eA O6) ⟨O,H.hp.get 0 O,H.a_⟩
 refine ag<|cO h [0,3,4] O3 λh=>?_
 refine rg λK k=>ae 1 h O λa h=>s1 h O (ab O cD O hO O O) λa h=>s1 h O (l1 H 1 iO) λa h=>?_
 obtain⟨hc,f⟩:=ck f
 obtain⟨qc,kc,f⟩:=bv f
 have bs:=F.gel ⟨_,aC⟩ 1
 rw[<-kc]at bs
 obtain⟨hT,ki,ed,ef,bs⟩:=bs
 obtain⟨ff,cx,a8⟩:=bd bs
 refine bJ h dZ aL O O (ed.at H.zin) hc.1 (ef hc) cx O λa ql mP h=>?_
 refine s1 h O (ay aA O mP bQ aL O O) λa h=>?_
 obtain⟨qm,f45,f⟩:=bo f
 refine st2 h O O O (dC call27 (af f45 H.zin a8 u E lp0 (H.hp.get 0 O) (H.dG 0 O _ O) O O (b7 _ H.a_))) ?_
 rintro v_ w ⟨rfl,ei,X⟩ a h
 obtain⟨Z,g,b1,H⟩:=H.b_ 0 rfl ei X (hl':=O4) rfl
 have a8:=a8.sub g
 have F:=F.sub g
 have E:=g _ _ E
 have u:=g _ _ u
 have H:HZ B0 _ _ O4 _:=H
 refine zS h H 2 eA O6 O6 O4 λw H=>?_
 refine cN k h [4] [_] λh=>?_
 cases f
 refine r1 hr h O (aO H 2 j2 eA O6) ⟨O,H.hp.get 0 O,H.a_⟩
 obtain⟨kk,hf,f⟩:=bv f
 refine dA (λa w=>∃(Z:FZ) (ej:Bool),kk ej=some ao/\Fr 150 [(0,(pt b3)),(3,(pt p1)),(4,(pt p2)),(14,I x1.op),(34,.bool ej)] a/\HZ B0 Zi Z [.blk a1 (cJ cV Value.bool m0),.blk p1 (aB (nL x1 b0) 34),.blk p2 (aB [I 0,I 0,S [],I 0,I 0,I 0] 76)] w/\bi Z b0 aj x1.l/\Z b4=some (aB ((x0.p:List V).flatMap vL) 54)/\Z b3=some (aB [.iface 36 (pt b4),I x0.c.s,I x0.c.c,I x0.c.r,.map (some a1)] 74)) ?_ ?_
 rintro a w ⟨Z,ej,f,h,H,F,E,u⟩
 subst hf
 refine cI h f O (λhg f=>?_) λhg f=>?_
 obtain⟨kx,hj,f⟩:=bv f
 refine dA (λa w=>∃(Z:FZ) (b5:(List (C × Bool)) × Int × Int × (List UInt8) × Int × Int × Int),kx b5=some ao/\Fr 150 [(0,(pt b3)),(3,(pt p1)),(4,(pt p2))] a/\HZ B0 Zi Z [.blk a1 (cJ cV Value.bool b5.1),.blk p1 (aB (nL x1 b0) 34),.blk p2 (aB [I b5.2.1,I b5.2.2.1,S b5.2.2.2.1,I b5.2.2.2.2.1,I b5.2.2.2.2.2.1,I b5.2.2.2.2.2.2] 76)] w/\bi Z b0 aj x1.l/\Z b4=some (aB ((x0.p:List V).flatMap vL) 54)/\Z b3=some (aB [.iface 36 (pt b4),I x0.c.s,I x0.c.c,I x0.c.r,.map (some a1)] 74)) ?_ ?_
 rintro a w ⟨Z,b5,f,h,H,F,E,u⟩
 subst hj
 refine rg λK k=>ae 1 h O λa h=>s1 h O (ab O cD O Z3 O O) λa h=>s1 h O (l1 H 1 A3) λa h=>sB h f O (aD O O) λqs r4 f a h=>sC h H f O (λky f53=>dC call17 (bh f53 :)) λky f w X H a h=>?_
 obtain⟨kz,f54,f⟩:=bo f
 refine d_ (T:=Ext) (V:=(gA kz)) h O O O (dC call43 (bO f54 H.zin u E lp0)) λw X a h=>?_
 have H:=H.ext X
 refine zS h H 2 eA O6 O6 O3 λw H=>?_
 refine cN k h [4] [_] λh=>?_
 cases f
 refine r1 hr h O (aO H 2 j2 eA O6) ⟨O,H.hp.get 0 O,H.a_⟩
 refine rg λK k=>s1 h O (ab O cD O hO O O) λa h=>s1 h O (l1 H 1 iO) λa h=>s1 h O (cd dZ O F H.zin) λa h=>ae 1 h O λa h=>cz k<|lb ?_
 obtain⟨l0,ho,f⟩:=bv f
 refine ib (λel a w=>∃(Z:FZ) (b2:Int × (List (C × Bool)) × Int × Int × (List UInt8) × Int × Int × Int),loopF l0 el b2=some ao/\Fr 150 [(0,(pt b3)),(3,(pt p1)),(4,(pt p2)),(38,b0),(39,I (x1.l.length:Int)),(40,I b2.1)] a/\HZ B0 Zi Z [.blk a1 (cJ cV Value.bool b2.2.1),.blk p1 (aB (nL x1 b0) 34),.blk p2 (aB [I b2.2.2.1,I b2.2.2.2.1,S b2.2.2.2.2.1,I b2.2.2.2.2.2.1,I b2.2.2.2.2.2.2.1,I b2.2.2.2.2.2.2.2] 76)] w/\bi Z b0 aj x1.l/\Z b4=some (aB ((x0.p:List V).flatMap vL) 54)/\Z b3=some (aB [.iface 36 (pt b4),I x0.c.s,I x0.c.c,I x0.c.r,.map (some a1)] 74)) KK ⟨_,_,f,h.to,H,F,E,u⟩ ?_
 rintro el a w ⟨Z,b2,f,h,H,F,E,u⟩
 obtain⟨el,rfl,r5,hq,f⟩:=iJ ho f
 refine rg λK k=>sB h f O (bn O O) λr6 ra f a h=>cz k<|sq<|cI h f O (λht f=>?_) λht f=>?_
 refine ag<|sb ?_
 refine rg λK k=>?_
 obtain⟨hv,f⟩:=ck f
 obtain⟨rb,l2,f⟩:=bv f
 have c6:=F.gel ⟨_,aC⟩ b2.1
 rw[<-l2]at c6
 obtain⟨hU,l3,eo,ep,c6⟩:=c6
 obtain⟨fs,cy,J⟩:=bd c6
 refine bJ h dZ aL O O (eo.at H.zin) hv.1 (ep hv) cy O λa rh er h=>?_
 refine s1 h O (ay aA O er bQ aL O O) λa h=>zA h H iS aA (λx=>[_,_,_,x]) λa rl w X H h=>?_
 have er:=At.ext er X
 refine ap h H 3 O O O aL aA O O (by obtain⟨_,_,_,e_⟩:=(J).form;subst e_;rfl) (by simp) aA rfl (hl':=O4) rfl λw H=>?_
 refine cz k<|rg λK k=>ae 1 h O λa h=>s1 h O (lA H 3 bQ aL aA) λa h=>?_
 obtain⟨rm,f66,f⟩:=bo f
 refine st2 h O O O (dC call77 (jO af f66 H.zin J u E lp0 (H.hp.get 0 O) (H.dG 0 O _ O) O O (b7 _ H.a_))) ?_
 rintro v_ w ⟨rfl,et,X⟩ a h
 obtain⟨Z,g,b1,H⟩:=H.b_ 0 rfl et X (hl':=O4) rfl
 have J:=J.sub g
 have F:=F.sub g
 have E:=g _ _ E
 have u:=g _ _ u
 have H:HZ B0 _ _ O4 _:=H
 refine zA h H td O6 (λx=>[_,_,_,_,x]) λa rq w X H h=>?_
 refine zS h H 4 eA O6 O6 O5 λw H=>?_
 refine cN k h [0,3,4,8,38,39,40] O7 λh=>?_
 refine rg λK k=>s1 h O (ab O rA O aq O O) λa h=>s1 h O (ab O cB O Z3 O O) λa h=>s1 h O (l1 H 4 A3) λa h=>sB h f O (aD O O) λrr rs f a h=>ae 1 h O λa h=>ai h O O (gF O) O O (λe0=>ab O rA O aq O O) λa h=>?_
 refine ai h O O (gF O) O O (λe0=>ab (eg e0 O) cB O Z2 O O) λa h=>?_
 refine ai h O O (gF O) O O (λe0=>aE (eg e0 O) A2 (H.hp.get 4 O) O) λa h=>?_
 obtain⟨ru,mb,f⟩:=bv f
 refine ai h O O (gF O) O O (λe0=>vB mb (aD (eg e0 O) O)) λa h=>?_
 refine ai h O O (gF O) O O (λe0=>ab O cD O Z3 O O) λa h=>?_
 refine ai h O O (gF O) O O (λe0=>aE (eg e0 O) A3 (H.hp.get 1 O) O) λa h=>?_
 obtain⟨s0,ml,f⟩:=bv f
 refine ai h O O (gF O) O O (λe0=>vB ml (aD (eg e0 O) O)) λa h=>?_
 obtain⟨s3,mm,f⟩:=bv f
 refine ai h O O (gF O) O O (λe0=>vB mm (tL U4 (eg e0 O) (eg e0 O))) λa h=>?_
 refine sB h f O (ca O O) λs5 s6 f a h=>cN k h [0,3,4,8,38,39,40,60] O8 λh=>?_
 refine cI h f O (λhx f=>?_) λhx f=>?_
 refine rg λK k=>s1 h O (lA H 4 j2 eA O6) λa h=>zS h H 2 eA O6 O6 O5 λw H=>?_
 refine cN k h [4] [_] λh=>?_
 cases f
 refine r1 hr h O (aO H 2 j2 eA O6) ⟨O,H.hp.get 0 O,H.a_⟩
 refine ag<|ah<|sI h f O (aw O O) λs7 s8 f a h=>ae 1 h O λa h=>am ?_
 exact fK (bp ⟨fq hq f,h.to,(H.cT 3 O),F,E,u⟩)
 exact aR (bp ⟨f,h.to,H,F,E,u⟩)
 refine rg λK k=>sB h f O (aD O O) λs9 sc f a h=>ae 1 h O λa h=>cz k<|cI h f O (λhy f=>?_) λhy f=>?_
 refine rg λK k=>ae 1 h O λa h=>s1 h O (ab O cD O hO O O) λa h=>s1 h O (l1 H 1 iO) λa h=>?_
 obtain⟨hA,f⟩:=ck f
 obtain⟨si,mn,f⟩:=bv f
 have c7:=F.gel ⟨_,aC⟩ 0
 rw[<-mn]at c7
 obtain⟨hV,mo,eu,ew,c7⟩:=c7
 obtain⟨gb,da,ad⟩:=bd c7
 refine bJ h dZ aL O O (eu.at H.zin) hA.1 (ew hA) da O λa sj mu h=>?_
 refine s1 h O (ay aA O mu bQ aL O O) λa h=>?_
 obtain⟨sk,f81,f⟩:=bo f
 refine st2 h O O O (dC call27 (af f81 H.zin ad u E lp0 (H.hp.get 0 O) (H.dG 0 O _ O) O O (b7 _ H.a_))) ?_
 rintro v_ w ⟨rfl,ey,X⟩ a h
 obtain⟨Z,g,b1,H⟩:=H.b_ 0 rfl ey X (hl':=O3) rfl
 have ad:=ad.sub g
 have F:=F.sub g
 have E:=g _ _ E
 have u:=g _ _ u
 have H:HZ B0 _ _ O3 _:=H
 refine zA h H td O6 (λx=>[_,_,_,x]) λa sl w X H h=>?_
 refine zS h H 3 eA O6 O6 O4 λw H=>?_
 refine cN k h [0,3,4,9] O4 λh=>?_
 refine sq<|rg λK k=>s1 h O (ab O rA O aq O O) λa h=>s1 h O (ab O cB O Z3 O O) λa h=>s1 h O (l1 H 3 A3) λa h=>sB h f O (aD O O) λsn sp f a h=>cz k<|cI h f O (λhB f=>?_) λhB f=>?_
 refine rg λK k=>s1 h O (lA H 3 j2 eA O6) λa h=>zS h H 2 eA O6 O6 O4 λw H=>?_
 refine cN k h [4] [_] λh=>?_
 cases f
 refine r1 hr h O (aO H 2 j2 eA O6) ⟨O,H.hp.get 0 O,H.a_⟩
 refine ag<|cO h [0,3,4,9] O4 λh=>?_
 refine rg λK k=>s1 h O (ab O rA O aq O O) λa h=>s1 h O (lA H 3 aQ aq O3) λa h=>sC h H f O (λmv f87=>dC call69 (dD f87 :)) λmv f w X H a h=>?_
 refine zA h H eX O3 (λx=>[_,_,_,_,x]) λa sv w X H h=>?_
 refine zS h H 4 aq O3 O3 O5 λw H=>?_
 refine cN k h [0,3,4,10] O4 λh=>?_
 refine sq<|rg λK k=>s1 h O (ab O cB O Z3 O O) λa h=>s1 h O (l1 H 4 A3) λa h=>sB h f O (aD O O) λsF sT f a h=>cz k<|cI h f O (λhD f=>?_) λhD f=>?_
 refine rg λK k=>ae 1 h O λa h=>s1 h O (lA H 4 aQ aq O3) λa h=>?_
 obtain⟨n0,f92,f⟩:=bo f
 refine d_ (T:=Ext) (V:=(gA n0)) h O O O (dC call43 (bO f92 H.zin u E lp0)) λw X a h=>?_
 have H:=H.ext X
 refine zS h H 2 eA O6 O6 O5 λw H=>?_
 refine cN k h [4] [_] λh=>?_
 cases f
 refine r1 hr h O (aO H 2 j2 eA O6) ⟨O,H.hp.get 0 O,H.a_⟩
 refine ag<|sq<|rg λK k=>s1 h O (ab O cB O Z2 O O) λa h=>s1 h O (l1 H 4 A2) λa h=>sI h f O (cm O O (by decide)) λn2 tc f a h=>ae 1 h rfl λa h=>cN k h [0,3,4,11] O4 λh=>?_
 refine rg λK k=>ae 1 h O λa h=>sB h f O (gI O O) λtk tl f a h=>ae 1 h O λa h=>ai h O O (gT O) O O (λe0=>an O) λa h=>?_
 refine ai h O O (gT O) O O (λe0=>ab O cD O hO O O) λa h=>?_
 refine ai h O O (gT O) O O (λe0=>aE (eg e0 O) iO (H.hp.get 1 O) O) λa h=>?_
 refine ai h O O (gT O) O O (λe0=>cd dZ (eg e0 O) F H.zin) λa h=>?_
 obtain⟨tq,n5,f⟩:=bv f
 refine ai h O O (gT O) O O (λe0=>vB n5 (bn (eg e0 O) (eg e0 O))) λa h=>?_
 refine sB h f O (bK O O) λts tt f a h=>cN k h [0,3,4,11,102] O5 λh=>?_
 refine cI h f O (λhE f=>?_) λhE f=>?_
 refine rg λK k=>ae 1 h O λa h=>s1 h O (ab O cD O hO O O) λa h=>s1 h O (l1 H 1 iO) λa h=>ae 1 h O λa h=>?_
 obtain⟨hF,f⟩:=ck f
 obtain⟨nn,hI,f⟩:=bv f
 have b6:=F.gel ⟨_,aC⟩ n2
 rw[<-hI]at b6
 obtain⟨hJ,hW,dd,dj,b6⟩:=b6
 obtain⟨dv,c8,G⟩:=bd b6
 refine bJ h dZ aL O O (dd.at H.zin) hF.1 (dj hF) c8 O λa nx hK h=>?_
 refine s1 h O (ay aA O hK bQ aL O O) λa h=>?_
 obtain⟨o0,f102,f⟩:=bo f
 refine st2 h O O O (dC call27 (af f102 H.zin G u E lp0 (H.hp.get 0 O) (H.dG 0 O _ O) O O (b7 _ H.a_))) ?_
 rintro v_ w ⟨rfl,dn,X⟩ a h
 obtain⟨Z,g,b1,H⟩:=H.b_ 0 rfl dn X (hl':=O5) rfl
 have G:=G.sub g
 have F:=F.sub g
 have E:=g _ _ E
 have u:=g _ _ u
 have H:HZ B0 _ _ O5 _:=H
 refine zS h H 2 eA O6 O6 O5 λw H=>?_
 refine cN k h [4] [_] λh=>?_
 cases f
 refine r1 hr h O (aO H 2 j2 eA O6) ⟨O,H.hp.get 0 O,H.a_⟩
 refine ag<|rg λK k=>ae 1 h O λa h=>sC h H f O (λhL f104=>dC call18 (az f104 :)) λhL f w X H a h=>?_
 obtain⟨hN,f105,f⟩:=bo f
 refine d_ (T:=Ext) (V:=(gA hN)) h O O O (dC call43 (bO f105 H.zin u E lp0)) λw X a h=>?_
 have H:=H.ext X
 refine zS h H 2 eA O6 O6 O5 λw H=>?_
 refine cN k h [4] [_] λh=>?_
 cases f
 refine r1 hr h O (aO H 2 j2 eA O6) ⟨O,H.hp.get 0 O,H.a_⟩
 exact ag (bp ⟨f,h.to,H,F,E,u⟩)
 refine rg λK k=>sB h f O (aD O O) λo2 o5 f a h=>ae 1 h O λa h=>cN k h [0,3,4,14,34] O5 λh=>?_
 refine cI h f O (λez f=>?_) λez f=>?_
 exact ag (bp ⟨f,h.to,H,F,E,u⟩)
 refine ah<|sB h f O (aD O O) λo9 od f a h=>ae 1 h O λa h=>am ?_
 exact bp ⟨f,h.to,H,F,E,u⟩
theorem mI{rec:Rn->Nd->(List (C × Bool))->Option ((Gt) × List (C × Bool))}(et:rW rec){x0:Rn}{x1:Nd}{m0:List (C × Bool)}{b1:(Gt) × List (C × Bool)}{w0:World}(u:cC rec x0 x1 m0=some b1){Z:FZ}(hZ:Z.inn w0){a7:Value}(F:bi Z a7 aj x1.l){ao b0 a8:Nat}(G:Z ao=some (aB [.iface 36 (pt b0),I x0.c.s,I x0.c.c,I x0.c.r,.map (some a8)] 74)) (J:Z b0=some (aB ((x0.p:List V).flatMap vL) 54)) (lp0:x0.p.length=128) (eu:w0.heap[a8]?=some (cJ cV Value.bool m0)) (hj:Z a8=none){B0:Bs}(eB:B0=⟨w0,[a8]⟩){Zi:FZ}(eZ:Zi=Z) (hG:GW w0):Calls prog 49 [(pt ao),(nA x1 a7)].toArray w0 (bj λv w=>v=.agg #[I b1.1.v.k,I b1.1.v.n,S b1.1.v.s,I b1.1.c.s,I b1.1.c.c,I b1.1.c.r]/\w.heap[a8]?=some (cJ cV Value.bool b1.2)/\ExtB B0 w):=by
 have H:HZ B0 Zi Z [.blk a8 (cJ cV Value.bool m0)] w0:=by rw[eB,eZ];exact HZ.dH hZ eu hj
 refine EJ func49 [0,1] O2 λQ a h hr hn=>?_
 have ea:∀w,ExtB B0 w->GW w:=λw X=>hG.Bz eu eB X
 clear eB eZ
 have H:HZ B0 _ _ [_] _:=H
 have dz:DZ B0 Zi Z []:=DZ.nil
 have h:Fr ⟨95,marks []⟩ _ a:=h
 unfold cC at u
 refine rg λK k=>aZ h H O [_] O O λa p1 w X H h=>?_
 have H:HZ B0 _ _ O2 _:=H
 refine aZ h H O aA O O λa p2 w X H h=>?_
 have H:HZ B0 _ _ O3 _:=H
 refine zA h H td O6 (λx=>[_,_,_,x]) λa p3 w X H h=>?_
 refine cz k<|rg λK k=>ae 1 h O λa h=>cz k ?_
 have H:=H.fc 135 3 rfl
 have H:HZ B0 _ _ O5 _:=H
 have E:EL cY Z ([]:List (Cl 3)) ([]:List (Arg)):=trivial
 obtain⟨J5,ho,u⟩:=bv u
 refine dA (λa w=>∃(Z:FZ) (s5:(List (C × Bool)) × Int × Int × (List UInt8) × Int × Int × Int × (List (Arg))) (eb:Value) (e1:List (Cl 3)) (ec:List Nat),J5 s5=some b1/\Fr ⟨95,marks ec⟩ [(2,(pt p1)),(3,(pt p2)),(4,(pt p3)),(5,eb)] a/\HZ B0 Zi Z [.blk a8 (cJ cV Value.bool s5.1),.blk p1 (aB [(pt ao)] 71),.blk p2 (aB (nL x1 a7) 34),.blk p3 (aB [I s5.2.1,I s5.2.2.1,S s5.2.2.2.1,I s5.2.2.2.2.1,I s5.2.2.2.2.2.1,I s5.2.2.2.2.2.2.1] 76),.row 135 3 eb e1.length (e1.flatMap Subtype.val)] w/\EL cY Z e1 s5.2.2.2.2.2.2.2/\bi Z a7 aj x1.l/\Z b0=some (aB ((x0.p:List V).flatMap vL) 54)/\Z ao=some (aB [.iface 36 (pt b0),I x0.c.s,I x0.c.c,I x0.c.r,.map (some a8)] 74)/\DZ B0 Zi Z ec) ?_ ?_
 rintro a w ⟨Z,s5,eb,e1,ec,u,h,H,E,F,J,G,dz⟩
 subst ho
 refine nV 6 h λK k=>?_
 refine F1 O (λw X=>have H:=H.ext X;l1 H 1 isAgg71) ?_
 refine F1 O (λw X=>ab O cD O Z3 O O) ?_
 refine F1 O (λw X=>have H:=H.ext X;l1 H 2 A3) ?_
 refine bN 1 O ?_
 refine fC u O (λy8 f8 w X=>have H:=H.ext X;dC call80 (pY f8 (H.uT (i:=4) O E) (ea _ H.a_) :)) λy8 u=>?_
 obtain⟨y9,f9,u⟩:=bo u
 refine f2 (V:=(gA y9)) [89,93] O O O O (λw X=>have Hs:=ZB.of H.zin X;have H:=H.ext X;dC call43 (bO f9 (ZB.inn H.zin) (Hs _ _ G) (Hs _ _ J) lp0)) ?_
 refine fE [4,94] O2 H λa w X H h=>?_
 refine zS h H 3 eA O6 O6 O5 λw H=>?_
 refine cz k ?_
 cases u
 refine qe (hr _ _ (Dy h H dz λa w less H h=>?_))
 have E:=E.subC less
 have F:=F.subC less
 refine Dd h O (aO H 3 j2 eA O6) ⟨O,H.hp.get 0 O,H.a_⟩
 refine rg λK k=>s1 h O (ab O cD O hO O O) λa h=>s1 h O (l1 H 2 iO) λa h=>s1 h O (cd dZ O F H.zin) λa h=>ae 1 h O λa h=>cz k<|lb ?_
 obtain⟨ht,ew,u⟩:=bv u
 refine ib (λbq a w=>∃(Z:FZ) (W:Int × (List (C × Bool)) × Int × Int × (List UInt8) × Int × Int × Int × (List (Arg))) (af:Value) (a1:List (Cl 3)) (c8:List Nat),loopF ht bq W=some b1/\Fr ⟨95,marks c8⟩ [(2,(pt p1)),(3,(pt p2)),(4,(pt p3)),(5,af),(17,a7),(18,I (x1.l.length:Int)),(19,I W.1)] a/\HZ B0 Zi Z [.blk a8 (cJ cV Value.bool W.2.1),.blk p1 (aB [(pt ao)] 71),.blk p2 (aB (nL x1 a7) 34),.blk p3 (aB [I W.2.2.1,I W.2.2.2.1,S W.2.2.2.2.1,I W.2.2.2.2.2.1,I W.2.2.2.2.2.2.1,I W.2.2.2.2.2.2.2.1] 76),.row 135 3 af a1.length (a1.flatMap Subtype.val)] w/\EL cY Z a1 W.2.2.2.2.2.2.2.2/\bi Z a7 aj x1.l/\Z b0=some (aB ((x0.p:List V).flatMap vL) 54)/\Z ao=some (aB [.iface 36 (pt b0),I x0.c.s,I x0.c.c,I x0.c.r,.map (some a8)] 74)/\DZ B0 Zi Z c8) KK ⟨_,_,_,_,_,u,h.to,H,E,F,J,G,dz⟩ ?_
 rintro bq a w ⟨Z,W,af,a1,c8,u,h,H,E,F,J,G,dz⟩
 obtain⟨bq,rfl,k5,ey,u⟩:=iJ ew u
 refine rg λK k=>sB h u O (bn O O) λk6 k7 u a h=>cz k<|sq<|cI h u O (λez u=>?_) λez u=>?_
 refine ag<|sb ?_
 refine rg λK k=>?_
 obtain⟨eF,u⟩:=ck u
 obtain⟨bk,hv,u⟩:=bv u
 have cc:=F.gel ⟨_,aC⟩ W.1
 rw[<-hv]at cc
 obtain⟨ha,hx,ed,ef,cc⟩:=cc
 obtain⟨Y,e2,f⟩:=bd cc
 refine bJ h dZ aL O O (ed.at H.zin) eF.1 (ef eF) e2 O λa k8 ei h=>?_
 refine s1 h O (ay aA O ei bQ aL O O) λa h=>zA h H iS aA (λx=>[_,_,_,_,_,x]) λa e3 w X H h=>?_
 have ei:=At.ext ei X
 refine ap h H 5 O O O aL aA O O (by obtain⟨_,_,_,e_⟩:=(f).form;subst e_;rfl) (by simp) aA rfl (hl':=O6) rfl λw H=>?_
 refine cz k<|rg λK k=>zA h H zeroValue133 [_] (λx=>[_,_,_,_,_,_,x]) λa ct w X H h=>?_
 refine cz k<|rg λK k=>s1 h O (aS C7 [_] O3 O O) λa h=>zA h H zeroValue135 O3 (λx=>[_,_,_,_,_,_,_,x]) λa bs w X H h=>?_
 refine zS h H 7 eh O3 O3 O8 λw H=>?_
 refine cz k<|D4 12 [8,9] h ?_
 refine F1 O (λw X=>have H:=H.ext X;l1 H 1 isAgg71) ?_
 refine F1 O (λw X=>ax O) ?_
 refine F1 O (λw X=>ab O underlying74 O sizeOf70 O O) ?_
 refine F1 O (λw X=>have H:=H.ext X;aE O isAgg70 (H.zin _ _ G) O) ?_
 refine F1 O (λw X=>have H:=H.ext X;lA H 5 bQ aL aA) ?_
 obtain⟨b5,f25,u⟩:=bo u
 refine f2 (V:=.tuple #[(cA b5.1),(cA b5.2.1),.bool b5.2.2]) [28,29] O O O O (λw X=>have Hs:=ZB.of H.zin X;have H:=H.ext X;dC call44 (iW f25 (ZB.inn H.zin) (f.sub Hs) (Hs _ _ J) lp0)) ?_
 refine bN 4 O ?_
 refine gu sO O3 O O ?_
 refine gu sO O3 O O ?_
 refine wT ?_
 intro a w X hR hA
 obtain⟨_,⟨e4,rfl,eJ⟩,_,⟨e5,rfl,ff⟩,h⟩:=hR.out [2,3,4,5,7,8,9,10,11,17,18,19,31,32,33]
 have h:Fr _ [(33,_),(32,_),(31,_),(19,_),(18,_),(17,_),(11,_),(10,_),(9,_),(8,_),(7,_),(5,_),(4,_),(3,_),(2,_)] a:=h
 have fs:=hA.zt h (s:=10) rfl rfl
 have gb:=hA.zt h (s:=11) rfl rfl
 have hy:=hA.ne' h (s:=10) (t:=11) rfl rfl rfl rfl rfl
 have H:=H.rO X eJ fs ff gb hy
 have H:HZ B0 _ _ zz _:=H
 refine tS h H 8 dm O3 O3 zz λw H=>?_
 refine tS h H 9 dm O3 O3 zz λw H=>?_
 refine yp 1 h O λa h=>?_
 refine tE ?_
 have H:=H.fc 76 6 rfl
 have H:HZ B0 _ _ yU _:=H
 obtain⟨hB,gf,u⟩:=bv u
 refine dA (λa w=>∃(Z:FZ) (a6:(List (C × Bool)) × Bool × Int × (List (Gt))) (b2:Value) (cx:List Nat),hB a6=some b1/\Fr ⟨95,marks cx⟩ [(2,(pt p1)),(3,(pt p2)),(4,(pt p3)),(5,af),(8,(pt ct)),(9,(pt bs)),(17,a7),(18,I (x1.l.length:Int)),(19,I W.1)] a/\HZ B0 Zi Z [.blk a8 (cJ cV Value.bool a6.1),.blk p1 (aB [(pt ao)] 71),.blk p2 (aB (nL x1 a7) 34),.blk p3 (aB [I W.2.2.1,I W.2.2.2.1,S W.2.2.2.2.1,I W.2.2.2.2.2.1,I W.2.2.2.2.2.2.1,I W.2.2.2.2.2.2.2.1] 76),.row 135 3 af a1.length (a1.flatMap Subtype.val),.blk e3 (aB (nL bk Y) 34),.blk ct (aB [b2] 133),.blk bs (aB [.bool a6.2.1,I a6.2.2.1,.slice none 0 0] 135),.blk e4 (aB (cL b5.1) 29),.blk e5 (aB (cL b5.2.1) 29),.row 76 6 b2 (a6.2.2.2:List (Gt)).length ((a6.2.2.2:List (Gt)).flatMap vO)] w/\EL cY Z a1 W.2.2.2.2.2.2.2.2/\bi Z a7 aj x1.l/\bi Z Y aj bk.l/\Z b0=some (aB ((x0.p:List V).flatMap vL) 54)/\Z ao=some (aB [.iface 36 (pt b0),I x0.c.s,I x0.c.c,I x0.c.r,.map (some a8)] 74)/\DZ B0 Zi Z cx) ?_ ?_
 rintro a w ⟨Z,a6,b2,cx,u,h,H,E,F,f,J,G,dz⟩
 subst gf
 have H:=H.fc 27 3 rfl
 have H:HZ B0 _ _ En _:=H
 obtain⟨hD,gg,u⟩:=bv u
 refine dA (λa w=>∃(Z:FZ) (b3:Int × Int × (List UInt8) × Int × Int × Int × (List (V))) (ch:Value) (cy:List Nat),hD b3=some b1/\Fr ⟨95,marks cy⟩ [(2,(pt p1)),(3,(pt p2)),(4,(pt p3)),(5,af),(9,(pt bs)),(17,a7),(18,I (x1.l.length:Int)),(19,I W.1)] a/\HZ B0 Zi Z [.blk a8 (cJ cV Value.bool a6.1),.blk p1 (aB [(pt ao)] 71),.blk p2 (aB (nL x1 a7) 34),.blk p3 (aB [I b3.1,I b3.2.1,S b3.2.2.1,I b3.2.2.2.1,I b3.2.2.2.2.1,I b3.2.2.2.2.2.1] 76),.row 135 3 af a1.length (a1.flatMap Subtype.val),.blk e3 (aB (nL bk Y) 34),.blk ct (aB [b2] 133),.blk bs (aB [.bool a6.2.1,I a6.2.2.1,ch] 135),.blk e4 (aB (cL b5.1) 29),.blk e5 (aB (cL b5.2.1) 29),.row 76 6 b2 (a6.2.2.2:List (Gt)).length ((a6.2.2.2:List (Gt)).flatMap vO),.row 27 3 ch (b3.2.2.2.2.2.2:List (V)).length ((b3.2.2.2.2.2.2:List (V)).flatMap vL)] w/\EL cY Z a1 W.2.2.2.2.2.2.2.2/\bi Z a7 aj x1.l/\bi Z Y aj bk.l/\Z b0=some (aB ((x0.p:List V).flatMap vL) 54)/\Z ao=some (aB [.iface 36 (pt b0),I x0.c.s,I x0.c.c,I x0.c.r,.map (some a8)] 74)/\DZ B0 Zi Z cy) ?_ ?_
 rintro a w ⟨Z,b3,ch,cy,u,h,H,E,F,f,J,G,dz⟩
 subst gg
 refine ah<|ae 1 h O λa h=>s1 h O (lA H 7 isAgg135 eh O3) λa h=>?_
 obtain⟨Z,g,H,b6⟩:=H.q8 (enc:=vL) (out:=b3.2.2.2.2.2.2) 11 rfl
 have dz:=dz.sub g
 have E:=E.sub g
 have f:=f.sub g
 have F:=F.sub g
 have J:=g _ _ J
 have G:=g _ _ G
 have H:HZ B0 _ _ En _:=H
 refine cZ (enc:=(Subtype.val (p:=λl:List Value=>l.length=3))) ([⟨[.bool a6.2.1,I a6.2.2.1,ch],O⟩]:List (Cl 3)) h H gp eh zeroValue135 O (zl:=[.bool false,I 0,.slice none 0 0]) kR (cb 1 3) [_] O3 O O O O O λa e6 Z w g X H b7 h=>?_
 have dz:=dz.sub g
 have E:=E.sub g
 have f:=f.sub g
 have F:=F.sub g
 have b6:=b6.sub g
 have J:=g _ _ J
 have G:=g _ _ G
 have b7:bi Z e6 cY [(⟨a6.2.1,a6.2.2.1,b3.2.2.2.2.2.2⟩:Arg)]:=⟨_,b7,⟨⟨_,rfl,b6⟩,trivial⟩⟩
 obtain⟨hE,u⟩:=ck u
 obtain⟨hF,hI,u⟩:=bv u
 obtain⟨da,ej,c6⟩:=id b7
 refine cg (enc:=(Subtype.val (p:=λl:List Value=>l.length=3))) (out:=a1) (data:=da) h H 4 O gp Co O O O ej (λc=>c.2) c6.one (Do E.len c6.len hE) O λa hb w H h=>?_
 have E:=EL.append E c6
 rw[<-hI]at E
 have E:EL cY Z (List.append (α:=Cl 3) a1 da) hF:=E
 have H:HZ B0 _ _ En _:=H
 refine ae 1 h O λa h=>am<|cO h [2,3,4,5,17,18,19] O7 λh=>?_
 refine ah<|sI h u O (aw O O) λk9 kc u a h=>ae 1 h O λa h=>am ?_
 exact fK (Af ⟨fq ey u,h.to,(H.cT 5 O),E,F,J,G,dz⟩)
 refine rg λK k=>s1 h O (l1 H 6 isAgg133) λa h=>s1 h O (bY underlying133 O (H.eT (i:=10) (enc:=vO) O)) λa h=>ae 1 h O λa h=>cz k<|lb ?_
 obtain⟨hJ,gl,u⟩:=bv u
 refine ib (λbq a w=>∃(Z:FZ) (b4:Int × Int × Int × (List UInt8) × Int × Int × Int × (List (V))) (dd:Value) (dj:List Nat),loopF hJ bq b4=some b1/\Fr ⟨95,marks dj⟩ [(2,(pt p1)),(3,(pt p2)),(4,(pt p3)),(5,af),(9,(pt bs)),(17,a7),(18,I (x1.l.length:Int)),(19,I W.1),(59,b2),(60,I (a6.2.2.2.length:Int)),(61,I b4.1)] a/\HZ B0 Zi Z [.blk a8 (cJ cV Value.bool a6.1),.blk p1 (aB [(pt ao)] 71),.blk p2 (aB (nL x1 a7) 34),.blk p3 (aB [I b4.2.1,I b4.2.2.1,S b4.2.2.2.1,I b4.2.2.2.2.1,I b4.2.2.2.2.2.1,I b4.2.2.2.2.2.2.1] 76),.row 135 3 af a1.length (a1.flatMap Subtype.val),.blk e3 (aB (nL bk Y) 34),.blk ct (aB [b2] 133),.blk bs (aB [.bool a6.2.1,I a6.2.2.1,dd] 135),.blk e4 (aB (cL b5.1) 29),.blk e5 (aB (cL b5.2.1) 29),.row 76 6 b2 (a6.2.2.2:List (Gt)).length ((a6.2.2.2:List (Gt)).flatMap vO),.row 27 3 dd (b4.2.2.2.2.2.2.2:List (V)).length ((b4.2.2.2.2.2.2.2:List (V)).flatMap vL)] w/\EL cY Z a1 W.2.2.2.2.2.2.2.2/\bi Z a7 aj x1.l/\bi Z Y aj bk.l/\Z b0=some (aB ((x0.p:List V).flatMap vL) 54)/\Z ao=some (aB [.iface 36 (pt b0),I x0.c.s,I x0.c.c,I x0.c.r,.map (some a8)] 74)/\DZ B0 Zi Z dj) KK ⟨_,_,_,_,u,h.to,H,E,F,f,J,G,dz⟩ ?_
 rintro bq a w ⟨Z,b4,dd,dj,u,h,H,E,F,f,J,G,dz⟩
 obtain⟨bq,rfl,ki,gm,u⟩:=iJ gl u
 refine rg λK k=>sB h u O (bn O O) λkk kx u a h=>cz k<|sq<|cI h u O (λh0 u=>?_) λh0 u=>?_
 refine ag<|sb ?_
 refine rg λK k=>?_
 obtain⟨h2,u⟩:=ck u
 obtain⟨el,hK,u⟩:=bv u
 refine bB h underlying133 eA O O (H.eT (i:=10) (enc:=vO) O) (λ_=>rfl) el h2.1 (by rw[hK];exact ak h2) rfl λa ky eo h=>?_
 refine s1 h O (ay O6 O eo j2 eA O O) λa h=>zA h H td O6 (λx=>[_,_,_,_,_,_,_,_,_,_,_,_,x]) λa kz w X H h=>?_
 have eo:=At.ext eo X
 refine zS h H 12 eA O6 O6 xR λw H=>?_
 refine cz k<|sq<|rg λK k=>s1 h O (ab O rA O aq O O) λa h=>s1 h O (ab O cB O Z3 O O) λa h=>s1 h O (l1 H 12 A3) λa h=>sB h u O (aD O O) λl0 l2 u a h=>ae 1 h O λa h=>ai h O O (gT O) O O (λe0=>ab O cD O Z3 O O) λa h=>?_
 refine ai h O O (gT O) O O (λe0=>aE (eg e0 O) A3 (H.hp.get 2 O) O) λa h=>?_
 obtain⟨hL,f56,u⟩:=bo u
 refine mh (T:=Ext) (V:=.bool hL) h O O (gT O) O O (Ext.refl _) (λe0=>fM [_] (fp (eg e0 O) iH) call79 (pL (x0:=x1.op) (uL e0 f56) (ea _ H.a_))) λw X a h=>?_
 have H:=H.ext X
 obtain⟨l3,hN,u⟩:=bv u
 refine ai h O O (gT O) O O (λe0=>vB hN (dI (eg e0 O))) λa h=>?_
 refine sB h u O (bK O O) λmb ml u a h=>cN k h [2,3,4,5,9,15,17,18,19,59,60,61,74] xR λh=>?_
 refine cI h u O (λh3 u=>?_) λh3 u=>?_
 refine rg λK k=>s1 h O (lA H 12 j2 eA O6) λa h=>zS h H 3 eA O6 O6 xR λw H=>?_
 refine cN k h [4] [_] λh=>?_
 cases u
 refine qe (hr _ _ (Dy h H dz λa w less H h=>?_))
 have E:=E.subC less
 have f:=f.subC less
 have F:=F.subC less
 refine Dd h O (aO H 3 j2 eA O6) ⟨O,H.hp.get 0 O,H.a_⟩
 refine ag<|ah<|s1 h O (ab O kA O wH O O) λa h=>s1 h O (l1 H 7 isAgg24) λa h=>s1 h O (ab O rA O aq O O) λa h=>s1 h O (lA H 12 aQ aq O3) λa h=>cZ (enc:=vL) ([el.v]:List (V)) h H kU aq eX O (zl:=[I 0,I 0,S []]) kR (cb 1 3) [_] O3 O O O O O λa hc Z w g X H e7 h=>?_
 have dz:=dz.sub g
 have E:=E.sub g
 have f:=f.sub g
 have F:=F.sub g
 have J:=g _ _ J
 have G:=g _ _ G
 obtain⟨hP,u⟩:=ck u
 obtain⟨mm,hQ,u⟩:=bv u
 refine cg (enc:=vL) (out:=b4.2.2.2.2.2.2.2) (data:=[el.v]) h H 11 O kU x5 O O O e7 (λ_=>rfl) (λ_ _=>rfl) hP O λa e8 w H h=>?_
 rw[<-hQ]at H
 have H:HZ B0 _ _ xR _:=H
 refine s1 h O (ab O kA O wH O O) λa h=>ap h H 7 O O O wH [e8] (by rw[(H.o1 (i:=11) (enc:=vL) rfl).cells]) rfl (by obtain⟨_,_,_,e_⟩:=(H.o1 (i:=11) (enc:=vL) rfl).form;subst e_;rfl) (by simp) O3 rfl (hl':=xR) rfl λw H=>?_
 refine am<|cO h [2,3,4,5,9,17,18,19,59,60,61] yU λh=>?_
 refine ah<|sI h u O (aw O O) λmn mo u a h=>ae 1 h O λa h=>am ?_
 exact fK (Cp ⟨fq gm u,h.to,(H.cT 12 O),E,F,f,J,G,dz⟩)
 exact aR (Cp ⟨u,h.to,H,E,F,f,J,G,dz⟩)
 refine rg λK k=>ae 1 h O λa h=>cN k h [2,3,4,5,7,8,9,10,11,17,18,19,34] xR λh=>?_
 refine cI h u O (λh4 u=>?_) λh4 u=>?_
 refine lt [7] h H ?_
 refine L1 O (λw X=>ab O gH O Z3 O O) ?_
 refine L1 O (λw X=>have H:=X;l1 H 9 A3) ?_
 refine L1 O (λw X=>ab O gH O Z3 O O) ?_
 refine L1 O (λw X=>have H:=X;l1 H 8 A3) ?_
 refine lI u O (λw X=>bf O O) λmu mv u=>?_
 refine lI u O (λw X=>aw O O) λhT n0 u=>?_
 refine L1 O (λw X=>ab O kA O sizeOf4 O O) ?_
 refine LZ 7 sizeOf4 [_] O3 yU ?_
 refine L1 O (λw X=>ab O kA O Z3 O O) ?_
 refine LZ 7 Z3 [_] O3 yU ?_
 refine lE [2,3,4,5,8,9,10,11,17,18,19] yU λa w H h=>?_
 have H:HZ B0 _ _ yU _:=H
 refine rg λK k=>s1 h O (lA H 8 iT dm O3) λa h=>s1 h O (lA H 9 iT dm O3) λa h=>?_
 obtain⟨n2,f68,u⟩:=bo u
 refine st2 h O O O (dC call78 (qy f68)) ?_
 rintro v_ w ⟨hU,rfl,ad,X⟩ a h
 obtain⟨Z,g,h5,H⟩:=H.aP X
 have dz:=dz.sub g
 have E:=E.sub g
 have f:=f.sub g
 have F:=F.sub g
 have J:=g _ _ J
 have G:=g _ _ G
 have ad:=ad.sub (ZB.empty.trans h5)
 refine cN k h [2,3,4,5,8,9,17,18,19,45] zz λh=>?_
 refine lb<|cO h [2,3,4,5,8,9,17,18,19,45] zz λh=>?_
 obtain⟨hV,h6,u⟩:=bv u
 obtain⟨f70,e9,u⟩:=bo u
 refine yI (λD h7 Z hl=>∃(cp:(List (C × Bool)) × (List (Gt))) (dn:Value),gK hV (W.2.1,([]:List (Gt))) h7=some cp/\hl=[.blk a8 (cJ cV Value.bool cp.1),.blk p1 (aB [(pt ao)] 71),.blk p2 (aB (nL x1 a7) 34),.blk p3 (aB [I W.2.2.1,I W.2.2.2.1,S W.2.2.2.2.1,I W.2.2.2.2.2.1,I W.2.2.2.2.2.2.1,I W.2.2.2.2.2.2.2.1] 76),.row 135 3 af a1.length (a1.flatMap Subtype.val),.blk e3 (aB (nL bk Y) 34),.blk ct (aB [dn] 133),.blk bs (aB [.bool true,I hT,.slice none 0 0] 135),.blk e4 (aB (cL b5.1) 29),.blk e5 (aB (cL b5.2.1) 29),.row 76 6 dn (cp.2:List (Gt)).length ((cp.2:List (Gt)).flatMap vO)]/\DZ B0 Zi Z (D::c8)/\EL cY Z a1 W.2.2.2.2.2.2.2.2/\bi Z a7 aj x1.l/\bi Z Y aj bk.l/\Z b0=some (aB ((x0.p:List V).flatMap vL) 54)/\Z ao=some (aB [.iface 36 (pt b0),I x0.c.s,I x0.c.c,I x0.c.r,.map (some a8)] 74)) h H dz ad call118 ?_ ?_ ?_
 intro D Z g dz
 have E:=E.sub g
 have ad:=ad.sub g
 have f:=f.sub g
 have F:=F.sub g
 have J:=g _ _ J
 have G:=g _ _ G
 exact⟨_,_,O,O,dz,E,F,f,J,G⟩
 rintro D R o h7 x Z1 Z hl a w hW ⟨cp,dn,dv,rfl,dz,E,F,f,J,G⟩ g H h
 have dz:=dz.sub g
 have E:=E.sub g
 have f:=f.sub g
 have F:=F.sub g
 have J:=g _ _ J
 have G:=g _ _ G
 obtain⟨hX,u,dv⟩:=wU e9 dv hW
 replace u:=E3 h6 u
 have H:HZ B0 _ _ En _:=H
 refine xN ?_
 refine zA h H sO O3 (λx=>[_,_,_,_,_,_,_,_,_,_,_,_,x]) λa n5 w X H h=>?_
 refine zS h H 12 dm O3 O3 xR λw H=>?_
 refine nR ?_
 refine⟨H.hp.get 11 O,λo=>?_⟩
 have H:=H.putAt 11 rfl o rfl
 have H:HZ B0 _ _ xR _:=H
 revert H
 generalize World.putObj _ _ _=w
 intro H
 refine zF ?_
 refine A7 0 5 H (λw H=>?_)
 refine cl 0 [5,6] h O (λw H=>l1 H 6 isAgg133) kR O (λa h=>?_)
 refine cl 1 [3,4,5,6] h O (λw H=>l1 H 1 isAgg71) kR O (λa h=>?_)
 refine cl 2 [3,4,5,6] h O (λw H=>lA H 12 iT dm O3) kR O (λa h=>?_)
 obtain⟨h8,f73,u⟩:=bo u
 have c7:=H.sub
 refine oI 3 h O kR (λ_=>H.jF 0) (dt.goes h (dC call45 (kg f73 H.zin G J lp0 (H.hp.get 0 O) (H.dG 0 O _ O) O O))) O ?_
 rintro v_ w a ⟨rfl,ep,X⟩ h
 obtain⟨Zq,bb,hY,H⟩:=H.b_ 0 rfl ep X (hl':=xR) rfl
 have H:=H.tJ bb c7
 have H:HZ B0 _ _ xR _:=H
 refine ut (enc:=vO) ([h8.1]:List (Gt)) 4 h H O kR (λ_=>H.jF 0) O underlying133 eA td O (zl:=[I 0,I 0,S [],I 0,I 0,I 0]) kR (cb 1 6) [_] O6 O O O O (λa v_ Zq w bb H rq h=>?_)
 obtain⟨ih,u⟩:=ck u
 obtain⟨na,jo,u⟩:=bv u
 refine ro (enc:=vO) (out:=cp.2) (data:=[h8.1]) 5 h H 10 O kR (λ_=>(H.tJ bb c7).jF 0) O O underlying133 B_ O O O rq (λ_=>rfl) (λ_ _=>rfl) ih (λa hf w H h=>?_)
 rw[<-jo]at H
 have H:=H.tJ bb c7
 have H:HZ B0 _ _ xR _:=H
 refine pm 6 h O kR (λhq=>nomatch hq) (uB h H 6 sizeOf133 (by rw[(H.o1 (i:=10) (enc:=vO) rfl).cells]) (H.o1 (i:=10) (enc:=vO) rfl).one) rfl ?_
 rintro _ w a H h
 have H:HZ B0 _ _ xR _:=H
 refine pq (λhq=>nomatch hq) kR ?_
 cases u
 exact⟨_,[_,_,_,_,_,_,_,_,_,_,_],⟨_,_,dv,O,dz,E,F,f,J,G⟩,H.cT 12 O⟩
 rintro nb Z1 Z hl R o a w ⟨hX,k4,dv,rfl,dz,E,F,f,J,G⟩ g H h
 have e_:=so (e9.symm.trans dv)
 subst e_
 have dz:=dz.sub g
 have E:=E.sub g
 have f:=f.sub g
 have F:=F.sub g
 have J:=g _ _ J
 have G:=g _ _ G
 have H:=H.cT 11 rfl
 have H:HZ B0 _ _ yU _:=H
 exact Cp ⟨u,h.to,H,E,F,f,J,G,dz⟩
 refine ww 0 5 H (λw H=>?_)
 refine cl 0 [5,6] h O (λw H=>l1 H 6 isAgg133) kR O (λa h=>?_)
 refine cl 1 [3,4,5,6] h O (λw H=>l1 H 1 isAgg71) kR O (λa h=>?_)
 refine cl 2 [3,4,5,6] h O (λw H=>lA H 5 bQ aL aA) kR O (λa h=>?_)
 obtain⟨h9,f79,u⟩:=bo u
 have c7:=H.sub
 refine oI 3 h O kR (λ_=>H.jF 0) (dt.goes h (dC call27 (et f79 H.zin f G J lp0 (H.hp.get 0 O) (H.dG 0 O _ O) O O (ea _ H.a_)))) O ?_
 rintro v_ w a ⟨rfl,er,X⟩ h
 obtain⟨Zq,bb,hY,H⟩:=H.b_ 0 rfl er X (hl':=yU) rfl
 have H:=H.tJ bb c7
 have H:HZ B0 _ _ yU _:=H
 refine ut (enc:=vO) ([h9.1]:List (Gt)) 4 h H O kR (λ_=>H.jF 0) O underlying133 eA td O (zl:=[I 0,I 0,S [],I 0,I 0,I 0]) kR (cb 1 6) [_] O6 O O O O (λa v_ Zq w bb H rq h=>?_)
 obtain⟨k1,u⟩:=ck u
 obtain⟨nk,k2,u⟩:=bv u
 refine ro (enc:=vO) (out:=([]:List (Gt))) (data:=[h9.1]) 5 h H 10 O kR (λ_=>(H.tJ bb c7).jF 0) O O underlying133 B_ O O O rq (λ_=>rfl) (λ_ _=>rfl) k1 (λa hg w H h=>?_)
 rw[<-k2]at H
 have H:=H.tJ bb c7
 have H:HZ B0 _ _ yU _:=H
 refine pm 6 h O kR (λhq=>nomatch hq) (uB h H 6 sizeOf133 (by rw[(H.o1 (i:=10) (enc:=vO) rfl).cells]) (H.o1 (i:=10) (enc:=vO) rfl).one) rfl ?_
 rintro _ w a H h
 have H:HZ B0 _ _ yU _:=H
 refine pq (λhq=>nomatch hq) kR ?_
 exact Cp ⟨u,h.to,H,E,F,f,J,G,dz⟩
 exact aR (Af ⟨u,h.to,H,E,F,J,G,dz⟩)
theorem mV{rec:Rn->Nd->(List (C × Bool))->Option ((Gt) × List (C × Bool))}(a6:rW rec){x0:Rn}{x1:Nd}{m0:List (C × Bool)}{Y:(Gt) × List (C × Bool)}{w0:World}(f:aW rec x0 x1 m0=some Y){Z:FZ}(hZ:Z.inn w0){ao:Value}(F:bi Z ao aj x1.l){b0 b1 a1:Nat}(u:Z b0=some (aB [.iface 36 (pt b1),I x0.c.s,I x0.c.c,I x0.c.r,.map (some a1)] 74)) (E:Z b1=some (aB ((x0.p:List V).flatMap vL) 54)) (lp0:x0.p.length=128) (dj:w0.heap[a1]?=some (cJ cV Value.bool m0)) (el:Z a1=none){B0:Bs}(eB:B0=⟨w0,[a1]⟩){Zi:FZ}(eZ:Zi=Z) (hG:GW w0):Calls prog 27 [(pt b0),(nA x1 ao)].toArray w0 (bj λv w=>v=.agg #[I Y.1.v.k,I Y.1.v.n,S Y.1.v.s,I Y.1.c.s,I Y.1.c.c,I Y.1.c.r]/\w.heap[a1]?=some (cJ cV Value.bool Y.2)/\ExtB B0 w):=by
 have H:HZ B0 Zi Z [.blk a1 (cJ cV Value.bool m0)] w0:=by rw[eB,eZ];exact HZ.dH hZ dj el
 refine tf func27 [0,1] O2 λQ a h hr hn=>?_
 have b2:∀w,ExtB B0 w->GW w:=λw X=>hG.Bz dj eB X
 clear eB eZ
 have H:HZ B0 _ _ [_] _:=H
 unfold aW at f
 refine rg λK k=>aZ h H O aA O O λa p1 w X H h=>?_
 have H:HZ B0 _ _ O2 _:=H
 refine zA h H td O6 (λx=>[_,_,x]) λa p2 w X H h=>?_
 refine cz k<|sq<|rg λK k=>s1 h O (ab O cD O Z3 O O) λa h=>s1 h O (l1 H 1 A3) λa h=>cz k<|lb<|rg λK k=>sB h f O (aD O O) λz5 e5 f a h=>ae 1 h O λa h=>cz k<|cI h f O (λeo f=>?_) λeo f=>?_
 refine rg λK k=>ae 1 h O λa h=>s1 h O (ab O cD O aq O O) λa h=>s1 h O (lA H 1 aQ aq O3) λa h=>?_
 obtain⟨y7,f7,f⟩:=bo f
 refine d_ (T:=Ext) (V:=(gA y7)) h O O O (dC call43 (bO f7 H.zin u E lp0)) λw X a h=>?_
 have H:=H.ext X
 refine zS h H 2 eA O6 O6 O3 λw H=>?_
 refine cN k h [4] [_] λh=>?_
 cases f
 refine r1 hr h O (aO H 2 j2 eA O6) ⟨O,H.hp.get 0 O,H.a_⟩
 obtain⟨J9,ep,f⟩:=bv f
 refine dA (λa w=>∃(Z:FZ) (s9:Bool),J9 s9=some Y/\Fr 110 [(0,(pt b0)),(3,(pt p1)),(4,(pt p2)),(12,I x1.k),(19,.bool s9)] a/\HZ B0 Zi Z [.blk a1 (cJ cV Value.bool m0),.blk p1 (aB (nL x1 ao) 34),.blk p2 (aB [I 0,I 0,S [],I 0,I 0,I 0] 76)] w/\bi Z ao aj x1.l/\Z b1=some (aB ((x0.p:List V).flatMap vL) 54)/\Z b0=some (aB [.iface 36 (pt b1),I x0.c.s,I x0.c.c,I x0.c.r,.map (some a1)] 74)) ?_ ?_
 rintro a w ⟨Z,s9,f,h,H,F,E,u⟩
 subst ep
 refine cI h f O (λdn f=>?_) λdn f=>?_
 refine D4 12 [8,9] h ?_
 refine bN 1 O ?_
 refine F1 O (λw X=>ax O) ?_
 refine F1 O (λw X=>ab O underlying74 O sizeOf70 O O) ?_
 refine F1 O (λw X=>have H:=H.ext X;aE O isAgg70 (H.zin _ _ u) O) ?_
 refine F1 O (λw X=>have H:=H.ext X;lA H 1 bQ aL aA) ?_
 obtain⟨b6,f11,f⟩:=bo f
 refine f2 (V:=.tuple #[(cA b6.1),(cA b6.2.1),.bool b6.2.2]) [27,28] O O O O (λw X=>have Hs:=ZB.of H.zin X;have H:=H.ext X;dC call44 (iW f11 (ZB.inn H.zin) (F.sub Hs) (Hs _ _ E) lp0)) ?_
 refine bN 4 O ?_
 refine gu sO O3 O O ?_
 refine gu sO O3 O O ?_
 refine wT ?_
 intro a w X hR hA
 obtain⟨_,⟨h9,rfl,er⟩,_,⟨ha,rfl,et⟩,h⟩:=hR.out [0,4,5,6,30,31,32]
 have h:Fr 110 [(32,_),(31,_),(30,_),(6,_),(5,_),(4,_),(0,_)] a:=h
 have eu:=hA.zt h (s:=5) rfl rfl
 have ew:=hA.zt h (s:=6) rfl rfl
 have ey:=hA.ne' h (s:=5) (t:=6) rfl rfl rfl rfl rfl
 have H:=H.rO X er eu et ew ey
 have H:HZ B0 _ _ O5 _:=H
 refine tS h H 3 dm O3 O3 O5 λw H=>?_
 refine tS h H 4 dm O3 O3 O5 λw H=>?_
 refine yp 1 h O λa h=>?_
 refine tE ?_
 refine sq<|rg λK k=>ae 1 h O λa h=>sB h f O (dI O) λhb hc f a h=>cN k h [0,4,5,6,34] O5 λh=>?_
 refine cI h f O (λdv f=>?_) λdv f=>?_
 refine rg λK k=>ae 1 h O λa h=>sC h H f O (λez f17=>dC call18 (az f17 :)) λez f w X H a h=>?_
 obtain⟨eF,f18,f⟩:=bo f
 refine d_ (T:=Ext) (V:=(gA eF)) h O O O (dC call43 (bO f18 H.zin u E lp0)) λw X a h=>?_
 have H:=H.ext X
 refine zS h H 2 eA O6 O6 O5 λw H=>?_
 refine cN k h [4] [_] λh=>?_
 cases f
 refine r1 hr h O (aO H 2 j2 eA O6) ⟨O,H.hp.get 0 O,H.a_⟩
 refine ag<|sq<|rg λK k=>s1 h O (lA H 3 iT dm O3) λa h=>s1 h O (lA H 4 iT dm O3) λa h=>sB h f O (lV O O DC (BM _ _ _ _ _ _)) λhf hg f a h=>cN k h [0,4,5,40] O4 λh=>?_
 refine cI h f O (λdz f=>?_) λdz f=>?_
 refine rg λK k=>ae 1 h O λa h=>sC h H f O (λeJ f22=>dC call18 (az f22 :)) λeJ f w X H a h=>?_
 obtain⟨ff,f23,f⟩:=bo f
 refine d_ (T:=Ext) (V:=(gA ff)) h O O O (dC call43 (bO f23 H.zin u E lp0)) λw X a h=>?_
 have H:=H.ext X
 refine zS h H 2 eA O6 O6 O5 λw H=>?_
 refine cN k h [4] [_] λh=>?_
 cases f
 refine r1 hr h O (aO H 2 j2 eA O6) ⟨O,H.hp.get 0 O,H.a_⟩
 refine ag<|rg λK k=>ae 1 h O λa h=>s1 h O (lA H 3 iT dm O3) λa h=>?_
 obtain⟨hj,f24,f⟩:=bo f
 refine st2 h O O O (dC call45 (kg f24 H.zin u E lp0 (H.hp.get 0 O) (H.dG 0 O _ O) O O)) ?_
 rintro v_ w ⟨rfl,b7,X⟩ a h
 obtain⟨Z,g,a7,H⟩:=H.b_ 0 rfl b7 X (hl':=O5) rfl
 have F:=F.sub g
 have E:=g _ _ E
 have u:=g _ _ u
 have H:HZ B0 _ _ O5 _:=H
 refine zS h H 2 eA O6 O6 O5 λw H=>?_
 refine cN k h [4] [_] λh=>?_
 cases f
 refine r1 hr h O (aO H 2 j2 eA O6) ⟨O,H.hp.get 0 O,H.a_⟩
 obtain⟨fs,e0,f⟩:=bv f
 refine dA (λa w=>∃(Z:FZ) (bb:Bool),fs bb=some Y/\Fr 110 [(0,(pt b0)),(3,(pt p1)),(4,(pt p2)),(12,I x1.k),(47,.bool bb)] a/\HZ B0 Zi Z [.blk a1 (cJ cV Value.bool m0),.blk p1 (aB (nL x1 ao) 34),.blk p2 (aB [I 0,I 0,S [],I 0,I 0,I 0] 76)] w/\bi Z ao aj x1.l/\Z b1=some (aB ((x0.p:List V).flatMap vL) 54)/\Z b0=some (aB [.iface 36 (pt b1),I x0.c.s,I x0.c.c,I x0.c.r,.map (some a1)] 74)) ?_ ?_
 rintro a w ⟨Z,bb,f,h,H,F,E,u⟩
 subst e0
 refine cI h f O (λe1 f=>?_) λe1 f=>?_
 refine rg λK k=>ae 1 h O λa h=>s1 h O (ab O cD O hO O O) λa h=>s1 h O (l1 H 1 iO) λa h=>?_
 obtain⟨e2,f⟩:=ck f
 obtain⟨ho,gb,f⟩:=bv f
 have a8:=F.gel ⟨_,aC⟩ 0
 rw[<-gb]at a8
 obtain⟨ef,gf,bk,bq,a8⟩:=a8
 obtain⟨cy,b3,G⟩:=bd a8
 refine bJ h dZ aL O O (bk.at H.zin) e2.1 (bq e2) b3 O λa hq gg h=>?_
 refine s1 h O (ay aA O gg bQ aL O O) λa h=>?_
 obtain⟨ht,f32,f⟩:=bo f
 refine st2 h O O O (dC call27 (a6 f32 H.zin G u E lp0 (H.hp.get 0 O) (H.dG 0 O _ O) O O (b2 _ H.a_))) ?_
 rintro v_ w ⟨rfl,bs,X⟩ a h
 obtain⟨Z,g,a7,H⟩:=H.b_ 0 rfl bs X (hl':=O3) rfl
 have G:=G.sub g
 have F:=F.sub g
 have E:=g _ _ E
 have u:=g _ _ u
 have H:HZ B0 _ _ O3 _:=H
 refine zA h H td O6 (λx=>[_,_,_,x]) λa hv w X H h=>?_
 refine zS h H 3 eA O6 O6 O4 λw H=>?_
 refine cN k h [0,3,4,8] O4 λh=>?_
 refine sq<|rg λK k=>s1 h O (ab O rA O aq O O) λa h=>s1 h O (ab O cB O Z3 O O) λa h=>s1 h O (l1 H 3 A3) λa h=>sB h f O (aD O O) λhx hy f a h=>cz k<|cI h f O (λe3 f=>?_) λe3 f=>?_
 refine rg λK k=>s1 h O (lA H 3 j2 eA O6) λa h=>zS h H 2 eA O6 O6 O4 λw H=>?_
 refine cN k h [4] [_] λh=>?_
 cases f
 refine r1 hr h O (aO H 2 j2 eA O6) ⟨O,H.hp.get 0 O,H.a_⟩
 refine ag<|cO h [0,3,4,8] O4 λh=>?_
 refine rg λK k=>ae 1 h O λa h=>s1 h O (ab O cD O Z3 O O) λa h=>s1 h O (l1 H 1 A3) λa h=>s1 h O (ab O rA O aq O O) λa h=>s1 h O (lA H 3 aQ aq O3) λa h=>sC h H f O (λgl f38=>dC call46 (lT f38 :)) λgl f w X H a h=>?_
 obtain⟨gm,f39,f⟩:=bo f
 refine d_ (T:=Ext) (V:=(gA gm)) h O O O (dC call43 (bO f39 H.zin u E lp0)) λw X a h=>?_
 have H:=H.ext X
 refine zS h H 2 eA O6 O6 O4 λw H=>?_
 refine cN k h [4] [_] λh=>?_
 cases f
 refine r1 hr h O (aO H 2 j2 eA O6) ⟨O,H.hp.get 0 O,H.a_⟩
 refine rg λK k=>sB h f O (aD O O) λhB hD f a h=>ae 1 h O λa h=>cz k<|cI h f O (λe4 f=>?_) λe4 f=>?_
 refine rg λK k=>ae 1 h O λa h=>s1 h O (ab O cD O hO O O) λa h=>s1 h O (l1 H 1 iO) λa h=>?_
 obtain⟨e6,f⟩:=ck f
 obtain⟨hE,h0,f⟩:=bv f
 have ad:=F.gel ⟨_,aC⟩ 0
 rw[<-h0]at ad
 obtain⟨ei,h2,c6,c7,ad⟩:=ad
 obtain⟨da,b4,J⟩:=bd ad
 refine bJ h dZ aL O O (c6.at H.zin) e6.1 (c7 e6) b4 O λa hF h3 h=>?_
 refine s1 h O (ay aA O h3 bQ aL O O) λa h=>?_
 obtain⟨hI,f45,f⟩:=bo f
 refine st2 h O O O (dC call27 (a6 f45 H.zin J u E lp0 (H.hp.get 0 O) (H.dG 0 O _ O) O O (b2 _ H.a_))) ?_
 rintro v_ w ⟨rfl,c8,X⟩ a h
 obtain⟨Z,g,a7,H⟩:=H.b_ 0 rfl c8 X (hl':=O3) rfl
 have J:=J.sub g
 have F:=F.sub g
 have E:=g _ _ E
 have u:=g _ _ u
 have H:HZ B0 _ _ O3 _:=H
 refine zA h H td O6 (λx=>[_,_,_,x]) λa hJ w X H h=>?_
 refine zS h H 3 eA O6 O6 O4 λw H=>?_
 refine cN k h [0,3,4,9] O4 λh=>?_
 refine sq<|rg λK k=>s1 h O (ab O rA O aq O O) λa h=>s1 h O (ab O cB O Z3 O O) λa h=>s1 h O (l1 H 3 A3) λa h=>sB h f O (aD O O) λhK hL f a h=>cz k<|cI h f O (λe7 f=>?_) λe7 f=>?_
 refine rg λK k=>s1 h O (lA H 3 j2 eA O6) λa h=>zS h H 2 eA O6 O6 O4 λw H=>?_
 refine cN k h [4] [_] λh=>?_
 cases f
 refine r1 hr h O (aO H 2 j2 eA O6) ⟨O,H.hp.get 0 O,H.a_⟩
 refine ag<|cO h [0,3,4,9] O4 λh=>?_
 refine rg λK k=>ae 1 h O λa h=>s1 h O (ab O cD O hO O O) λa h=>s1 h O (l1 H 1 iO) λa h=>?_
 obtain⟨e8,f⟩:=ck f
 obtain⟨hN,h4,f⟩:=bv f
 have af:=F.gel ⟨_,aC⟩ 1
 rw[<-h4]at af
 obtain⟨ej,h5,cc,ch,af⟩:=af
 obtain⟨dd,b5,W⟩:=bd af
 refine bJ h dZ aL O O (cc.at H.zin) e8.1 (ch e8) b5 O λa hP h6 h=>?_
 refine s1 h O (ay aA O h6 bQ aL O O) λa h=>?_
 obtain⟨hQ,f54,f⟩:=bo f
 refine st2 h O O O (dC call27 (a6 f54 H.zin W u E lp0 (H.hp.get 0 O) (H.dG 0 O _ O) O O (b2 _ H.a_))) ?_
 rintro v_ w ⟨rfl,cp,X⟩ a h
 obtain⟨Z,g,a7,H⟩:=H.b_ 0 rfl cp X (hl':=O4) rfl
 have W:=W.sub g
 have F:=F.sub g
 have E:=g _ _ E
 have u:=g _ _ u
 have H:HZ B0 _ _ O4 _:=H
 refine zA h H td O6 (λx=>[_,_,_,_,x]) λa hT w X H h=>?_
 refine zS h H 4 eA O6 O6 O5 λw H=>?_
 refine cN k h [0,3,4,9,10] O5 λh=>?_
 refine sq<|rg λK k=>s1 h O (ab O rA O aq O O) λa h=>s1 h O (ab O cB O Z3 O O) λa h=>s1 h O (l1 H 4 A3) λa h=>sB h f O (aD O O) λhU hV f a h=>cz k<|cI h f O (λe9 f=>?_) λe9 f=>?_
 refine rg λK k=>s1 h O (lA H 4 j2 eA O6) λa h=>zS h H 2 eA O6 O6 O5 λw H=>?_
 refine cN k h [4] [_] λh=>?_
 cases f
 refine r1 hr h O (aO H 2 j2 eA O6) ⟨O,H.hp.get 0 O,H.a_⟩
 refine ag<|cO h [0,3,4,9,10] O5 λh=>?_
 refine rg λK k=>ae 1 h O λa h=>s1 h O (ab O cD O Z3 O O) λa h=>s1 h O (l1 H 1 A3) λa h=>s1 h O (ab O rA O aq O O) λa h=>s1 h O (lA H 3 aQ aq O3) λa h=>s1 h O (ab O rA O aq O O) λa h=>s1 h O (lA H 4 aQ aq O3) λa h=>sC h H f O (λh7 f60=>dC call47 (kV f60 (b2 _ H.a_) :)) λh7 f w X H a h=>?_
 obtain⟨h8,f61,f⟩:=bo f
 refine d_ (T:=Ext) (V:=(gA h8)) h O O O (dC call43 (bO f61 H.zin u E lp0)) λw X a h=>?_
 have H:=H.ext X
 refine zS h H 2 eA O6 O6 O5 λw H=>?_
 refine cN k h [4] [_] λh=>?_
 cases f
 refine r1 hr h O (aO H 2 j2 eA O6) ⟨O,H.hp.get 0 O,H.a_⟩
 refine ag<|cO h [0,3,4] O3 λh=>?_
 refine sq<|rg λK k=>s1 h O (ab O cD O Z3 O O) λa h=>s1 h O (l1 H 1 A3) λa h=>sB h f O (jX O O) λhW hX f a h=>cz k<|cI h f O (λea f=>?_) λea f=>?_
 refine rg λK k=>ae 1 h O λa h=>s1 h O (lA H 1 bQ aL aA) λa h=>?_
 obtain⟨hY,f65,f⟩:=bo f
 refine st2 h O O O (dC call48 (nZ a6 f65 H.zin F u E lp0 (H.hp.get 0 O) (H.dG 0 O _ O) O O (b2 _ H.a_))) ?_
 rintro v_ w ⟨rfl,ct,X⟩ a h
 obtain⟨Z,g,a7,H⟩:=H.b_ 0 rfl ct X (hl':=O3) rfl
 have F:=F.sub g
 have E:=g _ _ E
 have u:=g _ _ u
 have H:HZ B0 _ _ O3 _:=H
 refine zS h H 2 eA O6 O6 O3 λw H=>?_
 refine cN k h [4] [_] λh=>?_
 cases f
 refine r1 hr h O (aO H 2 j2 eA O6) ⟨O,H.hp.get 0 O,H.a_⟩
 refine ag<|rg λK k=>ae 1 h O λa h=>s1 h O (lA H 1 bQ aL aA) λa h=>?_
 obtain⟨ih,f67,f⟩:=bo f
 refine st2 h O O O (dC call49 (mI a6 f67 H.zin F u E lp0 (H.hp.get 0 O) (H.dG 0 O _ O) O O (b2 _ H.a_))) ?_
 rintro v_ w ⟨rfl,cx,X⟩ a h
 obtain⟨Z,g,a7,H⟩:=H.b_ 0 rfl cx X (hl':=O3) rfl
 have F:=F.sub g
 have E:=g _ _ E
 have u:=g _ _ u
 have H:HZ B0 _ _ O3 _:=H
 refine zS h H 2 eA O6 O6 O3 λw H=>?_
 refine cN k h [4] [_] λh=>?_
 cases f
 refine r1 hr h O (aO H 2 j2 eA O6) ⟨O,H.hp.get 0 O,H.a_⟩
 refine rg λK k=>sB h f O (aD O O) λjo k1 f a h=>ae 1 h O λa h=>cz k<|cI h f O (λeb f=>?_) λeb f=>?_
 exact ag (bp ⟨f,h.to,H,F,E,u⟩)
 refine ah<|sB h f O (aD O O) λk2 k4 f a h=>ae 1 h O λa h=>am ?_
 exact bp ⟨f,h.to,H,F,E,u⟩
 refine rg λK k=>sB h f O (aD O O) λk5 k6 f a h=>ae 1 h O λa h=>cN k h [0,3,4,12,19] O5 λh=>?_
 refine cI h f O (λec f=>?_) λec f=>?_
 exact ag (bp ⟨f,h.to,H,F,E,u⟩)
 refine rg λK k=>sB h f O (aD O O) λk7 k8 f a h=>ae 1 h O λa h=>cz k<|cI h f O (λed f=>?_) λed f=>?_
 exact ag (bp ⟨f,h.to,H,F,E,u⟩)
 refine ah<|sB h f O (aD O O) λk9 kc f a h=>ae 1 h O λa h=>am ?_
 exact bp ⟨f,h.to,H,F,E,u⟩
theorem n9(k:Nat):∀{x0:Rn}{G:Nd}{H:List (C × Bool)}{f:(Gt) × List (C × Bool)}{w0:World}(J:aM k x0 G H=some f){Z:FZ}(hZ:Z.inn w0){u:Value}(X:bi Z u aj G.l){E F g:Nat}(Y:Z E=some (aB [.iface 36 (pt F),I x0.c.s,I x0.c.c,I x0.c.r,.map (some g)] 74)) (a1:Z F=some (aB ((x0.p:List V).flatMap vL) 54)) (lp0:x0.p.length=128) (a6:w0.heap[g]?=some (cJ cV Value.bool H)) (a7:Z g=none){W:Bs}(eB:W=⟨w0,[g]⟩){Zi:FZ}(eZ:Zi=Z) (hG:GW w0),Calls prog 27 [(pt E),(nA G u)].toArray w0 (bj λv w=>v=.agg #[I f.1.v.k,I f.1.v.n,S f.1.v.s,I f.1.c.s,I f.1.c.c,I f.1.c.r]/\w.heap[g]?=some (cJ cV Value.bool f.2)/\ExtB W w):=by
 induction k with
 |zero=>intro x0 G H f w0 J;exact nomatch (show(none:Option ((Gt) × List (C × Bool)))=some f from J)
 |succ k ih=>exact @mV (aM k) @ih
end Go.Proofs.YtnllbjchcfpmpaaGreatDoor
