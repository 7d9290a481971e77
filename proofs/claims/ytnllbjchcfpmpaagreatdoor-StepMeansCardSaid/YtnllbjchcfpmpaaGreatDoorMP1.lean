/- Joined texts. -/
import Derived.Test.YtnllbjchcfpmpaaGreatDoorMP0
set_option linter.all false
section
namespace Go.Sp
open Go.Stp Go.ValP
variable {rec rec':Rn->Nd->(List (C × Bool))->Option ((Gt) × List (C × Bool))}{R:Rn}{n n':Nd}{m1 m2:List (C × Bool)}
def Vr(r1 r2:Gt × List (C × Bool)):Prop:=r1.1.v=r2.1.v/\Rt r1.1.v
theorem zN{v:V}{a b:List (C × Bool)}(u:Rt v):Ok2 (obind (aK R v) λy=>some (y,a)) (obind (aK R v) λy=>some (y,b)) Vr:=Ok2.ob yo λg E _ _ f=>Ok2.sm (by rw[f.1,f.2];exact⟨O,u⟩)
theorem we{x x':Nd}(h:Ok2 (rec R x m1) (rec' R x' m2) Vr):Ok2 (aV rec R x m1) (aV rec' R x' m2) Vr:=by
 unfold aV
 refine Ok2.ob h λy y' F u hy=>Ok2.bv λz G E f=>Ok2.it (by rw[E,f,hy.1]) (λ_=>Ok2.sm hy) λc=>?_
 rw[<-hy.1]
 exact Ok2.ob (Ok2.same (du hy.2)) λb H _ _ g=>by
  obtain⟨rfl,g⟩:=g
  exact zN g
structure Fc (rec rec':Rn->Nd->(List (C × Bool))->Option ((Gt) × List (C × Bool))) (R:Rn) (x x':Nd):Prop where
 ar:Ok2 (eval_Area R.p x) (eval_Area R.p x') λy y'=>y.2.2=y'.2.2/\(y.2.2=true->y'=y/\Box y.1 y.2.1)
 ev:∀a b,Ok2 (rec R x a) (rec' R x' b) Vr
theorem C4(he:n'.op=n.op) (a6:n'.l.length=n.l.length) (h:∀i:Int,0<=i/\i<(n.l.length:Int)->∀a b,Ok2 (rec R (gel n.l i) a) (rec' R (gel n'.l i) b) Vr) (hl:1<=n.l.length/\n.l.length<=9) (h2:n.op=1\/n.op=2->2<=n.l.length) (cx:1<=n.op/\n.op<=5):Ok2 (aF rec R n m1) (aF rec' R n' m2) Vr:=by
 have go:∀{a b:List (C × Bool)}{i:Int},0<=i/\i<(n.l.length:Int)->∀z G,z=gel n.l i->G=gel n'.l i->Ok2 (obind (rec R z a) λy=>some (y.1,y.2)) (obind (rec' R G b) λy=>some (y.1,y.2)) Vr:=λhi z G e e'=>by
  subst e e'
  exact Ok2.ob (h _ hi _ _) λy y' _ _ hy=>Ok2.sm hy
 unfold aF
 refine Ok2.bv λJ4 b7 e4 ao=>?_
 have bb:n.op=1->∀s t,s.1=m1->t.1=m2->Ok2 (J4 s) (b7 t) Vr:=by
  intro h1 s t hs ht
  have bk:=h2 (.inl h1)
  rw[e4,ao]
  refine Ok2.ck oM oM (Ok2.bv λx x' F u=>?_)
  rw[hs,ht]
  subst F u
  refine Ok2.ob (we (h 0 oM m1 m2)) λy y' ey H hy=>Ok2.bv λz G E f=>Ok2.it (by rw[E,f,hy.1]) (λ_=>Ok2.sm hy) λ_=>Ok2.bv λz G E f=>Ok2.it (by rw[E,f,hy.1]) (λ_=>?_) λ_=>?_
  ·exact Ok2.ck oM oM (Ok2.bv λx x' F u=>go oM _ _ F u)
  refine Ok2.bv λz G E f=>Ok2.it (by rw[E,f,a6]) (λc=>?_) λ_=>?_
  · rw[E,dT]at c
    exact Ok2.ck oM oM (Ok2.bv λx x' F u=>go oM _ _ F u)
  · exact Ok2.ob (Ok2.same ba) λb b' _ _ J=>by
     obtain⟨rfl,J⟩:=J
     exact zN J
 clear e4 ao
 refine Ok2.bv λz2 b0 e2 bq=>Ok2.it (by rw[e2,bq,he]) (λc=>?_) λc2=>?_
 · rw[e2,dT]at c
   have bk:=h2 (.inr c)
   refine Ok2.ck oM oM (Ok2.bv λx x' F u=>?_)
   subst F u
   refine Ok2.ob (h 0 oM m1 m2) λy y' ey H hy=>Ok2.bv λz G E f=>Ok2.it (by rw[E,f,hy.1]) (λ_=>Ok2.sm hy) λ_=>?_
   exact Ok2.ck oM oM (Ok2.bv λx x' F u=>go oM _ _ F u)
 rw[e2,dF]at c2
 refine Ok2.bv λbs b1 b2 Y=>?_
 have a1:∀s:Bool,(s=false->n.op≠3/\n.op≠4)->Ok2 (bs s) (b1 s) Vr:=by
  intro s hs
  rw[b2,Y]
  refine Ok2.it O (λ_=>?_) λc=>?_
  · refine Ok2.bv λcy cp c6 b3=>Ok2.bv λda ct c7 b4=>Ok2.lp (λs t=>∃i:Nat,s.1=(i:Int)/\t.1=(i:Int)/\i<=n.l.length) (λs=>n.l.length-s.1.toNat) ⟨0,O,O,Nat.zero_le _⟩ (by simp;omega) ?_
    rintro s t ⟨i,h1,a7,h3⟩ next next' hn
    rw[c7,b4]
    refine Ok2.bv λz G E f=>Ok2.it (by rw[E,f,h1,a7,a6]) (λc=>?_) λc=>?_
    · rw[E,h1,dT]at c
      have hi:i<n.l.length:=oM
      refine Ok2.ck oM oM (Ok2.bv λx x' F u=>?_)
      rw[h1]at F
      rw[a7]at u
      subst F u
      refine Ok2.ob (we (h i oM s.2.1 t.2.1)) λy y' ey H hy=>Ok2.bv λz1 b5 f1 X=>Ok2.bv λz2 b0 f2 a8=>Ok2.bv λz3 c8 f3 ad=>Ok2.bv λz4 cc f4 af=>Ok2.bv λz5 dd f5 ch=>Ok2.it (by rw[f5,ch,f4,af,f3,ad,f2,a8,f1,X,hy.1,he]) (λ_=>Ok2.sm hy) λ_=>Ok2.bv λz9 dj e9 b6=>?_
      rw[h1]at e9
      rw[a7]at b6
      have e:=fL e9 oM
      have e':=fL b6 oM
      exact hn _ _ ⟨i+1,e,e',hi⟩ (by simp only[e,h1];omega)
    · rw[c6,b3]
      refine Ok2.bv λz G E f=>?_
      rw[he]at f
      subst E f
      exact Ok2.ob (Ok2.same ba) λb b' _ _ J=>by
       obtain⟨rfl,J⟩:=J
       exact zN J
  · obtain⟨c3,c4⟩:=hs c
    refine Ok2.bv λz G E f=>Ok2.it (by rw[E,f,he]) (λc=>?_) λc=>?_
    · refine Ok2.ck oM oM (Ok2.bv λx x' F u=>?_)
      subst F u
      refine Ok2.ob (h 0 oM m1 m2) λy y' ey H hy=>Ok2.bv λz G E f=>Ok2.it (by rw[E,f,hy.1]) (λ_=>Ok2.sm hy) λ_=>?_
      rw[<-hy.1]
      refine Ok2.ob (Ok2.same (cX hy.2)) λv v' _ _ hv=>?_
      obtain⟨rfl,hv⟩:=hv
      refine Ok2.bv λz G E f=>Ok2.it (by rw[E,f]) (λ_=>?_) λ_=>?_
      ·exact zN hv.1
      refine Ok2.bv λz1 b5 f1 X=>Ok2.bv λz2 b0 f2 a8=>Ok2.bv λz3 c8 f3 ad=>Ok2.bv λz4 cc f4 af=>Ok2.it (by rw[f4,af,f3,ad,f2,a8,f1,X,a6]) (λc=>?_) λ_=>?_
      · have e1:b5=z1:=by rw[f1,X]
        rw[f4,f3,f2,bA,dT,dT]at c
        exact Ok2.ck oM oM (Ok2.bv λx x' F u=>go oM _ _ F (by rw[u,e1]))
      · exact Ok2.ob (Ok2.same (av oM)) λb b' _ _ J=>by
         obtain⟨rfl,J⟩:=J
         exact zN J.1
    · rw[E,dF]at c
      exact bb oM _ _ O O
 clear b2 Y
 refine Ok2.bv λz G E f=>Ok2.it (by rw[E,f,he]) (λc=>?_) λc=>Ok2.bv λy y' ey H=>?_
 · have e:G=z:=by rw[E,f,he]
   rw[e]
   exact a1 _ (by rw[c];exact λg=>by cases g)
 · have e:y'=y:=by rw[ey,H,he]
   rw[e]
   refine a1 _ λg=>?_
   rw[E,dF]at c
   rw[ey,dF]at g
   exact⟨c,g⟩
theorem zn(hp:okP R.p) (he:n'.op=n.op) (ct:n'.l.length=n.l.length) (h:∀i:Int,0<=i/\i<(n.l.length:Int)->Fc rec rec' R (gel n.l i) (gel n'.l i)) (hl:n.l.length<=9) (ao:6<=n.op/\n.op<=54):Ok2 (cC rec R n m1) (cC rec' R n' m2) Vr:=by
 unfold cC
 refine Ok2.bv λJ5 cx e5 b0=>?_
 have cy:∀s t,s.2.2.2.2.2.2.2=t.2.2.2.2.2.2.2->s.2.2.2.2.2.2.2.length<=9->(∀a∈s.2.2.2.2.2.2.2,jR a)->Ok2 (J5 s) (cx t) Vr:=by
  intro s t h0 h2 h3
  rw[e5,b0]
  dsimp only
  rw[<-h0,he]
  exact Ok2.ob (Ok2.same (kT ao h2 h3)) λv v' _ _ hv=>by
   obtain⟨rfl,hv⟩:=hv
   exact zN hv
 clear e5 b0
 refine Ok2.bv λel ei da b1=>Ok2.lp (λs t=>∃i:Nat,s.1=(i:Int)/\t.1=(i:Int)/\i<=n.l.length/\s.2.2.2.2.2.2.2.2=t.2.2.2.2.2.2.2.2/\s.2.2.2.2.2.2.2.2.length=i/\∀a∈s.2.2.2.2.2.2.2.2,jR a) (λs=>n.l.length-s.1.toNat) ⟨0,O,O,Nat.zero_le _,O,O,λa ha=>by cases ha⟩ (by simp;omega) ?_
 rintro s t ⟨i,h1,a7,h3,h0,h5,h6⟩ next next' hn
 rw[da,b1]
 refine Ok2.bv λz z' ez a8=>Ok2.it (by rw[ez,a8,h1,a7,ct]) (λc=>?_) λc=>cy _ _ h0 (by dsimp only;omega) h6
 rw[ez,h1,dT]at c
 have hi:i<n.l.length:=oM
 refine Ok2.ck oM oM (Ok2.bv λx x' ex b2=>?_)
 rw[h1]at ex
 rw[a7]at b2
 have hx:=h i oM
 rw[<-ex,<- b2]at hx
 refine Ok2.ob hx.ar λy y' _ _ hy=>Ok2.bv λdd b3 b4 Y=>?_
 have a1:∀q u,q.2.2.1=u.2.2.1->q.2.1=u.2.1->q.2.2.2.map (·.v)=u.2.2.2.map (·.v)->(q.2.2.1=1\/q.2.2.1=2)->q.2.2.2.length<=6->(∀g∈q.2.2.2,Rt g.v)->Ok2 (dd q) (b3 u) Vr:=by
  rintro⟨qm,qa,qc,ql⟩ ⟨um,ua,uc,ul⟩ g1 g2 g3 k2 k3 k4
  dsimp only at g1 g2 g3 k2 k3 k4
  subst g1 g2
  have gl:ql.length=ul.length:=by simpa using congrArg List.length g3
  rw[b4,Y]
  dsimp only
  refine Ok2.bv λdj b5 b6 a6=>?_
  have b7:∀u v,u.2.2.2.2.2.2=v.2.2.2.2.2.2->u.2.2.2.2.2.2.length<=6->(∀v∈u.2.2.2.2.2.2,Rt v)->Ok2 (dj u) (b5 v) Vr:=by
   intro u v u0 u1 u2
   rw[b6,a6]
   dsimp only
   rw[<-u0,<- h0]
   refine Ok2.ck (by simp only[List.length_cons,List.length_nil];omega) (by simp only[List.length_cons,List.length_nil];omega) (Ok2.bv λw w' E F=>Ok2.bv λz9 dn e9 G=>?_)
   rw[h1]at e9
   rw[a7]at G
   have e:=fL e9 oM
   have e':=fL G oM
   refine hn _ _ ⟨i+1,e,e',hi,by dsimp only;rw[E,F],by dsimp only;rw[E];simp;omega,?_⟩ (by simp only[e,h1];omega)
   dsimp only
   rw[E]
   exact eN h6 ⟨by dsimp only;omega,u2,k2⟩
  clear b6 a6
  refine Ok2.bv λeo ej dv bb=>Ok2.lp (λu v=>∃j:Nat,u.1=(j:Int)/\v.1=(j:Int)/\j<=ql.length/\u.2.2.2.2.2.2.2=v.2.2.2.2.2.2.2/\u.2.2.2.2.2.2.2.length=j/\∀v∈u.2.2.2.2.2.2.2,Rt v) (λu=>ql.length-u.1.toNat) ⟨0,O,O,Nat.zero_le _,O,O,λa ha=>by cases ha⟩ (by simp;omega) ?_
  rintro u v ⟨j,u1,ad,u2,u0,u3,u4⟩ dz cp e0
  rw[dv,bb]
  refine Ok2.bv λz z' ez a8=>Ok2.it (by rw[ez,a8,u1,ad,gl]) (λc=>?_) λc=>b7 _ _ u0 (by dsimp only;omega) u4
  rw[ez,u1,dT]at c
  refine Ok2.ck oM oM (Ok2.bv λg g' eg bk=>?_)
  rw[u1]at eg
  rw[ad]at bk
  have af:g.v=g'.v:=by
   have e1:=ak (l:=ql) (i:=(j:Int)) oM
   have e2:=ak (l:=ul) (i:=(j:Int)) oM
   have e3:=congrArg (λl:List V=>l[(j:Int).toNat]?) g3
   simp only[List.getElem?_map,e1,e2,Option.map_some,Option.some.injEq]at e3
   rw[eg,bk,e3]
  have hg:=k4 g (by rw[eg];exact cu oM)
  refine Ok2.bv λz1 X e4 bq=>?_
  obtain rfl:X=z1:=by rw[e4,bq,af]
  have e6:Ok (if X=true then fk n.op else some default) λ_=>True:=Ok.it (λ_=>kP ao) λ_=>Ok.sm trivial
  rw[he]
  refine Ok2.ob (Ok2.same e6) λb b' _ _ hb=>?_
  obtain⟨rfl,_⟩:=hb
  refine Ok2.bv λz2 bs e7 c6=>Ok2.bv λz3 ep e8 c7=>Ok2.it (by rw[e8,c7,e7,c6]) (λ_=>Ok2.sm ⟨af,hg⟩) λ_=>?_
  rw[<-u0]
  refine Ok2.ck (by simp only[List.length_cons,List.length_nil];omega) (by simp only[List.length_cons,List.length_nil];omega) (Ok2.bv λw w' E F=>Ok2.bv λz9 dn e9 G=>?_)
  rw[u1]at e9
  rw[ad]at G
  have e:=fL e9 oM
  have e':=fL G oM
  refine e0 _ _ ⟨j+1,e,e',oM,by dsimp only;rw[E,F,af],by dsimp only;rw[E];simp;omega,?_⟩ (by simp only[e,u1];omega)
  dsimp only
  rw[E]
  exact eN u4 hg
 clear b4 Y
 refine Ok2.it hy.1 (λc=>?_) λ_=>?_
 · obtain⟨ey,H⟩:=hy.2 c
   subst ey
   have:=H.c0;have:=H.c1;have:=H.c2;have:=H.c3
   refine Ok2.bv λz1 X e1 ea=>Ok2.bv λz2 bs e2 eb=>?_
   have g1:X=z1:=by rw[e1,ea]
   have g2:bs=z2:=by rw[e2,eb,g1]
   have f1:=(au e1).2 oM
   have f2:=(au e2).2 oM
   refine Ok2.ob (Ok2.same (cells_ok H)) λl l' _ _ c8=>?_
   obtain⟨rfl,c8⟩:=c8
   refine Ok2.bv λec cc ed ch=>?_
   have hf:Ok2 (gK ec (s.2.1,[]) l) (gK cc (t.2.1,[]) l) λs' t'=>s'.2=t'.2/\s'.2.length=0+l.length/\∀g∈s'.2,Rt g.v:=by
    refine ry (N:=6) (λ(s' t':(List (C × Bool)) × List Gt) k=>s'.2=t'.2/\s'.2.length=k/\∀g∈s'.2,Rt g.v) ?_ l (s.2.1,[]) (t.2.1,[]) 0 oM ⟨O,O,λa (ha:a∈([]:List Gt))=>by cases ha⟩
    rintro s' t' k x hk ⟨g0,g2,g3⟩
    rw[ed,ch]
    refine Ok2.ob (tA hp x) λy2 ef _ _ J=>Ok2.ck (by simp only[List.length_cons,List.length_nil];omega) (by rw[<-g0];simp only[List.length_cons,List.length_nil];omega) (Ok2.bv λw w' E F=>Ok2.sm ⟨?_,?_,?_⟩)
    · dsimp only
      rw[E,F,g0,J.1]
    · dsimp only
      rw[E]
      simp
      omega
    · dsimp only
      rw[E]
      exact eN g3 J.2.1
   refine Ok2.ob hf λf f' _ _ hf=>a1 _ _ g2.symm O (by dsimp only;rw[hf.1]) (by dsimp only;omega) (by have:=hf.2.1;dsimp only;omega) hf.2.2
 · refine Ok2.ob (hx.ev _ _) λy2 ef _ _ J=>Ok2.ck (by simp) (by simp) (Ok2.bv λw w' E F=>?_)
   refine a1 _ _ O O (by dsimp only;rw[E,F];simp[J.1]) (.inl rfl) (by dsimp only;rw[E];simp) ?_
   dsimp only
   rw[E]
   intro g hg
   simp at hg
   subst hg
   exact J.2
theorem wK(hp:okP R.p){d:Nat}(hn:okN (d+1) n) (f:n'.k=n.k) (he:n'.op=n.op) (b5:n'.v=n.v) (af:n'.l.length=n.l.length) (b6:n.k<=4->n'=n) (h:5<=n.k->∀i:Int,0<=i/\i<(n.l.length:Int)->∀a b,Ok2 (rec R (gel n.l i) a) (rec' R (gel n'.l i) b) Vr) (ha:n.k=8->6<=n.op->∀i:Int,0<=i/\i<(n.l.length:Int)->Ok2 (eval_Area R.p (gel n.l i)) (eval_Area R.p (gel n'.l i)) λy y'=>y.2.2=y'.2.2/\(y.2.2=true->y'=y/\Box y.1 y.2.1)):Ok2 (aW rec R n m1) (aW rec' R n' m2) Vr:=by
 obtain⟨b7,hn⟩:=hn
 have ff:∀{c:Int},1<=c/\c<=7->Ok2 (obind (aG c) λv=>obind (aK R v) λy=>some (y,m1)) (obind (aG c) λv=>obind (aK R v) λy=>some (y,m2)) Vr:=λhc=>Ok2.ob (Ok2.same (av hc)) λb b' _ _ hb=>by
  obtain⟨rfl,hb⟩:=hb
  exact zN hb.1
 unfold aW
 refine Ok2.bv λz1 dd e1 bb=>Ok2.it (by rw[e1,bb,f]) (λc=>?_) λc1=>?_
 · rw[e1,dT]at c
   have H:Rt n.v:=by
    rcases hn with h|h|h|h|h|h|h
    ·exact h.2
    all_goals omega
   rw[b5]
   exact zN H
 rw[e1,dF]at c1
 refine Ok2.bv λJ9 bk e9 ao=>?_
 have a6:∀s:Bool,(s=true->n.k<=4)->(s=false->n.k≠2/\n.k≠3/\n.k≠4)->Ok2 (J9 s) (bk s) Vr:=by
  intro s ht hs
  rw[e9,ao]
  refine Ok2.it O (λg=>?_) λc=>?_
  · rw[b6 (ht g)]
    refine Ok2.ob (Ok2.same (jJ (p:=R.p) b7)) λy y' _ _ hy=>?_
    obtain⟨rfl,hy⟩:=hy
    refine Ok2.bv λz2 a7 e2 bq=>Ok2.it (by rw[e2,bq]) (λ_=>ff oM) λ_=>Ok2.bv λz3 b0 e3 bs=>Ok2.it (by rw[e3,bs]) (λ_=>ff oM) λ_=>?_
    exact Ok2.ob (tA hp _) λy y' _ _ hy=>Ok2.sm ⟨by dsimp only;rw[hy.1],hy.2.1⟩
  · have hk:=hs c
    refine Ok2.bv λc6 b1 b2 Y=>?_
    have a1:∀s:Bool,(s=true->n.k=5\/n.k=6)->(s=false->n.k≠5/\n.k≠6)->Ok2 (c6 s) (b1 s) Vr:=by
     intro s c7 c8
     rw[b2,Y]
     refine Ok2.it O (λc=>?_) λc=>?_
     · have cc:=c7 c
       have J:n.l.length=1/\∀x∈n.l,okN d x:=by
        rcases hn with h|h|h|h|h|h|h
        ·omega
        ·omega
        ·omega
        ·omega
        ·exact h.2
        ·omega
        ·omega
       refine Ok2.ck oM oM (Ok2.bv λx x' ex a8=>?_)
       subst ex a8
       refine Ok2.ob (h oM 0 oM m1 m2) λy y' _ _ hy=>Ok2.bv λz z' F u=>Ok2.it (by rw[F,u,hy.1]) (λ_=>Ok2.sm hy) λ_=>?_
       rw[<-hy.1,f]
       exact Ok2.ob (Ok2.same (iK hy.2)) λv v' _ _ H=>by
        obtain⟨rfl,H⟩:=H
        exact zN H
     · have cc:=c8 c
       refine Ok2.bv λz4 dj e4 ch=>Ok2.it (by rw[e4,ch,f]) (λc=>?_) λc=>?_
       · rw[e4,dT]at c
         have J:n.l.length=2/\(1<=n.op/\n.op<=11)/\∀x∈n.l,okN d x:=by
          rcases hn with h|h|h|h|h|h|h
          ·omega
          ·omega
          ·omega
          ·omega
          ·omega
          ·exact h.2
          ·omega
         refine Ok2.ck oM oM (Ok2.bv λx x' ex a8=>?_)
         subst ex a8
         refine Ok2.ob (h oM 0 oM m1 m2) λy y' _ _ hy=>Ok2.bv λz z' F u=>Ok2.it (by rw[F,u,hy.1]) (λ_=>Ok2.sm hy) λcx=>Ok2.ck oM oM (Ok2.bv λx2 dn bp b3=>?_)
         subst bp b3
         refine Ok2.ob (h oM 1 oM y.2 y'.2) λy2 dv _ _ X=>Ok2.bv λz2 a7 E G=>Ok2.it (by rw[E,G,X.1]) (λ_=>Ok2.sm X) λcy=>?_
         rw[F,dF]at cx
         rw[E,dF]at cy
         rw[<-hy.1,<- X.1,he]
         exact Ok2.ob (Ok2.same (gX J.2.1 hy.2 X.2 cx cy)) λv v' _ _ H=>by
          obtain⟨rfl,H⟩:=H
          exact zN H
       · rw[e4,dF]at c
         have cp:n.k=8:=by
          rcases hn with h|h|h|h|h|h|h
          all_goals first|omega|exact h.1
         have J:(1<=n.op/\n.op<=54)/\n.l.length<=9/\(n.op<=5->1<=n.l.length)/\(n.op=1\/n.op=2->2<=n.l.length)/\∀x∈n.l,okN d x:=by
          rcases hn with h|h|h|h|h|h|h
          ·omega
          ·omega
          ·omega
          ·omega
          ·omega
          ·omega
          ·exact h.2
         refine Ok2.bv λz5 dz e5 ct=>Ok2.it (by rw[e5,ct,he]) (λc=>?_) λc=>?_
         · rw[e5,dT]at c
           exact Ok2.ob (C4 he af (h oM) ⟨J.2.2.1 c,J.2.1⟩ J.2.2.2.1 ⟨J.1.1,c⟩) λy y' _ _ hy=>Ok2.sm hy
         · rw[e5,dF]at c
           exact Ok2.ob (zn hp he af (λi hi=>⟨ha cp oM i hi,h oM i hi⟩) J.2.1 ⟨oM,J.1.2⟩) λy y' _ _ hy=>Ok2.sm hy
    clear b2 Y
    refine Ok2.bv λz z' F u=>?_
    obtain rfl:z'=z:=by rw[F,u,f]
    refine Ok2.it O (λc=>a1 _ (λ_=>?_) λg=>?_) λc=>Ok2.bv λy y' ey da=>?_
    · rw[F,dT]at c
      exact .inl c
    · rw[c]at g
      cases g
    · obtain rfl:y'=y:=by rw[ey,da,f]
      refine a1 _ (λg=>?_) λg=>?_
      · rw[ey,dT]at g
        exact .inr g
      · rw[ey,dF]at g
        rw[F,dF]at c
        exact⟨c,g⟩
 clear e9 ao
 refine Ok2.bv λz z' F u=>?_
 obtain rfl:z'=z:=by rw[F,u,f]
 refine Ok2.it O (λc=>a6 _ (λ_=>?_) λg=>?_) λc=>Ok2.bv λz2 a7 E G=>?_
 ·rw[F,dT]at c;omega
 · rw[c]at g
   cases g
 obtain rfl:a7=z2:=by rw[E,G,f]
 refine Ok2.it O (λc2=>a6 _ (λ_=>?_) λg=>?_) λc2=>Ok2.bv λz3 b0 ad b4=>?_
 ·rw[E,dT]at c2;omega
 · rw[c2]at g
   cases g
 obtain rfl:b0=z3:=by rw[ad,b4,f]
 refine a6 _ (λg=>?_) λg=>?_
 ·rw[ad,dT]at g;omega
 rw[F,dF]at c
 rw[E,dF]at c2
 rw[ad,dF]at g
 exact⟨c,c2,g⟩
theorem okN.qX{d:Nat}{x:Nd}(h:okN (d+1) n) (u:5<=n.k) (f:x∈n.l):okN d x:=by
 rcases h.2 with g|g|g|g|g|g|g
 ·omega
 ·omega
 ·omega
 ·omega
 ·exact g.2.2 x f
 ·exact g.2.2.2 x f
 ·exact g.2.2.2.2.2 x f
theorem yR(hp:okP R.p):∀(d k u:Nat) (n:Nd) (m1 m2:List (C × Bool)),d<=k->d<=u->okN d n->Ok2 (aM k R n m1) (aM u R n m2) Vr
 |0,_,_,_,_,_,_,_,h=>h.elim
 |d+1,0,_,_,_,_,E,_,_=>absurd E oM
 |d+1,k+1,0,_,_,_,_,E,_=>absurd E oM
 |d+1,k+1,u+1,n,m1,m2,E,F,h=>by
  rw[gG,gG]
  exact wK hp h O O O O (λ_=>rfl) (λG i hi a b=>yR hp d k u _ a b oM oM (h.qX G (cu hi))) λH _ i hi=>(Ok2.same (jJ (p:=R.p) (h.qX oM (cu hi)).Dp)).mono λa b f=>⟨by rw[f.1],λg=>⟨f.1.symm,f.2 g⟩⟩
end Go.Sp
end
section
namespace Go.Sp
open Go.Stp Go.ValP
inductive Pf:Nat->Nd->Prop
 |lit (d:Nat) (v:V):Rt v->Pf (d+1) ⟨1,0,v,r0,r0,[],[]⟩
 |cell (d:Nat) (r:Rf):(0<=r.c.c/\r.c.c<=3/\0<=r.c.r/\r.c.r<=3/\0<=r.c.s/\r.c.s<=1)->Pf (d+1) ⟨2,0,⟨0,0,[]⟩,r,r0,[],[]⟩
 |span (d:Nat) (r:Rf) (x y:Int):(0<=r.c.c/\r.c.c<=3/\0<=r.c.r/\r.c.r<=3/\0<=r.c.s/\r.c.s<=1)->(r.c.c<=x/\x<=r.c.c+1)->(r.c.r<=y/\y<=r.c.r+2)->Pf (d+1) ⟨3,0,⟨0,0,[]⟩,r,⟨⟨r.c.s,x,y⟩,r.ac,r.ar⟩,[],[]⟩
 |un (d:Nat) (k:Int) (x:Nd):(k=5\/k=6)->Pf d x->Pf (d+1) ⟨k,0,⟨0,0,[]⟩,r0,r0,[],[x]⟩
 |bin (d:Nat) (op:Int) (x y:Nd):(1<=op/\op<=11)->Pf d x->Pf d y->Pf (d+1) ⟨7,op,⟨0,0,[]⟩,r0,r0,[],[x,y]⟩
 |call (d:Nat) (op:Int) (l:List Nd):(1<=op/\op<=54)->l.length<=3->fitB op l.length=true->(∀x∈l,Pf d x)->Pf (d+1) ⟨8,op,⟨0,0,[]⟩,r0,r0,[],l⟩
theorem xz:sV Pf where
 lit:=.lit
 cell:=.cell
 span:=.span
 un:=.un
 bin:=.bin
 call:=.call
theorem Pf.okN:∀{d:Nat}{n:Nd},Pf d n->okN d n
 |_,_,.lit d v h=>gR.lit d v h
 |_,_,.cell d r h=>gR.cell d r h
 |_,_,.span d r x y h u E=>gR.span d r x y h u E
 |_,_,.un d k x F f=>gR.un d k x F (Pf.okN f)
 |_,_,.bin d op x y g f hy=>gR.bin d op x y g (Pf.okN f) (Pf.okN hy)
 |_,_,.call d op l g hl G f=>gR.call d op l g hl G λx H=>Pf.okN (f x H)
theorem Pf.up:∀{d:Nat}{n:Nd},Pf d n->Pf (d+1) n
 |_,_,.lit d v h=>.lit _ v h
 |_,_,.cell d r h=>.cell _ r h
 |_,_,.span d r x y h u E=>.span _ r x y h u E
 |_,_,.un d k x F f=>.un _ k x F (Pf.up f)
 |_,_,.bin d op x y g f hy=>.bin _ op x y g (Pf.up f) (Pf.up hy)
 |_,_,.call d op l g hl G f=>.call _ op l g hl G λx H=>Pf.up (f x H)
mutual
def wt:Nd->Nat
 |⟨k,_,_,_,_,_,l⟩=>(if k=1 then 1 else 2)+zM l
def zM:List Nd->Nat
 |[]=>0
 |x::l=>wt x+zM l
end
mutual
def sz:Nd->Nat
 |⟨_,_,_,_,_,_,l⟩=>1+uN l
def uN:List Nd->Nat
 |[]=>0
 |x::l=>sz x+uN l
end
theorem tT(n:Nd):wt n=(if n.k=1 then 1 else 2)+zM n.l:=by cases n;rfl
theorem q_(n:Nd):sz n=1+uN n.l:=by cases n;rfl
theorem Dj(n:Nd):1<=wt n:=by rw[tT];split<;>omega
theorem yc(n:Nd):1<=sz n:=by rw[q_];omega
theorem yT{x:Nd}:∀{l:List Nd},x∈l->wt x<=zM l/\sz x<=uN l
 |[],h=>by cases h
 |y::l,h=>by
  simp only[zM,uN]
  rcases List.mem_cons.1 h with rfl|h
  ·omega
  · have:=yT h
    omega
theorem xZ{x':Nd}:∀{l:List Nd}{i:Nat}{x:Nd},l[i]?=some x->zM (l.set i x')+wt x=zM l+wt x'/\uN (l.set i x')+sz x=uN l+sz x'
 |[],i,x,h=>by simp at h
 |y::l,0,x,h=>by
  simp at h;subst h
  simp only[List.set_cons_zero,zM,uN];omega
 |y::l,i+1,x,h=>by
  have:=xZ (x':=x') (l:=l) (i:=i) (x:=x) (by simpa using h)
  simp only[List.set_cons_succ,zM,uN];omega
structure StP (d:Nat) (n m:Nd):Prop where
 pf:Pf d m
 wt:wt m<wt n
 sz:sz m<=sz n
theorem StP.lit{d:Nat}{n:Nd}{v:V}(f:n.k≠1) (h:Rt v):StP (d+1) n (litN v):=⟨.lit d v h,by
 rw[tT n,if_neg f]
 show 1+0<_
 omega,by
 have:=yc n
 show 1+0<=_
 omega⟩
theorem StP.qX{d:Nat}{n x:Nd}(f:x∈n.l) (h:Pf d x):StP (d+1) n x:=by
 have:=yT f
 refine⟨h.up,?_,?_⟩
 ·rw[tT n];split<;>omega
 ·rw[q_ n];omega
theorem StP.at{d:Nat}{n x x':Nd}{i:Nat}(h:Pf (d+1) n) (hi:n.l[i]?=some x) (f:StP d x x'):StP (d+1) n ⟨n.k,n.op,n.v,n.a,n.b,n.nm,n.l.set i x'⟩:=by
 have hs:=xZ (x':=x') hi
 have H:=f.wt
 have hz:=f.sz
 refine⟨?_,?_,?_⟩
 · cases h with
   |lit _ v J=>simp at hi
   |cell _ r u=>simp at hi
   |span _ r x y u X Y=>simp at hi
   |un _ k y E hy=>
    match i,hi with
    |0,_=>exact .un _ _ _ E f.pf
    |i+1,hi=>simp at hi
   |bin _ op y z g hy hz=>
    match i,hi with
    |0,_=>exact .bin _ _ _ _ g f.pf hz
    |1,_=>exact .bin _ _ _ _ g hy f.pf
    |i+2,hi=>simp at hi
   |call _ op l g hl F hy=>
    refine .call _ _ _ g (by rw[List.length_set];exact hl) (by rw[List.length_set];exact F) λy G=>?_
    rcases List.mem_or_eq_of_mem_set G with h|rfl
    ·exact hy y h
    ·exact f.pf
 ·rw[tT n,tT];dsimp only;split<;>omega
 ·rw[q_ n,q_];dsimp only;omega
theorem Pf.qX{d:Nat}{n x:Nd}(h:Pf (d+1) n) (f:x∈n.l):Pf d x:=by
 cases h with
 |lit _ v E=>simp at f
 |cell _ r g=>simp at f
 |span _ r x y g F G=>simp at f
 |un _ k y H hy=>rw[List.mem_singleton.1 f];exact hy
 |bin _ op y z u hy hz=>
  simp only[List.mem_cons,List.not_mem_nil,or_false]at f
  rcases f with rfl|rfl
  ·exact hy
  ·exact hz
 |call _ op l u hl J hy=>exact hy x f
theorem Pf.len{d:Nat}{n:Nd}(h:Pf d n):n.l.length<=3:=by
 cases h<;>simp<;>assumption
theorem Pf.rt{d:Nat}{n:Nd}(h:Pf d n) (f:n.k=1):Rt n.v/\n=litN n.v:=by
 cases h with
 |lit _ v g=>exact⟨g,O⟩
 |un _ k y u hy=>exact absurd f (by dsimp only;omega)
 |_=>exact absurd f (by dsimp only;omega)
variable {rec:Nd->List V->Option Nd}{p:List V}{d:Nat}{n:Nd}
end Go.Sp
end
section
namespace Go.Sp
open Go.Stp Go.ValP
variable {rec:Nd->List V->Option Nd}{p:List V}{d:Nat}{n:Nd}
theorem kv{l:List Nd}{i:Nat}(h:i<l.length):l[i]?=some (gel l (i:Int)):=by
 have:=ak (l:=l) (i:=(i:Int)) oM
 rwa[Int.toNat_natCast]at this
theorem sD(x:Nd):step_done x=some (decide (x.k=1)):=rfl
theorem StP.drop{d:Nat}{op:Int}{x:Nd}{l:List Nd}(f:op=3\/op=4) (hl:1<=l.length/\l.length<=2) (h:∀y∈x::l,Pf d y){v:V}{a b:Rf}{nm:List UInt8}:StP (d+1) ⟨8,op,v,a,b,nm,x::l⟩ ⟨8,op,⟨0,0,[]⟩,r0,r0,[],l⟩:=by
 have:=Dj x
 have:=yc x
 refine⟨.call d op l oM oM ?_ λy hy=>h y (List.mem_cons_of_mem _ hy),?_,?_⟩
 · have g:fitB 3 1=true/\fitB 3 2=true/\fitB 4 1=true/\fitB 4 2=true:=by decide +kernel
   rcases f with rfl|rfl<;>rcases(show l.length=1\/l.length=2 by omega)with e|e<;>rw[e]<;>simp[g]
 · simp only[Go.Sp.wt,zM]
   simp
   omega
 · simp only[Go.Sp.sz,uN]
   omega
theorem zX:∀op:Int,op=1\/op=2->∀k:Nat,k<=3->fitB op k=true->2<=k:=by
 intro op f k u g
 have:fitB 1 0=false/\fitB 1 1=false/\fitB 2 0=false/\fitB 2 1=false:=by decide +kernel
 rcases(show k=0\/k=1\/2<=k by omega)with rfl|rfl|h
 ·rcases f with rfl|rfl<;>simp[this]at g
 ·rcases f with rfl|rfl<;>simp[this]at g
 ·exact h
end Go.Sp
end
section
namespace Go.Sp
open Go.Stp Go.ValP
variable {rec:Rn->Nd->(List (C × Bool))->Option ((Gt) × List (C × Bool))}{R:Rn}{n:Nd}{m:List (C × Bool)}{v t:V}{c:C}{d:Nat}
noncomputable def valF (R:Rn) (n:Nd):V:=match aM KK R n []with
 |some r=>r.1.v
 |none=>default
theorem val_ok(hp:okP R.p){k:Nat}(hd:d<=1000) (g:d<=k) (h:okN d n) (a:List (C × Bool)):Ok (aM k R n a) λr=>r.1.v=valF R n/\Rt r.1.v:=by
 obtain⟨x,y,u,E,f⟩:=yR hp d k KK n a [] g (by unfold KK;omega) h
 refine⟨x,u,?_,f.2⟩
 unfold valF
 rw[E,f.1]
theorem nz(hp:okP R.p){k:Nat}(hd:d<=1000) (f:d<=k) (h:okN d n){a:List (C × Bool)}(g:Ok (aM k R n a) λr=>r.1.v=v):valF R n=v:=by
 obtain⟨x,u,E,_⟩:=val_ok hp hd f h a
 obtain⟨y,f1,f2⟩:=g
 rw[u]at f1
 cases f1
 exact E.symm.trans f2
theorem l5{k:Nat}(g:1<=k) (v:V) (m:List (C × Bool)):aM k R (litN v) m=some (⟨v,R.c⟩,m):=by
 obtain⟨k,rfl⟩:∃f,k=f+1:=⟨k-1,oM⟩
 exact Cq k R v m
theorem pQ(v:V):valF R (litN v)=v:=by
 unfold valF
 rw[l5 (by unfold KK;omega)]
theorem Ey(f:0<n.l.length) (g:n.op=2) (u:rec R (gel n.l 0) m=some (⟨v,c⟩,m)) (E:v.k≠4):aF rec R n m=some (⟨v,c⟩,m):=by
 simp[aF,aa,aJ,obind,g,u,E,f]
theorem Ew(G:2<=n.l.length) (f:n.op=2) (g:rec R (gel n.l 0) m=some (⟨v,c⟩,m)) (u:v.k=4):aF rec R n m=obind (rec R (gel n.l 1) m) λy=>some (y.1,y.2):=by
 have E:0<n.l.length:=oM
 have F:¬(n.l.length:Int)<=1:=oM
 simp[aF,aa,aJ,obind,f,g,u,E]
 exact λh=>absurd h F
theorem Be{x:Nd}(f:rec R x m=some (⟨v,c⟩,m)) (g:v.k=4):aV rec R x m=some (⟨v,c⟩,m):=by
 simp[aV,aa,obind,f,g]
theorem AR{x:Nd}(f:rec R x m=some (⟨v,c⟩,m)) (g:v.k≠4) (u:bZ v=some t):aV rec R x m=some (⟨t,R.c⟩,m):=by
 simp[aV,aa,obind,f,g,u,aK]
theorem Dx(f:0<n.l.length) (g:n.op=1) (u:aV rec R (gel n.l 0) m=some (⟨v,c⟩,m)) (E:v.k=4):aF rec R n m=some (⟨v,c⟩,m):=by
 simp[aF,aa,aJ,obind,g,u,E,f]
theorem Ex(H:2<=n.l.length) (f:n.op=1) (g:aV rec R (gel n.l 0) m=some (⟨v,c⟩,m)) (u:v.k≠4) (E:v.n=1):aF rec R n m=obind (rec R (gel n.l 1) m) λy=>some (y.1,y.2):=by
 have F:0<n.l.length:=oM
 have G:¬(n.l.length:Int)<=1:=oM
 simp[aF,aa,aJ,obind,f,g,u,E,F]
 exact λh=>absurd h G
theorem EO(f:n.l.length=3) (g:n.op=1) (u:aV rec R (gel n.l 0) m=some (⟨v,c⟩,m)) (E:v.k≠4) (F:v.n≠1):aF rec R n m=obind (rec R (gel n.l 2) m) λy=>some (y.1,y.2):=by
 simp[aF,aa,aJ,obind,g,u,E,F,f]
theorem ED(f:0<n.l.length) (J:n.l.length≠3) (g:n.op=1) (u:aV rec R (gel n.l 0) m=some (⟨v,c⟩,m)) (E:v.k≠4) (F:v.n≠1) (G:bu false=some t):aF rec R n m=some (⟨t,R.c⟩,m):=by
 have H:¬(n.l.length:Int)=3:=oM
 simp[aF,aa,aJ,obind,g,u,E,F,f,H,G,aK]
theorem Et(f:0<n.l.length) (g:n.op=5) (u:rec R (gel n.l 0) m=some (⟨v,c⟩,m)) (E:v.k=4):aF rec R n m=some (⟨v,c⟩,m):=by
 simp[aF,aa,aJ,obind,g,u,E,f]
theorem ES(f:0<n.l.length) (g:n.op=5) (u:rec R (gel n.l 0) m=some (⟨v,c⟩,m)) (E:v.k≠4) (F:b9 v=some t) (G:t.k=4):aF rec R n m=some (⟨t,R.c⟩,m):=by
 simp[aF,aa,aJ,obind,g,u,E,f,F,G,aK]
theorem Ez(g:0<n.l.length) (u:n.op=5) (E:rec R (gel n.l 0) m=some (⟨v,c⟩,m)) (F:v.k≠4) (G:b9 v=some t) (H:t.k≠4){i:Int}(hi:i=IntKind.wrap .i64 (Int.tdiv t.n 1000000)) (f:1<=i/\i<(n.l.length:Int)):aF rec R n m=obind (rec R (gel n.l i) m) λy=>some (y.1,y.2):=by
 have J:0<=i:=oM
 simp[aF,aa,aJ,obind,u,E,F,g,G,H,<- hi,f.1,f.2,J]
theorem Eo(f:0<n.l.length) (g:n.op=5) (E:rec R (gel n.l 0) m=some (⟨v,c⟩,m)) (F:v.k≠4) (G:b9 v=some t) (H:t.k≠4){i:Int}(hi:i=IntKind.wrap .i64 (Int.tdiv t.n 1000000)) (J:¬(1<=i/\i<(n.l.length:Int))){u:V}(X:aG 2=some u):aF rec R n m=some (⟨u,R.c⟩,m):=by
 simp[aF,aa,aJ,obind,g,E,F,f,G,H,<- hi,X,aK]
 exact λa b=>absurd ⟨a,b⟩ J
end Go.Sp
end
section
namespace Go.Sp
open Go.Stp Go.ValP
variable {rec:Rn->Nd->(List (C × Bool))->Option ((Gt) × List (C × Bool))}{R:Rn}{n n':Nd}{m:List (C × Bool)}{v t:V}{c:C}{d:Nat}{W:Nd->V}
def zP(v:V):V:=if v.k=4 then v else(bZ v).getD default
def mc(op:Int):List V->V
 |[]=>⟨3,if op=3 then 1 else 0,[]⟩
 |v::f=>if(zP v).k=4\/((zP v).n=1<->op=4)then zP v else mc op f
theorem yq{x:Nd}(h:Ok (rec R x m) λr=>r.1.v=v/\Rt r.1.v):Ok (aV rec R x m) λr=>r.1.v=zP v:=by
 unfold aV
 refine Ok.ob h λy _ hy=>Ok.bv λz e=>Ok.it (λc=>Ok.sm ?_) λc=>?_
 · rw[e,dT,hy.1]at c
   rw[zP,if_pos c]
   exact hy.1
 · rw[e,dF,hy.1]at c
   obtain⟨t,f,_⟩:=du hy.2
   rw[f]
   refine Ok.os λq eq=>Ok.ob (R:=λg=>g=⟨q,R.c⟩) ⟨_,O,O⟩ λg _ u=>Ok.sm ?_
   rw[zP,if_neg c,<- hy.1,f,u,eq]
   rfl
theorem EG(a1:n.op=3\/n.op=4) (hl:n.l.length<=9) (h:∀x∈n.l,∀a,Ok (rec R x a) λr=>r.1.v=W x/\Rt r.1.v):Ok (aF rec R n m) λr=>r.1.v=mc n.op (n.l.map W):=by
 unfold aF
 refine Ok.bv λJ4 _=>Ok.bv λz2 e2=>Ok.it (λc=>?_) λ_=>Ok.bv λJ X=>?_
 · rw[e2,dT]at c
   omega
 have Y:Ok (J true) λr=>r.1.v=mc n.op (n.l.map W):=by
  rw[X]
  refine Ok.it (λ_=>Ok.bv λa6 G=>Ok.bv λB eB=>?_) λg=>by cases g
  refine Ok.lp (λs=>∃i:Nat,s.1=(i:Int)/\i<=n.l.length/\mc n.op ((n.l.map W).drop i)=mc n.op (n.l.map W)) (λs=>n.l.length-s.1.toNat) ⟨0,O,Nat.zero_le _,O⟩ (by simp;omega) ?_
  rintro s ⟨i,E,h2,f⟩ next hn
  rw[eB]
  refine Ok.bv λz F=>Ok.it (λc=>?_) λc=>?_
  · rw[F,E,dT]at c
    refine Ok.ck oM (Ok.bv λx H=>?_)
    rw[E]at H
    have hx:x∈n.l:=by rw[H];exact cu oM
    have hd:(n.l.map W).drop i=W x::(n.l.map W).drop (i+1):=by
     rw[List.drop_eq_getElem_cons (by rw[List.length_map];omega)]
     have:=kv (l:=n.l) (i:=i) oM
     rw[<-H,List.getElem?_eq_getElem oM]at this
     rw[List.getElem_map,Option.some.inj this]
    rw[hd]at f
    simp only[mc]at f
    refine Ok.ob (yq (h x hx s.2.1)) λy _ hy=>Ok.bv λz1 f1=>Ok.bv λz2 f2=>Ok.bv λz3 f3=>Ok.bv λz4 f4=>Ok.bv λz5 f5=>Ok.it (λu=>Ok.sm ?_) λu=>Ok.bv λz9 e9=>?_
    · rw[f5,f4,f3,f2,f1,hy,Bool.or_eq_true,dT,beq_iff_eq,decide_eq_decide]at u
      rw[if_pos u]at f
      dsimp only
      rw[hy,f]
    · rw[f5,f4,f3,f2,f1,hy,Bool.or_eq_false_iff,dF,beq_eq_false_iff_ne,Ne,decide_eq_decide]at u
      rw[if_neg (λg=>g.elim u.1 u.2)]at f
      rw[E]at e9
      have e:=fL e9 oM
      exact hn _ ⟨i+1,e,oM,f⟩ (by simp only[e,E];omega)
  · rw[F,E,dF]at c
    rw[List.drop_of_length_le (by rw[List.length_map];omega)]at f
    rw[G]
    refine Ok.bv λz F=>?_
    rw[fQ]
    refine Ok.os λb eb=>Ok.ob (R:=λg=>g=⟨b,R.c⟩) ⟨_,O,O⟩ λg _ hg=>Ok.sm ?_
    rw[<-f,hg,eb,F]
    simp[mc]
 clear X
 refine Ok.bv λz e=>Ok.it (λc=>by rw[c];exact Y) λc=>Ok.bv λz' e'=>?_
 rw[e,dF]at c
 have:z'=true:=by rw[e',dT];omega
 rw[this]
 exact Y
theorem qo(hp:okP R.p) (hd:d<=900) (u:okN (d+1) n) (g:n.k=8) (f:n.op<=5) (h:Ok (aF (aM d) R n []) λr=>r.1.v=v):valF R n=v:=by
 refine nz hp (d:=d+1) (k:=d+1) oM (Nat.le_refl _) u (a:=[]) ?_
 obtain⟨k,op,E,a,b,nm,l⟩:=n
 dsimp only at g f
 subst g
 rw[C0 d R op E a b nm l [] f]
 exact Ok.ob h λy _ hy=>Ok.sm hy
theorem sa(hp:okP R.p) (hd:d<=900) (J:okN (d+1) n) (f:okN (d+1) n') (u:n'.k=n.k) (X:n'.op=n.op) (E:n'.v=n.v) (F:n'.l.length=n.l.length) (h5:5<=n.k)
 (h:∀i:Int,0<=i/\i<(n.l.length:Int)->okN d (gel n.l i)/\okN d (gel n'.l i)/\valF R (gel n'.l i)=valF R (gel n.l i))
 (Y:n.k=8->6<=n.op->∀i:Int,0<=i/\i<(n.l.length:Int)->Ok2 (eval_Area R.p (gel n.l i)) (eval_Area R.p (gel n'.l i)) λy y'=>y.2.2=y'.2.2/\(y.2.2=true->y'=y/\Box y.1 y.2.1)):valF R n'=valF R n:=by
 obtain⟨x,y,e1,e2,e3⟩:=wK (m1:=[]) (m2:=[]) (rec:=aM d) (rec':=aM d) hp J u X E F (λg=>oM) (λ_ i hi a b=>by
  obtain⟨G,H,h3⟩:=h i hi
  obtain⟨x,f1,f2,f3⟩:=val_ok hp (show d<=1000 by omega) (Nat.le_refl d) G a
  obtain⟨y,g1,g2,g3⟩:=val_ok hp (show d<=1000 by omega) (Nat.le_refl d) H b
  exact⟨x,y,f1,g1,by rw[f2,g2,h3],f3⟩) Y
 have G:valF R n=x.1.v:=nz hp (k:=d+1) oM (Nat.le_refl _) J (a:=[]) ⟨x,e1,rfl⟩
 have H:valF R n'=y.1.v:=nz hp (k:=d+1) oM (Nat.le_refl _) f (a:=[]) ⟨y,e2,rfl⟩
 rw[G,H,e3.1]
theorem nF(hp:okP R.p) (f:okN 2 n) (h:Ok (aM 2 R n []) λr=>r.1.v=v):valF R n=v:=nz hp oM (Nat.le_refl _) f h
theorem vJ{k:Int}(f:k=5\/k=6) (hp:okP R.p){w:V}(E:Rt w):(w.k=4->valF R ⟨k,0,⟨0,0,[]⟩,r0,r0,[],[litN w]⟩=w)/\(w.k≠4->dr k w=some v->valF R ⟨k,0,⟨0,0,[]⟩,r0,r0,[],[litN w]⟩=v):=by
 have u:okN 2 ⟨k,0,⟨0,0,[]⟩,r0,r0,[],[litN w]⟩:=l7 f (rG E)
 have hl:=l5 (R:=R) (k:=1) (Nat.le_refl _) w []
 refine⟨λg=>nF hp u ⟨(⟨w,R.c⟩,[]),?_,O⟩,λg F=>nF hp u ⟨(⟨v,R.c⟩,[]),?_,O⟩⟩
 · rw[gG]
   rcases f with rfl|rfl<;>simp[aW,aa,aJ,obind,gel,hl,g]
 · rw[gG]
   rcases f with rfl|rfl<;>simp[aW,aa,aJ,obind,gel,hl,g,F,aK]
theorem vX{op:Int}(G:1<=op/\op<=11) (hp:okP R.p){w1 f:V}(H:Rt w1) (J:Rt f):(w1.k=4->valF R ⟨7,op,⟨0,0,[]⟩,r0,r0,[],[litN w1,litN f]⟩=w1)/\(w1.k≠4->f.k=4->valF R ⟨7,op,⟨0,0,[]⟩,r0,r0,[],[litN w1,litN f]⟩=f)/\
 (w1.k≠4->f.k≠4->eH op w1 f=some v->valF R ⟨7,op,⟨0,0,[]⟩,r0,r0,[],[litN w1,litN f]⟩=v):=by
 have u:okN 2 ⟨7,op,⟨0,0,[]⟩,r0,r0,[],[litN w1,litN f]⟩:=lu G (rG H) (rG J)
 have l1:=l5 (R:=R) (k:=1) (Nat.le_refl _) w1 []
 have F:=l5 (R:=R) (k:=1) (Nat.le_refl _) f []
 refine⟨λg=>nF hp u ⟨(⟨w1,R.c⟩,[]),?_,O⟩,λg E=>nF hp u ⟨(⟨f,R.c⟩,[]),?_,O⟩,λg E X=>nF hp u ⟨(⟨v,R.c⟩,[]),?_,O⟩⟩
 · rw[gG]
   simp[aW,aa,aJ,obind,gel,l1,g]
 · rw[gG]
   simp[aW,aa,aJ,obind,gel,l1,F,g,E]
 · rw[gG]
   simp[aW,aa,aJ,obind,gel,l1,F,g,E,X,aK]
end Go.Sp
end
section
namespace Go.Sp
open Go.Stp Go.ValP
def R0(p:List V):Rn:=⟨p,⟨0,0,0⟩⟩
def Nar(x:Nd):Prop:=x.k=1\/5<=x.k
structure ov (p:List V) (d:Nat) (n m:Nd):Prop where
 st:StP d n m
 va:valF (R0 p) m=valF (R0 p) n
 nar:5<=n.k->Nar m
variable {rec:Nd->List V->Option Nd}{p:List V}{d:Nat}{n:Nd}{v t:V}
theorem vC{a b:C}(h:a.s=b.s):∃x y,fo a b=some (x,y,true):=by
 simp[fo,aa,h]
theorem yB{x:Nd}(h:Pf d x) (f:x.k=2\/x.k=3):∃a b,eval_Area p x=some (a,b,true):=by
 cases h with
 |cell _ r g=>exact⟨r.c,r.c,by simp[eval_Area,aa]⟩
 |span _ r x y g u hy=>
  obtain⟨a,b,e⟩:=vC (a:=r.c) (b:=⟨r.c.s,x,y⟩) rfl
  exact⟨a,b,by simp[eval_Area,aa,obind,e]⟩
 |un _ k x E u=>dsimp only at f;omega
 |_=>dsimp only at f;omega
theorem nG{x:Nd}(h:Nar x):∃a b,eval_Area p x=some (a,b,false):=by
 have f:x.k≠2:=by unfold Nar at h;omega
 have g:x.k≠3:=by unfold Nar at h;omega
 have u:x.k≠4:=by unfold Nar at h;omega
 exact⟨_,_,by simp[eval_Area,aa,f,g,u];exact⟨rfl,rfl⟩⟩
theorem Pf.nar{x:Nd}(h:Pf d x) (f:¬(x.k=2\/x.k=3)):Nar x:=by
 unfold Nar
 cases h with
 |un _ k x g u=>right;dsimp only;omega
 |_=>dsimp only at f⊢;omega
theorem yY{x:Nd}(h:Pf d x){y:C × C × Bool}(e:eval_Area p x=some y) (hy:y.2.2=false):Nar x:=h.nar λf=>by
 obtain⟨a,b,g⟩:=yB (p:=p) h f
 rw[e]at g
 cases g
 cases hy
theorem wy{l:List Nd}{i:Nat}{x:Nd}{j:Int}(g:0<=j/\j<(l.length:Int)):gel (l.set i x) j=if i=j.toNat then x else gel l j:=by
 have f:=ak (l:=l.set i x) (i:=j) (by rw[List.length_set];exact g)
 have u:=ak (l:=l) (i:=j) g
 rw[List.getElem?_set]at f
 split at f
 · rw[if_pos oM]at f
   rw[if_pos (by assumption)]
   exact(Option.some.inj f).symm
 · rw[if_neg (by assumption)]
   rw[u]at f
   exact(Option.some.inj f).symm
theorem ov.lit(f:n.k≠1) (g:Rt v) (u:valF (R0 p) n=v):ov p (d+1) n (litN v):=⟨StP.lit f g,by rw[pQ,u],λ_=>.inl rfl⟩
theorem iV(f:n.k≠1) (g:Rt v) (u:valF (R0 p) n=v):Ok (obind (bg v) λy=>some y) (ov p (d+1) n):=Ok.ob (R:=λm=>m=litN v) ⟨_,uh,rfl⟩ λm _ E=>Ok.sm (by rw[E];exact ov.lit f g u)
theorem vx(hp:okP p) (hd:d<=6) (h:Pf (d+1) n) (h5:5<=n.k){i:Nat}{x:Nd}(hi:n.l[i]?=some x) (a7:x.k≠1) (hs:n.k=8->6<=n.op->Nar x) (hr:Ok (rec x p) (ov p d x)):Ok (kC rec n (i:Int) p) (ov p (d+1) n):=by
 have hl:=h.len
 have J:i<n.l.length:=(List.getElem?_eq_some_iff.1 hi).1
 unfold kC
 refine Ok.ck (by dsimp only[List.length_nil];omega) (Ok.bv λl G=>Ok.ck (by rw[G,List.nil_append];omega) (Ok.bv λy ey=>?_))
 have X:gel n.l (i:Int)=x:=by
  have:=kv J
  rw[hi]at this
  exact(Option.some.inj this).symm
 have e:y=x:=by rw[ey,G,List.nil_append,X]
 rw[e]
 refine Ok.ob hr λx' _ H=>Ok.ck (by rw[G,List.nil_append];omega) (Ok.bv λ_ _=>Ok.bv λl' Y=>Ok.sm ?_)
 rw[Y,G,List.nil_append,Int.toNat_natCast]
 have E:=StP.at h hi H.st
 refine⟨E,?_,λ_=>.inr h5⟩
 refine sa (R:=R0 p) hp oM h.okN E.pf.okN O O O (List.length_set ..) h5 (λj F=>?_) λa1 a6 j F=>?_
 · dsimp only
   rw[wy F]
   have f:=(h.qX (cu F)).okN
   split
   · rename_i g
     have:gel n.l j=x:=by rw[<-X,g];congr 1;omega
     rw[this]at f⊢
     exact⟨f,H.st.pf.okN,H.va⟩
   ·exact⟨f,f,O⟩
 · dsimp only
   rw[wy F]
   split
   · rename_i g
     have:gel n.l j=x:=by rw[<-X,g];congr 1;omega
     rw[this]
     have hn:=hs a1 a6
     obtain⟨a,b,e1⟩:=nG (p:=p) hn
     obtain⟨a',b',e2⟩:=nG (p:=p) (H.nar (by unfold Nar at hn;omega))
     exact⟨_,_,e1,e2,O,λg=>by cases g⟩
   ·exact(Ok2.same (jJ (p:=p) (h.qX (cu F)).okN.Dp)).mono λa b u=>⟨by rw[u.1],λg=>⟨u.1.symm,u.2 g⟩⟩
theorem j_(hp:okP p) (hd:d<=7) (h:okN d n):∃r:Rs,dV n ⟨0,0,0⟩ p=some r/\r.v=valF (R0 p) n/\Rt r.v:=by
 obtain⟨r,f,g,u⟩:=yl (self:=⟨0,0,0⟩) hp hd h
 refine⟨_,u,?_,f.rt⟩
 unfold valF R0
 rw[g]
theorem lX(hp:okP p) (hd:d<=6) (h:Pf (d+1) n) (G:n.k≠1){x:Nd}(u:x∈n.l) (E:valF (R0 p) n=valF (R0 p) x):Ok (fb x p) (ov p (d+1) n):=by
 have f:=h.qX u
 obtain⟨y,F,_⟩:=jJ (p:=p) f.okN.Dp
 unfold fb
 rw[F]
 refine Ok.os λy' H=>Ok.it (λ_=>?_) λc=>Ok.sm ⟨StP.qX u f,E.symm,λ_=>yY f F (by rw[<-H];exact c)⟩
 obtain⟨r,J,X,g⟩:=j_ hp (show d<=7 by omega) f.okN
 rw[J]
 refine Ok.os λq eq=>Ok.ob (R:=λm=>m=litN q.v) ⟨_,uh,O⟩ λm _ Y=>Ok.sm ?_
 rw[Y,eq]
 exact ov.lit G g (by rw[E,X])
theorem Ck(hp:okP p) (hd:d<=6) (h:Pf (d+1) n) (hk:n.k=5\/n.k=6\/n.k=7){i:Nat}(hi:i<n.l.length) (X:∀j:Nat,j<i->(gel n.l (j:Int)).k=1/\(gel n.l (j:Int)).v.k≠4) (f:(gel n.l (i:Int)).k=1) (E:(gel n.l (i:Int)).v.k=4):valF (R0 p) n=(gel n.l (i:Int)).v:=by
 have hN:=h.okN
 cases h with
 |un _ k x G F=>
  obtain rfl:i=0:=by simp at hi;exact hi
  have e:gel [x] ((0:Nat):Int)=x:=by simp[gel]
  dsimp only at f E⊢
  rw[e]at f E⊢
  obtain⟨w,rfl⟩:∃w,x=litN w:=⟨_,(F.rt f).2⟩
  exact(vJ (v:=default) G hp (F.rt f).1).1 E
 |bin _ op x y ho F hy=>
  have Y:gel [x,y] ((0:Nat):Int)=x:=by simp[gel]
  have ey:gel [x,y] ((1:Nat):Int)=y:=by simp[gel]
  dsimp only at f E X⊢
  rcases(show i=0\/i=1 by simp at hi;omega)with rfl|rfl
  · rw[Y]at f E⊢
    obtain⟨w,rfl⟩:∃w,x=litN w:=⟨_,(F.rt f).2⟩
    have H:1<=d:=by cases d with|zero=>cases F|succ d=>omega
    refine nz (d:=d+1) (k:=d+1) hp oM (Nat.le_refl _) hN (a:=[]) ⟨(⟨w,(R0 p).c⟩,[]),?_,O⟩
    have hl:=l5 (R:=R0 p) H w []
    have J:w.k=4:=E
    rw[gG]
    simp[aW,aa,aJ,obind,gel,hl,J]
  · rw[ey]at f E⊢
    have g:=X 0 oM
    rw[Y]at g
    obtain⟨w,rfl⟩:∃w,x=litN w:=⟨_,(F.rt g.1).2⟩
    obtain⟨u,rfl⟩:∃w,y=litN w:=⟨_,(hy.rt f).2⟩
    exact(vX (v:=default) ho hp (F.rt g.1).1 (hy.rt f).1).2.1 g.2 E
 |_=>dsimp only at hk;omega
theorem rP(hp:okP p) (hd:d<=6) (h:Pf (d+1) n) (hk:n.k=5\/n.k=6\/n.k=7) (hr:∀x∈n.l,x.k≠1->Ok (rec x p) (ov p d x)):Ok (fP rec n p) (ov p (d+1) n):=by
 have hl:=h.len
 unfold fP
 refine Ok.bv λJ eJ=>?_
 have hJ:∀t,(∀j:Nat,j<n.l.length->(gel n.l (j:Int)).k=1/\(gel n.l (j:Int)).v.k≠4)->Ok (J t) (ov p (d+1) n):=by
  intro t H
  rw[eJ]
  cases h with
  |un _ k x a6 G=>
   have F:gel [x] ((0:Nat):Int)=x:=by simp[gel]
   have E:=H 0 (by simp)
   dsimp only at E
   rw[F]at E
   obtain⟨w,rfl⟩:∃w,x=litN w:=⟨_,(G.rt E.1).2⟩
   have hw:Rt w:=(G.rt E.1).1
   refine Ok.bv λz ez=>Ok.it (λc=>?_) λc=>?_
   · rw[ez]at c
     simp at c
     omega
   · refine Ok.ck (by simp) (Ok.bv λy ey=>?_)
     have a7:y=litN w:=ey.trans F
     rw[a7]
     refine Ok.ob (iK hw) λv ev X=>iV (by dsimp only;omega) X ((vJ a6 hp hw).2 E.2 ev)
  |bin _ op x y ho G hy=>
   have F:gel [x,y] ((0:Nat):Int)=x:=by simp[gel]
   have ey:gel [x,y] ((1:Nat):Int)=y:=by simp[gel]
   have E:=H 0 (by simp)
   have Y:=H 1 (by simp)
   dsimp only at E Y
   rw[F]at E
   rw[ey]at Y
   obtain⟨w,rfl⟩:∃w,x=litN w:=⟨_,(G.rt E.1).2⟩
   obtain⟨u,rfl⟩:∃w,y=litN w:=⟨_,(hy.rt Y.1).2⟩
   have hw:Rt w:=(G.rt E.1).1
   have hu:Rt u:=(hy.rt Y.1).1
   refine Ok.bv λz ez=>Ok.it (λc=>?_) λc=>?_
   · refine Ok.ck (by simp) (Ok.bv λx1 e1=>Ok.ck (by simp) (Ok.bv λx2 e2=>?_))
     have a8:x1=litN w:=e1.trans F
     have ad:x2=litN u:=e2.trans ey
     rw[a8,ad]
     exact Ok.ob (gX ho hw hu E.2 Y.2) λv ev X=>iV (by dsimp only;omega) X ((vX ho hp hw hu).2.2 E.2 Y.2 ev)
   · rw[ez]at c
     simp at c
  |_=>dsimp only at hk;omega
 clear eJ
 refine Ok.bv λB eB=>Ok.lp (λs=>∃i:Nat,s.1=(i:Int)/\i<=n.l.length/\∀j:Nat,j<i->(gel n.l (j:Int)).k=1/\(gel n.l (j:Int)).v.k≠4) (λs=>n.l.length-s.1.toNat) ⟨0,O,oM,λj hj=>oM⟩ (by simp;omega) ?_
 rintro s ⟨i,q1,q2,q3⟩ next hn
 rw[eB]
 refine Ok.bv λz1 e1=>Ok.it (λc=>?_) λc=>?_
 · rw[e1,q1,dT]at c
   refine Ok.ck oM (Ok.bv λx F=>?_)
   rw[q1]at F
   have G:x∈n.l:=by rw[F];exact cu oM
   rw[sD]
   refine Ok.os λb eb=>Ok.bv λz2 e2=>Ok.it (λc2=>?_) λc2=>Ok.bv λz3 e3=>Ok.it (λc3=>?_) λc3=>Ok.bv λz4 e4=>?_
   · rw[e2,eb]at c2
     rw[q1]
     have f:x.k≠1:=by simpa using c2
     exact Ok.ob (vx hp hd h oM (by rw[kv oM,F]) f (λg=>oM) (hr x G f)) λm _ hm=>Ok.sm hm
   · rw[e2,eb]at c2
     have f:x.k=1:=by simpa using c2
     rw[e3,dT]at c3
     have hq:=h.qX G
     rw[(hq.rt f).2]
     refine Ok.sm (ov.lit oM (hq.rt f).1 ?_)
     rw[F]at f c3⊢
     exact Ck hp hd h hk oM q3 f c3
   · rw[e2,eb]at c2
     rw[e3]at c3
     rw[q1]at e4
     have a1:=fL e4 oM
     refine hn _ ⟨i+1,a1,oM,λj hj=>?_⟩ (by dsimp only;rw[a1,q1];omega)
     rcases Nat.lt_or_ge j i with g|g
     ·exact q3 j g
     · obtain rfl:j=i:=oM
       rw[<-F]
       exact⟨by simpa using c2,by simpa using c3⟩
 · rw[e1,q1,dF]at c
   exact hJ _ λj hj=>q3 j oM
theorem vg(hp:okP p) (hd:d<=6) (h:Pf (d+1) n) (hk:n.k=8) (g:∀x∈n.l,x.k≠1->Ok (rec x p) (ov p d x)):Ok (iI rec n p) (ov p (d+1) n):=by
 have hl:=h.len
 unfold iI
 refine Ok.bv λJ H=>?_
 have hJ:∀t,Ok (J t) (ov p (d+1) n):=by
  intro t
  rw[H]
  obtain⟨r,he,g,u⟩:=j_ hp (show d+1<=7 by omega) h.okN
  rw[he]
  refine Ok.os λq eq=>iV oM ?_ ?_
  ·rw[eq];exact u
  ·rw[eq];exact g.symm
 clear H
 refine Ok.bv λB eB=>Ok.lp (λs=>∃i:Nat,s.1=(i:Int)/\i<=n.l.length) (λs=>n.l.length-s.1.toNat) ⟨0,O,oM⟩ (by simp;omega) ?_
 rintro s ⟨i,q1,q2⟩ next hn
 rw[eB]
 refine Ok.bv λz1 e1=>Ok.it (λc=>?_) λc=>hJ _
 rw[e1,q1,dT]at c
 refine Ok.ck oM (Ok.bv λx E=>?_)
 rw[q1]at E
 have F:x∈n.l:=by rw[E];exact cu oM
 obtain⟨y,X,_⟩:=jJ (p:=p) (h.qX F).okN.Dp
 rw[X,sD]
 refine Ok.os λy' G=>Ok.os λb eb=>Ok.bv λz2 e2=>Ok.bv λz3 e3=>Ok.bv λz4 e4=>Ok.it (λc2=>?_) λc2=>Ok.bv λz5 Y=>?_
 · rw[e4,e2,e3,eb,G]at c2
   rw[q1]
   simp at c2
   exact Ok.ob (vx hp hd h oM (by rw[kv oM,E]) c2.1 (λ_ _=>yY (h.qX F) X c2.2) (g x F c2.1)) λm _ hm=>Ok.sm hm
 · rw[q1]at Y
   have f:=fL Y oM
   exact hn _ ⟨i+1,f,oM⟩ (by dsimp only;rw[f,q1];omega)
end Go.Sp
end
section
namespace Go.Sp
open Go.Stp Go.ValP
variable {R:List UInt8}{m n:Nd}{k d w:Nat}{L h:Int}{cs:List Pt}{v:V}{p:List V}{T:List UInt8}
theorem C_(f:bL v=some T):show_text (k+1) (litN v) 0 L=some T:=by
 show bP (show_text k) (litN v) 0 L=some T
 refine j4 ?_
 unfold bP
 refine Ok.bv λJ _=>Ok.bv λz e=>Ok.it (λ_=>?_) λc=>by rw[e]at c;cases c
 show Ok (obind (bL v) _) _
 rw[f]
 exact Ok.os λy g=>Ok.sm g
theorem xn:bL ⟨0,0,[]⟩=some [66,76,65,78,75,40,41]:=rfl
theorem ym{s:List UInt8}(h:s.length<=64):bL ⟨2,0,s⟩=some (34::(eY s++[34])):=j4 (by
 have hd:=vu s
 unfold bL
 refine Ok.bv λz e=>Ok.it (λc=>by rw[e]at c;cases c) λ_=>Ok.bv λG E=>Ok.it (λ_=>Ok.ck ?_ (Ok.bv λH f=>?_)) λc=>by rw[E]at c;cases c
 · have J:=Lib.count_le s [34]
   have g:Lib.countB ⟨s.toArray⟩ ⟨([34]:List UInt8).toArray⟩=Lib.count s [34]:=rfl
   refine⟨by dsimp only;omega,by decide,?_⟩
   dsimp only
   rw[g]
   simp only[List.length_cons,List.length_nil]
   omega
 dsimp only at f
 rw[BF]at f
 refine Ok.ck (by rw[f];simp only[List.length_cons,List.length_nil];omega) (Ok.bv λX u=>Ok.ck ?_ (Ok.bv λY F=>Ok.sm ?_))
 ·rw[u,f];simp only[List.length_append,List.length_cons,List.length_nil];omega
 ·rw[F,u,f];rfl)
theorem zK(f:v.k=1):dy v=cM v.n:=by
 unfold dy
 simp only[aa,f]
 cases cM v.n<;>rfl
theorem BB{x:Int}(F:0<=x) (hp:cM x=some T):bL ⟨1,x,[]⟩=some T:=j4 (by
 unfold bL
 refine Ok.bv λz e=>Ok.it (λc=>by rw[e]at c;cases c) λ_=>Ok.bv λG f=>Ok.it (λc=>by rw[f]at c;cases c) λ_=>Ok.bv λH J=>Ok.bv λX g=>Ok.bv λY u=>Ok.it (λc=>?_) λ_=>?_
 · rw[u,bA,g,dT]at c
   dsimp only at c
   omega
 · rw[zK rfl]
   show Ok (obind (cM x) _) _
   rw[hp]
   exact Ok.os λy E=>Ok.sm E)
theorem Am{x:Int}(J:x<0) (hp:cM x=some T) (hl:T.length<=100):bL ⟨1,x,[]⟩=some (40::(T++[41])):=j4 (by
 unfold bL
 refine Ok.bv λz e=>Ok.it (λc=>by rw[e]at c;cases c) λ_=>Ok.bv λX u=>Ok.it (λc=>by rw[u]at c;cases c) λ_=>Ok.bv λY E=>Ok.bv λz4 F=>Ok.bv λz5 G=>Ok.it (λ_=>?_) λc=>?_
 · show Ok (obind (cM x) _) _
   rw[hp]
   refine Ok.os λy f=>Ok.ck (by rw[f];simp only[List.length_cons,List.length_nil];omega) (Ok.bv λz6 g=>Ok.ck ?_ (Ok.bv λz7 H=>Ok.sm ?_))
   ·rw[g,f];simp only[List.length_append,List.length_cons,List.length_nil];omega
   ·rw[H,g,f];rfl
 · rw[G,F,E,Bool.and_eq_false_iff,dF,dF]at c
   dsimp only at c
   omega)
theorem ye{b:Int}(f:b=0\/b=1):bL ⟨3,b,[]⟩=some (if b=1 then[84,82,85,69]else[70,65,76,83,69]):=by
 rcases f with rfl|rfl<;>rfl
theorem tw:((List.range 7).all λi=>decide (bL ⟨4,((i+1:Nat):Int),[]⟩=some (gel tg (i:Int))))=true:=by decide +kernel
theorem AG{c:Int}(f:1<=c/\c<=7):bL ⟨4,c,[]⟩=some (gel tg (c-1)):=by
 have:=List.all_eq_true.1 tw (c-1).toNat (by simp;omega)
 rw[dT]at this
 rw[show(((c-1).toNat:Nat):Int)=c-1 by omega,show(((c-1).toNat+1:Nat):Int)=c by omega]at this
 exact this
theorem okN.up:∀{d:Nat}{n:Nd},okN d n->okN (d+1) n
 |0,_,h=>h.elim
 |d+1,n,⟨H,h⟩=>⟨H,by
  rcases h with g|g|g|g|⟨f,u,E⟩|⟨f,u,E,G⟩|⟨f,u,E,G,J,X⟩
  ·exact .inl g
  ·exact .inr (.inl g)
  ·exact .inr (.inr (.inl g))
  ·exact .inr (.inr (.inr (.inl g)))
  ·exact .inr (.inr (.inr (.inr (.inl ⟨f,u,λx F=>okN.up (E x F)⟩))))
  ·exact .inr (.inr (.inr (.inr (.inr (.inl ⟨f,u,E,λx F=>okN.up (G x F)⟩)))))
  ·exact .inr (.inr (.inr (.inr (.inr (.inr ⟨f,u,E,G,J,λx F=>okN.up (X x F)⟩)))))⟩
theorem okN.Fb:∀{d d':Nat}{n:Nd},okN d n->d<=d'->okN d' n
 |d,d',n,h,hd=>by
  obtain⟨j,rfl⟩:=Nat.exists_eq_add_of_le hd
  induction j with
  |zero=>exact h
  |succ j f=>exact(f oM).up
theorem neg_num{x:Int}(h:-9223372036854775807<=x/\x<=9223372036854775807) (F:x<0):dr 5 ⟨1,-x,[]⟩=some ⟨1,x,[]⟩:=j4 (by
 unfold dr
 have:b9 ⟨1,-x,[]⟩=some ⟨1,-x,[]⟩:=rfl
 rw[this]
 refine Ok.os λy f=>Ok.bv λz e=>Ok.it (λc=>by rw[e,f]at c;cases c) λ_=>Ok.bv λG g=>Ok.it (λ_=>Ok.bv λH u=>Ok.os λa E=>Ok.sm ?_) λc=>by rw[g]at c;cases c
 rw[E,(au u).2 (by rw[f];dsimp only;omega),f]
 dsimp only
 rw[Int.neg_neg])
structure Qv (d:Nat) (n m:Nd):Prop where
 ok:okN (d+1) m
 va:∀p,okP p->valF (R0 p) m=valF (R0 p) n
 ar:∀p,okP p->Ok2 (eval_Area p n) (eval_Area p m) λy y'=>y.2.2=y'.2.2/\(y.2.2=true->y'=y/\Box y.1 y.2.1)
theorem Qv.refl(h:okN (d+1) n):Qv d n n:=⟨h,λ_ _=>rfl,λp _=>(Ok2.same (jJ (p:=p) h.Dp)).mono λa b f=>⟨by rw[f.1],λg=>⟨f.1.symm,f.2 g⟩⟩⟩
theorem nE(f:Nar n) (u:Nar m):Ok2 (eval_Area p n) (eval_Area p m) λy y'=>y.2.2=y'.2.2/\(y.2.2=true->y'=y/\Box y.1 y.2.1):=by
 obtain⟨a,b,E⟩:=nG (p:=p) f
 obtain⟨G,H,F⟩:=nG (p:=p) u
 exact⟨_,_,E,F,O,λg=>by cases g⟩
def oX(d:Nat) (n:Nd):Prop:=∃h cs m,(n.k=5->h=4)/\qH d n h cs/\CoreP (d+2) h cs m/\Qv d n m
theorem xQ{h:Int}:(litN v).k=5->h=4:=λg=>absurd g (show(1:Int)≠5 by decide)
theorem pw(d:Nat):1<=4 ^ d:=Nat.one_le_pow _ _ oM
theorem qH.leaf{cs:List Pt}(f:bL v=some (tx cs)) (hl:(tx cs).length<=200) (lx:∀R,Sep R->(tx cs++R).length<=1000->LxA cs R) (st:∃b r,tx cs=b::r/\b≠61/\b≠62):qH (d+1) (litN v) 5 cs where
 sh k g L u E:=by
  obtain⟨q,rfl⟩:∃q,k=q+1:=⟨k-1,oM⟩
  rw[C_ f]
  unfold br
  rw[if_neg oM]
 len:=by
  have:=pw d
  rw[Nat.pow_succ]
  omega
 lx:=lx
 st:=st
theorem eQ(p:Pt):tx [p]=p.t:=List.append_nil _
theorem CF{R:List UInt8}(h:Sep R):∀b r,R=b::r->isWd b.toNat=false:=λb r e=>(uX (h b r e)).1
theorem l9{t:List UInt8}(f:Wd t){R:List UInt8}(g:∀b r,R=b::r->isWd b.toNat=false) (hl:(t++R).length<=1000):ph ⟨3,t,t⟩ R:=by
 obtain⟨b,r,e,u,E⟩:=f.hd
 exact Bj e f.all u E g hl
theorem wz{t:List UInt8}(f:Wd t):∃b r,t=b::r/\b≠61/\b≠62:=by
 obtain⟨b,r,e,E,F⟩:=f.hd
 have u:=f.all b (by rw[e];simp)
 exact⟨b,r,e,λg=>by subst g;exact absurd u (by decide),λg=>by subst g;exact absurd u (by decide)⟩
theorem qh:Df [66,76,65,78,75]=true/\Df [84,82,85,69]=true/\Df [70,65,76,83,69]=true:=by decide +kernel
theorem zu(hv:Rt v):oX (d+1) (litN v):=by
 have X:okN (d+1+1) (litN v):=rG hv
 obtain⟨vk,f,vs⟩:=v
 rcases hv with⟨F,u,E⟩|⟨F,u,E⟩|⟨F,u,E⟩|⟨F,u,E⟩|⟨F,u,E⟩
 · dsimp only at F u E
   subst F u E
   refine⟨5,_,_,xQ,.leaf (cs:=[⟨3,[66,76,65,78,75],[66,76,65,78,75]⟩,sg [40],sg [41]]) xn (by decide) (λR H hl=>?_) ⟨66,_,rfl,by decide,by decide⟩,yf.mono oM,.refl X⟩
   refine⟨l9 (py qh.1) (λb r e=>by cases e;decide) ?_,ph.sg (by decide) (by decide) (by decide),ph.sg (by decide) (by decide) (by decide),trivial⟩
   simp only[tx,sg,List.length_append,List.length_cons,List.length_nil]at hl⊢
   omega
 · dsimp only at F u E
   subst F E
   obtain⟨dg,d1,d2,d3,d4,d5⟩:=yH (x:=f) u
   have a6:∃b r,dg=b::r:=List.exists_cons_of_ne_nil d1
   by_cases G:f<0
   · rw[if_pos G]at d3 d5
     have Y:Rt ⟨1,-f,[]⟩:=.inr (.inl ⟨rfl,by dsimp only;omega,rfl⟩)
     have c0:=zL d3
     have c1:CoreP 2 4 [sg [45],⟨1,dg,dg⟩] ⟨5,0,⟨0,0,[]⟩,r0,r0,[],[litN ⟨1,-f,[]⟩]⟩:=by
      have:=c0.neg oM oM
      unfold br at this
      rw[if_neg (by decide)]at this
      exact this
     have c2:=c1.brk oM oM
     have a1:=Am G d5 (by rw[List.length_cons];omega)
     have J:tx (sg [40]::([sg [45],⟨1,dg,dg⟩]++[sg [41]]))=40::(45::dg++[41]):=by simp[tx,sg]
     refine⟨5,_,_,xQ,.leaf (cs:=sg [40]::([sg [45],⟨1,dg,dg⟩]++[sg [41]])) (by rw[J];exact a1) ?_ (λR H hl=>?_) ⟨40,_,rfl,by decide,by decide⟩,c2.mono oM,?_,?_,?_⟩
     · rw[J]
       simp only[List.length_append,List.length_cons,List.length_nil]
       omega
     · rw[J]at hl
       refine⟨ph.sg (by decide) (by decide) (by decide),ph.sg (by decide) (by decide) (by decide),yW d2 d1 (λb r e=>?_) ?_,ph.sg (by decide) (by decide) (by decide),trivial⟩
       ·cases e;decide
       · simp only[tx,sg,List.append_eq,List.nil_append,List.length_append,List.length_cons,List.length_nil]at hl⊢
         omega
     ·exact okN.Fb (l7 (d:=1) (.inl O) (rG Y)) oM
     · intro p hp
       have h4:(⟨1,-f,[]⟩:V).k≠4:=show(1:Int)≠4 by decide
       have hu:dr 5 ⟨1,-f,[]⟩=some ⟨1,f,[]⟩:=neg_num u G
       rw[pQ]
       exact(vJ (R:=R0 p) (.inl O) hp (w:=⟨1,-f,[]⟩) Y).2 h4 hu
     ·exact λp hp=>nE (.inl O) (.inr (show(5:Int)<=5 by decide))
   · rw[if_neg G]at d3 d5
     refine⟨5,_,_,xQ,.leaf (cs:=[⟨1,dg,dg⟩]) (by rw[eQ];exact BB oM d5) (by rw[eQ];dsimp only;omega) (λR H hl=>⟨yW d2 d1 (λb r e=>(uX (H b r e)).2.1) (by rw[eQ]at hl;exact hl),trivial⟩) ?_,(zL d3).mono oM,.refl X⟩
     obtain⟨b,r,e⟩:=a6
     have hb:=d2 b (by rw[e];simp)
     rw[eQ]
     exact⟨b,r,e,λg=>by subst g;exact absurd hb (by decide),λg=>by subst g;exact absurd hb (by decide)⟩
 · dsimp only at F u E
   subst F u
   have hd:=vu vs
   refine⟨5,_,_,xQ,.leaf (cs:=[⟨2,34::(eY vs++[34]),vs⟩]) (by rw[eQ];exact ym E) (by rw[eQ];simp;omega) (λR H hl=>⟨De (λb r e=>(uX (H b r e)).2.2) ?_,trivial⟩) ⟨34,_,rfl,by decide,by decide⟩,(Dh E).mono oM,.refl X⟩
   rw[eQ]at hl
   simp only[tx,List.nil_append,List.length_append,List.length_cons,List.length_nil]at hl⊢
   omega
 · dsimp only at F u E
   subst F E
   have hw:Wd (if f=1 then[84,82,85,69]else[70,65,76,83,69]):=by
    split
    ·exact py qh.2.1
    ·exact py qh.2.2
   have a7:(if f=1 then[84,82,85,69]else[70,65,76,83,69]:List UInt8)=[84,82,85,69]\/(if f=1 then[84,82,85,69]else[70,65,76,83,69]:List UInt8)=[70,65,76,83,69]:=by
    split
    ·exact .inl O
    ·exact .inr O
   have hc:=Aw a7
   have a8:(if(if f=1 then[84,82,85,69]else[70,65,76,83,69]:List UInt8)=[84,82,85,69]then 1 else 0:Int)=f:=by
    rcases u with rfl|rfl<;>rfl
   rw[a8]at hc
   refine⟨5,_,_,xQ,.leaf (cs:=[⟨3,if f=1 then[84,82,85,69]else[70,65,76,83,69],if f=1 then[84,82,85,69]else[70,65,76,83,69]⟩]) (by rw[eQ];exact ye u) (by rw[eQ];dsimp only;split<;>decide) (λR H hl=>⟨l9 hw (CF H) (by rw[eQ]at hl;exact hl),trivial⟩) ?_,hc.mono oM,.refl X⟩
   rw[eQ]
   exact wz hw
 · dsimp only at F u E
   subst F E
   have hg:∃r,gel tg (f-1)=35::r/\r.length<=20:=by
    have hc:f=1\/f=2\/f=3\/f=4\/f=5\/f=6\/f=7:=oM
    rcases hc with rfl|rfl|rfl|rfl|rfl|rfl|rfl<;>exact⟨_,O,by decide⟩
   obtain⟨r,e,hr⟩:=hg
   refine⟨5,_,_,xQ,.leaf (cs:=[⟨5,gel tg (f-1),gel tg (f-1)⟩]) (by rw[eQ];exact AG u) (by rw[eQ];dsimp only;rw[e,List.length_cons];omega) (λR H hl=>⟨CL u,trivial⟩) ⟨35,r,by rw[eQ];exact e,by decide,by decide⟩,(CT u).mono oM,.refl X⟩
end Go.Sp
end
section
namespace Go.Sp
open Go.Stp Go.ValP
theorem mH{c:C}(h:(0<=c.s/\c.s<=2)/\(0<=c.c/\c.c<=25)/\0<=c.r/\c.r<=98):fg c=some true:=by
 simp[fg,aa]
 omega
theorem Bf{d:Nat}{n:Nd}(h:Pf (d+1) n):eO n=some true:=by
 cases h with
 |lit _ v u=>simp[eO,aa,obind,u.right]
 |cell _ r E=>simp[eO,aa,obind,mH (c:=r.c) oM]
 |span _ r x y E f hy=>simp[eO,aa,obind,mH (c:=r.c) oM,mH (c:=⟨r.c.s,x,y⟩) (by dsimp only;omega)]
 |un _ k x F f=>rcases F with rfl|rfl<;>simp[eO,aa]
 |bin _ op x y g f hy=>
  simp[eO,aa]
  omega
 |call _ op l g hl G f=>
  have:=pj g (show l.length<=9 by omega)
  rw[G]at this
  simp[eO,aa,obind,this]
theorem uG:∀(d:Nat) (n:Nd),Pf d n->∀(k:Nat) (e:Int),d<=k->(d:Int)<=e->e<=200->gP k n e=some true
 |0,n,h=>by cases h
 |d+1,n,h=>by
  intro k e hk he G
  obtain⟨k,rfl⟩:∃H,k=H+1:=⟨k-1,oM⟩
  have J:=Bf h
  have hl:=h.len
  have g:Ok (gy (gP k) n e) λr=>r=true:=by
   unfold gy
   refine Ok.bv λX Y=>?_
   have hz:X=false:=by rw[Y,dF];omega
   rw[hz,J]
   refine Ok.os λy u=>Ok.bv λz2 e2=>Ok.bv λz3 e3=>Ok.it (λh=>?_) λ_=>Ok.bv λJ9 e9=>Ok.bv λB E=>?_
   · rw[e3,e2,u]at h
     cases h
   refine Ok.lp (λs=>∃i:Nat,s=(i:Int)/\i<=n.l.length) (λs=>n.l.length-s.toNat) ⟨0,O,Nat.zero_le _⟩ (by simp;omega) ?_
   rintro s ⟨i,q1,q2⟩ next hn
   rw[E]
   refine Ok.bv λz4 e4=>Ok.it (λc=>?_) λc=>?_
   · rw[e4,q1,dT]at c
     refine Ok.ck oM (Ok.bv λx ex=>Ok.bv λz5 e5=>?_)
     rw[(au e5).2 oM,uG d x (h.qX (by rw[ex,q1];exact cu oM)) k (e-1) oM oM oM]
     refine Ok.os λy u=>Ok.bv λz6 e6=>Ok.it (λh=>?_) λ_=>Ok.bv λz7 F=>?_
     · rw[e6,u]at h
       cases h
     · rw[q1]at F
       have f:=fL F oM
       exact hn _ ⟨i+1,f,oM⟩ (by rw[f,q1];omega)
   · rw[e9]
     exact Ok.sm O
  obtain⟨v,hv,rfl⟩:=g
  exact hv
theorem yN(d:Nat):1<=4 ^ d:=Nat.one_le_pow _ _ oM
theorem yC{d:Nat}:∀{l:List Nd},(∀x∈l,sz x<=4 ^ d)->uN l<=l.length*4 ^ d
 |[],_=>by simp[uN]
 |x::l,h=>by
  have f:=h x (by simp)
  have g:=yC λy hy=>h y (List.mem_cons_of_mem _ hy)
  simp only[uN,List.length_cons,Nat.succ_mul]
  omega
theorem yz:∀(d:Nat) (n:Nd),Pf d n->sz n<=4 ^ d
 |0,n,h=>by cases h
 |d+1,n,h=>by
  have g:=yC λx f=>yz d x (h.qX f)
  have u:=Nat.mul_le_mul_right (4 ^ d) h.len
  have:=yN d
  rw[q_,Nat.pow_succ]
  omega
theorem wk:∀(d:Nat) (n:Nd),d<=7->Pf d n->∀k:Nat,d<=k->gQ k n=some (sz n:Int)
 |0,n,_,h=>by cases h
 |d+1,n,hd,h=>by
  intro k hk
  obtain⟨k,rfl⟩:∃H,k=H+1:=⟨k-1,oM⟩
  have hl:=h.len
  have hb:=yz _ n h
  have X:4 ^ (d+1)<=4 ^ 7:=Nat.pow_le_pow_right oM hd
  have Y:(4:Nat) ^ 7=16384:=by decide
  have u:Ok (iB (gQ k) n) λr=>r=(sz n:Int):=by
   unfold iB
   refine Ok.bv λJ eJ=>Ok.bv λB eB=>Ok.lp (λs=>∃i:Nat,s.2=(i:Int)/\i<=n.l.length/\s.1+(uN (n.l.drop i):Int)=(sz n:Int)/\0<=s.1) (λs=>n.l.length-s.2.toNat) ⟨0,O,Nat.zero_le _,by rw[q_];simp,oM⟩ (by simp;omega) ?_
   rintro s ⟨i,q1,q2,q3,q4⟩ next hn
   rw[eB]
   refine Ok.bv λz4 F=>Ok.it (λc=>?_) λc=>?_
   · rw[F,q1,dT]at c
     refine Ok.ck oM (Ok.bv λx E=>?_)
     rw[q1]at E
     have hx:x∈n.l:=by rw[E];exact cu oM
     rw[wk d x oM (h.qX hx) k oM]
     have f:n.l.drop i=x::n.l.drop (i+1):=by
      rw[List.drop_eq_getElem_cons oM]
      have:=kv (l:=n.l) (i:=i) oM
      rw[<-E,List.getElem?_eq_getElem oM]at this
      rw[Option.some.inj this]
     rw[f]at q3
     simp only[uN]at q3
     refine Ok.os λy ey=>Ok.bv λz5 e5=>Ok.bv λz6 G=>?_
     have a1:=(au e5).2 oM
     rw[q1]at G
     have g:=fL G oM
     exact hn _ ⟨i+1,g,oM,by dsimp only;omega,by dsimp only;omega⟩ (by dsimp only;rw[g,q1];omega)
   · rw[F,q1,dF]at c
     rw[eJ]
     refine Ok.sm ?_
     rw[List.drop_of_length_le oM]at q3
     simpa[uN]using q3
  obtain⟨v,hv,rfl⟩:=u
  exact hv
theorem vT:∀(d:Nat) (n m:Nd),Pf d n->∀k:Nat,d<=k->Ok (jc k n m) λb=>b=true<->n=m
 |0,n,m,h=>by cases h
 |d+1,n,m,h=>by
  intro k hk
  obtain⟨k,rfl⟩:∃k',k=k'+1:=⟨k-1,oM⟩
  have hl:=h.len
  show Ok (iC (jc k) n m) λb=>b=true<->n=m
  unfold iC
  refine Ok.bv λz1 X=>Ok.bv λz2 Y=>Ok.bv λz3 e3=>Ok.bv λz4 e4=>Ok.bv λz5 e5=>Ok.bv λz6 u=>Ok.bv λz7 e7=>Ok.bv λz8 e8=>Ok.bv λz9 e9=>Ok.bv λy1 f1=>Ok.bv λy2 f2=>Ok.bv λy3 f3=>Ok.bv λy4 f4=>Ok.it (λc=>Ok.sm ?_) λc=>?_
  · refine⟨λh=>(by cases h),λg=>?_⟩
    subst g
    rw[f4,f3,f2,f1,e9,e8,e7,u,e5,e4,e3,Y,X]at c
    simp at c
  · rw[f4,f3,f2,f1,e9,e8,e7,u,e5,e4,e3,Y,X]at c
    simp only[Bool.or_eq_false_iff,Bool.not_eq_false',bA,dT]at c
    refine Ok.bv λJ eJ=>Ok.bv λB eB=>?_
    have a6:n.l.length=m.l.length:=oM
    refine Ok.lp (λs=>∃i:Nat,s=(i:Int)/\i<=n.l.length/\∀j:Nat,j<i->gel n.l (j:Int)=gel m.l (j:Int)) (λs=>n.l.length-s.toNat) ⟨0,O,Nat.zero_le _,λj hj=>oM⟩ (by simp;omega) ?_
    rintro s ⟨i,q1,q2,q3⟩ next hn
    rw[eB]
    refine Ok.bv λz e=>Ok.it (λc2=>?_) λc2=>?_
    · rw[e,q1,dT]at c2
      refine Ok.ck oM (Ok.bv λx G=>Ok.ck oM (Ok.bv λx' f=>?_))
      rw[q1]at G f
      refine Ok.ob (vT d x x' (h.qX (by rw[G];exact cu oM)) k oM) λb _ hb=>Ok.bv λz' e'=>Ok.it (λc3=>Ok.sm ?_) λc3=>Ok.bv λz6 u=>?_
      · refine⟨λh=>(by cases h),λg=>?_⟩
        subst g
        rw[e']at c3
        have:=hb.2 (by rw[G,f])
        rw[this]at c3
        cases c3
      · rw[e']at c3
        have H:=hb.1 (by simpa using c3)
        rw[q1]at u
        have E:=fL u oM
        refine hn _ ⟨i+1,E,oM,λj hj=>?_⟩ (by rw[E,q1];omega)
        rcases Nat.lt_or_ge j i with g|g
        ·exact q3 j g
        · obtain rfl:j=i:=oM
          rw[<-G,<- f,H]
    · rw[e,q1,dF]at c2
      rw[eJ]
      refine Ok.sm ⟨λ_=>?_,λ_=>rfl⟩
      have F:n.l=m.l:=by
       apply List.ext_getElem?
       intro j
       rcases Nat.lt_or_ge j n.l.length with g|g
       ·rw[kv g,kv oM,q3 j oM]
       ·rw[List.getElem?_eq_none oM,List.getElem?_eq_none oM]
      obtain⟨nk,no,⟨a7,a8,ad⟩,⟨⟨a1,a2,a3⟩,a4,a5⟩,⟨⟨b1,b2,b3⟩,b4,b5⟩,nn,nl⟩:=n
      obtain⟨mk,mo,⟨af,ao,b0⟩,⟨⟨c1,c2,c3⟩,c4,c5⟩,⟨⟨d1,d2,d3⟩,d4,d5⟩,mn,ml⟩:=m
      dsimp only at c F
      obtain⟨⟨⟨⟨⟨⟨g1,g2⟩,g3⟩,g4⟩,g5⟩,g6⟩,_⟩:=c
      simp[g1,g2,g3,g4,g5,g6,F]
variable {R:List UInt8}{m n:Nd}{k d w:Nat}{L h:Int}{cs:List Pt}{v:V}{p:List V}{T:List UInt8}
theorem sQ{s:List UInt8}{J:List UInt8 × Int->Option (List UInt8)}(G:J=λE=>
 aa (decide (E.2<L):Bool) λu=>
 if u=true then(
  aJ (([40]:List UInt8).length+E.1.length<=9223372036854775807)<|
  aa (([40]:List UInt8)++E.1:List UInt8) λf=>
  aJ (f.length+([41]:List UInt8).length<=9223372036854775807)<|
  aa (f++([41]:List UInt8):List UInt8) λg=>
  some g
 )else(
  some E.1
 )) (hs:s=tx cs) (hl:s.length<=100000000):Ok (J (s,h)) λv=>v=tx (br h L cs):=by
 rw[G]
 refine Ok.bv λz e=>Ok.it (λc=>?_) λc=>Ok.sm ?_
 · rw[e,dT]at c
   refine Ok.ck (by simp only[List.length_cons,List.length_nil];omega) (Ok.bv λX F=>Ok.ck (by rw[F];simp only[List.length_append,List.length_cons,List.length_nil];omega) (Ok.bv λY H=>Ok.sm ?_))
   unfold br
   rw[H,F,if_pos c,vp,dJ,hs]
   simp[tx,sg]
 · rw[e,dF]at c
   unfold br
   rw[if_neg c]
   exact hs
theorem A_{r b:Rf}(f:cj r 0=some T):show_text (k+1) ⟨2,0,⟨0,0,[]⟩,r,b,[],[]⟩ 0 L=some T:=j4 (by
 show Ok (bP (show_text k) _ 0 L) _
 unfold bP
 refine Ok.bv λJ _=>Ok.bv λz e=>Ok.it (λc=>by rw[e]at c;cases c) λ_=>Ok.bv λE g=>Ok.it (λ_=>?_) λc=>by rw[g]at c;cases c
 show Ok (obind (cj r 0) _) _
 rw[f]
 exact Ok.os λy u=>Ok.sm u)
theorem xg{r:Rf}(u:0<=r.c.c/\r.c.c<=3/\0<=r.c.r/\r.c.r<=3/\0<=r.c.s/\r.c.s<=1):oX (d+1) ⟨2,0,⟨0,0,[]⟩,r,r0,[],[]⟩:=by
 obtain⟨t,E,f,H,F⟩:=uU (r:=r) (x:=0) oM oM oM (.inl rfl)
 refine⟨5,[⟨3,t,t⟩],_,λg=>absurd g (show(2:Int)≠5 by decide),⟨λk J L X Y=>?_,?_,λR G hl=>⟨l9 f (CF G) (by rw[eQ]at hl;exact hl),trivial⟩,by rw[eQ];exact wz f⟩,(Bh F).mono oM,.refl (Pf.cell (d+1) r u).okN⟩
 · obtain⟨q,rfl⟩:∃q,k=q+1:=⟨k-1,oM⟩
   rw[A_ E]
   unfold br
   rw[if_neg oM,eQ]
 · have:=pw (d+1)
   rw[eQ]
   dsimp only
   omega
theorem wR{r:Rf}{x y:Int}(Y:0<=r.c.c/\r.c.c<=3/\0<=r.c.r/\r.c.r<=3/\0<=r.c.s/\r.c.s<=1) (hx:r.c.c<=x/\x<=r.c.c+1) (hy:r.c.r<=y/\y<=r.c.r+2):oX (d+1) ⟨3,0,⟨0,0,[]⟩,r,⟨⟨r.c.s,x,y⟩,r.ac,r.ar⟩,[],[]⟩:=by
 obtain⟨t,h1,H,h3,h4⟩:=uU (r:=r) (x:=0) oM oM oM (.inl rfl)
 obtain⟨u,g1,g2,g3,g4⟩:=uU (r:=⟨⟨r.c.s,x,y⟩,r.ac,r.ar⟩) (x:=r.c.s) (by dsimp only;omega) (by dsimp only;omega) (by dsimp only;omega) (.inr rfl)
 have f:tx [⟨3,t,t⟩,sg [58],⟨3,u,u⟩]=t++(58::u):=by simp[tx,sg]
 refine⟨5,[⟨3,t,t⟩,sg [58],⟨3,u,u⟩],_,λg=>absurd g (show(3:Int)≠5 by decide),⟨λk hk L h0 h5=>?_,?_,λR hR hl=>?_,?_⟩,(Bo h4 g4 rfl).mono oM,.refl (Pf.span (d+1) r x y Y hx hy).okN⟩
 · obtain⟨q,rfl⟩:∃q,k=q+1:=⟨k-1,oM⟩
   have hb:tx (br 5 L [⟨3,t,t⟩,sg [58],⟨3,u,u⟩])=t++(58::u):=by
    unfold br
    rw[if_neg oM,f]
   rw[hb]
   refine j4 ?_
   show Ok (bP (show_text q) _ 0 L) _
   unfold bP
   refine Ok.bv λJ _=>Ok.bv λz e=>Ok.it (λc=>by rw[e]at c;cases c) λ_=>Ok.bv λz2 e2=>Ok.it (λc=>by rw[e2]at c;cases c) λ_=>Ok.bv λz3 e3=>Ok.it (λ_=>?_) λc=>by rw[e3]at c;cases c
   show Ok (obind (cj r 0) _) _
   rw[h1]
   refine Ok.os λy G=>Ok.ck (by rw[G];simp only[List.length_cons,List.length_nil];omega) (Ok.bv λz4 X=>?_)
   show Ok (obind (cj ⟨⟨r.c.s,x,_⟩,r.ac,r.ar⟩ r.c.s) _) _
   rw[g1]
   refine Ok.os λy2 E=>Ok.ck (by rw[X,G,E];simp only[List.length_append,List.length_cons,List.length_nil];omega) (Ok.bv λz5 e5=>Ok.sm ?_)
   rw[e5,X,G,E]
   simp
 · have:=pw (d+1)
   rw[f]
   simp only[List.length_append,List.length_cons]
   omega
 · have F:=hl
   rw[f]at F
   simp only[List.length_append,List.length_cons]at F
   refine⟨l9 H (λb r e=>by cases e;decide) ?_,ph.sg (by decide) (by decide) (by decide),l9 g2 (CF hR) ?_,trivial⟩
   · simp only[tx,sg,List.length_append,List.length_cons,List.length_nil]
     omega
   · simp only[tx,List.nil_append,List.length_append]
     omega
 · rw[f]
   obtain⟨b,r',e,a1,a2⟩:=wz H
   exact⟨b,r'++58::u,by rw[e];rfl,a1,a2⟩
theorem Qv.un{x:Nd}{f:Int}(u:f=5\/f=6) (E:okN d x) (H:Qv d x m) (hd:d<=800):Qv (d+1) ⟨f,0,⟨0,0,[]⟩,r0,r0,[],[x]⟩ ⟨f,0,⟨0,0,[]⟩,r0,r0,[],[m]⟩ where
 ok:=l7 u H.ok
 va p hp:=by
  refine sa (R:=R0 p) (d:=d+1) hp oM (l7 u E.up) (l7 u H.ok) O O O O (by dsimp only;omega) (λi hi=>?_) (λg=>by dsimp only at g;omega)
  have hi:i=0:=by simp at hi;omega
  subst hi
  exact⟨E.up,H.ok,H.va p hp⟩
 ar p hp:=nE (.inr (by dsimp only;omega)) (.inr (by dsimp only;omega))
theorem Qv.bin{x y m1 m2:Nd}{o:Int}(u:1<=o/\o<=11) (E:okN d x) (hy:okN d y) (H1:Qv d x m1) (f:Qv d y m2) (hd:d<=800):Qv (d+1) ⟨7,o,⟨0,0,[]⟩,r0,r0,[],[x,y]⟩ ⟨7,o,⟨0,0,[]⟩,r0,r0,[],[m1,m2]⟩ where
 ok:=lu u H1.ok f.ok
 va p hp:=by
  refine sa (R:=R0 p) (d:=d+1) hp oM (lu u E.up hy.up) (lu u H1.ok f.ok) O O O O (by dsimp only;omega) (λi hi=>?_) (λg=>by dsimp only at g;omega)
  have hi:i=0\/i=1:=by simp at hi;omega
  rcases hi with rfl|rfl
  ·exact⟨E.up,H1.ok,H1.va p hp⟩
  ·exact⟨hy.up,f.ok,f.va p hp⟩
 ar p hp:=nE (.inr (by dsimp only;omega)) (.inr (by dsimp only;omega))
theorem ET(hd:d<=7):4 ^ d<=16384:=by
 have:=Nat.pow_le_pow_right (n:=4) (by decide) hd
 exact this
theorem Br{x:Nd}{Y:Int}(hk:Y=5\/Y=6) (hx:okN d x) (H:oX d x) (hd:d<=7):oX (d+1) ⟨Y,0,⟨0,0,[]⟩,r0,r0,[],[x]⟩:=by
 obtain⟨h,cs,m,h5,u,hP,hQ⟩:=H
 have b0:=u.len
 have h7:=ET hd
 have h1:=pw d
 have b1:4 ^ (d+1)=4 ^ d*4:=Nat.pow_succ _ _
 rcases hk with rfl|rfl
 · have hb:=wo (L:=4) u
   refine⟨4,sg [45]::br h 4 cs,_,λ_=>rfl,⟨λk hk L h0 a6=>?_,?_,λR hR hl=>⟨ph.sg (by decide) (by decide) (by decide),vP u hR ?_⟩,⟨45,_,rfl,by decide,by decide⟩⟩,hP.neg oM oM,hQ.un (.inl rfl) hx oM⟩
   · obtain⟨q,rfl⟩:∃q,k=q+1:=⟨k-1,oM⟩
     refine j4 ?_
     show Ok (bP (show_text q) _ 0 L) _
     unfold bP
     refine Ok.bv λJ G=>Ok.bv λz e=>Ok.it (λc=>by rw[e]at c;cases c) λ_=>Ok.bv λz2 e2=>Ok.it (λc=>by rw[e2]at c;cases c) λ_=>Ok.bv λz3 e3=>Ok.it (λc=>by rw[e3]at c;cases c) λ_=>Ok.bv λz4 e4=>Ok.it (λc=>by rw[e4]at c;cases c) λ_=>Ok.bv λz5 e5=>Ok.it (λc=>by rw[e5]at c;cases c) λ_=>Ok.bv λz6 e6=>Ok.it (λ_=>?_) λc=>by rw[e6]at c;cases c
     refine Ok.ck (by simp) (Ok.bv λz7 e7=>?_)
     have a7:z7=x:=e7
     rw[a7,u.sh q oM 4 (by decide) (by decide)]
     refine Ok.os λy F=>Ok.ck (by rw[F];simp only[List.length_cons,List.length_nil];omega) (Ok.bv λz8 X=>sQ G (by rw[X,F,vp]) (by rw[X,F];simp only[List.length_append,List.length_cons,List.length_nil];omega))
   · rw[vp,List.length_append]
     simp only[List.length_cons,List.length_nil]
     omega
   · rw[vp,List.length_append,List.length_append]at hl
     rw[List.length_append]
     omega
 · have hb:=wo (L:=5) u
   have f:tx (br h 5 cs++[sg [37]])=tx (br h 5 cs)++[37]:=by rw[dJ];rfl
   refine⟨5,br h 5 cs++[sg [37]],_,λg=>absurd g (show(6:Int)≠5 by decide),⟨λk hk L h0 a6=>?_,?_,λR hR hl=>LxA.app (vP u (λb r e=>?_) ?_) ⟨ph.sg (by decide) (by decide) (by decide),trivial⟩,?_⟩,hP.Ej oM oM,hQ.un (.inr rfl) hx oM⟩
   · obtain⟨q,rfl⟩:∃q,k=q+1:=⟨k-1,oM⟩
     refine j4 ?_
     show Ok (bP (show_text q) _ 0 L) _
     unfold bP
     refine Ok.bv λJ G=>Ok.bv λz e=>Ok.it (λc=>by rw[e]at c;cases c) λ_=>Ok.bv λz2 e2=>Ok.it (λc=>by rw[e2]at c;cases c) λ_=>Ok.bv λz3 e3=>Ok.it (λc=>by rw[e3]at c;cases c) λ_=>Ok.bv λz4 e4=>Ok.it (λc=>by rw[e4]at c;cases c) λ_=>Ok.bv λz5 e5=>Ok.it (λc=>by rw[e5]at c;cases c) λ_=>Ok.bv λz6 e6=>Ok.it (λc=>by rw[e6]at c;cases c) λ_=>Ok.bv λz7 e7=>Ok.it (λ_=>?_) λc=>by rw[e7]at c;cases c
     refine Ok.ck (by simp) (Ok.bv λz8 X=>?_)
     have h8:z8=x:=X
     rw[h8,u.sh q oM 5 (by decide) (by decide)]
     refine Ok.os λy F=>Ok.ck (by rw[F];simp only[List.length_cons,List.length_nil];omega) (Ok.bv λz9 e9=>Ok.ck (by simp) (Ok.bv λw1 f1=>Ok.bv λw2 f2=>Ok.it (λc=>?_) λ_=>?_))
     · have a8:w1=x:=f1
       rw[f2,a8,dT]at c
       have h4:=h5 c
       subst h4
       refine Ok.ck (by simp) (Ok.bv λw3 f3=>?_)
       have ad:w3=x:=f3
       rw[ad,u.sh q oM 0 (by decide) (by decide)]
       have af:tx (br 4 0 cs)=tx cs:=rfl
       have ao:tx (br 4 5 cs)=40::(tx cs++[41]):=by
        unfold br
        rw[if_pos (by decide),vp,dJ]
        simp[tx,sg]
       rw[af]
       refine Ok.os λy2 E=>Ok.ck (by rw[E];simp only[List.length_cons,List.length_nil];omega) (Ok.bv λw4 f4=>Ok.ck (by rw[f4,E];simp only[List.length_append,List.length_cons,List.length_nil];omega) (Ok.bv λw5 f5=>sQ G (by rw[f5,f4,E,f,ao];simp) (by rw[f5,f4,E];simp only[List.length_append,List.length_cons,List.length_nil];omega)))
     ·exact sQ G (by rw[e9,F,f]) (by rw[e9,F];simp only[List.length_append,List.length_cons,List.length_nil];omega)
   · rw[f,List.length_append]
     simp only[List.length_cons,List.length_nil]
     omega
   ·cases e;decide
   · rw[f]at hl
     simp only[sg,tx,List.length_append,List.length_cons,List.length_nil]at hl⊢
     omega
   · rw[f]
     obtain⟨b,r,e,a1,a2⟩:=xW u 5
     exact⟨b,r++[37],by rw[e];rfl,a1,a2⟩
end Go.Sp
end
section
namespace Go.Sp
open Go.Stp Go.ValP
variable {R:List UInt8}{m n:Nd}{k d w:Nat}{L h:Int}{cs:List Pt}{v:V}{p:List V}{T:List UInt8}
theorem xD:((List.range 11).all λi=>uE.contains (gel te (i:Int))&&Nat.ble (gel te (i:Int)).length 2&&match gel te (i:Int)with
 |b::_=>BI b
 |[]=>false)=true:=by decide +kernel
theorem CP{o:Int}(g:1<=o/\o<=11):tI o∈uE/\(tI o).length<=2/\∃b r,tI o=b::r/\BI b=true:=by
 obtain⟨i,hi,E,u⟩:=u6 g
 have:=List.all_eq_true.1 xD i (by simpa using hi)
 rw[<-u,bA,bA]at this
 refine⟨List.contains_iff_mem.1 this.1.1,Nat.le_of_ble_eq_true this.1.2,?_⟩
 have f:=this.2
 split at f
 · rename_i b r e
   exact⟨b,r,e,f⟩
 ·cases f
theorem yg{x y:Nd}{o:Int}(ho:1<=o/\o<=11) (hx:okN d x) (hy:okN d y) (Hx:oX d x) (Hy:oX d y) (hd:d<=7):oX (d+1) ⟨7,o,⟨0,0,[]⟩,r0,r0,[],[x,y]⟩:=by
 obtain⟨h1,c1,m1,_,H,P1,Q1⟩:=Hx
 obtain⟨Y,c2,m2,_,X,P2,Q2⟩:=Hy
 have ad:=H.len
 have af:=X.len
 have h7:=ET hd
 have ao:=pw d
 have a8:4 ^ (d+1)=4 ^ d*4:=Nat.pow_succ _ _
 have b0:=wo (L:=lev o) H
 have b1:=wo (L:=lev o+1) X
 have b3:=mN o
 obtain⟨g1,g2,b,r,g3,g4⟩:=CP ho
 have f:tx (br h1 (lev o) c1++sg (tI o)::br Y (lev o+1) c2)=tx (br h1 (lev o) c1)++(tI o++tx (br Y (lev o+1) c2)):=by rw[dJ,vp]
 refine⟨lev o,br h1 (lev o) c1++sg (tI o)::br Y (lev o+1) c2,_,λg=>absurd g (show(7:Int)≠5 by decide),⟨λk hk L h0 b4=>?_,?_,λR hR hl=>?_,?_⟩,P1.bin ho P2 oM oM,Q1.bin ho hx hy Q2 oM⟩
 · obtain⟨q,rfl⟩:∃q,k=q+1:=⟨k-1,oM⟩
   refine j4 ?_
   show Ok (bP (show_text q) _ 0 L) _
   unfold bP
   refine Ok.bv λJ eJ=>Ok.bv λz e=>Ok.it (λc=>by rw[e]at c;cases c) λ_=>Ok.bv λz2 e2=>Ok.it (λc=>by rw[e2]at c;cases c) λ_=>Ok.bv λz3 e3=>Ok.it (λc=>by rw[e3]at c;cases c) λ_=>Ok.bv λz4 e4=>Ok.it (λc=>by rw[e4]at c;cases c) λ_=>Ok.bv λz5 e5=>Ok.it (λc=>by rw[e5]at c;cases c) λ_=>Ok.bv λz6 e6=>Ok.it (λc=>by rw[e6]at c;cases c) λ_=>Ok.bv λz7 e7=>Ok.it (λc=>by rw[e7]at c;cases c) λ_=>?_
   show Ok (obind (g8 o) _) _
   rw[CR]
   refine Ok.os λy0 a6=>Ok.ck (by simp) (Ok.bv λz8 e8=>?_)
   have h8:z8=x:=e8
   rw[h8,a6,H.sh q oM (lev o) oM oM]
   refine Ok.os λy1 u=>Ok.ck (by decide) (Ok.bv λF eF=>Ok.bv λz9 e9=>?_)
   rw[yi]at eF
   have h9:=(au e9).2 (by dsimp only;omega)
   dsimp only at h9
   refine Ok.ck (by rw[eF,h9];have:te.length=11:=rfl;omega) (Ok.bv λw1 f1=>?_)
   have E:w1=tI o:=by rw[f1,eF,h9];rfl
   refine Ok.ck (by rw[u,E];omega) (Ok.bv λw2 f2=>Ok.ck (by simp) (Ok.bv λw3 f3=>Ok.bv λw4 f4=>?_))
   have a7:w3=y:=f3
   rw[a7,(au f4).2 oM,X.sh q oM (lev o+1) oM oM]
   refine Ok.os λy2 G=>Ok.ck (by rw[f2,u,E,G,List.length_append];omega) (Ok.bv λw5 f5=>?_)
   exact sQ eJ (by rw[f5,f2,u,E,G,f,List.append_assoc]) (by rw[f5,f2,u,E,G,List.length_append,List.length_append];omega)
 · rw[f,List.length_append,List.length_append]
   omega
 · rw[f]at hl
   simp only[List.length_append]at hl
   have hQ:(tx (br Y (lev o+1) c2)++R).length<=1000:=by rw[List.length_append];omega
   obtain⟨b2,r2,e2,a1,a2⟩:=xW X (lev o+1)
   refine LxA.app (vP H (λb' r' e=>?_) ?_) ⟨vQ g1 (λ_ b' r' e=>?_) (λ_ b' r' e=>?_),vP X hR hQ⟩
   · rw[vp,g3]at e
     cases e
     exact g4
   · rw[vp]
     simp only[List.length_append]
     omega
   · rw[e2]at e
     cases e
     exact⟨a2,a1⟩
   · rw[e2]at e
     cases e
     exact a1
 · rw[f]
   obtain⟨b',r',e,a1,a2⟩:=xW H (lev o)
   exact⟨b',_,by rw[e];rfl,a1,a2⟩
def EY(i:Nat):Bool:=match fH ((i+1:Nat):Int)with
 |some t=>Df t&&Nat.ble t.length 20&&decide (eD t=some ((i+1:Nat):Int))
 |none=>false
theorem Cs:((List.range 54).all EY)=true:=by decide +kernel
theorem Eh{op:Int}(g:1<=op/\op<=54):∃t,fH op=some t/\Wd t/\t.length<=20/\eD t=some op:=by
 have:=List.all_eq_true.1 Cs (op-1).toNat (by simp;omega)
 unfold EY at this
 rw[show(((op-1).toNat+1:Nat):Int)=op by omega]at this
 split at this
 · rename_i t f
   rw[bA,bA,dT]at this
   exact⟨t,f,py this.1.1,Nat.le_of_ble_eq_true this.1.2,this.2⟩
 ·cases this
structure Arg where
 x:Nd
 h:Int
 c:List Pt
 m:Nd
theorem AL{l:List Nd}(H:∀x∈l,oX d x):∃A:List Arg,A.map (·.x)=l/\∀a∈A,qH d a.x a.h a.c/\CoreP (d+2) a.h a.c a.m/\Qv d a.x a.m:=by
 induction l with
 |nil=>exact⟨[],O,λa h=>nomatch h⟩
 |cons x l f=>
  obtain⟨h,cs,m,_,g,u,E⟩:=H x (by simp)
  obtain⟨A,F,G⟩:=f λy hy=>H y (by simp[hy])
  refine⟨⟨x,h,cs,m⟩::A,by rw[List.map_cons,F],λa ha=>?_⟩
  rcases List.mem_cons.1 ha with rfl|ha
  ·exact⟨g,u,E⟩
  ·exact G a ha
theorem Cf:∀C:List (List Pt),tx (jt C)=Lib.joinTail [44] (C.map tx)
 |[]=>rfl
 |c::C=>by
  rw[jt,vp,dJ,Cf C]
  simp[Lib.joinTail]
theorem DI(C:List (List Pt)):tx (ja C)=Lib.join (C.map tx) [44]:=by
 cases C with
 |nil=>rfl
 |cons c C=>rw[ja,dJ,List.map_cons,Lib.join_cons,Cf]
theorem zx{B:Nat}:∀{C:List (List Pt)},(∀c∈C,(tx c).length<=B)->(tx (jt C)).length<=C.length*(B+1)
 |[],_=>Nat.zero_le _
 |c::C,h=>by
  have E:=h c (by simp)
  have F:=zx (C:=C) λf g=>h f (by simp[g])
  have u:(c::C).length*(B+1)=C.length*(B+1)+(B+1):=by rw[List.length_cons,Nat.succ_mul]
  rw[jt,vp,dJ,List.length_append,List.length_append,u]
  simp only[List.length_cons,List.length_nil]
  omega
theorem Di{B:Nat}{C:List (List Pt)}(h:∀c∈C,(tx c).length<=B):(tx (ja C)).length<=C.length*(B+1):=by
 cases C with
 |nil=>exact Nat.zero_le _
 |cons c C=>
  have E:=h c (by simp)
  have F:=zx (C:=C) λf g=>h f (by simp[g])
  have u:(c::C).length*(B+1)=C.length*(B+1)+(B+1):=by rw[List.length_cons,Nat.succ_mul]
  rw[ja,dJ,List.length_append,u]
  omega
theorem DK{A:List Arg}{Q:List UInt8}(f:∀a∈A,qH d a.x a.h a.c) (g:Sep Q) (hl:(tx (jt (A.map (·.c)))++Q).length<=1000):LxA (jt (A.map (·.c))) Q:=by
 induction A with
 |nil=>trivial
 |cons a A u=>
  have E:=f a (by simp)
  rw[List.map_cons,jt,vp,dJ]at hl
  simp only[List.length_append]at hl
  refine⟨ph.sg (by decide) (by decide) (by decide),LxA.app (E.lx _ (λb r e=>?_) ?_) (u (λb F=>f b (by simp[F])) ?_)⟩
  · cases A with
    |nil=>exact g b r e
    |cons G A=>cases e;decide
  ·simp only[List.length_append];omega
  ·simp only[List.length_append];omega
theorem Ec{A:List Arg}{Q:List UInt8}(f:∀a∈A,qH d a.x a.h a.c) (g:Sep Q) (hl:(tx (ja (A.map (·.c)))++Q).length<=1000):LxA (ja (A.map (·.c))) Q:=by
 cases A with
 |nil=>trivial
 |cons a A=>
  have u:=f a (by simp)
  rw[List.map_cons,ja,dJ]at hl
  simp only[List.length_append]at hl
  refine LxA.app (u.lx _ (λb r e=>?_) ?_) (DK (λb E=>f b (by simp[E])) g ?_)
  · cases A with
    |nil=>exact g b r e
    |cons F A=>cases e;decide
  ·simp only[List.length_append];omega
  ·simp only[List.length_append];omega
theorem AP{T:List (List UInt8)}{i:Nat}(hi:i<T.length):(T.take i++List.replicate (T.length-i) []).set i T[i]=T.take (i+1)++List.replicate (T.length-(i+1)) []:=by
 have f:(T.take i).length=i:=by rw[List.length_take];omega
 rw[show T.length-i=(T.length-(i+1))+1 by omega,List.replicate_succ,List.set_append_right _ _ oM,f,Nat.sub_self,List.set_cons_zero,List.take_succ_eq_append_getElem hi,List.append_assoc]
 rfl
theorem yL{α:Type} [Inhabited α]{A:List Arg}{f:Arg->α}{i:Nat}(h:i<A.length):gel (A.map f) (i:Int)=f A[i]:=by
 have:=ak (l:=A.map f) (i:=(i:Int)) (by rw[List.length_map];omega)
 rw[Int.toNat_natCast,List.getElem?_map,List.getElem?_eq_getElem h]at this
 exact(Option.some.inj this).symm
theorem xP{l:List Nd}{op:Int}(ho:1<=op/\op<=54) (hl:l.length<=3) (hf:fitB op l.length=true) (hx:∀x∈l,Pf d x) (H:∀x∈l,oX d x) (hd:d<=7):oX (d+1) ⟨8,op,⟨0,0,[]⟩,r0,r0,[],l⟩:=by
 have hN:=(Pf.call d op l ho hl hf hx).okN
 obtain⟨A,rfl,X⟩:=AL H
 rw[List.length_map]at hl hf
 obtain⟨nm,n1,n2,n3,n4⟩:=Eh ho
 have h7:=ET hd
 have b6:=pw d
 have b5:4 ^ (d+1)=4 ^ d*4:=Nat.pow_succ _ _
 have hT:∀a∈A,qH d a.x a.h a.c:=λa f=>(X a f).1
 have F:=Di (B:=200*4 ^ d) (C:=A.map (·.c)) (λc hc=>by
  obtain⟨a,f,rfl⟩:=List.mem_map.1 hc
  exact(hT a f).len)
 rw[List.length_map]at F
 have af:(tx (ja (A.map (·.c)))).length<=3*(200*4 ^ d+1):=Nat.le_trans F (Nat.mul_le_mul_right _ hl)
 have a6:cn op (A.length:Int)=some true:=by
  rw[pj ho oM,hf]
 have hP:=CoreP.call (w:=d+2) (nm:=nm) (t0:=nm) (A:=A.map λa=>(a.h,a.c,a.m)) n4 ho.1 (λq hq=>by
  obtain⟨a,f,rfl⟩:=List.mem_map.1 hq
  exact⟨(X a f).2.1⟩) (by rw[List.length_map];omega) (by rw[List.length_map];exact a6) oM oM
 rw[List.map_map,List.map_map]at hP
 have u:tx (⟨3,nm,nm⟩::sg [40]::(ja (A.map (·.c))++[sg [41]]))=nm++(40::(tx (ja (A.map (·.c)))++[41])):=by
  rw[tx,vp,dJ]
  simp[tx,sg]
 refine⟨5,⟨3,nm,nm⟩::sg [40]::(ja (A.map (·.c))++[sg [41]]),_,λg=>absurd g (show(8:Int)≠5 by decide),⟨λk hk L h0 b7=>?_,?_,λR hR a7=>?_,?_⟩,hP,?_⟩
 · obtain⟨q,rfl⟩:∃q,k=q+1:=⟨k-1,oM⟩
   have ao:br 5 L (⟨3,nm,nm⟩::sg [40]::(ja (A.map (·.c))++[sg [41]]))=⟨3,nm,nm⟩::sg [40]::(ja (A.map (·.c))++[sg [41]]):=by
    unfold br
    rw[if_neg oM]
   rw[ao]
   refine j4 ?_
   show Ok (bP (show_text q) _ 0 L) _
   unfold bP
   refine Ok.bv λJ eJ=>Ok.bv λz e=>Ok.it (λc=>by rw[e]at c;cases c) λ_=>Ok.bv λz2 e2=>Ok.it (λc=>by rw[e2]at c;cases c) λ_=>Ok.bv λz3 e3=>Ok.it (λc=>by rw[e3]at c;cases c) λ_=>Ok.bv λz4 e4=>Ok.it (λc=>by rw[e4]at c;cases c) λ_=>Ok.bv λz5 e5=>Ok.it (λ_=>?_) λc=>by rw[e5]at c;cases c
   have hL:(A.map (·.x)).length=A.length:=List.length_map _
   dsimp only
   refine Ok.ck (by rw[hL];omega) (Ok.bv λz6 e6=>Ok.bv λbb b0=>Ok.bv λB eB=>?_)
   have E:((A.map (·.c)).map tx).length=A.length:=by simp
   refine Ok.lp (λs=>∃i:Nat,s.1=(i:Int)/\i<=A.length/\s.2=((A.map (·.c)).map tx).take i++List.replicate (((A.map (·.c)).map tx).length-i) []) (λs=>A.length-s.1.toNat) ⟨0,O,Nat.zero_le _,by
    rw[e6,hL,E]
    simp⟩ (by dsimp only;omega) ?_
   rintro⟨s1,s2⟩ ⟨i,i1,i2,i3⟩ next hn
   dsimp only at i1 i3 hn
   subst i1
   rw[eB]
   refine Ok.bv λw1 f1=>Ok.it (λc=>?_) λc=>?_
   · rw[f1,hL,dT]at c
     dsimp only at c
     have hi:i<A.length:=oM
     refine Ok.ck (by rw[hL];dsimp only;omega) (Ok.bv λw2 f2=>?_)
     dsimp only at f2
     rw[yL hi]at f2
     have b1:=(hT A[i] (List.getElem_mem hi))
     rw[f2,b1.sh q oM 0 (by decide) (by decide)]
     have hh:=(X A[i] (List.getElem_mem hi)).2.1.hh
     have b2:br A[i].h 0 A[i].c=A[i].c:=by unfold br;rw[if_neg oM]
     rw[b2]
     have a8:s2.length=A.length:=by
      rw[i3,List.length_append,List.length_take,List.length_replicate,E]
      omega
     refine Ok.os λy Y=>Ok.ck (by dsimp only;omega) (Ok.bv λw3 f3=>Ok.bv λw4 f4=>?_)
     have h4:=(au f4).2 (by dsimp only;omega)
     dsimp only at h4
     refine hn _ ⟨i+1,by dsimp only;rw[h4];rfl,oM,?_⟩ (by dsimp only;omega)
     dsimp only
     rw[f3,Y]
     dsimp only
     rw[Int.toNat_natCast,i3]
     have b3:tx A[i].c=((A.map (·.c)).map tx)[i]'oM:=by simp
     rw[b3]
     exact AP oM
   · rw[f1,hL,dF]at c
     dsimp only at c
     obtain rfl:i=A.length:=oM
     have a8:s2=(A.map (·.c)).map tx:=by
      rw[i3,E,Nat.sub_self,List.replicate_zero,List.append_nil,List.take_of_length_le oM]
     rw[b0]
     dsimp only
     rw[a8,n1,<- DI]
     refine Ok.os λy Y=>Ok.ck (by rw[Y];simp only[List.length_cons,List.length_nil];omega) (Ok.bv λz7 e7=>Ok.ck ⟨by rw[E];omega,oM⟩ (Ok.bv λz8 e8=>Ok.ck ?_ (Ok.bv λz9 e9=>Ok.ck ?_ (Ok.bv λw2 f2=>Ok.sm ?_))))
     ·rw[e7,e8,Y];simp only[List.length_append,List.length_cons,List.length_nil];omega
     ·rw[e9,e7,e8,Y];simp only[List.length_append,List.length_cons,List.length_nil];omega
     ·rw[f2,e9,e8,e7,Y,u];simp
 · rw[u]
   simp only[List.length_append,List.length_cons,List.length_nil]
   omega
 · rw[u]at a7
   simp only[List.length_append,List.length_cons,List.length_nil]at a7
   refine⟨l9 n2 (λb r e=>by cases e;decide) ?_,ph.sg (by decide) (by decide) (by decide),LxA.app (Ec hT (λb r e=>by cases e;decide) ?_) ⟨ph.sg (by decide) (by decide) (by decide),trivial⟩⟩
   · rw[vp,dJ]
     simp only[tx,sg,List.length_append,List.length_cons,List.length_nil]
     omega
   · simp only[tx,sg,List.length_append,List.length_cons,List.length_nil]
     omega
 · rw[u]
   obtain⟨b,r,e,a1,a2⟩:=wz n2
   exact⟨b,_,by rw[e];rfl,a1,a2⟩
 · have ad:=hN.2
   have hm:okN (d+1+1) ⟨8,op,⟨0,0,[]⟩,r0,r0,[],A.map (·.m)⟩:=by
    refine⟨wu (show(5:Int)<=8 by decide),.inr (.inr (.inr (.inr (.inr (.inr ⟨rfl,ho,by rw[List.length_map];omega,?_,?_,?_⟩)))))⟩
    · intro g
      rcases ad with⟨q,_⟩|q|q|q|⟨q,_⟩|⟨q,_⟩|⟨_,_,_,q,_,_⟩
      all_goals first|(simp at q;done)|skip
      have:=q g
      rw[List.length_map]at this⊢
      exact this
    · intro g
      rcases ad with⟨q,_⟩|q|q|q|⟨q,_⟩|⟨q,_⟩|⟨_,_,_,_,q,_⟩
      all_goals first|(simp at q;done)|skip
      have:=q g
      rw[List.length_map]at this⊢
      exact this
    · intro x b4
      obtain⟨a,f,rfl⟩:=List.mem_map.1 b4
      exact(X a f).2.2.ok
   refine⟨hm,λp hp=>?_,λp hp=>nE (.inr (show(5:Int)<=8 by decide)) (.inr (show(5:Int)<=8 by decide))⟩
   refine sa (R:=R0 p) (d:=d+1) hp oM hN.up hm O O O (by simp) (show(5:Int)<=8 by decide) (λi hi=>?_) (λ_ _ i hi=>?_)
   · dsimp only at hi
     rw[List.length_map]at hi
     obtain⟨j,rfl⟩:=Int.eq_ofNat_of_zero_le hi.1
     have G:j<A.length:=oM
     dsimp only
     rw[yL G,yL G]
     have f:=List.getElem_mem G
     have hq:=(X _ f).2.2
     exact⟨(hx _ (List.mem_map.2 ⟨_,f,O⟩)).okN.up,hq.ok,hq.va p hp⟩
   · dsimp only at hi
     rw[List.length_map]at hi
     obtain⟨j,rfl⟩:=Int.eq_ofNat_of_zero_le hi.1
     have G:j<A.length:=oM
     dsimp only
     rw[yL G,yL G]
     exact(X _ (List.getElem_mem G)).2.2.ar p hp
theorem lN:∀{d:Nat}{n:Nd},Pf d n->d<=7->oX d n
 |_,_,.lit d v h,_=>zu h
 |_,_,.cell d r h,_=>xg h
 |_,_,.span d r x y h u E,_=>wR h u E
 |_,_,.un d k x F f,hd=>Br F f.okN (lN f oM) oM
 |_,_,.bin d op x y g f hy,hd=>yg g f.okN hy.okN (lN f oM) (lN hy oM) oM
 |_,_,.call d op l g hl G f,hd=>xP g hl G f (λx H=>lN (f x H) oM) oM
end Go.Sp
end
section
namespace Go.Sp
open Go.Stp Go.ValP
variable {rec:Nd->List V->Option Nd}{p:List V}{d:Nat}{n:Nd}{v t:V}
theorem yZ(h:bZ v=some t):zP v=t:=by
 unfold zP
 split
 · rename_i f
   unfold bZ at h
   simp[aa,obind,f]at h
   exact h
 ·rw[h];rfl
theorem yS(h:bZ v=some t) (g:t.k≠4) (E:Rt t):t.k=3:=by
 have f:v.k≠4:=λf=>by
  have:=yZ h
  rw[zP,if_pos f]at this
  rw[<-this]at g
  exact g f
 unfold bZ at h
 simp only[aa,fQ,aG,obind]at h
 by_cases u:v.k=3
 · simp[u]at h
   rw[<-h]
   exact u
 · simp[u,f]at h
   split at h
   ·cases h;rfl
   · split at h
     ·cases h;rfl
     · split at h
       ·cases h;rfl
       ·cases h;exact absurd O g
structure B1 (p:List V) (d:Nat) (n:Nd) (v:V):Prop where
 pf:Pf (d+1) n
 k:n.k=8
 rt:Rt v
 x0:gel n.l 0=litN v
 len:0<n.l.length
theorem B1.ev{p:List V}{d:Nat}{n:Nd}{v:V}(h:B1 p d n v):aM d (R0 p) (gel n.l 0) []=some (⟨v,(R0 p).c⟩,[]):=by
 have hd:1<=d:=by
  have:=h.pf.qX (cu (l:=n.l) (i:=0) ⟨oM,by have:=h.len;omega⟩)
  cases d with
  |zero=>cases this
  |succ d=>omega
 rw[h.x0]
 exact l5 hd v []
theorem B1.one{p:List V}{d:Nat}{n:Nd}{v:V}{r:Gt × List (C × Bool)}(h:B1 p d n v) (hp:okP p) (hd:d<=6) (f:n.op<=5) (e:aF (aM d) (R0 p) n []=some r):valF (R0 p) n=r.1.v:=
 qo (R:=R0 p) hp oM h.pf.okN h.k f ⟨r,e,rfl⟩
theorem B1.to{p:List V}{d:Nat}{n:Nd}{v:V}{i:Int}(h:B1 p d n v) (hp:okP p) (hd:d<=6) (f:n.op<=5) (hi:0<=i/\i<(n.l.length:Int)){m:List (C × Bool)}(e:aF (aM d) (R0 p) n []=obind (aM d (R0 p) (gel n.l i) m) λy=>some (y.1,y.2)):valF (R0 p) n=valF (R0 p) (gel n.l i):=by
 refine qo (R:=R0 p) hp oM h.pf.okN h.k f ?_
 rw[e]
 exact Ok.ob (val_ok (R:=R0 p) hp (show d<=1000 by omega) (Nat.le_refl d) (h.pf.qX (cu hi)).okN m) λy _ hy=>Ok.sm hy.1
theorem xa(hp:okP p) (hd:d<=6) (h:B1 p d n v) (a7:n.op=1\/n.op=5) (h4:v.k≠4):Ok (jx n v p) (ov p (d+1) n):=by
 have hk:=h.k
 have hl:=h.pf.len
 have F:=h.len
 unfold jx
 refine Ok.bv λz1 e1=>Ok.it (λc=>?_) λc=>?_
 · rw[e1,dT]at c
   refine Ok.ob (cX h.rt) λt G ht=>Ok.bv λz2 H=>Ok.it (λc2=>iV oM ht.1 ?_) λc2=>?_
   · rw[H,dT]at c2
     exact h.one hp hd oM (ES F c h.ev h4 G c2)
   rw[H,dF]at c2
   refine Ok.bv λz3 J=>Ok.bv λz4 X=>Ok.bv λz5 e5=>Ok.bv λz6 e6=>Ok.it (λc3=>?_) λc3=>?_
   · rw[e6,X,e5,bA,dT,dT]at c3
     refine Ok.ck oM (Ok.bv λx E=>Ok.ob (lX hp hd h.pf oM (by rw[E];exact cu oM) ?_) λm _ Y=>Ok.sm Y)
     rw[E]
     exact h.to hp hd oM oM (Ez F c h.ev h4 G c2 J c3)
   · refine Ok.ob (av oM) λu eu hu=>iV oM hu.1<|h.one hp hd oM (Eo F c h.ev h4 G c2 J (λg=>?_) eu)
     rw[e6,X,e5,decide_eq_true g.1,decide_eq_true g.2]at c3
     cases c3
 · have ho:n.op=1:=by
    rw[e1,dF]at c
    omega
   have a1:2<=n.l.length:=by
    have hp:=h.pf
    cases hp with
    |call _ op l a8 a6 hf hx=>exact zX op (.inl ho) _ a6 hf
    |un _ k x ad hx=>dsimp only at hk;omega
    |_=>dsimp only at hk;omega
   refine Ok.ob (du h.rt) λt G ht=>?_
   have f:=AR (R:=R0 p) (x:=gel n.l 0) h.ev h4 G
   refine Ok.bv λz2 H=>Ok.it (λc2=>iV oM ht ?_) λc2=>?_
   · rw[H,dT]at c2
     exact h.one hp hd oM (Dx F ho f c2)
   rw[H,dF]at c2
   refine Ok.bv λz3 J=>Ok.it (λc3=>?_) λc3=>?_
   · rw[J,dT]at c3
     refine Ok.ck oM (Ok.bv λx E=>Ok.ob (lX hp hd h.pf oM (by rw[E];exact cu oM) ?_) λm _ Y=>Ok.sm Y)
     rw[E]
     exact h.to hp hd oM oM (Ex a1 ho f c2 c3)
   rw[J,dF]at c3
   refine Ok.bv λz4 X=>Ok.it (λc4=>?_) λc4=>?_
   · rw[X,dT]at c4
     refine Ok.ck oM (Ok.bv λx E=>Ok.ob (lX hp hd h.pf oM (by rw[E];exact cu oM) ?_) λm _ Y=>Ok.sm Y)
     rw[E]
     exact h.to hp hd oM oM (EO oM ho f c2 c3)
   · rw[X,dF]at c4
     exact Ok.ob ba λu eu hu=>iV oM hu (h.one hp hd oM (ED F oM ho f c2 c3 eu))
theorem rN(hp:okP p) (hd:d<=6) (h:Pf (d+1) n) (g:n.k=8) (f:n.op=3\/n.op=4):valF (R0 p) n=mc n.op (n.l.map (valF (R0 p))):=by
 refine qo (R:=R0 p) hp oM h.okN g oM (EG f (by have:=h.len;omega) λx u a=>?_)
 exact val_ok (R:=R0 p) hp (show d<=1000 by omega) (Nat.le_refl d) (h.qX u).okN a
theorem zr(hp:okP p) (hd:d<=6) (h:Pf (d+1) n) (hk:n.k=8) (F:n.op<=5) (hr:∀x∈n.l,x.k≠1->Ok (rec x p) (ov p d x)):Ok (ka rec n p) (ov p (d+1) n):=by
 have hl:=h.len
 have hN:=h.okN
 have a7:1<=n.l.length/\1<=n.op/\(n.op=2->2<=n.l.length):=by
  rcases hN.2 with⟨g,_⟩|g|g|g|⟨g,_⟩|⟨g,_⟩|⟨_,g1,_,g2,g3,_⟩
  all_goals first|(exfalso;omega)|skip
  exact⟨g2 F,g1.1,λe=>g3 (.inr e)⟩
 unfold ka
 refine Ok.ck oM (Ok.bv λx ex=>?_)
 have hx:x∈n.l:=by rw[ex];exact cu oM
 have hi:n.l[0]?=some x:=by rw[ex];exact kv oM
 have b1:=h.qX hx
 rw[sD]
 refine Ok.os λb eb=>Ok.bv λz1 e1=>Ok.it (λc=>?_) λc=>?_
 · rw[e1,eb]at c
   have H:x.k≠1:=by simpa using c
   exact Ok.ob (vx (i:=0) hp hd h oM hi H (λ_ g=>oM) (hr x hx H)) λm _ hm=>Ok.sm hm
 · have H:x.k=1:=by
    rw[e1,eb]at c
    simpa using c
   have X:=b1.rt H
   obtain⟨w,rfl⟩:∃w,x=litN w:=⟨_,X.2⟩
   have E:B1 p d n w:=⟨h,hk,X.1,ex.symm,oM⟩
   have Y:valF (R0 p) n=w->Ok (some (litN w)) (ov p (d+1) n):=λe=>Ok.sm (ov.lit oM X.1 e)
   refine Ok.bv λz2 e2=>Ok.it (λc2=>?_) λc2=>?_
   · rw[e2,dT]at c2
     have:=a7.2.2 c2
     refine Ok.bv λz3 e3=>Ok.it (λc3=>?_) λc3=>Y ?_
     · rw[e3,dT]at c3
       refine Ok.ck oM (Ok.bv λy ey=>Ok.ob (lX hp hd h oM (by rw[ey];exact cu oM) ?_) λm _ hm=>Ok.sm hm)
       rw[ey]
       exact E.to hp hd F oM (Ew this c2 E.ev c3)
     · rw[e3,dF]at c3
       exact E.one hp hd F (Ey E.len c2 E.ev c3)
   · rw[e2,dF]at c2
     refine Ok.bv λJ eJ=>?_
     have hJ:∀s,(s=true->n.op=1\/n.op=5)->(s=false->n.op=3\/n.op=4)->Ok (J s) (ov p (d+1) n):=by
      intro s h1 h2
      rw[eJ]
      refine Ok.it (λhs=>Ok.bv λz4 e4=>Ok.it (λu=>Y ?_) λu=>?_) λhs=>?_
      · rw[e4,dT]at u
        rcases h1 hs with ho|ho
        ·exact E.one hp hd F (Dx E.len ho (Be E.ev u) u)
        ·exact E.one hp hd F (Et E.len ho E.ev u)
      · rw[e4,dF]at u
        exact Ok.ob (xa hp hd E (h1 hs) u) λm _ hm=>Ok.sm hm
      · have ho:=h2 hs
        have G:=rN hp hd h hk ho
        refine Ok.ob (du X.1) λt et ht=>?_
        have b2:zP (valF (R0 p) (litN w))=t:=by rw[pQ];exact yZ et
        obtain⟨l,f⟩:∃l,n.l=litN w::l:=by
         cases a8:n.l with
         |nil=>rw[a8]at hi;cases hi
         |cons a l=>rw[a8]at hi;exact⟨l,by rw[Option.some.inj hi]⟩
        rw[f,List.map_cons]at G
        simp only[mc]at G
        rw[b2]at G
        refine Ok.bv λ_ f1=>Ok.bv λ_ f2=>Ok.bv λ_ f3=>Ok.bv λ_ f4=>Ok.bv λz5 e5=>Ok.bv λz6 e6=>Ok.bv λz7 e7=>Ok.it (λc5=>iV oM ht ?_) λc5=>?_
        · rw[e7,e6,e5,f4,f3,f2,f1,Bool.or_eq_true,Bool.or_eq_true,dT,dT,beq_iff_eq,decide_eq_decide]at c5
          split at G
          ·exact G
          · rename_i a6
            have hl1:n.l.length=1:=by
             rcases c5 with g|g
             ·exact absurd g a6
             ·omega
            have b3:l=[]:=by
             rw[f]at hl1
             simpa using hl1
            rw[b3]at G
            simp only[List.map_nil,mc]at G
            have h4:t.k≠4:=λg=>a6 (.inl g)
            have h3:=yS et h4 ht
            have ad:¬(t.n=1<->n.op=4):=λg=>a6 (.inr g)
            rw[G]
            unfold Rt at ht
            obtain⟨tk,tn,ts⟩:=t
            dsimp only at h3 ad ht⊢
            rcases ht with g|g|g|g|g
            ·omega
            ·omega
            ·omega
            · obtain⟨_,g1,g2⟩:=g
              rw[h3,g2]
              rcases ho with ho|ho
              · rw[if_pos ho]
                have:tn=1:=oM
                rw[this]
              · rw[if_neg oM]
                have:tn=0:=oM
                rw[this]
            ·omega
        · rw[e7,Bool.or_eq_false_iff,e6,dF,e5,f4,f3,f2,f1,Bool.or_eq_false_iff,dF,beq_eq_false_iff_ne,Ne,decide_eq_decide]at c5
          rw[if_neg (λg=>g.elim c5.1.1 c5.1.2)]at G
          refine Ok.ck oM (Ok.bv λl' el=>Ok.sm ?_)
          have a1:l'=l:=by
           rw[el]
           unfold fd
           rw[List.take_of_length_le (by simp),f]
           rfl
          have af:n.l.length≠1:=oM
          have ao:∀y∈litN w::l,Pf d y:=λy hy=>h.qX (by rw[f];exact hy)
          have b0:StP (d+1) n ⟨n.k,n.op,n.v,n.a,n.b,n.nm,l'⟩:=by
           cases h with
           |call _ op l0 b4 b5 b6 hy=>
            dsimp only at f af hl ho⊢
            subst f
            rw[a1]
            simp only[List.length_cons]at af hl
            exact StP.drop ho ⟨oM,oM⟩ ao
           |un _ k x b7 hx=>dsimp only at hk;omega
           |_=>dsimp only at hk;omega
          refine⟨b0,?_,λ_=>.inr (by dsimp only;omega)⟩
          rw[rN hp hd b0.pf hk ho,G,a1]
     clear eJ
     refine Ok.bv λz4 e4=>Ok.it (λu=>hJ _ (λ_=>?_) λg=>by rw[g]at u;cases u) λu=>Ok.bv λz5 e5=>hJ _ (λg=>?_) λg=>?_
     ·rw[e4,dT]at u;exact .inr u
     ·rw[e5,dT]at g;exact .inl g
     · rw[e4,dF]at u
       rw[e5,dF]at g
       omega
theorem wE(hp:okP p):∀(d k:Nat) (n:Nd),d<=k->d<=7->Pf d n->n.k≠1->Ok (step_One k n p) (ov p d n)
 |0,_,_,_,_,h,_=>by cases h
 |d+1,0,_,hk,_,_,_=>absurd hk oM
 |d+1,k+1,n,hk,hd,h,h1=>by
  have F:∀x∈n.l,x.k≠1->Ok (step_One k x p) (ov p d x):=λx hx a1=>wE hp d k x oM oM (h.qX hx) a1
  show Ok (jr (step_One k) n p) (ov p (d+1) n)
  unfold jr
  refine Ok.bv λz1 e1=>Ok.it (λc=>?_) λ_=>Ok.bv λJ eJ=>?_
  · rw[e1,dT]at c
    exact absurd c h1
  have hJ:∀s,(s=false->5<=n.k)->Ok (J s) (ov p (d+1) n):=by
   intro s hs
   rw[eJ]
   refine Ok.it (λ_=>?_) λg=>Ok.bv λJ2 G=>?_
   · obtain⟨r,he,F,a6⟩:=j_ hp (show d+1<=7 by omega) h.okN
     rw[he]
     refine Ok.os λq eq=>iV h1 ?_ ?_
     ·rw[eq];exact a6
     ·rw[eq];exact F.symm
   · have u:∀s,(s=true->n.k=5\/n.k=6\/n.k=7)->(s=false->n.k=8)->Ok (J2 s) (ov p (d+1) n):=by
      intro s g1 g2
      rw[G]
      refine Ok.it (λg=>Ok.ob (rP hp oM h (g1 g) F) λm _ H=>Ok.sm H) λg=>Ok.bv λz2 e2=>Ok.it (λc2=>?_) λc2=>?_
      · rw[e2,dT]at c2
        exact Ok.ob (zr hp oM h (g2 g) c2 F) λm _ H=>Ok.sm H
      ·exact Ok.ob (vg hp oM h (g2 g) F) λm _ H=>Ok.sm H
     clear G
     have h8:n.k=5\/n.k=6\/n.k=7\/n.k=8:=by
      have:=hs g
      cases h with
      |un _ k x E hx=>dsimp only at E⊢;omega
      |_=>dsimp only at this⊢;omega
     refine Ok.bv λz3 X=>Ok.it (λc3=>u _ (λ_=>?_) λg=>by rw[g]at c3;cases c3) λc3=>Ok.bv λz4 Y=>Ok.it (λf=>u _ (λ_=>?_) λg=>by rw[g]at f;cases f) λf=>Ok.bv λz5 e5=>u _ (λg=>?_) λg=>?_
     ·rw[X,dT]at c3;omega
     ·rw[Y,dT]at f;omega
     ·rw[e5,dT]at g;omega
     · rw[X,dF]at c3
       rw[Y,dF]at f
       rw[e5,dF]at g
       omega
  clear eJ
  refine Ok.bv λz3 X=>Ok.it (λc3=>hJ _ λg=>by rw[g]at c3;cases c3) λc3=>Ok.bv λz4 Y=>Ok.it (λf=>hJ _ λg=>by rw[g]at f;cases f) λf=>Ok.bv λz5 e5=>hJ _ λg=>?_
  rw[X,dF]at c3
  rw[Y,dF]at f
  rw[e5,dF]at g
  cases h with
  |un _ k x E hx=>dsimp only at E⊢;omega
  |_=>dsimp only at h1 c3 f g⊢;omega
end Go.Sp
end
section
namespace Go.Sp
open Go.Stp Go.ValP
variable {d:Nat}{n m:Nd}{p:List V}
theorem yh:∀(f:List Pt) (i:Nat),As (wI i f) f
 |[],_=>rfl
 |p::f,i=>by
  have:=yh f (i+p.t.length)
  unfold As at this⊢
  rw[wI,List.map_cons,List.map_cons,this]
theorem Au(f:Nat) (u:KK=f){x:List UInt8}{g:List Tk}(E:i6 x=some (g,0,0)) (F:(parse_ring f).1 g 0 (x.length:Int) 0 0=some (m,[])):dM x 0=some (m,0,0):=by
 unfold dM
 rw[E,u]
 show obind ((parse_ring f).1 g 0 (x.length:Int) 0 0) _=_
 rw[F]
 rfl
theorem back(h:Pf d n) (hd:d<=6):∃T:List UInt8,ft n 0=some T/\((∃q:Nd,dM T 0=some (q,0,4))\/∃m,dM T 0=some (m,0,0)/\Qv d n m):=by
 obtain⟨hh,cs,m,_,u,E,G⟩:=lN h oM
 have F:br hh 0 cs=cs:=by
  unfold br
  rw[if_neg (by have:=E.hh;omega)]
 have f:=u.sh KK (by unfold KK;omega) 0 (by decide) (by decide)
 rw[F]at f
 refine⟨tx cs,by unfold ft;rw[f];rfl,?_⟩
 by_cases hl:(tx cs).length<=200
 · refine .inr ⟨m,?_,G⟩
   have g:=u.lx [] (λb r e=>nomatch e) (by rw[List.append_nil];omega)
   refine Au KK O (wX g hl) ?_
   have:=E.par (us:=wI 0 cs) (R:=[]) (e:=((tx cs).length:Int)) (D:=0) (L:=0) (k:=KK) oM (by unfold KK;omega) (by unfold KK;omega) oM (by rw[F];exact yh cs 0) (by decide) (λt r e=>nomatch e)
   rw[List.append_nil]at this
   exact this
 · refine .inl ⟨⟨0,0,⟨0,0,[]⟩,r0,r0,[],[]⟩,?_⟩
   unfold dM
   rw[tz oM]
   rfl
theorem Ao(h:Pf d n) (hd:d<=7):jh n=some true:=by
 unfold jh
 rw[uG d n h KK 200 (by unfold KK;omega) oM (by decide)]
 rfl
structure Way (p:List V) (n:Nd) (out:List Nd) (j:Nat) (y:Nd):Prop where
 at_:out[j]?=some y
 pf:Pf 5 y
 va:valF (R0 p) y=valF (R0 p) n
 by_:0<j->∃y',out[j-1]?=some y'/\step_One KK y' p=some y
theorem yy{l:List Nd}{i:Nat}{x:Nd}(h:l[i]?=some x):gel l (i:Int)=x:=by
 have hi:=(List.getElem?_eq_some_iff.1 h).1
 have:=kv (l:=l) hi
 rw[h]at this
 exact(Option.some.inj this).symm
theorem pX(x0:List Int) (x1:List V) (hb:∀b∈x0,0<=b/\b<=255) (hv:∀v∈x1,-9223372036854775808<=v.n/\v.n<=9223372036854775807):de x0 x1=some true:=by
 refine j4 ?_
 unfold de
 rw[D7]
 refine Ok.os λy1 e1=>Ok.bv λz1 ad=>Ok.it (λh=>by rw[ad,e1]at h;cases h) λ_=>?_
 refine Ok.bv λz2 e2=>Ok.bv λz3 e3=>Ok.bv λz4 e4=>Ok.it (λ_=>Ok.sm O) λc=>?_
 rw[e4,Bool.or_eq_false_iff,e2,e3,dF,dF]at c
 refine Ok.ob (oB xz (N:=100) oM 4 KK x0 oM (by unfold KK;omega) ⟨oM,hb⟩) λy ey hy=>Ok.ob (zw (l:=x1) oM hv) λp ep hp=>?_
 have hK:5<=KK:=by unfold KK;omega
 have H:Pf 5 y.1:=hy.1
 have bq:=yz 5 y.1 H
 have bs:(4:Nat) ^ 5=1024:=by decide
 have hS:=wk 5 y.1 oM H KK hK
 obtain⟨r,he,hr,c7⟩:=j_ hp (show 5<=7 by omega) H.okN
 rw[he]
 refine Ok.os λq eq=>Ok.ob (Ci (n0:=y.1) (S:=(sz y.1:Int)) (λi x out=>Pf 5 x/\valF (R0 p) x=valF (R0 p) y.1/\out.length=i+1/\out[i]?=some x/\(i:Int)<=2*(sz y.1:Int)/\∀j,j<out.length->∃u,Way p y.1 out j u) hS oM ⟨H,O,O,O,oM,λj hj=>?_⟩ (λi x out h=>h.2.2.1) λi x out h hk c8=>?_) λall _ X=>?_
 · have:j=0:=by simpa using hj
   subst this
   exact⟨y.1,O,H,O,λg=>absurd g (by decide)⟩
 · obtain⟨g1,E,g3,g4,g5,g6⟩:=h
   obtain⟨m,em,hm⟩:=wE hp 5 KK x hK oM g1 hk
   refine⟨m,em,hm.st.pf,hm.va.trans E,by rw[List.length_append,g3];rfl,by rw[List.getElem?_append_right oM,g3];simp,oM,λj hj=>?_⟩
   rw[List.length_append,List.length_cons,List.length_nil]at hj
   rcases Nat.lt_or_ge j out.length with F|hge
   · obtain⟨u,w1,w2,w3,w4⟩:=g6 j F
     refine⟨u,by rw[List.getElem?_append_left F];exact w1,w2,w3,λg=>?_⟩
     obtain⟨y',w5,w6⟩:=w4 g
     exact⟨y',by rw[List.getElem?_append_left oM];exact w5,w6⟩
   · have af:j=out.length:=oM
     subst af
     refine⟨m,by rw[List.getElem?_append_right (Nat.le_refl _),Nat.sub_self];rfl,hm.st.pf,hm.va.trans E,λg=>⟨x,?_,em⟩⟩
     rw[List.getElem?_append_left oM,g3]
     exact g4
 obtain⟨i0,x,⟨g1,E,g3,g4,g5,g6⟩,_⟩:=X
 clear ey
 refine Ok.bv λJ eJ=>Ok.bv λB eB=>Ok.lp (λs=>∃i:Nat,s=(i:Int)/\i<=all.length) (λs=>all.length-s.toNat) ⟨0,O,Nat.zero_le _⟩ oM ?_
 rintro s ⟨i,rfl,hi⟩ next hnx
 rw[eB]
 refine Ok.bv λw1 f1=>Ok.it (λc1=>?_) λc1=>?_
 · rw[f1,dT]at c1
   have ao:i<all.length:=oM
   obtain⟨u,u1,u2,u3,u4⟩:=g6 i ao
   have f:∀w,w=IntKind.wrap .i64 ((i:Int)+1)->Ok (next w) λv=>v=true:=λw hw=>by
    rw[(au hw).2 oM]
    exact hnx _ ⟨i+1,oM,oM⟩ oM
   refine Ok.ck oM (Ok.bv λw2 f2=>?_)
   have h2:w2=u:=by rw[f2,yy u1]
   rw[h2,Ao u2 oM]
   obtain⟨ru,k1,k2,k3⟩:=j_ hp (show 5<=7 by omega) u2.okN
   have G:∀Y:Rs,Y.v=valF (R0 p) u->(!((decide (Y.v.k=q.v.k)&&(decide (Y.v.n=q.v.n)&&decide (Y.v.s=q.v.s)))))=false:=λY b0=>by
    rw[b0,u3,<- hr,eq]
    simp
   refine Ok.os λw3 f3=>Ok.bv λw4 f4=>?_
   have h4:w4=false:=by rw[f4,f3];rfl
   subst h4
   rw[Bool.not_false,if_pos rfl,k1]
   refine Ok.os λw5 f5=>Ok.bv λw6 f6=>Ok.bv λw7 f7=>Ok.bv λw8 f8=>Ok.bv λw9 f9=>?_
   have h6:w6=false:=by rw[f6,f5];exact G ru k2
   have h7:w7=false:=by rw[f7,h6];rfl
   subst h7
   refine Ok.ck (λg=>?_) (Ok.bv λv1 a1=>?_)
   · rw[Bool.not_false,Bool.true_and,f8,dT]at g
     rw[(au f9).2 oM]
     omega
   refine Ok.ob (R:=λb=>w8=true->b=u) ?_ λv2 _ bb=>Ok.ob (R:=λb=>w8=true->b=true) ?_ λv3 _ bk=>Ok.bv λv4 a4=>Ok.bv λv5 a5=>Ok.bv λv6 a6=>Ok.it (λc6=>?_) λ_=>?_
   · rw[Bool.not_false,Bool.true_and]
     refine Ok.it (λg=>?_) λg=>Ok.sm λE=>by rw[g]at E;cases E
     have g':=g
     rw[f8,dT]at g'
     obtain⟨y',b1,b2⟩:=u4 oM
     have:v1=y':=by
      rw[a1,(au f9).2 oM,show(i:Int)-1=((i-1:Nat):Int)by omega,yy b1]
     rw[this,b2]
     exact Ok.sm λ_=>rfl
   · rw[Bool.not_false,Bool.true_and]
     refine Ok.it (λg=>?_) λg=>Ok.sm λE=>by rw[g]at E;cases E
     rw[bb g]
     exact(vT 5 u u u2 KK hK).mono λb hb _=>hb.2 O
   · rw[a6,a5,a4,Bool.false_or,bA]at c6
     rw[bk c6.1]at c6
     exact absurd c6.2 (by decide)
   obtain⟨T,t1,t2⟩:=back u2 oM
   rw[t1]
   refine Ok.os λv7 a7=>?_
   rw[a7]
   rcases t2 with⟨qn,t2⟩|⟨m,t2,hQ⟩
   · rw[t2]
     refine Ok.os λv8 a8=>Ok.bv λv9 a9=>Ok.bv λq1 b1=>Ok.bv λq2 b2=>Ok.it (λ_=>Ok.bv λq3 b3=>f _ b3) λc=>?_
     rw[b2,a9,a8]at c
     cases c
   · rw[t2]
     obtain⟨rm,l1,l2,l3⟩:=j_ hp (show 6<=7 by omega) hQ.ok
     refine Ok.os λv8 a8=>Ok.bv λv9 a9=>Ok.bv λq1 b1=>Ok.bv λq2 b2=>Ok.it (λc=>by rw[b2,b1,a9,a8]at c;cases c) λ_=>Ok.bv λq3 b3=>?_
     have h3:q3=false:=by rw[b3,a8];rfl
     subst h3
     rw[Bool.not_false,if_pos rfl,a8]
     dsimp only
     rw[l1]
     refine Ok.os λq4 b4=>Ok.bv λq5 b5=>Ok.bv λq6 b6=>Ok.it (λc=>?_) λ_=>Ok.bv λq7 b7=>f _ b7
     rw[b6,b5,b4,G rm (by rw[l2];exact hQ.va p hp)]at c
     cases c
 · rw[eJ]
   exact Ok.sm O
end Go.Sp
end
