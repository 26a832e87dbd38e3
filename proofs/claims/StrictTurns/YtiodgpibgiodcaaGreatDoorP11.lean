/- A part of the proof. -/
import Derived.Test.YtiodgpibgiodcaaGreatDoorP00
import Derived.Test.YtiodgpibgiodcaaGreatDoorP07
import Derived.Test.YtiodgpibgiodcaaGreatDoorP10
set_option linter.all false
set_option maxHeartbeats 4000000
namespace Go.aj
open Go Go.Proofs.Tryz
set_option maxRecDepth 100000
def c6.ok {r} (h:c6 r):r.length=7/\(∀v∈r,J v=true/\D 20 v=true):=by
 obtain ⟨l,n,i,m,p,u,⟨⟨a,q,t,j,k,rfl,d,f,⟨s,e,-⟩⟩,-⟩⟩:=h;refine ⟨rfl,λv g=> ?_⟩;simp only [b2,dG,or_false] at g;rcases g with rfl|rfl|rfl|rfl|rfl|rfl|rfl
 . exact ⟨rfl,rfl⟩
 . exact ⟨d.J,d.aI 19⟩
 . exact ⟨rfl,rfl⟩
 . exact ⟨e.J,e.aI 19⟩
 . exact ⟨rfl,rfl⟩
 . exact ⟨rfl,rfl⟩
 . exact ⟨f.J,f.aI 19⟩
structure oz (s:List aa) (kN jv rop j3 m4:Y):Prop where
  eq: ∃so be op cP bJ,s= [so,be,op,cP,bJ]/\F so kN/\F be jv/\F op rop/\F cP j3/\F bJ m4
  so:b8 kN
  be: ∀r∈jv,gd r
  op: ∀r∈rop,c6 r
  cP: ∀r∈j3,c6 r
  bJ:b8 m4
  n:kN.length+jv.length+rop.length+j3.length+m4.length<1048560
structure hZ (rM bJ:List aa) (kN jv:Y):Prop where
  k:mg rM
  l:rM.length=bJ.length
  ex: ∀l m,(jr l m rM bJ).isSome=kN.any (isStr l m)
  v: ∀l m w,jr l m rM bJ=some w->F w (ny jv l m)
  s: ∀w∈bJ,∃rows,F w rows/\b8 rows
def eV (l m:Nat) (r:List aa):Bool:=match r with
 | .str a b::_=>l==a&&m==b
 |_=>false
def lV (rop:Y) (l m:Nat):Option (List aa):=rop.foldl (λo d=>if eV l m d then some d else o) none
structure hH (tO l8:List aa) (rop:Y):Prop where
  k:mg tO
  l:tO.length=l8.length
  v: ∀l m,jr l m tO l8=(lV rop l m).map .agg
  s: ∀w∈l8,∃r,w= .agg r/\c6 r
structure dO (ax:aa) (s:List aa) (kN jv rop j3 m4:Y):Prop where
  bT:oz s kN jv rop j3 m4
  eq: ∃rM bJ tO l8 JG sn,ax= .b5 (s++ [.ck rM bJ,.ck tO l8,.ck JG sn]) 0/\hZ rM bJ (eD++kN) jv/\hH tO l8 rop/\hH JG sn j3
def hZ.nil (jv):hZ [] [] [] jv:=⟨λ_ d=>(by cases d),rfl,λ_ _=>rfl,λ_ _ _ d=>(by simp [jr,c2] at d),λ_ d=>(by cases d)⟩
def hH.nil:hH [] [] []:=⟨λ_ d=>(by cases d),rfl,λ_ _=>rfl,λ_ d=>(by cases d)⟩
def hZ.ins {h bJ kN jv a b w} (d:hZ h bJ kN jv) (m:F w (ny jv a b)) (n:b8 (ny jv a b)):hZ (h3 (cU a b) (.str a b) h bJ) (h4 (cU a b) w h bJ) (kN++ [[.str a b]]) jv:=by
 refine ⟨CD d.k,CF d.l,λe f=> ?_,λe f p i=> ?_,CE d.s ⟨_,m,n⟩⟩
 . rw [ze a b e f w h bJ d.k d.l,List.any_append,<-d.ex];by_cases g:e=a/\f=b
   . rw [if_pos g];obtain ⟨rfl,rfl⟩:=g;simp [isStr]
   . rw [if_neg g];have:isStr e f [.str a b]=false:=by
      cases j:isStr e f [.str a b] with
      |false=>rfl
      |true=>simp [isStr] at j;exact absurd j g
     simp [this]
 . rw [ze a b e f w h bJ d.k d.l] at i;split at i
   . rename_i g;obtain ⟨rfl,rfl⟩:=g;cases i;exact m
   . exact d.v e f p i
theorem hH.ins {g h rop a b} {q:List aa} (f:hH g h rop) (n:c6 (.str a b::q)):hH (h3 (cU a b) (.str a b) g h) (h4 (cU a b) (.agg (.str a b::q)) g h) (rop++ [.str a b::q]):=by
 refine ⟨CD f.k,CF f.l,λd e=> ?_,CE f.s ⟨_,rfl,n⟩⟩;rw [ze a b d e _ g h f.k f.l,f.v];have m:lV (rop++ [.str a b::q]) d e=if (d==a&&e==b) then some (.str a b::q) else lV rop d e:=by unfold lV;rw [List.foldl_append];rfl
 rw [m];by_cases i:d=a/\e=b
 . obtain ⟨rfl,rfl⟩:=i;simp
 . have:(d==a&&e==b)=false:=by
    cases j:(d==a&&e==b) with
    |false=>rfl
    |true=>simp at j;exact absurd j i
   rw [if_neg i,this];rfl
abbrev fM (H:af) (a b c:Obj) (cs:List aa):af:=(((H.push a).push b).push c).push (.cells (q 137) (q 137) 0 cs)
section
variable (H:af) (a b c o:Obj) (cs:List aa)
theorem Gf:(fM H a b c cs).get H.n=some a:=by simp [fM,af.push,af.get];omega
theorem Gg:(fM H a b c cs).get (H.n+1)=some b:=by simp [fM,af.push,af.get]
theorem Gh:(fM H a b c cs).get (H.n+1+1)=some c:=by simp [fM,af.push,af.get]
theorem xw:(fM H a b c cs).get (H.n+1+1+1)=some (.cells (q 137) (q 137) 0 cs):=by simp [fM,af.push,af.get]
theorem OV:(fM H a b c cs).set H.n o=fM H o b c cs:=by simp [fM,af.push,af.set];rw [if_pos ab];rfl
theorem OW:(fM H a b c cs).set (H.n+1) o=fM H a o c cs:=by simp [fM,af.push,af.set];rfl
theorem OX:(fM H a b c cs).set (H.n+1+1) o=fM H a b o cs:=by simp [fM,af.push,af.set];rfl
theorem OY:U H (fM H a b c cs):=(((U.refl H).push a).push b).push c|>.push _
end
theorem hZ.obj {d bJ kN jv} (g:hZ d bJ kN jv) (n:Nat):gL n (.map false d bJ)=true:=by
 have h:d.all (y n 20)=true:=ba.2 λf e=>by obtain ⟨a,b,rfl⟩:=g.k f e;rfl
 have i:bJ.all (y n 20)=true:=ba.2 λf e=>by obtain ⟨l,j,-⟩:=g.s f e;rcases j with ⟨rfl,-⟩|⟨c,rfl⟩<;>rfl
 show (d.all _&&bJ.all _)=true;rw [h,i];rfl
def Gi {H:af} (k:Tidy H) {s:List aa} {a b c:Obj} (f: ∀n,gL n a=true) (g: ∀n,gL n b=true) (h: ∀n,gL n c=true) (i: ∀v∈s,D 20 v=true):Tidy (fM H a b c (s++ [.map H.n,.map (H.n+1),.map (H.n+1+1)])):=by
 refine (((k.push (f _)).push (g _)).push (h _)).push ?_;show (s++_).all _=true;rw [rE,br];refine ⟨ba.2 λv j=>fR _ 20 20 v (aT _) (i v j),?_⟩;have d: ∀e,e<3->Nat.blt (H.n+e) (H.n+1+1+1+1)=true:=λe l=>h_ ab;simp only [aO,jm,y,nR,br];exact ⟨d 0 al,d 1 al,d 2 al⟩
def zA {H:af} {id:Nat} {e vs:List aa} (n:Nat) (h:H.get id=some (.map false e vs)) (i:e.all (D n)=true) (k:vs.all (D n)=true):aZ (n+1) (.map id) H=some (.ck e vs,H.set id (.map true e vs)):=by
 have f: ∀d:List aa,d.all (D n)=true-> ∀H,cD (aZ n) d H=some (d,H):=λd j H=>wg H d λg l=>fi H n g (ba.1 j g l);simp only [aZ,h,c8,f _ i,f _ k,bu]
def hZ.aI {g bJ kN jv} (f:hZ g bJ kN jv) (n:Nat):g.all (D (n+1))=true/\bJ.all (D (n+1))=true:=
 ⟨ba.2 λe d=>by (obtain ⟨a,b,rfl⟩:=f.k e d;rfl),ba.2 λe d=>by (obtain ⟨i,h,-⟩:=f.s e d;exact h.aI n)⟩
def hH.aI {g i rop} (f:hH g i rop) (n:Nat) (p:21<=n):g.all (D n)=true/\i.all (D n)=true:=by
 obtain ⟨n,rfl⟩:=bY n;refine ⟨ba.2 λe d=>by (obtain ⟨a,b,rfl⟩:=f.k e d;rfl),ba.2 λe d=> ?_⟩;obtain ⟨m,rfl,j⟩:=f.s e d;show m.all (D n)=true;exact ba.2 λh l=>fr 20 n h ab (j.ok.2 h l).2
def lk {f:aa->af->Option (aa×af)} {x h:aa} {H d e:af} {l g:List aa} (i:f x H=some (h,d)) (j:cD f l d=some (g,e)):cD f (x::l) H=some (h::g,e):=by
 rw [cD,i];simp only [j]
theorem Yv {H:af} {so be op cP bJ:aa} {f h g i d e kN jv rop j3} (B:D 20 so=true/\D 20 be=true/\D 20 op=true/\D 20 cP=true/\D 20 bJ=true) (r:hZ f h kN jv) (s:hH g i rop) (hF:hH d e j3):
  ∃p,aZ bR (.ptr (H.n+1+1+1) (q 137) 0 8) (fM H (.map false f h) (.map false g i) (.map false d e) ([so,be,op,cP,bJ]++ [.map H.n,.map (H.n+1),.map (H.n+1+1)]))=some (.b5 ([so,be,op,cP,bJ]++ [.ck f h,.ck g i,.ck d e]) 0,p)/\U H p:=by
 obtain ⟨t,u,v,w,x⟩:=B;have K:=λH=>fi H 49 so (fr 20 49 so al t);have L:=λH=>fi H 49 be (fr 20 49 be al u);have M:=λH=>fi H 49 op (fr 20 49 op al v);have N:=λH=>fi H 49 cP (fr 20 49 cP al w);have O:=λH=>fi H 49 bJ (fr 20 49 bJ al x);let k:=fM H (.map false f h) (.map false g i) (.map false d e) [so,be,op,cP,bJ,.map H.n,.map (H.n+1),.map (H.n+1+1)];let j:=k.set (H.n+1+1+1) (.cells (q 137) (q 137) (ll 0 8) [so,be,op,cP,bJ,.map H.n,.map (H.n+1),.map (H.n+1+1)]);let m:=j.set H.n (.map true f h);let l:=m.set (H.n+1) (.map true g i);have y:j.get H.n=some (.map false f h):=by rw [iG _ _ _ _ ab];exact Gf ..
 have z:m.get (H.n+1)=some (.map false g i):=by rw [iG _ _ _ _ ab,iG _ _ _ _ ab];exact Gg ..
 have A:l.get (H.n+1+1)=some (.map false d e):=by rw [iG _ _ _ _ ab,iG _ _ _ _ ab,iG _ _ _ _ ab];exact Gh ..
 have G:=zA 48 y (r.aI 47).1 (r.aI 47).2;have I:=zA 48 z (s.aI 48 al).1 (s.aI 48 al).2;have J:=zA 48 A (hF.aI 48 al).1 (hF.aI 48 al).2;refine ⟨l.set (H.n+1+1) (.map true d e),?_,((((OY H _ _ _ _).set ab _).set (aT _) _).set ab _).set ab _⟩;have F:sub [so,be,op,cP,bJ,.map H.n,.map (H.n+1),.map (H.n+1+1)] 0 (8-0)=some [so,be,op,cP,bJ,.map H.n,.map (H.n+1),.map (H.n+1+1)]:=rfl;show aZ (49+1) _ _=_;have E:cD (aZ 49) [so,be,op,cP,bJ,.map H.n,.map (H.n+1),.map (H.n+1+1)] j=some ([so,be,op,cP,bJ,.ck f h,.ck g i,.ck d e],l.set (H.n+1+1) (.map true d e)):=
  lk (K _) (lk (L _) (lk (M _) (lk (N _) (lk (O _) (lk G (lk I (lk J rfl)))))))
 have C:k.get (H.n+1+1+1)=some (.cells (q 137) (q 137) 0 [so,be,op,cP,bJ,.map H.n,.map (H.n+1),.map (H.n+1+1)]):=xw ..
 rw [aZ,show ([so,be,op,cP,bJ]++ [.map H.n,.map (H.n+1),.map (H.n+1+1)])= [so,be,op,cP,bJ,.map H.n,.map (H.n+1),.map (H.n+1+1)] from rfl];show (match k.get (H.n+1+1+1) with|some (.cells Q P R cs)=>_|_=>_)=_;rw [C];simp only [F,c1,c8,bu];rw [if_pos ⟨trivial,al⟩];show (match cD (aZ 49) [so,be,op,cP,bJ,.map H.n,.map (H.n+1),.map (H.n+1+1)] j with|some (c,H)=>_|none=>_)=_;rw [E];rfl
@[go_sem] theorem ag9 (a):f_ (some (.map a)) (some (.map a))=true:=by simp [f_,cN]
def O8 {y z:aa} {ky i:Y} (d:F y ky) (e:F z i) (H:af):cT G 198 2 [(0,y),(1,z)] H=some (.A [[y],[z]] true,H):=by
 have:=uX (E:=G) (t:=198) (el:=22) (k:=1) (H:=H) (z:= .V) aq aq aq al rfl al y z d.rk e.rk
 rwa [d.cells,e.cells] at this
def oF (rows:Y):List aa:= [.V,.A rows true,.A rows false]
def sO {v:aa} {rows:Y} (d:F v rows):v∈oF rows:=by
 rcases d with ⟨rfl,-⟩|⟨c,rfl⟩
 . simp [oF]
 . cases c<;>simp [oF]
def Mm (jv:Y) (e:List (List aa×List aa)) (r:List aa):List (List aa×List aa):=match r with
 | [.str a b]=>e.flatMap λd=>(oF (ny jv a b)).map λf=>(h3 (cU a b) (.str a b) d.1 d.2,h4 (cU a b) f d.1 d.2)
 |_=>e
def sS (jv l:Y):List (List aa×List aa):=l.foldl (Mm jv) [([],[])]
def Qh (jv:Y) {l:Y} {j:Nat} {r:List aa} (d:l[j]? =some r):sS jv (l.take (j+1))=Mm jv (sS jv (l.take j)) r:=by
 unfold sS;rw [fg,d];simp
def Mn (p:List aa×List aa) (r:List aa):List aa×List aa:=match r with
 | .str a b::q=>(h3 (cU a b) (.str a b) p.1 p.2,h4 (cU a b) (.agg (.str a b::q)) p.1 p.2)
 |_=>p
def o2 (l:Y):List aa×List aa:=l.foldl Mn ([],[])
def J7 {l:Y} {j:Nat} {r:List aa} (d:l[j]? =some r):o2 (l.take (j+1))=Mn (o2 (l.take j)) r:=by
 unfold o2;rw [fg,d];simp
def uV (s:List aa) (kN jv rop j3:Y):List aa:=(sS jv (eD++kN)).map λd=> .b5 (s++ [.ck d.1 d.2,.ck (o2 rop).1 (o2 rop).2,.ck (o2 j3).1 (o2 j3).2]) 0
def Dw {s:List aa} {kN jv rop j3 a7} (I:oz s kN jv rop j3 a7):dt 48 [.agg s] (λax=>dO ax s kN jv rop j3 a7/\ax∈uV s kN jv rop j3) bQ:=by
 obtain ⟨d,p,i,e,r,rfl,T,aq,K,L,ar⟩:=I.eq;have bE:=I.n;have aT:b8 (eD++kN):=λj aC=>(cr.1 aC).elim (AT j) (I.so j);have bz:(eD++kN).length<1048567:=by rw [bD];show 7+kN.length<_;omega
 have an: [eD,kN].flatten=eD++kN:=ai;obtain ⟨bs,N⟩:=Jj;obtain ⟨bt,C⟩:=(Uo (.A [[.A eD true],[d]] true) [[.A eD true],[d]] [eD,kN] (.inr ⟨_,rfl⟩) (wG (.inr ⟨_,rfl⟩) T) rfl ai (by rw [an];exact aT.rows) (by rw [an];unfold b7;omega) (by rw [an];omega)).val;rw [an] at C;obtain ⟨bu,bk⟩:=aL.j8 (l:=eD++kN) (f:=81) (g:=λj=> [.agg [d,p,i,e,r],M j 0]) (S:=λj av=> ∃a b,j= [.str a b]/\F av (ny jv a b)/\b8 (ny jv a b)) λj aC=>by obtain ⟨a,b,rfl,N,C⟩:=aT j aC;exact (Vc _ jv d p i e r rfl ⟨T.J,K.J,L.J,ar.J⟩ aq I.be ab a b N C).mono (λav af=>⟨a,b,rfl,af,(xI I.be N C _).1⟩) λ_ bj=>bj
 obtain ⟨bc,bd,bf,bg,bh⟩:J d=true/\J p=true/\J i=true/\J e=true/\J r=true:=⟨T.J,aq.J,K.J,L.J,ar.J⟩;have aY: ∀a8∈ [d,p,i,e,r],D 20 a8=true:=λa8 aZ=>by
  simp only [b2,dG,or_false] at aZ;rcases aZ with rfl|rfl|rfl|rfl|rfl
  . exact T.aI 19
  . exact aq.aI 19
  . exact K.aI 19
  . exact L.aI 19
  . exact ar.aI 19
 refine aL.run (m:=65) rfl rfl rfl rfl rfl rfl rfl rfl (bs+bt+bu+(eD++kN).length+rop.length+j3.length+5) λaJ aN bB bC H af=> ?_;have bo:=O8 (y:= .A eD true) (z:=d) (.inr ⟨_,rfl⟩) T;have aU:=Gi (s:= [d,p,i,e,r]) af (a:= .map false [] []) (b:= .map false [] []) (c:= .map false [] []) (λ_=>rfl) (λ_=>rfl) (λ_=>rfl) aY;have N:=λu=>N aJ aN ab ab _ u aU;obtain ⟨av,ao,C⟩:=C aJ aN ab ab _ aU;simp only [bl,a6] at N C;simp only [go_sem,bc,bd,bf,bg,bh,lq,T.O,N,bo,bH,C,ao.O,ao.len];generalize aS:a1 _ _ _ _ _ _ _ _ _ _=X;revert X;refine hz _ _ _ _ (σ:=List aa×List aa) (λ_=> [(1,.W 0 [d,p,i,e,r]),(3,.ptr (H.n+1+1+1) (q 137) 0 8),(20,av)]) (λs=>fM H (.map false s.1 s.2) (.map false [] []) (.map false [] []) [d,p,i,e,r,.map H.n,.map (H.n+1),.map (H.n+1+1)])
  (λh s=>hZ s.1 s.2 ((eD++kN).take h) jv/\s∈sS jv ((eD++kN).take h)) 66 (eD++kN).length ([],[]) rfl rfl (λ_=>rfl) rfl ⟨hZ.nil _,by simp [sS]⟩ dC ab ab ?_ ?_
 . rintro h ⟨x,B⟩ u Z ⟨E,ak⟩ hF;obtain ⟨j,t⟩: ∃j,(eD++kN)[h]? =some j:=⟨(eD++kN)[h],by simp [Z]⟩;have ad:=aV t;have bn:=Gi (s:= [d,p,i,e,r]) af (a:= .map false x B) (b:= .map false [] []) (c:= .map false [] []) E.obj (λ_=>rfl) (λ_=>rfl) aY;obtain ⟨aQ,⟨a,b,rfl,al,bp⟩,aR⟩:=bk aJ aN ab ab j ad _ bn;have bm:=E.ins al bp;have w:=Ai G (v:=aQ) xj lA (Gf H (.map false x B) (.map false [] []) (.map false [] []) [d,p,i,e,r,.map H.n,.map (H.n+1),.map (H.n+1+1)]) E.k E.l (a:=a) (b:=b);rw [OV] at w;have ae:=λu=>zu (tm:=u) (k:= .str a b) rfl al.aD w;simp only [jj,bl,a6] at aR;simp only [go_sem,hF,ao.O,ao.a_ (k:=1) t rfl,xw,aR,al.O,ae];exact au.next (_,_) rfl ⟨by show hZ _ _ ((eD++kN).take (h+1)) jv;rw [fg,t];exact bm,by rw [Qh jv t];exact fC.2 ⟨(x,B),ak,cd.2 ⟨aQ,sO al,rfl⟩⟩⟩ ay
 rintro ⟨x,B⟩ u ⟨E,ak⟩ hF;rw [bX] at E ak;simp only [go_sem,hF,K.O,K.len];generalize aS:a1 _ _ _ _ _ _ _ _ _ _=X;revert X;refine hz _ _ _ _ (σ:=List aa×List aa) (λ_=> [(1,.W 0 [d,p,i,e,r]),(3,.ptr (H.n+1+1+1) (q 137) 0 8),(36,i)]) (λs=>fM H (.map false x B) (.map false s.1 s.2) (.map false [] []) [d,p,i,e,r,.map H.n,.map (H.n+1),.map (H.n+1+1)])
  (λh s=>hH s.1 s.2 (rop.take h)/\s=o2 (rop.take h)) 66 rop.length ([],[]) rfl rfl (λ_=>rfl) rfl ⟨hH.nil,rfl⟩ ay ab ab ?_ ?_
 . rintro h ⟨ag,ah⟩ u Z ⟨P,aA⟩ Y;obtain ⟨j,t⟩:=bA Z;have ad:=aV t;have R:=I.op j ad;have br:=R.len;obtain ⟨U,V,bb,aK,aM,bx,⟨⟨a,aO,s,aF,aG,rfl,az,aE,⟨bw,aB,-⟩⟩,-⟩⟩:=id R;have aw:=P.ins R;have w:=Ai G (v:= .agg [.str U V,a,.str aK aM,aO,.int .i64 aF,.int .i64 aG,s]) xk lA (Gg H (.map false x B) (.map false ag ah) (.map false [] []) [d,p,i,e,r,.map H.n,.map (H.n+1),.map (H.n+1+1)]) P.k P.l (a:=U) (b:=V);rw [OW] at w;have ae:=λu=>zu (tm:=u) (k:= .str U V) rfl rfl w;simp only [go_sem,Y,K.O,K.a_ (k:=7) t rfl,az.J,aE.J,aB.J,xw,ae];exact au.next (_,_) rfl ⟨by show hH _ _ (rop.take (h+1));rw [fg,t];exact aw,by rw [J7 t,<-aA];rfl⟩ (by simp only [go_sem,Y])
 rintro ⟨ag,ah⟩ u ⟨P,aW⟩ Y;rw [bX] at P aW;simp only [go_sem,Y,L.O,L.len];generalize aS:a1 _ _ _ _ _ _ _ _ _ _=X;revert X;refine hz _ _ _ _ (σ:=List aa×List aa) (λ_=> [(3,.ptr (H.n+1+1+1) (q 137) 0 8),(51,e)]) (λs=>fM H (.map false x B) (.map false ag ah) (.map false s.1 s.2) [d,p,i,e,r,.map H.n,.map (H.n+1),.map (H.n+1+1)])
  (λh s=>hH s.1 s.2 (j3.take h)/\s=o2 (j3.take h)) 66 j3.length ([],[]) rfl rfl (λ_=>rfl) rfl ⟨hH.nil,rfl⟩ (by simp only [go_sem,Y]) ab ab ?_ ?_
 . rintro h ⟨aH,aP⟩ u Z ⟨Q,aA⟩ aj;obtain ⟨j,t⟩:=bA Z;have ad:=aV t;have R:=I.cP j ad;have br:=R.len;obtain ⟨U,V,bb,aK,aM,bx,⟨⟨a,aO,s,aF,aG,rfl,az,aE,⟨bw,aB,-⟩⟩,-⟩⟩:=id R;have aw:=Q.ins R;have w:=Ai G (v:= .agg [.str U V,a,.str aK aM,aO,.int .i64 aF,.int .i64 aG,s]) xk lA (Gh H (.map false x B) (.map false ag ah) (.map false aH aP) [d,p,i,e,r,.map H.n,.map (H.n+1),.map (H.n+1+1)]) Q.k Q.l (a:=U) (b:=V);rw [OX] at w;have ae:=λu=>zu (tm:=u) (k:= .str U V) rfl rfl w;simp only [go_sem,aj,L.O,L.a_ (k:=7) t rfl,az.J,aE.J,aB.J,xw,ae];exact au.next (_,_) rfl ⟨by show hH _ _ (j3.take (h+1));rw [fg,t];exact aw,by rw [J7 t,<-aA];rfl⟩ (by simp only [go_sem,aj])
 rintro ⟨aH,aP⟩ u ⟨Q,aX⟩ aj;rw [bX] at Q aX;simp only [go_sem,aj];obtain ⟨ba,bq,w⟩:=Yv (H:=H) (so:=d) (be:=p) (op:=i) (cP:=e) (bJ:=r) ⟨T.aI 19,aq.aI 19,K.aI 19,L.aI 19,ar.aI 19⟩ E P Q;exact .inl ⟨_,⟨⟨I,x,B,ag,ah,aH,aP,rfl,E,P,Q⟩,cd.2 ⟨(x,B),ak,by rw [<-aW,<-aX]⟩⟩,_,_,ba,rfl,bq,gV af w rfl⟩
def Aq:List aa:= [.str 0 0,.V,.str 0 0,.V,.int .i64 0,.int .i64 0,.V]
def NJ:c6 Aq:=⟨0,0,[],0,0,[],⟨⟨_,_,_,_,_,rfl,.inl ⟨rfl,rfl⟩,.inl ⟨rfl,rfl⟩,[],.inl ⟨rfl,rfl⟩,al,λ_ ag=>by cases ag⟩,by unfold T;decide,by unfold T;decide,al,al,λ_ ag=>(by cases ag),al,λ_ ag=>(by cases ag),al⟩⟩
theorem vj {a p s:aa} {args e st:Y} (b:F a args) (d:F s st) (c:F p e) {l m ls ms:Nat} {i j:Int}:([aa.str l m,a,.str ls ms,p,.int .i64 i,.int .i64 j,s]:List aa).all (D 18)=true:=by simp only [aO,jm,b.aI 17,d.aI 17,c.aI 17];rfl
def my (kN:Y) (l m:Nat):Bool:=(eD++kN).any (isStr l m)
def mj (kN jv:Y) (l m:Nat):Y:=if my kN l m then ny jv l m else []
def ja (kN jv:Y) (l m a b:Nat):Bool:=(a==3&&b==7958081)||(mj kN jv l m).any (isStr a b)
def pt (kN jv aJ:Y) (l m:Nat):Bool:=aJ.any λc=>match c with
 | [.str a b]=>ja kN jv l m a b
 |_=>false
def iQ (rop:Y) (l m:Nat):List aa:=(lV rop l m).getD Aq
def j0 (rop:Y) (l m:Nat):Bool:=(lV rop l m).isSome
def DP {rop:Y} {l m:Nat} {r}: ∀(L:Y) (o:Option (List aa)),(∀x∈L,x∈rop)->(∀x,o=some x->x∈rop/\eV l m x=true)->L.foldl (λo r=>if eV l m r then some r else o) o=some r->r∈rop/\eV l m r=true
 | [],o,_,ag,c=>ag r c
 | b ::L,o,d,ag,c=>DP L _ (λx a=>d x (h8 _ a)) (λx a=>by
     have a:(if eV l m b=true then some b else o)=some x:=a;split at a
     . rename_i e;cases a;exact ⟨d b (dF ..),e⟩
     . exact ag x a) c
def qA {rop:Y} (ag: ∀r∈rop,c6 r) (l m:Nat):c6 (iQ rop l m):=by
 unfold iQ
 cases a:lV rop l m with
 |none=>exact NJ
 |some r=>exact ag r (DP (rop:=rop) rop none (λ_ ag=>ag) (λ_ ag=>by cases ag) a).1
def N5 {kN jv:Y} (c: ∀r∈jv,gd r) (i:jv.length<1048560) (f:b8 (eD++kN)) (l m:Nat):b8 (mj kN jv l m)/\(mj kN jv l m).length<1048562:=by
 unfold mj;split
 . rename_i d;obtain ⟨r,e,ag⟩:=kB.1 d;obtain ⟨g,h,rfl,a,b⟩:=f r e;simp only [isStr,br,beq_iff_eq] at ag;obtain ⟨rfl,rfl⟩:=ag;have:=xI c a b (jv.length+1);exact ⟨this.1,by have:=this.len;unfold ny;omega⟩
 . exact ⟨λ_ ag=>(by cases ag),al⟩
def Od {kN} (ag:b8 kN):b8 (eD++kN):=λa b=>(cr.1 b).elim (AT a) (ag a)
section
variable {ax:aa} {s:List aa} {kN jv rop j3 aJ:Y} (ag:dO ax s kN jv rop j3 aJ)
include ag
theorem sm:d G R 118 (λ_:Nat×Nat=>True) (λa=> [ax,.str a.1 a.2]) (λa=> .bool (my kN a.1 a.2)):=by obtain ⟨o,h,i,C,K,B,J,rfl,g,t,hF⟩:=ag;obtain ⟨H,q,F,r,I,rfl,w,x,y,z,A⟩:=o.eq;refine d.run (m:=15) rfl rfl rfl rfl (λ_=>rfl) (λ_ _=>rfl) rfl rfl 0 λD E u v a _ f p=> ?_;obtain ⟨b,c⟩:=a;have n: ∀f,iM G 134 (.ck h i) (.str b c) true f=some (jX true .V (c2 (cU b c) h i 0)):=λf=>tP (cK:=0) G xj lA rfl z22 g.k g.l;have j:=g.ex b c;unfold jr at j;simp only [go_sem,n];unfold my;rw [<-j];cases c2 (cU b c) h i 0<;>simp only [go_sem,jX]<;>exact e.mk rfl p (U.refl _)
theorem I_ (l m:Nat):K 118 [ax,.str l m] (.bool (my kN l m)):=(sm ag).c (l,m) trivial
theorem N6 (l m:Nat): ∃a b,(∃f h e g,ax= .b5 (s++ [.ck a b,.ck f h,.ck e g]) 0)/\mg a/\a.length=b.length/\F (jX false .V (c2 (cU l m) a b 0)) (mj kN jv l m):=by
 obtain ⟨q,a,b,f,h,e,g,j,c,p,hF⟩:=ag;refine ⟨a,b,⟨f,h,e,g,j⟩,c.k,c.l,?_⟩;have i:=c.ex l m;have d:=c.v l m;unfold jr at i d;unfold mj my;rw [<-i]
 cases n:c2 (cU l m) a b 0 with
 |none=>exact .inl ⟨rfl,rfl⟩
 |some o=>rw [n] at d;exact d o.2 rfl
theorem dO.abs (l m:Nat):b8 (mj kN jv l m)/\(mj kN jv l m).length<1048562:=N5 ag.bT.be (by have:=ag.bT.n;omega) (Od ag.bT.so) l m
theorem Af:d G R 157 (λ_:Nat×Nat×Nat×Nat=>True) (λa=> [ax,.str a.1 a.2.1,.str a.2.2.1 a.2.2.2]) (λa=> .bool (ja kN jv a.1 a.2.1 a.2.2.1 a.2.2.2)):=by
 obtain ⟨u,i⟩:=oZ 1048562 al;have t:aD ax=true:=by obtain ⟨-,k,l,w,C,v,B,rfl,-⟩:=ag;rfl
 refine d.run (m:=16) rfl rfl rfl rfl (λ_=>rfl) (λ_ _=>by simp only [aO,t];rfl) rfl rfl u λy A F H a _ c j=> ?_;obtain ⟨f,g,x,z⟩:=a;obtain ⟨k,l,⟨w,C,v,B,rfl⟩,p,q,n⟩:=N6 ag f g;obtain ⟨r,I⟩:=ag.abs f g;have o: ∀c,iM G 134 (.ck k l) (.str f g) false c=some (jX false .V (c2 (cU f g) k l 0)):=λc=>tP (cK:=0) G xj lA rfl z22 p q;obtain ⟨K,D,J,E,L,rfl,-⟩:=ag.bT.eq;have i:=i y A ab ab _ _ x z c r ab j n.cw;simp only [go_sem];refine e.aE ?_ ?_<;>intro h<;>simp only [go_sem,h,o,n.O,i]
 . exact e.b j (U.refl _) (by simp [ja,h])
 . exact e.b j (U.refl _) (by simp [ja,h])
theorem Ue (l m a b:Nat):K 157 [ax,.str l m,.str a b] (.bool (ja kN jv l m a b)):=(Af ag).c (l,m,a,b) trivial
theorem dO.val:(∀t,O t ax=ax)/\J ax=true/\aD ax=true/\ax.cells= [ax]/\(∀n d,y n (d+1) ax=true)/\ ∀d,D (d+1) ax=true:=by obtain ⟨-,a,e,c,g,b,f,rfl,-⟩:=ag;exact ⟨λ_=>rfl,rfl,rfl,rfl,λ_ _=>rfl,λ_=>rfl⟩
theorem MQ:d G R 190 (λ_:Nat×Nat×Nat×Nat=>True) (λa=> [ax,.str a.1 a.2.1,.str a.2.2.1 a.2.2.2]) (λa=> .bool (ja kN jv a.1 a.2.1 a.2.2.1 a.2.2.2||ja kN jv a.2.2.1 a.2.2.2 a.1 a.2.1)):=by
 obtain ⟨t,c⟩:=Af ag;obtain ⟨r,x,u,-⟩:=ag.val;refine d.run (m:=14) rfl rfl rfl rfl (λ_=>rfl) (λ_ _=>by simp only [aO,u];rfl) rfl rfl t λn q v w a _ h f=> ?_;obtain ⟨k,o,l,p⟩:=a;have j:=λg=>c n q ab ab (l,p,k,o) trivial h g f;have c:=λg=>c n q ab ab (k,o,l,p) trivial h g f;simp only at c j;simp only [go_sem,r,c];refine e.aE ?_ ?_<;>intro i<;>simp only [go_sem,i,r,j]
 all_goals exact e.b f (U.refl _) (by simp [i])
theorem Jg (l m:Nat):K 86 [ax,.str l m] (.bool (pt kN jv aJ l m)):=by
 obtain ⟨H,j⟩:=C.all (l:=aJ) (f:=157) (g:=λa=> [ax,.str l m,M a 0]) (v:=λa=> .bool ((λa=>match a with| [.str b c]=>ja kN jv l m b c|_=>false) a)) λa d=>by obtain ⟨b,c,rfl,-⟩:=ag.bT.bJ a d;exact Ue ag l m b c
 have o:=ag.bT.bJ;have R:=ag.bT.n;obtain ⟨w,F,E,B,D,-⟩:=ag.val;have G:=ag.bT;obtain ⟨-,X,af,Z,ai,Y,ah,A,-⟩:=ag;obtain ⟨ad,L,aa,N,J,rfl,S,T,V,W,x⟩:=G.eq;refine C.run (m:=10) rfl rfl rfl rfl rfl (by simp only [aO,E];rfl) rfl rfl (H+aJ.length+4) λz i P Q p y=> ?_;obtain ⟨i,rfl⟩: ∃I,i=I+3:=⟨i-3,ab⟩;let r:=p.push (.cells (q 65) (q 65) 0 [ax]);let h:=r.push (.cells (q 9) (q 9) 0 [.str l m]);have t:Tidy h:=(y.push (by show [ax].all _=true;simp only [aO,D];rfl)).push rfl;have k:=Du J (.fn (.func 164) [] [.ptr p.n (q 65) 0 1,.ptr (p.n+1) (q 9) 0 1]) aJ (λa=>match a with| [.str b c]=>ja kN jv l m b c|_=>false) x (λa d=>by obtain ⟨b,c,rfl,-⟩:=o a d;rfl) ab rfl (λ_=>rfl)
  (λa d ae=>by obtain ⟨b,c,rfl,-⟩:=o a d;rfl) z (i+1) ab h t (λa d u=>by have j:=λu=>j z i ab ab a d h u t;simp only [eg,a6,bl];refine fa (aL.at (m:=6) rfl rfl rfl rfl rfl (by obtain ⟨b,c,rfl,-⟩:=o a d;rfl) rfl rfl ?_) u;obtain ⟨b,c,rfl,-⟩:=o a d;simp only [jj] at j;simp only [go_sem,h,r,yg,vo,w,j];exact ak.mk rfl rfl t (U.refl _))
 simp only [h,r] at k;simp only [go_sem,w,F,B,lq];rw [A] at k|-;simp only [bl,a6] at k|-;simp only [go_sem,yg,x.O,k];exact e.mk rfl y ((U.refl _).push _|>.push _)
theorem MO:d G R 156 (λ_:Nat×Nat=>True) (λa=> [ax,.str a.1 a.2]) (λa=> .av [.agg (iQ rop a.1 a.2),.bool (j0 rop a.1 a.2)]):=by
 obtain ⟨p,X,aj,r,w,Y,ak,rfl,M,i,hF⟩:=ag;obtain ⟨af,K,ad,L,ai,rfl,Q,S,T,V,W⟩:=p.eq;refine d.run (m:=17) rfl rfl rfl rfl (λ_=>rfl) (λ_ _=>rfl) rfl rfl 0 λZ ab g O a _ h z=> ?_;obtain ⟨c,f⟩:=a;have y:=qA p.op c f;have x: ∀h,iM G 135 (.ck r w) (.str c f) true h=some (.av [.agg (iQ rop c f),.bool (j0 rop c f)]):=λh=>by
  rw [tP (cK:=0) G xk lA rfl NI i.k i.l];have b:=i.v c f;unfold jr at b;unfold iQ j0
  cases n:c2 (cU c f) r w 0 with
  | none=>
    rw [n] at b
    cases g:lV rop c f with
    |none=>rfl
    |some u=>rw [g] at b;cases b
  | some t=>
    rw [n] at b
    cases g:lV rop c f with
    |none=>rw [g] at b;cases b
    | some u=>
      rw [g] at b;simp only [jV,N] at b;simp [jX,b]
 simp only;generalize P:iQ rop c f=u at*;obtain ⟨C,F,I,E,H,ah,⟨⟨a,t,s,A,B,rfl,j,q,⟨ae,o,-⟩⟩,-⟩⟩:=y;simp only [go_sem,x,j.J,q.J,o.J];exact e.mk (by show (([aa.str C F,a,.str E H,t,.int .i64 A,.int .i64 B,s]:List aa).all (D 18)&&_)=true;rw [vj j q o];rfl) z (U.refl _)
theorem MN:d G R 122 (λ_:Nat×Nat=>True) (λa=> [ax,.str a.1 a.2]) (λa=> .av [.agg (iQ j3 a.1 a.2),.bool (j0 j3 a.1 a.2)]):=by
 obtain ⟨o,X,aj,Y,ak,q,u,rfl,L,M,hF⟩:=ag;obtain ⟨af,I,ad,K,ai,rfl,Q,S,T,V,W⟩:=o.eq;refine d.run (m:=17) rfl rfl rfl rfl (λ_=>rfl) (λ_ _=>rfl) rfl rfl 0 λZ ab g O a _ h y=> ?_;obtain ⟨c,f⟩:=a;have x:=qA o.cP c f;have w: ∀h,iM G 135 (.ck q u) (.str c f) true h=some (.av [.agg (iQ j3 c f),.bool (j0 j3 c f)]):=λh=>by
  rw [tP (cK:=0) G xk lA rfl NI hF.k hF.l];have b:=hF.v c f;unfold jr at b;unfold iQ j0
  cases j:c2 (cU c f) q u 0 with
  | none=>
    rw [j] at b
    cases g:lV j3 c f with
    |none=>rfl
    |some t=>rw [g] at b;cases b
  | some r=>
    rw [j] at b
    cases g:lV j3 c f with
    |none=>rw [g] at b;cases b
    | some t=>
      rw [g] at b;simp only [jV,N] at b;simp [jX,b]
 simp only;generalize P:iQ j3 c f=t at*;obtain ⟨B,E,H,C,F,ah,⟨⟨a,r,s,z,A,rfl,i,p,⟨ae,n,-⟩⟩,-⟩⟩:=x;simp only [go_sem,w,i.J,p.J,n.J];exact e.mk (by show (([aa.str B E,a,.str C F,r,.int .i64 z,.int .i64 A,s]:List aa).all (D 18)&&_)=true;rw [vj i p n];rfl) y (U.refl _)
end
def abH:aW G 4=some .bool:=aq
@[go_sem] theorem acP (a b):b4 G .neq 4 (.bool a) (.bool b)=some (.bool (a !=b)):=by show xu G .neq 4 (.bool a) (.bool b)=_;simp only [xu,eF,abH];cases a<;>cases b<;>rfl
attribute [go_sem] Bool.bne_true Bool.bne_false
def O0 {f:Nat} {args:List aa} {ad n:Nat} {H:af} (a:(∃v,dI v/\ ∀tm,az G (X G R ad n) f args H tm= .ok v tm H)\/(∃v,bQ v/\ ∀tm,az G (X G R ad n) f args H tm= .aK v H)):
    ∃b:Bool,∀tm,az G (X G R ad n) f args H tm= .ok (.bool b) tm H:=by
 rcases a with ⟨v,⟨b,rfl⟩,c⟩|⟨v,a,-⟩
 . exact ⟨b,c⟩
 . exact a.elim
def Uw (M:Nat) (D:M<4611686018427387904):bo λad n=> ∀x y rows aQ H,b8 rows->b8 aQ->rows.length<=M->aQ.length<4611686018427387904->Tidy H->cG H 1 x rows->F y aQ->
    ∃b:Bool,∀tm,az G (X G R ad n) 250 [x,y] H tm= .ok (.bool b) tm H:=by
 refine ⟨M+2,λad n E L x y rows aQ H i u J K e a c=> ?_⟩;obtain ⟨n,rfl⟩:=bY n;refine O0 (aL.at (m:=24) rfl rfl rfl rfl rfl (by simp only [aO,a.aD,c.aD];rfl) rfl rfl ?_);simp only [go_sem,a.O,a.len,c.O,c.len];refine ak.aE ?_ ?_<;>intro d<;>simp only [go_sem,d,a.O,a.len]
 . exact ak.bW e (U.refl _)
 have I:rows.length=aQ.length:=by simp at d;omega
 generalize C:a1 _ _ _ _ _ _ _ _ _ _=o;revert o;have hF:=trivial;refine dA [0,1] (λ_=>True) rows.length trivial ?_ ?_
 . intro l w tm q p hF;obtain ⟨f,j⟩:=bA q;obtain ⟨v,h⟩: ∃f,aQ[l]? =some f:=⟨aQ[l]'ab,ai⟩;obtain ⟨P,g,r,N,s⟩:=a.at i.len j;obtain ⟨z,b,rfl,-⟩:=i f (aV j);obtain ⟨A,B,rfl,-⟩:=u v (aV h);have t:=s _ rfl;simp only [go_sem,hF,a.O,g,r,CI g,t,c.O,c.a_ (k:=1) h rfl];refine au.aE ?_ ?_<;>intro d<;>simp only [go_sem,d]
   all_goals first
    |exact au.next () rfl trivial ay
    |exact au.stop rfl (by simp only [go_sem,hF];exact ak.bW e (U.refl _))
 . intro w tm p hF;simp only [go_sem,hF];exact ak.bW e (U.refl _)
def Vy {r} (B:xh r):dt 183 [.agg r] dI bQ:=by
 obtain ⟨aW,aY,ar,aX,aZ,bj,⟨⟨j,an,c,aO,aP,rfl,P,aK,⟨N,e,bg,Z⟩⟩,-,-,-,-,aJ,aH,-,-⟩⟩:=B;obtain ⟨aR,y⟩:=aL.j8 (l:=N) (f:=249) (g:=λa=> [M a 0]) (S:=λ_=>dI) λa z=>by obtain ⟨j,d,av,aw,rfl,y,-⟩:=Z a z;exact UR j d y
 obtain ⟨aS,aD⟩:=C.all (l:=N) (f:=103) (g:=λa=> [M a 0]) (v:=λa=> .bool (match a with| [.str j d,.str _ _]=>isName j d|_=>false)) λa z=>by obtain ⟨j,d,av,aw,rfl,y,-⟩:=Z a z;exact qn j d y
 obtain ⟨aU,aF⟩:=Uw 1048560 al;refine aL.run (m:=65) rfl rfl rfl rfl rfl rfl rfl rfl (aR+aS+aU+N.length+1) λK L bc bf u I=> ?_;simp only [go_sem,P.J,aK.J,e.J,e.O,e.len];refine ak.aE ?_ ?_<;>intro w<;>simp only [go_sem,w,e.O,e.len]
 . exact ak.bW I (U.refl _)
 generalize bb:a1 _ _ _ _ _ _ _ _ _ _=aq;revert aq;refine hz _ _ _ _ (σ:=Y×aa×af) (λa6=> [(1,.W 0 [.str aW aY,j,.str aX aZ,an,.int .i64 aO,.int .i64 aP,c]),(3,a6.2.1),(12,an)]) (λc=>c.2.2)
  (λaj c=>c.1.length<=aj/\b8 c.1/\bd u.n 9 1 c.1.length c.2.2 c.1 c.2.1/\Tidy c.2.2/\U u c.2.2) 66 N.length ([],.V,u) rfl rfl (λ_=>rfl) rfl ⟨aT _,(λ_ aC=>by cases aC),bd.nil,I,U.refl u⟩ dC ab ab ?_ ?_
 . rintro aj ⟨s,F,q⟩ t aG ⟨Q,h,i,p,o⟩ hF;simp only at Q h i p o hF|-;obtain ⟨a,ah⟩:=bA aG;have T:=aV ah;obtain ⟨a8,ad⟩: ∃d,∀t,az G (X G R K L) 249 [M a 0] q t= .ok (.bool d) t q:=by obtain ⟨F,⟨d,rfl⟩,ax⟩:=y K L ab ab a T q p;exact ⟨d,ax⟩
   have ae:=λt=>aD K L ab ab a T q t p;obtain ⟨bk,bl,D,E,rfl,bh,aN,-,aM⟩:=Z a T;have H:=i.cw h.len;obtain ⟨a7,ao,aB,ai,ag⟩:=i.app (x:= .A [[.str D E]] true) (b:=16) (k:=1) oe nI rfl rfl al al p o.n h.rows (aQ:= [[.str D E]]) rfl (λa z=>by rw [bs.1 z];exact ⟨rfl,λF i=>by rw [bs.1 i];exact ⟨rfl,rfl⟩⟩)
    (by simp only [cl,h5];unfold b7;omega) og
   have aI:b8 (s++ [[.str D E]]):=λr B=>(cr.1 B).elim (h r) λB=>⟨D,E,bs.1 B,aN,aM⟩;simp only [jj] at ad ae;simp only [go_sem,hF,e.O,e.a_ (k:=2) ah rfl,ad]
   iterate 8 all_goals try (refine au.aE ?_ ?_<;>intro w<;>simp only [go_sem,hF,w,ae,H.O,ai.O,aB])
   all_goals first
    |exact au.next (s,F,q) rfl ⟨by show s.length<=_;omega,h,i,p,o⟩ ay
    |exact au.next (s++ [[.str D E]],a7,ao) rfl ⟨da,aI,by simpa using ai,ag.tidy,ag.up u (aT _) o⟩ ay
    |exact au.stop rfl (by simp only [go_sem,hF];exact ak.bW I o)
 . rintro ⟨s,F,q⟩ t ⟨Q,h,i,p,o⟩ hF;simp only at Q h i p o hF|-;have H:=i.cw h.len;obtain ⟨ba,aA⟩:=aF K L ab ab F j s ar q h aJ ab aH p H P;simp only [go_sem,hF,e.O,e.len];refine ak.aE ?_ ?_<;>intro w<;>simp only [go_sem,w,hF,H.O,P.O,aA]
   all_goals exact ak.bW I o
structure kX (r:List aa) (k n:Int) (l1 m1 gJ mQ:Nat) (y z:aa) (ky i:Y):Prop where
  eq:r= [.int .i64 k,.int .i64 n,.str l1 m1,.str gJ mQ,y,z]
  c5:T l1 m1
  pw:T gJ mQ
  s1:l1<4611686018427387904
  s2:gJ<4611686018427387904
  dh:F y ky
  cq:F z i
  zm:ky.length<4611686018427387904
  Kn:i.length<4611686018427387904
inductive aN:List aa->Prop
  |mk {r k n l1 m1 gJ mQ y z ky i} (h:kX r k n l1 m1 gJ mQ y z ky i) (dh: ∀x∈ky,aN x) (cq: ∀x∈i,aN x):aN r
theorem aN.len {r} (a:aN r):r.length=6:=by cases a with|mk a _ _=>rw [a.eq];rfl
def aN.ea {r} (a:aN r): ∃k n l1 m1 d e y z ky i,kX r k n l1 m1 d e y z ky i/\(∀x∈ky,aN x)/\ ∀x∈i,aN x:=by
 cases a with|mk a b c=>exact ⟨_,_,_,_,_,_,_,_,_,_,a,b,c⟩
def kX.c {r k n l1 m1 b d y z ky i} (a:kX r k n l1 m1 b d y z ky i):r= [.int .i64 k,.int .i64 n,.str l1 m1,.str b d,y,z]/\F y ky/\F z i:=⟨a.eq,a.dh,a.cq⟩
def aN.t {r} (a:aN r): ∃k n l1 m1 b d y z ky i,r= [.int .i64 k,.int .i64 n,.str l1 m1,.str b d,y,z]/\F y ky/\F z i:=by
 cases a with|mk a e f=>exact ⟨_,_,_,_,_,_,_,_,_,_,a.c⟩
inductive e1:List aa->Nat->Prop
  |mk {r k n l1 m1 gJ mQ y z ky i} (f:List aa->Nat) (h:kX r k n l1 m1 gJ mQ y z ky i) (dh: ∀x∈ky,e1 x (f x)) (cq: ∀x∈i,e1 x (f x)):e1 r (1+((ky++i).map f).sum)
def e1.i0 {r n} (a:e1 r n):aN r:=by
 induction a with
 |mk d a _ _ b c=>exact .mk a b c
def aN.rows {rows:Y} (a: ∀r∈rows,aN r):Rows 6 rows:=λr f=>by
 cases a r f with
 |mk a _ _=>
 obtain ⟨rfl,d,e⟩:=a.c;refine ⟨rfl,λg b=> ?_⟩;simp only [b2,dG,or_false] at b;rcases b with rfl|rfl|rfl|rfl|rfl|rfl
 . exact ⟨rfl,rfl⟩
 . exact ⟨rfl,rfl⟩
 . exact ⟨rfl,rfl⟩
 . exact ⟨rfl,rfl⟩
 . exact ⟨d.J,d.aI 19⟩
 . exact ⟨e.J,e.aI 19⟩
def O9 {y z:aa} {ky i:Y} (a:F y ky) (b:F z i) (H:af):cT G 235 2 [(0,y),(1,z)] H=some (.A [[y],[z]] true,H):=by
 have:=uX (E:=G) (t:=235) (el:=33) (k:=1) (H:=H) (z:= .V) aq aq aq al rfl al y z a.rk b.rk
 rwa [a.cells,b.cells] at this
def o3 {f:List aa->Nat}: ∀ {l:Y} {x},x∈l->f x<=(l.map f).sum
 | b::l,x,a=>by
   simp only [fS,kE];rcases b2.1 a with rfl|a
   . omega
   . have:=o3 (f:=f) a;omega
def e1.pos {r n} (a:e1 r n):1<=n:=by cases a;omega
def qq {f:List aa->Nat}: ∀ {l:Y},(∀x∈l,1<=f x)->l.length<=(l.map f).sum
 | [],_=>aT _
 |b::l,a=>by simp only [fS,kE,cl];have d:=a b (dF ..);have e:=qq (f:=f) (l:=l) λx c=>a x (h8 _ c);omega
def si {α:Type} (f:α->Nat): ∀(l:List α) (j:Nat),((l.take j).map f).sum<=(l.map f).sum
 | [],j=>by simp
 |a::l,0=>by simp
 |a::l,j+1=>by simp only [C8,fS,kE];have:=si f l j;omega
section
variable {ι σ:Type} {T:ι->Prop} {P:ι->σ->Prop} {W:σ->Nat} {cS:ι->σ->af} {fv:ι->aa} {pE:Nat}
theorem wa (hT: ∀i s,T i->P i s->Tidy (cS i s)) (aA: ∀i,aD (fv i)=true/\ ∀t,O t (fv i)=fv i) (aC: ∀i s s',P i s->P i s'->gc (cS i s).n (.av []) (cS i s')=cS i s')
  (aK: ∀x,aN x-> ∃ae,∀ad n,ae<=ad->ae<=n-> ∀i s (d:Int),T i->P i s->W s<pE-> ∃s',P i s'/\W s'<=W s+1/\ ∀tm,cx G (X G R ad n) (fv i) [.agg x,.int .i64 d] (cS i s) tm= .ok (.av []) tm (cS i s'))
  {r:List aa} {n:Nat} (aF:e1 r n):n<=10000000-> ∃k,∀ad h,k<=ad->k<=h-> ∀i s (d:Int),T i->P i s->W s+n<=pE-> ∃s',P i s'/\W s'<=W s+n/\
   ∀tm,az G (X G R ad h) 185 [.agg r,.int .i64 d,fv i] (cS i s) tm= .ok (.av []) tm (cS i s'):=by
 induction aF with
 | @mk r k n aT aW aU aX I K b e g y B C aL aM=>
 intro ba;have aG: ∀x∈b++e,g x<=((b++e).map g).sum:=λx a=>o3 a;have bd:(b++e).length<=((b++e).map g).sum:=qq λx a=>((cr.1 a).elim (B x) (C x)).pos;obtain ⟨aP,an⟩:=aK r (e1.i0 (.mk g y B C));obtain ⟨aQ,ao⟩:=dE (l:=b++e) (Q:=λx ad h=> ∀i s (d:Int),T i->P i s->W s+g x<=pE-> ∃s',P i s'/\W s'<=W s+g x/\
   ∀tm,az G (X G R ad h) 185 [.agg x,.int .i64 d,fv i] (cS i s) tm= .ok (.av []) tm (cS i s')) λx a=>by
  have:=aG x a;rcases cr.1 a with a|a
  . exact aL x a ab
  . exact aM x a ab
 obtain ⟨-,-,-,-,-,u,v,bg,bh⟩:=id y;have Z: ∀x∈b++e,aN x:=λx a=>(cr.1 a).elim (λa=>(B x a).i0) λa=>(C x a).i0;have p: [b,e].flatten=b++e:=ai;obtain ⟨aR,M⟩:=(I7 (.A [[I],[K]] true) [[I],[K]] [b,e] (.inr ⟨_,rfl⟩) (wG u v) rfl ai (by rw [p];exact aN.rows Z) (by rw [p];unfold b7;omega) (by rw [p];omega)).val;rw [p] at M;refine ⟨aP+aQ+aR+(b++e).length+2,λad h bb bf i s d z S a7=> ?_⟩;obtain ⟨h,rfl⟩:=bY h;obtain ⟨rfl,-⟩:=y;obtain ⟨F,N,ax,aj⟩:=an ad h ab ab i s d z S ab;obtain ⟨bj,q,ak⟩:=M ad h ab ab (cS i F) (hT i F z N);obtain ⟨aB,V⟩:=aA i;have aS:=df.at (E:=G) (R:=R) (f:=185) (m:=26) (ad:=ad) (n:=h) (args:= [.agg [.int .i64 k,.int .i64 n,.str aT aW,.str aU aX,I,K],.int .i64 d,fv i]) (H:=cS i s) (Q:=λaf L=>af= .av []/\ ∃s',P i s'/\W s'<=W s+(1+((b++e).map g).sum)/\L=cS i s')
  rfl rfl rfl rfl rfl (by simp only [aO,aB];rfl) rfl rfl ?_
 . obtain ⟨af,L,⟨rfl,s',aq,aw,rfl⟩,ah⟩:=aS;exact ⟨s',aq,aw,ah⟩
 simp only [go_sem,u.J,v.J,V,aj,u.O,v.O,O9 u v,bH,ak,q.O,q.len];generalize a6:a1 _ _ _ _ _ _ _ _ _ _=ag;revert ag;have hF:=trivial;refine cv [1,2,17] (λ_=> []) (λs=>cS i s) (λj s'=>P i s'/\W s'<=W s+1+(((b++e).take j).map g).sum) (b++e).length F ⟨N,by simpa using ax⟩ ?_ ?_
 . rintro j w tm aE ⟨o,U⟩ hF;obtain ⟨x,D⟩: ∃r,(b++e)[j]? =some r:=⟨(b++e)[j],by simp [aE]⟩;have Y:=aV D;have aZ:(((b++e).take (j+1)).map g).sum=(((b++e).take j).map g).sum+g x:=by rw [fg,D];simp
   have bc:(((b++e).take (j+1)).map g).sum<=((b++e).map g).sum:=si g _ _;obtain ⟨aY,ar,a8,al⟩:=ao ad h ab ab x Y i w (IntKind.i64.wrap (d+1)) z o ab;have a:=Z x Y;have aH:=a.len
   cases a with
   |mk a _ _=>
   obtain ⟨rfl,aI,aJ⟩:=a.c;simp only [go_sem,hF,q.O,q.a_ (k:=6) D aH,aI.J,aJ.J,V,al];exact au.next aY rfl ⟨ar,ab⟩ ay
 . rintro w tm ⟨o,U⟩ hF;rw [bX] at U;simp only [go_sem];exact df.mk rfl ⟨rfl,w,o,ab,aC i s w S o⟩
end
def f:aa->Y
 | .A a _=>a
 |_=> []
theorem bm {x rows} (a:F x rows):f x=rows:=by rcases a with ⟨rfl,rfl⟩|⟨b,rfl⟩<;>rfl
def aN.row {r} (a:aN r):r.length=6/\ ∀v∈r,J v=true/\D 20 v=true:=aN.rows (rows:= [r]) (λc b=>by rw [bs.1 b];exact a) r (dF ..)
def kW (v:aa):Prop:= ∃a b,v= .str a b/\T a b/\a<4611686018427387904
def pC (v:aa):Prop:= ∃a,v= .int .i64 a
def xl (x:aa):Prop:= ∃a,F x a/\(∀b∈a,aN b)/\a.length<1048560
def AO (x:aa):Prop:= ∃a,F x a/\b8 a/\a.length<1048560
def xb (r:List aa):Prop:= ∃a b e c d,r=a++b++ [e,c,d]/\aN a/\aN b/\xl e/\pC c/\pC d
def iz (r:List aa):Prop:= ∃d e a b c,r= [d,e]++a++ [b,c]/\kW d/\kW e/\aN a/\pC b/\pC c
def lG (r:List aa):Prop:= ∃e f a d b c,r= [e,f]++a++ [d,b,c]/\kW e/\kW f/\aN a/\xl d/\pC b/\pC c
def AE (r:List aa):Prop:= ∃a,r= [a]/\xl a
def lI (r:List aa):Prop:= ∃f g e h d b c,r= [f,g,e,h,d,b,c]/\kW f/\(∃a,F g a/\(∀r∈a,lG r)/\a.length<1048560)/\xl e/\(∃a,F h a/\(∀r∈a,AE r)/\a.length<1048560)/\AO d/\pC b/\pC c
def e7 (r:List aa):Nat:=2+(f (M r 12)).length
def iO (r:List aa):Nat:=1+(f (M r 8)).length
def lp (r:List aa):Nat:=(f (M r 0)).length
def kJ (r:List aa):Nat:=((f (M r 1)).map iO).sum+(f (M r 2)).length+((f (M r 3)).map lp).sum
def ju (r:List aa):Nat:=1+(f (M r 4)).length+(f (M r 1)).length
structure fz (d:List aa) (s:List aa) (kN jv rop j3 m4 req p zI u:Y):Prop where
  eq: ∃n e o k m r st uG,d= [n]++s++ [e,o,k,m,r,st,uG]/\kW n/\F e req/\F o p/\kW k/\F m zI/\F r u/\kW st/\kW uG
  bT:oz s kN jv rop j3 m4
  kx: ∀r∈req,xb r
  b9: ∀r∈p,iz r
  hm: ∀r∈zI,iz r
  bh: ∀r∈u,lI r
  n1:(req.map e7).sum+p.length+zI.length+(u.map kJ).sum<1048560
  iN:4+p.length+zI.length+(u.map ju).sum+req.length<1048560
def uu {α:Type} (f:α->Nat) {l:List α} {j:Nat} {x:α} (a:l[j]? =some x):((l.take (j+1)).map f).sum=((l.take j).map f).sum+f x:=by rw [fg,a];simp
def pV {v:aa} {H H':af} (a:H'.n=H.n):gc H.n v H'=H':=ft ab
def eC (l:List (Nat×Nat)):Prop:= ∀a∈l,T a.1 a.2/\a.1<4611686018427387904
abbrev dr (H:af) (l:List (Nat×Nat)):af:=eY 9 22 H 0 l
theorem Ae (t el n l):O t (cO el n l)=cO el n l:=by cases l<;>rfl
theorem ML (el n l):(cO el n l).cells= [cO el n l]:=by cases l<;>rfl
theorem MM (el n l):J (cO el n l)=true:=by cases l<;>rfl
def uB (H:af) (l:List (Nat×Nat)):(dr H l).n=if l= [] then H.n+1 else H.n+1+1:=by cases l<;>simp [eY,af.push]
def Fb {H:af} (b:Tidy H) (l:List (Nat×Nat)):Tidy (dr H l):=by
 cases l with
 |nil=>exact b.push rfl
 | cons c l=>
   have d:Nat.blt (H.n+1) (H.n+1+1)=true:=h_ ab;refine ⟨by simp [eY,af.push,b.1],λf a=> ?_⟩;simp only [eY,af.push,b2] at a;rcases a with rfl|rfl|a
   . exact ba.2 λh e=>by obtain ⟨g,-,rfl⟩:=cd.1 e;rfl
   . show ([cO 9 H.n (c::l)].all _)=true;simp only [cO,aO,jm,y,nR];exact d
   . exact Ee (by show H.n<=H.n+1+1;omega) _ (b.2 f a)
def uA (H:af) (l b:List (Nat×Nat)):gc (dr H l).n (.av []) (dr H b)=dr H b:=by
 cases b with
 |nil=>exact ft (by rw [uB,uB];simp;split<;>omega)
 | cons a c=>
   cases l with
   |cons h i=>exact ft (by rw [uB,uB];simp)
   | nil=>
     unfold gc;split
     . rfl
     . have g:Nat.blt (H.n+1) (H.n+1)=false:=by
        cases f:Nat.blt (H.n+1) (H.n+1) with
        |false=>rfl
        | true => have:H.n+1+1<=H.n+1:=er f
                  omega
       have d:(List.drop ((dr H (a::c)).n-(dr H []).n) (dr H (a::c)).l).all (gL (dr H []).n)=false:=by
        have e:(dr H (a::c)).n-(dr H []).n=1:=by rw [uB,uB];simp
        rw [e];simp only [eY,af.push,List.drop_succ_cons,rF,aO,gL,cO,y,g,yH]
       simp only [d,Bool.and_false,eJ,if_false]
abbrev Ab (H:af):aa:= .fn (.func 193) [] [.ptr H.n (q 22) 0 1]
def abE (x:List aa) (h:aN x): ∃k,∀ad n,k<=ad->k<=n-> ∀(H:af) (l:List (Nat×Nat)) (d:Int),Tidy H->eC l->l.length<1048560->
    ∃a,eC a/\a.length<=l.length+1/\ ∀tm,cx G (X G R ad n) (Ab H) [.agg x,.int .i64 d] (dr H l) tm= .ok (.av []) tm (dr H a):=by
 obtain ⟨C,I,c,e,F,K,O,P,W,Y,h,-,-⟩:=h.ea;refine ⟨1,λad n T U H l d V j y=> ?_⟩;obtain ⟨n,rfl⟩:=bY n;obtain ⟨rfl,N,-,M,-,A,B,-,-⟩:=h;obtain ⟨S,r,s,t,-⟩:=MI (E:=G) (st:=22) (b:=16) oe nI rfl rfl al (H:=H) l y c e;have z:eC (l++ [(c,e)]):=λL g=>(cr.1 g).elim (j L) λg=>by rw [bs.1 g];exact ⟨N,M⟩
 have D:=df.at (E:=G) (R:=R) (f:=193) (m:=10) (ad:=ad) (n:=n) (args:= [.agg [.int .i64 C,.int .i64 I,.str c e,.str F K,O,P],.int .i64 d,.ptr H.n (q 22) 0 1]) (H:=dr H l)
  (Q:=λo i=>o= .av []/\ ∃a,eC a/\a.length<=l.length+1/\i=dr H a) rfl rfl rfl rfl rfl rfl rfl rfl ?_
 . obtain ⟨o,i,⟨rfl,a,v,w,rfl⟩,p⟩:=D;exact ⟨a,v,w,λtm=>by simp only [eg,a6,bl];exact p tm⟩
 simp only [go_sem,A.J,B.J]
 iterate 3 all_goals try (refine df.aE ?_ ?_<;>intro u<;>simp only [go_sem,u,MJ,Ae,r,bH,s,ML,MM,t])
 all_goals first
  |exact df.mk rfl ⟨rfl,l,j,ab,uA H l l⟩
  |exact df.mk rfl ⟨rfl,l++ [(c,e)],z,ai,uA H l _⟩
abbrev Ac (H:af):aa:= .fn (.func 252) [] [.ptr H.n (q 22) 0 1]
def abF (x:List aa) (h:aN x): ∃k,∀ad n,k<=ad->k<=n-> ∀(H:af) (l:List (Nat×Nat)) (d:Int),Tidy H->eC l->l.length<1048560->
    ∃a,eC a/\a.length<=l.length+1/\ ∀tm,cx G (X G R ad n) (Ac H) [.agg x,.int .i64 d] (dr H l) tm= .ok (.av []) tm (dr H a):=by
 obtain ⟨C,I,c,e,F,K,O,P,W,Y,h,-,-⟩:=h.ea;refine ⟨1,λad n T U H l d V j y=> ?_⟩;obtain ⟨n,rfl⟩:=bY n;obtain ⟨rfl,N,-,M,-,A,B,-,-⟩:=h;obtain ⟨S,r,s,t,-⟩:=MI (E:=G) (st:=22) (b:=16) oe nI rfl rfl al (H:=H) l y c e;have z:eC (l++ [(c,e)]):=λL g=>(cr.1 g).elim (j L) λg=>by rw [bs.1 g];exact ⟨N,M⟩
 have D:=df.at (E:=G) (R:=R) (f:=252) (m:=15) (ad:=ad) (n:=n) (args:= [.agg [.int .i64 C,.int .i64 I,.str c e,.str F K,O,P],.int .i64 d,.ptr H.n (q 22) 0 1]) (H:=dr H l)
  (Q:=λo i=>o= .av []/\ ∃a,eC a/\a.length<=l.length+1/\i=dr H a) rfl rfl rfl rfl rfl rfl rfl rfl ?_
 . obtain ⟨o,i,⟨rfl,a,v,w,rfl⟩,p⟩:=D;exact ⟨a,v,w,λtm=>by simp only [eg,a6,bl];exact p tm⟩
 simp only [go_sem,A.J,B.J]
 iterate 3 all_goals try (refine df.aE ?_ ?_<;>intro u<;>simp only [go_sem,u,MJ,Ae,r,bH,s,ML,MM,t])
 all_goals first
  |exact df.mk rfl ⟨rfl,l,j,ab,uA H l l⟩
  |exact df.mk rfl ⟨rfl,l++ [(c,e)],z,ai,uA H l _⟩
abbrev mf:=List aa×List aa×Nat×Nat
abbrev d_ (H:af) (s:mf):af:=((H.push (.cells (q 226) (q 226) 0 [.map (H.n+1+1)])).push (.cells (q 9) (q 9) 0 [.str s.2.2.1 s.2.2.2])).push (.map false s.1 s.2.1)
def lK (s:mf):Prop:=mg s.1/\s.1.length=s.2.1.length/\ ∀c∈s.2.1,∃a b,c= .str a b
section
variable (H:af) (s:mf) (o:Obj)
theorem L6:(d_ H s).get H.n=some (.cells (q 226) (q 226) 0 [.map (H.n+1+1)]):=by simp [d_,af.push,af.get];omega
theorem L7:(d_ H s).get (H.n+1)=some (.cells (q 9) (q 9) 0 [.str s.2.2.1 s.2.2.2]):=by simp [d_,af.push,af.get]
theorem EZ:(d_ H s).get (H.n+1+1)=some (.map false s.1 s.2.1):=by simp [d_,af.push,af.get]
theorem L8 (a b:Nat):(d_ H s).set (H.n+1) (.cells (q 9) (q 9) 0 [.str a b])=d_ H (s.1,s.2.1,a,b):=by simp [d_,af.push,af.set];rfl
theorem aag (a vs:List aa):(d_ H s).set (H.n+1+1) (.map false a vs)=d_ H (a,vs,s.2.2):=by simp [d_,af.push,af.set];rfl
end
theorem aaf (H:af) (s:mf):(d_ H s).set H.n (.cells (q 226) (q 226) 0 [.map (H.n+1+1)])=d_ H s:=by simp [d_,af.push,af.set];intro _;rfl
@[go_sem] theorem agY (E:Env) (tm H a t b u):gp E [.cell a t,.cell b u] tm H=(match dW E t (O a (M tm a)) tm H,dW E u (O b (M tm b)) tm H with
  |some v,some w=>(if aD v&&aD w then .ret (.av [v,w]) H else .fail)
  |_,_=> .fail):=by
 simp only [gp,hU,lx];show (match (match dW E t (O a (M tm a)) tm H with|some v=>(match (match dW E u (O b (M tm b)) tm H with|some v=>some [v]|none=>none) with|some c=>some (v::c)|none=>none)|none=>none) with|some [v]=>_|some c=>_|none=>_)=_;cases dW E t (O a (M tm a)) tm H<;>cases dW E u (O b (M tm b)) tm H<;>simp
theorem aae (H:af) (a b c o:Obj):(((H.push a).push b).push c).set H.n o=((H.push o).push b).push c:=by simp [af.push,af.set];rw [if_pos ab];rfl
def aad (H:af) (a b c:Obj):(((H.push a).push b).push c).get H.n=some a:=by simp [af.push,af.get];omega
def aah {H:af} (h:Tidy H) (s:mf) (k:lK s):Tidy (d_ H s):=by
 obtain ⟨l,m,d,e⟩:=s;obtain ⟨f,i,g⟩:=k;have j:Nat.blt (H.n+1+1) (H.n+1+1+1)=true:=h_ ab;simp only at f i g;refine ⟨by simp [d_,af.push,h.1],λo a=> ?_⟩;simp only [d_,af.push,b2] at a;rcases a with rfl|rfl|rfl|a
 . show (l.all _&&m.all _)=true;rw [br];exact ⟨ba.2 λc b=>by (obtain ⟨d,e,rfl⟩:=f c b;rfl),ba.2 λc b=>by (obtain ⟨d,e,rfl⟩:=g c b;rfl)⟩
 . rfl
 . show ([aa.map (H.n+1+1)].all _)=true;simp only [aO,jm,y,nR];exact j
 . exact Ee (by show H.n<=H.n+1+1+1;omega) _ (h.2 o a)
def aaj (x:List aa) (z:aN x): ∃B,∀ad n,B<=ad->B<=n-> ∀(H:af) (s:mf) (d:Int),Tidy H->lK s->
    ∃s',lK s'/\ ∀tm,cx G (X G R ad n) (.fn (.func 251) [] [.ptr H.n (q 226) 0 1,.ptr (H.n+1) (q 9) 0 1]) [.agg x,.int .i64 d] (d_ H s) tm= .ok (.av []) tm (d_ H s'):=by
 obtain ⟨V,W,b,e,p,r,ab,ae,ak,al,z,-,-⟩:=z.ea;refine ⟨1,λad n ag ah H s d ai N=> ?_⟩;obtain ⟨n,rfl⟩:=bY n;obtain ⟨rfl,T,U⟩:=z.c;obtain ⟨a,g,i,j⟩:=s;obtain ⟨k,l,t⟩:=N;simp only at k l t;have u:=df.at (E:=G) (R:=R) (f:=251) (m:=45) (ad:=ad) (n:=n) (args:= [.agg [.int .i64 V,.int .i64 W,.str b e,.str p r,ab,ae],.int .i64 d,.ptr H.n (q 226) 0 1,.ptr (H.n+1) (q 9) 0 1]) (H:=d_ H (a,g,i,j))
  (Q:=λC A=>C= .av []/\ ∃s',lK s'/\A=d_ H s') rfl rfl rfl rfl rfl rfl rfl rfl ?_
 . obtain ⟨C,A,⟨rfl,D,M,rfl⟩,F⟩:=u;exact ⟨D,M,λtm=>by simp only [eg,a6,bl];exact F tm⟩
 obtain ⟨v,w,ok,I⟩: ∃v w ok,∀h,iM G 226 (.map (H.n+1+1)) (.str b e) true (d_ H (a,g,h))=some (.av [.str v w,.bool ok]):=by
  have u: ∀h,iM G 226 (.map (H.n+1+1)) (.str b e) true (d_ H (a,g,h))=some (jX true (.str 0 0) (c2 (cU b e) a g 0)):=λh=>tP (cK:=0) G FP lA (by simp only [mapOf,EZ]) z9 k l
  cases y:c2 (cU b e) a g 0 with
  |none=>exact ⟨0,0,false,λh=>by rw [u,y];rfl⟩
  | some Y=>
    obtain ⟨aj,Z⟩:=Y;obtain ⟨an,-,-,S⟩:=BS y;obtain ⟨v,w,rfl⟩:=t Z (aV S);exact ⟨v,w,true,λh=>by rw [u,y];rfl⟩
 have K: ∀h tm,ih G 226 (.map (H.n+1+1)) (.str b e) (.str p r) tm (d_ H (a,g,h))= .ok (.av []) tm (d_ H (h3 (cU b e) (.str b e) a g,h4 (cU b e) (.str p r) a g,h)):=λh tm=>by refine zu rfl rfl ?_;rw [Ai G FP lA (EZ H (a,g,h)) k l,aag]
 have O: ∀i j,lK (a,g,i,j):=λi j=>⟨k,l,t⟩;have P: ∀i j,lK (h3 (cU b e) (.str b e) a g,h4 (cU b e) (.str p r) a g,i,j):=λi j=>⟨CD k,CF l,CE t ⟨p,r,rfl⟩⟩;simp only [go_sem,T.J,U.J]
 iterate 9 all_goals try (refine df.aE ?_ ?_<;>intro L<;>simp only [go_sem,L,L6,L7,L8,I,K])
 all_goals first
  |exact df.mk rfl ⟨rfl,_,O _ _,pV rfl⟩
  |exact df.mk rfl ⟨rfl,_,P _ _,pV rfl⟩
abbrev EY (H:af):aa:= .fn (.func 251) [] [.ptr H.n (q 226) 0 1,.ptr (H.n+1) (q 9) 0 1]
def L9 (H:af) (s:mf):U H (d_ H s):=(((U.refl H).push _).push _).push _
def AH (r:List aa):Prop:= ∃a,a<=10000000/\e1 r a
def aai {r:List aa} (h:AH r): ∃k,∀ad c,k<=ad->k<=c-> ∀(H:af) (s:mf) (d:Int),Tidy H->lK s->
    ∃s',lK s'/\ ∀tm,az G (X G R ad c) 185 [.agg r,.int .i64 d,EY H] (d_ H s) tm= .ok (.av []) tm (d_ H s'):=by
 obtain ⟨j,g,h⟩:=h;obtain ⟨q,l⟩:=wa (ι:=af) (σ:=mf) (T:=Tidy) (P:=λ_ s=>lK s) (W:=λ_=>0) (cS:=d_) (pE:=10000001) (fv:=EY) (λH s b a=>aah b s a) (λ_=>⟨rfl,λ_=>rfl⟩) (λ_ _ _ _ _=>pV rfl) (λt p=>by obtain ⟨k,m⟩:=aaj t p;exact ⟨k,λad j f g H s d b a _=>by obtain ⟨s',i,e⟩:=m ad j f g H s d b a;exact ⟨s',i,ab,e⟩⟩) h g;exact ⟨q,λad c f n H s d b a=>by obtain ⟨s',i,-,e⟩:=l ad c f n H s d b a ab;exact ⟨s',i,e⟩⟩
def hg {S:aa->Prop} {f:Nat} {args:List aa} {ad n:Nat} {H:af} (a:(∃v,S v/\ ∀tm,az G (X G R ad n) f args H tm= .ok v tm H)\/(∃v,bQ v/\ ∀tm,az G (X G R ad n) f args H tm= .aK v H)):
    ∃v,S v/\ ∀tm,az G (X G R ad n) f args H tm= .ok v tm H:=by
 rcases a with a|⟨v,a,-⟩
 . exact a
 . exact a.elim
def Jh (rows:Y) (h: ∀r∈rows,AH r) (F:rows.length<4611686018427387904):bo λad n=> ∀x H,Tidy H->cG H 6 x rows->
    ∃v,(∃e vs a b,v= .av [.ck e vs,.str a b])/\ ∀tm,az G (X G R ad n) 187 [x] H tm= .ok v tm H:=by
 obtain ⟨U,C⟩:=dE (l:=rows) (Q:=λr ad w=> ∀(H:af) (s:mf) (z:Int),Tidy H->lK s->
  ∃g,lK g/\ ∀tm,az G (X G R ad w) 185 [.agg r,.int .i64 z,EY H] (d_ H s) tm= .ok (.av []) tm (d_ H g)) λr c=>aai (h r c)
 refine ⟨U+rows.length+2,λad n ag ah x H j d=> ?_⟩;obtain ⟨n,rfl⟩:=bY n;have E: ∀r∈rows,r.length=6:=λr c=>by obtain ⟨n,-,c⟩:=h r c;exact c.i0.len
 refine hg (aL.at (m:=18) rfl rfl rfl rfl rfl (by simp only [aO,d.aD];rfl) rfl rfl ?_);simp only [go_sem,d.O,d.len,lq,aae,aad];generalize ae:a1 _ _ _ _ _ _ _ _ _ _=y;revert y;refine hz _ _ _ _ (σ:=mf) (λ_=> [(2,.ptr H.n (q 226) 0 1),(3,.ptr (H.n+1) (q 9) 0 1),(7,x)]) (λs=>d_ H s) (λ_ s=>lK s) 19 rows.length ([],[],0,0) rfl rfl (λ_=>rfl) rfl ⟨λ_ c=>(by cases c),rfl,λ_ c=>(by cases c)⟩
  dC ab F ?_ ?_
 . intro ai s tm D i hF;obtain ⟨r,u⟩:=bA D;have f:=aV u;obtain ⟨g,P,A⟩:=C ad n ab ab r f H s 1 j i;obtain ⟨ao,L,M,N,-⟩:=(d.up j.1 (L9 H s)).at E u;obtain ⟨w,-,I⟩:=h r f;obtain ⟨al,an,V,Z,W,aa,aq,ar,aj,ak,rfl,S,T⟩:=I.i0.t;simp only [go_sem,hF,d.O,L,M,N,S.J,T.J,A];exact au.next g rfl P ay
 . rintro ⟨e,vs,a,b⟩ tm i hF;simp only [go_sem,hF,L6,L7,aaf,L8];obtain ⟨k,B,p⟩:=i;simp only at k B p;have f:=zA 48 (EZ H (e,vs,a,b)) (ba.2 λx d=>by (obtain ⟨a,b,rfl⟩:=k x d;rfl)) (ba.2 λx d=>by (obtain ⟨a,b,rfl⟩:=p x d;rfl));have K:aZ bR (.av [.map (H.n+1+1),.str a b]) (d_ H (e,vs,a,b))=some (.av [.ck e vs,.str a b],(d_ H (e,vs,a,b)).set (H.n+1+1) (.map true e vs)):=by show aZ (49+1) _ _=_;rw [aZ,lk f (lk rfl rfl)];simp only [bu]
   exact .inl ⟨_,⟨e,vs,a,b,rfl⟩,_,_,_,rfl,K,gV j ((L9 H _).set ab _) rfl⟩
def bL (rows:Y) (N:Nat):Prop:= ∃a:List aa->Nat,(∀b∈rows,e1 b (a b))/\(rows.map a).sum<=N
def Ad (H:af) (l:List (Nat×Nat)) (d:Nat):U H (eY 9 22 H d l):=by
 cases l with
 |nil=>exact (U.refl H).push _
 |cons a l=>exact ((U.refl H).push _).push _
def zV:eW []= []:=by simp [eW]
def ph (l:List (Nat×Nat)):(eW l).length=l.length:=by simp [eW]
def aal (l:List (Nat×Nat)) (p):p∈eW l↔p∈l:=by simp [eW]
def eC.sort {l} (b:eC l):eC (eW l):=λa c=>b a ((aal l a).1 c)
theorem aaz (l:List (Nat×Nat)): ∀r∈l.map iu,r.length=1:=λr a=>by obtain ⟨b,-,rfl⟩:=cd.1 a;rfl
def Mo (l:List (Nat×Nat)):Rows 1 (l.map iu):=λd a=>by obtain ⟨c,-,rfl⟩:=cd.1 a;exact ⟨rfl,λe b=>by obtain rfl:=bs.1 b;exact ⟨rfl,rfl⟩⟩
def Yd (H:af) (l:List (Nat×Nat)) (s:l.length<1048560):qC [cO 9 H.n l] (dr H l)= .ret (.av []) (eY 9 22 H (l.length-1) (eW l)):=by
 cases l with
 |nil=>rw [zV];rfl
 | cons b l=>
   have f:(eW (b::l)).length=l.length+1:=ph _;have g: ∃d c,eW (b::l)=d::c/\c.length=l.length:=by
    cases e:eW (b::l) with
    |nil=>rw [e] at f;simp at f
    |cons d c=>rw [e] at f;exact ⟨d,c,rfl,by simpa using f⟩
   obtain ⟨d,c,g,e⟩:=g;simp only [cl] at s;have t:dr H (b::l)=(H.push (.cells (q 22) (q 22) 0 [cO 9 H.n (b::l)])).push (.cells (q 9+l.length) (q 9+0) 0 ((b::l).map λa=>aa.str a.1 a.2)):=rfl;have i:(dr H (b::l)).get (H.n+1)=some (.cells (q 9+l.length) (q 9+0) 0 ((b::l).map λa=>aa.str a.1 a.2)):=dL (H.push _) _;have j:sub ((b::l).map λa=>aa.str a.1 a.2) 0 (l.length+1)=some ((b::l).map λa=>aa.str a.1 a.2):=by unfold sub;rw [if_pos ai];rw [rF,fT ai]
   have k:cB ((b::l).map λa=>aa.str a.1 a.2) 0 ((eW (b::l)).map λa=>aa.str a.1 a.2)=some ((eW (b::l)).map λa=>aa.str a.1 a.2):=by unfold cB;rw [if_pos (by simp [ph])];simp [ph]
   have p:decide (True/\0<=0/\q 9+0<=q 9+l.length/\l.length+1<4611686018427387904)=true:=decide_eq_true ⟨trivial,aT _,ab,ab⟩;have r:qC [cO 9 H.n (b::l)] (dr H (b::l))=qC [.ref (H.n+1) (q 9+l.length) 0 1 (l.length+1) false] (dr H (b::l)):=rfl;rw [r];unfold qC;simp only [i,p,j,aaG,k,bu,c8];have m: ∀h,(dr H (b::l)).set (H.n+1) h=(H.push (.cells (q 22) (q 22) 0 [cO 9 H.n (b::l)])).push h:=λh=>o_ (H.push _) _ _;rw [m,g];have o:cO 9 H.n (b::l)=cO 9 H.n (d::c):=by simp only [cO,e]
   rw [o];simp only [eY,e,cl,tD]
theorem Dy {ad n:Nat} {H:af} {l:List (Nat×Nat)} (c:l.length<1048560) (tm:List aa):az G (X G R ad (n+1)) 194 [cO 9 H.n l] (dr H l) tm= .ok (.av []) tm (eY 9 22 H (l.length-1) (eW l)):=by
 rw [jL G _ _ _ _ tm rfl (by cases l<;>rfl)];have b:X G R ad (n+1) 194 [cO 9 H.n l] (dr H l)= .ret (.av []) (eY 9 22 H (l.length-1) (eW l)):=by have e:G.cL 194=some qC:=rfl;simp only [X,nE,e,Yd H l c]
 rw [b];have d:(eY 9 22 H (l.length-1) (eW l)).n=(dr H l).n:=by
  have:=ph l
  cases l with
  |nil=>rw [zV];rfl
  | cons a l=>
    cases f:eW (a::l) with
    |nil=>rw [f] at this;simp at this
    |cons g h=>rfl
 simp only [hV,fi _ _ (.av []) (fr 20 bR _ al rfl),ft (yW d)];split<;>rfl
def E_ (H:af) (l:List (Nat×Nat)) (d:Nat):(eY 9 22 H d l).get H.n=some (.cells (q 22) (q 22) 0 [cO 9 H.n l]):=by
 cases l with
 |nil=>exact dL _ _
 |cons a l=>exact ta _ _ _
def abd (H:af) (l:List (Nat×Nat)) (d:Nat) (a:d<=l.length-1) (b:l.length<1048560):bd H.n 9 1 1048560 (eY 9 22 H d l) (l.map iu) (cO 9 H.n l):=by
 cases l with
 |nil=>exact .inl ⟨rfl,rfl⟩
 | cons c l=>
   simp only [cl,tD] at b a;refine .inr (.inr ⟨H.n+1,q 9+l.length,q 9+d,by simp [cO],ab,?_,ab,?_,?_⟩)
   . rw [HK];exact dL (H.push _) _
   . simp only [q];omega
   . right;simp only [q];omega
def abC {r:List aa} {n:Nat} (o:e1 r n) (h:n<=1048560): ∃k,∀ad c,k<=ad->k<=c-> ∀(H:af) (l:List (Nat×Nat)) (d:Int),Tidy H->eC l->l.length+n<=1048560->
    ∃b,eC b/\b.length<=l.length+n/\ ∀tm,az G (X G R ad c) 185 [.agg r,.int .i64 d,Ab H] (dr H l) tm= .ok (.av []) tm (dr H b):=by
 obtain ⟨q,i⟩:=wa (ι:=af) (σ:=List (Nat×Nat)) (T:=Tidy) (P:=λ_ l=>eC l) (W:=λl=>l.length) (cS:=λH l=>dr H l) (pE:=1048560) (fv:=Ab) (λH l a _=>Fb a l) (λ_=>⟨rfl,λ_=>rfl⟩) (λH l b _ _=>uA H l b) (λs p=>by obtain ⟨k,j⟩:=abE s p;exact ⟨k,λad n e h H l d a g f=>j ad n e h H l d a g f⟩) o ab;exact ⟨q,λad c e m H l d a g f=>i ad c e m H l d a g f⟩
def abD {r:List aa} {n:Nat} (o:e1 r n) (h:n<=1048560): ∃k,∀ad c,k<=ad->k<=c-> ∀(H:af) (l:List (Nat×Nat)) (d:Int),Tidy H->eC l->l.length+n<=1048560->
    ∃b,eC b/\b.length<=l.length+n/\ ∀tm,az G (X G R ad c) 185 [.agg r,.int .i64 d,Ac H] (dr H l) tm= .ok (.av []) tm (dr H b):=by
 obtain ⟨q,i⟩:=wa (ι:=af) (σ:=List (Nat×Nat)) (T:=Tidy) (P:=λ_ l=>eC l) (W:=λl=>l.length) (cS:=λH l=>dr H l) (pE:=1048560) (fv:=Ac) (λH l a _=>Fb a l) (λ_=>⟨rfl,λ_=>rfl⟩) (λH l b _ _=>uA H l b) (λs p=>by obtain ⟨k,j⟩:=abF s p;exact ⟨k,λad n e h H l d a g f=>j ad n e h H l d a g f⟩) o ab;exact ⟨q,λad c e m H l d a g f=>i ad c e m H l d a g f⟩
def uO (N:Nat) (v:aa):Prop:= ∃a,F v (a.map iu)/\eC a/\a.length<=N
def JA (rows:Y) (N:Nat) (hN:N<1048560) (S:bL rows N):bo λad n=> ∀x H,Tidy H->cG H 6 x rows->
    ∃v,uO N v/\ ∀tm,az G (X G R ad n) 130 [x] H tm= .ok v tm H:=by
 obtain ⟨d,i,g⟩:=S;have U: ∀b∈rows,d b<=N:=λb j=>eT (o3 j) g;have aC:rows.length<=N:=eT (qq λx f=>(i x f).pos) g;obtain ⟨ae,C⟩:=dE (l:=rows) (Q:=λb ad ai=> ∀(H:af) (a:List (Nat×Nat)) (z:Int),Tidy H->eC a->a.length+d b<=1048560->
  ∃r,eC r/\r.length<=a.length+d b/\ ∀tm,az G (X G R ad ai) 185 [.agg b,.int .i64 z,Ab H] (dr H a) tm= .ok (.av []) tm (dr H r)) λb e=>abC (i b e) (by have:=U b e;omega)
 refine ⟨ae+rows.length+3,λad n aB aE x H p f=> ?_⟩;obtain ⟨n,rfl⟩: ∃ah,n=ah+2:=⟨n-2,ab⟩;have E: ∀b∈rows,b.length=6:=λb e=>(i b e).i0.len;refine hg (aL.at (m:=18) rfl rfl rfl rfl rfl (by simp only [aO,f.aD];rfl) rfl rfl ?_);simp only [go_sem,f.O,f.len];generalize aA:a1 _ _ _ _ _ _ _ _ _ _=w;revert w;refine hz _ _ _ _ (σ:=List (Nat×Nat)) (λ_=> [(3,.ptr H.n (q 22) 0 1),(6,x)]) (λa=>dr H a) (λh a=>eC a/\a.length<=((rows.take h).map d).sum) 19 rows.length [] rfl rfl (λ_=>rfl) rfl ⟨λ_ e=>(by cases e),fV _⟩
  dC ab ab ?_ ?_
 . intro h u tm D o hF;obtain ⟨o,aF⟩:=o;obtain ⟨b,k⟩:=bA D;have j:=aV k;have aH:((rows.take (h+1)).map d).sum=((rows.take h).map d).sum+d b:=by rw [fg,k];simp
   have aI:=si d rows (h+1);obtain ⟨aj,T,aG,A⟩:=C ad (n+1) ab ab b j H u 1 p o ab;obtain ⟨aP,L,M,P,-⟩:=(f.up p.1 (Ad H u 0)).at E k;obtain ⟨aM,aN,ao,aw,aq,ax,aQ,an,aJ,aK,aa,-,-⟩:=(i b j).i0.ea;obtain ⟨rfl,V,Z⟩:=aa.c;simp only [go_sem,hF,f.O,L,M,P,V.J,Z.J,A];exact au.next aj rfl ⟨T,ab⟩ ay
 . rintro a tm ⟨K,F⟩ hF;rw [bX] at F;have t:a.length<1048560:=ab;have B:=λtm=>Dy (ad:=ad) (n:=n) (H:=H) t tm;have s:cO 9 H.n (eW a)=cO 9 H.n a:=by
    have:=ph a
    cases a with
    |nil=>rw [zV]
    | cons y a=>
      cases g:eW (y::a) with
      |nil=>rw [g] at this;simp at this
      |cons ar ag=>rw [g] at this;simp only [cl] at this;simp only [cO];rw [show ag.length=a.length by omega]
   simp only [go_sem,hF,E_,Ae,B,s];rw [<-s];have I:aD (cO 9 H.n (eW a))=true:=by cases eW a<;>rfl
   simp only [dX,I,if_true];exact ak.W al p (Mo _) (abd H (eW a) _ (by rw [ph];exact aT _) (by rw [ph];exact t)) (aT _) (Ad H _ _) λan e=>⟨eW a,e,K.sort,by rw [ph];omega⟩
abbrev mq (H:af) (u:aa) (g d:Nat) (l:List (Nat×Nat)):af:=(H.push (.cells (q 22) (q 22) 0 [u])).push (.cells g d 0 (l.map λa:Nat×Nat=>aa.str a.1 a.2))
structure Aw (K:Nat->List (Nat×Nat)->af) (id g:Nat):Prop where
  get: ∀d L,(K d L).get id=some (.cells g d 0 (L.map λp:Nat×Nat=>aa.str p.1 p.2))
  set: ∀d L ov,(K d L).set id (.cells g g 0 (ov.map λp:Nat×Nat=>aa.str p.1 p.2))=K g ov
def Ps (H:af) (u:aa) (g:Nat):Aw (λd L=>mq H u g d L) (H.n+1) g:=by
 exact ⟨λd L=>vo _ _ _,λd L a=>o_ (H.push _) _ _⟩
def u4 {a id g} (c:Aw a id g) {d:Nat} {L:List (Nat×Nat)} {off i j n:Nat} {p:Nat×Nat} (e:L[j]? =some p) (l:d<=g) (f:off+i=j) (m:i<n):
    ∃ q,kA 1 (.ref id g off 1 n false) (.int .i64 (i:Nat))=some q/\(∀t,O t q=q)/\fh q=true/\(∀tm,jY 1 false (gq tm (a d L) q)=some (.str p.1 p.2))/\
      ∀(w:Nat×Nat) tm,hf 1 q [.str w.1 w.2] tm (a d L)= .ok (.av []) tm (a g (L.set j w)):=by
 have r:=(e6.1 e).1;have o:kA 1 (.ref id g off 1 n false) (.int .i64 (i:Nat))=some (.ptr id g (off+i*1) (off+i*1+1)):=by show (if 1=1/\i<n then _ else _)=_;rw [if_pos ⟨rfl,m⟩]
 refine ⟨_,o,λ_=>rfl,rfl,λtm=> ?_,λw tm=> ?_⟩
 . show (match (match (a d L).get id with|some (.cells _ h _ b)=>if h<=g then some (b,off+i*1,off+i*1+1) else none|_=>none) with|some (b,off,s)=>(match Nat.ble (off+1) s with|true=>b[off]? |false=>none)|none=>none)=_;rw [c.get];simp only [if_pos l];have:Nat.ble (off+i*1+1) (off+i*1+1)=true:=h_ (aT _);rw [this,tG,f];simp [e]
 . have k:cB (L.map λp:Nat×Nat=>aa.str p.1 p.2) (off+i*1) [.str w.1 w.2]=some ((L.set j w).map λp:Nat×Nat=>aa.str p.1 p.2):=by unfold cB;rw [tG,f,if_pos da];congr 1;rw [List.map_set,List.set_eq_take_append_cons_drop,if_pos (by simpa using r)];simp
   rw [Mj,if_pos ⟨rfl,rfl⟩,c.get,Mk,if_pos ⟨rfl,fV _,aT _⟩,k];simp only [c.set]
def Gz {id g off n:Nat} {k:Nat} (c:k<n):fG 1 (.ref id g off 1 n false) (some (.int .i64 (k:Nat))) none none=some (.ref id g (off+k) 1 (n-k) false):=by
 show (if k<=n/\n<=n/\(false=true->n=n) then (if k=n/\0<k then some (aa.A [] false) else bC (off+k*1) λb=>bC (n-k) λn=>some (.ref id g b 1 n false)) else none)=_;rw [if_pos ⟨ab,aT _,λa=>by cases a⟩,if_neg ab];simp only [c1,tG]
def PG {id g n:Nat} {k:Nat} (b:k<=n) (d:0<n):fG 1 (.ref id g 0 1 n false) none (some (.int .i64 (k:Nat))) none=some (.ref id g 0 1 k false):=by
 show (if 0<=k/\k<=n/\(false=true->k=n) then (if 0=n/\0<0 then some (aa.A [] false) else bC (0+0*1) λc=>bC (k-0) λn=>some (.ref id g c 1 n false)) else none)=_;rw [if_pos ⟨fV _,b,λa=>by cases a⟩,if_neg ab];simp only [c1,tG,vU,Nat.sub_zero]
def PF {c id g} (e:Aw c id g) {d:Nat} {L:List (Nat×Nat)} {k n:Nat} (p:k+n=L.length) (q:0<n):
    oH G 22 (.ref id g (0+k) 1 n false) (c d L)=some (.av [],c g (L.take k++List.replicate n (0,0))):=by
 obtain ⟨a,rfl⟩:=bY n;have l:aW G 22=some (.slice 9):=aq;have m:bN G 9=some (.str 0 0):=aq;have j:bZ G 9=some 1:=aq;have i:cB (L.map λb:Nat×Nat=>aa.str b.1 b.2) (0+k) (List.replicate (a+1) (aa.str 0 0).cells).flatten=some ((L.take k++List.replicate (a+1) (0,0)).map λb:Nat×Nat=>aa.str b.1 b.2):=by
  have h:(List.replicate (a+1) (aa.str 0 0).cells).flatten=List.replicate (a+1) (aa.str 0 0):=by
   show (List.replicate (a+1) [aa.str 0 0]).flatten=_
   induction a+1 with
   |zero=>rfl
   |succ n o=>rw [rI,iJ,o];rfl
  unfold cB;rw [h,gH,if_pos da];simp only [List.length_replicate,vR,yR,List.map_replicate];rw [tv da,fw]
 have f:Nat.beq (a+1) 0=false:=rfl;simp only [oH,l,f,j,m,e.get];rw [if_pos ⟨trivial,trivial,fV _,rfl,rfl⟩,i];simp only [bu,c8,e.set]
def Un {ad n:Nat} (H:af) (tm:List aa):az G (X G R ad (n+1)) 253 [.V] H tm= .ok .V tm H:=by
 have d: ∃b a,(b= .V/\a=H)/\ ∀tm,az G (X G R ad (n+1)) 253 [.V] H tm= .ok b tm a:=by refine bn.at (Q:=λb a=>b= .V/\a=H) (m:=60) (rs:= [.tmp 2]) rfl rfl rfl rfl rfl rfl rfl rfl ?_;simp only [go_sem];exact bn.mk ⟨rfl,ft (aT _)⟩
 obtain ⟨_,_,⟨rfl,rfl⟩,c⟩:=d;exact c tm
def Um:bo λad n=> ∀(H:af) (u:aa) (g d len:Nat) (l:List (Nat×Nat)),Tidy (mq H u g d l)->eC l->l.length=len->0<len->len<1048560->d<=g->q 9<=g->g<q 9+1048560->
    ∃e m c,eC e/\e.length<=len/\c<=g/\ ∀tm,az G (X G R ad n) 253 [.ref (H.n+1) g 0 1 len false] (mq H u g d l) tm= .ok (.ref (H.n+1) g 0 1 e.length false) tm (mq H u g c (e++m)):=by
 refine ⟨1048570,λad n bq bs H u g d len l aO an ak bc bd J bg bh=> ?_⟩;obtain ⟨n,rfl⟩:=bY n;have s:=Ps H u g;generalize Z:(λd b=>mq H u g d b)=o at s;have ag: ∀d b,mq H u g d b=o d b:=λd b=>by rw [<-Z]
 have aQ: ∀c b,(o c b).n=(o d l).n:=λc b=>by rw [<-Z];rfl
 simp only [ag];generalize aF:H.n+1=id at*;clear aF Z ag aO;have ah: ∀c b r,gc (o d l).n r (o c b)=o c b:=λc b r=>ft (by rw [aQ c b];exact aT _);have aP: ∃r t,(∃e m c,r= .ref id g 0 1 e.length false/\t=o c (e++m)/\eC e/\e.length<=len/\c<=g)/\ ∀tm,az G (X G R ad (n+1)) 253 [.ref id g 0 1 len false] (o d l) tm= .ok r tm t:=by
  refine bn.at (E:=G) (R:=R) (f:=253) (ad:=ad) (n:=n) (args:= [.ref id g 0 1 len false]) (H:=o d l) (Q:=λr t=> ∃e m c,r= .ref id g 0 1 e.length false/\t=o c (e++m)/\eC e/\e.length<=len/\c<=g) (m:=60) (rs:= [.tmp 2]) rfl rfl rfl rfl rfl rfl rfl rfl ?_;have av: ∀ {aq},aq=(o d l).n->bn (λr t=> ∃e m c,r= .ref id g 0 1 e.length false/\t=o c (e++m)/\eC e/\e.length<=len/\c<=g) aq (.ret (.ref id g 0 1 len false) (o d l)):=λW=>by subst W;exact bn.mk ⟨l,[],d,by rw [ak],by rw [ah,fw],an,ab,J⟩
  by_cases bf:len<2
  . have U:decide ((len:Int)<2)=true:=decide_eq_true ab;simp only [go_sem,U];exact av rfl
  have U:decide ((len:Int)<2)=false:=decide_eq_false ab;simp only [go_sem,U];generalize w:a1 _ _ _ _ _ _ _ _ _ _=T;revert T;refine rP _ _ _ _ (λa tm S=>S=o d l/\a+1<=len/\aM 61 [(0,.ref id g 0 1 len false),(3,.int .i64 ((a+1:Nat):Int))] tm) len ab ⟨rfl,ab,by simp only [go_sem];trivial⟩ ?_;rintro a tm _ bj ⟨rfl,bk,hF⟩;by_cases aH:a+1<len
  . have I :decide (((a+1:Nat):Int)<(len:Int))=true:=decide_eq_true ab;have ae:IntKind.i64.wrap (((a+1:Nat):Int)-1)=(a:Nat):=by rw [wrap64 _ ab ab];omega
    have N:IntKind.i64.wrap (((a+1:Nat):Int)+1)=((a+1+1:Nat):Int):=by rw [wrap64 _ ab ab];rfl
    obtain ⟨p,aI⟩: ∃p,l[a]? =some p:=⟨l[a]'ab,ai⟩;obtain ⟨bw,aK⟩: ∃p,l[a+1]? =some p:=⟨l[a+1]'ab,ai⟩;obtain ⟨aw,x,B,C,D,-⟩:=u4 s (off:=0) (i:=a) (n:=len) aI J ab ab;obtain ⟨ax,v,y,F,z,-⟩:=u4 s (off:=0) (i:=a+1) (n:=len) aK J ab ab;simp only [go_sem,hF,I,ae,x,B,C,D,v,y,F,z];refine dy.aE ?_ ?_<;>intro aC
    . clear x B C D v y F z N I;have aW:=Gz (id:=id) (g:=g) (off:=0) aH;have al:iL (.ref id g (0+(a+1)) 1 (len-(a+1)) false)=some (.int .i64 (len-(a+1):Nat)):=rfl;have M: ∀a6,O a6 (.ref id g (0+(a+1)) 1 (len-(a+1)) false)= .ref id g (0+(a+1)) 1 (len-(a+1)) false:=λ_=>rfl;have bt:aD (.ref id g (0+(a+1)) 1 (len-(a+1)) false)=true:=rfl;generalize aN:aa.ref id g (0+(a+1)) 1 (len-(a+1)) false=aX at*;simp only [go_sem,hF,aW];generalize w:a1 _ _ _ _ _ _ _ _ _ _=T;revert T;refine rP _ _ _ _ (λh tm S=> ∃c b j,S=o c b/\c<=g/\b.length=len/\eC b/\a+1<=j/\j<=a+1+h/\h+1<=len-(a+1)/\aM 61 [(0,.ref id g 0 1 len false),(3,.int .i64 (j:Nat)),(4,aX),(5,.int .i64 ((h+1:Nat):Int))] tm) len ab ⟨d,l,a+1,rfl,J,ak,an,aT _,ab,ab,by simp only [go_sem,hF,M];rfl⟩ ?_;clear hF;rintro h tm _ bm ⟨c,b,j,rfl,K,aj,w,aG,bp,bl,hF⟩;obtain ⟨bx,aL⟩: ∃p,b[j]? =some p:=⟨b[j]'ab,ai⟩;have a7:IntKind.i64.wrap ((j:Int)+1)=((j+1:Nat):Int):=by rw [wrap64 _ ab ab];rfl
      by_cases br:h+1<len-(a+1)
      . have V:decide (((h+1:Nat):Int)<((len-(a+1):Nat):Int))=true:=decide_eq_true ab;have ae:IntKind.i64.wrap (((h+1:Nat):Int)-1)=(h:Nat):=by rw [wrap64 _ ab ab];omega
        have N:IntKind.i64.wrap (((h+1:Nat):Int)+1)=((h+1+1:Nat):Int):=by rw [wrap64 _ ab ab];rfl
        obtain ⟨bu,aJ⟩: ∃p,b[0+(a+1)+h]? =some p:=⟨b[0+(a+1)+h]'ab,ai⟩;obtain ⟨ar,ao⟩: ∃p,b[0+(a+1)+(h+1)]? =some p:=⟨b[0+(a+1)+(h+1)]'ab,ai⟩;obtain ⟨aw,x,B,C,D,-⟩:=u4 s (off:=0+(a+1)) (i:=h) (n:=len-(a+1)) aJ K rfl ab;obtain ⟨ax,v,y,F,z,-⟩:=u4 s (off:=0+(a+1)) (i:=h+1) (n:=len-(a+1)) ao K rfl ab;obtain ⟨a8,aA,aB,ba,-,Y⟩:=u4 s (off:=0) (i:=j) (n:=len) aL K ab ab;have Y:=Y ar;rw [aN] at x v;simp only [go_sem,hF,M,al,V,ae,x,B,C,D,v,y,F,z];refine dy.aE ?_ ?_<;>intro bb<;>simp only [go_sem,hF,M,v,y,z,aA,aB,Y,N,a7]
        . exact dy.next (by show h<len;omega) ⟨c,b,j,rfl,K,aj,w,aG,ab,ab,ay⟩
        . exact dy.next (by show h<len;omega) ⟨g,b.set j ar,j+1,rfl,aT _,by rw [List.length_set,aj],λP A=>by
           rcases List.mem_or_eq_of_mem_set A with A|rfl
           . exact w P A
           . exact w P (aV ao),ab,ab,ab,ay⟩
      . have V:decide (((h+1:Nat):Int)<((len-(a+1):Nat):Int))=false:=decide_eq_false ab;have aY:=Gz (id:=id) (g:=g) (off:=0) (n:=len) (k:=j) ab;have aZ:=PG (id:=id) (g:=g) (n:=len) (k:=j) ab ab;have au:=PF s (d:=c) (L:=b) (k:=j) (n:=len-j) ab ab;rw [gH] at au;simp only [go_sem,hF,M,al,V];refine dy.stop rfl ?_;simp only [go_sem,hF,aY,au,aZ,bH];refine dy.stop rfl ?_;simp only [go_sem,hF];exact bn.mk ⟨b.take j,List.replicate (len-j) (0,0),g,by rw [h6,Nat.min_eq_left ab],ah _ _ _,λP A=>w P (hQ A),by rw [h6];omega,aT _⟩
    . simp only [go_sem,hF,aC,N];exact dy.next (by show a<len;omega) ⟨rfl,ab,ay⟩
  . have I:decide (((a+1:Nat):Int)<(len:Int))=false:=decide_eq_false ab;simp only [go_sem,hF,I];exact dy.stop rfl (by simp only [go_sem,hF];exact av rfl)
 obtain ⟨_,_,⟨e,m,c,rfl,rfl,aR,aS,aU⟩,W⟩:=aP;exact ⟨e,m,c,aR,aS,aU,W⟩
@[go_sem] theorem acW (a b H):cT G 22 1 [(0,.str a b)] H=some (.A [[.str a b]] true,H):=aq
@[go_sem] theorem acX (a b c d H):cT G 22 2 [(0,.str a b),(1,.str c d)] H=some (.A [[.str a b],[.str c d]] true,H):=aq
@[go_sem] theorem acY (a b c d e f H):cT G 22 3 [(0,.str a b),(1,.str c d),(2,.str e f)] H=some (.A [[.str a b],[.str c d],[.str e f]] true,H):=aq
def nx {α:Type}:List (Nat×Nat×α)->α->Nat->Nat->α
 | [],a,_,_=>a
 |(d,e,f)::t,a,b,c=>if b==d&&c==e then f else nx t a b c
def dc {α:Type} {a b x t} {d:α} {l m:Nat} (c:(l==a&&m==b)=true):nx ((a,b,x)::t) d l m=x:=by rw [nx,if_pos c]
theorem db {α:Type} {a b x t} {d:α} {l m:Nat} (c:(l==a&&m==b)=false):nx ((a,b,x)::t) d l m=nx t d l m:=by rw [nx,c];rfl
def Bq {α:Type} (P:α->Prop) (d:α) (l m:Nat) (a:P d): ∀t:List (Nat×Nat×α),(∀r∈t,P r.2.2)->P (nx t d l m)
 | [],_=>a
 | (b,c,f)::t,e=>by
   rw [nx];split
   . simp_all
   . exact Bq P d l m a t ah
def q5 (l m:Nat):Y:=nx [(3,6579297,[[.str 3 7630409],[.str 3 7630409]]),(3,6452595,[[.str 3 7630409],[.str 3 7630409]]),(3,7107949,[[.str 3 7630409],[.str 3 7630409]]),(3,7760228,[[.str 3 7630409],[.str 3 7630409]]),(3,6582125,[[.str 3 7630409],[.str 3 7630409]]),(2,29804,[[.str 3 7630409],[.str 3 7630409]]),(2,25964,[[.str 3 7630409],[.str 3 7630409]]),(2,29799,[[.str 3 7630409],[.str 3 7630409]]),(2,25959,[[.str 3 7630409],[.str 3 7630409]]),(3,6776174,[[.str 3 7630409]]),(4,1954047348,[[.str 3 7630409]]),(2,29029,[[.str 3 7958081],[.str 3 7958081]]),(2,25966,[[.str 3 7958081],[.str 3 7958081]]),(3,6581857,[[.str 4 1819242306],[.str 4 1819242306]]),(2,29295,[[.str 4 1819242306],[.str 4 1819242306]]),(3,7630702,[[.str 4 1819242306]]),(4,1801677168,[[.str 4 1819242306],[.str 3 7958081],[.str 3 7958081]]),(3,7627107,[[.str 4 1954047316],[.str 4 1954047316]]),(6,114849160783212,[[.str 4 1953720652]]),(4,1852403562,[[.str 4 1953720652],[.str 4 1953720652]]),(3,7628135,[[.str 3 7364941],[.str 3 7958081]]),(3,7561576,[[.str 3 7364941],[.str 3 7958081]]),(3,7103844,[[.str 3 7364941],[.str 3 7958081]]),(3,7632240,[[.str 3 7364941],[.str 3 7958081],[.str 3 7958081]]),(4,1937335659,[[.str 3 7364941]]),(4,1702521203,[[.str 3 7364941]]),(2,29545,[[.str 3 7958081],[.str 4 1954047316]])] [[.str 3 7958081]] l m
def pd (l m:Nat):Nat×Nat:=nx [(3,6579297,(3,7630409)),(3,6452595,(3,7630409)),(3,7107949,(3,7630409)),(3,7760228,(3,7630409)),(3,6582125,(3,7630409)),(3,6776174,(3,7630409)),(6,114849160783212,(3,7630409)),(4,1702521203,(3,7630409)),(3,7627107,(4,1954047316)),(4,1954047348,(4,1954047316)),(4,1852403562,(4,1953720652)),(4,1937335659,(4,1953720652)),(3,7632240,(3,7364941)),(3,7103844,(3,7364941)),(4,1801677168,(3,7958081)),(3,7628135,(3,7958081))] (4,1819242306) l m
theorem U9 (l m:Nat):K 304 [.str l m] (.A (q5 l m) true):=by
 refine C.run (m:=57) rfl rfl rfl rfl rfl rfl rfl rfl 0 λj k h i g f=> ?_;unfold q5;simp only [go_sem];generalize hT:r _ _ _=b;have hF:M b 3= .str l m:=aY;have c:b.length=58:=aY;have d:M b 4= .bool (l==3&&m==6579297):=aY;clear hT;refine e.aE ?_ ?_<;>intro a
 . rw [dc a];simp only [go_sem,d,c,a];exact e.mk rfl f (U.refl _)
 rw [db a];simp only [go_sem,hF,d,c,a];generalize hT:r _ _ _=b;have hF:M b 3= .str l m:=aY;have c:b.length=58:=aY;have d:M b 4= .bool (l==3&&m==6452595):=aY;clear hT;refine e.aE ?_ ?_<;>intro a
 . rw [dc a];simp only [go_sem,d,c,a];exact e.mk rfl f (U.refl _)
 rw [db a];simp only [go_sem,hF,d,c,a];generalize hT:r _ _ _=b;have hF:M b 3= .str l m:=aY;have c:b.length=58:=aY;have d:M b 4= .bool (l==3&&m==7107949):=aY;clear hT;refine e.aE ?_ ?_<;>intro a
 . rw [dc a];simp only [go_sem,d,c,a];exact e.mk rfl f (U.refl _)
 rw [db a];simp only [go_sem,hF,d,c,a];generalize hT:r _ _ _=b;have hF:M b 3= .str l m:=aY;have c:b.length=58:=aY;have d:M b 4= .bool (l==3&&m==7760228):=aY;clear hT;refine e.aE ?_ ?_<;>intro a
 . rw [dc a];simp only [go_sem,d,c,a];exact e.mk rfl f (U.refl _)
 rw [db a];simp only [go_sem,hF,d,c,a];generalize hT:r _ _ _=b;have hF:M b 3= .str l m:=aY;have c:b.length=58:=aY;have d:M b 4= .bool (l==3&&m==6582125):=aY;clear hT;refine e.aE ?_ ?_<;>intro a
 . rw [dc a];simp only [go_sem,d,c,a];exact e.mk rfl f (U.refl _)
 rw [db a];simp only [go_sem,hF,d,c,a];generalize hT:r _ _ _=b;have hF:M b 3= .str l m:=aY;have c:b.length=58:=aY;have d:M b 4= .bool (l==2&&m==29804):=aY;clear hT;refine e.aE ?_ ?_<;>intro a
 . rw [dc a];simp only [go_sem,d,c,a];exact e.mk rfl f (U.refl _)
 rw [db a];simp only [go_sem,hF,d,c,a];generalize hT:r _ _ _=b;have hF:M b 3= .str l m:=aY;have c:b.length=58:=aY;have d:M b 4= .bool (l==2&&m==25964):=aY;clear hT;refine e.aE ?_ ?_<;>intro a
 . rw [dc a];simp only [go_sem,d,c,a];exact e.mk rfl f (U.refl _)
 rw [db a];simp only [go_sem,hF,d,c,a];generalize hT:r _ _ _=b;have hF:M b 3= .str l m:=aY;have c:b.length=58:=aY;have d:M b 4= .bool (l==2&&m==29799):=aY;clear hT;refine e.aE ?_ ?_<;>intro a
 . rw [dc a];simp only [go_sem,d,c,a];exact e.mk rfl f (U.refl _)
 rw [db a];simp only [go_sem,hF,d,c,a];generalize hT:r _ _ _=b;have hF:M b 3= .str l m:=aY;have c:b.length=58:=aY;have d:M b 4= .bool (l==2&&m==25959):=aY;clear hT;refine e.aE ?_ ?_<;>intro a
 . rw [dc a];simp only [go_sem,c];exact e.mk rfl f (U.refl _)
 rw [db a];simp only [go_sem,hF,c];generalize hT:r _ _ _=b;have hF:M b 3= .str l m:=aY;have c:b.length=58:=aY;have d:M b 15= .bool (l==3&&m==6776174):=aY;clear hT;refine e.aE ?_ ?_<;>intro a
 . rw [dc a];simp only [go_sem,d,c,a];exact e.mk rfl f (U.refl _)
 rw [db a];simp only [go_sem,hF,d,c,a];generalize hT:r _ _ _=b;have hF:M b 3= .str l m:=aY;have c:b.length=58:=aY;have d:M b 15= .bool (l==4&&m==1954047348):=aY;clear hT;refine e.aE ?_ ?_<;>intro a
 . rw [dc a];simp only [go_sem,c];exact e.mk rfl f (U.refl _)
 rw [db a];simp only [go_sem,hF,c];generalize hT:r _ _ _=b;have hF:M b 3= .str l m:=aY;have c:b.length=58:=aY;have d:M b 19= .bool (l==2&&m==29029):=aY;clear hT;refine e.aE ?_ ?_<;>intro a
 . rw [dc a];simp only [go_sem,d,c,a];exact e.mk rfl f (U.refl _)
 rw [db a];simp only [go_sem,hF,d,c,a];generalize hT:r _ _ _=b;have hF:M b 3= .str l m:=aY;have c:b.length=58:=aY;have d:M b 19= .bool (l==2&&m==25966):=aY;clear hT;refine e.aE ?_ ?_<;>intro a
 . rw [dc a];simp only [go_sem,c];exact e.mk rfl f (U.refl _)
 rw [db a];simp only [go_sem,hF,c];generalize hT:r _ _ _=b;have hF:M b 3= .str l m:=aY;have c:b.length=58:=aY;have d:M b 23= .bool (l==3&&m==6581857):=aY;clear hT;refine e.aE ?_ ?_<;>intro a
 . rw [dc a];simp only [go_sem,d,c,a];exact e.mk rfl f (U.refl _)
 rw [db a];simp only [go_sem,hF,d,c,a];generalize hT:r _ _ _=b;have hF:M b 3= .str l m:=aY;have c:b.length=58:=aY;have d:M b 23= .bool (l==2&&m==29295):=aY;clear hT;refine e.aE ?_ ?_<;>intro a
 . rw [dc a];simp only [go_sem,c];exact e.mk rfl f (U.refl _)
 rw [db a];simp only [go_sem,hF,c];generalize hT:r _ _ _=b;have hF:M b 3= .str l m:=aY;have c:b.length=58:=aY;have d:M b 27= .bool (l==3&&m==7630702):=aY;clear hT;refine e.aE ?_ ?_<;>intro a
 . rw [dc a];simp only [go_sem,c];exact e.mk rfl f (U.refl _)
 rw [db a];simp only [go_sem,hF,c];generalize hT:r _ _ _=b;have hF:M b 3= .str l m:=aY;have c:b.length=58:=aY;have d:M b 30= .bool (l==4&&m==1801677168):=aY;clear hT;refine e.aE ?_ ?_<;>intro a
 . rw [dc a];simp only [go_sem,c];exact e.mk rfl f (U.refl _)
 rw [db a];simp only [go_sem,hF,c];generalize hT:r _ _ _=b;have hF:M b 3= .str l m:=aY;have c:b.length=58:=aY;have d:M b 33= .bool (l==3&&m==7627107):=aY;clear hT;refine e.aE ?_ ?_<;>intro a
 . rw [dc a];simp only [go_sem,c];exact e.mk rfl f (U.refl _)
 rw [db a];simp only [go_sem,hF,c];generalize hT:r _ _ _=b;have hF:M b 3= .str l m:=aY;have c:b.length=58:=aY;have d:M b 36= .bool (l==6&&m==114849160783212):=aY;clear hT;refine e.aE ?_ ?_<;>intro a
 . rw [dc a];simp only [go_sem,c];exact e.mk rfl f (U.refl _)
 rw [db a];simp only [go_sem,hF,c];generalize hT:r _ _ _=b;have hF:M b 3= .str l m:=aY;have c:b.length=58:=aY;have d:M b 39= .bool (l==4&&m==1852403562):=aY;clear hT;refine e.aE ?_ ?_<;>intro a
 . rw [dc a];simp only [go_sem,c];exact e.mk rfl f (U.refl _)
 rw [db a];simp only [go_sem,hF,c];generalize hT:r _ _ _=b;have hF:M b 3= .str l m:=aY;have c:b.length=58:=aY;have d:M b 42= .bool (l==3&&m==7628135):=aY;clear hT;refine e.aE ?_ ?_<;>intro a
 . rw [dc a];simp only [go_sem,d,c,a];exact e.mk rfl f (U.refl _)
 rw [db a];simp only [go_sem,hF,d,c,a];generalize hT:r _ _ _=b;have hF:M b 3= .str l m:=aY;have c:b.length=58:=aY;have d:M b 42= .bool (l==3&&m==7561576):=aY;clear hT;refine e.aE ?_ ?_<;>intro a
 . rw [dc a];simp only [go_sem,d,c,a];exact e.mk rfl f (U.refl _)
 rw [db a];simp only [go_sem,hF,d,c,a];generalize hT:r _ _ _=b;have hF:M b 3= .str l m:=aY;have c:b.length=58:=aY;have d:M b 42= .bool (l==3&&m==7103844):=aY;clear hT;refine e.aE ?_ ?_<;>intro a
 . rw [dc a];simp only [go_sem,c];exact e.mk rfl f (U.refl _)
 rw [db a];simp only [go_sem,hF,c];generalize hT:r _ _ _=b;have hF:M b 3= .str l m:=aY;have c:b.length=58:=aY;have d:M b 47= .bool (l==3&&m==7632240):=aY;clear hT;refine e.aE ?_ ?_<;>intro a
 . rw [dc a];simp only [go_sem,c];exact e.mk rfl f (U.refl _)
 rw [db a];simp only [go_sem,hF,c];generalize hT:r _ _ _=b;have hF:M b 3= .str l m:=aY;have c:b.length=58:=aY;have d:M b 50= .bool (l==4&&m==1937335659):=aY;clear hT;refine e.aE ?_ ?_<;>intro a
 . rw [dc a];simp only [go_sem,d,c,a];exact e.mk rfl f (U.refl _)
 rw [db a];simp only [go_sem,hF,d,c,a];generalize hT:r _ _ _=b;have hF:M b 3= .str l m:=aY;have c:b.length=58:=aY;have d:M b 50= .bool (l==4&&m==1702521203):=aY;clear hT;refine e.aE ?_ ?_<;>intro a
 . rw [dc a];simp only [go_sem,c];exact e.mk rfl f (U.refl _)
 rw [db a];simp only [go_sem,hF,c];generalize hT:r _ _ _=b;have hF:M b 3= .str l m:=aY;have c:b.length=58:=aY;have d:M b 54= .bool (l==2&&m==29545):=aY;clear hT;refine e.aE ?_ ?_<;>intro a
 . rw [dc a];simp only [go_sem,c];exact e.mk rfl f (U.refl _)
 rw [db a];simp only [go_sem,c];exact e.mk rfl f (U.refl _)
def Ou (l m:Nat):b8 (q5 l m)/\(q5 l m).length<=3:=by
 unfold q5;refine Bq (λc=>b8 c/\c.length<=3) _ l m ?_ _ λb a=> ?_
 . exact ⟨λb a=>by obtain rfl:=bs.1 a;exact ⟨_,_,rfl,by unfold T;decide,al⟩,al⟩
 . simp only [b2,dG,or_false] at a;rcases a with rfl|rfl|rfl|rfl|rfl|rfl|rfl|rfl|rfl|rfl|rfl|rfl|rfl|rfl|rfl|rfl|rfl|rfl|rfl|rfl|rfl|rfl|rfl|rfl|rfl|rfl|rfl
   all_goals
    refine ⟨λb a=> ?_,al⟩;simp only [b2,dG,or_false] at a;rcases a with rfl|rfl|rfl<;>exact ⟨_,_,rfl,by unfold T;decide,al⟩
theorem VH (l m:Nat):K 305 [.str l m] (.str (pd l m).1 (pd l m).2):=by
 refine C.run (m:=24) rfl rfl rfl rfl rfl rfl rfl rfl 0 λj k h i g f=> ?_;unfold pd;simp only [go_sem];generalize hT:r _ _ _=b;have hF:M b 3= .str l m:=aY;have c:b.length=25:=aY;have d:M b 4= .bool (l==3&&m==6579297):=aY;clear hT;refine e.aE ?_ ?_<;>intro a
 . rw [dc a];simp only [go_sem,d,c,a];exact e.mk rfl f (U.refl _)
 rw [db a];simp only [go_sem,hF,d,c,a];generalize hT:r _ _ _=b;have hF:M b 3= .str l m:=aY;have c:b.length=25:=aY;have d:M b 4= .bool (l==3&&m==6452595):=aY;clear hT;refine e.aE ?_ ?_<;>intro a
 . rw [dc a];simp only [go_sem,d,c,a];exact e.mk rfl f (U.refl _)
 rw [db a];simp only [go_sem,hF,d,c,a];generalize hT:r _ _ _=b;have hF:M b 3= .str l m:=aY;have c:b.length=25:=aY;have d:M b 4= .bool (l==3&&m==7107949):=aY;clear hT;refine e.aE ?_ ?_<;>intro a
 . rw [dc a];simp only [go_sem,d,c,a];exact e.mk rfl f (U.refl _)
 rw [db a];simp only [go_sem,hF,d,c,a];generalize hT:r _ _ _=b;have hF:M b 3= .str l m:=aY;have c:b.length=25:=aY;have d:M b 4= .bool (l==3&&m==7760228):=aY;clear hT;refine e.aE ?_ ?_<;>intro a
 . rw [dc a];simp only [go_sem,d,c,a];exact e.mk rfl f (U.refl _)
 rw [db a];simp only [go_sem,hF,d,c,a];generalize hT:r _ _ _=b;have hF:M b 3= .str l m:=aY;have c:b.length=25:=aY;have d:M b 4= .bool (l==3&&m==6582125):=aY;clear hT;refine e.aE ?_ ?_<;>intro a
 . rw [dc a];simp only [go_sem,d,c,a];exact e.mk rfl f (U.refl _)
 rw [db a];simp only [go_sem,hF,d,c,a];generalize hT:r _ _ _=b;have hF:M b 3= .str l m:=aY;have c:b.length=25:=aY;have d:M b 4= .bool (l==3&&m==6776174):=aY;clear hT;refine e.aE ?_ ?_<;>intro a
 . rw [dc a];simp only [go_sem,d,c,a];exact e.mk rfl f (U.refl _)
 rw [db a];simp only [go_sem,hF,d,c,a];generalize hT:r _ _ _=b;have hF:M b 3= .str l m:=aY;have c:b.length=25:=aY;have d:M b 4= .bool (l==6&&m==114849160783212):=aY;clear hT;refine e.aE ?_ ?_<;>intro a
 . rw [dc a];simp only [go_sem,d,c,a];exact e.mk rfl f (U.refl _)
 rw [db a];simp only [go_sem,hF,d,c,a];generalize hT:r _ _ _=b;have hF:M b 3= .str l m:=aY;have c:b.length=25:=aY;have d:M b 4= .bool (l==4&&m==1702521203):=aY;clear hT;refine e.aE ?_ ?_<;>intro a
 . rw [dc a];simp only [go_sem,c];exact e.mk rfl f (U.refl _)
 rw [db a];simp only [go_sem,hF,c];generalize hT:r _ _ _=b;have hF:M b 3= .str l m:=aY;have c:b.length=25:=aY;have d:M b 13= .bool (l==3&&m==7627107):=aY;clear hT;refine e.aE ?_ ?_<;>intro a
 . rw [dc a];simp only [go_sem,d,c,a];exact e.mk rfl f (U.refl _)
 rw [db a];simp only [go_sem,hF,d,c,a];generalize hT:r _ _ _=b;have hF:M b 3= .str l m:=aY;have c:b.length=25:=aY;have d:M b 13= .bool (l==4&&m==1954047348):=aY;clear hT;refine e.aE ?_ ?_<;>intro a
 . rw [dc a];simp only [go_sem,c];exact e.mk rfl f (U.refl _)
 rw [db a];simp only [go_sem,hF,c];generalize hT:r _ _ _=b;have hF:M b 3= .str l m:=aY;have c:b.length=25:=aY;have d:M b 16= .bool (l==4&&m==1852403562):=aY;clear hT;refine e.aE ?_ ?_<;>intro a
 . rw [dc a];simp only [go_sem,d,c,a];exact e.mk rfl f (U.refl _)
 rw [db a];simp only [go_sem,hF,d,c,a];generalize hT:r _ _ _=b;have hF:M b 3= .str l m:=aY;have c:b.length=25:=aY;have d:M b 16= .bool (l==4&&m==1937335659):=aY;clear hT;refine e.aE ?_ ?_<;>intro a
 . rw [dc a];simp only [go_sem,c];exact e.mk rfl f (U.refl _)
 rw [db a];simp only [go_sem,hF,c];generalize hT:r _ _ _=b;have hF:M b 3= .str l m:=aY;have c:b.length=25:=aY;have d:M b 19= .bool (l==3&&m==7632240):=aY;clear hT;refine e.aE ?_ ?_<;>intro a
 . rw [dc a];simp only [go_sem,d,c,a];exact e.mk rfl f (U.refl _)
 rw [db a];simp only [go_sem,hF,d,c,a];generalize hT:r _ _ _=b;have hF:M b 3= .str l m:=aY;have c:b.length=25:=aY;have d:M b 19= .bool (l==3&&m==7103844):=aY;clear hT;refine e.aE ?_ ?_<;>intro a
 . rw [dc a];simp only [go_sem,c];exact e.mk rfl f (U.refl _)
 rw [db a];simp only [go_sem,hF,c];generalize hT:r _ _ _=b;have hF:M b 3= .str l m:=aY;have c:b.length=25:=aY;have d:M b 22= .bool (l==4&&m==1801677168):=aY;clear hT;refine e.aE ?_ ?_<;>intro a
 . rw [dc a];simp only [go_sem,d,c,a];exact e.mk rfl f (U.refl _)
 rw [db a];simp only [go_sem,hF,d,c,a];generalize hT:r _ _ _=b;have hF:M b 3= .str l m:=aY;have c:b.length=25:=aY;have d:M b 22= .bool (l==3&&m==7628135):=aY;clear hT;refine e.aE ?_ ?_<;>intro a
 . rw [dc a];simp only [go_sem,c];exact e.mk rfl f (U.refl _)
 rw [db a];simp only [go_sem,c];exact e.mk rfl f (U.refl _)
def Y6 (l m:Nat):T (pd l m).1 (pd l m).2/\(pd l m).1<=4:=by
 unfold pd;refine Bq (λa:Nat×Nat=>T a.1 a.2/\a.1<=4) _ l m ⟨by unfold T;decide,al⟩ _ λc b=> ?_;simp only [b2,dG,or_false] at b;rcases b with rfl|rfl|rfl|rfl|rfl|rfl|rfl|rfl|rfl|rfl|rfl|rfl|rfl|rfl|rfl|rfl
 all_goals exact ⟨by unfold T;decide,al⟩
def uT (l m:Nat):Bool:=q7.any (isStr l m)
def sF (l m:Nat):List aa:=if uT l m then [.str l m,.A (q5 l m) true,.str (pd l m).1 (pd l m).2,.V,.int .i64 0,.int .i64 0,.V] else Aq
def Gd (l m:Nat) (d:T l m) (c:l<4611686018427387904):c6 (sF l m):=by
 unfold sF;split
 . have a:=Ou l m;have b:=Y6 l m;exact ⟨_,_,q5 l m,_,_,[],⟨⟨_,_,_,_,_,rfl,.inr ⟨_,rfl⟩,.inl ⟨rfl,rfl⟩,[],.inl ⟨rfl,rfl⟩,al,λ_ ag=>by cases ag⟩,d,b.1,c,ab,a.1,ab,λ_ ag=>(by cases ag),al⟩⟩
 . exact NJ
def VL (l m:Nat):K 242 [.str l m] (.av [.agg (sF l m),.bool (uT l m)]):=by
 obtain ⟨k,c⟩:=Dq l m;obtain ⟨n,h⟩:=U9 l m;obtain ⟨o,i⟩:=VH l m;refine C.run (m:=13) rfl rfl rfl rfl rfl rfl rfl rfl (k+n+o) λf g p q b d=> ?_;have c: ∀a,az G (X G R f g) 179 [.str l m] b a= .ok (.bool (uT l m)) a b:=λa=>c f g ab ab b a d;have h:=λa=>h f g ab ab b a d;have i:=λa=>i f g ab ab b a d;unfold sF;cases j:uT l m<;>rw [j] at c
 . simp only [go_sem,c];exact e.mk rfl d (U.refl _)
 . simp only [go_sem,c,h,i];exact e.mk rfl d (U.refl _)
@[go_sem] theorem agZ (E:Env) (tm H a t u v):gp E [.cell a t,.tmp u,.tmp v] tm H=(match dW E t (O a (M tm a)) tm H with
  |some w=>(if aD w&&(aD (M tm u)&&aD (M tm v)) then .ret (.av [w,M tm u,M tm v]) H else .fail)
  |none=> .fail):=by
 simp only [gp,hU,lx,Er];cases dW E t (O a (M tm a)) tm H<;>simp
def GA (rop j3:Y) (l m:Nat):Bool:=j0 rop l m||j0 j3 l m||uT l m
def mr (rop j3:Y) (l m:Nat):List aa:=if j0 rop l m then iQ rop l m else if j0 j3 l m then iQ j3 l m else sF l m
def Bl {rop j3:Y} (a: ∀r∈rop,c6 r) (b: ∀r∈j3,c6 r) (l m:Nat) (d:T l m) (c:l<4611686018427387904):c6 (mr rop j3 l m):=by
 unfold mr;split
 . exact qA a l m
 . split
   . exact qA b l m
   . exact Gd l m d c
def zU (kN rop j3:Y) (k:Int) (l1 m1 c d:Nat):Nat×Nat:=if k=1 then (3,7630409) else if k=2 then (4,1819242306) else if k=3 then (4,1954047316) else if k=4 then (2,25673) else if k=7 then (4,1953720652) else if k=8 then (3,7364941) else
 if k=5 then (match mr rop j3 l1 m1 with
  |_::_:: .str a b::_=>(a,b)
  |_=>(0,0)) else if my kN c d then (c,d) else (0,0)
section
variable {ax:aa} {s:List aa} {kN jv rop j3 aJ:Y} (ag:dO ax s kN jv rop j3 aJ)
include ag
theorem Dr (l m:Nat) (O:T l m) (B:l<4611686018427387904):K 165 [ax,.str l m] (.av [.agg (mr rop j3 l m),.bool (!(j0 rop l m)),.bool (GA rop j3 l m)]):=by
 obtain ⟨X,b⟩:=(MO ag).c (l,m) trivial;obtain ⟨Y,f⟩:=(MN ag).c (l,m) trivial;obtain ⟨Z,q⟩:=VL l m;obtain ⟨x,aT,az,-⟩:=ag.val;have au:=qA ag.bT.op l m;have aw:=qA ag.bT.cP l m;have ay:=Gd l m O B;refine C.run (m:=28) rfl rfl rfl rfl rfl (by simp only [aO,az];rfl) rfl rfl (X+Y+Z) λv w B aG p d=> ?_;have b:=λj=>b v w ab ab p j d;have f:=λj=>f v w ab ab p j d;have q:=λj=>q v w ab ab p j d;unfold mr GA;generalize iQ rop l m=aM at*;generalize iQ j3 l m=aN at*;generalize sF l m=aP at*;obtain ⟨ad,ak,aA,ah,ao,aQ,⟨⟨y,E,H,P,S,rfl,g,i,⟨aH,h,-⟩⟩,-⟩⟩:=au;obtain ⟨ae,al,aB,ai,aq,aR,⟨⟨z,F,I,Q,V,rfl,k,o,⟨aK,n,-⟩⟩,-⟩⟩:=aw;obtain ⟨af,an,aC,aj,ar,aS,⟨⟨A,G,L,R,W,rfl,r,u,⟨aL,t,-⟩⟩,-⟩⟩:=ay;have aD: ∀a,D (a+1) y=true/\D (a+1) H=true/\D (a+1) E=true:=λa=>⟨g.aI a,i.aI a,h.aI a⟩;have aE: ∀a,D (a+1) z=true/\D (a+1) I=true/\D (a+1) F=true:=λa=>⟨k.aI a,o.aI a,n.aI a⟩;have aF: ∀a,D (a+1) A=true/\D (a+1) L=true/\D (a+1) G=true:=λa=>⟨r.aI a,u.aI a,t.aI a⟩;cases M:j0 rop l m<;>rw [M] at b
 . cases N:j0 j3 l m<;>rw [N] at f
   . simp only [go_sem,x,b,f,q,g.J,i.J,h.J,k.J,o.J,n.J,r.J,u.J,t.J];exact e.mk (by show (([aa.str af an,A,.str aj ar,G,.int .i64 R,.int .i64 W,L]:List aa).all (D 18)&&_)=true;rw [vj r u t];rfl) d (U.refl _)
   . simp only [go_sem,x,b,f,g.J,i.J,h.J,k.J,o.J,n.J];exact e.mk (by show (([aa.str ae al,z,.str ai aq,F,.int .i64 Q,.int .i64 V,I]:List aa).all (D 18)&&_)=true;rw [vj k o n];rfl) d (U.refl _)
 . simp only [go_sem,x,b,g.J,i.J,h.J];exact e.mk (by show (([aa.str ad ak,y,.str ah ao,E,.int .i64 P,.int .i64 S,H]:List aa).all (D 18)&&_)=true;rw [vj g i h];rfl) d (U.refl _)
theorem U2 {r k n l1 m1 f g y z ky i} (a:kX r k n l1 m1 f g y z ky i):K 87 [ax,.agg r] (.str (zU kN rop j3 k l1 m1 f g).1 (zU kN rop j3 k l1 m1 f g).2):=by
 obtain ⟨F,j⟩:=Dr ag l1 m1 a.c5 a.s1;obtain ⟨G,l⟩:=I_ ag f g;obtain ⟨H,aa,I,-⟩:=ag.val;have x:=Bl ag.bT.op ag.bT.cP l1 m1 a.c5 a.s1;refine C.run (m:=39) rfl rfl rfl rfl rfl (by simp only [aO,I];rfl) rfl rfl (F+G) λq t M N b o=> ?_;have j:=λp=>j q t ab ab b p o;have l:=λp=>l q t ab ab b p o;obtain ⟨rfl,D,E⟩:=a.c;unfold zU;generalize mr rop j3 l1 m1=V at*;obtain ⟨Q,S,L,R,T,Z,⟨⟨d,W,Y,O,P,rfl,w,B,⟨X,A,-⟩⟩,-⟩⟩:=x;have u: ∀ {d h:Nat×Nat},d=h->e (.str d.1 d.2) b (.ret (.str h.1 h.2) b):=λag=>by subst ag;exact e.mk rfl o (U.refl _)
 simp only [go_sem,D.J,E.J]
 iterate 8 all_goals try (refine e.aE ?_ ?_<;>intro v<;>simp only [go_sem,v,H,j,l,w.J,B.J,A.J])
 all_goals exact @u _ (_,_) de
def eh (kN rop j3:Y) (x:List aa):Nat×Nat:=match x with
 | [.int _ a,_,.str b d,.str c e,_,_]=>zU kN rop j3 a b d c e
 |_=>(0,0)
theorem v_ {x} (a:aN x):K 87 [ax,.agg x] (.str (eh kN rop j3 x).1 (eh kN rop j3 x).2):=by obtain ⟨f,i,b,d,c,e,j,k,g,h,a,-,-⟩:=a.ea;have:=U2 ag a;obtain ⟨rfl,-⟩:=a;exact this
theorem Ja {r} (e:aN r):dt 184 [ax,.agg r] dI bQ:=by
 induction e with
 | @mk r a8 bg N Q P R bq br q ba e K aU aq _=>
 obtain ⟨ar,B⟩:=aL.j8 aq;obtain ⟨av,D⟩:=I_ ag P R;obtain ⟨aw,E⟩:=Dr ag N Q e.c5 e.s1;have ah:=Bl ag.bT.op ag.bT.cP N Q e.c5 e.s1;obtain ⟨az,F⟩:=C.all (l:=q) (f:=87) (g:=λa=> [ax,.agg a]) (v:=λa=> .str (eh kN rop j3 a).1 (eh kN rop j3 a).2) λa o=>v_ ag (K a o);obtain ⟨aA,G⟩:=MQ ag;obtain ⟨y,bp,aM,-⟩:=ag.val;refine aL.run (m:=71) rfl rfl rfl rfl rfl (by simp only [aO,aM];rfl) rfl rfl (ar+av+aw+az+aA+q.length+1) λu w aW aY h b=> ?_;have B:=λa o=>B u w ab ab a o h b;have D:=λd=>D u w ab ab h d b;have E:=λd=>E u w ab ab h d b;have F:=λa o d=>F u w ab ab a o h d b;have G:=λaF aG P R d=>G u w ab ab (aF,aG,P,R) trivial h d b;obtain ⟨rfl,-,-,-,-,c,ao,aZ,a6⟩:=e;generalize mr rop j3 N Q=bh at*;obtain ⟨bb,bd,A,bc,bf,bm,⟨⟨aQ,bj,bl,a7,x,rfl,j,al,⟨bk,aj,-⟩⟩,-,-,-,-,an,-,-,-⟩⟩:=ah;simp only [go_sem,c.J,ao.J,c.O,c.len];generalize af:a1 _ _ _ _ _ _ _ _ _ _=z;revert z;have hF:=trivial;refine dA [0,3,13,7] (λ_=>True) q.length trivial ?_ ?_
 . intro x s d I H hF;obtain ⟨a,p⟩:=bA I;have n:=aV p;obtain ⟨bo,⟨aS,rfl⟩,Z⟩:=B a n;obtain ⟨aD,aH,V,X,W,Y,aK,aP,aB,aC,rfl,L,M⟩:=(K a n).t;simp only [go_sem,hF,c.O,c.a_ (k:=6) p rfl,L.J,M.J,y,Z];refine au.aE ?_ ?_<;>intro i<;>simp only [go_sem,i]
   all_goals first
    |exact au.next () rfl trivial ay
    |exact au.stop rfl (by simp only [go_sem,hF];exact ak.bW b (U.refl _))
 intro s d H hF;simp only [go_sem,hF];refine ak.aE ?_ ?_<;>intro i<;>simp only [go_sem,hF,i,y,D]
 . exact ak.bW b (U.refl _)
 refine ak.aE ?_ ?_<;>intro ad<;>simp only [go_sem,hF,ad,y,E,j.J,al.J,aj.J]
 . exact ak.bW b (U.refl _)
 refine ak.aE ?_ ?_<;>intro ae<;>simp only [go_sem,hF,ae,j.len,j.O,c.len,c.O]
 rotate_left
 . exact ak.bW b (U.refl _)
 refine ak.aE ?_ ?_<;>intro S<;>simp only [go_sem,hF,S,c.len,c.O]
 . exact ak.bW b (U.refl _)
 have aX:A.length=q.length:=by simp at S;omega
 generalize af:a1 _ _ _ _ _ _ _ _ _ _=z;revert z;refine dA [0,7,54] (λ_=>True) q.length trivial ?_ ?_
 . intro x s d I H hF;obtain ⟨a,p⟩:=bA I;obtain ⟨aI,T⟩: ∃r,A[x]? =some r:=⟨A[x]'ab,ai⟩;have n:=aV p;have aa:=F a n;obtain ⟨aR,aT,rfl,-⟩:=an aI (aV T);generalize eh kN rop j3 a=bn at*;obtain ⟨aD,aH,V,X,W,Y,aK,aP,aB,aC,rfl,L,M⟩:=(K a n).t;simp only [go_sem,hF,c.O,c.a_ (k:=6) p rfl,L.J,M.J,y,aa,j.O,j.a_ (k:=1) T rfl,G];refine au.aE ?_ ?_<;>intro i<;>simp only [go_sem,i]
   all_goals first
    |exact au.next () rfl trivial ay
    |exact au.stop rfl (by simp only [go_sem,hF];exact ak.bW b (U.refl _))
 . intro s d H hF;simp only [go_sem,hF];exact ak.bW b (U.refl _)
end
section
variable {ax:aa} {s:List aa} {kN jv rop j3 aJ:Y} (ag:dO ax s kN jv rop j3 aJ)
include ag
omit ag in
abbrev ru (ax:aa) (H:af) (b:Bool):af:=(H.push (.cells (q 65) (q 65) 0 [ax])).push (.cells (q 4) (q 4) 0 [.bool b])
theorem Iw {H:af} (a:Tidy H) (b:Bool):Tidy (ru ax H b):=(a.push (by show [ax].all _=true;simp only [aO,ag.val.2.2.2.2.1];rfl)).push rfl
theorem SO (x:List aa) (a:aN x): ∃k,∀ad n,k<=ad->k<=n-> ∀(H:af) (b:Bool) (d:Int),Tidy H->True->0<1->
  ∃e,True/\0<=0+1/\ ∀tm,cx G (X G R ad n) (.fn (.func 186) [] [.ptr H.n (q 65) 0 1,.ptr (H.n+1) (q 4) 0 1]) [.agg x,.int .i64 d] (ru ax H b) tm= .ok (.av []) tm (ru ax H e):=by
 obtain ⟨A,F,g,h,D,I,L,M,V,W,a,-,-⟩:=a.ea;obtain ⟨B,i⟩:=Dr ag g h a.c5 a.s1;obtain ⟨K,ao,aq,ar,au,aw⟩:=ag.val;have t:=Bl ag.bT.op ag.bT.cP g h a.c5 a.s1;refine ⟨B+1,λad n P S H b d w _ _=> ?_⟩;obtain ⟨n,rfl⟩:=bY n;have i:=λtm=>i ad n ab ab (ru ax H b) tm (Iw ag w b);obtain ⟨rfl,y,z⟩:=a.c;generalize mr rop j3 g h=ai at*;obtain ⟨Y,ae,O,Z,ah,an,⟨⟨N,aj,al,T,U,rfl,r,v,⟨ak,u,-⟩⟩,-⟩⟩:=t;have C:=df.at (E:=G) (R:=R) (f:=186) (m:=20) (ad:=ad) (n:=n) (args:= [.agg [.int .i64 A,.int .i64 F,.str g h,.str D I,L,M],.int .i64 d,.ptr H.n (q 65) 0 1,.ptr (H.n+1) (q 4) 0 1]) (H:=ru ax H b)
  (Q:=λl j=>l= .av []/\ ∃e,j=ru ax H e) rfl rfl rfl rfl rfl rfl rfl rfl ?_
 . obtain ⟨l,j,⟨rfl,e,rfl⟩,o⟩:=C;exact ⟨e,trivial,ab,λtm=>by simp only [eg,a6,bl];exact o tm⟩
 simp only [go_sem,y.J,z.J]
 iterate 3 all_goals try (refine df.aE ?_ ?_<;>intro p<;>simp only [go_sem,p,yg,vo,K,i,r.J,v.J,u.J])
 all_goals exact df.mk rfl ⟨rfl,_,pV rfl⟩
theorem Jc {r:List aa} {n:Nat} (j:e1 r n) (f:n<=10000000):dt 124 [ax,.agg r] dI bQ:=by
 obtain ⟨y,z,A,B,N,O⟩:=ag.val;obtain ⟨w,o⟩:=wa (ι:=af) (σ:=Bool) (T:=Tidy) (P:=λ_ _=>True) (W:=λ_=>0) (cS:=λa d=>ru ax a d) (pE:=10000001)
  (fv:=λa=> .fn (.func 186) [] [.ptr a.n (q 65) 0 1,.ptr (a.n+1) (q 4) 0 1]) (λa d b _=>Iw ag b d) (λ_=>⟨rfl,λ_=>rfl⟩) (λ_ _ _ _ _=>pV rfl) (λC g=>by obtain ⟨k,p⟩:=SO ag C g;exact ⟨k,λh n t f a d l b _ _=>by obtain ⟨i,-,-,e⟩:=p h n t f a d l b trivial al;exact ⟨i,trivial,ab,e⟩⟩) j f
 obtain ⟨k,K,H,L,I,M,Q,R,F,G,g,-,-⟩:=j.i0.ea;refine aL.run (m:=8) rfl rfl rfl rfl rfl (by simp only [aO,A];rfl) rfl rfl w λh x D E a b=> ?_;obtain ⟨i,-,-,e⟩:=o h x ab ab a false 1 b trivial ab;obtain ⟨rfl,u,v⟩:=g.c;simp only [go_sem,u.J,v.J,y,z,B,lq,e,vo];exact ak.bW b (((U.refl a).push _).push _)
end
def fA (v:aa):Prop:= ∃(a:Int) (d e:Nat) (b c:Int),v= .iface 78 (.agg [.int .i64 a,.str d e,.int .i64 b,.int .i64 c])/\a≠0
theorem fA.aI {v} (a:fA v) (d:Nat):D (d+3) v=true:=by obtain ⟨e,f,g,b,c,rfl,-⟩:=a;rfl
def fK (f:Nat) (args:List aa) (ad n:Nat) (H:af):Prop:=(∀a,az G (X G R ad n) f args H a= .ok (.av []) a H)\/ ∃b,fA b/\ ∀a,az G (X G R ad n) f args H a= .aK b H
def o6 {f:Nat} {args:List aa} {ad n:Nat} {H:af} (ag:(∃v,lL v/\ ∀tm,az G (X G R ad n) f args H tm= .ok v tm H)\/(∃v,fA v/\ ∀tm,az G (X G R ad n) f args H tm= .aK v H)):fK f args ad n H:=by
 rcases ag with ⟨v,rfl,a⟩|ag
 . exact .inl a
 . exact .inr ag
def dP (H:af) (c:aa) (d:List aa) (ax:aa):Prop:= ∃id a b e,c= .ptr id a 0 14/\H.get id=some (.cells a b e (d++ [ax]))/\b<=a/\d.length=13
def dP.up {H H':af} {c d ax} (ag:dP H c d ax) (h:H.l.length=H.n) (i:U H H'):dP H' c d ax:=by
 obtain ⟨id,b,a,j,e,f,g⟩:=ag;exact ⟨id,b,a,j,e,i.get h f,g⟩
def abt (c:Int) (f:c≠0):su G R 109 (λ_:Nat×Nat×Int×Int=>True) (λp=> [.int .i64 c,.str p.1 p.2.1,.int .i64 p.2.2.1,.int .i64 p.2.2.2]) (λp=> .iface 78 (.agg [.int .i64 c,.str p.1 p.2.1,.int .i64 p.2.2.1,.int .i64 p.2.2.2])):=by
 refine su.run (m:=10) rfl rfl rfl rfl (λ_=>rfl) (λ_ _=>rfl) rfl rfl 0 λj l g h a _ d b=> ?_;obtain ⟨i,k,a,e⟩:=a;simp only [go_sem];exact q3.mk rfl b (U.refl _)
def abu (c:Int) (g:c≠0):su G R 63 (λ_:Nat×Nat×Int×Int=>True) (λp=> [.agg [.int .i64 p.2.2.1,.int .i64 p.2.2.2],.int .i64 c,.str p.1 p.2.1]) (λp=> .iface 78 (.agg [.int .i64 c,.str p.1 p.2.1,.int .i64 p.2.2.1,.int .i64 p.2.2.2])):=by
 obtain ⟨h,a⟩:=abt c g;refine su.run (m:=10) rfl rfl rfl rfl (λ_=>rfl) (λ_ _=>rfl) rfl rfl h λj l o q b _ e d=> ?_;obtain ⟨i,k,b,f⟩:=b;have a:=λn=>a j l ab ab (i,k,b,f) trivial e n d;simp only at a;simp only [go_sem,a];exact q3.mk rfl d (U.refl _)
def gu (c:Int) (f:c≠0):bo λad n=> ∀(l m:Nat) (a b:Int) H tm,Tidy H->az G (X G R ad n) 63 [.agg [.int .i64 a,.int .i64 b],.int .i64 c,.str l m] H tm= .aK (.iface 78 (.agg [.int .i64 c,.str l m,.int .i64 a,.int .i64 b])) H:=by
 obtain ⟨h,ag⟩:=abu c f;exact ⟨h,λad n d e l m a b H tm g=>ag ad n d e (l,m,a,b) trivial H tm g⟩
def lO (c:Int) (d:c≠0) (l m:Nat) (a b:Int):fA (.iface 78 (.agg [.int .i64 c,.str l m,.int .i64 a,.int .i64 b])):=⟨c,l,m,a,b,rfl,d⟩
section
variable {ax:aa} {s:List aa} {kN jv rop j3 aJ:Y} (ag:dO ax s kN jv rop j3 aJ)
include ag
theorem wb (rows:Y) (j: ∀r∈rows,aN r) (ah:rows.length<4611686018427387904):bo λad n=> ∀x c d (a b:Int) (l m:Nat) H,Tidy H->dP H c d ax->cG H 6 x rows->
  fK 123 [c,.agg [.int .i64 a,.int .i64 b],.str l m,x] ad n H:=by
 obtain ⟨P,w⟩:=aL.j8 (l:=rows) (f:=184) (g:=λr=> [ax,.agg r]) (S:=λ_=>dI) λr h=>Ja ag (j r h);obtain ⟨Q,y⟩:=gu 16 al;obtain ⟨R,aB,aC,aF,aG,aH⟩:=ag.val;refine ⟨P+Q+rows.length+2,λad n af ai x c d a b l m H i B e=> ?_⟩;obtain ⟨n,rfl⟩:=bY n;obtain ⟨id,o,aa,aw,rfl,E,D,C⟩:=B;have G: ∀r∈rows,r.length=6:=λr ag=>(j r ag).len;have A:(d++ [ax])[13]? =some ax:=by rw [vP ab,C];rfl
 refine o6 (aL.at (m:=23) rfl rfl rfl rfl rfl (by simp only [aO,e.aD];rfl) rfl rfl ?_);simp only [go_sem,e.O,e.len];generalize ae:a1 _ _ _ _ _ _ _ _ _ _=q;revert q;have hF:=trivial;refine dA [0,2,5,10] (λ_=>True) rows.length trivial ?_ ?_
 . intro aj s k F z hF;obtain ⟨r,p⟩:=bA F;have h:=aV p;obtain ⟨aA,⟨W,rfl⟩,u⟩:=w ad n ab ab r h H i;have v:=λl m a b k=>y ad n ab ab l m a b H k i;obtain ⟨av,I,K,L,-⟩:=e.at G p;obtain ⟨aq,ar,T,X,V,Z,az,aI,an,ao,rfl,M,N⟩:=(j r h).t;simp only [go_sem,hF,e.O,I,K,L,M.J,N.J,E,D,A,R,u];refine au.aE ?_ ?_<;>intro o<;>simp only [go_sem,hF,o,v]
   all_goals first
    |exact au.next () rfl trivial ay
    |exact au.stop rfl (by simp only [go_sem];exact ak.aK (lO 16 al _ _ _ _) rfl i (U.refl _))
 . intro s k z hF;simp only [go_sem];exact ak.un i (U.refl _)
end
def U4 (rows:Y) (N:Nat) (hN:N<1048560) (aG:bL rows N):bo λad n=> ∀x H,Tidy H->cG H 6 x rows->
    ∃v,uO N v/\ ∀tm,az G (X G R ad n) 189 [x] H tm= .ok v tm H:=by
 obtain ⟨i,z,s⟩:=aG;have aJ: ∀b∈rows,i b<=N:=λb k=>eT (o3 k) s;have bf:rows.length<=N:=eT (qq λx o=>(z x o).pos) s;obtain ⟨aP,an⟩:=dE (l:=rows) (Q:=λb ad aS=> ∀(H:af) (a:List (Nat×Nat)) (ah:Int),Tidy H->eC a->a.length+i b<=1048560->
  ∃f,eC f/\f.length<=a.length+i b/\ ∀tm,az G (X G R ad aS) 185 [.agg b,.int .i64 ah,Ac H] (dr H a) tm= .ok (.av []) tm (dr H f)) λb j=>abD (z b j) (by have:=aJ b j;omega)
 obtain ⟨aQ,ao⟩:=Um;refine ⟨aP+aQ+rows.length+3,λad n bc bg x H u o=> ?_⟩;obtain ⟨n,rfl⟩: ∃aR,n=aR+2:=⟨n-2,ab⟩;have ax: ∀b∈rows,b.length=6:=λb j=>(z b j).i0.len;refine hg (aL.at (m:=19) rfl rfl rfl rfl rfl (by simp only [aO,o.aD];rfl) rfl rfl ?_);simp only [go_sem,o.O,o.len];generalize bb:a1 _ _ _ _ _ _ _ _ _ _=ag;revert ag;refine hz _ _ _ _ (σ:=List (Nat×Nat)) (λ_=> [(3,.ptr H.n (q 22) 0 1),(6,x)]) (λa=>dr H a) (λw a=>eC a/\a.length<=((rows.take w).map i).sum) 20 rows.length [] rfl rfl (λ_=>rfl) rfl ⟨λ_ j=>(by cases j),fV _⟩
  dC ab ab ?_ ?_
 . intro w ae tm aw E hF;obtain ⟨E,bh⟩:=E;obtain ⟨b,D⟩:=bA aw;have k:=aV D;have bk:((rows.take (w+1)).map i).sum=((rows.take w).map i).sum+i b:=by rw [fg,D];simp
   have bl:=si i rows (w+1);obtain ⟨aW,aH,bj,aj⟩:=an ad (n+1) ab ab b k H ae 1 u E ab;obtain ⟨p,aC,aE,aF,-⟩:=(o.up u.1 (Ad H ae 0)).at ax D;obtain ⟨bp,bq,aY,a6,aZ,a7,br,bs,bm,bn,aN,-,-⟩:=(z b k).i0.ea;obtain ⟨rfl,aK,aM⟩:=aN.c;simp only [go_sem,hF,o.O,aC,aE,aF,aK.J,aM.J,aj];exact au.next aW rfl ⟨aH,ab⟩ ay
 . rintro a tm ⟨r,W⟩ hF;rw [bX] at W;have T:a.length<1048560:=ab;have t:=λtm=>Dy (ad:=ad) (n:=n) (H:=H) T tm;have B:=ph a
   cases a with
   | nil=>
     have y:=Un (ad:=ad) (n:=n);simp only [go_sem,hF,E_,Ae,t];rw [zV];simp only [go_sem,hF,cO,y];exact .inl ⟨.V,⟨[],.inl ⟨rfl,rfl⟩,(λ_ j=>by cases j),fV _⟩,e.mk rfl u (Ad H _ _)⟩
   | cons d a=>
     obtain ⟨h,g,A⟩: ∃h g,eW (d::a)=h::g:=by
      cases s:eW (d::a) with
      |nil=>rw [s] at B;simp at B
      |cons h g=>exact ⟨h,g,rfl⟩
     rw [A] at B;simp only [cl] at B T W;have aB:eC (h::g):=by rw [<-A];exact r.sort
     have k:g.length=a.length:=ab;have L:eY 9 22 H ((d::a).length-1) (eW (d::a))=mq H (cO 9 H.n (d::a)) (q 9+a.length) (q 9+a.length) (h::g):=by rw [A];simp only [eY,cO,k,cl,tD]
     have hT:Tidy (mq H (cO 9 H.n (d::a)) (q 9+a.length) (q 9+a.length) (h::g)):=by
      rw [<-L,A];have C:=Fb u (h::g);refine ⟨C.1,λaU r=> ?_⟩;simp only [eY,af.push,b2] at r;rcases r with rfl|rfl|r
      . exact ba.2 λv F=>by obtain ⟨p,-,rfl⟩:=cd.1 F;rfl
      . exact C.2 _ (by simp [eY,af.push])
      . exact C.2 aU (by simp [eY,af.push,r])
     obtain ⟨f,I,K,aA,bd,aq,y⟩:=ao ad (n+1) ab ab H (cO 9 H.n (d::a)) (q 9+a.length) (q 9+a.length) (a.length+1) (h::g) hT aB (by simp [k]) ab ab (aT _) ab ab;have P:(mq H (cO 9 H.n (d::a)) (q 9+a.length) (q 9+a.length) (h::g)).get H.n=some (.cells (q 22) (q 22) 0 [cO 9 H.n (d::a)]):=ta _ _ _;have M:(dr H (d::a)).get H.n=some (.cells (q 22) (q 22) 0 [cO 9 H.n (d::a)]):=E_ H (d::a) 0;have t:=λtm=>Dy (ad:=ad) (n:=n) (H:=H) (l:=d::a) da tm;rw [L] at t;have ak:cO 9 H.n (d::a)= .ref (H.n+1) (q 9+a.length) 0 1 (a.length+1) false:=rfl;rw [ak] at t y M P;generalize a8:mq H (.ref (H.n+1) (q 9+a.length) 0 1 (a.length+1) false) (q 9+a.length) (q 9+a.length) (h::g)=aX at*;simp only [go_sem,hF,M,t,P,y];have ar:(mq H (.ref (H.n+1) (q 9+a.length) 0 1 (a.length+1) false) (q 9+a.length) K (f++I)).get (H.n+1)=some (.cells (q 9+a.length) K 0 ((f++I).map λp=>aa.str p.1 p.2)):=dL (H.push _) _;have s:sub ((f++I).map λp=>aa.str p.1 p.2) 0 (f.length*1)=some (f.map iu).flatten:=by unfold sub;rw [if_pos ai,rF,HK,vR,C7 ai]
     have Z:=o9 49 (H.n+1) (q 9+a.length) 0 1 f.length false _ ar aq al s (λv F=>fi _ 49 v (fr 20 49 v al ((Mo f).aI v F)));have S:=k3 1 (f.map iu) (aaz f);rw [di] at S;rw [S] at Z;exact .inl ⟨_,⟨f,.inr ⟨false,rfl⟩,aA,ab⟩,_,_,_,rfl,Z,gV u ((((U.refl H).push _).push _).set ab _) rfl⟩
def Az (k:Int) (y z v:aa):Prop:= ∃e a b c d,v= .W 0 [.int .i64 k,.int .i64 e,.str a b,.str c d,y,z]
theorem Jy {r k n l1 m1 j l y z ky i} (p:kX r k n l1 m1 j l y z ky i)
  (Z:k=7\/k=8->dt 295 [.agg r,.str 4 1953720652] dI bQ/\dt 295 [.agg r,.str 3 7364941] dI bQ):dt 231 [.agg r] dI bQ:=by
 obtain ⟨aB,u⟩:=qn l1 m1 p.c5;obtain ⟨aC,v⟩:=qn j l p.pw;obtain ⟨aD,w⟩:=(UP n).bW;obtain ⟨aF,B⟩:=(US l1 m1).bW;obtain ⟨aG,C⟩:=(UO l1 m1 p.c5).bW;obtain ⟨aH,D⟩:=(UQ l1 m1 p.c5 p.s1).bW;have ax: ∃ad,∀e n,ad<=e->ad<=n-> ∀b,Tidy b->(k=7\/k=8)->(∃o,∀a,az G (X G R e n) 295 [.agg r,.str 4 1953720652] b a= .ok (.bool o) a b)/\
   ∃o,∀a,az G (X G R e n) 295 [.agg r,.str 3 7364941] b a= .ok (.bool o) a b:=by
  by_cases F:k=7\/k=8
  . obtain ⟨A,aA⟩:=(Z F).1.bW;obtain ⟨o,E⟩:=(Z F).2.bW;exact ⟨A+o,λe n u v b Y _=>⟨aA e n ab ab b Y,E e n ab ab b Y⟩⟩
  . exact ⟨0,λ_ _ _ _ _ _ p=>absurd p F⟩
 obtain ⟨aI,q⟩:=ax;refine aL.run (m:=166) rfl rfl rfl rfl rfl rfl rfl rfl (aB+aC+aD+aF+aG+aH+aI) λe t aR aS b s=> ?_;have u:=λa=>u e t ab ab b a s;have v:=λa=>v e t ab ab b a s;obtain ⟨aK,w⟩:=w e t ab ab b s;obtain ⟨aN,B⟩:=B e t ab ab b s;obtain ⟨aO,C⟩:=C e t ab ab b s;obtain ⟨aP,D⟩:=D e t ab ab b s;have q:=q e t ab ab b s;obtain ⟨rfl,f,h⟩:=p.c;refine ak.seq (λa g=>b=g/\aM 167 [(1,.W 0 [.int .i64 k,.int .i64 n,.str l1 m1,.str j l,y,z]),(3,.av [])] a) ?_ ?_
 . simp only [go_sem,f.J,h.J];exact dD.mk ⟨rfl,dC⟩
 rintro a _ ⟨rfl,hF⟩;refine ak.seq (λa g=>b=g/\aM 167 [(1,.W 0 [.int .i64 k,.int .i64 n,.str l1 m1,.str j l,y,z]),(3,.W 0 [.int .i64 k,.int .i64 0,.str 0 0,.str 0 0,y,z])] a) ?_ ?_
 . simp only [go_sem,hF,f.J,h.J,f.O,h.O,f.cells,h.cells];exact dD.mk ⟨rfl,ay⟩
 clear hF;rintro a _ ⟨rfl,hF⟩;refine ak.seq (λa g=>b=g/\aM 167 [(1,.W 0 [.int .i64 k,.int .i64 n,.str l1 m1,.str j l,y,z]),(3,.W 0 [.int .i64 k,.int .i64 0,.str 0 0,.str 0 0,y,z])] a/\dI (M a 4)) ?_ ?_
 . simp only [go_sem,hF,f.O,f.len];refine dD.aE ?_ ?_<;>intro d<;>simp only [go_sem,d,hF,h.O,h.len]
   all_goals exact dD.mk ⟨rfl,ay,by simp only [go_sem,hF];exact ⟨_,rfl⟩⟩
 clear hF;rintro a _ ⟨rfl,hF,ae,E⟩;refine ak.seq (λa g=>b=g/\aM 167 [(1,.W 0 [.int .i64 k,.int .i64 n,.str l1 m1,.str j l,y,z]),(3,.W 0 [.int .i64 k,.int .i64 0,.str 0 0,.str 0 0,y,z]),(4,.bool ae),(5,.bool false)] a) ?_ ?_
 . simp only [go_sem];exact dD.mk ⟨rfl,by simp only [go_sem,hF,E]⟩
 clear hF E;rintro a _ ⟨rfl,hF⟩;refine ak.seq (λa g=>b=g/\aM 167 [(1,.W 0 [.int .i64 k,.int .i64 n,.str l1 m1,.str j l,y,z])] a/\Az k y z (M a 3)/\dI (M a 5)) ?_ ?_
 . have done: ∀(x:List aa),aM 167 [(1,.W 0 [.int .i64 k,.int .i64 n,.str l1 m1,.str j l,y,z])] x->Az k y z (M x 3)->dI (M x 5)->dD (λa g=>b=g/\aM 167 [(1,.W 0 [.int .i64 k,.int .i64 n,.str l1 m1,.str j l,y,z])] a/\Az k y z (M a 3)/\dI (M a 5)) {} (.normal x b []):=λx A o H=>dD.mk ⟨rfl,A,o,H⟩;by_cases I:k=1
   . subst I;simp only [go_sem,hF]
     iterate 6 all_goals try (refine dD.aE ?_ ?_<;>intro d<;>simp only [go_sem,d,hF,w])
     all_goals exact done _ ay (by simp only [go_sem,hF];exact ⟨_,_,_,_,_,rfl⟩) (by simp only [go_sem,hF];exact ⟨_,rfl⟩)
   have ah:(k==1)=false:=by simpa using I
   by_cases K:k=2
   . subst K;simp only [go_sem,hF]
     iterate 6 all_goals try (refine dD.aE ?_ ?_<;>intro d<;>simp only [go_sem,d,hF,w])
     all_goals exact done _ ay (by simp only [go_sem,hF];exact ⟨_,_,_,_,_,rfl⟩) (by simp only [go_sem,hF];exact ⟨_,rfl⟩)
   have ai:(k==2)=false:=by simpa using K
   by_cases L:k=3
   . subst L;simp only [go_sem,hF]
     iterate 3 all_goals try (refine dD.aE ?_ ?_<;>intro d<;>simp only [go_sem,d,hF,B])
     all_goals exact done _ ay (by simp only [go_sem,hF];exact ⟨_,_,_,_,_,rfl⟩) (by simp only [go_sem,hF];exact ⟨_,rfl⟩)
   have aj:(k==3)=false:=by simpa using L
   by_cases N:k=4
   . subst N;simp only [go_sem,hF]
     iterate 3 all_goals try (refine dD.aE ?_ ?_<;>intro d<;>simp only [go_sem,d,hF,C])
     all_goals exact done _ ay (by simp only [go_sem,hF];exact ⟨_,_,_,_,_,rfl⟩) (by simp only [go_sem,hF];exact ⟨_,rfl⟩)
   have al:(k==4)=false:=by simpa using N
   by_cases P:k=5
   . subst P;simp only [go_sem,hF,D]
     iterate 4 all_goals try (refine dD.aE ?_ ?_<;>intro d<;>simp only [go_sem,d,hF,f.O,h.O,f.len,h.len])
     all_goals exact done _ ay (by simp only [go_sem,hF];exact ⟨_,_,_,_,_,rfl⟩) (by simp only [go_sem,hF];exact ⟨_,rfl⟩)
   have an:(k==5)=false:=by simpa using P
   by_cases Q:k=6
   . subst Q;simp only [go_sem,hF]
     iterate 8 all_goals try (refine dD.aE ?_ ?_<;>intro d<;>simp only [go_sem,d,hF,u,v])
     all_goals exact done _ ay (by simp only [go_sem,hF];exact ⟨_,_,_,_,_,rfl⟩) (by simp only [go_sem,hF];exact ⟨_,rfl⟩)
   have ao:(k==6)=false:=by simpa using Q
   by_cases S:k=7
   . subst S;obtain ⟨⟨af,q⟩,ag,V⟩:=q ab;simp only [go_sem,hF,q]
     iterate 2 all_goals try (refine dD.aE ?_ ?_<;>intro d<;>simp only [go_sem,d,hF,u,v,w,B,C,D,f.J,h.J,f.O,h.O,f.len,h.len,q])
     all_goals exact done _ ay (by simp only [go_sem,hF];exact ⟨_,_,_,_,_,rfl⟩) (by simp only [go_sem,hF];exact ⟨_,rfl⟩)
   have aq:(k==7)=false:=by simpa using S
   by_cases T:k=8
   . subst T;obtain ⟨⟨af,q⟩,ag,V⟩:=q ab;simp only [go_sem,hF,V]
     iterate 3 all_goals try (refine dD.aE ?_ ?_<;>intro d<;>simp only [go_sem,d,hF,f.O,f.len])
     all_goals exact done _ ay (by simp only [go_sem,hF];exact ⟨_,_,_,_,_,rfl⟩) (by simp only [go_sem,hF];exact ⟨_,rfl⟩)
   have ar:(k==8)=false:=by simpa using T
   simp only [go_sem,hF,ah,ai,aj,al,an,ao,aq,ar];exact done _ ay (by simp only [go_sem,hF];exact ⟨_,_,_,_,_,rfl⟩) (by simp only [go_sem,hF];exact ⟨_,rfl⟩)
 clear hF;rintro a _ ⟨rfl,hF,⟨aT,A,o,H,aQ,au⟩,aJ,aw⟩;simp only [go_sem,hF,aw]
 iterate 3 all_goals try (refine ak.aE ?_ ?_<;>intro d<;>simp only [go_sem,d,hF,au])
 all_goals exact ak.bW s (U.refl _)
def Jr {r k n l1 m1 s t y z ky i} (e:kX r k n l1 m1 s t y z ky i) (T: ∀x∈i,aN x) (l m:Nat):dt 295 [.agg r,.str l m] dI bQ:=by
 cases i with
 | nil=>
   refine aL.run (m:=36) rfl rfl rfl rfl rfl rfl rfl rfl 0 λd u N P a f=> ?_;obtain ⟨rfl,q,b⟩:=e.c;simp only [go_sem,q.J,b.J,b.O,b.len];exact ak.bW f (U.refl _)
 | cons x i=>
   obtain ⟨A,af,C,E,Y,aa,ag,ah,ad,ae,p⟩: ∃k n l1 m1 s t y z ky i,kX x k n l1 m1 s t y z ky i:=by cases T x (dF ..) with|mk e _ _=>exact ⟨_,_,_,_,_,_,_,_,_,_,e⟩
   obtain ⟨V,g⟩:=qn C E p.c5;have K: ∃w,∀d n,w<=d->w<=n-> ∀a,Tidy a->A=6-> ∃D,∀j,az G (X G R d n) 231 [.agg x] a j= .ok (.bool D) j a:=by
    by_cases M:A=6
    . obtain ⟨B,L⟩:=(Jy p (λe=>by omega)).bW;exact ⟨B,λd n g h a I _=>L d n g h a I⟩
    . exact ⟨0,λ_ _ _ _ _ _ e=>absurd e M⟩
   obtain ⟨W,h⟩:=K;refine aL.run (m:=36) rfl rfl rfl rfl rfl rfl rfl rfl (V+W) λd u N P a f=> ?_;have g:=λj=>g d u ab ab a j f;have h:=h d u ab ab a f;obtain ⟨rfl,q,b⟩:=e.c;obtain ⟨rfl,Q,S⟩:=p.c;have F:(((List.length i+1:Nat):Int)==0)=false:=da;simp only [go_sem,q.J,b.J,Q.J,S.J,b.O,b.len,F,b.vJ (k:=6) rfl rfl];refine ak.aE ?_ ?_<;>intro o<;>simp only [go_sem,o]
   . refine ak.aE ?_ ?_<;>intro v<;>simp only [go_sem,v]
     . obtain ⟨Z,H⟩:=h (by simpa using v);simp only [go_sem,H]
       iterate 4 all_goals try (refine ak.aE ?_ ?_<;>intro o<;>simp only [go_sem,o,g])
       all_goals exact ak.bW f (U.refl _)
     . exact ak.bW f (U.refl _)
   . exact ak.bW f (U.refl _)
def VK {r} (a:aN r):dt 231 [.agg r] dI bQ:=by
 cases a with
 |mk a _ b=>exact Jy a λ_=>⟨Jr a b _ _,Jr a b _ _⟩
def om:Nat->List aa->Prop
 |0,_=>False
 |c+1,d=> ∀b a,d[4]? =some b->F b a-> ∀e∈a,om c e
abbrev o1 (H:af) (a:Int) (b:Bool):af:=H.push (.cells (q 201) (q 201) 0 [.int .i64 a,.bool b])
def qe {x:aa} {a b:Y} (c:F x a) (g:F x b):a=b:=by
 rcases c with ⟨rfl,rfl⟩|⟨d,rfl⟩<;>rcases g with ⟨c,rfl⟩|⟨e,c⟩<;>first|rfl|(cases c;rfl)|cases c
def tT {rows:Y} {j:Nat} {r x:List aa} (b:rows[j]? =some r) (a:x∈rows.take (j+1)):x∈rows.take j\/x=r:=by
 rw [fg,b] at a;simpa using a
def FH (H:af) (b:Bool) (d:Int) (r:List aa) (v:aa) (H':af):Prop:=v= .av []/\ ∃c a,H'=o1 H c a/\(a=true->b=true/\om (61-d).toNat r)
def VB {r} (ar:aN r):qX G R 155 (λi:af×Int×Bool×Int=> [.ptr i.1.n (q 201) 0 2,.agg r,.int .i64 i.2.2.2]) (λi=>o1 i.1 i.2.1 i.2.2.1) (λi=>Tidy i.1/\0<=i.2.2.2/\i.2.2.2<=61)
    (λi v H'=>FH i.1 i.2.2.1 i.2.2.2 r v H'):=by
 induction ar with
 | @mk r z n A C B D t E T Y w L an aC _=>
 obtain ⟨aD,H⟩:=(VK (.mk w L an)).bW;obtain ⟨aF,ag⟩:=qX.all aC;refine qX.run (m:=88) rfl rfl rfl rfl (λ_=>rfl) (λ_=>rfl) rfl rfl (aD+aF+T.length+Y.length+1) λZ aa aH aI i al=> ?_;obtain ⟨b,u,j,a⟩:=i;obtain ⟨N,aj,K⟩:=al;simp only at N aj K|-;obtain ⟨rfl,-,-,-,-,o,Q,ao,aq⟩:=w;have hT: ∀u j,Tidy (o1 b u j):=λu j=>N.push rfl;refine df.seq (λf H'=>o1 b u j=H'/\aM 91 [(0,.ptr b.n (q 201) 0 2),(2,.int .i64 a),(4,.W 0 [.int .i64 z,.int .i64 n,.str A C,.str B D,t,E])] f) ?_ ?_
 . simp only [go_sem,o.J,Q.J];exact dD.mk ⟨rfl,dC⟩
 rintro f _ ⟨rfl,hF⟩;refine df.seq (λf H'=>(∃h,o1 b h j=H')/\aM 91 [(0,.ptr b.n (q 201) 0 2),(2,.int .i64 a),(4,.W 0 [.int .i64 z,.int .i64 n,.str A C,.str B D,t,E])] f) ?_ ?_
 . simp only [go_sem,hF];exact dD.mk ⟨⟨_,rfl⟩,ay⟩
 clear hF;rintro f _ ⟨⟨h,rfl⟩,hF⟩;obtain ⟨ae,H⟩:=H Z aa ab ab (o1 b h j) (hT _ _);have s: ∀h:Int,df (FH b j a [.int .i64 z,.int .i64 n,.str A C,.str B D,t,E]) (b.n+1) (.ret (.av []) (o1 b h false)):=λh=>df.mk rfl ⟨rfl,h,false,ft (aT _),λw=>by cases w⟩
 cases j with
 | false=>
   simp only [go_sem,hF];exact s _
 | true=>
   simp only [go_sem,hF];refine df.aE ?_ ?_<;>intro I<;>simp only [go_sem,I,hF]
   rotate_left
   . exact s _
   refine df.aE ?_ ?_<;>intro K<;>simp only [go_sem,K,hF,H]
   rotate_left
   . exact s _
   cases ae with
   | false=>
     simp only [go_sem];exact s _
   |true=>
   simp only [go_sem,hF];have I:a<=60:=by simpa using I
   have ak:IntKind.i64.wrap (a+1)=a+1:=wrap64 _ ab ab;simp only [go_sem,o.O,o.len];generalize ah:a1 _ _ _ _ _ _ _ _ _ _=F;revert F;refine hz _ _ _ _ (σ:=Int) (λ_=> [(0,.ptr b.n (q 201) 0 2),(2,.int .i64 a),(4,.W 0 [.int .i64 z,.int .i64 n,.str A C,.str B D,t,E]),(43,t)]) (λd=>o1 b d true) (λS _=> ∀g∈T.take S,om (60-a).toNat g)
    91 T.length h rfl rfl (λ_=>rfl) rfl ai ay ab ao ?_ ?_
   . intro S d f X y p;obtain ⟨g,P⟩:=bA X;have M:=aV P;obtain ⟨v,H',⟨rfl,ad,aG,rfl,V⟩,U⟩:=ag Z aa ab ab g M (b,d,true,a+1) ⟨N,by show 0<=a+1;omega,by show a+1<=61;omega⟩;simp only at V U;have ax:=(L g M).len;have e:=L g M
     cases e with
     |mk e _ _=>
     obtain ⟨rfl,az,aA⟩:=e.c;simp only [go_sem,p,o.O,o.a_ (k:=6) P ax,ak,az.J,aA.J,U];refine au.aE ?_ ?_<;>intro l<;>simp only [go_sem,l]
     . refine au.next ad (by subst l;rfl) (λg e=> ?_) (by simp only [go_sem,p]);rcases tT P e with e|rfl
       . exact y g e
       . have:=(V l).2
         rwa [show 61-(a+1)=60-a by omega] at this
     . subst l;exact au.stop rfl (by simp only [go_sem];exact s _)
   . intro d f y p;rw [bX] at y;simp only [go_sem,p,Q.O,Q.len];generalize ah:a1 _ _ _ _ _ _ _ _ _ _=F;revert F;refine hz _ _ _ _ (σ:=Int×Bool) (λ_=> [(0,.ptr b.n (q 201) 0 2),(2,.int .i64 a)]) (λd=>o1 b d.1 d.2) (λ_ _=>True) 91 Y.length (d,true) rfl rfl (λ_=>rfl) rfl trivial (by simp only [go_sem,p]) ab aq ?_ ?_
     . intro S d f X _ x;simp only [go_sem,x]
       iterate 2 all_goals try (refine au.aE ?_ ?_<;>intro l<;>simp only [go_sem,l,x])
       all_goals exact au.next (_,_) rfl trivial (by simp only [go_sem,x])
     . intro d f _ x;simp only [go_sem];refine df.mk rfl ⟨rfl,d.1,d.2,ft (aT _),λ_=>⟨rfl,?_⟩⟩;rw [show (61-a).toNat=(60-a).toNat+1 by omega];intro aK aJ aB aw g e;cases aB;rw [qe aw o] at e;exact y g e
def Dz {r} (e:aN r):dt 82 [.agg r] (j9 (om 60 r)) bQ:=by
 obtain ⟨k,h⟩:=VB e;refine aL.run (m:=8) rfl rfl rfl rfl rfl rfl rfl rfl k λl n s t g f=> ?_;obtain ⟨u,o,⟨rfl,p,q,rfl,d⟩,b⟩:=h l n ab ab (g,0,true,1) ⟨f,by show (0:Int)<=1;decide,by show (1:Int)<=61;decide⟩;simp only at d b
 cases e with
 |mk a _ _=>
 obtain ⟨rfl,i,j⟩:=a.c;simp only [go_sem,i.J,j.J,b];exact ak.gg f ((U.refl _).push _) λa=>(d a).2
end Go.aj
