import Derived.Test.YtnopaopphmjnmaaGreatDoorMBMcO
import Derived.Test.YtnopaopphmjnmaaGreatDoorCards
import Derived.Deep.DeepHandedRow
import Derived.Lib.LaidTab
import Derived.MakeChecks
set_option linter.all false
set_option maxRecDepth 100000
namespace Go.Proofs.YtnopaopphmjnmaaGreatDoor
open Go Go.Abs Go.RowKit
def isI(a:AV):Bool:=match a with
 |.int _ _=>true
 |_=>false
def agq{a:AV}(h:isI a=true){w:World}{γ γ':G}{v:Value}(hr:aB w γ a v):v.oneCell'=true/\aB w γ' a v:=by
 cases hr<;>simp[isI]at h;exact⟨rfl,.int _ _⟩
def Ma{P:Program}{W:World}{name:String}{d:DataW Unit}{rest:List (String×DataW Unit)}{g:Nat}{t:TypeId}{D:Nat}{row:List AV}(h:∃ps,DataW.LaidVars P W ((name,d)::rest) ps)
  (hg:P.globalNamed name=some g)(hty:(P.globals[g]?).map (·.type)=some t)(bT:WY P D t=true)(hav:cA P D t d=row)(hi:row.all isI=true)(aJ:row≠[]):aB W (G0 DR) (.ep row 0) (.pointer (some ⟨g,0,none⟩)):=by
 obtain⟨ps,g',t',cs,bw,p,q,hg',X0,aw9,hd,_,_⟩:=h;obtain rfl:=Option.some.inj (hg.symm.trans hg');obtain rfl:=Option.some.inj (hty.symm.trans X0);obtain⟨_,hr,_,_⟩:=jf D bw t cs.toList d p hd bT;rw[hav]at hr
 have bK:∀(j:Nat)(c:AV),row[j]?=some c->W.cell? ⟨g,j,none⟩=some (cs.toList.getD j undef)/\(cs.toList.getD j undef).oneCell'=true/\aB W (G0 DR).cT c (cs.toList.getD j undef):=by
  intro j c hj;have ai:j<row.length:=(zza.1 hj).1;have cU:j<cs.toList.length:=by rw[<- hr.1];exact ai
  have hv:cs.toList[j]?=some (cs.toList.getD j undef):=by rw[zzas,zzad cU];rfl
  have hc:=World.var?_cell hg aw9 j;have h1:=hr.2 j c _ hj hv;have h2:isI c=true:=zzbg.1 hi c (zzac hj);obtain⟨h3,h4⟩:=agq h2 (γ':=(G0 DR).cT) h1;refine⟨?_,h3,h4⟩;rw[hc,<- zzcb];exact hv
 have hsz:g<W.heap.size:=by
  obtain⟨a,r,rfl⟩:=zzeu aJ;have:=(bK 0 a rfl).1;simp only[World.cell?]at this;rcases zzaa g W.heap.size with h|h
  ·exact h
  rw[zzcy (by omega)]at this;simp at this
 refine aB.ep (o:=0) (b:=g) (off:=0) (fun j=>cs.toList.getD j undef) hsz (fun j c hj=>?_) (fun j c hj=>(bK j c hj).2.2);obtain⟨h1,h2,_⟩:=bK j c hj;refine⟨by simpa using h1,trivial,h2⟩
def aaS:cA Tryz.prog 5 344 (Rows.laid_onair_timecode_rates:DataW Unit)=HI:=by
 unfold Rows.laid_onair_timecode_rates;have h3:∀n:Int,cA Tryz.prog 2 3 (.lit (.int .i64 n):DataW Unit)=[I n]:=fun n=>Xy Tryz.underlying3 _ _;have SM:∀n:Int,cA Tryz.prog 3 3 (.lit (.int .i64 n):DataW Unit)=[I n]:=fun n=>Xy Tryz.underlying3 _ _
 have h23:∀a b:Int,cA Tryz.prog 3 47 (.agg [.lit (.int .i64 a),.lit (.int .i64 b)]:DataW Unit)=[I a,I b]:=fun a b=>by
  rw[Ut Tryz.underlying47];simp[h3]
 have axa:∀a b c d:Int,cA Tryz.prog 4 294 (.agg [.agg [.lit (.int .i64 a),.lit (.int .i64 b)],.lit (.int .i64 c),.lit (.int .i64 d)]:DataW Unit)=[I a,I b,I c,I d]:=fun a b c d=>by
  rw[Ut Tryz.underlying294];simp[SM,h23]
 rw[QU Tryz.underlying344];simp only[zzda,zzdr,axa];rfl
def aaQ{W:World}{rest:List (String×DataW Unit)}(h:laidMet Tryz.prog (("onair/timecode.rates",Rows.laid_onair_timecode_rates)::rest) W):∀g,aB W (G0 DR) (az g) (.pointer (some ⟨g,0,none⟩)):=by
 intro g;obtain⟨ps,h,_⟩:=h
 match g with
 |0=>exact Ma (D:=5) ⟨ps,h⟩ (g:=0) (t:=344) (by kernel_rfl) (by kernel_rfl) (by kernel_rfl) aaS (by decide) (by simp[HI])
 |g+1=>exact .junk _
def Yg{m:Int}(h:(Lit.int .i64 m).wf=true):Zc m:=by
 simp[Lit.wf,IntKind.min,IntKind.max,IntKind.bits,IntKind.signed]at h;unfold Zc;omega
def Sz{H:Type}(t:TypeId)(x:DataW H):Prop:=∀k∈x.weights Tryz.prog t,k<=reachBytes
def Sz.all{H:Type}{e:TypeId}{l:List (DataW H)}(h:∀k∈DataW.weightsAll Tryz.prog e l,k<=reachBytes):∀y∈l,Sz e y:=by
 induction l with
 |nil=>intro y hy;cases hy
 |cons a l ih=>
  intro y hy;simp only[DataW.weightsAll,zzal]at h;rcases zzau.1 hy with rfl|hy
  ·exact fun k hk=>h k (.inl hk)
  exact ih (fun k hk=>h k (.inr hk)) y hy
def Sz.slice{H:Type}{t e:TypeId}{bL spare:List (DataW H)}(hu:Tryz.prog.underlying t=some (.slice e))(h:Sz t (.slice bL spare:DataW H)):(bL.length+spare.length)*Tryz.prog.bytesOf e<=reachBytes/\∀y∈bL,Sz e y:=by
 unfold Sz at h;simp only[DataW.weights,hu]at h;refine⟨h _ (by simp),Sz.all fun k hk=>h k (by simp[hk])⟩
def Sz.agg{H:Type}{t:TypeId}{fs:Array Field}{parts:List (DataW H)}(hu:Tryz.prog.underlying t=some (.struct fs))(h:Sz t (.agg parts:DataW H)):∀k∈DataW.weightsEach Tryz.prog (fs.toList.map (·.type)) parts,k<=reachBytes:=by
 unfold Sz at h;simpa only[DataW.weights,hu]using h
def Jt{H:Type}{α:Type}(row:α->List AV)(ok:α->Prop){t e:TypeId}(hu:Tryz.prog.underlying t=some (.slice e)){n:Nat}(gC:∀y:DataW H,Typed Tryz.prog n e y->Sz e y->∃a,ok a/\cA Tryz.prog n e y=row a)
  {x:DataW H}(h:Typed Tryz.prog (n+1) t x)(hs:Sz t x):∃(l:List α)(rt:Rt),(∀a∈l,ok a)/\l.length*Tryz.prog.bytesOf e<=reachBytes/\l.length<=maxLen/\cA Tryz.prog (n+1) t x=[.sl rt (l.map row)]:=by
 rcases F1 hu h with rfl|⟨bL,spare,rfl,hl,he⟩
 ·exact⟨[],.nil,(fun _ h=>by cases h),(by rw[zzcf,zzhk];exact zzcc _),zzcc _,aeS hu⟩
 obtain⟨hz,BY⟩:=hs.slice hu
 have key:∃X:List α,(∀y∈X,ok y)/\bL.map (cA Tryz.prog n e)=X.map row:=by
  clear hl h hz hs;induction bL with
  |nil=>exact⟨[],by simp,rfl⟩
  |cons y ys ih=>
   obtain⟨X,h1,h2⟩:=ih (fun z hz=>he z (by simp[hz])) (fun z hz=>BY z (by simp[hz]));obtain⟨q,hq,hv⟩:=gC y (he y (by simp)) (BY y (by simp));refine⟨q::X,?_,by rw[zzaw,h2,hv];rfl⟩;intro z hz;rcases zzau.1 hz with rfl|hz
   ·exact hq
   exact h1 z hz
 obtain⟨X,h1,h2⟩:=key;have aH:X.length=bL.length:=by have:=congrArg List.length h2;simpa using this.symm
 refine⟨X,.nn,h1,?_,by omega,by rw[amo hu,h2]⟩;rw[aH];refine zzbq (zzb _ (zzgp _ _)) hz
def O2{α:Type}{l:List α}(h:l.length=2):∃a b,l=[a,b]:=by
 match l,h with
 |[a,b],_=>exact⟨a,b,rfl⟩
def O3{α:Type}{l:List α}(h:l.length=5):∃a0 a1 a2 a3 a4,l=[a0,a1,a2,a3,a4]:=by
 match l,h with
 |[a0,a1,a2,a3,a4],_=>exact⟨a0,a1,a2,a3,a4,rfl⟩
def HJ{α:Type}{l:List α}(h:l.length=7):∃a0 a1 a2 a3 a4 a5 a6,l=[a0,a1,a2,a3,a4,a5,a6]:=by
 match l,h with
 |[a0,a1,a2,a3,a4,a5,a6],_=>exact⟨a0,a1,a2,a3,a4,a5,a6,rfl⟩
def aaT{α:Type}{l:List α}(h:l.length=8):∃a0 a1 a2 a3 a4 a5 a6 a7,l=[a0,a1,a2,a3,a4,a5,a6,a7]:=by
 match l,h with
 |[a0,a1,a2,a3,a4,a5,a6,a7],_=>exact⟨a0,a1,a2,a3,a4,a5,a6,a7,rfl⟩
def Sv{α:Type}{l:List α}(h:l.length=11):∃a0 a1 a2 a3 a4 a5 a6 a7 a8 a9 a10,l=[a0,a1,a2,a3,a4,a5,a6,a7,a8,a9,a10]:=by
 match l,h with
 |[a0,a1,a2,a3,a4,a5,a6,a7,a8,a9,a10],_=>exact⟨a0,a1,a2,a3,a4,a5,a6,a7,a8,a9,a10,rfl⟩
def HK{H:Type}{n:Nat}:∀(L:List Field)(parts:List (DataW H)),(∀f∈L,f.type=3)->(∀p∈L.zip parts,Typed Tryz.prog (n+1) p.1.type p.2)->parts.length=L.length->
  ∃l:List Int,l.length=L.length/\(∀m∈l,Zc m)/\(L.zip parts).flatMap (fun p=>cA Tryz.prog (n+1) p.1.type p.2)=l.map I
 |[],parts,_,_,_=>⟨[],rfl,(fun _ h=>by cases h),by cases parts<;>rfl⟩
 |f::L,[],_,_,h=>by simp at h
 |f::L,a::parts,bS,hp,hl=>by
  obtain⟨l,l1,l2,l3⟩:=HK L parts (fun g hg=>bS g (zzes _ hg)) (fun p V0=>hp p (zzes _ V0)) (by simpa using hl);have ha:=hp (f,a) (by simp);have hf:=bS f (by simp);rw[hf]at ha;obtain⟨m,rfl,w⟩:=Xk Tryz.underlying3 ha;refine⟨m::l,by simp[l1],?_,?_⟩
  ·intro k hk;rcases zzau.1 hk with rfl|hk
   ·exact Yg w
   exact l2 k hk
  simp only[zzdg,zzda,hf];rw[Xy Tryz.underlying3,l3];rfl
def j4{H:Type}{t:TypeId}{fs:Array Field}(hu:Tryz.prog.underlying t=some (.struct fs))(bS:∀f∈fs.toList,f.type=3){y:DataW H}{n:Nat}(h:Typed Tryz.prog (n+2) t y):
  ∃l:List Int,l.length=fs.size/\(∀m∈l,Zc m)/\cA Tryz.prog (n+2) t y=l.map I:=by
 obtain⟨parts,rfl,aH,hp⟩:=Uu hu h;rw[Ut hu];obtain⟨l,l1,l2,l3⟩:=HK fs.toList parts bS hp (by simpa using aH);exact⟨l,by simpa using l1,l2,l3⟩
def aaU(s:Sp):Prop:=Zc s.1/\Zc s.2
def DA{H:Type}{t:TypeId}{f g:Field}(hu:Tryz.prog.underlying t=some (.struct #[f,g]))(hf:f.type=3)(hg:g.type=3){y:DataW H}{n:Nat}(h:Typed Tryz.prog (n+2) t y):∃s:Sp,aaU s/\cA Tryz.prog (n+2) t y=Qe s:=by
 obtain⟨l,l1,l2,l3⟩:=j4 hu (by simp[hf,hg]) h;obtain⟨a,b,rfl⟩:=O2 (show l.length=2 from l1);exact⟨(a,b),⟨l2 a (by simp),l2 b (by simp)⟩,l3⟩
def anq(x:It):Prop:=Zc x.id/\Zc x.ki/\Zc x.fr/\Zc x.sp/\Zc x.ra
def anr(x:Cl):Prop:=Zc x.ki/\Zc x.it/\Zc x.fr/\Zc x.to/\Zc x.re/\Zc x.n/\Zc x.a/\Zc x.b
def ans(x:Bk):Prop:=Zc x.id/\Zc x.it/\Zc x.re/\Zc x.fr/\Zc x.to/\Zc x.un/\Zc x.pr
def agr(x:En):Prop:=(Zc x.id/\Zc x.it/\Zc x.fr/\Zc x.ea/\Zc x.la/\Zc x.bo)/\x.al.length<=8796093022208/\∀a∈x.al,aaU a
structure ags (p:Pl):Prop where
 ch:Zc p.ch
 nu:Zc p.nu
 de:Zc p.de
 of:Zc p.of
 ep:Zc p.ep
 rg:Zc p.rg
 ln:Zc p.ln
 fi:Zc p.fi
 sh:∀s∈p.sh,aaU s
 aM:∀s∈p.aM,anq s
 ens:∀s∈p.ens,agr s
 bks:∀s∈p.bks,ans s
 cls:∀s∈p.cls,anr s
 shl:p.sh.length<=8796093022208
 itl:p.aM.length<=8796093022208
 enl:p.ens.length<=8796093022208
 bkl:p.bks.length<=8796093022208
 cll:p.cls.length<=8796093022208
def aaV{H:Type}{y:DataW H}{n:Nat}(h:Typed Tryz.prog (n+2) 76 y):∃x:It,anq x/\cA Tryz.prog (n+2) 76 y=Qm x:=by
 obtain⟨l,l1,l2,l3⟩:=j4 Tryz.underlying76 (by simp) h;obtain⟨a0,a1,a2,a3,a4,rfl⟩:=O3 (show l.length=5 from l1);exact⟨⟨a0,a1,a2,a3,a4⟩,⟨l2 _ (by simp),l2 _ (by simp),l2 _ (by simp),l2 _ (by simp),l2 _ (by simp)⟩,l3⟩
def yu{H:Type}{y:DataW H}{n:Nat}(h:Typed Tryz.prog (n+2) 38 y):∃x:Cl,anr x/\cA Tryz.prog (n+2) 38 y=Qg x:=by
 obtain⟨l,l1,l2,l3⟩:=j4 Tryz.underlying38 (by simp) h;obtain⟨a0,a1,a2,a3,a4,a5,a6,a7,rfl⟩:=aaT (show l.length=8 from l1);exact⟨⟨a0,a1,a2,a3,a4,a5,a6,a7⟩,⟨l2 _ (by simp),l2 _ (by simp),l2 _ (by simp),l2 _ (by simp),l2 _ (by simp),l2 _ (by simp),l2 _ (by simp),l2 _ (by simp)⟩,l3⟩
def HL{H:Type}{y:DataW H}{n:Nat}(h:Typed Tryz.prog (n+2) 159 y):∃x:Bk,ans x/\cA Tryz.prog (n+2) 159 y=Xf x:=by
 obtain⟨l,l1,l2,l3⟩:=j4 Tryz.underlying159 (by simp) h;obtain⟨a0,a1,a2,a3,a4,a5,a6,rfl⟩:=HJ (show l.length=7 from l1);exact⟨⟨a0,a1,a2,a3,a4,a5,a6⟩,⟨l2 _ (by simp),l2 _ (by simp),l2 _ (by simp),l2 _ (by simp),l2 _ (by simp),l2 _ (by simp),l2 _ (by simp)⟩,l3⟩
def Mb:Tryz.prog.bytesOf 76=40:=by kernel_rfl
def agt:Tryz.prog.bytesOf 114=16:=by kernel_rfl
def agu:Tryz.prog.bytesOf 36=72:=by kernel_rfl
def aaW:Tryz.prog.bytesOf 159=56:=by kernel_rfl
def aaX:Tryz.prog.bytesOf 38=64:=by kernel_rfl
def aaY:Tryz.prog.bytesOf 153=16:=by kernel_rfl
def yw(q:En×Rt):List AV:=[I q.1.id,I q.1.it,I q.1.fr,I q.1.ea,I q.1.la,I q.1.bo,.sl q.2 (q.1.al.map Qe)]
def Bl{H:Type}{y:DataW H}{n:Nat}(h:Typed Tryz.prog (n+4) 36 y)(hs:Sz 36 y):∃q:En×Rt,agr q.1/\cA Tryz.prog (n+4) 36 y=yw q:=by
 obtain⟨parts,rfl,aH,hp⟩:=Uu Tryz.underlying36 h;obtain⟨a0,a1,a2,a3,a4,a5,a6,rfl⟩:=HJ aH;have hz:=hs.agg Tryz.underlying36;have t0:=hp (⟨ "ID",3,0,false, "", "",0⟩,a0) (by simp);have t1:=hp (⟨ "Item",3,1,false, "", "",8⟩,a1) (by simp);have t2:=hp (⟨ "Frames",3,2,false, "", "",16⟩,a2) (by simp);have t3:=hp (⟨ "Earliest",3,3,false, "", "",24⟩,a3) (by simp);have t4:=hp (⟨ "Latest",3,4,false, "", "",32⟩,a4) (by simp);have t5:=hp (⟨ "Booking",3,5,false, "", "",40⟩,a5) (by simp);have t6:=hp (⟨ "Alts",34,6,false, "", "",48⟩,a6) (by simp);obtain⟨m0,rfl,w0⟩:=Xk Tryz.underlying3 t0;obtain⟨m1,rfl,w1⟩:=Xk Tryz.underlying3 t1;obtain⟨m2,rfl,w2⟩:=Xk Tryz.underlying3 t2;obtain⟨m3,rfl,w3⟩:=Xk Tryz.underlying3 t3;obtain⟨m4,rfl,w4⟩:=Xk Tryz.underlying3 t4;obtain⟨m5,rfl,w5⟩:=Xk Tryz.underlying3 t5;have hs6:Sz 34 a6:=fun k hk=>hz k (by simp[DataW.weightsEach,hk]);obtain⟨l,rt,l1,l2,l3,l4⟩:=Jt Qe aaU Tryz.underlying34 (fun y hy _=>DA Tryz.underlying114 rfl rfl hy) t6 hs6;rw[agt]at l2;have hr:reachBytes=140737488351232:=rfl;refine⟨(⟨m0,m1,m2,m3,m4,m5,l⟩,rt),⟨⟨Yg w0,Yg w1,Yg w2,Yg w3,Yg w4,Yg w5⟩,by simp only;omega,l1⟩,?_⟩;rw[Ut Tryz.underlying36];simp only[zzdg,zzeg,zzda,zzdr];rw[Xy Tryz.underlying3,Xy Tryz.underlying3,Xy Tryz.underlying3,Xy Tryz.underlying3,Xy Tryz.underlying3,Xy Tryz.underlying3,l4];rfl
def aaZ(l:List (En×Rt))(rt:Rt):Wk (.sl rt (l.map yw)) (.sl .ro ((l.map (·.1)).map Qd)):=by
 refine Wk.trans (Wk.sl _ _) ?_;rw[zzcs];refine Wk.rows l yw (Qd ∘ (·.1)) (fun _=>rfl) fun a j c' h=>?_
 match j,h with
 |0,h=>exact⟨_,rfl,by cases h;exact Wk.refl _⟩
 |1,h=>exact⟨_,rfl,by cases h;exact Wk.refl _⟩
 |2,h=>exact⟨_,rfl,by cases h;exact Wk.refl _⟩
 |3,h=>exact⟨_,rfl,by cases h;exact Wk.refl _⟩
 |4,h=>exact⟨_,rfl,by cases h;exact Wk.refl _⟩
 |5,h=>exact⟨_,rfl,by cases h;exact Wk.refl _⟩
 |6,h=>exact⟨_,rfl,by cases h;exact Wk.sl _ _⟩
 |j+7,h=>simp[Qd]at h
abbrev PlT:=Pl×List (En×Rt)×Rt×Rt×Rt×Rt×Rt
def yx(q:PlT):Pl:={q.1 with ens:=q.2.1.map (·.1)}
def DB(q:PlT):List AV:=[I q.1.ch,I q.1.nu,I q.1.de,I q.1.of,.sl q.2.2.1 (q.1.sh.map Qe),I q.1.ep,I q.1.rg,I q.1.ln,I q.1.fi,.sl q.2.2.2.1 (q.1.aM.map Qm),.sl q.2.2.2.2.1 (q.2.1.map yw),.sl q.2.2.2.2.2.1 (q.1.bks.map Xf),.sl q.2.2.2.2.2.2 (q.1.cls.map Qg)]
def HM{H:Type}{x:DataW H}{n:Nat}(h:Typed Tryz.prog (n+6) 56 x)(hs:Sz 56 x):∃q:PlT,ags (yx q)/\cA Tryz.prog (n+6) 56 x=DB q:=by
 obtain⟨parts,rfl,aH,hp⟩:=Uu Tryz.underlying56 h;obtain⟨a0,a1,a2,a3,a4,a5,a6,a7,a8,a9,a10,rfl⟩:=Sv aH;have hz:=hs.agg Tryz.underlying56;have t0:=hp (⟨ "Channel",3,0,false, "", "",0⟩,a0) (by simp);have t1:=hp (⟨ "Rate",47,1,false, "", "",8⟩,a1) (by simp);have t2:=hp (⟨ "Zone",50,3,false, "", "",24⟩,a2) (by simp);have t3:=hp (⟨ "Epoch",3,5,false, "", "",56⟩,a3) (by simp);have t4:=hp (⟨ "Regions",3,6,false, "", "",64⟩,a4) (by simp);have t5:=hp (⟨ "Length",3,7,false, "", "",72⟩,a5) (by simp);have t6:=hp (⟨ "Fill",3,8,false, "", "",80⟩,a6) (by simp);have t7:=hp (⟨ "Items",51,9,false, "", "",88⟩,a7) (by simp);have t8:=hp (⟨ "Entries",52,10,false, "", "",112⟩,a8) (by simp);have t9:=hp (⟨ "Bookings",53,11,false, "", "",136⟩,a9) (by simp);have t10:=hp (⟨ "Clauses",54,12,false, "", "",160⟩,a10) (by simp);obtain⟨m0,rfl,w0⟩:=Xk Tryz.underlying3 t0;obtain⟨m3,rfl,w3⟩:=Xk Tryz.underlying3 t3;obtain⟨m4,rfl,w4⟩:=Xk Tryz.underlying3 t4;obtain⟨m5,rfl,w5⟩:=Xk Tryz.underlying3 t5;obtain⟨m6,rfl,w6⟩:=Xk Tryz.underlying3 t6;obtain⟨r,⟨r1,r2⟩,atw⟩:=DA Tryz.underlying47 rfl rfl t1;obtain⟨zp,rfl,axb,zpp⟩:=Uu Tryz.underlying50 t2;obtain⟨z0,z1,rfl⟩:=O2 axb;have u0:=zpp (⟨ "Offset",3,0,false, "", "",0⟩,z0) (by simp);have u1:=zpp (⟨ "Shifts",48,1,false, "", "",8⟩,z1) (by simp);obtain⟨mo,rfl,wo⟩:=Xk Tryz.underlying3 u0;have s1:Sz 48 z1:=fun k hk=>hz k (by simp[DataW.weightsEach,DataW.weights,Tryz.underlying50,hk]);have s7:Sz 51 a7:=fun k hk=>hz k (by simp[DataW.weightsEach,hk]);have s8:Sz 52 a8:=fun k hk=>hz k (by simp[DataW.weightsEach,hk]);have s9:Sz 53 a9:=fun k hk=>hz k (by simp[DataW.weightsEach,hk]);have s10:Sz 54 a10:=fun k hk=>hz k (by simp[DataW.weightsEach,hk]);have hr:reachBytes=140737488351232:=rfl;obtain⟨sh,rt1,sh1,sh2,_,sh4⟩:=Jt Qe aaU Tryz.underlying48 (fun y hy _=>DA Tryz.underlying153 rfl rfl hy) u1 s1;obtain⟨it,rt7,it1,it2,_,it4⟩:=Jt Qm anq Tryz.underlying51 (fun y hy _=>aaV hy) t7 s7;obtain⟨en,rt8,en1,en2,_,en4⟩:=Jt yw (fun q=>agr q.1) Tryz.underlying52 (fun y hy hz=>Bl hy hz) t8 s8;obtain⟨bk,rt9,bk1,bk2,_,bk4⟩:=Jt Xf ans Tryz.underlying53 (fun y hy _=>HL hy) t9 s9;obtain⟨cl,axc,cl1,cl2,_,cl4⟩:=Jt Qg anr Tryz.underlying54 (fun y hy _=>yu hy) t10 s10;rw[aaY]at sh2;rw[Mb]at it2;rw[agu]at en2;rw[aaW]at bk2;rw[aaX]at cl2;refine⟨(⟨m0,r.1,r.2,mo,sh,m3,m4,m5,m6,it,[],bk,cl⟩,en,rt1,rt7,rt8,rt9,axc),⟨Yg w0,r1,r2,Yg wo,Yg w3,Yg w4,Yg w5,Yg w6,sh1,it1,?_,bk1,cl1,by simp only[yx];omega,by simp only[yx];omega,by simp only[yx,zzbe];omega,by simp only[yx];omega,by simp only[yx];omega⟩,?_⟩
 ·intro s hs;obtain⟨q,hq,rfl⟩:=zzay.1 hs;exact en1 q hq
 rw[Ut Tryz.underlying56];simp only[zzdg,zzeg,zzda,zzdr];rw[Xy Tryz.underlying3,Xy Tryz.underlying3,Xy Tryz.underlying3,Xy Tryz.underlying3,Xy Tryz.underlying3,it4,en4,bk4,cl4,Ut Tryz.underlying50];simp only[zzdg,zzeg,zzda,zzdr];rw[Xy Tryz.underlying3,sh4,atw];rfl
def aaR{H:Type}{x:DataW H}{n:Nat}(h:Typed Tryz.prog (n+6) 56 x)(hs:Sz 56 x):∃p:Pl,ags p/\Wk (gK Tryz.prog (n+6) 56 x) (.agg (Qc p)):=by
 have bD:Ui Tryz.prog 56=true:=by unfold Ui;rw[Tryz.underlying56]
 obtain⟨q,h1,h2⟩:=HM h hs;refine⟨yx q,h1,?_⟩;rw[NZ bD,h2];exact Qdg ⟨Wk.refl _,Wk.refl _,Wk.refl _,Wk.refl _,Wk.sl _ _,Wk.refl _,Wk.refl _,Wk.refl _,Wk.refl _,Wk.sl _ _,aaZ _ _,Wk.sl _ _,Wk.sl _ _,trivial⟩
def pV{H:Type}{x:DataW H}{n:Nat}(h:Typed Tryz.prog (n+1) 3 x):∃m:Int,Zc m/\gK Tryz.prog (n+1) 3 x=I m:=by
 have bD:Ui Tryz.prog 3=false:=by unfold Ui;rw[Tryz.underlying3]
 obtain⟨m,rfl,w⟩:=Xk Tryz.underlying3 h;exact⟨m,Yg w,by rw[CP bD (Xy Tryz.underlying3 _ _)]⟩
def ant(l:List PlT)(rt:Rt):Wk (.sl rt (l.map DB)) (.sl .ro ((l.map yx).map Qc)):=by
 refine Wk.trans (Wk.sl _ _) ?_;rw[zzcs];refine Wk.rows l DB (Qc ∘ yx) (fun _=>rfl) fun a j c' h=>?_
 match j,h with
 |0,h=>exact⟨_,rfl,by cases h;exact Wk.refl _⟩
 |1,h=>exact⟨_,rfl,by cases h;exact Wk.refl _⟩
 |2,h=>exact⟨_,rfl,by cases h;exact Wk.refl _⟩
 |3,h=>exact⟨_,rfl,by cases h;exact Wk.refl _⟩
 |4,h=>exact⟨_,rfl,by cases h;exact Wk.sl _ _⟩
 |5,h=>exact⟨_,rfl,by cases h;exact Wk.refl _⟩
 |6,h=>exact⟨_,rfl,by cases h;exact Wk.refl _⟩
 |7,h=>exact⟨_,rfl,by cases h;exact Wk.refl _⟩
 |8,h=>exact⟨_,rfl,by cases h;exact Wk.refl _⟩
 |9,h=>exact⟨_,rfl,by cases h;exact Wk.sl _ _⟩
 |10,h=>exact⟨_,rfl,by cases h;exact aaZ _ _⟩
 |11,h=>exact⟨_,rfl,by cases h;exact Wk.sl _ _⟩
 |12,h=>exact⟨_,rfl,by cases h;exact Wk.sl _ _⟩
 |j+13,h=>simp[Qc]at h
def agv:Tryz.prog.bytesOf 56=184:=by kernel_rfl
def agw:Tryz.prog.bytesOf 42=232:=by kernel_rfl
def St{H:Type}{x:DataW H}{n:Nat}(h:Typed Tryz.prog (n+7) 22 x)(hs:Sz 22 x):∃ps:List Pl,(∀p∈ps,ags p)/\ps.length<=1000000000000/\Wk (gK Tryz.prog (n+7) 22 x) (.sl .ro (ps.map Qc)):=by
 have bD:Ui Tryz.prog 22=false:=by unfold Ui;rw[Tryz.underlying22]
 obtain⟨l,rt,l1,l2,_,l4⟩:=Jt DB (fun q=>ags (yx q)) Tryz.underlying22 (fun y hy hz=>HM hy hz) h hs;rw[agv]at l2;have hr:reachBytes=140737488351232:=rfl;refine⟨l.map yx,fun p hp=>?_,by rw[zzbe];omega,by rw[CP bD l4];exact ant l rt⟩;obtain⟨q,hq,rfl⟩:=zzay.1 hp;exact l1 q hq
structure anu (o:Od):Prop where
 n:Zc o.n
 fr:Zc o.fr
 en:agr o.nw
abbrev OdT:=Od×Rt
def DC(q:OdT):List AV:=[I q.1.sq,I q.1.ch,I q.1.fr,I q.1.ki,I q.1.en,I q.1.n,I q.1.nw.id,I q.1.nw.it,I q.1.nw.fr,I q.1.nw.ea,I q.1.nw.la,I q.1.nw.bo,.sl q.2 (q.1.nw.al.map Qe),I q.1.cl.ki,I q.1.cl.it,I q.1.cl.fr,I q.1.cl.to,I q.1.cl.re,I q.1.cl.n,I q.1.cl.a,I q.1.cl.b,I q.1.cu.id,I q.1.cu.fr,I q.1.cu.to,I q.1.cu.pr,.str q.1.cu.tx]
def agx{H:Type}{x:DataW H}{n:Nat}(h:Typed Tryz.prog (n+2) 40 x):∃c:Cue,cA Tryz.prog (n+2) 40 x=Qk c:=by
 obtain⟨parts,rfl,aH,hp⟩:=Uu Tryz.underlying40 h;obtain⟨a0,a1,a2,a3,a4,rfl⟩:=O3 aH;have t0:=hp (⟨ "ID",3,0,false, "", "",0⟩,a0) (by simp);have t1:=hp (⟨ "From",3,1,false, "", "",8⟩,a1) (by simp);have t2:=hp (⟨ "To",3,2,false, "", "",16⟩,a2) (by simp);have t3:=hp (⟨ "Priority",3,3,false, "", "",24⟩,a3) (by simp);have t4:=hp (⟨ "Text",9,4,false, "", "",32⟩,a4) (by simp);obtain⟨m0,rfl,w0⟩:=Xk Tryz.underlying3 t0;obtain⟨m1,rfl,w1⟩:=Xk Tryz.underlying3 t1;obtain⟨m2,rfl,w2⟩:=Xk Tryz.underlying3 t2;obtain⟨m3,rfl,w3⟩:=Xk Tryz.underlying3 t3;obtain⟨s,rfl,_⟩:=QT Tryz.underlying9 t4;refine⟨⟨m0,m1,m2,m3,⟨s.toArray⟩⟩,?_⟩;rw[Ut Tryz.underlying40];simp only[zzdg,zzeg,zzda,zzdr];rw[Xy Tryz.underlying3,Xy Tryz.underlying3,Xy Tryz.underlying3,Xy Tryz.underlying3,aeR Tryz.underlying9];rfl
def agy{α:Type}{l:List α}(h:l.length=9):∃a0 a1 a2 a3 a4 a5 a6 a7 a8,l=[a0,a1,a2,a3,a4,a5,a6,a7,a8]:=by
 match l,h with
 |[a0,a1,a2,a3,a4,a5,a6,a7,a8],_=>exact⟨a0,a1,a2,a3,a4,a5,a6,a7,a8,rfl⟩
def Sw{H:Type}{x:DataW H}{n:Nat}(h:Typed Tryz.prog (n+5) 42 x)(hs:Sz 42 x):∃q:OdT,anu q.1/\cA Tryz.prog (n+5) 42 x=DC q:=by
 obtain⟨parts,rfl,aH,hp⟩:=Uu Tryz.underlying42 h;obtain⟨a0,a1,a2,a3,a4,a5,a6,a7,a8,rfl⟩:=agy aH;have hz:=hs.agg Tryz.underlying42;have t0:=hp (⟨ "Seq",3,0,false, "", "",0⟩,a0) (by simp);have t1:=hp (⟨ "Channel",3,1,false, "", "",8⟩,a1) (by simp);have t2:=hp (⟨ "Frame",3,2,false, "", "",16⟩,a2) (by simp);have t3:=hp (⟨ "Kind",3,3,false, "", "",24⟩,a3) (by simp);have t4:=hp (⟨ "Entry",3,4,false, "", "",32⟩,a4) (by simp);have t5:=hp (⟨ "N",3,5,false, "", "",40⟩,a5) (by simp);have t6:=hp (⟨ "New",36,6,false, "", "",48⟩,a6) (by simp);have t7:=hp (⟨ "Clause",38,13,false, "", "",120⟩,a7) (by simp);have t8:=hp (⟨ "Cue",40,21,false, "", "",184⟩,a8) (by simp);obtain⟨m0,rfl,w0⟩:=Xk Tryz.underlying3 t0;obtain⟨m1,rfl,w1⟩:=Xk Tryz.underlying3 t1;obtain⟨m2,rfl,w2⟩:=Xk Tryz.underlying3 t2;obtain⟨m3,rfl,w3⟩:=Xk Tryz.underlying3 t3;obtain⟨m4,rfl,w4⟩:=Xk Tryz.underlying3 t4;obtain⟨m5,rfl,w5⟩:=Xk Tryz.underlying3 t5;have s6:Sz 36 a6:=fun k hk=>hz k (by simp[DataW.weightsEach,hk]);obtain⟨⟨e,rt⟩,e1,e2⟩:=Bl t6 s6;obtain⟨c,c1,c2⟩:=yu t7;obtain⟨u,u2⟩:=agx t8;refine⟨(⟨m0,m1,m2,m3,m4,m5,e,c,u⟩,rt),⟨Yg w5,Yg w2,e1⟩,?_⟩;rw[Ut Tryz.underlying42];simp only[zzdg,zzeg,zzda,zzdr];rw[Xy Tryz.underlying3,Xy Tryz.underlying3,Xy Tryz.underlying3,Xy Tryz.underlying3,Xy Tryz.underlying3,Xy Tryz.underlying3,e2,c2,u2];rfl
def anv(l:List OdT)(rt:Rt):Wk (.sl rt (l.map DC)) (.sl .ro ((l.map (·.1)).map Qq)):=by
 refine Wk.trans (Wk.sl _ _) ?_;rw[zzcs];refine Wk.rows l DC (Qq ∘ (·.1)) (fun _=>rfl) fun a j c' h=>?_
 match j,h with
 |0,h=>exact⟨_,rfl,by cases h;exact Wk.refl _⟩
 |1,h=>exact⟨_,rfl,by cases h;exact Wk.refl _⟩
 |2,h=>exact⟨_,rfl,by cases h;exact Wk.refl _⟩
 |3,h=>exact⟨_,rfl,by cases h;exact Wk.refl _⟩
 |4,h=>exact⟨_,rfl,by cases h;exact Wk.refl _⟩
 |5,h=>exact⟨_,rfl,by cases h;exact Wk.refl _⟩
 |6,h=>exact⟨_,rfl,by cases h;exact Wk.refl _⟩
 |7,h=>exact⟨_,rfl,by cases h;exact Wk.refl _⟩
 |8,h=>exact⟨_,rfl,by cases h;exact Wk.refl _⟩
 |9,h=>exact⟨_,rfl,by cases h;exact Wk.refl _⟩
 |10,h=>exact⟨_,rfl,by cases h;exact Wk.refl _⟩
 |11,h=>exact⟨_,rfl,by cases h;exact Wk.refl _⟩
 |12,h=>exact⟨_,rfl,by cases h;exact Wk.sl _ _⟩
 |13,h=>exact⟨_,rfl,by cases h;exact Wk.refl _⟩
 |14,h=>exact⟨_,rfl,by cases h;exact Wk.refl _⟩
 |15,h=>exact⟨_,rfl,by cases h;exact Wk.refl _⟩
 |16,h=>exact⟨_,rfl,by cases h;exact Wk.refl _⟩
 |17,h=>exact⟨_,rfl,by cases h;exact Wk.refl _⟩
 |18,h=>exact⟨_,rfl,by cases h;exact Wk.refl _⟩
 |19,h=>exact⟨_,rfl,by cases h;exact Wk.refl _⟩
 |20,h=>exact⟨_,rfl,by cases h;exact Wk.refl _⟩
 |21,h=>exact⟨_,rfl,by cases h;exact Wk.refl _⟩
 |22,h=>exact⟨_,rfl,by cases h;exact Wk.refl _⟩
 |23,h=>exact⟨_,rfl,by cases h;exact Wk.refl _⟩
 |24,h=>exact⟨_,rfl,by cases h;exact Wk.refl _⟩
 |25,h=>exact⟨_,rfl,by cases h;exact Wk.refl _⟩
 |j+26,h=>simp[Qq,Qd,Qg,Qk]at h
def yp{H:Type}{x:DataW H}{n:Nat}(h:Typed Tryz.prog (n+6) 23 x)(hs:Sz 23 x):∃l:List Od,(∀o∈l,anu o)/\l.length<=1000000000000/\Wk (gK Tryz.prog (n+6) 23 x) (.sl .ro (l.map Qq)):=by
 have bD:Ui Tryz.prog 23=false:=by unfold Ui;rw[Tryz.underlying23]
 obtain⟨l,rt,l1,l2,_,l4⟩:=Jt DC (fun q=>anu q.1) Tryz.underlying23 (fun y hy hz=>Sw hy hz) h hs;rw[agw]at l2;have hr:reachBytes=140737488351232:=rfl;refine⟨l.map (·.1),fun p hp=>?_,by rw[zzbe];omega,by rw[CP bD l4];exact anv l rt⟩;obtain⟨q,hq,rfl⟩:=zzay.1 hp;exact l1 q hq
def aa0{α:Type}{l:List α}(h:l.length=3):∃a b c,l=[a,b,c]:=by
 match l,h with
 |[a,b,c],_=>exact⟨a,b,c,rfl⟩
def Su{H:Type}{x:DataW H}{n:Nat}(h:Typed Tryz.prog (n+2) 70 x):∃s:Int×Int×Int,gK Tryz.prog (n+2) 70 x=.agg [I s.1,I s.2.1,I s.2.2]:=by
 have bD:Ui Tryz.prog 70=true:=by unfold Ui;rw[Tryz.underlying70]
 obtain⟨l,l1,l2,l3⟩:=j4 Tryz.underlying70 (by simp) h;obtain⟨a,b,c,rfl⟩:=aa0 (show l.length=3 from l1);exact⟨(a,b,c),by rw[NZ bD,l3];rfl⟩
end Go.Proofs.YtnopaopphmjnmaaGreatDoor
