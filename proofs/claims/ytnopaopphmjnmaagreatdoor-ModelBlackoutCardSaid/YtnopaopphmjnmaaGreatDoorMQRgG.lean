import Derived.Test.YtnopaopphmjnmaaGreatDoorMQMcN
import Derived.Test.YtnopaopphmjnmaaGreatDoorCards
import Derived.Deep.DeepHandedRow
import Derived.Lib.LaidTab
import Derived.MakeChecks
set_option linter.all false
set_option maxRecDepth 100000
namespace Go.Proofs.YtnopaopphmjnmaaGreatDoor
open Go Go.Abs Go.RowKit
def isI(a:AV):Bool:=match a with
 |.int _ _=>true
 |_=>false
def ahy{a:AV}(h:isI a=true){w:World}{γ γ':G}{v:Value}(hr:aC w γ a v):v.oneCell'=true/\aC w γ' a v:=by
 cases hr<;>simp[isI]at h;exact⟨rfl,.int _ _⟩
def Na{P:Program}{W:World}{name:String}{d:DataW Unit}{rest:List (String×DataW Unit)}{g:Nat}{t:TypeId}{D:Nat}{row:List AV}(h:∃ps,DataW.LaidVars P W ((name,d)::rest) ps)
  (hg:P.globalNamed name=some g)(hty:(P.globals[g]?).map (·.type)=some t)(bZ:YX P D t=true)(hav:cE P D t d=row)(hi:row.all isI=true)(aM:row≠[]):aC W (G0 Gf) (.ep row 0) (.pointer (some ⟨g,0,none⟩)):=by
 obtain⟨ps,g',t',cs,aX,p,q,hg',ZW,ay9,hd,_,_⟩:=h;obtain rfl:=Option.some.inj (hg.symm.trans hg');obtain rfl:=Option.some.inj (hty.symm.trans ZW);obtain⟨_,hr,_,_⟩:=jN D aX t cs.toList d p hd bZ;rw[hav]at hr
 have bO:∀(j:Nat)(c:AV),row[j]?=some c->W.cell? ⟨g,j,none⟩=some (cs.toList.getD j undef)/\(cs.toList.getD j undef).oneCell'=true/\aC W (G0 Gf).cT c (cs.toList.getD j undef):=by
  intro j c hj;have ai:j<row.length:=(zza.1 hj).1;have ck:j<cs.toList.length:=by rw[<- hr.1];exact ai
  have hv:cs.toList[j]?=some (cs.toList.getD j undef):=by rw[zzar,zzae ck];rfl
  have hc:=World.var?_cell hg ay9 j;have h1:=hr.2 j c _ hj hv;have h2:isI c=true:=zzbh.1 hi c (zzac hj);obtain⟨h3,h4⟩:=ahy h2 (γ':=(G0 Gf).cT) h1;refine⟨?_,h3,h4⟩;rw[hc,<- zzce];exact hv
 have hsz:g<W.heap.size:=by
  obtain⟨a,r,rfl⟩:=zzfe aM;have:=(bO 0 a rfl).1;simp only[World.cell?]at this;rcases zzaa g W.heap.size with h|h
  ·exact h
  rw[zzcv zE]at this;simp at this
 refine aC.ep (o:=0) (b:=g) (off:=0) (fun j=>cs.toList.getD j undef) hsz (fun j c hj=>?_) (fun j c hj=>(bO j c hj).2.2);obtain⟨h1,h2,_⟩:=bO j c hj;refine⟨by simpa using h1,trivial,h2⟩
def abU:cE Tryz.prog 5 344 (Rows.laid_onair_timecode_rates:DataW Unit)=IP:=by
 unfold Rows.laid_onair_timecode_rates;have h3:∀n:Int,cE Tryz.prog 2 3 (.lit (.int .i64 n):DataW Unit)=[I n]:=fun n=>Za Tryz.underlying3 _ _;have h3':∀n:Int,cE Tryz.prog 3 3 (.lit (.int .i64 n):DataW Unit)=[I n]:=fun n=>Za Tryz.underlying3 _ _
 have h23:∀a b:Int,cE Tryz.prog 3 47 (.agg [.lit (.int .i64 a),.lit (.int .i64 b)]:DataW Unit)=[I a,I b]:=fun a b=>by
  rw[Ja Tryz.underlying47];simp[h3]
 have aza:∀a b c d:Int,cE Tryz.prog 4 294 (.agg [.agg [.lit (.int .i64 a),.lit (.int .i64 b)],.lit (.int .i64 c),.lit (.int .i64 d)]:DataW Unit)=[I a,I b,I c,I d]:=fun a b c d=>by
  rw[Ja Tryz.underlying294];simp[h3',h23]
 rw[R7 Tryz.underlying344];simp only[zzdb,zzdn,aza];rfl
def aoP{W:World}{rest:List (String×DataW Unit)}(h:laidMet Tryz.prog (("onair/timecode.rates",Rows.laid_onair_timecode_rates)::rest) W):∀g,aC W (G0 Gf) (aA g) (.pointer (some ⟨g,0,none⟩)):=by
 intro g;obtain⟨ps,h,_⟩:=h
 match g with
 |0=>exact Na (D:=5) ⟨ps,h⟩ (g:=0) (t:=344) (by kernel_rfl) (by kernel_rfl) (by kernel_rfl) abU (by decide) (by simp[IP])
 |g+1=>exact .junk _
def Vy{m:Int}(h:(Lit.int .i64 m).wf=true):Xo m:=by
 simp[Lit.wf,IntKind.min,IntKind.max,IntKind.bits,IntKind.signed]at h;unfold Xo;omega
def Sz{H:Type}(t:TypeId)(x:DataW H):Prop:=∀k∈x.weights Tryz.prog t,k<=reachBytes
def Sz.all{H:Type}{e:TypeId}{l:List (DataW H)}(h:∀k∈DataW.weightsAll Tryz.prog e l,k<=reachBytes):∀y∈l,Sz e y:=by
 induction l with
 |nil=>intro y hy;cases hy
 |cons a l ih=>
  intro y hy;simp only[DataW.weightsAll,zzam]at h;rcases zzat.1 hy with rfl|hy
  ·exact fun k hk=>h k (.inl hk)
  exact ih (fun k hk=>h k (.inr hk)) y hy
def Sz.slice{H:Type}{t e:TypeId}{bP spare:List (DataW H)}(hu:Tryz.prog.underlying t=some (.slice e))(h:Sz t (.slice bP spare:DataW H)):(bP.length+spare.length)*Tryz.prog.bytesOf e<=reachBytes/\∀y∈bP,Sz e y:=by
 unfold Sz at h;simp only[DataW.weights,hu]at h;refine⟨h _ zd,Sz.all fun k hk=>h k (by simp[hk])⟩
def Sz.agg{H:Type}{t:TypeId}{fs:Array Field}{parts:List (DataW H)}(hu:Tryz.prog.underlying t=some (.struct fs))(h:Sz t (.agg parts:DataW H)):∀k∈DataW.weightsEach Tryz.prog (fs.toList.map (·.type)) parts,k<=reachBytes:=by
 unfold Sz at h;simpa only[DataW.weights,hu]using h
def Kg{H:Type}{α:Type}(row:α->List AV)(ok:α->Prop){t e:TypeId}(hu:Tryz.prog.underlying t=some (.slice e)){n:Nat}(fL:∀y:DataW H,Typed Tryz.prog n e y->Sz e y->∃a,ok a/\cE Tryz.prog n e y=row a)
  {x:DataW H}(h:Typed Tryz.prog (n+1) t x)(hs:Sz t x):∃(l:List α)(rt:Rt),(∀a∈l,ok a)/\l.length*Tryz.prog.bytesOf e<=reachBytes/\l.length<=maxLen/\cE Tryz.prog (n+1) t x=[.sl rt (l.map row)]:=by
 rcases GQ hu h with rfl|⟨bP,spare,rfl,hl,he⟩
 ·exact⟨[],.nil,(fun _ h=>by cases h),(by rw[zzcf,zzht];exact zzbt _),zzbt _,afQ hu⟩
 obtain⟨hz,CS⟩:=hs.slice hu
 have key:∃X:List α,(∀y∈X,ok y)/\bP.map (cE Tryz.prog n e)=X.map row:=by
  clear hl h hz hs;induction bP with
  |nil=>exact⟨[],zd,rfl⟩
  |cons y ys ih=>
   obtain⟨X,h1,h2⟩:=ih (fun z hz=>he z (by simp[hz])) (fun z hz=>CS z (by simp[hz]));obtain⟨q,hq,hv⟩:=fL y (he y zd) (CS y zd);refine⟨q::X,?_,by rw[zzay,h2,hv];rfl⟩;intro z hz;rcases zzat.1 hz with rfl|hz
   ·exact hq
   exact h1 z hz
 obtain⟨X,h1,h2⟩:=key;have aH:X.length=bP.length:=by have:=congrArg List.length h2;simpa using this.symm
 refine⟨X,.nn,h1,?_,zE,by rw[anJ hu,h2]⟩;rw[aH];refine zzbg (zzbc _ (zzgy _ _)) hz
def QC{α:Type}{l:List α}(h:l.length=2):∃a b,l=[a,b]:=by
 match l,h with
 |[a,b],_=>exact⟨a,b,rfl⟩
def QD{α:Type}{l:List α}(h:l.length=5):∃a0 a1 a2 a3 a4,l=[a0,a1,a2,a3,a4]:=by
 match l,h with
 |[a0,a1,a2,a3,a4],_=>exact⟨a0,a1,a2,a3,a4,rfl⟩
def IQ{α:Type}{l:List α}(h:l.length=7):∃a0 a1 a2 a3 a4 a5 a6,l=[a0,a1,a2,a3,a4,a5,a6]:=by
 match l,h with
 |[a0,a1,a2,a3,a4,a5,a6],_=>exact⟨a0,a1,a2,a3,a4,a5,a6,rfl⟩
def abV{α:Type}{l:List α}(h:l.length=8):∃a0 a1 a2 a3 a4 a5 a6 a7,l=[a0,a1,a2,a3,a4,a5,a6,a7]:=by
 match l,h with
 |[a0,a1,a2,a3,a4,a5,a6,a7],_=>exact⟨a0,a1,a2,a3,a4,a5,a6,a7,rfl⟩
def TI{α:Type}{l:List α}(h:l.length=11):∃a0 a1 a2 a3 a4 a5 a6 a7 a8 a9 a10,l=[a0,a1,a2,a3,a4,a5,a6,a7,a8,a9,a10]:=by
 match l,h with
 |[a0,a1,a2,a3,a4,a5,a6,a7,a8,a9,a10],_=>exact⟨a0,a1,a2,a3,a4,a5,a6,a7,a8,a9,a10,rfl⟩
def IS{H:Type}{n:Nat}:∀(L:List Field)(parts:List (DataW H)),(∀f∈L,f.type=3)->(∀p∈L.zip parts,Typed Tryz.prog (n+1) p.1.type p.2)->parts.length=L.length->
  ∃l:List Int,l.length=L.length/\(∀m∈l,Xo m)/\(L.zip parts).flatMap (fun p=>cE Tryz.prog (n+1) p.1.type p.2)=l.map I
 |[],parts,_,_,_=>⟨[],rfl,(fun _ h=>by cases h),by cases parts<;>rfl⟩
 |f::L,[],_,_,h=>by simp at h
 |f::L,a::parts,bF,hp,hl=>by
  obtain⟨l,l1,l2,l3⟩:=IS L parts (fun g hg=>bF g (zzfc _ hg)) (fun p XT=>hp p (zzfc _ XT)) (by simpa using hl);have ha:=hp (f,a) zd;have hf:=bF f zd;rw[hf]at ha;obtain⟨m,rfl,w⟩:=Xk Tryz.underlying3 ha;refine⟨m::l,by simp[l1],?_,?_⟩
  ·intro k hk;rcases zzat.1 hk with rfl|hk
   ·exact Vy w
   exact l2 k hk
  simp only[zzdf,zzdb,hf];rw[Za Tryz.underlying3,l3];rfl
def qw{H:Type}{t:TypeId}{fs:Array Field}(hu:Tryz.prog.underlying t=some (.struct fs))(bF:∀f∈fs.toList,f.type=3){y:DataW H}{n:Nat}(h:Typed Tryz.prog (n+2) t y):
  ∃l:List Int,l.length=fs.size/\(∀m∈l,Xo m)/\cE Tryz.prog (n+2) t y=l.map I:=by
 obtain⟨parts,rfl,aH,hp⟩:=Jb hu h;rw[Ja hu];obtain⟨l,l1,l2,l3⟩:=IS fs.toList parts bF hp (by simpa using aH);exact⟨l,by simpa using l1,l2,l3⟩
def abW(s:Sp):Prop:=Xo s.1/\Xo s.2
def Eu{H:Type}{t:TypeId}{f g:Field}(hu:Tryz.prog.underlying t=some (.struct #[f,g]))(hf:f.type=3)(hg:g.type=3){y:DataW H}{n:Nat}(h:Typed Tryz.prog (n+2) t y):∃s:Sp,abW s/\cE Tryz.prog (n+2) t y=Qf s:=by
 obtain⟨l,l1,l2,l3⟩:=qw hu (by simp[hf,hg]) h;obtain⟨a,b,rfl⟩:=QC (show l.length=2 from l1);exact⟨(a,b),⟨l2 a zd,l2 b zd⟩,l3⟩
def aoQ(x:It):Prop:=Xo x.id/\Xo x.ki/\Xo x.fr/\Xo x.sp/\Xo x.ra
def aoR(x:Cl):Prop:=Xo x.ki/\Xo x.it/\Xo x.fr/\Xo x.to/\Xo x.re/\Xo x.n/\Xo x.a/\Xo x.b
def aoS(x:Bk):Prop:=Xo x.id/\Xo x.it/\Xo x.re/\Xo x.fr/\Xo x.to/\Xo x.un/\Xo x.pr
def ahz(x:En):Prop:=(Xo x.id/\Xo x.it/\Xo x.fr/\Xo x.ea/\Xo x.la/\Xo x.bo)/\x.al.length<=8796093022208/\∀a∈x.al,abW a
structure avq (p:Pl):Prop where
 ch:Xo p.ch
 nu:Xo p.nu
 de:Xo p.de
 of:Xo p.of
 ep:Xo p.ep
 rg:Xo p.rg
 ln:Xo p.ln
 fi:Xo p.fi
 sh:∀s∈p.sh,abW s
 aN:∀s∈p.aN,aoQ s
 ens:∀s∈p.ens,ahz s
 bks:∀s∈p.bks,aoS s
 cls:∀s∈p.cls,aoR s
 shl:p.sh.length<=8796093022208
 itl:p.aN.length<=8796093022208
 enl:p.ens.length<=8796093022208
 bkl:p.bks.length<=8796093022208
 cll:p.cls.length<=8796093022208
def abX{H:Type}{y:DataW H}{n:Nat}(h:Typed Tryz.prog (n+2) 76 y):∃x:It,aoQ x/\cE Tryz.prog (n+2) 76 y=Qn x:=by
 obtain⟨l,l1,l2,l3⟩:=qw Tryz.underlying76 zd h;obtain⟨a0,a1,a2,a3,a4,rfl⟩:=QD (show l.length=5 from l1);exact⟨⟨a0,a1,a2,a3,a4⟩,⟨l2 _ zd,l2 _ zd,l2 _ zd,l2 _ zd,l2 _ zd⟩,l3⟩
def y8{H:Type}{y:DataW H}{n:Nat}(h:Typed Tryz.prog (n+2) 38 y):∃x:Cl,aoR x/\cE Tryz.prog (n+2) 38 y=Qg x:=by
 obtain⟨l,l1,l2,l3⟩:=qw Tryz.underlying38 zd h;obtain⟨a0,a1,a2,a3,a4,a5,a6,a7,rfl⟩:=abV (show l.length=8 from l1);exact⟨⟨a0,a1,a2,a3,a4,a5,a6,a7⟩,⟨l2 _ zd,l2 _ zd,l2 _ zd,l2 _ zd,l2 _ zd,l2 _ zd,l2 _ zd,l2 _ zd⟩,l3⟩
def IT{H:Type}{y:DataW H}{n:Nat}(h:Typed Tryz.prog (n+2) 159 y):∃x:Bk,aoS x/\cE Tryz.prog (n+2) 159 y=Xg x:=by
 obtain⟨l,l1,l2,l3⟩:=qw Tryz.underlying159 zd h;obtain⟨a0,a1,a2,a3,a4,a5,a6,rfl⟩:=IQ (show l.length=7 from l1);exact⟨⟨a0,a1,a2,a3,a4,a5,a6⟩,⟨l2 _ zd,l2 _ zd,l2 _ zd,l2 _ zd,l2 _ zd,l2 _ zd,l2 _ zd⟩,l3⟩
def Nb:Tryz.prog.bytesOf 76=40:=by kernel_rfl
def ahA:Tryz.prog.bytesOf 114=16:=by kernel_rfl
def ahB:Tryz.prog.bytesOf 36=72:=by kernel_rfl
def abY:Tryz.prog.bytesOf 159=56:=by kernel_rfl
def abZ:Tryz.prog.bytesOf 38=64:=by kernel_rfl
def ab0:Tryz.prog.bytesOf 153=16:=by kernel_rfl
def y9(q:En×Rt):List AV:=[I q.1.id,I q.1.it,I q.1.fr,I q.1.ea,I q.1.la,I q.1.bo,.sl q.2 (q.1.al.map Qf)]
def Cb{H:Type}{y:DataW H}{n:Nat}(h:Typed Tryz.prog (n+4) 36 y)(hs:Sz 36 y):∃q:En×Rt,ahz q.1/\cE Tryz.prog (n+4) 36 y=y9 q:=by
 obtain⟨parts,rfl,aH,hp⟩:=Jb Tryz.underlying36 h;obtain⟨a0,a1,a2,a3,a4,a5,a6,rfl⟩:=IQ aH;have hz:=hs.agg Tryz.underlying36;have t0:=hp (⟨ "ID",3,0,false, "", "",0⟩,a0) zd;have t1:=hp (⟨ "Item",3,1,false, "", "",8⟩,a1) zd;have t2:=hp (⟨ "Frames",3,2,false, "", "",16⟩,a2) zd;have t3:=hp (⟨ "Earliest",3,3,false, "", "",24⟩,a3) zd;have t4:=hp (⟨ "Latest",3,4,false, "", "",32⟩,a4) zd;have t5:=hp (⟨ "Booking",3,5,false, "", "",40⟩,a5) zd;have t6:=hp (⟨ "Alts",34,6,false, "", "",48⟩,a6) zd;obtain⟨m0,rfl,w0⟩:=Xk Tryz.underlying3 t0;obtain⟨m1,rfl,w1⟩:=Xk Tryz.underlying3 t1;obtain⟨m2,rfl,w2⟩:=Xk Tryz.underlying3 t2;obtain⟨m3,rfl,w3⟩:=Xk Tryz.underlying3 t3;obtain⟨m4,rfl,w4⟩:=Xk Tryz.underlying3 t4;obtain⟨m5,rfl,w5⟩:=Xk Tryz.underlying3 t5;have hs6:Sz 34 a6:=fun k hk=>hz k (by simp[DataW.weightsEach,hk]);obtain⟨l,rt,l1,l2,l3,l4⟩:=Kg Qf abW Tryz.underlying34 (fun y hy _=>Eu Tryz.underlying114 rfl rfl hy) t6 hs6;rw[ahA]at l2;have hr:reachBytes=140737488351232:=rfl;refine⟨(⟨m0,m1,m2,m3,m4,m5,l⟩,rt),⟨⟨Vy w0,Vy w1,Vy w2,Vy w3,Vy w4,Vy w5⟩,by simp only;omega,l1⟩,?_⟩;rw[Ja Tryz.underlying36];simp only[zzdf,zzep,zzdb,zzdn];rw[Za Tryz.underlying3,Za Tryz.underlying3,Za Tryz.underlying3,Za Tryz.underlying3,Za Tryz.underlying3,Za Tryz.underlying3,l4];rfl
def aoT(l:List (En×Rt))(rt:Rt):Wk (.sl rt (l.map y9)) (.sl .ro ((l.map (·.1)).map Qd)):=by
 refine Wk.trans (Wk.sl _ _) ?_;rw[zzcz];refine Wk.rows l y9 (Qd ∘ (·.1)) (fun _=>rfl) fun a j c' h=>?_
 match j,h with
 |0,h=>exact yi h
 |1,h=>exact yi h
 |2,h=>exact yi h
 |3,h=>exact yi h
 |4,h=>exact yi h
 |5,h=>exact yi h
 |6,h=>exact⟨_,rfl,by cases h;exact Wk.sl _ _⟩
 |j+7,h=>simp[Qd]at h
abbrev PlT:=Pl×List (En×Rt)×Rt×Rt×Rt×Rt×Rt
def Nc(q:PlT):Pl:={q.1 with ens:=q.2.1.map (·.1)}
def aoU(q:PlT):List AV:=[I q.1.ch,I q.1.nu,I q.1.de,I q.1.of,.sl q.2.2.1 (q.1.sh.map Qf),I q.1.ep,I q.1.rg,I q.1.ln,I q.1.fi,.sl q.2.2.2.1 (q.1.aN.map Qn),.sl q.2.2.2.2.1 (q.2.1.map y9),.sl q.2.2.2.2.2.1 (q.1.bks.map Xg),.sl q.2.2.2.2.2.2 (q.1.cls.map Qg)]
def ab1{H:Type}{x:DataW H}{n:Nat}(h:Typed Tryz.prog (n+6) 56 x)(hs:Sz 56 x):∃q:PlT,avq (Nc q)/\cE Tryz.prog (n+6) 56 x=aoU q:=by
 obtain⟨parts,rfl,aH,hp⟩:=Jb Tryz.underlying56 h;obtain⟨a0,a1,a2,a3,a4,a5,a6,a7,a8,a9,a10,rfl⟩:=TI aH;have hz:=hs.agg Tryz.underlying56;have t0:=hp (⟨ "Channel",3,0,false, "", "",0⟩,a0) zd;have t1:=hp (⟨ "Rate",47,1,false, "", "",8⟩,a1) zd;have t2:=hp (⟨ "Zone",50,3,false, "", "",24⟩,a2) zd;have t3:=hp (⟨ "Epoch",3,5,false, "", "",56⟩,a3) zd;have t4:=hp (⟨ "Regions",3,6,false, "", "",64⟩,a4) zd;have t5:=hp (⟨ "Length",3,7,false, "", "",72⟩,a5) zd;have t6:=hp (⟨ "Fill",3,8,false, "", "",80⟩,a6) zd;have t7:=hp (⟨ "Items",51,9,false, "", "",88⟩,a7) zd;have t8:=hp (⟨ "Entries",52,10,false, "", "",112⟩,a8) zd;have t9:=hp (⟨ "Bookings",53,11,false, "", "",136⟩,a9) zd;have t10:=hp (⟨ "Clauses",54,12,false, "", "",160⟩,a10) zd;obtain⟨m0,rfl,w0⟩:=Xk Tryz.underlying3 t0;obtain⟨m3,rfl,w3⟩:=Xk Tryz.underlying3 t3;obtain⟨m4,rfl,w4⟩:=Xk Tryz.underlying3 t4;obtain⟨m5,rfl,w5⟩:=Xk Tryz.underlying3 t5;obtain⟨m6,rfl,w6⟩:=Xk Tryz.underlying3 t6;obtain⟨r,⟨r1,r2⟩,avr⟩:=Eu Tryz.underlying47 rfl rfl t1;obtain⟨zp,rfl,azb,zpp⟩:=Jb Tryz.underlying50 t2;obtain⟨z0,z1,rfl⟩:=QC azb;have u0:=zpp (⟨ "Offset",3,0,false, "", "",0⟩,z0) zd;have u1:=zpp (⟨ "Shifts",48,1,false, "", "",8⟩,z1) zd;obtain⟨mo,rfl,wo⟩:=Xk Tryz.underlying3 u0;have s1:Sz 48 z1:=fun k hk=>hz k (by simp[DataW.weightsEach,DataW.weights,Tryz.underlying50,hk]);have s7:Sz 51 a7:=fun k hk=>hz k (by simp[DataW.weightsEach,hk]);have s8:Sz 52 a8:=fun k hk=>hz k (by simp[DataW.weightsEach,hk]);have s9:Sz 53 a9:=fun k hk=>hz k (by simp[DataW.weightsEach,hk]);have s10:Sz 54 a10:=fun k hk=>hz k (by simp[DataW.weightsEach,hk]);have hr:reachBytes=140737488351232:=rfl;obtain⟨sh,rt1,sh1,sh2,_,sh4⟩:=Kg Qf abW Tryz.underlying48 (fun y hy _=>Eu Tryz.underlying153 rfl rfl hy) u1 s1;obtain⟨it,rt7,it1,it2,_,it4⟩:=Kg Qn aoQ Tryz.underlying51 (fun y hy _=>abX hy) t7 s7;obtain⟨en,rt8,en1,en2,_,en4⟩:=Kg y9 (fun q=>ahz q.1) Tryz.underlying52 (fun y hy hz=>Cb hy hz) t8 s8;obtain⟨bk,rt9,bk1,bk2,_,bk4⟩:=Kg Xg aoS Tryz.underlying53 (fun y hy _=>IT hy) t9 s9;obtain⟨cl,azc,cl1,cl2,_,cl4⟩:=Kg Qg aoR Tryz.underlying54 (fun y hy _=>y8 hy) t10 s10;rw[ab0]at sh2;rw[Nb]at it2;rw[ahB]at en2;rw[abY]at bk2;rw[abZ]at cl2;refine⟨(⟨m0,r.1,r.2,mo,sh,m3,m4,m5,m6,it,[],bk,cl⟩,en,rt1,rt7,rt8,rt9,azc),⟨Vy w0,r1,r2,Vy wo,Vy w3,Vy w4,Vy w5,Vy w6,sh1,it1,?_,bk1,cl1,by simp only[Nc];omega,by simp only[Nc];omega,by simp only[Nc,zzbj];omega,by simp only[Nc];omega,by simp only[Nc];omega⟩,?_⟩
 ·intro s hs;obtain⟨q,hq,rfl⟩:=zzax.1 hs;exact en1 q hq
 rw[Ja Tryz.underlying56];simp only[zzdf,zzep,zzdb,zzdn];rw[Za Tryz.underlying3,Za Tryz.underlying3,Za Tryz.underlying3,Za Tryz.underlying3,Za Tryz.underlying3,it4,en4,bk4,cl4,Ja Tryz.underlying50];simp only[zzdf,zzep,zzdb,zzdn];rw[Za Tryz.underlying3,sh4,avr];rfl
def abQ{H:Type}{x:DataW H}{n:Nat}(h:Typed Tryz.prog (n+6) 56 x)(hs:Sz 56 x):∃p:Pl,avq p/\Wk (jO Tryz.prog (n+6) 56 x) (.agg (Qa p)):=by
 have bG:Jh Tryz.prog 56=true:=by unfold Jh;rw[Tryz.underlying56]
 obtain⟨q,h1,h2⟩:=ab1 h hs;refine⟨Nc q,h1,?_⟩;rw[afR bG,h2];exact Qcq ⟨zt,zt,zt,zt,Wk.sl _ _,zt,zt,zt,zt,Wk.sl _ _,aoT _ _,Wk.sl _ _,Wk.sl _ _,trivial⟩
def QB{H:Type}{x:DataW H}{n:Nat}(h:Typed Tryz.prog (n+1) 3 x):∃m:Int,Xo m/\jO Tryz.prog (n+1) 3 x=I m:=by
 have bG:Jh Tryz.prog 3=false:=by unfold Jh;rw[Tryz.underlying3]
 obtain⟨m,rfl,w⟩:=Xk Tryz.underlying3 h;exact⟨m,Vy w,by rw[DI bG (Za Tryz.underlying3 _ _)]⟩
def ahC:Tryz.prog.bytesOf 42=232:=by kernel_rfl
structure aoV (o:Od):Prop where
 n:Xo o.n
 fr:Xo o.fr
 en:ahz o.nw
abbrev OdT:=Od×Rt
def Ew(q:OdT):List AV:=[I q.1.sq,I q.1.ch,I q.1.fr,I q.1.ki,I q.1.en,I q.1.n,I q.1.nw.id,I q.1.nw.it,I q.1.nw.fr,I q.1.nw.ea,I q.1.nw.la,I q.1.nw.bo,.sl q.2 (q.1.nw.al.map Qf),I q.1.cl.ki,I q.1.cl.it,I q.1.cl.fr,I q.1.cl.to,I q.1.cl.re,I q.1.cl.n,I q.1.cl.a,I q.1.cl.b,I q.1.cu.id,I q.1.cu.fr,I q.1.cu.to,I q.1.cu.pr,.str q.1.cu.tx]
def ahD{H:Type}{x:DataW H}{n:Nat}(h:Typed Tryz.prog (n+2) 40 x):∃c:Cue,cE Tryz.prog (n+2) 40 x=Qi c:=by
 obtain⟨parts,rfl,aH,hp⟩:=Jb Tryz.underlying40 h;obtain⟨a0,a1,a2,a3,a4,rfl⟩:=QD aH;have t0:=hp (⟨ "ID",3,0,false, "", "",0⟩,a0) zd;have t1:=hp (⟨ "From",3,1,false, "", "",8⟩,a1) zd;have t2:=hp (⟨ "To",3,2,false, "", "",16⟩,a2) zd;have t3:=hp (⟨ "Priority",3,3,false, "", "",24⟩,a3) zd;have t4:=hp (⟨ "Text",9,4,false, "", "",32⟩,a4) zd;obtain⟨m0,rfl,w0⟩:=Xk Tryz.underlying3 t0;obtain⟨m1,rfl,w1⟩:=Xk Tryz.underlying3 t1;obtain⟨m2,rfl,w2⟩:=Xk Tryz.underlying3 t2;obtain⟨m3,rfl,w3⟩:=Xk Tryz.underlying3 t3;obtain⟨s,rfl,_⟩:=R6 Tryz.underlying9 t4;refine⟨⟨m0,m1,m2,m3,⟨s.toArray⟩⟩,?_⟩;rw[Ja Tryz.underlying40];simp only[zzdf,zzep,zzdb,zzdn];rw[Za Tryz.underlying3,Za Tryz.underlying3,Za Tryz.underlying3,Za Tryz.underlying3,afP Tryz.underlying9];rfl
def ahE{α:Type}{l:List α}(h:l.length=9):∃a0 a1 a2 a3 a4 a5 a6 a7 a8,l=[a0,a1,a2,a3,a4,a5,a6,a7,a8]:=by
 match l,h with
 |[a0,a1,a2,a3,a4,a5,a6,a7,a8],_=>exact⟨a0,a1,a2,a3,a4,a5,a6,a7,a8,rfl⟩
def TJ{H:Type}{x:DataW H}{n:Nat}(h:Typed Tryz.prog (n+5) 42 x)(hs:Sz 42 x):∃q:OdT,aoV q.1/\cE Tryz.prog (n+5) 42 x=Ew q:=by
 obtain⟨parts,rfl,aH,hp⟩:=Jb Tryz.underlying42 h;obtain⟨a0,a1,a2,a3,a4,a5,a6,a7,a8,rfl⟩:=ahE aH;have hz:=hs.agg Tryz.underlying42;have t0:=hp (⟨ "Seq",3,0,false, "", "",0⟩,a0) zd;have t1:=hp (⟨ "Channel",3,1,false, "", "",8⟩,a1) zd;have t2:=hp (⟨ "Frame",3,2,false, "", "",16⟩,a2) zd;have t3:=hp (⟨ "Kind",3,3,false, "", "",24⟩,a3) zd;have t4:=hp (⟨ "Entry",3,4,false, "", "",32⟩,a4) zd;have t5:=hp (⟨ "N",3,5,false, "", "",40⟩,a5) zd;have t6:=hp (⟨ "New",36,6,false, "", "",48⟩,a6) zd;have t7:=hp (⟨ "Clause",38,13,false, "", "",120⟩,a7) zd;have t8:=hp (⟨ "Cue",40,21,false, "", "",184⟩,a8) zd;obtain⟨m0,rfl,w0⟩:=Xk Tryz.underlying3 t0;obtain⟨m1,rfl,w1⟩:=Xk Tryz.underlying3 t1;obtain⟨m2,rfl,w2⟩:=Xk Tryz.underlying3 t2;obtain⟨m3,rfl,w3⟩:=Xk Tryz.underlying3 t3;obtain⟨m4,rfl,w4⟩:=Xk Tryz.underlying3 t4;obtain⟨m5,rfl,w5⟩:=Xk Tryz.underlying3 t5;have s6:Sz 36 a6:=fun k hk=>hz k (by simp[DataW.weightsEach,hk]);obtain⟨⟨e,rt⟩,e1,e2⟩:=Cb t6 s6;obtain⟨c,c1,c2⟩:=y8 t7;obtain⟨u,u2⟩:=ahD t8;refine⟨(⟨m0,m1,m2,m3,m4,m5,e,c,u⟩,rt),⟨Vy w5,Vy w2,e1⟩,?_⟩;rw[Ja Tryz.underlying42];simp only[zzdf,zzep,zzdb,zzdn];rw[Za Tryz.underlying3,Za Tryz.underlying3,Za Tryz.underlying3,Za Tryz.underlying3,Za Tryz.underlying3,Za Tryz.underlying3,e2,c2,u2];rfl
def aoW(l:List OdT)(rt:Rt):Wk (.sl rt (l.map Ew)) (.sl .ro ((l.map (·.1)).map Qp)):=by
 refine Wk.trans (Wk.sl _ _) ?_;rw[zzcz];refine Wk.rows l Ew (Qp ∘ (·.1)) (fun _=>rfl) fun a j c' h=>?_
 match j,h with
 |0,h=>exact yi h
 |1,h=>exact yi h
 |2,h=>exact yi h
 |3,h=>exact yi h
 |4,h=>exact yi h
 |5,h=>exact yi h
 |6,h=>exact yi h
 |7,h=>exact yi h
 |8,h=>exact yi h
 |9,h=>exact yi h
 |10,h=>exact yi h
 |11,h=>exact yi h
 |12,h=>exact⟨_,rfl,by cases h;exact Wk.sl _ _⟩
 |13,h=>exact yi h
 |14,h=>exact yi h
 |15,h=>exact yi h
 |16,h=>exact yi h
 |17,h=>exact yi h
 |18,h=>exact yi h
 |19,h=>exact yi h
 |20,h=>exact yi h
 |21,h=>exact yi h
 |22,h=>exact yi h
 |23,h=>exact yi h
 |24,h=>exact yi h
 |25,h=>exact yi h
 |j+26,h=>simp[Qp,Qd,Qg,Qi]at h
def M9{H:Type}{x:DataW H}{n:Nat}(h:Typed Tryz.prog (n+6) 23 x)(hs:Sz 23 x):∃l:List Od,(∀o∈l,aoV o)/\l.length<=1000000000000/\Wk (jO Tryz.prog (n+6) 23 x) (.sl .ro (l.map Qp)):=by
 have bG:Jh Tryz.prog 23=false:=by unfold Jh;rw[Tryz.underlying23]
 obtain⟨l,rt,l1,l2,_,l4⟩:=Kg Ew (fun q=>aoV q.1) Tryz.underlying23 (fun y hy hz=>TJ hy hz) h hs;rw[ahC]at l2;have hr:reachBytes=140737488351232:=rfl;refine⟨l.map (·.1),fun p hp=>?_,by rw[zzbj];omega,by rw[DI bG l4];exact aoW l rt⟩;obtain⟨q,hq,rfl⟩:=zzax.1 hp;exact l1 q hq
def ab2:Tryz.prog.bytesOf 3=8:=by kernel_rfl
def ahF{H:Type}{y:DataW H}{n:Nat}(h:Typed Tryz.prog (n+1) 3 y):∃m:Int,Xo m/\cE Tryz.prog (n+1) 3 y=Qy m:=by
 obtain⟨m,rfl,w⟩:=Xk Tryz.underlying3 h;exact⟨m,Vy w,Za Tryz.underlying3 _ _⟩
def abR{H:Type}{x:DataW H}{n:Nat}(h:Typed Tryz.prog (n+2) 59 x)(hs:Sz 59 x):∃l:List Int,(∀m∈l,Xo m)/\l.length<=17592186044416/\Wk (jO Tryz.prog (n+2) 59 x) (.sl .ro (l.map Qy)):=by
 have bG:Jh Tryz.prog 59=false:=by unfold Jh;rw[Tryz.underlying59]
 obtain⟨l,rt,l1,l2,_,l4⟩:=Kg Qy Xo Tryz.underlying59 (fun y hy _=>ahF hy) h hs;rw[ab2]at l2;have hr:reachBytes=140737488351232:=rfl;exact⟨l,l1,zE,by rw[DI bG l4];exact Wk.sl _ _⟩
