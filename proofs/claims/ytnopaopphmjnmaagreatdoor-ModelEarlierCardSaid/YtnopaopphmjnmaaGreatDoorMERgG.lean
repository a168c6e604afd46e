import Derived.Test.YtnopaopphmjnmaaGreatDoorMEMcN
import Derived.Test.YtnopaopphmjnmaaGreatDoorCards
import Derived.Deep.DeepHandedRow
import Derived.Lib.LaidTab
import Derived.MakeChecks
set_option linter.all false
set_option maxRecDepth 100000
namespace Go.Proofs.YtnopaopphmjnmaaGreatDoor
open Go Go.Abs Go.RowKit
def isI(a:AV):Bool:=match a with
 |.int _ _=>true
 |_=>false
def agQ{a:AV}(h:isI a=true){w:World}{γ γ':G}{v:Value}(hr:aB w γ a v):v.oneCell'=true/\aB w γ' a v:=by
 cases hr<;>simp[isI]at h;exact⟨rfl,.int _ _⟩
def ME{P:Program}{W:World}{name:String}{d:DataW Unit}{rest:List (String×DataW Unit)}{g:Nat}{t:TypeId}{D:Nat}{row:List AV}(h:∃ps,DataW.LaidVars P W ((name,d)::rest) ps)
  (hg:P.globalNamed name=some g)(hty:(P.globals[g]?).map (·.type)=some t)(bV:XL P D t=true)(hav:cz P D t d=row)(hi:row.all isI=true)(aK:row≠[]):aB W (G0 FF) (.ep row 0) (.pointer (some ⟨g,0,none⟩)):=by
 obtain⟨ps,g',t',cs,bz,p,q,hg',YM,axT,hd,_,_⟩:=h;obtain rfl:=Option.some.inj (hg.symm.trans hg');obtain rfl:=Option.some.inj (hty.symm.trans YM);obtain⟨_,hr,_,_⟩:=jL D bz t cs.toList d p hd bV;rw[hav]at hr
 have bM:∀(j:Nat)(c:AV),row[j]?=some c->W.cell? ⟨g,j,none⟩=some (cs.toList.getD j undef)/\(cs.toList.getD j undef).oneCell'=true/\aB W (G0 FF).dg c (cs.toList.getD j undef):=by
  intro j c hj;have ai:j<row.length:=(zza.1 hj).1;have cB:j<cs.toList.length:=by rw[<- hr.1];exact ai
  have hv:cs.toList[j]?=some (cs.toList.getD j undef):=by rw[zzar,zzad cB];rfl
  have hc:=World.var?_cell hg axT j;have h1:=hr.2 j c _ hj hv;have h2:isI c=true:=zzbh.1 hi c (zzac hj);obtain⟨h3,h4⟩:=agQ h2 (γ':=(G0 FF).dg) h1;refine⟨?_,h3,h4⟩;rw[hc,<- zzce];exact hv
 have hsz:g<W.heap.size:=by
  obtain⟨a,r,rfl⟩:=zzez aK;have:=(bM 0 a rfl).1;simp only[World.cell?]at this;rcases zzaa g W.heap.size with h|h
  ·exact h
  rw[zzcv (by omega)]at this;simp at this
 refine aB.ep (o:=0) (b:=g) (off:=0) (fun j=>cs.toList.getD j undef) hsz (fun j c hj=>?_) (fun j c hj=>(bM j c hj).2.2);obtain⟨h1,h2,_⟩:=bM j c hj;refine⟨by simpa using h1,trivial,h2⟩
def abe:cz Tryz.prog 5 344 (Rows.laid_onair_timecode_rates:DataW Unit)=H6:=by
 unfold Rows.laid_onair_timecode_rates;have h3:∀n:Int,cz Tryz.prog 2 3 (.lit (.int .i64 n):DataW Unit)=[I n]:=fun n=>Xx Tryz.underlying3 _ _;have h3':∀n:Int,cz Tryz.prog 3 3 (.lit (.int .i64 n):DataW Unit)=[I n]:=fun n=>Xx Tryz.underlying3 _ _
 have h23:∀a b:Int,cz Tryz.prog 3 47 (.agg [.lit (.int .i64 a),.lit (.int .i64 b)]:DataW Unit)=[I a,I b]:=fun a b=>by
  rw[Jb Tryz.underlying47];simp[h3]
 have axU:∀a b c d:Int,cz Tryz.prog 4 294 (.agg [.agg [.lit (.int .i64 a),.lit (.int .i64 b)],.lit (.int .i64 c),.lit (.int .i64 d)]:DataW Unit)=[I a,I b,I c,I d]:=fun a b c d=>by
  rw[Jb Tryz.underlying294];simp[h3',h23]
 rw[Rp Tryz.underlying344];simp only[zzcy,zzdx,axU];rfl
def anS{W:World}{rest:List (String×DataW Unit)}(h:laidMet Tryz.prog (("onair/timecode.rates",Rows.laid_onair_timecode_rates)::rest) W):∀g,aB W (G0 FF) (az g) (.pointer (some ⟨g,0,none⟩)):=by
 intro g;obtain⟨ps,h,_⟩:=h
 match g with
 |0=>exact ME (D:=5) ⟨ps,h⟩ (g:=0) (t:=344) (by kernel_rfl) (by kernel_rfl) (by kernel_rfl) abe (by decide) (by simp[H6])
 |g+1=>exact .junk _
def Vz{m:Int}(h:(Lit.int .i64 m).wf=true):Xv m:=by
 simp[Lit.wf,IntKind.min,IntKind.max,IntKind.bits,IntKind.signed]at h;unfold Xv;omega
def Sz{H:Type}(t:TypeId)(x:DataW H):Prop:=∀k∈x.weights Tryz.prog t,k<=reachBytes
def Sz.all{H:Type}{e:TypeId}{l:List (DataW H)}(h:∀k∈DataW.weightsAll Tryz.prog e l,k<=reachBytes):∀y∈l,Sz e y:=by
 induction l with
 |nil=>intro y hy;cases hy
 |cons a l ih=>
  intro y hy;simp only[DataW.weightsAll,zzao]at h;rcases zzaw.1 hy with rfl|hy
  ·exact fun k hk=>h k (.inl hk)
  exact ih (fun k hk=>h k (.inr hk)) y hy
def Sz.slice{H:Type}{t e:TypeId}{bN spare:List (DataW H)}(hu:Tryz.prog.underlying t=some (.slice e))(h:Sz t (.slice bN spare:DataW H)):(bN.length+spare.length)*Tryz.prog.bytesOf e<=reachBytes/\∀y∈bN,Sz e y:=by
 unfold Sz at h;simp only[DataW.weights,hu]at h;refine⟨h _ (by simp),Sz.all fun k hk=>h k (by simp[hk])⟩
def Sz.agg{H:Type}{t:TypeId}{fs:Array Field}{parts:List (DataW H)}(hu:Tryz.prog.underlying t=some (.struct fs))(h:Sz t (.agg parts:DataW H)):∀k∈DataW.weightsEach Tryz.prog (fs.toList.map (·.type)) parts,k<=reachBytes:=by
 unfold Sz at h;simpa only[DataW.weights,hu]using h
def Kc{H:Type}{α:Type}(row:α->List AV)(ok:α->Prop){t e:TypeId}(hu:Tryz.prog.underlying t=some (.slice e)){n:Nat}(fI:∀y:DataW H,Typed Tryz.prog n e y->Sz e y->∃a,ok a/\cz Tryz.prog n e y=row a)
  {x:DataW H}(h:Typed Tryz.prog (n+1) t x)(hs:Sz t x):∃(l:List α)(rt:Rt),(∀a∈l,ok a)/\l.length*Tryz.prog.bytesOf e<=reachBytes/\l.length<=maxLen/\cz Tryz.prog (n+1) t x=[.sl rt (l.map row)]:=by
 rcases Gk hu h with rfl|⟨bN,spare,rfl,hl,he⟩
 ·exact⟨[],.nil,(fun _ h=>by cases h),(by rw[zzch,zzhm];exact zzbz _),zzbz _,aff hu⟩
 obtain⟨hz,Cv⟩:=hs.slice hu
 have key:∃X:List α,(∀y∈X,ok y)/\bN.map (cz Tryz.prog n e)=X.map row:=by
  clear hl h hz hs;induction bN with
  |nil=>exact⟨[],by simp,rfl⟩
  |cons y ys ih=>
   obtain⟨X,h1,h2⟩:=ih (fun z hz=>he z (by simp[hz])) (fun z hz=>Cv z (by simp[hz]));obtain⟨q,hq,hv⟩:=fI y (he y (by simp)) (Cv y (by simp));refine⟨q::X,?_,by rw[zzay,h2,hv];rfl⟩;intro z hz;rcases zzaw.1 hz with rfl|hz
   ·exact hq
   exact h1 z hz
 obtain⟨X,h1,h2⟩:=key;have aH:X.length=bN.length:=by have:=congrArg List.length h2;simpa using this.symm
 refine⟨X,.nn,h1,?_,by omega,by rw[amS hu,h2]⟩;rw[aH];refine zzbn (zzb _ (zzgr _ _)) hz
def PA{α:Type}{l:List α}(h:l.length=2):∃a b,l=[a,b]:=by
 match l,h with
 |[a,b],_=>exact⟨a,b,rfl⟩
def PB{α:Type}{l:List α}(h:l.length=5):∃a0 a1 a2 a3 a4,l=[a0,a1,a2,a3,a4]:=by
 match l,h with
 |[a0,a1,a2,a3,a4],_=>exact⟨a0,a1,a2,a3,a4,rfl⟩
def H7{α:Type}{l:List α}(h:l.length=7):∃a0 a1 a2 a3 a4 a5 a6,l=[a0,a1,a2,a3,a4,a5,a6]:=by
 match l,h with
 |[a0,a1,a2,a3,a4,a5,a6],_=>exact⟨a0,a1,a2,a3,a4,a5,a6,rfl⟩
def abf{α:Type}{l:List α}(h:l.length=8):∃a0 a1 a2 a3 a4 a5 a6 a7,l=[a0,a1,a2,a3,a4,a5,a6,a7]:=by
 match l,h with
 |[a0,a1,a2,a3,a4,a5,a6,a7],_=>exact⟨a0,a1,a2,a3,a4,a5,a6,a7,rfl⟩
def SU{α:Type}{l:List α}(h:l.length=11):∃a0 a1 a2 a3 a4 a5 a6 a7 a8 a9 a10,l=[a0,a1,a2,a3,a4,a5,a6,a7,a8,a9,a10]:=by
 match l,h with
 |[a0,a1,a2,a3,a4,a5,a6,a7,a8,a9,a10],_=>exact⟨a0,a1,a2,a3,a4,a5,a6,a7,a8,a9,a10,rfl⟩
def H8{H:Type}{n:Nat}:∀(L:List Field)(parts:List (DataW H)),(∀f∈L,f.type=3)->(∀p∈L.zip parts,Typed Tryz.prog (n+1) p.1.type p.2)->parts.length=L.length->
  ∃l:List Int,l.length=L.length/\(∀m∈l,Xv m)/\(L.zip parts).flatMap (fun p=>cz Tryz.prog (n+1) p.1.type p.2)=l.map I
 |[],parts,_,_,_=>⟨[],rfl,(fun _ h=>by cases h),by cases parts<;>rfl⟩
 |f::L,[],_,_,h=>by simp at h
 |f::L,a::parts,bP,hp,hl=>by
  obtain⟨l,l1,l2,l3⟩:=H8 L parts (fun g hg=>bP g (zzex _ hg)) (fun p WI=>hp p (zzex _ WI)) (by simpa using hl);have ha:=hp (f,a) (by simp);have hf:=bP f (by simp);rw[hf]at ha;obtain⟨m,rfl,w⟩:=Xi Tryz.underlying3 ha;refine⟨m::l,by simp[l1],?_,?_⟩
  ·intro k hk;rcases zzaw.1 hk with rfl|hk
   ·exact Vz w
   exact l2 k hk
  simp only[zzdg,zzcy,hf];rw[Xx Tryz.underlying3,l3];rfl
def ql{H:Type}{t:TypeId}{fs:Array Field}(hu:Tryz.prog.underlying t=some (.struct fs))(bP:∀f∈fs.toList,f.type=3){y:DataW H}{n:Nat}(h:Typed Tryz.prog (n+2) t y):
  ∃l:List Int,l.length=fs.size/\(∀m∈l,Xv m)/\cz Tryz.prog (n+2) t y=l.map I:=by
 obtain⟨parts,rfl,aH,hp⟩:=Jc hu h;rw[Jb hu];obtain⟨l,l1,l2,l3⟩:=H8 fs.toList parts bP hp (by simpa using aH);exact⟨l,by simpa using l1,l2,l3⟩
def abg(s:Sp):Prop:=Xv s.1/\Xv s.2
def D1{H:Type}{t:TypeId}{f g:Field}(hu:Tryz.prog.underlying t=some (.struct #[f,g]))(hf:f.type=3)(hg:g.type=3){y:DataW H}{n:Nat}(h:Typed Tryz.prog (n+2) t y):∃s:Sp,abg s/\cz Tryz.prog (n+2) t y=Qe s:=by
 obtain⟨l,l1,l2,l3⟩:=ql hu (by simp[hf,hg]) h;obtain⟨a,b,rfl⟩:=PA (show l.length=2 from l1);exact⟨(a,b),⟨l2 a (by simp),l2 b (by simp)⟩,l3⟩
def anT(x:It):Prop:=Xv x.id/\Xv x.ki/\Xv x.fr/\Xv x.sp/\Xv x.ra
def anU(x:Cl):Prop:=Xv x.ki/\Xv x.it/\Xv x.fr/\Xv x.to/\Xv x.re/\Xv x.n/\Xv x.a/\Xv x.b
def anV(x:Bk):Prop:=Xv x.id/\Xv x.it/\Xv x.re/\Xv x.fr/\Xv x.to/\Xv x.un/\Xv x.pr
def agR(x:En):Prop:=(Xv x.id/\Xv x.it/\Xv x.fr/\Xv x.ea/\Xv x.la/\Xv x.bo)/\x.al.length<=8796093022208/\∀a∈x.al,abg a
structure auk (p:Pl):Prop where
 ch:Xv p.ch
 nu:Xv p.nu
 de:Xv p.de
 of:Xv p.of
 ep:Xv p.ep
 rg:Xv p.rg
 ln:Xv p.ln
 fi:Xv p.fi
 sh:∀s∈p.sh,abg s
 aM:∀s∈p.aM,anT s
 ens:∀s∈p.ens,agR s
 bks:∀s∈p.bks,anV s
 cls:∀s∈p.cls,anU s
 shl:p.sh.length<=8796093022208
 itl:p.aM.length<=8796093022208
 enl:p.ens.length<=8796093022208
 bkl:p.bks.length<=8796093022208
 cll:p.cls.length<=8796093022208
def abh{H:Type}{y:DataW H}{n:Nat}(h:Typed Tryz.prog (n+2) 76 y):∃x:It,anT x/\cz Tryz.prog (n+2) 76 y=Qm x:=by
 obtain⟨l,l1,l2,l3⟩:=ql Tryz.underlying76 (by simp) h;obtain⟨a0,a1,a2,a3,a4,rfl⟩:=PB (show l.length=5 from l1);exact⟨⟨a0,a1,a2,a3,a4⟩,⟨l2 _ (by simp),l2 _ (by simp),l2 _ (by simp),l2 _ (by simp),l2 _ (by simp)⟩,l3⟩
def yV{H:Type}{y:DataW H}{n:Nat}(h:Typed Tryz.prog (n+2) 38 y):∃x:Cl,anU x/\cz Tryz.prog (n+2) 38 y=Qg x:=by
 obtain⟨l,l1,l2,l3⟩:=ql Tryz.underlying38 (by simp) h;obtain⟨a0,a1,a2,a3,a4,a5,a6,a7,rfl⟩:=abf (show l.length=8 from l1);exact⟨⟨a0,a1,a2,a3,a4,a5,a6,a7⟩,⟨l2 _ (by simp),l2 _ (by simp),l2 _ (by simp),l2 _ (by simp),l2 _ (by simp),l2 _ (by simp),l2 _ (by simp),l2 _ (by simp)⟩,l3⟩
def H9{H:Type}{y:DataW H}{n:Nat}(h:Typed Tryz.prog (n+2) 159 y):∃x:Bk,anV x/\cz Tryz.prog (n+2) 159 y=Xh x:=by
 obtain⟨l,l1,l2,l3⟩:=ql Tryz.underlying159 (by simp) h;obtain⟨a0,a1,a2,a3,a4,a5,a6,rfl⟩:=H7 (show l.length=7 from l1);exact⟨⟨a0,a1,a2,a3,a4,a5,a6⟩,⟨l2 _ (by simp),l2 _ (by simp),l2 _ (by simp),l2 _ (by simp),l2 _ (by simp),l2 _ (by simp),l2 _ (by simp)⟩,l3⟩
def MF:Tryz.prog.bytesOf 76=40:=by kernel_rfl
def agS:Tryz.prog.bytesOf 114=16:=by kernel_rfl
def agT:Tryz.prog.bytesOf 36=72:=by kernel_rfl
def abi:Tryz.prog.bytesOf 159=56:=by kernel_rfl
def abj:Tryz.prog.bytesOf 38=64:=by kernel_rfl
def abk:Tryz.prog.bytesOf 153=16:=by kernel_rfl
def yW(q:En×Rt):List AV:=[I q.1.id,I q.1.it,I q.1.fr,I q.1.ea,I q.1.la,I q.1.bo,.sl q.2 (q.1.al.map Qe)]
def BF{H:Type}{y:DataW H}{n:Nat}(h:Typed Tryz.prog (n+4) 36 y)(hs:Sz 36 y):∃q:En×Rt,agR q.1/\cz Tryz.prog (n+4) 36 y=yW q:=by
 obtain⟨parts,rfl,aH,hp⟩:=Jc Tryz.underlying36 h;obtain⟨a0,a1,a2,a3,a4,a5,a6,rfl⟩:=H7 aH;have hz:=hs.agg Tryz.underlying36;have t0:=hp (⟨ "ID",3,0,false, "", "",0⟩,a0) (by simp);have t1:=hp (⟨ "Item",3,1,false, "", "",8⟩,a1) (by simp);have t2:=hp (⟨ "Frames",3,2,false, "", "",16⟩,a2) (by simp);have t3:=hp (⟨ "Earliest",3,3,false, "", "",24⟩,a3) (by simp);have t4:=hp (⟨ "Latest",3,4,false, "", "",32⟩,a4) (by simp);have t5:=hp (⟨ "Booking",3,5,false, "", "",40⟩,a5) (by simp);have t6:=hp (⟨ "Alts",34,6,false, "", "",48⟩,a6) (by simp);obtain⟨m0,rfl,w0⟩:=Xi Tryz.underlying3 t0;obtain⟨m1,rfl,w1⟩:=Xi Tryz.underlying3 t1;obtain⟨m2,rfl,w2⟩:=Xi Tryz.underlying3 t2;obtain⟨m3,rfl,w3⟩:=Xi Tryz.underlying3 t3;obtain⟨m4,rfl,w4⟩:=Xi Tryz.underlying3 t4;obtain⟨m5,rfl,w5⟩:=Xi Tryz.underlying3 t5;have hs6:Sz 34 a6:=fun k hk=>hz k (by simp[DataW.weightsEach,hk]);obtain⟨l,rt,l1,l2,l3,l4⟩:=Kc Qe abg Tryz.underlying34 (fun y hy _=>D1 Tryz.underlying114 rfl rfl hy) t6 hs6;rw[agS]at l2;have hr:reachBytes=140737488351232:=rfl;refine⟨(⟨m0,m1,m2,m3,m4,m5,l⟩,rt),⟨⟨Vz w0,Vz w1,Vz w2,Vz w3,Vz w4,Vz w5⟩,by simp only;omega,l1⟩,?_⟩;rw[Jb Tryz.underlying36];simp only[zzdg,zzel,zzcy,zzdx];rw[Xx Tryz.underlying3,Xx Tryz.underlying3,Xx Tryz.underlying3,Xx Tryz.underlying3,Xx Tryz.underlying3,Xx Tryz.underlying3,l4];rfl
def anW(l:List (En×Rt))(rt:Rt):Wk (.sl rt (l.map yW)) (.sl .ro ((l.map (·.1)).map Qd)):=by
 refine Wk.trans (Wk.sl _ _) ?_;rw[zzcz];refine Wk.rows l yW (Qd ∘ (·.1)) (fun _=>rfl) fun a j c' h=>?_
 match j,h with
 |0,h=>exact⟨_,rfl,by cases h;exact Wk.refl _⟩
 |1,h=>exact⟨_,rfl,by cases h;exact Wk.refl _⟩
 |2,h=>exact⟨_,rfl,by cases h;exact Wk.refl _⟩
 |3,h=>exact⟨_,rfl,by cases h;exact Wk.refl _⟩
 |4,h=>exact⟨_,rfl,by cases h;exact Wk.refl _⟩
 |5,h=>exact⟨_,rfl,by cases h;exact Wk.refl _⟩
 |6,h=>exact⟨_,rfl,by cases h;exact Wk.sl _ _⟩
 |j+7,h=>simp[Qd]at h
abbrev PlT:=Pl×List (En×Rt)×Rt×Rt×Rt×Rt×Rt
def MG(q:PlT):Pl:={q.1 with ens:=q.2.1.map (·.1)}
def anX(q:PlT):List AV:=[I q.1.ch,I q.1.nu,I q.1.de,I q.1.of,.sl q.2.2.1 (q.1.sh.map Qe),I q.1.ep,I q.1.rg,I q.1.ln,I q.1.fi,.sl q.2.2.2.1 (q.1.aM.map Qm),.sl q.2.2.2.2.1 (q.2.1.map yW),.sl q.2.2.2.2.2.1 (q.1.bks.map Xh),.sl q.2.2.2.2.2.2 (q.1.cls.map Qg)]
def abl{H:Type}{x:DataW H}{n:Nat}(h:Typed Tryz.prog (n+6) 56 x)(hs:Sz 56 x):∃q:PlT,auk (MG q)/\cz Tryz.prog (n+6) 56 x=anX q:=by
 obtain⟨parts,rfl,aH,hp⟩:=Jc Tryz.underlying56 h;obtain⟨a0,a1,a2,a3,a4,a5,a6,a7,a8,a9,a10,rfl⟩:=SU aH;have hz:=hs.agg Tryz.underlying56;have t0:=hp (⟨ "Channel",3,0,false, "", "",0⟩,a0) (by simp);have t1:=hp (⟨ "Rate",47,1,false, "", "",8⟩,a1) (by simp);have t2:=hp (⟨ "Zone",50,3,false, "", "",24⟩,a2) (by simp);have t3:=hp (⟨ "Epoch",3,5,false, "", "",56⟩,a3) (by simp);have t4:=hp (⟨ "Regions",3,6,false, "", "",64⟩,a4) (by simp);have t5:=hp (⟨ "Length",3,7,false, "", "",72⟩,a5) (by simp);have t6:=hp (⟨ "Fill",3,8,false, "", "",80⟩,a6) (by simp);have t7:=hp (⟨ "Items",51,9,false, "", "",88⟩,a7) (by simp);have t8:=hp (⟨ "Entries",52,10,false, "", "",112⟩,a8) (by simp);have t9:=hp (⟨ "Bookings",53,11,false, "", "",136⟩,a9) (by simp);have t10:=hp (⟨ "Clauses",54,12,false, "", "",160⟩,a10) (by simp);obtain⟨m0,rfl,w0⟩:=Xi Tryz.underlying3 t0;obtain⟨m3,rfl,w3⟩:=Xi Tryz.underlying3 t3;obtain⟨m4,rfl,w4⟩:=Xi Tryz.underlying3 t4;obtain⟨m5,rfl,w5⟩:=Xi Tryz.underlying3 t5;obtain⟨m6,rfl,w6⟩:=Xi Tryz.underlying3 t6;obtain⟨r,⟨r1,r2⟩,aul⟩:=D1 Tryz.underlying47 rfl rfl t1;obtain⟨zp,rfl,axV,zpp⟩:=Jc Tryz.underlying50 t2;obtain⟨z0,z1,rfl⟩:=PA axV;have u0:=zpp (⟨ "Offset",3,0,false, "", "",0⟩,z0) (by simp);have u1:=zpp (⟨ "Shifts",48,1,false, "", "",8⟩,z1) (by simp);obtain⟨mo,rfl,wo⟩:=Xi Tryz.underlying3 u0;have s1:Sz 48 z1:=fun k hk=>hz k (by simp[DataW.weightsEach,DataW.weights,Tryz.underlying50,hk]);have s7:Sz 51 a7:=fun k hk=>hz k (by simp[DataW.weightsEach,hk]);have s8:Sz 52 a8:=fun k hk=>hz k (by simp[DataW.weightsEach,hk]);have s9:Sz 53 a9:=fun k hk=>hz k (by simp[DataW.weightsEach,hk]);have s10:Sz 54 a10:=fun k hk=>hz k (by simp[DataW.weightsEach,hk]);have hr:reachBytes=140737488351232:=rfl;obtain⟨sh,rt1,sh1,sh2,_,sh4⟩:=Kc Qe abg Tryz.underlying48 (fun y hy _=>D1 Tryz.underlying153 rfl rfl hy) u1 s1;obtain⟨it,rt7,it1,it2,_,it4⟩:=Kc Qm anT Tryz.underlying51 (fun y hy _=>abh hy) t7 s7;obtain⟨en,rt8,en1,en2,_,en4⟩:=Kc yW (fun q=>agR q.1) Tryz.underlying52 (fun y hy hz=>BF hy hz) t8 s8;obtain⟨bk,rt9,bk1,bk2,_,bk4⟩:=Kc Xh anV Tryz.underlying53 (fun y hy _=>H9 hy) t9 s9;obtain⟨cl,axW,cl1,cl2,_,cl4⟩:=Kc Qg anU Tryz.underlying54 (fun y hy _=>yV hy) t10 s10;rw[abk]at sh2;rw[MF]at it2;rw[agT]at en2;rw[abi]at bk2;rw[abj]at cl2;refine⟨(⟨m0,r.1,r.2,mo,sh,m3,m4,m5,m6,it,[],bk,cl⟩,en,rt1,rt7,rt8,rt9,axW),⟨Vz w0,r1,r2,Vz wo,Vz w3,Vz w4,Vz w5,Vz w6,sh1,it1,?_,bk1,cl1,by simp only[MG];omega,by simp only[MG];omega,by simp only[MG,zzbf];omega,by simp only[MG];omega,by simp only[MG];omega⟩,?_⟩
 ·intro s hs;obtain⟨q,hq,rfl⟩:=zzbc.1 hs;exact en1 q hq
 rw[Jb Tryz.underlying56];simp only[zzdg,zzel,zzcy,zzdx];rw[Xx Tryz.underlying3,Xx Tryz.underlying3,Xx Tryz.underlying3,Xx Tryz.underlying3,Xx Tryz.underlying3,it4,en4,bk4,cl4,Jb Tryz.underlying50];simp only[zzdg,zzel,zzcy,zzdx];rw[Xx Tryz.underlying3,sh4,aul];rfl
def aba{H:Type}{x:DataW H}{n:Nat}(h:Typed Tryz.prog (n+6) 56 x)(hs:Sz 56 x):∃p:Pl,auk p/\Wk (gV Tryz.prog (n+6) 56 x) (.agg (Qc p)):=by
 have bD:Uq Tryz.prog 56=true:=by unfold Uq;rw[Tryz.underlying56]
 obtain⟨q,h1,h2⟩:=abl h hs;refine⟨MG q,h1,?_⟩;rw[Ox bD,h2];exact Qcp ⟨Wk.refl _,Wk.refl _,Wk.refl _,Wk.refl _,Wk.sl _ _,Wk.refl _,Wk.refl _,Wk.refl _,Wk.refl _,Wk.sl _ _,anW _ _,Wk.sl _ _,Wk.sl _ _,trivial⟩
def agP{H:Type}{x:DataW H}{n:Nat}(h:Typed Tryz.prog (n+1) 3 x):∃m:Int,Xv m/\gV Tryz.prog (n+1) 3 x=I m:=by
 have bD:Uq Tryz.prog 3=false:=by unfold Uq;rw[Tryz.underlying3]
 obtain⟨m,rfl,w⟩:=Xi Tryz.underlying3 h;exact⟨m,Vz w,by rw[Df bD (Xx Tryz.underlying3 _ _)]⟩
def agU:Tryz.prog.bytesOf 42=232:=by kernel_rfl
structure agV (o:Od):Prop where
 n:Xv o.n
 fr:Xv o.fr
 en:agR o.nw
abbrev OdT:=Od×Rt
def yX(q:OdT):List AV:=[I q.1.sq,I q.1.ch,I q.1.fr,I q.1.ki,I q.1.en,I q.1.n,I q.1.nw.id,I q.1.nw.it,I q.1.nw.fr,I q.1.nw.ea,I q.1.nw.la,I q.1.nw.bo,.sl q.2 (q.1.nw.al.map Qe),I q.1.cl.ki,I q.1.cl.it,I q.1.cl.fr,I q.1.cl.to,I q.1.cl.re,I q.1.cl.n,I q.1.cl.a,I q.1.cl.b,I q.1.cu.id,I q.1.cu.fr,I q.1.cu.to,I q.1.cu.pr,.str q.1.cu.tx]
def agW{H:Type}{x:DataW H}{n:Nat}(h:Typed Tryz.prog (n+2) 40 x):∃c:Cue,cz Tryz.prog (n+2) 40 x=Qi c:=by
 obtain⟨parts,rfl,aH,hp⟩:=Jc Tryz.underlying40 h;obtain⟨a0,a1,a2,a3,a4,rfl⟩:=PB aH;have t0:=hp (⟨ "ID",3,0,false, "", "",0⟩,a0) (by simp);have t1:=hp (⟨ "From",3,1,false, "", "",8⟩,a1) (by simp);have t2:=hp (⟨ "To",3,2,false, "", "",16⟩,a2) (by simp);have t3:=hp (⟨ "Priority",3,3,false, "", "",24⟩,a3) (by simp);have t4:=hp (⟨ "Text",9,4,false, "", "",32⟩,a4) (by simp);obtain⟨m0,rfl,w0⟩:=Xi Tryz.underlying3 t0;obtain⟨m1,rfl,w1⟩:=Xi Tryz.underlying3 t1;obtain⟨m2,rfl,w2⟩:=Xi Tryz.underlying3 t2;obtain⟨m3,rfl,w3⟩:=Xi Tryz.underlying3 t3;obtain⟨s,rfl,_⟩:=Ro Tryz.underlying9 t4;refine⟨⟨m0,m1,m2,m3,⟨s.toArray⟩⟩,?_⟩;rw[Jb Tryz.underlying40];simp only[zzdg,zzel,zzcy,zzdx];rw[Xx Tryz.underlying3,Xx Tryz.underlying3,Xx Tryz.underlying3,Xx Tryz.underlying3,afe Tryz.underlying9];rfl
def agX{α:Type}{l:List α}(h:l.length=9):∃a0 a1 a2 a3 a4 a5 a6 a7 a8,l=[a0,a1,a2,a3,a4,a5,a6,a7,a8]:=by
 match l,h with
 |[a0,a1,a2,a3,a4,a5,a6,a7,a8],_=>exact⟨a0,a1,a2,a3,a4,a5,a6,a7,a8,rfl⟩
def BG{H:Type}{x:DataW H}{n:Nat}(h:Typed Tryz.prog (n+5) 42 x)(hs:Sz 42 x):∃q:OdT,agV q.1/\cz Tryz.prog (n+5) 42 x=yX q:=by
 obtain⟨parts,rfl,aH,hp⟩:=Jc Tryz.underlying42 h;obtain⟨a0,a1,a2,a3,a4,a5,a6,a7,a8,rfl⟩:=agX aH;have hz:=hs.agg Tryz.underlying42;have t0:=hp (⟨ "Seq",3,0,false, "", "",0⟩,a0) (by simp);have t1:=hp (⟨ "Channel",3,1,false, "", "",8⟩,a1) (by simp);have t2:=hp (⟨ "Frame",3,2,false, "", "",16⟩,a2) (by simp);have t3:=hp (⟨ "Kind",3,3,false, "", "",24⟩,a3) (by simp);have t4:=hp (⟨ "Entry",3,4,false, "", "",32⟩,a4) (by simp);have t5:=hp (⟨ "N",3,5,false, "", "",40⟩,a5) (by simp);have t6:=hp (⟨ "New",36,6,false, "", "",48⟩,a6) (by simp);have t7:=hp (⟨ "Clause",38,13,false, "", "",120⟩,a7) (by simp);have t8:=hp (⟨ "Cue",40,21,false, "", "",184⟩,a8) (by simp);obtain⟨m0,rfl,w0⟩:=Xi Tryz.underlying3 t0;obtain⟨m1,rfl,w1⟩:=Xi Tryz.underlying3 t1;obtain⟨m2,rfl,w2⟩:=Xi Tryz.underlying3 t2;obtain⟨m3,rfl,w3⟩:=Xi Tryz.underlying3 t3;obtain⟨m4,rfl,w4⟩:=Xi Tryz.underlying3 t4;obtain⟨m5,rfl,w5⟩:=Xi Tryz.underlying3 t5;have s6:Sz 36 a6:=fun k hk=>hz k (by simp[DataW.weightsEach,hk]);obtain⟨⟨e,rt⟩,e1,e2⟩:=BF t6 s6;obtain⟨c,c1,c2⟩:=yV t7;obtain⟨u,u2⟩:=agW t8;refine⟨(⟨m0,m1,m2,m3,m4,m5,e,c,u⟩,rt),⟨Vz w5,Vz w2,e1⟩,?_⟩;rw[Jb Tryz.underlying42];simp only[zzdg,zzel,zzcy,zzdx];rw[Xx Tryz.underlying3,Xx Tryz.underlying3,Xx Tryz.underlying3,Xx Tryz.underlying3,Xx Tryz.underlying3,Xx Tryz.underlying3,e2,c2,u2];rfl
def aum(q:OdT):Wk (.agg (yX q)) (.agg (Qq q.1)):=
 Qcp ⟨Wk.refl _,Wk.refl _,Wk.refl _,Wk.refl _,Wk.refl _,Wk.refl _,Wk.refl _,Wk.refl _,Wk.refl _,Wk.refl _,Wk.refl _,Wk.refl _,Wk.sl _ _,Wk.refl _,Wk.refl _,Wk.refl _,Wk.refl _,Wk.refl _,Wk.refl _,Wk.refl _,Wk.refl _,Wk.refl _,Wk.refl _,Wk.refl _,Wk.refl _,Wk.refl _,trivial⟩
def anY(l:List OdT)(rt:Rt):Wk (.sl rt (l.map yX)) (.sl .ro ((l.map (·.1)).map Qq)):=by
 refine Wk.trans (Wk.sl _ _) ?_;rw[zzcz];refine Wk.rows l yX (Qq ∘ (·.1)) (fun _=>rfl) fun a j c' h=>?_
 match j,h with
 |0,h=>exact⟨_,rfl,by cases h;exact Wk.refl _⟩
 |1,h=>exact⟨_,rfl,by cases h;exact Wk.refl _⟩
 |2,h=>exact⟨_,rfl,by cases h;exact Wk.refl _⟩
 |3,h=>exact⟨_,rfl,by cases h;exact Wk.refl _⟩
 |4,h=>exact⟨_,rfl,by cases h;exact Wk.refl _⟩
 |5,h=>exact⟨_,rfl,by cases h;exact Wk.refl _⟩
 |6,h=>exact⟨_,rfl,by cases h;exact Wk.refl _⟩
 |7,h=>exact⟨_,rfl,by cases h;exact Wk.refl _⟩
 |8,h=>exact⟨_,rfl,by cases h;exact Wk.refl _⟩
 |9,h=>exact⟨_,rfl,by cases h;exact Wk.refl _⟩
 |10,h=>exact⟨_,rfl,by cases h;exact Wk.refl _⟩
 |11,h=>exact⟨_,rfl,by cases h;exact Wk.refl _⟩
 |12,h=>exact⟨_,rfl,by cases h;exact Wk.sl _ _⟩
 |13,h=>exact⟨_,rfl,by cases h;exact Wk.refl _⟩
 |14,h=>exact⟨_,rfl,by cases h;exact Wk.refl _⟩
 |15,h=>exact⟨_,rfl,by cases h;exact Wk.refl _⟩
 |16,h=>exact⟨_,rfl,by cases h;exact Wk.refl _⟩
 |17,h=>exact⟨_,rfl,by cases h;exact Wk.refl _⟩
 |18,h=>exact⟨_,rfl,by cases h;exact Wk.refl _⟩
 |19,h=>exact⟨_,rfl,by cases h;exact Wk.refl _⟩
 |20,h=>exact⟨_,rfl,by cases h;exact Wk.refl _⟩
 |21,h=>exact⟨_,rfl,by cases h;exact Wk.refl _⟩
 |22,h=>exact⟨_,rfl,by cases h;exact Wk.refl _⟩
 |23,h=>exact⟨_,rfl,by cases h;exact Wk.refl _⟩
 |24,h=>exact⟨_,rfl,by cases h;exact Wk.refl _⟩
 |25,h=>exact⟨_,rfl,by cases h;exact Wk.refl _⟩
 |j+26,h=>simp[Qq,Qd,Qg,Qi]at h
def MD{H:Type}{x:DataW H}{n:Nat}(h:Typed Tryz.prog (n+6) 23 x)(hs:Sz 23 x):∃l:List Od,(∀o∈l,agV o)/\l.length<=1000000000000/\Wk (gV Tryz.prog (n+6) 23 x) (.sl .ro (l.map Qq)):=by
 have bD:Uq Tryz.prog 23=false:=by unfold Uq;rw[Tryz.underlying23]
 obtain⟨l,rt,l1,l2,_,l4⟩:=Kc yX (fun q=>agV q.1) Tryz.underlying23 (fun y hy hz=>BG hy hz) h hs;rw[agU]at l2;have hr:reachBytes=140737488351232:=rfl;refine⟨l.map (·.1),fun p hp=>?_,by rw[zzbf];omega,by rw[Df bD l4];exact anY l rt⟩;obtain⟨q,hq,rfl⟩:=zzbc.1 hp;exact l1 q hq
def SS{H:Type}{x:DataW H}{n:Nat}(h:Typed Tryz.prog (n+5) 42 x)(hs:Sz 42 x):∃o:Od,agV o/\Wk (gV Tryz.prog (n+5) 42 x) (.agg (Qq o)):=by
 have bD:Uq Tryz.prog 42=true:=by unfold Uq;rw[Tryz.underlying42]
 obtain⟨q,h1,h2⟩:=BG h hs;exact⟨q.1,h1,by rw[Ox bD,h2];exact aum q⟩
def abm:Tryz.prog.bytesOf 3=8:=by kernel_rfl
def agY{H:Type}{y:DataW H}{n:Nat}(h:Typed Tryz.prog (n+1) 3 y):∃m:Int,Xv m/\cz Tryz.prog (n+1) 3 y=Qy m:=by
 obtain⟨m,rfl,w⟩:=Xi Tryz.underlying3 h;exact⟨m,Vz w,Xx Tryz.underlying3 _ _⟩
def abb{H:Type}{x:DataW H}{n:Nat}(h:Typed Tryz.prog (n+2) 59 x)(hs:Sz 59 x):∃l:List Int,(∀m∈l,Xv m)/\l.length<=17592186044416/\Wk (gV Tryz.prog (n+2) 59 x) (.sl .ro (l.map Qy)):=by
 have bD:Uq Tryz.prog 59=false:=by unfold Uq;rw[Tryz.underlying59]
 obtain⟨l,rt,l1,l2,_,l4⟩:=Kc Qy Xv Tryz.underlying59 (fun y hy _=>agY hy) h hs;rw[abm]at l2;have hr:reachBytes=140737488351232:=rfl;exact⟨l,l1,by omega,by rw[Df bD l4];exact Wk.sl _ _⟩
end Go.Proofs.YtnopaopphmjnmaaGreatDoor
