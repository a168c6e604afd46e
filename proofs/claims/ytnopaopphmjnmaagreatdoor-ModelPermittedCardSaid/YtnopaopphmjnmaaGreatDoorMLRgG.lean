import Derived.Test.YtnopaopphmjnmaaGreatDoorMLMcN
import Derived.Test.YtnopaopphmjnmaaGreatDoorCards
import Derived.Deep.DeepHandedRow
import Derived.Lib.LaidTab
import Derived.MakeChecks
set_option linter.all false
set_option maxRecDepth 100000
namespace Go.Proofs.YtnopaopphmjnmaaGreatDoor
open Go Go.Abs Go.RowKit
def isI(a:AV):Bool:=match a with
 |.int _ _=>true
 |_=>false
def agV{a:AV}(h:isI a=true){w:World}{γ γ':G}{v:Value}(hr:aB w γ a v):v.oneCell'=true/\aB w γ' a v:=by
 cases hr<;>simp[isI]at h;exact⟨rfl,.int _ _⟩
def Mu{P:Program}{W:World}{name:String}{d:DataW Unit}{rest:List (String×DataW Unit)}{g:Nat}{t:TypeId}{D:Nat}{row:List AV}(h:∃ps,DataW.LaidVars P W ((name,d)::rest) ps)
  (hg:P.globalNamed name=some g)(hty:(P.globals[g]?).map (·.type)=some t)(bQ:XN P D t=true)(hav:cz P D t d=row)(hi:row.all isI=true)(aK:row≠[]):aB W (G0 Fx) (.ep row 0) (.pointer (some ⟨g,0,none⟩)):=by
 obtain⟨ps,g',t',cs,bz,p,q,Rg,YO,axT,hd,_,_⟩:=h;obtain rfl:=Option.some.inj (hg.symm.trans Rg);obtain rfl:=Option.some.inj (hty.symm.trans YO);obtain⟨_,hr,_,_⟩:=jr D bz t cs.toList d p hd bQ;rw[hav]at hr
 have bL:∀(j:Nat)(c:AV),row[j]?=some c->W.cell? ⟨g,j,none⟩=some (cs.toList.getD j undef)/\(cs.toList.getD j undef).oneCell'=true/\aB W (G0 Fx).cT c (cs.toList.getD j undef):=by
  intro j c hj;have ai:j<row.length:=(zza.1 hj).1;have cK:j<cs.toList.length:=by rw[<- hr.1];exact ai
  have hv:cs.toList[j]?=some (cs.toList.getD j undef):=by rw[zzar,zzac cK];rfl
  have hc:=World.var?_cell hg axT j;have h1:=hr.2 j c _ hj hv;have h2:isI c=true:=zzbh.1 hi c (zzad hj);obtain⟨h3,h4⟩:=agV h2 (γ':=(G0 Fx).cT) h1;refine⟨?_,h3,h4⟩;rw[hc,<- zzcd];exact hv
 have hsz:g<W.heap.size:=by
  obtain⟨a,r,rfl⟩:=zzez aK;have:=(bL 0 a rfl).1;simp only[World.cell?]at this;rcases zzaa g W.heap.size with h|h
  ·exact h
  rw[zzct (by omega)]at this;simp at this
 refine aB.ep (o:=0) (b:=g) (off:=0) (fun j=>cs.toList.getD j undef) hsz (fun j c hj=>?_) (fun j c hj=>(bL j c hj).2.2);obtain⟨h1,h2,_⟩:=bL j c hj;refine⟨by simpa using h1,trivial,h2⟩
def abc:cz Tryz.prog 5 344 (Rows.laid_onair_timecode_rates:DataW Unit)=HW:=by
 unfold Rows.laid_onair_timecode_rates;have h3:∀n:Int,cz Tryz.prog 2 3 (.lit (.int .i64 n):DataW Unit)=[I n]:=fun n=>Xy Tryz.underlying3 _ _;have h3':∀n:Int,cz Tryz.prog 3 3 (.lit (.int .i64 n):DataW Unit)=[I n]:=fun n=>Xy Tryz.underlying3 _ _
 have h23:∀a b:Int,cz Tryz.prog 3 47 (.agg [.lit (.int .i64 a),.lit (.int .i64 b)]:DataW Unit)=[I a,I b]:=fun a b=>by
  rw[Uu Tryz.underlying47];simp[h3]
 have axU:∀a b c d:Int,cz Tryz.prog 4 294 (.agg [.agg [.lit (.int .i64 a),.lit (.int .i64 b)],.lit (.int .i64 c),.lit (.int .i64 d)]:DataW Unit)=[I a,I b,I c,I d]:=fun a b c d=>by
  rw[Uu Tryz.underlying294];simp[h3',h23]
 rw[Rm Tryz.underlying344];simp only[zzdf,zzdv,axU];rfl
def anP{W:World}{rest:List (String×DataW Unit)}(h:laidMet Tryz.prog (("onair/timecode.rates",Rows.laid_onair_timecode_rates)::rest) W):∀g,aB W (G0 Fx) (az g) (.pointer (some ⟨g,0,none⟩)):=by
 intro g;obtain⟨ps,h,_⟩:=h
 match g with
 |0=>exact Mu (D:=5) ⟨ps,h⟩ (g:=0) (t:=344) (by kernel_rfl) (by kernel_rfl) (by kernel_rfl) abc (by decide) (by simp[HW])
 |g+1=>exact .junk _
def Vv{m:Int}(h:(Lit.int .i64 m).wf=true):Xw m:=by
 simp[Lit.wf,IntKind.min,IntKind.max,IntKind.bits,IntKind.signed]at h;unfold Xw;omega
def Sz{H:Type}(t:TypeId)(x:DataW H):Prop:=∀k∈x.weights Tryz.prog t,k<=reachBytes
def Sz.all{H:Type}{e:TypeId}{l:List (DataW H)}(h:∀k∈DataW.weightsAll Tryz.prog e l,k<=reachBytes):∀y∈l,Sz e y:=by
 induction l with
 |nil=>intro y hy;cases hy
 |cons a l ih=>
  intro y hy;simp only[DataW.weightsAll,zzao]at h;rcases zzat.1 hy with rfl|hy
  ·exact fun k hk=>h k (.inl hk)
  exact ih (fun k hk=>h k (.inr hk)) y hy
def Sz.slice{H:Type}{t e:TypeId}{bM spare:List (DataW H)}(hu:Tryz.prog.underlying t=some (.slice e))(h:Sz t (.slice bM spare:DataW H)):(bM.length+spare.length)*Tryz.prog.bytesOf e<=reachBytes/\∀y∈bM,Sz e y:=by
 unfold Sz at h;simp only[DataW.weights,hu]at h;refine⟨h _ (by simp),Sz.all fun k hk=>h k (by simp[hk])⟩
def Sz.agg{H:Type}{t:TypeId}{fs:Array Field}{parts:List (DataW H)}(hu:Tryz.prog.underlying t=some (.struct fs))(h:Sz t (.agg parts:DataW H)):∀k∈DataW.weightsEach Tryz.prog (fs.toList.map (·.type)) parts,k<=reachBytes:=by
 unfold Sz at h;simpa only[DataW.weights,hu]using h
def Jy{H:Type}{α:Type}(row:α->List AV)(ok:α->Prop){t e:TypeId}(hu:Tryz.prog.underlying t=some (.slice e)){n:Nat}(fB:∀y:DataW H,Typed Tryz.prog n e y->Sz e y->∃a,ok a/\cz Tryz.prog n e y=row a)
  {x:DataW H}(h:Typed Tryz.prog (n+1) t x)(hs:Sz t x):∃(l:List α)(rt:Rt),(∀a∈l,ok a)/\l.length*Tryz.prog.bytesOf e<=reachBytes/\l.length<=maxLen/\cz Tryz.prog (n+1) t x=[.sl rt (l.map row)]:=by
 rcases Gb hu h with rfl|⟨bM,spare,rfl,hl,he⟩
 ·exact⟨[],.nil,(fun _ h=>by cases h),(by rw[zzch,zzhq];exact zzcc _),zzcc _,aff hu⟩
 obtain⟨hz,Cs⟩:=hs.slice hu
 have key:∃X:List α,(∀y∈X,ok y)/\bM.map (cz Tryz.prog n e)=X.map row:=by
  clear hl h hz hs;induction bM with
  |nil=>exact⟨[],by simp,rfl⟩
  |cons y ys ih=>
   obtain⟨X,h1,h2⟩:=ih (fun z hz=>he z (by simp[hz])) (fun z hz=>Cs z (by simp[hz]));obtain⟨q,hq,hv⟩:=fB y (he y (by simp)) (Cs y (by simp));refine⟨q::X,?_,by rw[zzaz,h2,hv];rfl⟩;intro z hz;rcases zzat.1 hz with rfl|hz
   ·exact hq
   exact h1 z hz
 obtain⟨X,h1,h2⟩:=key;have aH:X.length=bM.length:=by have:=congrArg List.length h2;simpa using this.symm
 refine⟨X,.nn,h1,?_,by omega,by rw[amP hu,h2]⟩;rw[aH];refine zzbn (zzba _ (zzgy _ _)) hz
def Pm{α:Type}{l:List α}(h:l.length=2):∃a b,l=[a,b]:=by
 match l,h with
 |[a,b],_=>exact⟨a,b,rfl⟩
def Pn{α:Type}{l:List α}(h:l.length=5):∃a0 a1 a2 a3 a4,l=[a0,a1,a2,a3,a4]:=by
 match l,h with
 |[a0,a1,a2,a3,a4],_=>exact⟨a0,a1,a2,a3,a4,rfl⟩
def HX{α:Type}{l:List α}(h:l.length=7):∃a0 a1 a2 a3 a4 a5 a6,l=[a0,a1,a2,a3,a4,a5,a6]:=by
 match l,h with
 |[a0,a1,a2,a3,a4,a5,a6],_=>exact⟨a0,a1,a2,a3,a4,a5,a6,rfl⟩
def abd{α:Type}{l:List α}(h:l.length=8):∃a0 a1 a2 a3 a4 a5 a6 a7,l=[a0,a1,a2,a3,a4,a5,a6,a7]:=by
 match l,h with
 |[a0,a1,a2,a3,a4,a5,a6,a7],_=>exact⟨a0,a1,a2,a3,a4,a5,a6,a7,rfl⟩
def SY{α:Type}{l:List α}(h:l.length=11):∃a0 a1 a2 a3 a4 a5 a6 a7 a8 a9 a10,l=[a0,a1,a2,a3,a4,a5,a6,a7,a8,a9,a10]:=by
 match l,h with
 |[a0,a1,a2,a3,a4,a5,a6,a7,a8,a9,a10],_=>exact⟨a0,a1,a2,a3,a4,a5,a6,a7,a8,a9,a10,rfl⟩
def HY{H:Type}{n:Nat}:∀(L:List Field)(parts:List (DataW H)),(∀f∈L,f.type=3)->(∀p∈L.zip parts,Typed Tryz.prog (n+1) p.1.type p.2)->parts.length=L.length->
  ∃l:List Int,l.length=L.length/\(∀m∈l,Xw m)/\(L.zip parts).flatMap (fun p=>cz Tryz.prog (n+1) p.1.type p.2)=l.map I
 |[],parts,_,_,_=>⟨[],rfl,(fun _ h=>by cases h),by cases parts<;>rfl⟩
 |f::L,[],_,_,h=>by simp at h
 |f::L,a::parts,bR,hp,hl=>by
  obtain⟨l,l1,l2,l3⟩:=HY L parts (fun g hg=>bR g (zzex _ hg)) (fun p WK=>hp p (zzex _ WK)) (by simpa using hl);have ha:=hp (f,a) (by simp);have hf:=bR f (by simp);rw[hf]at ha;obtain⟨m,rfl,w⟩:=Xi Tryz.underlying3 ha;refine⟨m::l,by simp[l1],?_,?_⟩
  ·intro k hk;rcases zzat.1 hk with rfl|hk
   ·exact Vv w
   exact l2 k hk
  simp only[zzdg,zzdf,hf];rw[Xy Tryz.underlying3,l3];rfl
def qh{H:Type}{t:TypeId}{fs:Array Field}(hu:Tryz.prog.underlying t=some (.struct fs))(bR:∀f∈fs.toList,f.type=3){y:DataW H}{n:Nat}(h:Typed Tryz.prog (n+2) t y):
  ∃l:List Int,l.length=fs.size/\(∀m∈l,Xw m)/\cz Tryz.prog (n+2) t y=l.map I:=by
 obtain⟨parts,rfl,aH,hp⟩:=Uv hu h;rw[Uu hu];obtain⟨l,l1,l2,l3⟩:=HY fs.toList parts bR hp (by simpa using aH);exact⟨l,by simpa using l1,l2,l3⟩
def abe(s:Sp):Prop:=Xw s.1/\Xw s.2
def DW{H:Type}{t:TypeId}{f g:Field}(hu:Tryz.prog.underlying t=some (.struct #[f,g]))(hf:f.type=3)(hg:g.type=3){y:DataW H}{n:Nat}(h:Typed Tryz.prog (n+2) t y):∃s:Sp,abe s/\cz Tryz.prog (n+2) t y=Qe s:=by
 obtain⟨l,l1,l2,l3⟩:=qh hu (by simp[hf,hg]) h;obtain⟨a,b,rfl⟩:=Pm (show l.length=2 from l1);exact⟨(a,b),⟨l2 a (by simp),l2 b (by simp)⟩,l3⟩
def anQ(x:It):Prop:=Xw x.id/\Xw x.ki/\Xw x.fr/\Xw x.sp/\Xw x.ra
def anR(x:Cl):Prop:=Xw x.ki/\Xw x.it/\Xw x.fr/\Xw x.to/\Xw x.re/\Xw x.n/\Xw x.a/\Xw x.b
def anS(x:Bk):Prop:=Xw x.id/\Xw x.it/\Xw x.re/\Xw x.fr/\Xw x.to/\Xw x.un/\Xw x.pr
def agW(x:En):Prop:=(Xw x.id/\Xw x.it/\Xw x.fr/\Xw x.ea/\Xw x.la/\Xw x.bo)/\x.al.length<=8796093022208/\∀a∈x.al,abe a
structure aug (p:Pl):Prop where
 ch:Xw p.ch
 nu:Xw p.nu
 de:Xw p.de
 of:Xw p.of
 ep:Xw p.ep
 rg:Xw p.rg
 ln:Xw p.ln
 fi:Xw p.fi
 sh:∀s∈p.sh,abe s
 aL:∀s∈p.aL,anQ s
 ens:∀s∈p.ens,agW s
 bks:∀s∈p.bks,anS s
 cls:∀s∈p.cls,anR s
 shl:p.sh.length<=8796093022208
 itl:p.aL.length<=8796093022208
 enl:p.ens.length<=8796093022208
 bkl:p.bks.length<=8796093022208
 cll:p.cls.length<=8796093022208
def abf{H:Type}{y:DataW H}{n:Nat}(h:Typed Tryz.prog (n+2) 76 y):∃x:It,anQ x/\cz Tryz.prog (n+2) 76 y=Qm x:=by
 obtain⟨l,l1,l2,l3⟩:=qh Tryz.underlying76 (by simp) h;obtain⟨a0,a1,a2,a3,a4,rfl⟩:=Pn (show l.length=5 from l1);exact⟨⟨a0,a1,a2,a3,a4⟩,⟨l2 _ (by simp),l2 _ (by simp),l2 _ (by simp),l2 _ (by simp),l2 _ (by simp)⟩,l3⟩
def yQ{H:Type}{y:DataW H}{n:Nat}(h:Typed Tryz.prog (n+2) 38 y):∃x:Cl,anR x/\cz Tryz.prog (n+2) 38 y=Qg x:=by
 obtain⟨l,l1,l2,l3⟩:=qh Tryz.underlying38 (by simp) h;obtain⟨a0,a1,a2,a3,a4,a5,a6,a7,rfl⟩:=abd (show l.length=8 from l1);exact⟨⟨a0,a1,a2,a3,a4,a5,a6,a7⟩,⟨l2 _ (by simp),l2 _ (by simp),l2 _ (by simp),l2 _ (by simp),l2 _ (by simp),l2 _ (by simp),l2 _ (by simp),l2 _ (by simp)⟩,l3⟩
def HZ{H:Type}{y:DataW H}{n:Nat}(h:Typed Tryz.prog (n+2) 159 y):∃x:Bk,anS x/\cz Tryz.prog (n+2) 159 y=Xg x:=by
 obtain⟨l,l1,l2,l3⟩:=qh Tryz.underlying159 (by simp) h;obtain⟨a0,a1,a2,a3,a4,a5,a6,rfl⟩:=HX (show l.length=7 from l1);exact⟨⟨a0,a1,a2,a3,a4,a5,a6⟩,⟨l2 _ (by simp),l2 _ (by simp),l2 _ (by simp),l2 _ (by simp),l2 _ (by simp),l2 _ (by simp),l2 _ (by simp)⟩,l3⟩
def Mv:Tryz.prog.bytesOf 76=40:=by kernel_rfl
def agX:Tryz.prog.bytesOf 114=16:=by kernel_rfl
def agY:Tryz.prog.bytesOf 36=72:=by kernel_rfl
def abg:Tryz.prog.bytesOf 159=56:=by kernel_rfl
def abh:Tryz.prog.bytesOf 38=64:=by kernel_rfl
def abi:Tryz.prog.bytesOf 153=16:=by kernel_rfl
def yR(q:En×Rt):List AV:=[I q.1.id,I q.1.it,I q.1.fr,I q.1.ea,I q.1.la,I q.1.bo,.sl q.2 (q.1.al.map Qe)]
def BE{H:Type}{y:DataW H}{n:Nat}(h:Typed Tryz.prog (n+4) 36 y)(hs:Sz 36 y):∃q:En×Rt,agW q.1/\cz Tryz.prog (n+4) 36 y=yR q:=by
 obtain⟨parts,rfl,aH,hp⟩:=Uv Tryz.underlying36 h;obtain⟨a0,a1,a2,a3,a4,a5,a6,rfl⟩:=HX aH;have hz:=hs.agg Tryz.underlying36;have t0:=hp (⟨ "ID",3,0,false, "", "",0⟩,a0) (by simp);have t1:=hp (⟨ "Item",3,1,false, "", "",8⟩,a1) (by simp);have t2:=hp (⟨ "Frames",3,2,false, "", "",16⟩,a2) (by simp);have t3:=hp (⟨ "Earliest",3,3,false, "", "",24⟩,a3) (by simp);have t4:=hp (⟨ "Latest",3,4,false, "", "",32⟩,a4) (by simp);have t5:=hp (⟨ "Booking",3,5,false, "", "",40⟩,a5) (by simp);have t6:=hp (⟨ "Alts",34,6,false, "", "",48⟩,a6) (by simp);obtain⟨m0,rfl,w0⟩:=Xi Tryz.underlying3 t0;obtain⟨m1,rfl,w1⟩:=Xi Tryz.underlying3 t1;obtain⟨m2,rfl,w2⟩:=Xi Tryz.underlying3 t2;obtain⟨m3,rfl,w3⟩:=Xi Tryz.underlying3 t3;obtain⟨m4,rfl,w4⟩:=Xi Tryz.underlying3 t4;obtain⟨m5,rfl,w5⟩:=Xi Tryz.underlying3 t5;have hs6:Sz 34 a6:=fun k hk=>hz k (by simp[DataW.weightsEach,hk]);obtain⟨l,rt,l1,l2,l3,l4⟩:=Jy Qe abe Tryz.underlying34 (fun y hy _=>DW Tryz.underlying114 rfl rfl hy) t6 hs6;rw[agX]at l2;have hr:reachBytes=140737488351232:=rfl;refine⟨(⟨m0,m1,m2,m3,m4,m5,l⟩,rt),⟨⟨Vv w0,Vv w1,Vv w2,Vv w3,Vv w4,Vv w5⟩,by simp only;omega,l1⟩,?_⟩;rw[Uu Tryz.underlying36];simp only[zzdg,zzej,zzdf,zzdv];rw[Xy Tryz.underlying3,Xy Tryz.underlying3,Xy Tryz.underlying3,Xy Tryz.underlying3,Xy Tryz.underlying3,Xy Tryz.underlying3,l4];rfl
def anT(l:List (En×Rt))(rt:Rt):Wk (.sl rt (l.map yR)) (.sl .ro ((l.map (·.1)).map Qd)):=by
 refine Wk.trans (Wk.sl _ _) ?_;rw[zzcy];refine Wk.rows l yR (Qd ∘ (·.1)) (fun _=>rfl) fun a j c' h=>?_
 match j,h with
 |0,h=>exact⟨_,rfl,by cases h;exact Wk.refl _⟩
 |1,h=>exact⟨_,rfl,by cases h;exact Wk.refl _⟩
 |2,h=>exact⟨_,rfl,by cases h;exact Wk.refl _⟩
 |3,h=>exact⟨_,rfl,by cases h;exact Wk.refl _⟩
 |4,h=>exact⟨_,rfl,by cases h;exact Wk.refl _⟩
 |5,h=>exact⟨_,rfl,by cases h;exact Wk.refl _⟩
 |6,h=>exact⟨_,rfl,by cases h;exact Wk.sl _ _⟩
 |j+7,h=>simp[Qd]at h
abbrev PlT:=Pl×List (En×Rt)×Rt×Rt×Rt×Rt×Rt
def Mw(q:PlT):Pl:={q.1 with ens:=q.2.1.map (·.1)}
def anU(q:PlT):List AV:=[I q.1.ch,I q.1.nu,I q.1.de,I q.1.of,.sl q.2.2.1 (q.1.sh.map Qe),I q.1.ep,I q.1.rg,I q.1.ln,I q.1.fi,.sl q.2.2.2.1 (q.1.aL.map Qm),.sl q.2.2.2.2.1 (q.2.1.map yR),.sl q.2.2.2.2.2.1 (q.1.bks.map Xg),.sl q.2.2.2.2.2.2 (q.1.cls.map Qg)]
def abj{H:Type}{x:DataW H}{n:Nat}(h:Typed Tryz.prog (n+6) 56 x)(hs:Sz 56 x):∃q:PlT,aug (Mw q)/\cz Tryz.prog (n+6) 56 x=anU q:=by
 obtain⟨parts,rfl,aH,hp⟩:=Uv Tryz.underlying56 h;obtain⟨a0,a1,a2,a3,a4,a5,a6,a7,a8,a9,a10,rfl⟩:=SY aH;have hz:=hs.agg Tryz.underlying56;have t0:=hp (⟨ "Channel",3,0,false, "", "",0⟩,a0) (by simp);have t1:=hp (⟨ "Rate",47,1,false, "", "",8⟩,a1) (by simp);have t2:=hp (⟨ "Zone",50,3,false, "", "",24⟩,a2) (by simp);have t3:=hp (⟨ "Epoch",3,5,false, "", "",56⟩,a3) (by simp);have t4:=hp (⟨ "Regions",3,6,false, "", "",64⟩,a4) (by simp);have t5:=hp (⟨ "Length",3,7,false, "", "",72⟩,a5) (by simp);have t6:=hp (⟨ "Fill",3,8,false, "", "",80⟩,a6) (by simp);have t7:=hp (⟨ "Items",51,9,false, "", "",88⟩,a7) (by simp);have t8:=hp (⟨ "Entries",52,10,false, "", "",112⟩,a8) (by simp);have t9:=hp (⟨ "Bookings",53,11,false, "", "",136⟩,a9) (by simp);have t10:=hp (⟨ "Clauses",54,12,false, "", "",160⟩,a10) (by simp);obtain⟨m0,rfl,w0⟩:=Xi Tryz.underlying3 t0;obtain⟨m3,rfl,w3⟩:=Xi Tryz.underlying3 t3;obtain⟨m4,rfl,w4⟩:=Xi Tryz.underlying3 t4;obtain⟨m5,rfl,w5⟩:=Xi Tryz.underlying3 t5;obtain⟨m6,rfl,w6⟩:=Xi Tryz.underlying3 t6;obtain⟨r,⟨r1,r2⟩,auh⟩:=DW Tryz.underlying47 rfl rfl t1;obtain⟨zp,rfl,axV,zpp⟩:=Uv Tryz.underlying50 t2;obtain⟨z0,z1,rfl⟩:=Pm axV;have u0:=zpp (⟨ "Offset",3,0,false, "", "",0⟩,z0) (by simp);have u1:=zpp (⟨ "Shifts",48,1,false, "", "",8⟩,z1) (by simp);obtain⟨mo,rfl,wo⟩:=Xi Tryz.underlying3 u0;have s1:Sz 48 z1:=fun k hk=>hz k (by simp[DataW.weightsEach,DataW.weights,Tryz.underlying50,hk]);have s7:Sz 51 a7:=fun k hk=>hz k (by simp[DataW.weightsEach,hk]);have s8:Sz 52 a8:=fun k hk=>hz k (by simp[DataW.weightsEach,hk]);have s9:Sz 53 a9:=fun k hk=>hz k (by simp[DataW.weightsEach,hk]);have s10:Sz 54 a10:=fun k hk=>hz k (by simp[DataW.weightsEach,hk]);have hr:reachBytes=140737488351232:=rfl;obtain⟨sh,rt1,sh1,sh2,_,sh4⟩:=Jy Qe abe Tryz.underlying48 (fun y hy _=>DW Tryz.underlying153 rfl rfl hy) u1 s1;obtain⟨it,rt7,it1,it2,_,it4⟩:=Jy Qm anQ Tryz.underlying51 (fun y hy _=>abf hy) t7 s7;obtain⟨en,rt8,en1,en2,_,en4⟩:=Jy yR (fun q=>agW q.1) Tryz.underlying52 (fun y hy hz=>BE hy hz) t8 s8;obtain⟨bk,rt9,bk1,bk2,_,bk4⟩:=Jy Xg anS Tryz.underlying53 (fun y hy _=>HZ hy) t9 s9;obtain⟨cl,axW,cl1,cl2,_,cl4⟩:=Jy Qg anR Tryz.underlying54 (fun y hy _=>yQ hy) t10 s10;rw[abi]at sh2;rw[Mv]at it2;rw[agY]at en2;rw[abg]at bk2;rw[abh]at cl2;refine⟨(⟨m0,r.1,r.2,mo,sh,m3,m4,m5,m6,it,[],bk,cl⟩,en,rt1,rt7,rt8,rt9,axW),⟨Vv w0,r1,r2,Vv wo,Vv w3,Vv w4,Vv w5,Vv w6,sh1,it1,?_,bk1,cl1,by simp only[Mw];omega,by simp only[Mw];omega,by simp only[Mw,zzbg];omega,by simp only[Mw];omega,by simp only[Mw];omega⟩,?_⟩
 ·intro s hs;obtain⟨q,hq,rfl⟩:=zzax.1 hs;exact en1 q hq
 rw[Uu Tryz.underlying56];simp only[zzdg,zzej,zzdf,zzdv];rw[Xy Tryz.underlying3,Xy Tryz.underlying3,Xy Tryz.underlying3,Xy Tryz.underlying3,Xy Tryz.underlying3,it4,en4,bk4,cl4,Uu Tryz.underlying50];simp only[zzdg,zzej,zzdf,zzdv];rw[Xy Tryz.underlying3,sh4,auh];rfl
def aa8{H:Type}{x:DataW H}{n:Nat}(h:Typed Tryz.prog (n+6) 56 x)(hs:Sz 56 x):∃p:Pl,aug p/\Wk (jt Tryz.prog (n+6) 56 x) (.agg (Qb p)):=by
 have bE:Ja Tryz.prog 56=true:=by unfold Ja;rw[Tryz.underlying56]
 obtain⟨q,h1,h2⟩:=abj h hs;refine⟨Mw q,h1,?_⟩;rw[afg bE,h2];exact Qdp ⟨Wk.refl _,Wk.refl _,Wk.refl _,Wk.refl _,Wk.sl _ _,Wk.refl _,Wk.refl _,Wk.refl _,Wk.refl _,Wk.sl _ _,anT _ _,Wk.sl _ _,Wk.sl _ _,trivial⟩
def agU{H:Type}{x:DataW H}{n:Nat}(h:Typed Tryz.prog (n+1) 3 x):∃m:Int,Xw m/\jt Tryz.prog (n+1) 3 x=I m:=by
 have bE:Ja Tryz.prog 3=false:=by unfold Ja;rw[Tryz.underlying3]
 obtain⟨m,rfl,w⟩:=Xi Tryz.underlying3 h;exact⟨m,Vv w,by rw[Df bE (Xy Tryz.underlying3 _ _)]⟩
def agZ:Tryz.prog.bytesOf 42=232:=by kernel_rfl
structure anV (o:Od):Prop where
 n:Xw o.n
 fr:Xw o.fr
 en:agW o.nw
abbrev OdT:=Od×Rt
def DX(q:OdT):List AV:=[I q.1.sq,I q.1.ch,I q.1.fr,I q.1.ki,I q.1.en,I q.1.n,I q.1.nw.id,I q.1.nw.it,I q.1.nw.fr,I q.1.nw.ea,I q.1.nw.la,I q.1.nw.bo,.sl q.2 (q.1.nw.al.map Qe),I q.1.cl.ki,I q.1.cl.it,I q.1.cl.fr,I q.1.cl.to,I q.1.cl.re,I q.1.cl.n,I q.1.cl.a,I q.1.cl.b,I q.1.cu.id,I q.1.cu.fr,I q.1.cu.to,I q.1.cu.pr,.str q.1.cu.tx]
def ag0{H:Type}{x:DataW H}{n:Nat}(h:Typed Tryz.prog (n+2) 40 x):∃c:Cue,cz Tryz.prog (n+2) 40 x=Qj c:=by
 obtain⟨parts,rfl,aH,hp⟩:=Uv Tryz.underlying40 h;obtain⟨a0,a1,a2,a3,a4,rfl⟩:=Pn aH;have t0:=hp (⟨ "ID",3,0,false, "", "",0⟩,a0) (by simp);have t1:=hp (⟨ "From",3,1,false, "", "",8⟩,a1) (by simp);have t2:=hp (⟨ "To",3,2,false, "", "",16⟩,a2) (by simp);have t3:=hp (⟨ "Priority",3,3,false, "", "",24⟩,a3) (by simp);have t4:=hp (⟨ "Text",9,4,false, "", "",32⟩,a4) (by simp);obtain⟨m0,rfl,w0⟩:=Xi Tryz.underlying3 t0;obtain⟨m1,rfl,w1⟩:=Xi Tryz.underlying3 t1;obtain⟨m2,rfl,w2⟩:=Xi Tryz.underlying3 t2;obtain⟨m3,rfl,w3⟩:=Xi Tryz.underlying3 t3;obtain⟨s,rfl,_⟩:=Rl Tryz.underlying9 t4;refine⟨⟨m0,m1,m2,m3,⟨s.toArray⟩⟩,?_⟩;rw[Uu Tryz.underlying40];simp only[zzdg,zzej,zzdf,zzdv];rw[Xy Tryz.underlying3,Xy Tryz.underlying3,Xy Tryz.underlying3,Xy Tryz.underlying3,afe Tryz.underlying9];rfl
def ag1{α:Type}{l:List α}(h:l.length=9):∃a0 a1 a2 a3 a4 a5 a6 a7 a8,l=[a0,a1,a2,a3,a4,a5,a6,a7,a8]:=by
 match l,h with
 |[a0,a1,a2,a3,a4,a5,a6,a7,a8],_=>exact⟨a0,a1,a2,a3,a4,a5,a6,a7,a8,rfl⟩
def SZ{H:Type}{x:DataW H}{n:Nat}(h:Typed Tryz.prog (n+5) 42 x)(hs:Sz 42 x):∃q:OdT,anV q.1/\cz Tryz.prog (n+5) 42 x=DX q:=by
 obtain⟨parts,rfl,aH,hp⟩:=Uv Tryz.underlying42 h;obtain⟨a0,a1,a2,a3,a4,a5,a6,a7,a8,rfl⟩:=ag1 aH;have hz:=hs.agg Tryz.underlying42;have t0:=hp (⟨ "Seq",3,0,false, "", "",0⟩,a0) (by simp);have t1:=hp (⟨ "Channel",3,1,false, "", "",8⟩,a1) (by simp);have t2:=hp (⟨ "Frame",3,2,false, "", "",16⟩,a2) (by simp);have t3:=hp (⟨ "Kind",3,3,false, "", "",24⟩,a3) (by simp);have t4:=hp (⟨ "Entry",3,4,false, "", "",32⟩,a4) (by simp);have t5:=hp (⟨ "N",3,5,false, "", "",40⟩,a5) (by simp);have t6:=hp (⟨ "New",36,6,false, "", "",48⟩,a6) (by simp);have t7:=hp (⟨ "Clause",38,13,false, "", "",120⟩,a7) (by simp);have t8:=hp (⟨ "Cue",40,21,false, "", "",184⟩,a8) (by simp);obtain⟨m0,rfl,w0⟩:=Xi Tryz.underlying3 t0;obtain⟨m1,rfl,w1⟩:=Xi Tryz.underlying3 t1;obtain⟨m2,rfl,w2⟩:=Xi Tryz.underlying3 t2;obtain⟨m3,rfl,w3⟩:=Xi Tryz.underlying3 t3;obtain⟨m4,rfl,w4⟩:=Xi Tryz.underlying3 t4;obtain⟨m5,rfl,w5⟩:=Xi Tryz.underlying3 t5;have s6:Sz 36 a6:=fun k hk=>hz k (by simp[DataW.weightsEach,hk]);obtain⟨⟨e,rt⟩,e1,e2⟩:=BE t6 s6;obtain⟨c,c1,c2⟩:=yQ t7;obtain⟨u,u2⟩:=ag0 t8;refine⟨(⟨m0,m1,m2,m3,m4,m5,e,c,u⟩,rt),⟨Vv w5,Vv w2,e1⟩,?_⟩;rw[Uu Tryz.underlying42];simp only[zzdg,zzej,zzdf,zzdv];rw[Xy Tryz.underlying3,Xy Tryz.underlying3,Xy Tryz.underlying3,Xy Tryz.underlying3,Xy Tryz.underlying3,Xy Tryz.underlying3,e2,c2,u2];rfl
def anW(l:List OdT)(rt:Rt):Wk (.sl rt (l.map DX)) (.sl .ro ((l.map (·.1)).map Qq)):=by
 refine Wk.trans (Wk.sl _ _) ?_;rw[zzcy];refine Wk.rows l DX (Qq ∘ (·.1)) (fun _=>rfl) fun a j c' h=>?_
 match j,h with
 |0,h=>exact⟨_,rfl,by cases h;exact Wk.refl _⟩
 |1,h=>exact⟨_,rfl,by cases h;exact Wk.refl _⟩
 |2,h=>exact⟨_,rfl,by cases h;exact Wk.refl _⟩
 |3,h=>exact⟨_,rfl,by cases h;exact Wk.refl _⟩
 |4,h=>exact⟨_,rfl,by cases h;exact Wk.refl _⟩
 |5,h=>exact⟨_,rfl,by cases h;exact Wk.refl _⟩
 |6,h=>exact⟨_,rfl,by cases h;exact Wk.refl _⟩
 |7,h=>exact⟨_,rfl,by cases h;exact Wk.refl _⟩
 |8,h=>exact⟨_,rfl,by cases h;exact Wk.refl _⟩
 |9,h=>exact⟨_,rfl,by cases h;exact Wk.refl _⟩
 |10,h=>exact⟨_,rfl,by cases h;exact Wk.refl _⟩
 |11,h=>exact⟨_,rfl,by cases h;exact Wk.refl _⟩
 |12,h=>exact⟨_,rfl,by cases h;exact Wk.sl _ _⟩
 |13,h=>exact⟨_,rfl,by cases h;exact Wk.refl _⟩
 |14,h=>exact⟨_,rfl,by cases h;exact Wk.refl _⟩
 |15,h=>exact⟨_,rfl,by cases h;exact Wk.refl _⟩
 |16,h=>exact⟨_,rfl,by cases h;exact Wk.refl _⟩
 |17,h=>exact⟨_,rfl,by cases h;exact Wk.refl _⟩
 |18,h=>exact⟨_,rfl,by cases h;exact Wk.refl _⟩
 |19,h=>exact⟨_,rfl,by cases h;exact Wk.refl _⟩
 |20,h=>exact⟨_,rfl,by cases h;exact Wk.refl _⟩
 |21,h=>exact⟨_,rfl,by cases h;exact Wk.refl _⟩
 |22,h=>exact⟨_,rfl,by cases h;exact Wk.refl _⟩
 |23,h=>exact⟨_,rfl,by cases h;exact Wk.refl _⟩
 |24,h=>exact⟨_,rfl,by cases h;exact Wk.refl _⟩
 |25,h=>exact⟨_,rfl,by cases h;exact Wk.refl _⟩
 |j+26,h=>simp[Qq,Qd,Qg,Qj]at h
def Mt{H:Type}{x:DataW H}{n:Nat}(h:Typed Tryz.prog (n+6) 23 x)(hs:Sz 23 x):∃l:List Od,(∀o∈l,anV o)/\l.length<=1000000000000/\Wk (jt Tryz.prog (n+6) 23 x) (.sl .ro (l.map Qq)):=by
 have bE:Ja Tryz.prog 23=false:=by unfold Ja;rw[Tryz.underlying23]
 obtain⟨l,rt,l1,l2,_,l4⟩:=Jy DX (fun q=>anV q.1) Tryz.underlying23 (fun y hy hz=>SZ hy hz) h hs;rw[agZ]at l2;have hr:reachBytes=140737488351232:=rfl;refine⟨l.map (·.1),fun p hp=>?_,by rw[zzbg];omega,by rw[Df bE l4];exact anW l rt⟩;obtain⟨q,hq,rfl⟩:=zzax.1 hp;exact l1 q hq
def abk:Tryz.prog.bytesOf 3=8:=by kernel_rfl
def ag2{H:Type}{y:DataW H}{n:Nat}(h:Typed Tryz.prog (n+1) 3 y):∃m:Int,Xw m/\cz Tryz.prog (n+1) 3 y=Qy m:=by
 obtain⟨m,rfl,w⟩:=Xi Tryz.underlying3 h;exact⟨m,Vv w,Xy Tryz.underlying3 _ _⟩
def aa9{H:Type}{x:DataW H}{n:Nat}(h:Typed Tryz.prog (n+2) 59 x)(hs:Sz 59 x):∃l:List Int,(∀m∈l,Xw m)/\l.length<=17592186044416/\Wk (jt Tryz.prog (n+2) 59 x) (.sl .ro (l.map Qy)):=by
 have bE:Ja Tryz.prog 59=false:=by unfold Ja;rw[Tryz.underlying59]
 obtain⟨l,rt,l1,l2,_,l4⟩:=Jy Qy Xw Tryz.underlying59 (fun y hy _=>ag2 hy) h hs;rw[abk]at l2;have hr:reachBytes=140737488351232:=rfl;exact⟨l,l1,by omega,by rw[Df bE l4];exact Wk.sl _ _⟩
end Go.Proofs.YtnopaopphmjnmaaGreatDoor
