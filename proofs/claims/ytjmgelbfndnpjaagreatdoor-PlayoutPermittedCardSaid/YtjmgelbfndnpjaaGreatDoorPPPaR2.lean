import Derived.Test.YtjmgelbfndnpjaaGreatDoorPPPaR
set_option linter.unusedVariables false
set_option linter.unusedSimpArgs false
set_option maxRecDepth 100000
set_option maxHeartbeats 64000000
namespace Go.Proofs.YtjmgelbfndnpjaaGreatDoor.Lw
open Go Go.Abs
def zO:Opt:=⟨0,0,[]⟩
def offS (b:Option Opt) (o:Opt):Option Opt:=match b with
 | none=>some o
 | some p=>if o.st < p.st then some o else some p
def offE (f:Int) (b:Option Opt) (e:Ev2):Option Opt:=if Kr e=true/\e.i=0/\folB f e=true then offS b (Jz e) else b
def offers (f:Int) (q:List Ev2):Option Opt:=q.foldl (offE f) none
def nextS (f:Int) (l:List Ev2):Opt:=match (plc l).find? (Uf f) with
 | some e=>if Kr e=true then Jz e else (offers f (plc l)).getD zO
 | none=>(offers f (plc l)).getD zO
def Vh (b:Option Opt):List AV:=match b with
 | none=>[I 0,I 0,.sl .nil []]
 | some o=>Qw o
theorem vc_rf {P:Program} {gl:Nat->AV} {orc:Nat->FuncId->List AV->AV} {Y:YT} {s:AS} {Q:Exit->AS->Prop} {g:Opd} {ps:List Nat} {asg body:SC} {f:FuncId} {first cap:List AV} (hg:ev gl s.T g=.fn f first cap)
  (h:∀ l,l=s.m.ln->s.m.st l=.gone->EffY P gl (Yin Y l ps.length fun args m K=>vc P gl orc Y asg ⟨Jc s.T ps args,m⟩ (Qasg l fun s'=>vc P gl orc Y body s' (Qrnd l K))) f (first++[.yld l]++cap) (s.m.begin_) fun _ m'=>Qend l s.T m' Q (m'.st l)) :
  vc P gl orc Y (.rfunc g ps asg body) s Q:=by
 simp only [vc,hg]
 exact h _ rfl
theorem offer_eff (Y:YT) (o:Opt) (b:Option Opt) (m:AM) (pre rest:List (List AV)) (hm:m.boxes=pre++(Vh b::[.bool b.isSome]::rest)) (K:AV->AM->Prop)
  (hK:K (.tup []) { m with boxes:=pre++(Vh (offS b o)::[.bool (offS b o).isSome]::(rest++[Qw o])) }):EffY Tryz.prog gl0 Y 75 [.agg (Qw o),.ptr (pre.length+1) 0,.ptr pre.length 0] m K:=by
 refine Zb code75 (fun _ _ _=>.junk) (by simp) ?_
 cases b with
 | none =>
  simp only [Option.isSome_none,offS,Option.isSome_some] at hm hK
  simp [sc75,rs75,hm,Qw,Vh]
  simpa [Qw,Vh] using hK
 | some p =>
  by_cases h:o.st < p.st
  ·simp only [Option.isSome_some,offS,if_pos h] at hm hK
   simp [sc75,rs75,hm,Qw,Vh,h]
   simpa [Qw,Vh] using hK
  ·simp only [Option.isSome_some,offS,if_neg h] at hm hK
   simp [sc75,rs75,hm,Qw,Vh,h]
   simpa [Qw,Vh] using hK
def tl30:SC:=(.seq (.ops [⟨(some 8),(.alloc [(.int .i64 0),(.int .i64 0),(.sl .nil [])]),none,[]⟩]) (.seq (.ops [⟨(some 9),(.alloc [(.bool false)]),none,[]⟩,⟨none,(.store 1 (.tmp 9) (.const (.bool false))),none,[]⟩]) (.seq (.ops [⟨(some 27),(.mkfn 75 [] [(.tmp 9),(.tmp 8)]),none,[]⟩,⟨(some 10),(.alloc [.nilfn]),none,[]⟩,⟨none,(.store 1 (.tmp 10) (.tmp 27)),none,[]⟩]) (.seq (.seq (.ops [⟨(some 28),(.mv (.tmp 0)),none,[]⟩,⟨(some 29),(.call (.func 76) [(.tmp 28)]),none,[]⟩]) (.block 2 (.rfunc (.tmp 29) [30] (.ops [⟨(some 11),(.alloc [(.int .i64 0),(.int .i64 0),(.int .i64 0),(.int .i64 0),(.int .i64 0),(.int .i64 0),(.sl .nil []),(.int .i64 0),(.int .i64 0),(.sl .nil [])]),none,[]⟩,⟨none,(.store 10 (.tmp 11) (.tmp 30)),none,[]⟩]) (.block 3 (.seq (.ops [⟨(some 31),(.faddr 0 (.tmp 11)),none,[]⟩,⟨(some 32),(.faddr 0 (.tmp 31)),none,[]⟩,⟨(some 33),(.faddr 4 (.tmp 32)),none,[]⟩,⟨(some 34),(.load false 1 (.tmp 33)),none,[]⟩,⟨(some 35),(.bin .eql (.tmp 34) (.const (.int .i64 0))),none,[]⟩,⟨(some 36),(.mv (.tmp 35)),none,[]⟩,⟨(some 37),(.faddr 0 (.tmp 11)),(some ((some 36),true)),[(.tmp 11)]⟩,⟨(some 38),(.load true 7 (.tmp 37)),(some ((some 36),true)),[(.tmp 37)]⟩,⟨(some 39),(.load false 1 (.tmp 3)),(some ((some 36),true)),[(.tmp 3)]⟩,⟨(some 40),(.call (.func 77) [(.tmp 38),(.tmp 39)]),(some ((some 36),true)),[(.func 77),(.tmp 38),(.tmp 39)]⟩,⟨(some 41),(.pick (.tmp 36) (.tmp 40) (.const (.bool false))),none,[]⟩]) (.cond (.tmp 41) (.ops [⟨(some 42),(.load false 1 (.tmp 10)),none,[]⟩,⟨(some 43),(.faddr 7 (.tmp 11)),none,[]⟩,⟨(some 44),(.load true 3 (.tmp 43)),none,[]⟩,⟨(some 45),(.call (.tmp 42) [(.tmp 44)]),none,[]⟩]) .skip)))))) (.seq (.ops [⟨(some 46),(.load true 3 (.tmp 8)),none,[]⟩,⟨(some 47),(.call (.func 74) [(.tmp 46)]),none,[]⟩,⟨none,(.store 3 (.tmp 4) (.tmp 47)),none,[]⟩]) .ret)))))
def hd30 (t:SC):SC:=(.seq (.ops [⟨(some 3),(.box (.tmp 1)),none,[]⟩,⟨(some 4),(.alloc [(.int .i64 0),(.int .i64 0),(.sl .nil [])]),none,[]⟩]) (.scope (.seq .skip (.seq (.seq (.ops [⟨(some 12),(.mv (.tmp 0)),none,[]⟩,⟨(some 13),(.call (.func 71) [(.tmp 12)]),none,[]⟩]) (.block 0 (.rfunc (.tmp 13) [14] (.ops [⟨(some 5),(.alloc [(.int .i64 0),(.int .i64 0),(.int .i64 0),(.int .i64 0),(.int .i64 0),(.int .i64 0),(.sl .nil [])]),none,[]⟩,⟨none,(.store 7 (.tmp 5) (.tmp 14)),none,[]⟩]) (.block 1 (.seq (.seq (.ops [⟨(some 15),(.load true 7 (.tmp 5)),none,[]⟩,⟨(some 16),(.load false 1 (.tmp 3)),none,[]⟩,⟨(some 17),(.call (.func 72) [(.tmp 15),(.tmp 16)]),none,[]⟩,⟨(some 18),(.un .not (.tmp 17)),none,[]⟩]) (.cond (.tmp 18) (.exit 1) .skip)) (.seq (.seq (.ops [⟨(some 20),(.load true 7 (.tmp 5)),none,[]⟩,⟨(some 21),(.call (.func 73) [(.tmp 20)]),none,[]⟩,⟨(some 19),(.mv (.tmp 21)),none,[]⟩,⟨(some 22),(.ext (.tmp 19) 0),none,[]⟩,⟨(some 23),(.ext (.tmp 19) 1),none,[]⟩,⟨(some 6),(.alloc [(.int .i64 0),(.int .i64 0),(.sl .nil [])]),none,[]⟩,⟨none,(.store 3 (.tmp 6) (.tmp 22)),none,[]⟩,⟨(some 7),(.mv (.tmp 23)),none,[]⟩]) (.seq (.ops [⟨(some 24),(.mv (.tmp 7)),none,[]⟩]) (.cond (.tmp 24) (.seq (.ops [⟨(some 25),(.load true 3 (.tmp 6)),none,[]⟩,⟨(some 26),(.call (.func 74) [(.tmp 25)]),none,[]⟩,⟨none,(.store 3 (.tmp 4) (.tmp 26)),none,[]⟩]) .ret) .skip))) (.exit 0))))))) t))))
theorem sc30_eq:sc30=hd30 tl30:=rfl
def unSp:List AV->Sp
 | [.int _ a,.int _ b]=>(a,b)
 | _=>(0,0)
@[simp high] theorem unSp_map (l:List Sp):(l.map Qd).map unSp=l:=by
 induction l with
 | nil=>rfl
 | cons a r ih=>simp only [List.map_cons,ih];rfl
def Jg (l:List Ev2) (f:Int):Nat->FuncId->List AV->AV:=fun _ g a =>
 if g=71 then .fn 113 [] [.ep [.sl .ro (l.map Qj)] 0]
 else if g=76 then .fn 115 [] [.ep [.sl .ro (l.map Qj)] 0]
 else if g=72 then (match a with | [.agg [_,_,.int _ st,.int _ fr,_,_,_],_]=>.bool (decide (st<=f/\f < st+fr)) | _=>.junk)
 else if g=77 then (match a with | [.agg [_,_,.int _ st,_,_,_,_],_]=>.bool (decide (f < st/\st - 20<=f)) | _=>.junk)
 else if g=73 then (match a with | [.agg [_,_,.int _ st,.int _ fr,.int _ i,_,.sl _ rows]]=>.tup [.agg [I (st - i),I (fr+i),.sl .ro rows],.bool (valO ⟨st - i,fr+i,rows.map unSp⟩)] | _=>.junk)
 else if g=74 then (match a with | [.agg [x,y,.sl _ rows]]=>.agg [x,y,.sl .ro rows] | _=>.junk)
 else .gd false .junk
def zrow:List AV:=[I 0,I 0,.sl .nil []]
theorem ownZ_pure (b:Option Opt) (h:∀ o,b=some o->o.al.length<=8796093022208):Pure Tryz.prog gl0 74 [.agg (Vh b)] (.agg (Qw (b.getD zO))):=by
 cases b with
 | some o=>exact own_pure o (h o rfl)
 | none =>
  refine Qn code74 (fun _ _ _=>.junk) (by simp) ?_
  simp [sc74,rs74,Vh,Qw,zO]
theorem opt62 (l:List Ev2) (f:Int) (hl:l.length<=1000000000) (hs:∀ e∈l,Zw e) (Y1:YT) (K1:AM->Prop) (l1:Nat) (m0:AM) (J:Nat->AM->Prop)
  (h0:J 0 { m0 with boxes:=m0.boxes++[[.yld l1]] }) (hbox:∀ i m,J i m->Qf m.boxes m0.boxes.length=[.yld l1]/\m.st l1=.ready) (hext:∀ i m m',J i m->Ext m m'->J i m') (hat:∀ i m l2 x,J i m->l2≠l1->J i (m.at_ l2 x))
  (hstep:∀ i e m,(plc l)[i]? = some e->Kr e=true->J i m->∀ K':Bool->AM->Prop,(∀ m',J (i+1) m'->K' true m')->Y1 l1 [.agg (Qj e++Qw (Jz e))] m K')
  (hskip:∀ i e m,(plc l)[i]? = some e->Kr e=false->J i m->J (i+1) m) (hend:∀ m,J (plc l).length m->K1 m):EffY Tryz.prog gl0 Y1 115 [.yld l1,.ep [.sl .ro (l.map Qj)] 0] m0 (fun _ m'=>K1 m'):=by
 have he:=oevents_pure (l.map Qj)
 have hit:=oevents_iter l hl hs
 have hsm:∀ e∈plc l,Zw e/\1<=e.fr:=fun e h=>⟨hs e (plc_mem h).1,(plc_mem h).2⟩
 generalize plc l=q at hit hsm hstep hskip hend
 refine Zb code115 (Jg l f) (by simp) ?_
 simp [sc115,rs115,Jg]
 refine ⟨he,?_⟩
 refine Ud (xs:=q.map fun e=>[.agg (Qj e)]) (by simp) hit (by intro x hx;simp at hx;obtain ⟨a,_,rfl⟩:=hx;rfl) J (fun _ _=>False) h0 hext (fun _ _ _ h=>h.elim) ?_ ?_ (fun _ _ h=>h.elim)
 ·rintro l2 i m x hg2 hr hJ hx K' k1 _ _
  obtain ⟨e,hy,rfl⟩:∃ e,q[i]? = some e/\[.agg (Qj e)]=x:=by
   rw [List.getElem?_map] at hx
   cases hq:q[i]? with
   | none=>rw [hq] at hx;cases hx
   | some y=>rw [hq] at hx;exact ⟨y,rfl,Option.some.inj hx⟩
  obtain ⟨hsme,hfr⟩:=hsm e (List.mem_of_getElem? hy)
  have hne:l2≠l1:=by
   rintro rfl
   have:=(hbox i _ hJ).2
   simp at this
  have hop:=opt_pure e hsme hfr
  have hb:=(hbox i _ hJ).1
  rw [Vw] at hb
  have hJm:J i (m.at_ l2 .busy):=by have:=hat i _ l2 .busy hJ hne;simpa using this
  have hbx:∀ x,Qf (m.boxes++x) m0.boxes.length=[.yld l1]:=fun x=>by
   have hlt:m0.boxes.length < m.boxes.length:=by
    rcases Nat.lt_or_ge m0.boxes.length m.boxes.length with h | h
    ·exact h
    ·simp [Qf,List.getD_eq_getElem?_getD,-Zq,List.getElem?_eq_none h] at hb
   rw [<- hb]
   simp [Qf,List.getD_eq_getElem?_getD,-Zq,List.getElem?_append_left hlt]
  have hve:valO ⟨e.st - e.i,e.fr+e.i,e.al⟩=Kr e:=rfl
  cases hv:Kr e with
  | false =>
   rw [hv] at hop hve
   simp only [Qj,Qw,Jz] at hop
   simp [hr,Xh,Qj,Jg,hbx,hve]
   refine ⟨hop,k1 _ ?_⟩
   have:=hat _ _ l2 .gone (hext _ _ _ (hskip i e _ hy hv hJm) (Ext.box (m.at_ l2 .busy) [[I e.id,I e.it,I e.st,I e.fr,I e.i,I e.re,.sl .ro (e.al.map Qd)],[I (e.st - e.i),I (e.fr+e.i),.sl .ro (e.al.map Qd)]])) hne
   exact this
  | true =>
   rw [hv] at hop hve
   simp only [Qj,Qw,Jz] at hop
   simp [hr,Xh,Qj,Jg,hbx,hve]
   refine ⟨hop,?_⟩
   have hst0:=hstep i e _ hy hv (hext _ _ _ hJm (Ext.box (m.at_ l2 .busy) [[I e.id,I e.it,I e.st,I e.fr,I e.i,I e.re,.sl .ro (e.al.map Qd)],[I (e.st - e.i),I (e.fr+e.i),.sl .ro (e.al.map Qd)]]))
   simp only [Qj,Qw,Jz,List.cons_append,List.nil_append] at hst0
   refine hst0 _ fun m' hJ'=>?_
   simp
   exact k1 _ (hat _ _ _ _ hJ' hne)
 ·intro m hJ
  simp at hJ
  simp
  exact hend m hJ
end Go.Proofs.YtjmgelbfndnpjaaGreatDoor.Lw
