/- Part 3. -/
import Derived.Test.YtbdihlcdenhcbaaGreatTxW2
open Go.IntKind (i64 u8 u64)
open List (length getD take drop replicate set map isEmpty)
noncomputable section
namespace Go.Pf
open Go Go.RowKit
section
variable {P:Program} {E:Env} {nt:Nat} {g g':Gh} {F F':aD} {H H':Hp} {a:Act} {tmps:Array Value} {w w':World} {o:Oper} {T:TypeId} {rl:List Nat}
theorem tk {rz:Nat→List PV→Hp→Option (Int×Hp)} (hz:GW P E T rz) (hr:Rel E nt g F H a.tmps w) (hL:Lps P E g H w) {c:Call} {f:Operand} {f':Opd} {az':List Opd} {n:Nat} {vs:List PV} {k:Int}
  (ho:o.op=.call c) (hcal:c.callee=.value f) (hf:opd f=some f') (has:dO c.args.toList=some az') (hfv:evV E F f'=some (.fn (.func n) [] [])) (hav:evs E F az'=some vs) (h:rz n vs H=some (k,H'))
  {next:Act→World→Prop} {Q:Exit→Act→World→Prop} (hq:∀ w' g',inK .i64 k→Nx g g' H H' w w'→Rel E nt g' F H' a.tmps w'→Q (.panic (vQ T k)) a w'):o.wpIn (Fc none) 0 P a w next Q:=by
 refine ⟨fun _ _=>trivial,?_⟩;rw [Oper.semAt_eq _ _ _ (fun c' e=>by rw [ho] at e;cases e)];have hfe:=cS hr hf hfv;simp only [VR,bH] at hfe;obtain ⟨az,bs,hfe,rfl,rfl,_⟩:=hfe;obtain ⟨h1,h2⟩:=hz n vs H k H' h nt g F a.tmps w _ hr hL (AX hr _ _ _ has hav);have hargs:(c.args.map a.eval)=(c.args.toList.map a.eval).toArray:=by rw [← Dd]
 have hrun:(execOp a.eval o).run P w=(callFunc n (c.args.toList.map a.eval).toArray).run P w:=by rw [← hargs];simp [execOp,ho,resolve,hcal,hfe,Gh.tr,Deferred.ofValue,invoke]
 rw [hrun,h1];simp only [Oper.uponIn];refine ⟨fun h=>by simp [Fence.wide] at h,DF.2 (Calls.mono h2 fun e w'' he=>?_)⟩;obtain ⟨rfl,hk,g',n1,r1⟩:=he;exact hq w'' g' hk n1 r1
def yxl (E:Env) (nt base:Nat) (g:Gh) (H:Hp) (w:World) (T:TypeId) (k:Int) (H':Hp):Exit→Act→World→Prop:=
 fun e a' w'=>e=.panic (vQ T k)∧inK .i64 k∧∃ g',Nx g g' H H' w w'∧Rel E nt g' [] H' a'.tmps w'∧bU E base g' w' a'.defers
theorem yxl.trans {base:Nat} {g1:Gh} {H1:Hp} {w1:World} {k:Int} {e:Exit} {a':Act} (hn:Nx g g1 H H1 w w1) (h:yxl E nt base g1 H1 w1 T k H' e a' w'):yxl E nt base g H w T k H' e a' w':=by obtain ⟨h1,h2,g',h3,h4,h5⟩:=h;exact ⟨h1,h2,g',hn.trans h3,h4,h5⟩
theorem ZH {l:List AO} {k:Int} (h:yBR E F l=some k):∃ d1 x d2,l=[⟨some d1,.mv x,none⟩,⟨some d2,.bad,none⟩,⟨none,.bad,none⟩]∧evV E F x=some (.int .i64 k):=by
 unfold yBR at h;split at h
 ·rename_i d1 x d2;split at h
  ·rename_i k' hx
   cases h
   exact ⟨d1,x,d2,rfl,hx⟩
  ·cases h
 ·cases h
theorem tn {a:Oper} (h:Bx a=true):∃ y,a.op=.move y:=by
 unfold Bx at h;split at h
 ·rename_i y e;exact ⟨y,e⟩
 ·cases h
theorem tq {d:Nat} {b:Oper} (h:Bv T d b=true):b.op=.makeInterface T (.tmp d):=by
 unfold Bv at h;split at h
 ·rename_i T' t e;simp only [bO] at h;rw [e,dK h.1,dK h.2]
 ·cases h
theorem tu {d:Nat} {c:Oper} (h:Bw d c=true):c.op=.panic (.tmp d):=by
 unfold Bw at h;split at h
 ·rename_i t e;rw [e,dK h]
 ·cases h
theorem tw {base id:Nat} {ops:Array Oper} {loc:List Nat} {l:List AO} {k:Int} (hl:yfD P loc ops ops.toList=some l) (hp:yBR E F l=some k) (hpan:tL P loc T ops false=true) (hd:rD nt ops.toList=true)
  (hr:Rel E nt g F H a.tmps w) (hdf:bU E base g w a.defers) (hT:∀ (v:Value) (w:World),(Instr.makeInterface T v).run P w=.ok (.iface T v) w):(Code.region id ops false).wpIn (Fc none) 0 P (yxl E nt base g H w T k H) a w:=by
 obtain ⟨hlen,hget⟩:=sZ _ _ hl;obtain ⟨d1,x,d2,rfl,hx⟩:=ZH hp;obtain ⟨os⟩:=ops;simp only [kI,Di] at hlen;obtain ⟨oa,os,rfl⟩:∃ y r,os=y::r:=by cases os with | nil=>simp at hlen | cons y r=>exact ⟨y,r,rfl⟩
 obtain ⟨ob,os,rfl⟩:∃ y r,os=y::r:=by cases os with|nil=>simp at hlen|cons y r=>exact ⟨y,r,rfl⟩
 obtain ⟨oc,os,rfl⟩:∃ y r,os=y::r:=by cases os with|nil=>simp at hlen|cons y r=>exact ⟨y,r,rfl⟩
 obtain rfl:os=[]:=by cases os with|nil=>rfl|cons y r=>simp at hlen
 obtain ⟨g0,e0,c0⟩:=hget 0 oa rfl;obtain ⟨g1,e1,c1⟩:=hget 1 ob rfl;obtain ⟨g2,e2,c2⟩:=hget 2 oc rfl;simp only [yS,FW,bT,AO.mk.injEq] at e0 e1 e2;obtain ⟨f1,f2,f3⟩:=e0;obtain ⟨f4,f5,f6⟩:=e1;obtain ⟨f7,f8,f9⟩:=e2;unfold tL at hpan;simp only [jS,Bool.true_or,pI,← f5,← f8,OU,uX,jJ,Bool.or_false] at hpan;unfold GU at hpan;rw [← f1,← f4] at hpan;simp only [bO,Option.isNone_iff_eq_none] at hpan;obtain ⟨⟨ga,gb,gc⟩,⟨ma,mb⟩,mc⟩:=hpan;obtain ⟨y,ea⟩:=tn ma;have eb:=tq mb;have ec:=tu mc;have hd1:d1<nt:=DJ _ hd 0 oa rfl d1 f1.symm;have hd2:d2<nt:=DJ _ hd 1 ob rfl d2 f4.symm;have hy:opd y=some x:=by
  unfold jN at f2;rw [ea] at f2;simp only [] at f2;split at f2
  ·rename_i z hz;split at f2
   ·cases f2
   ·cases f2;exact hz
  ·cases f2
 have hv:=cS hr hy hx;simp only [VR] at hv;obtain ⟨hv,hk⟩:=hv;refine wpIn_region ?_;show wpOpsIn (Fc none) 0 P _ _ [0,1,2] a w;have r0:(oa.semAt none a.eval).run P w=.ok (.value (.int .i64 k)) w:=by rw [Oper.semAt_eq _ _ _ (fun c' e=>by rw [ea] at e;cases e)];simp [execOp,ea,hv]
 have ev:∀ (a:Act) (d:Tmp) (v:Value),d<a.tmps.size→(a.put (some d) v).eval (.tmp d)=v:=fun a d v h=>by
  show (a.tmps.setIfInBounds d v).getD d undef=v;exact AV _ _ _ h
 have sz:∀ (a:Act) (d:Tmp) (v:Value),(a.put (some d) v).tmps.size=a.tmps.size:=fun a d v=>by
  show (a.tmps.setIfInBounds d v).size=_;simp
 have hs:=hr.size;rw [wpOpsIn];simp only [show (#[oa,ob,oc]:Array Oper)[0]?=some oa from rfl];rw [WM (by simp [Region.wanted,ga])];refine ⟨fun _ _=>trivial,?_⟩;show Oper.uponIn _ _ _ _ _ _ _ ((oa.semAt none a.eval).run P w);rw [r0];simp only [Oper.uponIn,← f1];have r1:(ob.semAt none (a.put (some d1) (.int .i64 k)).eval).run P w=.ok (.value (.iface T (.int .i64 k))) w:=by rw [Oper.semAt_eq _ _ _ (fun c' e=>by rw [eb] at e;cases e)];have h1:=hT (.int .i64 k) w;simp [execOp,eb,ev a d1 _ (lF hd1 hs),h1]
 rw [wpOpsIn];simp only [show (#[oa,ob,oc]:Array Oper)[1]?=some ob from rfl];rw [WM (by simp [Region.wanted,gb])];refine ⟨fun _ _=>trivial,?_⟩;show Oper.uponIn _ _ _ _ _ _ _ ((ob.semAt none _).run P w);rw [r1];simp only [Oper.uponIn,← f4];have r2:(oc.semAt none ((a.put (some d1) (.int .i64 k)).put (some d2) (.iface T (.int .i64 k))).eval).run P w=.halt (.panic (.iface T (.int .i64 k))) w:=by
  rw [Oper.semAt_eq _ _ _ (fun c' e=>by rw [ec] at e;cases e)];simp [execOp,ec,ev (a.put (some d1) (.int .i64 k)) d2 _ (by rw [sz];exact lF hd2 hs),Instr.panic,goPanic]
 rw [wpOpsIn];simp only [show (#[oa,ob,oc]:Array Oper)[2]?=some oc from rfl];rw [WM (by simp [Region.wanted,gc])];refine ⟨fun _ _=>trivial,?_⟩;show Oper.uponIn _ _ _ _ _ _ _ ((oc.semAt none _).run P w);rw [r2];simp only [Oper.uponIn];refine ⟨rfl,hk,g,Nx.refl g H w,hr.bare ?_,?_⟩
 ·rw [sz,sz];exact hs
 ·rw [JO,JO];exact hdf
theorem ZI (hdn:∀ n,E.dn n=false) {fn:Func} {R:Ending→World→Prop} {ch:List PanicEntry} {w0:World} {g0 g2:Gh} {H2:Hp}
  (hend:∀ w1,Rel E nt g2 [] H2 tmps w1→Nx g0 g2 H H2 w0 w1→R (.panicked ch) w1) :
  ∀ (l:List (Option Nat×Deferred)) (w1:World),(l.filterMap (·.1)).Nodup→(∀ r∈l.filterMap (·.1),w0.heap.size≤r∧FB g2 w1 r (.deferred (some [])))→(∀ x∈l,x.1=none→JP E x.2)→Rel E nt g2 [] H2 tmps w1→Nx g0 g2 H H2 w0 w1 →
   LeavesInM (Fc none) 0 P fn tmps R (l.map NY) (.panicking ch) w1
 | [],w1,_,_,_,hr,hn=>by simp only [List.map_nil,LeavesInM,LeavesIn];exact hend w1 hr hn
 | (some r,d)::l,w1,hd,hf,hx,hr,hn=>by rw [uR] at hd hf;dsimp only at hd hf;obtain ⟨hb,hF⟩:=hf r (by simp);simp only [sO,LeavesInM];refine ⟨by simp,.inl ⟨r,_,rfl,run_takeDeferred hF.at_,?_⟩⟩;have hA:=hF.agr (o':=.deferred none) (by simp [Obj.rec]);rw [zA] at hd;exact ZI hdn hend l _ hd.2 (fun r' hr'=>⟨(hf r' (gO _ hr')).1,(hf r' (gO _ hr')).2.other (fun e=>hd.1 (e ▸ hr'))⟩) (fun x hx'=>hx x (gO _ hx')) (hr.agr hA) (hn.later hA hr.imm fun b hb'=>World.putObj_heap_other (by omega))
 | (none,d)::l,w1,_,_,hx,_,_=>by
  obtain ⟨n,args,_,h⟩:=hx (none,d) (by simp) rfl;rw [hdn n] at h
  cases h
structure OpIs (o:Oper) (d:Option Tmp) (op:Op):Prop where
 dst:o.dst=d
 op:o.op=op
 guard:o.guard=none
theorem oC {F:Fence} {m:Nat} {ops:Array Oper} {i:Nat} {rest:List Nat} {cs:List Frame} {Q:Exit→Act→List Frame→World→Prop} {v:Value} {d:Option Tmp} {op:Op} (hf:∀ f,F.fn f) (ho:ops[i]?=some o) (hi:OpIs o d op)
  (hrun:(execOp a.eval o).run P w=.ok (.value v) w) (h:wpOpsSIn F m P ops Q rest (a.put d v) cs w):wpOpsSIn F m P ops Q (i::rest) a cs w:=by
 rw [wpOpsSIn];simp only [ho];refine ⟨fun _ _=>hf _,?_⟩;rw [WM (by simp [Region.wanted,hi.guard]),hrun];rw [hi.dst];exact h
theorem qA {ρ:Operand→Value} {d:Option Tmp} {x:Operand} (h:OpIs o d (.move x)) {v:Value} (hv:ρ x=v):(execOp ρ o).run P w=.ok (.value v) w:=by subst hv;simp [execOp,h.op]
theorem By {ρ:Operand→Value} {d:Option Tmp} {x:Operand} (h:OpIs o d (.assign x)) {v:Value} (hv:ρ x=v):(execOp ρ o).run P w=.ok (.value v) w:=by subst hv;simp [execOp,h.op]
theorem ZJ {ρ:Operand→Value} {d:Option Tmp} {x:Operand} {j:Nat} (h:OpIs o d (.extract x j)) {vs:Array Value} {v:Value} (hv:ρ x=.tuple vs) (hj:vs[j]?=some v):(execOp ρ o).run P w=.ok (.value v) w:=by simp [execOp,h.op,hv,Instr.extract,hj]
theorem tx {ρ:Operand→Value} {d:Option Tmp} {x:Operand} {t:TypeId} (h:OpIs o d (.unOp .not t x)) {b:Bool} (hv:ρ x=.bool b):(execOp ρ o).run P w=.ok (.value (.bool !b)) w:=by simp [execOp,h.op,hv,Op.unary]
theorem tz {ρ:Operand→Value} {d:Option Tmp} {x:Operand} (h:OpIs o d (.nilCheck x)) {ad:Addr} (hv:ρ x=.pointer (some ad)):(execOp ρ o).run P w=.ok (.value (.pointer (some ad))) w:=by simp [execOp,h.op,hv]
theorem lM (a:Act) (d:Tmp) (v:Value):(a.put (some d) v).tmps.size=a.tmps.size:=by show (a.tmps.setIfInBounds d v).size=_;simp
theorem lO (a:Act) (d j:Tmp) (v:Value) (h:d<a.tmps.size):(a.put (some d) v).eval (.tmp j)=if j=d then v else a.eval (.tmp j):=by
 show (a.tmps.setIfInBounds d v).getD j undef=_
 by_cases e:j=d
 ·subst e;rw [WM rfl];exact AV _ _ _ h
 ·rw [WN e];exact Nr _ _ _ _ e
theorem ua (v:Value) (m:Nat):({ tmps:=#[v]++Array.replicate m undef,defers:=[] }:Act).eval (.tmp 0)=v:=by show (#[v]++Array.replicate m undef).getD 0 undef=v;rw [sJ,Array.getElem?_append_left (by simp)];simp
theorem ub {f:FuncId} {fn:Func} {i0 i1 i2 i3 i5:Nat} {X:Code} {a0 a1 b0 b1 c0 c1 c2 c3 c4 c5 c6 d0 d1 e0 e1 e2 e3:Oper} {cl:Call} {ty ty2 ty3 xT eT:TypeId}
  (hf : P.funcs[f]? = some fn) (hname : fn.name ≠ "runtime.NumGoroutine")
  (hb:fn.body=some (.seq (.region i0 #[a0,a1] false) (.seq (.region i1 #[b0,b1] false) (.cond (.tmp 7) (.seq (.region i2 #[c0,c1,c2,c3,c4,c5,c6] false) (.seq (.seq (.region i3 #[d0,d1] false) (.cond (.tmp 14) X .skip)) (.region i5 #[e0,e1,e2,e3] false))) .skip))))
  (hr:fn.results=#[]) (hn:fn.ntmps=19)
  (ha0:OpIs a0 (some 5) (.call cl)) (hcl:cl.callee=.builtin .recover) (ha1:OpIs a1 (some 2) (.assign (.tmp 5)))
  (hb0:OpIs b0 (some 6) (.move (.tmp 2))) (hb1:OpIs b1 (some 7) (.binOp .neq ty (.tmp 6) (.const .nilIface) ty2))
  (hc0:OpIs c0 (some 9) (.move (.tmp 2))) (hc1:OpIs c1 (some 10) (.typeAssert (.tmp 9) xT T true)) (hc2:OpIs c2 (some 8) (.move (.tmp 10))) (hc3:OpIs c3 (some 11) (.extract (.tmp 8) 0)) (hc4:OpIs c4 (some 12) (.extract (.tmp 8) 1))
  (hc5:OpIs c5 (some 3) (.assign (.tmp 11))) (hc6:OpIs c6 (some 4) (.assign (.tmp 12)))
  (hd0:OpIs d0 (some 13) (.move (.tmp 4))) (hd1:OpIs d1 (some 14) (.unOp .not ty3 (.tmp 13)))
  (he0:OpIs e0 (some 16) (.move (.tmp 0))) (he1:OpIs e1 (some 17) (.move (.tmp 3))) (he2:OpIs e2 (some 18) (.nilCheck (.tmp 16))) (he3:OpIs e3 none (.store eT (.tmp 18) (.tmp 17)))
  (hty:∀ k w,(Op.equal ty (.iface T (.int .i64 k)) .nilIface).run P w=.ok false w) (hta:∀ k w,(Instr.typeAssert (.iface T (.int .i64 k)) xT T true).run P w=.ok (.tuple #[.int .i64 k,.bool true]) w)
  (ad:Addr) (k:Int) (w w2:World) (hst:(Instr.storeAt eT (.pointer (some ad)) (.int .i64 k)).run P w=.ok () w2) :
  (callFunc f #[.pointer (some ad)]).run P w=.ok (.enter f #[.pointer (some ad)]) w ∧
  CallsDIn (Fc none) 0 P f #[.pointer (some ad)] (.panicking (vQ T k)) w fun e u w'=>u=.panicking [{ v:=.iface T (.int .i64 k),recovered:=true }]∧w'=w2∧∃ v,e=.returned v:=by
 refine ⟨by simp [callFunc,hf,hname,hb],callsDIn_of_wpSIn hf hb trivial fun cc cs hu=>?_⟩;have tv:∀ g,(Fc none).fn g:=fun _=>trivial
 have hrec:recoverD (cc::cs)=some (.iface T (.int .i64 k),{ cc with mode:=.panicking [{ v:=.iface T (.int .i64 k),recovered:=true }] }::cs):=by simp [recoverD,hu]
 rw [hn];generalize htm:#[Value.pointer (some ad)]++Array.replicate (19-#[Value.pointer (some ad)].size) undef=tm;have hsz:tm.size=19:=by subst htm;simp
 have ht0:({ tmps:=tm,defers:=[] }:Act).eval (.tmp 0)=.pointer (some ad):=by subst htm;exact ua _ _
 clear htm;refine wpSIn_seq (wpSIn_region ?_);show wpOpsSIn _ _ _ _ _ [0,1] _ _ _;rw [wpOpsSIn];simp only [show (#[a0,a1]:Array Oper)[0]?=some a0 from rfl];refine ⟨fun _ _=>trivial,?_⟩;rw [WM (by simp [Region.wanted,ha0.guard])];have r0:∀ (ρ:Operand→Value),(execOp ρ a0).run P w=.ok .recover w:=fun ρ=>by
  simp [execOp,ha0.op,resolve,hcl,invoke,builtin]
 rw [r0];simp only [hrec,ha0.dst];refine oC (o:=a1) tv rfl ha1 (By ha1 (v:=.iface T (.int .i64 k)) (by simp [lO,hsz])) ?_;rw [wpOpsSIn];simp only [Exit.thenS];refine wpSIn_seq (wpSIn_region ?_);show wpOpsSIn _ _ _ _ _ [0,1] _ _ _;refine oC (o:=b0) tv rfl hb0 (qA hb0 (v:=.iface T (.int .i64 k)) (by simp [lO,lM,hsz])) ?_;refine oC (o:=b1) tv rfl hb1 (v:=.bool true) ?_ ?_
 ·have e1:∀ (ρ:Operand→Value),ρ (.tmp 6)=.iface T (.int .i64 k)→ρ (.const .nilIface)=.nilIface→(execOp ρ b1).run P w=.ok (.value (.bool true)) w:=fun ρ h1 h2=>by
   simp [execOp,hb1.op,h1,h2,eqGuard,binOp,hty k w]
  exact e1 _ (by simp [lO,lM,hsz]) rfl
 rw [wpOpsSIn];simp only [Exit.thenS];refine wpSIn_cond (t:=true) (by simp [lO,lM,hsz]) ?_;simp only [if_true];refine wpSIn_seq (wpSIn_region ?_);show wpOpsSIn _ _ _ _ _ [0,1,2,3,4,5,6] _ _ _;refine oC (o:=c0) tv rfl hc0 (qA hc0 (v:=.iface T (.int .i64 k)) (by simp [lO,lM,hsz])) ?_;refine oC (o:=c1) tv rfl hc1 (v:=.tuple #[.int .i64 k,.bool true]) ?_ ?_
 ·have e1:∀ (ρ:Operand→Value),ρ (.tmp 9)=.iface T (.int .i64 k)→(execOp ρ c1).run P w=.ok (.value (.tuple #[.int .i64 k,.bool true])) w:=fun ρ h1=>by
   simp [execOp,hc1.op,h1,hta k w]
  exact e1 _ (by simp [lO,lM,hsz])
 refine oC (o:=c2) tv rfl hc2 (qA hc2 (v:=.tuple #[.int .i64 k,.bool true]) (by simp [lO,lM,hsz])) ?_;refine oC (o:=c3) tv rfl hc3 (ZJ hc3 (vs:=#[.int .i64 k,.bool true]) (v:=.int .i64 k) (by simp [lO,lM,hsz]) rfl) ?_;refine oC (o:=c4) tv rfl hc4 (ZJ hc4 (vs:=#[.int .i64 k,.bool true]) (v:=.bool true) (by simp [lO,lM,hsz]) rfl) ?_;refine oC (o:=c5) tv rfl hc5 (By hc5 (v:=.int .i64 k) (by simp [lO,lM,hsz])) ?_;refine oC (o:=c6) tv rfl hc6 (By hc6 (v:=.bool true) (by simp [lO,lM,hsz])) ?_;rw [wpOpsSIn];simp only [Exit.thenS];refine wpSIn_seq (wpSIn_seq (wpSIn_region ?_));show wpOpsSIn _ _ _ _ _ [0,1] _ _ _;refine oC (o:=d0) tv rfl hd0 (qA hd0 (v:=.bool true) (by simp [lO,lM,hsz])) ?_;refine oC (o:=d1) tv rfl hd1 (tx hd1 (b:=true) (by simp [lO,lM,hsz])) ?_;rw [wpOpsSIn];simp only [Exit.thenS];refine wpSIn_cond (t:=false) (by simp [lO,lM,hsz]) ?_;refine wpSIn_of_wpIn rfl (wpIn_skip ?_);simp only [Exit.thenS];refine wpSIn_region ?_;show wpOpsSIn _ _ _ _ _ [0,1,2,3] _ _ _;refine oC (o:=e0) tv rfl he0 (qA he0 (v:=.pointer (some ad)) (by simp [lO,lM,hsz,ht0])) ?_;refine oC (o:=e1) tv rfl he1 (qA he1 (v:=.int .i64 k) (by simp [lO,lM,hsz])) ?_;refine oC (o:=e2) tv rfl he2 (tz he2 (ad:=ad) (by simp [lO,lM,hsz])) ?_;rw [wpOpsSIn];simp only [show (#[e0,e1,e2,e3]:Array Oper)[3]?=some e3 from rfl];refine ⟨fun _ _=>trivial,?_⟩;rw [WM (by simp [Region.wanted,he3.guard])];have r9:∀ (ρ:Operand→Value),ρ (.tmp 18)=.pointer (some ad)→ρ (.tmp 17)=.int .i64 k→(execOp ρ e3).run P w=.ok .skip w2:=fun ρ h1 h2=>by
  simp [execOp,he3.op,h1,h2,hst]
 rw [r9 _ (by simp [lO,lM,hsz]) (by simp [lO,lM,hsz])];simp only [he3.dst];rw [wpOpsSIn];have hres:∀ tm:Array Value,(results fn tm).run P w2=.ok (.tuple #[]) w2:=fun tm=>by
  rw [Gq];simp [hr]
 exact ⟨rfl,_,rfl,_,hres _,rfl,rfl,_,rfl⟩
theorem uc {o:Oper} {t:TypeId} {x y:Operand} {ρ:Operand→Value} {v:Value} {w2:World} (ho:o.op=.store t x y) (h:(execOp ρ o).run P w=.ok (.value v) w2∨((execOp ρ o).run P w=.ok .skip w2∧v=undef)) :
  (Instr.storeAt t (ρ x) (ρ y)).run P w=.ok () w2:=by
 have e:(execOp ρ o).run P w=((Instr.storeAt t (ρ x) (ρ y)).run P w).andThen fun _ w'=>.ok .skip w':=by
  simp [execOp,ho]
 rw [e] at h
 cases hs:(Instr.storeAt t (ρ x) (ρ y)).run P w with
 | ok u w3=>
  rw [hs] at h;simp only [Result.andThen] at h;rcases h with h | ⟨h,_⟩
  ·cases h
  ·cases h;rfl
 | halt b w3 =>rw [hs] at h;simp only [Result.andThen] at h;rcases h with h | ⟨h,_⟩<;>cases h
def yzJ:Fn→Bool
 | .yield _=>false
 | _=>true
def OV (call:Nat→List PV→Hp→Option (PV×Hp)) (f:Nat) (args:List PV) (H:Hp):Option (PV×Hp):=
 bif gF yzJ (fun _=>true) H&&ybg yzJ (fun _=>true) args then call f args H else none
theorem ue {call:Nat→List PV→Hp→Option (PV×Hp)} (hc:yba P E call) (y:Nat):yba P (E.ats y) (OV call):=by
 intro f args H r H' h nt g F tmps w vs hr hL hv;unfold OV at h
 cases hb:(gF yzJ (fun _=>true) H&&ybg yzJ (fun _=>true) args) with
 | false=>rw [hb] at h;cases h
 | true=>
  rw [hb,cond_true] at h;simp only [bO] at hb;obtain ⟨hb1,hb2⟩:=hb;let gl:Gh:=({ g with β:=fun _=>none }:Gh).wl fun _=>none
  have hU:∀ f,yzJ f=true→g.okF f→(g.wl fun _=>none).okF f∧(g.wl fun _=>none).tr f=g.tr f:=by
   intro f hf _
   cases f with
   | yield k=>cases hf
   | _=>exact ⟨trivial,rfl⟩
  have hI:∀ id,(fun _:Nat=>true) id=true→H[id]?=H[id]?:=fun _ _=>rfl
  have hon0:On (g.wl fun _=>none) gl H H w w:=⟨fun _ x=>⟨x,rfl⟩,fun _ hb x=>⟨hb,x,rfl,rfl,.inr ⟨rfl,rfl⟩⟩,fun _ cur _ x=>⟨cur,x,rfl⟩,rfl⟩;have r0:Rel E 0 gl [] H #[] w:=by refine ⟨kF _,fun s fv e=>by simp [fget] at e,fun id hb e=>?_,fun id id' hb b o b' o'=>hr.dist id id' hb b o b' o',fun id b o e=>hr.rsome id b o e,fun s s' b e=>by simp [gl,Gh.wl] at e,fun s b id o e=>by simp [gl,Gh.wl] at e,fun s b e=>by simp [gl,Gh.wl] at e,hr.imm,hr.glob⟩;obtain ⟨b,o,hk⟩:=hr.heap id hb e;exact ⟨b,o,nW hon0 (NU hU hI (NV H id hb hb1 e) hk) rfl rfl (fun x=>x)⟩
  have v0:bH gl H w args vs:=wU hon0 _ _ (Be hU hI args vs hb2 hv);refine (hc f args H r H' h 0 gl [] #[] w vs r0 (Lps.none_ fun _=>rfl) v0).mono ?_;rintro v w' ⟨g',n1,r1,hvr⟩;have hlam:∀ k,g'.lam k=none:=fun k=>by rw [n1.on.lam];rfl
  have hUp:∀ f,(fun _:Fn=>true) f=true→g'.okF f→(g'.wl g.lam).okF f∧(g'.wl g.lam).tr f=g'.tr f:=fun f _ hf=>Gh.okF_lam (g':=g'.wl g.lam) (fun k l e=>by rw [hlam k] at e;cases e) hf
  have r2:Rel E 0 (g'.wl g.lam) [] H' #[] w':=r1.lamUp fun k l e=>by rw [hlam k] at e;cases e
  have v2:VR (g'.wl g.lam) H' w' r v:=Bd hUp (fun _ _=>rfl) r v (DH r) hvr;have n2:Nx { g with β:=fun _=>none } (g'.wl g.lam) H H' w w':=
   ⟨n1.os,n1.tape,n1.output,n1.drawn,n1.size,n1.kept,n1.rng,n1.immb,n1.bet,⟨n1.on.keeps,n1.on.hext,n1.on.shape,rfl⟩⟩
  obtain ⟨r3,n3⟩:=hr.back n2 (show Rel (E.ats y) 0 (g'.wl g.lam) [] H' #[] w' from Rel.env (E:=E) (E':=E.ats y) rfl r2);have hon2:On (g'.wl g.lam) { (g'.wl g.lam) with β:=g.β } H' H' w' w':=⟨fun _ x=>⟨x,rfl⟩,fun _ hb x=>⟨hb,x,rfl,rfl,.inr ⟨rfl,rfl⟩⟩,fun _ cur _ x=>⟨cur,x,rfl⟩,rfl⟩;exact ⟨_,n3,r3,mL hon2 _ _ v2⟩
end
section
variable {O S L V:Type} {look:S→L→V} {run:O→S→Option S} {ops:List O} {st:Nat→S} {R W:Nat→L→Prop}
theorem Local.pre (h:Local look run ops st R W) (ρ:List Nat):∀ (τ done:List Nat) (T:S),(done++(τ++ρ)).Nodup→(∀ i,i<ops.length↔i∈done++(τ++ρ)) →
  (∀ i j,i<j→(i∈τ++ρ∧j∈done∨(∃ a b c,τ++ρ=a++j::(b++i::c)))→mQ R W i j) →
  (∀ l,(∀ i∈done,¬W i l)→look T l=look (st 0) l) →
  (∀ l i,i∈done→W i l→(∀ j∈done,W j l→j≤i)→look T l=look (st (i+1)) l) →
  ∃ T',ylB run (τ.filterMap (ops[·]?)) T=some T'∧(∀ l,(∀ i∈done++τ,¬W i l)→look T' l=look (st 0) l) ∧
   ∀ l i,i∈done++τ→W i l→(∀ j∈done++τ,W j l→j≤i)→look T' l=look (st (i+1)) l
 | [],done,T,_,_,_,ha,hb=>⟨T,rfl,by simpa using ha,by simpa using hb⟩
 | j::τ,done,T,hnd,hall,hfree,ha,hb=>by
  have hj:j<ops.length:=(hall j).2 (by simp);have hjd:j∉done:=by intro hx;rw [Dc] at hnd;exact hnd.2.2 j hx j (by simp) rfl
  have later:∀ i,i<ops.length→i∉done→i≠j→i∈τ++ρ:=by
   intro i hi h1 h2;have:=(hall i).1 hi;simp only [wO,qAv,qAo] at this;rcases this with h3 | h3 | h3
   ·exact absurd h3 h1
   ·exact absurd h3 h2
   ·exact qAv.2 h3
  have freeLate:∀ i,i<j→i∈τ++ρ→mQ R W i j:=by intro i hij hi;obtain ⟨b,c,e⟩:=Ga hi;exact hfree i j hij (.inr ⟨[],b,c,by rw [wO,e];rfl⟩)
  have freeDone:∀ i,j<i→i∈done→mQ R W j i:=fun i hij hi=>hfree j i hij (.inl ⟨by simp,hi⟩)
  have agree:∀ l,R j l→look T l=look (st j) l:=by
   intro l hl;have noBig:∀ i∈done,W i l→i<j:=by
    intro i hi hw;rcases qA4 i j with h1 | h1
    ·exact h1
    ·have hne:i≠j:=fun e=>hjd (e ▸ hi)
     exact absurd ⟨hw,hl⟩ (freeDone i (by omega) hi l).2
   rcases ylC (fun i=>W i l) j with h1|⟨i,h1,h2,h3⟩
   ·have:=h.since (l:=l) (k:=0) j (by omega) (fun i _ hi=>h1 i (by omega));rw [iK] at this;rw [this];exact ha l fun i hi hw=>h1 i (noBig i hi hw) hw
   ·have hi:i∈done:=by
     by_cases hd:i∈done
     ·exact hd
     ·exact absurd ⟨h2,.inl hl⟩ (freeLate i h1 (later i (by omega) hd (by omega)) l).1
    rw [hb l i hi h2 fun k hk hw=>h3 k (noBig k hk hw) hw];have:=h.since (l:=l) (k:=i+1) (j-(i+1)) (by omega) (fun k h4 h5 hw=>by have:=h3 k (by omega) hw;omega);rw [show i+1+(j-(i+1))=j by omega] at this;exact this.symm
  obtain ⟨T',h1,h2,h3⟩:=h.loc j _ (dU hj) T agree;have ih:=Local.pre h ρ τ (done++[j]) T' (by simpa using hnd) (fun i=>by rw [hall i];simp) ?_ ?_ ?_
  ·obtain ⟨T2,h4,h5,h6⟩:=ih;refine ⟨T2,?_,by simpa using h5,by simpa using h6⟩;rw [uR,dU hj];simp only [ylB,h1];exact h4
  ·intro i k hik hcase;rcases hcase with ⟨hi,hk⟩ | ⟨a,b,c,e⟩
   ·simp only [qAv,wM] at hk;rcases hk with hk | rfl
    ·exact hfree i k hik (.inl ⟨by rw [wO];exact gO _ hi,hk⟩)
    ·exact freeLate i hik hi
   ·exact hfree i k hik (.inr ⟨j::a,b,c,by rw [wO,e];rfl⟩)
  ·intro l hl;rw [h3 l (hl j (by simp))];exact ha l fun i hi=>hl i (by simp [hi])
  ·intro l i hi hw hmax;simp only [qAv,wM] at hi
   by_cases hwj:W j l
   ·have hle:=hmax j (by simp) hwj;rcases hi with hi | rfl
    ·have hne:i≠j:=fun e=>hjd (e ▸ hi)
     exact absurd ⟨hwj,.inr hw⟩ (freeDone i (by omega) hi l).1
    ·exact h2 l hw
   ·rcases hi with hi | rfl
    ·rw [h3 l hwj];exact hb l i hi hw fun k hk hkw=>hmax k (by simp [hk]) hkw
    ·exact absurd hw hwj
end
theorem Kr {α β:Type} {f g:α→Option β}:∀ {l:List α},(∀ a∈l,f a=g a)→l.filterMap f=l.filterMap g
 | [],_=>rfl
 | x::l,h=>by rw [uR,uR,h x (kC ..),Kr fun a ha=>h a (gO _ ha)]
def GX:AO:=⟨none,.mv (.c (.int .i64 0)),none⟩
def gG (pairs:List (Nat×Nat)) (j:Nat):Nat→List AO→List AO
 | _,[]=>[]
 | i,o::r=>(bif Nat.beq i j||(Nat.blt j i&&!pairs.elem (j,i)) then GX else o)::gG pairs j (i+1) r
def lP (pairs:List (Nat×Nat)) (j:Nat):Nat→List FP→Bool
 | _,[]=>true
 | i,p::r=>((Nat.blt i j&&!pairs.elem (i,j))||(p.hw.isEmpty&&(!p.push&&!p.all)))&&lP pairs j (i+1) r
def lQ (pairs:List (Nat×Nat)) (j:Nat) (S:List Nat):Nat→List FP→Bool
 | _,[]=>true
 | i,p::r=>((Nat.blt i j&&!pairs.elem (i,j))||p.wr.all fun s=>!S.elem s)&&lQ pairs j S (i+1) r
abbrev Ei:=Nat→List PV→Hp→Int→Hp→Prop
def OW (E:Env) (call:Nat→List PV→Hp→Option (PV×Hp)) (rz:Ei) (l:List AO) (F:aD) (H:Hp) (k:Int) (H':Hp):Prop:=
 ∃ j d f az n vs F1 H1,l[j]?=some ⟨d,.call f az,none⟩∧ybo E call (l.take j) F H=some (F1,H1)∧evV E F1 f=some (.fn (.func n) [] [])∧evs E F1 az=some vs∧rz n vs H1 k H'
def ZK (E:Env) (call:Nat→List PV→Hp→Option (PV×Hp)) (rz:Ei) (l:List AO) (pairs:List (Nat×Nat)) (F:aD) (H:Hp) (k:Int) (H':Hp):Prop:=
 ∃ j d f az n vs F1 H1 ps,l[j]?=some ⟨d,.call f az,none⟩∧yjL E call (gG pairs j 0 l) (nF F (gG pairs j 0 l)) H=some (F1,H1,ps)∧yid ps pairs=true∧wS (nF F (gG pairs j 0 l)) (gG pairs j 0 l) (gG pairs j 0 l)=true ∧
  lP pairs j 0 ps=true∧lQ pairs j (f.slots++qZ az) 0 ps=true∧evV E F1 f=some (.fn (.func n) [] [])∧evs E F1 az=some vs∧rz n vs H1 k H'
mutual
def eC (E:Env) (rl:List Nat):Nat→AC→aD→Hp→Int→Hp→Prop
 | 0,_,_,_,_,_=>False
 | n+1,c,F,H,k,H'=>
  match c with
  | .ops l [] _=>(yBR E F l=some k∧H'=H)∨OW E (ybu E n) (RzF E rl n) l F H k H'
  | .ops l (p::ps) _=>ZK E (ybu E n) (RzF E rl n) l (p::ps) F H k H'
  | .seq a b=>eC E rl n a F H k H'∨∃ F1 H1,exec E n a F H=some (.norm,F1,H1)∧eC E rl n b F1 H1 k H'
  | .cond x a b=>(evV E F x=some (.bool true)∧eC E rl n a F H k H')∨(evV E F x=some (.bool false)∧eC E rl n b F H k H')
  | .block _ b=>eC E rl n b F H k H'
  | .loop b=>eC E rl n b F H k H'∨∃ F1 H1,exec E n b F H=some (.norm,F1,H1)∧eC E rl n (.loop b) F1 H1 k H'
  | _=>False
def RzF (E:Env) (rl:List Nat):Nat→Nat→List PV→Hp→Int→Hp→Prop
 | 0,_,_,_,_,_=>False
 | n+1,f,args,H,k,H'=>memN rl f=true∧∃ fn,E.fns f=some fn∧args.length=fn.nparams∧eC E rl n fn.body (iX 0 args) H k H'
end
section
variable {P:Program} {E:Env} {nt:Nat} {g g':Gh} {F F':aD} {H H':Hp} {a:Act} {tmps:Array Value} {w w':World} {o:Oper} {T:TypeId} {rl:List Nat}
def GY (P:Program) (E:Env) (T:TypeId) (rz:Ei):Prop:=
 ∀ (f:Nat) (args:List PV) (H:Hp) (k:Int) (H':Hp),rz f args H k H' →
  ∀ (nt:Nat) (g:Gh) (F:aD) (tmps:Array Value) (w:World) (vs:List Value),Rel E nt g F H tmps w→Lps P E g H w→bH g H w args vs →
   (callFunc f vs.toArray).run P w=.ok (.enter f vs.toArray) w∧Calls P f vs.toArray w fun e w'=>e=.panicked (vQ T k)∧inK .i64 k∧∃ g',Nx g g' H H' w w'∧Rel E nt g' F H' tmps w'
theorem OX {rz:Ei} (hz:GY P E T rz) {ops:Array Oper} {loc:List Nat} {l:List AO} (hl:yfD P loc ops ops.toList=some l) {j:Nat} (hj:j<ops.size) {d:Option Nat} {f:Opd} {az:List Opd} (hlj:l[j]?=some ⟨d,.call f az,none⟩)
  {n:Nat} {vs:List PV} {k:Int} (hr:Rel E nt g F H a.tmps w) (hL:Lps P E g H w) (hfv:evV E F f=some (.fn (.func n) [] [])) (hav:evs E F az=some vs) (h:rz n vs H k H') {rest:List Nat} {Q:Exit→Act→World→Prop}
  (hq:∀ w' g',inK .i64 k→Nx g g' H H' w w'→Rel E nt g' F H' a.tmps w'→Q (.panic (vQ T k)) a w'):wpOpsIn (Fc none) 0 P ops Q (j::rest) a w:=by
 obtain ⟨hlen,hget⟩:=sZ _ _ hl;have hoj:ops[j]?=some ops[j]:=by simp [hj]
 have hoj':ops.toList[j]?=some ops[j]:=by simp [hj]
 obtain ⟨gd,hli,hgd⟩:=hget j _ hoj';rw [hlj] at hli;simp only [bT,AO.mk.injEq] at hli;obtain ⟨_,hop,rfl⟩:=hli;obtain ⟨c,f3,f',az',h1,h2,h3,h4,h5⟩:=NS (P:=P) (loc:=loc) (o:=ops[j]) (by rw [← hop];rfl);rw [← hop] at h5
 cases h5
 simp only [wpOpsIn,hoj];have hgn:ops[j].guard=none:=by
  rcases hgd with ⟨h6,_⟩|⟨_,_,_,_,_,h6⟩
  ·exact h6
  ·cases h6
 rw [WM (by simp [Region.wanted,hgn])]
 classical
 let rz1:Nat→List PV→Hp→Option (Int×Hp):=fun n' vs' H2=>if n'=n∧vs'=vs∧H2=H then some (k,H') else none
 have hz1:GW P E T rz1:=by
  intro f0 args0 H0 k0 H0' hh nt0 g0 F0 tmps0 w0 vs0 r0 l0 v0;have h0:(if f0=n∧args0=vs∧H0=H then some (k,H') else none)=some (k0,H0'):=hh;clear hh
  by_cases e:f0=n∧args0=vs∧H0=H
  ·rw [WM e] at h0;obtain ⟨rfl,rfl,rfl⟩:=e
   cases qDk h0
   exact hz _ _ _ _ _ h nt0 g0 F0 tmps0 w0 vs0 r0 l0 v0
  ·rw [WN e] at h0;cases h0
 exact tk hz1 hr hL h1 h2 h3 h4 hfv hav (show rz1 n vs H=some (k,H') from WM ⟨rfl,rfl,rfl⟩) hq
theorem uf (hE:EO P E) {call} (hc:yba P E call) {rz:Ei} (hz:GY P E T rz) {base id:Nat} {ops:Array Oper} {loc:List Nat} {l:List AO} {k:Int} (hl:yfD P loc ops ops.toList=some l) (hd:rD nt ops.toList=true)
  (h:OW E call rz l F H k H') (hr:Rel E nt g F H a.tmps w) (hL:Lps P E g H w) (hdf:bU E base g w a.defers):(Code.region id ops false).wpIn (Fc none) 0 P (yxl E nt base g H w T k H') a w:=by
 obtain ⟨j,d,f,az,n,vs,F1,H1,h1,h2,h3,h4,h5⟩:=h;have hlen:=(sZ _ _ hl).1;have hjl:j<l.length:=(nA.1 h1).1;have hsz:ops.size=l.length:=by simpa using hlen.symm
 refine wpIn_region ?_;have hsplit:List.range ops.size=List.range j++j::(List.range' (j+1) (ops.size-(j+1))):=by
  have e:=List.range'_append_1 (s:=0) (m:=j) (n:=ops.size-j);rw [show j+(ops.size-j)=ops.size by omega,iK] at e;rw [CZ,← e,CZ,show ops.size-j=(ops.size-(j+1))+1 by omega,List.range'_succ]
 rw [hsplit];refine DL (ro:=none) hE hc hl hd (fun _=>rfl) (ρ:=j::List.range' (j+1) (ops.size-(j+1))) (List.range j) g F H a w (fun i hi=>by have:=qY.1 hi;omega) hr hL (F':=F1) (H':=H1) ?_ fun a' w' g' d1 n1 r1=>?_
 ·have:(List.range j).filterMap (l[·]?)=l.take j:=by
   have e:=Bg (l.take j);rw [kW,Dh (by omega)] at e;rw [← e];refine Kr fun i hi=>?_
   have:=qY.1 hi;rw [List.getElem?_take_of_lt this]
  rw [this];exact h2
 ·refine OX hz hl (by omega) h1 r1 (hL.nx n1) h3 h4 h5 fun w2 g2 hk n2 r2=>⟨rfl,hk,g2,n1.trans n2,r2.bare r2.size,(hdf.nx (n1.trans n2)).go d1⟩
theorem ZL (pairs:List (Nat×Nat)) (j:Nat):∀ (l:List AO) (i:Nat),(gG pairs j i l).length=l.length
 | [],_=>rfl
 | o::r,i=>by simp only [gG,kI,ZL pairs j r]
theorem ZM (pairs:List (Nat×Nat)) (j:Nat):∀ (l:List AO) (i m:Nat),i+m≠j→(j<i+m→(j,i+m)∈pairs)→(gG pairs j i l)[m]?=l[m]?
 | [],_,_,_,_=>rfl
 | o::r,i,0,h1,h2=>by
  show some (bif Nat.beq i j||(Nat.blt j i&&!pairs.elem (j,i)) then GX else o)=some o;have e1:Nat.beq i j=false:=Bool.eq_false_iff.2 fun k=>h1 (dK k)
  rw [e1,zG]
  by_cases c:j<i
  ·have:pairs.elem (j,i)=true:=by rw [AM];exact Os (h2 c)
   rw [this];simp
  ·have:Nat.blt j i=false:=Bool.eq_false_iff.2 fun k=>c (Bf k)
   rw [this];rfl
 | o::r,i,m+1,h1,h2=>by show (gG pairs j (i+1) r)[m]?=r[m]?;exact ZM pairs j r (i+1) m (by omega) (by rw [show i+1+m=i+(m+1) by omega];exact h2)
theorem yE6 {pairs:List (Nat×Nat)} {j:Nat}:∀ {ps:List FP} {i0:Nat},lP pairs j i0 ps=true→∀ {i:Nat} {p:FP},ps[i]?=some p→(i0+i<j∧(i0+i,j)∉pairs)∨(p.hw=[]∧p.push=false∧p.all=false)
 | p::r,i0,h,0,q,e=>by
  simp only [yS,bT] at e;subst e;simp only [lP,bO,nR,yX,jR] at h;rcases h.1 with k | k
  ·refine .inl ⟨Bf k.1,fun m=>?_⟩;have:=k.2;rw [AM,decide_eq_false_iff_not] at this;exact this m
  ·exact .inr ⟨k.1,k.2.1,k.2.2⟩
 | p::r,i0,h,i+1,q,e=>by simp only [lP,bO] at h;have:=yE6 (ps:=r) h.2 (i:=i) (p:=q) (by simpa using e);rw [show i0+1+i=i0+(i+1) by omega] at this;exact this
theorem yE7 {pairs:List (Nat×Nat)} {j:Nat} {S:List Nat}:∀ {ps:List FP} {i0:Nat},lQ pairs j S i0 ps=true→∀ {i:Nat} {p:FP},ps[i]?=some p→(i0+i<j∧(i0+i,j)∉pairs)∨∀ s∈p.wr,s∉S
 | p::r,i0,h,0,q,e=>by
  simp only [yS,bT] at e;subst e;simp only [lQ,bO,nR,yW,jR] at h;rcases h.1 with k | k
  ·refine .inl ⟨Bf k.1,fun m=>?_⟩;have:=k.2;rw [AM,decide_eq_false_iff_not] at this;exact this m
  ·refine .inr fun s hs m=>?_
   have:=k s hs;rw [AM,decide_eq_false_iff_not] at this;exact this m
 | p::r,i0,h,i+1,q,e=>by simp only [lQ,bO] at h;have:=yE7 (ps:=r) h.2 (i:=i) (p:=q) (by simpa using e);rw [show i0+1+i=i0+(i+1) by omega] at this;exact this
theorem ug (hE:EO P E) (hm:P.follows .mixedOrders=true) {call} (hc:yba P E call) {rz:Ei} (hz:GY P E T rz) {base id:Nat} {ops:Array Oper} {loc:List Nat} {l:List AO} {k:Int} (hl:yfD P loc ops ops.toList=some l) (hd:rD nt ops.toList=true) (hb:Dy ops.toList=true)
  (h:ZK E call rz l (sY (iO ops.toList [])) F H k H') (hr:Rel E nt g F H a.tmps w) (hL:Lps P E g H w) (hdf:bU E base g w a.defers):(Code.region id ops true).wpIn (Fc none) 0 P (yxl E nt base g H w T k H') a w:=by
 obtain ⟨hlen,hget⟩:=sZ _ _ hl;have hsz:l.length=ops.size:=by simpa using hlen
 refine wpIn_region_draw fun t=>?_
 have hsched:Region.schedule (P.follows .mixedOrders) ops t=Region.linearise.go .any ops ops.size t (Array.replicate ops.size false) []:=by rw [hm];rfl
 rw [hsched];have hcount:(List.range ops.size).countP (fun i=>!(Array.replicate ops.size false).getD i true)≤ops.size:=by
  have:=List.countP_le_length (p:=fun i=>!(Array.replicate ops.size false).getD i true) (l:=List.range ops.size);simpa using this
 obtain ⟨hmem,hnd,hord⟩:=Yl ops (fun i o ho k hk=>Ou hb i o (by simpa using ho) k (by rw [Oq];exact hk)) ops.size t (Array.replicate ops.size false) (by simp) hcount;revert hmem hnd hord;generalize Region.linearise.go .any ops ops.size t (Array.replicate ops.size false) []=σ;intro hmem hnd hord;have hmem':∀ i,i∈σ↔i<ops.size:=by
  intro i;rw [← hmem i];refine ⟨fun x=>x.1,fun x=>⟨x,?_⟩⟩;simp [x]
 have hord':∀ a j b,σ=a++j::b→∀ o,ops[j]?=some o→∀ k∈tA o,k∈a:=by
  intro a j b e o ho k hk;rcases hord a j b e o ho k hk with h1 | h1
  ·simp only [sJ,Array.getElem?_replicate] at h1;split at h1<;>simp at h1
  ·exact h1
 have hperm:σ.Perm (List.range ops.size):=(List.perm_ext_iff_of_nodup hnd List.nodup_range).2 fun i=>by rw [hmem' i,qY]
 have hrd:Rel E nt g F H a.tmps { w with drawn:=w.drawn+1 }:=hr.drew;have hclean:∀ (l:List AO) (F:aD) s x,fget (nF F l) s=some x→fget F s=some x:=by
  intro l;induction l with
  | nil=>intro F s x e;exact e
  | cons o r ih=>
   intro F s x e;simp only [nF] at e;split at e
   ·rename_i d _;have:=ih _ s x e;rw [wT] at this;split at this
    ·cases this
    ·exact Jm F d s x this
   ·exact ih _ s x e
 obtain ⟨j,d,f,az,n,vs,F1,H1,ps,hlj,hps,hap,hbx,hbk,hsl,hfv,hav,hrz⟩:=h;have hjl:j<l.length:=(nA.1 hlj).1;obtain ⟨τ,ρ,hσ⟩:=Ga ((hmem' j).2 (by omega));generalize hl':gG (sY (iO ops.toList [])) j 0 l=l' at hps hbx;have hl'len:l'.length=l.length:=by rw [← hl',ZL]
 have hτ:∀ i∈τ,i<ops.size∧i≠j:=fun i hi=>by
  refine ⟨(hmem' i).1 (by rw [hσ];exact FY _ hi),fun e=>?_⟩;subst e;rw [hσ,Dc] at hnd;exact hnd.2.2 i hi i (by simp) rfl
 have hτg:∀ i∈τ,l'[i]?=l[i]?:=fun i hi=>by
  rw [← hl'];refine ZM _ j l 0 i (by rw [iK];exact (hτ i hi).2) fun hji=>?_
  rw [iK] at hji ⊢;refine DQ hji (by rw [Bj];simpa using (hτ i hi).1) ?_
  cases hbit:((iO ops.toList []).getD i 0).testBit j with
  | false=>rfl
  | true =>obtain ⟨τ1,τ2,e⟩:=Ga hi;have hjm:=DP hb hord' i τ1 (τ2++j::ρ) j (by rw [hσ,e];simp) (hτ i hi).1 hbit;exact absurd rfl (hτ j (by rw [e];exact FY _ hjm)).2
 obtain ⟨F0,hF0⟩:∃ F0,F0=nF F l':=⟨_,rfl⟩;have hcl:=hclean l' F;rw [← hF0] at hps hbx hcl;obtain ⟨s1,s2,s3,s4⟩:=Ok _ _ _ _ _ _ hps;let st:Nat→aD×Hp:=fun i=>stAt E call l' i (F0,H)
 let R:Nat→Loc→Prop:=fun i x=>∃ p,ps[i]?=some p∧RdP p x
 let W:Nat→Loc→Prop:=fun i x=>∃ p,ps[i]?=some p∧WrP p x
 have hlocal:Local look (ygM E call) l' st R W:=by
  refine ⟨fun i o ho=>?_,fun i o ho S' hag=>?_⟩
  ·exact (s4 i o ho).1
  ·obtain ⟨h1,h2⟩:=s4 i o ho;obtain ⟨T',k1,k2,k3⟩:=YE h1 S' (fun x hx=>hag x ⟨_,h2,hx⟩);refine ⟨T',k1,fun x ⟨p,e,hx⟩=>?_,fun x hx=>k3 x fun hw=>hx ⟨_,h2,hw⟩⟩;rw [h2] at e;cases e;exact k2 x hx
 have hfree:∀ i j,i<j→(i∈τ++j::ρ∧j∈([]:List Nat)∨(∃ a b c,σ=a++j::(b++i::c)))→mQ R W i j:=by
  intro i j hij hcase;rcases hcase with ⟨_,hx⟩ | ⟨a,b,c,e⟩
  ·cases hx
  ·have hj:j<ops.size:=(hmem' j).1 (by rw [e];simp);have hbit:((iO ops.toList []).getD j 0).testBit i=false:=by
    cases hbit:((iO ops.toList []).getD j 0).testBit i
    ·rfl
    ·have hia:=DP hb hord' j a _ i e hj hbit;rw [e,Dc] at hnd;exact absurd rfl (hnd.2.2 i hia i (by simp))
   obtain ⟨p,q,hp1,hq1,hcl⟩:=Ol _ hap i j (DQ hij (by rw [Bj];simpa using hj) hbit);intro x;obtain ⟨f1,f2⟩:=YF hcl x;refine ⟨fun ⟨⟨p',e1,w1⟩,r1⟩=>f1 ?_,fun ⟨⟨q',e1,w1⟩,⟨p',e2,r1⟩⟩=>f2 ?_⟩
   ·rw [hp1] at e1;cases e1;refine ⟨w1,r1.imp (fun ⟨q',e2,r2⟩=>?_) (fun ⟨q',e2,r2⟩=>?_)⟩
    ·rw [hq1] at e2;cases e2;exact r2
    ·rw [hq1] at e2;cases e2;exact r2
   ·rw [hq1] at e1;cases e1;rw [hp1] at e2;cases e2;exact ⟨w1,r1⟩
 obtain ⟨T1,k1,k2,k3⟩:=hlocal.pre (j::ρ) τ [] (F0,H) (by rw [pH,← hσ];exact hnd) (fun i=>by rw [hl'len,hsz,pH,← hσ,hmem' i])
  (fun i x hix hcase=>by
   rcases hcase with ⟨_,hx⟩|⟨a,b,c,e⟩
   ·cases hx
   ·exact hfree i x hix (.inr ⟨a,b,c,by rw [hσ];exact e⟩)) (fun x _=>by show look (F0,H) x=look (st 0) x;rw [show st 0=(F0,H) from s2]) (fun x i hi=>by cases hi)
 have hfin:st l'.length=(F1,H1):=s3;have hst0:st 0=(F0,H):=s2;simp only [pH] at k2 k3;have gen:∀ x,(∀ i,W i x→i∈τ)→look T1 x=look (st l'.length) x:=fun x hx=>by
  rcases ylC (fun i=>W i x) l'.length with h1|⟨i,h1,h2,h3⟩
  ·rw [k2 x fun i hi=>h1 i (by rw [hl'len,hsz];exact (hτ i hi).1)];have:=hlocal.since (l:=x) (k:=0) l'.length (by omega) (fun i _ hi=>h1 i (by omega));rw [iK] at this;exact this.symm
  ·rw [k3 x i (hx i h2) h2 fun y hy hwy=>h3 y (by rw [hl'len,hsz];exact (hτ y hy).1) hwy];have:=hlocal.since (l:=x) (k:=i+1) (l'.length-(i+1)) (by omega) (fun y h4 h5 hw=>by have:=h3 y (by omega) hw;omega);rw [show i+1+(l'.length-(i+1))=l'.length by omega] at this;exact this.symm
 have ahead:∀ i,i<j→(i,j)∉sY (iO ops.toList [])→i∈τ:=fun i c1 c2=>by
  refine DP hb hord' j τ ρ i hσ (by omega) ?_
  cases hbit:((iO ops.toList []).getD j 0).testBit i with
  | true=>rfl
  | false=>exact absurd (DQ c1 (by rw [Bj];simpa using (show j<ops.size by omega)) hbit) c2
 have hH:T1.2=H1:=by
  refine qV fun x=>?_
  have:=gen (.bk x) fun i ⟨p,e,hw⟩=>by
   rcases yE6 hbk e with ⟨c1,c2⟩|⟨b1,b2,b3⟩
   ·rw [iK] at c1 c2;exact ahead i c1 c2
   ·simp only [WrP,b1,b3] at hw;rcases hw with hw | hw<;>cases hw
  rw [hfin] at this;simpa [look] using this
 have hS:∀ s∈f.slots++qZ az,fget T1.1 s=fget F1 s:=fun s hs=>by
  have key:=gen (.sl s) fun i ⟨p,e,hw⟩=>by
   rcases yE7 hsl e with ⟨c1,c2⟩|c1
   ·rw [iK] at c1 c2;exact ahead i c1 c2
   ·exact absurd hs (c1 s hw)
  rw [hfin] at key;simpa [look] using key
 have hfv':evV E T1.1 f=some (.fn (.func n) [] []):=by rw [fR (F:=F1) (fun s hs'=>hS s (FY _ hs'))];exact hfv
 have hav':evs E T1.1 az=some vs:=by rw [DM (F:=F1) az (fun s hs'=>hS s (List.mem_append_right _ hs'))];exact hav
 have hsub:(τ.filterMap (l'[·]?)).length≤l'.length∧∀ d,yfk d (τ.filterMap (l'[·]?))≤yfk d l':=by
  have hlperm:(σ.filterMap (l'[·]?)).Perm l':=by have:=hperm.filterMap (l'[·]?);rw [← hsz,← hl'len,Bg] at this;exact this
  rw [hσ,List.filterMap_append] at hlperm;refine ⟨by have:=hlperm.length_eq;rw [dM] at this;omega,fun d=>?_⟩;rw [GA,GA,← hlperm.countP_eq,List.countP_append];omega
 have hin:∀ o∈τ.filterMap (l'[·]?),o∈l':=fun o ho=>by
  obtain ⟨i,_,e⟩:=List.mem_filterMap.1 ho;exact FX e
 have hfresh:=Om _ F0 H T1 k1 fun o ho d hdo=>by
  obtain ⟨b1,b2,b3⟩:=Oo l' hbx o (hin o ho) d hdo;refine ⟨b1,b2,?_⟩;have h1:=hsub.2 d;have h2:0<yfk d (τ.filterMap (l'[·]?)):=by
   rw [GA];refine List.countP_pos_iff.2 ⟨o,ho,?_⟩;have:o.dst=some d:=by
    unfold ypT at hdo;split at hdo
    ·exact hdo
    ·exact hdo
    ·cases hdo
   simp [this]
  omega
 have hrun:ybo E call (τ.filterMap (l[·]?)) F0 H=some (T1.1,H1):=by
  have e:τ.filterMap (l[·]?)=τ.filterMap (l'[·]?):=Kr fun i hi=>(hτg i hi).symm
  rw [e,hfresh,← hH]
 rw [hσ];refine DL (ro:=none) hE hc hl hd (fun _=>rfl) (ρ:=j::ρ) τ g F0 H a _ (fun i hi=>(hτ i hi).1) (hrd.less hcl) (hL.nx (Nx.drew g H w)) hrun fun a' w' g' d1 n1 r1=>?_
 have n0:=(Nx.drew g H w).trans n1;exact OX hz hl (by omega) hlj r1 (hL.nx n0) hfv' hav' hrz fun w2 g2 hk n2 r2=>⟨rfl,hk,g2,n0.trans n2,r2.bare r2.size,(hdf.nx (n0.trans n2)).go d1⟩
def yKw (P:Program) (E:Env) (T:TypeId) (rl:List Nat) (n:Nat):Prop:=
 ∀ (loc:List Nat) (fg:Nat→List Nat) (nt base:Nat) (c:Code) (g:Gh) (F:aD) (H:Hp) (a:Act) (w:World) (k:Int) (H':Hp),iT P loc T c=true →
  eC E rl n (yaG P loc fg nt false c) F H k H'→Rel E nt g F H a.tmps w→Lps P E g H w→base≤w.heap.size→bU E base g w a.defers→c.wpIn (Fc none) 0 P (yxl E nt base g H w T k H') a w
def ZN (P:Program) (E:Env) (T:TypeId) (rl:List Nat) (n:Nat):Prop:=
 ∀ (loc:List Nat) (fg:Nat→List Nat) (nt base:Nat) (c:Code) (g:Gh) (F:aD) (H:Hp) (a:Act) (w:World) (k:Int) (H':Hp),iT P loc T c=true →
  eC E rl n (.loop (yaG P loc fg nt false c)) F H k H'→Rel E nt g F H a.tmps w→Lps P E g H w→base≤w.heap.size→bU E base g w a.defers →
  ∀ (b:Frame) (ks:List Item) (cs:List Frame),b.roundOf=none→∃ e a' w',yxl E nt base g H w T k H' e a' w'∧ArrivesIn (Machine.fenced P (Fc none)) P (lone (b.atR a (.code c::.inLoop c::ks)) cs w) b ks cs e a' w'
theorem uh (hdn:∀ n,E.dn n=false) (hrl:lL P E T rl) {n:Nat} (hx:yKw P E T rl n):GY P E T (RzF E rl (n+1)):=by
 intro f args H k H' h nt g F tmps w vs hr hL hv;simp only [RzF] at h;obtain ⟨hm,fn0,hfn0,hlen,h⟩:=h;obtain ⟨fu,loc,fg,c,fn,hfu,hfn,hcomp,hb,hpan⟩:=hrl.get hm;rw [hfn] at hfn0
 cases hfn0
 unfold mM at hcomp;rw [hb] at hcomp;split at hcomp
 ·rename_i c' rs hc' hrs
  cases hc'
  split at hcomp
  ·cases hcomp
  ·rename_i hname
   cases hcomp
   simp only [] at h hlen
   ··have hbase:=hr.enter hv fu.ntmps;have hcf:(callFunc f vs.toArray).run P w=.ok (.enter f vs.toArray) w:=by
      have hname' : ¬ fu.name = "runtime.NumGoroutine" := by simpa using hname
      simp [callFunc,hfu,hname',hb]
     refine ⟨hcf,?_⟩;have hbody:=hx loc fg fu.ntmps w.heap.size c _ _ _ ⟨vs.toArray++Array.replicate (fu.ntmps-vs.toArray.size) undef,[]⟩ w k H' hpan h hbase hL.enter (bW _) bU.nil;refine DF.1 (callsIn_of_wp_marks (F:=Fc none) (n:=0) hfu hb trivial (wpIn_mono hbody fun e a' w' hp=>?_));obtain ⟨rfl,hk,g2,h3,h4,rs,h5,h6,h7,h8⟩:=hp;show LeavesInM (Fc none) 0 P fu a'.tmps _ a'.defers (.panicking (vQ T k)) w';rw [h5];refine ZI hdn (nt:=fu.ntmps) (g0:={ g with β:=fun _=>none }) (g2:=g2) (H:=H) (H2:=H') (w0:=w) (fun w1 k1 k2=>?_) rs w' h6 h7 h8 h4 h3;obtain ⟨r3,n3⟩:=hr.back k2 k1;exact ⟨rfl,hk,_,n3,r3⟩
 ·cases hcomp
theorem ui (hE:EO P E) (hm:P.follows .mixedOrders=true) (hdn:∀ n,E.dn n=false) (hrl:lL P E T rl) (hT:∀ (v:Value) (w:World),(Instr.makeInterface T v).run P w=.ok (.iface T v) w) :
  ∀ n,yKw P E T rl n∧ZN P E T rl n∧GY P E T (RzF E rl n):=by
 have hex:∀ n,yvY P E n:=fun n=>(Yj (fun E hE=>YI hE hm) n E hE).1
 intro n;induction n with
 | zero=>
  refine ⟨?_,?_,?_⟩
  ·intro loc fg nt base c g F H a w k H' _ h;simp [eC] at h
  ·intro loc fg nt base c g F H a w k H' _ h;simp [eC] at h
  ·intro f args H k H' h;simp [RzF] at h
 | succ n ih=>
  obtain ⟨ihx,ihl,ihi⟩:=ih;have hloop:ZN P E T rl (n+1):=by
   intro loc fg nt base c g F H a w k H' hpan h hr hL hb hdf b ks cs hbr;have hroom:(Fc none).room (cs.length+1+0):=room_wide _;simp only [eC] at h;rcases h with h | ⟨F1,H1,h1,h⟩
   ·obtain ⟨e,a1,w1,hp,harr⟩:=ihx loc fg nt base c g F H a w _ _ hpan h hr hL hb hdf b (.inLoop c::ks) cs hbr trivial hroom;obtain ⟨rfl,hp2⟩:=hp;exact ⟨_,a1,w1,⟨rfl,hp2⟩,.pass (x:=.inLoop c) rfl (fun _ _=>.inl (fun e1=>by cases e1)) harr⟩
   ·obtain ⟨e,a1,w1,⟨hp1,g1,hn1,hr1,hd1⟩,harr⟩:=hex n none false loc fg nt base c g F H a w _ _ _ (fun _=>rfl) h1 hr hL hb hdf b (.inLoop c::ks) cs hbr trivial hroom
    cases e<;>simp only [nY] at hp1
    obtain ⟨e2,a2,w2,hq2,harr2⟩:=ihl loc fg nt base c g1 F1 H1 a1 w1 k H' hpan h hr1 (hL.nx hn1) (jT hb hn1.size) hd1 b ks cs hbr;exact ⟨e2,a2,w2,hq2.trans hn1,.of_steps (StepsIn.trans harr (.one (fenced_calm trivial hroom rfl) stepR_inLoop)) harr2⟩
  refine ⟨?_,hloop,uh hdn hrl ihx⟩;intro loc fg nt base c;induction c with
  | scope x ihs =>intro g F H a w k H' hpan h hr hL hb hdf;simp only [yaG] at h;refine Yf (wpIn_mono (ihs g F H a w k H' hpan h hr hL hb hdf) fun e a' w' hp=>?_);obtain ⟨rfl,hp2⟩:=hp;exact ⟨rfl,hp2⟩
  | region id ops draw=>
   intro g F H a w k H' hpan h hr hL hb hdf;simp only [yaG] at h;unfold oS at h;simp only [mJ,gE,if_false] at h;have hpan:tL P loc T ops draw=true:=hpan;split at h
   ·rename_i l hl;split at h
    ·rename_i hds
     cases draw with
     | true=>
      unfold tL at hpan;simp only [jJ,zG,bO,jR] at hpan;simp only [if_true] at h;split at h
      ·rename_i hbk
       cases hf:sY (iO ops.toList []) with
       | nil=>rw [hf] at hpan;simp at hpan
       | cons x r =>rw [hf] at h;simp only [eC] at h;rw [← hf] at h;exact ug hE hm (DR hE hm n) ihi hl hds hbk h hr hL hdf
      ·simp [eC] at h
     | false=>
      simp only [gE,if_false] at h;simp only [eC] at h;rcases h with ⟨hp,rfl⟩ | h
      ·exact tw hl hp hpan hds hr hdf hT
      ·exact uf hE (DR hE hm n) ihi hl hds h hr hL hdf
    ·simp [eC] at h
   ·simp [eC] at h
  | seq x y _ _=>
   intro g F H a w k H' hpan h hr hL hb hdf;simp only [iT,bO,jR] at hpan;have hc:yaG P loc fg nt false (.seq x y)=.seq (yaG P loc fg nt false x) (yaG P loc fg nt false y):=by
    rw [yaG];intro id ops e hx hy;subst hx;subst hy;simp [GV] at hpan
   rw [hc] at h;simp only [eC] at h;rcases h with h | ⟨F1,H1,h1,h⟩
   ·refine wpIn_seq (wpIn_mono (ihx loc fg nt base x g F H a w _ _ hpan.2.1 h hr hL hb hdf) fun e a1 w1 hp=>?_);obtain ⟨rfl,hp2⟩:=hp;exact ⟨rfl,hp2⟩
   ·refine wpIn_seq (wpIn_mono (hex n none false loc fg nt base x g F H a w _ _ _ (fun _=>rfl) h1 hr hL hb hdf) fun e a1 w1 hp=>?_);obtain ⟨hp1,g1,hn1,hr1,hd1⟩:=hp
    cases e<;>simp only [nY] at hp1
    exact wpIn_mono (ihx loc fg nt base y g1 F1 H1 a1 w1 _ _ hpan.2.2 h hr1 (hL.nx hn1) (jT hb hn1.size) hd1) fun e a' w' hp=>hp.trans hn1
  | cond x y z _ _=>
   intro g F H a w k H' hpan h hr hL hb hdf;simp only [iT,bO] at hpan;simp only [yaG] at h;split at h
   ·rename_i x' hx;simp only [eC] at h;rcases h with ⟨hbv,h⟩ | ⟨hbv,h⟩
    ·have:=cS hr hx hbv;simp only [VR] at this;exact wpIn_cond_true this (ihx loc fg nt base y g F H a w _ _ hpan.1 h hr hL hb hdf)
    ·have:=cS hr hx hbv;simp only [VR] at this;exact wpIn_cond_false this (ihx loc fg nt base z g F H a w _ _ hpan.2 h hr hL hb hdf)
   ·simp [eC] at h
  | block id x _ =>intro g F H a w k H' hpan h hr hL hb hdf;simp only [yaG,eC] at h;refine wpIn_block (wpIn_mono (ihx loc fg nt base x g F H a w _ _ hpan h hr hL hb hdf) fun e a1 w1 hp=>?_);obtain ⟨rfl,hp2⟩:=hp;exact ⟨rfl,hp2⟩
  | loop x _=>
   intro g F H a w k H' hpan h hr hL hb hdf b ks cs hbr _ hroom;obtain ⟨e,a',w',hq,harr⟩:∃ e a' w',yxl E nt base g H w T k H' e a' w'∧ArrivesIn (Machine.fenced P (Fc none)) P (lone (b.atR a (.code x::.inLoop x::ks)) cs w) b ks cs e a' w':=by
    simp only [yaG] at h;split at h
    ·exact hloop loc fg nt base x g F H a w k H' hpan h hr hL hb hdf b ks cs hbr
    ·simp [eC] at h
   exact ⟨e,a',w',hq,.of_steps (.one (fenced_calm trivial hroom rfl) stepR_loop) harr⟩
  | rangeFunc gop psA assign body _ _=>
   intro g F H a w k H' _ h;simp only [yaG] at h;split at h
   ·split at h
    ·simp [eC] at h
    ·split at h
     ·simp [eC] at h
     ·simp [eC] at h
   ·simp [eC] at h
  | _ =>intro g F H a w k H' _ h;simp [yaG,eC] at h
end
end Go.Pf
namespace Go.Pf
open Go
def qB (P:EP) (rl:List Nat) (c:AC) (F:aD) (H:Hp) (K:Int→Hp→Prop):Prop:=
 ∃ k H',K k H'∧∃ m0,∀ n e m,m0≤n→P n e→m0≤m→eC e rl m c F H k H'
def qC (P:EP) (rl:List Nat) (f:Nat) (vs:List PV) (H:Hp) (K:Int→Hp→Prop):Prop:=
 ∃ k H',K k H'∧∃ m0,∀ n e m,m0≤n→P n e→m0≤m→RzF e rl m f vs H k H'
theorem qB.up {P:EP} {rl:List Nat} {c:AC} {F:aD} {H:Hp} {K:Int→Hp→Prop} {k:Int} {H':Hp} {m0:Nat} (hk:K k H') (h:∀ n e m,m0≤n→P n e→m0≤m→eC e rl (m+1) c F H k H'):qB P rl c F H K:=
 ⟨k,H',hk,m0+1,fun n e m h1 h2 h3=>by
  obtain ⟨m',rfl⟩:∃ m',m=m'+1:=⟨m-1,by omega⟩;exact h n e m' (by omega) h2 (by omega)⟩
inductive Pth where
 | l (p:Pth)
 | r (p:Pth)
 | op (j:Nat)
 | pat
abbrev GZ:=Nat→List PV→Hp→(Int→Hp→Prop)→Prop
def qD (E:Env) (callK:CK) (an:List An) (F0:aD) (l0:List AO) (pairs:List (Nat×Nat)):List AO→Nat→aD→Hp→List FP→(aD→Hp→List FP→Prop)→Prop
 | [],_,F,H,ps,K=>aA (yid ps.reverse pairs&&wS F0 l0 l0) (K F H ps.reverse)
 | o::r,i,F,H,ps,K=>
  GI F o.guard
   (fun F=>jO E callK (xA an i) F H o.op fun x bx H'=>match ygU (jA F bx) o.dst x with
    | none=>False
    | some F'=>xG F' H' fun F' H'=>qD E callK an F0 l0 pairs r (i+1) F' H' (yxh E F H o::ps) K)
   (fun F=>qD E callK an F0 l0 pairs r (i+1) (xC F o.dst) H (fpNo o::ps) K)
def Ks (E:Env) (f:Opd) (az:List Opd) (rzK:GZ) (F:aD) (H:Hp) (K:Int→Hp→Prop):Prop:=
 match evV E F f,evs E F az with
 | some (.fn (.func n) [] []),some vs=>rzK n vs H K
 | _,_=>False
def WZ (E:Env) (callK:CK) (lp:LP) (rzK:GZ):Pth→TC→aD→Hp→(Int→Hp→Prop)→Prop
 | .l p,.seq a _,F,H,K=>WZ E callK lp rzK p a F H K
 | .r p,.seq a b,F,H,K=>WC E callK lp [] gS a F H fun x F' H'=>match x with | .norm=>WZ E callK lp rzK p b F' H' K | _=>False
 | .l p,.cond c a _,F,H,K=>(match evV E F c with | some (.bool t)=>aA t (WZ E callK lp rzK p a (pU F c true) H K) | _=>False)
 | .r p,.cond c _ b,F,H,K=>(match evV E F c with | some (.bool t)=>aA (!t) (WZ E callK lp rzK p b (pU F c false) H K) | _=>False)
 | .l p,.block _ b,F,H,K=>WZ E callK lp rzK p b F H K
 | .l p,.loop _ b,F,H,K=>WZ E callK lp rzK p b F H K
 | .r p,.loop id b,F,H,K=>WC E callK lp [] gS b F H fun x F' H'=>match x with | .norm=>WZ E callK lp rzK p (.loop id b) F' H' K | _=>False
 | .pat,.ops l _ [] _,F,H,K=>(match yBR E F l with | some k=>K k H | none=>False)
 | .op j,.ops l an [] _,F,H,K=>(match l[j]? with
  | some ⟨_,.call f az,none⟩=>mS E callK an (l.take j) 0 F H fun F' H'=>Ks E f az rzK F' H' K
  | _=>False)
 | .op j,.ops l an (p::ps) _,F,H,K=>(match l[j]? with
  | some ⟨_,.call f az,none⟩=>qD E callK an (nF F (gG (p::ps) j 0 l)) (gG (p::ps) j 0 l) (p::ps) (gG (p::ps) j 0 l) 0 (nF F (gG (p::ps) j 0 l)) H [] fun F' H' qs=>
   aA (lP (p::ps) j 0 qs&&lQ (p::ps) j (f.slots++qZ az) 0 qs) (Ks E f az rzK F' H' K)
  | _=>False)
 | _,_,_,_,_=>False
def yId:List (Nat×TFn×Pth)→Nat→Option (TFn×Pth)
 | [],_=>none
 | (k,x)::r,n=>bif Nat.beq k n then some x else yId r n
def rzT (E:Env) (callK:CK) (lp:LP) (rl:List Nat) (T:List (Nat×TFn×Pth)):Nat→GZ
 | 0,_,_,_,_=>False
 | d+1,n,vs,H,K=>match yId T n with
  | some (t,p)=>aA (memN rl n&&Nat.beq vs.length t.nparams) (WZ E callK lp (rzT E callK lp rl T d) p t.body (iX 0 vs) H K)
  | none=>False
theorem ZO:∀ {T:List (Nat×TFn×Pth)} {n:Nat} {x:TFn×Pth},yId T n=some x→(n,x)∈T
 | [],_,_,h=>by cases h
 | (k,y)::r,n,x,h=>by
  simp only [yId] at h
  cases hb:Nat.beq k n with
  | true=>
   rw [hb] at h;obtain rfl:=dK hb
   cases h
   exact kC
  | false =>rw [hb] at h;exact gO _ (ZO h)
section
variable {E:Env} {callK:CK} {lp:LP} {rl:List Nat}
theorem OY {P:EP} (hP:aK P E) (hG:Good P callK) {an:List An} {F0:aD} {l0:List AO} {pairs:List (Nat×Nat)}:∀ (l:List AO) (i:Nat) (F:aD) (H:Hp) (ps:List FP) (K:aD→Hp→List FP→Prop),qD E callK an F0 l0 pairs l i F H ps K →
  ∃ F' H' qs,K F' H' (ps.reverse++qs)∧yid (ps.reverse++qs) pairs=true∧wS F0 l0 l0=true∧∃ m0,∀ n e m,m0≤n→P n e→m0≤m→∃ qt,ysS qs qt∧yjL e (ybu e m) l F H=some (F',H',qt)
 | [],i,F,H,ps,K,h=>by simp only [qD] at h;obtain ⟨h1,h⟩:=bJ.1 h;simp only [bO] at h1;exact ⟨F,H,[],by simpa using h,by simpa using h1.1,h1.2,0,fun _ _ _ _ _ _=>⟨[],trivial,rfl⟩⟩
 | o::r,i,F,H,ps,K,h=>by
  simp only [qD] at h;have hfp:∀ n e,P n e→∀ F H,ydd e F H o=ydd E F H o:=by
   intro n e hp F H;have hl:=hP n e hp;unfold cN at hl;rw [hl];simp only [ydd,Zi]
  rcases yv5 h with ⟨hg,h⟩|⟨hg,h⟩
  ·obtain ⟨out,h,m0,hm⟩:=OC hP hG h;split at h
   ·exact h.elim
   ·rename_i F' hF';rw [Bs] at h;obtain ⟨F2,H2,qs,hk,ha,hb,m1,hm1⟩:=OY hP hG r (i+1) F' out.h (yxh E F H o::ps) K h;refine ⟨F2,H2,yxh E F H o::qs,by simpa using hk,by simpa using ha,hb,max m0 m1,fun n e m hn hp hle=>?_⟩;obtain ⟨qt,ht,hq⟩:=hm1 n e m (by omega) hp (by omega);have ho:=hm n e m (by omega) hp (by omega);have e0:ygM e (ybu e m) o (F,H)=some (F',out.h):=by
     simp only [ygM,hg,ho,hF',Option.map]
    refine ⟨(ydd E F H o).tight H out.h::qt,⟨?_,ht⟩,?_⟩
    ·simp only [ydd,hg,yxh];exact Zq (hP n e hp) ho _ _ [] []
    ·simp only [yjL,e0,hq,hfp n e hp]
  ·obtain ⟨F2,H2,qs,hk,ha,hb,m1,hm1⟩:=OY hP hG r (i+1) (xC F o.dst) H (fpNo o::ps) K h;refine ⟨F2,H2,fpNo o::qs,by simpa using hk,by simpa using ha,hb,m1,fun n e m hn hp hle=>?_⟩;obtain ⟨qt,ht,hq⟩:=hm1 n e m hn hp hle;have e0:ygM e (ybu e m) o (F,H)=some (xC F o.dst,H):=by
    simp only [ygM,hg]
    cases o.dst<;>rfl
   have e2:ydd E F H o=fpNo o:=by simp only [ydd,hg,fpNo]
   refine ⟨(fpNo o).tight H H::qt,⟨Cov.tight _ _ _,ht⟩,?_⟩;simp only [yjL,e0,hq,hfp n e hp,e2]
theorem OZ {pairs:List (Nat×Nat)} {j:Nat}:∀ {qs qt:List FP} {i:Nat},ysS qs qt→lP pairs j i qs=true→lP pairs j i qt=true
 | [],[],_,_,_=>rfl
 | p::r,q::s,i,h,hn=>by
  simp only [lP,bO,nR,yX,jR] at hn ⊢;obtain ⟨hc | ⟨h1,h2,h3⟩,h4⟩:=hn
  ·exact ⟨.inl hc,OZ h.2 h4⟩
  rcases h.1.h with k|⟨_,k2,k3,k4⟩
  ·rw [h3] at k;cases k
  ·refine ⟨.inr ⟨?_,?_,k4⟩,OZ h.2 h4⟩
   ·cases hq:q.hw with
    | nil=>rfl
    | cons x y=>have:=k2 x (by rw [hq];exact kC ..);rw [h1] at this;cases this
   ·cases hq:q.push with
    | false=>rfl
    | true=>have:=k3 hq;rw [h2] at this;cases this
theorem ZP {pairs:List (Nat×Nat)} {j:Nat} {S:List Nat}:∀ {qs qt:List FP} {i:Nat},ysS qs qt→lQ pairs j S i qs=true→lQ pairs j S i qt=true
 | [],[],_,_,_=>rfl
 | p::r,q::s,i,h,hn=>by simp only [lQ,bO] at hn ⊢;exact ⟨by rw [h.1.wr];exact hn.1,ZP h.2 hn.2⟩
theorem ZQ {P:EP} (hP:aK P E) {rzK:GZ} (hz:∀ n vs H K,rzK n vs H K→qC P rl n vs H K) {f:Opd} {az:List Opd} {F:aD} {H:Hp} {K:Int→Hp→Prop} (h:Ks E f az rzK F H K) :
  ∃ n vs k H',K k H'∧∃ m0,∀ i e m,m0≤i→P i e→m0≤m→evV e F f=some (.fn (.func n) [] [])∧evs e F az=some vs∧RzF e rl m n vs H k H':=by
 unfold Ks at h;split at h
 ·rename_i n vs h1 h2;obtain ⟨k,H',hk,m0,hm⟩:=hz _ _ _ _ h;refine ⟨n,vs,k,H',hk,m0,fun i e m a b c=>⟨?_,?_,hm i e m a b c⟩⟩
  ·have hl:=hP i e b;unfold cN at hl;rw [hl,rM];exact h1
  ·have hl:=hP i e b;unfold cN at hl;rw [hl,Bu];exact h2
 ·exact h.elim
theorem Pa {P:EP} (hP:aK P E) {c:Opd} {F:aD} {v:PV} (h:evV E F c=some v) {n:Nat} {e:Env} (hp:P n e):evV e F c=some v:=by have hl:=hP n e hp;unfold cN at hl;rw [hl,rM];exact h
theorem Ae {P:EP} (hP:aK P E) (hG:Good P callK) {rzK:GZ} (hz:∀ n vs H K,rzK n vs H K→qC P rl n vs H K):∀ (p:Pth) (c:TC) (F:aD) (H:Hp) (K:Int→Hp→Prop),aY P E callK c→LpOk P E lp [] c→WZ E callK lp rzK p c F H K→qB P rl (bP c) F H K
 | .l p,.seq a b,F,H,K,hR,hl,h=>by
  simp only [WZ] at h;simp only [LpOk] at hl;have hRa:aY P E callK a:=fun hf=>hR (by simp only [dE,hf,mJ])
  obtain ⟨k,H',hk,m0,hm⟩:=Ae hP hG hz p a F H K hRa hl.1 h;exact qB.up (m0:=m0) hk fun n e m h1 h2 h3=>by simp only [bP,eC];exact .inl (hm n e m h1 h2 h3)
 | .r p,.seq a b,F,H,K,hR,hl,h=>by
  simp only [WZ] at h;simp only [LpOk] at hl;have hRa:aY P E callK a:=fun hf=>hR (by simp only [dE,hf,mJ])
  have hRb:aY P E callK b:=fun hf=>hR (by simp only [dE,hf,Bool.and_false])
  obtain ⟨x,F',H',hk,m0,hm⟩:=oW a P hP hG hRa [] gS (cH.no _ _) hl.1 F H _ h
  cases x with
  | norm =>obtain ⟨k,H2,hk2,m1,hm1⟩:=Ae hP hG hz p b F' H' K hRb hl.2 hk;exact qB.up (m0:=max m0 m1) hk2 fun n e m h1 h2 h3=>by simp only [bP,eC];exact .inr ⟨F',H',hm n e m (by omega) h2 (by omega),hm1 n e m (by omega) h2 (by omega)⟩
  | exit i=>exact hk.elim
  | ret=>exact hk.elim
  | brk _ _=>exact hk.elim
 | .l p,.cond c a b,F,H,K,hR,hl,h=>by
  simp only [WZ] at h;simp only [LpOk] at hl;have hRa:aY P E callK a:=fun hf=>hR (by simp only [dE,hf,mJ])
  split at h
  ·rename_i t ht;obtain ⟨h1,h⟩:=bJ.1 h;subst h1;obtain ⟨k,H',hk,m0,hm⟩:=Ae hP hG hz p a F H K hRa hl.1 (Kh ht ▸ h);exact qB.up (m0:=m0) hk fun n e m h1 h2 h3=>by simp only [bP,eC];exact .inl ⟨Pa hP ht h2,hm n e m h1 h2 h3⟩
  ·exact h.elim
 | .r p,.cond c a b,F,H,K,hR,hl,h=>by
  simp only [WZ] at h;simp only [LpOk] at hl;have hRb:aY P E callK b:=fun hf=>hR (by simp only [dE,hf,Bool.and_false])
  split at h
  ·rename_i t ht;obtain ⟨h1,h⟩:=bJ.1 h;have h1:t=false:=by simpa using h1
   subst h1;obtain ⟨k,H',hk,m0,hm⟩:=Ae hP hG hz p b F H K hRb hl.2 (Kh ht ▸ h);exact qB.up (m0:=m0) hk fun n e m h1 h2 h3=>by simp only [bP,eC];exact .inr ⟨Pa hP ht h2,hm n e m h1 h2 h3⟩
  ·exact h.elim
 | .l p,.block id b,F,H,K,hR,hl,h=>by
  simp only [WZ] at h;simp only [LpOk] at hl;have hRb:aY P E callK b:=fun hf=>hR (by simp only [dE,hf])
  obtain ⟨k,H',hk,m0,hm⟩:=Ae hP hG hz p b F H K hRb hl h;exact qB.up (m0:=m0) hk fun n e m h1 h2 h3=>by simp only [bP,eC];exact hm n e m h1 h2 h3
 | .l p,.loop id b,F,H,K,hR,hl,h=>by
  simp only [WZ] at h;simp only [LpOk] at hl;have hRb:aY P E callK b:=fun hf=>hR (by simp only [dE,hf])
  obtain ⟨k,H',hk,m0,hm⟩:=Ae hP hG hz p b F H K hRb hl.1 h;exact qB.up (m0:=m0) hk fun n e m h1 h2 h3=>by simp only [bP,eC];exact .inl (hm n e m h1 h2 h3)
 | .r p,.loop id b,F,H,K,hR,hl,h=>by
  simp only [WZ] at h;have hl':=hl;simp only [LpOk] at hl;have hRb:aY P E callK b:=fun hf=>hR (by simp only [dE,hf])
  obtain ⟨x,F',H',hk,m0,hm⟩:=oW b P hP hG hRb [] gS (cH.no _ _) hl.1 F H _ h
  cases x with
  | norm =>obtain ⟨k,H2,hk2,m1,hm1⟩:=Ae hP hG hz p (.loop id b) F' H' K hR hl' hk;simp only [bP] at hm1;exact qB.up (m0:=max m0 m1) hk2 fun n e m h1 h2 h3=>by simp only [bP,eC];exact .inr ⟨F',H',hm n e m (by omega) h2 (by omega),hm1 n e m (by omega) h2 (by omega)⟩
  | exit i=>exact hk.elim
  | ret=>exact hk.elim
  | brk _ _=>exact hk.elim
 | .pat,.ops l an [] fg,F,H,K,hR,hl,h=>by
  simp only [WZ] at h;split at h
  ·rename_i k hk;refine qB.up (m0:=0) h fun n e m h1 h2 h3=>?_
   simp only [bP,eC];refine .inl ⟨?_,trivial⟩;obtain ⟨d1,x,d2,rfl,hx⟩:=ZH hk;simp only [yBR,Pa hP hx h2]
  ·exact h.elim
 | .op j,.ops l an [] fg,F,H,K,hR,hl,h=>by
  simp only [WZ] at h;split at h
  ·rename_i d f az hlj;obtain ⟨F1,H1,hk,m0,hm⟩:=Ea hP hG (l.take j) 0 F H _ h;obtain ⟨n,vs,k,H',hk,m1,hm1⟩:=ZQ hP hz hk;refine qB.up (m0:=max m0 m1) hk fun i e m h1 h2 h3=>?_
   obtain ⟨a1,a2,a3⟩:=hm1 i e m (by omega) h2 (by omega);simp only [bP,eC];exact .inr ⟨j,d,f,az,n,vs,F1,H1,hlj,hm i e m (by omega) h2 (by omega),a1,a2,a3⟩
  ·exact h.elim
 | .op j,.ops l an (q::qs) fg,F,H,K,hR,hl,h=>by
  simp only [WZ] at h;split at h
  ·rename_i d f az hlj;obtain ⟨F1,H1,ps,hk,ha,hb,m0,hm⟩:=OY hP hG _ 0 _ H [] _ h;rw [List.reverse_nil,pH] at hk ha;obtain ⟨hc,hk⟩:=bJ.1 hk;simp only [bO] at hc;obtain ⟨n,vs,k,H',hk,m1,hm1⟩:=ZQ hP hz hk;refine qB.up (m0:=max m0 m1) hk fun i e m h1 h2 h3=>?_
   obtain ⟨a1,a2,a3⟩:=hm1 i e m (by omega) h2 (by omega);obtain ⟨qt,ht,hq⟩:=hm i e m (by omega) h2 (by omega);simp only [bP,eC];exact ⟨j,d,f,az,n,vs,F1,H1,qt,hlj,hq,OG ht _ ha,hb,OZ ht hc.1,ZP ht hc.2,a1,a2,a3⟩
  ·exact h.elim
theorem ZR {P:EP} (hP:aK P E) (hG:Good P callK) {T:List (Nat×TFn×Pth)} (hT:∀ x∈T,(∀ n e,P n e→e.fns x.1=some x.2.1.fn)∧aY P E callK x.2.1.body∧LpOk P E lp [] x.2.1.body):∀ (d:Nat),
  ∀ n vs H K,rzT E callK lp rl T d n vs H K→qC P rl n vs H K
 | 0,n,vs,H,K,h=>by simp only [rzT] at h
 | d+1,n,vs,H,K,h=>by
  simp only [rzT] at h;split at h
  ·rename_i t p hx;obtain ⟨hc,h⟩:=bJ.1 h;simp only [bO] at hc;obtain ⟨h1,h2,h3⟩:=hT _ (ZO hx);obtain ⟨k,H',hk,m0,hm⟩:=Ae hP hG (ZR hP hG hT d) p t.body (iX 0 vs) H K h2 h3 h;refine ⟨k,H',hk,m0+1,fun i e q a b c=>?_⟩;obtain ⟨q',rfl⟩:∃ q',q=q'+1:=⟨q-1,by omega⟩;simp only [RzF];exact ⟨hc.1,t.fn,h1 i e b,dK hc.2,hm i e q' (by omega) b (by omega)⟩
  ·exact h.elim
end
end Go.Pf
namespace Go.Pf
open Go Go.RowKit
section
variable {P:Program} {E:Env} {T:TypeId} {rl:List Nat} {H:Hp}
theorem uj (hE:EO P E) (hm:P.follows .mixedOrders=true) (hdn:∀ n,E.dn n=false) (hrl:lL P E T rl) (hT:∀ (v:Value) (w:World),(Instr.makeInterface T v).run P w=.ok (.iface T v) w)
  {f c n i0 i1:Nat} {fu:Func} {fn:AFn} {loc:List Nat} {fg:Nat→List Nat} {od:Oper} {ops:Array Oper} {cl:Call} {eT:TypeId}
  (hfu:P.funcs[f]?=some fu) (hfn:E.fns f=some fn) (hcomp:mM P loc fg fu=some fn) (hb:fu.body=some (.seq (.region i0 #[od] false) (.region i1 ops false))) (hres:fu.results=#[])
  (ho:OpIs od none (.defer cl)) (hcl:cl.callee=.value (.func c)) (hca:cl.args=#[.tmp 0])
  (hi:((P.info? eT).map fun i=>i.size)=some 1)
  (hcg:∀ (ad:Addr) (k:Int) (w w2:World),(Instr.storeAt eT (.pointer (some ad)) (.int .i64 k)).run P w=.ok () w2 →
   (callFunc c #[.pointer (some ad)]).run P w=.ok (.enter c #[.pointer (some ad)]) w ∧
   CallsDIn (Fc none) 0 P c #[.pointer (some ad)] (.panicking (vQ T k)) w fun e u w'=>u=.panicking [{ v:=.iface T (.int .i64 k),recovered:=true }]∧w'=w2∧∃ v,e=.returned v)
  {id ext i off:Nat} {r0:List PV} {cn:Nat} {fg0 fg1:List Nat} {l:List AO} {k:Int} {H1:Hp} {out:Out} (hbody:fn.body=.seq (.ops [⟨none,.dfr cn,none⟩] [] fg0) (.ops l [] fg1)) (hlen:(PV.ptr id ext i off::r0).length=fn.nparams)
  (hrz:OW E (ybu E n) (RzF E rl n) l (fdels (iX 0 (.ptr id ext i off::r0)) fg0) H k H1) (hout:yas E (fun _ _ _=>none) [(0,.v (.ptr id ext i off)),(1,.v (.int .i64 k))] H1 (.store 1 (.t 0) (.t 1))=some out)
  (nt:Nat) (g:Gh) (F:aD) (tmps:Array Value) (w:World) (vs:List Value) (hr:Rel E nt g F H tmps w) (hL:Lps P E g H w) (hv:bH g H w (.ptr id ext i off::r0) vs) :
  kM P f vs.toArray w fun v w'=>∃ g',Nx g g' H (oO [] H.length out.h) w w'∧Rel E nt g' F (oO [] H.length out.h) tmps w'∧VR g' (oO [] H.length out.h) w' (.tup []) v:=by
 obtain ⟨inf,hi,hsz⟩:=mI.1 hi;unfold mM at hcomp;rw [hb] at hcomp;split at hcomp
 case h_2=>cases hcomp
 rename_i c' rs hc' hrs
 cases hc'
 split at hcomp
 ·cases hcomp
 rename_i hname
 cases hcomp
 simp only [] at hbody hlen;have hcc:yaG P loc fg fu.ntmps false (.seq (.region i0 #[od] false) (.region i1 ops false))=.seq (oS P loc fg fu.ntmps false i0 #[od] false) (oS P loc fg fu.ntmps false i1 ops false):=by
  rw [yaG]
  ·simp only [yaG]
  ·intro id ops e hx hy;cases hy
 rw [hcc] at hbody;simp only [AC.seq.injEq] at hbody;obtain ⟨hb0,hb1⟩:=hbody;unfold oS at hb1;simp only [mJ,gE,if_false] at hb1;split at hb1
 case h_2=>cases hb1
 rename_i l' hl;split at hb1
 case isFalse=>cases hb1
 rename_i hds
 cases hb1
 have hbase:=hr.enter hv fu.ntmps;have hcf:(callFunc f vs.toArray).run P w=.ok (.enter f vs.toArray) w:=by
  have hname' : ¬ fu.name = "runtime.NumGoroutine" := by simpa using hname
  simp [callFunc,hfu,hname',hb]
 have hf0:=hbase.frame 0 (.v (.ptr id ext i off)) (by simp [iX,fget]);simp only [bR] at hf0;generalize hv0:(vs.toArray++Array.replicate (fu.ntmps-vs.toArray.size) undef).getD 0 undef=v0 at hf0;unfold kM;rw [hcf];simp only [];refine DF.1 (callsIn_of_wp_marks (F:=Fc none) (n:=0) hfu hb trivial (wpIn_seq (wpIn_region ?_)));show wpOpsIn (Fc none) 0 P #[od] _ [0] _ _;rw [wpOpsIn];simp only [show (#[od]:Array Oper)[0]?=some od from rfl];rw [WM (by simp [Region.wanted,ho.guard])];refine ⟨fun _ _=>trivial,?_⟩;have hrun:∀ (a:Act),(od.semAt none a.eval).run P w=.ok (.defer { target:=.fn (.func c) #[],args:=#[a.eval (.tmp 0)] }) w:=fun a=>by
  have e1:a.eval (.func c)=.func (.func c) #[] #[]:=rfl;simp [Oper.semAt,execOp,ho.op,resolve,hcl,hca,e1,Deferred.ofValue]
 show Oper.uponIn _ _ _ _ _ _ _ ((od.semAt none _).run P w);rw [hrun];simp only [Oper.uponIn,ho.dst];rw [wpOpsIn];simp only [Exit.then];refine wpIn_region ?_;have hev:({ tmps:=vs.toArray++Array.replicate (fu.ntmps-vs.toArray.size) undef,defers:=[] }:Act).eval (.tmp 0)=v0:=hv0;rw [hev];obtain ⟨j,d,f0,az,n0,vs0,F1,H0,h1,h2,h3,h4,h5⟩:=hrz;have hlen2:=(sZ _ _ hl).1;have hjl:j<l.length:=(nA.1 h1).1;have hsz2:ops.size=l.length:=by simpa using hlen2.symm
 have hsplit:List.range ops.size=List.range j++j::(List.range' (j+1) (ops.size-(j+1))):=by have e:=List.range'_append_1 (s:=0) (m:=j) (n:=ops.size-j);rw [show j+(ops.size-j)=ops.size by omega,iK] at e;rw [CZ,← e,CZ,show ops.size-j=(ops.size-(j+1))+1 by omega,List.range'_succ]
 rw [hsplit];refine DL (ro:=none) hE (DR hE hm n) hl hds (fun _=>rfl) (ρ:=j::List.range' (j+1) (ops.size-(j+1))) (List.range j) { g with β:=fun _=>none } (fdels (iX 0 (.ptr id ext i off::r0)) fg0) H _ w (fun i hi=>by have:=qY.1 hi;omega) (hbase.less fun s x hs=>Ge _ _ _ _ hs) hL.enter (F':=F1) (H':=H0) ?_ fun a1 w1 g1 hgo1 m1 q1=>?_
 ·have:(List.range j).filterMap (l[·]?)=l.take j:=by
   have e:=Bg (l.take j);rw [kW,Dh (by omega)] at e;rw [← e];refine Kr fun i hi=>?_
   have:=qY.1 hi;rw [List.getElem?_take_of_lt this]
  rw [this];exact h2
 refine OX (ui hE hm hdn hrl hT n).2.2 hl (by omega) h1 q1 (hL.enter.nx m1) h3 h4 h5 fun w' g' hk m2 q2=>?_
 have hgo:=hgo1;have n1:=m1.trans m2;have r1:=q2.bare q2.size;have hdf:a1.defers=[{ target:=.fn (.func c) #[],args:=#[v0] }]:=by
  obtain ⟨ds,e1,e2⟩:=hgo
  cases ds with
  | nil=>exact e1
  | cons d ds=>
   obtain ⟨m,az,_,e3⟩:=e2 d kC;rw [hdn m] at e3
   cases e3
 have hv1:=mL n1.on _ _ hf0;have hptr:=hv1;simp only [VR,PtrR] at hptr;obtain ⟨hbk,ad,_,_,hvp,_⟩:=hptr;subst hvp;have R2:Rel E 2 g' [(0,.v (.ptr id ext i off)),(1,.v (.int .i64 k))] H1 (#[.pointer (some ad),.int .i64 k]:Array Value) w':=
  { r1 with
   size:=by simp
   frame:=fun s fv hs=>by
    simp only [fget] at hs;split at hs
    ·rename_i e;subst e;cases hs;simpa [bR,Array.getD] using hv1
    ·split at hs
     ·rename_i e;subst e;cases hs;simp [bR,Array.getD,VR,hk]
     ·cases hs }
 let os:Oper:={ (default:Oper) with op:=.store eT (.tmp 0) (.tmp 1),dst:=none };have hst:=XA (P:=P) (o:=os) (a:=⟨#[.pointer (some ad),.int .i64 k],[]⟩) R2 (t:=eT) (x:=.tmp 0) (y:=.tmp 1) rfl hi rfl rfl (by rw [hsz];exact hout);obtain ⟨v2,w2,g2,hrun2,n2,r2,_⟩:=hst;have hstore:=uc (o:=os) rfl hrun2;obtain ⟨hc1,hc2⟩:=hcg ad k w' w2 hstore;show LeavesInM (Fc none) 0 P fu a1.tmps _ a1.defers (.panicking (vQ T k)) w';rw [hdf];simp only [LeavesInM];refine ⟨by simp,.inr ⟨fun h=>by simp [Fence.wide] at h,.func c,#[],c,#[.pointer (some ad)],rfl,?_,fun _ _=>trivial,CallsDIn.mono' hc2 fun e u w'' he=>?_⟩⟩
 ·have:(invoke (Target.fn (.func c) #[]) #[.pointer (some ad)]).run P w'=(callFunc c #[.pointer (some ad)]).run P w':=by simp [invoke]
  exact this.trans hc1
 ·obtain ⟨rfl,rfl,v,rfl⟩:=he;simp only [settle,List.dropWhile,LeavesIn];refine ⟨.tuple #[],?_,?_⟩
  ·rw [Gq];simp [hres]
  ·obtain ⟨g4,n4,r4,_⟩:=Rel.gc (n1.trans n2) (r2.bare r2.size);obtain ⟨r3,n3⟩:=hr.back n4 r4;exact ⟨_,n3,r3,by simp [VR,bH]⟩
theorem yNz (hE:EO P E) (hm:P.follows .mixedOrders=true) (hdn:∀ n,E.dn n=false)
  {f c n i0 i1:Nat} {fu:Func} {fn:AFn} {loc:List Nat} {fg:Nat→List Nat} {od:Oper} {ops:Array Oper} {cl:Call}
  (hfu:P.funcs[f]?=some fu) (hfn:E.fns f=some fn) (hcomp:mM P loc fg fu=some fn) (hb:fu.body=some (.seq (.region i0 #[od] false) (.region i1 ops false))) (hres:fu.results=#[])
  (ho:OpIs od none (.defer cl)) (hcl:cl.callee=.value (.func c)) (hca:cl.args=#[.tmp 0])
  (hcg:YP P c)
  {id ext i off:Nat} {r0:List PV} {cn:Nat} {fg0 fg1:List Nat} {l:List AO} {F1:aD} {H1:Hp} (hbody:fn.body=.seq (.ops [⟨none,.dfr cn,none⟩] [] fg0) (.ops l [] fg1)) (hlen:(PV.ptr id ext i off::r0).length=fn.nparams)
  (hrz:ybo E (ybu E n) l (fdels (iX 0 (.ptr id ext i off::r0)) fg0) H=some (F1,H1))
  (nt:Nat) (g:Gh) (F:aD) (tmps:Array Value) (w:World) (vs:List Value) (hr:Rel E nt g F H tmps w) (hL:Lps P E g H w) (hv:bH g H w (.ptr id ext i off::r0) vs) :
  kM P f vs.toArray w fun v w'=>∃ g',Nx g g' H (oO [] H.length H1) w w'∧Rel E nt g' F (oO [] H.length H1) tmps w'∧VR g' (oO [] H.length H1) w' (.tup []) v:=by
 unfold mM at hcomp;rw [hb] at hcomp;split at hcomp
 case h_2=>cases hcomp
 rename_i c' rs hc' hrs
 cases hc'
 split at hcomp
 ·cases hcomp
 rename_i hname
 cases hcomp
 simp only [] at hbody hlen;have hcc:yaG P loc fg fu.ntmps false (.seq (.region i0 #[od] false) (.region i1 ops false))=.seq (oS P loc fg fu.ntmps false i0 #[od] false) (oS P loc fg fu.ntmps false i1 ops false):=by
  rw [yaG]
  ·simp only [yaG]
  ·intro id ops e hx hy;cases hy
 rw [hcc] at hbody;simp only [AC.seq.injEq] at hbody;obtain ⟨hb0,hb1⟩:=hbody;unfold oS at hb1;simp only [mJ,gE,if_false] at hb1;split at hb1
 case h_2=>cases hb1
 rename_i l' hl;split at hb1
 case isFalse=>cases hb1
 rename_i hds
 cases hb1
 have hbase:=hr.enter hv fu.ntmps;have hcf:(callFunc f vs.toArray).run P w=.ok (.enter f vs.toArray) w:=by
  have hname' : ¬ fu.name = "runtime.NumGoroutine" := by simpa using hname
  simp [callFunc,hfu,hname',hb]
 have hf0:=hbase.frame 0 (.v (.ptr id ext i off)) (by simp [iX,fget]);simp only [bR] at hf0;generalize hv0:(vs.toArray++Array.replicate (fu.ntmps-vs.toArray.size) undef).getD 0 undef=v0 at hf0;unfold kM;rw [hcf];simp only [];refine DF.1 (callsIn_of_wp_marks (F:=Fc none) (n:=0) hfu hb trivial (wpIn_seq (wpIn_region ?_)));show wpOpsIn (Fc none) 0 P #[od] _ [0] _ _;rw [wpOpsIn];simp only [show (#[od]:Array Oper)[0]?=some od from rfl];rw [WM (by simp [Region.wanted,ho.guard])];refine ⟨fun _ _=>trivial,?_⟩;have hrun:∀ (a:Act),(od.semAt none a.eval).run P w=.ok (.defer { target:=.fn (.func c) #[],args:=#[a.eval (.tmp 0)] }) w:=fun a=>by
  have e1:a.eval (.func c)=.func (.func c) #[] #[]:=rfl;simp [Oper.semAt,execOp,ho.op,resolve,hcl,hca,e1,Deferred.ofValue]
 show Oper.uponIn _ _ _ _ _ _ _ ((od.semAt none _).run P w);rw [hrun];simp only [Oper.uponIn,ho.dst];rw [wpOpsIn];simp only [Exit.then];refine wpIn_region ?_;have hev:({ tmps:=vs.toArray++Array.replicate (fu.ntmps-vs.toArray.size) undef,defers:=[] }:Act).eval (.tmp 0)=v0:=hv0;rw [hev];refine Gu (ro:=none) (F':=F1) (H':=H1) hE (DR hE hm n) hl hds (fun _=>rfl) _ { g with β:=fun _=>none } (fdels (iX 0 (.ptr id ext i off::r0)) fg0) H _ w (fun i hi=>by simpa using hi) (hbase.less fun s x hs=>Ge _ _ _ _ hs) hL.enter ?_ fun a1 w1 g1 hgo m1 q1=>?_
 ·have hlen2:=(sZ _ _ hl).1;have:ops.size=l.length:=by simpa using hlen2.symm
  rw [this,Bg];exact hrz
 have hdf:a1.defers=[{ target:=.fn (.func c) #[],args:=#[v0] }]:=by
  obtain ⟨ds,e1,e2⟩:=hgo
  cases ds with
  | nil=>exact e1
  | cons d ds=>
   obtain ⟨m,az,_,e3⟩:=e2 d kC;rw [hdn m] at e3
   cases e3
 show LeavesInM (Fc none) 0 P fu a1.tmps _ a1.defers .returning w1;rw [hdf];simp only [LeavesInM];have hcall:=hcg #[v0] w1;refine ⟨by simp,.inr ⟨fun h=>by simp [Fence.wide] at h,.func c,#[],c,#[v0],rfl,?_,fun _ _=>trivial,CallsDIn.mono' hcall.2 fun e u w'' he=>?_⟩⟩
 ·have:(invoke (Target.fn (.func c) #[]) #[v0]).run P w1=(callFunc c #[v0]).run P w1:=by simp [invoke]
  exact this.trans hcall.1
 ·obtain ⟨rfl,rfl,v,rfl⟩:=he;simp only [];refine ⟨.tuple #[],?_,?_⟩
  ·rw [Gq];simp [hres]
  ·obtain ⟨g4,n4,r4,_⟩:=Rel.gc m1 (q1.bare q1.size);obtain ⟨r3,n3⟩:=hr.back n4 r4;exact ⟨_,n3,r3,by simp [VR,bH]⟩
noncomputable def lR (f:Nat) (xs0:List PV) (H0 H1:Hp):dP:=fun n xs H=>by
 classical
 exact if n=f∧xs=xs0∧H=H0 then some (true,true,(.tup [],H1),(.nils,[])) else none
theorem uk (f:Nat) (xs0:List PV) (H0 H1:Hp):lR f xs0 H0 H1 f xs0 H0=some (true,true,(.tup [],H1),(.nils,[])):=by unfold lR;exact WM ⟨rfl,rfl,rfl⟩
theorem ul {f:Nat} {xs0:List PV} {H0 H1:Hp} (h:∀ (nt:Nat) (g:Gh) (F:aD) (tmps:Array Value) (w:World) (vs:List Value),Rel E nt g F H0 tmps w→Lps P E g H0 w→bH g H0 w xs0 vs →
  kM P f vs.toArray w fun v w'=>∃ g',Nx g g' H0 H1 w w'∧Rel E nt g' F H1 tmps w'∧VR g' H1 w' (.tup []) v) (hy:(gF yzJ (fun _=>true) H0&&ybg yzJ (fun _=>true) xs0)=true) (y:Nat) :
  yba P (E.ats y) (fun n xs H=>pJ (lR f xs0 H0 H1 n xs H)):=by
 have hc:yba P E (fun n xs H=>pJ (lR f xs0 H0 H1 n xs H)):=by
  intro n args H r H' hh nt g F tmps w vs hr hL hv;unfold lR at hh;dsimp only at hh
  by_cases e:n=f∧args=xs0∧H=H0
  ·rw [WM e] at hh;obtain ⟨rfl,rfl,rfl⟩:=e
   cases hh
   exact h nt g F tmps w vs hr hL hv
  ·rw [WN e] at hh;cases hh
 intro n args H r H' hh;refine ue hc y n args H r H' ?_;unfold OV;have hh':=hh;unfold lR at hh;dsimp only at hh
 by_cases e:n=f∧args=xs0∧H=H0
 ·obtain ⟨rfl,rfl,rfl⟩:=e;rw [hy];exact hh'
 ·rw [WN e] at hh;cases hh
def Pb (cK:CK) (f:Nat) (xs0:List PV) (H0 H1:Hp):CK:=fun g args H K=>
 match g with
 | .fn (.func m) first cap=>bif Nat.beq m f then (first++args++cap=xs0∧H=H0)∧K (.tup []) H1 else cK g args H K
 | _=>False
end
theorem Ans.one {E:Env} {n:Nat} {az:List PV} {r r':PV} (h:Ans E n az r) (h':Ans E n az r'):r=r':=by obtain ⟨m,hm⟩:=h;obtain ⟨m',hm'⟩:=h';have a:=hm (max m m') E (max m m') (by omega) (cN.refl E) (by omega);have b:=hm' (max m m') E (max m m') (by omega) (cN.refl E) (by omega);rw [a] at b;exact qDk b
noncomputable def Af (E:Env) (ex:List Nat):Nat→List PV→Option PV:=fun n az=>by
 classical
 exact match E.sum n az with
  | some r=>some r
  | none=>if h:memN ex n=false∧∃ r,Ans E n az r then some (Classical.choose h.2) else none
noncomputable def Env.star (E:Env) (ex:List Nat) (ef:List (Nat×dP)):Env:={ E with sum:=Af E ex,eff:=rP ef,lo:=fun _=>none,dn:=fun _=>false }
theorem um {E:Env} {ex:List Nat} {n:Nat} {az:List PV} {r:PV} (h:Ans E n az r) (hx:memN ex n=false):Af E ex n az=some r:=by
 unfold Af
 cases hs:E.sum n az with
 | some r' =>obtain ⟨m,hm⟩:=h;have:=hm m E m (bW _) (cN.refl E) (bW _);simp only [ycH,hs] at this;exact this
 | none =>have he:memN ex n=false∧∃ r,Ans E n az r:=⟨hx,r,h⟩;dsimp only;rw [dif_pos he];exact WO some (Ans.one (Classical.choose_spec he.2) h)
theorem Pc {E:Env} {ex:List Nat} {n:Nat} (hx:memN ex n=true) (hs:∀ az,E.sum n az=none) (az:List PV):Af E ex n az=none:=by unfold Af;rw [hs az];exact dif_neg fun h=>by rw [hx] at h;cases h.1
theorem uo {E:Env} {ex:List Nat} {ef:List (Nat×dP)} {n:Nat} {az:List PV} {r:PV} (h:Ans E n az r) (hx:memN ex n=false):cX (Uni (E.star ex ef)) n az r:=by refine ⟨0,fun k e m _ he _=>?_⟩;have hs:e.sum=Af E ex:=(tF he).2.1;simp only [ycH,hs,um h hx]
theorem ZS {P:Program} {E:Env} (hE:EO P E) (hm:P.follows .mixedOrders=true) {ex:List Nat} {ef:List (Nat×dP)} (hs:∀ e∈ef,∀ y,yba P (E.ats y) (fun n xs H=>pJ (e.2 n xs H))):EO P (E.star ex ef) where
 sum:=fun n az r h=>by
  have h:Af E ex n az=some r:=h;unfold Af at h
  cases hs:E.sum n az with
  | some r'=>
   rw [hs] at h
   cases h
   exact hE.sum n az _ hs
  | none=>
   rw [hs] at h;dsimp only at h;split at h
   ·rename_i hc
    cases h
    have ha:=Classical.choose_spec hc.2;have hq:E.qui n=true:=by
     obtain ⟨m,h1⟩:=ha;have h2:=h1 m E m (bW _) (cN.refl E) (bW _);simp only [ycH,hs] at h2;split at h2
     ·assumption
     ·cases h2
    exact OQ hE hm hs hq ha.solo
   ·cases h
 fns:=hE.fns
 eff:=EO.eff' (E:=E) (E':=E.star ex ef) rfl rfl rfl fun y _=>Ko fun e he=>hs e he y
 dn:=fun _ h=>by cases h
 top:=hE.top
 yl:=hE.yl' (E':=E.star ex ef) rfl rfl rfl rfl
theorem ur {E:Env} {ex:List Nat} {ef:List (Nat×dP)} (h:(ef.all fun e=>memN ex e.1&&(!E.qui e.1&&(!E.frz e.1&&!E.rb e.1)))=true) (hn:∀ n,memN ex n=true→∀ az,E.sum n az=none):Eb (E.star ex ef):=by intro n xs H x hx;obtain ⟨e,h1,rfl⟩:=ZE hx;have h2:=yW.1 h e h1;simp only [bO,jR] at h2;exact ⟨h2.2.1,h2.2.2.1,fun xs=>Pc h2.1 (hn _ h2.1) xs,h2.2.2.2⟩
theorem ut {E:Env} {cK:CK} (hG:Good (jY E) cK) {f:Nat} {xs0:List PV} {H0 H1:Hp} (he:E.eff f xs0 H0=some (true,true,(.tup [],H1),(.nils,[]))) (hl:E.lo f=none) (hs:∀ az,E.sum f az=none) (hq:E.qui f=false) (hf:E.frz f=false) (hr:E.rb f=false):Good (jY E) (Pb cK f xs0 H0 H1):=by
 intro g args H K h;unfold Pb at h;split at h
 ·rename_i m first cap
  cases hb:Nat.beq m f with
  | false =>rw [hb,cond_false] at h;exact hG _ _ _ _ h
  | true=>
   rw [hb,cond_true] at h;obtain rfl:=dK hb;obtain ⟨⟨h1,rfl⟩,h⟩:=h;refine ⟨_,_,h,1,fun k x m' _ h2 h3=>?_⟩;have h2':x=E:=h2;subst h2';have e0:∀ az,ycH x (ybu x m') m az=none:=by
    intro az;simp only [ycH];rw [hs,hq];rfl
   have hx:ype x (.fn (.func m) first cap) args=none:=by simp only [ype,hl]
   have hin:ybu x m' m xs0 H=some (.tup [],H1):=by obtain ⟨m2,rfl⟩:∃ j,m'=j+1:=⟨m'-1,by omega⟩;simp only [ybu,Env.effx,he,pJ,cond_true]
   rw [GO hx];simp only [pK,e0,hf,hr,hq]
   cases ybd H (first++args++cap)<;>simp only [gE,if_false,h1,hin]
 ·exact h.elim
theorem Sg.pw_le {s:Sg} {w1 w2:s.W} (h:∀ a K,s.p.app w1 a K→s.p.app w2 a K) {az:List PV} {K:PV→Prop} (hw:s.pw w1 az K):s.pw w2 az K:=by
 unfold Sg.pw at hw ⊢;split at hw
 ·rename_i t b e;obtain ⟨hb,hw⟩:=Eg.1 hw;exact Eg.2 ⟨hb,h _ _ hw⟩
 ·exact hw.elim
theorem Ej {E:Env} {ex:List Nat} {ef:List (Nat×dP)} {wp:List PV→(PV→Prop)→Prop} {n:Nat} (h:bL E wp n) (hx:memN ex n=false):∀ az K,wp az K→∃ r,K r∧cX (Uni (E.star ex ef)) n az r:=fun az K k=>by obtain ⟨r,a,b⟩:=h az K k;exact ⟨r,a,uo b hx⟩
theorem Pd {E:Env} {ex:List Nat} {ef:List (Nat×dP)} {s:Sg} {w1 w2:s.W} {n:Nat} (h:bL E (s.pw w2) n) (hx:memN ex n=false) (hl:∀ a K,s.p.app w1 a K→s.p.app w2 a K):∀ az K,s.pw w1 az K→∃ r,K r∧cX (Uni (E.star ex ef)) n az r:=fun az K k=>Ej h hx az K (Sg.pw_le hl k)
theorem qC.at {E:Env} {rl:List Nat} {f:Nat} {vs:List PV} {H:Hp} {k:Int} {H':Hp} (h:qC (Uni E) rl f vs H fun k' H2=>k'=k∧H2=H'):∃ m,RzF E rl m f vs H k H':=by obtain ⟨k',H2,⟨rfl,rfl⟩,m,hm⟩:=h;exact ⟨m,hm m E m (bW _) (cN.refl E) (bW _)⟩
end Go.Pf
namespace Go.Pf.Vc
open Go Go.Pf
def Kt:Nat:=20
def Ku:Nat:=10
def Ha:Nat:=4
def Kv:Nat:=11
def Ek:Nat:=5
def Kw:Nat:=59
def Kx:Nat:=60
def Ag:Nat:=41
def Bz:Nat:=21
def Hb:Nat:=12
def Ky:Nat:=14
def BA:Nat:=22
def El:Nat:=65
def Kz:Nat:=66
def Ah:Nat:=44
def Hc:Nat:=43
def BB:Nat:=24
def BC:Nat:=61
def Em:Nat:=62
def BD:Nat:=70
def KA:Nat:=69
def Ai:Nat:=46
def En:Nat:=63
def Hd:Nat:=64
def rQ:Nat:=42
def vR:Nat:=26
def BE:Nat:=100
def KB:Nat:=88
def KC:Nat:=75
def KD:Nat:=89
def KE:Nat:=77
def KF:Nat:=76
def He:Nat:=48
def BF:Nat:=99
def Eo:Nat:=98
def BG:Nat:=71
def BH:Nat:=72
def KG:Nat:=101
def KH:Nat:=87
def Hf:Nat:=74
def KI:Nat:=73
def BI:Nat:=47
def Aj:Nat:=27
def Hg:Nat:=104
def Hj:Nat:=103
def ZT:Nat:=102
def KJ:Nat:=90
def KK:Nat:=78
def Hk:Nat:=97
def Hl:Nat:=85
def Pe:Nat:=67
def Hm:Nat:=50
def vT:Nat:=30
def Ak:Nat:=23
def KL:Nat:=86
def KM:Nat:=68
def Hn:Nat:=45
def ZU:Nat:=25
def Ho:Nat:=28
def ZV:Nat:=49
def Hq:Nat:=29
def yaW:Nat:=15
def mU:Nat:=13
def rR:Nat:=6
def Ep:Nat:=51
def Hr:Nat:=31
def KN:Nat:=16
def tM:Nat:=32
def Er:Nat:=33
def BJ:Nat:=57
def Et:Nat:=81
def Eu:Nat:=93
def BK:Nat:=80
def Ev:Nat:=56
def Hs:Nat:=82
def Ew:Nat:=53
def Ey:Nat:=35
def KO:Nat:=91
def Ht:Nat:=58
def rS:Nat:=39
def Hu:Nat:=107
def Hv:Nat:=109
def KP:Nat:=111
def KQ:Nat:=84
def Hw:Nat:=94
def KR:Nat:=95
def KS:Nat:=96
def Ez:Nat:=83
def EA:Nat:=55
def Hx:Nat:=108
def KT:Nat:=105
def KU:Nat:=110
def KV:Nat:=106
def KW:Nat:=92
def Hy:Nat:=79
def KX:Nat:=52
def BL:Nat:=34
def KY:Nat:=54
def xL:Nat:=36
def BM:Nat:=37
def Al:Nat:=38
def KZ:Nat:=17
def Hz:Nat:=7
def HA:Nat:=8
def La:Nat:=40
def Lb:Nat:=18
def Lc:Nat:=19
def HC:Nat:=9
def EB:Nat:=3
def zF (d s:Nat) (o:AOp):AO:=⟨some d,o,some (s,false)⟩
def zT (d s:Nat) (o:AOp):AO:=⟨some d,o,some (s,true)⟩
def zS (n:Nat) (a x:Opd):AO:=⟨none,.store n a x,none⟩
def zR:Nat→Nat→List Nat
 | _,0=>[]
 | a,n+1=>a::zR (a+1) n
def zQ:TC→TC→TC:=.seq
def zC:Opd→TC→TC→TC:=.cond
def zB:Nat→TC→TC:=.block
abbrev zI:Sh:=.one (.i .i64)
abbrev zD:Sh:=.one .d
abbrev z2:Sh:=.agg [.i .i64,.i .i64]
abbrev z4:Sh:=.agg [.i .i64,.i .i64,.i .i64,.i .i64]
abbrev zK:Sh:=.agg [.i .i64,.d,.d]
abbrev zE:Sh:=.agg [.d,.d]
def uu (o:AO):Nat:=
 match o.dst with
 | some d=>d
 | none=>(match o.op with | .store _ (.t a) _=>a+100000 | _=>999999)
def anF:List (Sh×Nat×List Nat)→Nat→Option (Sh×Nat)
 | [],_=>none
 | (s,m,l)::r,k=>bif memN l k then some (s,m) else anF r k
def Pg (tb:List (Sh×Nat×List Nat)):Nat→List AO→List An
 | _,[]=>[]
 | i,o::r=>(match anF tb (uu o) with | some (s,m)=>⟨i,s,m⟩::Pg tb (i+1) r | none=>Pg tb (i+1) r)
def gU (tb:List (Sh×Nat×List Nat)) (lps:List (Nat×Nat)):Nat→AC→TC
 | _,.skip=>.skip
 | _,.ops l ps fg=>.ops l (Pg tb 0 l) ps fg
 | k,.seq a b=>.seq (gU tb lps k a) (gU tb lps k b)
 | k,.cond c a b=>.cond c (gU tb lps k a) (gU tb lps k b)
 | _,.block id b=>.block id (gU tb lps id b)
 | k,.loop b=>.loop ((lps.lookup k).getD 0) (gU tb lps k b)
 | k,.lG b=>.lG ((lps.lookup k).getD 0) (gU tb lps k b)
 | _,.exit id=>.exit id
 | _,.ret=>.ret
 | _,.bad=>.bad
 | _,.rangeF g ps az bd=>.cut (.rangeF g ps az bd)
 | _,.yret c pre d y args e fgt=>.cut (.yret c pre d y args e fgt)
theorem Am (tb:List (Sh×Nat×List Nat)) (lps:List (Nat×Nat)):∀ (c:AC) (k:Nat),bP (gU tb lps k c)=c
 | .skip,_=>rfl
 | .ops _ _ _,_=>rfl
 | .seq a b,k=>by simp only [gU,bP,Am tb lps a,Am tb lps b]
 | .cond _ a b,k=>by simp only [gU,bP,Am tb lps a,Am tb lps b]
 | .block _ b,k=>by simp only [gU,bP,Am tb lps b]
 | .loop b,k=>by simp only [gU,bP,Am tb lps b]
 | .lG b,k=>by simp only [gU,bP,Am tb lps b]
 | .exit _,_=>rfl
 | .ret,_=>rfl
 | .bad,_=>rfl
 | .rangeF ..,_=>rfl
 | .yret ..,_=>rfl
def Ph (tb:List (Sh×Nat×List Nat)) (lps:List (Nat×Nat)):Option AFn→TFn
 | some f=>⟨f.nparams,f.results,gU tb lps 999999 f.body⟩
 | none=>⟨0,[],.bad⟩
theorem uv {tb:List (Sh×Nat×List Nat)} {lps:List (Nat×Nat)} {o:Option AFn} (h:o.isSome=true):o=some (Ph tb lps o).fn:=by
 cases o with
 | none=>cases h
 | some f=>simp only [Ph,TFn.fn,Am]
def fZ (t:TFn) (id:Nat):TC:=
 match (kO t.body).lookup id with
 | some (.loop _ b)=>b
 | some (.lG _ b)=>b
 | _=>.skip
def rg:Nat→Nat→List Nat
 | a,0=>[a]
 | a,n+1=>a::rg (a+1) n
def xp:List Nat→List Nat
 | a::b::r=>bif Nat.blt 5000 b then rg a (b-5000)++xp r else a::xp (b::r)
 | l=>l
def tl (tb:List (Sh×Nat×List Nat)) (lps:List (Nat×Nat)) (loc:List Nat) (fg:List (Nat×List Nat)) (f:Func):TFn:=Ph tb lps (mM Proofs.Tryz.prog loc (fun i=>xp ((fg.lookup i).getD [])) f)
theorem bE {tb:List (Sh×Nat×List Nat)} {lps:List (Nat×Nat)} {loc:List Nat} {fg:List (Nat×List Nat)} {f:Func} (h:(mM Proofs.Tryz.prog loc (fun i=>xp ((fg.lookup i).getD [])) f).isSome=true):mM Proofs.Tryz.prog loc (fun i=>xp ((fg.lookup i).getD [])) f=some (tl tb lps loc fg f).fn:=uv h
def ZW:TFn:=tl [(zK,0,[4,9])] [] [1] [(1,[1,3,5009]),(0,[0,2])] Proofs.Tryz.f20
def Pi:TFn:=tl [(zK,0,[12,13])] [(0,4277600)] [] [(6,[0,3,7,15,16,17]),(3,[8,9,14]),(5,[0,3,14]),(4,[7,10,5003]),(2,[4,5,6]),(0,[2])] Proofs.Tryz.f10
def Pj:TC:=fZ Pi 4277600
def ZX:TFn:=tl [(zE,0,[4,8,13,20])] [] [1] [(1,[1,3,5020]),(0,[0,2])] Proofs.Tryz.f4
def ZY:TFn:=tl [(zK,0,[4,7,11])] [] [5,9,1,2] [(1,[1,3,5010]),(0,[0])] Proofs.Tryz.f11
def Pk:TFn:=tl [(zK,0,[14,15])] [(0,44560800)] [17] [(6,[0,3,4,8,19]),(4,[9,10]),(5,[8,11,5007]),(3,[5,6,7]),(0,[2])] Proofs.Tryz.f5
def Pl:TC:=fZ Pk 44560800
def Pm:TFn:=tl [(zI,0,[10,11,21,22])] [(0,10434000)] [] [(8,[0,3,4,15,24]),(6,[16,17]),(7,[15,18,5005]),(5,[12,13,14]),(3,[7,9,10,11]),(2,[7,8]),(1,[5,6]),(0,[2])] Proofs.Tryz.f59
def Pn:TC:=fZ Pm 10434000
def Po:TFn:=tl [(zI,0,[10,11,21,22])] [(0,64079100)] [] [(8,[0,3,4,15,24]),(6,[16,17]),(7,[15,18,5005]),(5,[12,13,14]),(3,[7,9,10,11]),(2,[7,8]),(1,[5,6]),(0,[2])] Proofs.Tryz.f60
def Pp:TC:=fZ Po 64079100
def Pq:TFn:=tl [(zK,0,[6,9,16,24,32,39,45,54,59,67,72,78]),(zI,0,[33,34,42,43,56,57,62,63])] [(0,87419700)] [1] [(14,[81]),(13,[81]),(12,[1,49,50,51,66,5014]),(11,[64,65]),(10,[1,49,50,64]),(9,[4,53,5010]),(8,[51,52]),(6,[3,47,48]),(5,[1,3,47]),(4,[14,5032]),(3,[1,3,14]),(2,[8,5005]),(1,[5,6,7]),(0,[0,2])] Proofs.Tryz.f41
def Pr:TC:=fZ Pq 87419700
def Ld:TFn:=tl [(zE,0,[9,14,19,23,36,45]),(zK,0,[27,28,40,41,43,46,48])] [(0,12157600),(2,12157601)] [1,4,7] [(18,[1,36,5003]),(17,[49,50]),(16,[1,36,37,38,49]),(15,[7,42,5006]),(14,[39,40,41]),(12,[23,5003,35]),(11,[5,32,34]),(10,[1,5,23,24,25,32,33]),(9,[31]),(8,[4,29,30]),(7,[26,27,28]),(5,[21,22]),(4,[1,21]),(3,[17,5003]),(2,[1,17]),(1,[8,5008]),(0,[0,2])] Proofs.Tryz.f21
def Ps:TC:=fZ Ld 12157600
def Pt:TC:=fZ Ld 12157601
def ZZ:TFn:=tl [(zE,0,[10])] [] [1] [(6,[12]),(5,[12]),(4,[1,3,7,9,10,11]),(3,[1,3,7,8]),(2,[6]),(1,[4,5]),(0,[0,2])] Proofs.Tryz.f12
def uw:TFn:=tl [(zI,0,[100018])] [] [] [(5,[0,2,3,14,16,17,18]),(4,[2,14,15]),(3,[4,13]),(2,[7,5005]),(1,[6]),(0,[5])] Proofs.Tryz.f14
def A0:TFn:=tl [] [] [2] [(1,[0,3,4])] Proofs.Tryz.f22
def A4:TFn:=tl [(zE,0,[11])] [] [2] [(1,[1,2,5,5009]),(0,[0,4])] Proofs.Tryz.f65
def Pu:TFn:=tl [(zK,0,[14,24,30]),(zI,0,[19,20,27,28,32,33])] [(0,45203600)] [1] [(10,[1,5,14,5003,38]),(9,[37]),(8,[6,7,21,5015]),(7,[17,5003]),(5,[13]),(4,[4,11]),(3,[1,4,11,12]),(2,[10]),(1,[8,9]),(0,[0,2,3])] Proofs.Tryz.f66
def Pv:TC:=fZ Pu 45203600
def A5:TFn:=tl [(zE,0,[18]),(zK,0,[20,21])] [] [2] [(6,[1,2,16,5008]),(5,[1,2,16]),(4,[6,10,12,5003]),(3,[1,2,6,10,11]),(2,[9]),(1,[7,8]),(0,[0,4,5])] Proofs.Tryz.f44
def A6:TFn:=tl [] [] [] [(3,[0,1,6,9]),(2,[1,6,7,8]),(1,[5]),(0,[4])] Proofs.Tryz.f43
def Pw:TFn:=tl [(zE,0,[8])] [] [4] [(1,[0,1,5,5009])] Proofs.Tryz.f24
def A7:TFn:=tl [] [] [] [(3,[0,4,8,9]),(2,[0,4,5003]),(1,[3]),(0,[2])] Proofs.Tryz.f61
def Px:TFn:=tl [] [(0,32725300)] [] [(3,[0,1,6,11]),(2,[6,5004]),(1,[5]),(0,[4])] Proofs.Tryz.f62
def Py:TC:=fZ Px 32725300
def A8:TFn:=tl [(z2,0,[4,8,11,18,21])] [] [1] [(3,[25]),(2,[25]),(1,[1,3,5021]),(0,[0,2])] Proofs.Tryz.f70
def Pz:TFn:=tl [(zI,0,[10,11])] [(0,38508400)] [] [(8,[3,6,5003,17]),(7,[5,14,16]),(6,[3,5,5003,14,15]),(5,[12,13]),(4,[9,10,11]),(2,[0]),(0,[2])] Proofs.Tryz.f69
def PA:TC:=fZ Pz 38508400
def A9:TFn:=tl [] [] [9,2,3] [(1,[2,3,5,5005]),(0,[0,1,4])] Proofs.Tryz.f46
def B0:TFn:=tl [] [] [] [(11,[0,1,48,49,50]),(10,[7,9,12,13,40,5007]),(9,[6,35,5004]),(8,[11,33,34]),(7,[31,32]),(6,[8,10,25,5005]),(5,[22,23,24]),(4,[20,21]),(3,[18,19]),(2,[16,17]),(1,[14,15]),(0,[4,5])] Proofs.Tryz.f63
def B1:TFn:=tl [] [] [6] [(5,[1,2,13,20,5004]),(4,[1,2,13,5006]),(3,[0,11]),(2,[0,1,2,11,12]),(1,[8,9,10]),(0,[7])] Proofs.Tryz.f64
def B4:TFn:=tl [(z2,0,[25,28,31,34,71,74])] [] [2,3,4] [(10,[2,3,14,16,65,67,5015]),(9,[2,3,14,16,65,66]),(8,[13,15,62,63,64]),(7,[8,10,11,12,52,5009]),(6,[7,9,42,5009]),(5,[36,5005]),(4,[6,21,24,5011]),(3,[2,3,6,21,22,23]),(2,[20]),(1,[17,18,19]),(0,[0,1,5])] Proofs.Tryz.f42
def Le:TFn:=tl [] [] [2,4] [(3,[1,2,6,9]),(2,[1,6,7,8]),(1,[5]),(0,[0])] Proofs.Tryz.f26
def B5:TFn:=tl [] [] [2] [(1,[0,3,4])] Proofs.Tryz.f100
def B6:TFn:=tl [] [] [] [(1,[0,3,4,5]),(0,[2])] Proofs.Tryz.f88
def B7:TFn:=tl [] [] [] [(13,[19]),(12,[19]),(11,[0,1,16,17,18]),(10,[0,1,16]),(9,[13,14,15]),(8,[0,1,13]),(7,[6,11]),(6,[12]),(5,[12]),(4,[0,1,6,11]),(3,[5]),(2,[9,10]),(1,[7,8]),(0,[4])] Proofs.Tryz.f75
def B8:TFn:=tl [] [] [] [(1,[0,3,4,5]),(0,[2])] Proofs.Tryz.f89
def B9:TFn:=tl [] [] [] [(13,[19]),(12,[19]),(11,[0,1,16,17,18]),(10,[0,1,16]),(9,[13,14,15]),(8,[0,1,13]),(7,[6,11]),(6,[12]),(5,[12]),(4,[0,1,6,11]),(3,[5]),(2,[9,10]),(1,[7,8]),(0,[4])] Proofs.Tryz.f77
def PB:TFn:=tl [(zI,0,[10,11])] [(0,53260600)] [] [(8,[3,6,5003,17]),(7,[5,14,16]),(6,[3,5,5003,14,15]),(5,[12,13]),(4,[9,10,11]),(2,[0]),(0,[2])] Proofs.Tryz.f76
def PC:TC:=fZ PB 53260600
def C0:TFn:=tl [(z2,0,[19,22,26,28,32,35,42,45,59])] [] [56,2,3] [(11,[11,60,63]),(10,[60,61,62]),(9,[2,58,59]),(8,[7,5003,50,5007]),(7,[3,40,5009]),(6,[24,30,5009]),(5,[2,3,24,5005]),(4,[6,16,18,5005]),(3,[2,3,6,16,17]),(2,[15]),(1,[12,13,14]),(0,[0,1,4,5])] Proofs.Tryz.f48
def C1:TFn:=tl [] [] [2,3] [(2,[5,13,14]),(1,[2,3,6,5006]),(0,[0,1,4])] Proofs.Tryz.f99
def C2:TFn:=tl [(z2,0,[10]),(zK,0,[15])] [] [2,3] [(1,[2,3,5,5015]),(0,[0,1,4])] Proofs.Tryz.f98
def C4:TFn:=tl [] [] [] [(10,[0,14,19,5005]),(9,[17,18]),(8,[14,15,16]),(7,[8,13]),(6,[11,12]),(5,[8,9,10]),(4,[4,7]),(2,[2,4,5,6]),(1,[3])] Proofs.Tryz.f101
def C5:TFn:=tl [] [] [] [(1,[0,3,4,5]),(0,[2])] Proofs.Tryz.f87
def Lf:TFn:=tl [] [(0,60530100),(2,60530101)] [] [(28,[2,8,9,10,14,5004,113,120,5014]),(27,[119]),(26,[116,117,118]),(25,[113,114,115]),(24,[102,5010,120]),(23,[97,5004]),(22,[94,95,96]),(21,[11,13,16,78,85,5008]),(20,[84]),(19,[81,82,83]),(18,[78,79,80]),(17,[67,5010,85]),(16,[62,5004]),(15,[59,60,61]),(14,[12,57,58]),(13,[55,56]),(12,[1,52,53,54]),(11,[0,44,5007]),(10,[42,43]),(9,[40,41]),(8,[37,38,39]),(7,[27,34,35,36]),(6,[0,1,2,27,5006]),(5,[24,26]),(4,[24,25]),(3,[20,22,23]),(2,[20,21]),(1,[19]),(0,[6,7])] Proofs.Tryz.f74
def PD:TC:=fZ Lf 60530100
def PE:TC:=fZ Lf 60530101
def C6:TFn:=tl [] [] [] [(2,[8,18]),(1,[0,1,2,7,9,5008]),(0,[6])] Proofs.Tryz.f73
def C7:TFn:=tl [(z2,0,[29,32,37,40,49,52,60,63,66,140,145])] [] [2,3,4] [(26,[12,17,20,153,155,5005]),(25,[12,17,20,153,154]),(24,[19,152]),(23,[2,3,7,16,138,5013]),(22,[13,14,18,129,131,5006]),(21,[2,3,7,12,13,14,16,129,130]),(20,[127,128]),(19,[119,121,5005]),(18,[2,3,7,12,13,14,119,120]),(17,[114,5004]),(16,[8,10,15,107,5006]),(15,[9,11,94,101,5005]),(14,[99,100]),(13,[94,5004]),(12,[68,82,5011]),(11,[8,10,15,75,5006]),(10,[9,11,68,5006]),(9,[62,5005]),(8,[13,14,15]),(7,[59,60,61]),(6,[47,5011]),(5,[35,5011]),(4,[6,25,28,5006]),(3,[2,3,6,25,26,27]),(2,[24]),(1,[21,22,23]),(0,[0,1,5])] Proofs.Tryz.f47
def C8:TFn:=tl [(z2,0,[15,100017])] [] [2,3,4] [(5,[2,3,18,5004]),(4,[6,11,14,5003]),(3,[2,3,6,11,12,13]),(2,[10]),(1,[7,8,9]),(0,[0,1,5])] Proofs.Tryz.f27
def C9:TFn:=tl [(z2,0,[16,21,25,28,36,38])] [] [2,3,4] [(8,[2,3,19,34,5008]),(7,[2,3,19,23,5010]),(6,[14,20,21,22]),(5,[2,3,14,18]),(4,[6,11,15,16,17]),(3,[2,3,6,11,12,13]),(2,[10]),(1,[7,8,9]),(0,[0,1,5])] Proofs.Tryz.f104
def PF:TFn:=tl [] [] [7,8,9,12,14] [(12,[5,6,7,14,15,41,48]),(11,[6,7,14,41,5006]),(10,[40]),(9,[3,4,9,20,33,5006]),(8,[5,13,29,31,32]),(7,[5,29,30]),(6,[28]),(5,[4,12,27]),(4,[3,6,7,9,20,5006]),(3,[17,18,19]),(2,[3,5004,9,17]),(1,[16]),(0,[0,1,2,8,11])] Proofs.Tryz.f103
def PG:TFn:=tl [(zK,0,[14,22]),(zI,0,[19,20,25,26])] [(0,41613500)] [3,4,9,10,11] [(18,[2,3,4,14,5003]),(17,[8,9,31,61]),(16,[9,59,60]),(15,[2,3,4,9,14,15,16,59]),(14,[8,10,12,34,52,54,5004]),(13,[2,3,4,8,9,10,12,14,15,16,52,53]),(12,[51]),(11,[11,42,44,5006]),(10,[2,3,4,8,5004,14,15,16,42,43]),(9,[41]),(8,[34,5006]),(7,[33]),(6,[31,32]),(5,[28,29,30]),(4,[7,21,5006]),(3,[17,5003]),(1,[13]),(0,[0,1,6])] Proofs.Tryz.f102
def PH:TC:=fZ PG 41613500
def D3:TFn:=tl [(z2,0,[23,29,34,48]),(zI,0,[44,47,100010])] [] [3,4,6] [(15,[9,10,45,48]),(14,[9,10,45,46,47]),(13,[11,42,44]),(12,[11,42,43]),(11,[41]),(10,[3,4,5,37,5003]),(8,[35]),(7,[3,4,5,35,36]),(6,[31,33,34]),(5,[3,4,5,31,32]),(4,[8,15,18,5012]),(3,[3,4,5,8,15,16,17]),(2,[14]),(1,[12,13]),(0,[0,1,2,7])] Proofs.Tryz.f90
def D4:TFn:=tl [(zE,0,[12]),(zK,0,[14,15])] [] [4,6,7,8] [(1,[1,4,6,7,10,5010]),(0,[0,2,3,9])] Proofs.Tryz.f78
def uy:TFn:=tl [] [] [] [(3,[0,4,5003]),(2,[0,4]),(1,[3]),(0,[2])] Proofs.Tryz.f97
def PI:TFn:=tl [(zK,0,[10,11,14,16,19])] [(0,94933800)] [22,5] [(7,[3,6,5003,25]),(6,[24]),(5,[5,12,5011]),(4,[9,10,11]),(2,[0]),(0,[2])] Proofs.Tryz.f85
def PJ:TC:=fZ PI 94933800
def PK:TFn:=tl [(zE,0,[14,46,55,61,66]),((.agg [.i .i64,.i .u8,.i .i64,.i .i64,.i .i64,.i .i64,.i .i64,.i .i64]),0,[23,31,33,35,100052])] [] [69,3,4,6,7,10] [(13,[3,4,10,12,59,5013]),(12,[53,5005]),(11,[48,51,52]),(10,[3,4,10,48,49,50]),(9,[11,40,44,5003]),(8,[3,4,10,11,40,5003]),(7,[39]),(6,[2,25,28,5010]),(5,[2,3,4,25,26,27]),(4,[9,17,21,5003]),(3,[2,3,4,9,17,5003]),(2,[16]),(1,[13,14,15]),(0,[0,1,8])] Proofs.Tryz.f67
def D5:TFn:=tl [] [] [4,6,7,8,9,11] [(2,[1,6,7,11,14,5010]),(1,[4,12,13]),(0,[0,2,3,10])] Proofs.Tryz.f50
def HD:TFn:=tl [(zE,0,[16,100030])] [] [6,7,8,9,10] [(4,[10,31]),(3,[0,9,27,5003]),(2,[11,24,25,26]),(1,[1,6,7,12,5011]),(0,[2,3])] Proofs.Tryz.f30
def Lg:TFn:=tl [] [] [6,7,8,9,10] [(2,[0,1,6,7,10,21,5010]),(1,[11,5009]),(0,[2,3])] Proofs.Tryz.f23
def PL:TFn:=tl [(zK,0,[42,50]),(zI,0,[47,48,53,54])] [(0,85339800)] [3,4,5,6,9,10,13,14,16] [(28,[3,5,9,10,42,5003,105]),(27,[13,70,104]),(26,[13,15,100,103]),(25,[3,5,9,10,13,15,42,43,44,100,101,102]),(24,[99]),(23,[16,90,93,5005]),(22,[3,5,9,10,13,15,16,42,43,44,90,91,92]),(21,[89]),(20,[12,14,79,82,5006]),(19,[3,5,9,10,12,5003,42,43,44,79,80,81]),(18,[78]),(17,[67,72,5005]),(16,[13,70,71]),(15,[12,67,68,69]),(14,[58,60,5006]),(13,[58,59]),(12,[56,57]),(11,[11,49,5006]),(10,[45,5003]),(8,[41]),(7,[4,40]),(6,[37,39]),(5,[3,4,5,37,38]),(4,[8,20,23,5013]),(3,[3,4,5,8,20,21,22]),(2,[19]),(1,[17,18]),(0,[0,1,2,7])] Proofs.Tryz.f86
def PM:TC:=fZ PL 85339800
def D6:TFn:=tl [(zE,0,[12]),(zK,0,[14,15])] [] [4,6,7,8] [(1,[1,4,6,7,10,5010]),(0,[0,2,3,9])] Proofs.Tryz.f68
def D7:TFn:=tl [] [] [4,6,7,8,9,11] [(2,[1,6,7,11,14,5010]),(1,[4,12,13]),(0,[0,2,3,10])] Proofs.Tryz.f45
def PN:TFn:=tl [(z4,0,[17,18,26,28]),(zE,0,[23,100042])] [(0,38310000)] [37,9,10,11] [(9,[0,1,7,13,5003,44]),(8,[43]),(7,[10,39,5003]),(6,[11,12,33,5005]),(5,[9,19,5013]),(4,[16,17,18]),(2,[2]),(0,[6])] Proofs.Tryz.f25
def PO:TC:=fZ PN 38310000
def PP:TFn:=tl [(zI,0,[11,12,17,18]),(z2,0,[22,23,26,27])] [(0,12610200)] [] [(9,[0,5,13,5003,35]),(8,[7,32,34]),(7,[7,32,33]),(6,[8,31]),(5,[9,19,5011]),(4,[16,17,18]),(2,[1]),(1,[10,11,12]),(0,[4])] Proofs.Tryz.f28
def PQ:TC:=fZ PP 12610200
def PR:TFn:=tl [(zI,0,[9,10])] [(0,86939300)] [] [(7,[1,5,5003]),(6,[13,14]),(5,[1,5,6,7,13]),(4,[4,11,12]),(3,[8,9,10]),(1,[0]),(0,[2])] Proofs.Tryz.f49
def PS:TC:=fZ PR 86939300
def PU:TFn:=tl [(zI,0,[14,100004])] [(0,63461800)] [15] [(9,[1,3,6,7,18]),(8,[4,12,17]),(7,[4,12,5004]),(6,[5,10,11]),(5,[9]),(4,[7,8]),(0,[0,2]),(999999,[1])] Proofs.Tryz.f29
def PW:TC:=fZ PU 63461800
def Lh:TFn:=tl [(zE,0,[17]),(zK,0,[18,20]),((.agg [.i .i64,.i .i64,.i .i64,.i .i64,.i .i64,.i .i64,.i .i64,.i .i64,.i .i64,.i .i64,.i .i64,.i .i64,.i .i64,.i .i64,.i .i64,.i .i64,.i .i64,.i .i64,.i .i64,.i .i64]),0,[44,47,102,108,119,140,147,151,154,158,163,166,173,100007,100112,100124,100127,100136,100145,100160,100172]),(z2,0,[54,55,61,62,79,80,83,84,88,89,92,93,122,123,128,100128]),(zI,0,[169,170])] [] [48,67,70,74,133,141,167,2,3,4,5,6,11] [(17,[7,173]),(16,[156,161,5011]),(15,[156,5004]),(14,[146,5009]),(13,[8,137,5008]),(12,[0,9,10,85,129,5007]),(11,[9,10,113,5015]),(10,[11,98,5014]),(9,[85,5012]),(8,[77,5007]),(7,[72,5004]),(6,[69,70,71]),(5,[50,5018]),(4,[41,5008]),(3,[3,5003,30,5010]),(2,[22,5007]),(1,[12,5009])] Proofs.Tryz.f15
def HE:TFn:=tl [] [] [] [(1,[1,2,3]),(0,[0])] Proofs.Tryz.f13
def Li:TFn:=tl [(zI,0,[18,22,100004]),(zE,0,[24,100006]),((.agg [.i .i64,.i .i64,.i .i64,.i .i64,.i .i64,.i .i64,.i .i64,.i .i64,.i .i64,.i .i64,.i .i64,.i .i64,.i .i64,.i .i64,.i .i64,.i .i64,.i .i64,.i .i64,.i .i64,.i .i64]),0,[25,100003])] [] [1,2] [(8,[6,19,23,24,25]),(7,[6,19,5003]),(6,[18]),(5,[16,17]),(4,[1,5,10,14,15]),(3,[1,5,10,5003]),(2,[9]),(1,[7,8]),(0,[0])] Proofs.Tryz.f6
def PX:TFn:=tl [(zK,0,[6,10,15,19,25,28,35,42,44,50,55,61,67,74,82,91]),(zI,0,[36,37,47,48,64,65,69,70,76,77,84,85,93,94])] [(0,94526800)] [1] [(14,[98]),(13,[98]),(12,[1,3,4,57,97]),(8,[58,59]),(11,[87,5009]),(10,[1,3,4,87]),(9,[57,60,5026]),(7,[53,5003]),(5,[52]),(4,[1,52]),(3,[13,5038]),(2,[1,13]),(1,[5,5007]),(0,[0,2])] Proofs.Tryz.f51
def PY:TC:=fZ PX 94526800
def Lj:TFn:=tl [(zE,0,[6,11,16,21,27,34,41,47,53]),(zK,0,[29,30,36,37,49,51,54,56])] [(0,6981300),(2,6981301)] [1] [(15,[1,4,43]),(12,[44,45,57]),(14,[1,4,57]),(13,[43,46,5010]),(11,[39,5003]),(10,[3,23]),(7,[24,25,32]),(9,[1,3,32,5006]),(8,[23,26,5005]),(6,[19,5003]),(5,[18]),(4,[1,18]),(3,[14,5003]),(2,[1,14]),(1,[5,5008]),(0,[0,2])] Proofs.Tryz.f31
def PZ:TC:=fZ Lj 6981300
def Qa:TC:=fZ Lj 6981301
def D8:TFn:=tl [(zE,0,[10])] [] [1] [(6,[12]),(5,[12]),(4,[1,3,7,9,10,11]),(3,[1,3,7,8]),(2,[6]),(1,[4,5]),(0,[0,2])] Proofs.Tryz.f16
def D9:TFn:=tl [] [] [2] [(1,[0,3,4])] Proofs.Tryz.f32
def Qb:TFn:=tl [(zK,0,[7,14,19,25]),(zI,0,[16,17,22,23,27,28])] [(0,21661800)] [1] [(6,[1,3,4,9,32]),(4,[10,11]),(5,[9,12,5019]),(3,[5,5003]),(0,[0,2])] Proofs.Tryz.f33
def Qc:TC:=fZ Qb 21661800
def E0:TFn:=tl [] [] [] [(3,[0,4,10,11]),(2,[0,4,5005]),(1,[3]),(0,[2])] Proofs.Tryz.f57
def Qd:TFn:=tl [] [(0,16774900)] [] [(3,[0,1,6,11]),(2,[6,5004]),(1,[5]),(0,[4])] Proofs.Tryz.f81
def Qe:TC:=fZ Qd 16774900
def E1:TFn:=tl [(z2,0,[4,8,13,18,23,26])] [] [1] [(3,[30]),(2,[30]),(1,[1,3,5026]),(0,[0,2])] Proofs.Tryz.f93
def E2:TFn:=tl [] [] [2,3] [(3,[2,3,7,10,11]),(2,[2,3,7,8,9]),(1,[5,6]),(0,[0,1,4])] Proofs.Tryz.f80
def E3:TFn:=tl [] [] [4] [(5,[5,7,9,10,11,35,5014]),(4,[6,26,5008]),(3,[8,20,5005]),(2,[1,16,5003]),(1,[0,12,5003])] Proofs.Tryz.f56
def E4:TFn:=tl [((.agg [.i .u64,.i .u64]),0,[10,14,19,24,29,32]),(z2,0,[37,100039])] [] [4,5,6,8] [(6,[8,35,40]),(5,[35,5004]),(4,[0]),(3,[4,5,26,28,5006]),(2,[0,4,5,26,27]),(1,[9,5016]),(0,[1,2,7])] Proofs.Tryz.f82
def E5:TFn:=tl [(z2,0,[17,20,24,27,31,34,39,44,48,53,59,64])] [] [2,3,4] [(4,[2,3,6,7,30,5041]),(3,[11,16,5013]),(2,[2,3,11,5004]),(1,[8,9,10]),(0,[0,1,5])] Proofs.Tryz.f53
def E6:TFn:=tl [((.agg [.d,.d,.i .i64]),0,[12,100025])] [] [4,6,7] [(5,[7,26]),(4,[0,8,22,5003]),(3,[2,4,13,15,5006]),(2,[0,2,4,13,14]),(1,[9,5003]),(0,[1])] Proofs.Tryz.f35
def E7:TFn:=tl [(zE,0,[10])] [] [2] [(1,[1,2,5,5008]),(0,[0,4])] Proofs.Tryz.f91
def E8:TFn:=tl [((.agg [.i .u64,.i .u64]),0,[6,8,12,14,18,20])] [] [2,3] [(1,[2,3,5,5018]),(0,[0,1,4])] Proofs.Tryz.f58
def E9:TFn:=tl [(z2,0,[8,11,15,18,21,25,28,32])] [] [2,3,5,6] [(6,[5,6,33,37,38,39]),(5,[5,6,33,5003]),(4,[2,31,32]),(3,[3,13,17,5013]),(2,[2,3,13,5003]),(1,[7,5005]),(0,[0,1,4])] Proofs.Tryz.f39
def F4:TFn:=tl [(z2,0,[10])] [] [3] [(1,[0,3,5,5014]),(0,[1,4])] Proofs.Tryz.f107
def F5:TFn:=tl [] [] [2,3,4] [(3,[2,3,7,9]),(2,[2,3,7,8]),(1,[5,6]),(0,[0,1])] Proofs.Tryz.f109
def F6:TFn:=tl [] [] [2,3,4] [(3,[2,3,7,9]),(2,[2,3,7,8]),(1,[5,6]),(0,[0,1])] Proofs.Tryz.f111
def F7:TFn:=tl [(z2,0,[4,100006])] [] [1,2] [(2,[1,7]),(1,[3,5003]),(0,[0])] Proofs.Tryz.f84
def F8:TFn:=tl [((.agg [.i .u64,.i .u64]),0,[8,10,13,15,19])] [] [2,3,4] [(5,[5,6,20,23,24,25]),(4,[20,21,22]),(3,[2,17,18,19]),(2,[3,12,5004]),(1,[7,5004]),(0,[0,1])] Proofs.Tryz.f94
def F9:TFn:=tl [((.agg [.i .u64,.i .u64]),0,[7,9,12,14,20,22])] [] [2,3,4] [(4,[2,3,5,15,18,5006]),(3,[15,16,17]),(2,[11,5003]),(1,[6,5004]),(0,[0,1])] Proofs.Tryz.f95
def Qf:TFn:=tl [((.agg [.i .u64,.i .u64]),0,[15,23,42,100044])] [(0,22549700)] [2,4,6] [(14,[1,2,6,7,8,11,45,46]),(5,[12,13,37]),(13,[41,5003]),(12,[37,5003]),(11,[35,36]),(10,[32,33,34]),(9,[9,21,28,5003]),(8,[21,5006]),(7,[20]),(6,[11,14,5005]),(4,[10]),(0,[0,5])] Proofs.Tryz.f96
def Qg:TC:=fZ Qf 22549700
def G4:TFn:=tl [(z2,0,[25,28,32,35,41,44,50,56,59,72,96,101])] [] [2,3,4,7,8,10,11,14] [(17,[2,3,6,9,13,14,93,5015]),(16,[10,15,87,5005]),(15,[12,84,85,86]),(14,[11,76,78,5005]),(13,[2,3,6,9,10,76,77]),(12,[7,8,61,67,74,75]),(11,[71,72,73]),(10,[7,8,9,67,5003]),(9,[65,66]),(8,[61,5003]),(7,[55,5005]),(6,[52,53,54]),(5,[49,50,51]),(4,[31,5017]),(3,[19,24,5006]),(2,[2,3,19,5004]),(1,[16,17,18]),(0,[0,1,5])] Proofs.Tryz.f83
def G5:TFn:=tl [] [] [2,3,4] [(3,[2,3,9,14,5005]),(2,[2,3,9,5004]),(1,[6,7,8]),(0,[0,1,5])] Proofs.Tryz.f55
def G6:TFn:=tl [(zK,0,[16,24,37,56]),(zI,0,[18,19,27,28,39,40,58,59])] [] [4,6,7,8,10,11,12] [(7,[1,4,12,13,51,54,5009]),(6,[1,4,12,13,51,52,53]),(5,[50]),(4,[10,11,42,44,5005]),(3,[1,4,10,11,42,43]),(2,[31,5010]),(1,[6,7,14,5016]),(0,[0,2,3,9])] Proofs.Tryz.f108
def Qh:TFn:=tl [(zK,0,[19,25,39])] [(0,92446900)] [3,4,5,6,8,10] [(15,[3,4,5,8,9,41,66]),(8,[11,42,43,63]),(14,[3,4,5,8,9,11,63,64,65]),(13,[62]),(12,[10,53,56,5005]),(11,[3,4,5,8,5003,53,54,55]),(10,[52]),(9,[41,44,5007]),(7,[37,5003]),(5,[34,36]),(4,[3,4,5,34,35]),(3,[14,18,5015]),(2,[3,4,5,14,5003]),(1,[12,13]),(0,[0,1,2,7])] Proofs.Tryz.f105
def Qi:TC:=fZ Qh 92446900
def G7:TFn:=tl [(z2,0,[16,20,22,25,28,31])] [] [2,3,4,6] [(8,[2,3,6,26,34,5004]),(7,[3,26,5007]),(6,[24,25]),(5,[17,19,5004]),(4,[2,3,17,18]),(3,[10,15,16]),(2,[2,3,10,5004]),(1,[7,8,9]),(0,[0,1,5])] Proofs.Tryz.f110
def Qj:TFn:=tl [(zK,0,[22,40,51,63,91]),(z2,0,[33,45,120]),(zI,0,[54,55,65,66,93,94])] [(0,63725400)] [3,4,5,6,8,10,11,13] [(26,[4,121,123]),(25,[4,121,122]),(24,[3,5,8,9,47,119,120]),(8,[48,49]),(23,[10,12,115,118]),(22,[3,4,5,8,9,10,12,115,116,117]),(21,[114]),(20,[11,87,108,5005]),(19,[8,13,14,100,103,5004]),(18,[8,13,14,100,101,102]),(17,[99]),(16,[3,4,5,9,10,11,87,5011]),(15,[12,81,84,85,86]),(14,[3,4,5,8,5004,81,82,83]),(13,[80]),(12,[68,72,5007]),(11,[10,68,5003]),(10,[57,5010]),(9,[47,50,5006]),(7,[38,5008]),(5,[35,37]),(4,[3,4,5,35,36]),(3,[17,21,5013]),(2,[3,4,5,17,5003]),(1,[15,16]),(0,[0,1,2,7])] Proofs.Tryz.f106
def Qk:TC:=fZ Qj 63725400
def G8:TFn:=tl [((.agg [.i .i64,.i .u8,.i .i64,.i .i64,.i .i64,.i .i64,.i .i64,.i .i64]),0,[7,11,15,17,23,27,29]),(zK,0,[12,13,24,25])] [] [3,4] [(3,[0,3,8,21,5011]),(2,[0,3,8,5012]),(1,[6,7]),(0,[1,5])] Proofs.Tryz.f92
def G9:TFn:=tl [((.agg [.i .i64,.i .u8,.i .i64,.i .i64,.i .i64,.i .i64,.i .i64,.i .i64]),0,[18,100042]),(zE,0,[25,36,44,48])] [] [46,51,2,3,4,5,7] [(11,[2,3,7,43,5011]),(10,[38,41,42]),(9,[2,3,7,38,39,40]),(8,[8,31,35,36,37]),(7,[2,3,7,8,31,5003]),(6,[30]),(5,[20,23,5006]),(4,[2,3,20,21,22]),(3,[11,16,5003]),(2,[2,3,11,5004]),(1,[9,10]),(0,[0,1,6])] Proofs.Tryz.f79
def H8:TFn:=tl [] [] [4,6,7,8,9] [(1,[1,4,6,7,11,5008]),(0,[0,2,3,10])] Proofs.Tryz.f52
def H9:TFn:=tl [((.agg [.d,.d,.i .i64]),0,[15,22,100035,100037])] [] [6,7,8,9,10] [(5,[10,38]),(4,[0,9,11,30,5007]),(3,[1,6,7,16,18,5011]),(2,[0,1,6,7,16,17]),(1,[12,5003]),(0,[2,3])] Proofs.Tryz.f34
def I0:TFn:=tl [] [] [4,6,7,8,9] [(1,[1,4,6,7,11,5008]),(0,[0,2,3,10])] Proofs.Tryz.f54
def I1:TFn:=tl [((.agg [.d,.d,.i .i64]),0,[13,20,100035,100037]),(z4,0,[23,25])] [] [5,6,7,8] [(5,[8,38]),(4,[0,7,9,30,5007]),(3,[1,5,14,16,5013]),(2,[0,1,5,14,15]),(1,[10,5003]),(0,[2])] Proofs.Tryz.f36
def I2:TFn:=tl [((.agg [.d,.d,.i .i64]),0,[12,100024])] [] [4,5,6,7] [(5,[7,25]),(4,[0,8,21,5003]),(3,[4,5,13,15,5005]),(2,[0,4,5,13,14]),(1,[9,5003]),(0,[1,2])] Proofs.Tryz.f37
def Ql:TFn:=tl [((.agg [.b,.b,.b]),0,[13]),((.agg [.i .i64,.i .i64,.i .i64,.i .i64,.i .i64,.i .i64]),0,[21,24])] [(0,68799000)] [2,3] [(7,[2,3,5,6,8,29]),(4,[9,10,27]),(6,[27,28]),(5,[8,11,5015]),(3,[7]),(0,[0,1,4])] Proofs.Tryz.f38
def Qm:TC:=fZ Ql 68799000
def vU:Opd:=.t 10
def Qn:Opd:=.t 135
def Qo:Opd:=.t 136
def Qp:Opd:=.t 138
def Qq:Opd:=.t 139
def vV:TC:=(.ops [M 135 11,M 136 13,O 137 (.iadA 3 2 vU Qo),oT 138 2 137,O 139 (.iadA 3 2 vU Qn),zS 2 Qq Qp] [⟨3,(.agg [.i .i64,.i .i64,.i .i64,.i .i64,.i .i64,.i .i64]),0⟩,⟨5,(.agg [.i .i64,.i .i64,.i .i64,.i .i64,.i .i64,.i .i64]),0⟩] [] [11,13,135,136,137,138,139])
def t9:Opd:=.t 9
def Qr:Opd:=.t 130
def Qs:Opd:=.t 131
def Qt:Opd:=.t 132
def Qu:Opd:=.t 133
def Qv:Opd:=.t 134
def xM:TC:=(zQ (.ops [M 130 11,oT 131 2 14,O 132 (.fad 0 t9),O 133 (.iadA 3 4 Qt Qr),O 134 (.fad 0 Qu),zS 2 Qv Qs] [⟨5,(.agg [.i .i64,.i .i64,.i .i64,.i .i64,.i .i64,.i .i64,.i .i64,.i .i64,.i .i64,.i .i64,.i .i64,.i .i64,.i .i64,.i .i64,.i .i64,.i .i64,.i .i64,.i .i64,.i .i64,.i .i64]),0⟩] [] [14,130,131,132,133,134]) (.join 33428450 vV))
def Qw:Opd:=.t 120
def Qz:Opd:=.t 121
def QA:Opd:=.t 122
def QB:Opd:=.t 123
def QC:Opd:=.t 124
def QD:Opd:=.t 126
def QE:Opd:=.t 127
def QF:Opd:=.t 128
def QG:Opd:=.t 129
abbrev J4 (t:Type):Type:=Int→Int→Int→Int→t
abbrev bF (t:Type):Type:=J4 (J4 (J4 (J4 t)))
@[match_pattern] abbrev ic (n:Int):PV:=.int .i64 n
def gz (n:Nat):PV:=.agg (replicate n (.int .i64 0))
abbrev gi2:Sh:=.agg [.i .i64,.i .i64]
abbrev gi4:Sh:=.agg [.i .i64,.i .i64,.i .i64,.i .i64]
def ga (l:List Int):PV:=.agg (l.map (.int .i64))
def Ao:TC:=(zQ (.ops [M 120 11,O 121 (.fad 12 t9),zS 1 Qz Qw] [⟨2,(.agg [.i .i64,.i .i64,.i .i64,.i .i64,.i .i64,.i .i64,.i .i64,.i .i64,.i .i64,.i .i64,.i .i64,.i .i64,.i .i64,.i .i64,.i .i64,.i .i64,.i .i64,.i .i64,.i .i64,.i .i64]),0⟩] [] [120,121]) (zQ (.ops [M 122 11,O 123 (.fad 0 t9),O 124 (.iadA 3 4 QB QA),O 125 (.fad 0 QC),oT 126 2 125,oT 127 2 14,O 128 (.build [(ic (0)),(ic (0)),(ic (0)),(ic (0))] [(0,2,QD),(2,2,QE)]),O 129 (.fad 13 t9),zS 4 QG QF] [⟨4,(.agg [.i .i64,.i .i64,.i .i64,.i .i64,.i .i64,.i .i64,.i .i64,.i .i64,.i .i64,.i .i64,.i .i64,.i .i64,.i .i64,.i .i64,.i .i64,.i .i64,.i .i64,.i .i64,.i .i64,.i .i64]),0⟩,⟨8,(.agg [.i .i64,.i .i64,.i .i64,.i .i64,.i .i64,.i .i64,.i .i64,.i .i64,.i .i64,.i .i64,.i .i64,.i .i64,.i .i64,.i .i64,.i .i64,.i .i64,.i .i64,.i .i64,.i .i64,.i .i64]),0⟩] [(0,1),(0,5),(1,5),(2,5),(3,5),(4,5)] (zR 122 8)) (.join 33428451 xM)))
def uz:Opd:=.t 14
def QH:Opd:=.t 104
def QI:Opd:=.t 105
def QJ:Opd:=.t 106
def QK:Opd:=.t 107
def QL:Opd:=.t 108
def QM:Opd:=.t 110
def QN:Opd:=.t 111
def QO:Opd:=.t 112
def QP:Opd:=.t 114
def QQ:Opd:=.t 115
def QS:Opd:=.t 117
def QT:Opd:=.t 118
def QU:Opd:=.t 119
def BN:TC:=(zC QH (zQ (.ops [M 105 0,M 106 11,O 107 (.fad 0 t9),O 108 (.iadA 3 4 QK QJ),O 109 (.fad 0 QL),oT 110 2 109,M 111 0,M 112 11,O 113 (.iadA 3 2 vU QO),oT 114 2 113,M 115 13,O 116 (.iadA 3 2 vU QQ),oT 117 2 116,O 118 (.call (.f BM) [QN,QP,QS]),O 119 (.call (.f BL) [QI,(I 1),QM,QT]),O 14 (.aL (gz 2)),zS 2 uz QU] [⟨5,(.agg [.i .i64,.i .i64,.i .i64,.i .i64,.i .i64,.i .i64,.i .i64,.i .i64,.i .i64,.i .i64,.i .i64,.i .i64,.i .i64,.i .i64,.i .i64,.i .i64,.i .i64,.i .i64,.i .i64,.i .i64]),0⟩,⟨9,(.agg [.i .i64,.i .i64,.i .i64,.i .i64,.i .i64,.i .i64]),0⟩,⟨12,(.agg [.i .i64,.i .i64,.i .i64,.i .i64,.i .i64,.i .i64]),0⟩] [(0,1),(0,2),(1,2),(0,3),(0,4),(0,5),(0,6),(1,6),(2,6),(3,6),(4,6),(5,6),(0,7),(1,7),(2,7),(3,7),(4,7),(5,7),(6,7),(0,8),(1,8),(2,8),(3,8),(4,8),(5,8),(6,8),(0,9),(1,9),(2,9),(3,9),(4,9),(5,9),(6,9),(0,10),(1,10),(2,10),(3,10),(4,10),(5,10),(6,10),(7,10),(8,10),(9,10),(0,11),(1,11),(2,11),(3,11),(4,11),(5,11),(6,11),(7,11),(8,11),(9,11),(0,12),(1,12),(2,12),(3,12),(4,12),(5,12),(6,12),(7,12),(8,12),(9,12),(0,13),(1,13),(2,13),(3,13),(4,13),(5,13),(0,15),(1,15),(2,15),(3,15),(4,15),(5,15),(6,15),(7,15),(8,15),(9,15),(10,15),(11,15),(12,15),(13,15),(14,15)] (zR 104 16)) (.join 33428452 Ao)) .skip)
def QV:Opd:=.t 180
def QW:Opd:=.t 182
def QX:Opd:=.t 183
def QY:Opd:=.t 184
def rT:TC:=(zC QV (.ops [O 181 (.fad 12 t9),oF 182 1 181,O 183 (.fad 17 t9),O 184 (.iadA 3 1 QX (I 1)),zS 1 QY QW] [⟨1,(.agg [.i .i64,.i .i64,.i .i64,.i .i64,.i .i64,.i .i64,.i .i64,.i .i64,.i .i64,.i .i64,.i .i64,.i .i64,.i .i64,.i .i64,.i .i64,.i .i64,.i .i64,.i .i64,.i .i64,.i .i64]),0⟩,⟨4,(.agg [.i .i64,.i .i64,.i .i64,.i .i64,.i .i64,.i .i64,.i .i64,.i .i64,.i .i64,.i .i64,.i .i64,.i .i64,.i .i64,.i .i64,.i .i64,.i .i64,.i .i64,.i .i64,.i .i64,.i .i64]),0⟩] [] (zR 180 5)) .skip)
def t2:Opd:=.t 2
def QZ:Opd:=.t 185
def Ra:Opd:=.t 187
def Rb:Opd:=.t 189
def Rc:Opd:=.t 192
def Rd:Opd:=.t 193
def Re:Opd:=.t 194
def Rf:Opd:=.t 195
def rU:TC:=(zQ (.ops [O 185 (.fad 17 t9),O 186 (.iadA 3 1 QZ (I 1)),oF 187 1 186,O 188 (.bin .sub (I 3) Ra),O 189 (.fad 17 t9),O 190 (.iadA 3 1 Rb (I 2)),oF 191 1 190,oX 192 .sub 188 191,O 193 (.fad 17 t9),O 194 (.iadA 3 1 Rd (I 0)),zS 1 Re Rc] [⟨2,(.agg [.i .i64,.i .i64,.i .i64,.i .i64,.i .i64,.i .i64,.i .i64,.i .i64,.i .i64,.i .i64,.i .i64,.i .i64,.i .i64,.i .i64,.i .i64,.i .i64,.i .i64,.i .i64,.i .i64,.i .i64]),0⟩,⟨6,(.agg [.i .i64,.i .i64,.i .i64,.i .i64,.i .i64,.i .i64,.i .i64,.i .i64,.i .i64,.i .i64,.i .i64,.i .i64,.i .i64,.i .i64,.i .i64,.i .i64,.i .i64,.i .i64,.i .i64,.i .i64]),0⟩,⟨10,(.agg [.i .i64,.i .i64,.i .i64,.i .i64,.i .i64,.i .i64,.i .i64,.i .i64,.i .i64,.i .i64,.i .i64,.i .i64,.i .i64,.i .i64,.i .i64,.i .i64,.i .i64,.i .i64,.i .i64,.i .i64]),0⟩] [] [180,185,186,187,188,189,190,191,192,193,194]) (zQ (oQ [oT 195 20 9,zS 20 t2 Rf] [9,195]) .ret))
def t12:Opd:=.t 12
def Rg:Opd:=.t 172
def Rh:Opd:=.t 174
def Ri:Opd:=.t 175
def Rj:Opd:=.t 176
def Rk:Opd:=.t 177
def Rl:Opd:=.t 178
def Rm:Opd:=.t 179
def tN:TC:=(zQ (zQ (.ops [O 171 (.fad 12 t9),oF 172 1 171,O 173 (.bin .geq Rg (I 0)),M 174 173,zT 175 174 (.fad 12 t9),zT 176 174 (.load false 1 Ri),zT 177 174 (.iadA 3 1 t12 Rj),zT 178 174 (.load false 1 Rk),zT 179 174 (.un .not Rl),O 180 (.pick Rh Rm (.c (.bool false)))] [⟨1,(.agg [.i .i64,.i .i64,.i .i64,.i .i64,.i .i64,.i .i64,.i .i64,.i .i64,.i .i64,.i .i64,.i .i64,.i .i64,.i .i64,.i .i64,.i .i64,.i .i64,.i .i64,.i .i64,.i .i64,.i .i64]),0⟩,⟨5,(.agg [.i .i64,.i .i64,.i .i64,.i .i64,.i .i64,.i .i64,.i .i64,.i .i64,.i .i64,.i .i64,.i .i64,.i .i64,.i .i64,.i .i64,.i .i64,.i .i64,.i .i64,.i .i64,.i .i64,.i .i64]),0⟩,⟨7,(.agg [.b,.b,.b]),0⟩] [] [12,171,172,173,174,175,176,177,178,179]) (.join 33428454 rT)) (.join 33428455 rU))
def Rn:Opd:=.t 166
def Ro:Opd:=.t 167
def Rp:Opd:=.t 168
def Rq:Opd:=.t 169
def Rr:Opd:=.t 170
def vY:TC:=(zQ (.ops [oT 166 6 10,oT 167 3 12,O 168 (.call (.f Al) [Rn,Ro]),O 169 (.fad 17 t9),O 170 (.iadA 3 1 Rq (I 1)),zS 1 Rr Rp] [⟨5,(.agg [.i .i64,.i .i64,.i .i64,.i .i64,.i .i64,.i .i64,.i .i64,.i .i64,.i .i64,.i .i64,.i .i64,.i .i64,.i .i64,.i .i64,.i .i64,.i .i64,.i .i64,.i .i64,.i .i64,.i .i64]),0⟩] [] [10,166,167,168,169,170]) (.join 33428456 tN))
def Rs:Opd:=.t 161
def Rt:Opd:=.t 162
def Ru:Opd:=.t 164
def Rv:Opd:=.t 165
def xN:TC:=(zQ (oQ [O 161 (.build [(.bool false),(.bool false),(.bool false)] []),zS 3 t12 Rs] [161]) (zQ (.ops [O 162 (.fad 17 t9),O 163 (.iadA 3 1 Rt (I 2)),oF 164 1 163,O 165 (.iadA 3 1 t12 Ru),zS 1 Rv (.c (.bool true))] [⟨2,(.agg [.i .i64,.i .i64,.i .i64,.i .i64,.i .i64,.i .i64,.i .i64,.i .i64,.i .i64,.i .i64,.i .i64,.i .i64,.i .i64,.i .i64,.i .i64,.i .i64,.i .i64,.i .i64,.i .i64,.i .i64]),0⟩,⟨4,(.agg [.b,.b,.b]),0⟩] [] (zR 162 4)) (.join 33428457 vY)))
def Rw:Opd:=.t 156
def Rx:Opd:=.t 157
def Ry:Opd:=.t 158
def Rz:Opd:=.t 159
def RA:Opd:=.t 160
def Ap:TC:=(zQ (.ops [oT 156 6 15,O 157 (.build [(.bool false),(.bool false),(.bool false)] []),O 158 (.call (.f Al) [Rw,Rx]),O 159 (.fad 17 t9),O 160 (.iadA 3 1 Rz (I 2)),zS 1 RA Ry] [⟨5,(.agg [.i .i64,.i .i64,.i .i64,.i .i64,.i .i64,.i .i64,.i .i64,.i .i64,.i .i64,.i .i64,.i .i64,.i .i64,.i .i64,.i .i64,.i .i64,.i .i64,.i .i64,.i .i64,.i .i64,.i .i64]),0⟩] [] [15,156,157,158,159,160]) (.join 33428458 xN))
def vg:Opd:=.t 15
def RB:Opd:=.t 140
def RD:Opd:=.t 141
def RE:Opd:=.t 143
def RF:Opd:=.t 144
def RG:Opd:=.t 145
def RH:Opd:=.t 146
def RI:Opd:=.t 148
def RJ:Opd:=.t 149
def RK:Opd:=.t 150
def RL:Opd:=.t 151
def RM:Opd:=.t 153
def RN:Opd:=.t 154
def RO:Opd:=.t 155
def BO:TC:=(zQ (.ops [M 140 0,O 141 (.fad 0 t9),O 142 (.iadA 3 4 RD (I 0)),oT 143 4 142,O 144 (.call (.f xL) [RB,(I 2),RE]),M 145 0,O 146 (.fad 0 t9),O 147 (.iadA 3 4 RH (I 1)),oT 148 4 147,O 149 (.call (.f xL) [RG,(I 2),RI]),M 150 0,O 151 (.fad 0 t9),O 152 (.iadA 3 4 RL (I 2)),oT 153 4 152,O 154 (.call (.f xL) [RK,(I 2),RM]),O 155 (.build [(ic (0)),(ic (0)),(ic (0)),(ic (0)),(ic (0)),(ic (0))] [(0,2,RF),(2,2,RJ),(4,2,RN)]),O 15 (.aL (gz 6)),zS 6 vg RO] [⟨3,(.agg [.i .i64,.i .i64,.i .i64,.i .i64,.i .i64,.i .i64,.i .i64,.i .i64,.i .i64,.i .i64,.i .i64,.i .i64,.i .i64,.i .i64,.i .i64,.i .i64,.i .i64,.i .i64,.i .i64,.i .i64]),0⟩,⟨8,(.agg [.i .i64,.i .i64,.i .i64,.i .i64,.i .i64,.i .i64,.i .i64,.i .i64,.i .i64,.i .i64,.i .i64,.i .i64,.i .i64,.i .i64,.i .i64,.i .i64,.i .i64,.i .i64,.i .i64,.i .i64]),0⟩,⟨13,(.agg [.i .i64,.i .i64,.i .i64,.i .i64,.i .i64,.i .i64,.i .i64,.i .i64,.i .i64,.i .i64,.i .i64,.i .i64,.i .i64,.i .i64,.i .i64,.i .i64,.i .i64,.i .i64,.i .i64,.i .i64]),0⟩] [(0,1),(0,2),(0,3),(0,5),(1,5),(2,5),(3,5),(4,5),(0,6),(1,6),(2,6),(3,6),(4,6),(5,6),(0,7),(1,7),(2,7),(3,7),(4,7),(5,7),(0,8),(1,8),(2,8),(3,8),(4,8),(5,8),(0,10),(1,10),(2,10),(3,10),(4,10),(5,10),(6,10),(7,10),(8,10),(9,10),(0,11),(1,11),(2,11),(3,11),(4,11),(5,11),(6,11),(7,11),(8,11),(9,11),(10,11),(0,12),(1,12),(2,12),(3,12),(4,12),(5,12),(6,12),(7,12),(8,12),(9,12),(10,12),(0,13),(1,13),(2,13),(3,13),(4,13),(5,13),(6,13),(7,13),(8,13),(9,13),(10,13),(0,16),(1,16),(2,16),(3,16),(4,16),(5,16),(6,16),(7,16),(8,16),(9,16),(10,16),(11,16),(12,16),(13,16),(14,16),(15,16)] [0,11,13,104,140,141,142,143,144,145,146,147,148,149,150,151,152,153,154,155]) (.join 33428459 Ap))
def vh:Opd:=.t 95
def vi:Opd:=.t 96
def vk:Opd:=.t 98
def RP:Opd:=.t 100
def RQ:Opd:=.t 101
def RR:Opd:=.t 103
def EC:TC:=(zQ (oQ [oT 95 6 10,oT 96 3 12,O 97 (.call (.f Al) [vh,vi]),M 13 97] [95,96,97]) (zQ (zQ (.ops [M 98 13,O 99 (.iadA 3 2 vU vk),oT 100 2 99,M 101 11,O 102 (.iadA 3 2 vU RQ),oT 103 2 102,O 104 (.call (.f rS) [RP,RR])] [⟨2,(.agg [.i .i64,.i .i64,.i .i64,.i .i64,.i .i64,.i .i64]),0⟩,⟨5,(.agg [.i .i64,.i .i64,.i .i64,.i .i64,.i .i64,.i .i64]),0⟩] [(0,3),(1,3),(2,3),(0,4),(1,4),(2,4),(0,5),(1,5),(2,5)] (zR 98 6)) (.join 33428453 BN)) (.join 33428460 BO)))
def vl:Opd:=.t 89
def vm:Opd:=.t 90
def vo:Opd:=.t 92
def vp:Opd:=.t 93
def vq:Opd:=.t 94
def HF:TC:=(zQ (oQ [oT 89 6 10,O 90 (.build [(.bool false),(.bool false),(.bool false)] []),O 91 (.call (.f Al) [vl,vm]),M 11 91] [89,90,91]) (zQ (oQ [O 92 (.build [(.bool false),(.bool false),(.bool false)] []),O 12 (.aL (.agg [(.bool false),(.bool false),(.bool false)])),zS 3 t12 vo] [92]) (zQ (.ops [M 93 11,O 94 (.iadA 3 1 t12 vp),zS 1 vq (.c (.bool true))] [⟨2,(.agg [.b,.b,.b]),0⟩] [] [93,94]) (.join 33428461 EC))))
def vt:Opd:=.t 79
def vv:Opd:=.t 80
def vw:Opd:=.t 81
def vz:Opd:=.t 83
def wa:Opd:=.t 84
def we:Opd:=.t 86
def wg:Opd:=.t 87
def wh:Opd:=.t 88
def Lk:TC:=(zQ (.ops [M 79 0,M 80 0,oT 81 2 6,O 82 (.iadA 3 2 vU (I 0)),oT 83 2 82,O 84 (.call (.f BM) [vv,vw,vz]),O 85 (.iadA 3 2 vU (I 1)),oT 86 2 85,O 87 (.call (.f BM) [vt,wa,we]),O 88 (.iadA 3 2 vU (I 2)),zS 2 wh wg] [⟨4,(.agg [.i .i64,.i .i64,.i .i64,.i .i64,.i .i64,.i .i64]),0⟩,⟨7,(.agg [.i .i64,.i .i64,.i .i64,.i .i64,.i .i64,.i .i64]),0⟩,⟨10,(.agg [.i .i64,.i .i64,.i .i64,.i .i64,.i .i64,.i .i64]),0⟩] [(0,1),(0,2),(1,2),(0,3),(1,3),(2,3),(0,4),(1,4),(2,4),(0,5),(0,6),(1,6),(2,6),(3,6),(4,6),(5,6),(0,7),(1,7),(2,7),(3,7),(4,7),(5,7)] [6,79,80,81,82,83,84,85,86,87,88]) (.join 33428462 HF))
def t3:Opd:=.t 3
def t4:Opd:=.t 4
def t5:Opd:=.t 5
def t6:Opd:=.t 6
def t7:Opd:=.t 7
def t8:Opd:=.t 8
def wi:Opd:=.t 16
def wj:Opd:=.t 17
def wk:Opd:=.t 18
def wn:Opd:=.t 19
def wo:Opd:=.t 21
def wq:Opd:=.t 22
def ws:Opd:=.t 24
def wt:Opd:=.t 25
def wu:Opd:=.t 26
def ww:Opd:=.t 27
def wx:Opd:=.t 28
def wy:Opd:=.t 30
def wz:Opd:=.t 32
def xa:Opd:=.t 33
def xb:Opd:=.t 34
def xc:Opd:=.t 35
def xd:Opd:=.t 36
def xe:Opd:=.t 37
def xf:Opd:=.t 39
def xg:Opd:=.t 41
def xh:Opd:=.t 42
def xi:Opd:=.t 43
def xj:Opd:=.t 44
def xk:Opd:=.t 45
def xl:Opd:=.t 46
def xm:Opd:=.t 47
def xn:Opd:=.t 48
def xo:Opd:=.t 49
def xq:Opd:=.t 50
def xr:Opd:=.t 51
def xt:Opd:=.t 52
def xu:Opd:=.t 53
def xw:Opd:=.t 54
def xx:Opd:=.t 55
def xy:Opd:=.t 56
def xz:Opd:=.t 57
def ya:Opd:=.t 58
def yb:Opd:=.t 59
def yc:Opd:=.t 60
def yd:Opd:=.t 61
def ye:Opd:=.t 62
def yf:Opd:=.t 63
def yg:Opd:=.t 64
def yh:Opd:=.t 65
def yi:Opd:=.t 66
def yj:Opd:=.t 67
def ym:Opd:=.t 68
def yo:Opd:=.t 70
def yp:Opd:=.t 71
def yq:Opd:=.t 72
def yr:Opd:=.t 73
def yt:Opd:=.t 75
def yu:Opd:=.t 76
def yv:Opd:=.t 77
def yw:Opd:=.t 78
def RT:TFn:=⟨1,[.cell 2 true 20],(zQ (oQ [O 2 (.aL (gz 20))] []) (zQ (.ops [O 16 (.call (.f tM) [(I 0)]),M 17 0,O 18 (.nilchk wj),O 19 (.fad 0 wk),O 20 (.fad 0 wn),oF 21 1 20,O 22 (.iad 3 wo (I 0)),O 23 (.fad 0 wq),oF 24 1 23,O 25 (.call (.f tM) [ws]),O 3 (.aL (gz 2)),O 4 (.aL (gz 2)),zS 2 t3 wi,zS 2 t4 wt] [⟨5,(.agg [.d,.d,.i .i64]),0⟩,⟨6,zK,0⟩,⟨8,zK,0⟩] [(0,1),(0,2),(0,3),(0,4),(0,5),(0,6),(0,7),(0,8),(0,10),(1,10),(2,10),(3,10),(4,10),(5,10),(6,10),(7,10),(8,10),(9,10),(0,11),(1,11),(2,11),(3,11),(4,11),(5,11),(6,11),(7,11),(8,11),(9,11),(10,11)] (zR 16 10)) (zQ (.ops [M 26 0,O 27 (.nilchk wu),O 28 (.fad 0 ww),O 29 (.fad 0 wx),oF 30 1 29,O 31 (.iad 3 wy (I 0)),oT 32 3 31,O 33 (.call (.f Er) [wz]),O 34 (.call (.f tM) [xa]),M 35 0,O 36 (.nilchk xc),O 37 (.fad 0 xd),O 38 (.fad 0 xe),oF 39 1 38,O 40 (.iad 3 xf (I 1)),oT 41 3 40,O 42 (.call (.f Er) [xg]),O 43 (.call (.f tM) [xh]),O 5 (.aL (gz 2)),O 6 (.aL (gz 2)),zS 2 t5 xb,zS 2 t6 xi] [⟨4,(.agg [.d,.d,.i .i64]),0⟩,⟨5,zK,0⟩,⟨6,zK,0⟩,⟨13,(.agg [.d,.d,.i .i64]),0⟩,⟨14,zK,0⟩,⟨15,zK,0⟩] [(0,9),(1,9),(2,9),(3,9),(4,9),(5,9),(6,9),(7,9),(8,9),(0,10),(1,10),(2,10),(3,10),(4,10),(5,10),(6,10),(7,10),(8,10),(0,11),(1,11),(2,11),(3,11),(4,11),(5,11),(6,11),(7,11),(8,11),(0,12),(1,12),(2,12),(3,12),(4,12),(5,12),(6,12),(7,12),(8,12),(0,13),(1,13),(2,13),(3,13),(4,13),(5,13),(6,13),(7,13),(8,13),(0,14),(1,14),(2,14),(3,14),(4,14),(5,14),(6,14),(7,14),(8,14),(0,15),(1,15),(2,15),(3,15),(4,15),(5,15),(6,15),(7,15),(8,15),(0,18),(1,18),(2,18),(3,18),(4,18),(5,18),(6,18),(7,18),(8,18),(9,18),(10,18),(11,18),(12,18),(13,18),(14,18),(15,18),(16,18),(17,18),(0,19),(1,19),(2,19),(3,19),(4,19),(5,19),(6,19),(7,19),(8,19),(9,19),(10,19),(11,19),(12,19),(13,19),(14,19),(15,19),(16,19),(17,19),(18,19)] (zR 26 18)) (zQ (.ops [M 44 0,oT 45 2 3,M 46 0,oT 47 2 5,O 48 (.call (.f Ey) [xl,xm,(I 1)]),O 49 (.call (.f BL) [xj,(I 0),xk,xn]),O 7 (.aL (gz 2)),zS 2 t7 xo] [] [(0,1),(0,2),(1,2),(0,3),(1,3),(2,3),(0,4),(1,4),(0,6),(1,6),(2,6),(3,6),(4,6),(5,6)] (zR 44 6)) (zQ (.ops [M 50 0,oT 51 2 3,M 52 0,oT 53 2 5,O 54 (.call (.f Ey) [xt,xu,(I 2)]),O 55 (.call (.f BL) [xq,(I 0),xr,xw]),O 8 (.aL (gz 2)),zS 2 t8 xx] [] [(0,1),(0,2),(1,2),(0,3),(1,3),(2,3),(0,4),(1,4),(0,6),(1,6),(2,6),(3,6),(4,6),(5,6)] [5,50,51,52,53,54,55]) (zQ (oQ [oT 56 2 3,oT 57 2 7,O 58 (.build [(ic (0)),(ic (0)),(ic (0)),(ic (0))] [(0,2,xy),(2,2,xz)]),oT 59 2 7,oT 60 2 8,O 61 (.build [(ic (0)),(ic (0)),(ic (0)),(ic (0))] [(0,2,yb),(2,2,yc)]),oT 62 2 8,oT 63 2 4,O 64 (.build [(ic (0)),(ic (0)),(ic (0)),(ic (0))] [(0,2,ye),(2,2,yf)]),O 65 (.build [(ic (0)),(ic (0)),(ic (0)),(ic (0)),(ic (0)),(ic (0)),(ic (0)),(ic (0)),(ic (0)),(ic (0)),(ic (0)),(ic (0))] [(0,4,ya),(4,4,yd),(8,4,yg)]),O 66 (.build [(ic (0)),(ic (0)),(ic (0)),(ic (0)),(ic (0)),(ic (0)),(ic (0)),(ic (0)),(ic (0)),(ic (0)),(ic (0)),(ic (0)),(ic (0)),(ic (0)),(ic (0)),(ic (0)),(ic (0)),(ic (0)),(ic (0)),(ic (0))] [(0,12,yh),(12,1,(I (-1)))]),O 9 (.aL (gz 20)),zS 20 t9 yi] [4,7,8,56,57,58,59,60,61,62,63,64,65,66]) (zQ (.ops [M 67 0,O 68 (.fad 0 t9),O 69 (.iadA 3 4 ym (I 0)),oT 70 4 69,O 71 (.call (.f xL) [yj,(I 1),yo]),M 72 0,O 73 (.fad 0 t9),O 74 (.iadA 3 4 yr (I 1)),oT 75 4 74,O 76 (.call (.f xL) [yq,(I 1),yt]),oT 77 2 3,O 78 (.build [(ic (0)),(ic (0)),(ic (0)),(ic (0)),(ic (0)),(ic (0))] [(0,2,yp),(2,2,yu),(4,2,yv)]),O 10 (.aL (gz 6)),zS 6 vU yw] [⟨3,(.agg [.i .i64,.i .i64,.i .i64,.i .i64,.i .i64,.i .i64,.i .i64,.i .i64,.i .i64,.i .i64,.i .i64,.i .i64,.i .i64,.i .i64,.i .i64,.i .i64,.i .i64,.i .i64,.i .i64,.i .i64]),0⟩,⟨8,(.agg [.i .i64,.i .i64,.i .i64,.i .i64,.i .i64,.i .i64,.i .i64,.i .i64,.i .i64,.i .i64,.i .i64,.i .i64,.i .i64,.i .i64,.i .i64,.i .i64,.i .i64,.i .i64,.i .i64,.i .i64]),0⟩] [(0,1),(0,2),(0,3),(0,5),(1,5),(2,5),(3,5),(4,5),(0,6),(1,6),(2,6),(3,6),(4,6),(5,6),(0,7),(1,7),(2,7),(3,7),(4,7),(5,7),(0,8),(1,8),(2,8),(3,8),(4,8),(5,8),(0,10),(1,10),(2,10),(3,10),(4,10),(5,10),(6,10),(7,10),(8,10),(9,10),(0,12),(1,12),(2,12),(3,12),(4,12),(5,12),(6,12),(7,12),(8,12),(9,12),(10,12),(11,12)] [3,67,68,69,70,71,72,73,74,75,76,77,78]) (.join 33428463 Lk))))))))⟩
def I3:TFn:=tl [((.agg [.d,.d,.i .i64]),0,[18,23,25,100005])] [] [1,2,3,6] [(7,[5,6,19,24,25,26]),(6,[5,6,19,5004]),(5,[17,18]),(4,[16]),(3,[1,9,14,15]),(2,[1,9,5004]),(1,[7,8]),(0,[0,4])] Proofs.Tryz.f7
def I4:TFn:=tl [] [] [] [(0,[0])] Proofs.Tryz.f8
def Ll:TFn:=tl [(zK,0,[8,10,14,17,23,26,32,38,43,50,56,61]),(zI,0,[40,41,45,46,58,59,63,64])] [(0,12537700),(2,12537701)] [2,3] [(13,[2,3,6,52]),(10,[53,54,65]),(12,[2,3,6,65]),(11,[52,55,5009]),(9,[48,5003]),(8,[5,34]),(5,[35,36,47]),(7,[2,3,5,47]),(6,[34,37,5009]),(4,[30,5003]),(3,[29]),(2,[2,3,29]),(1,[7,5021]),(0,[0,1,4])] Proofs.Tryz.f40
def RU:TC:=fZ Ll 12537700
def RW:TC:=fZ Ll 12537701
def RX:TFn:=tl [(zK,0,[19,20,23,24])] [(0,41322700)] [] [(8,[0,1,5,14]),(5,[15,16,26]),(7,[0,1,5,26]),(6,[14,17,5008]),(4,[11,12,13]),(3,[10]),(2,[0,1,10]),(1,[6,5003]),(0,[4])] Proofs.Tryz.f18
def RY:TC:=fZ RX 41322700
def RZ:TFn:=tl [((.agg [.i .i64,.i .u8,.i .i64,.i .i64,.i .i64,.i .i64,.i .i64,.i .i64]),0,[19,20,23,24])] [(0,11728400)] [] [(8,[0,1,5,14]),(5,[15,16,25]),(7,[0,1,5,25]),(6,[14,17,5007]),(4,[11,12,13]),(3,[10]),(2,[0,1,10]),(1,[6,5003]),(0,[4])] Proofs.Tryz.f19
def Sa:TC:=fZ RZ 11728400
def I5:TFn:=tl [(zE,0,[6,8,12,14])] [] [2,3] [(1,[2,3,5,5011]),(0,[0,1,4])] Proofs.Tryz.f9
def Sb:TFn:=tl [(zE,0,[13,17])] [] [15,1,3,4,5,7,8] [(6,[1,3,5006,32,5021]),(5,[26,5005]),(4,[20,5005]),(3,[11,5008]),(2,[1,11]),(1,[10]),(0,[0,2])] Proofs.Tryz.f3
def tab:List (Nat×AFn):=[(Kt,ZW.fn),(Ku,Pi.fn),(Ha,ZX.fn),(Kv,ZY.fn),(Ek,Pk.fn),(Kw,Pm.fn),(Kx,Po.fn),(Ag,Pq.fn),(Bz,Ld.fn),(Hb,ZZ.fn),(Ky,uw.fn),(BA,A0.fn),(El,A4.fn),(Kz,Pu.fn),(Ah,A5.fn),(Hc,A6.fn),(BB,Pw.fn),(BC,A7.fn),(Em,Px.fn),(BD,A8.fn),(KA,Pz.fn),(Ai,A9.fn),(En,B0.fn),(Hd,B1.fn),(rQ,B4.fn),(vR,Le.fn),(BE,B5.fn),(KB,B6.fn),(KC,B7.fn),(KD,B8.fn),(KE,B9.fn),(KF,PB.fn),(He,C0.fn),(BF,C1.fn),(Eo,C2.fn),(KG,C4.fn),(KH,C5.fn),(Hf,Lf.fn),(KI,C6.fn),(BI,C7.fn),(Aj,C8.fn),(Hg,C9.fn),(Hj,PF.fn),(ZT,PG.fn),(KJ,D3.fn),(KK,D4.fn),(Hk,uy.fn),(Hl,PI.fn),(Pe,PK.fn),(Hm,D5.fn),(vT,HD.fn),(Ak,Lg.fn),(KL,PL.fn),(KM,D6.fn),(Hn,D7.fn),(ZU,PN.fn),(Ho,PP.fn),(ZV,PR.fn),(Hq,PU.fn),(yaW,Lh.fn),(mU,HE.fn),(rR,Li.fn),(Ep,PX.fn),(Hr,Lj.fn),(KN,D8.fn),(tM,D9.fn),(Er,Qb.fn),(BJ,E0.fn),(Et,Qd.fn),(Eu,E1.fn),(BK,E2.fn),(Ev,E3.fn),(Hs,E4.fn),(Ew,E5.fn),(Ey,E6.fn),(KO,E7.fn),(Ht,E8.fn),(rS,E9.fn),(Hu,F4.fn),(Hv,F5.fn),(KP,F6.fn),(KQ,F7.fn),(Hw,F8.fn),(KR,F9.fn),(KS,Qf.fn),(Ez,G4.fn),(EA,G5.fn),(Hx,G6.fn),(KT,Qh.fn),(KU,G7.fn),(KV,Qj.fn),(KW,G8.fn),(Hy,G9.fn),(KX,H8.fn),(BL,H9.fn),(KY,I0.fn),(xL,I1.fn),(BM,I2.fn),(Al,Ql.fn),(KZ,RT.fn),(Hz,I3.fn),(HA,I4.fn),(La,Ll.fn),(Lb,RX.fn),(Lc,RZ.fn),(HC,I5.fn),(EB,Sb.fn)]
def BP:List Nat:=[Kt,Ku,Ha,Kv,Ek,Kw,Kx,Ag,Bz,Hb,BA,El,Kz,Ah,Hc,BC,Em,BD,KA,Ai,En,Hd,rQ,vR,BE,KB,KC,KD,KE,KF,He,BF,Eo,BG,BH,KG,KH,Hf,KI,BI,Aj,Hg,KJ,KK,Hk,Hl,Hm,KL,KM,Hn,Ho,Hq,rR,Ep,Hr,KN,tM,Er,BJ,Et,Eu,BK,Ev,Hs,Ew,KO,Ht,rS,Hu,Hv,KP,KQ,Hw,KR,KS,Ez,EA,Hx,KT,KU,KV,KW,Hy,KX,KY,Al,Hz,HA,La,Lb,Lc,HC,EB,(vT+5000000),(Ak+5000000),(BB+5000000),(yaW+5000000),(Ey+5000000),(BL+5000000),(xL+5000000),(BM+5000000),(KZ+5000000),(Ky+6000000)]
def xO:mT:=[(Hk,1,8)]
def HG:List (Nat×PV):=[]
def E (ef:Es):Env:=(tK BG BH tab BP xO HG ef)
def yx:Env:=rO BG BH tab BP xO HG
def I6:List Nat:=[]
abbrev EG (e:Es):Prop:=EffG E I6 e
theorem dQ:EG []:=⟨fun _ _ _ _ h=>(by cases h),fun _ _ _ _=>rfl⟩
theorem bQ {e:Es} (he:EG e) {P:EP} {S:SE} {d n:Nat} {t:TFn} {s:Sg} {w:s.W} (hq:bN S d t s w) (hS:SEOk P S) (hR:aY P S.E (pX S d) t.body) (hl:LpOk P S.E S.lp [] t.body) (hE:S.E=E e:=by rfl) (hs:Kn BG BH xO n=false:=by kernel_rfl) (hm:memN I6 n=false:=by kernel_rfl) (hf:S.E.fns n=some t.fn:=by kernel_rfl) (hu:S.E.qui n=true:=by kernel_rfl) (hn:S.E.nl n=false:=by kernel_rfl):∀ az K,s.pw w az K→∃ r,K r∧cX P n az r:=ZG hq hS hR hl (fun _=>by rw [hE];exact vO hs _) (by rw [hE];exact he.num _ hm) hf hu hn
abbrev ED:Type:=Ls→(Ls→Prop)→Prop
def HH (p0:Ls) (K:Ls→Prop):Prop:=Zx 1 8 p0 K
def yy (w:Ls→(Ls→Prop)→Prop) (az:Ls) (K:PV→Prop):Prop:=OR w az K
def yz (az:Ls) (K:PV→Prop):Prop:=yzF 1 8 az K
theorem za (e:Es) (_:EG e):bL (E e) yz Hk:=td (by kernel_rfl) (by kernel_rfl) (by kernel_rfl)
abbrev I7:Type:=Int→Int→Int→(Int→Int→Prop)→Prop
abbrev I8:Type:=Int→Int→Int→(Int→Int→Prop)→Prop
theorem zb (e:Es) (_:EG e):bL (E e) ysV BG:=te
theorem zc (e:Es) (_:EG e):bL (E e) ysX BH:=tf (by kernel_rfl)
set_option maxRecDepth 100000
abbrev gH:Type:=Int→(Int→Prop)→Prop
def Sc (b:Int) (K:Int→Prop):Prop:=
 (aB (decide (b<0)) (K (u64.wrap (0-(u64.wrap b)))) (K (u64.wrap b)))
def BQ:gH:=Sc
def cB:iS:=vI i64
def pt1:jP:=lC cB lN
def rV:Sg:=⟨pt1,Int→Prop,fun K=>(fun r0=>K (.int .u64 r0))⟩
def zd (e:Es):SE:=sE (E e) [] bX
theorem ze (e:Es):bN (zd e) 6 A7 rV Sc:=fun _ _=>by kernel_rfl
theorem Lm (e:Es) (he:EG e):bL (E e) (rV.pw BQ) BC:=bQ he (ze e) (bK (aK.uni _) trivial trivial he.ok) aY.flat (bC (by kernel_rfl))
abbrev dL:Type:=Int→Int→(Int→Prop)→Prop
def HI (x0:Int→Int→Bool→Prop):Nat→Int→Int→Prop
 | 0,_,_=>False
 | n+1,b,c=>
 (aB (decide (c>0)) (aA (!(decide (c=0))) (HI x0 n c (Int.tmod b c))) (x0 b c false))
def Sd (b c:Int) (K:Int→Prop):Prop:=
 (∃ n:Nat,HI (fun d _ _=>(K d)) n b c)
def tO:dL:=Sd
def pt2:iS:=vI u64
def Ln:jP:=lC pt2 lN
def qE:jP:=lC pt2 Ln
def vZ:Sg:=⟨qE,Int→Prop,fun K=>(fun r0=>K (.int .u64 r0))⟩
def zf (Q:Qx):Int→Int→Bool→Prop:=(fun b c d=>Q (.exit 0) [(0,.v (.int .u64 b)),(1,.v (.int .u64 c)),(6,.v (.bool d))] [])
def I9:Pat pZ:=pS hN (fV 0 pt2 (fV 1 pt2 fN)) fN
def J0 (Q:Qx):List St:=[⟨I9,HI (zf Q)⟩]
def J2:LP:=gL [(32725300,J0)]
def Se (e:Es):SE:=sE (E e) [] (J2)
theorem J3 (e:Es) (he:EG e):SEOk (Uni (E e)) (Se e):=bK (aK.uni _) trivial trivial he.ok
theorem zg (e:Es):fY (Se e) 5 a Py false (J0):=fun _=>⟨fun _=>by kernel_rfl,fun _ _=>by kernel_rfl,trivial⟩
theorem zh (e:Es) (he:EG e):dF (Uni (E e)) (J2) [] 32725300 (.loop 32725300 Py):=fun _ _ _=>cA.st (aK.uni _) (cU (J3 e he) 5) (cH.no _ _) (bC (by kernel_rfl)) (zg e _)
theorem zi (e:Es):bN (Se e) 6 Px vZ Sd:=fun _ _=>by kernel_rfl
theorem Sf (e:Es) (he:EG e):bL (E e) (vZ.pw tO) Em:=bQ he (zi e) (J3 e he) aY.flat (dT (l:=[(32725300,.loop 32725300 Py)]) ⟨zh e he,trivial⟩ (by kernel_rfl))
def Si (a0:gH) (a1:dL) (b c:Int) (K:Int→Prop):Prop:=
 (aB (decide (c<1)) (K 8) (a0 b (fun d=>(aB (decide ((if (u64.wrap c)>d then (u64.wrap c) else d)>1000000000000000000)) (K 8) (a0 b (fun e=>(a1 e (u64.wrap c) (fun f=>(aB (decide (f>1)) (K 8) (K 0))))))))))
def qF:dL:=Si BQ tO
def Sj:jP:=lC cB pt1
def nH:iS:=vA Sj
def HJ:jP:=lC nH lN
def tP:Sg:=⟨HJ,Int→Prop,fun K=>(fun r0=>K (ic r0))⟩
def zj (e:Es) (a0:gH) (a1:dL):SE:=sE (E e) [(BC,rV.pw a0),(Em,vZ.pw a1)] bX
theorem zl (e:Es) (a0 a1):bN (zj e a0 a1) 6 A8 tP (Si a0 a1):=fun _ _=>by kernel_rfl
theorem HK (e:Es) (he:EG e):bL (E e) (tP.pw qF) BD:=bQ he (zl e _ _) (bK (aK.uni _) ⟨(Lm e he),(Sf e he),trivial⟩ trivial he.ok) aY.flat (bC (by kernel_rfl))
abbrev qG:Type:=Ls→(Int→Prop)→Prop
def EE (x0:Int→Prop) (x1:Int→Ls→Int→Int→Bool→Prop):Nat→Int→Ls→Int→Int→Prop
 | 0,_,_,_,_=>False
 | n+1,b,c,d,e=>
 (aB (decide (e<d)) (aA (decide (0≤e)) (aA (decide (e<(((length c):Nat):Int))) (aA (aI zI (getD c (e.toNat) .nils)) (aB ((aJ (getD c (e.toNat) .nils)) !=b) (x0 (aJ (getD c (e.toNat) .nils))) (EE x0 x1 n b c d (i64.wrap (e+1))))))) (x1 b c d e false))
def Sk (b:Ls) (K:Int→Prop):Prop:=
 (∃ n:Nat,EE K (fun c _ _ _ _=>(K c)) n 0 b (((length b):Nat):Int) 0)
def Lo:qG:=Sk
def Lp:jP:=lC vD lN
def rW:Sg:=⟨Lp,Int→Prop,fun K=>(fun r0=>K (ic r0))⟩
def zm (Q:Qx):Int→Prop:=(fun b=>Q .ret [(2,.v (ic b))] [])
def zn (Q:Qx):Int→Ls→Int→Int→Bool→Prop:=(fun b c d e f=>Q (.exit 0) [(3,.v (ic b)),(6,.v (.data c)),(7,.v (ic d)),(8,.v (ic e)),(9,.v (.bool f))] [])
def xP:Pat aD:=fV 6 vD (fV 7 cB (fV 8 cB fN))
def J5 (Q:Qx):List St:=[⟨(pS hN (fV 3 cB xP) fN),EE (zm Q) (zn Q)⟩]
def J6:LP:=gL [(38508400,J5)]
def Sl (e:Es):SE:=sE (E e) [] (J6)
theorem J7 (e:Es) (he:EG e):SEOk (Uni (E e)) (Sl e):=bK (aK.uni _) trivial trivial he.ok
theorem zo (e:Es):fY (Sl e) 5 a PA false (J5):=fun _=>⟨fun _=>by kernel_rfl,fun _ _=>by kernel_rfl,trivial⟩
theorem zp (e:Es) (he:EG e):dF (Uni (E e)) (J6) [] 38508400 (.loop 38508400 PA):=fun _ _ _=>cA.st (aK.uni _) (cU (J7 e he) 5) (cH.no _ _) (bC (by kernel_rfl)) (zo e _)
theorem zq (e:Es):bN (Sl e) 6 Pz rW Sk:=fun _ _=>by kernel_rfl
theorem zr (e:Es) (he:EG e):bL (E e) (rW.pw Lo) KA:=bQ he (zq e) (J7 e he) aY.flat (dT (l:=[(38508400,.loop 38508400 PA)]) ⟨zp e he,trivial⟩ (by kernel_rfl))
abbrev lA:Type:=J4 ((Int→Prop)→Prop)
def Sm (a0:dL) (a1:qG) (b c d e:Int) (K:Int→Prop):Prop:=
 (a0 b c (fun f=>(a0 d e (fun g=>(a1 ([(ic f),(ic g)]:Ls) K)))))
def Aq:lA:=Sm qF Lo
def mV:jP:=lC nH HJ
def qH:Sg:=⟨mV,Int→Prop,fun K=>(fun r0=>K (ic r0))⟩
def zt (e:Es) (a0:dL) (a1:qG):SE:=sE (E e) [(BD,tP.pw a0),(KA,rW.pw a1)] bX
theorem zu (e:Es) (a0 a1):bN (zt e a0 a1) 6 A9 qH (Sm a0 a1):=fun _ _=>by kernel_rfl
theorem HL (e:Es) (he:EG e):bL (E e) (qH.pw Aq) Ai:=bQ he (zu e _ _) (bK (aK.uni _) ⟨(HK e he),(zr e he),trivial⟩ trivial he.ok) aY.flat (bC (by kernel_rfl))
abbrev mW:Type:=Int→Int→(Int→Int→Prop)→Prop
def Sn (b c:Int) (K:Int→Int→Prop):Prop:=
 (K (u64.wrap ((u64.wrap ((u64.wrap ((Int.fdiv b 4294967296)*(Int.fdiv c 4294967296)))+(Int.fdiv (u64.wrap ((u64.wrap ((Int.fdiv b 4294967296)*(u64.wrap (BitVec.ofInt u64.bits c&&&BitVec.ofInt u64.bits 4294967295).toNat)))+(Int.fdiv (u64.wrap ((u64.wrap (BitVec.ofInt u64.bits b&&&BitVec.ofInt u64.bits 4294967295).toNat)*(u64.wrap (BitVec.ofInt u64.bits c&&&BitVec.ofInt u64.bits 4294967295).toNat))) 4294967296))) 4294967296)))+(Int.fdiv (u64.wrap ((u64.wrap (BitVec.ofInt u64.bits (u64.wrap ((u64.wrap ((Int.fdiv b 4294967296)*(u64.wrap (BitVec.ofInt u64.bits c&&&BitVec.ofInt u64.bits 4294967295).toNat)))+(Int.fdiv (u64.wrap ((u64.wrap (BitVec.ofInt u64.bits b&&&BitVec.ofInt u64.bits 4294967295).toNat)*(u64.wrap (BitVec.ofInt u64.bits c&&&BitVec.ofInt u64.bits 4294967295).toNat))) 4294967296)))&&&BitVec.ofInt u64.bits 4294967295).toNat)+(u64.wrap ((u64.wrap (BitVec.ofInt u64.bits b&&&BitVec.ofInt u64.bits 4294967295).toNat)*(Int.fdiv c 4294967296))))) 4294967296))) (u64.wrap (b*c)))
def xQ:mW:=Sn
def HM:Sg:=⟨qE,Int→Int→Prop,fun K=>(fun r0 r1=>K (.tup [(.int .u64 r0),(.int .u64 r1)]))⟩
def zw (e:Es):SE:=sE (E e) [] bX
theorem zx (e:Es):bN (zw e) 6 B0 HM Sn:=fun _ _=>by kernel_rfl
theorem So (e:Es) (he:EG e):bL (E e) (HM.pw xQ) En:=bQ he (zx e) (bK (aK.uni _) trivial trivial he.ok) aY.flat (bC (by kernel_rfl))
abbrev HN:Type:=Bool→Int→Int→(Int→Int→Int→Prop)→Prop
def Sq (b:Bool) (c d:Int) (K:Int→Int→Int→Prop):Prop:=
 (aB (decide ((if d>c then d else c)>1000000000000000000)) (K 0 0 16) (aB b (K (i64.wrap (0-(i64.wrap c))) (i64.wrap d) 0) (K (i64.wrap c) (i64.wrap d) 0)))
def Ar:HN:=Sq
def Lq:Sg:=⟨(lC vB qE),Int→Int→Int→Prop,fun K=>(fun r0 r1 r2=>K (.tup [(.agg [(ic r0),(ic r1)]),(ic r2)]))⟩
def zy (e:Es):SE:=sE (E e) [] bX
theorem zz (e:Es):bN (zy e) 6 B1 Lq Sq:=fun _ _=>by kernel_rfl
theorem J8 (e:Es) (he:EG e):bL (E e) (Lq.pw Ar) Hd:=bQ he (zz e) (bK (aK.uni _) trivial trivial he.ok) aY.flat (bC (by kernel_rfl))
abbrev cQ:Type:=J4 ((Int→Int→Int→Prop)→Prop)
def Sr (a0:lA) (a1:gH) (a2:dL) (a3:mW) (a4:HN) (b c d e:Int) (K:Int→Int→Int→Prop):Prop:=
 (a0 b c d e (fun f=>(aB (f !=0) (K 0 0 f) (a1 b (fun g=>(a1 d (fun h=>(a2 g (u64.wrap e) (fun i=>(a2 h (u64.wrap c) (fun j=>(aA (!(decide (i=0))) (aA (!(decide (j=0))) (a3 (u64.wrap (Int.tdiv g i)) (u64.wrap (Int.tdiv h j)) (fun k l=>(aA (!(decide (j=0))) (aA (!(decide (i=0))) (a3 (u64.wrap (Int.tdiv (u64.wrap c) j)) (u64.wrap (Int.tdiv (u64.wrap e) i)) (fun m o=>(aB (decide ((u64.wrap (k+m))>0)) (K 0 0 16) (aB (decide (l>0)) (a4 ((decide (b<0)) !=(decide (d<0))) l o K) (a4 false l o K))))))))))))))))))))))
def ya7:cQ:=Sr Aq BQ tO xQ Ar
def yeb:Sg:=⟨mV,Int→Int→Int→Prop,fun K=>(fun r0 r1 r2=>K (.tup [(.agg [(ic r0),(ic r1)]),(ic r2)]))⟩
def yCU (e:Es) (a0:lA) (a1:gH) (a2:dL) (a3:mW) (a4:HN):SE:=sE (E e) [(Ai,qH.pw a0),(BC,rV.pw a1),(Em,vZ.pw a2),(En,HM.pw a3),(Hd,Lq.pw a4)] bX
theorem yCV (e:Es) (a0 a1 a2 a3 a4):bN (yCU e a0 a1 a2 a3 a4) 6 B4 yeb (Sr a0 a1 a2 a3 a4):=fun _ _=>by kernel_rfl
theorem BR (e:Es) (he:EG e):bL (E e) (yeb.pw ya7) rQ:=bQ he (yCV e _ _ _ _ _) (bK (aK.uni _) ⟨(HL e he),(Lm e he),(Sf e he),(So e he),(J8 e he),trivial⟩ trivial he.ok) aY.flat (bC (by kernel_rfl))
abbrev EH:Type:=Int→(Bool→Prop)→Prop
def Ss (b:Int) (K:Bool→Prop):Prop:=
 (K (b !=b))
def Su:EH:=Ss
def Sv:Sg:=⟨pt1,Bool→Prop,fun K=>(fun r0=>K (.bool r0))⟩
def ytG (e:Es):SE:=sE (E e) [] bX
theorem ytH (e:Es):bN (ytG e) 6 B6 Sv Ss:=fun _ _=>by kernel_rfl
theorem ytI (e:Es) (he:EG e):bL (E e) (Sv.pw Su) KB:=bQ he (ytH e) (bK (aK.uni _) trivial trivial he.ok) aY.flat (bC (by kernel_rfl))
def Sw (a0:EH) (b c:Int) (K:Int→Prop):Prop:=
 (a0 b (fun d=>(a0 c (fun e=>(aB d (aB e (K 0) (K (-1))) (aB e (K 1) (aB (decide (b<c)) (K (-1)) (aB (decide (b>c)) (K 1) (K 0)))))))))
def Lr:dL:=Sw Su
def BS:Sg:=⟨Sj,Int→Prop,fun K=>(fun r0=>K (ic r0))⟩
def yqg (e:Es) (a0:EH):SE:=sE (E e) [(KB,Sv.pw a0)] bX
theorem yqh (e:Es) (a0):bN (yqg e a0) 6 B7 BS (Sw a0):=fun _ _=>by kernel_rfl
theorem yqi (e:Es) (he:EG e):bL (E e) (BS.pw Lr) KC:=bQ he (yqh e _) (bK (aK.uni _) ⟨(ytI e he),trivial⟩ trivial he.ok) aY.flat (bC (by kernel_rfl))
def Sx (b:Int) (K:Bool→Prop):Prop:=
 (K (b !=b))
def Sy:EH:=Sx
def Sz:Sg:=⟨Ln,Bool→Prop,fun K=>(fun r0=>K (.bool r0))⟩
def yrA (e:Es):SE:=sE (E e) [] bX
theorem yrB (e:Es):bN (yrA e) 6 B8 Sz Sx:=fun _ _=>by kernel_rfl
theorem yrC (e:Es) (he:EG e):bL (E e) (Sz.pw Sy) KD:=bQ he (yrB e) (bK (aK.uni _) trivial trivial he.ok) aY.flat (bC (by kernel_rfl))
def SA (a0:EH) (b c:Int) (K:Int→Prop):Prop:=
 (a0 b (fun d=>(a0 c (fun e=>(aB d (aB e (K 0) (K (-1))) (aB e (K 1) (aB (decide (b<c)) (K (-1)) (aB (decide (b>c)) (K 1) (K 0)))))))))
def Lt:dL:=SA Sy
def SB:Sg:=⟨qE,Int→Prop,fun K=>(fun r0=>K (ic r0))⟩
def ypI (e:Es) (a0:EH):SE:=sE (E e) [(KD,Sz.pw a0)] bX
theorem ypJ (e:Es) (a0):bN (ypI e a0) 6 B9 SB (SA a0):=fun _ _=>by kernel_rfl
theorem ypK (e:Es) (he:EG e):bL (E e) (SB.pw Lt) KE:=bQ he (ypJ e _) (bK (aK.uni _) ⟨(yrC e he),trivial⟩ trivial he.ok) aY.flat (bC (by kernel_rfl))
def EI (x0:Int→Prop) (x1:Int→Ls→Int→Int→Bool→Prop):Nat→Int→Ls→Int→Int→Prop
 | 0,_,_,_,_=>False
 | n+1,b,c,d,e=>
 (aB (decide (e<d)) (aA (decide (0≤e)) (aA (decide (e<(((length c):Nat):Int))) (aA (aI zI (getD c (e.toNat) .nils)) (aB ((aJ (getD c (e.toNat) .nils)) !=b) (x0 (aJ (getD c (e.toNat) .nils))) (EI x0 x1 n b c d (i64.wrap (e+1))))))) (x1 b c d e false))
def SC (b:Ls) (K:Int→Prop):Prop:=
 (∃ n:Nat,EI K (fun c _ _ _ _=>(K c)) n 0 b (((length b):Nat):Int) 0)
def Lu:qG:=SC
def ywi (Q:Qx):Int→Prop:=(fun b=>Q .ret [(2,.v (ic b))] [])
def ywj (Q:Qx):Int→Ls→Int→Int→Bool→Prop:=(fun b c d e f=>Q (.exit 0) [(3,.v (ic b)),(6,.v (.data c)),(7,.v (ic d)),(8,.v (ic e)),(9,.v (.bool f))] [])
def J9 (Q:Qx):List St:=[⟨(pS hN (fV 3 cB xP) fN),EI (ywi Q) (ywj Q)⟩]
def K0:LP:=gL [(53260600,J9)]
def SD (e:Es):SE:=sE (E e) [] (K0)
theorem K1 (e:Es) (he:EG e):SEOk (Uni (E e)) (SD e):=bK (aK.uni _) trivial trivial he.ok
theorem yuW (e:Es):fY (SD e) 5 a PC false (J9):=fun _=>⟨fun _=>by kernel_rfl,fun _ _=>by kernel_rfl,trivial⟩
theorem yuX (e:Es) (he:EG e):dF (Uni (E e)) (K0) [] 53260600 (.loop 53260600 PC):=fun _ _ _=>cA.st (aK.uni _) (cU (K1 e he) 5) (cH.no _ _) (bC (by kernel_rfl)) (yuW e _)
theorem yAN (e:Es):bN (SD e) 6 PB rW SC:=fun _ _=>by kernel_rfl
theorem yAO (e:Es) (he:EG e):bL (E e) (rW.pw Lu) KF:=bQ he (yAN e) (K1 e he) aY.flat (dT (l:=[(53260600,.loop 53260600 PC)]) ⟨yuX e he,trivial⟩ (by kernel_rfl))
abbrev iY:Type:=J4 ((Int→Int→Prop)→Prop)
def SG (a0:lA) (a1:dL) (a2:gH) (a3:mW) (a4:dL) (a5:qG) (b c d e:Int) (K:Int→Int→Prop):Prop:=
 (a0 b c d e (fun f=>(aB (f !=0) (K 0 f) (aB ((decide (b<0)) !=(decide (d<0))) (a1 b d (fun g=>(K g 0))) (a2 b (fun g=>(a3 g (u64.wrap e) (fun h i=>(a2 d (fun j=>(a3 j (u64.wrap c) (fun k l=>(a4 h k (fun m=>(a4 i l (fun o=>(a5 ([(ic m),(ic o)]:Ls) (fun p=>(aB (decide (b<0)) (K (i64.wrap (0-p)) 0) (K p 0))))))))))))))))))))
def tQ:iY:=SG Aq Lr BQ xQ Lt Lu
def Lv:Sg:=⟨mV,Int→Int→Prop,fun K=>(fun r0 r1=>K (.tup [(ic r0),(ic r1)]))⟩
def yCX (e:Es) (a0:lA) (a1:dL) (a2:gH) (a3:mW) (a4:dL) (a5:qG):SE:=sE (E e) [(Ai,qH.pw a0),(KC,BS.pw a1),(BC,rV.pw a2),(En,HM.pw a3),(KE,SB.pw a4),(KF,rW.pw a5)] bX
theorem yCY (e:Es) (a0 a1 a2 a3 a4 a5):bN (yCX e a0 a1 a2 a3 a4 a5) 6 C0 Lv (SG a0 a1 a2 a3 a4 a5):=fun _ _=>by kernel_rfl
theorem SH (e:Es) (he:EG e):bL (E e) (Lv.pw tQ) He:=bQ he (yCY e _ _ _ _ _ _) (bK (aK.uni _) ⟨(HL e he),(yqi e he),(Lm e he),(So e he),(ypK e he),(yAO e he),trivial⟩ trivial he.ok) aY.flat (bC (by kernel_rfl))
def SI (b:Int) (K:Int→Prop):Prop:=
 (aB (decide (b≥4294967296)) (aB (decide ((Int.fdiv b 4294967296)≥65536)) (aB (decide ((Int.fdiv (Int.fdiv b 4294967296) 65536)≥256)) (aA (decide (0≤(u8.wrap (Int.fdiv (Int.fdiv (Int.fdiv b 4294967296) 65536) 256)))) (aA (decide ((u8.wrap (Int.fdiv (Int.fdiv (Int.fdiv b 4294967296) 65536) 256))<256)) (K (i64.wrap (56+(i64.wrap (aJ (getD tJ ((u8.wrap (Int.fdiv (Int.fdiv (Int.fdiv b 4294967296) 65536) 256)).toNat) .nils)))))))) (aA (decide (0≤(u8.wrap (Int.fdiv (Int.fdiv b 4294967296) 65536)))) (aA (decide ((u8.wrap (Int.fdiv (Int.fdiv b 4294967296) 65536))<256)) (K (i64.wrap (48+(i64.wrap (aJ (getD tJ ((u8.wrap (Int.fdiv (Int.fdiv b 4294967296) 65536)).toNat) .nils))))))))) (aB (decide ((Int.fdiv b 4294967296)≥256)) (aA (decide (0≤(u8.wrap (Int.fdiv (Int.fdiv b 4294967296) 256)))) (aA (decide ((u8.wrap (Int.fdiv (Int.fdiv b 4294967296) 256))<256)) (K (i64.wrap (40+(i64.wrap (aJ (getD tJ ((u8.wrap (Int.fdiv (Int.fdiv b 4294967296) 256)).toNat) .nils)))))))) (aA (decide (0≤(u8.wrap (Int.fdiv b 4294967296)))) (aA (decide ((u8.wrap (Int.fdiv b 4294967296))<256)) (K (i64.wrap (32+(i64.wrap (aJ (getD tJ ((u8.wrap (Int.fdiv b 4294967296)).toNat) .nils)))))))))) (aB (decide (b≥65536)) (aB (decide ((Int.fdiv b 65536)≥256)) (aA (decide (0≤(u8.wrap (Int.fdiv (Int.fdiv b 65536) 256)))) (aA (decide ((u8.wrap (Int.fdiv (Int.fdiv b 65536) 256))<256)) (K (i64.wrap (24+(i64.wrap (aJ (getD tJ ((u8.wrap (Int.fdiv (Int.fdiv b 65536) 256)).toNat) .nils)))))))) (aA (decide (0≤(u8.wrap (Int.fdiv b 65536)))) (aA (decide ((u8.wrap (Int.fdiv b 65536))<256)) (K (i64.wrap (16+(i64.wrap (aJ (getD tJ ((u8.wrap (Int.fdiv b 65536)).toNat) .nils))))))))) (aB (decide (b≥256)) (aA (decide (0≤(u8.wrap (Int.fdiv b 256)))) (aA (decide ((u8.wrap (Int.fdiv b 256))<256)) (K (i64.wrap (8+(i64.wrap (aJ (getD tJ ((u8.wrap (Int.fdiv b 256)).toNat) .nils)))))))) (aA (decide (0≤(u8.wrap b))) (aA (decide ((u8.wrap b)<256)) (K (i64.wrap (0+(i64.wrap (aJ (getD tJ ((u8.wrap b).toNat) .nils)))))))))))
def Lw:gH:=SI
def EJ:Sg:=⟨Ln,Int→Prop,fun K=>(fun r0=>K (ic r0))⟩
def yG7 (e:Es):SE:=sE (E e) [] bX
theorem yG8 (e:Es):bN (yG7 e) 6 C4 EJ SI:=fun _ _=>by kernel_rfl
theorem yG9 (e:Es) (he:EG e):bL (E e) (EJ.pw Lw) KG:=bQ he (yG8 e) (bK (aK.uni _) trivial trivial he.ok) aY.flat (bC (by kernel_rfl))
def SJ (a0:gH) (b:Int) (K:Int→Prop):Prop:=
 (a0 b (fun c=>(K (i64.wrap (64-c)))))
def As:gH:=SJ Lw
def yrD (e:Es) (a0:gH):SE:=sE (E e) [(KG,EJ.pw a0)] bX
theorem yrE (e:Es) (a0):bN (yrD e a0) 6 C5 EJ (SJ a0):=fun _ _=>by kernel_rfl
theorem yrF (e:Es) (he:EG e):bL (E e) (EJ.pw As) KH:=bQ he (yrE e _) (bK (aK.uni _) ⟨(yG9 e he),trivial⟩ trivial he.ok) aY.flat (bC (by kernel_rfl))
abbrev kP:Type:=Int→Int→Int→(Int→Int→Prop)→Prop
mutual
def Lx (a0:gH) (x0:J4 (J4 (Int→Bool→Prop))) (x1:J4 (J4 (Int→Bool→Prop))):Nat→J4 (J4 (Int→Prop))
 | 0,_,_,_,_,_,_,_,_,_=>False
 | n+1,b,c,d,e,f,g,h,i,j=>
 (aB (decide (i≥4294967296)) (aB (decide ((u64.wrap (j+d))≥4294967296)) (x0 b c d e f g h (u64.wrap (i-1)) (u64.wrap (j+d)) true) (Au a0 x0 x1 n b c d e f g h (u64.wrap (i-1)) (u64.wrap (j+d)) false)) (aB (decide ((u64.wrap (i*e))>(u64.wrap ((u64.wrap (4294967296*j))+g)))) (aB (decide ((u64.wrap (j+d))≥4294967296)) (x0 b c d e f g h (u64.wrap (i-1)) (u64.wrap (j+d)) true) (Au a0 x0 x1 n b c d e f g h (u64.wrap (i-1)) (u64.wrap (j+d)) false)) (x1 b c d e f g h i j false)))
def Au (a0:gH) (x0:J4 (J4 (Int→Bool→Prop))) (x1:J4 (J4 (Int→Bool→Prop))):Nat→J4 (J4 (Int→Bool→Prop))
 | 0,_,_,_,_,_,_,_,_,_,_=>False
 | n+1,b,c,d,e,f,g,h,i,j,_=>
 (aB (decide (i≥4294967296)) (aB (decide ((u64.wrap (j+d))≥4294967296)) (x0 b c d e f g h (u64.wrap (i-1)) (u64.wrap (j+d)) true) (Au a0 x0 x1 n b c d e f g h (u64.wrap (i-1)) (u64.wrap (j+d)) false)) (aB (decide ((u64.wrap (i*e))>(u64.wrap ((u64.wrap (4294967296*j))+g)))) (aB (decide ((u64.wrap (j+d))≥4294967296)) (x0 b c d e f g h (u64.wrap (i-1)) (u64.wrap (j+d)) true) (Au a0 x0 x1 n b c d e f g h (u64.wrap (i-1)) (u64.wrap (j+d)) false)) (x1 b c d e f g h i j false)))
end
mutual
def EK (a0:gH) (x0:J4 (J4 (Int→Bool→Prop))) (x1:J4 (J4 (Int→Bool→Prop))):Nat→J4 (J4 (Int→Prop))
 | 0,_,_,_,_,_,_,_,_,_=>False
 | n+1,b,c,d,e,f,g,h,i,j=>
 (aB (decide (j≥4294967296)) (aB (decide ((u64.wrap (h+d))≥4294967296)) (x0 b c d e f g (u64.wrap (h+d)) i (u64.wrap (j-1)) true) (Av a0 x0 x1 n b c d e f g (u64.wrap (h+d)) i (u64.wrap (j-1)) false)) (aB (decide ((u64.wrap (j*e))>(u64.wrap ((u64.wrap (4294967296*h))+f)))) (aB (decide ((u64.wrap (h+d))≥4294967296)) (x0 b c d e f g (u64.wrap (h+d)) i (u64.wrap (j-1)) true) (Av a0 x0 x1 n b c d e f g (u64.wrap (h+d)) i (u64.wrap (j-1)) false)) (x1 b c d e f g h i j false)))
def Av (a0:gH) (x0:J4 (J4 (Int→Bool→Prop))) (x1:J4 (J4 (Int→Bool→Prop))):Nat→J4 (J4 (Int→Bool→Prop))
 | 0,_,_,_,_,_,_,_,_,_,_=>False
 | n+1,b,c,d,e,f,g,h,i,j,_=>
 (aB (decide (j≥4294967296)) (aB (decide ((u64.wrap (h+d))≥4294967296)) (x0 b c d e f g (u64.wrap (h+d)) i (u64.wrap (j-1)) true) (Av a0 x0 x1 n b c d e f g (u64.wrap (h+d)) i (u64.wrap (j-1)) false)) (aB (decide ((u64.wrap (j*e))>(u64.wrap ((u64.wrap (4294967296*h))+f)))) (aB (decide ((u64.wrap (h+d))≥4294967296)) (x0 b c d e f g (u64.wrap (h+d)) i (u64.wrap (j-1)) true) (Av a0 x0 x1 n b c d e f g (u64.wrap (h+d)) i (u64.wrap (j-1)) false)) (x1 b c d e f g h i j false)))
end
def SK (a0:gH) (b c d:Int) (K:Int→Int→Prop):Prop:=
 (aB (d==0) False (aB (decide (d≤b)) False (aB (b==0) (aA (!(decide (d=0))) (aA (!(decide (d=0))) (K (u64.wrap (Int.tdiv c d)) (Int.tmod c d)))) (a0 d (fun e=>(aA (!(decide ((u64.wrap e)<0))) (aA (!(decide ((u64.wrap e)<0))) (aA (!(decide ((u64.wrap (64-(u64.wrap e)))<0))) (aA (!(decide ((u64.wrap e)<0))) (aA (!(decide ((Int.fdiv (u64.wrap (d*2 ^ (min (u64.wrap e).toNat u64.bits))) 4294967296)=0))) (∃ m0:Nat,Lx a0 (fun f g h i j k l m _ _=>(aA (!(decide (h=0))) (∃ m1:Nat,EK a0 (fun q r _ _ u v _ z A _=>(aA (!(decide (r<0))) (K (u64.wrap ((u64.wrap (v*4294967296))+A)) (Int.fdiv (u64.wrap ((u64.wrap ((u64.wrap (z*4294967296))+u))-(u64.wrap (A*q)))) (2 ^ (min r.toNat u64.bits)))))) (fun q r _ _ u v _ z A _=>(aA (!(decide (r<0))) (K (u64.wrap ((u64.wrap (v*4294967296))+A)) (Int.fdiv (u64.wrap ((u64.wrap ((u64.wrap (z*4294967296))+u))-(u64.wrap (A*q)))) (2 ^ (min r.toNat u64.bits)))))) m1 f g h i l m (u64.wrap ((u64.wrap ((u64.wrap ((u64.wrap (j*4294967296))+k))-(u64.wrap (m*f))))-(u64.wrap ((u64.wrap (Int.tdiv (u64.wrap ((u64.wrap ((u64.wrap (j*4294967296))+k))-(u64.wrap (m*f)))) h))*h)))) (u64.wrap ((u64.wrap ((u64.wrap (j*4294967296))+k))-(u64.wrap (m*f)))) (u64.wrap (Int.tdiv (u64.wrap ((u64.wrap ((u64.wrap (j*4294967296))+k))-(u64.wrap (m*f)))) h))))) (fun f g h i j k l m _ _=>(aA (!(decide (h=0))) (∃ m1:Nat,EK a0 (fun q r _ _ u v _ z A _=>(aA (!(decide (r<0))) (K (u64.wrap ((u64.wrap (v*4294967296))+A)) (Int.fdiv (u64.wrap ((u64.wrap ((u64.wrap (z*4294967296))+u))-(u64.wrap (A*q)))) (2 ^ (min r.toNat u64.bits)))))) (fun q r _ _ u v _ z A _=>(aA (!(decide (r<0))) (K (u64.wrap ((u64.wrap (v*4294967296))+A)) (Int.fdiv (u64.wrap ((u64.wrap ((u64.wrap (z*4294967296))+u))-(u64.wrap (A*q)))) (2 ^ (min r.toNat u64.bits)))))) m1 f g h i l m (u64.wrap ((u64.wrap ((u64.wrap ((u64.wrap (j*4294967296))+k))-(u64.wrap (m*f))))-(u64.wrap ((u64.wrap (Int.tdiv (u64.wrap ((u64.wrap ((u64.wrap (j*4294967296))+k))-(u64.wrap (m*f)))) h))*h)))) (u64.wrap ((u64.wrap ((u64.wrap (j*4294967296))+k))-(u64.wrap (m*f)))) (u64.wrap (Int.tdiv (u64.wrap ((u64.wrap ((u64.wrap (j*4294967296))+k))-(u64.wrap (m*f)))) h))))) m0 (u64.wrap (d*2 ^ (min (u64.wrap e).toNat u64.bits))) (u64.wrap e) (Int.fdiv (u64.wrap (d*2 ^ (min (u64.wrap e).toNat u64.bits))) 4294967296) (u64.wrap (BitVec.ofInt u64.bits (u64.wrap (d*2 ^ (min (u64.wrap e).toNat u64.bits)))&&&BitVec.ofInt u64.bits 4294967295).toNat) (u64.wrap (BitVec.ofInt u64.bits (u64.wrap (b*2 ^ (min (u64.wrap e).toNat u64.bits)))|||BitVec.ofInt u64.bits (Int.fdiv c (2 ^ (min (u64.wrap (64-(u64.wrap e))).toNat u64.bits)))).toNat) (Int.fdiv (u64.wrap (c*2 ^ (min (u64.wrap e).toNat u64.bits))) 4294967296) (u64.wrap (BitVec.ofInt u64.bits (u64.wrap (c*2 ^ (min (u64.wrap e).toNat u64.bits)))&&&BitVec.ofInt u64.bits 4294967295).toNat) (u64.wrap (Int.tdiv (u64.wrap (BitVec.ofInt u64.bits (u64.wrap (b*2 ^ (min (u64.wrap e).toNat u64.bits)))|||BitVec.ofInt u64.bits (Int.fdiv c (2 ^ (min (u64.wrap (64-(u64.wrap e))).toNat u64.bits)))).toNat) (Int.fdiv (u64.wrap (d*2 ^ (min (u64.wrap e).toNat u64.bits))) 4294967296))) (u64.wrap ((u64.wrap (BitVec.ofInt u64.bits (u64.wrap (b*2 ^ (min (u64.wrap e).toNat u64.bits)))|||BitVec.ofInt u64.bits (Int.fdiv c (2 ^ (min (u64.wrap (64-(u64.wrap e))).toNat u64.bits)))).toNat)-(u64.wrap ((u64.wrap (Int.tdiv (u64.wrap (BitVec.ofInt u64.bits (u64.wrap (b*2 ^ (min (u64.wrap e).toNat u64.bits)))|||BitVec.ofInt u64.bits (Int.fdiv c (2 ^ (min (u64.wrap (64-(u64.wrap e))).toNat u64.bits)))).toNat) (Int.fdiv (u64.wrap (d*2 ^ (min (u64.wrap e).toNat u64.bits))) 4294967296)))*(Int.fdiv (u64.wrap (d*2 ^ (min (u64.wrap e).toNat u64.bits))) 4294967296))))))))))))))))
def Aw:kP:=SK As
def Ly:Sg:=⟨(lC pt2 qE),Int→Int→Prop,fun K=>(fun r0 r1=>K (.tup [(.int .u64 r0),(.int .u64 r1)]))⟩
def K3 (Q:Qx):J4 (J4 (Int→Bool→Prop )):=(fun b c d e f g h i j k=>Q (.exit 0) [(2,.v (.int .u64 b)),(8,.v (.int .u64 c)),(9,.v (.int .u64 d)),(10,.v (.int .u64 e)),(11,.v (.int .u64 f)),(13,.v (.int .u64 g)),(14,.v (.int .u64 h)),(15,.v (.int .u64 i)),(16,.v (.int .u64 j)),(85,.v (.bool k))] [])
def K4 (Q:Qx):J4 (J4 (Int→Bool→Prop )):=(fun b c d e f g h i j k=>Q (.exit 0) [(2,.v (.int .u64 b)),(8,.v (.int .u64 c)),(9,.v (.int .u64 d)),(10,.v (.int .u64 e)),(11,.v (.int .u64 f)),(13,.v (.int .u64 g)),(14,.v (.int .u64 h)),(15,.v (.int .u64 i)),(16,.v (.int .u64 j)),(78,.v (.bool k))] [])
def K5 (Q:Qx):J4 (J4 (Int→Bool→Prop )):=(fun b c d e f g h i j k=>Q (.exit 2) [(2,.v (.int .u64 b)),(8,.v (.int .u64 c)),(9,.v (.int .u64 d)),(10,.v (.int .u64 e)),(14,.v (.int .u64 f)),(15,.v (.int .u64 g)),(16,.v (.int .u64 h)),(17,.v (.int .u64 i)),(18,.v (.int .u64 j)),(120,.v (.bool k))] [])
def K6 (Q:Qx):J4 (J4 (Int→Bool→Prop )):=(fun b c d e f g h i j k=>Q (.exit 2) [(2,.v (.int .u64 b)),(8,.v (.int .u64 c)),(9,.v (.int .u64 d)),(10,.v (.int .u64 e)),(14,.v (.int .u64 f)),(15,.v (.int .u64 g)),(16,.v (.int .u64 h)),(17,.v (.int .u64 i)),(18,.v (.int .u64 j)),(113,.v (.bool k))] [])
def K7 (a0:gH) (Q:Qx):List St:=[⟨(pS hN (fV 2 pt2 (fV 8 pt2 (fV 9 pt2 (fV 10 pt2 (fV 11 pt2 (fV 13 pt2 (fV 14 pt2 (fV 15 pt2 (fV 16 pt2 fN))))))))) fN),Lx a0 (K3 Q) (K4 Q)⟩,⟨(pS hN (fV 2 pt2 (fV 8 pt2 (fV 9 pt2 (fV 10 pt2 (fV 11 pt2 (fV 13 pt2 (fV 14 pt2 (fV 15 pt2 (fV 16 pt2 (fV 85 vB fN)))))))))) fN),Au a0 (K3 Q) (K4 Q)⟩]
def K8 (a0:gH) (Q:Qx):List St:=[⟨(pS hN (fV 2 pt2 (fV 8 pt2 (fV 9 pt2 (fV 10 pt2 (fV 14 pt2 (fV 15 pt2 (fV 16 pt2 (fV 17 pt2 (fV 18 pt2 fN))))))))) fN),EK a0 (K5 Q) (K6 Q)⟩,⟨(pS hN (fV 2 pt2 (fV 8 pt2 (fV 9 pt2 (fV 10 pt2 (fV 14 pt2 (fV 15 pt2 (fV 16 pt2 (fV 17 pt2 (fV 18 pt2 (fV 120 vB fN)))))))))) fN),Av a0 (K5 Q) (K6 Q)⟩]
def SM (a0:gH):LP:=gL [(60530100,K7 a0),(60530101,K8 a0)]
def Lz (e:Es) (a0:gH):SE:=sE (E e) [(KH,EJ.pw a0)] (SM a0)
theorem SN (e:Es) (he:EG e):SEOk (Uni (E e)) (Lz e As):=bK (aK.uni _) ⟨(yrF e he),trivial⟩ trivial he.ok
theorem yzW (e:Es) (a0):fY (Lz e a0) 5 a PD false (K7 a0):=fun _=>⟨fun _=>by kernel_rfl,fun _ _=>by kernel_rfl,fun _=>by kernel_rfl,fun _ _=>by kernel_rfl,trivial⟩
theorem yzX (e:Es) (he:EG e):dF (Uni (E e)) (SM As) [] 60530100 (.loop 60530100 PD):=fun _ _ _=>cA.st (aK.uni _) (cU (SN e he) 5) (cH.no _ _) (bC (by kernel_rfl)) (yzW e _ _)
theorem yzY (e:Es) (a0):fY (Lz e a0) 5 a PE false (K8 a0):=fun _=>⟨fun _=>by kernel_rfl,fun _ _=>by kernel_rfl,fun _=>by kernel_rfl,fun _ _=>by kernel_rfl,trivial⟩
theorem yzZ (e:Es) (he:EG e):dF (Uni (E e)) (SM As) [] 60530101 (.loop 60530101 PE):=fun _ _ _=>cA.st (aK.uni _) (cU (SN e he) 5) (cH.no _ _) (bC (by kernel_rfl)) (yzY e _ _)
theorem yHb (e:Es) (a0):bN (Lz e a0) 6 Lf Ly (SK a0):=fun _ _=>by kernel_rfl
theorem K9 (e:Es) (he:EG e):bL (E e) (Ly.pw Aw) Hf:=bQ he (yHb e _) (SN e he) aY.flat (dT (l:=[(60530100,.loop 60530100 PD),(60530101,.loop 60530101 PE)]) ⟨yzX e he,yzZ e he,trivial⟩ (by kernel_rfl))
abbrev SO:Type:=Int→Int→Int→(Int→Prop)→Prop
def SP (a0:kP) (b c d:Int) (K:Int→Prop):Prop:=
 (aA (!(decide (d=0))) (a0 (Int.tmod b d) c d (fun _ f=>(K f))))
def BT:SO:=SP Aw
def SQ:Sg:=⟨(lC pt2 qE),Int→Prop,fun K=>(fun r0=>K (.int .u64 r0))⟩
def yHd (e:Es) (a0:kP):SE:=sE (E e) [(Hf,Ly.pw a0)] bX
theorem yHe (e:Es) (a0):bN (yHd e a0) 6 C6 SQ (SP a0):=fun _ _=>by kernel_rfl
theorem yHf (e:Es) (he:EG e):bL (E e) (SQ.pw BT) KI:=bQ he (yHe e _) (bK (aK.uni _) ⟨(K9 e he),trivial⟩ trivial he.ok) aY.flat (bC (by kernel_rfl))
def SR (a0:lA) (a1:dL) (a2:gH) (a3:mW) (a4:I7) (a5:SO) (a6:kP) (a7:HN) (a8:I8) (b c d e:Int) (K:Int→Int→Int→Prop):Prop:=
 (a0 b c d e (fun f=>(aB (f !=0) (K 0 0 f) (a1 (u64.wrap c) (u64.wrap e) (fun g=>(a2 b (fun h=>(aA (!(decide (g=0))) (a3 h (u64.wrap (Int.tdiv (u64.wrap e) g)) (fun i j=>(a2 d (fun k=>(aA (!(decide (g=0))) (a3 k (u64.wrap (Int.tdiv (u64.wrap c) g)) (fun l m=>(aB ((decide (b<0)) ==(decide (d<0))) (a4 j m 0 (fun o p=>(a4 i l p (fun q _=>(aB (q==0) (aB (o==0) (K 0 1 0) (a5 q o g (fun s=>(a1 s g (fun t=>(aB (decide (q≥t)) (K 0 0 16) (a6 q o t (fun u _=>(aA (!(decide (g=0))) (aA (!(decide (t=0))) (a3 (u64.wrap (Int.tdiv (u64.wrap c) g)) (u64.wrap (Int.tdiv (u64.wrap e) t)) (fun w z=>(aB (decide (w>0)) (K 0 0 16) (a7 (decide (b<0)) u z K)))))))))))))) (a5 q o g (fun s=>(a1 s g (fun t=>(aB (decide (q≥t)) (K 0 0 16) (a6 q o t (fun u _=>(aA (!(decide (g=0))) (aA (!(decide (t=0))) (a3 (u64.wrap (Int.tdiv (u64.wrap c) g)) (u64.wrap (Int.tdiv (u64.wrap e) t)) (fun w z=>(aB (decide (w>0)) (K 0 0 16) (a7 (decide (b<0)) u z K)))))))))))))))))) (aB (decide (i<l)) (a8 m j 0 (fun o p=>(a8 l i p (fun q _=>(aB (q==0) (aB (o==0) (K 0 1 0) (a5 q o g (fun s=>(a1 s g (fun t=>(aB (decide (q≥t)) (K 0 0 16) (a6 q o t (fun u _=>(aA (!(decide (g=0))) (aA (!(decide (t=0))) (a3 (u64.wrap (Int.tdiv (u64.wrap c) g)) (u64.wrap (Int.tdiv (u64.wrap e) t)) (fun w z=>(aB (decide (w>0)) (K 0 0 16) (a7 (!(decide (b<0))) u z K)))))))))))))) (a5 q o g (fun s=>(a1 s g (fun t=>(aB (decide (q≥t)) (K 0 0 16) (a6 q o t (fun u _=>(aA (!(decide (g=0))) (aA (!(decide (t=0))) (a3 (u64.wrap (Int.tdiv (u64.wrap c) g)) (u64.wrap (Int.tdiv (u64.wrap e) t)) (fun w z=>(aB (decide (w>0)) (K 0 0 16) (a7 (!(decide (b<0))) u z K)))))))))))))))))) (aB (i==l) (aB (decide (j<m)) (a8 m j 0 (fun o p=>(a8 l i p (fun q _=>(aB (q==0) (aB (o==0) (K 0 1 0) (a5 q o g (fun s=>(a1 s g (fun t=>(aB (decide (q≥t)) (K 0 0 16) (a6 q o t (fun u _=>(aA (!(decide (g=0))) (aA (!(decide (t=0))) (a3 (u64.wrap (Int.tdiv (u64.wrap c) g)) (u64.wrap (Int.tdiv (u64.wrap e) t)) (fun w z=>(aB (decide (w>0)) (K 0 0 16) (a7 (!(decide (b<0))) u z K)))))))))))))) (a5 q o g (fun s=>(a1 s g (fun t=>(aB (decide (q≥t)) (K 0 0 16) (a6 q o t (fun u _=>(aA (!(decide (g=0))) (aA (!(decide (t=0))) (a3 (u64.wrap (Int.tdiv (u64.wrap c) g)) (u64.wrap (Int.tdiv (u64.wrap e) t)) (fun w z=>(aB (decide (w>0)) (K 0 0 16) (a7 (!(decide (b<0))) u z K)))))))))))))))))) (a8 j m 0 (fun o p=>(a8 i l p (fun q _=>(aB (q==0) (aB (o==0) (K 0 1 0) (a5 q o g (fun s=>(a1 s g (fun t=>(aB (decide (q≥t)) (K 0 0 16) (a6 q o t (fun u _=>(aA (!(decide (g=0))) (aA (!(decide (t=0))) (a3 (u64.wrap (Int.tdiv (u64.wrap c) g)) (u64.wrap (Int.tdiv (u64.wrap e) t)) (fun w z=>(aB (decide (w>0)) (K 0 0 16) (a7 (decide (b<0)) u z K)))))))))))))) (a5 q o g (fun s=>(a1 s g (fun t=>(aB (decide (q≥t)) (K 0 0 16) (a6 q o t (fun u _=>(aA (!(decide (g=0))) (aA (!(decide (t=0))) (a3 (u64.wrap (Int.tdiv (u64.wrap c) g)) (u64.wrap (Int.tdiv (u64.wrap e) t)) (fun w z=>(aB (decide (w>0)) (K 0 0 16) (a7 (decide (b<0)) u z K))))))))))))))))))) (a8 j m 0 (fun o p=>(a8 i l p (fun q _=>(aB (q==0) (aB (o==0) (K 0 1 0) (a5 q o g (fun s=>(a1 s g (fun t=>(aB (decide (q≥t)) (K 0 0 16) (a6 q o t (fun u _=>(aA (!(decide (g=0))) (aA (!(decide (t=0))) (a3 (u64.wrap (Int.tdiv (u64.wrap c) g)) (u64.wrap (Int.tdiv (u64.wrap e) t)) (fun w z=>(aB (decide (w>0)) (K 0 0 16) (a7 (decide (b<0)) u z K)))))))))))))) (a5 q o g (fun s=>(a1 s g (fun t=>(aB (decide (q≥t)) (K 0 0 16) (a6 q o t (fun u _=>(aA (!(decide (g=0))) (aA (!(decide (t=0))) (a3 (u64.wrap (Int.tdiv (u64.wrap c) g)) (u64.wrap (Int.tdiv (u64.wrap e) t)) (fun w z=>(aB (decide (w>0)) (K 0 0 16) (a7 (decide (b<0)) u z K))))))))))))))))))))))))))))))))))))
def nI:cQ:=SR Aq tO BQ xQ Ed BT Aw Ar Ee
def yCZ (e:Es) (a0:lA) (a1:dL) (a2:gH) (a3:mW) (a4:I7) (a5:SO) (a6:kP) (a7:HN) (a8:I8):SE:=sE (E e) [(Ai,qH.pw a0),(Em,vZ.pw a1),(BC,rV.pw a2),(En,HM.pw a3),(BG,OO a4),(KI,SQ.pw a5),(Hf,Ly.pw a6),(Hd,Lq.pw a7),(BH,OP a8)] bX
theorem yC0 (e:Es) (a0 a1 a2 a3 a4 a5 a6 a7 a8):bN (yCZ e a0 a1 a2 a3 a4 a5 a6 a7 a8) 6 C7 yeb (SR a0 a1 a2 a3 a4 a5 a6 a7 a8):=fun _ _=>by kernel_rfl
theorem HO (e:Es) (he:EG e):bL (E e) (yeb.pw nI) BI:=bQ he (yC0 e _ _ _ _ _ _ _ _ _) (bK (aK.uni _) ⟨(HL e he),(Sf e he),(Lm e he),(So e he),(zb e he),(yHf e he),(K9 e he),(J8 e he),(zc e he),trivial⟩ trivial he.ok) aY.flat (bC (by kernel_rfl))
def SS (a0:lA) (a1:cQ) (b c d e:Int) (K:Int→Int→Int→Prop):Prop:=
 (a0 b c d e (fun f=>(aB (f !=0) (K 0 0 f) (a1 b c (i64.wrap (0-d)) e K))))
def yaF:cQ:=SS Aq nI
def yC1 (e:Es) (a0:lA) (a1:cQ):SE:=sE (E e) [(Ai,qH.pw a0),(BI,yeb.pw a1)] bX
theorem yC2 (e:Es) (a0 a1):bN (yC1 e a0 a1) 6 C8 yeb (SS a0 a1):=fun _ _=>by kernel_rfl
theorem EL (e:Es) (he:EG e):bL (E e) (yeb.pw yaF) Aj:=bQ he (yC2 e _ _) (bK (aK.uni _) ⟨(HL e he),(HO e he),trivial⟩ trivial he.ok) aY.flat (bC (by kernel_rfl))
def ST (a0:lA) (a1:cQ) (b c d e:Int) (K:Int→Int→Int→Prop):Prop:=
 (a0 b c d e (fun f=>(aB (f !=0) (K 0 0 f) (aB (d==0) (K 0 0 18) (aB (decide (d<0)) (a1 b c (i64.wrap (0-e)) (i64.wrap (0-d)) K) (a1 b c e d K))))))
def tR:cQ:=ST Aq ya7
def yC3 (e:Es) (a0:lA) (a1:cQ):SE:=sE (E e) [(Ai,qH.pw a0),(rQ,yeb.pw a1)] bX
theorem yC4 (e:Es) (a0 a1):bN (yC3 e a0 a1) 6 C9 yeb (ST a0 a1):=fun _ _=>by kernel_rfl
theorem SU (e:Es) (he:EG e):bL (E e) (yeb.pw tR) Hg:=bQ he (yC4 e _ _) (bK (aK.uni _) ⟨(HL e he),(BR e he),trivial⟩ trivial he.ok) aY.flat (bC (by kernel_rfl))
set_option linter.unusedVariables false
theorem yxU (p0 p1 r0:Int) (h:∀ K:Int→Prop,K r0→qF p0 p1 K) (K:Int→Prop):qF p0 p1 K=K r0:=
 Aab ⟨fun k=>cI (HK [] dQ) (az:=[(.agg [(ic p0),(ic p1)])]) (x:=(ic r0)) (fun K' k'=>h (fun r0=>K' (ic r0)) k') (K:=fun x=>match x with | (ic r0)=>K r0 | _=>False) k,h K⟩
theorem yAP (p0 p1 p2 p3 r0 r1 r2:Int) (h:∀ K:Int→Int→Int→Prop,K r0 r1 r2→ya7 p0 p1 p2 p3 K) (K:Int→Int→Int→Prop):ya7 p0 p1 p2 p3 K=K r0 r1 r2:=
 Aab ⟨fun k=>cI (BR [] dQ) (az:=[(.agg [(ic p0),(ic p1)]),(.agg [(ic p2),(ic p3)])]) (x:=(.tup [(.agg [(ic r0),(ic r1)]),(ic r2)])) (fun K' k'=>h (fun r0 r1 r2=>K' (.tup [(.agg [(ic r0),(ic r1)]),(ic r2)])) k') (K:=fun x=>match x with | (.tup [(.agg [(ic r0),(ic r1)]),(ic r2)])=>K r0 r1 r2 | _=>False) k,h K⟩
theorem yAQ (p0 p1 p2 p3 r0 r1:Int) (h:∀ K:Int→Int→Prop,K r0 r1→tQ p0 p1 p2 p3 K) (K:Int→Int→Prop):tQ p0 p1 p2 p3 K=K r0 r1:=
 Aab ⟨fun k=>cI (SH [] dQ) (az:=[(.agg [(ic p0),(ic p1)]),(.agg [(ic p2),(ic p3)])]) (x:=(.tup [(ic r0),(ic r1)])) (fun K' k'=>h (fun r0 r1=>K' (.tup [(ic r0),(ic r1)])) k') (K:=fun x=>match x with | (.tup [(ic r0),(ic r1)])=>K r0 r1 | _=>False) k,h K⟩
theorem yAR (p0 p1 p2 p3 r0 r1 r2:Int) (h:∀ K:Int→Int→Int→Prop,K r0 r1 r2→nI p0 p1 p2 p3 K) (K:Int→Int→Int→Prop):nI p0 p1 p2 p3 K=K r0 r1 r2:=
 Aab ⟨fun k=>cI (HO [] dQ) (az:=[(.agg [(ic p0),(ic p1)]),(.agg [(ic p2),(ic p3)])]) (x:=(.tup [(.agg [(ic r0),(ic r1)]),(ic r2)])) (fun K' k'=>h (fun r0 r1 r2=>K' (.tup [(.agg [(ic r0),(ic r1)]),(ic r2)])) k') (K:=fun x=>match x with | (.tup [(.agg [(ic r0),(ic r1)]),(ic r2)])=>K r0 r1 r2 | _=>False) k,h K⟩
theorem yAS (p0 p1 p2 p3 r0 r1 r2:Int) (h:∀ K:Int→Int→Int→Prop,K r0 r1 r2→yaF p0 p1 p2 p3 K) (K:Int→Int→Int→Prop):yaF p0 p1 p2 p3 K=K r0 r1 r2:=
 Aab ⟨fun k=>cI (EL [] dQ) (az:=[(.agg [(ic p0),(ic p1)]),(.agg [(ic p2),(ic p3)])]) (x:=(.tup [(.agg [(ic r0),(ic r1)]),(ic r2)])) (fun K' k'=>h (fun r0 r1 r2=>K' (.tup [(.agg [(ic r0),(ic r1)]),(ic r2)])) k') (K:=fun x=>match x with | (.tup [(.agg [(ic r0),(ic r1)]),(ic r2)])=>K r0 r1 r2 | _=>False) k,h K⟩
theorem yAT (p0 p1 p2 p3 r0 r1 r2:Int) (h:∀ K:Int→Int→Int→Prop,K r0 r1 r2→tR p0 p1 p2 p3 K) (K:Int→Int→Int→Prop):tR p0 p1 p2 p3 K=K r0 r1 r2:=
 Aab ⟨fun k=>cI (SU [] dQ) (az:=[(.agg [(ic p0),(ic p1)]),(.agg [(ic p2),(ic p3)])]) (x:=(.tup [(.agg [(ic r0),(ic r1)]),(ic r2)])) (fun K' k'=>h (fun r0 r1 r2=>K' (.tup [(.agg [(ic r0),(ic r1)]),(ic r2)])) k') (K:=fun x=>match x with | (.tup [(.agg [(ic r0),(ic r1)]),(ic r2)])=>K r0 r1 r2 | _=>False) k,h K⟩
def EM (x0:Ls→Int→Int→Bool→Prop):Nat→Ls→Int→Int→Prop
 | 0,_,_,_=>False
 | n+1,b,c,d=>
 (aB (decide (d<(((length b):Nat):Int))) (aA (decide (0≤d)) (aA (decide (d<(((length b):Nat):Int))) (aA (aI zI (getD b (d.toNat) .nils)) (EM x0 n b (if (aJ (getD b (d.toNat) .nils))<c then (aJ (getD b (d.toNat) .nils)) else c) (i64.wrap (d+1)))))) (x0 b c d false))
def SV (b:Ls) (K:Int→Prop):Prop:=
 (aB (decide ((((length b):Nat):Int)<1)) False (aA (decide (0<(((length b):Nat):Int))) (aA (aI zI (getD b 0 .nils)) (∃ n:Nat,EM (fun c d e f=>(K d)) n b (aJ (getD b 0 .nils)) 1))))
def EN:qG:=SV
def yrG (Q:Qx):Ls→Int→Int→Bool→Prop:=(fun b c d e=>Q (.exit 0) [(0,.v (.data b)),(3,.v (ic c)),(4,.v (ic d)),(15,.v (.bool e))] [])
def qI:Pat aD:=fV 4 cB fN
def HP:Pat pZ:=pS hN (fV 0 vD (fV 3 cB qI)) fN
def L6 (Q:Qx):List St:=[⟨HP,EM (yrG Q)⟩]
def L7:LP:=gL [(10434000,L6)]
def SW (e:Es):SE:=sE (E e) [] (L7)
theorem L8 (e:Es) (he:EG e):SEOk (Uni (E e)) (SW e):=bK (aK.uni _) trivial trivial he.ok
theorem yql (e:Es):fY (SW e) 5 a Pn false (L6):=fun _=>⟨fun _=>by kernel_rfl,fun _ _=>by kernel_rfl,trivial⟩
theorem yqm (e:Es) (he:EG e):dF (Uni (E e)) (L7) [] 10434000 (.loop 10434000 Pn):=fun _ _ _=>cA.st (aK.uni _) (cU (L8 e he) 5) (cH.no _ _) (bC (by kernel_rfl)) (yql e _)
theorem ywl (e:Es):bN (SW e) 6 Pm rW SV:=fun _ _=>by kernel_rfl
theorem ywm (e:Es) (he:EG e):bL (E e) (rW.pw EN) Kw:=bQ he (ywl e) (L8 e he) aY.flat (dT (l:=[(10434000,.loop 10434000 Pn)]) ⟨yqm e he,trivial⟩ (by kernel_rfl))
def EQ (x0:Ls→Int→Int→Bool→Prop):Nat→Ls→Int→Int→Prop
 | 0,_,_,_=>False
 | n+1,b,c,d=>
 (aB (decide (d<(((length b):Nat):Int))) (aA (decide (0≤d)) (aA (decide (d<(((length b):Nat):Int))) (aA (aI zI (getD b (d.toNat) .nils)) (EQ x0 n b (if (aJ (getD b (d.toNat) .nils))>c then (aJ (getD b (d.toNat) .nils)) else c) (i64.wrap (d+1)))))) (x0 b c d false))
def SX (b:Ls) (K:Int→Prop):Prop:=
 (aB (decide ((((length b):Nat):Int)<1)) False (aA (decide (0<(((length b):Nat):Int))) (aA (aI zI (getD b 0 .nils)) (∃ n:Nat,EQ (fun c d e f=>(K d)) n b (aJ (getD b 0 .nils)) 1))))
def ER:qG:=SX
def yrH (Q:Qx):Ls→Int→Int→Bool→Prop:=(fun b c d e=>Q (.exit 0) [(0,.v (.data b)),(3,.v (ic c)),(4,.v (ic d)),(15,.v (.bool e))] [])
def L9 (Q:Qx):List St:=[⟨HP,EQ (yrH Q)⟩]
def M2:LP:=gL [(64079100,L9)]
def SY (e:Es):SE:=sE (E e) [] (M2)
theorem M3 (e:Es) (he:EG e):SEOk (Uni (E e)) (SY e):=bK (aK.uni _) trivial trivial he.ok
theorem yqn (e:Es):fY (SY e) 5 a Pp false (L9):=fun _=>⟨fun _=>by kernel_rfl,fun _ _=>by kernel_rfl,trivial⟩
theorem yqo (e:Es) (he:EG e):dF (Uni (E e)) (M2) [] 64079100 (.loop 64079100 Pp):=fun _ _ _=>cA.st (aK.uni _) (cU (M3 e he) 5) (cH.no _ _) (bC (by kernel_rfl)) (yqn e _)
theorem ywn (e:Es):bN (SY e) 6 Po rW SX:=fun _ _=>by kernel_rfl
theorem ywo (e:Es) (he:EG e):bL (E e) (rW.pw ER) Kx:=bQ he (ywn e) (M3 e he) aY.flat (dT (l:=[(64079100,.loop 64079100 Pp)]) ⟨yqo e he,trivial⟩ (by kernel_rfl))
abbrev bY:Type:=Int→Ls→Ls→(Int→Prop)→Prop
def ES (a0 a1:qG) (x0:Int→Prop) (x1:Int→Ls→Ls→Int→Int→Bool→Prop):Nat→Int→Ls→Ls→Int→Int→Prop
 | 0,_,_,_,_,_=>False
 | n+1,b,c,d,e,f=>
 (aB (decide (f<e)) (aA (decide (0≤f)) (aA (decide (f<(((length c):Nat):Int))) (aA (aI zI (getD c (f.toNat) .nils)) (aA (decide (0≤(i64.wrap (f+1)))) (aA (decide ((i64.wrap (f+1))<(((length c):Nat):Int))) (aA (aI zI (getD c ((i64.wrap (f+1)).toNat) .nils)) (aB (decide ((aJ (getD c (f.toNat) .nils))≥(aJ (getD c ((i64.wrap (f+1)).toNat) .nils)))) (x0 8) (ES a0 a1 x0 x1 n b c d e (i64.wrap (f+1)))))))))) (x1 b c d e f false))
def Ta (a0 a1:qG) (b:Int) (c d:Ls) (K:Int→Prop):Prop:=
 (aB (decide (b>1000)) (K 4) (aB (decide ((((length c):Nat):Int)>40)) (K 4) (aB (decide (b<1)) (K 8) (aB (decide ((((length c):Nat):Int)<2)) (K 8) (aB ((((length d):Nat):Int) !=(i64.wrap ((((length c):Nat):Int)-1))) (K 8) (aA (decide (0<(((length c):Nat):Int))) (aA (aI zI (getD c 0 .nils)) (aB ((aJ (getD c 0 .nils)) !=0) (K 8) (aA (decide (0≤(i64.wrap ((((length c):Nat):Int)-1)))) (aA (decide ((i64.wrap ((((length c):Nat):Int)-1))<(((length c):Nat):Int))) (aA (aI zI (getD c ((i64.wrap ((((length c):Nat):Int)-1)).toNat) .nils)) (aB ((aJ (getD c ((i64.wrap ((((length c):Nat):Int)-1)).toNat) .nils)) !=b) (K 8) (∃ n:Nat,ES a0 a1 K (fun e f g h i j=>(a0 g (fun k=>(aB (decide (k<0)) (K 8) (a1 g (fun l=>(aB (decide (l>12)) (K 8) (a1 g (fun m=>(aB (m==0) (K 8) (K 0))))))))))) n b c d (i64.wrap ((((length c):Nat):Int)-1)) 0)))))))))))))
def jE:bY:=Ta EN ER
def xR:jP:=lC vD Lp
def gA:iS:=vA (lC cB xR)
def tS:jP:=lC gA lN
def oD:Sg:=⟨tS,Int→Prop,fun K=>(fun r0=>K (ic r0))⟩
def ywp (Q:Qx):Int→Prop:=(fun b=>Q .ret [(2,.v (ic b))] [])
def ywq (Q:Qx):Int→Ls→Ls→Int→Int→Bool→Prop:=(fun b c d e f g=>Q (.exit 0) [(1,.box (.agg [(ic b),(.data c),(.data d)])),(49,.v (ic e)),(50,.v (ic f)),(51,.v (.bool g))] [])
def M4 (a0 a1:qG) (Q:Qx):List St:=[⟨(pS hN (fX 1 gA (fV 49 cB (fV 50 cB fN))) fN),ES a0 a1 (ywp Q) (ywq Q)⟩]
def M5 (a0 a1:qG):LP:=gL [(87419700,M4 a0 a1)]
def Tb (e:Es) (a0 a1:qG):SE:=sE (E e) [(Kw,rW.pw a0),(Kx,rW.pw a1)] (M5 a0 a1)
theorem M6 (e:Es) (he:EG e):SEOk (Uni (E e)) (Tb e EN ER):=bK (aK.uni _) ⟨(ywm e he),(ywo e he),trivial⟩ trivial he.ok
theorem yu0 (e:Es) (a0 a1):fY (Tb e a0 a1) 5 a Pr false (M4 a0 a1):=fun _=>⟨fun _=>by kernel_rfl,fun _ _=>by kernel_rfl,trivial⟩
theorem yu1 (e:Es) (he:EG e):dF (Uni (E e)) (M5 EN ER) [] 87419700 (.loop 87419700 Pr):=fun _ _ _=>cA.st (aK.uni _) (cU (M6 e he) 5) (cH.no _ _) (bC (by kernel_rfl)) (yu0 e _ _ _)
theorem yAU (e:Es) (a0 a1):bN (Tb e a0 a1) 6 Pq oD (Ta a0 a1):=fun _ _=>by kernel_rfl
theorem ET (e:Es) (he:EG e):bL (E e) (oD.pw jE) Ag:=bQ he (yAU e _ _) (M6 e he) aY.flat (dT (l:=[(87419700,.loop 87419700 Pr)]) ⟨yu1 e he,trivial⟩ (by kernel_rfl))
abbrev Tc:Type:=Int→Ls→Ls→(Int→Int→Prop)→Prop
def EU (a0:bY) (x0:Int→Ls→Ls→Int→Ls→Int→Int→Bool→Prop):Nat→Int→Ls→Ls→Int→Ls→Int→Int→Prop
 | 0,_,_,_,_,_,_,_=>False
 | n+1,b,c,d,e,f,g,h=>
 (aB (decide (h<g)) (aA (decide (0≤h)) (aA (decide (h<(((length f):Nat):Int))) (aA (aI zI (getD f (h.toNat) .nils)) (aA (decide (0≤(i64.wrap (h+1)))) (aA (decide ((i64.wrap (h+1))<(((length c):Nat):Int))) (aA (aI zI (getD c ((i64.wrap (h+1)).toNat) .nils)) (aA (decide (0≤h)) (aA (decide (h<(((length c):Nat):Int))) (aA (aI zI (getD c (h.toNat) .nils)) (EU a0 x0 n b c d (i64.wrap (e+(i64.wrap ((aJ (getD f (h.toNat) .nils))*(i64.wrap ((aJ (getD c ((i64.wrap (h+1)).toNat) .nils))-(aJ (getD c (h.toNat) .nils)))))))) f g (i64.wrap (h+1)))))))))))) (x0 b c d e f g h false))
def LA (a0:bY) (b:Int) (c d:Ls) (K:Int→Int→Prop):Prop:=
 (a0 b c d (fun e=>(aB (e !=0) (K 0 e) (∃ n:Nat,EU a0 (fun f g h i j k l m=>(K i 0)) n b c d 0 d (((length d):Nat):Int) 0))))
def BU:Tc:=LA jE
def Td:Sg:=⟨tS,Int→Int→Prop,fun K=>(fun r0 r1=>K (.tup [(ic r0),(ic r1)]))⟩
def ywr (Q:Qx):Int→Ls→Ls→Int→Ls→Int→Int→Bool→Prop:=(fun b c d e f g h i=>Q (.exit 0) [(1,.box (.agg [(ic b),(.data c),(.data d)])),(5,.v (ic e)),(14,.v (.data f)),(15,.v (ic g)),(16,.v (ic h)),(17,.v (.bool i))] [])
def HQ:Pat aD:=fV 14 vD (fV 15 cB (fV 16 cB fN))
def M7 (a0:bY) (Q:Qx):List St:=[⟨(pS hN (fX 1 gA (fV 5 cB HQ)) fN),EU a0 (ywr Q)⟩]
def M8 (a0:bY):LP:=gL [(45203600,M7 a0)]
def Te (e:Es) (a0:bY):SE:=sE (E e) [(Ag,oD.pw a0)] (M8 a0)
theorem M9 (e:Es) (he:EG e):SEOk (Uni (E e)) (Te e jE):=bK (aK.uni _) ⟨(ET e he),trivial⟩ trivial he.ok
theorem yu2 (e:Es) (a0):fY (Te e a0) 5 a Pv false (M7 a0):=fun _=>⟨fun _=>by kernel_rfl,fun _ _=>by kernel_rfl,trivial⟩
theorem yu3 (e:Es) (he:EG e):dF (Uni (E e)) (M8 jE) [] 45203600 (.loop 45203600 Pv):=fun _ _ _=>cA.st (aK.uni _) (cU (M9 e he) 5) (cH.no _ _) (bC (by kernel_rfl)) (yu2 e _ _)
theorem yAW (e:Es) (a0):bN (Te e a0) 6 Pu Td (LA a0):=fun _ _=>by kernel_rfl
theorem N0 (e:Es) (he:EG e):bL (E e) (Td.pw BU) Kz:=bQ he (yAW e _) (M9 e he) aY.flat (dT (l:=[(45203600,.loop 45203600 Pv)]) ⟨yu3 e he,trivial⟩ (by kernel_rfl))
abbrev cC:Type:=Int→(Int→Int→Prop)→Prop
def N1 (b:Int) (K:Int→Int→Prop):Prop:=
 (K b 1)
def rX:cC:=N1
def lZ:Sg:=⟨pt1,Int→Int→Prop,fun K=>(fun r0 r1=>K (.agg [(ic r0),(ic r1)]))⟩
def yAX (e:Es):SE:=sE (E e) [] bX
theorem yAY (e:Es):bN (yAX e) 6 B5 lZ N1:=fun _ _=>by kernel_rfl
theorem LB (e:Es) (he:EG e):bL (E e) (lZ.pw rX) BE:=bQ he (yAY e) (bK (aK.uni _) trivial trivial he.ok) aY.flat (bC (by kernel_rfl))
abbrev bZ:Type:=J4 ((Bool→Prop)→Prop)
def Tf (a0:iY) (b c d e:Int) (K:Bool→Prop):Prop:=
 (a0 b c d e (fun f g=>(K (decide (f<0)))))
def qJ:bZ:=Tf tQ
def nJ:Sg:=⟨mV,Bool→Prop,fun K=>(fun r0=>K (.bool r0))⟩
def yC5 (e:Es) (a0:iY):SE:=sE (E e) [(He,Lv.pw a0)] bX
theorem yC6 (e:Es) (a0):bN (yC5 e a0) 6 C1 nJ (Tf a0):=fun _ _=>by kernel_rfl
theorem LC (e:Es) (he:EG e):bL (E e) (nJ.pw qJ) BF:=bQ he (yC6 e _) (bK (aK.uni _) ⟨(SH e he),trivial⟩ trivial he.ok) aY.flat (bC (by kernel_rfl))
abbrev rY:Type:=Int→Ls→Ls→Int→Int→(Bool→Prop)→Prop
def Tg (a0:dL) (a1:cC) (a2:bZ) (b:Int) (c d:Ls) (e f:Int) (K:Bool→Prop):Prop:=
 (a0 e f (fun g=>(aB (g==0) (aB (decide (e≥0)) (a1 b (fun h i=>(a2 h i e f (fun j=>(K (!j)))))) (K false)) (K false))))
def rZ:rY:=Tg qF rX qJ
def HR:Sg:=⟨(lC gA HJ),Bool→Prop,fun K=>(fun r0=>K (.bool r0))⟩
def yA0 (e:Es) (a0:dL) (a1:cC) (a2:bZ):SE:=sE (E e) [(BD,tP.pw a0),(BE,lZ.pw a1),(BF,nJ.pw a2)] bX
theorem yA1 (e:Es) (a0 a1 a2):bN (yA0 e a0 a1 a2) 6 C2 HR (Tg a0 a1 a2):=fun _ _=>by kernel_rfl
theorem Th (e:Es) (he:EG e):bL (E e) (HR.pw rZ) Eo:=bQ he (yA1 e _ _ _) (bK (aK.uni _) ⟨(HK e he),(LB e he),(LC e he),trivial⟩ trivial he.ok) aY.flat (bC (by kernel_rfl))
abbrev wA:Type:=Int→Ls→Ls→J4 ((Int→Int→Int→Prop)→Prop)
def sC (a0:bY) (a1:rY) (a2:dL) (a3:cC) (a4:bZ) (a5 a6 a7 a8:cQ) (x0:J4 (Int→Int→Prop)) (x1:J4 (Int→Int→Ls→Ls→Int→Int→Ls→Int→Int→Bool→Prop)):Nat→J4 (Int→Int→Ls→Ls→Int→Int→Ls→Int→Int→Prop)
 | 0,_,_,_,_,_,_,_,_,_,_,_,_,_=>False
 | n+1,b,c,d,e,f,g,h,i,j,k,l,m,o=>
 (aB (decide (o<m)) (aA (decide (0≤o)) (aA (decide (o<(((length l):Nat):Int))) (aA (aI zI (getD l (o.toNat) .nils)) (aA (decide (0≤(i64.wrap (o+1)))) (aA (decide ((i64.wrap (o+1))<(((length h):Nat):Int))) (aA (aI zI (getD h ((i64.wrap (o+1)).toNat) .nils)) (a3 (aJ (getD h ((i64.wrap (o+1)).toNat) .nils)) (fun p q=>(a4 j k p q (fun r=>(aB (!r) (sC a0 a1 a2 a3 a4 a5 a6 a7 a8 x0 x1 n b c d e f g h i j k l m (i64.wrap (o+1))) (a3 0 (fun s t=>(aB (decide ((aJ (getD l (o.toNat) .nils))>0)) (a5 p q j k (fun u v w=>(aB (w !=0) (x0 b c d e f w) (a3 (aJ (getD l (o.toNat) .nils)) (fun z A=>(a6 u v z A (fun B C D=>(aB (D !=0) (x0 b c d e f D) (aB ((aJ (getD l (o.toNat) .nils))==0) (sC a0 a1 a2 a3 a4 a5 a6 a7 a8 x0 x1 n b c d e f g h i p q l m (i64.wrap (o+1))) (a4 B C b c (fun E=>(aB E (a5 b c B C (fun F G H=>(aB (H !=0) (aB (H !=0) (x0 F G d e H 0) (sC a0 a1 a2 a3 a4 a5 a6 a7 a8 x0 x1 n F G d e H g h i p q l m (i64.wrap (o+1)))) (aB (H !=0) (x0 F G d e 6 0) (sC a0 a1 a2 a3 a4 a5 a6 a7 a8 x0 x1 n F G d e 6 g h i p q l m (i64.wrap (o+1))))))) (a3 (aJ (getD l (o.toNat) .nils)) (fun F G=>(a7 b c F G (fun H I J=>(aB (J==0) (a8 j k H I (fun L M N=>(x0 b c L M N 0))) (x0 b c d e J 0)))))))))))))))))) (aB ((aJ (getD l (o.toNat) .nils))==0) (sC a0 a1 a2 a3 a4 a5 a6 a7 a8 x0 x1 n b c d e f g h i p q l m (i64.wrap (o+1))) (a4 s t b c (fun u=>(aB u (a5 b c s t (fun v w z=>(aB (z !=0) (aB (z !=0) (x0 v w d e z 0) (sC a0 a1 a2 a3 a4 a5 a6 a7 a8 x0 x1 n v w d e z g h i p q l m (i64.wrap (o+1)))) (aB (z !=0) (x0 v w d e 6 0) (sC a0 a1 a2 a3 a4 a5 a6 a7 a8 x0 x1 n v w d e 6 g h i p q l m (i64.wrap (o+1))))))) (a3 (aJ (getD l (o.toNat) .nils)) (fun v w=>(a7 b c v w (fun z A B=>(aB (B==0) (a8 j k z A (fun C D E=>(x0 b c C D E 0))) (x0 b c d e B 0)))))))))))))))))))))))) (x1 b c d e f g h i j k l m o false))
def Ti (a0:bY) (a1:rY) (a2:dL) (a3:cC) (a4:bZ) (a5 a6 a7 a8:cQ) (b:Int) (c d:Ls) (e f g h:Int) (K:Int→Int→Int→Prop):Prop:=
 (a0 b c d (fun i=>(aB (i !=0) (K 0 0 i) (a1 b c d e f (fun j=>(aB (!j) (K 0 0 2) (a2 g h (fun k=>(aB (k !=0) (K 0 0 2) (aB (decide (g<0)) (K 0 0 2) (aB (g==0) (K e f 0) (∃ n:Nat,sC a0 a1 a2 a3 a4 a5 a6 a7 a8 (fun l m o p q r=>(aB (r !=0) (aB (r !=0) (K 0 0 r) (K o p 0)) (aB (q !=0) (K 0 0 q) (K o p 0)))) (fun l m o p q r s t u v w z A B=>(aB (q !=0) (K 0 0 q) (K o p 0))) n g h 0 0 6 b c d e f d (((length d):Nat):Int) 0))))))))))))
def EV:wA:=Ti jE rZ qF rX qJ yaF ya7 tR nI
def Tj:jP:=lC gA mV
def sD:Sg:=⟨Tj,Int→Int→Int→Prop,fun K=>(fun r0 r1 r2=>K (.tup [(.agg [(ic r0),(ic r1)]),(ic r2)]))⟩
def yxV (Q:Qx):J4 (Int→Int→Prop ):=(fun b c d e f g=>Q .ret [(6,.v (ic g))] [⟨false,true,2,([(.agg [(ic b),(ic c)])]:Ls)⟩,⟨false,true,2,([(.agg [(ic d),(ic e)])]:Ls)⟩,⟨false,true,1,([(ic f)]:Ls)⟩])
def yxW (Q:Qx):J4 (Int→Int→Ls→Ls→Int→Int→Ls→Int→Int→Bool→Prop ):=(fun b c d e f g h i j k l m o p=>Q (.exit 0) [(2,.v (.fn (.func Hj) [] [(.ptr 0 1 0 0),(.ptr 2 1 0 0),(.ptr 1 1 0 0)])),(3,.box (.agg [(ic g),(.data h),(.data i)])),(4,.box (.agg [(ic j),(ic k)])),(14,.v (.data l)),(15,.v (ic m)),(16,.v (ic o)),(17,.v (.bool p))] [⟨false,true,2,([(.agg [(ic b),(ic c)])]:Ls)⟩,⟨false,true,2,([(.agg [(ic d),(ic e)])]:Ls)⟩,⟨false,true,1,([(ic f)]:Ls)⟩])
def BV:HPt:=hB false true 1 (rC cB rN) hN
def gV:iS:=vP 0 0 (nK 1) (nK 0)
def N2 (a0:bY) (a1:rY) (a2:dL) (a3:cC) (a4:bZ) (a5 a6 a7 a8:cQ) (Q:Qx):List St:=[⟨(pS (hB false true 2 (rC nH rN) (hB false true 2 (rC nH rN) BV)) (fV 2 (vF Hj lN (lC gV (lC (vP 2 0 (nK 1) (nK 0)) (lC (vP 1 0 (nK 1) (nK 0)) lN)))) (fX 3 gA (fX 4 nH HQ))) fN),sC a0 a1 a2 a3 a4 a5 a6 a7 a8 (yxV Q) (yxW Q)⟩]
def Tk (a0:bY) (a1:rY) (a2:dL) (a3:cC) (a4:bZ) (a5 a6 a7 a8:cQ):LP:=gL [(41613500,N2 a0 a1 a2 a3 a4 a5 a6 a7 a8)]
def N3 (e:Es) (a0:bY) (a1:rY) (a2:dL) (a3:cC) (a4:bZ) (a5 a6 a7 a8:cQ):SE:=⟨(E e),yhr [(Ag,oD.pw a0),(Eo,HR.pw a1),(BD,tP.pw a2),(BE,lZ.pw a3),(BF,nJ.pw a4),(Aj,yeb.pw a5),(rQ,yeb.pw a6),(Hg,yeb.pw a7),(BI,yeb.pw a8)],yhs [(Hj,PF)],Tk a0 a1 a2 a3 a4 a5 a6 a7 a8,fun _=>none⟩
def N4 (e:Es) (a0:bY) (a1:rY) (a2:dL) (a3:cC) (a4:bZ) (a5 a6 a7 a8:cQ):SE:=⟨(E e),yhr [(Ag,oD.pw a0),(Eo,HR.pw a1),(BD,tP.pw a2),(BE,lZ.pw a3),(BF,nJ.pw a4),(Aj,yeb.pw a5),(rQ,yeb.pw a6),(Hg,yeb.pw a7),(BI,yeb.pw a8)],yhs [(ZT,PG),(Hj,PF)],Tk a0 a1 a2 a3 a4 a5 a6 a7 a8,fun _=>none⟩
theorem yA2 (e:Es) (he:EG e):SEOk (Uni (E e)) (N3 e jE rZ qF rX qJ yaF ya7 tR nI):=bK (aK.uni _) ⟨(ET e he),(Th e he),(HK e he),(LB e he),(LC e he),(EL e he),(BR e he),(SU e he),(HO e he),trivial⟩ ⟨⟨by kernel_rfl,by kernel_rfl,rfl,fun az=>vO (by kernel_rfl) az,he.num _ (by kernel_rfl),by kernel_rfl,(bC (by kernel_rfl))⟩,trivial⟩ he.ok
theorem yws (e:Es) (a0 a1 a2 a3 a4 a5 a6 a7 a8):fY (N3 e a0 a1 a2 a3 a4 a5 a6 a7 a8) 5 a PH false (N2 a0 a1 a2 a3 a4 a5 a6 a7 a8):=fun _=>⟨fun _=>by kernel_rfl,fun _ _=>by kernel_rfl,trivial⟩
theorem ywt (e:Es) (he:EG e):dF (Uni (E e)) (Tk jE rZ qF rX qJ yaF ya7 tR nI) [] 41613500 (.loop 41613500 PH):=fun _ _ _=>cA.st (aK.uni _) (cU (yA2 e he) 5) (cH.no _ _) (bC (by kernel_rfl)) (yws e _ _ _ _ _ _ _ _ _ _)
theorem yA3 (e:Es) (he:EG e):SEOk (Uni (E e)) (N4 e jE rZ qF rX qJ yaF ya7 tR nI):=bK (aK.uni _) ⟨(ET e he),(Th e he),(HK e he),(LB e he),(LC e he),(EL e he),(BR e he),(SU e he),(HO e he),trivial⟩ ⟨⟨by kernel_rfl,by kernel_rfl,rfl,fun az=>vO (by kernel_rfl) az,he.num _ (by kernel_rfl),by kernel_rfl,(dT (l:=[(41613500,.loop 41613500 PH)]) ⟨ywt e he,trivial⟩ (by kernel_rfl))⟩,⟨by kernel_rfl,by kernel_rfl,rfl,fun az=>vO (by kernel_rfl) az,he.num _ (by kernel_rfl),by kernel_rfl,(bC (by kernel_rfl))⟩,trivial⟩ he.ok
theorem yC7 (e:Es) (a0 a1 a2 a3 a4 a5 a6 a7 a8):bN (N4 e a0 a1 a2 a3 a4 a5 a6 a7 a8) 6 D3 sD (Ti a0 a1 a2 a3 a4 a5 a6 a7 a8):=fun _ _=>by kernel_rfl
theorem N5 (e:Es) (he:EG e):bL (E e) (sD.pw EV) KJ:=bQ he (yC7 e _ _ _ _ _ _ _ _ _) (yA3 e he) aY.flat (bC (by kernel_rfl))
def oE (a0:bY) (a1:rY) (a2:bZ) (a3:cC) (a4 a5 a6:cQ) (x0:Int→Int→Int→Prop) (x1:Int→Ls→Ls→J4 (J4 (Ls→Int→Int→Bool→Prop))):Nat→Int→Ls→Ls→J4 (J4 (Ls→Int→Int→Prop))
 | 0,_,_,_,_,_,_,_,_,_,_,_,_,_,_=>False
 | n+1,b,c,d,e,f,g,h,i,j,k,l,m,o,p=>
 (aB (decide (p<o)) (aA (decide (0≤p)) (aA (decide (p<(((length m):Nat):Int))) (aA (aI zI (getD m (p.toNat) .nils)) (aA (decide (0≤(i64.wrap (p+1)))) (aA (decide ((i64.wrap (p+1))<(((length c):Nat):Int))) (aA (aI zI (getD c ((i64.wrap (p+1)).toNat) .nils)) (a3 (aJ (getD c ((i64.wrap (p+1)).toNat) .nils)) (fun q r=>(a2 e f q r (fun s=>(aB s (aB ((aJ (getD m (p.toNat) .nils))==0) (a2 k l e f (fun t=>(aB t (oE a0 a1 a2 a3 a4 a5 a6 x0 x1 n b c d e f g h i j e f m o (i64.wrap (p+1))) (oE a0 a1 a2 a3 a4 a5 a6 x0 x1 n b c d e f g h i j k l m o (i64.wrap (p+1)))))) (a2 k l e f (fun t=>(aB (!t) (a2 k l e f (fun u=>(aB u (oE a0 a1 a2 a3 a4 a5 a6 x0 x1 n b c d e f g h i j e f m o (i64.wrap (p+1))) (oE a0 a1 a2 a3 a4 a5 a6 x0 x1 n b c d e f g h i j k l m o (i64.wrap (p+1)))))) (a4 e f k l (fun u v w=>(aB (w !=0) (x0 0 0 w) (a3 (aJ (getD m (p.toNat) .nils)) (fun z A=>(a5 u v z A (fun B C D=>(aB (D !=0) (x0 0 0 D) (a6 i j B C (fun E F G=>(aB (G !=0) (x0 0 0 G) (oE a0 a1 a2 a3 a4 a5 a6 x0 x1 n b c d e f g h E F e f m o (i64.wrap (p+1)))))))))))))))))) (aB ((aJ (getD m (p.toNat) .nils))==0) (a2 k l q r (fun t=>(aB t (oE a0 a1 a2 a3 a4 a5 a6 x0 x1 n b c d e f g h i j q r m o (i64.wrap (p+1))) (oE a0 a1 a2 a3 a4 a5 a6 x0 x1 n b c d e f g h i j k l m o (i64.wrap (p+1)))))) (a2 k l q r (fun t=>(aB (!t) (a2 k l q r (fun u=>(aB u (oE a0 a1 a2 a3 a4 a5 a6 x0 x1 n b c d e f g h i j q r m o (i64.wrap (p+1))) (oE a0 a1 a2 a3 a4 a5 a6 x0 x1 n b c d e f g h i j k l m o (i64.wrap (p+1)))))) (a4 q r k l (fun u v w=>(aB (w !=0) (x0 0 0 w) (a3 (aJ (getD m (p.toNat) .nils)) (fun z A=>(a5 u v z A (fun B C D=>(aB (D !=0) (x0 0 0 D) (a6 i j B C (fun E F G=>(aB (G !=0) (x0 0 0 G) (oE a0 a1 a2 a3 a4 a5 a6 x0 x1 n b c d e f g h E F q r m o (i64.wrap (p+1))))))))))))))))))))))))))))) (x1 b c d e f g h i j k l m o p false))
def Tl (a0:bY) (a1:rY) (a2:bZ) (a3:cC) (a4 a5 a6:cQ) (b:Int) (c d:Ls) (e f g h:Int) (K:Int→Int→Int→Prop):Prop:=
 (a0 b c d (fun i=>(aB (i !=0) (K 0 0 i) (a1 b c d e f (fun j=>(aB (!j) (K 0 0 2) (a1 b c d g h (fun k=>(aB (!k) (K 0 0 2) (a2 g h e f (fun l=>(aB l (K 0 0 2) (a3 0 (fun m o=>(∃ n:Nat,oE a0 a1 a2 a3 a4 a5 a6 K (fun p q r s t u v w z A B C D E F=>(K w z 0)) n b c d g h 0 0 m o e f d (((length d):Nat):Int) 0)))))))))))))))
def EW:wA:=Tl jE rZ qJ rX yaF ya7 nI
def ywu (Q:Qx):Int→Int→Int→Prop:=(fun b c d=>Q .ret [(6,.box (.agg [(ic b),(ic c)])),(7,.v (ic d))] [])
def ywv (Q:Qx):Int→Ls→Ls→J4 (J4 (Ls→Int→Int→Bool→Prop )):=(fun b c d e f g h i j k l m o p q=>Q (.exit 0) [(3,.box (.agg [(ic b),(.data c),(.data d)])),(5,.box (.agg [(ic e),(ic f)])),(6,.box (.agg [(ic g),(ic h)])),(9,.box (.agg [(ic i),(ic j)])),(10,.box (.agg [(ic k),(ic l)])),(42,.v (.data m)),(43,.v (ic o)),(44,.v (ic p)),(45,.v (.bool q))] [])
def N6 (a0:bY) (a1:rY) (a2:bZ) (a3:cC) (a4 a5 a6:cQ) (Q:Qx):List St:=[⟨(pS hN (fX 3 gA (fX 5 nH (fX 6 nH (fX 9 nH (fX 10 nH (fV 42 vD (fV 43 cB (fV 44 cB fN)))))))) fN),oE a0 a1 a2 a3 a4 a5 a6 (ywu Q) (ywv Q)⟩]
def N7 (a0:bY) (a1:rY) (a2:bZ) (a3:cC) (a4 a5 a6:cQ):LP:=gL [(85339800,N6 a0 a1 a2 a3 a4 a5 a6)]
def Tm (e:Es) (a0:bY) (a1:rY) (a2:bZ) (a3:cC) (a4 a5 a6:cQ):SE:=sE (E e) [(Ag,oD.pw a0),(Eo,HR.pw a1),(BF,nJ.pw a2),(BE,lZ.pw a3),(Aj,yeb.pw a4),(rQ,yeb.pw a5),(BI,yeb.pw a6)] (N7 a0 a1 a2 a3 a4 a5 a6)
theorem N8 (e:Es) (he:EG e):SEOk (Uni (E e)) (Tm e jE rZ qJ rX yaF ya7 nI):=bK (aK.uni _) ⟨(ET e he),(Th e he),(LC e he),(LB e he),(EL e he),(BR e he),(HO e he),trivial⟩ trivial he.ok
theorem yu8 (e:Es) (a0 a1 a2 a3 a4 a5 a6):fY (Tm e a0 a1 a2 a3 a4 a5 a6) 5 a PM false (N6 a0 a1 a2 a3 a4 a5 a6):=fun _=>⟨fun _=>by kernel_rfl,fun _ _=>by kernel_rfl,trivial⟩
theorem yu9 (e:Es) (he:EG e):dF (Uni (E e)) (N7 jE rZ qJ rX yaF ya7 nI) [] 85339800 (.loop 85339800 PM):=fun _ _ _=>cA.st (aK.uni _) (cU (N8 e he) 5) (cH.no _ _) (bC (by kernel_rfl)) (yu8 e _ _ _ _ _ _ _ _)
theorem yA4 (e:Es) (a0 a1 a2 a3 a4 a5 a6):bN (Tm e a0 a1 a2 a3 a4 a5 a6) 6 PL sD (Tl a0 a1 a2 a3 a4 a5 a6):=fun _ _=>by kernel_rfl
theorem N9 (e:Es) (he:EG e):bL (E e) (sD.pw EW) KL:=bQ he (yA4 e _ _ _ _ _ _ _) (N8 e he) aY.flat (dT (l:=[(85339800,.loop 85339800 PM)]) ⟨yu9 e he,trivial⟩ (by kernel_rfl))
set_option linter.unusedVariables false
theorem yz1 (p0:Int) (p1 p2:Ls) (r0:Int) (h:∀ K:Int→Prop,K r0→jE p0 p1 p2 K) (K:Int→Prop):jE p0 p1 p2 K=K r0:=
 Aab ⟨fun k=>cI (ET [] dQ) (az:=[(.agg [(ic p0),(.data p1),(.data p2)])]) (x:=(ic r0)) (fun K' k'=>h (fun r0=>K' (ic r0)) k') (K:=fun x=>match x with | (ic r0)=>K r0 | _=>False) k,h K⟩
theorem yz2 (p0:Int) (p1 p2:Ls) (r0 r1:Int) (h:∀ K:Int→Int→Prop,K r0 r1→BU p0 p1 p2 K) (K:Int→Int→Prop):BU p0 p1 p2 K=K r0 r1:=
 Aab ⟨fun k=>cI (N0 [] dQ) (az:=[(.agg [(ic p0),(.data p1),(.data p2)])]) (x:=(.tup [(ic r0),(ic r1)])) (fun K' k'=>h (fun r0 r1=>K' (.tup [(ic r0),(ic r1)])) k') (K:=fun x=>match x with | (.tup [(ic r0),(ic r1)])=>K r0 r1 | _=>False) k,h K⟩
theorem yA5 (p0:Int) (p1 p2:Ls) (p3 p4 p5 p6 r0 r1 r2:Int) (h:∀ K:Int→Int→Int→Prop,K r0 r1 r2→EV p0 p1 p2 p3 p4 p5 p6 K) (K:Int→Int→Int→Prop):EV p0 p1 p2 p3 p4 p5 p6 K=K r0 r1 r2:=
 Aab ⟨fun k=>cI (N5 [] dQ) (az:=[(.agg [(ic p0),(.data p1),(.data p2)]),(.agg [(ic p3),(ic p4)]),(.agg [(ic p5),(ic p6)])]) (x:=(.tup [(.agg [(ic r0),(ic r1)]),(ic r2)])) (fun K' k'=>h (fun r0 r1 r2=>K' (.tup [(.agg [(ic r0),(ic r1)]),(ic r2)])) k') (K:=fun x=>match x with | (.tup [(.agg [(ic r0),(ic r1)]),(ic r2)])=>K r0 r1 r2 | _=>False) k,h K⟩
theorem yz3 (p0:Int) (p1 p2:Ls) (p3 p4 p5 p6 r0 r1 r2:Int) (h:∀ K:Int→Int→Int→Prop,K r0 r1 r2→EW p0 p1 p2 p3 p4 p5 p6 K) (K:Int→Int→Int→Prop):EW p0 p1 p2 p3 p4 p5 p6 K=K r0 r1 r2:=
 Aab ⟨fun k=>cI (N9 [] dQ) (az:=[(.agg [(ic p0),(.data p1),(.data p2)]),(.agg [(ic p3),(ic p4)]),(.agg [(ic p5),(ic p6)])]) (x:=(.tup [(.agg [(ic r0),(ic r1)]),(ic r2)])) (fun K' k'=>h (fun r0 r1 r2=>K' (.tup [(.agg [(ic r0),(ic r1)]),(ic r2)])) k') (K:=fun x=>match x with | (.tup [(.agg [(ic r0),(ic r1)]),(ic r2)])=>K r0 r1 r2 | _=>False) k,h K⟩
abbrev gI:Type:=Ls→Ls→(Int→Prop)→Prop
def EX (a0:bY) (x0:Int→Prop) (x1:Ls→Ls→Ls→Int→Int→Bool→Prop):Nat→Ls→Ls→Ls→Int→Int→Prop
 | 0,_,_,_,_,_=>False
 | n+1,b,c,d,e,f=>
 (aB (decide (f<e)) (aA (decide (0≤f)) (aA (decide (f<(((length d):Nat):Int))) (aA (aI zK (getD d (f.toNat) .nils)) (a0 (aJ (aQ (getD d (f.toNat) .nils) 0)) (eK (aQ (getD d (f.toNat) .nils) 1)) (eK (aQ (getD d (f.toNat) .nils) 2)) (fun g=>(aB (g !=0) (x0 g) (EX a0 x0 x1 n b c d e (i64.wrap (f+1))))))))) (x1 b c d e f false))
def BW (a0:bY) (x0:Int→Prop) (x1:Ls→Ls→Ls→Int→Int→Bool→Prop):Nat→Ls→Ls→Ls→Int→Int→Prop
 | 0,_,_,_,_,_=>False
 | n+1,b,c,d,e,f=>
 (aB (decide (f<e)) (aA (decide (0≤f)) (aA (decide (f<(((length d):Nat):Int))) (aA (aI zK (getD d (f.toNat) .nils)) (aA (decide (0<(((length b):Nat):Int))) (aA (aI zK (getD b 0 .nils)) (aB ((aJ (aQ (getD d (f.toNat) .nils) 0)) !=(aJ (aQ (getD b 0 .nils) 0))) (x0 8) (BW a0 x0 x1 n b c d e (i64.wrap (f+1))))))))) (x1 b c d e f false))
def Tn (a0:bY) (b c:Ls) (K:Int→Prop):Prop:=
 (aB (decide ((((length b):Nat):Int)>6)) (K 4) (aB (decide ((((length c):Nat):Int)>2000)) (K 4) (aB ((((length b):Nat):Int)==0) (K 8) (∃ m0:Nat,EX a0 K (fun d e f g h i=>(∃ m1:Nat,BW a0 K (fun j k l m o p=>(K 0)) m1 d e d (((length d):Nat):Int) 0)) m0 b c b (((length b):Nat):Int) 0))))
def ydB:gI:=Tn jE
def iU:iS:=vA xR
def xS:jP:=lC iU lN
def mX:Sg:=⟨xS,Int→Prop,fun K=>(fun r0=>K (ic r0))⟩
def yxX (Q:Qx):Int→Prop:=(fun b=>Q .ret [(2,.v (ic b))] [])
def yxY (Q:Qx):Ls→Ls→Ls→Int→Int→Bool→Prop:=(fun b c d e f g=>Q (.exit 0) [(1,.box (.agg [(.data b),(.data c)])),(23,.v (.data d)),(24,.v (ic e)),(25,.v (ic f)),(26,.v (.bool g))] [])
def yxZ (Q:Qx):Int→Prop:=(fun b=>Q .ret [(2,.v (ic b))] [])
def yx0 (Q:Qx):Ls→Ls→Ls→Int→Int→Bool→Prop:=(fun b c d e f g=>Q (.exit 2) [(1,.box (.agg [(.data b),(.data c)])),(36,.v (.data d)),(37,.v (ic e)),(38,.v (ic f)),(39,.v (.bool g))] [])
def O0 (a0:bY) (Q:Qx):List St:=[⟨(pS hN (fX 1 iU (fV 23 vD (fV 24 cB (fV 25 cB fN)))) fN),EX a0 (yxX Q) (yxY Q)⟩]
def O1 (a0:bY) (Q:Qx):List St:=[⟨(pS hN (fX 1 iU (fV 36 vD (fV 37 cB (fV 38 cB fN)))) fN),BW a0 (yxZ Q) (yx0 Q)⟩]
def To (a0:bY):LP:=gL [(12157600,O0 a0),(12157601,O1 a0)]
def LD (e:Es) (a0:bY):SE:=sE (E e) [(Ag,oD.pw a0)] (To a0)
theorem Tp (e:Es) (he:EG e):SEOk (Uni (E e)) (LD e jE):=bK (aK.uni _) ⟨(ET e he),trivial⟩ trivial he.ok
theorem yww (e:Es) (a0):fY (LD e a0) 5 a Ps false (O0 a0):=fun _=>⟨fun _=>by kernel_rfl,fun _ _=>by kernel_rfl,trivial⟩
theorem ywx (e:Es) (he:EG e):dF (Uni (E e)) (To jE) [] 12157600 (.loop 12157600 Ps):=fun _ _ _=>cA.st (aK.uni _) (cU (Tp e he) 5) (cH.no _ _) (bC (by kernel_rfl)) (yww e _ _)
theorem ywy (e:Es) (a0):fY (LD e a0) 5 a Pt false (O1 a0):=fun _=>⟨fun _=>by kernel_rfl,fun _ _=>by kernel_rfl,trivial⟩
theorem ywz (e:Es) (he:EG e):dF (Uni (E e)) (To jE) [] 12157601 (.loop 12157601 Pt):=fun _ _ _=>cA.st (aK.uni _) (cU (Tp e he) 5) (cH.no _ _) (bC (by kernel_rfl)) (ywy e _ _)
theorem yC8 (e:Es) (a0):bN (LD e a0) 6 Ld mX (Tn a0):=fun _ _=>by kernel_rfl
theorem HS (e:Es) (he:EG e):bL (E e) (mX.pw ydB) Bz:=bQ he (yC8 e _) (Tp e he) aY.flat (dT (l:=[(12157600,.loop 12157600 Ps),(12157601,.loop 12157601 Pt)]) ⟨ywx e he,ywz e he,trivial⟩ (by kernel_rfl))
abbrev wB:Type:=Ls→Ls→Int→(Bool→Prop)→Prop
def Tq (b c:Ls) (d:Int) (K:Bool→Prop):Prop:=
 (aB (decide (d≥0)) (K (decide (d<(((length b):Nat):Int)))) (K false))
def EY:wB:=Tq
def Ax:Sg:=⟨(lC iU pt1),Bool→Prop,fun K=>(fun r0=>K (.bool r0))⟩
def yva (e:Es):SE:=sE (E e) [] bX
theorem yvb (e:Es):bN (yva e) 6 A4 Ax Tq:=fun _ _=>by kernel_rfl
theorem Tr (e:Es) (he:EG e):bL (E e) (Ax.pw EY) El:=bQ he (yvb e) (bK (aK.uni _) trivial trivial he.ok) aY.flat (bC (by kernel_rfl))
abbrev Fa:Type:=Ls→Ls→Int→(Int→Int→Prop)→Prop
def LE (a0:gI) (a1:wB) (a2:Tc) (b c:Ls) (d:Int) (K:Int→Int→Prop):Prop:=
 (a0 b c (fun e=>(aB (e !=0) (K 0 e) (a1 b c d (fun f=>(aB (!f) (K 0 2) (aA (decide (0≤d)) (aA (decide (d<(((length b):Nat):Int))) (lt (getD b (d.toNat) .nils) (fun g=>(aA (aI zK g) (a2 (aJ (aQ g 0)) (eK (aQ g 1)) (eK (aQ g 2)) K))))))))))))
def yed:Fa:=LE ydB EY BU
def yC9:Sg:=⟨(lC iU pt1),Int→Int→Prop,fun K=>(fun r0 r1=>K (.tup [(ic r0),(ic r1)]))⟩
def yDa (e:Es) (a0:gI) (a1:wB) (a2:Tc):SE:=sE (E e) [(Bz,mX.pw a0),(El,Ax.pw a1),(Kz,Td.pw a2)] bX
theorem yDb (e:Es) (a0 a1 a2):bN (yDa e a0 a1 a2) 6 A5 yC9 (LE a0 a1 a2):=fun _ _=>by kernel_rfl
theorem O2 (e:Es) (he:EG e):bL (E e) (yC9.pw yed) Ah:=bQ he (yDb e _ _ _) (bK (aK.uni _) ⟨(HS e he),(Tr e he),(N0 e he),trivial⟩ trivial he.ok) aY.flat (bC (by kernel_rfl))
abbrev Fb:Type:=Ls→Ls→J4 (Int→(Int→Int→Int→Prop)→Prop)
def Ts (a0:wA) (b c:Ls) (d e f g h:Int) (K:Int→Int→Int→Prop):Prop:=
 (aA (decide (0≤d)) (aA (decide (d<(((length b):Nat):Int))) (aA (aI zK (getD b (d.toNat) .nils)) (a0 (aJ (aQ (getD b (d.toNat) .nils) 0)) (eK (aQ (getD b (d.toNat) .nils) 1)) (eK (aQ (getD b (d.toNat) .nils) 2)) e f g h K))))
def Tt:Fb:=Ts EV
def HT:jP:=lC iU (lC cB mV)
def Fd:Sg:=⟨HT,Int→Int→Int→Prop,fun K=>(fun r0 r1 r2=>K (.tup [(.agg [(ic r0),(ic r1)]),(ic r2)]))⟩
def ytN (e:Es) (a0:wA):SE:=sE (E e) [(KJ,sD.pw a0)] bX
theorem ytO (e:Es) (a0):bN (ytN e a0) 6 D4 Fd (Ts a0):=fun _ _=>by kernel_rfl
theorem ytP (e:Es) (he:EG e):bL (E e) (Fd.pw Tt) KK:=bQ he (ytO e _) (bK (aK.uni _) ⟨(N5 e he),trivial⟩ trivial he.ok) aY.flat (bC (by kernel_rfl))
abbrev kQ:Type:=Ls→(Ls→Prop)→Prop
mutual
def LF (a0:ED) (x0:Ls→Ls→Int→Int→Bool→Prop) (x1:Ls→Int→Int→Bool→Prop):Nat→Ls→Int→Int→Prop
 | 0,_,_,_=>False
 | n+1,b,c,d=>
 (aB (decide (d<c)) (aA (decide (0≤d)) (aA (decide (d<(((length b):Nat):Int))) (aA (aI zK (getD b (d.toNat) .nils)) (a0 (eK (aQ (getD b (d.toNat) .nils) 1)) (fun e=>(a0 (eK (aQ (getD b (d.toNat) .nils) 2)) (fun f=>(aA (decide (1=length ([(.agg [(ic (aJ (aQ (getD b (d.toNat) .nils) 0))),(.data e),(.data f)])]:Ls))&&decide (1=length ([(.agg [(ic (aJ (aQ (getD b (d.toNat) .nils) 0))),(.data e),(.data f)])]:Ls))) (Fe a0 x0 x1 n ([(.agg [(ic (aJ (aQ (getD b (d.toNat) .nils) 0))),(.data e),(.data f)])]:Ls) b c (i64.wrap (d+1))))))))))) (x1 b c d false))
def Fe (a0:ED) (x0:Ls→Ls→Int→Int→Bool→Prop) (x1:Ls→Int→Int→Bool→Prop):Nat→Ls→Ls→Int→Int→Prop
 | 0,_,_,_,_=>False
 | n+1,b,c,d,e=>
 (aB (decide (e<d)) (aA (decide (0≤e)) (aA (decide (e<(((length c):Nat):Int))) (aA (aI zK (getD c (e.toNat) .nils)) (a0 (eK (aQ (getD c (e.toNat) .nils) 1)) (fun f=>(a0 (eK (aQ (getD c (e.toNat) .nils) 2)) (fun g=>(aA (decide ((length b)=(length b))) (aA (decide ((0+(length b))≤(length b))) (aA (!(decide (((0+(length b))+1)≤(length b)))) (aA (decide ((length b)=(length b))) (aA (decide ((((length b)+1)+64)*(56+1)≤room)) (aA (decide ((length (b++([(.agg [(ic (aJ (aQ (getD c (e.toNat) .nils) 0))),(.data f),(.data g)])]:Ls)))=length (b++([(.agg [(ic (aJ (aQ (getD c (e.toNat) .nils) 0))),(.data f),(.data g)])]:Ls)))&&decide ((length (b++([(.agg [(ic (aJ (aQ (getD c (e.toNat) .nils) 0))),(.data f),(.data g)])]:Ls)))=length (b++([(.agg [(ic (aJ (aQ (getD c (e.toNat) .nils) 0))),(.data f),(.data g)])]:Ls)))) (Fe a0 x0 x1 n (b++([(.agg [(ic (aJ (aQ (getD c (e.toNat) .nils) 0))),(.data f),(.data g)])]:Ls)) c d (i64.wrap (e+1)))))))))))))))) (x0 b c d e false))
end
def Tu (a0:ED) (b:Ls) (K:Ls→Prop):Prop:=
 (∃ n:Nat,LF a0 (fun c d e f g=>(aA (decide ((length c)=(length c))) (aA (decide ((0+(length c))≤(length c))) (K (take (length c) c))))) (fun c d e f=>(K ([]:Ls))) n b (((length b):Nat):Int) 0)
def BX:kQ:=Tu HH
def qK:Sg:=⟨Lp,Ls→Prop,fun K=>(fun r0=>K (.data r0))⟩
def O3 (Q:Qx):Ls→Ls→Int→Int→Bool→Prop:=(fun b c d e f=>Q (.exit 0) [(3,.v (.own 0 0 (length b) (length b) none)),(6,.v (.data c)),(7,.v (ic d)),(8,.v (ic e)),(9,.v (.bool f))] [⟨false,true,3,b⟩])
def O4 (Q:Qx):Ls→Int→Int→Bool→Prop:=(fun b c d e=>Q (.exit 0) [(3,.v .nils),(6,.v (.data b)),(7,.v (ic c)),(8,.v (ic d)),(9,.v (.bool e))] [])
def HU:iS:=vW 0 (nK 0) (nT 0) (nT 0)
def O5 (a0:ED) (Q:Qx):List St:=[⟨(pS hN (fV 3 GS xP) fN),LF a0 (O3 Q) (O4 Q)⟩,⟨(pS (hB false true 3 rA hN) (fV 3 HU xP) fN),Fe a0 (O3 Q) (O4 Q)⟩]
def O6 (a0:ED):LP:=gL [(94933800,O5 a0)]
def Tv (e:Es) (a0:ED):SE:=sE (E e) [(Hk,yy a0)] (O6 a0)
theorem O7 (e:Es) (he:EG e):SEOk (Uni (E e)) (Tv e HH):=bK (aK.uni _) ⟨(za e he),trivial⟩ trivial he.ok
theorem yvd (e:Es) (a0):fY (Tv e a0) 5 a PJ false (O5 a0):=fun _=>⟨fun _=>by kernel_rfl,fun _ _=>by kernel_rfl,fun _=>by kernel_rfl,fun _ _=>by kernel_rfl,trivial⟩
theorem yve (e:Es) (he:EG e):dF (Uni (E e)) (O6 HH) [] 94933800 (.loop 94933800 PJ):=fun _ _ _=>cA.st (aK.uni _) (cU (O7 e he) 5) (cH.no _ _) (bC (by kernel_rfl)) (yvd e _ _)
theorem yA6 (e:Es) (a0):bN (Tv e a0) 6 PI qK (Tu a0):=fun _ _=>by kernel_rfl
theorem Tw (e:Es) (he:EG e):bL (E e) (qK.pw BX) Hl:=bQ he (yA6 e _) (O7 e he) aY.flat (dT (l:=[(94933800,.loop 94933800 PJ)]) ⟨yve e he,trivial⟩ (by kernel_rfl))
abbrev kR:Type:=Ls→Ls→J4 (Int→(Ls→Ls→Int→Int→Int→Prop)→Prop)
def Ty (a0:gI) (a1:wB) (a2:Fb) (a3:kQ) (b c:Ls) (d e f g h:Int) (K:Ls→Ls→Int→Int→Int→Prop):Prop:=
 (a0 b c (fun i=>(aB (i !=0) (K ([]:Ls) ([]:Ls) 0 0 i) (a1 b c d (fun j=>(aB (!j) (K ([]:Ls) ([]:Ls) 0 0 2) (a2 b c d e f g h (fun k l m=>(aB (m !=0) (K ([]:Ls) ([]:Ls) 0 0 m) (aB (decide ((((length c):Nat):Int)≥2000)) (K ([]:Ls) ([]:Ls) 0 0 4) (aA (decide (0≤(i64.wrap ((((length c):Nat):Int)+1)))) (aA (decide ((((i64.wrap ((((length c):Nat):Int)+1)).toNat)+64)*(64+1)≤room)) (a3 b (fun o=>(aA (hO 8 c) (aA (decide ((length (replicate ((i64.wrap ((((length c):Nat):Int)+1)).toNat) ((.agg [(ic (0)),(.int .u8 (0)),(ic (0)),(ic (0)),(ic (0)),(ic (0)),(ic (0)),(ic (0))]):PV)))=((i64.wrap ((((length c):Nat):Int)+1)).toNat))) (aA (decide (0≤((i64.wrap ((((length c):Nat):Int)+1)).toNat))) (aB (isEmpty c) (aA (decide ((length (replicate ((i64.wrap ((((length c):Nat):Int)+1)).toNat) ((.agg [(ic (0)),(.int .u8 (0)),(ic (0)),(ic (0)),(ic (0)),(ic (0)),(ic (0)),(ic (0))]):PV)))=((i64.wrap ((((length c):Nat):Int)+1)).toNat))) (aA (decide (0≤((i64.wrap ((((length c):Nat):Int)+1)).toNat))) (aA (decide (1≤((i64.wrap ((((length c):Nat):Int)+1)).toNat))) (aA (decide ((length (([(.agg [(ic d),(.int .u8 2),(ic e),(ic f),(ic g),(ic h),(ic k),(ic l)])]:Ls)++(drop 1 (replicate ((i64.wrap ((((length c):Nat):Int)+1)).toNat) ((.agg [(ic (0)),(.int .u8 (0)),(ic (0)),(ic (0)),(ic (0)),(ic (0)),(ic (0)),(ic (0))]):PV)))))=((i64.wrap ((((length c):Nat):Int)+1)).toNat))) (aA (decide (1≤((i64.wrap ((((length c):Nat):Int)+1)).toNat))) (K o (take 1 (([(.agg [(ic d),(.int .u8 2),(ic e),(ic f),(ic g),(ic h),(ic k),(ic l)])]:Ls)++(drop 1 (replicate ((i64.wrap ((((length c):Nat):Int)+1)).toNat) ((.agg [(ic (0)),(.int .u8 (0)),(ic (0)),(ic (0)),(ic (0)),(ic (0)),(ic (0)),(ic (0))]):PV))))) k l 0)))))) (aA (decide ((0+(length c))≤((i64.wrap ((((length c):Nat):Int)+1)).toNat))) (aA (decide ((length (c++(drop (0+(length c)) (replicate ((i64.wrap ((((length c):Nat):Int)+1)).toNat) ((.agg [(ic (0)),(.int .u8 (0)),(ic (0)),(ic (0)),(ic (0)),(ic (0)),(ic (0)),(ic (0))]):PV)))))=((i64.wrap ((((length c):Nat):Int)+1)).toNat))) (aA (decide ((0+(0+(length c)))≤((i64.wrap ((((length c):Nat):Int)+1)).toNat))) (aA (decide (((0+(length c))+1)≤((i64.wrap ((((length c):Nat):Int)+1)).toNat))) (aA (decide ((length ((take (0+(0+(length c))) (c++(drop (0+(length c)) (replicate ((i64.wrap ((((length c):Nat):Int)+1)).toNat) ((.agg [(ic (0)),(.int .u8 (0)),(ic (0)),(ic (0)),(ic (0)),(ic (0)),(ic (0)),(ic (0))]):PV)))))++(([(.agg [(ic d),(.int .u8 2),(ic e),(ic f),(ic g),(ic h),(ic k),(ic l)])]:Ls)++(drop ((0+(0+(length c)))+1) (c++(drop (0+(length c)) (replicate ((i64.wrap ((((length c):Nat):Int)+1)).toNat) ((.agg [(ic (0)),(.int .u8 (0)),(ic (0)),(ic (0)),(ic (0)),(ic (0)),(ic (0)),(ic (0))]):PV))))))))=((i64.wrap ((((length c):Nat):Int)+1)).toNat))) (aA (decide ((0+((0+(length c))+1))≤((i64.wrap ((((length c):Nat):Int)+1)).toNat))) (K o (take ((0+(length c))+1) ((take (0+(0+(length c))) (c++(drop (0+(length c)) (replicate ((i64.wrap ((((length c):Nat):Int)+1)).toNat) ((.agg [(ic (0)),(.int .u8 (0)),(ic (0)),(ic (0)),(ic (0)),(ic (0)),(ic (0)),(ic (0))]):PV)))))++(([(.agg [(ic d),(.int .u8 2),(ic e),(ic f),(ic g),(ic h),(ic k),(ic l)])]:Ls)++(drop ((0+(0+(length c)))+1) (c++(drop (0+(length c)) (replicate ((i64.wrap ((((length c):Nat):Int)+1)).toNat) ((.agg [(ic (0)),(.int .u8 (0)),(ic (0)),(ic (0)),(ic (0)),(ic (0)),(ic (0)),(ic (0))]):PV)))))))) k l 0)))))))))))))))))))))))))
def ybY:kR:=Ty ydB EY Tt BX
def oY:Sg:=⟨HT,Ls→Ls→Int→Int→Int→Prop,fun K=>(fun r0 r1 r2 r3 r4=>K (.tup [(.agg [(.data r0),(.data r1)]),(.agg [(ic r2),(ic r3)]),(ic r4)]))⟩
def yFu (e:Es) (a0:gI) (a1:wB) (a2:Fb) (a3:kQ):SE:=⟨(E e),yhr [(Bz,mX.pw a0),(El,Ax.pw a1),(KK,Fd.pw a2),(Hl,qK.pw a3)],yhs [(Pe,PK)],bX,fun _=>none⟩
theorem yFv (e:Es) (a0 a1 a2 a3):bN (yFu e a0 a1 a2 a3) 6 D5 oY (Ty a0 a1 a2 a3):=fun _ _=>by kernel_rfl
theorem Tz (e:Es) (he:EG e):bL (E e) (oY.pw ybY) Hm:=bQ he (yFv e _ _ _ _) (bK (aK.uni _) ⟨(HS e he),(Tr e he),(ytP e he),(Tw e he),trivial⟩ ⟨⟨by kernel_rfl,by kernel_rfl,rfl,fun az=>vO (by kernel_rfl) az,he.num _ (by kernel_rfl),by kernel_rfl,(bC (by kernel_rfl))⟩,trivial⟩ he.ok) aY.flat (bC (by kernel_rfl))
def TA (a0:wA) (b c:Ls) (d e f g h:Int) (K:Int→Int→Int→Prop):Prop:=
 (aA (decide (0≤d)) (aA (decide (d<(((length b):Nat):Int))) (aA (aI zK (getD b (d.toNat) .nils)) (a0 (aJ (aQ (getD b (d.toNat) .nils) 0)) (eK (aQ (getD b (d.toNat) .nils) 1)) (eK (aQ (getD b (d.toNat) .nils) 2)) e f g h K))))
def TB:Fb:=TA EW
def yrI (e:Es) (a0:wA):SE:=sE (E e) [(KL,sD.pw a0)] bX
theorem yrJ (e:Es) (a0):bN (yrI e a0) 6 D6 Fd (TA a0):=fun _ _=>by kernel_rfl
theorem yrK (e:Es) (he:EG e):bL (E e) (Fd.pw TB) KM:=bQ he (yrJ e _) (bK (aK.uni _) ⟨(N9 e he),trivial⟩ trivial he.ok) aY.flat (bC (by kernel_rfl))
end Go.Pf.Vc
