import Derived.Test.YtodmafgmdlkhoaaDoorVs6
import Derived.ChangeSame
import Derived.Carry
import Derived.ChangeShapes
import Derived.DataReads
import Derived.OpenVars
import Derived.OpenShut
section
namespace Go.Proofs.YtodmafgmdlkhoaaDoor.Vs
set_option linter.all false
open Go.RowKit
variable {P:Program}
structure CO where
 dst:Option Nat
 op:Op
 gd:Option (Nat × Bool)
def coOf(ops:Array Oper)(o:Oper):Option CO :=
 match o.guard with
 | none=>some ⟨o.dst,o.op,none⟩
 | some (j,want)=>match (ops[j]?).bind (·.dst) with
  | some d=>some ⟨o.dst,o.op,some (d,want)⟩
  | none=>none
def cosOf(ops:Array Oper):List Oper→Option (List CO)
 | []=>some []
 | o :: r=>match coOf ops o,cosOf ops r with
  | some c,some cs=>some (c :: cs)
  | _,_=>none
def nmC(dst:Option Nat):Nat:=match dst with
 | some d=>16*(d+1)
 | none=>15
def putC(st:St)(dst:Option Nat)(v:AV)(u:Ups):St:={ env:=match dst with | some d=>upd st.env d v | none=>st.env,ob:=updL st.ob u }
def spl(b want:Bool)(A B:Prop):Prop:=(b=want→A)∧(b=(!want)→B)
theorem spl_tt(A B:Prop):spl true true A B=A:=by simp [spl]
theorem spl_tf(A B:Prop):spl true false A B=B:=by simp [spl]
theorem spl_ft(A B:Prop):spl false true A B=B:=by simp [spl]
theorem spl_ff(A B:Prop):spl false false A B=A:=by simp [spl]
theorem spl_ct(b:Bool)(A B:Prop):spl b true A B=((b=true→A)∧(b=false→B)):=(rfl)
theorem spl_cf(b:Bool)(A B:Prop):spl b false A B=((b=false→A)∧(b=true→B)):=(rfl)
def creg(P:Program)(q:Bool):List CO→St→(St→Prop)→Prop
 | [],st,K=>K st
 | c :: rest,st,K =>
  let R:St→ARes→Prop:=λst r=>match r with
   | some (p,v,u)=>p∧(q=true→u=[])∧creg P q rest (putC st c.dst v u) K
   | none=>False
  let O:St→Prop:=λst=>match c.op with
   | .call cl=>match cl.callee with
    | .builtin b=>R st (aBuiltin P st (nmC c.dst) b cl.argTypes.toList (cl.args.toList.map (ev st)))
    | .value f=>match ev st f with
     | .fn fid fst cap=>∃v u,GStep P st fid (fst++cl.args.toList.map (ev st)++cap) v u∧(q=true→u=[])∧creg P q rest (putC st c.dst v u) K
     | _=>False
    | .invoke _ _=>False
   | op=>R st (aop P st (nmC c.dst) op)
  match c.gd with
  | none=>O st
  | some (d,want)=>match st.env d with
   | .g (.bool b)=>spl b want (O { st with env:=upd st.env d (.g (.bool want)) }) (creg P q rest (putC { st with env:=upd st.env d (.g (.bool (!want))) } c.dst (.g undef) []) K)
   | .g (.tuple vs)=>vs.size=0∧creg P q rest (putC st c.dst (.g undef) []) K
   | _=>False
def cR(P:Program)(q:Bool)(rest:List CO)(K:St→Prop)(st:St)(dst:Option Nat)(r:ARes):Prop:=match r with
 | some (p,v,u)=>p∧(q=true→u=[])∧creg P q rest (putC st dst v u) K
 | none=>False
def CKd(P:Program)(q:Bool)(rest:List CO)(K:St→Prop)(st:St)(dst:Option Nat)(f:FuncId)(actual:List AV):Prop :=
 ∃v u,GStep P st f actual v u∧(q=true→u=[])∧creg P q rest (putC st dst v u) K
def cO(P:Program)(q:Bool)(rest:List CO)(K:St→Prop)(st:St)(dst:Option Nat)(op:Op):Prop:=match op with
 | .call cl=>match cl.callee with
  | .builtin b=>cR P q rest K st dst (aBuiltin P st (nmC dst) b cl.argTypes.toList (cl.args.toList.map (ev st)))
  | .value f=>match ev st f with
   | .fn fid fst cap=>CKd P q rest K st dst fid (fst++cl.args.toList.map (ev st)++cap)
   | _=>False
  | .invoke _ _=>False
 | op=>cR P q rest K st dst (aop P st (nmC dst) op)
def cG(P:Program)(q:Bool)(rest:List CO)(K:St→Prop)(st:St)(dst:Option Nat)(op:Op)(d:Nat)(want:Bool)(x:AV):Prop:=match x with
 | .g (.bool b)=>spl b want (cO P q rest K { st with env:=upd st.env d (.g (.bool want)) } dst op) (creg P q rest (putC { st with env:=upd st.env d (.g (.bool (!want))) } dst (.g undef) []) K)
 | .g (.tuple vs)=>vs.size=0∧creg P q rest (putC st dst (.g undef) []) K
 | _=>False
theorem creg_nil(q:Bool)(st:St)(K:St→Prop):creg P q [] st K=K st:=(rfl)
theorem zt7(q:Bool)(dst:Option Nat)(op:Op)(rest:List CO)(st:St)(K:St→Prop):creg P q (⟨dst,op,none⟩ :: rest) st K=cO P q rest K st dst op:=(rfl)
theorem zt8(q:Bool)(dst:Option Nat)(op:Op)(d:Nat)(want:Bool)(rest:List CO)(st:St)(K:St→Prop):creg P q (⟨dst,op,some (d,want)⟩ :: rest) st K=cG P q rest K st dst op d want (st.env d):=(rfl)
theorem cG_bool(q:Bool)(rest:List CO)(K:St→Prop)(st:St)(dst:Option Nat)(op:Op)(d:Nat)(want b:Bool):cG P q rest K st dst op d want (.g (.bool b))=spl b want (cO P q rest K { st with env:=upd st.env d (.g (.bool want)) } dst op) (creg P q rest (putC { st with env:=upd st.env d (.g (.bool (!want))) } dst (.g undef) []) K):=(rfl)
theorem cG_undef(q:Bool)(rest:List CO)(K:St→Prop)(st:St)(dst:Option Nat)(op:Op)(d:Nat)(want:Bool):cG P q rest K st dst op d want (.g undef)=creg P q rest (putC st dst (.g undef) []) K:=by
 show ((#[]:Array Value).size=0∧_)=_
 simp
theorem cO_aK{q:Bool}{rest:List CO}{K:St→Prop}{st:St}{o:Oper}(h:cO P q rest K st o.dst o.op):aK P st o λv u=>(q=true→u=[])∧creg P q rest (st.put o v u) K:=by
 obtain ⟨dst,op,ty,pos,aft,gd⟩:=o
 simp only at h ⊢
 have fin:∀r:ARes,cR P q rest K st dst r→(match r with | some (p,v,u)=>p∧((q=true→u=[])∧creg P q rest (putC st dst v u) K) | none=>False):=by
  intro r h
  match r,h with
  | some (p,v,u),h=>exact h
 unfold cO at h
 unfold aK
 cases op with
 | call c =>
  simp only at h ⊢
  cases hc:c.callee with
  | builtin b=>rw [hc] at h;exact fin _ h
  | invoke _ _=>rw [hc] at h;exact h.elim
  | value f =>
   rw [hc] at h
   simp only at h ⊢
   split at h
   ·rename_i fid fst cap he
    rw [he]
    exact h
   ·exact h.elim
 | _=>simp only at h ⊢;exact fin _ h
theorem zg1{ops:Array Oper}{K:St→Prop}:∀(l:List Oper) (cs:List CO) (st:St),cosOf ops l=some cs→creg P false cs st K→areg P ops l st K
 | [],cs,st,hc,h=>by cases hc;exact h
 | o :: rest,cs,st,hc,h=>by
  unfold cosOf at hc
  split at hc
  ·rename_i c cs' h1 h2
   cases hc
   unfold coOf at h1
   unfold areg
   have mono:∀(st:St),cO P false cs' K st o.dst o.op→aK P st o λv u=>areg P ops rest (st.put o v u) K:=λst h=>aK_mono (cO_aK h) λv u hk=>zg1 rest cs' _ h2 hk.2
   split at h1
   ·rename_i hg
    cases h1
    rw [zt7] at h
    rw [hg]
    exact mono st h
   ·rename_i j want hg
    split at h1
    ·rename_i d hj
     cases h1
     rw [zt8] at h
     rw [hg]
     simp only
     rw [hj]
     simp only
     unfold cG at h
     split at h
     ·rename_i b hb
      rw [hb]
      refine ⟨λhbw=>mono _ (h.1 hbw),λhbw=>?_⟩
      exact zg1 rest cs' _ h2 (h.2 hbw)
     ·rename_i vs hb
      rw [hb]
      exact ⟨h.1,zg1 rest cs' _ h2 h.2⟩
     ·exact h.elim
    ·cases h1
  ·cases hc
theorem zf9{ops:Array Oper}{K:St→Prop}:∀(l:List Oper) (cs:List CO) (st:St),cosOf ops l=some cs→creg P true cs st K→aregQ P ops l st K
 | [],cs,st,hc,h=>by cases hc;exact h
 | o :: rest,cs,st,hc,h=>by
  unfold cosOf at hc
  split at hc
  ·rename_i c cs' h1 h2
   cases hc
   unfold coOf at h1
   unfold aregQ
   have mono:∀(st:St),cO P true cs' K st o.dst o.op→aK P st o λv u=>u=[]∧aregQ P ops rest (st.put o v []) K:=λst h=>aK_mono (cO_aK h) λv u hk=>by
    have hu:=hk.1 rfl
    subst hu
    exact ⟨rfl,zf9 rest cs' _ h2 hk.2⟩
   split at h1
   ·rename_i hg
    cases h1
    rw [zt7] at h
    rw [hg]
    exact mono st h
   ·rename_i j want hg
    split at h1
    ·rename_i d hj
     cases h1
     rw [zt8] at h
     rw [hg]
     simp only
     rw [hj]
     simp only
     unfold cG at h
     split at h
     ·rename_i b hb
      rw [hb]
      refine ⟨λhbw=>mono _ (h.1 hbw),λhbw=>?_⟩
      exact zf9 rest cs' _ h2 (h.2 hbw)
     ·rename_i vs hb
      rw [hb]
      exact ⟨h.1,zf9 rest cs' _ h2 h.2⟩
     ·exact h.elim
    ·cases h1
  ·cases hc
section
variable {nt:Nat}{fs:List Nat}{Q:AExit→St→Prop}{st:St}
theorem AW_r{id:Nat}{l:List Oper}{cs:List CO}{y:Code}(hc:cosOf l.toArray l=some cs)(hd:dstOk nt l.toArray=true)(h:∀K:St→Prop,(∀s,AW P nt fs y Q s→K s)→creg P false cs st K):AW P nt fs (.seq (.region id l.toArray false) y) Q st :=
 zzh hd (zg1 l cs st hc (h _ λ_ h=>h))
theorem AW_q{id:Nat}{l:List Oper}{cs:List CO}{y:Code}(hc:cosOf l.toArray l=some cs)(hm:P.follows .mixedOrders=true)(ho:ordOk l=true)(hd:dstOk nt l.toArray=true)(h:∀K:St→Prop,(∀s,AW P nt fs y Q s→K s)→creg P true cs st K):AW P nt fs (.seq (.region id l.toArray true) y) Q st :=
 AW_quiet' hm ho hd (zf9 l cs st hc (h _ λ_ h=>h))
theorem zc6{id:Nat}{l:List Oper}{cs:List CO}(hc:cosOf l.toArray l=some cs)(hd:dstOk nt l.toArray=true)(h:∀K:St→Prop,(∀s,Q .normal s→K s)→creg P false cs st K):AW P nt fs (.region id l.toArray false) Q st :=
 zrc hd (zg1 l cs st hc (h _ λ_ h=>h))
theorem AW_qe{id:Nat}{l:List Oper}{cs:List CO}(hc:cosOf l.toArray l=some cs)(hm:P.follows .mixedOrders=true)(ho:ordOk l=true)(hd:dstOk nt l.toArray=true)(h:∀K:St→Prop,(∀s,Q .normal s→K s)→creg P true cs st K):AW P nt fs (.region id l.toArray true) Q st :=
 zwr hm ho hd (zf9 l cs st hc (h _ λ_ h=>h))
end
section
variable {q:Bool}{rest:List CO}{K:St→Prop}{st:St}{dst:Option Nat}{f:FuncId}{l l':List AV}{r:AV}
theorem CKd_w(ha:am2s st (nuOf [] []) l l')(hp:PCall P f l' r)(hq:q=true→(if scal r then [] else frzU st (arrN2 l))=[])(hk:creg P q rest (putC st dst r (if scal r then [] else frzU st (arrN2 l))) K):CKd P q rest K st dst f l:=by
 refine ⟨r,_,⟨[],[],l',[],[],[],hp,rfl,rfl,rfl,by simp,by simp,ha,rfl,rfl,rfl⟩,?_,?_⟩
 ·simpa [zipW,cellN] using hq
 ·simpa [zipW,cellN] using hk
theorem zci(ha:am2s st (nuOf [] []) l l')(hp:PCall P f l' r)(hs:arrN2 l=[])(hk:creg P q rest (putC st dst r []) K):CKd P q rest K st dst f l :=
 CKd_w ha hp (by rw [hs];cases scal r<;>exact λ_=>rfl) (by rw [hs];cases scal r<;>exact hk)
end
end Go.Proofs.YtodmafgmdlkhoaaDoor.Vs
end
section
namespace Go.Proofs.YtodmafgmdlkhoaaDoor.Vs
set_option linter.all false
open Go.RowKit
variable {P:Program}
def LeS(fs:List Nat)(s s':St):Prop:=∀C a w,FsOk fs C→CC C s a w→CC C s' a w
def lkE(e:List (Nat × AV)):Nat→AV:=λn=>(lk e n).getD .undef
theorem zbj(e:List (Nat × AV))(n:Nat):lkE e n=(lk e n).getD .undef:=(rfl)
theorem zbz{α:Type}(n:Nat):lk ([]:List (Nat × α)) n=none:=(rfl)
theorem zbr{α:Type}(k:Nat)(v:α)(r:List (Nat × α))(n:Nat):lk ((k,v) :: r) n=bif n==k then some v else lk r n:=(rfl)
section
variable {nt:Nat}{fs:List Nat}{Q:AExit→St→Prop}{st:St}
theorem LeS.refl(s:St):LeS fs s s:=λ_ _ _ _ h=>h
theorem LeS.trans{s s' s'':St}(h:LeS fs s s')(k:LeS fs s' s''):LeS fs s s'':=λC a w hf hc=>k C a w hf (h C a w hf hc)
theorem LeS.kp{s:St}(e:List (Nat × AV))(he:KpE s e):LeS fs s { env:=lkE e,ob:=s.ob }:=by
 intro C a w hf hC
 obtain ⟨I,β,φ,hC⟩:=hC
 refine ⟨I,β,φ,{ hC with env:=λt=>?_,ob:=hC.ob,dom:=hC.dom,fdom:=hC.fdom,wok:=hC.wok,fnew:=hC.fnew,dfr:=hC.dfr }⟩
 show Rv w I β ((lk e t).getD .undef) _
 cases hl:lk e t with
 | none=>exact trivial
 | some v=>rw [←KpE_get he t v hl];exact hC.env t
theorem LeS.le{s:St}{ρ:Ren}{e:List (Nat × AV)}{os:List (Nat × OB)}(h:LeSt fs s ρ e os):LeS fs s { env:=lkE e,ob:=lk os }:=by
 intro C a w hf hC
 obtain ⟨I,β,φ,hC⟩:=hC
 exact LeSt.sound hC hf h
theorem zgl{c:Code}{s':St}(h:LeS fs st s')(hw:AW P nt fs c Q s'):AW P nt fs c Q st:=λC a w hn hf hC=>hw C a w hn hf (h C a w hf hC)
theorem AW_k{c:Code}(e:List (Nat × AV))(he:KpE st e)(h:AW P nt fs c Q { env:=lkE e,ob:=st.ob }):AW P nt fs c Q st:=zgl (LeS.kp e he) h
theorem zce{α:Type}(f:Nat→α)(n:Nat)(v:α)(m:Nat):upd f n v m=bif m==n then v else f m:=(rfl)
theorem upd_upd{α:Type}(f:Nat→α)(n:Nat)(v w:α):upd (upd f n v) n w=upd f n w:=by
 funext m
 by_cases h:m=n
 ·subst h;simp [upd]
 ·simp [upd];cases hb:(m==n)<;>simp
theorem zcj{n:Int}(h0 : -9223372036854775808≤n)(h1:n<9223372036854775808):IntKind.i64.wrap n=n:=by
 simp [IntKind.wrap,IntKind.bits,IntKind.signed]
 omega
def cutS(fs:List Nat)(J:St→Prop)(Q:AExit→St→Prop):AExit→St→Prop
 | .normal,s=>∃s',LeS fs s s'∧J s'
 | e,s=>Q e s
theorem zfz{x y:Code}(J:St→Prop)(h1:AW P nt fs x (cutS fs J Q) st)(h2:∀s,J s→AW P nt fs y Q s):AW P nt fs (.seq x y) Q st:=by
 intro C a w hn hf hC
 refine wp_seq (wp_mono (h1 C a w hn hf hC) ?_)
 intro e a w hh
 cases e with
 | normal =>
  obtain ⟨s,⟨s',g1,g2⟩,g3⟩:=hh
  exact h2 s' g2 C a w hn hf (g1 C a w hf g3)
 | exit i=>obtain ⟨s,h1,h2⟩:=hh;exact ⟨s,h1,h2⟩
 | ret=>obtain ⟨s,h1,h2⟩:=hh;exact ⟨s,h1,h2⟩
 | _=>exact hh.elim
def loopS(fs:List Nat)(J:Nat→St→Prop)(m:Nat)(Q:AExit→St→Prop):AExit→St→Prop
 | .normal,s=>∃s',LeS fs s s'∧∃m',m'<m∧J m' s'
 | e,s=>Q e s
theorem zbt{c:Code}(J:Nat→St→Prop)(h0:∃s',LeS fs st s'∧∃m,J m s')(h1:∀m s,J m s→AW P nt fs c (loopS fs J m Q) s):AW P nt fs (.loop c) Q st:=by
 intro C a w hn hf hC
 obtain ⟨s0,hle,m,hJ⟩:=h0
 have h2:=hle C a w hf hC
 clear hC
 have key:∀m s a w,J m s→CC C s a w→∀(b:Frame) (k:List Item) (cs:List Frame),
  ∃x a' w',QQ C Q x a' w'∧Arrives P (lone (b.at a (.code c :: .inLoop c :: k)) cs w) b k cs x a' w':=by
  intro m
  induction m using Nat.strongRecOn with
  | _ m ih =>
   intro s a w hJ hC b k cs
   obtain ⟨x,a₁,w₁,hq,harr⟩:=h1 m s hJ C a w hn hf hC b (.inLoop c :: k) cs
   cases x with
   | normal =>
    obtain ⟨s1,⟨s',g1,m',g2,g3⟩,g4⟩:=hq
    obtain ⟨x₂,a₂,w₂,hq₂,harr₂⟩:=ih m' g2 s' a₁ w₁ g3 (g1 C a₁ w₁ hf g4) b k cs
    exact ⟨x₂,a₂,w₂,hq₂,.of_steps (Steps.trans harr (.one step_inLoop)) harr₂⟩
   | exit i=>obtain ⟨s,g1,g2⟩:=hq;exact ⟨.exit i,a₁,w₁,⟨s,g1,g2⟩,.pass (x:=.inLoop c) rfl (λ_ _=>.inl (by simp)) harr⟩
   | ret=>obtain ⟨s,g1,g2⟩:=hq;exact ⟨.ret,a₁,w₁,⟨s,g1,g2⟩,.pass (x:=.inLoop c) rfl (λ_ _=>.inl (by simp)) harr⟩
   | goto l=>exact hq.elim
   | panic ch=>exact hq.elim
   | outgrown=>exact hq.elim
 intro b k cs
 obtain ⟨x,a',w',hq,harr⟩:=key m s0 a w hJ h2 b k cs
 exact ⟨x,a',w',hq,.of_steps (.one step_loop) harr⟩
end
end Go.Proofs.YtodmafgmdlkhoaaDoor.Vs
end
section
namespace Go.Proofs.YtodmafgmdlkhoaaDoor.Vs
set_option linter.all false
open Go.RowKit
variable {P:Program}
def tileOk(P:Program):List Field→Nat→Nat→Bool
 | [],o,s=>o==s
 | f :: fs,o,s=>f.offset==o&&tileOk P fs (o+P.cellsOf f.type) s
def okT(P:Program):Nat→TypeId→Bool
 | 0,_=>false
 | n+1,t=>match P.underlying t with
  | some .bool=>true
  | some (.int _)=>true
  | some .string=>true
  | some (.slice e)=>decide (0<P.cellsOf e)&&okT P n e
  | some (.struct fs)=>tileOk P fs.toList 0 (P.cellsOf t)&&fs.toList.all (λf=>okT P n f.type)
  | _=>false
def shpF(S:TypeId→List AV→Prop)(P:Program):List Field→List AV→Prop
 | [],cs=>cs=[]
 | f :: fs,cs=>∃a b,cs=a++b∧a.length=P.cellsOf f.type∧S f.type a∧shpF S P fs b
def shp(P:Program):Nat→TypeId→List AV→Prop
 | 0,_,_=>False
 | n+1,t,cs=>match P.underlying t with
  | some .bool=>∃b,cs=[.g (.bool b)]
  | some (.int k)=>∃m,cs=[.g (.int k m)]∧(Lit.int k m).wf=true
  | some .string=>∃l,cs=[.s l]∧l.length≤maxLen
  | some (.slice e)=>∃xs,cs=[.sl (P.cellsOf e) xs]∧xs.length≤maxLen∧∀x∈xs,shp P n e x
  | some (.struct fs)=>shpF (shp P n) P fs.toList cs
  | _=>False
def RIl(w:World)(I:Nat→Prop):List AV→List Value→Prop
 | [],vs=>vs=[]
 | c :: cs,vs=>∃v vs',vs=v :: vs'∧RI w I c v∧RIl w I cs vs'
section
variable {w:World}{I:Nat→Prop}
theorem zkf:∀(cs:List AV) (vs:List Value),RIl w I cs vs→cs.length=vs.length
 | [],_,h=>by cases h;rfl
 | c :: cs,_,⟨v,vs',rfl,_,h⟩=>by simp [zkf cs vs' h]
theorem zn2:∀(cs ds:List AV) (vs us:List Value),RIl w I cs vs→RIl w I ds us→RIl w I (cs++ds) (vs++us)
 | [],_,_,_,h,k=>by cases h;exact k
 | c :: cs,ds,_,us,⟨v,vs',rfl,h1,h2⟩,k=>⟨v,vs'++us,rfl,h1,zn2 cs ds vs' us h2 k⟩
theorem RIl_get:∀(cs:List AV) (vs:List Value),RIl w I cs vs→∀(i:Nat) c,cs[i]? = some c→∃v,vs[i]? = some v∧RI w I c v
 | [],_,_,i,c,h=>by simp at h
 | c :: cs,_,⟨v,vs',rfl,h1,h2⟩,i,c',h=>by
  cases i with
  | zero=>simp at h;subst h;exact ⟨v,rfl,h1⟩
  | succ i=>simpa using RIl_get cs vs' h2 i c' (by simpa using h)
theorem list_of{α:Type}{Q:Nat→α→Prop}:∀(n:Nat),(∀i,i<n→∃x,Q i x)→∃xs:List α,xs.length=n∧∀(i:Nat) x,xs[i]? = some x→Q i x
 | 0,_=>⟨[],rfl,by simp⟩
 | n+1,h=>by
  obtain ⟨xs,hl,hx⟩:=list_of n λi hi=>h i (by omega)
  obtain ⟨x,hq⟩:=h n (by omega)
  refine ⟨xs++[x],by simp [hl],λi y hy=>?_⟩
  by_cases hi:i<n
  ·rw [List.getElem?_append_left (by omega)] at hy;exact hx i y hy
  ·rw [List.getElem?_append_right (by omega)] at hy
   have:i=n:=by
    have:=(List.getElem?_eq_some_iff.1 hy).1
    simp at this;omega
   subst this
   simp [hl] at hy
   subst hy;exact hq
theorem cells?_cell{base:Nat}{a:Addr}{n:Nat}{cs:List Value}(h:w.cells? base a n=some cs):cs.length=n∧∀j,j<n→w.cell? (a.add j)=cs[j]?:=by
 unfold World.cells? at h
 split at h
 ·have hl:=mapM_some_length h
  refine ⟨by simpa using hl,λj hj=>mapM_some_get h j j (by simp [hj])⟩
 ·cases h
theorem cell?_spot{a:Addr}{v:Value}(h:w.cell? a=some v):a.spot=none∧a.block<w.heap.size:=by
 unfold World.cell? at h
 split at h
 ·rename_i c x y hc
  split at h
  ·cases h
  ·rename_i hs
   refine ⟨by simpa using hs,?_⟩
   exact (Array.getElem?_eq_some_iff.1 hc).1
 ·cases h
variable {H:Type}{enc:TypeId × Value→H}{spare:Nat→Bool}{held:Bool}
theorem zmi:∀(n fuel:Nat) (t:TypeId) (vs:List Value) (x:DataW H × List MemPlace),okT P n t=true→DataW.trod enc P w 0 spare held fuel t vs=some x →
 ∃cs,shp P n t cs∧RIl w (λb=>b<w.heap.size) cs vs
 | 0,_,_,_,_,h,_=>by simp [okT] at h
 | n+1,fuel,t,vs,x,hok,h=>by
  unfold okT at hok
  unfold shp
  cases hu:P.underlying t with
  | none=>rw [hu] at hok;simp at hok
  | some d =>
   rw [hu] at hok
   cases d with
   | slice e =>
    simp only [Bool.and_eq_true,decide_eq_true_eq] at hok
    simp only
    rcases DataW.trod_slice hu h with ⟨rfl,-⟩ | ⟨a,len,cap,elems,rest,m,-,rfl,-,-,hlc,hcm,hel,hget,-,-⟩
    ·refine ⟨[.sl (P.cellsOf e) []],⟨[],rfl,by simp,by simp⟩,.slice none 0 0,[],rfl,?_,rfl⟩
     rw [RI];exact ⟨none,0,rfl,by simp,.inl rfl⟩
    ·have hsp : 0 < len → a.spot = none ∧ a.block < w.heap.size := by
      intro hlen
      have h1:=hget 0 hlen
      rw [List.getElem?_eq_getElem (by omega)] at h1
      obtain ⟨vs',h2,h3⟩:=Option.bind_eq_some_iff.1 h1
      obtain ⟨h6,h7⟩:=cells?_cell h2
      have h8:=h7 0 hok.1
      rw [List.getElem?_eq_getElem (by omega)] at h8
      simp only [Nat.zero_mul,Addr.add,if_true] at h8
      exact cell?_spot h8
     have hadd:a.spot=none→∀k,a.add k=⟨a.block,a.off+k,none⟩:=by
      intro hs k
      unfold Addr.add
      split
      ·rename_i hk;subst hk;rw [←hs];rfl
      ·rfl
     obtain ⟨xs,hxl,hxs⟩:=list_of (Q:=λi y=>shp P n e y∧y.length=P.cellsOf e∧RIc w (λb=>b<w.heap.size) a.block (a.off+i*P.cellsOf e) y) len (by
      intro i hi
      obtain ⟨hs,hb⟩:=hsp (by omega)
      have h1:=hget i hi
      rw [List.getElem?_eq_getElem (by omega)] at h1
      obtain ⟨vs',h2,h3⟩:=Option.bind_eq_some_iff.1 h1
      obtain ⟨y,h4,h5⟩:=zmi n m e vs' _ hok.2 h3
      obtain ⟨h6,h7⟩:=cells?_cell h2
      have hylen:y.length=P.cellsOf e:=by rw [zkf _ _ h5,h6]
      refine ⟨y,h4,hylen,(zhu _ _).2 λj c hc=>?_⟩
      obtain ⟨v,hv,hr⟩:=RIl_get _ _ h5 j c hc
      refine ⟨v,?_,hr⟩
      have h8:=h7 j (by have:=(List.getElem?_eq_some_iff.1 hc).1;omega)
      rw [hadd hs,hv] at h8
      have:({ block:=a.block,off:=a.off+i*P.cellsOf e,spot:=none }:Addr).add j=⟨a.block,a.off+i*P.cellsOf e+j,none⟩:=by
       unfold Addr.add
       split
       ·rename_i hk;subst hk;rfl
       ·rfl
      rw [this] at h8
      exact h8)
     refine ⟨[.sl (P.cellsOf e) xs],⟨xs,rfl,by omega,λy hy=>?_⟩,.slice (some a) len cap,[],rfl,?_,rfl⟩
     ·obtain ⟨i,hi⟩:=List.getElem?_of_mem hy
      exact (hxs i y hi).1
     ·rw [RI]
      refine ⟨some a,cap,by rw [hxl],by omega,?_⟩
      by_cases h0:len=0
      ·left;exact List.length_eq_zero_iff.1 (by omega)
      ·obtain ⟨hs,hb⟩:=hsp (by omega)
       refine .inr ⟨a.block,a.off,?_,hb,(zj2 _ _).2 λi y hy=>⟨(hxs i y hy).2.1,(hxs i y hy).2.2⟩⟩
       rw [←hs]
   | struct fs =>
    simp only [Bool.and_eq_true] at hok
    simp only
    obtain ⟨ys,m,-,rfl,hl,hlen,hf⟩:=DataW.trod_struct hu h
    have key:∀(l:List Field) (o:Nat) (us:List Value),tileOk P l o (P.cellsOf t)=true→l.all (λf=>okT P n f.type)=true→us=vs.drop o→o≤vs.length →
     (∀f∈l,∃y,DataW.trod enc P w 0 spare held m f.type ((vs.drop f.offset).take (P.cellsOf f.type))=some y)→∃cs,shpF (shp P n) P l cs∧RIl w (λb=>b<w.heap.size) cs us:=by
     intro l
     induction l with
     | nil =>
      intro o us ht _ hus _ _
      have:o=P.cellsOf t:=by simpa [tileOk] using ht
      refine ⟨[],rfl,?_⟩
      show us=[]
      rw [hus]
      exact List.drop_eq_nil_of_le (by omega)
     | cons f l ih =>
      intro o us ht hall hus hol hr
      unfold tileOk at ht
      simp only [Bool.and_eq_true,beq_iff_eq] at ht
      simp only [List.all_cons,Bool.and_eq_true] at hall
      obtain ⟨rfl,ht⟩:=ht
      obtain ⟨y,hy⟩:=hr f (by simp)
      obtain ⟨a,h1,h2⟩:=zmi n m f.type _ y hall.1 hy
      have hle:∀(l:List Field) (o s:Nat),tileOk P l o s=true→o≤s:=by
       intro l
       induction l with
       | nil => intro o s h; have : o = s := by simpa [tileOk] using h
                omega
       | cons f l ih =>
        intro o s h
        unfold tileOk at h
        simp only [Bool.and_eq_true,beq_iff_eq] at h
        have:=ih _ _ h.2
        omega
      have hb:=hle _ _ _ ht
      obtain ⟨b,h3,h4⟩:=ih (f.offset+P.cellsOf f.type) (vs.drop (f.offset+P.cellsOf f.type)) ht hall.2 rfl (by omega) λg hg=>hr g (by simp [hg])
      have hal:a.length=P.cellsOf f.type:=by
       rw [zkf _ _ h2]
       simp
       omega
      refine ⟨a++b,⟨a,b,rfl,hal,h1,h3⟩,?_⟩
      have:us=(vs.drop f.offset).take (P.cellsOf f.type)++vs.drop (f.offset+P.cellsOf f.type):=by
       rw [hus,←List.drop_drop,List.take_append_drop]
      rw [this]
      exact zn2 _ _ _ _ h2 h4
    exact key fs.toList 0 vs hok.1 hok.2 rfl (Nat.zero_le _) λf hf'=>by
     obtain ⟨i,hi⟩:=List.getElem?_of_mem hf'
     have h1:=hf i f (by simpa using hi)
     have hlt:i<ys.length:=by rw [hlen];simpa using (List.getElem?_eq_some_iff.1 hi).1
     exact ⟨ys[i],by rw [h1];simp [hlt]⟩
   | bool =>
    obtain ⟨b,rfl,-⟩:=DataW.trod_bool hu h
    refine ⟨[.g (.bool b)],⟨b,rfl⟩,_,[],rfl,?_,rfl⟩
    rw [RI];exact ⟨rfl,rfl⟩
   | int k =>
    obtain ⟨m,rfl,-,hw⟩:=DataW.trod_int hu h
    refine ⟨[.g (.int k m)],⟨m,rfl,hw⟩,_,[],rfl,?_,rfl⟩
    rw [RI];exact ⟨rfl,rfl⟩
   | string =>
    obtain ⟨s,rfl,-,hs⟩:=DataW.trod_string hu h
    refine ⟨[.s s.data.toList],⟨_,rfl,by simpa using hs⟩,_,[],rfl,?_,rfl⟩
    rw [RI]
   | _=>simp at hok
end
end Go.Proofs.YtodmafgmdlkhoaaDoor.Vs
end
section
namespace Go.Proofs.YtodmafgmdlkhoaaDoor.Vs
set_option linter.all false
open Go.RowKit Go.ChangeShapes Go.WideShapes
variable {P:Program}
def argA(P:Program)(t:TypeId)(cs:List AV):AV:=match P.underlying t with
 | some (.struct _)=>.agg cs
 | _=>cs.headD .undef
def shpA(P:Program)(n:Nat):List TypeId→List AV→Prop
 | [],l=>l=[]
 | t :: ts,l=>∃cs l',l=argA P t cs :: l'∧shp P n t cs∧shpA P n ts l'
section
variable {H:Type}{enc:TypeId × Value→H}
theorem zws{w:World}{I:Nat→Prop}{β:Beta}:∀(cs:List AV) (vs:List Value),RIl w I cs vs→Rv1s w I β cs vs
 | [],_,h=>h
 | c :: cs,_,⟨v,vs',h1,h2,h3⟩=>⟨v,vs',h1,zlu c v h2,zws cs vs' h3⟩
theorem RI_Rv2{w:World}{I:Nat→Prop}{β:Beta}(c:AV)(v:Value)(h:RI w I c v):Rv2 w I β c v:=by
 have:=zlu (β:=β) c v h
 cases c with
 | agg cs=>simp [RI] at h
 | _=>exact this
theorem notAgg{w:World}{r:Reach}{b:Nat}{t:TypeId}{d:TypeDesc}{v:Value}(hu:P.underlying t=some d)(hd:d=.bool∨(∃k,d=.int k)∨d=.string∨∃e,d=.slice e)(h:Value.okWide P w r b t v):v.cells.toList=[v]:=by
 cases v with
 | agg cs =>
  exfalso
  unfold Value.okWide at h
  rw [hu] at h
  rcases hd with rfl | ⟨k,rfl⟩ | rfl | ⟨e,rfl⟩<;>simp [Cell.okWide,Cell.ok,hu] at h
 | _=>rfl
theorem arg_open{w:World}{n:Nat}{t:TypeId}{v:Value}{d:DataW H}{ps:List MemPlace}{r:Reach}{b:Nat}{spare:Nat→Bool}{held:Bool}(hok:okT P n t=true)(hv:Value.okWide P w r b t v)(h:DataW.Trod enc P w 0 spare held t v d ps) :
 ∃cs,shp P n t cs∧Rv2 w (λb=>b<w.heap.size) (λ_=>none) (argA P t cs) v:=by
 obtain ⟨fuel,h⟩:=h
 obtain ⟨cs,h1,h2⟩:=zmi n fuel t _ _ hok h
 refine ⟨cs,h1,?_⟩
 cases n with
 | zero=>simp [okT] at hok
 | succ n =>
  unfold okT at hok
  cases hu:P.underlying t with
  | none=>rw [hu] at hok;simp at hok
  | some d =>
   rw [hu] at hok
   have one:(d=.bool∨(∃k,d=.int k)∨d=.string∨∃e,d=.slice e)→Rv2 w (λb=>b<w.heap.size) (λ_=>none) (cs.headD .undef) v:=by
    intro hd
    rw [notAgg hu hd hv] at h2
    match cs,h2 with
    | [c],⟨x,xs,he,h3,h4⟩=>cases he;exact RI_Rv2 c v h3
    | c :: c' :: cs,⟨x,xs,he,h3,⟨y,ys,he',_⟩⟩=>subst he';simp at he
   unfold argA
   rw [hu]
   cases d with
   | struct fs =>
    simp only
    unfold Value.okWide at hv
    rw [hu] at hv
    obtain ⟨us,rfl,-⟩:=hv
    exact ⟨us.toList,rfl,zws _ _ h2⟩
   | bool=>exact one (.inl rfl)
   | int k=>exact one (.inr (.inl ⟨k,rfl⟩))
   | string=>exact one (.inr (.inr (.inl rfl)))
   | slice e=>exact one (.inr (.inr (.inr ⟨e,rfl⟩)))
   | _=>simp at hok
theorem zr1{w:World}{n:Nat}{r:Reach}{b:Nat}{spare:Nat→Bool}{held:Bool}:∀(ts:List TypeId) (vs:List Value) (ds:List (DataW H)) (ps:List MemPlace),ts.all (okT P n)=true→(∀(j:Nat) t v,ts[j]? = some t→vs[j]? = some v→Value.okWide P w r b t v) →
 DataW.TrodAll enc P w 0 spare held ts vs ds ps→∃l,shpA P n ts l∧Rv2s w (λb=>b<w.heap.size) (λ_=>none) l vs
 | [],vs,ds,ps,_,_,h=>by
  obtain ⟨rfl,-,-⟩:=trodAll_nil h
  exact ⟨[],rfl,rfl⟩
 | t :: ts,vs,ds,ps,hok,hv,h=>by
  obtain ⟨v,vs',d,ds',p,q,rfl,rfl,rfl,h1,h2⟩:=trodAll_cons h
  simp only [List.all_cons,Bool.and_eq_true] at hok
  obtain ⟨cs,h3,h4⟩:=arg_open hok.1 (hv 0 t v rfl rfl) h1
  obtain ⟨l,h5,h6⟩:=zr1 ts vs' ds' q hok.2 (λj t v h h'=>hv (j+1) t v (by simpa using h) (by simpa using h')) h2
  exact ⟨_,⟨cs,l,rfl,h3,h5⟩,v,vs',rfl,h4,h6⟩
theorem zjc(hl:laidOutB P=true){W W':World}(hb:Below W.heap.size W W'):∀(ts:List TypeId) (vs:List Value) (ds:List (DataW H)) (ps:List MemPlace),(∀t∈ts,P.readableRec t=true∧t<P.types.size)→(∀p∈ps,p.block<W.heap.size) →
 DataW.TrodAll enc P W 0 (λ_=>true) true ts vs ds ps→DataW.TrodAll enc P W' 0 (λb=>decide (b<W.heap.size)) true ts vs ds ps
 | [],vs,ds,ps,_,_,h=>by
  obtain ⟨rfl,rfl,rfl⟩:=trodAll_nil h
  exact trodAll_mk0
 | t :: ts,vs,ds,ps,ht,hp,h=>by
  obtain ⟨v,vs',d,ds',p,q,rfl,rfl,rfl,h1,h2⟩:=trodAll_cons h
  exact trodAll_cons_mk (Below.trod hl (ht t (by simp)).1 (ht t (by simp)).2 h1 hb λx hx=>hp x (by simp [hx]))
   (zjc hl hb ts vs' ds' q (λt h=>ht t (by simp [h])) (λx hx=>hp x (by simp [hx])) h2)
theorem law_postV{s:ChangeSpec}{f:FuncId}{fn:Func}{n tb:Nat}{vn:String}{vt:TypeId}(hvars:s.vars=[vn])(hvg:P.globalNamed vn=some 0)(hvt:(P.globals[0]?).map (·.type)=some vt)(hvr:varsRowed P [vn]=true)(hl:laidOutB P=true)(hps:fn.params.toList.all (okT P n)=true)(hrd:∀t∈fn.params.toList,P.readableRec t=true∧t<P.types.size)
 (hres:fn.resultTypes = #[tb]) (htb:P.underlying tb=some .bool) (hs:∀(ds:List (DataW H)) (g:DataW H),ds.length=fn.params.toList.length→(s.fn H (ds++[g])).results=[.lit (.bool true)]∧(s.fn H (ds++[g])).args=ds∧(s.fn H (ds++[g])).vars=[g])
 (walk:∀l,shpA P n fn.params.toList l→PCall P f l (.g (.bool true))) {W:World} {base:Nat} {args:Array Value} {ds gs:List (DataW H)} {before:List MemPlace}
 (hval:∀(j:Nat) t v,fn.params[j]? = some t→args[j]? = some v→Value.okWide P W .any base t v) (hgw:GW W λb=>b<W.heap.size) (hW:DataW.Whole enc P fn.params.toList s.vars false W args.toList ds gs before) :
 Calls P f args W λe W'=>∃v,e=.returned v∧s.post enc P fn false true false false W args v W':=by
 have hW0:=hW
 have hlt:=λp hp=>hW.lt p hp
 obtain ⟨p,q,hA,hV,rfl,hfz,-⟩:=hW
 rw [hvars] at hV
 have hV2:=hV
 obtain ⟨g,t,cs,fuel,d,pv,rfl,v1,v2,v3,v4,rfl⟩:=trodVars_one hV
 obtain rfl:g=0:=Option.some.inj (v1.symm.trans hvg)
 obtain rfl:t=vt:=Option.some.inj (v2.symm.trans hvt)
 obtain ⟨l,h1,h2⟩:=zr1 fn.params.toList args.toList ds p hps (λj t v h h'=>hval j t v (by simpa using h) (by simpa using h')) hA
 have hc:=(walk l h1).2 W _ _ args.toList (λb hb=>hb) hgw h2 (by simp) (λ_ _=>rfl) (by simp) (by simp) (by simp)
 have hdl:ds.length=fn.params.toList.length:=by
  have:∀(ts:List TypeId) (vs:List Value) (ds:List (DataW H)) (ps:List MemPlace),DataW.TrodAll enc P W 0 (λ_=>true) true ts vs ds ps→ds.length=ts.length:=by
   intro ts
   induction ts with
   | nil=>intro vs ds ps h;obtain ⟨-,rfl,-⟩:=trodAll_nil h;rfl
   | cons t ts ih =>
    intro vs ds ps h
    obtain ⟨v,vs',d,ds',p,q,rfl,rfl,rfl,-,h2⟩:=trodAll_cons h
    simp [ih _ _ _ h2]
  exact this _ _ _ _ hA
 obtain ⟨e1,e2,e3⟩:=hs ds d hdl
 refine Calls.mono hc ?_
 rintro e W' ⟨v,I',rfl,hev,-,-,hr,-⟩
 have hv:v=.bool true:=hr
 subst hv
 have hb:Below W.heap.size W W':=⟨hev.os,hev.tape,hev.output,hev.size,λk hk=>hev.blk k hk (by rintro ⟨i,bl,h,-⟩;simp at h)⟩
 refine ⟨_,rfl,ds,[d],_,[],p,MemPlace.row ⟨0,0,none⟩ cs.size++pv,hW0,?_,?_,?_,hb.frame _,λh=>by cases h⟩
 ·rw [hres,e1]
  exact trodAll_cons_mk (shut_bool htb _) trodAll_mk0
 ·rw [e2]
  exact zjc hl hb _ _ _ _ hrd (λx hx=>hlt x (by simp [hx])) hA
 ·rw [e3,hvars]
  exact Below.trodVars hl hb hvr hV2
end
end Go.Proofs.YtodmafgmdlkhoaaDoor.Vs
end
section
namespace Go.Proofs.YtodmafgmdlkhoaaDoor.Vs
set_option linter.all false
open Go.RowKit
variable {P:Program}
section
variable {st:St}{ν:Nat→Option Nat}
theorem am0_gg(v v':Value):am0 st ν (.g v) (.g v')=(v'=v):=by unfold am0;split<;>simp_all
theorem am0_ss(v v':List UInt8):am0 st ν (.s v) (.s v')=(v'=v):=(rfl)
theorem am0_ll(s s':Nat)(v v':List (List AV)):am0 st ν (.sl s v) (.sl s' v')=(s'=s∧v'=v):=(rfl)
theorem am1_gg(v v':Value):am1 st ν (.g v) (.g v')=(v'=v):=am0_gg v v'
theorem am1_ss(v v':List UInt8):am1 st ν (.s v) (.s v')=(v'=v):=(rfl)
theorem am1_ll(s s':Nat)(v v':List (List AV)):am1 st ν (.sl s v) (.sl s' v')=(s'=s∧v'=v):=(rfl)
theorem am1_nl(s':Nat)(v':List (List AV)):am1 st ν (.g (.slice none 0 0)) (.sl s' v')=(v'=[]):=(rfl)
theorem am1_al(n o l s:Nat)(xs:List (List AV)):am1 st ν (.arr n o l) (.sl s xs)=(∃ys,(st.ob n=some (.flat s ys)∨st.ob n=some (.shared s ys))∧o+l≤ys.length∧xs=(ys.drop o).take l):=(rfl)
theorem am2_gg(v v':Value):am2 st ν (.g v) (.g v')=(v'=v):=am0_gg v v'
theorem am2_ss(v v':List UInt8):am2 st ν (.s v) (.s v')=(v'=v):=(rfl)
theorem am2_ll(s s':Nat)(v v':List (List AV)):am2 st ν (.sl s v) (.sl s' v')=(s'=s∧v'=v):=(rfl)
theorem am2_nl(s':Nat)(v':List (List AV)):am2 st ν (.g (.slice none 0 0)) (.sl s' v')=(v'=[]):=(rfl)
theorem am2_al(n o l s:Nat)(xs:List (List AV)):am2 st ν (.arr n o l) (.sl s xs)=(∃ys,(st.ob n=some (.flat s ys)∨st.ob n=some (.shared s ys))∧o+l≤ys.length∧xs=(ys.drop o).take l):=(rfl)
theorem am2_ff(cs cs':List AV):am2 st ν (.agg cs) (.agg cs')=am1s st ν cs cs':=(rfl)
theorem am1s_nn:am1s st ν [] []=True:=by simp [am1s]
theorem am1s_cc(a b:AV)(l m:List AV):am1s st ν (a :: l) (b :: m)=(am1 st ν a b∧am1s st ν l m):=(rfl)
theorem am2s_nn:am2s st ν [] []=True:=by simp [am2s]
theorem am2s_cc(a b:AV)(l m:List AV):am2s st ν (a :: l) (b :: m)=(am2 st ν a b∧am2s st ν l m):=(rfl)
theorem amRs_one(v r:AV):amRs st [v] r=am2 st (λ_=>none) v r:=(rfl)
theorem amRs_two'(v w:AV)(rs:List AV):amRs st [v,w] (.tup rs)=am2s st (λ_=>none) [v,w] rs:=(rfl)
theorem amRs_thr(v w x:AV)(rs:List AV):amRs st [v,w,x] (.tup rs)=am2s st (λ_=>none) [v,w,x] rs:=(rfl)
def endR(x:Option (Prop × List AV))(st:St)(r:AV):Prop:=match x with
 | some (p,vs)=>p∧amRs st vs r
 | none=>False
theorem endR_some(p:Prop)(vs:List AV)(r:AV):endR (some (p,vs)) st r=(p∧amRs st vs r):=(rfl)
theorem zcc{rs:List ResultVar}{r:AV}(h:endR (resAll P st rs) st r):endQ P rs r [] st:=by
 unfold endR at h
 split at h
 ·rename_i p vs h1
  exact ⟨p,vs,h1,h.1,h.2,trivial⟩
 ·exact h.elim
theorem zzi:resAll P st []=some (True,[]):=(rfl)
theorem zzj(t:Nat)(r:List ResultVar):resAll P st (.tmp t :: r)=match resAll P st r with | some (q,vs)=>some (True∧q,st.env t :: vs) | none=>none:=by
 show (match some (True,st.env t,([]:Ups)),resAll P st r with | some (p,v,_),some (q,vs)=>some (p∧q,v :: vs) | _,_=>none)=_
 cases resAll P st r<;>rfl
theorem zt9(t:Nat)(T:TypeId)(r:List ResultVar):resAll P st (.cell t T :: r)=match aLoad P st T (st.env t),resAll P st r with | some (p,v,_),some (q,vs)=>some (p∧q,v :: vs) | _,_=>none:=(rfl)
end
theorem zbm{nt:Nat}{fs:List Nat}{y:Code}{Q:AExit→St→Prop}{s:St}(h:AW P nt fs y Q s):thenQ P nt fs y Q .normal s:=h
theorem zb5(n:Nat):formOb [] [] n=none:=by unfold formOb;split<;>simp
end Go.Proofs.YtodmafgmdlkhoaaDoor.Vs
end
section
namespace Go.Proofs.YtodmafgmdlkhoaaDoor.Vs
set_option linter.all false
open Go.RowKit
def cI(x:Int):List AV:=[.g (.int .i64 x)]
def cB(x:Bool):List AV:=[.g (.bool x)]
def cS(x:List UInt8):List AV:=[.s x]
noncomputable def eqB{α:Sort _}(a b:α):Bool:=@decide (a=b) (Classical.propDecidable _)
theorem zbc{α:Sort _}(a b:α):(eqB a b=true)=(a=b):=by unfold eqB;simp
theorem zba{α:Sort _}(a b:α):(eqB a b=false)=¬(a=b):=by unfold eqB;simp
theorem eqB_self{α:Sort _}(a:α):eqB a a=true:=by unfold eqB;simp
theorem eqB_of{α:Sort _}{a b:α}(h:a=b):eqB a b=true:=by unfold eqB;simpa using h
theorem eqB_ne{α:Sort _}{a b:α}(h:¬a=b):eqB a b=false:=by unfold eqB;simpa using h
def lenZ{α:Type}(l:List α):Int:=l.length
theorem zc9{α:Type}(l:List α):0≤lenZ l:=by unfold lenZ;omega
def zeroZ{α:Type}(_:α):Int:=0
def sumZ{α:Type}(f:α→Int)(l:List α):Int:=l.foldr (λx n=>f x+n) 0
def szS{α:Type}(f:α→Int)(l:List α):Int:=l.length+sumZ f l
section
variable {α:Type}{f:α→Int}
theorem zcr:sumZ f []=0:=(rfl)
theorem zcu(x:α)(xs:List α):sumZ f (x :: xs)=f x+sumZ f xs:=(rfl)
theorem zb9(hf:∀x,0≤f x):∀l,0≤sumZ f l
 | []=>by simp [zcr]
 | x :: xs=>by rw [zcu];have:=zb9 hf xs;have:=hf x;omega
theorem zga(hf:∀x,0≤f x)(l:List α):0≤szS f l:=by have:=zb9 hf l;unfold szS;omega
theorem zda(hf:∀x,0≤f x)(l:List α)(x:α)(h:x∈l):f x≤sumZ f l:=by
 induction l with
 | nil=>simp at h
 | cons y ys ih =>
  rw [zcu]
  have:=hf y
  have:=zb9 hf ys
  rcases List.mem_cons.1 h with rfl | h
  ·omega
  ·have:=ih h;omega
end
def szR(left s:Int):Int:=if left-s<0 then -1 else left-s
def wfI(x:Int):Prop:=-9223372036854775808≤x∧x<9223372036854775808
def wfB(_:Bool):Prop:=True
def wfL(x:List UInt8):Prop:=x.length≤9223372036854775807
def wfS{α:Type}(p:α→Prop)(l:List α):Prop:=l.length≤9223372036854775807∧∀x∈l,p x
theorem row_of{P:Program}{n:Nat}{e:TypeId}{α:Type}{c:α→List AV}{p:α→Prop}(h:∀x,shp P n e x→∃u,x=c u∧p u):∀(xs:List (List AV)),(∀x∈xs,shp P n e x)→∃l:List α,xs=l.map c∧∀u∈l,p u
 | [],_=>⟨[],rfl,by simp⟩
 | x :: xs,hx=>by
  obtain ⟨l,rfl,hl⟩:=row_of h xs λy hy=>hx y (by simp [hy])
  obtain ⟨u,rfl,hu⟩:=h x (hx x (by simp))
  exact ⟨u :: l,rfl,by simpa [hu] using hl⟩
theorem of_row{P:Program}{n:Nat}{t e:TypeId}{k:Nat}{α:Type}{c:α→List AV}{p:α→Prop}(hu:P.underlying t=some (.slice e))(hk:P.cellsOf e=k)(h:∀x,shp P n e x→∃u,x=c u∧p u):∀x,shp P (n+1) t x→∃l:List α,x=[.sl k (l.map c)]∧wfS p l:=by
 intro x hx
 unfold shp at hx
 rw [hu] at hx
 obtain ⟨xs,rfl,hl,hx⟩:=hx
 obtain ⟨l,rfl,hl2⟩:=row_of h xs hx
 subst hk
 have hl3:l.length≤maxLen:=by simpa using hl
 exact ⟨l,rfl,hl3,hl2⟩
structure DtCmd where
 fKind:Int
 fClient:Int
 fNo:Int
 fSet:List UInt8
 fName:List UInt8
 fTag:List UInt8
 fN:Int
 fChunks:List (List UInt8)
def DtCmd.cells(u:DtCmd):List AV:=[.g (.int .i64 u.fKind),.g (.int .i64 u.fClient),.g (.int .i64 u.fNo),.s u.fSet,.s u.fName,.s u.fTag,.g (.int .i64 u.fN),.sl 1 (u.fChunks.map cS)]
def DtCmd.sz(u:DtCmd):Int:=(u.fSet.length:Int)+(u.fName.length:Int)+(u.fTag.length:Int)+szS lenZ u.fChunks
theorem DtCmd.sz_nonneg(u:DtCmd):0≤DtCmd.sz u:=by
 unfold DtCmd.sz
 have:=(zga zc9) u.fChunks
 omega
def DtCmd.wf(u:DtCmd):Prop:=wfI u.fKind∧wfI u.fClient∧wfI u.fNo∧wfL u.fSet∧wfL u.fName∧wfL u.fTag∧wfI u.fN∧(wfS wfL) u.fChunks
theorem DtCmd.ext_iff(u v:DtCmd):(u=v)=(u.fKind=v.fKind∧u.fClient=v.fClient∧u.fNo=v.fNo∧u.fSet=v.fSet∧u.fName=v.fName∧u.fTag=v.fTag∧u.fN=v.fN∧u.fChunks=v.fChunks):=by cases u;cases v;simp
theorem DtCmd.cells_len(u:DtCmd):(DtCmd.cells u).length=8:=(rfl)
structure DtCSnap where
 fName:List UInt8
 fTag:List UInt8
 fChunks:List (List UInt8)
def DtCSnap.cells(u:DtCSnap):List AV:=[.s u.fName,.s u.fTag,.sl 1 (u.fChunks.map cS)]
def DtCSnap.sz(u:DtCSnap):Int:=(u.fName.length:Int)+(u.fTag.length:Int)+szS lenZ u.fChunks
theorem DtCSnap.sz_nonneg(u:DtCSnap):0≤DtCSnap.sz u:=by
 unfold DtCSnap.sz
 have:=(zga zc9) u.fChunks
 omega
def DtCSnap.wf(u:DtCSnap):Prop:=wfL u.fName∧wfL u.fTag∧(wfS wfL) u.fChunks
theorem DtCSnap.ext_iff(u v:DtCSnap):(u=v)=(u.fName=v.fName∧u.fTag=v.fTag∧u.fChunks=v.fChunks):=by cases u;cases v;simp
theorem DtCSnap.cells_len(u:DtCSnap):(DtCSnap.cells u).length=3:=(rfl)
structure DtCSet where
 fName:List UInt8
 fSnaps:List DtCSnap
def DtCSet.cells(u:DtCSet):List AV:=[.s u.fName,.sl 3 (u.fSnaps.map DtCSnap.cells)]
def DtCSet.sz(u:DtCSet):Int:=(u.fName.length:Int)+szS DtCSnap.sz u.fSnaps
theorem DtCSet.sz_nonneg(u:DtCSet):0≤DtCSet.sz u:=by
 unfold DtCSet.sz
 have:=(zga DtCSnap.sz_nonneg) u.fSnaps
 omega
def DtCSet.wf(u:DtCSet):Prop:=wfL u.fName∧(wfS DtCSnap.wf) u.fSnaps
theorem DtCSet.ext_iff(u v:DtCSet):(u=v)=(u.fName=v.fName∧u.fSnaps=v.fSnaps):=by cases u;cases v;simp
theorem DtCSet.cells_len(u:DtCSet):(DtCSet.cells u).length=2:=(rfl)
structure DtCatalog where
 fSets:List DtCSet
def DtCatalog.cells(u:DtCatalog):List AV:=[.sl 2 (u.fSets.map DtCSet.cells)]
def DtCatalog.sz(u:DtCatalog):Int:=szS DtCSet.sz u.fSets
theorem DtCatalog.sz_nonneg(u:DtCatalog):0≤DtCatalog.sz u:=by
 unfold DtCatalog.sz
 have:=(zga DtCSet.sz_nonneg) u.fSets
 omega
def DtCatalog.wf(u:DtCatalog):Prop:=(wfS DtCSet.wf) u.fSets
theorem DtCatalog.ext_iff(u v:DtCatalog):(u=v)=(u.fSets=v.fSets):=by cases u;cases v;simp
theorem DtCatalog.cells_len(u:DtCatalog):(DtCatalog.cells u).length=1:=(rfl)
structure DtSaid where
 fClient:Int
 fNo:Int
 fText:List UInt8
def DtSaid.cells(u:DtSaid):List AV:=[.g (.int .i64 u.fClient),.g (.int .i64 u.fNo),.s u.fText]
def DtSaid.sz(u:DtSaid):Int:=(u.fText.length:Int)
theorem DtSaid.sz_nonneg(u:DtSaid):0≤DtSaid.sz u:=by
 unfold DtSaid.sz
 omega
def DtSaid.wf(u:DtSaid):Prop:=wfI u.fClient∧wfI u.fNo∧wfL u.fText
theorem DtSaid.ext_iff(u v:DtSaid):(u=v)=(u.fClient=v.fClient∧u.fNo=v.fNo∧u.fText=v.fText):=by cases u;cases v;simp
theorem DtSaid.cells_len(u:DtSaid):(DtSaid.cells u).length=3:=(rfl)
structure DtState where
 fCat:DtCatalog
 fSaid:List DtSaid
def DtState.cells(u:DtState):List AV:=[.sl 2 (u.fCat.fSets.map DtCSet.cells),.sl 3 (u.fSaid.map DtSaid.cells)]
def DtState.sz(u:DtState):Int:=DtCatalog.sz u.fCat+szS DtSaid.sz u.fSaid
theorem DtState.sz_nonneg(u:DtState):0≤DtState.sz u:=by
 unfold DtState.sz
 have:=DtCatalog.sz_nonneg u.fCat
 have:=(zga DtSaid.sz_nonneg) u.fSaid
 omega
def DtState.wf(u:DtState):Prop:=DtCatalog.wf u.fCat∧(wfS DtSaid.wf) u.fSaid
theorem DtState.ext_iff(u v:DtState):(u=v)=(u.fCat=v.fCat∧u.fSaid=v.fSaid):=by cases u;cases v;simp
theorem DtState.cells_len(u:DtState):(DtState.cells u).length=2:=(rfl)
end Go.Proofs.YtodmafgmdlkhoaaDoor.Vs
end
section
namespace Go.Proofs.YtodmafgmdlkhoaaDoor.Vs
set_option linter.all false
open Go.RowKit
variable {P:Program}
def nmIn(ns:List Nat):AV→Bool
 | .arr n _ _=>ns.contains n
 | .ptr n _=>ns.contains n
 | .eptr n _ _=>ns.contains n
 | .fn ..=>false
 | .tup _=>false
 | _=>true
def nmIn2(ns:List Nat):AV→Bool
 | .agg cs=>cs.all (nmIn ns)
 | v=>nmIn ns v
def nmInO(ns:List Nat):OB→Bool
 | .cells cs=>cs.all (nmIn ns)
 | .rocells cs=>cs.all (nmIn ns)
 | .dead=>false
 | .win _ xs=>scR xs
 | .ownh ..=>false
 | .winc ..=>false
 | _=>true
def KpO(s:St):List (Nat × OB)→Prop
 | []=>True
 | (n,o) :: r=>s.ob n=some o∧KpO s r
def idR(ns:List Nat):Ren:=ns.map λn=>(n,n)
theorem idR_fst(ns:List Nat):(idR ns).map (·.1)=ns:=by unfold idR;rw [List.map_map];simp [Function.comp_def]
theorem idR_snd(ns:List Nat):(idR ns).map (·.2)=ns:=by unfold idR;rw [List.map_map];simp [Function.comp_def]
theorem zn3:∀(ns:List Nat) (n:Nat),ns.contains n=true→lk (idR ns) n=some n
 | [],n,h=>by simp at h
 | m :: ns,n,h=>by
  show lk ((m,m) :: idR ns) n=some n
  unfold lk
  cases hm:n==m with
  | true=>simp at hm;simp [hm]
  | false =>
   simp at hm
   have:ns.contains n=true:=by
    simp at h ⊢
    rcases h with h | h
    ·exact absurd h hm
    ·exact h
   simpa using zn3 ns n this
section
variable {s:St}{ns:List Nat}
theorem le0_refl:∀(v:AV),nmIn ns v=true→le0 s (idR ns) v v
 | .arr n o l,h=>by
  have:=zn3 ns n h
  show AV.arr n o l=renV (idR ns) (.arr n o l)
  simp [renV,this]
 | .ptr n o,h=>by
  have:=zn3 ns n h
  show AV.ptr n o=renV (idR ns) (.ptr n o)
  simp [renV,this]
 | .eptr n o l,h=>by
  have:=zn3 ns n h
  show AV.eptr n o l=renV (idR ns) (.eptr n o l)
  simp [renV,this]
 | .g v,_=>by show le0 s (idR ns) (.g v) (.g v);unfold le0;split<;>simp_all [renV]
 | .s _,_=>rfl
 | .sl ..,_=>rfl
 | .ip _,_=>rfl
 | .agg _,_=>rfl
 | .ot ..,_=>rfl
 | .undef,_=>trivial
 | .fn ..,h | .tup _,h=>by simp [nmIn] at h
theorem zwt(v:AV)(h:nmIn ns v=true):le1 s (idR ns) v v:=by
 have:=le0_refl (s:=s) v h
 cases v with
 | fn=>simp [nmIn] at h
 | _=>exact this
theorem zjd:∀(cs:List AV),cs.all (nmIn ns)=true→le1s s (idR ns) cs cs
 | [],_=>rfl
 | c :: cs,h=>by
  simp only [List.all_cons,Bool.and_eq_true] at h
  exact ⟨zwt c h.1,zjd cs h.2⟩
theorem le2_refl(v:AV)(h:nmIn2 ns v=true):le2 s (idR ns) v v:=by
 cases v with
 | agg cs=>exact zjd cs h
 | tup _=>simp [nmIn2,nmIn] at h
 | _=>exact zwt (s:=s) (ns:=ns) _ (by simpa only [nmIn2] using h)
theorem leO_refl(o:OB)(h:nmInO ns o=true):leO s (idR ns) o o:=by
 cases o with
 | cells cs=>exact zjd cs h
 | rocells cs=>exact zjd cs h
 | flat _ _=>exact ⟨rfl,rfl⟩
 | shared _ _=>exact ⟨rfl,rfl⟩
 | dead=>simp [nmInO] at h
 | win _ _=>exact ⟨rfl,.inl ⟨rfl,h⟩⟩
 | own _ _=>exact ⟨rfl,rfl⟩
 | park _=>rfl
 | ownh=>simp [nmInO] at h
 | winc=>simp [nmInO] at h
end
def nmAll(e:List (Nat × AV))(os:List (Nat × OB)):Bool:=e.all (λp=>nmIn2 (os.map (·.1)) p.2)&&os.all (λp=>nmInO (os.map (·.1)) p.2)
theorem LeS.ko{fs:List Nat}{s:St}(e:List (Nat × AV))(os:List (Nat × OB))(he:KpE s e)(ho:KpO s os)(hn:nmAll e os=true)(hd:(os.map (·.1)).Nodup)(hf:fs.all (λn=>(os.map (·.1)).contains n)=true):LeS fs s { env:=lkE e,ob:=lk os }:=by
 simp only [nmAll,Bool.and_eq_true] at hn
 refine LeS.le (ρ:=idR (os.map (·.1))) ⟨?_,?_,?_,?_,?_,hd,?_⟩
 ·have hn1:=hn.1
  clear hn
  generalize os.map (·.1)=ns at hn1 ⊢
  induction e with
  | nil=>trivial
  | cons p e ih =>
   obtain ⟨t,v⟩:=p
   simp only [List.all_cons,Bool.and_eq_true] at hn1
   refine ⟨?_,ih he.2 hn1.2⟩
   rw [he.1]
   exact le2_refl v hn1.1
 ·have hn2:=hn.2
  have key:∀(os':List (Nat × OB)),KpO s os'→(∀p∈os',(os.map (·.1)).contains p.1=true)→os'.all (λp=>nmInO (os.map (·.1)) p.2)=true→leObs s (idR (os.map (·.1))) os':=by
   intro os'
   induction os' with
   | nil=>intros;trivial
   | cons p r ih =>
    obtain ⟨n,o⟩:=p
    intro h1 h2 h3
    simp only [List.all_cons,Bool.and_eq_true] at h3
    refine ⟨?_,ih h1.2 (λp hp=>h2 p (by simp [hp])) h3.2⟩
    rw [zn3 _ _ (h2 (n,o) (by simp))]
    simp only
    rw [h1.1]
    exact leO_refl o h3.1
  exact key os ho (λp hp=>by simp only [List.contains_iff_mem];exact List.mem_map.2 ⟨p,hp,rfl⟩) hn2
 ·rw [idR_fst];exact hd
 ·rw [idR_snd];exact hd
 ·exact idR_fst _
 ·intro n h
  exact zn3 _ _ (List.all_eq_true.1 hf n h)
end Go.Proofs.YtodmafgmdlkhoaaDoor.Vs
end
section
namespace Go.Proofs.YtodmafgmdlkhoaaDoor.Vs
set_option linter.all false
open Go.RowKit
variable {P:Program}
section
variable {q:Bool}{rest:List CO}{K:St→Prop}{st:St}{dst:Option Nat}{f:FuncId}{l l':List AV}{r:AV}
theorem CKd_r1(n:Nat){cs cs':List AV}(ho:st.ob n=some (.cells cs)∨st.ob n=some (.rocells cs))(hm:am1s st (nuOf [n] []) cs cs')(ha:am2s st (nuOf [n] []) l l')(hp:GCall P f l' [cs'] [] r [])(hs:scal r=true)(hk:creg P q rest (putC st dst r []) K):CKd P q rest K st dst f l:=by
 refine ⟨r,[],⟨[n],[],l',[cs'],[],[],hp,rfl,rfl,rfl,by simp,by simp,ha,⟨⟨cs,ho,hm⟩,rfl⟩,rfl,?_⟩,λ_=>rfl,hk⟩
 simp [hs,zipW]
theorem am2_ptr0{n off:Nat}:am2 st (nuOf [n] []) (.ptr n off) (.ptr 0 off):=by
 exact ⟨rfl,rfl⟩
theorem am2_fn0{n off:Nat}{g:FuncId}:am2 st (nuOf [n] []) (.fn g [] [.ptr n off]) (.fn g [] [.ptr 0 off]):=⟨rfl,rfl,⟨⟨rfl,rfl⟩,rfl⟩⟩
end
theorem formOb_r1(cs:List AV)(n:Nat):formOb [cs] [] n=if n=0 then some (.rocells cs) else none:=by
 unfold formOb
 by_cases h:n=0
 ·subst h;simp
 ·rw [if_neg h]
  split
  ·cases n with
   | zero=>exact absurd rfl h
   | succ n=>simp
  ·simp
theorem zc0(k:Nat):((k:Int)-1).toNat=k-1:=by omega
theorem tP(k:Nat):((k:Int)-1).toNat=k-1:=by omega
theorem gE{α:Type}{l:List α}{i:Nat}(h:i<l.length):l[i]? = some l[i]:=List.getElem?_eq_getElem h
noncomputable def decB(p:Prop):Bool:=@decide p (Classical.propDecidable p)
theorem zcl{p:Prop}(h:p):decB p=true:=by unfold decB;simpa using h
theorem zgb{p:Prop}(h:¬p):decB p=false:=by unfold decB;simpa using h
theorem zbk(p:Prop):(decB p=true)=p:=by unfold decB;simp
theorem zbl(p:Prop):(decB p=false)=¬p:=by unfold decB;simp
def idxZ{α:Type}(p:α→Bool)(l:List α):Int:=match l.findIdx? p with
 | some i=>i
 | none=>-1
theorem zgc{α:Type}{p:α→Bool}{l:List α}{i:Nat}(hi:i<l.length)(h:p l[i]=true)(hb:∀j x,j<i→l[j]? = some x→p x=false):idxZ p l=i:=by
 have:l.findIdx? p=some i:=by
  rw [List.findIdx?_eq_some_iff_getElem]
  refine ⟨hi,h,λj hj=>?_⟩
  have:=hb j l[j] hj (List.getElem?_eq_getElem (by omega))
  simp [this]
 unfold idxZ
 rw [this]
theorem zmj{α:Type}{p:α→Bool}{l:List α}(hb:∀j x,j<l.length→l[j]? = some x→p x=false):idxZ p l = -1:=by
 have:l.findIdx? p=none:=by
  rw [List.findIdx?_eq_none_iff]
  intro x hx
  obtain ⟨j,hj⟩:=List.getElem?_of_mem hx
  exact hb j x (List.getElem?_eq_some_iff.1 hj).1 hj
 unfold idxZ
 rw [this]
end Go.Proofs.YtodmafgmdlkhoaaDoor.Vs
end
section
namespace Go.Proofs.YtodmafgmdlkhoaaDoor.Vs
set_option linter.all false
open Go.RowKit
variable {P:Program}
def renV2(ρ:Ren):AV→AV
 | .agg cs=>.agg (cs.map (renV ρ))
 | v=>renV ρ v
def renO(ρ:Ren):OB→OB
 | .cells cs=>.cells (cs.map (renV ρ))
 | .rocells cs=>.rocells (cs.map (renV ρ))
 | o=>o
def pl1:AV→Bool
 | .fn ..=>false
 | .tup _=>false
 | _=>true
def pl2:AV→Bool
 | .agg cs=>cs.all pl1
 | v=>pl1 v
def plO:OB→Bool
 | .cells cs=>cs.all pl1
 | .rocells cs=>cs.all pl1
 | .win _ xs=>scR xs
 | .ownh ..=>false
 | .winc ..=>false
 | _=>true
def KpR(s:St)(ρ:Ren):List (Nat × AV)→Prop
 | []=>True
 | (t,v) :: r=>s.env t=renV2 ρ v∧KpR s ρ r
def KpOR(s:St)(ρ:Ren):List (Nat × OB)→Prop
 | []=>True
 | (n,o) :: r=>(∃m,lk ρ n=some m∧s.ob m=some (renO ρ o))∧KpOR s ρ r
section
variable {s:St}{ρ:Ren}
theorem le0_ren(v:AV)(h:pl1 v=true):le0 s ρ (renV ρ v) v:=by
 have key:∀a,a=renV ρ v→le0 s ρ a v:=by
  intro a ha
  unfold le0
  split
  ·trivial
  ·subst_vars;simp [renV] at ha
  ·subst_vars;simp [renV] at ha
  ·exact ha
 exact key _ rfl
theorem zf0(v:AV)(h:pl1 v=true):le1 s ρ (renV ρ v) v:=by
 have:=le0_ren (s:=s) (ρ:=ρ) v h
 unfold le1
 split
 ·simp [pl1] at h
 ·exact this
theorem zle:∀(cs:List AV),cs.all pl1=true→le1s s ρ (cs.map (renV ρ)) cs
 | [],_=>rfl
 | c :: cs,h=>by
  simp only [List.all_cons,Bool.and_eq_true] at h
  exact ⟨zf0 c h.1,zle cs h.2⟩
theorem zva(v:AV)(h:pl2 v=true):le2 s ρ (renV2 ρ v) v:=by
 cases v with
 | agg cs=>exact zle cs h
 | tup _=>simp [pl2,pl1] at h
 | fn=>simp [pl2,pl1] at h
 | arr n o l =>
  have:=zf0 (s:=s) (ρ:=ρ) (.arr n o l) rfl
  simp only [renV2,renV] at this ⊢
  cases h:lk ρ n<;>simp only [h] at this ⊢ <;> exact this
 | ptr n o =>
  have:=zf0 (s:=s) (ρ:=ρ) (.ptr n o) rfl
  simp only [renV2,renV] at this ⊢
  cases h:lk ρ n<;>simp only [h] at this ⊢ <;> exact this
 | eptr n o l =>
  have:=zf0 (s:=s) (ρ:=ρ) (.eptr n o l) rfl
  simp only [renV2,renV] at this ⊢
  cases h:lk ρ n<;>simp only [h] at this ⊢ <;> exact this
 | g v=>exact zf0 (s:=s) (ρ:=ρ) (.g v) rfl
 | s v=>exact zf0 (s:=s) (ρ:=ρ) (.s v) rfl
 | sl a b=>exact zf0 (s:=s) (ρ:=ρ) (.sl a b) rfl
 | ot a b=>exact zf0 (s:=s) (ρ:=ρ) (.ot a b) rfl
 | ip a=>exact zf0 (s:=s) (ρ:=ρ) (.ip a) rfl
 | undef=>exact zf0 (s:=s) (ρ:=ρ) .undef rfl
theorem zvb(o:OB)(h:plO o=true):leO s ρ (renO ρ o) o:=by
 cases o with
 | cells cs=>exact zle cs h
 | rocells cs=>exact zle cs h
 | flat _ _=>exact ⟨rfl,rfl⟩
 | shared _ _=>exact ⟨rfl,rfl⟩
 | dead=>trivial
 | win _ _=>exact ⟨rfl,.inl ⟨rfl,h⟩⟩
 | own _ _=>exact ⟨rfl,rfl⟩
 | park _=>rfl
 | ownh=>simp [plO] at h
 | winc=>simp [plO] at h
end
def cvO:OB→OB→Prop
 | .flat sz xs,.win sz' xs'=>sz'=sz∧xs'=xs
 | .flat sz xs,.own sz' xs'=>sz'=sz∧xs'=xs∧scR xs=true
 | .win sz xs,.own sz' xs'=>sz'=sz∧xs'=xs∧scR xs=true
 | .own sz xs,.win sz' xs'=>sz'=sz∧xs'=xs∧scR xs=true
 | .ownh sz xs _,.own sz' xs'=>sz'=sz∧xs'=xs
 | _,_=>False
def KpOX(s:St)(ρ:Ren):List (Nat × OB)→Prop
 | []=>True
 | (n,o) :: r=>(∃m p,lk ρ n=some m∧s.ob m=some p∧((p=renO ρ o∧plO o=true)∨cvO p o))∧KpOX s ρ r
theorem LeS.kx{fs:List Nat}{s:St}(ρ:Ren)(e:List (Nat × AV))(os:List (Nat × OB))(he:KpR s ρ e)(ho:KpOX s ρ os)(hp:(e.all λp=>pl2 p.2)=true)(h1:(ρ.map (·.1)).Nodup)(h2:(ρ.map (·.2)).Nodup)(h3:ρ.map (·.1)=os.map (·.1))(hf:∀n∈fs,lk ρ n=some n):LeS fs s { env:=lkE e,ob:=lk os }:=by
 refine LeS.le (ρ:=ρ) ⟨?_,?_,h1,h2,h3,h3 ▸ h1,hf⟩
 ·clear ho h3
  induction e with
  | nil=>trivial
  | cons p e ih =>
   obtain ⟨t,v⟩:=p
   simp only [List.all_cons,Bool.and_eq_true] at hp
   refine ⟨?_,ih he.2 hp.2⟩
   rw [he.1]
   exact zva v hp.1
 ·clear he hp h3
  induction os with
  | nil=>trivial
  | cons p r ih =>
   obtain ⟨n,o⟩:=p
   refine ⟨?_,ih ho.2⟩
   obtain ⟨m,q,g1,g2,g3⟩:=ho.1
   rw [g1]
   simp only
   rw [g2]
   rcases g3 with ⟨rfl,g3⟩ | g3
   ·exact zvb o g3
   ·cases q<;>cases o<;>first | exact g3.elim | exact g3 | exact ⟨g3.1,.inl g3.2⟩
theorem LeS.kr{fs:List Nat}{s:St}(ρ:Ren)(e:List (Nat × AV))(os:List (Nat × OB))(he:KpR s ρ e)(ho:KpOR s ρ os)(hp:(e.all λp=>pl2 p.2)=true)(hq:(os.all λp=>plO p.2)=true)(h1:(ρ.map (·.1)).Nodup)(h2:(ρ.map (·.2)).Nodup)(h3:ρ.map (·.1)=os.map (·.1))(hf:∀n∈fs,lk ρ n=some n):LeS fs s { env:=lkE e,ob:=lk os }:=by
 refine LeS.le (ρ:=ρ) ⟨?_,?_,h1,h2,h3,h3 ▸ h1,hf⟩
 ·clear ho hq h3
  induction e with
  | nil=>trivial
  | cons p e ih =>
   obtain ⟨t,v⟩:=p
   simp only [List.all_cons,Bool.and_eq_true] at hp
   refine ⟨?_,ih he.2 hp.2⟩
   rw [he.1]
   exact zva v hp.1
 ·clear he hp h3
  induction os with
  | nil=>trivial
  | cons p r ih =>
   obtain ⟨n,o⟩:=p
   simp only [List.all_cons,Bool.and_eq_true] at hq
   refine ⟨?_,ih ho.2 hq.2⟩
   obtain ⟨m,g1,g2⟩:=ho.1
   rw [g1]
   simp only
   rw [g2]
   exact zvb o hq.1
end Go.Proofs.YtodmafgmdlkhoaaDoor.Vs
end
section
namespace Go.Proofs.YtodmafgmdlkhoaaDoor.Vs
set_option linter.all false
open Go.RowKit
variable {P:Program}
section mono
variable {st st':St}(hob:∀n,st'.ob n=st.ob n∨(st.ob n=none∧∀sz ys,st'.ob n≠some (.flat sz ys)))
include hob
end mono
def isAl:Op→Bool
 | .alloc _=>true
 | .box _ _=>true
 | _=>false
def alN(l:List Oper):List Nat:=(l.filter λo=>isAl o.op).map nmOf
def isLo:Op→Bool
 | .alloc _=>true
 | .box _ _=>true
 | .store _ _ _=>true
 | _=>false
def wOk(k:Nat)(l:List Oper):Bool :=
 (List.range l.length).all λi=>decide (i<k) ||(match l[i]? with
  | some o=>o.guard.isNone&&isLo o.op&&(List.range i).all λj=>bef l i j || (decide (j<k)&&isAl o.op)
  | none=>true)
section
variable {nt:Nat}{fs:List Nat}{Q:AExit→St→Prop}{st:St}
end
end Go.Proofs.YtodmafgmdlkhoaaDoor.Vs
end
