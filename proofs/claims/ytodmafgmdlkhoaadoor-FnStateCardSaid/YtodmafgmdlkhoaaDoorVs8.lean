import Derived.Test.YtodmafgmdlkhoaaDoorVs7
section
namespace Go.Proofs.YtodmafgmdlkhoaaDoor.Vs
set_option linter.all false
open Go.RowKit
variable {P:Program}
def xreg(P:Program):List CO→St→(St→Prop)→Prop
 | [],st,K=>K st
 | c :: rest,st,K =>
  let R:St→ARes→Prop:=λst r=>match r with
   | some (p,v,u)=>p∧xreg P rest (putC st c.dst v u) K
   | none=>False
  let O:St→Prop:=λst=>match c.op with
   | .call cl=>match cl.callee with
    | .builtin b=>R st (aBuiltinX P st (nmC c.dst) b cl.argTypes.toList (cl.args.toList.map (ev st)))
    | .value f=>match ev st f with
     | .fn fid fst cap=>(∃v u,(GStep P st fid (fst++cl.args.toList.map (ev st)++cap) v u∨XStep P st (nmC c.dst) fid (fst++cl.args.toList.map (ev st)++cap) v u∨PStep P st fid (fst++cl.args.toList.map (ev st)++cap) v u)∧xreg P rest (putC st c.dst v u) K)∨EStep P st (nmC c.dst) fid (fst++cl.args.toList.map (ev st)++cap) (λv u=>xreg P rest (putC st c.dst v u) K)∨IStep P st fid (fst++cl.args.toList.map (ev st)++cap) (λv ob=>xreg P rest (putC { st with ob:=ob } c.dst v []) K)∨(OStep P st fid (fst++cl.args.toList.map (ev st)++cap)∧xreg P rest (putC st c.dst (.g (.bool false)) []) K)
     | _=>False
    | .invoke _ _=>False
   | .load t x=>match nestL P st t (ev st x) with
    | some (n,g)=>∀v,xreg P rest (putC st c.dst (.g v) [(n,g v)]) K
    | none=>R st (aopX P st (nmC c.dst) (.load t x))
   | op=>R st (aopX P st (nmC c.dst) op)
  match c.gd with
  | none=>O st
  | some (d,want)=>match st.env d with
   | .g (.bool b)=>spl b want (O { st with env:=upd st.env d (.g (.bool want)) }) (xreg P rest (putC { st with env:=upd st.env d (.g (.bool (!want))) } c.dst (.g undef) []) K)
   | .g (.tuple vs)=>vs.size=0∧xreg P rest (putC st c.dst (.g undef) []) K
   | _=>False
def xR(P:Program)(rest:List CO)(K:St→Prop)(st:St)(dst:Option Nat)(r:ARes):Prop:=match r with
 | some (p,v,u)=>p∧xreg P rest (putC st dst v u) K
 | none=>False
def XKd(P:Program)(rest:List CO)(K:St→Prop)(st:St)(dst:Option Nat)(f:FuncId)(actual:List AV):Prop :=
 (∃v u,(GStep P st f actual v u∨XStep P st (nmC dst) f actual v u∨PStep P st f actual v u)∧xreg P rest (putC st dst v u) K)∨EStep P st (nmC dst) f actual (λv u=>xreg P rest (putC st dst v u) K)∨IStep P st f actual (λv ob=>xreg P rest (putC { st with ob:=ob } dst v []) K)∨(OStep P st f actual∧xreg P rest (putC st dst (.g (.bool false)) []) K)
def xL(P:Program)(rest:List CO)(K:St→Prop)(st:St)(dst:Option Nat)(r:Option (Nat × (Value→OB)))(a:Prop):Prop:=match r with
 | some (n,g)=>∀v,xreg P rest (putC st dst (.g v) [(n,g v)]) K
 | none=>a
theorem xL_none(rest:List CO)(K:St→Prop)(st:St)(dst:Option Nat)(a:Prop):xL P rest K st dst none a=a:=(rfl)
theorem xL_some(rest:List CO)(K:St→Prop)(st:St)(dst:Option Nat)(n:Nat)(g:Value→OB)(a:Prop):xL P rest K st dst (some (n,g)) a=∀v,xreg P rest (putC st dst (.g v) [(n,g v)]) K:=(rfl)
def xO(P:Program)(rest:List CO)(K:St→Prop)(st:St)(dst:Option Nat)(op:Op):Prop:=match op with
 | .call cl=>match cl.callee with
  | .builtin b=>xR P rest K st dst (aBuiltinX P st (nmC dst) b cl.argTypes.toList (cl.args.toList.map (ev st)))
  | .value f=>match ev st f with
   | .fn fid fst cap=>XKd P rest K st dst fid (fst++cl.args.toList.map (ev st)++cap)
   | _=>False
  | .invoke _ _=>False
 | .load t x=>xL P rest K st dst (nestL P st t (ev st x)) (xR P rest K st dst (aopX P st (nmC dst) (.load t x)))
 | op=>xR P rest K st dst (aopX P st (nmC dst) op)
def xG(P:Program)(rest:List CO)(K:St→Prop)(st:St)(dst:Option Nat)(op:Op)(d:Nat)(want:Bool)(x:AV):Prop:=match x with
 | .g (.bool b)=>spl b want (xO P rest K { st with env:=upd st.env d (.g (.bool want)) } dst op) (xreg P rest (putC { st with env:=upd st.env d (.g (.bool (!want))) } dst (.g undef) []) K)
 | .g (.tuple vs)=>vs.size=0∧xreg P rest (putC st dst (.g undef) []) K
 | _=>False
theorem xreg_nil(st:St)(K:St→Prop):xreg P [] st K=K st:=(rfl)
theorem xreg_op(dst:Option Nat)(op:Op)(rest:List CO)(st:St)(K:St→Prop):xreg P (⟨dst,op,none⟩ :: rest) st K=xO P rest K st dst op:=by cases op<;>rfl
theorem xreg_gd(dst:Option Nat)(op:Op)(d:Nat)(want:Bool)(rest:List CO)(st:St)(K:St→Prop):xreg P (⟨dst,op,some (d,want)⟩ :: rest) st K=xG P rest K st dst op d want (st.env d):=by cases op<;>rfl
theorem xG_bool(rest:List CO)(K:St→Prop)(st:St)(dst:Option Nat)(op:Op)(d:Nat)(want b:Bool):xG P rest K st dst op d want (.g (.bool b))=spl b want (xO P rest K { st with env:=upd st.env d (.g (.bool want)) } dst op) (xreg P rest (putC { st with env:=upd st.env d (.g (.bool (!want))) } dst (.g undef) []) K):=(rfl)
theorem xG_undef(rest:List CO)(K:St→Prop)(st:St)(dst:Option Nat)(op:Op)(d:Nat)(want:Bool):xG P rest K st dst op d want (.g undef)=xreg P rest (putC st dst (.g undef) []) K:=by
 show ((#[]:Array Value).size=0∧_)=_
 simp
section
variable {C:Cx}{st:St}{a:Act}{w:World}{I:Nat→Prop}{β:Beta}{φ:Nat→List Nat}
theorem zr2{o:Oper}{rest:List CO}{K:St→Prop}{Kx:Act→World→Prop}{Q:Exit→Act→World→Prop}(hd:∀d,o.dst=some d→d<C.nt)(hC:Conc C st a w I β φ)(h:xO P rest K st o.dst o.op)
 (hK:∀s a' w',xreg P rest s K→CC C s a' w'→Kx a' w'):o.wp P a w Kx Q:=by
 have fin:∀r:ARes,xR P rest K st o.dst r→(∀c v u,r=some (c,v,u)→c→AStepX P st o v u)→o.wp P a w Kx Q:=by
  intro r h hg
  match r,h with
  | some (p,v,u),h=>exact zg0 hd hC (hg p v u rfl h.1) λa' w' hc=>hK _ a' w' h.2 hc
 obtain ⟨dst,op,ty,pos,aft,gd⟩:=o
 unfold xO at h
 cases op with
 | call c =>
  obtain ⟨callee,args,argTypes⟩:=c
  simp only at h
  cases callee with
  | invoke _ _=>exact h.elim
  | builtin b=>exact fin _ h λc v u h1 h2=>⟨c,.inr h1,h2⟩
  | value f =>
   simp only at h
   split at h
   ·rename_i fid fst cap hfe
    rcases h with ⟨v,u,h1,h2⟩ | h | h | h
    ·refine zg0 hd hC (v:=v) (u:=u) ?_ λa' w' hc=>hK _ a' w' h2 hc
     unfold AStepX
     simp only [hfe]
     exact h1.imp id (Or.imp id .inl)
    ·exact zt4 hd hC rfl rfl hfe h λv u a' w' hk hc=>hK _ a' w' hk hc
    ·exact zt5 hd hC rfl rfl hfe h λv ob a' w' hk hc=>hK _ a' w' hk hc
    ·exact zt6 hd hC rfl rfl hfe h.1 λa' w' hc=>hK _ a' w' h.2 hc
   ·exact h.elim
 | load t x =>
  simp only at h
  cases hn:nestL P st t (ev st x) with
  | none =>
   rw [hn] at h
   exact fin _ h λc v u h1 h2=>⟨c,.inr h1,h2⟩
  | some p =>
   obtain ⟨n,g⟩:=p
   rw [hn] at h
   obtain ⟨v,hr,hC'⟩:=zt0 hC (zfj hC.env hC.gw x) hn
   unfold Oper.wp
   have hrun:(execOp a.eval ⟨dst,.load t x,ty,pos,aft,gd⟩).run P w=.ok (.value v) w:=by simp [execOp,hr]
   rw [hrun]
   refine hK _ _ _ (h v) ⟨I,β,φ,?_⟩
   unfold putC
   cases dst with
   | none=>exact hC'
   | some d=>exact hC'.put (hd d rfl) (show Rv w I β (.g v) v from rfl)
 | _=>exact fin _ h λc v u h1 h2=>⟨c,.inr h1,h2⟩
theorem zfi{ops:Array Oper}{Q:Exit→Act→World→Prop}{K:St→Prop}:∀(l:List Oper) (cs:List CO) (st:St) (a:Act) (w:World),cosOf ops l=some cs→(∀o∈l,∀d,o.dst=some d→d<C.nt)→xreg P cs st K→CC C st a w →
 (∀st' a' w',K st'→CC C st' a' w'→Q .normal a' w')→wpList P ops Q l a w
 | [],cs,st,a,w,hc,_,h,hC,hQ=>by cases hc;exact hQ st a w h hC
 | o :: rest,cs,st,a,w,hc,hd,h,hC,hQ=>by
  have hd':∀o∈rest,∀d,o.dst=some d→d<C.nt:=λo ho=>hd o (by simp [ho])
  unfold cosOf at hc
  split at hc
  ·rename_i c cs' h1 h2
   cases hc
   unfold coOf at h1
   unfold wpList
   obtain ⟨I,β,φ,hC⟩:=hC
   split at h1
   ·rename_i hg
    cases h1
    rw [xreg_op] at h
    rw [if_pos (by simp [Region.wanted,hg])]
    exact .inl (zr2 (hd o (by simp)) hC h λs a' w' hk hcc=>zfi rest cs' _ a' w' h2 hd' hk hcc hQ)
   ·rename_i j want hg
    split at h1
    ·rename_i d hj
     cases h1
     rw [xreg_gd] at h
     have hy:=zj7 ops a.tmps j d hj
     unfold xG at h
     split at h
     ·rename_i b hb
      have he:=hC.env d
      rw [hb] at he
      change a.tmps.getD d undef=.bool b at he
      rw [he] at hy
      by_cases hbw:b=want
      ·subst hbw
       rw [if_pos (by simp [Region.wanted,hg,hy])]
       exact .inl (zr2 (hd o (by simp)) (hC.same_env hb) (h.1 rfl) λs a' w' hk hcc=>zfi rest cs' _ a' w' h2 hd' hk hcc hQ)
      ·have hbn:b = !want:=by cases b<;>cases want<;>simp_all
       rw [if_neg (by simp [Region.wanted,hg,hy,hbw])]
       subst hbn
       exact zfi rest cs' _ _ w h2 hd' (h.2 rfl) (CC.put_undef (hd o (by simp)) (hC.same_env hb)) hQ
     ·rename_i vs hb
      have he:=hC.env d
      rw [hb] at he
      change a.tmps.getD d undef=.tuple vs at he
      rw [he] at hy
      rw [if_neg (by simp [Region.wanted,hg,hy])]
      exact zfi rest cs' _ _ w h2 hd' h.2 (CC.put_undef (hd o (by simp)) hC) hQ
     ·exact h.elim
    ·cases h1
  ·cases hc
end
section
variable {nt:Nat}{fs:List Nat}{Q:AExit→St→Prop}{st:St}
theorem AW_x{id:Nat}{l:List Oper}{cs:List CO}{y:Code}(hc:cosOf l.toArray l=some cs)(hd:dstOk nt l.toArray=true)(h:∀K:St→Prop,(∀s,AW P nt fs y Q s→K s)→xreg P cs st K):AW P nt fs (.seq (.region id l.toArray false) y) Q st:=by
 refine zbe ?_
 intro C a w hn hf hC
 subst hn
 exact wp_region_lit (zfi l cs st a w hc (by simpa using zf8 hd) (h _ λ_ h=>h) hC λst' a' w' hq hc=>⟨st',hq,hc⟩)
theorem zb4{id:Nat}{l:List Oper}{cs:List CO}(hc:cosOf l.toArray l=some cs)(hd:dstOk nt l.toArray=true)(h:∀K:St→Prop,(∀s,Q .normal s→K s)→xreg P cs st K):AW P nt fs (.region id l.toArray false) Q st:=by
 intro C a w hn hf hC
 subst hn
 exact wp_region_lit (zfi l cs st a w hc (by simpa using zf8 hd) (h _ λ_ h=>h) hC λst' a' w' hq hc=>⟨st',hq,hc⟩)
end
end Go.Proofs.YtodmafgmdlkhoaaDoor.Vs
end
section
namespace Go.Proofs.YtodmafgmdlkhoaaDoor.Vs
set_option linter.all false
open Go.RowKit
variable {P:Program}
def OB.isC:OB→Bool
 | .cells _=>true
 | _=>false
def stX(args:List AV)(wos:List OB):St:={ env:=λn=>args.getD n .undef,ob:=postOb wos [] }
def formsX(nw:Nat):List Nat:=(List.range nw).map (8 + ·)
def hsE(nw:Nat)(μ:List Nat):List Nat:=(List.range nw).map (8 + ·)++List.replicate (8-nw) 7++μ
def axE(st:St)(hs Z:List Nat)(o o':OB):Prop:=o'=.dead∨axO false st hs Z o o'
def axW(st:St)(hs Z:List Nat):Nat→List OB→Prop
 | _,[]=>True
 | i,o' :: r=>(∃o,st.ob (8+i)=some o∧axE st hs Z o o')∧axW st hs Z (i+1) r
def axRs(st:St)(hs Z:List Nat):List AV→AV→Prop
 | [v],r=>ax2 false st hs Z v r
 | vs,.tup rs=>ax2s false st hs Z vs rs
 | _,_=>False
def endX(P:Program)(rs:List ResultVar)(r:AV)(wos' fos:List OB)(s0:St):Prop :=
 ∃p vs μ Z,resAll P s0 rs=some (p,vs)∧p∧(Z.map (·.1)).Nodup∧(∀z∈Z,s0.ob z.1=none)∧μ.length=fos.length∧(addZ s0 Z).ob 7=none∧μ.Nodup∧(∀(i:Nat) o,wos'[i]? = some o→o≠.dead→8+i∉μ) ∧
  axRs (addZ s0 Z) (hsE wos'.length μ) (Z.map (·.1)) vs r∧axW (addZ s0 Z) (hsE wos'.length μ) (Z.map (·.1)) 0 wos'∧axOs false (addZ s0 Z) (hsE wos'.length μ) (Z.map (·.1)) μ fos
def retX(P:Program)(rs:List ResultVar)(r:AV)(wos' fos:List OB):AExit→St→Prop
 | .normal,s=>endX P rs r wos' fos s
 | .ret,s=>endX P rs r wos' fos s
 | _,_=>False
theorem axW_get{st:St}{hs Z:List Nat}:∀(i:Nat) (wos':List OB),axW st hs Z i wos'→∀(j:Nat) o',wos'[j]? = some o'→∃o,st.ob (8+(i+j))=some o∧axE st hs Z o o'
 | i,[],_,j,o',h=>by simp at h
 | i,c :: r,h,j,o',hj=>by
  cases j with
  | zero=>simp at hj;subst hj;simpa using h.1
  | succ j =>
   have:=axW_get (i+1) r h.2 j o' (by simpa using hj)
   rwa [show i+1+j=i+(j+1) by omega] at this
theorem ax2_notup{st:St}{hs Z:List Nat}{v r:AV}(h:ax2 false st hs Z v r):∀vs,v≠.tup vs:=by
 rintro vs rfl;simp [ax2] at h
theorem axRs_two{st:St}{hs Z:List Nat}{vs:List AV}{r:AV}(h:axRs st hs Z vs r):(∃v,vs=[v]∧ax2 false st hs Z v r)∨(vs.length≠1∧∃rs,r=.tup rs∧ax2s false st hs Z vs rs):=by
 unfold axRs at h
 split at h
 ·exact .inl ⟨_,rfl,h⟩
 ·rename_i vs rs hne
  refine .inr ⟨?_,rs,rfl,h⟩
  intro hl
  obtain ⟨v,rfl⟩:=List.length_eq_one_iff.1 hl
  exact hne v rfl
 ·exact h.elim
theorem stX_conc{args:List AV}{wos:List OB}{w:World}{I:Nat→Prop}{β:Beta}{χ:Nat→List Nat}{vs:List Value}{nt:Nat}(hnt:vs.length≤nt)(hI:∀b,I b→b<w.heap.size)(hgw:GW w I)(hargs:Rv2s w I β args vs)
 (hxk:wos.all OB.xk=true)
 (hn:∀n,postOb wos [] n=none→β n=none∧χ n=[])
 (ho:∀n o,postOb wos [] n=some o→RO w I β n o (χ n))
 (hsep:∀n m,n≠m→∀b,b∈χ n→b∈χ m→False)
 (hχ:∀n b,b∈χ n→¬I b∧b<w.heap.size) :
 Conc ⟨w,I,λb=>∃n,b∈χ n,λ_=>False,β,nt⟩ (stX args wos) { tmps:=⟨vs⟩++Array.replicate (nt-vs.length) undef,defers:=[] } w I β χ:=by
 refine ⟨Evo.refl _ _,hI,λ_ h=>h,λ_ h=>.inl h,?_,rfl,?_,ho,λn h=>(hn n h).1,λn h=>(hn n h).2,hsep,λn b hb=>(hχ n b hb).1,λn b hb=>⟨(hχ n b hb).2,.inl ⟨n,hb⟩⟩,λ_ _ _ _ _ _ h=>h,λ_ h=>h.elim,?_,?_,λn bl h=>h,hgw⟩
 ·simp;omega
 ·intro t
  show Rv w I β (args.getD t .undef) _
  have:∀(l:List AV) (ys:List Value),Rv2s w I β l ys→∀(t:Nat) v,l[t]? = some v→∃y,ys[t]? = some y∧Rv2 w I β v y:=by
   intro l
   induction l with
   | nil=>intro ys _ t v h;simp at h
   | cons c l ih =>
    rintro _ ⟨y,ys,rfl,h1,h2⟩ t v h
    cases t with
    | zero=>simp at h;subst h;exact ⟨y,rfl,h1⟩
    | succ t=>simpa using ih ys h2 t v (by simpa using h)
  cases ht:args[t]? with
  | none=>simp [List.getD,ht];exact trivial
  | some v =>
   obtain ⟨y,h1,h2⟩:=this _ _ hargs t v ht
   have hlt:=(List.getElem?_eq_some_iff.1 h1).1
   have:(⟨vs⟩++Array.replicate (nt-vs.length) undef:Array Value).getD t undef=y:=by
    rw [Array.getD_eq_getD_getElem?,Array.getElem?_append_left (by simpa using hlt)]
    simp [h1]
   rw [this]
   simp only [List.getD,ht,Option.getD_some]
   exact zh2 _ _ h2
 ·intro n sz xs h
  have h:postOb wos [] n=some (.flat sz xs):=h
  unfold postOb at h
  split at h
  ·split at h
   ·cases h
   ·have:=List.all_eq_true.1 hxk _ (List.mem_of_getElem? h)
    cases this
  ·simp at h
 ·rintro b ⟨n,hb⟩
  exact (hχ n b hb).2
theorem hsE_w{nw:Nat}{μ:List Nat}(h8:nw≤8)(i:Nat)(hi:i<nw):nuX (hsE nw μ) (8+i)=some (8+i):=by
 unfold nuX hsE
 rw [if_neg (by omega),show 8+i-8=i by omega,List.append_assoc,List.getElem?_append_left (by simpa using hi)]
 simp [hi]
theorem hsE_f{nw:Nat}{μ:List Nat}(h8:nw≤8)(k:Nat):nuX (hsE nw μ) (16+k)=μ[k]?:=by
 unfold nuX hsE
 rw [if_neg (by omega),List.getElem?_append_right (by simp;omega)]
 congr 1
 simp
 omega
theorem hsE_p{nw:Nat}{μ:List Nat}(h8:nw≤8)(i:Nat)(h1:nw≤i)(h2:i<8):nuX (hsE nw μ) (8+i)=some 7:=by
 unfold nuX hsE
 rw [if_neg (by omega),show 8+i-8=i by omega,List.getElem?_append_left (by simp;omega),List.getElem?_append_right (by simpa using h1),List.getElem?_replicate,if_pos (by simp;omega)]
def retE(P:Program)(rs:List ResultVar)(nw nf:Nat)(Po:AV→List OB→List OB→Prop):AExit→St→Prop
 | .normal,s=>∃r wos' fos,Po r wos' fos∧wos'.length=nw∧fos.length=nf∧(wos'++fos).all OB.xk=true∧endX P rs r wos' fos s
 | .ret,s=>∃r wos' fos,Po r wos' fos∧wos'.length=nw∧fos.length=nf∧(wos'++fos).all OB.xk=true∧endX P rs r wos' fos s
 | _,_=>False
theorem zg2{f:FuncId}{fn:Func}{c:Code}{args:List AV}{wos:List OB}{nf:Nat}{Po:AV→List OB→List OB→Prop}
 (hf : P.funcs[f]? = some fn) (hname : (fn.name == "runtime.NumGoroutine") = false) (hb : fn.body = some c) (hnt : args.length ≤ fn.ntmps) (hw8 : wos.length ≤ 8) (hxk : wos.all OB.xk = true) {fs : List Nat} (hfsm : ∀ n ∈ formsX wos.length, n ∈ fs) (hfsb : (fs = [] ∨ ¬ fs.Nodup) → wos.all OB.isC = true)
 (h:AW P fn.ntmps fs c (retE P fn.results.toList wos.length nf Po) (stX args wos)):XCallE P f args wos nf Po:=by
 refine ⟨⟨fn,hf,hname,by rw [hb];rfl⟩,hw8,?_⟩
 intro w I β χ vs hI hgw hargs hn ho hsep hχ
 have hvl:vs.length=args.length:=by
  have:∀(l:List AV) (ys:List Value),Rv2s w I β l ys→ys.length=l.length:=by
   intro l
   induction l with
   | nil=>rintro _ rfl;rfl
   | cons c l ih=>rintro _ ⟨y,ys,rfl,-,h2⟩;simp [ih ys h2]
  exact this _ _ hargs
 have hC0:=stX_conc (nt:=fn.ntmps) (vs:=vs) (by omega) hI hgw hargs hxk hn ho hsep hχ
 refine calls_of_wp hf hb (wp_mono (h _ _ w rfl ?_ ⟨_,_,_,hC0⟩) ?_)
 ·refine ⟨λn hne=>hfsm n ?_,λhh b hb=>?_⟩
  rotate_left
  ·obtain ⟨n,hb⟩:=hb
   cases hp:postOb wos [] n with
   | none=>rw [(hn n hp).2] at hb;simp at hb
   | some o =>
    have hro:=ho n o hp
    have hoc:o.isC=true:=by
     unfold postOb at hp
     split at hp
     ·split at hp
      ·cases hp
      ·exact List.all_eq_true.1 (hfsb hh) _ (List.mem_of_getElem? hp)
     ·simp at hp
    cases o with
    | cells cs =>
     obtain ⟨bl,h1,h2,-⟩:=hro
     rw [h2] at hb
     exact ⟨n,bl,h1,(List.mem_singleton.1 hb).symm⟩
    | _=>simp [OB.isC] at hoc
  unfold formsX
  cases hp:postOb wos [] n with
  | none=>exact (hne (hn n hp).1).elim
  | some o =>
   unfold postOb at hp
   split at hp
   ·split at hp
    ·cases hp
    ·have:=(List.getElem?_eq_some_iff.1 hp).1
     exact List.mem_map.2 ⟨n-8,List.mem_range.2 (by omega),by omega⟩
   ·simp at hp
 ·intro e a w' hq
  have key:(∃st,(∃r wos' fos,Po r wos' fos∧wos'.length=wos.length∧fos.length=nf∧(wos'++fos).all OB.xk=true∧endX P fn.results.toList r wos' fos st)∧CC ⟨w,I,λb=>∃n,b∈χ n,λ_=>False,β,fn.ntmps⟩ st a w') →
   a.defers=[]∧∃v,(results fn a.tmps).run P w'=.ok v w'∧∃(r:AV) (wos' fos:List OB),Po r wos' fos∧wos'.length=wos.length∧fos.length=nf∧(wos'++fos).all OB.xk=true∧∃(v':Value) (I':Nat→Prop) (β':Beta) (χ':Nat→List Nat),Ending.returned v=.returned v'∧Evo (λb=>∃n,b∈χ n) w w'∧(∀b,I b→I' b)∧(∀b,I' b→I b∨(w.heap.size≤b∧b<w'.heap.size)) ∧
    Rv w' I' β' r v'∧(∀n bl,β n=some bl→β' n=some bl) ∧
    (∀n,postOb wos' fos n=none→β' n=none∧χ' n=[]) ∧
    (∀n o,postOb wos' fos n=some o→RO w' I' β' n o (χ' n)) ∧
    (∀n m,n≠m→∀b,b∈χ' n→b∈χ' m→False) ∧
    (∀n b,b∈χ' n→¬I' b∧b<w'.heap.size∧((∃m,b∈χ m)∨w.heap.size≤b)):=by
   rintro ⟨s0,⟨r,wos',fos,hPo,hlen,hfl,hxk',p,avs,μ,Z,hres,hp,hz1,hz2,hμl,h7,hμn,hμd,hr',hw',hf'⟩,I1,β0,φ1,hC0⟩
   obtain ⟨ys,hyl,hrun,hget0⟩:=zhe hC0 _ _ _ hres hp
   obtain ⟨β1,hb1,hC1,hZ⟩:=zjb Z s0 β0 hC0 hz1 hz2
   have hget:∀(i:Nat) v,avs[i]? = some v→∃y,ys[i]? = some y∧Rv w' I1 β1 v y:=by
    intro i v hv
    obtain ⟨y,h1,h2⟩:=hget0 i v hv
    exact ⟨y,h1,zjy (λ_ h=>h) (λ_ _=>rfl) hb1 _ _ h2⟩
   have h8':wos'.length≤8:=by omega
   -- the caller's names
   let β':Beta:=λn=>match postOb wos' fos n with | some _=>(nuX (hsE wos'.length μ) n).bind β1 | none=>none
   let χ':Nat→List Nat:=λn=>match postOb wos' fos n with | some .dead=>[] | some _=>(match nuX (hsE wos'.length μ) n with | some m=>φ1 m | none=>[]) | none=>[]
   have hβ7:β1 7=none:=hC1.dom 7 h7
   have hpw:∀i,i<wos'.length→postOb wos' fos (8+i)=wos'[i]?:=λi hi=>by
    unfold postOb;rw [if_pos (by omega),if_neg (by omega),show 8+i-8=i by omega]
   have hpf:∀k,postOb wos' fos (16+k)=fos[k]?:=λk=>by
    unfold postOb;rw [if_neg (by omega),show 16+k-16=k by omega]
   have hpcase:∀n o,postOb wos' fos n=some o→(∃i,i<wos'.length∧n=8+i∧wos'[i]? = some o∧nuX (hsE wos'.length μ) n=some (8+i))∨(∃(k m:Nat),n=16+k∧fos[k]? = some o∧μ[k]? = some m∧nuX (hsE wos'.length μ) n=some m):=by
    intro n o h
    unfold postOb at h
    split at h
    ·split at h
     ·cases h
     ·have hlt:=(List.getElem?_eq_some_iff.1 h).1
      refine .inl ⟨n-8,hlt,by omega,h,?_⟩
      have:=hsE_w (μ:=μ) h8' (n-8) hlt
      have e:8+(n-8)=n:=by omega
      rw [e] at this ⊢
      exact this
    ·have hlt:=(List.getElem?_eq_some_iff.1 h).1
     have hlt2:n-16<μ.length:=by omega
     refine .inr ⟨n-16,μ[n-16],by omega,h,List.getElem?_eq_getElem hlt2,?_⟩
     have:=hsE_f (μ:=μ) h8' (n-16)
     rw [show 16+(n-16)=n by omega] at this
     rw [this];exact List.getElem?_eq_getElem hlt2
   have hν:∀i n,nuX (hsE wos'.length μ) i=some n→∀bl,β1 n=some bl→β' i=some bl:=by
    intro i n hi bl hb
    have hsome:∃o,postOb wos' fos i=some o:=by
     have hge:¬i<8:=by intro h;unfold nuX at hi;rw [if_pos h] at hi;cases hi
     by_cases h16:i<16
     ·by_cases hlt:i-8<wos'.length
      ·have:=hpw (i-8) hlt
       rw [show 8+(i-8)=i by omega] at this
       exact ⟨_,this.trans (List.getElem?_eq_getElem hlt)⟩
      ·have:=hsE_p (μ:=μ) h8' (i-8) (by omega) (by omega)
       rw [show 8+(i-8)=i by omega,hi] at this
       cases this
       rw [hβ7] at hb;cases hb
     ·have h1:=hsE_f (μ:=μ) h8' (i-16)
      rw [show 16+(i-16)=i by omega,hi] at h1
      have hlt:i-16<fos.length:=by have:=(List.getElem?_eq_some_iff.1 h1.symm).1;omega
      have:=hpf (i-16)
      rw [show 16+(i-16)=i by omega] at this
      exact ⟨_,this.trans (List.getElem?_eq_getElem hlt)⟩
    obtain ⟨o,ho⟩:=hsome
    simp only [β',ho,hi,Option.bind_some,hb]
   have hVf:(false=true→∀n,(hsE wos'.length μ).contains n=false→∀b∈φ1 n,I1 b):=by simp
   have hget2:∀(i:Nat) v,avs[i]? = some v→∃y,ys[i]? = some y∧Rv w' I1 β1 v y:=hget
   have hχm:∀n b,b∈χ' n→∃o m,postOb wos' fos n=some o∧o≠.dead∧nuX (hsE wos'.length μ) n=some m∧b∈φ1 m:=by
    intro n b hb
    simp only [χ'] at hb
    split at hb
    ·simp at hb
    ·rename_i o hne ho
     split at hb
     ·rename_i m hm
      exact ⟨o,m,ho,λe=>hne (by rw [←e]),hm,hb⟩
     ·simp at hb
    ·simp at hb
   refine ⟨hC1.dfr,(if ys.length=1 then ys.getD 0 undef else .tuple ⟨ys⟩),?_,r,wos',fos,hPo,hlen,hfl,hxk',_,I1,β',χ',rfl,hC1.evo,hC1.imm0,?_,?_,?_,?_,?_,?_,?_⟩
   ·rw [zka,Sem.run_bind,Array.mapM_eq_mapM_toList,Sem.run_map',hrun]
    simp only [Result.andThen_ok,Sem.run_pure]
    congr 1
    match ys with
    | []=>rfl
    | [y]=>rfl
    | y :: z :: l=>rfl
   ·intro b hb
    rcases hC1.immNew b hb with h1 | h1
    ·exact .inl h1
    ·exact .inr ⟨h1,hC1.immLt b hb⟩
   ·rcases axRs_two hr' with ⟨v,rfl,hm⟩ | ⟨hne,rs,rfl,hm⟩
    ·obtain ⟨y,h1,h2⟩:=hget2 0 v rfl
     have hl1:ys.length=1:=by simpa using hyl
     rw [if_pos hl1]
     have:ys.getD 0 undef=y:=by simp [List.getD,h1]
     rw [this]
     exact zh2 _ _ (zmf hC1.ob (λ_ h=>h) hVf hν hZ v r hm (zmc _ _ (ax2_notup hm) h2))
    ·rw [if_neg (by omega)]
     refine ⟨ys,rfl,zhf hC1.ob (λ_ h=>h) hVf hν hZ avs rs hm (zla _ _ hyl.symm λi v hv=>?_)⟩
     obtain ⟨y,h1,h2⟩:=hget2 i v hv
     exact ⟨y,h1,zmc _ _ (λvs=>zhg _ _ hm v (List.mem_of_getElem? hv) vs) h2⟩
   ·intro n bl hb
    cases hp0:postOb wos [] n with
    | none=>rw [(hn n hp0).1] at hb;cases hb
    | some o =>
     unfold postOb at hp0
     split at hp0
     ·split at hp0
      ·cases hp0
      ·have hlt:n-8<wos'.length:=by have:=(List.getElem?_eq_some_iff.1 hp0).1;omega
       have h1:=hsE_w (μ:=μ) h8' (n-8) hlt
       rw [show 8+(n-8)=n by omega] at h1
       exact hν n n h1 bl (hC1.bet n bl hb)
     ·simp at hp0
   ·intro n hnn
    simp [β',χ',hnn]
   ·intro n o hno
    rcases hpcase n o hno with ⟨i,h1,h2,h3,h4⟩ | ⟨k,m,h1,h2,h3,h4⟩
    ·obtain ⟨p,g1,g2⟩:=axW_get 0 wos' hw' i o h3
     rw [show 8+(0+i)=8+i by omega] at g1
     rcases g2 with rfl | g2
     ·show χ' n=[]
      simp only [χ',hno]
     ·have hd:o≠.dead:=by rintro rfl;cases p<;>exact g2.elim
      have:χ' n=φ1 (8+i):=by
       simp only [χ',hno,h4]
       all_goals (cases o<;>first | rfl | exact (hd rfl).elim)
      rw [this]
      exact axO_RO hC1 (λ_ h=>h) hVf hν hZ h4 g1 g2
    ·obtain ⟨-,hfg⟩:=zpn _ _ hf'
     obtain ⟨m',p,g1,g2,g3⟩:=hfg k o h2
     rw [h3] at g1;cases g1
     have hd:o≠.dead:=by rintro rfl;cases p<;>exact g3.elim
     have:χ' n=φ1 m:=by
      simp only [χ',hno,h4]
      all_goals (cases o<;>first | rfl | exact (hd rfl).elim)
     rw [this]
     exact axO_RO hC1 (λ_ h=>h) hVf hν hZ h4 g2 g3
   ·intro n m hnm b hb hb'
    obtain ⟨o,k,g1,g2,g3,g4⟩:=hχm n b hb
    obtain ⟨o',l,f1,f2,f3,f4⟩:=hχm m b hb'
    refine hC1.sep k l ?_ b g4 f4
    rintro rfl
    rcases hpcase n o g1 with ⟨i,h1,h2,h3,h4⟩ | ⟨i,q,h1,h2,h3,h4⟩
    ·rw [g3] at h4;cases h4
     rcases hpcase m o' f1 with ⟨j,k1,k2,k3,k4⟩ | ⟨j,q,k1,k2,k3,k4⟩
     ·rw [f3] at k4
      have:8+i=8+j:=Option.some.inj k4
      exact hnm (by omega)
     ·rw [f3] at k4;cases k4
      exact hμd i o h3 g2 (List.mem_of_getElem? k3)
    ·rw [g3] at h4;cases h4
     rcases hpcase m o' f1 with ⟨j,k1,k2,k3,k4⟩ | ⟨j,q,k1,k2,k3,k4⟩
     ·rw [f3] at k4;cases k4
      exact hμd j o' k3 f2 (List.mem_of_getElem? h3)
     ·rw [f3] at k4;cases k4
      obtain ⟨p1,p2⟩:=List.getElem?_eq_some_iff.1 h3
      obtain ⟨q1,q2⟩:=List.getElem?_eq_some_iff.1 k3
      have:=(List.getElem_inj hμn).1 (p2.trans q2.symm)
      exact hnm (by omega)
   ·intro n b hb
    obtain ⟨o,k,g1,g2,g3,g4⟩:=hχm n b hb
    have:=hC1.flt k b g4
    refine ⟨hC1.nimm k b g4,this.1,?_⟩
    rcases this.2 with h | h | h
    ·exact .inl h
    ·exact h.elim
    ·exact .inr h
  cases e with
  | normal=>exact key hq
  | ret=>exact key hq
  | exit i=>obtain ⟨s,h1,h2⟩:=hq;exact h1.elim
  | _=>exact hq.elim
theorem formsX_nd(n:Nat):(formsX n).Nodup:=by
 unfold formsX
 refine List.pairwise_iff_getElem.2 λi j hi hj hij=>?_
 simp at hi hj ⊢
 omega
theorem zcy{f:FuncId}{fn:Func}{c:Code}{args:List AV}{wos:List OB}{nf:Nat}{Po:AV→List OB→List OB→Prop}
 (hf : P.funcs[f]? = some fn) (hname : (fn.name == "runtime.NumGoroutine") = false) (hb : fn.body = some c) (hnt : args.length ≤ fn.ntmps) (hw8 : wos.length ≤ 8) (hxk : wos.all OB.xk = true)
 (h:AW P fn.ntmps (formsX wos.length) c (retE P fn.results.toList wos.length nf Po) (stX args wos)):XCallE P f args wos nf Po :=
 zg2 hf hname hb hnt hw8 hxk (λ_ hn=>hn) (λhh=>by
  rcases hh with hh | hh
  ·have : wos = [] := by
    have h1:(formsX wos.length).length=0:=by rw [hh];rfl
    unfold formsX at h1
    simpa using h1
   rw [this];rfl
  ·exact absurd (formsX_nd _) hh) h
theorem zdb{f:FuncId}{fn:Func}{c:Code}{args:List AV}{wos:List OB}{nf:Nat}{Po:AV→List OB→List OB→Prop}
 (hf : P.funcs[f]? = some fn) (hname : (fn.name == "runtime.NumGoroutine") = false) (hb : fn.body = some c) (hnt : args.length ≤ fn.ntmps) (hw8 : wos.length ≤ 8) (hxk : wos.all OB.xk = true) (hc : wos.all OB.isC = true)
 (h:AW P fn.ntmps (formsX wos.length++formsX wos.length) c (retE P fn.results.toList wos.length nf Po) (stX args wos)):XCallE P f args wos nf Po :=
 zg2 hf hname hb hnt hw8 hxk (λ_ hn=>List.mem_append.2 (.inl hn)) (λ_=>hc) h
theorem zmk{nt:Nat}{fs:List Nat}{rs:List ResultVar}{nw nf:Nat}{Po:AV→List OB→List OB→Prop}{st:St}(r:AV)(wos' fos:List OB)(hp:Po r wos' fos)(hl:wos'.length=nw)(hf:fos.length=nf)(hx:(wos'++fos).all OB.xk=true)(h:endX P rs r wos' fos st):AW P nt fs .ret (retE P rs nw nf Po) st :=
 zbo ⟨r,wos',fos,hp,hl,hf,hx,h⟩
theorem zbq{f:FuncId}{fn:Func}{c:Code}{args:List AV}{wos wos' fos:List OB}{r:AV}
 (hf : P.funcs[f]? = some fn) (hname : (fn.name == "runtime.NumGoroutine") = false) (hb : fn.body = some c) (hnt : args.length ≤ fn.ntmps) (hlen : wos'.length = wos.length) (hw8 : wos.length ≤ 8) (hxk : wos.all OB.xk = true) (hxk' : (wos' ++ fos).all OB.xk = true)
 (h:AW P fn.ntmps (formsX wos.length) c (retX P fn.results.toList r wos' fos) (stX args wos)):XCall P f args wos r wos' fos:=by
 obtain ⟨h1,h2,h3⟩:=zcy (nf:=fos.length) (Po:=λr' w' f'=>r'=r∧w'=wos'∧f'=fos) hf hname hb hnt hw8 hxk (AW_mono h λe s hq=>by
  cases e with
  | normal=>exact ⟨r,wos',fos,⟨rfl,rfl,rfl⟩,hlen,rfl,hxk',hq⟩
  | ret=>exact ⟨r,wos',fos,⟨rfl,rfl,rfl⟩,hlen,rfl,hxk',hq⟩
  | exit i=>exact hq)
 refine ⟨h1,hlen,h2,hxk',λw I β χ vs g1 g2 g3 g4 g5 g6 g7=>(h3 w I β χ vs g1 g2 g3 g4 g5 g6 g7).mono ?_⟩
 rintro e w' ⟨r',w'',f',⟨rfl,rfl,rfl⟩,-,-,-,hh⟩
 exact hh
end Go.Proofs.YtodmafgmdlkhoaaDoor.Vs
end
section
namespace Go.Proofs.YtodmafgmdlkhoaaDoor.Vs
set_option linter.all false
open Go.RowKit
variable {P:Program}
theorem fname_no(n:Nat):¬fname 0 0 n:=by unfold fname;omega
theorem zhr{f:FuncId}{args:List AV}{r:AV}(h:PCall P f args r):XCall P f args [] r [] []:=by
 obtain ⟨h1,h2⟩:=h
 refine ⟨h1,rfl,by simp,rfl,?_⟩
 intro w I β χ vs hI hgw hargs hn _ _ _
 have hnone:∀n,β n=none∧χ n=[]:=λn=>hn n (by unfold postOb;split<;>first|(split<;>simp) | simp)
 refine (h2 w I β vs hI hgw hargs (by simp) (λn _=>(hnone n).1) (by simp) (by simp) (λn m bl bl' _ hb=>by rw [(hnone n).1] at hb;cases hb)).mono ?_
 rintro e w' ⟨v,I',rfl,hev,hII,hIn,hr,-,-⟩
 refine ⟨v,I',λ_=>none,λ_=>[],rfl,hev.mono ?_,hII,hIn,hr,(λn bl hb=>by rw [(hnone n).1] at hb;cases hb),λ_ _=>⟨rfl,rfl⟩,?_,by simp,by simp⟩
 ·rintro b - ⟨i,bl,h,-⟩;simp at h
 ·intro n o ho
  unfold postOb at ho
  split at ho
  ·split at ho
   ·cases ho
   ·simp at ho
  ·simp at ho
section
variable {rest:List CO}{K:St→Prop}{st:St}{dst:Option Nat}{f:FuncId}{l l':List AV}{r:AV}
theorem XKd_w(ha:am2s st (nuOf [] []) l l')(hp:PCall P f l' r)(hk:xreg P rest (putC st dst r (if scal r then [] else frzU st (arrN2 l))) K):XKd P rest K st dst f l:=by
 refine .inl ⟨r,_,.inl ⟨[],[],l',[],[],[],hp,rfl,rfl,rfl,by simp,by simp,ha,rfl,rfl,rfl⟩,?_⟩
 simpa [zipW,cellN] using hk
theorem zf1(ha:am2s st (nuOf [] []) l l')(hp:PCall P f l' r)(hs:arrN2 l=[])(hk:xreg P rest (putC st dst r []) K):XKd P rest K st dst f l :=
 XKd_w ha hp (by rw [hs];cases scal r<;>exact hk)
theorem zch(hs:List Nat)(q:Bool)(Z:List (Nat × Nat)){args:List AV}{wos wos' fos:List OB}(hX:XCall P f args wos r wos' fos)
 (hz:(Z.map (·.1)).Nodup∧(∀z∈Z,st.ob z.1=none)∧(hs++(List.range fos.length).map (nmC dst + ·)).Nodup∧(∀k∈List.range fos.length,(addZ st Z).ob (nmC dst+k)=none)∧rkT q r=true∧(wos'++fos).all (rkO q)=true)
 (ha:ax2s q (addZ st Z) hs (Z.map (·.1)) l args∧axOs q (addZ st Z) hs (Z.map (·.1)) hs wos)
 (hk:xreg P rest (putC st dst (rnT (rhoX hs (nmC dst)) r) (zU Z++upsX hs (nmC dst) wos' fos)) K):XKd P rest K st dst f l :=
 .inl ⟨_,_,.inr (.inl ⟨args,wos,r,wos',fos,hs,q,Z,hX,hz.1,hz.2.1,hz.2.2.1,ha.1,ha.2,λk hk=>hz.2.2.2.1 k (List.mem_range.2 hk),hz.2.2.2.2.1,hz.2.2.2.2.2,rfl,rfl⟩),hk⟩
theorem zr3(hs:List Nat)(q:Bool)(Z:List (Nat × Nat)){args:List AV}{wos:List OB}{nf:Nat}{Po:AV→List OB→List OB→Prop}(hX:XCallE P f args wos nf Po)
 (hz:(Z.map (·.1)).Nodup∧(∀z∈Z,st.ob z.1=none)∧(hs++(List.range nf).map (nmC dst + ·)).Nodup∧(∀k∈List.range nf,(addZ st Z).ob (nmC dst+k)=none))
 (ha:ax2s q (addZ st Z) hs (Z.map (·.1)) l args∧axOs q (addZ st Z) hs (Z.map (·.1)) hs wos)
 (hk:∀r wos' fos,Po r wos' fos→(rkT q r=true∧(wos'++fos).all (rkO q)=true)∧xreg P rest (putC st dst (rnT (rhoX hs (nmC dst)) r) (zU Z++upsX hs (nmC dst) wos' fos)) K):XKd P rest K st dst f l :=
 .inr (.inl ⟨args,wos,nf,Po,hs,q,Z,hX,hz.1,hz.2.1,hz.2.2.1,ha.1,ha.2,λk hk=>hz.2.2.2 k (List.mem_range.2 hk),λr wos' fos hp=>⟨(hk r wos' fos hp).1.1,(hk r wos' fos hp).1.2,(hk r wos' fos hp).2⟩⟩)
theorem INL.mono{f:FuncId}{fs:List Nat}{ob:Nat→Option OB}{actual:List AV}{K K':AV→(Nat→Option OB)→Prop}(h:INL P f fs ob actual K)(hk:∀v ob',K v ob'→K' v ob'):INL P f fs ob actual K':=by
 obtain ⟨h0,fn,c,h1,h2,h3,h4,h5,h6,h7,h8⟩:=h
 refine ⟨h0,fn,c,h1,h2,h3,h4,h5,h6,h7,AW_mono h8 λe s hq=>?_⟩
 cases e with
 | normal=>obtain ⟨p,vs,g1,g2,g3,g4⟩:=hq;exact ⟨p,vs,g1,g2,g3,hk _ _ g4⟩
 | ret=>obtain ⟨p,vs,g1,g2,g3,g4⟩:=hq;exact ⟨p,vs,g1,g2,g3,hk _ _ g4⟩
 | exit i=>exact hq
theorem zvc(hp:PCall P f l' r)(hr:rkT true r=true)(ha:ax2s true st [] [] l l')(hk:xreg P rest (putC st dst (rnT (rhoX [] (nmC dst)) r) []) K):XKd P rest K st dst f l :=
 zch [] true [] (zhr hp) ⟨by simp,by simp,by simp,by simp,hr,rfl⟩ ⟨ha,rfl⟩ hk
end
theorem LeS.cv{fs:List Nat}{s:St}{ob':Nat→Option OB}(h:∀n,s.ob n=ob' n∨∃p o,s.ob n=some p∧ob' n=some o∧cvO p o):LeS fs s { s with ob:=ob' }:=by
 intro C a w hf hC
 obtain ⟨I,β,φ,hC⟩:=hC
 have hnone:∀n,ob' n=none→s.ob n=none:=by
  intro n hn
  rcases h n with h | ⟨p,o,h1,h2,-⟩
  ·rw [h];exact hn
  ·rw [hn] at h2;cases h2
 refine ⟨I,β,φ,hC.move (ob':=ob') (λ_=>False) (Evo.refl _ w) (λ_ hf=>hf.elim) (λ_ hb=>hb) (λ_ hb=>.inl hb) (λ_ _ hb=>hb) ?_ (λn hn=>hC.dom n (hnone n hn)) (λn hn=>hC.fdom n (hnone n hn)) hC.sep hC.nimm hC.flt ?_ ?_⟩
 ·intro n o ho
  rcases h n with h | ⟨p,o',h1,h2,hle⟩
  ·exact .inl ⟨h.trans ho,rfl,λ_ _ hf=>hf⟩
  ·rw [ho] at h2;cases h2
   right
   have hro:=hC.ob n p h1
   cases p<;>cases o<;>first | exact hle.elim | skip
   ·obtain ⟨rfl,rfl⟩:=hle
    obtain ⟨bl,g1,g2,g3,g4,g5⟩:=hro
    exact ⟨bl,g1,g2,g3,g4,g5.imp id λg=>⟨g.1,g.2.1,zgh _ _ g.2.2⟩⟩
   ·obtain ⟨rfl,rfl,hs⟩:=hle
    obtain ⟨bl,g1,g2,g3,g4,g5⟩:=hro
    exact ⟨bl,g1,g2,g3,g4,by rcases g5 with ⟨-,h⟩ | ⟨h,-⟩<;>rw [h]<;>simp,g5.imp id λg=>⟨[],g.1,g.2.1,zfv (I:=I) (β:=β) _ _ hs (zgh _ _ g.2.2)⟩⟩
   ·obtain ⟨rfl,rfl,hs⟩:=hle
    obtain ⟨bl,g1,g2,g3,g4,g5⟩:=hro
    exact ⟨bl,g1,g2,g3,g4,by rcases g5 with ⟨-,h⟩ | ⟨h,-⟩<;>rw [h]<;>simp,g5.imp id λg=>⟨[],g.1,g.2.1,zfv (I:=I) (β:=β) _ _ hs g.2.2⟩⟩
   ·obtain ⟨rfl,rfl,hs⟩:=hle
    obtain ⟨bl,g1,g2,g3,g4,g5,g6⟩:=hro
    refine ⟨bl,g1,g2,g3,g4,?_⟩
    rcases g6 with g6 | ⟨F',g6,g7,g8⟩
    ·exact .inl g6
    ·obtain ⟨k1,rfl⟩:=zlv (I:=I) (β:=β) _ _ _ hs g8
     exact .inr ⟨g6,g7,k1⟩
   ·obtain ⟨rfl,rfl⟩:=hle
    obtain ⟨bl,g1,g2,g3,g4,g5,g6⟩:=hro
    exact ⟨bl,g1,g2,g3,g4,g5,g6.imp id λ⟨F',k1,k2,k3,_⟩=>⟨F',k1,k2,k3⟩⟩
 ·intro n o ho hwr b hb
  rcases h n with h | ⟨p,o',h1,h2,hle⟩
  ·exact hC.wok n o (h.trans ho) hwr b hb
  ·cases p with
   | flat sz xs=>intro hy;have:=hC.fnew n _ _ h1 b hb;have:=hC.ylt b hy;omega
   | win _ _=>exact hC.wok n _ h1 rfl b hb
   | own _ _=>exact hC.wok n _ h1 rfl b hb
   | ownh _ _ _=>exact hC.wok n _ h1 rfl b hb
   | _=>cases o'<;>exact hle.elim
 ·intro n sz xs ho b hb
  rcases h n with h | ⟨p,o',h1,h2,hle⟩
  ·exact hC.fnew n sz xs (h.trans ho) b hb
  ·rw [ho] at h2;cases h2
   cases p<;>exact hle.elim
theorem zml(n:Nat):postOb [] [] n=none:=by unfold postOb;split<;>first|(split<;>simp) | simp
theorem zwu(o:OB)(n:Nat):postOb [o] [] n=lk [(8,o)] n:=by
 unfold postOb
 rw [zbr,zbz]
 by_cases h:n=8
 ·subst h;simp
 ·have:(n==8)=false:=by simpa using h
  rw [this]
  simp only [cond_false]
  split
  ·split
   ·rfl
   ·rw [List.getElem?_eq_none_iff];simp;omega
  ·simp
theorem postOb_2(o p:OB)(n:Nat):postOb [o,p] [] n=lk [(8,o),(9,p)] n:=by
 unfold postOb
 rw [zbr,zbr,zbz]
 by_cases h:n=8
 ·subst h;simp
 ·have e:(n==8)=false:=by simpa using h
  rw [e]
  simp only [cond_false]
  by_cases h':n=9
  ·subst h';simp
  ·have e:(n==9)=false:=by simpa using h'
   rw [e]
   simp only [cond_false]
   split
   ·split
    ·rfl
    ·rw [List.getElem?_eq_none_iff];simp;omega
   ·simp
section
variable {nt:Nat}{fs:List Nat}{Q:AExit→St→Prop}{c:Code}
theorem zdk{args:List AV}(h:AW P nt (formsX 0) c Q { env:=λn=>args.getD n .undef,ob:=lk [] }):AW P nt (formsX 0) c Q (stX args []):=by
 have:(stX args []) = { env:=λn=>args.getD n .undef,ob:=lk [] }:=by
  unfold stX;congr 1;funext n;rw [zml];rfl
 rw [this];exact h
theorem zhn{args:List AV}{o:OB}(o':OB)(ho:o=o'∨cvO o o')(h:AW P nt (formsX 1) c Q { env:=λn=>args.getD n .undef,ob:=lk [(8,o')] }):AW P nt (formsX 1) c Q (stX args [o]):=by
 refine zgl (LeS.cv (ob':=lk [(8,o')]) λn=>?_) h
 show postOb [o] [] n=_∨∃p q,postOb [o] [] n=some p∧_
 rw [zwu]
 rcases ho with rfl | ho
 ·exact .inl rfl
 ·simp only [zbr,zbz]
  by_cases e:(n==8)=true
  ·rw [e];exact .inr ⟨o,o',rfl,rfl,ho⟩
  ·have e:(n==8)=false:=by simpa using e
   rw [e];exact .inl rfl
theorem AW_x2{args:List AV}{o p:OB}(o' p':OB)(ho:o=o'∨cvO o o')(hp:p=p'∨cvO p p')(h:AW P nt (formsX 2) c Q { env:=λn=>args.getD n .undef,ob:=lk [(8,o'),(9,p')] }):AW P nt (formsX 2) c Q (stX args [o,p]):=by
 refine zgl (LeS.cv (ob':=lk [(8,o'),(9,p')]) λn=>?_) h
 show postOb [o,p] [] n=_∨∃a b,postOb [o,p] [] n=some a∧_
 rw [postOb_2]
 simp only [zbr,zbz]
 by_cases e:(n==8)=true
 ·rw [e]
  rcases ho with rfl | ho
  ·exact .inl rfl
  ·exact .inr ⟨o,o',rfl,rfl,ho⟩
 ·have e:(n==8)=false:=by simpa using e
  rw [e]
  by_cases e:(n==9)=true
  ·rw [e]
   rcases hp with rfl | hp
   ·exact .inl rfl
   ·exact .inr ⟨p,p',rfl,rfl,hp⟩
  ·have e:(n==9)=false:=by simpa using e
   rw [e];exact .inl rfl
end
def endXR(x:Option (Prop × List AV))(st:St)(hs Z:List Nat)(r:AV):Prop:=match x with
 | some (p,vs)=>p∧axRs st hs Z vs r
 | none=>False
theorem zzk{st:St}{hs Z:List Nat}(p:Prop)(vs:List AV)(r:AV):endXR (some (p,vs)) st hs Z r=(p∧axRs st hs Z vs r):=(rfl)
theorem zb7{rs:List ResultVar}{r:AV}{wos' fos:List OB}{st:St}(μ:List Nat)(Z:List (Nat × Nat))
 (h1:(Z.map (·.1)).Nodup∧(∀z∈Z,st.ob z.1=none)∧μ.length=fos.length∧(addZ st Z).ob 7=none∧μ.Nodup∧∀m∈μ,16≤m∨wos'[m-8]? = some .dead)
 (hw:wos'.length≤8)
 (h2:endXR (resAll P st rs) (addZ st Z) (hsE wos'.length μ) (Z.map (·.1)) r∧axW (addZ st Z) (hsE wos'.length μ) (Z.map (·.1)) 0 wos'∧axOs false (addZ st Z) (hsE wos'.length μ) (Z.map (·.1)) μ fos):endX P rs r wos' fos st:=by
 obtain ⟨g1,g2,g3,g4,g5,g6⟩:=h1
 obtain ⟨k1,k2,k3⟩:=h2
 unfold endXR at k1
 split at k1
 ·rename_i p vs hr
  refine ⟨p,vs,μ,Z,hr,k1.1,g1,g2,g3,g4,g5,λi o hi hd hm=>?_,k1.2,k2,k3⟩
  have:=(List.getElem?_eq_some_iff.1 hi).1
  rcases g6 _ hm with h | h
  ·omega
  ·rw [show 8+i-8=i by omega,hi] at h
   exact hd (Option.some.inj h)
 ·exact k1.elim
theorem axRs_one{st:St}{hs Z:List Nat}(v r:AV):axRs st hs Z [v] r=ax2 false st hs Z v r:=(rfl)
theorem axRs_2{st:St}{hs Z:List Nat}(v w:AV)(rs:List AV):axRs st hs Z [v,w] (.tup rs)=ax2s false st hs Z [v,w] rs:=(rfl)
theorem axRs_3{st:St}{hs Z:List Nat}(v w x:AV)(rs:List AV):axRs st hs Z [v,w,x] (.tup rs)=ax2s false st hs Z [v,w,x] rs:=(rfl)
theorem axRs_0{st:St}{hs Z:List Nat}(rs:List AV):axRs st hs Z [] (.tup rs)=ax2s false st hs Z [] rs:=(rfl)
section
variable {q:Bool}{st:St}{hs Z:List Nat}
theorem ax2s_nn:ax2s q st hs Z [] []=True:=by simp [ax2s]
theorem ax2s_cc(a b:AV)(l m:List AV):ax2s q st hs Z (a :: l) (b :: m)=(ax2 q st hs Z a b∧ax2s q st hs Z l m):=(rfl)
theorem zvd:ax1s q st hs Z [] []=True:=by simp [ax1s]
theorem zve(a b:AV)(l m:List AV):ax1s q st hs Z (a :: l) (b :: m)=(ax1 q st hs Z a b∧ax1s q st hs Z l m):=(rfl)
theorem ax2_ff(cs cs':List AV):ax2 q st hs Z (.agg cs) (.agg cs')=ax1s q st hs Z cs cs':=(rfl)
theorem ax2_gg(v v':Value):ax2 q st hs Z (.g v) (.g v')=(v'=v):=(rfl)
theorem ax1_gg(v v':Value):ax1 q st hs Z (.g v) (.g v')=(v'=v):=(rfl)
theorem ax2_ss(v v':List UInt8):ax2 q st hs Z (.s v) (.s v')=(v'=v):=(rfl)
theorem ax1_ss(v v':List UInt8):ax1 q st hs Z (.s v) (.s v')=(v'=v):=(rfl)
theorem ax2_ll(s s':Nat)(v v':List (List AV)):ax2 q st hs Z (.sl s v) (.sl s' v')=(s'=s∧v'=v):=(rfl)
theorem ax1_ll(s s':Nat)(v v':List (List AV)):ax1 q st hs Z (.sl s v) (.sl s' v')=(s'=s∧v'=v):=(rfl)
theorem ax2_aa(n o l i o' l':Nat):ax2 q st hs Z (.arr n o l) (.arr i o' l')=(nuX hs i=some n∧o'=o∧l'=l):=(rfl)
theorem ax1_aa(n o l i o' l':Nat):ax1 q st hs Z (.arr n o l) (.arr i o' l')=(nuX hs i=some n∧o'=o∧l'=l):=(rfl)
theorem ax2_ga(v:Value)(i o l:Nat):ax2 q st hs Z (.g v) (.arr i o l)=(v=.slice none 0 0∧o=0∧l=0∧∃n,nuX hs i=some n∧n∈Z):=(rfl)
theorem ax1_ga(v:Value)(i o l:Nat):ax1 q st hs Z (.g v) (.arr i o l)=(v=.slice none 0 0∧o=0∧l=0∧∃n,nuX hs i=some n∧n∈Z):=(rfl)
theorem ax2_gl(v:Value)(s:Nat)(xs:List (List AV)):ax2 q st hs Z (.g v) (.sl s xs)=((v=.slice none 0 0∧xs=[])∨(q=true∧∃n ps,hs.contains n=false∧st.ob n=some (.park ps)∧(.sl s xs,v)∈ps)):=(rfl)
theorem ax1_gl(v:Value)(s:Nat)(xs:List (List AV)):ax1 q st hs Z (.g v) (.sl s xs)=((v=.slice none 0 0∧xs=[])∨(q=true∧∃n ps,hs.contains n=false∧st.ob n=some (.park ps)∧(.sl s xs,v)∈ps)):=(rfl)
theorem ax2_al(n o l s:Nat)(xs:List (List AV)):ax2 q st hs Z (.arr n o l) (.sl s xs)=(∃ys,vwO q hs st n s ys∧o+l≤ys.length∧xs=(ys.drop o).take l):=(rfl)
theorem ax1_al(n o l s:Nat)(xs:List (List AV)):ax1 q st hs Z (.arr n o l) (.sl s xs)=(∃ys,vwO q hs st n s ys∧o+l≤ys.length∧xs=(ys.drop o).take l):=(rfl)
theorem ax2_pp(n o i o':Nat):ax2 q st hs Z (.ptr n o) (.ptr i o')=(nuX hs i=some n∧o'=o):=(rfl)
theorem ax2_ee(n i f j i' f':Nat):ax2 q st hs Z (.eptr n i f) (.eptr j i' f')=(nuX hs j=some n∧i'=i∧f'=f):=(rfl)
theorem zmm:axOs q st hs Z [] []=True:=by simp [axOs]
theorem zhw(n:Nat)(o:OB)(ns:List Nat)(os:List OB):axOs q st hs Z (n :: ns) (o :: os)=((∃p,st.ob n=some p∧axO q st hs Z p o)∧axOs q st hs Z ns os):=(rfl)
theorem axO_oo(s s':Nat)(xs xs':List (List AV)):axO q st hs Z (.own s xs) (.own s' xs')=(s'=s∧xs'=xs):=(rfl)
theorem axO_wo(s s':Nat)(xs xs':List (List AV)):axO q st hs Z (.win s xs) (.own s' xs')=(s'=s∧xs'=xs∧scR xs=true):=(rfl)
theorem axO_fo(s s':Nat)(xs xs':List (List AV)):axO q st hs Z (.flat s xs) (.own s' xs')=(s'=s∧xs'=xs∧scR xs=true):=(rfl)
theorem axO_cc(cs cs':List AV):axO q st hs Z (.cells cs) (.cells cs')=ax1s q st hs Z cs cs':=(rfl)
theorem axW_n(i:Nat):axW st hs Z i []=True:=(rfl)
theorem axW_c(i:Nat)(o:OB)(os:List OB):axW st hs Z i (o :: os)=((∃p,st.ob (8+i)=some p∧axE st hs Z p o)∧axW st hs Z (i+1) os):=(rfl)
end
theorem nuX_eq(hs:List Nat)(i:Nat):nuX hs i=if i<8 then none else hs[i-8]?:=(rfl)
theorem vwO_some{q:Bool}{hs:List Nat}{st:St}{n sz:Nat}{ys:List (List AV)}:vwO q hs st n sz ys=(st.ob n=some (.shared sz ys)∨(q=true∧hs.contains n=false∧(st.ob n=some (.flat sz ys)∨st.ob n=some (.own sz ys)∨(st.ob n=some (.win sz ys)∧(scR ys=true∨immR ys=true))))):=(rfl)
section
variable {st:St}{nm:Nat}
theorem aopX_move(x:Operand):aopX P st nm (.move x)=aop P st nm (.move x):=(rfl)
theorem zvf(x:Operand):aopX P st nm (.assign x)=aop P st nm (.assign x):=(rfl)
theorem aopX_pick(c x y:Operand):aopX P st nm (.pick c x y)=aop P st nm (.pick c x y):=(rfl)
theorem zzl(t:TypeId):aopX P st nm (.alloc t)=aop P st nm (.alloc t):=(rfl)
theorem aopX_box(t:TypeId)(x:Operand):aopX P st nm (.box t x)=aop P st nm (.box t x):=(rfl)
theorem zzm(t:TypeId)(ps:Array (Nat × Operand)):aopX P st nm (.build t ps)=aop P st nm (.build t ps):=(rfl)
theorem aopX_load(t:TypeId)(x:Operand):aopX P st nm (.load t x)=orE (aLoad P st t (ev st x)) (aLoadO P st t (ev st x)):=(rfl)
theorem zpv(x:Operand):aopX P st nm (.nilCheck x)=aop P st nm (.nilCheck x):=(rfl)
theorem aopX_unOp(o:UnOp)(t:TypeId)(x:Operand):aopX P st nm (.unOp o t x)=aop P st nm (.unOp o t x):=(rfl)
theorem zr4(a b:TypeId)(x:Operand):aopX P st nm (.convert a b x)=aop P st nm (.convert a b x):=(rfl)
theorem znd(t:TypeId)(x y:Operand):aopX P st nm (.makeSlice t x y)=aop P st nm (.makeSlice t x y):=(rfl)
theorem zne(t:TypeId)(x:Operand)(f:Nat):aopX P st nm (.fieldAddr t x f)=aop P st nm (.fieldAddr t x f):=(rfl)
theorem zzn(t:TypeId)(x:Operand)(f:Nat):aopX P st nm (.field t x f)=aop P st nm (.field t x f):=(rfl)
theorem znf(t:TypeId)(x y:Operand):aopX P st nm (.indexAddr t x y)=orE (aIndexAddr P st t (ev st x) (ev st y)) (aIndexAddrO P st t (ev st x) (ev st y)):=(rfl)
theorem zzo(t:TypeId)(x y:Operand):aopX P st nm (.index t x y)=aop P st nm (.index t x y):=(rfl)
theorem zzp(o:BinOp)(t:TypeId)(x y:Operand)(z):aopX P st nm (.binOp o t x y z)=aop P st nm (.binOp o t x y z):=(rfl)
theorem zzq(t:TypeId)(x:Operand)(lo hi:Option Operand):aopX P st nm (.slice t x lo hi none)=orE (aSlice P st t (ev st x) (lo.map (ev st)) (hi.map (ev st))) (aSliceC P st t (ev st x) (lo.map (ev st)) (hi.map (ev st))):=(rfl)
theorem zvg(t:TypeId)(x hi m:Operand)(lo:Option Operand):aopX P st nm (.slice t x lo (some hi) (some m))=aSlice3C P st t (ev st x) (lo.map (ev st)) (ev st hi) (ev st m):=(rfl)
theorem zng(ts:List TypeId)(s x:AV):aBuiltinX P st nm .copy ts [s,x]=aCopyC P st ts s x:=(rfl)
theorem zpw(ts:List TypeId)(x:AV):aBuiltinX P st nm .cap ts [x]=aCapC P st ts x:=(rfl)
theorem zmn(ts:List TypeId)(x:AV):aBuiltinX P st nm .clear ts [x]=aClearC P st ts x:=(rfl)
theorem zr5(x:Operand)(i:Nat):aopX P st nm (.extract x i)=aop P st nm (.extract x i):=(rfl)
theorem zpx(f)(a b):aopX P st nm (.makeFunc f a b)=aop P st nm (.makeFunc f a b):=(rfl)
theorem zzr(t:TypeId)(x v:Operand):aopX P st nm (.store t x v)=orE (if hasN (ev st v)=true then orE (aStoreW P st t (ev st x) (ev st v)) (aStore P st t (ev st x) (ev st v)) else orE (aStore P st t (ev st x) (ev st v)) (aStoreW P st t (ev st x) (ev st v))) (aStoreO P st t (ev st x) (ev st v)):=(rfl)
theorem zmo(t:TypeId)(n:Nat)(ps:Array (Nat × Operand)):aopX P st nm (.buildSlice t n ps)=if ((parts st ps.toList).any λp=>hasN p.2)=true then orE (aBuildSliceW P st nm t n (parts st ps.toList)) (aBuildSlice P st nm t n (parts st ps.toList)) else orE (aBuildSlice P st nm t n (parts st ps.toList)) (aBuildSliceW P st nm t n (parts st ps.toList)):=(rfl)
theorem zkz(ts:List TypeId)(s x:AV):aBuiltinX P st nm .append ts [s,x]=orE (aAppend P st nm ts s x) (orE (aAppendW P st nm ts s x) (orE (aAppC P st ts s x) (orE (aAppZ P st nm ts s x) (orE (aAppendO P st nm ts s x) (aAppendV P st nm ts s x))))):=(rfl)
theorem zpy(ts:List TypeId)(args:List AV):aBuiltinX P st nm .len ts args=aBuiltin P st nm .len ts args:=(rfl)
theorem zpz(ts:List TypeId)(args:List AV):aBuiltinX P st nm .max ts args=aBuiltin P st nm .max ts args:=(rfl)
theorem zp0(ts:List TypeId)(args:List AV):aBuiltinX P st nm .min ts args=aBuiltin P st nm .min ts args:=(rfl)
end
theorem zgv(l:List Int):scR (l.map cI)=true:=zd8 _ (λ_=>rfl) l
theorem scR_B(l:List Bool):scR (l.map cB)=true:=zd8 _ (λ_=>rfl) l
theorem zgd(l:List (List UInt8)):scR (l.map cS)=true:=zd8 _ (λ_=>rfl) l
attribute [simp] zgv scR_B zgd scR_nil addZ nuX_eq vwO_some ax2s_nn ax2s_cc zvd zve ax2_ff ax2_gg ax1_gg ax2_ss ax1_ss ax2_ll ax1_ll ax2_aa ax1_aa ax2_ga ax1_ga ax2_gl ax1_gl ax2_al ax1_al ax2_pp ax2_ee zmm zhw axO_oo axO_wo axO_fo axO_cc axW_n axW_c axE zzk axRs_one axRs_2 axRs_3 axRs_0 rkT rk2 rk rkO hsE
attribute [simp] xreg_nil xreg_op xreg_gd xO xR xG_bool xG_undef orE_some orE_none aopX_move zvf aopX_pick zzl aopX_box zzm aopX_load zpv aopX_unOp zr4 znd zne zzn znf zzo zzp zzq zvg zng zpw zmn aSliceC aSlice3C aCapC aSrcC aSrcM aCopyC aAppC aAppZ aClearC zr5 zpx zzr zmo zkz zpy zpz zp0 aStoreW aNewsW aAppendW aAppendO aAppendV elO aBuildSliceW hasN hasN1 aStoreO stO swl swl1 aLoadO ldO aIndexAddrO nestL nestC xL_none xL_some rnT rn2 rn0 rnO rhoX zU upsX zipO
end Go.Proofs.YtodmafgmdlkhoaaDoor.Vs
end
section
namespace Go.Proofs.YtodmafgmdlkhoaaDoor.Vs
set_option linter.all false
open Go.RowKit
variable {P:Program}
def stFr(fos:List OB):St:={ env:=λ_=>.undef,ob:=postOb [] fos }
def axT(st:St)(r r':AV):Prop:=match r with
 | .tup rs=>(match r' with | .tup rs'=>ax2s true st [] [] rs rs' | _=>False)
 | r=>ax2 true st [] [] r r'
theorem zdl{f:FuncId}{args:List AV}{r r':AV}{fos:List OB}(h:XCall P f args [] r [] fos)(ha:axT (stFr fos) r r'):PCall P f args r':=by
 obtain ⟨h1,-,-,-,h2⟩:=h
 refine ⟨h1,?_⟩
 intro w I β vs hI hgw hargs _ hn _ _ _
 have hβ:∀n,β n=none:=λn=>hn n (fname_no n)
 refine (h2 w I β (λ_=>[]) vs hI hgw hargs (λn _=>⟨hβ n,rfl⟩) (λn o ho=>by rw [zml] at ho;cases ho) (by simp) (by simp)).mono ?_
 rintro e w' ⟨v,I',β',χ',rfl,hev,hII,hIn,hr,-,-,hpo,-,hχ⟩
 refine ⟨v,λb=>I' b∨∃n,b∈χ' n,rfl,hev.mono (by rintro b - ⟨n,hb⟩;simp at hb),λb hb=>.inl (hII b hb),?_,?_,rfl,by simp⟩
 ·rintro b (hb | ⟨n,hb⟩)
  ·exact hIn b hb
  ·obtain ⟨-,g2,⟨m,g3⟩ | g3⟩:=hχ n b hb
   ·simp at g3
   ·exact .inr ⟨g3,g2⟩
 ·have hO:∀n o,(stFr fos).ob n=some o→RO w' I' β' n o (χ' n):=hpo
  have hV:(true=true→∀n,([]:List Nat).contains n=false→∀b∈χ' n,I' b∨∃n,b∈χ' n):=λ_ n _ b hb=>.inr ⟨n,hb⟩
  have hν:∀i n,nuX [] i=some n→∀bl,β' n=some bl→(λ_=>none:Beta) i=some bl:=by
   intro i n h;unfold nuX at h;split at h<;>simp at h
  have hZ:∀n∈([]:List Nat),∃bl,β' n=some bl∧bl.cap=0:=by simp
  by_cases ht:∃rs,r=.tup rs
  ·obtain ⟨rs,rfl⟩:=ht
   cases r' with
   | tup rs' =>
    obtain ⟨us,rfl,g⟩:=hr
    exact ⟨us,rfl,zhf hO (λ_ h=>.inl h) hV hν hZ _ _ ha g⟩
   | _=>exact ha.elim
  ·have h2:Rv2 w' I' β' r v:=zmc _ _ (λvs e=>ht ⟨vs,e⟩) hr
   have ha2:ax2 true (stFr fos) [] [] r r':=by cases r<;>first | exact ha | exact (ht ⟨_,rfl⟩).elim
   exact zh2 _ _ (zmf hO (λ_ h=>.inl h) hV hν hZ _ _ ha2 h2)
theorem zbv{α β:Type}(f:α→β)(l:List α)(n:Nat)(h:l.length≤n):(l.map f).take n=l.map f:=List.take_of_length_le (by simpa using h)
theorem zvh(a b:List (List AV)):scR (a++b)=(scR a&&scR b):=by simp [scR]
theorem scR_cons(x:List AV)(xs:List (List AV)):scR (x :: xs)=(x.all scal0&&scR xs):=by simp [scR]
theorem scal0_g(v:Value):scal0 (.g v)=true:=(rfl)
theorem scal0_s(v:List UInt8):scal0 (.s v)=true:=(rfl)
attribute [simp] zvh scR_cons scal0_g scal0_s
theorem zzs{f:FuncId}{args:List AV}{v:Value}(h:XCall P f args [] (.g v) [] []):PCall P f args (.g v):=zdl h rfl
end Go.Proofs.YtodmafgmdlkhoaaDoor.Vs
end
section
namespace Go.Proofs.YtodmafgmdlkhoaaDoor.Vs
set_option linter.all false
open Go.RowKit
variable {P:Program}
section loc
variable {st st':St}
theorem zvi(x:AV)(h:∀n∈names2 x,st'.ob n=st.ob n):cellsAt st' x=cellsAt st x:=by
 unfold cellsAt
 split<;>first | rfl | rw [h _ (by simp [names2,names1,names0])]
theorem aLoad_loc(t:TypeId)(x:AV)(h:∀n∈names2 x,st'.ob n=st.ob n):aLoad P st' t x=aLoad P st t x:=by
 unfold aLoad;rw [zvi x h]
theorem zr6(x:AV)(h:∀n∈names1 x,st'.ob n=st.ob n):viewCell st' x=viewCell st x:=by
 unfold viewCell
 split<;>first | rfl | rw [h _ (by simp [names1,names0])]
theorem zgm:∀(cs:List AV),(∀n∈cs.flatMap names1,st'.ob n=st.ob n)→viewCells st' cs=viewCells st cs
 | [],_=>rfl
 | c :: cs,h=>by
  unfold viewCells
  rw [zr6 c λn hn=>h n (by simp [hn]),zgm cs λn hn=>h n (by simp only [List.flatMap_cons,List.mem_append];exact .inr hn)]
theorem zp1:∀(l:List Nat),(∀n∈l,st'.ob n=st.ob n)→frzU st' l=frzU st l
 | [],_=>rfl
 | n :: r,h=>by
  unfold frzU
  rw [zp1 r λm hm=>h m (by simp [hm]),h n (by simp)]
theorem zhi:∀(cs:List AV) n,n∈arrN cs→n∈cs.flatMap names1
 | [],_,h=>by simp [arrN] at h
 | c :: cs,n,h=>by
  rw [List.flatMap_cons,List.mem_append]
  cases c with
  | arr m o l =>
   rcases List.mem_cons.1 h with rfl | h
   ·exact .inl (by simp [names1,names0])
   ·exact .inr (zhi cs n h)
  | _=>exact .inr (zhi cs n h)
theorem zf2{v:AV}{cs:List AV}(h:valCells v=some cs):∀n∈cs.flatMap names1,n∈names2 v:=by
 cases v with
 | agg l=>cases h;exact λn hn=>hn
 | tup _=>cases h
 | undef=>cases h
 | ot _ _=>cases h
 | _=>cases h;intro n hn;simpa [names2] using hn
theorem zzt(t:TypeId)(x v:AV)(hx:∀n∈names2 x,st'.ob n=st.ob n)(hv:∀n∈names2 v,st'.ob n=st.ob n):aStore P st' t x v=aStore P st t x v:=by
 unfold aStore
 split
 ·rename_i T new hT hn
  have h1:∀n∈new.flatMap names1,st'.ob n=st.ob n:=λn hm=>hv n (zf2 hn n hm)
  rw [zgm new h1,zp1 (arrN new) λn hm=>h1 n (zhi _ _ hm)]
  split<;>first | rfl | rw [hx _ (by simp [names2,names1,names0])]
 ·rfl
theorem zvj(t:TypeId)(x v:AV)(hx:∀n∈names2 x,st'.ob n=st.ob n):aStoreW P st' t x v=aStoreW P st t x v:=by
 unfold aStoreW
 split
 ·split<;>first | rfl | rw [hx _ (by simp [names2,names1,names0])]
 ·rfl
theorem zmp(sz:Nat)(x:AV)(h:∀n∈names2 x,st'.ob n=st.ob n):aNews st' sz x=aNews st sz x:=by
 unfold aNews
 split<;>first | rfl | rw [h _ (by simp [names2,names1,names0])]
theorem zhj(sz:Nat)(x:AV)(h:∀n∈names2 x,st'.ob n=st.ob n):aNewsW st' sz x=aNewsW st sz x:=by
 unfold aNewsW
 rw [zmp sz x h]
 split
 ·rfl
 ·split<;>first | rfl | rw [h _ (by simp [names2,names1,names0])]
theorem aConv_loc(a b:TypeId)(x:AV)(h:∀n∈names2 x,st'.ob n=st.ob n):aConv P st' a b x=aConv P st a b x:=by
 unfold aConv
 split
 ·rfl
 ·rfl
 ·rw [zmp 1 _ h]
 ·rfl
theorem zzu(t:TypeId)(x:AV)(lo hi:Option AV)(h:∀n∈names2 x,st'.ob n=st.ob n):aSlice P st' t x lo hi=aSlice P st t x lo hi:=by
 unfold aSlice
 split
 ·split
  ·rfl
  ·rfl
  ·rw [h _ (by simp [names2,names1,names0])]
  ·rfl
 ·rfl
theorem znh(t:TypeId)(x i:AV)(h:∀n∈names2 x,st'.ob n=st.ob n):aIndexAddr P st' t x i=aIndexAddr P st t x i:=by
 unfold aIndexAddr
 split
 ·split
  ·rw [h _ (by simp [names2,names1,names0])]
  ·rfl
  ·rfl
  ·rfl
  ·rfl
 ·rfl
theorem zmq{place:Nat→Option (Nat × Nat)}:∀(ps:List (Nat × AV)) (cells cs:List AV),fillA place cells ps=some cs→∀n∈cs.flatMap names1,n∈cells.flatMap names1∨∃p∈ps,n∈names2 p.2
 | [],cells,cs,h,n,hn=>by cases h;exact .inl hn
 | (i,v) :: rest,cells,cs,h,n,hn=>by
  unfold fillA at h
  split at h
  ·rename_i off size new h1 h2
   split at h
   ·rcases zmq rest _ _ h n hn with h3 | ⟨p,h3,h4⟩
    ·simp only [List.flatMap_append,List.mem_append] at h3
     have sub:∀(l:List AV) (k:Nat),n∈(l.take k).flatMap names1→n∈l.flatMap names1:=by
      intro l k hk
      obtain ⟨c,hc,hc2⟩:=List.mem_flatMap.1 hk
      exact List.mem_flatMap.2 ⟨c,List.mem_of_mem_take hc,hc2⟩
     have sub2:∀(l:List AV) (k:Nat),n∈(l.drop k).flatMap names1→n∈l.flatMap names1:=by
      intro l k hk
      obtain ⟨c,hc,hc2⟩:=List.mem_flatMap.1 hk
      exact List.mem_flatMap.2 ⟨c,List.mem_of_mem_drop hc,hc2⟩
     rcases h3 with (h3 | h3) | h3
     ·exact .inl (sub _ _ h3)
     ·exact .inr ⟨(i,v),by simp,zf2 h2 n h3⟩
     ·exact .inl (sub2 _ _ h3)
    ·exact .inr ⟨p,by simp [h3],h4⟩
   ·cases h
  ·cases h
theorem zzv{t:TypeId}{T:TI}(h:ti P t=some T):∀n,n∉T.zero.flatMap names1:=by
 obtain ⟨d,i,z,-,-,-,rfl⟩:=zb6 h
 intro n hn
 obtain ⟨c,hc,hn⟩:=List.mem_flatMap.1 hn
 obtain ⟨v,-,rfl⟩:=List.mem_map.1 hc
 cases v<;>simp [cv,names1,names0] at hn
theorem zmr(nm:Nat)(t:TypeId)(len:Nat)(ps:List (Nat × AV))(hn:st'.ob nm=st.ob nm)(h:∀p∈ps,∀n∈names2 p.2,st'.ob n=st.ob n):aBuildSlice P st' nm t len ps=aBuildSlice P st nm t len ps:=by
 unfold aBuildSlice
 split
 ·split
  ·split
   ·rename_i E hE
    split
    ·rename_i cs hcs
     have h1:∀n∈cs.flatMap names1,st'.ob n=st.ob n:=by
      intro n hm
      rcases zmq _ _ _ hcs n hm with h2 | ⟨p,h2,h3⟩
      ·obtain ⟨c,hc,hn⟩:=List.mem_flatMap.1 h2
       obtain ⟨l,hl,hc⟩:=List.mem_flatten.1 hc
       rw [List.eq_of_mem_replicate hl] at hc
       exact (zzv hE n (List.mem_flatMap.2 ⟨c,hc,hn⟩)).elim
      ·exact h p h2 n h3
     rw [zgm cs h1,zp1 (arrN cs) λn hm=>h1 n (zhi _ _ hm),hn]
    ·rfl
   ·rfl
  ·rfl
 ·rfl
theorem zk0(nm:Nat)(t:TypeId)(len:Nat)(ps:List (Nat × AV))(hn:st'.ob nm=st.ob nm):aBuildSliceW P st' nm t len ps=aBuildSliceW P st nm t len ps:=by
 unfold aBuildSliceW;rw [hn]
theorem zni(nm:Nat)(t:TypeId)(l c:AV)(hn:st'.ob nm=st.ob nm):aMakeSlice P nm st' t l c=aMakeSlice P nm st t l c:=by
 unfold aMakeSlice;rw [hn]
theorem zvk(nm:Nat)(ts:List TypeId)(s x:AV)(hn:st'.ob nm=st.ob nm)(hs:∀n∈names2 s,st'.ob n=st.ob n)(hx:∀n∈names2 x,st'.ob n=st.ob n):aAppend P st' nm ts s x=aAppend P st nm ts s x:=by
 unfold aAppend
 simp only [zmp _ x hx,hn]
 cases s with
 | arr n o l =>
  cases o with
  | zero=>simp only [hs n (by simp [names2,names1,names0])]
  | succ o=>rfl
 | g v=>cases v<;>first | rfl|(rename_i p q r;cases p<;>cases q<;>cases r<;>rfl)
 | _=>rfl
theorem zr7(nm:Nat)(ts:List TypeId)(s x:AV)(hn:st'.ob nm=st.ob nm)(hs:∀n∈names2 s,st'.ob n=st.ob n)(hx:∀n∈names2 x,st'.ob n=st.ob n):aAppendW P st' nm ts s x=aAppendW P st nm ts s x:=by
 unfold aAppendW
 simp only [zhj _ x hx,hn]
 cases s with
 | arr n o l =>
  cases o with
  | zero=>simp only [hs n (by simp [names2,names1,names0])]
  | succ o=>rfl
 | g v=>cases v<;>first | rfl|(rename_i p q r;cases p<;>cases q<;>cases r<;>rfl)
 | _=>rfl
theorem zr8(nm:Nat)(ts:List TypeId)(s x:AV)(hn:st'.ob nm=st.ob nm)(hs:∀n∈names2 s,st'.ob n=st.ob n)(hx:∀n∈names2 x,st'.ob n=st.ob n):aAppendV P st' nm ts s x=aAppendV P st nm ts s x:=by
 unfold aAppendV
 simp only [zhj _ x hx,hn]
 cases s with
 | arr n o l =>
  cases o with
  | zero=>simp only [hs n (by simp [names2,names1,names0])]
  | succ o=>rfl
 | g v=>cases v<;>first | rfl|(rename_i p q r;cases p<;>cases q<;>cases r<;>rfl)
 | _=>rfl
theorem swl1_loc(c:AV)(h:∀n∈names1 c,st'.ob n=st.ob n):swl1 st' c=swl1 st c:=by
 cases c with
 | arr m o l =>
  cases o with
  | zero=>unfold swl1;simp only [h m (by simp [names1,names0])]
  | succ o=>rfl
 | _=>rfl
theorem zvl:∀(cs:List AV),(∀n∈cs.flatMap names1,st'.ob n=st.ob n)→swl st' cs=swl st cs
 | [],_=>rfl
 | c :: cs,h=>by
  unfold swl
  rw [swl1_loc c λn hn=>h n (by simp [hn]),zvl cs λn hn=>h n (by simp only [List.flatMap_cons,List.mem_append];exact .inr hn)]
def deepN(st:St)(x:AV):List Nat:=match x with
 | .arr m _ _=>match st.ob m with
  | some (.win _ xs)=>xs.flatMap λy=>y.flatMap names1
  | _=>[]
 | _=>[]
theorem elO_loc(x:AV)(h:∀n∈names2 x,st'.ob n=st.ob n)(hd:∀n∈deepN st x,st'.ob n=st.ob n):elO st' x=elO st x:=by
 cases x with
 | arr m o l =>
  unfold elO
  split
  ·rename_i heq
   cases heq
   rw [h _ (by simp [names2,names1,names0])]
   split
   ·rename_i sx y hob
    rw [zvl y λn hn=>hd n (by simp only [deepN,hob];simpa using hn)]
   ·rfl
  ·rfl
 | _=>rfl
theorem zr9(nm:Nat)(ts:List TypeId)(s x:AV)(hn:st'.ob nm=st.ob nm)(hs:∀n∈names2 s,st'.ob n=st.ob n)(hx:∀n∈names2 x,st'.ob n=st.ob n)(hd:∀n∈deepN st x,st'.ob n=st.ob n):aAppendO P st' nm ts s x=aAppendO P st nm ts s x:=by
 unfold aAppendO
 simp only [elO_loc x hx hd,hn]
 cases s with
 | arr n o l =>
  cases o with
  | zero=>simp only [hs n (by simp [names2,names1,names0])]
  | succ o=>rfl
 | _=>rfl
theorem zvm(t:TypeId)(x v:AV)(hx:∀n∈names2 x,st'.ob n=st.ob n)(hv:∀n∈names2 v,st'.ob n=st.ob n):aStoreO P st' t x v=aStoreO P st t x v:=by
 unfold aStoreO
 split
 ·rename_i T new hT hn
  have h1:∀n∈new.flatMap names1,st'.ob n=st.ob n:=λn hm=>hv n (zf2 hn n hm)
  have h2:∀n i f sz xs,stO P st' T new n i f sz xs=stO P st T new n i f sz xs:=by
   intro n i f sz xs
   unfold stO
   rw [zvl new h1]
  simp only [h2]
  split
  ·rw [hx _ (by simp [names2,names1,names0])]
  ·rfl
 ·rfl
theorem zzw(t:TypeId)(x:AV)(h:∀n∈names2 x,st'.ob n=st.ob n):aLoadO P st' t x=aLoadO P st t x:=by
 unfold aLoadO
 split
 ·rw [h _ (by simp [names2,names1,names0])]
 ·rfl
theorem zms(t:TypeId)(x i:AV)(h:∀n∈names2 x,st'.ob n=st.ob n):aIndexAddrO P st' t x i=aIndexAddrO P st t x i:=by
 unfold aIndexAddrO
 split
 ·split
  ·rw [h _ (by simp [names2,names1,names0])]
  ·rfl
 ·rfl
theorem zvn(t:TypeId)(x:AV)(lo hi:Option AV)(h:∀n∈names2 x,st'.ob n=st.ob n):aSliceC P st' t x lo hi=aSliceC P st t x lo hi:=by
 unfold aSliceC
 split
 ·rw [h _ (by simp [names2,names1,names0])]
 ·rfl
theorem aSrcC_loc(sz:Nat)(x:AV)(h:∀n∈names2 x,st'.ob n=st.ob n):aSrcC st' sz x=aSrcC st sz x:=by
 unfold aSrcC
 rw [zhj sz x h]
 split
 ·rfl
 ·split<;>first | rfl | rw [h _ (by simp [names2,names1,names0])]
theorem aCapC_loc(ts:List TypeId)(x:AV)(h:∀n∈names2 x,st'.ob n=st.ob n):aCapC P st' ts x=aCapC P st ts x:=by
 unfold aCapC
 split
 ·rw [h _ (by simp [names2,names1,names0])]
 ·rfl
theorem aSrcM_loc(sz m:Nat)(x:AV)(h:∀n∈names2 x,st'.ob n=st.ob n):aSrcM st' sz m x=aSrcM st sz m x:=by
 unfold aSrcM
 rw [zhj sz x h]
 split
 ·rfl
 ·split<;>first | rfl | rw [h _ (by simp [names2,names1,names0])]
theorem zzx(ts:List TypeId)(d s:AV)(hd:∀n∈names2 d,st'.ob n=st.ob n)(hs:∀n∈names2 s,st'.ob n=st.ob n):aCopyC P st' ts d s=aCopyC P st ts d s:=by
 unfold aCopyC
 cases d with
 | arr n o l=>simp only [aSrcM_loc _ _ s hs,hd n (by simp [names2,names1,names0])]
 | _=>rfl
theorem aAppC_loc(ts:List TypeId)(s x:AV)(hs:∀n∈names2 s,st'.ob n=st.ob n)(hx:∀n∈names2 x,st'.ob n=st.ob n):aAppC P st' ts s x=aAppC P st ts s x:=by
 unfold aAppC
 simp only [aSrcC_loc _ x hx]
 cases s with
 | arr n o l =>
  cases o with
  | zero=>simp only [hs n (by simp [names2,names1,names0])]
  | succ o=>rfl
 | _=>rfl
theorem aAppZ_loc(nm:Nat)(ts:List TypeId)(s x:AV)(hn:st'.ob nm=st.ob nm)(hs:∀n∈names2 s,st'.ob n=st.ob n):aAppZ P st' nm ts s x=aAppZ P st nm ts s x:=by
 unfold aAppZ
 split
 ·rw [hs _ (by simp [names2,names1,names0]),hn]
 ·rfl
theorem zvo(ts:List TypeId)(x:AV)(h:∀n∈names2 x,st'.ob n=st.ob n):aClearC P st' ts x=aClearC P st ts x:=by
 unfold aClearC
 split
 ·rw [h _ (by simp [names2,names1,names0])]
 ·rfl
def rdX(st:St)(dst:Option Nat)(op:Op):List Nat:=match op with
 | .move _=>[nmC dst]
 | op=>nmC dst :: (op.operands.toList.flatMap λx=>names2 (ev st x))
theorem aopX_loc(dst:Option Nat)(o:Op)(hev:∀x∈o.operands,ev st' x=ev st x)(h:∀n∈rdX st dst o,st'.ob n=st.ob n):aopX P st' (nmC dst) o=aopX P st (nmC dst) o:=by
 by_cases hmv:∃x,o=.move x
 ·obtain ⟨x,rfl⟩:=hmv
  show some (True,ev st' x,[])=some (True,ev st x,[])
  rw [hev x (by simp [Op.operands])]
 have hn:st'.ob (nmC dst)=st.ob (nmC dst):=h _ (by unfold rdX;split<;>simp)
 have ho:∀x∈o.operands,∀n∈names2 (ev st x),st'.ob n=st.ob n:=λx hx n hm=>h n (by
  unfold rdX
  split
  ·exact absurd ⟨_,rfl⟩ hmv
  ·exact List.mem_cons_of_mem _ (List.mem_flatMap.2 ⟨x,by simpa using hx,hm⟩))
 have key:aop P st' (nmC dst) o=aop P { st' with ob:=st.ob } (nmC dst) o:=by
  have pairs:∀ps:Array (Nat × Operand),(∀x∈ps.map (·.2),ev st' x=ev st x∧∀n∈names2 (ev st x),st'.ob n=st.ob n)→∀p∈parts st' ps.toList,∀n∈names2 p.2,st'.ob n=st.ob n:=by
   intro ps hp p hm n hn
   unfold parts at hm
   obtain ⟨q,hq,rfl⟩:=List.mem_map.1 hm
   obtain ⟨h1,h2⟩:=hp q.2 (Array.mem_map.2 ⟨q,by simpa using hq,rfl⟩)
   exact h2 n (by simpa only [h1] using hn)
  have eve:∀x,ev { st' with ob:=st.ob } x=ev st' x:=λx=>by cases x<;>rfl
  have pe:∀l,parts { st' with ob:=st.ob } l=parts st' l:=λl=>by unfold parts;simp only [eve]
  cases o with
  | build t ps=>simp only [aop,pe]
  | buildSlice t n ps =>
   simp only [aop,pe]
   exact zmr (st:={ st' with ob:=st.ob }) _ _ _ _ hn (pairs ps λx hx=>⟨hev x (by simpa [Op.operands] using hx),ho x (by simpa [Op.operands] using hx)⟩)
  | makeFunc fn first captured =>
   have e2:∀l:List Operand,l.map (ev { st' with ob:=st.ob })=l.map (ev st'):=λl=>List.map_congr_left λx _=>eve x
   cases fn<;>simp only [aop,e2]
  | slice t x lo hi mx =>
   cases mx with
   | some m=>rfl
   | none =>
    have e2:∀l:Option Operand,l.map (ev { st' with ob:=st.ob })=l.map (ev st'):=λl=>by cases l<;>simp [eve]
    simp only [aop,eve,e2]
    exact zzu (st:={ st' with ob:=st.ob }) _ _ _ _ λn hm=>ho x (by simp [Op.operands]) n (by rwa [hev x (by simp [Op.operands])] at hm)
  | load t x =>
   simp only [aop,eve]
   exact aLoad_loc (st:={ st' with ob:=st.ob }) _ _ λn hm=>ho x (by simp [Op.operands]) n (by rwa [hev x (by simp [Op.operands])] at hm)
  | store t x v =>
   simp only [aop,eve]
   exact zzt (st:={ st' with ob:=st.ob }) _ _ _ (λn hm=>ho x (by simp [Op.operands]) n (by rwa [hev x (by simp [Op.operands])] at hm)) (λn hm=>ho v (by simp [Op.operands]) n (by rwa [hev v (by simp [Op.operands])] at hm))
  | indexAddr t x i =>
   simp only [aop,eve]
   exact znh (st:={ st' with ob:=st.ob }) _ _ _ λn hm=>ho x (by simp [Op.operands]) n (by rwa [hev x (by simp [Op.operands])] at hm)
  | convert a b x =>
   simp only [aop,eve]
   exact aConv_loc (st:={ st' with ob:=st.ob }) _ _ _ λn hm=>ho x (by simp [Op.operands]) n (by rwa [hev x (by simp [Op.operands])] at hm)
  | makeSlice t l c =>
   simp only [aop,eve]
   exact zni (st:={ st' with ob:=st.ob }) _ _ _ _ hn
  | alloc t=>simp only [aop,hn]
  | box t x=>simp only [aop,eve,hn]
  | _=>simp only [aop,eve]
 have key2:aop P { st' with ob:=st.ob } (nmC dst) o=aop P st (nmC dst) o:=aop_env (st:=st) (st':={ st' with ob:=st.ob }) rfl _ _ λx hx=>by
  rw [←hev x hx];cases x<;>rfl
 have hk:=key.trans key2
 cases o with
 | store t x v =>
  have e1:=hev x (by simp [Op.operands])
  have e2:=hev v (by simp [Op.operands])
  simp only [aop] at hk
  simp only [aopX]
  rw [hk,e1,e2,zvj (st:=st) (st':=st') t _ _ (ho x (by simp [Op.operands])),zvm (st:=st) (st':=st') t _ _ (ho x (by simp [Op.operands])) (ho v (by simp [Op.operands]))]
 | load t x =>
  have e1:=hev x (by simp [Op.operands])
  simp only [aop] at hk
  simp only [aopX]
  rw [hk,e1,zzw (st:=st) (st':=st') t _ (ho x (by simp [Op.operands]))]
 | indexAddr t x i =>
  have e1:=hev x (by simp [Op.operands])
  have e2:=hev i (by simp [Op.operands])
  simp only [aop] at hk
  simp only [aopX]
  rw [hk,e1,e2,zms (st:=st) (st':=st') t _ _ (ho x (by simp [Op.operands]))]
 | buildSlice t n ps =>
  have e1:parts st' ps.toList=parts st ps.toList:=zrk _ λp hm=>hev p.2 (by
   have:p.2∈ps.map (·.2):=Array.mem_map.2 ⟨p,by simpa using hm,rfl⟩
   simpa [Op.operands] using this)
  simp only [aop] at hk
  simp only [aopX]
  rw [hk,e1,zk0 (st:=st) (st':=st') _ _ _ _ hn]
 | slice t x lo hi mx =>
  have e1:=hev x (by simp [Op.operands])
  have eO:∀y:Option Operand,(∀z∈y.toList,ev st' z=ev st z)→y.map (ev st')=y.map (ev st):=λy hy=>by cases y<;>first | rfl | exact congrArg some (hy _ rfl) | exact congrArg some (hy _ (by simp))
  have elo:=eO lo (λz hz=>hev z (by cases lo<;>cases hi<;>cases mx<;>simp_all [Op.operands]))
  cases mx with
  | none =>
   have ehi:=eO hi (λz hz=>hev z (by cases lo<;>cases hi<;>simp_all [Op.operands]))
   simp only [aop] at hk
   simp only [aopX]
   rw [hk,e1,elo,ehi,zvn (st:=st) (st':=st') t _ _ _ (ho x (by simp [Op.operands]))]
  | some m =>
   cases hi with
   | none=>exact hk
   | some hi =>
    have e2:=hev hi (by simp [Op.operands])
    have e3:=hev m (by simp [Op.operands])
    simp only [aopX]
    rw [e1,elo,e2,e3]
    rfl
 | _=>exact hk
theorem zp2(nm:Nat)(b:Builtin)(ts:List TypeId)(args:List AV)(hn:st'.ob nm=st.ob nm)(h:∀x∈args,∀n∈names2 x,st'.ob n=st.ob n)(hd:∀x∈args,∀n∈deepN st x,st'.ob n=st.ob n):aBuiltinX P st' nm b ts args=aBuiltinX P st nm b ts args:=by
 have key:∀s x,args=[s,x]→aAppend P st' nm ts s x=aAppend P st nm ts s x∧aAppendW P st' nm ts s x=aAppendW P st nm ts s x∧aAppendO P st' nm ts s x=aAppendO P st nm ts s x∧aAppC P st' ts s x=aAppC P st ts s x∧aAppZ P st' nm ts s x=aAppZ P st nm ts s x∧aAppendV P st' nm ts s x=aAppendV P st nm ts s x:=by
  rintro s x rfl
  exact ⟨zvk nm ts s x hn (h s (by simp)) (h x (by simp)),zr7 nm ts s x hn (h s (by simp)) (h x (by simp)),zr9 nm ts s x hn (h s (by simp)) (h x (by simp)) (hd x (by simp)),aAppC_loc ts s x (h s (by simp)) (h x (by simp)),aAppZ_loc nm ts s x hn (h s (by simp)),zr8 nm ts s x hn (h s (by simp)) (h x (by simp))⟩
 unfold aBuiltinX
 split
 ·obtain ⟨h1,h2,h3,h4,h5,h6⟩:=key _ _ rfl
  rw [h1,h2,h3,h4,h5,h6]
 ·exact zzx ts _ _ (h _ (by simp)) (h _ (by simp))
 ·exact aCapC_loc ts _ (h _ (by simp))
 ·exact zvo ts _ (h _ (by simp))
 ·unfold aBuiltin
  split
  ·rfl
  ·exact (key _ _ rfl).1
  ·rfl
  ·rfl
  ·rfl
end loc
abbrev ES:=List (List Nat × List Nat)
def inR(rl:List Nat)(n:Nat):Prop:=n∈rl∨999999∈rl
def apartE(x y:List Nat × List Nat):Bool:=(x.2.isEmpty || !y.1.contains 999999)&&(y.2.isEmpty || !x.1.contains 999999)&&(x.2.all (λn=>!y.1.contains n && !y.2.contains n)&&y.2.all (λn=>!x.1.contains n))
def esOk(l:List Oper)(es:ES):Bool:=(List.range es.length).all λi=>(List.range i).all λj=>bef l i j || apartE (es.getD j ([],[])) (es.getD i ([],[]))
def RobC(P:Program)(st:St)(nm:Nat)(f:FuncId)(actual:List AV)(v:AV)(u:Ups)(rl:List Nat):Prop:=∀st':St,(∀n,inR rl n→st'.ob n=st.ob n)→GStep P st' f actual v u∨XStep P st' nm f actual v u∨DStep P st' f actual v u
def rdB(st:St)(dst:Option Nat)(c:Call):List Nat:=rdX st dst (.call c)++(c.args.toList.map (ev st)).flatMap (deepN st)
def dreg(P:Program):List CO→St→ES→(St→ES→Prop)→Prop
 | [],st,es,K=>K st es
 | c :: rest,st,es,K =>
  let R:St→List Nat→ARes→Prop:=λst rl r=>match r with
   | some (p,v,u)=>p∧dreg P rest (putC st c.dst v u) (es++[(rl,u.map (·.1))]) K
   | none=>False
  let O:St→Prop:=λst=>match c.op with
   | .call cl=>match cl.callee with
    | .builtin b=>R st (rdB st c.dst cl) (aBuiltinX P st (nmC c.dst) b cl.argTypes.toList (cl.args.toList.map (ev st)))
    | .value f=>match ev st f with
     | .fn fid fst cap=>∃v u rl,RobC P st (nmC c.dst) fid (fst++cl.args.toList.map (ev st)++cap) v u rl∧dreg P rest (putC st c.dst v u) (es++[(rl,u.map (·.1))]) K
     | _=>False
    | .invoke _ _=>False
   | op=>R st (rdX st c.dst op) (aopX P st (nmC c.dst) op)
  match c.gd with
  | none=>O st
  | some (d,want)=>match st.env d with
   | .g (.bool b)=>spl b want (O { st with env:=upd st.env d (.g (.bool want)) }) (dreg P rest (putC { st with env:=upd st.env d (.g (.bool (!want))) } c.dst (.g undef) []) (es++[([],[])]) K)
   | .g (.tuple vs)=>vs.size=0∧dreg P rest (putC st c.dst (.g undef) []) (es++[([],[])]) K
   | _=>False
def dR(P:Program)(rest:List CO)(K:St→ES→Prop)(st:St)(es:ES)(dst:Option Nat)(rl:List Nat)(r:ARes):Prop:=match r with
 | some (p,v,u)=>p∧dreg P rest (putC st dst v u) (es++[(rl,u.map (·.1))]) K
 | none=>False
def DKd(P:Program)(rest:List CO)(K:St→ES→Prop)(st:St)(es:ES)(dst:Option Nat)(f:FuncId)(actual:List AV):Prop :=
 ∃v u rl,RobC P st (nmC dst) f actual v u rl∧dreg P rest (putC st dst v u) (es++[(rl,u.map (·.1))]) K
def dO(P:Program)(rest:List CO)(K:St→ES→Prop)(st:St)(es:ES)(dst:Option Nat)(op:Op):Prop:=match op with
 | .call cl=>match cl.callee with
  | .builtin b=>dR P rest K st es dst (rdB st dst cl) (aBuiltinX P st (nmC dst) b cl.argTypes.toList (cl.args.toList.map (ev st)))
  | .value f=>match ev st f with
   | .fn fid fst cap=>DKd P rest K st es dst fid (fst++cl.args.toList.map (ev st)++cap)
   | _=>False
  | .invoke _ _=>False
 | op=>dR P rest K st es dst (rdX st dst op) (aopX P st (nmC dst) op)
def dG(P:Program)(rest:List CO)(K:St→ES→Prop)(st:St)(es:ES)(dst:Option Nat)(op:Op)(d:Nat)(want:Bool)(x:AV):Prop:=match x with
 | .g (.bool b)=>spl b want (dO P rest K { st with env:=upd st.env d (.g (.bool want)) } es dst op) (dreg P rest (putC { st with env:=upd st.env d (.g (.bool (!want))) } dst (.g undef) []) (es++[([],[])]) K)
 | .g (.tuple vs)=>vs.size=0∧dreg P rest (putC st dst (.g undef) []) (es++[([],[])]) K
 | _=>False
theorem dreg_nil(st:St)(es:ES)(K:St→ES→Prop):dreg P [] st es K=K st es:=(rfl)
theorem dreg_op(dst:Option Nat)(op:Op)(rest:List CO)(st:St)(es:ES)(K:St→ES→Prop):dreg P (⟨dst,op,none⟩ :: rest) st es K=dO P rest K st es dst op:=by
 cases op<;>rfl
theorem dreg_gd(dst:Option Nat)(op:Op)(d:Nat)(want:Bool)(rest:List CO)(st:St)(es:ES)(K:St→ES→Prop):dreg P (⟨dst,op,some (d,want)⟩ :: rest) st es K=dG P rest K st es dst op d want (st.env d):=by
 cases op<;>rfl
theorem dG_bool(rest:List CO)(K:St→ES→Prop)(st:St)(es:ES)(dst:Option Nat)(op:Op)(d:Nat)(want b:Bool):dG P rest K st es dst op d want (.g (.bool b))=spl b want (dO P rest K { st with env:=upd st.env d (.g (.bool want)) } es dst op) (dreg P rest (putC { st with env:=upd st.env d (.g (.bool (!want))) } dst (.g undef) []) (es++[([],[])]) K):=(rfl)
theorem dG_undef(rest:List CO)(K:St→ES→Prop)(st:St)(es:ES)(dst:Option Nat)(op:Op)(d:Nat)(want:Bool):dG P rest K st es dst op d want (.g undef)=dreg P rest (putC st dst (.g undef) []) (es++[([],[])]) K:=by
 show ((#[]:Array Value).size=0∧_)=_
 simp
def EnOk(e:En)(p:List Nat × List Nat):Prop:=(e.R=λn=>inR p.1 n)∧(e.T=λ_=>False)∧e.u.map (·.1)=p.2
theorem dO_step{ops:Array Oper}{st:St}{es:ES}{o:Oper}{rest:List CO}{K:St→ES→Prop}(h:dO P rest K st es o.dst o.op) :
 ∃v u rl,(∀st',Agr ops o (λn=>inR rl n) (λ_=>False) st' st→AStepX P st' o v u)∧dreg P rest (putC st o.dst v u) (es++[(rl,u.map (·.1))]) K:=by
 have hev:∀(st':St) (rl:List Nat),Agr ops o (λn=>inR rl n) (λ_=>False) st' st→∀x∈o.op.operands,ev st' x=ev st x:=by
  intro st' rl ha x hx
  cases x with
  | tmp t=>exact ha.1 t (zn0 hx)
  | _=>rfl
 have fin:∀r:ARes,∀rl,dR P rest K st es o.dst rl r→(∀c v u,r=some (c,v,u)→c→∀st',Agr ops o (λn=>inR rl n) (λ_=>False) st' st→AStepX P st' o v u) →
  ∃v u rl,(∀st',Agr ops o (λn=>inR rl n) (λ_=>False) st' st→AStepX P st' o v u)∧dreg P rest (putC st o.dst v u) (es++[(rl,u.map (·.1))]) K:=by
  intro r rl h hg
  match r,h with
  | some (p,v,u),h=>exact ⟨v,u,rl,hg p v u rfl h.1,h.2⟩
 obtain ⟨dst,op,ty,pos,aft,gd⟩:=o
 unfold dO at h
 cases op with
 | call c =>
  obtain ⟨callee,args,argTypes⟩:=c
  simp only at h
  cases callee with
  | invoke _ _=>exact h.elim
  | builtin b =>
   refine fin _ _ h λc v u h1 h2 st' ha=>?_
   have he:=hev st' _ ha
   have hargs:args.toList.map (ev st')=args.toList.map (ev st):=List.map_congr_left λx hx=>he x (by
    have:x∈args:=by simpa using hx
    simp [Op.operands,Call.operands,this])
   refine ⟨c,.inr ?_,h2⟩
   simp only [hargs]
   rw [←h1]
   refine zp2 (st:=st) (st':=st') _ _ _ _ (ha.2.1 _ (.inl (by unfold rdB rdX;exact List.mem_append.2 (.inl List.mem_cons_self)))) ?_ (λx hx n hn=>ha.2.1 n (.inl (by unfold rdB;exact List.mem_append.2 (.inr (List.mem_flatMap.2 ⟨x,hx,hn⟩)))))
   intro x hx n hn
   obtain ⟨y,hy,rfl⟩:=List.mem_map.1 hx
   refine ha.2.1 n (.inl ?_)
   unfold rdB rdX
   refine List.mem_append.2 (.inl ?_)
   refine List.mem_cons_of_mem _ (List.mem_flatMap.2 ⟨y,?_,hn⟩)
   have:y∈args:=by simpa using hy
   simp [Op.operands,Call.operands,this]
  | value f =>
   simp only at h
   split at h
   ·rename_i fid fst cap hfe
    obtain ⟨v,u,rl,h1,h2⟩:=h
    refine ⟨v,u,rl,λst' ha=>?_,h2⟩
    have he:=hev st' _ ha
    have hargs:args.toList.map (ev st')=args.toList.map (ev st):=List.map_congr_left λx hx=>he x (by
     have:x∈args:=by simpa using hx
     simp [Op.operands,Call.operands,this])
    have hf:ev st' f=ev st f:=he f (by simp [Op.operands,Call.operands])
    unfold AStepX
    simp only [hf,hfe,hargs]
    rcases h1 st' ha.2.1 with h | h | h
    ·exact .inl h
    ·exact .inr (.inl h)
    ·exact .inr (.inr (.inr h))
   ·exact h.elim
 | _ =>
  refine fin _ _ h λc v u h1 h2 st' ha=>?_
  refine ⟨c,.inr ?_,h2⟩
  rw [←h1]
  exact aopX_loc (st:=st) (st':=st') dst _ (hev st' _ ha) λn hn=>ha.2.1 n (.inl hn)
theorem zwv{ops:Array Oper}{K:St→ES→Prop}:∀(l:List Oper) (cs:List CO) (st:St) (es:ES) (i:Nat),cosOf ops l=some cs→dreg P cs st es K →
 ∃(z:Lz) (fs:ES),z.map (·.1)=l∧Run P ops z st∧z.length=fs.length∧(∀(j:Nat) x p,z[j]? = some x→fs[j]? = some p→EnOk x.2 p)∧K (stF z (λ_=>true) i st) (es++fs)
 | [],cs,st,es,i,hc,h=>by cases hc;exact ⟨[],[],rfl,trivial,rfl,by simp,by rw [List.append_nil];exact h⟩
 | o :: rest,cs,st,es,i,hc,h=>by
  unfold cosOf at hc
  split at hc
  ·rename_i c cs' h1 h2
   cases hc
   unfold coOf at h1
   have done:∀(e:En) (p:List Nat × List Nat),EnOk e p→RunOp P ops st o e→dreg P cs' (st.put o e.v e.u) (es++[p]) K →
    ∃(z:Lz) (fs:ES),z.map (·.1)=o :: rest∧Run P ops z st∧z.length=fs.length∧(∀(j:Nat) x p,z[j]? = some x→fs[j]? = some p→EnOk x.2 p)∧K (stF z (λ_=>true) i st) (es++fs):=by
    intro e p hep hr h
    obtain ⟨z,fs,g1,g2,g3,g4,g5⟩:=zwv rest cs' _ (es++[p]) (i+1) h2 h
    refine ⟨(o,e) :: z,p :: fs,by simp [g1],⟨hr,g2⟩,by simp [g3],?_,?_⟩
    ·intro j x q hx hq
     cases j with
     | zero=>simp at hx hq;subst hx;subst hq;exact hep
     | succ j=>exact g4 j x q (by simpa using hx) (by simpa using hq)
    ·unfold stF;rw [if_pos rfl];simpa using g5
   split at h1
   ·rename_i hg
    cases h1
    rw [dreg_op] at h
    obtain ⟨v,u,rl,g1,g2⟩:=dO_step (ops:=ops) h
    exact done ⟨true,v,u,λn=>inR rl n,λ_=>False⟩ (rl,u.map Prod.fst) ⟨rfl,rfl,rfl⟩ ⟨by unfold wantOk;rw [hg],λ_ st' ha=>g1 st' ha,by simp⟩ g2
   ·rename_i j want hg
    split at h1
    ·rename_i d hj
     cases h1
     rw [dreg_gd] at h
     unfold dG at h
     split at h
     ·rename_i b hb
      by_cases hbw:b=want
      ·subst hbw
       have h:=h.1 rfl
       rw [St.same_env hb] at h
       obtain ⟨v,u,rl,g1,g2⟩:=dO_step (ops:=ops) h
       exact done ⟨true,v,u,λn=>inR rl n,λ_=>False⟩ (rl,u.map Prod.fst) ⟨rfl,rfl,rfl⟩ ⟨by unfold wantOk;rw [hg];exact ⟨d,hj,.inl ⟨b,hb,by simp⟩⟩,λ_ st' ha=>g1 st' ha,by simp⟩ g2
      ·have hbn:b = !want:=by cases b<;>cases want<;>simp_all
       subst hbn
       have h:=h.2 rfl
       rw [St.same_env hb] at h
       exact done ⟨false,.g undef,[],λn=>inR [] n,λ_=>False⟩ ([],[]) ⟨rfl,rfl,rfl⟩ ⟨by unfold wantOk;rw [hg];exact ⟨d,hj,.inl ⟨!want,hb,by cases want<;>rfl⟩⟩,by simp,λ_=>⟨rfl,rfl⟩⟩ h
     ·rename_i vs hb
      exact done ⟨false,.g undef,[],λn=>inR [] n,λ_=>False⟩ ([],[]) ⟨rfl,rfl,rfl⟩ ⟨by unfold wantOk;rw [hg];exact ⟨d,hj,.inr ⟨vs,hb,rfl⟩⟩,by simp,λ_=>⟨rfl,rfl⟩⟩ h.2
     ·exact h.elim
    ·cases h1
  ·cases hc
theorem esOk_spec{l:List Oper}{es:ES}(h:esOk l es=true):∀(j i:Nat) p q,j<i→es[j]? = some p→es[i]? = some q→bef l i j=true∨apartE p q=true:=by
 intro j i p q hji hp hq
 have hi:=(List.getElem?_eq_some_iff.1 hq).1
 have h1:=List.all_eq_true.1 h i (List.mem_range.2 hi)
 have h2:=List.all_eq_true.1 h1 j (List.mem_range.2 hji)
 rw [Bool.or_eq_true] at h2
 refine h2.imp id λh2=>?_
 simpa [List.getD,hp,hq] using h2
theorem apart_of{x y:En}{p q:List Nat × List Nat}(hx:EnOk x p)(hy:EnOk y q)(h:apartE p q=true):obApart x y:=by
 obtain ⟨x1,-,x3⟩:=hx
 obtain ⟨y1,-,y3⟩:=hy
 have un:∀(u:Ups) n,unm u n↔n∈u.map (·.1):=by
  intro u n
  constructor
  ·rintro ⟨o,ho⟩;exact List.mem_map.2 ⟨_,ho,rfl⟩
  ·intro h;obtain ⟨⟨m,o⟩,ho,rfl⟩:=List.mem_map.1 h;exact ⟨o,ho⟩
 unfold apartE at h
 simp only [Bool.and_eq_true] at h
 intro n
 rw [un,un,x1,y1,x3,y3]
 obtain ⟨⟨h1,h2⟩,h⟩:=h
 constructor
 ·intro hn
  have:=List.all_eq_true.1 h.1 n hn
  have hne:p.2.isEmpty=false:=by cases hp:p.2<;>simp_all
  rw [hne] at h1
  simp only [Bool.false_or,Bool.not_eq_true',List.contains_eq_mem,decide_eq_false_iff_not] at h1
  simp only [Bool.and_eq_true,Bool.not_eq_true',List.contains_eq_mem,decide_eq_false_iff_not] at this
  exact ⟨λhh=>hh.elim this.1 h1,this.2⟩
 ·intro hn
  have:=List.all_eq_true.1 h.2 n hn
  have hne:q.2.isEmpty=false:=by cases hq:q.2<;>simp_all
  rw [hne] at h2
  simp only [Bool.false_or,Bool.not_eq_true',List.contains_eq_mem,decide_eq_false_iff_not] at h2
  simp only [Bool.not_eq_true',List.contains_eq_mem,decide_eq_false_iff_not] at this
  exact λhh=>hh.elim this h2
section
variable {nt:Nat}{fs:List Nat}{Q:AExit→St→Prop}{st:St}
theorem zje{id:Nat}{l:List Oper}{cs:List CO}(hc:cosOf l.toArray l=some cs)(hm:P.follows .mixedOrders=true)(ho:ordOk l=true)(hd:dstOk nt l.toArray=true)
 (h:∀K:St→ES→Prop,(∀s es,esOk l es=true→Q .normal s→K s es)→dreg P cs st [] K):AW P nt fs (.region id l.toArray true) Q st:=by
 intro C a w hn hf hC
 subst hn
 obtain ⟨z,es,h1,h2,h3,h4,h5,h6⟩:=zwv l cs st [] 0 hc (h (λs es=>esOk l es=true∧Q .normal s) λs es g1 g2=>⟨g1,g2⟩)
 simp only [List.nil_append] at h5
 refine zn1 hm h1 ho h2 ?_ ?_ (by simpa using zf8 hd) (λa w hc=>⟨_,h6,hc⟩) hC
 ·intro j i x y hji hx hy
  have hjl:j<es.length:=by rw [←h3];exact (List.getElem?_eq_some_iff.1 hx).1
  have hil:i<es.length:=by rw [←h3];exact (List.getElem?_eq_some_iff.1 hy).1
  rcases esOk_spec h5 j i _ _ hji (List.getElem?_eq_getElem hjl) (List.getElem?_eq_getElem hil) with h | h
  ·exact .inl h
  ·exact .inr (apart_of (h4 j x _ hx (List.getElem?_eq_getElem hjl)) (h4 i y _ hy (List.getElem?_eq_getElem hil)) h)
 ·intro x hx n _ hT
  obtain ⟨j,hj⟩:=List.getElem?_of_mem hx
  have hjl:j<es.length:=by rw [←h3];exact (List.getElem?_eq_some_iff.1 hj).1
  have:=(h4 j x _ hj (List.getElem?_eq_getElem hjl)).2.1
  rw [this] at hT
  exact hT.elim
theorem AW_d{id:Nat}{l:List Oper}{cs:List CO}{y:Code}(hc:cosOf l.toArray l=some cs)(hm:P.follows .mixedOrders=true)(ho:ordOk l=true)(hd:dstOk nt l.toArray=true)
 (h:∀K:St→ES→Prop,(∀s es,esOk l es=true→AW P nt fs y Q s→K s es)→dreg P cs st [] K):AW P nt fs (.seq (.region id l.toArray true) y) Q st :=
 zbe (zje hc hm ho hd h)
end
section
variable {rest:List CO}{K:St→ES→Prop}{st:St}{es:ES}{dst:Option Nat}{f:FuncId}{l l':List AV}{r:AV}
theorem zjf(ha:∀st':St,am2s st' (nuOf [] []) l l')(hp:PCall P f l' r)(hs:arrN2 l=[])(hk:dreg P rest (putC st dst r []) (es++[([],[])]) K):DKd P rest K st es dst f l:=by
 refine ⟨r,[],[],λst' _=>.inl ⟨[],[],l',[],[],[],hp,rfl,rfl,rfl,by simp,by simp,ha st',rfl,rfl,?_⟩,hk⟩
 rw [hs]
 cases scal r<;>rfl
theorem DKd_x(hs:List Nat)(q:Bool)(Z:List (Nat × Nat))(rl:List Nat){args:List AV}{wos wos' fos:List OB}(hX:XCall P f args wos r wos' fos)
 (hz:(Z.map (·.1)).Nodup∧(hs++(List.range fos.length).map (nmC dst + ·)).Nodup∧rkT q r=true∧(wos'++fos).all (rkO q)=true)
 (h:∀st':St,(∀n∈rl,st'.ob n=st.ob n)→(∀z∈Z,st'.ob z.1=none)∧(∀k∈List.range fos.length,(addZ st' Z).ob (nmC dst+k)=none)∧ax2s q (addZ st' Z) hs (Z.map (·.1)) l args∧axOs q (addZ st' Z) hs (Z.map (·.1)) hs wos)
 (hk:dreg P rest (putC st dst (rnT (rhoX hs (nmC dst)) r) (zU Z++upsX hs (nmC dst) wos' fos)) (es++[(rl,(zU Z++upsX hs (nmC dst) wos' fos).map (·.1))]) K):DKd P rest K st es dst f l:=by
 refine ⟨_,_,rl,λst' hO=>.inr (.inl ⟨args,wos,r,wos',fos,hs,q,Z,hX,hz.1,?_,hz.2.1,?_,?_,?_,hz.2.2.1,hz.2.2.2,rfl,rfl⟩),hk⟩
 ·exact (h st' λn hn=>hO n (.inl hn)).1
 ·exact (h st' λn hn=>hO n (.inl hn)).2.2.1
 ·exact (h st' λn hn=>hO n (.inl hn)).2.2.2
 ·exact λk hk=>(h st' λn hn=>hO n (.inl hn)).2.1 k (List.mem_range.2 hk)
theorem DKd_p(hp:PCall P f l' r)(hr:rkT true r=true)(ha:∀st':St,(∀n∈l.flatMap names2,st'.ob n=st.ob n)→ax2s true st' [] [] l l')(hk:dreg P rest (putC st dst (rnT (rhoX [] (nmC dst)) r) []) (es++[(l.flatMap names2,[])]) K):DKd P rest K st es dst f l:=by
 refine DKd_x [] true [] (l.flatMap names2) (zhr hp) ⟨by simp,by simp,hr,rfl⟩ (λst' h=>⟨by simp,by simp,ha st' h,by simp [axOs]⟩) ?_
 exact hk
theorem DKd_y(hs:List Nat)(q:Bool)(Z:List (Nat × Nat)){args:List AV}{wos wos' fos:List OB}(hX:XCall P f args wos r wos' fos)
 (hz:(Z.map (·.1)).Nodup∧(hs++(List.range fos.length).map (nmC dst + ·)).Nodup∧rkT q r=true∧(wos'++fos).all (rkO q)=true)
 (h:∀st':St,(∀n∈hs++(l.flatMap names2++((List.range fos.length).map (nmC dst + ·)++Z.map (·.1))),st'.ob n=st.ob n)→(∀z∈Z,st'.ob z.1=none)∧(∀k∈List.range fos.length,(addZ st' Z).ob (nmC dst+k)=none)∧ax2s q (addZ st' Z) hs (Z.map (·.1)) l args∧axOs q (addZ st' Z) hs (Z.map (·.1)) hs wos)
 (hk:dreg P rest (putC st dst (rnT (rhoX hs (nmC dst)) r) (zU Z++upsX hs (nmC dst) wos' fos)) (es++[(hs++(l.flatMap names2++((List.range fos.length).map (nmC dst + ·)++Z.map (·.1))),(zU Z++upsX hs (nmC dst) wos' fos).map (·.1))]) K):DKd P rest K st es dst f l :=
 DKd_x hs q Z _ hX hz h hk
end
attribute [simp] dreg_nil dreg_op dreg_gd dO dR dG_bool dG_undef rdX rdB deepN names2 names1 names0 Op.operands Call.operands
end Go.Proofs.YtodmafgmdlkhoaaDoor.Vs
end
section
namespace Go.Proofs.YtodmafgmdlkhoaaDoor.Vs
set_option linter.all false
theorem Rcs_set{w:World}{I:Nat→Prop}{β:Beta}{b:Nat}{c0 c':AV}(h:∀v,Rv1 w I β c0 v→Rv1 w I β c' v):∀(cs:List AV) (o j:Nat),cs[j]? = some c0→Rcs w I β b o cs→Rcs w I β b o (cs.set j c')
 | [],o,j,hj,_=>by simp at hj
 | c :: cs,o,0,hj,hr=>by
  obtain ⟨⟨v,h1,h2⟩,h3⟩:=hr
  simp at hj;subst hj
  exact ⟨⟨v,h1,h v h2⟩,h3⟩
 | c :: cs,o,j+1,hj,hr=>by
  obtain ⟨h1,h3⟩:=hr
  exact ⟨h1,Rcs_set h cs (o+1) j (by simpa using hj) h3⟩
theorem Conc.obx{C:Cx}{st:St}{a:Act}{w:World}{I:Nat→Prop}{β:Beta}{φ:Nat→List Nat}(hC:Conc C st a w I β φ){n:Nat}{cs cs':List AV}(hn:st.ob n=some (.cells cs))(hl:cs'.length=cs.length)
 (h:∀b o,Rcs w I β b o cs→Rcs w I β b o cs'):Conc C { st with ob:=upd st.ob n (some (.cells cs')) } a w I β φ:=by
 have hdom:∀m,upd st.ob n (some (OB.cells cs')) m=none→st.ob m=none:=by
  intro m ho
  by_cases h1:m=n
  ·subst h1;simp [zbd] at ho
  ·rwa [zbb _ _ h1] at ho
 refine hC.move (λ_=>False) (Evo.refl _ w) (λ_ hf=>hf.elim) (λ_ hb=>hb) (λ_ hb=>.inl hb) (λ_ _ hb=>hb) ?_ (λm ho=>hC.dom m (hdom m ho)) (λm ho=>hC.fdom m (hdom m ho)) hC.sep hC.nimm hC.flt ?_ ?_
 ·intro m o ho
  by_cases h1:m=n
  ·subst h1
   simp only [zbd,Option.some.injEq] at ho
   subst ho
   obtain ⟨bl,g1,g2,⟨arr,ty,g3,g4⟩,g5⟩:=hC.ob _ _ hn
   exact .inr ⟨bl,g1,g2,⟨arr,ty,g3,by rw [hl];exact g4⟩,h _ _ g5⟩
  ·rw [zbb _ _ h1] at ho
   exact .inl ⟨ho,rfl,λ_ _ hf=>hf⟩
 ·intro m o ho hwr b hb
  by_cases h1:m=n
  ·subst h1;exact hC.wok m _ hn rfl b hb
  ·rw [zbb _ _ h1] at ho;exact hC.wok m o ho hwr b hb
 ·intro m s ys ho b hb
  by_cases h1:m=n
  ·subst h1;simp [zbd] at ho
  ·rw [zbb _ _ h1] at ho;exact hC.fnew m s ys ho b hb
theorem LeS.znc{fs:List Nat}{s:St}(nm sz n j:Nat){cs:List AV}(hz:s.ob nm=none)(hn:s.ob n=some (.cells cs))(hj:cs[j]? = some (.g (.slice none 0 0))) :
 LeS fs s { s with ob:=upd (upd s.ob nm (some (.own sz []))) n (some (.cells (cs.set j (.arr nm 0 0)))) }:=by
 rintro C a w hf ⟨I,β,φ,hC⟩
 have h1:=hC.newEmptyO (sz:=sz) hz
 have hne:n≠nm:=by rintro rfl;rw [hn] at hz;cases hz
 have hrv:∀v,Rv1 w I (upd β nm (some ⟨0,0,sz,0⟩)) (.g (.slice none 0 0)) v→Rv1 w I (upd β nm (some ⟨0,0,sz,0⟩)) (.arr nm 0 0) v:=λv hv=>⟨_,zbd _ _ _,Nat.le_refl _,.inr ⟨rfl,none,hv⟩⟩
 exact ⟨_,_,_,h1.obx (n:=n) (cs:=cs) (cs':=cs.set j (.arr nm 0 0)) (by show upd s.ob nm _ n=_;rw [zbb _ _ hne];exact hn) (by simp)
  λb o hr=>Rcs_set hrv cs o j hj hr⟩
end Go.Proofs.YtodmafgmdlkhoaaDoor.Vs
end
