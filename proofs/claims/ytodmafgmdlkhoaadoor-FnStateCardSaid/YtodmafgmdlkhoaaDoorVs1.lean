import Derived.Orders
import Derived.Below
import Derived.WalkKit
import Derived.ProofKit
import Derived.Great.BuildSlice
section
namespace Go.Proofs.YtodmafgmdlkhoaaDoor.Vs
set_option linter.all false
inductive AV where
 | g (v:Value)
 | s (l:List UInt8)
 | agg (cs:List AV)
 | sl (sz:Nat) (xs:List (List AV))
 | ot (sz:Nat) (xs:List (List AV))
 | arr (n off len:Nat)
 | ptr (n off:Nat)
 | eptr (n i f:Nat)
 | ip (cs:List AV)
 | fn (f:FuncId) (fst cap:List AV)
 | tup (vs:List AV)
 | undef
mutual
def RI(w:World)(I:Nat→Prop):AV→Value→Prop
 | .g v,x=>x=v∧v.oneCell'=true
 | .s l,x=>x=.string ⟨l.toArray⟩
 | .sl sz xs,x=>∃a cap,x=.slice a xs.length cap∧xs.length≤cap∧(xs=[]∨∃b o,a=some ⟨b,o,none⟩∧I b∧RIe w I b sz o xs)
 | _,_=>False
def RIe(w:World)(I:Nat→Prop)(b sz:Nat):Nat→List (List AV)→Prop
 | _,[]=>True
 | o,x :: xs=>x.length=sz∧RIc w I b o x∧RIe w I b sz (o+sz) xs
def RIc(w:World)(I:Nat→Prop)(b:Nat):Nat→List AV→Prop
 | _,[]=>True
 | o,c :: cs=>(∃v,w.cell? ⟨b,o,none⟩=some v∧RI w I c v)∧RIc w I b (o+1) cs
end
mutual
theorem zdr{w w':World}{I I':Nat→Prop}(hI:∀b,I b→I' b)(hw:∀b,I b→w'.heap[b]? = w.heap[b]?):∀(av:AV) (x:Value),RI w I av x→RI w' I' av x
 | .g v,x,h=>by simpa [RI] using h
 | .s v,x,h=>by simpa [RI] using h
 | .sl sz xs,x,h=>by
  rw [RI] at h ⊢
  obtain ⟨a,cap,rfl,hcap,h⟩:=h
  refine ⟨a,cap,rfl,hcap,h.imp id ?_⟩
  rintro ⟨b,o,rfl,hb,h⟩
  exact ⟨b,o,rfl,hI b hb,zpa hI hw b hb sz o xs h⟩
 | .agg ..,_,h | .ot ..,_,h | .arr ..,_,h | .ptr ..,_,h | .eptr ..,_,h | .ip ..,_,h | .fn ..,_,h | .tup ..,_,h | .undef,_,h=>by simp [RI] at h
theorem zpa{w w':World}{I I':Nat→Prop}(hI:∀b,I b→I' b)(hw:∀b,I b→w'.heap[b]? = w.heap[b]?)(b:Nat)(hb:I b)(sz:Nat):∀(o:Nat) (xs:List (List AV)),RIe w I b sz o xs→RIe w' I' b sz o xs
 | o,[],h=>by simp [RIe]
 | o,x :: xs,h=>by
  rw [RIe] at h ⊢
  exact ⟨h.1,zha hI hw b hb o x h.2.1,zpa hI hw b hb sz (o+sz) xs h.2.2⟩
theorem zha{w w':World}{I I':Nat→Prop}(hI:∀b,I b→I' b)(hw:∀b,I b→w'.heap[b]? = w.heap[b]?)(b:Nat)(hb:I b):∀(o:Nat) (cs:List AV),RIc w I b o cs→RIc w' I' b o cs
 | o,[],h=>by simp [RIc]
 | o,c :: cs,h=>by
  rw [RIc] at h ⊢
  obtain ⟨⟨v,hv,hr⟩,h2⟩:=h
  refine ⟨⟨v,?_,zdr hI hw c v hr⟩,zha hI hw b hb (o+1) cs h2⟩
  simpa [World.cell?,hw b hb] using hv
end
end Go.Proofs.YtodmafgmdlkhoaaDoor.Vs
end
section
namespace Go.Proofs.YtodmafgmdlkhoaaDoor.Vs
set_option linter.all false
def shaN:List Int:=[1116352408,1899447441,3049323471,3921009573,961987163,1508970993,2453635748,2870763221,3624381080,310598401,607225278,1426881987,1925078388,2162078206,2614888103,3248222580,3835390401,4022224774,264347078,604807628,770255983,1249150122,1555081692,1996064986,2554220882,2821834349,2952996808,3210313671,3336571891,3584528711,113926993,338241895,666307205,773529912,1294757372,1396182291,1695183700,1986661051,2177026350,2456956037,2730485921,2820302411,3259730800,3345764771,3516065817,3600352804,4094571909,275423344,430227734,506948616,659060556,883997877,958139571,1322822218,1537002063,1747873779,1955562222,2024104815,2227730452,2361852424,2428436474,2756734187,3204031479,3329325298]
def shaC:List AV:=shaN.map λn=>.g (.int .u32 n)
def GWB(w:World)(I:Nat→Prop):Prop:=I 0∧RIc w I 0 0 shaC
theorem GWB_mono{w w':World}{I I':Nat→Prop}(hI:∀b,I b→I' b)(hw:∀b,I b→w'.heap[b]? = w.heap[b]?)(h:GWB w I):GWB w' I':=⟨hI 0 h.1,zha hI hw 0 h.1 0 shaC h.2⟩
def gv(g:Nat):AV:=if g=0 then .ip shaC else .undef
theorem gv_0:gv 0=.ip shaC:=(rfl)
theorem gv_spec(g:Nat):gv g=.undef∨∃cs,gv g=.ip cs∧∀w I,GWB w I→I g∧RIc w I g 0 cs:=by
 unfold gv
 split
 ·rename_i h;subst h;exact .inr ⟨_,rfl,λw I h=>h⟩
 ·exact .inl rfl
end Go.Proofs.YtodmafgmdlkhoaaDoor.Vs
end
section
namespace Go.Proofs.YtodmafgmdlkhoaaDoor.Vs
set_option linter.all false
structure Bl where
 b:Nat
 o:Nat
 sz:Nat
 cap:Nat
abbrev Beta:=Nat→Option Bl
def Rv0(w:World)(I:Nat→Prop)(β:Beta):AV→Value→Prop
 | .g v,x=>x=v
 | .s l,x=>x=.string ⟨l.toArray⟩
 | .sl sz xs,x=>RI w I (.sl sz xs) x
 | .arr n off len,x=>∃bl,β n=some bl∧off+len≤bl.cap ∧
  (x=.slice (some ⟨bl.b,bl.o+off*bl.sz,none⟩) len (bl.cap-off)∨(off=bl.cap∧∃a,x=.slice a 0 0))
 | .ptr n off,x=>∃bl,β n=some bl∧x=.pointer (some ⟨bl.b,bl.o+off,none⟩)
 | .eptr n i f,x=>∃bl,β n=some bl∧x=.pointer (some ⟨bl.b,bl.o+(i*bl.sz+f),none⟩)
 | .ip cs,x=>∃b o,x=.pointer (some ⟨b,o,none⟩)∧I b∧RIc w I b o cs
 | .undef,_=>True
 | _,_=>False
def Rv0s(w:World)(I:Nat→Prop)(β:Beta):List AV→List Value→Prop
 | [],vs=>vs=[]
 | c :: cs,vs=>∃v vs',vs=v :: vs'∧Rv0 w I β c v∧Rv0s w I β cs vs'
def Rv1(w:World)(I:Nat→Prop)(β:Beta):AV→Value→Prop
 | .fn f fst cap,x=>∃vs us:List Value,x=.func (.func f) ⟨vs⟩ ⟨us⟩∧Rv0s w I β fst vs∧Rv0s w I β cap us
 | a,x=>Rv0 w I β a x
def Rv1s(w:World)(I:Nat→Prop)(β:Beta):List AV→List Value→Prop
 | [],vs=>vs=[]
 | c :: cs,vs=>∃v vs',vs=v :: vs'∧Rv1 w I β c v∧Rv1s w I β cs vs'
def Rv2(w:World)(I:Nat→Prop)(β:Beta):AV→Value→Prop
 | .agg cs,x=>∃vs:List Value,x=.agg ⟨vs⟩∧Rv1s w I β cs vs
 | a,x=>Rv1 w I β a x
def Rv2s(w:World)(I:Nat→Prop)(β:Beta):List AV→List Value→Prop
 | [],vs=>vs=[]
 | c :: cs,vs=>∃v vs',vs=v :: vs'∧Rv2 w I β c v∧Rv2s w I β cs vs'
def Rv(w:World)(I:Nat→Prop)(β:Beta):AV→Value→Prop
 | .tup cs,x=>∃vs:List Value,x=.tuple ⟨vs⟩∧Rv2s w I β cs vs
 | a,x=>Rv2 w I β a x
section mono
variable {w w':World}{I I':Nat→Prop}{β β':Beta}
 (hI:∀b,I b→I' b) (hw:∀b,I b→w'.heap[b]? = w.heap[b]?) (hβ:∀n bl,β n=some bl→β' n=some bl)
include hI hw hβ
theorem zfp:∀(av:AV) (x:Value),Rv0 w I β av x→Rv0 w' I' β' av x
 | .g v,x,h=>h
 | .s v,x,h=>h
 | .sl sz xs,x,h=>zdr hI hw _ x h
 | .arr n off len,x,h=>by obtain ⟨bl,h1,h2⟩:=h;exact ⟨bl,hβ _ _ h1,h2⟩
 | .ptr n off,x,h=>by obtain ⟨bl,h1,h2⟩:=h;exact ⟨bl,hβ _ _ h1,h2⟩
 | .eptr n i f,x,h=>by obtain ⟨bl,h1,h2⟩:=h;exact ⟨bl,hβ _ _ h1,h2⟩
 | .ip cs,x,h=>by obtain ⟨b,o,h1,h2,h3⟩:=h;exact ⟨b,o,h1,hI b h2,zha hI hw b h2 o cs h3⟩
 | .undef,_,_=>trivial
 | .agg ..,_,h | .ot ..,_,h | .fn ..,_,h | .tup ..,_,h=>h.elim
theorem zlq:∀(cs:List AV) (vs:List Value),Rv0s w I β cs vs→Rv0s w' I' β' cs vs
 | [],_,h=>h
 | c :: cs,_,h=>by obtain ⟨v,vs',h1,h2,h3⟩:=h;exact ⟨v,vs',h1,zfp hI hw hβ c v h2,zlq cs vs' h3⟩
theorem zc1:∀(av:AV) (x:Value),Rv1 w I β av x→Rv1 w' I' β' av x
 | .fn f fst cap,x,h=>by obtain ⟨vs,us,h1,h2,h3⟩:=h;exact ⟨vs,us,h1,zlq hI hw hβ _ _ h2,zlq hI hw hβ _ _ h3⟩
 | .g v,x,h=>zfp hI hw hβ (.g v) x h | .s v,x,h=>zfp hI hw hβ (.s v) x h | .sl s l,x,h=>zfp hI hw hβ (.sl s l) x h | .arr n o l,x,h=>zfp hI hw hβ (.arr n o l) x h
 | .ptr n o,x,h=>zfp hI hw hβ (.ptr n o) x h | .eptr n i f,x,h=>zfp hI hw hβ (.eptr n i f) x h | .ip c,x,h=>zfp hI hw hβ (.ip c) x h
 | .undef,_,_=>trivial | .agg ..,_,h | .ot ..,_,h | .tup ..,_,h=>h.elim
theorem zlr:∀(cs:List AV) (vs:List Value),Rv1s w I β cs vs→Rv1s w' I' β' cs vs
 | [],_,h=>h
 | c :: cs,_,h=>by obtain ⟨v,vs',h1,h2,h3⟩:=h;exact ⟨v,vs',h1,zc1 hI hw hβ c v h2,zlr cs vs' h3⟩
theorem zd1:∀(av:AV) (x:Value),Rv2 w I β av x→Rv2 w' I' β' av x
 | .agg cs,x,h=>by obtain ⟨vs,h1,h2⟩:=h;exact ⟨vs,h1,zlr hI hw hβ _ _ h2⟩
 | .g v,x,h=>zc1 hI hw hβ (.g v) x h | .s v,x,h=>zc1 hI hw hβ (.s v) x h | .sl s l,x,h=>zc1 hI hw hβ (.sl s l) x h | .arr n o l,x,h=>zc1 hI hw hβ (.arr n o l) x h
 | .ptr n o,x,h=>zc1 hI hw hβ (.ptr n o) x h | .eptr n i f,x,h=>zc1 hI hw hβ (.eptr n i f) x h | .ip c,x,h=>zc1 hI hw hβ (.ip c) x h
 | .fn f a b,x,h=>zc1 hI hw hβ (.fn f a b) x h | .undef,_,_=>trivial | .ot ..,_,h | .tup ..,_,h=>h.elim
theorem zgw:∀(cs:List AV) (vs:List Value),Rv2s w I β cs vs→Rv2s w' I' β' cs vs
 | [],_,h=>h
 | c :: cs,_,h=>by obtain ⟨v,vs',h1,h2,h3⟩:=h;exact ⟨v,vs',h1,zd1 hI hw hβ c v h2,zgw cs vs' h3⟩
theorem zjy:∀(av:AV) (x:Value),Rv w I β av x→Rv w' I' β' av x
 | .tup cs,x,h=>by obtain ⟨vs,h1,h2⟩:=h;exact ⟨vs,h1,zgw hI hw hβ _ _ h2⟩
 | .g v,x,h=>zd1 hI hw hβ (.g v) x h | .s v,x,h=>zd1 hI hw hβ (.s v) x h | .sl s l,x,h=>zd1 hI hw hβ (.sl s l) x h | .arr n o l,x,h=>zd1 hI hw hβ (.arr n o l) x h
 | .ptr n o,x,h=>zd1 hI hw hβ (.ptr n o) x h | .eptr n i f,x,h=>zd1 hI hw hβ (.eptr n i f) x h | .ip c,x,h=>zd1 hI hw hβ (.ip c) x h
 | .fn f a b,x,h=>zd1 hI hw hβ (.fn f a b) x h | .agg c,x,h=>zd1 hI hw hβ (.agg c) x h | .undef,_,_=>trivial | .ot ..,_,h=>h.elim
end mono
inductive OB where
 | cells (cs:List AV)
 | rocells (cs:List AV)
 | flat (sz:Nat) (xs:List (List AV))
 | shared (sz:Nat) (xs:List (List AV))
 | dead
 | win (sz:Nat) (xs:List (List AV))
 | own (sz:Nat) (xs:List (List AV))
 | park (ps:List (AV × Value))
 | ownh (sz:Nat) (xs:List (List AV)) (hs:List (Nat × Nat × Value))
 | winc (sz:Nat) (xs:List (List AV)) (c:Nat)
def OB.wr:OB→Bool
 | .cells _=>true
 | .win ..=>true
 | .own ..=>true
 | .park _=>true
 | .ownh ..=>true
 | .winc ..=>true
 | _=>false
def Rcs(w:World)(I:Nat→Prop)(β:Beta)(b:Nat):Nat→List AV→Prop
 | _,[]=>True
 | o,c :: cs=>(∃v,w.cell? ⟨b,o,none⟩=some v∧Rv1 w I β c v)∧Rcs w I β b (o+1) cs
def RJc(w:World)(I:Nat→Prop)(β:Beta)(b:Nat):Nat→List AV→Prop
 | _,[]=>True
 | o,c :: cs=>(∃v,w.cell? ⟨b,o,none⟩=some v∧Rv1 w I β c v∧v.oneCell'=true)∧RJc w I β b (o+1) cs
def RJe(w:World)(I:Nat→Prop)(β:Beta)(b sz:Nat):Nat→List (List AV)→Prop
 | _,[]=>True
 | o,x :: xs=>x.length=sz∧RJc w I β b o x∧RJe w I β b sz (o+sz) xs
def OwnW(w:World)(b o n:Nat):Prop:=∃arr ty,w.heap[b]? = some (.cells arr ty (0,0))∧o+n≤arr.size
mutual
def RW(w:World):AV→Value→List Nat→Prop
 | .g v,x,F=>x=v∧v.oneCell'=true∧F=[]
 | .s l,x,F=>x=.string ⟨l.toArray⟩∧F=[]
 | .sl sz xs,x,F=>∃a cap,x=.slice a xs.length cap∧xs.length≤cap∧((xs=[]∧cap=0∧F=[])∨∃b F',a=some ⟨b,0,none⟩∧F=b :: F'∧OwnW w b 0 (cap*sz)∧RWe w b sz 0 xs F')
 | _,_,_=>False
def RWe(w:World)(b sz:Nat):Nat→List (List AV)→List Nat→Prop
 | _,[],F=>F=[]
 | o,x :: xs,F=>∃F1 F2,F=F1++F2∧x.length=sz∧RWc w b o x F1∧RWe w b sz (o+sz) xs F2
def RWc(w:World)(b:Nat):Nat→List AV→List Nat→Prop
 | _,[],F=>F=[]
 | o,c :: cs,F=>∃F1 F2,F=F1++F2∧(∃v,w.cell? ⟨b,o,none⟩=some v∧RW w c v F1)∧RWc w b (o+1) cs F2
end
def RWs(w:World):List (AV × Value)→List Nat→Prop
 | [],F=>F=[]
 | p :: ps,F=>∃F1 F2,F=F1++F2∧RW w p.1 p.2 F1∧RWs w ps F2
theorem zjz{w w':World}{b o n:Nat}(hb:w'.heap[b]? = w.heap[b]?)(h:OwnW w b o n):OwnW w' b o n:=by
 obtain ⟨arr,ty,h1,h2⟩:=h
 exact ⟨arr,ty,by rw [hb];exact h1,h2⟩
mutual
theorem zls{w w':World}:∀(c:AV) (x:Value) (F:List Nat),(∀b∈F,w'.heap[b]? = w.heap[b]?)→RW w c x F→RW w' c x F
 | .g v,x,F,_,h=>by simpa [RW] using h
 | .s v,x,F,_,h=>by simpa [RW] using h
 | .sl sz xs,x,F,hF,h=>by
  rw [RW] at h ⊢
  obtain ⟨a,cap,h1,h2,h3 | ⟨b,F',h3,rfl,h4,h5⟩⟩:=h
  ·exact ⟨a,cap,h1,h2,.inl h3⟩
  ·exact ⟨a,cap,h1,h2,.inr ⟨b,F',h3,rfl,zjz (hF b (by simp)) h4,zhb b (hF b (by simp)) sz 0 xs F' (λc hc=>hF c (by simp [hc])) h5⟩⟩
 | .agg ..,_,_,_,h | .ot ..,_,_,_,h | .arr ..,_,_,_,h | .ptr ..,_,_,_,h | .eptr ..,_,_,_,h | .ip ..,_,_,_,h | .fn ..,_,_,_,h | .tup ..,_,_,_,h | .undef,_,_,_,h=>by simp [RW] at h
theorem zhb{w w':World}(b:Nat)(hb:w'.heap[b]? = w.heap[b]?)(sz:Nat):∀(o:Nat) (xs:List (List AV)) (F:List Nat),(∀b∈F,w'.heap[b]? = w.heap[b]?)→RWe w b sz o xs F→RWe w' b sz o xs F
 | o,[],F,_,h=>by simpa [RWe] using h
 | o,x :: xs,F,hF,h=>by
  rw [RWe] at h ⊢
  obtain ⟨F1,F2,rfl,h1,h2,h3⟩:=h
  exact ⟨F1,F2,rfl,h1,zk1 b hb o x F1 (λc hc=>hF c (by simp [hc])) h2,zhb b hb sz (o+sz) xs F2 (λc hc=>hF c (by simp [hc])) h3⟩
theorem zk1{w w':World}(b:Nat)(hb:w'.heap[b]? = w.heap[b]?):∀(o:Nat) (cs:List AV) (F:List Nat),(∀b∈F,w'.heap[b]? = w.heap[b]?)→RWc w b o cs F→RWc w' b o cs F
 | o,[],F,_,h=>by simpa [RWc] using h
 | o,c :: cs,F,hF,h=>by
  rw [RWc] at h ⊢
  obtain ⟨F1,F2,rfl,⟨v,hv,h2⟩,h3⟩:=h
  refine ⟨F1,F2,rfl,⟨v,?_,zls c v F1 (λc hc=>hF c (by simp [hc])) h2⟩,zk1 b hb (o+1) cs F2 (λc hc=>hF c (by simp [hc])) h3⟩
  simpa [World.cell?,hb] using hv
end
theorem zv7{w w':World}:∀(ps:List (AV × Value)) (F:List Nat),(∀b∈F,w'.heap[b]? = w.heap[b]?)→RWs w ps F→RWs w' ps F
 | [],F,_,h=>h
 | p :: ps,F,hF,h=>by
  obtain ⟨F1,F2,rfl,h1,h2⟩:=h
  exact ⟨F1,F2,rfl,zls _ _ F1 (λc hc=>hF c (by simp [hc])) h1,zv7 ps F2 (λc hc=>hF c (by simp [hc])) h2⟩
def RO(w:World)(I:Nat→Prop)(β:Beta)(n:Nat):OB→List Nat→Prop
 | .cells cs,F=>∃bl,β n=some bl∧F=[bl.b]∧OwnW w bl.b bl.o cs.length∧Rcs w I β bl.b bl.o cs
 | .rocells cs,F=>∃bl,β n=some bl∧F=[bl.b]∧Rcs w I β bl.b bl.o cs
 | .flat sz xs,F=>∃bl,β n=some bl∧bl.sz=sz∧bl.o=0∧xs.length≤bl.cap∧((bl.cap=0∧F=[])∨(F=[bl.b]∧OwnW w bl.b 0 (bl.cap*sz)∧RIe w I bl.b sz 0 xs))
 | .shared sz xs,F=>∃bl,β n=some bl∧bl.sz=sz∧bl.o=0∧xs.length≤bl.cap∧F=[]∧(bl.cap=0∨(I bl.b∧RIe w I bl.b sz 0 xs))
 | .dead,F=>F=[]
 | .win sz xs,F=>∃bl,β n=some bl∧bl.sz=sz∧bl.o=0∧xs.length≤bl.cap∧((bl.cap=0∧F=[])∨(F=[bl.b]∧OwnW w bl.b 0 (bl.cap*sz)∧RJe w I β bl.b sz 0 xs))
 | .own sz xs,F=>∃bl,β n=some bl∧bl.sz=sz∧bl.o=0∧xs.length≤bl.cap∧F.Nodup∧((bl.cap=0∧F=[])∨∃F',F=bl.b :: F'∧OwnW w bl.b 0 (bl.cap*sz)∧RWe w bl.b sz 0 xs F')
 | .park ps,F=>F.Nodup∧RWs w ps F
 | .ownh sz xs hs,F=>∃bl,β n=some bl∧bl.sz=sz∧bl.o=0∧xs.length≤bl.cap∧F.Nodup∧((bl.cap=0∧F=[])∨∃F',F=bl.b :: F'∧OwnW w bl.b 0 (bl.cap*sz)∧RWe w bl.b sz 0 xs F'∧∀h∈hs,w.cell? ⟨bl.b,h.1*sz+h.2.1,none⟩=some h.2.2)
 | .winc sz xs c,F=>∃bl,β n=some bl∧bl.sz=sz∧bl.o=0∧xs.length≤bl.cap∧bl.cap=c∧F=[bl.b]∧OwnW w bl.b 0 (bl.cap*sz)∧RJe w I β bl.b sz 0 xs
section mono2
variable {w w':World}{I I':Nat→Prop}{β β':Beta}
 (hI:∀b,I b→I' b) (hw:∀b,I b→w'.heap[b]? = w.heap[b]?) (hβ:∀n bl,β n=some bl→β' n=some bl)
include hI hw
omit hw hI in
theorem cell?_of_heap{b:Nat}(hb:w'.heap[b]? = w.heap[b]?)(o:Nat):w'.cell? ⟨b,o,none⟩=w.cell? ⟨b,o,none⟩:=by simp [World.cell?,hb]
theorem RIc_own(b:Nat)(hb:w'.heap[b]? = w.heap[b]?):∀(o:Nat) (cs:List AV),RIc w I b o cs→RIc w' I' b o cs
 | o,[],h=>by simp [RIc]
 | o,c :: cs,h=>by
  rw [RIc] at h ⊢
  obtain ⟨⟨v,hv,hr⟩,h2⟩:=h
  exact ⟨⟨v,by rw [cell?_of_heap hb];exact hv,zdr hI hw c v hr⟩,RIc_own b hb (o+1) cs h2⟩
theorem zlt(b:Nat)(hb:w'.heap[b]? = w.heap[b]?)(sz:Nat):∀(o:Nat) (xs:List (List AV)),RIe w I b sz o xs→RIe w' I' b sz o xs
 | o,[],h=>by simp [RIe]
 | o,x :: xs,h=>by
  rw [RIe] at h ⊢
  exact ⟨h.1,RIc_own hI hw b hb o x h.2.1,zlt b hb sz (o+sz) xs h.2.2⟩
include hβ
theorem zk2(b:Nat)(hb:w'.heap[b]? = w.heap[b]?):∀(o:Nat) (cs:List AV),Rcs w I β b o cs→Rcs w' I' β' b o cs
 | o,[],h=>trivial
 | o,c :: cs,h=>by
  obtain ⟨⟨v,hv,hr⟩,h2⟩:=h
  exact ⟨⟨v,by rw [cell?_of_heap hb];exact hv,zc1 hI hw hβ c v hr⟩,zk2 b hb (o+1) cs h2⟩
theorem zv8(b:Nat)(hb:w'.heap[b]? = w.heap[b]?):∀(o:Nat) (cs:List AV),RJc w I β b o cs→RJc w' I' β' b o cs
 | o,[],h=>trivial
 | o,c :: cs,h=>by
  obtain ⟨⟨v,hv,hr,h1⟩,h2⟩:=h
  exact ⟨⟨v,by rw [cell?_of_heap hb];exact hv,zc1 hI hw hβ c v hr,h1⟩,zv8 b hb (o+1) cs h2⟩
theorem zk3(b:Nat)(hb:w'.heap[b]? = w.heap[b]?)(sz:Nat):∀(o:Nat) (xs:List (List AV)),RJe w I β b sz o xs→RJe w' I' β' b sz o xs
 | o,[],h=>trivial
 | o,x :: xs,h=>⟨h.1,zv8 hI hw hβ b hb o x h.2.1,zk3 b hb sz (o+sz) xs h.2.2⟩
theorem RO_mono(n:Nat):∀(ob:OB) (F:List Nat),(∀b∈F,w'.heap[b]? = w.heap[b]?)→RO w I β n ob F→RO w' I' β' n ob F
 | .cells cs,F,hF,h=>by
  obtain ⟨bl,h1,rfl,⟨arr,ty,h2,h3⟩,h4⟩:=h
  have hb:=hF bl.b (by simp)
  exact ⟨bl,hβ _ _ h1,rfl,⟨arr,ty,by rw [hb];exact h2,h3⟩,zk2 hI hw hβ _ hb _ _ h4⟩
 | .rocells cs,F,hF,h=>by
  obtain ⟨bl,h1,rfl,h4⟩:=h
  exact ⟨bl,hβ _ _ h1,rfl,zk2 hI hw hβ _ (hF bl.b (by simp)) _ _ h4⟩
 | .flat sz xs,F,hF,h=>by
  obtain ⟨bl,h1,h2,h3,h4,h | ⟨rfl,⟨arr,ty,h5,h6⟩,h7⟩⟩:=h
  ·exact ⟨bl,hβ _ _ h1,h2,h3,h4,.inl h⟩
  ·have hb:=hF bl.b (by simp)
   exact ⟨bl,hβ _ _ h1,h2,h3,h4,.inr ⟨rfl,⟨arr,ty,by rw [hb];exact h5,h6⟩,zlt hI hw _ hb _ _ _ h7⟩⟩
 | .shared sz xs,F,hF,h=>by
  obtain ⟨bl,h1,h2,h3,h4,h5,h6⟩:=h
  exact ⟨bl,hβ _ _ h1,h2,h3,h4,h5,h6.imp id λh6=>⟨hI _ h6.1,zpa hI hw _ h6.1 _ _ _ h6.2⟩⟩
 | .dead,F,hF,h=>h
 | .win sz xs,F,hF,h=>by
  obtain ⟨bl,h1,h2,h3,h4,h | ⟨rfl,h6,h7⟩⟩:=h
  ·exact ⟨bl,hβ _ _ h1,h2,h3,h4,.inl h⟩
  ·have hb:=hF bl.b (by simp)
   exact ⟨bl,hβ _ _ h1,h2,h3,h4,.inr ⟨rfl,zjz hb h6,zk3 hI hw hβ _ hb _ _ _ h7⟩⟩
 | .own sz xs,F,hF,h=>by
  obtain ⟨bl,h1,h2,h3,h4,h5,h | ⟨F',rfl,h6,h7⟩⟩:=h
  ·exact ⟨bl,hβ _ _ h1,h2,h3,h4,h5,.inl h⟩
  ·have hb:=hF bl.b (by simp)
   exact ⟨bl,hβ _ _ h1,h2,h3,h4,h5,.inr ⟨F',rfl,zjz hb h6,zhb _ hb _ _ _ _ (λc hc=>hF c (by simp [hc])) h7⟩⟩
 | .park ps,F,hF,h=>⟨h.1,zv7 _ _ hF h.2⟩
 | .ownh sz xs hs,F,hF,h=>by
  obtain ⟨bl,h1,h2,h3,h4,h5,h | ⟨F',rfl,h6,h7,h8⟩⟩:=h
  ·exact ⟨bl,hβ _ _ h1,h2,h3,h4,h5,.inl h⟩
  ·have hb:=hF bl.b (by simp)
   exact ⟨bl,hβ _ _ h1,h2,h3,h4,h5,.inr ⟨F',rfl,zjz hb h6,zhb _ hb _ _ _ _ (λc hc=>hF c (by simp [hc])) h7,λh hh=>by rw [cell?_of_heap hb];exact h8 h hh⟩⟩
 | .winc sz xs c,F,hF,h=>by
  obtain ⟨bl,h1,h2,h3,h4,h5,rfl,h6,h7⟩:=h
  have hb:=hF bl.b (by simp)
  exact ⟨bl,hβ _ _ h1,h2,h3,h4,h5,rfl,zjz hb h6,zk3 hI hw hβ _ hb _ _ _ h7⟩
end mono2
structure St where
 env:Nat→AV
 ob:Nat→Option OB
def upd{α:Type}(f:Nat→α)(n:Nat)(v:α):Nat→α:=λm=>bif m==n then v else f m
theorem zbd{α:Type}(f:Nat→α)(n:Nat)(v:α):upd f n v n=v:=by simp [upd]
theorem zbb{α:Type}(f:Nat→α){n m:Nat}(v:α)(h:m≠n):upd f n v m=f m:=by
 have:(m==n)=false:=by simpa using h
 simp [upd,this]
structure Evo (S:Nat→Prop) (w w':World):Prop where
 os:w'.os=w.os
 tape:w'.tape=w.tape
 output:w'.output=w.output
 size:w.heap.size≤w'.heap.size
 blk:∀b,b<w.heap.size→¬S b→w'.heap[b]? = w.heap[b]?
 drawn:w.drawn≤w'.drawn
theorem Evo.refl(S:Nat→Prop)(w:World):Evo S w w:=⟨rfl,rfl,rfl,Nat.le_refl _,λ_ _ _=>rfl,Nat.le_refl _⟩
theorem Evo.mono{S S':Nat→Prop}{w w':World}(h:Evo S w w')(hs:∀b,b<w.heap.size→S b→S' b):Evo S' w w' :=
 ⟨h.os,h.tape,h.output,h.size,λb hb hn=>h.blk b hb λhs'=>hn (hs b hb hs'),h.drawn⟩
theorem Evo.trans{S:Nat→Prop}{w w' w'':World}(h:Evo S w w')(k:Evo S w' w''):Evo S w w'' :=
 ⟨k.os.trans h.os,k.tape.trans h.tape,k.output.trans h.output,Nat.le_trans h.size k.size,
  λb hb hn=>(k.blk b (Nat.lt_of_lt_of_le hb h.size) hn).trans (h.blk b hb hn),Nat.le_trans h.drawn k.drawn⟩
theorem Evo.drew{S:Nat→Prop}{w w':World}(h:Evo S w w'):Evo S w { w' with drawn:=w'.drawn+1 }:=⟨h.os,h.tape,h.output,h.size,h.blk,Nat.le_succ_of_le h.drawn⟩
def GW(w:World)(I:Nat→Prop):Prop:=GWB w I
theorem GW_mono{w w':World}{I I':Nat→Prop}(hI:∀b,I b→I' b)(hw:∀b,I b→w'.heap[b]? = w.heap[b]?)(h:GW w I):GW w' I':=GWB_mono hI hw h
structure Cx where
 w0:World
 I0:Nat→Prop
 X:Nat→Prop
 Y:Nat→Prop
 β0:Beta
 nt:Nat
structure Conc (C:Cx) (st:St) (a:Act) (w:World) (I:Nat→Prop) (β:Beta) (φ:Nat→List Nat):Prop where
 evo:Evo C.X C.w0 w
 immLt:∀b,I b→b<w.heap.size
 imm0:∀b,C.I0 b→I b
 immNew:∀b,I b→C.I0 b∨C.w0.heap.size≤b
 sz:a.tmps.size=C.nt
 dfr:a.defers=[]
 env:∀t,Rv w I β (st.env t) (a.tmps.getD t undef)
 ob:∀n o,st.ob n=some o→RO w I β n o (φ n)
 dom:∀n,st.ob n=none→β n=none
 fdom:∀n,st.ob n=none→φ n=[]
 sep:∀n m,n≠m→∀b,b∈φ n→b∈φ m→False
 nimm:∀n b,b∈φ n→¬I b
 flt:∀n b,b∈φ n→b<w.heap.size∧(C.X b∨C.Y b∨C.w0.heap.size≤b)
 wok:∀n o,st.ob n=some o→o.wr=true→∀b,b∈φ n→¬C.Y b
 ylt:∀b,C.Y b→b<C.w0.heap.size
 fnew:∀n sz xs,st.ob n=some (.flat sz xs)→∀b,b∈φ n→C.w0.heap.size≤b
 xlt:∀b,C.X b→b<C.w0.heap.size
 bet:∀n bl,C.β0 n=some bl→β n=some bl
 gw:GW w I
section conc
variable {C:Cx}{st:St}{a:Act}{w:World}{I:Nat→Prop}{β:Beta}{φ:Nat→List Nat}
theorem Conc.put(h:Conc C st a w I β φ){d:Nat}(hd:d<C.nt){v:AV}{x:Value}(hv:Rv w I β v x) :
 Conc C { st with env:=upd st.env d v } (a.put (some d) x) w I β φ :=
 { h with
  sz:=by simpa [Act.put] using h.sz
  dfr:=h.dfr
  env:=λt=>by
   by_cases ht:t=d
   ·subst ht
    simp only [zbd]
    have:t<a.tmps.size:=h.sz ▸ hd
    simpa [Act.put,Array.getD,this] using hv
   ·simp only [zbb _ _ ht]
    have:=h.env t
    simpa [Act.put,Array.getD_eq_getD_getElem?,Array.getElem?_setIfInBounds_ne (Ne.symm ht)] using this }
theorem Conc.move(h:Conc C st a w I β φ){w':World}{I':Nat→Prop}{β':Beta}{φ':Nat→List Nat}{ob':Nat→Option OB}
 (T:Nat→Prop)
 (hev:Evo T w w') (hT:∀b,T b→∃n,b∈φ n∧¬C.Y b) (hII:∀b,I b→I' b)
 (hIn:∀b,I' b→I b∨(w.heap.size≤b∧b<w'.heap.size)∨(b<w.heap.size∧C.w0.heap.size≤b))
 (hβ:∀n bl,β n=some bl→β' n=some bl)
 (hob:∀n o,ob' n=some o→(st.ob n=some o∧φ' n=φ n∧∀b∈φ n,¬T b)∨RO w' I' β' n o (φ' n))
 (hdom:∀n,ob' n=none→β' n=none) (hfdom:∀n,ob' n=none→φ' n=[])
 (hsep:∀n m,n≠m→∀b,b∈φ' n→b∈φ' m→False) (hnimm:∀n b,b∈φ' n→¬I' b)
 (hflt:∀n b,b∈φ' n→b<w'.heap.size∧(C.X b∨C.Y b∨C.w0.heap.size≤b))
 (hwok:∀n o,ob' n=some o→o.wr=true→∀b,b∈φ' n→¬C.Y b)
 (hfnew:∀n sz xs,ob' n=some (.flat sz xs)→∀b,b∈φ' n→C.w0.heap.size≤b) :
 Conc C { st with ob:=ob' } a w' I' β' φ':=by
 have himm:∀b,I b→w'.heap[b]? = w.heap[b]?:=λb hb=>hev.blk b (h.immLt b hb) λht=>by
  obtain ⟨n,hn,-⟩:=hT b ht
  exact h.nimm n b hn hb
 refine ⟨⟨hev.os.trans h.evo.os,hev.tape.trans h.evo.tape,hev.output.trans h.evo.output,Nat.le_trans h.evo.size hev.size,λb hb hn=>?_,Nat.le_trans h.evo.drawn hev.drawn⟩,?_,λb hb=>hII b (h.imm0 b hb),?_,h.sz,h.dfr,
  λt=>zjy hII himm hβ _ _ (h.env t),?_,hdom,hfdom,hsep,hnimm,hflt,hwok,h.ylt,hfnew,h.xlt,λn bl hb=>hβ n bl (h.bet n bl hb),GW_mono hII himm h.gw⟩
 ·refine (hev.blk b (Nat.lt_of_lt_of_le hb h.evo.size) λht=>?_).trans (h.evo.blk b hb hn)
  obtain ⟨n,hn',hy⟩:=hT b ht
  rcases (h.flt n b hn').2 with hx | hx | hx
  ·exact hn hx
  ·exact hy hx
  ·omega
 ·intro b hb
  rcases hIn b hb with h1 | h1 | h1
  ·exact Nat.lt_of_lt_of_le (h.immLt b h1) hev.size
  ·exact h1.2
  ·exact Nat.lt_of_lt_of_le h1.1 hev.size
 ·intro b hb
  rcases hIn b hb with h1 | h1 | h1
  ·exact h.immNew b h1
  ·exact .inr (Nat.le_trans h.evo.size h1.1)
  ·exact .inr h1.2
 ·intro n o ho
  rcases hob n o ho with ⟨h1,h2,h3⟩ | h1
  ·rw [h2]
   exact RO_mono hII himm hβ n o _ (λb hb=>hev.blk b (h.flt n b hb).1 (h3 b hb)) (h.ob n o h1)
  ·exact h1
end conc
end Go.Proofs.YtodmafgmdlkhoaaDoor.Vs
end
section
namespace Go.Proofs.YtodmafgmdlkhoaaDoor.Vs
set_option linter.all false
inductive TK where
 | int (k:IntKind) | bool | str | slice (e:TypeId) | ptr (e:TypeId) | struct (fs:List (Nat × TypeId)) | array (n:Nat) (e:TypeId) | other
structure TI where
 agg:Bool
 size:Nat
 bytes:Nat
 zero:List AV
 kind:TK
def cv:Value→AV
 | .string b=>.s b.data.toList
 | v=>.g v
def tkOf:TypeDesc→TK
 | .int k=>.int k | .bool=>.bool | .string=>.str | .slice e=>.slice e | .pointer e=>.ptr e
 | .struct fs=>.struct (fs.toList.map λf=>(f.offset,f.type)) | .array n e=>.array n e | _=>.other
def aggOf:TypeDesc→Bool
 | .struct _ | .array _ _=>true
 | _=>false
def ti(P:Program)(t:TypeId):Option TI :=
 match P.underlying t,P.info? t with
 | some d,some i=>match i.zero with
  | some z=>some { agg:=aggOf d,size:=i.size,bytes:=i.bytes,zero:=z.cells.toList.map cv,kind:=tkOf d }
  | none=>none
 | _,_=>none
def ev(st:St):Operand→AV
 | .tmp t=>st.env t
 | .const v=>cv v
 | .func f=>.fn f [] []
 | .global g=>gv g
def cellsAt(st:St):AV→Option (List AV)
 | .ptr n off=>match st.ob n with
  | some (.cells cs)=>some (cs.drop off)
  | some (.rocells cs)=>some (cs.drop off)
  | _=>none
 | .eptr n i f=>match st.ob n with
  | some (.flat _ xs)=>some ((xs.getD i []).drop f)
  | some (.shared _ xs)=>some ((xs.getD i []).drop f)
  | some (.win _ xs)=>some ((xs.getD i []).drop f)
  | _=>none
 | .ip cs=>some cs
 | _=>none
def valCells:AV→Option (List AV)
 | .agg cs=>some cs
 | .tup _=>none
 | .undef=>none
 | .ot ..=>none
 | v=>some [v]
def isOne:AV→Bool
 | .g v=>v.oneCell'
 | .s _=>true
 | .sl ..=>true
 | .arr ..=>true
 | .ptr ..=>true
 | .eptr ..=>true
 | .ip _=>true
 | .fn ..=>true
 | _=>false
abbrev Ups:=List (Nat × OB)
abbrev ARes:=Option (Prop × AV × Ups)
def aLoad(P:Program)(st:St)(t:TypeId)(x:AV):ARes :=
 match ti P t,cellsAt st x with
 | some T,some cs=>if T.agg then some (T.size≤cs.length,.agg (cs.take T.size),[]) else match cs with
  | c :: _=>some (True,c,[])
  | []=>none
 | _,_=>none
def setCells(cs:List AV)(off:Nat)(new:List AV):List AV :=
 match new with
 | [v]=>cs.set off v
 | _=>cs.take off++new++cs.drop (off+new.length)
def arrN:List AV→List Nat
 | []=>[]
 | .arr n _ _ :: r=>n :: arrN r
 | _ :: r=>arrN r
def frzU(st:St):List Nat→Ups
 | []=>[]
 | n :: r=>match st.ob n with
  | some (.flat sz xs)=>(n,.shared sz xs) :: frzU st r
  | _=>frzU st r
def viewCell(st:St):AV→Option (Prop × AV)
 | .g v=>some (v.oneCell'=true,.g v)
 | .s l=>some (True,.s l)
 | .sl sz xs=>some (True,.sl sz xs)
 | .arr n off len=>match st.ob n with
  | some (.flat sz xs)=>some (off+len≤xs.length,.sl sz ((xs.drop off).take len))
  | some (.shared sz xs)=>some (off+len≤xs.length,.sl sz ((xs.drop off).take len))
  | _=>none
 | _=>none
def viewCells(st:St):List AV→Option (Prop × List AV)
 | []=>some (True,[])
 | c :: cs=>match viewCell st c,viewCells st cs with
  | some (p,c'),some (q,cs')=>some (p∧q,c' :: cs')
  | _,_=>none
def aStore(P:Program)(st:St)(t:TypeId)(x v:AV):ARes :=
 match ti P t,valCells v with
 | some T,some new=>match x with
  | .ptr n off=>match st.ob n with
   | some (.cells cs)=>some (new.length=T.size∧new.all isOne=true∧off+new.length≤cs.length,.g undef,[(n,.cells (setCells cs off new))])
   | _=>none
  | .eptr n i f=>match st.ob n with
   | some (.flat sz xs)=>match viewCells st new with
    | some (p,new')=>some (p∧new.length=T.size∧new.all isOne=true∧f+new.length≤sz∧i<xs.length∧(arrN new).contains n=false,.g undef,
     frzU st (arrN new)++[(n,.flat sz (xs.set i (setCells (xs.getD i []) f new')))])
    | none=>none
   | _=>none
  | _=>none
 | _,_=>none
def aIntBin(op:BinOp)(k:IntKind)(a b:Int):ARes :=
 match op with
 | .add=>some (True,.g (.int k (k.wrap (a+b))),[])
 | .sub=>some (True,.g (.int k (k.wrap (a-b))),[])
 | .mul=>some (True,.g (.int k (k.wrap (a*b))),[])
 | .quo=>some (b≠0,.g (.int k (k.wrap (a.tdiv b))),[])
 | .rem=>some (b≠0,.g (.int k (a.tmod b)),[])
 | .and=>some (True,.g (.int k (k.wrap (BitVec.ofInt k.bits a &&& BitVec.ofInt k.bits b).toNat)),[])
 | .or=>some (True,.g (.int k (k.wrap (BitVec.ofInt k.bits a ||| BitVec.ofInt k.bits b).toNat)),[])
 | .xor=>some (True,.g (.int k (k.wrap (BitVec.ofInt k.bits a ^^^ BitVec.ofInt k.bits b).toNat)),[])
 | .eql=>some (True,.g (.bool (a==b)),[])
 | .neq=>some (True,.g (.bool (a != b)),[])
 | .lss=>some (True,.g (.bool (decide (a<b))),[])
 | .leq=>some (True,.g (.bool (decide (a≤b))),[])
 | .gtr=>some (True,.g (.bool (decide (a > b))),[])
 | .geq=>some (True,.g (.bool (decide (a ≥ b))),[])
 | _=>none
def aStrBin(op:BinOp)(a b:List UInt8):ARes :=
 match op with
 | .add=>some (a.length+b.length≤9223372036854775807,.s (a++b),[])
 | .eql=>some (True,.g (.bool (a==b)),[])
 | .neq=>some (True,.g (.bool (!(a==b))),[])
 | .lss=>some (True,.g (.bool (Op.bytesLess a b)),[])
 | .leq=>some (True,.g (.bool (Op.bytesLess a b || a==b)),[])
 | .gtr=>some (True,.g (.bool (!(Op.bytesLess a b || a==b))),[])
 | .geq=>some (True,.g (.bool (!Op.bytesLess a b)),[])
 | _=>none
def eq2(P:Program)(t:TypeId):Bool :=
 (match P.underlying t with
  | some (.struct fs)=>match fs.toList with
   | [f, g] => f.name != "_" && g.name != "_" && f.offset == 0 && g.offset == 1 &&
    (match P.underlying f.type,P.underlying g.type,P.info? f.type,P.info? g.type with
     | some (.int _),some (.int _),some i,some j=>i.size==1&&j.size==1
     | _,_,_,_=>false)
   | _=>false
  | _=>false) && !P.stoodInHeld t && !P.eqGuardType P.depth t
def aBin(P:Program)(op:BinOp)(t:TypeId)(x y:AV):ARes :=
 match op,x,y with
 | .shl,.g (.int k a),.g (.int _ b)=>some (0≤b,.g (.int k (k.wrap (a*2^(min b.toNat k.bits)))),[])
 | .shr,.g (.int k a),.g (.int _ b)=>some (0≤b,.g (.int k (a.fdiv (2^(min b.toNat k.bits)))),[])
 | op,.g (.int k a),.g (.int k' b)=>if k=k' then aIntBin op k a b else none
 | op,.s a,.s b=>aStrBin op a b
 | .eql,.g (.bool a),.g (.bool b)=>match P.underlying t with
  | some .bool=>some (True,.g (.bool (a==b)),[])
  | _=>none
 | .neq,.g (.bool a),.g (.bool b)=>match P.underlying t with
  | some .bool=>some (True,.g (.bool (!(a==b))),[])
  | _=>none
 | .eql,.agg [.g (.int k a),.g (.int l b)],.agg [.g (.int k' c),.g (.int l' d)]=>if eq2 P t&&k=k'&&l=l' then some (True,.g (.bool (a==c&&b==d)),[]) else none
 | .neq,.agg [.g (.int k a),.g (.int l b)],.agg [.g (.int k' c),.g (.int l' d)]=>if eq2 P t&&k=k'&&l=l' then some (True,.g (.bool (!(a==c&&b==d))),[]) else none
 | _,_,_=>none
def aUn(op:UnOp)(x:AV):ARes :=
 match op,x with
 | .not,.g (.bool b)=>some (True,.g (.bool (!b)),[])
 | .neg,.g (.int k n)=>some (True,.g (.int k (k.wrap (0-n))),[])
 | .xor,.g (.int k n)=>some (True,.g (.int k (k.wrap (BitVec.ofInt k.bits (if k.signed then -1 else k.max) ^^^ BitVec.ofInt k.bits n).toNat)),[])
 | _,_=>none
def bytesOf:List (List AV)→Option (List UInt8)
 | []=>some []
 | [.g (.int .u8 n)] :: r=>(bytesOf r).map (UInt8.ofNat n.toNat :: ·)
 | _=>none
def aNews(st:St)(sz:Nat):AV→Option (Prop × List (List AV))
 | .arr n off len=>match st.ob n with
  | some (.flat s xs)=>if s=sz then some (off+len≤xs.length,(xs.drop off).take len) else none
  | some (.shared s xs)=>if s=sz then some (off+len≤xs.length,(xs.drop off).take len) else none
  | _=>none
 | .sl s xs=>if s=sz∨xs=[] then some (True,xs) else none
 | .g (.slice none 0 0)=>some (True,[])
 | _=>none
def numsOf:List (List AV)→Option (List Int)
 | []=>some []
 | [.g (.int .u8 n)] :: r=>(numsOf r).map (n :: ·)
 | _=>none
def strN(ns:List Int):List UInt8:=ns.map λn=>UInt8.ofNat n.toNat
def aConv(P:Program)(st:St)(src dst:TypeId)(x:AV):ARes :=
 match ti P src,ti P dst,x with
 | some S,some D,.g (.int _ n)=>match S.kind,D.kind with
  | .int _,.int k=>some (True,.g (.int k (k.wrap n)),[])
  | _,_=>none
 | some S,some D,.s l=>match S.kind,D.kind with
  | .str,.str=>some (True,.s l,[])
  | _,_=>none
 | some S,some D,x=>match S.kind,D.kind with
  | .slice e,.str=>match ti P e,aNews st 1 x with
   | some E,some (p,ys)=>match E.kind,numsOf ys with
    | .int .u8,some ns=>some (p,.s (strN ns),[])
    | _,_=>none
   | _,_=>none
  | _,_=>none
 | _,_,_=>none
def fillA(place:Nat→Option (Nat × Nat))(cells:List AV):List (Nat × AV)→Option (List AV)
 | []=>some cells
 | (i,v) :: rest=>match place i,valCells v with
  | some (off,size),some new=>if new.length=size∧off+new.length≤cells.length∧new.all isOne=true then fillA place (cells.take off++new++cells.drop (off+new.length)) rest else none
  | _,_=>none
def placeOf(P:Program):List (Nat × TypeId)→Nat→Option (Nat × Nat)
 | [],_=>none
 | (o,t) :: _,0=>match ti P t with
  | some T=>some (o,T.size)
  | none=>none
 | _ :: r,i+1=>placeOf P r i
def placesOf(P:Program):List (Nat × TypeId)→Option (List (Nat × Nat))
 | []=>some []
 | (o,t) :: r=>match ti P t,placesOf P r with
  | some T,some l=>some ((o,T.size) :: l)
  | _,_=>none
def aBuild(P:Program)(t:TypeId)(parts:List (Nat × AV)):ARes :=
 match ti P t with
 | some T=>match T.kind with
  | .struct fs=>match placesOf P fs with
   | some pl=>match fillA (λi=>pl[i]?) T.zero parts with
    | some cs=>some (True,.agg cs,[])
    | none=>none
   | none=>none
  | .array _ e=>match ti P e with
   | some E=>match fillA (λi=>some (i*E.size,E.size)) T.zero parts with
    | some cs=>some (True,.agg cs,[])
    | none=>none
   | none=>none
  | _=>none
 | none=>none
def chunks(sz:Nat):Nat→List AV→List (List AV)
 | 0,_=>[]
 | n+1,cs=>cs.take sz :: chunks sz n (cs.drop sz)
def aBuildSlice(P:Program)(st:St)(nm:Nat)(t:TypeId)(len:Nat)(parts:List (Nat × AV)):ARes :=
 match ti P t with
 | some T=>match T.kind with
  | .slice e=>match ti P e with
   | some E=>match fillA (λi=>some (i*E.size,E.size)) (List.replicate len E.zero).flatten parts with
    | some cs=>match viewCells st cs with
     | some (p,cs')=>some (p∧(st.ob nm).isNone=true∧len*E.size≤16777216∧E.zero.length=E.size∧cs.all isOne=true,.arr nm 0 len,frzU st (arrN cs)++[(nm,.flat E.size (chunks E.size len cs'))])
     | none=>none
    | none=>none
   | none=>none
  | _=>none
 | none=>none
def aIndexAddr(P:Program)(st:St)(t:TypeId)(x i:AV):ARes :=
 match ti P t,x,i with
 | some T,x,.g (.int _ n)=>match T.kind,x with
  | .slice e,.arr m off len=>match ti P e with
   | some E=>match st.ob m with
    | some (.flat sz _)=>some (0≤n∧n<len∧E.size=sz,.eptr m (off+n.toNat) 0,[])
    | some (.shared sz _)=>some (0≤n∧n<len∧E.size=sz,.eptr m (off+n.toNat) 0,[])
    | some (.win sz _)=>some (0≤n∧n<len∧E.size=sz,.eptr m (off+n.toNat) 0,[])
    | _=>none
   | none=>none
  | .slice e,.sl sz xs=>match ti P e with
   | some E=>some (0≤n∧n<xs.length∧E.size=sz,.ip (xs.getD n.toNat []),[])
   | none=>none
  | .array len e,.ptr m off=>match ti P e with
   | some E=>some (0≤n∧n<len,.ptr m (off+n.toNat*E.size),[])
   | none=>none
  | .array len e,.ip cs=>match ti P e with
   | some E=>some (0≤n∧n<len,.ip (cs.drop (n.toNat*E.size)),[])
   | none=>none
  | _,_=>none
 | _,_,_=>none
def aFieldAddr(P:Program)(t:TypeId)(x:AV)(f:Nat):ARes :=
 match ti P t with
 | some T=>match T.kind with
  | .struct fs=>match placeOf P fs f with
   | some (o,size)=>if size=0 then none else match x with
    | .ptr n off=>some (True,.ptr n (off+o),[])
    | .eptr n i g=>some (True,.eptr n i (g+o),[])
    | .ip cs=>some (True,.ip (cs.drop o),[])
    | _=>none
   | none=>none
  | _=>none
 | none=>none
def aField(P:Program)(t:TypeId)(x:AV)(f:Nat):ARes :=
 match ti P t,x with
 | some T,.agg cs=>match T.kind with
  | .struct fs=>match fs[f]? with
   | some (o,ft)=>match ti P ft with
    | some F=>if F.agg then some (o+F.size≤cs.length,.agg ((cs.drop o).take F.size),[]) else match cs.drop o with
     | c :: _=>some (True,c,[])
     | []=>none
    | none=>none
   | none=>none
  | _=>none
 | _,_=>none
def aIndex(P:Program)(t:TypeId)(x i:AV):ARes :=
 match ti P t,x,i with
 | some { kind:=.str,.. },.s l,.g (.int _ n)=>some (0≤n∧n<l.length,.g (.int .u8 (l.getD n.toNat 0).toNat),[])
 | some { kind:=.array len e,.. },.agg cs,.g (.int _ n)=>match ti P e with
  | some E=>if E.agg then none else match cs.drop (n.toNat*E.size) with
   | c :: _=>some (0≤n∧n<len,c,[])
   | []=>none
  | none=>none
 | _,_,_=>none
def optIdx(d:Nat):Option AV→Option (Prop × Nat)
 | none=>some (True,d)
 | some (.g (.int _ n))=>some (0≤n,n.toNat)
 | _=>none
def aSlice(P:Program)(st:St)(t:TypeId)(x:AV)(lo hi:Option AV):ARes :=
 match ti P t,x with
 | some T,x=>match T.kind,x with
  | .str,.s l=>match optIdx 0 lo,optIdx l.length hi with
   | some (c,a),some (d,b)=>some (c∧d∧a≤b∧b≤l.length,.s ((l.drop a).take (b-a)),[])
   | _,_=>none
  | .slice e,.sl sz xs=>match ti P e,optIdx 0 lo,optIdx xs.length hi with
   | some E,some (c,a),some (d,b)=>some (c∧d∧a≤b∧b≤xs.length∧E.size=sz,.sl sz ((xs.drop a).take (b-a)),[])
   | _,_,_=>none
  | .slice e,.arr n off len=>match ti P e,optIdx 0 lo,optIdx len hi with
   | some E,some (c,a),some (d,b)=>match st.ob n with
    | some (.flat sz _)=>some (c∧d∧a≤b∧b≤len∧E.size=sz,.arr n (off+a) (b-a),[])
    | some (.shared sz _)=>some (c∧d∧a≤b∧b≤len∧E.size=sz,.arr n (off+a) (b-a),[])
    | some (.win sz _)=>some (c∧d∧a≤b∧b≤len∧E.size=sz,.arr n (off+a) (b-a),[])
    | _=>none
   | _,_,_=>none
  | _,_=>none
 | _,_=>none
def aMakeSlice(P:Program)(nm:Nat)(st:St)(t:TypeId)(l c:AV):ARes :=
 match ti P t,l,c with
 | some T,.g (.int .i64 n),.g (.int .i64 m)=>match T.kind with
  | .slice e=>match ti P e with
   | some E=>some ((st.ob nm).isNone=true∧0≤n∧n≤m∧m<9223372036854775808∧(E.bytes:Int)*m≤2^48∧E.zero.length=E.size∧E.zero.all isOne=true,.arr nm 0 n.toNat,[(nm,.flat E.size (List.replicate n.toNat E.zero))])
   | none=>none
  | _=>none
 | _,_,_=>none
def capOk(l:List AV):Bool:=l.all λv=>match v with | .g _ | .s _ | .sl .. | .arr .. | .ptr .. | .eptr .. | .ip _ | .undef=>true | _=>false
def parts(st:St)(l:List (Nat × Operand)):List (Nat × AV):=l.map λp=>(p.1,ev st p.2)
def aop(P:Program)(st:St)(nm:Nat)(o:Op):ARes :=
 match o with
 | .move x=>some (True,ev st x,[])
 | .assign x=>some (True,ev st x,[])
 | .pick c a b=>match ev st c with
  | .g (.bool t)=>some (True,bif t then ev st a else ev st b,[])
  | _=>none
 | .alloc t=>match ti P t with
  | some T=>some ((st.ob nm).isNone=true∧T.zero.length=T.size,.ptr nm 0,[(nm,.cells T.zero)])
  | none=>none
 | .box t x=>match ti P t,valCells (ev st x) with
  | some _,some cs=>some ((st.ob nm).isNone=true∧cs.all isOne=true,.ptr nm 0,[(nm,.cells cs)])
  | _,_=>none
 | .build t ps=>aBuild P t (parts st ps.toList)
 | .buildSlice t len ps=>aBuildSlice P st nm t len (parts st ps.toList)
 | .load t x=>aLoad P st t (ev st x)
 | .store t x v=>aStore P st t (ev st x) (ev st v)
 | .nilCheck x=>match ev st x with
  | .ptr n off=>some (True,.ptr n off,[])
  | .eptr n i f=>some (True,.eptr n i f,[])
  | .ip cs=>some (True,.ip cs,[])
  | .fn f a b=>some (True,.fn f a b,[])
  | _=>none
 | .binOp op t x y _=>aBin P op t (ev st x) (ev st y)
 | .unOp op _ x=>aUn op (ev st x)
 | .convert a b x=>aConv P st a b (ev st x)
 | .makeFunc (.func f) first captured=>some (capOk (first.toList.map (ev st))=true∧capOk (captured.toList.map (ev st))=true,.fn f (first.toList.map (ev st)) (captured.toList.map (ev st)),[])
 | .makeSlice t l c=>aMakeSlice P nm st t (ev st l) (ev st c)
 | .slice t x lo hi none=>aSlice P st t (ev st x) (lo.map (ev st)) (hi.map (ev st))
 | .fieldAddr t x f=>aFieldAddr P t (ev st x) f
 | .field t x f=>aField P t (ev st x) f
 | .indexAddr t x i=>aIndexAddr P st t (ev st x) (ev st i)
 | .index t x i=>aIndex P t (ev st x) (ev st i)
 | .extract x i=>match ev st x with
  | .tup vs=>match vs[i]? with
   | some v=>some (True,v,[])
   | none=>none
  | _=>none
 | _=>none
def aLen(P:Program)(ts:List TypeId)(x:AV):ARes :=
 match ts with
 | [t]=>match ti P t with
  | some T=>match T.kind,x with
   | .str,.s l=>some (True,.g (.int .i64 l.length),[])
   | .slice _,.arr _ _ len=>some (True,.g (.int .i64 len),[])
   | .slice _,.sl _ xs=>some (True,.g (.int .i64 xs.length),[])
   | .slice _,.g (.slice _ n _)=>some (True,.g (.int .i64 n),[])
   | .array n _,_=>some (True,.g (.int .i64 n),[])
   | _,_=>none
  | none=>none
 | _=>none
def aAppend(P:Program)(st:St)(nm:Nat)(ts:List TypeId)(s x:AV):ARes :=
 match ts with
 | [t,u]=>match ti P t with
  | some T=>match T.kind with
   | .slice e=>match ti P e with
    | some E=>match aNews st E.size x with
     | some (p,ys)=>match s with
      | .g (.slice none 0 0)=>some (p∧(st.ob nm).isNone=true∧t=u∧0<E.size∧E.zero.length=E.size∧ys.length*E.bytes≤2^47∧ys.length<2^62,.arr nm 0 ys.length,[(nm,.flat E.size ys)])
      | .arr n 0 len=>match st.ob n with
       | some (.flat sz xs)=>if sz=E.size then some (p∧(st.ob nm).isNone=true∧t=u∧0<E.size∧E.zero.length=E.size∧len≤xs.length∧(len+ys.length)*E.bytes≤2^47∧len+ys.length<2^62,
        .arr nm 0 (len+ys.length),[(n,.dead),(nm,.flat E.size (xs.take len++ys))]) else none
       | _=>none
      | _=>none
     | none=>none
    | none=>none
   | _=>none
  | none=>none
 | _=>none
def aBuiltin(P:Program)(st:St)(nm:Nat)(b:Builtin)(ts:List TypeId)(args:List AV):ARes :=
 match b,args with
 | .len,[x]=>aLen P ts x
 | .append,[s,x]=>aAppend P st nm ts s x
 | .max,[.g (.int .i64 a),.g (.int .i64 b)]=>some (True,.g (.int .i64 (if b > a then b else a)),[])
 | .min,[.g (.int .i64 a),.g (.int .i64 b)]=>some (True,.g (.int .i64 (if b<a then b else a)),[])
 | _,_=>none
end Go.Proofs.YtodmafgmdlkhoaaDoor.Vs
end
section
namespace Go.Proofs.YtodmafgmdlkhoaaDoor.Vs
set_option linter.all false
variable {P:Program}
theorem zj0{w:World}{I:Nat→Prop}{b sz:Nat}:∀(xs:List (List AV)) (o i:Nat) (x:List AV),RIe w I b sz o xs→xs[i]? = some x→x.length=sz∧RIc w I b (o+i*sz) x
 | [],_,_,_,_,h=>by simp at h
 | y :: ys,o,0,x,h,hx=>by
  rw [RIe] at h
  simp only [List.getElem?_cons_zero,Option.some.injEq] at hx
  subst hx
  simpa using ⟨h.1,h.2.1⟩
 | y :: ys,o,i+1,x,h,hx=>by
  rw [RIe] at h
  have:=zj0 ys (o+sz) i x h.2.2 (by simpa using hx)
  rwa [show o+sz+i*sz=o+(i+1)*sz by rw [Nat.add_mul];omega] at this
theorem zd2{w:World}{I:Nat→Prop}{b sz:Nat}:∀(xs:List (List AV)) (o n:Nat),RIe w I b sz o xs→RIe w I b sz o (xs.take n)
 | [],_,_,_=>by simp [RIe]
 | y :: ys,o,0,_=>by simp [RIe]
 | y :: ys,o,n+1,h=>by
  rw [RIe] at h
  rw [List.take_succ_cons,RIe]
  exact ⟨h.1,h.2.1,zd2 ys (o+sz) n h.2.2⟩
theorem zgg{w:World}{I:Nat→Prop}{b sz:Nat}:∀(xs:List (List AV)) (o n:Nat),RIe w I b sz o xs→RIe w I b sz (o+n*sz) (xs.drop n)
 | [],_,_,_=>by simp [RIe]
 | y :: ys,o,0,h=>by simpa using h
 | y :: ys,o,n+1,h=>by
  rw [RIe] at h
  have:=zgg ys (o+sz) n h.2.2
  rwa [show o+sz+n*sz=o+(n+1)*sz by rw [Nat.add_mul];omega] at this
theorem znl{w:World}{I:Nat→Prop}{b sz:Nat}:∀(xs ys:List (List AV)) (o:Nat),RIe w I b sz o xs→RIe w I b sz (o+xs.length*sz) ys→RIe w I b sz o (xs++ys)
 | [],ys,o,_,h=>by simpa using h
 | x :: xs,ys,o,h,h'=>by
  rw [RIe] at h
  rw [List.cons_append,RIe]
  refine ⟨h.1,h.2.1,znl xs ys (o+sz) h.2.2 ?_⟩
  rwa [List.length_cons,show o+(xs.length+1)*sz=o+sz+xs.length*sz by rw [Nat.add_mul];omega] at h'
theorem zlu{w:World}{I:Nat→Prop}{β:Beta}:∀(c:AV) (v:Value),RI w I c v→Rv1 w I β c v
 | .g _,_,h=>by rw [RI] at h;exact h.1
 | .s _,_,h=>by rw [RI] at h;exact h
 | .sl _ _,_,h=>h
 | .agg ..,_,h | .ot ..,_,h | .arr ..,_,h | .ptr ..,_,h | .eptr ..,_,h | .ip ..,_,h | .fn ..,_,h | .tup ..,_,h | .undef,_,h=>by simp [RI] at h
theorem ztc{w:World}{I:Nat→Prop}{β:Beta}{b:Nat}:∀(cs:List AV) (o:Nat),RIc w I b o cs→Rcs w I β b o cs
 | [],_,_=>trivial
 | c :: cs,o,h=>by
  rw [RIc] at h
  obtain ⟨⟨v,h1,h2⟩,h3⟩:=h
  exact ⟨⟨v,h1,zlu c v h2⟩,ztc cs (o+1) h3⟩
theorem ztd{w:World}{I:Nat→Prop}{β:Beta}{b:Nat}:∀(cs:List AV) (o:Nat),RJc w I β b o cs→Rcs w I β b o cs
 | [],_,_=>trivial
 | c :: cs,o,⟨⟨v,h1,h2,_⟩,h3⟩=>⟨⟨v,h1,h2⟩,ztd cs (o+1) h3⟩
theorem zht{w:World}{I:Nat→Prop}{β:Beta}{b sz:Nat}:∀(xs:List (List AV)) (o i:Nat) (x:List AV),RJe w I β b sz o xs→xs[i]? = some x→x.length=sz∧RJc w I β b (o+i*sz) x
 | [],_,_,_,_,h=>by simp at h
 | y :: ys,o,0,x,h,hx=>by
  simp only [List.getElem?_cons_zero,Option.some.injEq] at hx
  subst hx
  simpa using ⟨h.1,h.2.1⟩
 | y :: ys,o,i+1,x,h,hx=>by
  have:=zht ys (o+sz) i x h.2.2 (by simpa using hx)
  rwa [show o+sz+i*sz=o+(i+1)*sz by rw [Nat.add_mul];omega] at this
theorem zfa{w:World}{I:Nat→Prop}{β:Beta}{b sz:Nat}:∀(xs:List (List AV)) (o n:Nat),RJe w I β b sz o xs→RJe w I β b sz o (xs.take n)
 | [],_,_,_=>by simp [RJe]
 | y :: ys,o,0,_=>by simp [RJe]
 | y :: ys,o,n+1,h=>⟨h.1,h.2.1,zfa ys (o+sz) n h.2.2⟩
theorem zk4{w:World}{I:Nat→Prop}{β:Beta}{b sz:Nat}:∀(xs:List (List AV)) (o n:Nat),RJe w I β b sz o xs→RJe w I β b sz (o+n*sz) (xs.drop n)
 | [],_,_,_=>by simp [RJe]
 | y :: ys,o,0,h=>by simpa using h
 | y :: ys,o,n+1,h=>by
  have:=zk4 ys (o+sz) n h.2.2
  rwa [show o+sz+n*sz=o+(n+1)*sz by rw [Nat.add_mul];omega] at this
theorem znm{w:World}{I:Nat→Prop}{β:Beta}{b sz:Nat}:∀(xs ys:List (List AV)) (o:Nat),RJe w I β b sz o xs→RJe w I β b sz (o+xs.length*sz) ys→RJe w I β b sz o (xs++ys)
 | [],ys,o,_,h=>by simpa using h
 | x :: xs,ys,o,h,h'=>by
  refine ⟨h.1,h.2.1,znm xs ys (o+sz) h.2.2 ?_⟩
  rwa [List.length_cons,show o+(xs.length+1)*sz=o+sz+xs.length*sz by rw [Nat.add_mul];omega] at h'
theorem zk5{w:World}{I:Nat→Prop}{b:Nat}:∀(cs:List AV) (o n:Nat),RIc w I b o cs→RIc w I b (o+n) (cs.drop n)
 | [],_,_,_=>by simp [RIc]
 | c :: cs,o,0,h=>by simpa using h
 | c :: cs,o,n+1,h=>by
  rw [RIc] at h
  have:=zk5 cs (o+1) n h.2
  rwa [show o+1+n=o+(n+1) by omega] at this
theorem zk6{w:World}{I:Nat→Prop}{β:Beta}{b:Nat}:∀(cs:List AV) (o n:Nat),Rcs w I β b o cs→Rcs w I β b (o+n) (cs.drop n)
 | [],_,_,_=>by simp [Rcs]
 | c :: cs,o,0,h=>by simpa using h
 | c :: cs,o,n+1,h=>by
  have:=zk6 cs (o+1) n h.2
  rwa [show o+1+n=o+(n+1) by omega] at this
theorem zv9{w:World}{I:Nat→Prop}{β:Beta}{b:Nat}:∀(cs:List AV) (o n:Nat),Rcs w I β b o cs→Rcs w I β b o (cs.take n)
 | [],_,_,_=>by simp [Rcs]
 | c :: cs,o,0,h=>trivial
 | c :: cs,o,n+1,h=>⟨h.1,zv9 cs (o+1) n h.2⟩
theorem zpb{w:World}{I:Nat→Prop}{β:Beta}{b:Nat}:∀(cs:List AV) (o:Nat),Rcs w I β b o cs →
 ∃vs:List Value,vs.length=cs.length∧Rv1s w I β cs vs∧∀j v,vs[j]? = some v→w.cell? ⟨b,o+j,none⟩=some v
 | [],_,_=>⟨[],rfl,rfl,by simp⟩
 | c :: cs,o,h=>by
  obtain ⟨⟨v,hv,hr⟩,h2⟩:=h
  obtain ⟨vs,hl,hr2,hc⟩:=zpb cs (o+1) h2
  refine ⟨v :: vs,by simp [hl],⟨v,vs,rfl,hr,hr2⟩,?_⟩
  intro j x hx
  cases j with
  | zero=>simp at hx;subst hx;simpa using hv
  | succ j=>have:=hc j x (by simpa using hx);rwa [show o+1+j=o+(j+1) by omega] at this
def scal0:AV→Bool
 | .g _=>true
 | .s _=>true
 | _=>false
def scR(xs:List (List AV)):Bool:=xs.all (·.all scal0)
theorem zd8{α:Type}(f:α→List AV)(h:∀x,(f x).all scal0=true)(l:List α):scR (l.map f)=true:=by
 unfold scR
 rw [List.all_eq_true]
 intro x hx
 obtain ⟨a,-,rfl⟩:=List.mem_map.1 hx
 exact h a
theorem scR_nil:scR []=true:=rfl
theorem RI_one1{w:World}{I:Nat→Prop}:∀(c:AV) (v:Value),RI w I c v→v.oneCell'=true
 | .g v,_,h=>by rw [RI] at h;rw [h.1];exact h.2
 | .s _,_,h=>by rw [RI] at h;rw [h];rfl
 | .sl _ _,_,h=>by rw [RI] at h;obtain ⟨a,cap,rfl,-⟩:=h;rfl
 | .agg ..,_,h | .ot ..,_,h | .arr ..,_,h | .ptr ..,_,h | .eptr ..,_,h | .ip ..,_,h | .fn ..,_,h | .tup ..,_,h | .undef,_,h=>by simp [RI] at h
theorem RIc_RJc{w:World}{I:Nat→Prop}{β:Beta}{b:Nat}:∀(cs:List AV) (o:Nat),RIc w I b o cs→RJc w I β b o cs
 | [],_,_=>trivial
 | c :: cs,o,h=>by
  rw [RIc] at h
  obtain ⟨⟨v,h1,h2⟩,h3⟩:=h
  exact ⟨⟨v,h1,zlu c v h2,RI_one1 c v h2⟩,RIc_RJc cs (o+1) h3⟩
theorem zgh{w:World}{I:Nat→Prop}{β:Beta}{b sz:Nat}:∀(xs:List (List AV)) (o:Nat),RIe w I b sz o xs→RJe w I β b sz o xs
 | [],_,_=>trivial
 | x :: xs,o,h=>by
  rw [RIe] at h
  exact ⟨h.1,RIc_RJc x o h.2.1,zgh xs (o+sz) h.2.2⟩
theorem scal0_RW{w:World}{I:Nat→Prop}{β:Beta}:∀(c:AV) (v:Value),scal0 c=true→Rv1 w I β c v→v.oneCell'=true→RW w c v []
 | .g v,_,_,h,h1=>by rw [RW];cases h;exact ⟨rfl,h1,rfl⟩
 | .s _,_,_,h,_=>by rw [RW];exact ⟨h,rfl⟩
 | .agg ..,_,h,_,_ | .ot ..,_,h,_,_ | .arr ..,_,h,_,_ | .ptr ..,_,h,_,_ | .eptr ..,_,h,_,_ | .ip ..,_,h,_,_ | .fn ..,_,h,_,_ | .tup ..,_,h,_,_ | .undef,_,h,_,_ | .sl ..,_,h,_,_=>by simp [scal0] at h
theorem zwa{w:World}{I:Nat→Prop}{β:Beta}:∀(c:AV) (v:Value) (F:List Nat),scal0 c=true→RW w c v F→Rv1 w I β c v∧v.oneCell'=true∧F=[]
 | .g v,_,_,_,h=>by rw [RW] at h;exact ⟨h.1,by rw [h.1];exact h.2.1,h.2.2⟩
 | .s _,_,_,_,h=>by rw [RW] at h;exact ⟨h.1,by rw [h.1];rfl,h.2⟩
 | .agg ..,_,_,h,_ | .ot ..,_,_,h,_ | .arr ..,_,_,h,_ | .ptr ..,_,_,h,_ | .eptr ..,_,_,h,_ | .ip ..,_,_,h,_ | .fn ..,_,_,h,_ | .tup ..,_,_,h,_ | .undef,_,_,h,_ | .sl ..,_,_,h,_=>by simp [scal0] at h
theorem RJc_RWc{w:World}{I:Nat→Prop}{β:Beta}{b:Nat}:∀(cs:List AV) (o:Nat),cs.all scal0=true→RJc w I β b o cs→RWc w b o cs []
 | [],_,_,_=>by simp [RWc]
 | c :: cs,o,hs,⟨⟨v,h1,h2,h3⟩,h4⟩=>by
  simp only [List.all_cons,Bool.and_eq_true] at hs
  rw [RWc]
  exact ⟨[],[],rfl,⟨v,h1,scal0_RW c v hs.1 h2 h3⟩,RJc_RWc cs (o+1) hs.2 h4⟩
theorem zfv{w:World}{I:Nat→Prop}{β:Beta}{b sz:Nat}:∀(xs:List (List AV)) (o:Nat),xs.all (·.all scal0)=true→RJe w I β b sz o xs→RWe w b sz o xs []
 | [],_,_,_=>by simp [RWe]
 | x :: xs,o,hs,h=>by
  simp only [List.all_cons,Bool.and_eq_true] at hs
  rw [RWe]
  exact ⟨[],[],rfl,h.1,RJc_RWc x o hs.1 h.2.1,zfv xs (o+sz) hs.2 h.2.2⟩
theorem zte{w:World}{I:Nat→Prop}{β:Beta}{b:Nat}:∀(cs:List AV) (o:Nat) (F:List Nat),cs.all scal0=true→RWc w b o cs F→RJc w I β b o cs∧F=[]
 | [],_,F,_,h=>by rw [RWc] at h;exact ⟨trivial,h⟩
 | c :: cs,o,F,hs,h=>by
  simp only [List.all_cons,Bool.and_eq_true] at hs
  rw [RWc] at h
  obtain ⟨F1,F2,rfl,⟨v,h1,h2⟩,h3⟩:=h
  obtain ⟨g1,g2,rfl⟩:=zwa (I:=I) (β:=β) c v F1 hs.1 h2
  obtain ⟨g3,rfl⟩:=zte (I:=I) (β:=β) cs (o+1) F2 hs.2 h3
  exact ⟨⟨⟨v,h1,g1,g2⟩,g3⟩,rfl⟩
theorem zlv{w:World}{I:Nat→Prop}{β:Beta}{b sz:Nat}:∀(xs:List (List AV)) (o:Nat) (F:List Nat),xs.all (·.all scal0)=true→RWe w b sz o xs F→RJe w I β b sz o xs∧F=[]
 | [],_,F,_,h=>by rw [RWe] at h;exact ⟨trivial,h⟩
 | x :: xs,o,F,hs,h=>by
  simp only [List.all_cons,Bool.and_eq_true] at hs
  rw [RWe] at h
  obtain ⟨F1,F2,rfl,h1,h2,h3⟩:=h
  obtain ⟨g1,rfl⟩:=zte (I:=I) (β:=β) x o F1 hs.1 h2
  obtain ⟨g2,rfl⟩:=zlv (I:=I) (β:=β) xs (o+sz) F2 hs.2 h3
  exact ⟨⟨h1,g1,g2⟩,rfl⟩
theorem RJe_scal{w:World}{I I':Nat→Prop}{β β':Beta}{b sz:Nat}(xs:List (List AV))(o:Nat)(hs:xs.all (·.all scal0)=true)(h:RJe w I β b sz o xs):RJe w I' β' b sz o xs :=
 (zlv xs o [] hs (zfv xs o hs h)).1
theorem zgs{w:World}{I:Nat→Prop}{β:Beta}:∀(c:AV) (v:Value),Rv1 w I β c v→Rv w I β c v
 | .g _,_,h=>h | .s _,_,h=>h | .sl _ _,_,h=>h | .arr ..,_,h=>h | .ptr ..,_,h=>h | .eptr ..,_,h=>h | .ip ..,_,h=>h | .fn ..,_,h=>h
 | .undef,_,_=>trivial
 | .agg ..,_,h | .ot ..,_,h | .tup ..,_,h=>h.elim
theorem zh2{w:World}{I:Nat→Prop}{β:Beta}:∀(c:AV) (v:Value),Rv2 w I β c v→Rv w I β c v
 | .g _,_,h=>h | .s _,_,h=>h | .sl _ _,_,h=>h | .arr ..,_,h=>h | .ptr ..,_,h=>h | .eptr ..,_,h=>h | .ip ..,_,h=>h | .fn ..,_,h=>h
 | .undef,_,_=>trivial
 | .agg ..,_,h=>h
 | .ot ..,_,h | .tup ..,_,h=>h.elim
theorem Rv_cv{w:World}{I:Nat→Prop}{β:Beta}(v:Value):Rv w I β (cv v) v:=by
 cases v<;>first | rfl|(simp [cv,Rv,Rv2,Rv1,Rv0])
theorem zfj{w:World}{I:Nat→Prop}{β:Beta}{st:St}{a:Act}(h:∀t,Rv w I β (st.env t) (a.tmps.getD t undef))(hg:GW w I):∀x,Rv w I β (ev st x) (a.eval x)
 | .tmp t=>h t
 | .const v=>Rv_cv v
 | .func f=>⟨[],[],rfl,rfl,rfl⟩
 | .global g=>by
  show Rv w I β (gv g) (.pointer (some ⟨g,0,none⟩))
  rcases gv_spec g with h | ⟨cs,h,h2⟩
  ·rw [h];trivial
  ·rw [h]
   exact ⟨g,0,rfl,(h2 w I hg).1,(h2 w I hg).2⟩
theorem zb6{t:TypeId}{T:TI}(h:ti P t=some T):∃d i z,P.underlying t=some d∧P.info? t=some i∧i.zero=some z∧T = { agg:=aggOf d,size:=i.size,bytes:=i.bytes,zero:=z.cells.toList.map cv,kind:=tkOf d }:=by
 unfold ti at h
 split at h
 ·rename_i d i hd hi
  split at h
  ·rename_i z hz
   exact ⟨d,i,z,hd,hi,hz,by simpa using h.symm⟩
  ·cases h
 ·cases h
section
variable {C:Cx}{st:St}{a:Act}{w:World}{I:Nat→Prop}{β:Beta}{φ:Nat→List Nat}
theorem zkm(hC:Conc C st a w I β φ){av:AV}{x:Value}{cs:List AV}(hx:Rv w I β av x)(h:cellsAt st av=some cs) :
 ∃b o,x=.pointer (some ⟨b,o,none⟩)∧Rcs w I β b o cs:=by
 unfold cellsAt at h
 split at h
 ·rename_i n off
  split at h
  ·rename_i cs' hob
   obtain ⟨bl,hb,rfl⟩:=hx
   obtain ⟨bl',hb',-,-,hr⟩:=hC.ob _ _ hob
   rw [hb] at hb';cases hb'
   cases h
   exact ⟨_,_,rfl,zk6 _ _ _ hr⟩
  ·rename_i cs' hob
   obtain ⟨bl,hb,rfl⟩:=hx
   obtain ⟨bl',hb',-,hr⟩:=hC.ob _ _ hob
   rw [hb] at hb';cases hb'
   cases h
   exact ⟨_,_,rfl,zk6 _ _ _ hr⟩
  ·cases h
 ·rename_i n i f
  obtain ⟨bl,hb,rfl⟩:=hx
  have key:∀xs:List (List AV),(xs=[]∨RIe w I bl.b bl.sz bl.o xs)→Rcs w I β bl.b (bl.o+(i*bl.sz+f)) ((xs.getD i []).drop f):=by
   intro xs hr
   rw [List.getD_eq_getElem?_getD]
   cases hxi:xs[i]? with
   | none=>simp [Rcs]
   | some y =>
    rcases hr with rfl | hr
    ·simp at hxi
    ·have:=ztc (β:=β) _ _ (zk5 _ _ f (zj0 xs _ i y hr hxi).2)
     simpa [Nat.add_assoc] using this
  split at h
  ·rename_i sz xs hob
   obtain ⟨bl',hb',h1,h2,h3,h4⟩:=hC.ob _ _ hob
   rw [hb] at hb';cases hb'
   cases h
   subst h1
   refine ⟨_,_,rfl,key xs ?_⟩
   rcases h4 with h4 | ⟨-,-,h4⟩
   ·exact .inl (List.length_eq_zero_iff.1 (by omega))
   ·exact .inr (by rw [h2];exact h4)
  ·rename_i sz xs hob
   obtain ⟨bl',hb',h1,h2,h3,-,h4⟩:=hC.ob _ _ hob
   rw [hb] at hb';cases hb'
   cases h
   subst h1
   refine ⟨_,_,rfl,key xs ?_⟩
   rcases h4 with h4 | ⟨-,h4⟩
   ·exact .inl (List.length_eq_zero_iff.1 (by omega))
   ·exact .inr (by rw [h2];exact h4)
  ·rename_i sz xs hob
   obtain ⟨bl',hb',h1,h2,h3,h4⟩:=hC.ob _ _ hob
   rw [hb] at hb';cases hb'
   cases h
   subst h1
   refine ⟨_,_,rfl,?_⟩
   rw [List.getD_eq_getElem?_getD]
   cases hxi:xs[i]? with
   | none=>simp [Rcs]
   | some y =>
    rcases h4 with ⟨h4,-⟩ | ⟨-,-,h4⟩
    ·have:=(List.getElem?_eq_some_iff.1 hxi).1;omega
    ·have:=zk6 _ _ f (ztd (β:=β) _ _ (zht xs _ i y h4 hxi).2)
     rw [h2]
     simpa [Nat.add_assoc] using this
  ·cases h
 ·obtain ⟨b,o,rfl,-,hr⟩:=hx
  cases h
  exact ⟨b,o,rfl,ztc _ _ hr⟩
 ·cases h
theorem zd5{t:TypeId}{d:TypeDesc}(h:P.underlying t=some d):(isAgg t).run P w=.ok (aggOf d) w:=by
 simp only [isAgg,Sem.run_bind,run_underlying h,Result.andThen]
 cases d<;>rfl
theorem znn(hC:Conc C st a w I β φ){t:TypeId}{av v:AV}{x:Value}{c:Prop}{u:Ups}(hx:Rv w I β av x)(h:aLoad P st t av=some (c,v,u))(hc:c) :
 u=[]∧∃y,(Instr.loadAt t x).run P w=.ok y w∧Rv w I β v y:=by
 unfold aLoad at h
 split at h
 ·rename_i T cs hT hcs
  obtain ⟨d,i,z,hd,hi,hz,rfl⟩:=zb6 hT
  obtain ⟨b,o,rfl,hr⟩:=zkm hC hx hcs
  simp only at h
  split at h
  ·rename_i hag
   cases h
   refine ⟨rfl,?_⟩
   obtain ⟨vs,hl,hvs,hcell⟩:=zpb _ _ (zv9 _ _ i.size hr)
   have hlen:vs.length=i.size:=by rw [hl,List.length_take];omega
   refine ⟨.agg ⟨vs⟩,?_,⟨vs,rfl,hvs⟩⟩
   have hload:=run_loadCells_list (P:=P) w ⟨b,o,none⟩ vs (λj v hv=>by rw [Addr.add_lit];exact hcell j v hv)
   rw [hlen] at hload
   simp [Instr.loadAt,Instr.sureAddr,loadVar,zd5 hd,hag,sizeOf,typeInfo,hi,hload]
  ·rename_i hag
   split at h
   ·rename_i c0 rest
    cases h
    refine ⟨rfl,?_⟩
    obtain ⟨⟨y,hy,hry⟩,-⟩:=hr
    refine ⟨y,?_,zgs _ _ hry⟩
    have hag':aggOf d=false:=by simpa using hag
    simp [Instr.loadAt,Instr.sureAddr,loadVar,zd5 hd,hag',hy]
   ·cases h
 ·cases h
end
end Go.Proofs.YtodmafgmdlkhoaaDoor.Vs
end
section
namespace Go.Proofs.YtodmafgmdlkhoaaDoor.Vs
set_option linter.all false
open Go.RowKit
variable {P:Program}
def updL(ob:Nat→Option OB)(u:Ups):Nat→Option OB:=u.foldl (λf p=>upd f p.1 (some p.2)) ob
theorem zk7(ob:Nat→Option OB):updL ob []=ob:=rfl
theorem zcd(ob:Nat→Option OB)(p:Nat × OB)(u:Ups):updL ob (p :: u)=updL (upd ob p.1 (some p.2)) u:=rfl
theorem zc2(ob:Nat→Option OB)(u u':Ups):updL ob (u++u')=updL (updL ob u) u':=by simp [updL]
theorem zqz{ob:Nat→Option OB}:∀ {u:Ups} {n:Nat},updL ob u n=none→ob n=none
 | [],_,h=>h
 | p :: u,n,h=>by
  rw [zcd] at h
  have:=zqz h
  by_cases hn:n=p.1
  ·subst hn;simp [zbd] at this
  ·rwa [zbb _ _ hn] at this
section
variable {C:Cx}{st:St}{a:Act}{w:World}{I:Nat→Prop}{β:Beta}{φ:Nat→List Nat}
theorem zdj(w:World)(o:Obj){b:Nat}(hb:b<w.heap.size):(w.alloc o).heap[b]? = w.heap[b]?:=Below.heap_alloc w o b hb
theorem zcp(w:World)(o:Obj):(w.alloc o).heap[w.heap.size]? = some o:=by show (w.heap.push o)[w.heap.size]? = _;simp
theorem zno(w:World)(o:Obj):(w.alloc o).heap.size=w.heap.size+1:=by show (w.heap.push o).size=_;simp
theorem evo_alloc(S:Nat→Prop)(w:World)(o:Obj):Evo S w (w.alloc o):=⟨rfl,rfl,rfl,by rw [zno];omega,λ_ hb _=>zdj w o hb,Nat.le_refl _⟩
theorem evo_drew(S:Nat→Prop)(w:World):Evo S w w.drew:=(Evo.refl S w).drew
theorem Conc.drew(h:Conc C st a w I β φ):Conc C st a w.drew I β φ :=
 h.move (ob':=st.ob) (λ_=>False) (evo_drew _ w) (λ_ hf=>hf.elim) (λ_ hb=>hb) (λ_ hb=>.inl hb) (λ_ _ hb=>hb) (λ_ _ ho=>.inl ⟨ho,rfl,λ_ _ hf=>hf⟩) h.dom h.fdom h.sep h.nimm h.flt h.wok h.fnew
theorem Conc.new(h:Conc C st a w I β φ){nm:Nat}(hn:st.ob nm=none)(o:Obj)(ob:OB)(bl:Bl)
 (hro:∀I',(∀b,I b→I' b)→RO (w.alloc o) I' (upd β nm (some bl)) nm ob [w.heap.size]) :
 Conc C { st with ob:=upd st.ob nm (some ob) } a (w.alloc o) I (upd β nm (some bl)) (upd φ nm [w.heap.size]):=by
 have hβn:β nm=none:=h.dom nm hn
 refine h.move (λ_=>False) (evo_alloc _ w o) (λ_ hf=>hf.elim) (λ_ hb=>hb) (λ_ hb=>.inl hb) ?_ ?_ ?_ ?_ ?_ ?_ ?_ ?_ ?_
 ·intro n bl' hb
  rw [zbb]
  ·exact hb
  ·rintro rfl;rw [hβn] at hb;cases hb
 ·intro n o' ho
  by_cases hnn:n=nm
  ·subst hnn
   simp only [zbd,Option.some.injEq] at ho ⊢
   subst ho
   exact .inr (hro I λ_ hb=>hb)
  ·rw [zbb _ _ hnn] at ho
   exact .inl ⟨ho,zbb _ _ hnn,λ_ _ hf=>hf⟩
 ·intro n ho
  have hnn:n≠nm:=by rintro rfl;simp [zbd] at ho
  rw [zbb _ _ hnn] at ho ⊢
  exact h.dom n ho
 ·intro n ho
  have hnn:n≠nm:=by rintro rfl;simp [zbd] at ho
  rw [zbb _ _ hnn] at ho ⊢
  exact h.fdom n ho
 ·intro n m hnm b hb hb'
  by_cases h1:n=nm
  ·subst h1
   rw [zbd] at hb
   rw [zbb _ _ (Ne.symm hnm)] at hb'
   have:=(h.flt m b hb').1
   simp at hb;omega
  ·rw [zbb _ _ h1] at hb
   by_cases h2:m=nm
   ·subst h2
    rw [zbd] at hb'
    have:=(h.flt n b hb).1
    simp at hb';omega
   ·rw [zbb _ _ h2] at hb'
    exact h.sep n m hnm b hb hb'
 ·intro n b hb hi
  by_cases h1:n=nm
  ·subst h1
   rw [zbd] at hb
   have:=h.immLt b hi
   simp at hb;omega
  ·rw [zbb _ _ h1] at hb
   exact h.nimm n b hb hi
 ·intro n b hb
  rw [zno]
  by_cases h1:n=nm
  ·subst h1
   rw [zbd] at hb
   simp at hb;subst hb
   exact ⟨by omega,.inr (.inr h.evo.size)⟩
  ·rw [zbb _ _ h1] at hb
   have:=h.flt n b hb
   exact ⟨by omega,this.2⟩
 ·intro n cs ho hwr b hb hy
  by_cases h1:n=nm
  ·subst h1
   rw [zbd] at hb
   simp at hb;subst hb
   have:=h.ylt _ hy
   have:=h.evo.size
   omega
  ·rw [zbb _ _ h1] at hb ho
   exact h.wok n cs ho hwr b hb hy
 ·intro n sz xs ho b hb
  by_cases h1:n=nm
  ·subst h1
   rw [zbd] at hb
   simp at hb;subst hb
   exact h.evo.size
  ·rw [zbb _ _ h1] at hb ho
   exact h.fnew n sz xs ho b hb
theorem Conc.write(h:Conc C st a w I β φ){n:Nat}{w':World}(ob:OB)(hob:st.ob n≠none)(hnew:∀sz xs,ob=.flat sz xs→∀b,b∈φ n→C.w0.heap.size≤b)(hY:∀b,b∈φ n→¬C.Y b)(hev:Evo (· ∈ φ n) w w') 
 (hro:RO w' I β n ob (φ n)) :
 Conc C { st with ob:=upd st.ob n (some ob) } a w' I β φ:=by
 have hdom:∀m,upd st.ob n (some ob) m=none→st.ob m=none:=by
  intro m ho
  by_cases hm:m=n
  ·subst hm;simp [zbd] at ho
  ·rwa [zbb _ _ hm] at ho
 refine h.move (· ∈ φ n) hev (λb hb=>⟨n,hb,hY b hb⟩) (λ_ hb=>hb) (λ_ hb=>.inl hb) (λ_ _ hb=>hb) ?_ (λm ho=>h.dom m (hdom m ho)) (λm ho=>h.fdom m (hdom m ho)) h.sep h.nimm
  (λm b hb=>⟨Nat.lt_of_lt_of_le (h.flt m b hb).1 hev.size,(h.flt m b hb).2⟩) ?_ ?_
 case refine_2 =>
  intro m cs ho hwr b hb
  by_cases hm:m=n
  ·subst hm;exact hY b hb
  ·rw [zbb _ _ hm] at ho
   exact h.wok m cs ho hwr b hb
 case refine_3 =>
  intro m sz xs ho b hb
  by_cases hm:m=n
  ·subst hm
   simp only [zbd,Option.some.injEq] at ho
   exact hnew sz xs ho b hb
  ·rw [zbb _ _ hm] at ho
   exact h.fnew m sz xs ho b hb
 intro m o ho
 by_cases hm:m=n
 ·subst hm
  simp only [zbd,Option.some.injEq] at ho
  subst ho
  exact .inr hro
 ·rw [zbb _ _ hm] at ho
  exact .inl ⟨ho,rfl,λb hb hb'=>h.sep m n hm b hb hb'⟩
theorem Conc.freeze(h:Conc C st a w I β φ){n sz:Nat}{xs:List (List AV)}(hob:st.ob n=some (.flat sz xs)) :
 ∃I',(∀b,I b→I' b)∧Conc C { st with ob:=upd st.ob n (some (.shared sz xs)) } a w I' β (upd φ n []):=by
 obtain ⟨bl,h1,h2,h3,h4,h5⟩:=h.ob n _ hob
 have hX:∀b,b∈φ n→¬C.X b:=λb hb hx=>by
  have:=h.fnew n _ _ hob b hb
  have:=h.xlt b hx
  omega
 have hφ:∀m b,b∈upd φ n [] m→m≠n∧b∈φ m:=by
  intro m b hb
  by_cases hm:m=n
  ·subst hm;simp [zbd] at hb
  ·rw [zbb _ _ hm] at hb;exact ⟨hm,hb⟩
 refine ⟨λb=>I b∨b∈φ n,λb hb=>.inl hb,?_⟩
 have hdom:∀m,upd st.ob n (some (OB.shared sz xs)) m=none→st.ob m=none:=by
  intro m ho
  by_cases hm:m=n
  ·subst hm;simp [zbd] at ho
  ·rwa [zbb _ _ hm] at ho
 refine h.move (λ_=>False) (Evo.refl _ w) (λ_ hf=>hf.elim) (λb hb=>.inl hb) ?_ (λ_ _ hb=>hb) ?_ (λm ho=>h.dom m (hdom m ho)) ?_ ?_ ?_ ?_ ?_ ?_
 ·rintro b (hb | hb)
  ·exact .inl hb
  ·have:=h.flt n b hb
   exact .inr (.inr ⟨this.1,h.fnew n _ _ hob b hb⟩)
 ·intro m o ho
  by_cases hm:m=n
  ·subst hm
   simp only [zbd,Option.some.injEq] at ho
   subst ho
   refine .inr ⟨bl,h1,h2,h3,h4,by rw [zbd],?_⟩
   rcases h5 with ⟨h5,-⟩ | ⟨h5,-,h6⟩
   ·exact .inl h5
   ·exact .inr ⟨.inr (by rw [h5];simp),zlt (λb hb=>.inl hb) (λ_ _=>rfl) _ rfl _ _ _ h6⟩
  ·rw [zbb _ _ hm] at ho
   exact .inl ⟨ho,zbb _ _ hm,λ_ _ hf=>hf⟩
 ·intro m ho
  by_cases hm:m=n
  ·subst hm;rw [zbd]
  ·rw [zbb _ _ hm];exact h.fdom m (hdom m ho)
 ·intro m k hmk b hb hb'
  exact h.sep m k hmk b (hφ m b hb).2 (hφ k b hb').2
 ·intro m b hb hi
  obtain ⟨hm,hb⟩:=hφ m b hb
  rcases hi with hi | hi
  ·exact h.nimm m b hb hi
  ·exact h.sep m n hm b hb hi
 ·intro m b hb
  exact h.flt m b (hφ m b hb).2
 ·intro m cs ho hwr b hb
  obtain ⟨hm,hb⟩:=hφ m b hb
  rw [zbb _ _ hm] at ho
  exact h.wok m cs ho hwr b hb
 ·intro m sz xs ho b hb
  obtain ⟨hm,hb⟩:=hφ m b hb
  rw [zbb _ _ hm] at ho
  exact h.fnew m sz xs ho b hb
end
end Go.Proofs.YtodmafgmdlkhoaaDoor.Vs
end
section
namespace Go.Proofs.YtodmafgmdlkhoaaDoor.Vs
set_option linter.all false
open Go.RowKit
variable {P:Program}
theorem zhu{w:World}{I:Nat→Prop}{b:Nat}:∀(cs:List AV) (o:Nat),RIc w I b o cs↔∀j c,cs[j]? = some c→∃v,w.cell? ⟨b,o+j,none⟩=some v∧RI w I c v
 | [],o=>by simp [RIc]
 | c :: cs,o=>by
  rw [RIc,zhu cs (o+1)]
  constructor
  ·rintro ⟨h1,h2⟩ j x hx
   cases j with
   | zero=>simp at hx;subst hx;simpa using h1
   | succ j=>have:=h2 j x (by simpa using hx);rwa [show o+1+j=o+(j+1) by omega] at this
  ·intro h
   refine ⟨by simpa using h 0 c rfl,λj x hx=>?_⟩
   have:=h (j+1) x (by simpa using hx)
   rwa [show o+(j+1)=o+1+j by omega] at this
theorem zj1{w:World}{I:Nat→Prop}{β:Beta}{b:Nat}:∀(cs:List AV) (o:Nat),Rcs w I β b o cs↔∀j c,cs[j]? = some c→∃v,w.cell? ⟨b,o+j,none⟩=some v∧Rv1 w I β c v
 | [],o=>by simp [Rcs]
 | c :: cs,o=>by
  rw [Rcs,zj1 cs (o+1)]
  constructor
  ·rintro ⟨h1,h2⟩ j x hx
   cases j with
   | zero=>simp at hx;subst hx;simpa using h1
   | succ j=>have:=h2 j x (by simpa using hx);rwa [show o+1+j=o+(j+1) by omega] at this
  ·intro h
   refine ⟨by simpa using h 0 c rfl,λj x hx=>?_⟩
   have:=h (j+1) x (by simpa using hx)
   rwa [show o+(j+1)=o+1+j by omega] at this
theorem zj2{w:World}{I:Nat→Prop}{b sz:Nat}:∀(xs:List (List AV)) (o:Nat),RIe w I b sz o xs↔∀i x,xs[i]? = some x→x.length=sz∧RIc w I b (o+i*sz) x
 | [],o=>by simp [RIe]
 | y :: ys,o=>by
  constructor
  ·intro h i x hx;exact zj0 _ _ _ _ h hx
  ·intro h
   rw [RIe,zj2 ys (o+sz)]
   have h0:=h 0 y rfl
   refine ⟨h0.1,by simpa using h0.2,λi x hx=>?_⟩
   have:=h (i+1) x (by simpa using hx)
   rwa [show o+(i+1)*sz=o+sz+i*sz by rw [Nat.add_mul];omega] at this
theorem zdm{w:World}{I:Nat→Prop}{β:Beta}:∀(cs:List AV) (vs:List Value),Rv1s w I β cs vs→cs.length=vs.length∧∀(j:Nat) c,cs[j]? = some c→∃v,vs[j]? = some v∧Rv1 w I β c v
 | [],_,h=>by cases h;simp
 | c :: cs,_,h=>by
  obtain ⟨v,vs',rfl,h1,h2⟩:=h
  obtain ⟨h3,h4⟩:=zdm cs vs' h2
  refine ⟨by simp [h3],λj x hx=>?_⟩
  cases j with
  | zero=>simp at hx;subst hx;exact ⟨v,rfl,h1⟩
  | succ j=>simpa using h4 j x (by simpa using hx)
theorem zpc{w:World}{I:Nat→Prop}{β:Beta}:∀(cs:List AV) (vs:List Value),cs.length=vs.length→(∀(j:Nat) c v,cs[j]? = some c→vs[j]? = some v→Rv1 w I β c v)→Rv1s w I β cs vs
 | [],[],_,_=>rfl
 | c :: cs,v :: vs,hl,h=>⟨v,vs,rfl,h 0 c v rfl rfl,zpc cs vs (by simpa using hl) λj x y hx hy=>h (j+1) x y (by simpa using hx) (by simpa using hy)⟩
theorem RI_one{w:World}{I:Nat→Prop}:∀(c:AV) (v:Value),RI w I c v→v.oneCell'=true
 | .g _,_,h=>by rw [RI] at h;obtain ⟨rfl,h⟩:=h;exact h
 | .s _,_,h=>by rw [RI] at h;subst h;rfl
 | .sl _ _,_,h=>by rw [RI] at h;obtain ⟨a,cap,rfl,-⟩:=h;rfl
 | .agg ..,_,h | .ot ..,_,h | .arr ..,_,h | .ptr ..,_,h | .eptr ..,_,h | .ip ..,_,h | .fn ..,_,h | .tup ..,_,h | .undef,_,h=>by simp [RI] at h
theorem ztf{w:World}{I:Nat→Prop}{β:Beta}:∀(c:AV) (v:Value),isOne c=true→Rv1 w I β c v→v.oneCell'=true
 | .g _,_,h1,h=>by cases h;exact h1
 | .s _,_,_,h=>by cases h;rfl
 | .sl _ _,_,_,h=>RI_one _ _ h
 | .arr ..,_,_,h=>by obtain ⟨bl,-,-,h | ⟨-,a,h⟩⟩:=h<;>subst h<;>rfl
 | .ptr ..,_,_,h=>by obtain ⟨bl,-,rfl⟩:=h;rfl
 | .eptr ..,_,_,h=>by obtain ⟨bl,-,rfl⟩:=h;rfl
 | .ip ..,_,_,h=>by obtain ⟨b,o,rfl,-⟩:=h;rfl
 | .fn ..,_,_,h=>by obtain ⟨vs,us,rfl,-⟩:=h;rfl
 | .agg ..,_,h,_ | .ot ..,_,h,_ | .tup ..,_,h,_ | .undef,_,h,_=>by simp [isOne] at h
theorem zcq{w:World}{I:Nat→Prop}{β:Beta}{v:AV}{x:Value}{cs:List AV}(h:valCells v=some cs)(hx:Rv w I β v x)(h1:cs.all isOne=true) :
 Rv1s w I β cs x.cells.toList∧∀y∈x.cells.toList,y.oneCell'=true:=by
 have one:∀(c:AV) (y:Value),isOne c=true→Rv1 w I β c y→Rv1s w I β [c] y.cells.toList∧∀z∈y.cells.toList,z.oneCell'=true:=by
  intro c y hc hy
  have ho:=ztf c y hc hy
  have:y.cells = #[y]:=by cases y<;>first | rfl | simp [Value.oneCell'] at ho
  rw [this]
  exact ⟨⟨y,[],rfl,hy,rfl⟩,by simpa using ho⟩
 have all:∀(cs:List AV) (vs:List Value),cs.all isOne=true→Rv1s w I β cs vs→∀y∈vs,y.oneCell'=true:=by
  intro cs
  induction cs with
  | nil=>intro vs _ h;cases h;simp
  | cons c cs ih =>
   intro vs h1 h
   obtain ⟨v,vs',rfl,h2,h3⟩:=h
   simp at h1
   intro y hy
   simp at hy
   rcases hy with rfl | hy
   ·exact ztf c _ h1.1 h2
   ·exact ih vs' (by simpa using h1.2) h3 y hy
 cases v with
 | agg l =>
  cases h
  obtain ⟨vs,rfl,h2⟩:=hx
  exact ⟨h2,all _ _ h1 h2⟩
 | tup _=>cases h
 | undef=>cases h
 | ot _ _=>cases h
 | g v=>cases h;exact one _ _ (by simpa using h1) hx
 | s v=>cases h;exact one _ _ (by simpa using h1) hx
 | sl s v=>cases h;exact one _ _ (by simpa using h1) hx
 | arr s v _=>cases h;exact one _ _ (by simpa using h1) hx
 | ptr s v=>cases h;exact one _ _ (by simpa using h1) hx
 | eptr s v _=>cases h;exact one _ _ (by simpa using h1) hx
 | ip s=>cases h;exact one _ _ (by simpa using h1) hx
 | fn s v _=>cases h;exact one _ _ (by simpa using h1) hx
theorem zfq(cs:List AV)(off:Nat)(new:List AV)(h:off+new.length≤cs.length)(j:Nat) :
 (setCells cs off new)[j]? = if off≤j∧j<off+new.length then new[j-off]? else cs[j]?:=by
 have gen:(cs.take off++new++cs.drop (off+new.length))[j]? = if off≤j∧j<off+new.length then new[j-off]? else cs[j]?:=by
  by_cases h1:j<off
  ·rw [List.append_assoc,List.getElem?_append_left (by simp;omega),List.getElem?_take,if_pos h1,if_neg (by omega)]
  ·by_cases h2:j<off+new.length
   ·rw [List.append_assoc,List.getElem?_append_right (by simp;omega),List.getElem?_append_left (by simp;omega),if_pos (by omega)]
    congr 1;simp;omega
   ·rw [List.getElem?_append_right (by simp;omega),if_neg (by omega),List.getElem?_drop]
    congr 1;simp;omega
 unfold setCells
 split
 ·rename_i v
  simp at h
  rw [List.getElem?_set]
  by_cases h1:off=j
  ·subst h1;simp;omega
  ·rw [if_neg h1,if_neg (by simp;omega)]
 ·exact gen
theorem zfk(cs:List AV)(off:Nat)(new:List AV)(h:off+new.length≤cs.length):(setCells cs off new).length=cs.length:=by
 unfold setCells
 split
 ·simp
 ·simp;omega
theorem zdq(w:World)(g:Nat)(cs:Array Value)(S:Nat→Prop)(hS:S g):Evo S w (w.setRow g cs) :=
 ⟨rfl,rfl,rfl,by simp [World.setRow],λb _ hn=>setRow_other w g b cs (by rintro rfl;exact hn hS),Nat.le_refl _⟩
def Good(P:Program)(C:Cx)(st:St)(a:Act)(w:World)(s:Sem Value)(v:AV)(u:Ups):Prop :=
 ∃y w' I' β' φ',s.run P w=.ok y w'∧Rv w' I' β' v y∧Conc C { st with ob:=updL st.ob u } a w' I' β' φ'
section
variable {C:Cx}{st:St}{a:Act}{w:World}{I:Nat→Prop}{β:Beta}{φ:Nat→List Nat}
theorem zbu(hC:Conc C st a w I β φ){s:Sem Value}{v:AV}{y:Value}(hr:s.run P w=.ok y w)(hv:Rv w I β v y):Good P C st a w s v [] :=
 ⟨y,w,I,β,φ,hr,hv,hC⟩
theorem zkn(hC:Conc C st a w I β φ){nm:Nat}(hn:st.ob nm=none)(t:TypeId)(x:Value){cs:List AV}(hr:Rv1s w I β cs x.cells.toList) :
 Good P C st a w (do pure (.pointer (some (←newVar t x)))) (.ptr nm 0) [(nm,.cells cs)]:=by
 obtain ⟨hl,hg⟩:=zdm _ _ hr
 refine ⟨.pointer (some ⟨w.heap.size,0,none⟩),w.alloc (.cells x.cells t),I,upd β nm (some ⟨w.heap.size,0,0,cs.length⟩),upd φ nm [w.heap.size],?_,?_,?_⟩
 ·simp [newVar,newRow]
 ·exact ⟨_,zbd _ _ _,rfl⟩
 ·refine hC.new hn _ _ _ λI' hI=>⟨_,zbd _ _ _,rfl,⟨x.cells,t,zcp _ _,by simp [hl]⟩,?_⟩
  rw [zj1]
  intro j c hc
  obtain ⟨v,hv,hrv⟩:=hg j c hc
  refine ⟨v,?_,zc1 hI (λb hb=>zdj _ _ (hC.immLt b hb)) (λn bl hb=>?_) c v hrv⟩
  ·simp only [World.cell?,zcp]
   simpa using hv
  ·rw [zbb]
   ·exact hb
   ·rintro rfl;rw [hC.dom _ hn] at hb;cases hb
theorem zpd:∀(l:List Value),Rv1s w I β (l.map cv) l
 | []=>rfl
 | v :: l=>⟨v,l,rfl,by cases v<;>first | rfl | simp [cv,Rv1,Rv0],zpd l⟩
theorem ztg(hC:Conc C st a w I β φ){nm:Nat}{t:TypeId}{T:TI}(hT:ti P t=some T)(hn:st.ob nm=none) :
 Good P C st a w (Instr.alloc t true (.tuple #[])) (.ptr nm 0) [(nm,.cells T.zero)]:=by
 obtain ⟨d,i,z,hd,hi,hz,rfl⟩:=zb6 hT
 obtain ⟨y,w',I',β',φ',h1,h2,h3⟩:=zkn (P:=P) hC hn t z (zpd z.cells.toList)
 refine ⟨y,w',I',β',φ',?_,h2,h3⟩
 simpa [Instr.alloc,zeroValue,typeInfo,hi,hz] using h1
theorem zth(hC:Conc C st a w I β φ){n off:Nat}{cs new:List AV}(hob:st.ob n=some (.cells cs))(x y:Value){t:TypeId}{i:TypeInfo}(hi:P.info? t=some i)(hx:Rv w I β (.ptr n off) x)
 (hsz:new.length=i.size) (hfit:off+new.length≤cs.length) (hr:Rv1s w I β new y.cells.toList) (h1:∀z∈y.cells.toList,z.oneCell'=true) :
 ∃w',(Instr.storeAt t x y).run P w=.ok () w'∧Conc C { st with ob:=upd st.ob n (some (.cells (setCells cs off new))) } a w' I β φ:=by
 obtain ⟨bl,hb,rfl⟩:=hx
 obtain ⟨bl',hb',hφ,⟨arr,ty,hh,hsize⟩,hrc⟩:=hC.ob _ _ hob
 rw [hb] at hb';cases hb'
 obtain ⟨hl,hg⟩:=zdm _ _ hr
 have hrun:=run_storeCells_at P bl.b (bl.o+off) ty y.cells.toList 0 arr w hh (by simp at hl ⊢;omega) h1
 refine ⟨_,?_,hC.write (w':=w.setRow bl.b (arr.toList.take (bl.o+off+0)++y.cells.toList++arr.toList.drop (bl.o+off+0+y.cells.toList.length)).toArray) _ (by rw [hob];simp) (by simp) (hC.wok n _ hob rfl) ?_ ?_⟩
 ·have hs:y.cells.size=i.size:=by have:=hl;simp at this;omega
  simp [Instr.storeAt,Instr.sureAddr,storeVar,sizeOf,typeInfo,hi,hs,hrun]
 ·exact zdq _ _ _ _ (by rw [hφ];simp)
 ·have hnew:=setRow_heap w bl.b arr (arr.toList.take (bl.o+off+0)++y.cells.toList++arr.toList.drop (bl.o+off+0+y.cells.toList.length)).toArray ty (0,0) hh
  refine ⟨bl,hb,hφ,⟨_,ty,hnew,?_⟩,?_⟩
  ·rw [zfk _ _ _ hfit]
   simp at hl ⊢;omega
  ·have hev:∀b,I b→(w.setRow bl.b (arr.toList.take (bl.o+off+0)++y.cells.toList++arr.toList.drop (bl.o+off+0+y.cells.toList.length)).toArray).heap[b]? = w.heap[b]?:=λb hb'=>setRow_other w bl.b b _ (by rintro rfl;exact hC.nimm n _ (by rw [hφ];simp) hb')
   rw [zj1] at hrc ⊢
   intro j c hc
   rw [zfq _ _ _ hfit] at hc
   simp only [World.cell?,hnew]
   split at hc
   ·rename_i hj
    obtain ⟨v,hv,hrv⟩:=hg _ _ hc
    refine ⟨v,?_,zc1 (λ_ h=>h) hev (λ_ _ h=>h) c v hrv⟩
    simp only [Option.isSome_none,Bool.false_eq_true,if_false,List.getElem?_toArray]
    rw [List.append_assoc,List.getElem?_append_right (by simp;omega),List.getElem?_append_left (by simp at hl ⊢;omega)]
    rw [←hv];congr 1;simp;omega
   ·rename_i hj
    obtain ⟨v,hv,hrv⟩:=hrc j c hc
    refine ⟨v,?_,zc1 (λ_ h=>h) hev (λ_ _ h=>h) c v hrv⟩
    simp only [World.cell?,hh,Option.isSome_none,Bool.false_eq_true,if_false] at hv
    simp only [Option.isSome_none,Bool.false_eq_true,if_false,List.getElem?_toArray]
    by_cases h2:j<off
    ·rw [List.append_assoc,List.getElem?_append_left (by simp;have:=(Array.getElem?_eq_some_iff.1 hv).1;omega),List.getElem?_take,if_pos (by omega)]
     simpa using hv
    ·have hlv:=(Array.getElem?_eq_some_iff.1 hv).1
     rw [List.getElem?_append_right (by simp at hl ⊢;omega),List.getElem?_drop]
     rw [←hv,←Array.getElem?_toList]
     congr 1;simp at hl ⊢;omega
end
end Go.Proofs.YtodmafgmdlkhoaaDoor.Vs
end
section
namespace Go.Proofs.YtodmafgmdlkhoaaDoor.Vs
set_option linter.all false
open Go.RowKit
variable {P:Program}
section
variable {C:Cx}{st:St}{a:Act}{w:World}{I:Nat→Prop}{β:Beta}{φ:Nat→List Nat}
theorem zfl:∀(ns:List Nat) (st':St) (I:Nat→Prop) (φ:Nat→List Nat),(∀n,st'.ob n=st.ob n∨∃sz xs,st.ob n=some (.flat sz xs)∧st'.ob n=some (.shared sz xs)) →
 Conc C st' a w I β φ→∃I' φ',(∀b,I b→I' b)∧Conc C { st' with ob:=updL st'.ob (frzU st ns) } a w I' β φ'
 | [],st',I,φ,_,hC=>⟨I,φ,λ_ h=>h,hC⟩
 | n :: ns,st',I,φ,hs,hC=>by
  unfold frzU
  split
  ·rename_i sz xs hob
   rw [zcd]
   have hs':∀m,upd st'.ob n (some (OB.shared sz xs)) m=st.ob m∨∃s y,st.ob m=some (.flat s y)∧upd st'.ob n (some (OB.shared sz xs)) m=some (.shared s y):=by
    intro m
    by_cases hm:m=n
    ·subst hm;exact .inr ⟨sz,xs,hob,zbd _ _ _⟩
    ·rw [zbb _ _ hm];exact hs m
   rcases hs n with h | ⟨sz',xs',h,h'⟩
   ·obtain ⟨I1,hI1,hC1⟩:=hC.freeze (h.trans hob)
    obtain ⟨I2,φ2,hI2,hC2⟩:=zfl ns { st' with ob:=upd st'.ob n (some (OB.shared sz xs)) } I1 _ hs' hC1
    exact ⟨I2,φ2,λb hb=>hI2 b (hI1 b hb),hC2⟩
   ·rw [hob] at h;cases h
    have:upd st'.ob n (some (OB.shared sz xs))=st'.ob:=by
     funext m
     by_cases hm:m=n
     ·subst hm;rw [zbd,h']
     ·rw [zbb _ _ hm]
    rw [this]
    exact zfl ns st' I φ hs hC
  ·exact zfl ns st' I φ hs hC
theorem zgi:∀(ns:List Nat) (ob:Nat→Option OB) (n sz:Nat) (xs:List (List AV)),n∈ns→(st.ob n=some (.flat sz xs)∨st.ob n=some (.shared sz xs))→(ob n=st.ob n∨ob n=some (.shared sz xs)) →
 updL ob (frzU st ns) n=some (.shared sz xs)
 | [],_,_,_,_,h,_,_=>by simp at h
 | m :: ns,ob,n,sz,xs,hn,h,hob=>by
  by_cases hin:n∈ns
  ·unfold frzU
   split
   ·rename_i sz' xs' h'
    rw [zcd]
    refine zgi ns _ n sz xs hin h ?_
    by_cases hm:n=m
    ·subst hm
     rw [zbd]
     rcases h with h | h
     ·rw [h] at h';cases h';exact .inr rfl
     ·rw [h] at h';cases h'
    ·rw [zbb _ _ hm];exact hob
   ·exact zgi ns _ n sz xs hin h hob
  ·have hm:n=m:=by simpa [hin] using hn
   subst hm
   have keep:∀(ns:List Nat) (ob:Nat→Option OB),n∉ns→updL ob (frzU st ns) n=ob n:=by
    intro ns
    induction ns with
    | nil=>intro ob _;rfl
    | cons k ns ih =>
     intro ob hk
     simp at hk
     unfold frzU
     split
     ·rw [zcd,ih _ hk.2,zbb _ _ hk.1]
     ·exact ih _ hk.2
   unfold frzU
   rcases h with h | h
   ·rw [h];simp only;rw [zcd,keep ns _ hin,zbd]
   ·rw [h];simp only
    rw [keep ns _ hin]
    rcases hob with hob | hob
    ·rw [hob,h]
    ·exact hob
theorem zfg:∀(ns:List Nat) (ob:Nat→Option OB) (n:Nat),n∉ns→updL ob (frzU st ns) n=ob n
 | [],_,_,_=>rfl
 | k :: ns,ob,n,hk=>by
  simp at hk
  unfold frzU
  split
  ·rw [zcd,zfg ns _ n hk.2,zbb _ _ hk.1]
  ·exact zfg ns _ n hk.2
theorem zwb:∀(cs:List AV) (n off len:Nat),AV.arr n off len∈cs→n∈arrN cs
 | [],_,_,_,h=>by simp at h
 | c :: cs,n,off,len,h=>by
  rcases List.mem_cons.1 h with h | h
  ·subst h;simp [arrN]
  ·have:=zwb cs n off len h
   cases c<;>simp [arrN,this]
theorem zpe{st2:St}(hC:Conc C st2 a w I β φ){c c':AV}{p:Prop}(h:viewCell st c=some (p,c'))(hp:p){v:Value}(hv:Rv1 w I β c v)
 (hst:∀n off len,c=.arr n off len→∀sz xs,(st.ob n=some (.flat sz xs)∨st.ob n=some (.shared sz xs))→st2.ob n=some (.shared sz xs)):RI w I c' v:=by
 unfold viewCell at h
 split at h
 ·cases h;cases hv;rw [RI];exact ⟨rfl,hp⟩
 ·cases h;cases hv;rw [RI]
 ·cases h;exact hv
 ·rename_i n off len
  have key:∀sz xs,(st.ob n=some (.flat sz xs)∨st.ob n=some (.shared sz xs))→off+len≤xs.length→RI w I (.sl sz ((xs.drop off).take len)) v:=by
   intro sz xs ho hle
   obtain ⟨bl,hb,hle2,hx⟩:=hv
   obtain ⟨bl',hb',h1,h2,h3,-,h4⟩:=hC.ob _ _ (hst n off len rfl sz xs ho)
   rw [hb] at hb';cases hb'
   have hlen:((xs.drop off).take len).length=len:=by simp;omega
   rw [RI,hlen]
   rcases hx with rfl | ⟨h5,a',rfl⟩
   ·refine ⟨_,_,rfl,by omega,?_⟩
    rcases h4 with h4 | ⟨h4,h6⟩
    ·left;apply List.length_eq_zero_iff.1;omega
    ·refine .inr ⟨bl.b,_,rfl,h4,?_⟩
     subst h1
     have:=zd2 _ _ len (zgg _ _ off h6)
     rw [h2]
     exact this
   ·have:len=0:=by omega
    subst this
    exact ⟨_,_,rfl,Nat.le_refl _,.inl (by simp)⟩
  split at h
  ·rename_i sz xs ho
   cases h
   exact key _ _ (.inl ho) hp
  ·rename_i sz xs ho
   cases h
   exact key _ _ (.inr ho) hp
  ·cases h
 ·cases h
theorem zhp{st2:St}(hC:Conc C st2 a w I β φ):∀ {cs cs':List AV} {p:Prop},viewCells st cs=some (p,cs')→p→∀ {vs:List Value},Rv1s w I β cs vs →
 (∀n off len,AV.arr n off len∈cs→∀sz xs,(st.ob n=some (.flat sz xs)∨st.ob n=some (.shared sz xs))→st2.ob n=some (.shared sz xs)) →
 cs'.length=vs.length∧∀(j:Nat) c,cs'[j]? = some c→∃v,vs[j]? = some v∧RI w I c v
 | [],_,_,h,_,_,hv,_=>by cases h;cases hv;simp
 | c :: cs,cs',p,h,hp,vs,hv,hst=>by
  unfold viewCells at h
  split at h
  ·rename_i p1 c1 q1 cs1 h1 h2
   cases h
   obtain ⟨v,vs',rfl,hv1,hv2⟩:=hv
   obtain ⟨ih1,ih2⟩:=zhp hC h2 hp.2 hv2 (λn off len hm=>hst n off len (by simp [hm]))
   have h0:=zpe hC h1 hp.1 hv1 (λn off len hm=>hst n off len (by simp [hm]))
   refine ⟨by simp [ih1],λj x hx=>?_⟩
   cases j with
   | zero=>simp at hx;subst hx;exact ⟨v,rfl,h0⟩
   | succ j=>simpa using ih2 j x (by simpa using hx)
  ·cases h
theorem znp(hC:Conc C st a w I β φ){cs cs':List AV}{p:Prop}(h:viewCells st cs=some (p,cs'))(hp:p){vs:List Value}(hv:Rv1s w I β cs vs) :
 ∃I' φ',(∀b,I b→I' b)∧Conc C { st with ob:=updL st.ob (frzU st (arrN cs)) } a w I' β φ' ∧
  cs'.length=vs.length∧∀(j:Nat) c,cs'[j]? = some c→∃v,vs[j]? = some v∧RI w I' c v:=by
 obtain ⟨I',φ',hI,hC'⟩:=zfl (st:=st) (arrN cs) st I φ (λn=>.inl rfl) hC
 refine ⟨I',φ',hI,hC',?_⟩
 have hv':Rv1s w I' β cs vs:=zlr hI (λ_ _=>rfl) (λ_ _ h=>h) _ _ hv
 exact zhp hC' h hp hv' (λn off len hm sz xs ho=>zgi _ _ _ _ _ (zwb _ _ _ _ hm) ho (.inl rfl))
end
end Go.Proofs.YtodmafgmdlkhoaaDoor.Vs
end
section
namespace Go.Proofs.YtodmafgmdlkhoaaDoor.Vs
set_option linter.all false
open Go.RowKit
variable {P:Program}
theorem zdw(l ys:List Value)(p:Nat)(h:p+ys.length≤l.length)(k:Nat) :
 (l.take p++ys++l.drop (p+ys.length))[k]? = if p≤k∧k<p+ys.length then ys[k-p]? else l[k]?:=by
 by_cases h1:k<p
 ·rw [List.append_assoc,List.getElem?_append_left (by simp;omega),List.getElem?_take,if_pos h1,if_neg (by omega)]
 ·by_cases h2:k<p+ys.length
  ·rw [List.append_assoc,List.getElem?_append_right (by simp;omega),List.getElem?_append_left (by simp;omega),if_pos (by omega)]
   congr 1;simp;omega
  ·rw [List.getElem?_append_right (by simp;omega),if_neg (by omega),List.getElem?_drop]
   congr 1;simp;omega
theorem zct{w:World}{b:Nat}{arr:Array Value}{ty:TypeId}{fr:Nat × Nat}(h:w.heap[b]? = some (.cells arr ty fr))(o:Nat):w.cell? ⟨b,o,none⟩=arr[o]?:=by
 simp [World.cell?,h]
section
variable {C:Cx}{st:St}{a:Act}{w:World}{I:Nat→Prop}{β:Beta}{φ:Nat→List Nat}
theorem zx4(hC:Conc C st a w I β φ){n i f sz:Nat}{xs:List (List AV)}{new':List AV}(hob:st.ob n=some (.flat sz xs))(x y:Value){t:TypeId}{inf:TypeInfo}(hi:P.info? t=some inf)
 (hx:Rv w I β (.eptr n i f) x) (hsz:y.cells.size=inf.size) (hl:new'.length=y.cells.toList.length) (hfit:f+new'.length≤sz) (hlt:i<xs.length)
 (hr:∀(j:Nat) c,new'[j]? = some c→∃v,y.cells.toList[j]? = some v∧RI w I c v) (h1:∀z∈y.cells.toList,z.oneCell'=true) :
 ∃w',(Instr.storeAt t x y).run P w=.ok () w'∧Conc C { st with ob:=upd st.ob n (some (.flat sz (xs.set i (setCells (xs.getD i []) f new')))) } a w' I β φ:=by
 obtain ⟨bl,hb,rfl⟩:=hx
 obtain ⟨bl',hb',rfl,h2,h3,h4⟩:=hC.ob _ _ hob
 rw [hb] at hb';cases hb'
 rcases h4 with ⟨h4,-⟩ | ⟨hφ,⟨arr,ty,hh,hsize⟩,hrc⟩
 ·omega
 rw [h2,Nat.zero_add]
 have hbig:i*bl.sz+bl.sz≤bl.cap*bl.sz:=by
  have:(i+1)*bl.sz≤bl.cap*bl.sz:=Nat.mul_le_mul_right _ (by omega)
  rwa [Nat.add_mul,Nat.one_mul] at this
 have hrun:=run_storeCells_at P bl.b (i*bl.sz+f) ty y.cells.toList 0 arr w hh (by omega) h1
 have hnew:=setRow_heap w bl.b arr (arr.toList.take (i*bl.sz+f+0)++y.cells.toList++arr.toList.drop (i*bl.sz+f+0+y.cells.toList.length)).toArray ty (0,0) hh
 refine ⟨_,?_,hC.write (w':=w.setRow bl.b (arr.toList.take (i*bl.sz+f+0)++y.cells.toList++arr.toList.drop (i*bl.sz+f+0+y.cells.toList.length)).toArray) _ (by rw [hob];simp) (λ_ _ _=>hC.fnew n _ _ hob) (λb hb hy=>by have:=hC.fnew n _ _ hob b hb;have:=hC.ylt b hy;omega) ?_ ?_⟩
 ·simp [Instr.storeAt,Instr.sureAddr,storeVar,sizeOf,typeInfo,hi,hsz,hrun]
 ·exact zdq _ _ _ _ (by rw [hφ];simp)
 ·refine ⟨bl,hb,rfl,h2,by simpa using h3,.inr ⟨hφ,⟨_,ty,hnew,by simp;omega⟩,?_⟩⟩
  have hev:∀b,I b→(w.setRow bl.b (arr.toList.take (i*bl.sz+f+0)++y.cells.toList++arr.toList.drop (i*bl.sz+f+0+y.cells.toList.length)).toArray).heap[b]? = w.heap[b]?:=λb hb'=>setRow_other w bl.b b _ (by rintro rfl;exact hC.nimm n _ (by rw [hφ];simp) hb')
  rw [zj2] at hrc ⊢
  have hspl:∀k,(w.setRow bl.b (arr.toList.take (i*bl.sz+f+0)++y.cells.toList++arr.toList.drop (i*bl.sz+f+0+y.cells.toList.length)).toArray).cell? ⟨bl.b,k,none⟩ =
   if i*bl.sz+f≤k∧k<i*bl.sz+f+y.cells.toList.length then y.cells.toList[k-(i*bl.sz+f)]? else arr[k]?:=by
   intro k
   rw [zct hnew,List.getElem?_toArray,zdw _ _ _ (by simp only [Array.length_toList] at hl ⊢;omega)]
   simp only [Nat.zero_add,Nat.add_zero,Array.getElem?_toList]
  intro k z hz
  rw [List.getElem?_set] at hz
  by_cases hk:i=k
  ·subst hk
   rw [if_pos rfl,if_pos hlt] at hz
   cases hz
   have hxi:xs[i]? = some xs[i]:=List.getElem?_eq_getElem hlt
   obtain ⟨hl1,hr1⟩:=hrc i _ hxi
   rw [List.getD_eq_getElem?_getD,hxi,Option.getD_some]
   refine ⟨by rw [zfk _ _ _ (by omega)];exact hl1,?_⟩
   rw [zhu] at hr1 ⊢
   intro j c hc
   rw [zfq _ _ _ (by omega)] at hc
   rw [hspl]
   split at hc
   ·rename_i hj
    obtain ⟨v,hv,hrv⟩:=hr _ _ hc
    refine ⟨v,?_,zdr (λ_ h=>h) hev c v hrv⟩
    rw [if_pos (by omega),←hv]
    congr 1;omega
   ·rename_i hj
    obtain ⟨v,hv,hrv⟩:=hr1 j c hc
    refine ⟨v,?_,zdr (λ_ h=>h) hev c v hrv⟩
    rw [if_neg (by omega)]
    rwa [zct hh] at hv
  ·rw [if_neg hk] at hz
   obtain ⟨hl1,hr1⟩:=hrc k z hz
   refine ⟨hl1,?_⟩
   rw [zhu] at hr1 ⊢
   intro j c hc
   obtain ⟨v,hv,hrv⟩:=hr1 j c hc
   refine ⟨v,?_,zdr (λ_ h=>h) hev c v hrv⟩
   have hj:j<bl.sz:=by rw [←hl1];exact (List.getElem?_eq_some_iff.1 hc).1
   rw [hspl,if_neg]
   ·rwa [zct hh] at hv
   ·rcases Nat.lt_or_gt_of_ne hk with hlt' | hlt'
    ·have:(i+1)*bl.sz≤k*bl.sz:=Nat.mul_le_mul_right _ hlt'
     rw [Nat.add_mul,Nat.one_mul] at this
     omega
    ·have:(k+1)*bl.sz≤i*bl.sz:=Nat.mul_le_mul_right _ hlt'
     rw [Nat.add_mul,Nat.one_mul] at this
     omega
theorem zti(hC:Conc C st a w I β φ){t:TypeId}{p q v:AV}{x y:Value}{c:Prop}{u:Ups}(hx:Rv w I β p x)(hy:Rv w I β q y)(h:aStore P st t p q=some (c,v,u))(hc:c) :
 v=.g undef∧∃w' I' φ',(Instr.storeAt t x y).run P w=.ok () w'∧Conc C { st with ob:=updL st.ob u } a w' I' β φ':=by
 unfold aStore at h
 split at h
 ·rename_i T new hT hnew
  obtain ⟨d,i,z,hd,hi,hz,rfl⟩:=zb6 hT
  split at h
  ·rename_i n off
   split at h
   ·rename_i cs hob
    cases h
    obtain ⟨h1,h2,h3⟩:=hc
    obtain ⟨hv1,hv2⟩:=zcq hnew hy h2
    obtain ⟨w',hr,hC'⟩:=zth hC hob x y hi hx h1 h3 hv1 hv2
    exact ⟨rfl,w',I,φ,hr,hC'⟩
   ·cases h
  ·rename_i n i' f
   split at h
   ·rename_i sz xs hob
    split at h
    ·rename_i pp new' hvw
     cases h
     obtain ⟨h0,h1,h2,h3,h4,h5⟩:=hc
     obtain ⟨hv1,hv2⟩:=zcq hnew hy h2
     obtain ⟨I',φ',hI,hC',hl,hr⟩:=znp hC hvw h0 hv1
     have hob':updL st.ob (frzU st (arrN new)) n=some (.flat sz xs):=by
      rw [zfg _ _ _ (by simpa using h5)];exact hob
     have hlen:=(zdm _ _ hv1).1
     obtain ⟨w',hr',hC''⟩:=zx4 hC' hob' x y hi (zjy hI (λ_ _=>rfl) (λ_ _ h=>h) _ _ hx) (by simp at h1 hlen ⊢;omega) hl (by omega) h4 hr hv2
     refine ⟨rfl,w',I',φ',hr',?_⟩
     rw [zc2]
     exact hC''
    ·cases h
   ·cases h
  ·cases h
 ·cases h
end
end Go.Proofs.YtodmafgmdlkhoaaDoor.Vs
end
section
namespace Go.Proofs.YtodmafgmdlkhoaaDoor.Vs
set_option linter.all false
open Go.RowKit
variable {P:Program}
theorem zlw(off:Nat):∀(l:List Value) (k:Nat) (A:Array Value) (idx:Nat),
 ((l.zipIdx k).foldl (λcs p=>cs.setIfInBounds (off+p.2) p.1) A)[idx]? = if off+k≤idx∧idx<off+k+l.length∧idx<A.size then l[idx-(off+k)]? else A[idx]?
 | [],k,A,idx=>by simp;intro h1 h2;omega
 | v :: l,k,A,idx=>by
  simp only [List.zipIdx_cons,List.foldl_cons]
  rw [zlw off l (k+1)]
  simp only [Array.size_setIfInBounds,List.length_cons,Array.getElem?_setIfInBounds]
  by_cases h1:idx=off+k
  ·subst h1
   by_cases h2:off+k<A.size
   ·rw [if_neg (by omega),if_pos (by omega)];simp [h2]
   ·rw [if_neg (by omega)];simp [h2]
  ·by_cases h2:off+(k+1)≤idx∧idx<off+(k+1)+l.length∧idx<A.size
   ·rw [if_pos h2,if_pos (by omega)]
    rw [show idx-(off+k)=(idx-(off+(k+1)))+1 by omega,List.getElem?_cons_succ]
   ·rw [if_neg h2,if_neg (by omega),if_neg (by omega)]
theorem zq0(off:Nat):∀(l:List (Value × Nat)) (A:Array Value),(l.foldl (λcs p=>cs.setIfInBounds (off+p.2) p.1) A).size=A.size
 | [],_=>rfl
 | p :: l,A=>by rw [List.foldl_cons,zq0 off l];simp
section
variable {w:World}{I:Nat→Prop}{β:Beta}
def RvParts(w:World)(I:Nat→Prop)(β:Beta):List (Nat × AV)→List (Nat × Value)→Prop
 | [],qs=>qs=[]
 | p :: ps,qs=>∃q qs',qs=q :: qs'∧p.1=q.1∧Rv w I β p.2 q.2∧RvParts w I β ps qs'
theorem zf5{place place':Nat→Option (Nat × Nat)}(hp:∀i x,place i=some x→place' i=some x):∀(ps:List (Nat × AV)) (qs:List (Nat × Value)) (cs cs':List AV) (A:Array Value),
 fillA place cs ps=some cs'→RvParts w I β ps qs→Rv1s w I β cs A.toList→∃A',Instr.fill place' A qs=some A'∧Rv1s w I β cs' A'.toList
 | [],_,cs,cs',A,h,hq,hr=>by
  cases h;cases hq
  exact ⟨A,rfl,hr⟩
 | (i,v) :: ps,qs,cs,cs',A,h,hq,hr=>by
  obtain ⟨⟨i',x⟩,qs',rfl,rfl,hv,hq⟩:=hq
  unfold fillA at h
  split at h
  ·rename_i off size new hpl hnew
   split at h
   ·rename_i hc
    obtain ⟨h1,h2,h3⟩:=hc
    obtain ⟨hv1,hv2⟩:=zcq hnew hv h3
    obtain ⟨hl,hg⟩:=zdm _ _ hv1
    obtain ⟨hl',hg'⟩:=zdm _ _ hr
    unfold Instr.fill
    rw [hp _ _ hpl]
    simp only []
    rw [if_neg (by simp at hl hl' ⊢;omega)]
    refine zf5 hp ps qs' _ cs' _ h hq ?_
    have hsz:(x.cells.zipIdx.foldl (λcs (p:Value × Nat)=>cs.setIfInBounds (off+p.2) p.1) A).size=A.size:=by
     rw [←Array.foldl_toList];exact zq0 off _ _
    refine zpc _ _ (by simp only [Array.length_toList] at hl hl' ⊢;rw [show (Array.foldl (λcs (x:Value × Nat)=>cs.setIfInBounds (off+x.2) x.1) A x.cells.zipIdx).size=A.size from hsz];simp;omega) ?_
    intro j c y hc hy
    have hy':((x.cells.toList.zipIdx 0).foldl (λcs (p:Value × Nat)=>cs.setIfInBounds (off+p.2) p.1) A)[j]? = some y:=by
     rw [Array.getElem?_toList,←Array.foldl_toList,Array.toList_zipIdx] at hy
     exact hy
    rw [zlw] at hy'
    have hgen:=zfq cs off new (by omega) j
    have hsc:(cs.take off++new++cs.drop (off+new.length))[j]? = if off≤j∧j<off+new.length then new[j-off]? else cs[j]?:=by
     by_cases h1:j<off
     ·rw [List.append_assoc,List.getElem?_append_left (by simp;omega),List.getElem?_take,if_pos h1,if_neg (by omega)]
     ·by_cases h2:j<off+new.length
      ·rw [List.append_assoc,List.getElem?_append_right (by simp;omega),List.getElem?_append_left (by simp;omega),if_pos (by omega)]
       congr 1;simp;omega
      ·rw [List.getElem?_append_right (by simp;omega),if_neg (by omega),List.getElem?_drop]
       congr 1;simp;omega
    rw [hsc] at hc
    split at hc
    ·rename_i hj
     rw [if_pos (by simp at hl hl' ⊢;omega)] at hy'
     obtain ⟨v',hv',hrv⟩:=hg _ _ hc
     simp only [Nat.add_zero] at hy'
     rw [hv'] at hy';cases hy'
     exact hrv
    ·rename_i hj
     rw [if_neg (by simp at hl hl' ⊢;omega)] at hy'
     obtain ⟨v',hv',hrv⟩:=hg' _ _ hc
     rw [Array.getElem?_toList] at hv'
     rw [hv'] at hy';cases hy'
     exact hrv
   ·cases h
  ·cases h
theorem zh3:∀(fs:List Field) (pl:List (Nat × Nat)),placesOf P (fs.map λf=>(f.offset,f.type))=some pl→fs.mapM (λf=>(P.info? f.type).map λi=>(f.offset,i.size))=some pl
 | [],pl,h=>by cases h;rfl
 | f :: fs,pl,h=>by
  simp only [List.map_cons] at h
  unfold placesOf at h
  split at h
  ·rename_i T l hT hl
   cases h
   obtain ⟨d,i,z,hd,hi,hz,rfl⟩:=zb6 hT
   simp [List.mapM_cons,hi,zh3 fs l hl]
  ·cases h
end
section
variable {C:Cx}{st:St}{a:Act}{w:World}{I:Nat→Prop}{β:Beta}{φ:Nat→List Nat}
theorem zh4(hE:∀x,Rv w I β (ev st x) (a.eval x)):∀(l:List (Nat × Operand)),RvParts w I β (parts st l) (l.map λp=>(p.1,a.eval p.2))
 | []=>rfl
 | p :: l=>⟨_,_,rfl,rfl,hE p.2,zh4 hE l⟩
theorem ztj(hC:Conc C st a w I β φ){t:TypeId}{ps:List (Nat × AV)}{qs:Array (Nat × Value)}{v:AV}{c:Prop}{u:Ups}(hq:RvParts w I β ps qs.toList)(h:aBuild P t ps=some (c,v,u)) :
 Good P C st a w (Instr.build t qs) v u:=by
 unfold aBuild at h
 split at h
 ·rename_i T hT
  obtain ⟨d,i,z,hd,hi,hz,rfl⟩:=zb6 hT
  simp only at h
  split at h
  ·rename_i fs hk
   split at h
   ·rename_i pl hpl
    split at h
    ·rename_i cs hcs
     cases h
     cases d<;>simp only [tkOf,TK.struct.injEq,reduceCtorEq] at hk
     rename_i fields
     subst hk
     have hmm:=zh3 _ _ hpl
     obtain ⟨A',hA,hr⟩:=zf5 (w:=w) (I:=I) (β:=β) (place':=(pl.toArray[·]?)) (λi x hx=>by simpa using hx) _ _ _ _ z.cells hcs hq (zpd _)
     refine zbu hC (run_build w t qs A' ?_) ⟨A'.toList,by simp,hr⟩
     simp only [Program.built,hi,hd,hz,hmm]
     exact hA
    ·cases h
   ·cases h
  ·rename_i n e hk
   split at h
   ·rename_i E hE
    obtain ⟨d',i',z',hd',hi',hz',rfl⟩:=zb6 hE
    split at h
    ·rename_i cs hcs
     cases h
     cases d<;>simp only [tkOf,TK.array.injEq,reduceCtorEq] at hk
     obtain ⟨rfl,rfl⟩:=hk
     obtain ⟨A',hA,hr⟩:=zf5 (w:=w) (I:=I) (β:=β) (λi x hx=>hx) _ _ _ _ z.cells hcs hq (zpd _)
     refine zbu hC (run_build w t qs A' ?_) ⟨A'.toList,by simp,hr⟩
     simp only [Program.built,hi,hd,hz,hi']
     exact hA
    ·cases h
   ·cases h
  ·cases h
 ·cases h
end
end Go.Proofs.YtodmafgmdlkhoaaDoor.Vs
end
