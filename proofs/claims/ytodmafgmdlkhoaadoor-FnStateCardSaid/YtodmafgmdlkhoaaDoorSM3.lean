import Derived.Test.YtodmafgmdlkhoaaDoorSM2
section
namespace Go.Proofs.YtodmafgmdlkhoaaDoor.Vs
set_option linter.all false
set_option maxRecDepth 100000
set_option maxHeartbeats 1000000
theorem specDecZ(z:Int)(h0:0≤z)(h:z<10):PCall Tryd.prog 85 [(.g (.int .i64 (z)))] (.s (digN z.toNat)):=by
 have:=specDec z.toNat (by omega)
 rwa [show ((z.toNat:Nat):Int)=z by omega] at this
theorem take_del{α:Type}(A:List α){n:Nat}(k:Nat)(h:A.length=n):List.take k (List.take k A)++List.take (n-(k+1)) (List.drop (k+1) A)=List.take k A++List.drop (k+1) A:=by rw [List.take_take,Nat.min_self,List.take_of_length_le (l:=List.drop (k+1) A) (by simp;omega)]
theorem zjj(l:List DtCSet)(k:Nat)(hk:k<l.length):l.set k { fName:=l[k].fName,fSnaps:=l[k].fSnaps }=l:=List.set_getElem_self hk
attribute [local simp] DtCatalog.cells DtCmd.cells DtCSet.cells zbv List.set_set List.getD_eq_getElem?_getD and_assoc zdu zcw
def zG7:=And.intro @zce (And.intro @zbr @zbz)
def zG8:=And.intro @zbk @zbl
theorem l15SetX(l:List DtCSet)(hl:l.length≤1048576)(k:Nat)(hk:k<l.length)(m:DtCmd)(h5:l[k].fSnaps.length≤5)(hrd:(spc (tldL l[k])).length≤1073741824)(hN0:m.fKind=5→0≤m.fN∧m.fN≤9)(hch:m.fChunks.length≤1048576):XCall Tryd.prog 80 [.agg [.arr 8 0 l.length],(.g (.int .i64 ((k:Nat)))),.agg (DtCmd.cells m)] [.own 2 (l.map DtCSet.cells)] (.tup [.agg [.arr 16 0 (setS l k m).length],.s (setR l k m)]) [.dead] [.own 2 ((setS l k m).map DtCSet.cells)]:=by
 refine zbq Tryd.func80 (by rfl) (by rfl) (by rw [Tryd.ntmps80];exact Nat.le_of_ble_eq_true rfl) rfl (by simp) rfl rfl ?_
 rw [Tryd.ntmps80]
 refine zhn (.own 2 (l.map DtCSet.cells)) (by simp [cvO]<;>assumption) ?_
 refine AW_k [(0,_),(1,_),(2,_)] ⟨rfl,rfl,rfl,trivial⟩ ?_
 refine zzy 8 901 902 k hk (by simp [zG7]) (by simp [zG7]) (by simp [zG7]) (by decide) (by decide) (by decide) λzs hz=>?_
 have hkz:k<zs.length:=by rw [←hz] at hk;simpa using hk
 have hset:=@win_at zs k hkz
 refine AW_x rfl rfl λK hK=>?_
 simp (disch:=omega) [hset]
 refine hK _ ?_;clear hK K
 refine AW_x rfl rfl λK hK=>?_
 simp (disch:=omega) [hset]
 repeat' first|(refine ⟨by omega,?_⟩) | fail
 refine hK _ ?_;clear hK K
 refine AW_x rfl rfl λK hK=>?_
 simp (disch:=omega) [hset]
 repeat' first|(refine zvc (l15Find l[k] m.fName (by omega)) (by rfl) ?_ ?_;(focus (simp (disch:=omega) [hset,zbv];done));simp (disch:=omega) [hset]) | fail
 refine hK _ ?_;clear hK K
 refine zbe ?_
 refine AW_x rfl rfl λK hK=>?_
 simp (disch:=omega) [hset]
 refine hK _ ?_;clear hK K
 refine zbi ?_
 refine AW_x rfl rfl λK hK=>?_
 simp (disch:=omega) [hset]
 refine hK _ ?_;clear hK K
 refine zbg rfl (λhc1=>?_) (λhc1=>?_)
 ·try simp [zG8,zbc,zba] at hc1
  refine zdd 8 901 902 k hz hk l[k].fName l[k].fSnaps (by simp [zG7]) (by simp [zG7]) (by simp [zG7]) (by decide) (by decide) (by decide) ?_
  rw [zjj l k hk]
  refine zhx (us:=l) 8 903 (by simp [zG7]) (by simp [zG7]) λzs2 hz2 hone=>?_
  have hzl2:zs2.length=l.length:=by rw [←hz2];simp
  refine AW_x rfl rfl λK hK=>?_
  simp (disch:=omega) [hset]
  repeat' first|(refine ⟨by omega,?_⟩) | fail
  refine hK _ ?_;clear hK K
  refine AW_x rfl rfl λK hK=>?_
  simp (disch:=omega) [hset]
  repeat' first|(refine ⟨by omega,?_⟩) | fail
  refine hK _ ?_;clear hK K
  refine zgl (zqc (ks:=zs2.take k++zs2.drop (k+1)) (zs:=zs2) 640 903 (by simp [zG7];exact take_del _ k (by rw [List.length_map,hzl2])) (by simp [zG7]) (del_sub zs2 k)) ?_
  rw [del_c hz2 k]
  refine AW_x rfl rfl λK hK=>?_
  simp (disch:=omega) [hset]
  refine hK _ ?_;clear hK K
  refine zbo (zb7 [640] [] (by simp [zG7,List.range_succ]) (by simp) ?_)
  simp (disch:=omega) [hset]
  have ⟨h1,h2⟩:=@set_2 l k m hc1;rw [h1,h2];exact ⟨by simp;omega,rfl,by simp⟩
 try simp [zG8,zbc,zba] at hc1
 refine AW_x rfl rfl λK hK=>?_
 simp (disch:=omega) [hset]
 refine hK _ ?_;clear hK K
 refine zbg rfl (λhc2=>?_) (λhc2=>?_)
 ·try simp [zG8,zbc,zba] at hc2
  refine zbe ?_
  refine AW_x rfl rfl λK hK=>?_
  simp (disch:=omega) [hset]
  refine hK _ ?_;clear hK K
  refine zbg rfl (λhc3=>?_) (λhc3=>?_)
  ·try simp [zG8,zbc,zba] at hc3
   refine zdd 8 901 902 k hz hk l[k].fName l[k].fSnaps (by simp [zG7]) (by simp [zG7]) (by simp [zG7]) (by decide) (by decide) (by decide) ?_
   rw [zjj l k hk]
   refine AW_x rfl rfl λK hK=>?_
   simp (disch:=omega) [hset]
   refine hK _ ?_;clear hK K
   refine zbo (zb7 [8] [] (by simp [zG7,List.range_succ]) (by simp) ?_)
   simp (disch:=omega) [hset]
   have ⟨h1,h2⟩:=zz1 hk hc2;have ⟨h3,h4⟩:=com_e hc3;rw [h1,h2,h3,h4];exact ⟨by simp,rfl,by rw [List.set_getElem_self]⟩
  try simp [zG8,zbc,zba] at hc3
  refine zbh ?_
  refine zbm ?_
  refine zbe ?_
  refine AW_x rfl rfl λK hK=>?_
  simp (disch:=omega) [hset]
  refine hK _ ?_;clear hK K
  refine zbg rfl (λhc4=>?_) (λhc4=>?_)
  ·try simp [zG8,zbc,zba] at hc4
   refine zdd 8 901 902 k hz hk l[k].fName l[k].fSnaps (by simp [zG7]) (by simp [zG7]) (by simp [zG7]) (by decide) (by decide) (by decide) ?_
   rw [zjj l k hk]
   refine AW_x rfl rfl λK hK=>?_
   simp (disch:=omega) [hset]
   refine hK _ ?_;clear hK K
   refine zbo (zb7 [8] [] (by simp [zG7,List.range_succ]) (by simp) ?_)
   simp (disch:=omega) [hset]
   have ⟨h1,h2⟩:=zz1 hk hc2;have ⟨h3,h4⟩:=com_f hc3 (by omega);rw [h1,h2,h3,h4];exact ⟨by simp,rfl,by rw [List.set_getElem_self]⟩
  try simp [zG8,zbc,zba] at hc4
  refine zbh ?_
  refine zbm ?_
  refine zks (us:=l[k].fSnaps) 902 903 (by simp [zG7]) (by simp [zG7]) λys hys hone=>?_
  have hyl:ys.length=l[k].fSnaps.length:=by rw [←hys];simp
  refine AW_x rfl rfl λK hK=>?_
  simp (disch:=omega) [hset]
  repeat' first|(refine ⟨by omega,?_⟩) | fail
  refine hK _ ?_;clear hK K
  refine zgl (zw6 (ks:=ys) (zs:=ys) 896 903 (by simp [zG7,List.take_of_length_le,hyl]) (by simp [zG7]) (List.Sublist.refl _)) ?_
  have hsn:(ys.map λz=>DtCSnap.cells z.1)=l[k].fSnaps.map DtCSnap.cells:=by rw [←hys,List.map_map];rfl
  rw [hsn]
  refine AW_d rfl mix (by kernel_rfl) (by kernel_rfl) λK hK=>?_
  simp (disch:=omega) [hset]
  repeat' first|(refine ⟨by omega,?_⟩)|(simp (disch:=omega) [hset])
  refine hK _ _ (by kernel_rfl) ?_;clear hK K
  refine zdd 8 901 1104 k hz hk l[k].fName (l[k].fSnaps++[{ fName:=m.fName,fTag:=[],fChunks:=m.fChunks }]) (by simp [zG7,hyl]) (by simp [zG7]) (by simp [zG7,DtCSnap.cells]) (by decide) (by decide) (by decide) ?_
  refine AW_x rfl rfl λK hK=>?_
  simp (disch:=omega) [hset]
  refine hK _ ?_;clear hK K
  refine zbo (zb7 [8] [] (by simp [zG7,List.range_succ]) (by simp) ?_)
  simp (disch:=omega) [hset]
  have ⟨h1,h2⟩:=zz1 hk hc2;have ⟨h3,h4⟩:=com_k hc3 (by omega);rw [h1,h2,h3,h4];exact ⟨by simp,rfl,by simp [DtCSet.cells,DtCSnap.cells]⟩
 try simp [zG8,zbc,zba] at hc2
 refine AW_x rfl rfl λK hK=>?_
 simp (disch:=omega) [hset]
 refine hK _ ?_;clear hK K
 refine zbg rfl (λhc5=>?_) (λhc5=>?_)
 ·try simp [zG8,zbc,zba] at hc5
  refine zbe ?_
  refine AW_x rfl rfl λK hK=>?_
  simp (disch:=omega) [hset]
  refine hK _ ?_;clear hK K
  refine zbg rfl (λhc6=>?_) (λhc6=>?_)
  ·try simp [zG8,zbc,zba] at hc6
   refine zdd 8 901 902 k hz hk l[k].fName l[k].fSnaps (by simp [zG7]) (by simp [zG7]) (by simp [zG7]) (by decide) (by decide) (by decide) ?_
   rw [zjj l k hk]
   refine AW_x rfl rfl λK hK=>?_
   simp (disch:=omega) [hset]
   refine hK _ ?_;clear hK K
   refine zbo (zb7 [8] [] (by simp [zG7,List.range_succ]) (by simp) ?_)
   simp (disch:=omega) [hset]
   have ⟨h1,h2⟩:=set_4 hk hc5;have ⟨h3,h4⟩:=tag_n hc6;rw [h1,h2,h3,h4];exact ⟨by simp,rfl,by rw [List.set_getElem_self]⟩
  try simp [zG8,zbc,zba] at hc6
  refine zbh ?_
  refine zbm ?_
  have hj:=zqd (λp=>eqB p.fName m.fName) l[k].fSnaps (by have h:=hc6;unfold findN at h;omega)
  change (findN l[k].fSnaps m.fName).toNat<l[k].fSnaps.length at hj
  refine AW_d rfl mix (by kernel_rfl) (by kernel_rfl) λK hK=>?_
  simp (disch:=omega) [hset]
  repeat' first|(refine ⟨by omega,?_⟩) | fail
  refine hK _ _ (by kernel_rfl) ?_;clear hK K
  refine zdd 8 901 902 k hz hk l[k].fName (l[k].fSnaps.set (findN l[k].fSnaps m.fName).toNat { l[k].fSnaps[(findN l[k].fSnaps m.fName).toNat] with fTag:=m.fTag }) (by simp [zG7,List.length_set]) (by simp [zG7]) (by simp [zG7,DtCSnap.cells]) (by decide) (by decide) (by decide) ?_
  refine AW_x rfl rfl λK hK=>?_
  simp (disch:=omega) [hset]
  refine hK _ ?_;clear hK K
  refine zbo (zb7 [8] [] (by simp [zG7,List.range_succ]) (by simp) ?_)
  simp (disch:=omega) [hset]
  have ⟨h1,h2⟩:=set_4 hk hc5;have ⟨h3,h4⟩:=tag_k hc6 hj;rw [h1,h2,h3,h4];exact ⟨by simp,rfl,by simp [DtCSet.cells,DtCSnap.cells]⟩
 try simp [zG8,zbc,zba] at hc5
 refine AW_x rfl rfl λK hK=>?_
 simp (disch:=omega) [hset]
 refine hK _ ?_;clear hK K
 refine zbg rfl (λhc7=>?_) (λhc7=>?_)
 ·try simp [zG8,zbc,zba] at hc7
  have hN:=hN0 hc7
  refine AW_x rfl rfl λK hK=>?_
  simp (disch:=omega) [hset]
  repeat' first|(refine zch [902] true [] (l15PruneX l[k].fSnaps (by omega) m.fN hN.1 (by omega)) ?_ ?_ ?_;(focus (simp [List.range_succ,nmC];done));(focus (simp (disch:=omega) [hset,zbv];done));simp (disch:=omega) [hset]) | fail
  refine hK _ ?_;clear hK K
  refine AW_x rfl rfl λK hK=>?_
  simp (disch:=omega) [hset]
  repeat' first|(refine ⟨by omega,?_⟩) | fail
  refine hK _ ?_;clear hK K
  refine zdd 8 901 1552 k hz hk l[k].fName (pruS l[k] m.fN).fSnaps (by simp [zG7,pruS]) (by simp [zG7]) (by simp [zG7,pruS]) (by decide) (by decide) (by decide) ?_
  refine AW_d rfl mix (by kernel_rfl) (by kernel_rfl) λK hK=>?_
  simp (disch:=omega) [hset]
  repeat' first|(refine zjf (λst'=>(zbf zcb zbn)) (specDecZ (goneN l[k].fSnaps m.fN) (gone_bd l[k].fSnaps m.fN h5 hN.1).1 (by have:=(gone_bd l[k].fSnaps m.fN h5 hN.1).2.1;omega)) rfl ?_;simp (disch:=omega) [hset]) | fail
  refine hK _ _ (by kernel_rfl) ?_;clear hK K
  refine zbo (zb7 [8] [] (by simp [zG7,List.range_succ]) (by simp) ?_)
  simp (disch:=omega) [hset]
  have ⟨h1,h2⟩:=set_5 hk hc7;rw [h1,h2];exact ⟨by simp,rfl,by simp [DtCSet.cells,pruS]⟩
 try simp [zG8,zbc,zba] at hc7
 refine zbh ?_
 refine zbm ?_
 refine AW_d rfl mix (by kernel_rfl) (by kernel_rfl) λK hK=>?_
 simp (disch:=omega) [hset]
 repeat' first|(refine DKd_p (l15Read l[k] (by omega) hrd) (by rfl) (λst' hst=>?_) ?_;(focus (simp (disch:=omega) [hset] at hst;simp (disch:=omega) [hset,hst,zbv];done));simp (disch:=omega) [hset]) | fail
 refine hK _ _ (by kernel_rfl) ?_;clear hK K
 refine zdd 8 901 902 k hz hk l[k].fName l[k].fSnaps (by simp [zG7]) (by simp [zG7]) (by simp [zG7]) (by decide) (by decide) (by decide) ?_
 rw [zjj l k hk]
 refine zbo (zb7 [8] [] (by simp [zG7,List.range_succ]) (by simp) ?_)
 simp (disch:=omega) [hset]
 have ⟨h1,h2⟩:=set_6 hk hc1 hc2 hc5 hc7;rw [h1,h2];exact ⟨rfl,rfl,rfl⟩
end Go.Proofs.YtodmafgmdlkhoaaDoor.Vs
end
section
namespace Go.Proofs.YtodmafgmdlkhoaaDoor.Vs
set_option linter.all false
set_option maxRecDepth 100000
set_option maxHeartbeats 1000000
def insK(zs:List SetV)(c:Nat)(n:List UInt8)(i:Nat)(p:Bool):List SetV:=if p=true then zs.take c++newV n :: (zs.take i).drop c else zs.take i
theorem zxb(zs:List SetV)(c:Nat)(n:List UInt8)(i:Nat):insK zs c n i false=zs.take i:=rfl
theorem zxc(zs:List SetV)(c:Nat)(n:List UInt8)(i:Nat):insK zs c n i true=zs.take c++newV n :: (zs.take i).drop c:=rfl
theorem insK_fs(zs:List SetV)(c:Nat)(n:List UInt8)(i:Nat)(h:i<zs.length):insK zs c n (i+1) false=insK zs c n i false++[zs[i]]:=by rw [zxb,zxb,List.take_succ_eq_append_getElem h]
theorem insK_ts(zs:List SetV)(c:Nat)(n:List UInt8)(i:Nat)(h:i<zs.length)(hc:c≤i):insK zs c n (i+1) true=insK zs c n i true++[zs[i]]:=by
 rw [zxc,zxc,List.take_succ_eq_append_getElem h,List.drop_append_of_le_length (by simp;omega)];simp
theorem insK_n(zs:List SetV)(n:List UInt8)(i:Nat)(h:i<zs.length):insK zs i n (i+1) true=insK zs i n i false++[newV n]++[zs[i]]:=by
 have e:List.drop i (List.take i zs)=[]:=List.drop_eq_nil_of_le (by simp;omega)
 rw [insK_ts zs i n i h (Nat.le_refl _),zxc,zxb,e]
theorem insK_len(zs:List SetV)(c:Nat)(n:List UInt8)(i:Nat)(p:Bool):(insK zs c n i p).length≤zs.length+1+zs.length:=by
 cases p<;>simp [insK]<;>omega
theorem insK_e(zs:List SetV)(c:Nat)(n:List UInt8):insK zs c n zs.length true=zs.take c++newV n :: zs.drop c:=by rw [zxc,List.take_length]
theorem zxd{l:List DtCSet}{n:List UInt8}(h:findS l n<0)(j:Nat)(hj:j<l.length):¬l[j].fName=n:=by
 intro e
 unfold findS idxZ at h
 split at h
 ·omega
 ·rename_i h2
  rw [List.findIdx?_eq_none_iff] at h2
  have:=h2 _ (List.getElem_mem hj)
  rw [e,eqB_self] at this
  cases this
theorem zsi{α β:Type}(A:List α)(f:α→β)(y:β):List.take (A.length+1) (A.map f++[y])=A.map f++[y]:=List.take_of_length_le (by simp)
theorem cr_old{zs:List SetV}{c:Nat}{n:List UInt8}{i:Nat}{p:Bool}(hi:i<zs.length)(hpt:p=true→c<i):insK zs c n (i+1) p=insK zs c n i p++[zs[i]]:=by
 cases p with
 | false=>exact insK_fs zs c n i hi
 | true=>exact insK_ts zs c n i hi (by have:=hpt rfl;omega)
theorem cr_new{l:List DtCSet}{zs:List SetV}{n:List UInt8}{i:Nat}{p:Bool}(hzl:zs.length=l.length)(hi:i<zs.length)(hpf:p=false→∀j (h:j<l.length),j<i→Op.bytesLess l[j].fName n=true)(hp:p=false)(hyi:zs[i].1=l[i]'(by omega))(h:Op.bytesLess zs[i].1.fName n=false):insK zs (lessN l n) n (i+1) true=insK zs (lessN l n) n i p++[newV n]++[zs[i]]∧lessN l n=i:=by
 have e:lessN l n=i:=zqi n l i (by omega) (hpf hp) (λhh=>by rw [←hyi];exact h)
 subst hp
 rw [e]
 exact ⟨insK_n zs n i hi,rfl⟩
theorem cr_end0{l:List DtCSet}{zs:List SetV}{n:List UInt8}{i:Nat}{p:Bool}(hzl:zs.length=l.length)(hi:i=l.length)(hpf:p=false→∀j (h:j<l.length),j<i→Op.bytesLess l[j].fName n=true)(hp:p=false):(insK zs (lessN l n) n i p).map setV++[[.s n,.g (.slice none 0 0)]]=(zs.take (lessN l n)++newV n :: zs.drop (lessN l n)).map setV:=by
 have e:lessN l n=l.length:=zqi n l l.length (Nat.le_refl _) (λj h _=>hpf hp j h (by omega)) (λh=>absurd h (by omega))
 subst hp
 rw [e,zxb,hi,List.take_of_length_le (by omega),List.drop_eq_nil_of_le (by omega)]
 simp [setV_new]
theorem cr_end1{l:List DtCSet}{zs:List SetV}{n:List UInt8}{i:Nat}{p:Bool}(hzl:zs.length=l.length)(hi:i=l.length)(hp:p=true):(insK zs (lessN l n) n i p).map setV=(zs.take (lessN l n)++newV n :: zs.drop (lessN l n)).map setV:=by
 subst hp
 rw [hi,←hzl,insK_e]
attribute [local simp] DtCatalog.cells DtCSet.cells zbv zgt and_assoc zdu List.length_append
theorem zz2(l:List DtCSet)(hl:l.length≤1048576)(h5:l.length≤5)(n:List UInt8):XCall Tryd.prog 78 [.agg [.arr 8 0 l.length],.s n] [.own 2 (l.map DtCSet.cells)] (.tup [.agg [.arr 16 0 (creS l n).length],.s (creR l n)]) [.dead] [.own 2 ((creS l n).map DtCSet.cells)]:=by
 refine zbq Tryd.func78 (by rfl) (by rfl) (by rw [Tryd.ntmps78];exact Nat.le_of_ble_eq_true rfl) rfl (by simp) rfl rfl ?_
 rw [Tryd.ntmps78]
 refine zhn (.own 2 (l.map DtCSet.cells)) (by simp [cvO]<;>assumption) ?_
 refine AW_k [(0,_),(1,_)] ⟨rfl,rfl,trivial⟩ ?_
 refine AW_x rfl rfl λK hK=>?_
 simp (disch:=omega)
 refine hK _ ?_;clear hK K
 refine zbe ?_
 refine AW_x rfl rfl λK hK=>?_
 simp (disch:=omega)
 repeat' first|(refine zvc (l15At { fSets:=l } n (by simpa using hl)) (by rfl) ?_ ?_;(focus (simp (disch:=omega) [zbv];done));simp (disch:=omega)) | fail
 refine hK _ ?_;clear hK K
 refine zbg rfl (λhc1=>?_) (λhc1=>?_)
 ·try simp [zG8,zbc,zba] at hc1
  refine AW_x rfl rfl λK hK=>?_
  simp (disch:=omega)
  refine hK _ ?_;clear hK K
  refine zbo (zb7 [8] [] (by simp [zG7,List.range_succ]) (by simp) ?_)
  simp (disch:=omega)
  (have ⟨h1,h2⟩:=cre_e hc1;rw [h1,h2];exact ⟨rfl,rfl,rfl⟩)
 try simp [zG8,zbc,zba] at hc1
 refine zbh ?_
 refine zbm ?_
 refine zbe ?_
 refine AW_x rfl rfl λK hK=>?_
 simp (disch:=omega)
 refine hK _ ?_;clear hK K
 refine zbg rfl (λhc2=>?_) (λhc2=>?_)
 ·try simp [zG8,zbc,zba] at hc2
  refine AW_x rfl rfl λK hK=>?_
  simp (disch:=omega)
  refine hK _ ?_;clear hK K
  refine zbo (zb7 [8] [] (by simp [zG7,List.range_succ]) (by simp) ?_)
  simp (disch:=omega)
  (have ⟨h1,h2⟩:=cre_f hc1 (by omega);rw [h1,h2];exact ⟨rfl,rfl,rfl⟩)
 try simp [zG8,zbc,zba] at hc2
 refine zbh ?_
 refine zbm ?_
 refine zhx (us:=l) 8 901 (by simp [zG7]) (by simp [zG7]) λzs hz hone=>?_
 have hzl:zs.length=l.length:=by rw [←hz];simp
 refine AW_x rfl rfl λK hK=>?_
 simp (disch:=omega)
 refine hK _ ?_;clear hK K
 refine AW_x rfl rfl λK hK=>?_
 simp (disch:=omega)
 refine hK _ ?_;clear hK K
 refine zbe ?_
 refine AW_x rfl rfl λK hK=>?_
 simp (disch:=omega)
 refine hK _ ?_;clear hK K
 refine zbi ?_
 refine zbt (λmM sS=>∃(i:Nat) (p:Bool),mM=l.length-i∧(i≤l.length∧(p=false→∀j (h:j<l.length),j<i→Op.bytesLess l[j].fName n=true)∧(p=true→lessN l n<i))∧sS = { env:=lkE [(1,.s n),(2,.ptr 48 0),(4,.ptr 80 0),(6,.arr 904 0 (insK zs (lessN l n) n i p).length),(7,(.g (.bool (p)))),(8,(.g (.int .i64 ((i:Nat)))))],ob:=lk [(48,.cells [.arr 8 0 l.length]),(80,.cells [.g (.slice none 0 0)]),(8,.win 2 (zs.map setV)),(901,.park (zs.flatMap setP)),(904,.win 2 ((insK zs (lessN l n) n i p).map setV))] }) ?_ ?_
 ·refine ⟨_,LeS.kx [(48,48),(80,80),(8,8),(901,901),(904,320)] [(1,.s n),(2,.ptr 48 0),(4,.ptr 80 0),(6,.arr 904 0 (insK zs (lessN l n) n (0) (false)).length),(7,(.g (.bool ((false))))),(8,(.g (.int .i64 (((0):Nat)))))] [(48,.cells [.arr 8 0 l.length]),(80,.cells [.g (.slice none 0 0)]),(8,.win 2 (zs.map setV)),(901,.park (zs.flatMap setP)),(904,.win 2 ((insK zs (lessN l n) n (0) (false)).map setV))] (by simp [zG7,KpR,renV2,renV,zbj,zdu,zgt];try (simp [insK];done)) (by simp [zG7,KpOX,renO,plO,cvO,renV,pl1,zdu,zgt];(simp [insK];done)) (by rfl) (by simp) (by simp) (by rfl) (by simp [formsX,List.range_succ,zbr,zbz]),_,0,false,rfl,?_,rfl⟩
  ·exact ⟨by omega,λ_ j h hj=>absurd hj (by omega),λh=>by cases h⟩
 ·rintro mM sS ⟨i,p,rfl,⟨hi,hpf,hpt⟩,rfl⟩
  have hkl:=insK_len zs (lessN l n) n i p
  refine zbe ?_
  refine AW_x rfl rfl λK hK=>?_
  simp (disch:=omega)
  refine hK _ ?_;clear hK K
  refine zbg rfl (λhc3=>?_) (λhc3=>?_)
  ·try simp [zG8,zbc,zba] at hc3
   have hiz:i<zs.length:=by omega
   have hyi:=fst_at hz i hiz (by omega)
   have hne:=zxd hc1 i (by omega)
   have hv1:(zs[i].2 1).oneCell'=true:=hone _ (List.getElem_mem _) 1
   simp only [Value.oneCell'] at hv1
   rw [←hyi] at hne
   refine zbh ?_
   refine zbm ?_
   refine zbe ?_
   refine zbi ?_
   refine zbe ?_
   refine AW_x rfl rfl λK hK=>?_
   simp (disch:=omega) [hv1]
   repeat' first|(refine ⟨λ_=>?_,λ_=>?_⟩)|(refine ⟨by omega,?_⟩) | fail
   all_goals (refine hK _ ?_;clear hK K)
   all_goals
    refine zbg rfl (λhc4=>?_) (λhc4=>?_)
    ·try simp [zG8,zbc,zba] at hc4
     all_goals
      refine AW_x rfl rfl λK hK=>?_
      simp (disch:=omega) [hv1]
      repeat' first|(refine ⟨by omega,?_⟩) | fail
      refine hK _ ?_;clear hK K
      refine zb4 rfl rfl λK hK=>?_
      simp (disch:=omega) [hv1]
      refine hK _ ?_;clear hK K
      refine zbm ?_
      refine zb4 rfl rfl λK hK=>?_
      simp (disch:=omega) [hv1]
      repeat' first|(refine ⟨by omega,?_⟩) | fail
      refine hK _ ?_;clear hK K
      refine zbm ?_
      refine zb4 rfl rfl λK hK=>?_
      simp (disch:=omega) [hv1]
      refine hK _ ?_;clear hK K
      refine ⟨_,LeS.kx [(48,48),(80,80),(8,8),(901,901),(904,832)] [(1,.s n),(2,.ptr 48 0),(4,.ptr 80 0),(6,.arr 904 0 (insK zs (lessN l n) n (i+1) (true)).length),(7,(.g (.bool ((true))))),(8,(.g (.int .i64 (((i+1):Nat)))))] [(48,.cells [.arr 8 0 l.length]),(80,.cells [.g (.slice none 0 0)]),(8,.win 2 (zs.map setV)),(901,.park (zs.flatMap setP)),(904,.win 2 ((insK zs (lessN l n) n (i+1) (true)).map setV))] (by simp [zG7,KpR,renV2,renV,zbj,zdu,zgt];(rw [(cr_new hzl hiz hpf ‹p=false› hyi hc4.1).1];simp;done)) (by simp [zG7,KpOX,renO,plO,cvO,renV,pl1,zdu,zgt];(rw [(cr_new hzl hiz hpf ‹p=false› hyi hc4.1).1,zsi];simp [zgt,newV];done)) (by rfl) (by simp) (by simp) (by rfl) (by simp [formsX,List.range_succ,zbr,zbz]),_,?_,i+1,true,rfl,?_,rfl⟩
      ·omega
      ·(exact ⟨by omega,λh=>(by cases h),λ_=>by have:=(cr_new hzl hiz hpf ‹p=false› hyi hc4.1).2;omega⟩)
    try simp [zG8,zbc,zba] at hc4
    refine zbh ?_
    refine zbm ?_
    refine zb4 rfl rfl λK hK=>?_
    simp (disch:=omega) [hv1]
    repeat' first|(refine ⟨by omega,?_⟩) | fail
    all_goals (refine hK _ ?_;clear hK K)
    all_goals
     refine zbm ?_
     refine zb4 rfl rfl λK hK=>?_
     simp (disch:=omega) [hv1]
     refine hK _ ?_;clear hK K
     refine ⟨_,LeS.kx [(48,48),(80,80),(8,8),(901,901),(904,832)] [(1,.s n),(2,.ptr 48 0),(4,.ptr 80 0),(6,.arr 904 0 (insK zs (lessN l n) n (i+1) (p)).length),(7,(.g (.bool ((p))))),(8,(.g (.int .i64 (((i+1):Nat)))))] [(48,.cells [.arr 8 0 l.length]),(80,.cells [.g (.slice none 0 0)]),(8,.win 2 (zs.map setV)),(901,.park (zs.flatMap setP)),(904,.win 2 ((insK zs (lessN l n) n (i+1) (p)).map setV))] (by simp [zG7,KpR,renV2,renV,zbj,zdu,zgt];(rw [cr_old hiz hpt];simp;done)) (by simp [zG7,KpOX,renO,plO,cvO,renV,pl1,zdu,zgt];(rw [cr_old hiz hpt];simp [zgt];done)) (by rfl) (by simp) (by simp) (by rfl) (by simp [formsX,List.range_succ,zbr,zbz]),_,?_,i+1,p,rfl,?_,rfl⟩
     ·omega
     ·(exact ⟨by omega,λh j hj hji=>if e:j<i then hpf h j hj e else (by have e2:j=i:=(by omega);subst e2;rw [←hyi];grind),λh=>by have:=hpt h;omega⟩)
  try simp [zG8,zbc,zba] at hc3
  refine zbw ?_
  refine zbm ?_
  refine zbe ?_
  refine AW_x rfl rfl λK hK=>?_
  simp (disch:=omega)
  refine hK _ ?_;clear hK K
  refine zbg rfl (λhc5=>?_) (λhc5=>?_)
  ·try simp [zG8,zbc,zba] at hc5
   refine zb4 rfl rfl λK hK=>?_
   simp (disch:=omega)
   repeat' first|(refine ⟨by omega,?_⟩) | fail
   refine hK _ ?_;clear hK K
   refine zbm ?_
   have hil:i=l.length:=by omega
   obtain ⟨ks,hks⟩:∃ks,ks=zs.take (lessN l n)++newV n :: zs.drop (lessN l n):=⟨_,rfl⟩
   have hen:=cr_end0 hzl hil hpf hc5
   rw [←hks] at hen
   refine zgl (LeS.parkN 901 (s:=3) (ps1:=(zs.take (lessN l n)).flatMap setP) (ps2:=(zs.drop (lessN l n)).flatMap setP) (by simp [zG7];rw [←List.flatMap_append,List.take_append_drop])) ?_
   refine zgl (zqc (ks:=ks) (zs:=ks) 944 901 (by simp [zG7,hen]) (by simp [zG7];rw [hks];simp [zw9]) (List.Sublist.refl _)) ?_
   have hsn:=ins_c hz n (lessN l n)
   rw [hks,hsn]
   refine AW_x rfl rfl λK hK=>?_
   simp (disch:=omega)
   refine hK _ ?_;clear hK K
   refine AW_x rfl rfl λK hK=>?_
   simp (disch:=omega)
   refine hK _ ?_;clear hK K
   refine zbo (zb7 [944] [] (by simp [zG7,List.range_succ]) (by simp) ?_)
   simp (disch:=omega)
   (have ⟨h1,h2⟩:=cre_k hc1 (by omega);rw [h1,h2];have hkl:=congrArg List.length hen;simp at hkl;have hkk:=congrArg List.length hks;simp at hkk;exact ⟨by simp;omega,rfl,by simp [DtCSet.cells]⟩)
  try simp [zG8,zbc,zba] at hc5
  refine zbh ?_
  refine zbm ?_
  have hil:i=l.length:=by omega
  obtain ⟨ks,hks⟩:∃ks,ks=zs.take (lessN l n)++newV n :: zs.drop (lessN l n):=⟨_,rfl⟩
  have hen:=@cr_end1 l zs n i p hzl hil hc5
  rw [←hks] at hen
  refine zgl (LeS.parkN 901 (s:=3) (ps1:=(zs.take (lessN l n)).flatMap setP) (ps2:=(zs.drop (lessN l n)).flatMap setP) (by simp [zG7];rw [←List.flatMap_append,List.take_append_drop])) ?_
  refine zgl (zqc (ks:=ks) (zs:=ks) 904 901 (by simp [zG7,hen]) (by simp [zG7];rw [hks];simp [zw9]) (List.Sublist.refl _)) ?_
  have hsn:=ins_c hz n (lessN l n)
  rw [hks,hsn]
  refine AW_x rfl rfl λK hK=>?_
  simp (disch:=omega)
  refine hK _ ?_;clear hK K
  refine AW_x rfl rfl λK hK=>?_
  simp (disch:=omega)
  refine hK _ ?_;clear hK K
  refine zbo (zb7 [904] [] (by simp [zG7,List.range_succ]) (by simp) ?_)
  simp (disch:=omega)
  (have ⟨h1,h2⟩:=cre_k hc1 (by omega);rw [h1,h2];have hkl:=congrArg List.length hen;simp at hkl;have hkk:=congrArg List.length hks;simp at hkk;exact ⟨by simp;omega,rfl,by simp [DtCSet.cells]⟩)
end Go.Proofs.YtodmafgmdlkhoaaDoor.Vs
end
section
namespace Go.Proofs.YtodmafgmdlkhoaaDoor.Vs
set_option linter.all false
set_option maxRecDepth 100000
set_option maxHeartbeats 1000000
theorem dB_t{p:Prop}(h:decB p=true):p:=by rwa [zbk] at h
theorem dB_f{p:Prop}(h:decB p=false):¬p:=by rwa [zbl] at h
theorem nam_at(l:List DtCSet)(i:Nat)(h:i<l.length)(hb:(spc (namL l)).length≤1073741824):spc ((namL l).take (i+1))=(if i=0 then [] else spc ((namL l).take i)++[32])++l[i].fName∧(spc ((namL l).take i)).length+l[i].fName.length+1≤1073741825:=by
 have hl:i<(namL l).length:=by simpa [namL] using h
 have e:(namL l)[i]=l[i].fName:=by simp [namL]
 have h1:=zqb (namL l) i hl
 have h2:=(spc_bd (namL l) i hl hb).1
 rw [e] at h2
 refine ⟨?_,by omega⟩
 rw [h1,e]
 split<;>simp
attribute [local simp] DtCatalog.cells DtCmd.cells DtCSet.cells zbv and_assoc zdu len0
theorem specCatDo(c:DtCatalog)(m:DtCmd)(hs:DtCatalog.sz c≤1048576)(hm:DtCmd.sz m≤1048576)(hch:m.fChunks.length≤1048576):XCall Tryd.prog 65 [.agg (DtCatalog.cells c),.agg (DtCmd.cells m)] [] (.tup [.agg [.arr 16 0 (catS c m).length],.s (catR c m)]) [] [.own 2 ((catS c m).map DtCSet.cells)]:=by
 have hB:=catB_of c hs
 have hB1:=hB.1
 refine zbq Tryd.func65 (by rfl) (by rfl) (by rw [Tryd.ntmps65];exact Nat.le_of_ble_eq_true rfl) rfl (by simp) rfl rfl ?_
 rw [Tryd.ntmps65]
 refine zdk   ?_
 refine AW_k [(0,_),(1,_)] ⟨rfl,rfl,trivial⟩ ?_
 refine AW_x rfl rfl λK hK=>?_
 simp (disch:=omega)
 refine hK _ ?_;clear hK K
 refine zbe ?_
 refine AW_x rfl rfl λK hK=>?_
 simp (disch:=omega)
 repeat' first|(refine zf1 (zbf (zcn rfl) zbn) (zse c (by omega)) rfl ?_;simp (disch:=omega)) | fail
 refine hK _ ?_;clear hK K
 refine zbg rfl (λhc1=>?_) (λhc1=>?_)
 ·try simp [zG8,zbc,zba] at hc1
  refine AW_x rfl rfl λK hK=>?_
  simp (disch:=omega)
  refine hK _ ?_;clear hK K
  refine zbo (zb7 [1000] [(1000,2)] (by simp [zG7,List.range_succ]) (by simp) ?_)
  simp (disch:=omega)
  (have ⟨h1,h2⟩:=cat_f hc1 (m:=m);exact ⟨h1,h2,h1⟩)
 ·try simp [zG8,zbc,zba] at hc1
  refine zbh ?_
  refine zbm ?_
  obtain ⟨hb1,hb2,hb3,hb4⟩:=catP_bd hc1
  refine AW_x rfl rfl λK hK=>?_
  simp (disch:=omega)
  repeat' first|(refine zch [] true [] (zw5 c hB) ?_ ?_ ?_;(focus (simp [List.range_succ,nmC];done));(focus (simp (disch:=omega) [zbv];done));simp (disch:=omega)) | fail
  refine hK _ ?_;clear hK K
  refine zbe ?_
  refine AW_x rfl rfl λK hK=>?_
  simp (disch:=omega)
  repeat' first|(refine zf1 (zbf (zcn rfl) zbn) (zsf m (by omega)) rfl ?_;simp (disch:=omega))|(refine ⟨λ_=>?_,λ_=>?_⟩) | fail
  all_goals (refine hK _ ?_;clear hK K)
  all_goals
   refine zbg rfl (λhc2=>?_) (λhc2=>?_)
   ·try simp [zG8,zbc,zba] at hc2
    all_goals
     refine AW_x rfl rfl λK hK=>?_
     simp (disch:=omega)
     all_goals (refine hK _ ?_;clear hK K)
     all_goals
      refine zbo (zb7 [320] [] (by simp [zG7,List.range_succ]) (by simp) ?_)
      simp (disch:=omega)
      all_goals first|(have ⟨h1,h2⟩:=cat_m hc1 (dB_f ‹decB (CmdP m)=false›);rw [h1,h2];exact ⟨rfl,rfl,rfl⟩)|(have ⟨h1,h2⟩:=cat_0 hc1 (dB_t ‹decB (CmdP m)=true›) hc2;rw [h1,h2];exact ⟨rfl,rfl,rfl⟩)
   ·try simp [zG8,zbc,zba] at hc2
    all_goals
     refine zbh ?_
     refine zbm ?_
     refine zbe ?_
     refine AW_x rfl rfl λK hK=>?_
     simp (disch:=omega)
     refine hK _ ?_;clear hK K
     refine zbg rfl (λhc3=>?_) (λhc3=>?_)
     ·try simp [zG8,zbc,zba] at hc3
      refine AW_x rfl rfl λK hK=>?_
      simp (disch:=omega)
      repeat' first|(refine zch [320] true [] (zz2 c.fSets (by omega) (by omega) m.fSet) ?_ ?_ ?_;(focus (simp [List.range_succ,nmC];done));(focus (simp (disch:=omega) [zbv];done));simp (disch:=omega)) | fail
      refine hK _ ?_;clear hK K
      refine AW_x rfl rfl λK hK=>?_
      simp (disch:=omega)
      refine hK _ ?_;clear hK K
      refine zbo (zb7 [592] [] (by simp [zG7,List.range_succ]) (by simp) ?_)
      simp (disch:=omega)
      (have ⟨h1,h2⟩:=cat_1 hc1 (dB_t ‹decB (CmdP m)=true›) hc3;rw [h1,h2];exact ⟨rfl,rfl,rfl⟩)
     ·try simp [zG8,zbc,zba] at hc3
      refine zbh ?_
      refine zbm ?_
      refine zbe ?_
      refine AW_x rfl rfl λK hK=>?_
      simp (disch:=omega)
      refine hK _ ?_;clear hK K
      refine zbg rfl (λhc4=>?_) (λhc4=>?_)
      ·try simp [zG8,zbc,zba] at hc4
       refine AW_x rfl rfl λK hK=>?_
       simp (disch:=omega)
       refine hK _ ?_;clear hK K
       refine zbe ?_
       refine AW_x rfl rfl λK hK=>?_
       simp (disch:=omega)
       refine hK _ ?_;clear hK K
       refine zbi ?_
       refine zbt (λmM sS=>∃(i:Nat),mM=c.fSets.length-i∧(i≤c.fSets.length)∧sS = { env:=lkE [(3,.ptr 64 0),(4,.ptr 80 0),(6,.ptr 112 0),(9,.s (spc ((namL c.fSets).take i))),(10,(.g (.int .i64 ((i:Nat)))))],ob:=lk [(64,.cells (DtCmd.cells m)),(80,.cells [.g (.slice none 0 0)]),(112,.cells [.arr 320 0 c.fSets.length]),(320,.own 2 (c.fSets.map DtCSet.cells))] }) ?_ ?_
       ·refine ⟨_,LeS.kx [(64,64),(80,80),(112,112),(320,320)] [(3,.ptr 64 0),(4,.ptr 80 0),(6,.ptr 112 0),(9,.s (spc ((namL c.fSets).take (0)))),(10,(.g (.int .i64 (((0):Nat)))))] [(64,.cells (DtCmd.cells m)),(80,.cells [.g (.slice none 0 0)]),(112,.cells [.arr 320 0 c.fSets.length]),(320,.own 2 (c.fSets.map DtCSet.cells))] (by simp [zG7,KpR,renV2,renV,zbj,DtCSet.cells,DtCmd.cells];all_goals rfl) (by simp [zG7,KpOX,renO,plO,cvO,renV,pl1,DtCSet.cells,DtCmd.cells]) (by rfl) (by simp) (by simp) (by rfl) (by simp [formsX,List.range_succ,zbr,zbz]),_,0,rfl,?_,rfl⟩
        ·simp
       ·rintro mM sS ⟨i,rfl,hi,rfl⟩
        refine zbe ?_
        refine AW_x rfl rfl λK hK=>?_
        simp (disch:=omega)
        refine hK _ ?_;clear hK K
        refine zbg rfl (λhc5=>?_) (λhc5=>?_)
        ·try simp [zG8,zbc,zba] at hc5
         have hg:(c.fSets.map DtCSet.cells)[i]? = some (DtCSet.cells (c.fSets[i]'(by omega))):=by rw [List.getElem?_map,List.getElem?_eq_getElem (by omega)];rfl
         have ⟨htk,hbd⟩:=nam_at c.fSets i (by omega) hb3
         refine zbh ?_
         refine zbm ?_
         refine zbe ?_
         refine zbi ?_
         refine zbe ?_
         refine AW_x rfl rfl λK hK=>?_
         simp (disch:=omega)
         refine hK _ ?_;clear hK K
         refine zbg rfl (λhc6=>?_) (λhc6=>?_)
         ·try simp [zG8,zbc,zba] at hc6
          refine zb4 rfl rfl λK hK=>?_
          simp (disch:=omega)
          repeat' first|(refine ⟨by omega,?_⟩) | fail
          refine hK _ ?_;clear hK K
          refine zbm ?_
          refine zb4 rfl rfl λK hK=>?_
          simp (disch:=omega)
          repeat' first|(refine ⟨by omega,?_⟩) | fail
          refine hK _ ?_;clear hK K
          refine zbm ?_
          refine zb4 rfl rfl λK hK=>?_
          simp (disch:=omega)
          refine hK _ ?_;clear hK K
          refine ⟨_,LeS.kx [(64,64),(80,80),(112,112),(320,320)] [(3,.ptr 64 0),(4,.ptr 80 0),(6,.ptr 112 0),(9,.s (spc ((namL c.fSets).take (i+1)))),(10,(.g (.int .i64 (((i+1):Nat)))))] [(64,.cells (DtCmd.cells m)),(80,.cells [.g (.slice none 0 0)]),(112,.cells [.arr 320 0 c.fSets.length]),(320,.own 2 (c.fSets.map DtCSet.cells))] (by simp [zG7,KpR,renV2,renV,zbj,DtCSet.cells,DtCmd.cells];all_goals (rw [htk];split<;>first|(simp [spc];done)|(exfalso;omega))) (by simp [zG7,KpOX,renO,plO,cvO,renV,pl1,DtCSet.cells,DtCmd.cells]) (by rfl) (by simp) (by simp) (by rfl) (by simp [formsX,List.range_succ,zbr,zbz]),_,?_,i+1,rfl,?_,rfl⟩
          ·omega
          ·omega
         ·try simp [zG8,zbc,zba] at hc6
          refine zbh ?_
          refine zbm ?_
          refine zb4 rfl rfl λK hK=>?_
          simp (disch:=omega)
          repeat' first|(refine ⟨by omega,?_⟩) | fail
          refine hK _ ?_;clear hK K
          refine zbm ?_
          refine zb4 rfl rfl λK hK=>?_
          simp (disch:=omega)
          refine hK _ ?_;clear hK K
          refine ⟨_,LeS.kx [(64,64),(80,80),(112,112),(320,320)] [(3,.ptr 64 0),(4,.ptr 80 0),(6,.ptr 112 0),(9,.s (spc ((namL c.fSets).take (i+1)))),(10,(.g (.int .i64 (((i+1):Nat)))))] [(64,.cells (DtCmd.cells m)),(80,.cells [.g (.slice none 0 0)]),(112,.cells [.arr 320 0 c.fSets.length]),(320,.own 2 (c.fSets.map DtCSet.cells))] (by simp [zG7,KpR,renV2,renV,zbj,DtCSet.cells,DtCmd.cells];all_goals (rw [htk];split<;>(subst_vars;simp [spc];done))) (by simp [zG7,KpOX,renO,plO,cvO,renV,pl1,DtCSet.cells,DtCmd.cells]) (by rfl) (by simp) (by simp) (by rfl) (by simp [formsX,List.range_succ,zbr,zbz]),_,?_,i+1,rfl,?_,rfl⟩
          ·omega
          ·omega
        ·try simp [zG8,zbc,zba] at hc5
         have htf:(namL c.fSets).take i=namL c.fSets:=List.take_of_length_le (by simp [namL];omega)
         refine zbw ?_
         refine zbm ?_
         refine AW_x rfl rfl λK hK=>?_
         simp (disch:=omega)
         refine hK _ ?_;clear hK K
         refine zbo (zb7 [320] [] (by simp [zG7,List.range_succ]) (by simp) ?_)
         simp (disch:=omega)
         (have ⟨h1,h2⟩:=cat_7 hc1 (dB_t ‹decB (CmdP m)=true›) hc4;rw [h1,h2,htf];exact ⟨rfl,rfl,rfl⟩)
      ·try simp [zG8,zbc,zba] at hc4
       refine zbh ?_
       refine zbm ?_
       refine AW_x rfl rfl λK hK=>?_
       simp (disch:=omega)
       repeat' first|(refine zvc (l15At c m.fSet (by omega)) (by rfl) ?_ ?_;(focus (simp (disch:=omega) [zbv];done));simp (disch:=omega)) | fail
       refine hK _ ?_;clear hK K
       refine zbe ?_
       refine AW_x rfl rfl λK hK=>?_
       simp (disch:=omega)
       refine hK _ ?_;clear hK K
       refine zbg rfl (λhc7=>?_) (λhc7=>?_)
       ·try simp [zG8,zbc,zba] at hc7
        refine AW_x rfl rfl λK hK=>?_
        simp (disch:=omega)
        refine hK _ ?_;clear hK K
        refine zbo (zb7 [320] [] (by simp [zG7,List.range_succ]) (by simp) ?_)
        simp (disch:=omega)
        (have ⟨h1,h2⟩:=cat_n hc1 (dB_t ‹decB (CmdP m)=true›) hc2 hc3 hc4 hc7;rw [h1,h2];exact ⟨rfl,rfl,rfl⟩)
       ·try simp [zG8,zbc,zba] at hc7
        refine zbh ?_
        refine zbm ?_
        obtain ⟨k,hkz⟩:=Int.eq_ofNat_of_zero_le hc7
        have hk:=zqj hkz
        have hmz:CmdP m∧¬m.fKind=0:=⟨dB_t ‹_›,hc2⟩
        have ⟨hS,hR⟩:=cat_k hc1 hmz.1 hmz.2 hc3 hc4 hkz
        have hN:m.fKind=5→0≤m.fN∧m.fN≤9:=by have:=hmz.1;clear hS hR;intro h5;simp only [CmdP] at this;by_cases h0:m.fN=0<;>grind
        simp only [hkz]
        refine AW_x rfl rfl λK hK=>?_
        simp (disch:=omega)
        repeat' first|(refine zch [320] true [] (l15SetX c.fSets (by omega) k hk m (hb2 k hk) (hb4 k hk) hN hch) ?_ ?_ ?_;(focus (simp [List.range_succ,nmC];done));(focus (simp (disch:=omega) [zbv];done));simp (disch:=omega)) | fail
        refine hK _ ?_;clear hK K
        refine AW_x rfl rfl λK hK=>?_
        simp (disch:=omega)
        refine hK _ ?_;clear hK K
        refine zbo (zb7 [1232] [] (by simp [zG7,List.range_succ]) (by simp) ?_)
        simp (disch:=omega)
        (rw [hS,hR];exact ⟨rfl,rfl,rfl⟩)
end Go.Proofs.YtodmafgmdlkhoaaDoor.Vs
end
section
namespace Go.Proofs.YtodmafgmdlkhoaaDoor.Vs
set_option linter.all false
/-! a command leaves a catalog valid -/
theorem zlg:∀(x y z:List UInt8),Op.bytesLess x y=true→Op.bytesLess y z=true→Op.bytesLess x z=true
 | [],[],_,h,_=>by simp [Op.bytesLess] at h
 | [],_ :: _,[],_,h=>by simp [Op.bytesLess] at h
 | [],_ :: _,_ :: _,_,_=>by simp [Op.bytesLess]
 | _ :: _,[],_,h,_=>by simp [Op.bytesLess] at h
 | _ :: _,_ :: _,[],_,h=>by simp [Op.bytesLess] at h
 | a :: x,b :: y,c :: z,h1,h2=>by
  simp only [Op.bytesLess,Bool.or_eq_true,Bool.and_eq_true,decide_eq_true_eq,beq_iff_eq] at h1 h2 ⊢
  rcases h1 with h1 | ⟨rfl,h1⟩
  ·rcases h2 with h2 | ⟨rfl,h2⟩
   ·exact .inl (UInt8.lt_trans h1 h2)
   ·exact .inl h1
  ·rcases h2 with h2 | ⟨rfl,h2⟩
   ·exact .inl h2
   ·exact .inr ⟨rfl,zlg x y z h1 h2⟩
theorem bl_tot:∀(x y:List UInt8),Op.bytesLess x y=false→x≠y→Op.bytesLess y x=true
 | [],[],_,h=>(h rfl).elim
 | [],_ :: _,h,_=>by simp [Op.bytesLess] at h
 | _ :: _,[],_,_=>by simp [Op.bytesLess]
 | a :: x,b :: y,h,hne=>by
  simp only [Op.bytesLess,Bool.or_eq_false_iff,decide_eq_false_iff_not,Bool.and_eq_false_iff,beq_eq_false_iff_ne] at h
  simp only [Op.bytesLess,Bool.or_eq_true,Bool.and_eq_true,decide_eq_true_eq,beq_iff_eq]
  by_cases e:a=b
  ·subst e
   refine .inr ⟨rfl,bl_tot x y (h.2.resolve_left (λh=>h rfl)) λe=>hne (by rw [e])⟩
  ·refine .inl ?_
   have:=h.1
   rw [UInt8.lt_iff_toNat_lt] at this ⊢
   have hn:a.toNat≠b.toNat:=λhh=>e (UInt8.toNat_inj.1 hh)
   omega
theorem zxe:∀(l:List DtCSnap),(l.map (·.fName)).Nodup→∀(k:Nat) p,l[k]? = some p→findN l p.fName=k:=by
 intro l hnd k p hp
 obtain ⟨hk,rfl⟩:=List.getElem?_eq_some_iff.1 hp
 unfold findN
 refine zgc hk (by rw [zbc]) λj x hj hx=>?_
 obtain ⟨hj2,rfl⟩:=List.getElem?_eq_some_iff.1 hx
 rw [zba]
 intro e
 have:=List.pairwise_iff_getElem.1 hnd j k (by simpa using hj2) (by simpa using hk) hj
 simp only [List.getElem_map] at this
 exact this e
theorem nd_findN(l:List DtCSnap)(h:∀(k:Nat) p,l[k]? = some p→findN l p.fName=k):(l.map (·.fName)).Nodup:=by
 refine List.pairwise_iff_getElem.2 λj k hj hk hjk e=>?_
 simp only [List.length_map] at hj hk
 simp only [List.getElem_map] at e
 have h1:=h j _ (List.getElem?_eq_getElem hj)
 have h2:=h k _ (List.getElem?_eq_getElem hk)
 rw [e,h2] at h1
 omega
def SetN(s:DtCSet):Prop:=Word s.fName∧s.fSnaps.length≤5∧(∀p∈s.fSnaps,SnapP p)∧(s.fSnaps.map (·.fName)).Nodup
theorem zxf(s:DtCSet):SetP s↔SetN s:=by
 constructor
 ·rintro ⟨h1,h2,h3⟩
  refine ⟨h1,h2,λp hp=>?_,nd_findN _ λk p h=>(h3 k p h).2⟩
  obtain ⟨k,hk⟩:=List.getElem?_of_mem hp
  exact (h3 k p hk).1
 ·rintro ⟨h1,h2,h3,h4⟩
  exact ⟨h1,h2,λk p h=>⟨h3 p (List.mem_of_getElem? h),zxe _ h4 k p h⟩⟩
abbrev lessS (s t:DtCSet):Prop:=Op.bytesLess s.fName t.fName=true
def CatN(l:List DtCSet):Prop:=l.length≤5∧(∀s∈l,SetN s)∧l.Pairwise lessS
theorem zsj:∀(l:List DtCSet),(∀(i:Nat) s t,l[i]? = some t→l[i+1]? = some s→lessS t s)→l.Pairwise lessS
 | [],_=>List.Pairwise.nil
 | [a],_=>List.pairwise_singleton _ _
 | a :: b :: l,h=>by
  have ih:=zsj (b :: l) λi s t h1 h2=>h (i+1) s t (by simpa using h1) (by simpa using h2)
  refine List.pairwise_cons.2 ⟨λx hx=>?_,ih⟩
  have hab:lessS a b:=h 0 b a rfl rfl
  rcases List.mem_cons.1 hx with rfl | hx
  ·exact hab
  ·exact zlg _ _ _ hab ((List.pairwise_cons.1 ih).1 x hx)
theorem zqk(c:DtCatalog):CatP c↔CatN c.fSets:=by
 constructor
 ·rintro ⟨h1,h2⟩
  refine ⟨h1,λs hs=>?_,zsj _ λi s t ht hs=>?_⟩
  ·obtain ⟨k,hk⟩:=List.getElem?_of_mem hs
   exact (zxf s).1 (h2 k s hk).1
  ·exact (h2 (i+1) s hs).2 t (by omega) ht
 ·rintro ⟨h1,h2,h3⟩
  refine ⟨h1,λi s hs=>⟨(zxf s).2 (h2 s (List.mem_of_getElem? hs)),λt hi ht=>?_⟩⟩
  obtain ⟨hk,rfl⟩:=List.getElem?_eq_some_iff.1 hs
  obtain ⟨hj,rfl⟩:=List.getElem?_eq_some_iff.1 ht
  exact List.pairwise_iff_getElem.1 h3 (i-1) i hj hk (by omega)
theorem zsk(n:List UInt8):∀(l:List DtCSet),∀s∈l.take (lessN l n),Op.bytesLess s.fName n=true
 | [],s,h=>by simp at h
 | a :: l,s,h=>by
  by_cases e:Op.bytesLess a.fName n=true
  ·simp only [lessN,e,if_true,List.take_succ_cons,List.mem_cons] at h
   rcases h with rfl | h
   ·exact e
   ·exact zsk n l s h
  ·simp only [lessN,e,if_false,List.take_zero] at h;cases h
theorem zsl(n:List UInt8):∀(l:List DtCSet),l.Pairwise lessS→(∀s∈l,s.fName≠n)→∀s∈l.drop (lessN l n),Op.bytesLess n s.fName=true
 | [],_,_,s,h=>by simp at h
 | a :: l,hp,hne,s,h=>by
  by_cases e:Op.bytesLess a.fName n=true
  ·simp only [lessN,e,if_true,List.drop_succ_cons] at h
   exact zsl n l (List.pairwise_cons.1 hp).2 (λs hs=>hne s (List.mem_cons_of_mem _ hs)) s h
  ·simp only [lessN,e,if_false,List.drop_zero] at h
   have ha:=bl_tot a.fName n (by simpa using e) (hne a List.mem_cons_self)
   rcases List.mem_cons.1 h with rfl | h
   ·exact ha
   ·exact zlg _ _ _ ha ((List.pairwise_cons.1 hp).1 s h)
theorem creN{l:List DtCSet}(h:CatN l)(n:List UInt8)(hn:Word n):CatN (creS l n):=by
 by_cases h1:0≤findS l n
 ·rw [(cre_e h1).1];exact h
 ·by_cases h2:(l.length:Int)=5
  ·rw [(cre_f (by omega) h2).1];exact h
  ·rw [(cre_k (by omega) h2).1]
   obtain ⟨g1,g2,g3⟩:=h
   have hne:∀s∈l,s.fName≠n:=λs hs=>by
    obtain ⟨k,hk,rfl⟩:=List.getElem_of_mem hs
    exact zxd (by omega) k hk
   have hll:=lessN_le l n
   refine ⟨by simp;omega,λs hs=>?_,?_⟩
   ·rcases List.mem_append.1 hs with hs | hs
    ·exact g2 s (List.mem_of_mem_take hs)
    ·rcases List.mem_cons.1 hs with rfl | hs
     ·exact ⟨hn,by simp,by simp,by simp⟩
     ·exact g2 s (List.mem_of_mem_drop hs)
   ·have ht:=zsk n l
    have hd:=zsl n l g3 hne
    refine List.pairwise_append.2 ⟨g3.sublist (List.take_sublist _ _),List.pairwise_cons.2 ⟨λs hs=>hd s hs,g3.sublist (List.drop_sublist _ _)⟩,λa ha b hb=>?_⟩
    rcases List.mem_cons.1 hb with rfl | hb
    ·exact ht a ha
    ·exact zlg _ _ _ (ht a ha) (hd b hb)
theorem zql{l:List DtCSet}(h:CatN l){k:Nat}(hk:k<l.length){x:DtCSet}(hx:SetN x)(hn:x.fName=l[k].fName):CatN (l.set k x):=by
 obtain ⟨g1,g2,g3⟩:=h
 refine ⟨by simpa using g1,λs hs=>?_,?_⟩
 ·rcases List.mem_or_eq_of_mem_set hs with hs | rfl
  ·exact g2 s hs
  ·exact hx
 ·have key:∀l:List DtCSet,l.Pairwise lessS↔(l.map (·.fName)).Pairwise λa b=>Op.bytesLess a b=true:=λl=>by rw [List.pairwise_map]
  rw [key] at g3 ⊢
  have e:(l.set k x).map (·.fName)=l.map (·.fName):=by
   rw [List.map_set,hn]
   have:(l.map (·.fName))[k]'(by simpa using hk)=l[k].fName:=by simp
   rw [←this,List.set_getElem_self]
  rw [e];exact g3
theorem setN_com{s:DtCSet}(h:SetN s){m:DtCmd}(hw:Word m.fName)(hc:1≤m.fChunks.length∧m.fChunks.length≤4∧Ch8 m.fChunks):SetN (comS s m)∧(comS s m).fName=s.fName:=by
 by_cases h1:0≤findN s.fSnaps m.fName
 ·rw [(com_e h1).1];exact ⟨h,rfl⟩
 ·by_cases h2:(s.fSnaps.length:Int)=5
  ·rw [(com_f (by omega) h2).1];exact ⟨h,rfl⟩
  ·rw [(com_k (by omega) h2).1]
   obtain ⟨g1,g2,g3,g4⟩:=h
   refine ⟨⟨g1,by simp;omega,λp hp=>?_,?_⟩,rfl⟩
   ·rcases List.mem_append.1 hp with hp | hp
    ·exact g3 p hp
    ·rw [List.mem_singleton] at hp
     subst hp
     exact ⟨hw,.inl rfl,hc.1,hc.2.1,hc.2.2⟩
   ·rw [List.map_append,List.nodup_append]
    refine ⟨g4,by simp,λa ha b hb=>?_⟩
    simp only [List.map_cons,List.map_nil,List.mem_singleton] at hb
    subst hb
    rintro rfl
    obtain ⟨p,hp,e⟩:=List.mem_map.1 ha
    obtain ⟨k,hk,rfl⟩:=List.getElem_of_mem hp
    have:=zxe _ g4 k _ (List.getElem?_eq_getElem hk)
    rw [e] at this
    omega
theorem setN_tag{s:DtCSet}(h:SetN s){m:DtCmd}(hw:Word m.fTag):SetN (tagS s m)∧(tagS s m).fName=s.fName:=by
 by_cases h1:0≤findN s.fSnaps m.fName
 ·have hj:=zqd (λp=>eqB p.fName m.fName) s.fSnaps (by have:=h1;unfold findN at this;omega)
  change (findN s.fSnaps m.fName).toNat<s.fSnaps.length at hj
  rw [(tag_k h1 hj).1]
  obtain ⟨g1,g2,g3,g4⟩:=h
  refine ⟨⟨g1,by simpa using g2,λp hp=>?_,?_⟩,rfl⟩
  ·rcases List.mem_or_eq_of_mem_set hp with hp | rfl
   ·exact g3 p hp
   ·have:=g3 _ (List.getElem_mem hj)
    exact ⟨this.1,.inr hw,this.2.2⟩
  ·have e : (s.fSnaps.set (findN s.fSnaps m.fName).toNat { s.fSnaps[(findN s.fSnaps m.fName).toNat] with fTag := m.fTag }).map (·.fName) = s.fSnaps.map (·.fName) := by
    rw [List.map_set]
    have:(s.fSnaps.map (·.fName))[(findN s.fSnaps m.fName).toNat]'(by simpa using hj)=s.fSnaps[(findN s.fSnaps m.fName).toNat].fName:=by simp
    simp only [←this]
    rw [List.set_getElem_self]
   show (List.map (·.fName) (s.fSnaps.set _ _)).Nodup
   rw [e];exact g4
 ·rw [(tag_n (by omega)).1];exact ⟨h,rfl⟩
theorem setN_pru{s:DtCSet}(h:SetN s)(n:Int):SetN (pruS s n)∧(pruS s n).fName=s.fName:=by
 obtain ⟨g1,g2,g3,g4⟩:=h
 have hs:(pruS s n).fSnaps.Sublist s.fSnaps:=zqf _ _ _
 exact ⟨⟨g1,Nat.le_trans hs.length_le g2,λp hp=>g3 p (hs.subset hp),g4.sublist (hs.map _)⟩,rfl⟩
theorem catN_step{c:DtCatalog}(h:CatP c)(m:DtCmd):CatN (catS c m):=by
 have hN:=(zqk c).1 h
 by_cases hm:CmdP m
 ·by_cases h0:m.fKind=0
  ·rw [(cat_0 h hm h0).1];exact hN
  ·obtain ⟨-,k7,-,-,-,-,w1,-,w2,-,w3,-,-,w4,-⟩:=hm.resolve_left λhh=>h0 hh.1
   by_cases h1:m.fKind=1
   ·rw [(cat_1 h hm h1).1]
    exact creN hN _ (w1 (by omega))
   ·by_cases h7:m.fKind=7
    ·rw [(cat_7 h hm h7).1];exact hN
    ·by_cases hf:findS c.fSets m.fSet<0
     ·rw [(cat_n h hm h0 h1 h7 hf).1];exact hN
     ·obtain ⟨k,hkz⟩:=Int.eq_ofNat_of_zero_le (Int.not_lt.1 hf)
      have hk:=zqj hkz
      rw [(cat_k h hm h0 h1 h7 hkz).1]
      have hs:=hN.2.1 _ (List.getElem_mem hk)
      by_cases h2:m.fKind=2
      ·rw [(set_2 h2).1]
       have hsub:=del_sub c.fSets k
       exact ⟨Nat.le_trans hsub.length_le hN.1,λs hs=>hN.2.1 s (hsub.subset hs),hN.2.2.sublist hsub⟩
      ·by_cases h3:m.fKind=3
       ·rw [(zz1 hk h3).1]
        have:=setN_com hs (w2 (.inl h3)) (w4 h3)
        exact zql hN hk this.1 this.2
       ·by_cases h4:m.fKind=4
        ·rw [(set_4 hk h4).1]
         have:=setN_tag hs (w3 h4)
         exact zql hN hk this.1 this.2
        ·by_cases h5:m.fKind=5
         ·rw [(set_5 hk h5).1]
          have:=setN_pru hs m.fN
          exact zql hN hk this.1 this.2
         ·rw [(set_6 hk h2 h3 h4 h5).1];exact hN
 ·rw [(cat_m h hm).1];exact hN
theorem catP_nil:CatP { fSets:=[] }:=⟨by simp,by simp⟩
/-- The catalog behind a command. -/
noncomputable def catC(c:DtCatalog)(m:DtCmd):DtCatalog:={ fSets:=catS c m }
theorem catP_step(c:DtCatalog)(m:DtCmd):CatP (catC c m):=by
 by_cases h:CatP c
 ·exact (zqk _).2 (catN_step h m)
 ·unfold catC;rw [(cat_f h).1];exact catP_nil
theorem zmx{α:Type}{f:α→Int}(B:Int):∀(l:List α),(∀x∈l,f x≤B)→sumZ f l≤l.length*B
 | [],_=>by simp [zcr]
 | a :: l,h=>by
  have h1:=h a List.mem_cons_self
  have h2:=zmx B l λx hx=>h x (List.mem_cons_of_mem _ hx)
  rw [zcu,List.length_cons]
  have:((l.length+1:Nat):Int)*B=(l.length:Int)*B+B:=by rw [Int.natCast_add,Int.add_mul];simp
  omega
theorem catP_sz{c:DtCatalog}(h:CatP c):DtCatalog.sz c≤5000:=by
 obtain ⟨h1,h2,-⟩:=(zqk c).1 h
 have hp:∀p,SnapP p→DtCSnap.sz p≤60:=by
  rintro p ⟨a1,a2,a3,a4,a5⟩
  have b1:p.fTag.length≤8:=by rcases a2 with a2 | a2<;>first | exact a2.2.1 | simp [a2]
  have b2:sumZ lenZ p.fChunks≤p.fChunks.length*8:=zmx 8 _ λx hx=>by
   obtain ⟨k,hk⟩:=List.getElem?_of_mem hx
   have:=a5 k x hk
   unfold lenZ;omega
  have:=a1.2.1
  unfold DtCSnap.sz szS
  omega
 have hs:∀s∈c.fSets,DtCSet.sz s≤400:=by
  intro s hs
  obtain ⟨a1,a2,a3,-⟩:=h2 s hs
  have b2:=zmx 60 s.fSnaps λp hp'=>hp p (a3 p hp')
  have:=a1.2.1
  unfold DtCSet.sz szS
  omega
 have b:=zmx 400 c.fSets hs
 unfold DtCatalog.sz szS
 omega
end Go.Proofs.YtodmafgmdlkhoaaDoor.Vs
end
section
namespace Go.Proofs.YtodmafgmdlkhoaaDoor.Vs
set_option linter.all false
/-! what a command does to a state -/
def bOld:List UInt8:=[111,108,100]
noncomputable def saidI(s:DtState)(m:DtCmd):Int:=idxZ (λx:DtSaid=>decide (m.fClient≤x.fClient)) s.fSaid
def newS(m:DtCmd)(t:List UInt8):DtSaid:={ fClient:=m.fClient,fNo:=m.fNo,fText:=t }
def putL(x:DtSaid):List DtSaid→List DtSaid
 | []=>[x]
 | y :: l=>if y.fClient<x.fClient then y :: putL x l else if y.fClient=x.fClient then x :: l else x :: y :: l
def putG(x:DtSaid):Bool→List DtSaid→List DtSaid
 | p,[]=>if p=true then [] else [x]
 | p,y :: l=>(if p=false∧x.fClient≤y.fClient then [x] else [])++((if y.fClient=x.fClient then [] else [y])++putG x (p || decide (x.fClient≤y.fClient)) l)
def Cl(l:List DtSaid):Prop:=l.Pairwise λa b=>a.fClient<b.fClient
theorem putG_t(x:DtSaid):∀l:List DtSaid,(∀y∈l,x.fClient<y.fClient)→putG x true l=l
 | [],_=>rfl
 | y :: l,h=>by
  have h0:=h y List.mem_cons_self
  rw [putG,if_neg (by simp),if_neg (by omega),Bool.true_or,putG_t x l λz hz=>h z (List.mem_cons_of_mem _ hz)];rfl
theorem putG_L(x:DtSaid):∀l:List DtSaid,Cl l→putG x false l=putL x l
 | [],_=>rfl
 | y :: l,h=>by
  obtain ⟨h1,h2⟩:=List.pairwise_cons.1 h
  rw [putG,putL]
  by_cases e:y.fClient<x.fClient
  ·have:decide (x.fClient≤y.fClient)=false:=by simp;omega
   rw [if_pos e,if_neg (by omega),if_neg (by omega),this,Bool.false_or,putG_L x l h2];rfl
  ·have hd:decide (x.fClient≤y.fClient)=true:=by simp;omega
   rw [if_neg e,if_pos ⟨rfl,by omega⟩,hd,Bool.false_or,putG_t x l λz hz=>by have:=h1 z hz;omega]
   by_cases e2:y.fClient=x.fClient
   ·rw [if_pos e2,if_pos e2];rfl
   ·rw [if_neg e2,if_neg e2];rfl
theorem zlh{s:DtState}(h:StateP s):Cl s.fSaid:=by
 have key:∀l:List DtSaid,(∀(i:Nat) a b,l[i]? = some a→l[i+1]? = some b→a.fClient<b.fClient)→Cl l:=by
  intro l
  induction l with
  | nil=>intro _;exact List.Pairwise.nil
  | cons a l ih =>
   intro h
   have h2:=ih λi x y hx hy=>h (i+1) x y (by simpa using hx) (by simpa using hy)
   refine List.pairwise_cons.2 ⟨λy hy=>?_,h2⟩
   cases l with
   | nil=>cases hy
   | cons b l =>
    have hab:=h 0 a b rfl rfl
    rcases List.mem_cons.1 hy with rfl | hy
    ·exact hab
    ·have:=(List.pairwise_cons.1 h2).1 y hy
     omega
 exact key _ λi a b ha hb=>(h.2 (i+1) b hb).2.2.2.2 a (by omega) ha
theorem zjk{s:DtState}{m:DtCmd}(h:0≤saidI s m):(saidI s m).toNat<s.fSaid.length:=zqd _ _ h
noncomputable def hitS(s:DtState)(m:DtCmd):Option DtSaid:=if h:0≤saidI s m then (if (s.fSaid[(saidI s m).toNat]'(zjk h)).fClient=m.fClient then some (s.fSaid[(saidI s m).toNat]'(zjk h)) else none) else none
noncomputable def stN(s:DtState)(m:DtCmd):DtState:={ fCat:=catC s.fCat m,fSaid:=putL (newS m (catR s.fCat m)) s.fSaid }
noncomputable def stC(s:DtState)(m:DtCmd):DtState:=if decB (StateP s)=true then (if decB (CmdP m)=true∧¬m.fKind=0 then (match hitS s m with
 | some x=>if m.fNo≤x.fNo then s else stN s m
 | none=>stN s m) else s) else { fCat:={ fSets:=[] },fSaid:=[] }
noncomputable def stR(s:DtState)(m:DtCmd):List UInt8:=if decB (StateP s)=true then (if decB (CmdP m)=true∧¬m.fKind=0 then (match hitS s m with
 | some x=>if x.fNo=m.fNo then x.fText else if m.fNo<x.fNo then bOld else catR s.fCat m
 | none=>catR s.fCat m) else []) else []
section
variable {s:DtState}{m:DtCmd}
theorem st_f(h:¬StateP s):stC s m = { fCat:={ fSets:=[] },fSaid:=[] }∧stR s m=[]:=by unfold stC stR;rw [if_neg (by rw [zbk];exact h),if_neg (by rw [zbk];exact h)];exact ⟨rfl,rfl⟩
theorem st_m(h:StateP s)(hm:¬(CmdP m∧¬m.fKind=0)):stC s m=s∧stR s m=[]:=by unfold stC stR;rw [if_pos (zcl h),if_pos (zcl h),if_neg (by rw [zbk];exact hm),if_neg (by rw [zbk];exact hm)];exact ⟨rfl,rfl⟩
theorem zxg(h:StateP s)(hm:CmdP m)(h0:¬m.fKind=0){x:DtSaid}(hx:hitS s m=some x):stC s m=(if m.fNo≤x.fNo then s else stN s m)∧stR s m=(if x.fNo=m.fNo then x.fText else if m.fNo<x.fNo then bOld else catR s.fCat m):=by
 unfold stC stR
 have hc:decB (CmdP m)=true∧¬m.fKind=0:=⟨zcl hm,h0⟩
 rw [if_pos (zcl h),if_pos (zcl h),if_pos hc,if_pos hc,hx]
 exact ⟨rfl,rfl⟩
theorem st_no(h:StateP s)(hm:CmdP m)(h0:¬m.fKind=0)(hx:hitS s m=none):stC s m=stN s m∧stR s m=catR s.fCat m:=by
 unfold stC stR
 have hc:decB (CmdP m)=true∧¬m.fKind=0:=⟨zcl hm,h0⟩
 rw [if_pos (zcl h),if_pos (zcl h),if_pos hc,if_pos hc,hx]
 exact ⟨rfl,rfl⟩
theorem hit_some(h:0≤saidI s m)(he:(s.fSaid[(saidI s m).toNat]'(zjk h)).fClient=m.fClient):hitS s m=some (s.fSaid[(saidI s m).toNat]'(zjk h)):=by unfold hitS;rw [dif_pos h,if_pos he]
/-- The place of a client that is there. -/
theorem saidI_at(h:StateP s){i:Nat}(hi:i<s.fSaid.length)(he:s.fSaid[i].fClient=m.fClient):saidI s m=i:=by
 refine zgc hi (by simp;omega) λj x hj hx=>?_
 obtain ⟨hj2,rfl⟩:=List.getElem?_eq_some_iff.1 hx
 have:=List.pairwise_iff_getElem.1 (zlh h) j i hj2 hi hj
 simp;omega
theorem hit_at(h:StateP s){i:Nat}(hi:i<s.fSaid.length)(he:s.fSaid[i].fClient=m.fClient):hitS s m=some s.fSaid[i]:=by
 have hz:=saidI_at h hi he
 have h2:0≤saidI s m:=by omega
 have e:s.fSaid[(saidI s m).toNat]'(zjk h2)=s.fSaid[i]:=by simp only [hz,Int.toNat_natCast]
 rw [hit_some h2 (by rw [e];exact he),e]
theorem st_eqi(h:StateP s)(hm:CmdP m)(h0:¬m.fKind=0){i:Nat}(hi:i<s.fSaid.length)(he:s.fSaid[i].fClient=m.fClient)(hn:s.fSaid[i].fNo=m.fNo):stC s m=s∧stR s m=s.fSaid[i].fText:=by
 have ⟨h1,h2⟩:=zxg h hm h0 (hit_at h hi he)
 rw [h1,h2,if_pos (by omega),if_pos hn];exact ⟨rfl,rfl⟩
theorem st_oldi(h:StateP s)(hm:CmdP m)(h0:¬m.fKind=0){i:Nat}(hi:i<s.fSaid.length)(he:s.fSaid[i].fClient=m.fClient)(hn:m.fNo<s.fSaid[i].fNo):stC s m=s∧stR s m=bOld:=by
 have ⟨h1,h2⟩:=zxg h hm h0 (hit_at h hi he)
 rw [h1,h2,if_pos (by omega),if_neg (by omega),if_pos hn];exact ⟨rfl,rfl⟩
theorem st_go(h:StateP s)(hm:CmdP m)(h0:¬m.fKind=0)(hall:∀j (hj:j<s.fSaid.length),s.fSaid[j].fClient=m.fClient→s.fSaid[j].fNo<m.fNo):stC s m=stN s m∧stR s m=catR s.fCat m:=by
 cases hx:hitS s m with
 | none=>exact st_no h hm h0 hx
 | some x =>
  have:x.fNo<m.fNo:=by
   unfold hitS at hx
   split at hx
   ·rename_i hz
    split at hx
    ·rename_i he
     cases hx
     exact hall _ _ he
    ·cases hx
   ·cases hx
  have ⟨h1,h2⟩:=zxg h hm h0 hx
  rw [h1,h2,if_neg (by omega),if_neg (by omega),if_neg (by omega)];exact ⟨rfl,rfl⟩
end
end Go.Proofs.YtodmafgmdlkhoaaDoor.Vs
end
section
namespace Go.Proofs.YtodmafgmdlkhoaaDoor.Vs
set_option linter.all false
set_option maxRecDepth 100000
set_option maxHeartbeats 1000000
theorem chunks_sz(m:DtCmd)(hm:DtCmd.sz m≤1048576):m.fChunks.length≤1048576:=by
 have:=len_szS zc9 m.fChunks
 simp only [DtCmd.sz] at hm
 omega
theorem specCatC(c:DtCatalog)(m:DtCmd)(hs:DtCatalog.sz c≤1048576)(hm:DtCmd.sz m≤1048576):XCall Tryd.prog 65 [.agg (DtCatalog.cells c),.agg (DtCmd.cells m)] [] (.tup [.agg [.arr 16 0 (catC c m).fSets.length],.s (catR c m)]) [] [.own 2 ((catC c m).fSets.map DtCSet.cells)]:=specCatDo c m hs hm (chunks_sz m hm)
noncomputable def playS(l:List DtCmd):DtCatalog × List (List UInt8):=l.foldl (λx m=>(catC x.1 m,x.2++[catR x.1 m])) ({ fSets:=[] },[])
noncomputable def playC(l:List DtCmd):DtCatalog:=(playS l).1
noncomputable def playR(l:List DtCmd):List (List UInt8):=(playS l).2
attribute [local simp] DtCatalog.cells DtCmd.cells zbv and_assoc zw8 cS
attribute [-simp] aAppC aAppZ
end Go.Proofs.YtodmafgmdlkhoaaDoor.Vs
end
section
namespace Go.Proofs.YtodmafgmdlkhoaaDoor.Vs
set_option linter.all false
set_option maxRecDepth 100000
set_option maxHeartbeats 1000000
section
variable {P:Program}{rest:List CO}{K:St→Prop}{st:St}{dst:Option Nat}{f:FuncId}{l l':List AV}{r:AV}
end
attribute [local simp] DtSaid.cells DtCmd.cells
attribute [-simp] DtCmd.cells
theorem zc3(l:List DtSaid):scR (l.map DtSaid.cells)=true:=zd8 DtSaid.cells (λ_=>rfl) l
attribute [local simp] DtState.cells DtCatalog.cells DtCmd.cells zbv and_assoc zc3
theorem l16CopyX(s:DtState)(hs:DtState.sz s≤1048576):XCall Tryd.prog 63 [.agg (DtState.cells s)] [] (.agg [.arr 16 0 s.fCat.fSets.length,.arr 17 0 s.fSaid.length]) [] [.own 2 (s.fCat.fSets.map DtCSet.cells),.own 3 (s.fSaid.map DtSaid.cells)]:=by
 have ⟨hz,hl⟩:=zkg s hs
 have hB:=catB_of s.fCat hz
 refine zbq Tryd.func63 (by rfl) (by rfl) (by rw [Tryd.ntmps63];exact Nat.le_of_ble_eq_true rfl) rfl (by simp) rfl rfl ?_
 rw [Tryd.ntmps63]
 refine zdk   ?_
 refine AW_k [(0,_)] ⟨rfl,trivial⟩ ?_
 refine AW_x rfl rfl λK hK=>?_
 simp (disch:=omega)
 refine hK _ ?_;clear hK K
 refine AW_d rfl mix (by kernel_rfl) (by kernel_rfl) λK hK=>?_
 simp (disch:=omega)
 repeat' first|(refine DKd_y [] true [] (zw5 s.fCat hB) ?_ (λst' hst=>?_) ?_;(focus (simp [List.range_succ,nmC];done));(focus (simp (disch:=omega) [nmC,List.range_succ] at hst;simp (disch:=omega) [hst,zbv,nmC,List.range_succ];done));simp (disch:=omega))|(refine ⟨by omega,?_⟩) | fail
 refine hK _ _ (by kernel_rfl) ?_;clear hK K
 refine zbo (zb7 [96,160] [] (by simp [zG7,List.range_succ]) (by simp) ?_)
 simp (disch:=omega)
end Go.Proofs.YtodmafgmdlkhoaaDoor.Vs
end
section
namespace Go.Proofs.YtodmafgmdlkhoaaDoor.Vs
set_option linter.all false
set_option maxRecDepth 100000
set_option maxHeartbeats 1000000
theorem putG_s(x:DtSaid)(p:Bool)(l:List DtSaid)(i:Nat)(h:i<l.length):putG x p (l.drop i)=(if p=false∧x.fClient≤l[i].fClient then [x] else [])++((if l[i].fClient=x.fClient then [] else [l[i]])++putG x (p || decide (x.fClient≤l[i].fClient)) (l.drop (i+1))):=by
 rw [List.drop_eq_getElem_cons h,putG]
attribute [local simp] DtSaid.cells zbv and_assoc zc3
theorem l16PutX(l:List DtSaid)(hl:l.length≤1048576)(x:DtSaid):XCall Tryd.prog 66 [.sl 3 (l.map DtSaid.cells),.agg (DtSaid.cells x)] [] (.arr 16 0 (putG x false l).length) [] [.own 3 ((putG x false l).map DtSaid.cells)]:=by
 refine zbq Tryd.func66 (by rfl) (by rfl) (by rw [Tryd.ntmps66];exact Nat.le_of_ble_eq_true rfl) rfl (by simp) rfl rfl ?_
 rw [Tryd.ntmps66]
 refine zdk   ?_
 refine AW_k [(0,_),(1,_)] ⟨rfl,rfl,trivial⟩ ?_
 refine AW_x rfl rfl λK hK=>?_
 simp (disch:=omega)
 refine hK _ ?_;clear hK K
 refine AW_x rfl rfl λK hK=>?_
 simp (disch:=omega)
 refine hK _ ?_;clear hK K
 refine AW_x rfl rfl λK hK=>?_
 simp (disch:=omega)
 refine hK _ ?_;clear hK K
 refine zbe ?_
 refine AW_x rfl rfl λK hK=>?_
 simp (disch:=omega)
 refine hK _ ?_;clear hK K
 refine zbi ?_
 refine zbt (λmM sS=>∃(i:Nat) (o:List DtSaid) (p:Bool),mM=l.length-i∧(i≤l.length∧o++putG x p (l.drop i)=putG x false l∧o.length≤2*i)∧sS = { env:=lkE [(0,.sl 3 (l.map DtSaid.cells)),(3,.ptr 64 0),(5,.arr 904 0 o.length),(6,(.g (.bool (p)))),(7,(.g (.int .i64 ((i:Nat)))))],ob:=lk [(64,.cells (DtSaid.cells x)),(904,.win 3 (o.map DtSaid.cells))] }) ?_ ?_
 ·refine ⟨_,LeS.kx [(64,64),(904,144)] [(0,.sl 3 (l.map DtSaid.cells)),(3,.ptr 64 0),(5,.arr 904 0 ([]).length),(6,(.g (.bool ((false))))),(7,(.g (.int .i64 (((0):Nat)))))] [(64,.cells (DtSaid.cells x)),(904,.win 3 (([]).map DtSaid.cells))] (by simp [zG7,KpR,renV2,renV,zbj,DtSaid.cells,zc3];trace_state) (by simp [zG7,KpOX,renO,plO,cvO,renV,pl1,DtSaid.cells,zc3];trace_state) (by rfl) (by simp) (by simp) (by rfl) (by simp [formsX,List.range_succ,zbr,zbz]),_,0,[],false,rfl,?_,rfl⟩
  ·exact ⟨by omega,by simp,by simp⟩
 ·rintro mM sS ⟨i,o,p,rfl,⟨hi,hpo,hol⟩,rfl⟩
  refine zbe ?_
  refine AW_x rfl rfl λK hK=>?_
  simp (disch:=omega)
  refine hK _ ?_;clear hK K
  refine zbg rfl (λhc1=>?_) (λhc1=>?_)
  ·try simp [zG8,zbc,zba] at hc1
   have hg:l[i]? = some l[i]:=List.getElem?_eq_getElem (by omega)
   have hps:=putG_s x p l i (by omega)
   refine zbh ?_
   refine zbm ?_
   refine zbe ?_
   refine zbi ?_
   refine zbe ?_
   refine AW_d rfl mix (by kernel_rfl) (by kernel_rfl) λK hK=>?_
   simp (disch:=omega)
   repeat' first|(refine ⟨λ_=>?_,λ_=>?_⟩)|(refine ⟨by omega,?_⟩) | fail
   all_goals (refine hK _ _ (by kernel_rfl) ?_;clear hK K)
   all_goals
    refine zbg rfl (λhc2=>?_) (λhc2=>?_)
    ·try simp [zG8,zbc,zba] at hc2
     all_goals
      refine AW_x rfl rfl λK hK=>?_
      simp (disch:=omega)
      repeat' first|(refine ⟨by omega,?_⟩) | fail
      refine hK _ ?_;clear hK K
      refine zb4 rfl rfl λK hK=>?_
      simp (disch:=omega)
      refine hK _ ?_;clear hK K
      refine zbm ?_
      refine AW_d rfl mix (by kernel_rfl) (by kernel_rfl) λK hK=>?_
      simp (disch:=omega)
      repeat' first|(refine ⟨by omega,?_⟩) | fail
      refine hK _ _ (by kernel_rfl) ?_;clear hK K
      refine zbg rfl (λhc3=>?_) (λhc3=>?_)
      ·try simp [zG8,zbc,zba] at hc3
       refine zb4 rfl rfl λK hK=>?_
       simp (disch:=omega)
       repeat' first|(refine ⟨by omega,?_⟩) | fail
       refine hK _ ?_;clear hK K
       refine zbm ?_
       refine zb4 rfl rfl λK hK=>?_
       simp (disch:=omega)
       refine hK _ ?_;clear hK K
       refine ⟨_,LeS.kx [(64,64),(904,736)] [(0,.sl 3 (l.map DtSaid.cells)),(3,.ptr 64 0),(5,.arr 904 0 (o++[x]++[l[i]]).length),(6,(.g (.bool ((true))))),(7,(.g (.int .i64 (((i+1):Nat)))))] [(64,.cells (DtSaid.cells x)),(904,.win 3 ((o++[x]++[l[i]]).map DtSaid.cells))] (by simp [zG7,KpR,renV2,renV,zbj,DtSaid.cells,zc3];trace_state) (by simp [zG7,KpOX,renO,plO,cvO,renV,pl1,DtSaid.cells,zc3];(rw [zsi];simp [DtSaid.cells,zc3];done)) (by rfl) (by simp) (by simp) (by rfl) (by simp [formsX,List.range_succ,zbr,zbz]),_,?_,i+1,o++[x]++[l[i]],true,rfl,?_,rfl⟩
       ·omega
       ·refine ⟨by omega,?_,by (try simp);omega⟩
        rw [←hpo,hps]
        clear hpo hps hg
        (simp_all;done)
      ·try simp [zG8,zbc,zba] at hc3
       refine zbh ?_
       refine zbm ?_
       refine zb4 rfl rfl λK hK=>?_
       simp (disch:=omega)
       refine hK _ ?_;clear hK K
       refine ⟨_,LeS.kx [(64,64),(904,496)] [(0,.sl 3 (l.map DtSaid.cells)),(3,.ptr 64 0),(5,.arr 904 0 (o++[x]).length),(6,(.g (.bool ((true))))),(7,(.g (.int .i64 (((i+1):Nat)))))] [(64,.cells (DtSaid.cells x)),(904,.win 3 ((o++[x]).map DtSaid.cells))] (by simp [zG7,KpR,renV2,renV,zbj,DtSaid.cells,zc3];trace_state) (by simp [zG7,KpOX,renO,plO,cvO,renV,pl1,DtSaid.cells,zc3];trace_state) (by rfl) (by simp) (by simp) (by rfl) (by simp [formsX,List.range_succ,zbr,zbz]),_,?_,i+1,o++[x],true,rfl,?_,rfl⟩
       ·omega
       ·refine ⟨by omega,?_,by (try simp);omega⟩
        rw [←hpo,hps]
        clear hpo hps hg
        (simp_all;done)
    ·try simp [zG8,zbc,zba] at hc2
     all_goals
      refine zbh ?_
      refine zbm ?_
      refine AW_d rfl mix (by kernel_rfl) (by kernel_rfl) λK hK=>?_
      simp (disch:=omega)
      repeat' first|(refine ⟨by omega,?_⟩) | fail
      all_goals (refine hK _ _ (by kernel_rfl) ?_;clear hK K)
      all_goals
       refine zbg rfl (λhc4=>?_) (λhc4=>?_)
       ·try simp [zG8,zbc,zba] at hc4
        all_goals
         refine zb4 rfl rfl λK hK=>?_
         simp (disch:=omega)
         repeat' first|(refine ⟨by omega,?_⟩) | fail
         all_goals (refine hK _ ?_;clear hK K)
         all_goals
          refine zbm ?_
          refine zb4 rfl rfl λK hK=>?_
          simp (disch:=omega)
          refine hK _ ?_;clear hK K
          refine ⟨_,LeS.kx [(64,64),(904,736)] [(0,.sl 3 (l.map DtSaid.cells)),(3,.ptr 64 0),(5,.arr 904 0 (o++[l[i]]).length),(6,(.g (.bool ((p))))),(7,(.g (.int .i64 (((i+1):Nat)))))] [(64,.cells (DtSaid.cells x)),(904,.win 3 ((o++[l[i]]).map DtSaid.cells))] (by simp [zG7,KpR,renV2,renV,zbj,DtSaid.cells,zc3];trace_state) (by simp [zG7,KpOX,renO,plO,cvO,renV,pl1,DtSaid.cells,zc3];trace_state) (by rfl) (by simp) (by simp) (by rfl) (by simp [formsX,List.range_succ,zbr,zbz]),_,?_,i+1,o++[l[i]],p,rfl,?_,rfl⟩
          ·omega
          ·refine ⟨by omega,?_,by (try simp);omega⟩
           rw [←hpo,hps]
           clear hpo hps hg
           first|(simp_all;done)|(rw [if_neg (by omega),decide_eq_false (p:=x.fClient≤l[i].fClient) (by omega),Bool.or_false,if_neg (by omega)];simp;done)
       ·try simp [zG8,zbc,zba] at hc4
        all_goals
         refine zbh ?_
         refine zbm ?_
         refine zb4 rfl rfl λK hK=>?_
         simp (disch:=omega)
         repeat' first|(exfalso;omega)
         all_goals (refine hK _ ?_;clear hK K)
         all_goals
          refine ⟨_,LeS.kx [(64,64),(904,904)] [(0,.sl 3 (l.map DtSaid.cells)),(3,.ptr 64 0),(5,.arr 904 0 (o).length),(6,(.g (.bool ((p))))),(7,(.g (.int .i64 (((i+1):Nat)))))] [(64,.cells (DtSaid.cells x)),(904,.win 3 ((o).map DtSaid.cells))] (by simp [zG7,KpR,renV2,renV,zbj,DtSaid.cells,zc3];trace_state) (by simp [zG7,KpOX,renO,plO,cvO,renV,pl1,DtSaid.cells,zc3];trace_state) (by rfl) (by simp) (by simp) (by rfl) (by simp [formsX,List.range_succ,zbr,zbz]),_,?_,i+1,o,p,rfl,?_,rfl⟩
          ·omega
          ·refine ⟨by omega,?_,by (skip);omega⟩
           rw [←hpo,hps]
           clear hpo hps hg
           (simp_all;done)
  ·try simp [zG8,zbc,zba] at hc1
   have hil:i=l.length:=by omega
   refine zbw ?_
   refine zbm ?_
   refine zbe ?_
   refine AW_x rfl rfl λK hK=>?_
   simp (disch:=omega)
   refine hK _ ?_;clear hK K
   refine zbg rfl (λhc5=>?_) (λhc5=>?_)
   ·try simp [zG8,zbc,zba] at hc5
    refine zb4 rfl rfl λK hK=>?_
    simp (disch:=omega)
    repeat' first|(refine ⟨by omega,?_⟩) | fail
    refine hK _ ?_;clear hK K
    refine zbm ?_
    refine AW_x rfl rfl λK hK=>?_
    simp (disch:=omega)
    refine hK _ ?_;clear hK K
    refine zbo (zb7 [832] [] (by simp [zG7,List.range_succ]) (by simp) ?_)
    simp (disch:=omega)
    (subst hil;rw [List.drop_length,putG,if_neg (by simp [hc5])] at hpo;rw [←hpo];simp [DtSaid.cells];done)
   ·try simp [zG8,zbc,zba] at hc5
    refine zbh ?_
    refine zbm ?_
    refine AW_x rfl rfl λK hK=>?_
    simp (disch:=omega)
    refine hK _ ?_;clear hK K
    refine zbo (zb7 [904] [] (by simp [zG7,List.range_succ]) (by simp) ?_)
    simp (disch:=omega)
    (subst hil;rw [List.drop_length,putG,if_pos hc5,List.append_nil] at hpo;rw [←hpo];exact ⟨rfl,rfl⟩)
end Go.Proofs.YtodmafgmdlkhoaaDoor.Vs
end
section
namespace Go.Proofs.YtodmafgmdlkhoaaDoor.Vs
set_option linter.all false
set_option maxRecDepth 100000
set_option maxHeartbeats 2000000
theorem sd_f{s:DtState}{m:DtCmd}(h:¬StateP s):(stC s m).fCat.fSets=[]∧(stC s m).fSaid=[]∧stR s m=[]∧(stC s m).fCat.fSets=[]∧(stC s m).fSaid=[]:=by
 have ⟨h1,h2⟩:=st_f h (m:=m);rw [h1,h2];exact ⟨rfl,rfl,rfl,rfl,rfl⟩
abbrev StSame (s:DtState) (m:DtCmd) (t:List UInt8):Prop:=(stC s m).fCat.fSets.length=s.fCat.fSets.length∧(stC s m).fSaid.length=s.fSaid.length∧stR s m=t∧List.map DtCSet.cells (stC s m).fCat.fSets=List.map DtCSet.cells s.fCat.fSets∧List.map DtSaid.cells (stC s m).fSaid=List.map DtSaid.cells s.fSaid
theorem zvt{s:DtState}{m:DtCmd}{t:List UInt8}(h:stC s m=s∧stR s m=t):StSame s m t:=by
 unfold StSame;rw [h.1,h.2];exact ⟨rfl,rfl,rfl,rfl,rfl⟩
attribute [local simp] DtState.cells DtCatalog.cells DtSaid.cells DtCmd.cells zbv and_assoc zc3 List.range_succ newS
end Go.Proofs.YtodmafgmdlkhoaaDoor.Vs
end
