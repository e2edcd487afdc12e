/- slices.Delete at mirrors: one element is taken out of a list that this call made. | Taken: a mirror less. -/
import Derived.Test.YtehnikhicnnnhaaGreatDoorPa25
namespace Go.Proofs.YtehnikhicnnnhaaGreatDoor
open Go.RowKit
theorem setCells_size(b:Nat):∀(vs:List Value) (o:Nat) (w:World),(w.setCells b o vs).heap.size=w.heap.size
 | [],_,_=>rfl
 |v::r,o,w=>by rw[World.setCells,setCells_size b r];simp
theorem setCells_other{b b':Nat}(hne:b'≠b):∀(vs:List Value) (o:Nat) (w:World),(w.setCells b o vs).heap[b']? =w.heap[b']?
 | [],_,_=>rfl
 |v::r,o,w=>by rw[World.setCells,setCells_other hne r];exact heap_setCell_other w _ _ _ hne
theorem Below.setCells{B b:Nat}{a:World}(hb:B≤b):∀(vs:List Value) (o:Nat) (w:World),Below B a w→Below B a (w.setCells b o vs)
 | [],_,_,h=>h
 |v::r,o,w,h=>by rw[World.setCells];exact Below.setCells hb r _ _ (Below.setCell h (p:=⟨b,o,none⟩) hb v)
theorem delCells_cell(W:World)(g o p:Nat)(ns zs:List Value)(q:Nat)(hn:∀j,j<ns.length→(W.cell? ⟨g,o+j,none⟩).isSome=true)(hq:q<p):
 ((W.setCells g o ns).setCells g p zs).cell? ⟨g,q,none⟩=if o≤q∧q<o+ns.length then ns[q-o]? else W.cell? ⟨g,q,none⟩:=by
 rw[World.cell?_setCells_out g zs p _ ⟨g,q,none⟩ (fun _ _=>.inl hq)]
 split
 ·rename_i h
  have h1:=World.cell?_setCells_in g ns o W hn (q-o) (by omega)
  rw[show o+(q-o)=q by omega]at h1
  rw[h1,List.getElem?_eq_getElem (by omega)]
 ·rename_i h
  exact World.cell?_setCells_out g ns o W ⟨g,q,none⟩ (fun _ _=>by show q<o∨_≤q;omega)
theorem del_fld{W:World}{g c i:Nat}{ys:List MA}(hF:FldR W W.heap.size (some ⟨g,0,none⟩) c ys)(ha:∀x∈ys,x.m.way≠ []→∀a,x.A=some a→a.block≠g)(hi:i<ys.length)(zs:List Value):
 FldR ((W.setCells g (i*6) ((ys.drop (i+1)).map encMA).flatten).setCells g ((ys.length-1)*6) zs) W.heap.size (some ⟨g,0,none⟩) c (ys.eraseIdx i):=by
 obtain⟨b,off,e,hb,hc⟩:=hF.rw_ (by intro e;rw[List.map_eq_nil_iff]at e;rw[e]at hi;simp at hi)
 cases e
 have hlen:(((ys.drop (i+1)).map encMA).flatten).length=(ys.length-(i+1))*6:=by
  rw[flat_len (n:=6) encMA_len,List.length_map,List.length_drop]
 have hin:∀k (hk:k<ys.length) j,j<6→W.cell? ⟨g,k*6+j,none⟩=(encMA ys[k])[j]? :=fun k hk j hj=>by
  have h6:(encMA ys[k]).length=6:=rfl
  have:=hc k (by simpa using hk) j ((encMA ys[k])[j]) (by rw[List.getElem_map];exact List.getElem?_eq_getElem _)
  rw[Nat.zero_add]at this
  rw[this,List.getElem?_eq_getElem (by omega)]
  rfl
 have hsome:∀j,j<(((ys.drop (i+1)).map encMA).flatten).length→(W.cell? ⟨g,i*6+j,none⟩).isSome=true:=fun j hj=>by
  rw[hlen]at hj
  have h1:=hin (i+j / 6) (by omega) (j % 6) (by omega)
  rw[show(i+j / 6)*6+j % 6=i*6+j by omega]at h1
  rw[h1,List.getElem?_eq_getElem (by show j % 6<6;omega)]
  rfl
 have hel:(ys.eraseIdx i).length=ys.length-1:=by rw[List.length_eraseIdx,if_pos hi]
 refine⟨fun _=>⟨g,0,rfl,hb,fun k hk j v hv=>?_⟩,fun x hx=>⟨fun hn=>?_,(hF.each x (List.mem_of_mem_eraseIdx hx)).cap⟩,by rw[hel];have:=hF.cap;omega⟩
 ·rw[List.length_map,hel]at hk
  have hj:j<6:=by
   rw[List.getElem_map]at hv
   exact(List.getElem?_eq_some_iff.1 hv).1
  rw[List.getElem_map,List.getElem_eraseIdx]at hv
  rw[Nat.zero_add,delCells_cell W g (i*6) ((ys.length-1)*6) _ zs _ hsome (by omega)]
  split
  ·rename_i h
   rw[hlen]at h
   have hki:¬k<i:=by omega
   rw[dif_neg hki]at hv
   have h2:=flat_at (n:=6) (l:=(ys.drop (i+1)).map encMA) encMA_len (k:=k-i) (by rw[List.length_map,List.length_drop];omega) hj
   rw[show k*6+j-i*6=(k-i)*6+j by omega,h2,List.getElem_map,List.getElem_drop]
   have e2:∀p (hp:p<ys.length),p=k+1→ys[p]=ys[k+1]:=by intro p hp h;subst h;rfl
   rw[e2 _ _ (show i+1+(k-i)=k+1 by omega)]
   exact hv
  ·rename_i h
   rw[hlen]at h
   have hki:k<i:=by omega
   rw[dif_pos hki]at hv
   rw[hin k (by omega) j hj]
   exact hv
 ·obtain⟨b',off',e',hb',hc'⟩:=(hF.each x (List.mem_of_mem_eraseIdx hx)).way hn
  have hne:=ha x (List.mem_of_mem_eraseIdx hx) (fun h=>hn (by rw[h];rfl)) _ e'
  refine⟨b',off',e',hb',fun k hk j v hv=>?_⟩
  rw[World.cell?_setCells_out g zs _ _ ⟨b',off'+k*1+j,none⟩ (fun h _=>absurd h hne),World.cell?_setCells_out g _ _ _ ⟨b',off'+k*1+j,none⟩ (fun h _=>absurd h hne)]
  exact hc' k hk j v hv
theorem run_clear_row(w:World)(t e ty:TypeId)(z:Value)(sz:Nat)(ht:Tryz.prog.underlying t=some (.slice e))(hv:∀w,(zeroValue e).run Tryz.prog w=.ok z w)(hz:z.cells.size=sz)(h1:∀u∈z.cells.toList,u.oneCell'=true)(b o c:Nat)
 (hc:∀j,j<sz→(w.cell? ⟨b,o+j,none⟩).isSome=true) (hf:∀j,j<sz→w.frozen? ⟨b,o+j,none⟩=false):
 (Builtin.clear_ #[t] ty #[.slice (some ⟨b,o,none⟩) 1 c]).run Tryz.prog w=.ok (.tuple #[]) (w.setCells b o z.cells.toList):=by
 have hzc:(Builtin.zeroCells z.cells 1).toList=z.cells.toList:=by
  simp[Builtin.zeroCells]
  apply List.ext_getElem
  ·simp
  ·intro i h1 h2
   simp at h1 h2
   simp[Nat.mod_eq_of_lt h2]
   exact getElem!_pos z.cells i (by simpa using h2)
 have hst:=run_storeCells_cells (P:=Tryz.prog) b o z.cells.toList 0 w (by simpa [hz]using hc) (by simpa [hz]using hf) (by intro v hv';exact h1 v hv')
 simp only[Nat.add_zero]at hst
 simp[Builtin.clear_,run_underlying ht,hv,hzc,hst]
theorem Blks.erase{P:Nat→Prop}{A:Option Addr}{ys:List MA}{i:Nat}(h:Blks P A ys):Blks P A (ys.eraseIdx i):=
 ⟨fun hn=>h.row (by intro e;rw[e]at hn;exact hn rfl),fun x hx=>h.way x (List.mem_of_mem_eraseIdx hx)⟩
theorem Tryz.zeroMirV(w:World):(zeroValue 106).run Tryz.prog w=.ok zeroMir w:=Tryz.zeroValue106 w
set_option maxRecDepth 100000 in
set_option maxHeartbeats 4000000 in
theorem delete_c(base c i:Nat)(A:Option Addr)(ys:List MA)(w:World)(h:OwnM w base A c ys)(hi:i<ys.length)(hn:ys.length≤1000):
 Calls Tryz.prog 142 #[.slice A ys.length c,.int .i64 i,.int .i64 ((i:Int)+1)] w fun e w'=>e=.returned (.slice A (ys.length-1) c)∧FldR w' w'.heap.size A c (ys.eraseIdx i)∧w'.heap.size=w.heap.size∧(∀b,(∀d,A=some d→d.block≠b)→w'.heap[b]? =w.heap[b]?)∧Below base w w':=by
 obtain⟨i0,hi0,hz0,hz1,hz2⟩:=info_parts Tryz.infoMir
 obtain⟨gb,cap,hv,hgb,hgl⟩:=h.row.form (by omega)
 injection hv with hvA hvl hvc
 subst hvA
 subst hvc
 have hcap:=h.fld.cap
 have hcm:c≤9223372036854775807:=by
  rcases h.row.2 with ⟨hv,_⟩|⟨g,cap,cur,hv,_,_,_,hcm,_⟩
  ·cases hv
  ·cases hv;unfold maxLen at hcm;omega
 obtain⟨j,hj⟩:∃j:Nat,j=i+1:=⟨_,rfl⟩
 have hji:((i:Int)+1)=(j:Int):=by omega
 rw[hji]
 have hjn:j≤ys.length:=by omega
 have hij:i≤j:=by omega
 have hne:((i:Int)==(j:Int))=false:=by rw[beq_eq_false_iff_ne];omega
 have hF:=h.fld
 have hFr:=h.row.frozenAt
 obtain⟨news,hnews⟩:∃news,news=((ys.drop j).map encMA).flatten:=⟨_,rfl⟩
 have hlen:news.length=(ys.length-j)*6:=by rw[hnews,flat_len (n:=6) encMA_len,List.length_map,List.length_drop]
 have hone:∀u∈news,u.oneCell'=true:=by
  intro u hu
  rw[hnews]at hu
  obtain⟨r,hr,hu⟩:=List.mem_flatten.1 hu
  obtain⟨x,_,rfl⟩:=List.mem_map.1 hr
  simp[encMA]at hu;rcases hu with rfl|rfl|rfl|rfl|rfl|rfl<;>rfl
 have hall:∀q,q<ys.length*6→∃u,w.cell? ⟨gb,q,none⟩=some u∧(ys.map encMA).flatten[q]? =some u:=fun q hq=>by
  have hl:(ys.map encMA).flatten.length=ys.length*6:=by rw[flat_len (n:=6) encMA_len,List.length_map]
  have h1:(ys.map encMA).flatten[q]? =some ((ys.map encMA).flatten[q]'(by omega)):=List.getElem?_eq_getElem _
  have h2:=h.row.cells (g:=gb) rfl q _ h1
  rw[add0]at h2
  exact⟨_,h2,h1⟩
 have hsrc0:∀t u,news[t]? =some u→w.cell? ⟨gb,j*6+t,none⟩=some u:=fun t u hu=>by
  have ht:=(List.getElem?_eq_some_iff.1 hu).1
  obtain⟨v,h1,h2⟩:=hall (j*6+t) (by omega)
  have e:ys.map encMA=(ys.take j).map encMA++(ys.drop j).map encMA:=by rw[←List.map_append,List.take_append_drop]
  have hl:(((ys.take j).map encMA).flatten).length=j*6:=by rw[flat_len (n:=6) encMA_len,List.length_map,List.length_take,Nat.min_eq_left hjn]
  rw[e,List.flatten_append,List.getElem?_append_right (by omega),hl,Nat.add_sub_cancel_left,←hnews,hu]at h2
  rw[h1,←h2]
 obtain⟨A,hA,hsrc⟩:∃A:Addr,(if c=j then some (⟨gb,0,none⟩:Addr)else some ⟨gb,j*6,none⟩)=some A∧Hid (∀t u,news[t]? =some u→w.drew.cell? (A.add t)=some u):=by
  by_cases hcj:c=j
  ·refine⟨⟨gb,0,none⟩,by simp[hcj],zh fun t u hu=>?_⟩
   have ht:=(List.getElem?_eq_some_iff.1 hu).1
   omega
  ·refine⟨⟨gb,j*6,none⟩,by simp[hcj],zh fun t u hu=>?_⟩
   rw[Addr.add_lit]
   exact hsrc0 t u hu
 have s1:=zh hlen
 have s2:=zh hone
 have s3:Hid (∀t,t<news.length→(w.drew.cell? ⟨gb,0+i*6+t,none⟩).isSome=true∧w.drew.frozen? ⟨gb,0+i*6+t,none⟩=false):=zh fun t ht=>by
  obtain⟨v,h1,_⟩:=hall (0+i*6+t) (by omega)
  exact⟨by show(w.cell? _).isSome=true;rw[h1];rfl,hFr _⟩
 obtain⟨W1,hW1⟩:∃W1,W1=w.drew.setCells gb (0+i*6) news:=⟨_,rfl⟩
 obtain⟨zc,hzc⟩:∃z,z=zeroMir.cells.toList:=⟨_,rfl⟩
 have hcl:∀ty,(Builtin.clear_ #[70] ty #[.slice (some ⟨gb,(i+(ys.length-j))*6,none⟩) (ys.length-(i+(ys.length-j))) (c-(i+(ys.length-j)))]).run Tryz.prog W1=.ok (.tuple #[]) (W1.setCells gb ((i+(ys.length-j))*6) zc):=fun ty=>by
  rw[hzc]
  rw[show ys.length-(i+(ys.length-j))=1 by omega]
  refine run_clear_row W1 _ _ ty zeroMir 6 Tryz.underlying70 Tryz.zeroMirV rfl (by decide) gb _ _ (fun t ht=>?_) (fun t ht=>?_)
  ·obtain⟨v,h1,_⟩:=hall ((i+(ys.length-j))*6+t) (by omega)
   rw[hW1,World.cell?_setCells_out gb news _ _ ⟨gb,(i+(ys.length-j))*6+t,none⟩ (fun _ _=>.inr (by show 0+i*6+news.length≤(i+(ys.length-j))*6+t;omega))]
   show(w.cell? _).isSome=true
   rw[h1];rfl
  ·rw[hW1,World.frozen?_setCells]
   exact hFr _
 have hic:i≤c:=by omega
 have hjc:j≤c:=by omega
 have HW:=zh hW1
 have HF:=zh hF
 have HAP:=zh h.apart
 have HJ:=zh hj
 have HNW:=zh hnews
 have mixed:Tryz.prog.follows .mixedOrders=true:=by kernel_rfl
 clear hj hF hFr hlen hone hall hsrc0 hnews hW1 h
 go_enter Tryz.func142,Tryz.ntmps142
 go_upto_region 5 with fail
 go_region_law_o (refine step_append_room rfl (.tmp 22) (.tmp 25) 70 rfl 106 i0 6 Tryz.underlying70 hi0 hz1 gb 0 i c (by simp[Act.eval,Act.put]) A (ys.length-j) (c-j) news (by simp[Act.eval,Act.put]) s1.out hsrc.out s2.out (by omega) s3.out ?_;rw[←HW.out])
 have hlt1:i+(ys.length-j)<ys.length:=by have:=HJ.out;omega
 have hne1:ys.length-(i+(ys.length-j))≠0:=by omega
 clear hzc
 go_wp2
 go_ret
 have e1:i+(ys.length-j)=ys.length-1:=by have:=HJ.out;omega
 have e2:0+i*6=i*6:=by omega
 have hsz:(W1.setCells gb ((i+(ys.length-j))*6) zc).heap.size=w.heap.size:=by rw[setCells_size,HW.out,setCells_size];rfl
 refine⟨by rw[e1];rfl,?_,hsz,fun b hb=>?_,?_⟩
 ·rw[hsz,HW.out,HNW.out,HJ.out,e2,←HJ.out,e1,HJ.out]
  have hd:FldR w.drew w.drew.heap.size (some ⟨gb,0,none⟩) c ys:=(HF.out.belowB (w0:=w) (Bl.drew (Below.refl _ _)) (Nat.le_refl _)).more (Nat.le_refl _)
  exact del_fld hd (fun x hx hne a ha=>HAP.out x hx hne a ha _ rfl) hi zc
 ·have hne:b≠gb:=fun e=>hb e.symm
  rw[setCells_other hne,HW.out,setCells_other hne]
  rfl
 ·refine Below.setCells hgb _ _ _ ?_
  rw[HW.out]
  exact Below.setCells hgb _ _ _ ((Bl.drew (Below.refl _ _)).mono (by omega))
theorem tak_at(tk ls:Int)(xs:List MA)(i:Nat)(hi:i<xs.length):(fldOf tk ls xs).mir.getD i default=xs[i].m:=by
 unfold fldOf
 simp only
 rw[List.getD_eq_getElem?_getD,List.getElem?_map,List.getElem?_eq_getElem hi]
 rfl
theorem find_lt(tk ls:Int)(xs:List MA)(n:ByteArray):findG (fldOf tk ls xs) n<(xs.length:Int):=by
 have:=(idxF_lt (fun m:Mir=>sEq m.name n) (fldOf tk ls xs).mir).1
 unfold findG
 simpa [fldOf]using this
def takE0(g:Grd)(f:Fld)(n:ByteArray):Int:=firstErr [fieldC g f,whn (decide (findG f n<0)) 10]
theorem takE_bad{g:Grd}{f:Fld}{n:ByteArray}(h:takE0 g f n≠0):takE g f n=takE0 g f n:=by
 unfold takE takE0 at*
 by_cases h1:fieldC g f=0
 ·rw[if_pos h1]
  by_cases h2:findG f n<0
  ·rw[if_pos h2,h1,decide_eq_true h2];rfl
  ·rw[h1,decide_eq_false h2]at h;exact absurd rfl h
 ·rw[if_neg h1]
  unfold firstErr
  rw[if_neg h1]
theorem takE_ok{g:Grd}{f:Fld}{n:ByteArray}(h:takE0 g f n=0):fieldC g f=0∧0≤findG f n:=by
 unfold takE0 at h
 have h1:=firstErr_zero h (fieldC g f) (by simp)
 have h2:=firstErr_zero h (whn (decide (findG f n<0)) 10) (by simp)
 refine⟨h1,?_⟩
 by_cases h3:findG f n<0
 ·rw[decide_eq_true h3]at h2;cases h2
 ·omega
set_option maxRecDepth 100000 in
set_option maxHeartbeats 8000000 in
theorem Taken_c(a:GA)(g:Grd)(tk ls:Int)(A:Option Addr)(c:Nat)(xs:List MA)(nm:ByteArray)(w:World)(hs:SmallG g)(hsf:SmallF xs)(hr:GridR w w.heap.size a g)(hkd:KindsAt w)(hf:FldR w w.heap.size A c xs):
 Calls Tryz.prog 75 #[(.agg #[.int .i64 g.blur,.slice a.pS g.sta.length a.cs,.slice a.pM g.mov.length a.cm,.slice a.pZ g.zon.length a.cz]),(.agg #[.int .i64 tk,.int .i64 ls,.slice A xs.length c]),.string nm] w fun e w'=>RetF (takF g (fldOf tk ls xs) nm) (takE g (fldOf tk ls xs) nm) w e w':=by
 by_cases hE:takE0 g (fldOf tk ls xs) nm=0
 ·obtain⟨hfc,hfd⟩:=takE_ok hE
  obtain⟨i,hi⟩:=Int.eq_ofNat_of_zero_le hfd
  have hx:i<xs.length:=by have:=find_lt tk ls xs nm;omega
  have hat:(fldOf tk ls xs).mir.getD (findG (fldOf tk ls xs) nm).toNat default=xs[i].m:=by rw[hi];exact tak_at tk ls xs i hx
  cases hst:standsG g xs[i].m
  case false=>
   have he:takE g (fldOf tk ls xs) nm=22:=by unfold takE;rw[if_pos hfc,if_neg (by omega),hat,hst];rfl
   have hF:takF g (fldOf tk ls xs) nm=fld0:=by unfold takF;rw[he];rfl
   rw[he,hF]
   exact Taken_st a g tk ls A c xs nm i w hs hsf hr hkd hf hfc hi hx hst
  case true=>
   have he:takE g (fldOf tk ls xs) nm=0:=by unfold takE;rw[if_pos hfc,if_neg (by omega),hat,hst];rfl
   have hF:takF g (fldOf tk ls xs) nm=delM (fldOf tk ls xs) i:=by unfold takF;rw[he,if_pos rfl,hi];rfl
   rw[he,hF]
   clear he hF hat hE hfd
   obtain⟨W0,hW0⟩:∃W0,W0=(((w.alloc (.cells #[.int .i64 g.blur,.slice a.pS g.sta.length a.cs,.slice a.pM g.mov.length a.cm,.slice a.pZ g.zon.length a.cz] 38)).alloc (.cells #[.int .i64 tk,.int .i64 ls,.slice A xs.length c] 72)).alloc (.cells #[.int .i64 0,.int .i64 0,.slice none 0 0] 72)):=⟨_,rfl⟩
   have hB0:Below w.heap.size w W0:=by rw[hW0];exact zbl
   have hsz:W0.heap.size=w.heap.size+3:=by rw[hW0];simp
   have k0:W0.heap[w.heap.size]? =some (.cells #[.int .i64 g.blur,.slice a.pS g.sta.length a.cs,.slice a.pM g.mov.length a.cm,.slice a.pZ g.zon.length a.cz] 38 (0,0)):=by rw[hW0];exact heap_fst _ _ _ _
   have k1:W0.heap[w.heap.size+1]? =some (.cells #[.int .i64 tk,.int .i64 ls,.slice A xs.length c] 72 (0,0)):=by rw[hW0];exact heap_mid _ _ _ _
   have k3:W0.heap[w.heap.size+1+1]? =some (.cells #[.int .i64 0,.int .i64 0,.slice none 0 0] 72 (0,0)):=by rw[hW0];exact heap_lst _ _ _ _
   have HG:=zh (hr.to hB0)
   have HK:=zh (hkd.to hB0)
   have HF:=zh (hf.to hB0)
   have hl:=hsf.n
   have HS:=zh hs
   have HSF:=zh hsf
   have K0:=zh k0
   have l0:w.heap.size<W0.heap.size:=by omega
   have K1:=zh k1
   have l1:w.heap.size+1<W0.heap.size:=by omega
   have K3:=zh k3
   have l3:w.heap.size+1+1<W0.heap.size:=by omega
   have HB0:=zh hB0
   clear hr hkd hf hs hsf hB0
   (obtain⟨g0,g1,g2,g3⟩:=cg4 k0)
   (obtain⟨q0,qf0,q1,qf1,q2,qf2⟩:=cv3 k1)
   (obtain⟨d0,df0,d1,df1,d2,df2⟩:=cv3 k3)
   clear k0 k1 k3
   have HCF:=zh (show ∀W,GridR W W.heap.size a g→KindsAt W→FldR W W.heap.size A c xs→Calls Tryz.prog 44 #[(.agg #[.int .i64 g.blur,.slice a.pS g.sta.length a.cs,.slice a.pM g.mov.length a.cm,.slice a.pZ g.zon.length a.cz]),(.agg #[.int .i64 tk,.int .i64 ls,.slice A xs.length c])] W fun e w'=>e=.returned (.int .i64 0)∧Below W.heap.size W w' from fun W h1 h2 h3=>by
    have h:=CheckField_c a g tk ls A c xs W HS.out HSF.out h1 h2 h3;rw[hfc]at h;exact h)
   have HFI:=zh (show ∀W,FldR W W.heap.size A c xs→Calls Tryz.prog 140 #[(.agg #[.int .i64 tk,.int .i64 ls,.slice A xs.length c]),.string nm] W fun e w'=>e=.returned (.int .i64 (i:Int))∧Below W.heap.size W w' from fun W h3=>by
    have h:=find_c tk ls A c xs nm W hl h3;rw[hi]at h;exact h)
   obtain⟨hok,hu,hof⟩:=fldOk hfc
   have hn16:xs.length≤16:=by have:=hof.n;simpa [fldOf]using this
   have HST:=zh (fun W (h1:GridR W W.heap.size a g)=>by have h:=stands_c a g xs[i].m xs[i].A xs[i].c W hok (hof.loc xs[i] (List.getElem_mem hx)) h1;rw[hst]at h;exact h)
   clear hof hok hu hst hfc hi
   go_enter Tryz.func75,Tryz.ntmps75
   go_upto_region 1 with fail
   rw[←hW0]
   clear hW0
   go_cut [8] (fun s wx=>s=.int .i64 0∧Below W0.heap.size W0 wx)
   case first=>
    go_region_held3 (SHd W0) ((refine Sh.goal ?_;exact zsh)) (first|(go_at_call 44;(with_reducible refine Calls.mono (HCF.out _ (HG.out.to (by exact zbl)) (HK.out.to (by exact zbl)) (HF.out.to (by exact zbl))) ?_);rintro e w1 ⟨rfl,hb1⟩)|(go_at_call 140;(with_reducible refine Calls.mono (HFI.out _ (HF.out.to (by exact zbl))) ?_);rintro e w2 ⟨rfl,hb2⟩)|(go_at_call 104;(with_reducible refine Calls.mono (when_c _ _ _) ?_);rintro e w' ⟨rfl,rfl⟩)|(go_at_call 103;refine(first_c _ [0,0] _ ?_ ?_).mono ?_;(focus simp);(focus first|(simp[CellsAt];done)|(simp[CellsAt,cells_new];done)|(simp[CellsAt,cells_new,whn]));rintro e w' ⟨rfl,rfl⟩))
    all_goals
     go_wp2_with fail
     go_meet
     exact⟨rfl,by exact zbl⟩
   case rest=>
    obtain⟨rfl,hb1⟩:=hcut
    obtain⟨W1,rfl⟩:∃W,W=wc:=⟨wc,rfl⟩
    have HB1:=zh hb1
    have hs1:=hb1.size
    clear g0 g1 g2 g3 q0 q1 q2 qf0 qf1 qf2 d0 d1 d2 df0 df1 df2
    (have j0:=(hb1.block w.heap.size l0).trans K0.out);(obtain⟨g0,g1,g2,g3⟩:=cg4 j0);(have j1:=(hb1.block (w.heap.size+1) l1).trans K1.out);(obtain⟨q0,qf0,q1,qf1,q2,qf2⟩:=cv3 j1);(have j3:=(hb1.block (w.heap.size+1+1) l3).trans K3.out);(obtain⟨d0,df0,d1,df1,d2,df2⟩:=cv3 j3);(have J1:=zh j3);clear j0 j1 j3
    clear hb1
    go_upto_region 5 with (go_at_call 140;(with_reducible refine Calls.mono (HFI.out _ (HF.out.to (HB1.out.trans (Below.mono (by exact zbl) HB1.out.size)))) ?_);rintro e w3 ⟨rfl,hb3⟩)
    have hb03:Below W0.heap.size W0 w3:=HB1.out.trans (hb3.mono HB1.out.size)
    have HB3:=zh hb03
    have hs3:=hb03.size
    clear g0 g1 g2 g3 q0 q1 q2 qf0 qf1 qf2 d0 d1 d2 df0 df1 df2
    (have j0:=(hb03.block w.heap.size l0).trans K0.out);(obtain⟨g0,g1,g2,g3⟩:=cg4 j0);(have j1:=(hb03.block (w.heap.size+1) l1).trans K1.out);(obtain⟨q0,qf0,q1,qf1,q2,qf2⟩:=cv3 j1);(have j3:=(hb03.block (w.heap.size+1+1) l3).trans K3.out);(obtain⟨d0,df0,d1,df1,d2,df2⟩:=cv3 j3);(have J3:=zh j3);clear j0 j1 j3
    obtain⟨bm,om,eA,hbm,c0,c1,c2,c3,c4,c5⟩:=(HF.out.to hb03).rw_.get6 (k:=i) (by simpa using hx) (by rw[List.getElem_map];rfl)
    have y0:w.heap.size<w3.heap.size:=by omega
    have y1:w.heap.size+1<w3.heap.size:=by omega
    have y2:w.heap.size+1+1<w3.heap.size:=by omega
    clear hb3 hb03
    rw[eA]at q2
    have HEA:=zh eA
    clear eA
    go_cut [35] (fun s wx=>s=.bool false∧Below w3.heap.size w3 wx)
    case first=>
     go_region_held3 (SHd w3) ((refine Sh.goal ?_;exact zsh)) (first|(go_at_call 141;(with_reducible refine Calls.mono (HST.out _ (HG.out.to (HB3.out.trans (Below.mono (by exact zbl) HB3.out.size)))) ?_);rintro e w4 ⟨rfl,hb4⟩))
     all_goals
      go_wp2_with fail
      go_meet
      exact⟨rfl,by exact zbl⟩
    case rest=>
     obtain⟨rfl,hb4⟩:=hcut
     obtain⟨W4,rfl⟩:∃W,W=wc:=⟨wc,rfl⟩
     have hb04:Below W0.heap.size W0 W4:=HB3.out.trans (hb4.mono HB3.out.size)
     have HB4:=zh hb04
     have hs4:=hb04.size
     clear g0 g1 g2 g3 q0 q1 q2 qf0 qf1 qf2 d0 d1 d2 df0 df1 df2
     clear c0 c1 c2 c3 c4 c5 y0 y1 y2 hbm HEA
     (have j0:=(hb04.block w.heap.size l0).trans K0.out);(obtain⟨g0,g1,g2,g3⟩:=cg4 j0);(have j1:=(hb04.block (w.heap.size+1) l1).trans K1.out);(obtain⟨q0,qf0,q1,qf1,q2,qf2⟩:=cv3 j1);(have j3:=(hb04.block (w.heap.size+1+1) l3).trans K3.out);(obtain⟨d0,df0,d1,df1,d2,df2⟩:=cv3 j3);(have J4:=zh j3);clear j0 j1 j3
     clear hb4 hb04
     go_upto_region 8 with (go_at_call 116;(with_reducible refine Calls.mono (own_c tk ls A c xs _ hl HSF.out.way (HF.out.to (HB4.out.trans (Below.mono (by exact zbl) HB4.out.size)))) ?_);rintro e w5 ⟨A5,c5,ys,rfl,hys,hown,hsp,hb5⟩;(have HYS:=zh hys);(have HOW:=zh hown);(have HSP:=zh hsp);clear hys hown hsp)
     obtain⟨b9,hb9⟩:∃b,b=w5.heap.size:=⟨_,rfl⟩
     obtain⟨Wb,hWb⟩:∃W,W=w5.alloc (.cells #[.int .i64 tk,.int .i64 ls,.slice A5 ys.length c5] 72):=⟨_,rfl⟩
     rw[←hb9,←hWb]
     have hbb:Below W4.heap.size W4 Wb:=by rw[hWb];exact hb5.alloc hb5.size _
     have hb0b:Below W0.heap.size W0 Wb:=HB4.out.trans (hbb.mono HB4.out.size)
     have HBB:=zh hb0b
     have k9:Wb.heap[b9]? =some (.cells #[.int .i64 tk,.int .i64 ls,.slice A5 ys.length c5] 72 (0,0)):=by rw[hWb,hb9];exact heap_alloc_new w5 _
     have y9:=blk_lt k9
     have K9:=zh k9
     have HO:=zh (HOW.out.below (w':=Wb) (by rw[hWb];exact Below.alloc (Below.refl _ _) (Nat.le_refl _) _))
     have HA9:=zh (show ∀d,A5=some d→d.block<b9 from fun d hd=>by
      have h:=World.ownsRow.lt HOW.out.row d.block (by rw[hd];rfl)
      rw[hb9];exact h.2)
     have HW9:=zh (show ∀y∈ys,y.m.way≠ []→∀a,y.A=some a→a.block<b9 from fun y hy hne aa haa=>by
      obtain⟨b',off',e',hb',_⟩:=(HOW.out.each y hy).way.at hne
      rw[haa]at e'
      cases e'
      rw[hb9];exact hb')
     have HOWF:=zh (HOW.out.fresh HSP.out)
     have hw9:W0.heap.size≤b9:=by rw[hb9];exact Nat.le_trans HB4.out.size hb5.size
     have hyl:ys.length=xs.length:=by simpa using congrArg List.length HYS.out
     have hw4:W0.heap.size≤W4.heap.size:=HB4.out.size
     have hw4b:W4.heap.size≤Wb.heap.size:=hbb.size
     have hwb:W0.heap.size≤Wb.heap.size:=hb0b.size
     have hiy:i<ys.length:=by omega
     have hyn:ys.length≤1000:=by omega
     clear hWb hb9 hbb hb5 HOW g0 g1 g2 g3 q0 q1 q2 qf0 qf1 qf2 d0 d1 d2 df0 df1 df2
     (obtain⟨u0,uf0,u1,uf1,u2,uf2⟩:=cv3 k9)
     clear k9 hb0b hyl
     have hl1:ys.length-1=(ys.eraseIdx i).length:=by rw[List.length_eraseIdx,if_pos hiy]
     have HFRS:=zh ((HOWF.out).erase (i:=i))
     go_upto_region 9 with (go_at_call 142;(with_reducible refine Calls.mono (delete_c W4.heap.size c5 i A5 ys Wb HO.out hiy hyn) ?_);rintro e w6 ⟨rfl,hf6,hsz6,hot6,hb6⟩;(have k6:=(hot6 b9 (fun d hd e=>by have h:=HA9.out d hd;omega)).trans K9.out);clear u0 u1 u2 uf0 uf1 uf2;(obtain⟨u0,uf0,u1,uf1,u2,uf2⟩:=cv3 k6);(have K6:=zh k6);(have HF6:=zh hf6);(have HB6:=zh hb6);clear k6 hf6 hot6 hb6)
     (try rw[hl1])
     obtain⟨zs,hzs⟩:∃zs,zs=ys.eraseIdx i:=⟨_,rfl⟩
     rw[←hzs]at hl1 HF6 HFRS ⊢
     obtain⟨W7,hW7⟩:∃W,W=w6.setCell ⟨b9,2,none⟩ (.slice A5 zs.length c5):=⟨_,rfl⟩
     rw[←hW7]
     have hbl9:Blks (fun d=>d≠b9) A5 zs:=⟨fun _ d hd=>Nat.ne_of_lt (HA9.out d hd),fun z hz hne aa haa=>Nat.ne_of_lt (HW9.out z (by rw[hzs]at hz;exact List.mem_of_mem_eraseIdx hz) hne aa haa)⟩
     have hb7:Below W0.heap.size W0 W7:=by rw[hW7];exact Below.setCell (HBB.out.trans (HB6.out.mono hw4)) (p:=⟨b9,2,none⟩) hw9 _
     have k9:W7.heap[b9]? =some (.cells #[.int .i64 tk,.int .i64 ls,.slice A5 zs.length c5] 72 (0,0)):=by rw[hW7];exact heap_setCell_same w6 b9 2 _ _ _ K6.out
     have HF7:=zh (show FldR W7 W7.heap.size A5 c5 zs by rw[hW7];exact(HF6.out.setc (p:=⟨b9,2,none⟩) _ hbl9).more (by simp))
     have HB7:=zh hb7
     have hs7:=hb7.size
     clear hW7 u0 u1 u2 uf0 uf1 uf2
     (obtain⟨u0,uf0,u1,uf1,u2,uf2⟩:=cv3 k9)
     (have j0:=(hb7.block w.heap.size l0).trans K0.out);(obtain⟨g0,g1,g2,g3⟩:=cg4 j0);(have j1:=(hb7.block (w.heap.size+1) l1).trans K1.out);(obtain⟨q0,qf0,q1,qf1,q2,qf2⟩:=cv3 j1);(have j3:=(hb7.block (w.heap.size+1+1) l3).trans K3.out);(obtain⟨d0,df0,d1,df1,d2,df2⟩:=cv3 j3);(have J7:=zh j3);clear j0 j1 j3
     clear k9 hb7
     go_wp2_with fail
     refine bodyPost_ret (Tryz.res_fld2 rfl _ _ rfl (set3_block J7.out)) rfl ?_
     refine⟨tk,ls,A5,c5,zs,by subst hzs;rfl,by rw[hzs];exact del_of tk ls xs ys i HYS.out,(HF7.out.set3 _ _ _ (HFRS.out.imp fun d hd e=>by omega)).more (by simp),Below.set3 (HB0.out.trans (HB7.out.mono HB0.out.size)) (by omega) _ _ _,HFRS.out.imp fun d hd=>by omega⟩
 ·have he:=takE_bad hE
  have hF:takF g (fldOf tk ls xs) nm=fld0:=by unfold takF;rw[he,if_neg hE]
  rw[he,hF]
  clear he hF
  obtain⟨W0,hW0⟩:∃W0,W0=(((w.alloc (.cells #[.int .i64 g.blur,.slice a.pS g.sta.length a.cs,.slice a.pM g.mov.length a.cm,.slice a.pZ g.zon.length a.cz] 38)).alloc (.cells #[.int .i64 tk,.int .i64 ls,.slice A xs.length c] 72)).alloc (.cells #[.int .i64 0,.int .i64 0,.slice none 0 0] 72)):=⟨_,rfl⟩
  have hB0:Below w.heap.size w W0:=by rw[hW0];exact zbl
  have hsz:W0.heap.size=w.heap.size+3:=by rw[hW0];simp
  have k0:W0.heap[w.heap.size]? =some (.cells #[.int .i64 g.blur,.slice a.pS g.sta.length a.cs,.slice a.pM g.mov.length a.cm,.slice a.pZ g.zon.length a.cz] 38 (0,0)):=by rw[hW0];exact heap_fst _ _ _ _
  have k1:W0.heap[w.heap.size+1]? =some (.cells #[.int .i64 tk,.int .i64 ls,.slice A xs.length c] 72 (0,0)):=by rw[hW0];exact heap_mid _ _ _ _
  have k3:W0.heap[w.heap.size+1+1]? =some (.cells #[.int .i64 0,.int .i64 0,.slice none 0 0] 72 (0,0)):=by rw[hW0];exact heap_lst _ _ _ _
  have HG:=zh (hr.to hB0)
  have HK:=zh (hkd.to hB0)
  have HF:=zh (hf.to hB0)
  have hl:=hsf.n
  have HS:=zh hs
  have HSF:=zh hsf
  have K0:=zh k0
  have l0:w.heap.size<W0.heap.size:=by omega
  have K1:=zh k1
  have l1:w.heap.size+1<W0.heap.size:=by omega
  have K3:=zh k3
  have l3:w.heap.size+1+1<W0.heap.size:=by omega
  have HB0:=zh hB0
  clear hr hkd hf hs hsf hB0
  (obtain⟨g0,g1,g2,g3⟩:=cg4 k0)
  (obtain⟨q0,qf0,q1,qf1,q2,qf2⟩:=cv3 k1)
  (obtain⟨d0,df0,d1,df1,d2,df2⟩:=cv3 k3)
  clear k0 k1 k3
  have HCF:=zh (fun W (h1:GridR W W.heap.size a g) (h2:KindsAt W) (h3:FldR W W.heap.size A c xs)=>CheckField_c a g tk ls A c xs W HS.out HSF.out h1 h2 h3)
  have HFI:=zh (fun W (h3:FldR W W.heap.size A c xs)=>find_c tk ls A c xs nm W hl h3)
  obtain⟨E0,hE0⟩:∃E,E=takE0 g (fldOf tk ls xs) nm:=⟨_,rfl⟩
  rw[←hE0]at hE
  have HE0:=zh (show firstErr [fieldC g (fldOf tk ls xs),whn (decide (findG (fldOf tk ls xs) nm<0)) 10]=E0 by rw[hE0];rfl)
  rw[←hE0]
  have HN:=zh hE
  have hz:(E0 !=0)=true:=by rw[bne_iff_ne];exact hE
  clear hE0 hE
  go_enter Tryz.func75,Tryz.ntmps75
  go_upto_region 1 with fail
  rw[←hW0]
  clear hW0
  go_cut [8] (fun s wx=>s=.int .i64 E0∧Below W0.heap.size W0 wx)
  case first=>
   go_region_held3 (SHd W0) ((refine Sh.goal ?_;exact zsh)) (first|(go_at_call 44;(with_reducible refine Calls.mono (HCF.out _ (HG.out.to (by exact zbl)) (HK.out.to (by exact zbl)) (HF.out.to (by exact zbl))) ?_);rintro e w1 ⟨rfl,hb1⟩)|(go_at_call 140;(with_reducible refine Calls.mono (HFI.out _ (HF.out.to (by exact zbl))) ?_);rintro e w2 ⟨rfl,hb2⟩)|(go_at_call 104;(with_reducible refine Calls.mono (when_c _ _ _) ?_);rintro e w' ⟨rfl,rfl⟩)|(go_at_call 103;refine(first_c _ [fieldC g (fldOf tk ls xs),whn (decide (findG (fldOf tk ls xs) nm<0)) 10] _ ?_ ?_).mono ?_;(focus simp);(focus first|(simp[CellsAt];done)|(simp[CellsAt,cells_new];done)|(simp[CellsAt,cells_new,whn]));rintro e w' ⟨rfl,rfl⟩))
   all_goals
    go_wp2_with fail
    go_meet
    exact⟨by rw[←HE0.out],by exact zbl⟩
  case rest=>
   obtain⟨rfl,hb1⟩:=hcut
   obtain⟨W1,rfl⟩:∃W,W=wc:=⟨wc,rfl⟩
   have HB1:=zh hb1
   have hs1:=hb1.size
   clear g0 g1 g2 g3 q0 q1 q2 qf0 qf1 qf2 d0 d1 d2 df0 df1 df2
   (have j0:=(hb1.block w.heap.size l0).trans K0.out);(obtain⟨g0,g1,g2,g3⟩:=cg4 j0);(have j1:=(hb1.block (w.heap.size+1) l1).trans K1.out);(obtain⟨q0,qf0,q1,qf1,q2,qf2⟩:=cv3 j1);(have j3:=(hb1.block (w.heap.size+1+1) l3).trans K3.out);(obtain⟨d0,df0,d1,df1,d2,df2⟩:=cv3 j3);(have J1:=zh j3);clear j0 j1 j3
   clear hb1
   go_wp2_with fail
   refine bodyPost_ret (Tryz.res_fld2 rfl _ _ rfl (set3_block J1.out)) rfl ?_
   exact⟨0,0,none,0,[],rfl,rfl,FldR.nil_ _ _,Below.set3 (HB0.out.trans (HB1.out.mono HB0.out.size)) (by omega) _ _ _,blks_nil⟩
end Go.Proofs.YtehnikhicnnnhaaGreatDoor